/- Part of the proofs that the laws of this seat answer true whatever the input reads, and leave it as it was; no condition. -/
import Derived.Test.YtdhamoojccmbdaaGreatDoorKB
import Derived.Test.YtdhamoojccmbdaaGreatDoorPlI
import Derived.Test.YtdhamoojccmbdaaGreatDoorTabS
import Derived.Test.YtdhamoojccmbdaaGreatDoorPlA
import Derived.Test.YtdhamoojccmbdaaGreatDoorKA
import Derived.Test.YtdhamoojccmbdaaGreatDoorPlG
set_option linter.unusedVariables false
set_option maxHeartbeats 4000000
set_option linter.unusedSimpArgs false
open Go.Proofs.Tryz renaming prog -> xl
open List renaming all_append -> yD, all_cons -> vU, all_eq_false -> yh, all_eq_true -> qM, any_append -> yX, any_eq_false -> z6, any_eq_true -> wm, append_assoc -> qp, append_nil -> qQ, cons_append -> zx, drop -> vW, drop_drop -> zy, drop_eq_getElem_cons -> qW, drop_of_length_le -> zg, eq_nil_of_length_eq_zero -> qX, eq_replicate_iff -> vD, exists_mem_of_ne_nil -> vf, ext_getElem -> wk, filter_append -> zk, filter_cons -> zp, filter_eq_self -> wq, find?_eq_none -> z8, find?_some -> vK, findIdx_lt_length -> yo, flatMap_append -> zc, flatMap_cons -> zl, foldl_append -> wM, foldl_cons -> zD, foldl_nil -> wQ, getD_eq_getElem?_getD -> qe, getElem?_append_left -> qn, getElem?_append_right -> qj, getElem?_drop -> wB, getElem?_eq_getElem -> qd, getElem?_eq_none -> zf, getElem?_eq_some_iff -> qm, getElem?_map -> qP, getElem?_replicate -> zY, getElem?_set -> q8, getElem?_set_self -> zA, getElem?_zip_eq_some -> vg, getElem_append_left -> ya, getElem_append_right -> wI, getElem_drop -> zZ, getElem_map -> wo, getElem_mem -> qg, getElem_of_mem -> qG, getElem_set_self -> vC, getElem_take -> w5, getElem_zip -> yS, length_append -> qw, length_cons -> zb, length_drop -> q7, length_eq_zero_iff -> vu, length_filter_le -> qY, length_map -> qx, length_nil -> ym, length_range -> zw, length_replicate -> yz, length_take -> qZ, map_append -> qS, map_cons -> zT, map_map -> wS, map_nil -> vA, mem_append -> qB, mem_append_left -> yE, mem_append_right -> wN, mem_cons -> za, mem_cons_of_mem -> qO, mem_cons_self -> qU, mem_filter -> qI, mem_flatMap -> zo, mem_iff_getElem? -> yy, mem_map -> qu, mem_mergeSort -> yw, mem_of_find?_eq_some -> yB, mem_of_mem_take -> zM, mem_range -> qF, mem_replicate -> wT, mem_singleton -> qH, mem_take_iff_getElem -> w8, nil_append -> zW, nodup_cons -> wR, pairwise_cons -> zN, pairwise_iff_getElem -> zd, pairwise_lt_range -> vy, pairwise_map -> w4, pairwise_mergeSort -> yQ, range -> qC, range_succ -> zI, replicate -> qh, replicate_append_replicate -> yK, replicate_succ -> yL, set_append_right -> zh, set_cons_succ -> wD, set_cons_zero -> zB, set_set -> vd, take_append_drop -> qE, take_append_of_le_length -> yd, take_left -> vx, take_length -> qR, take_of_length_le -> qi, zipWith -> zm, zipWith_append -> yM
open Option renaming map_some -> qN, some -> zL
open Go.Value renaming agg -> xg, bool -> xf, int -> vX, pointer -> vZ, slice -> vY, string -> xd
open Go.IntKind renaming bits -> qk, i64 -> xh, u32 -> xj, u8 -> xi, wrap -> qc
open Nat renaming add_sub_cancel -> yV, add_sub_cancel_left -> zn, add_zero -> w9, le_of_ble_eq_true -> zE, le_refl -> ql, le_trans -> q9, lt_of_lt_of_le -> qV, lt_succ_iff_lt_or_eq -> zq, lt_trichotomy -> yg, mul_le_mul -> we, mul_le_mul_right -> zr, sub_self -> zj, succ_mul -> zJ, zero_le -> w7
open UInt8 renaming toNat_inj -> yl
open Bool renaming and_eq_false_iff -> yZ, and_eq_true -> qz, and_self -> vS, eq_iff_iff -> yC, false_eq_true -> ze, false_or -> vi, not_eq_true' -> wK, not_false -> wY, not_true -> wW, or_eq_false_iff -> yc, true_and -> zU
open Go.Instr renaming makeSlice -> qD, storeAt -> qf
open BitVec renaming ofInt -> qA
open Int renaming emod_lt_of_pos -> wC, le_refl -> vQ, natCast_mul -> wh, natCast_nonneg -> zO, ofNat_le -> yI, toNat_natCast -> qo, toNat_of_nonneg -> yN
open Prod renaming ext -> yT, fst -> qJ, snd -> zC
set_option maxRecDepth 100000
namespace Go.Proofs.YtdhamoojccmbdaaGreatDoor
open Go Go.Vc Go.Proofs Wl
theorem abW(a b c:Int):bJ (DE a b c)=true:=by
 rw[bK];unfold DE;dsimp only;omega
theorem Zt{m:aE}{ds:aW}{name:ByteArray}{n:Nat}(c:jG name=true)(b:∀e∈m.objs,e.name≠name)(h3:(n:Int)<=m.p.1*m.p.2.2*8)(j:m.objs.length<=11)(d:bg ds m.drives≠[])(i:m.next<=16777215)(g:m.seq<=2147483646):cB m false ds name n=0:=by
 have a:m.objs.any (bR name)=false:=z6.2 fun e f h=>b e f (ke (by unfold bR at h;simpa using h));unfold cB;rw[if_neg (by decide),if_neg (by simp[c]),if_neg (by simp[a]),if_neg (by omega),if_neg (by rintro(h|h|h);exact d h;omega;omega)]
theorem UP{m:aE}{offs:Int}{w:Pow}{ds:aW}{n:aE}(r:w.calm)(o:ds.length=64)(u:eF w offs=false)(s:bP n=true)(I:n.seq=m.seq+1):
  let live:=bg ds n.drives;let N:Int->Int:=fun _=>((be n).length:Int)
  (live=[]∨cY m ds live N=false->dU m offs w ds n=(7,m,w,ds))/\(live≠[]->cY m ds live N=true->∃c,dU m offs w ds n=(0,n,w,c)/\c.length=64/\
   ∀k,bG c k=(bG ds k).map fun d=>if k∈live then dG (be n) (dw m d (be n).length)else d):=by
 intro live N;have a:live.Nodup:=Ip (uG s);have e:dU m offs w ds n=(if live=[]∨cY m ds live N=false then(7,m,w,ds)else
   if(makes m N live w ds).1≠0 then((makes m N live w ds).1,m,(makes m N live w ds).2)else
   ((layAll (bx n live) (makes m N live w ds).2.1 (makes m N live w ds).2.2).1,if(layAll (bx n live) (makes m N live w ds).2.1 (makes m N live w ds).2.2).1=0 then n else m,(layAll (bx n live) (makes m N live w ds).2.1 (makes m N live w ds).2.2).2)):=by
  unfold dU;rw[if_neg (by rw[u];decide),if_neg (by rw[s,decide_eq_false (by simpa using I)];decide)]
 refine⟨fun h=>by rw[e,if_pos h],fun i j=>?_⟩;rw[e,if_neg (by rintro(h|h);exact i h;rw[j]at h;cases h)];obtain⟨G,v,A,q⟩:=EN r (N:=N) a o j;rw[v];dsimp only;rw[if_neg (by simp)];obtain⟨t,B,E,y⟩:=Ny r (ds:=G) (P:=bx n live) A fun x F=>by
  obtain⟨b,g⟩:=kv F;obtain⟨H,p,l⟩:=Cv (qM.1 j x.1 b);obtain⟨z,D,J⟩:=Nx l;refine⟨g,dw m H (N x.1),?_,z,?_⟩
  ·rw[q,p,qN,if_pos b]
  ·rw[pu a,if_pos b,D];have:N x.1=((be n).length:Int):=rfl;omega
 rw[B];refine⟨t,rfl,E,fun k=>?_⟩;rw[y,q,Option.map_map];congr 1;funext d;show dG (ky (bx n live) k) (if k∈live then dw m d (N k)else d)=_;rw[pu a];by_cases f:k∈live
 ·rw[if_pos f,if_pos f,if_pos f]
 ·rw[if_neg f,if_neg f,if_neg f];rfl
end Go.Proofs.YtdhamoojccmbdaaGreatDoor
namespace Wl
open Go
structure Pg where
 seq:Int
 num:Int
 many:Int
 bears:List UInt8
 cell:List UInt8
def ahq(x c:List UInt8):Pg:=⟨cW (x.take 4),((x.getD 4 0).toNat:Int),((x.getD 5 0).toNat:Int),(x.drop 7).take (x.getD 6 0).toNat,c⟩
def DF(c:List UInt8):Option Pg:=
 match jT c with
 |some (k,x)=>if k=2/\(x.getD 6 0).toNat<=48/\(x.drop (7+(x.getD 6 0).toNat)).all (fun b=>decide (b=0))=true then some (ahq x c)else none
 |none=>none
theorem Zu{seq c a:Int}{b:List UInt8}(g:0<=seq/\seq<4294967296)(q:0<=c/\c<256)(h3:0<=a/\a<256)(r:b.length<=48):DF (jQ seq c a b)=some ⟨seq,c,a,b,jQ seq c a b⟩:=by
 have p:(bL seq 4++([b8 c,b8 a,b8 b.length]++b)).length=7+b.length:=by simp[ck];omega
 obtain⟨x,e⟩:∃x,x=bL seq 4++([b8 c,b8 a,b8 b.length]++b)++qh (55-(bL seq 4++([b8 c,b8 a,b8 b.length]++b)).length) 0:=⟨_,rfl⟩
 have n:jT (jQ seq c a b)=some (2,x):=by
  unfold jQ;rw[AZ (by decide) (by decide) (by omega),e]
 have d:=LH seq;have f:x.getD 6 0=b8 b.length:=by rw[e,d];rfl
 have l:x.getD 5 0=b8 a:=by rw[e,d];rfl
 have k:x.getD 4 0=b8 c:=by rw[e,d];rfl
 have m:x.take 4=bL seq 4:=by rw[e,d];rfl
 have i:x.drop 7=b++qh (55-(7+b.length)) 0:=by rw[e,p,d];rfl
 have h:((b8 (b.length:Int)).toNat)=b.length:=by have:=sW (b.length:Int);omega
 unfold DF;rw[n];dsimp only;have j:(b8 (b.length:Int)).toNat<=48:=by omega
 rw[if_pos ⟨rfl,by rw[f];exact j,by
  rw[f,h,<-zy,i,List.drop_left];exact qM.2 fun y o=>decide_eq_true (List.eq_of_mem_replicate o)⟩]
 unfold ahq;rw[m,k,l,f,i,PL g.1 g.2,h,vx];have:=sW c;have:=sW a;congr 2<;>omega
def pgN(m:aE)(i:Nat):Pg:=⟨m.seq,i,gT (gj m),((gj m).drop (48*i)).take 48,jQ m.seq i (gT (gj m)) (((gj m).drop (48*i)).take 48)⟩
theorem QB(m:aE):be m=(qC (gT (gj m))).map fun i=>(pgN m i).cell:=rfl
theorem afY{m:aE}(a:bP m=true):gT (gj m)<=9:=by
 have:=Go.Proofs.YtdhamoojccmbdaaGreatDoor.NA a;unfold be at this
 rwa [qx,zw]at this
theorem Zv{m:aE}(a:bP m=true){i:Nat}(c:i<gT (gj m)):DF (pgN m i).cell=some (pgN m i):=by
 have d:=afY a;have b:=((dD m).1 ((bS m).1 a).1).1;exact Zu ⟨by omega,by omega⟩ ⟨by omega,by omega⟩ ⟨by omega,by omega⟩ (by simp;omega)
end Wl
namespace Go.Proofs.YtdhamoojccmbdaaGreatDoor
open Go Go.Vc Go.Proofs Wl
theorem Ps(s:Sl)(l:Row)(c:UInt8)(h:Heap)(p:Rd h s 1 aB l)(w:s.len<=s.cap)(y:l.length<=2^30):
  ae xl Cm #[vY s.ptr s.len s.cap,vX xi c.toNat] h fun v h'=>∃k:Nat,v=vY s.ptr k s.cap/\k<=l.length/\(∀j (f:j<l.length),k<=j->l[j]=c)/\(∀(d:k-1<l.length),0<k->l[k-1]≠c)/\h'=h:=by
 refine AO s _ ?_;unfold pe;have n:=p.len;refine aX ?_;refine aw (fun k:Nat=>(⟨s.ptr,k,s.cap⟩:Sl)) (fun k h'=>h'=h/\k<=l.length/\∀j (f:j<l.length),k<=j->l[j]=c) (fun k=>k) l.length (by rw[<-n]) ⟨rfl,ql _,fun j f d=>by omega⟩ ?_;rintro k u ⟨rfl,d,b⟩;dsimp only;refine aX (ak (fun e=>?_) (fun e=>?_))
 ·have r:0<k:=by omega
  rw[Go.Vc.wrap_small _ (by omega) (by omega)];refine(p.take k d).bz (g:=fun x:UInt8=>Value.int .u8 x.toNat) (k-1) (by omega) (by simp;omega) (l[k-1]'(by omega)) (by simp[aB]) ?_|>fun⟨a,ha,x,hx,hK⟩=>⟨a,ha,x.toNat,hx,hK⟩
  refine cw (fun m=>?_) (fun m=>?_)
  ·have i:l[k-1]'(by omega)=c:=by
    have:(l[k-1]'(by omega)).toNat=c.toNat:=by exact_mod_cast m
    exact yl.1 this
   refine⟨⟨by omega,by omega⟩,k-1,by congr 1;omega,⟨rfl,by omega,fun j f q=>?_⟩,by omega⟩;by_cases o:j=k-1
   ·subst o;exact i
   ·exact b j f (by omega)
  ·refine⟨k,rfl,d,b,fun _ _ t=>m (by rw[t]),rfl⟩
 ·exact⟨k,rfl,d,b,fun _ h0=>by omega,rfl⟩
theorem RM(s:Sl)(l:Row)(c:UInt8)(h:Heap)(p:Rd h s 1 aB l)(w:s.len<=s.cap)(E:l.length<=2^30):
  ae xl Dl #[vY s.ptr s.len s.cap,vX xi c.toNat] h fun v h'=>(∃r:Sl,v=vY r.ptr r.len r.cap/\(r.len=0↔∀x∈l,x=c))/\h'=h:=by
 refine Cl s _ ?_;unfold rf;have z:=p.len;refine co (fun r h'=>h'=h/\(r.len=0↔∀x∈l,x=c)) ?_ ?_
 ·refine aw (fun t:Sl×Nat=>t.1) (fun t h'=>h'=h/\t.2<=l.length/\(∀j (d:j<l.length),j<t.2->l[j]=c)/\Rd h t.1 1 aB (l.drop t.2)/\t.1.len<=t.1.cap) (fun t=>l.length-t.2) (s,0) rfl ⟨rfl,by simp,fun j _ d=>by omega,by simpa using p,w⟩ ?_;rintro⟨r,k⟩ u ⟨rfl,D,a,b,n⟩;dsimp only at*;have o:=b.len;rw[q7]at o;refine aX (ak (fun e=>?_) (fun e=>?_))
  ·have f:k<l.length:=by omega
   refine b.bz 0 rfl (by rw[q7];omega) _ rfl ?_;have q:(l.drop k)[0]'(by rw[q7];omega)=l[k]:=by simp
   rw[q];refine cw (fun m=>?_) (fun m=>?_)
   ·have i:l[k]=c:=by
     have:(l[k]).toNat=c.toNat:=by exact_mod_cast m
     exact yl.1 this
    refine⟨⟨by omega,by omega⟩,(⟨if r.cap=1 then r.ptr else r.ptr.map (·.add (1*1)),r.len-1,r.cap-1⟩,k+1),rfl,⟨rfl,by omega,fun j d g=>?_,?_,by dsimp only;omega⟩,by dsimp only;omega⟩
    ·rcases zq.1 g with h2|rfl
     ·exact a j d h2
     ·exact i
    ·have:=b.drop 1 n;rw[zy]at this;exact this
   ·refine⟨rfl,⟨fun h0=>by omega,fun A=>absurd ?_ m⟩⟩;rw[A _ (qg f)]
  ·have y:k=l.length:=by omega
   refine⟨rfl,⟨fun _ x B=>?_,fun _=>by show r.len=0;omega⟩⟩;obtain⟨j,d,rfl⟩:=qG B;exact a j d (by omega)
 ·rintro r u ⟨rfl,b⟩;refine cw (fun e=>?_) (fun e=>?_)
  ·exact⟨⟨⟨none,0,0⟩,rfl,by rw[<-b];exact⟨fun _=>by omega,fun _=>rfl⟩⟩,rfl⟩
  ·exact⟨⟨r,rfl,b⟩,rfl⟩
theorem QC(s:Sl)(l:Row)(cut:ByteArray)(a:cut=⟨#[0]⟩)(h:Heap)(d:Rd h s 1 aB l)(n:s.len<=s.cap)(q:l.length<=2^30):
  ae xl Rr #[vY s.ptr s.len s.cap,xd cut] h fun v h'=>(∃r:Sl,v=vY r.ptr r.len r.cap/\(r.len=0↔∀x∈l,x=0))/\h'=h:=by
 subst a;refine OT s _ ?_;unfold HC;have o:=d.len;refine cw (fun e=>?_) (fun e=>?_)
 ·refine⟨⟨⟨none,0,0⟩,rfl,⟨fun _ x b=>?_,fun _=>rfl⟩⟩,rfl⟩;have:l=[]:=qX (by omega);subst this;cases b
 ·refine DO (by decide+kernel) (aX (NV (by decide+kernel) ?_));refine⟨0,⟨by decide,rfl⟩,NV (by decide) ?_⟩;refine⟨0,⟨by decide,rfl⟩,0,⟨by decide,rfl⟩,?_⟩;refine(Ps s l 0 h d n q).mono ?_;rintro v m ⟨k,rfl,f,i,h3,rfl⟩;refine⟨⟨s.ptr,k,s.cap⟩,rfl,trivial,?_⟩;refine(RM ⟨s.ptr,k,s.cap⟩ (l.take k) 0 m (d.take k f) (by show k<=s.cap;omega) (by simp;omega)).mono ?_;rintro v u ⟨⟨r,rfl,p⟩,rfl⟩;refine⟨r,rfl,trivial,⟨r,rfl,p.trans ⟨fun c x b=>?_,fun c x b=>c x (zM b)⟩⟩,rfl⟩;obtain⟨j,t,rfl⟩:=qG b;by_cases g:j<k
  ·exact c _ (by rw[w8];exact⟨j,by omega,rfl⟩)
  ·exact i j t (by omega)
def qv(x:Sl×Sl):List Value:=[vY x.1.ptr x.1.len x.1.cap,vY x.2.ptr x.2.len x.2.cap]
theorem abX:∀x,∀c∈qv x,c.oneCell'=true:=fun x c a=>by
 simp only[qv,za,List.not_mem_nil,or_false]at a;rcases a with rfl|rfl<;>rfl
def jc:je (Sl×Sl) eK:=⟨fun h q a e=>Seq h q a.1 1 aD e.1/\Seq h q a.2 1 aB e.2,fun a c=>⟨a.1.ai c,a.2.ai c⟩,fun a b=>⟨a.1.mono b,a.2.mono b⟩⟩
abbrev ru:je Sl (List eK):=cO jc 2 qv
abbrev ahQ:je Sl aS:=cO (ua 1 aB) 1 bQ
abbrev eQ:bN C.toCB VC dL 2 [vY none 0 0,vY none 0 0] 48:=⟨_,_,rfl,rfl,rfl,rfl,rfl,rfl⟩
abbrev abY:bN C.toCB dz aH 1 [vY none 0 0] 24:=⟨_,_,rfl,rfl,rfl,rfl,rfl,rfl⟩
abbrev afc:bN C.toCB aba gA 1 [xf false] 1:=⟨_,_,rfl,rfl,rfl,rfl,rfl,rfl⟩
theorem ru.get{h:Heap}{q:aA}{s:Sl}{L:List eK}(x:ru.p h q s L){i:Int}(n:Nat)(b:i=n)(e:n<L.length){K:Sl×Sl->Prop}(c:∀r,jc.p h q r L[n]->K r):
  ∃a:Addr,(s.ptr=some a/\0<=i/\i<((s.len:Nat):Int))/\∃x:Sl×Sl,aj h (a.add (i.toNat*2)) 0 [vY x.1.ptr x.1.len x.1.cap,vY x.2.ptr x.2.len x.2.cap]/\K x:=by
 obtain⟨rs,d,f,h3⟩:=cO.sH x;exact d.dI (g:=qv) n b (by omega) (rs[n]'(by omega)) rfl (c _ (h3 n (by omega) e))
structure Au (h:Heap) (p:Addr) (l k v:Sl) (L:List eK) (kn:List Bool) (vs:aS):Prop where
 box:cy h p iJ [vY l.ptr l.len l.cap,vY k.ptr k.len k.cap,vY v.ptr v.len v.cap]
 eqs:fG ru h l L
 known:Rd h k 1 ey kn
 vals:fG ahQ h v vs
theorem Au.up{h h':Heap}{p:Addr}{l k v:Sl}{L:List eK}{kn:List Bool}{vs:aS}(x:Au h p l k v L kn vs)(a:aU (fun b=>b<h.size) h h'):Au h' p l k v L kn vs:=
 ⟨x.box.ai a x.box.lt,fG.up x.eqs a,Seq.up x.known a,fG.up x.vals a⟩
theorem UQ{kn:List Bool}{c:Int}(b:0<=c)(a:c.toNat<kn.length):Wl.kn kn c=kn[c.toNat]:=by
 unfold Wl.kn;rw[qe,qd a];rfl
theorem lV{m:aS}{i:Nat}(h:i<m.length):az m i=m[i]:=bu h
theorem jo{α:Type}(f:α->Bool)(l:List α){k:Nat}(a:k<l.length):(l.take (k+1)).filter f=(l.take k).filter f++if f l[k]then[l[k]]else[]:=by
 rw[aJ _ _ a,zk,zp];cases f l[k]<;>rfl
theorem tQ(V:aS)(a:Row)(l:List Int)(c:Int):cD V a (l++[c])=df 1 (az V c.toNat) (cD V a l):=by
 unfold cD;rw[wM];rfl
theorem XC(a t:Row):df 1 a t=zm (fun x y=>y^^^x) a t:=by
 unfold df;congr 1;funext x y;rw[Gf.one_mul]
theorem Ir{a t:Row}(c:a.length=t.length){k:Nat}(b:k<t.length):(zm (fun x y=>y^^^x) (a.take k) (t.take k)++t.drop k).set k (t[k]^^^(a[k]'(by omega)))=zm (fun x y=>y^^^x) (a.take (k+1)) (t.take (k+1))++t.drop (k+1):=by
 have d:(zm (fun x y=>y^^^x) (a.take k) (t.take k)).length=k:=by simp;omega
 rw[zh _ _ (by omega),d,zj,qW b,zB,aJ _ _ b,aJ _ _ (show k<a.length by omega),yM (by simp;omega)];simp
theorem UR(p:Addr)(l k v:Sl)(L:List eK)(kn:List Bool)(vs:aS)(n:Nat)(h:Heap)(u:Au h p l k v L kn vs)(K:kn.length=n)(I:∀e∈L,∀c∈e.1,0<=c/\c<(n:Int))(V:L.length<=2^30)(y:∀e∈L,e.1.length<=2^30):
  ae xl Gh #[vZ (some p)] h fun v h'=>(∃i:Int,v=vX xh i/\(0<=i->∃(G:i.toNat<L.length),((L[i.toNat]).1.filter fun c=>!Wl.kn kn c).length=1))/\Sp h h' []:=by
 refine EE (some p) ?_;unfold tH;have F:=cO.len u.eqs;refine⟨p,rfl,l,u.box.cell0 rfl,?_⟩;refine aw (fun i:Nat=>(i:Int)) (fun i h'=>i<=L.length/\Sp h h' []) (fun i=>L.length-i) 0 rfl ⟨by omega,Sp.refl h⟩ ?_;rintro i H ⟨G,A⟩;refine ak (fun e=>?_) (fun e=>⟨⟨-1,rfl,fun U=>by omega⟩,A⟩);have g:i<L.length:=by omega
 refine ru.get (fG.up u.eqs A.ai) i rfl g fun x P=>?_;refine(Sp.refl H).alloc af rfl fun a R M=>?_;refine M.storeAll af 0 rfl rfl (qv x) rfl rfl rfl rfl fun h3 t=>?_;have z:=up A.ai t.ai;have r:=u.up z;have q:=jc.mono (jc.loc P t.ai) fun b O=>qV O t.ai.1;have B:=t.box 0 rfl;refine⟨x.1,B.cell0 rfl,?_⟩;have N:=q.1.len;have E:=y _ (qg g);let d:Nat->Nat:=fun j=>(((L[i]).1.take j).filter fun c=>!Wl.kn kn c).length;refine aw (fun j:Nat=>(((d j:Nat):Int),(j:Int))) (fun j h'=>h'=h3/\j<=(L[i]).1.length) (fun j=>(L[i]).1.length-j) 0 (by simp[d]) ⟨rfl,by omega⟩ ?_;rintro j S ⟨rfl,T⟩;dsimp only;have Q:d j<=j:=q9 (qY _ _) (by simp;omega);refine ak (fun J=>?_) (fun J=>?_)
 ·have f:j<(L[i]).1.length:=by omega
  have D:=I _ (qg g) _ (qg f);refine q.1.bz j rfl f _ rfl ?_;refine⟨p,rfl,k,r.box.cell rfl,?_⟩;refine r.known.bz (L[i]).1[j].toNat (by omega) (by omega) _ rfl ?_;rw[Go.Vc.wrap_small ((j:Int)+1) (by omega) (by omega),Go.Vc.wrap_small _ (by omega) (by omega)];have o:=UQ (kn:=kn) D.1 (by omega);refine bi (fun m=>?_) (fun m=>?_)
  ·refine⟨j+1,?_,⟨rfl,by omega⟩,by omega⟩;have:d (j+1)=d j+1:=by simp only[d];rw[jo _ _ f,o,m];simp
   rw[this];rfl
  ·refine⟨j+1,?_,⟨rfl,by omega⟩,by omega⟩;have:d (j+1)=d j:=by simp only[d];rw[jo _ _ f,o,m];simp
   rw[this];rfl
 ·have w:j=(L[i]).1.length:=by omega
  subst w;have s:d (L[i]).1.length=((L[i]).1.filter fun c=>!Wl.kn kn c).length:=by simp only[d];rw[qR]
  rw[s];refine cw (fun m=>⟨⟨i,rfl,fun _=>⟨by omega,by exact_mod_cast m⟩⟩,.zip z⟩) (fun m=>?_);exact⟨i+1,by rw[Go.Vc.wrap_small _ (by omega) (by omega)];rfl,⟨by omega,.zip z⟩,by omega⟩
theorem QD(p:Addr)(l k v:Sl)(L:List eK)(kn:List Bool)(vs:aS)(n w:Nat)(x:Sl×Sl)(e:eK)(h:Heap)(Z:Au h p l k v L kn vs)(K:jA n w L kn vs)(T:fG jc h x e)(H:iu n w e)(hw:w<=2^20)(ad:e.1.length<=2^20):
  ae xl Ge #[vZ (some p),xg #[vY x.1.ptr x.1.len x.1.cap,vY x.2.ptr x.2.len x.2.cap]] h fun r h'=>∃a b:Sl,r=xg #[vY a.ptr a.len a.cap,vY b.ptr b.len b.cap]/\Sp h h' [an aT a 1 aD (eN kn vs e).1,an aC b 1 aB (eN kn vs e).2]:=by
 refine EC (some p) x ?_;unfold tG;refine(Sp.refl h).boxed fun Q h1 H1=>?_;refine H1.alloc af rfl fun R h2 V=>?_;have P2:=V.ai;refine⟨x.2,(V.box 0 rfl).cell rfl,(fO x.2 e.2 h2 (Seq.up T.2 P2) (by have:=H.len;omega)).mono ?_⟩;rintro vv h3 ⟨d,rfl,R3⟩;have H3:=V.comp R3;refine⟨d,rfl,H3.alloc af rfl fun a5 h4 H4=>?_⟩;refine H4.storeAll af 3 rfl rfl (qv (⟨none,0,0⟩,d)) rfl rfl rfl rfl fun h5 H5=>?_;have H6:Sp h h5 [aq Q dL (qv x),aq R dL [vY none 0 0,vY none 0 0],an aC d 1 aB e.2,aq a5 dL (qv (⟨none,0,0⟩,d)),an aT ⟨none,0,0⟩ 1 aD []]:=H5.nil aT 1 aD;refine⟨x.1,(H6.box 0 rfl).cell0 rfl,?_⟩;have ap:=T.1.len;have ab:=K.klen;have am:=K.vlen;refine aw (fun t:Nat×Sl=>(t.1:Int)) (fun t h'=>t.1<=e.1.length/\Sp h h' [aq Q dL (qv x),aq R dL [vY none 0 0,vY none 0 0],an aC d 1 aB (cD vs e.2 ((e.1.take t.1).filter fun c=>Wl.kn kn c)),aq a5 dL (qv (t.2,d)),an aT t.2 1 aD ((e.1.take t.1).filter fun c=>!Wl.kn kn c)]) (fun t=>e.1.length-t.1) (0,⟨none,0,0⟩) rfl ⟨by simp,by simpa[cD]using H6⟩ ?_;rintro⟨j,o⟩ h7 ⟨hj,q⟩;dsimp only at*;have s:(cD vs e.2 ((e.1.take j).filter fun c=>Wl.kn kn c)).length=w:=jz H.len fun c hc=>by
  have E:=qI.1 hc;have J:=zM E.1;exact K.GP (H.cF c J).1 (H.cF c J).2 E.2
 have ax:((e.1.take j).filter fun c=>!Wl.kn kn c).length<=j:=q9 (qY _ _) (by simp;omega);refine ak (fun e2=>?_) (fun e2=>?_)
 ·have f:j<e.1.length:=by omega
  have u:=H.cF _ (qg f);have z:=Z.up q.ai;refine(Seq.up T.1 q.ai).bz j rfl f _ rfl ?_;refine⟨p,rfl,k,z.box.cell rfl,?_⟩;refine z.known.bz (e.1[j]).toNat (by omega) (by omega) _ rfl ?_;have F:=UQ (kn:=kn) u.1 (by omega);refine bi (fun B=>?_) (fun B=>?_)
  ·rw[<-F]at B;refine⟨o,(q.box 3 rfl).cell0 rfl,?_⟩;refine q.push af 4 rfl me rfl (by decide) (fun _=>rfl) jp e.1[j] rfl (by decide) (by omega) fun O h8 g=>?_;refine g.jS af 3 rfl rfl [vY O.ptr O.len O.cap] rfl rfl rfl (by simp[qv]) fun h9 N=>?_;refine⟨(j+1,O),by dsimp only;rw[Go.Vc.wrap_small _ (by omega) (by omega)];rfl,⟨by dsimp only;omega,?_⟩,by dsimp only;omega⟩;dsimp only;rw[jo _ _ f,jo _ _ f,B];simp only[wY,if_true,ze,if_false,qQ];exact N
  ·rw[<-F]at B;have I:=K.GP u.1 u.2 B;rw[lV (by omega)]at I;refine⟨p,rfl,v,z.box.cell rfl,?_⟩;obtain⟨vr,X,ao,Y⟩:=cO.sH Z.vals;have i:(e.1[j]).toNat<vs.length:=by omega
   refine(Seq.up X q.ai).ox (e.1[j]).toNat (by omega) (by omega) ?_;have M:=(Y (e.1[j]).toNat (by omega) i).1;have G:=M.len;generalize vr[(e.1[j]).toNat]'(by omega)=y at M G⊢;obtain⟨A,hA⟩:∃A,A=vs[(e.1[j]).toNat]'i:=⟨_,rfl⟩
   obtain⟨D,hD⟩:∃D,D=cD vs e.2 ((e.1.take j).filter fun c=>Wl.kn kn c):=⟨_,rfl⟩
   rw[<-hA]at I M G;rw[<-hD]at q s;refine aw (fun m:Nat=>(m:Int)) (fun m h'=>m<=w/\Sp h h' [aq Q dL (qv x),aq R dL [vY none 0 0,vY none 0 0],an aC d 1 aB (zm (fun x y=>y^^^x) (A.take m) (D.take m)++D.drop m),aq a5 dL (qv (o,d)),an aT o 1 aD ((e.1.take j).filter fun c=>!Wl.kn kn c)]) (fun m=>w-m) 0 rfl ⟨by omega,by simpa using q⟩ ?_;rintro m h8 ⟨hm,g⟩;have W:(zm (fun x y=>y^^^x) (A.take m) (D.take m)).length=m:=by simp;omega
   refine ak (fun e4=>?_) (fun e4=>?_)
   ·have ah:m<w:=by omega
    refine(Seq.up M g.ai).bz m rfl (by omega) _ rfl ?_;refine⟨d,(g.box 3 rfl).cell rfl,?_⟩;refine(g.seq 2 rfl (fun _=>rfl)).bz m rfl (by simp;omega) _ rfl ?_;have U:((zm (fun x y=>y^^^x) (A.take m) (D.take m)++D.drop m)[m]'(by simp;omega))=D[m]'(by omega):=by
     rw[wI (by omega)];simp[W]
    rw[U,rn];refine g.set af 2 rfl (fun _=>rfl) rfl m rfl (by simp;omega) (D[m]'(by omega)^^^A[m]'(by omega)) rfl rfl rfl fun h9 N=>?_;rw[Ir (by omega) (by omega)]at N;exact⟨m+1,by rw[Go.Vc.wrap_small _ (by omega) (by omega)];rfl,⟨by omega,N⟩,by omega⟩
   ·have P:m=w:=by omega
    subst P;refine⟨(j+1,o),by dsimp only;rw[Go.Vc.wrap_small _ (by omega) (by omega)];rfl,⟨by dsimp only;omega,?_⟩,by dsimp only;omega⟩;dsimp only;rw[jo _ _ f,jo _ _ f,B];simp only[wW,if_true,ze,if_false,qQ];rw[tQ,lV i,<-hA,<-hD,XC];rw[qi (by omega),qi (by omega),zg (by omega),qQ]at g;exact g
 ·have S:j=e.1.length:=by omega
  subst S;rw[qR]at q;refine⟨(o,d),(q.box 3 rfl).aO _ rfl,?_⟩;refine q.storeAll af 1 rfl rfl (qv (o,d)) rfl rfl rfl rfl fun h8 g=>?_;refine⟨(o,d),(g.box 1 rfl).aO _ rfl,o,d,rfl,?_⟩;exact g.bO [4,2]
theorem aa.aif{B:aA}{c h:Heap}{As:List HP}{e k:Nat}{α:Type}{f:α->List Value}{s:Sl}{l:List α}(H:aa B c h As)(i:Nat)(d:As[i]?=some (an e s k f l))(g:∀x,(f x).length=k)(m:l≠[]):aa B c h (As.set i (EA (ua k f) s l)):=
 H.gq i d fun q ⟨a,b⟩=>⟨a.seq g b,fun j=>absurd j m⟩
theorem count_set{l:List Bool}:∀{i:Nat} (h:i<l.length),l[i]=false->((l.set i true).count false)+1=l.count false:=by
 induction l with
 |nil=>intro i h;simp at h
 |cons a l ih=>
  intro i h b;cases i with
  |zero=>simp at b;subst b;simp
  |succ i=>
   have:=ih (i:=i) (by simpa using h) (by simpa using b);rw[wD,List.count_cons,List.count_cons];omega
theorem abZ(p:Addr)(l k v:Sl)(L:List eK)(n w:Nat)(A h:Heap)(X:fG ru A l L)(E:∀e∈L,iu n w e)(hn:n<=64)(U:L.length<=2^20)(Y:1<=w/\w<=2^20)(s:∀e∈L,e.1.length<=2^20)
  (H:Sp A h [aq p iJ [vY l.ptr l.len l.cap,vY k.ptr k.len k.cap,vY v.ptr v.len v.cap],an gA k 1 ey (qh n false),eM aH v 1 bQ (ua 1 aB) (qh n [])]):
  ae xl HJ #[vZ (some p)] h fun r h'=>r=.tuple #[]/\∃kn vs,jA n w L kn vs/\Sp A h' [aq p iJ [vY l.ptr l.len l.cap,vY k.ptr k.len k.cap,vY v.ptr v.len v.cap],an gA k 1 ey kn,eM aH v 1 bQ (ua 1 aB) vs]:=by
 refine Gd (some p) ?_;unfold uw;refine aw (fun _:List Bool×aS=>()) (fun t h'=>jA n w L t.1 t.2/\Sp A h' [aq p iJ [vY l.ptr l.len l.cap,vY k.ptr k.len k.cap,vY v.ptr v.len v.cap],an gA k 1 ey t.1,eM aH v 1 bQ (ua 1 aB) t.2]) (fun t=>t.1.count false) (qh n false,qh n []) rfl ⟨Yt n w L,H⟩ ?_;rintro⟨kn,vs⟩ G ⟨j,P⟩;dsimp only at*;have I:=j.klen;have S:=j.vlen;have mk:∀{o},Sp A o [aq p iJ [vY l.ptr l.len l.cap,vY k.ptr k.len k.cap,vY v.ptr v.len v.cap],an gA k 1 ey kn,eM aH v 1 bQ (ua 1 aB) vs]->Au o p l k v L kn vs:=fun f=>
  ⟨f.box 0 rfl,fG.up X f.ai,f.seq 1 rfl fun _=>rfl,f.eRd 2 rfl fun _=>rfl⟩
 refine(UR p l k v L kn vs n G (mk P) I (fun e M=>(E e M).cF) (by omega) (fun e M=>by have:=s e M;omega)).mono ?_;rintro _ o ⟨⟨i,rfl,Q⟩,Z⟩;refine⟨i,rfl,?_⟩;have f:=P.up Z.ai;refine ak (fun e=>⟨rfl,kn,vs,j,f⟩) (fun e=>?_);have K:0<=i:=Int.not_lt.1 e;obtain⟨u,q⟩:=Q K;have g:=mk f;refine⟨p,rfl,l,g.box.cell0 rfl,?_⟩;refine ru.get g.eqs i.toNat (by omega) u fun x hx=>?_;have d:=qg u;refine(QD p l k v L kn vs n w x L[i.toNat] o g j hx (E _ d) Y.2 (s _ d)).mono ?_;rintro _ h3 ⟨a,b,rfl,W⟩;refine⟨(a,b),rfl,?_⟩;obtain⟨c,D⟩:∃c,(eN kn vs L[i.toNat]).1=[c]:=by
  have G:(eN kn vs L[i.toNat]).1.length=1:=q
  match o:(eN kn vs L[i.toNat]).1,G with
  |[c],_=>exact⟨c,rfl⟩
 have y:=j.CI (E _ d);have N:=y.cF c (by rw[D];simp);have z:Wl.kn kn c=false:=GQ j L[i.toNat] c (by rw[D];simp);rw[UQ N.1 (by omega)]at z;have O:=f.comp W;rw[D]at O;refine O.alloc af rfl fun a8 h4 T=>?_;refine T.storeAll af 5 rfl rfl (qv (a,b)) rfl rfl rfl rfl fun h5 m=>?_;refine⟨p,rfl,k,(m.box 0 rfl).cell rfl,a,(m.box 5 rfl).cell0 rfl,?_⟩;have B:=m.seq 3 rfl fun _=>rfl;refine B.bz 0 rfl (by simp) c rfl ?_;refine⟨p,rfl,v,(m.box 0 rfl).cell rfl,a,(m.box 5 rfl).cell0 rfl,?_⟩;refine B.bz 0 rfl (by simp) c rfl ?_;refine⟨b,(m.box 5 rfl).cell rfl,?_⟩;refine m.set af 1 rfl (fun _=>rfl) rfl c.toNat (by omega) (by omega) true rfl rfl rfl fun h6 F=>?_;refine⟨⟨(F.box 5 rfl).cell rfl,(F.box 5 rfl).cell0 rfl,trivial⟩,?_⟩;have J:(eN kn vs L[i.toNat]).2≠[]:=fun hh=>by have:=y.len;rw[hh]at this;simp at this;omega
 have V:=aa.aif F 4 rfl (fun _=>rfl) J;refine V.ahY af 2 4 (by decide) rfl rfl (fun _=>rfl) rfl c.toNat (by omega) (by omega) rfl rfl rfl fun h8 R=>⟨trivial,?_⟩
 refine⟨(kn.set c.toNat true,vs.set c.toNat (eN kn vs L[i.toNat]).2),rfl,⟨aaO j E d D,R.bO [0,1,2]⟩,?_⟩;have:=count_set (l:=kn) (i:=c.toNat) (by omega) z;dsimp only;omega
theorem WI(s:Sl)(l:Row)(h:Heap)(c:Rd h s 1 aB l)(b:s.len<=s.cap)(a:l.length<=2^30):
  ae xl OY #[vY s.ptr s.len s.cap] h fun v h'=>v=xf (!(l.any (· !=0)))/\h'=h:=by
 refine MO s ?_;unfold FE;refine(QC s l _ rfl h c b a).mono ?_;rintro _ e ⟨⟨r,rfl,d⟩,rfl⟩;refine⟨r,rfl,?_,rfl⟩;congr 1;rw[yC];simp only[beq_iff_eq,wK,z6,bne_iff_ne,ne_eq,Decidable.not_not];rw[<-d];omega
def Pt(l:List Int):Prop:=∀i (h:i+1<l.length),l[i]<l[i+1]
theorem RN(n:Nat)(l:Sl)(L:List eK)(w:Nat)(h:Heap)(t:fG ru h l L)(H:∀e∈L,iu n w e/\Pt e.1)(hn:n<=64)(R:L.length<=2^20)(q:∀e∈L,e.1.length<=2^20):
  ae xl Rx #[vX xh n,vY l.ptr l.len l.cap] h fun v h'=>v=xf true/\Sp h h' []:=by
 refine OX _ l ?_;unfold HI;have I:=cO.len t;refine aX (ak (fun e=>by omega) fun _=>ak (fun e=>by omega) fun _=>?_);refine aw (fun i:Nat=>(i:Int)) (fun i h'=>i<=L.length/\Sp h h' []) (fun i=>L.length-i) 0 rfl ⟨by omega,Sp.refl h⟩ ?_;rintro i O ⟨hi,z⟩;refine ak (fun e=>?_) (fun e=>⟨rfl,z⟩);have d:i<L.length:=by omega
 refine ru.get (fG.up t z.ai) i rfl d fun x Y=>?_;refine(Sp.refl O).alloc af rfl fun a h2 T=>?_;refine T.storeAll af 0 rfl rfl (qv x) rfl rfl rfl rfl fun h3 p=>?_;have F:=up z.ai p.ai;have c:=jc.mono (jc.loc Y p.ai) fun b X=>qV X p.ai.1;have f:=p.box 0 rfl;refine⟨x.1,f.cell0 rfl,?_⟩;have W:=c.1.len;have B:=q _ (qg d);obtain⟨m,u⟩:=H _ (qg d);refine aw (fun j:Nat=>(j:Int)) (fun j h'=>h'=h3/\j<=(L[i]).1.length) (fun j=>(L[i]).1.length-j) 0 rfl ⟨rfl,by omega⟩ ?_;rintro j G ⟨rfl,hj⟩;refine ak (fun S=>?_) (fun S=>?_)
 ·have o:j<(L[i]).1.length:=by omega
  have Z:=m.cF _ (qg o);refine c.1.bz j rfl o _ rfl ?_;refine ak (fun e=>by omega) fun _=>ak (fun e=>by omega) fun _=>?_;have D:∃r:Nat,qc xh ((j:Int)+1)=(r:Int)/\(G=G/\r<=(L[i]).1.length)/\(L[i]).1.length-r<(L[i]).1.length-j:=⟨j+1,by rw[Go.Vc.wrap_small _ (by omega) (by omega)];rfl,⟨rfl,by omega⟩,by omega⟩
  refine ak (fun V=>?_) (fun V=>D);refine⟨x.1,f.cell0 rfl,?_⟩;rw[Go.Vc.wrap_small ((j:Int)-1) (by omega) (by omega)];refine c.1.bz (j-1) (by omega) (by omega) _ rfl ?_;have E:=u (j-1) (by omega);have Q:(L[i]).1[j-1+1]'(by omega)=(L[i]).1[j]:=by congr 1;omega
  rw[Q]at E;exact ak (fun e=>absurd E (by omega)) fun _=>D
 ·refine⟨x.2,f.cell rfl,?_⟩;obtain⟨rs,J,h8,N⟩:=cO.sH (fG.up t F);have s:=(N 0 (by omega) (by omega)).2.len;obtain⟨A,P,y,U,M⟩:=J.dI (g:=qv) (i:=(0:Int)) 0 rfl (by omega) (rs[0]'(by omega)) rfl (K:=fun y=>y.2.len=w) (by rw[s];exact(H _ (qg (show 0<L.length by omega))).1.len);refine⟨A,P,y.2,?_,?_⟩
  ·exact U.2.1
  have k:=c.2.len;rw[m.len]at k;refine ci (fun e=>absurd (by rw[k,M]) e) fun _=>?_;exact⟨i+1,by rw[Go.Vc.wrap_small _ (by omega) (by omega)];rfl,⟨by omega,.zip F⟩,by omega⟩
theorem aa.aca{B:aA}{m h:Heap}{As:List HP}{e k:Nat}{α β:Type}{E:je α β}{f:α->List Value}{s:Sl}{n:Nat}{a:α}{b:β}(H:aa B m h As)(i:Nat)(o:As[i]?=some (an e s k f (qh n a)))(u:∀h,E.p h (fun _=>False) a b):aa B m h (As.set i (eM e s k f E (qh n b))):=
 H.gq i o fun q ⟨x,y⟩=>⟨_,fun _=>False,x,fun c t=>⟨y c t,fun h=>h⟩,fun _ h=>h.elim,by simp,fun j r l d g=>by
  rw[zY]at d g;split at d
  ·rename_i v;rw[if_pos v]at g;cases d;cases g;exact u h
  ·cases d⟩
theorem aa.aig{B:aA}{f h:Heap}{As:List HP}{e n:Nat}{a b:Sl}{l:List Int}{r:Row}(H:aa B f h As)(i j:Nat)(c:i≠j)(m:As[i]?=some (an e a 1 aD l))(o:As[j]?=some (an n b 1 aB r)):aa B f h ((As.set i (EA jc (a,b) (l,r))).set j emp):=
 H.merge i j c m o fun q p _ g k=>⟨g.1.seq (fun _=>rfl) fun x d=>.inl (g.2 x d),k.1.seq (fun _=>rfl) fun x d=>.inr (k.2 x d)⟩
theorem acb(kn:List Bool)(vs:aS)(L:List eK){i:Nat}(a:i<L.length):aY kn vs (L.take (i+1))=if(eN kn vs L[i]).1.isEmpty then aY kn vs (L.take i)else aY kn vs (L.take i)++[eN kn vs L[i]]:=by
 unfold aY;rw[aJ _ _ a,qS,zk];cases h:(eN kn vs L[i]).1.isEmpty<;>simp[h]
theorem Zw(kn:List Bool)(vs:aS)(L:List eK){i:Nat}(a:i<L.length):jV kn vs (L.take (i+1))=(jV kn vs (L.take i)||((eN kn vs L[i]).1.isEmpty&&(eN kn vs L[i]).2.any (· !=0))):=by
 unfold jV;rw[aJ _ _ a,qS,yX];simp
theorem Zx{kn:List Bool}{vs:aS}{L:List eK}{i:Nat}(h:jV kn vs (L.take i)=true):jV kn vs L=true:=by
 rw[<-qE i L];unfold jV at*;rw[qS,yX,h];rfl
theorem acd(l:Sl)(L:List eK)(n w:Nat)(h:Heap)(I:fG ru h l L)(hL:∀e∈L,iu n w e/\Pt e.1)(hn:n<=64)(F:L.length<=2^20)(hw:1<=w/\w<=2^20)(A:∀e∈L,e.1.length<=2^20):
  ae xl TO #[vX xh n,vY l.ptr l.len l.cap] h fun r h'=>∃kn vs,jA n w L kn vs/\((jV kn vs L=true/\r=.tuple #[vY none 0 0,vY none 0 0,vY none 0 0,vX xh 10]/\Sp h h' [])∨
   (jV kn vs L=false/\∃k v s:Sl,r=.tuple #[vY k.ptr k.len k.cap,vY v.ptr v.len v.cap,vY s.ptr s.len s.cap,vX xh 0]/\Sp h h' [an gA k 1 ey kn,eM aH v 1 bQ (ua 1 aB) vs,eM dL s 2 qv jc (aY kn vs L)])):=by
 refine Rq _ l ?_;unfold JO;have am:=cO.len I;refine(RN n l L w h I hL hn F A).mono ?_;rintro _ h1 ⟨rfl,R1⟩;refine⟨true,rfl,bi (fun e=>by cases e) fun _=>?_⟩;refine co (fun s h'=>∃(p:Addr) (k v:Sl),s=some p/\Sp h h' [aq p iJ [vY l.ptr l.len l.cap,vY k.ptr k.len k.cap,vY v.ptr v.len v.cap],an gA k 1 ey (qh n false),eM aH v 1 bQ (ua 1 aB) (qh n [])]) ⟨?_,?_⟩ ?_
 ·refine R1.make af ey afc (by decide) false rfl rfl n n rfl rfl (ql _) (by omega) fun k h2 O S V=>⟨trivial,?_⟩
  refine V.make af bQ abY (by decide) ⟨none,0,0⟩ rfl rfl n n rfl rfl (ql _) (by omega) fun v h3 Y N X=>⟨trivial,?_⟩
  refine X.boxed fun p R D=>⟨trivial,p,k,v,rfl,?_⟩
  exact(aa.aca (E:=ua 1 aB) (b:=[]) D 1 rfl fun h=>⟨Seq.nil _ _ _ _ _ _,fun _=>rfl⟩).bO [2,0,1]
 ·refine R1.make af bQ abY (by decide) ⟨none,0,0⟩ rfl rfl n n rfl rfl (ql _) (by omega) fun v h3 Y N X=>⟨trivial,?_⟩
  refine X.make af ey afc (by decide) false rfl rfl n n rfl rfl (ql _) (by omega) fun k h2 O S V=>⟨trivial,?_⟩
  refine V.boxed fun p R D=>⟨trivial,p,k,v,rfl,?_⟩
  exact(aa.aca (E:=ua 1 aB) (b:=[]) D 0 rfl fun h=>⟨Seq.nil _ _ _ _ _ _,fun _=>rfl⟩).bO [2,1,0]
 rintro s R ⟨p,k,v,rfl,D⟩;refine(abZ p l k v L n w h R I (fun e he=>(hL e he).1) hn F hw A D).mono ?_;rintro _ h5 ⟨rfl,kn,vs,J,H5⟩;refine⟨(),rfl,?_⟩;refine aw (fun t:Nat×Sl=>(t.2,(t.1:Int))) (fun t h'=>t.1<=L.length/\jV kn vs (L.take t.1)=false/\Sp h h' [aq p iJ [vY l.ptr l.len l.cap,vY k.ptr k.len k.cap,vY v.ptr v.len v.cap],an gA k 1 ey kn,eM aH v 1 bQ (ua 1 aB) vs,eM dL t.2 2 qv jc (aY kn vs (L.take t.1))]) (fun t=>L.length-t.1) (0,⟨none,0,0⟩) rfl ⟨by simp,rfl,H5.XW dL 2 qv jc⟩ ?_;rintro⟨i,o⟩ h6 ⟨hi,y,B⟩;dsimp only at*;refine ak (fun e=>?_) (fun e=>?_)
 ·have j:i<L.length:=by omega
  obtain⟨rs,q1,q2,q3⟩:=cO.sH I;have hx:=q3 i (by omega) j;refine(Seq.up q1 B.ai).dI (g:=qv) i rfl (by omega) (rs[i]'(by omega)) rfl ?_;generalize rs[i]'(by omega)=x at hx⊢;refine B.alloc af rfl fun a h7 H7=>?_;refine H7.storeAll af 4 rfl rfl (qv x) rfl rfl rfl rfl fun h8 z=>?_;refine⟨x,(z.box 4 rfl).aO _ rfl,?_⟩;have U:Au h8 p l k v L kn vs:=⟨z.box 0 rfl,fG.up I z.ai,z.seq 1 rfl fun _=>rfl,z.eRd 2 rfl fun _=>rfl⟩
  obtain⟨H,-⟩:=hL _ (qg j);have K:fG jc h8 x L[i]:=fG.up hx z.ai;refine(QD p l k v L kn vs n w x L[i] h8 U J K H hw.2 (A _ (qg j))).mono ?_;rintro _ h9 ⟨c,d,rfl,R9⟩;refine⟨(c,d),rfl,?_⟩;have H9:=z.comp R9;refine H9.alloc af rfl fun a2 ah Z=>?_;refine Z.storeAll af 7 rfl rfl (qv (c,d)) rfl rfl rfl rfl fun ab f=>?_;refine⟨c,(f.box 7 rfl).cell0 rfl,?_⟩;have u:=(f.own 5 rfl).len;have ad:(aY kn vs (L.take i)).length<=L.length:=by
   unfold aY;refine q9 (qY _ _) ?_;simp;omega
  have q:=acb kn vs L j;have m:=Zw kn vs L j;refine ak (fun e2=>?_) (fun e2=>?_)
  ·have Q:(eN kn vs L[i]).1.isEmpty=false:=by
    cases hh:(eN kn vs L[i]).1 with
    |nil=>rw[hh]at u;simp at u;omega
    |cons a l=>rfl
   rw[Q]at q m;refine⟨(c,d),(f.box 7 rfl).aO _ rfl,?_⟩;have M:=aa.aig f 5 6 (by decide) rfl rfl;refine M.Lw af 3 5 (by decide) rfl rfl eQ rfl (by decide) (fun _=>rfl) abX rfl (by decide) (by omega) fun o' ao T=>?_;refine⟨(i+1,o'),by dsimp only;rw[Go.Vc.wrap_small _ (by omega) (by omega)];rfl,⟨by dsimp only;omega,by dsimp only;rw[m,y];rfl,?_⟩,by dsimp only;omega⟩;dsimp only;rw[q];exact T.bO [0,1,2,3]
  ·have P:(eN kn vs L[i]).1.isEmpty=true:=by
    cases hh:(eN kn vs L[i]).1 with
    |nil=>rfl
    |cons a l=>rw[hh]at u;simp at u;omega
   rw[P]at q m;refine⟨d,(f.box 7 rfl).cell rfl,?_⟩;refine(WI d _ ab (f.seq 6 rfl fun _=>rfl) (f.own 6 rfl).cap (by have:=(J.CI H).len;omega)).mono ?_;rintro _ ap ⟨rfl,rfl⟩;refine⟨_,rfl,bi (fun G=>?_) (fun G=>?_)⟩
   ·refine⟨kn,vs,J,.inl ⟨Zx (i:=i+1) ?_,rfl,f.bO []⟩⟩;rw[m];simp at G;simp[G]
   ·refine⟨(i+1,o),by dsimp only;rw[Go.Vc.wrap_small _ (by omega) (by omega)];rfl,⟨by dsimp only;omega,?_,?_⟩,by dsimp only;omega⟩
    ·dsimp only;rw[m,y];simp at G;simp;exact G
    ·dsimp only;rw[q];exact f.bO [0,1,2,3]
 ·have W:i=L.length:=by omega
  subst W;rw[qR]at B y;refine⟨p,rfl,k,(B.box 0 rfl).cell rfl,p,rfl,v,(B.box 0 rfl).cell rfl,kn,vs,J,.inr ⟨y,k,v,o,rfl,B.bO [1,2,3]⟩⟩
def kG(pool:List (Sl×Row)):HP:=⟨fun h q=>∀x∈pool,Seq h q x.1 1 aB x.2,fun a d x b=>(a x b).ai d,fun a c x b=>(a x b).mono c⟩
theorem _root_.Go.Vc.aa.pool{B:aA}{c h:Heap}{As:List HP}(H:aa B c h As)(i j:Nat)(a:i≠j){pool:List (Sl×Row)}{r:Sl}{l:Row}(d:As[i]?=some (kG pool))(e:As[j]?=some (tW r 1 aB l)):aa B c h ((As.set i (kG ((r,l)::pool))).set j emp):=
 H.merge i j a d e fun m k _ f g x b=>by
  rcases za.1 b with rfl|b
  ·exact Seq.mono g fun _ h=>.inr h
  ·exact(f x b).mono fun _ h=>.inl h
theorem _root_.Go.Vc.aa.NB{B:aA}{c h:Heap}{As:List HP}(H:aa B c h As)(i:Nat){pool:List (Sl×Row)}(a:As[i]?=some (kG pool)){r:Sl}{l:Row}(b:(r,l)∈pool):Rd h r 1 aB l:=(H.at i a) _ b
theorem _root_.Go.Vc.aa.aej{B:aA}{e h:Heap}{As:List HP}(H:aa B e h As)(i j:Nat)(a:i≠j){pool:List (Sl×Row)}{s:Sl}{rs:List Sl}{c:aS}(g:As[i]?=some (an aH s 1 bQ rs))(t:As[j]?=some (kG pool))
  (u:rs.length=c.length) (q:∀(k:Nat) r l,rs[k]?=some r->c[k]?=some l->(r,l)∈pool):aa B e h ((As.set i (fP aH s 1 aB c)).set j emp):=
 H.merge i j a g t fun w p m d v=>⟨rs,p,d.1,fun b f=>⟨.inl (d.2 b f),m b (d.2 b f)⟩,fun _ h=>.inr h,u,fun k r l o n=>v _ (q k r l o n)⟩
def gJ(pool:List (Sl×Row))(g:Row->Row)(rs:List Sl)(m:aS):Prop:=rs.length=m.length/\∀(i:Nat) r l,rs[i]?=some r->m[i]?=some l->(r,g l)∈pool
theorem gJ.get{pool:List (Sl×Row)}{g:Row->Row}{rs:List Sl}{m:aS}(h:gJ pool g rs m){i:Nat}(a:i<m.length):(rs[i]'(by rw[h.1];exact a),g m[i])∈pool:=
 h.2 i _ _ (qd _) (qd _)
theorem gJ.mono{pool a:List (Sl×Row)}{g:Row->Row}{rs:List Sl}{m:aS}(h:gJ pool g rs m)(b:∀x∈pool,x∈a):gJ a g rs m:=⟨h.1,fun i r l d c=>b _ (h.2 i r l d c)⟩
theorem gJ.set{pool:List (Sl×Row)}{g:Row->Row}{rs:List Sl}{m:aS}(h:gJ pool g rs m)(i:Nat){r:Sl}{l:Row}(j:(r,g l)∈pool):gJ pool g (rs.set i r) (m.set i l):=by
 refine⟨by simp[h.1],fun k f e a b=>?_⟩;rw[q8]at a b;by_cases c:i=k
 ·subst c;rw[if_pos rfl]at a b;split at a
  ·rename_i d;rw[if_pos (by rw[<-h.1];exact d)]at b;cases a;cases b;exact j
  ·cases a
 ·rw[if_neg c]at a b;exact h.2 k f e a b
theorem _root_.Go.Vc.aa.EO{B:aA}{m h:Heap}{As:List HP}(H:aa B m h As)(i j:Nat){pool:List (Sl×Row)}{e:Nat}{s:Sl}{rs:List Sl}{c:aS}(d:As[i]?=some (an e s 1 bQ rs))(n:As[j]?=some (kG pool))
  (a:gJ pool id rs c):gO h (fun b=>b<h.size) s 1 aB c rs:=⟨H.seq i d fun _=>rfl,a.1,fun k r l g f=>H.NB j n (a.2 k r l g f)⟩
theorem Is{B:aA}{r h:Heap}{As:List HP}(s f:Addr)(t:UInt8)(g a:Sl)(b c:Row)(H:aa B r h (an aC a 1 aB c::As))(I:St B r As fun h=>cellOf h s=some (vZ (some f))/\gI h f/\Rd h g 1 aB b)
  (S:b.length=c.length) (T:b.length<=2^30) {K:Heap->Prop} (M:∀h',aa B r h' (an aC a 1 aB (df t b c)::As)->K h'):
  aM (σ:=Int) (fun d P i=>
 Br (decide (d<((g.len:Nat):Int)))
 (∃E:Addr,(g.ptr=some E/\0<=d/\d<((g.len:Nat):Int))/\
 ∃G:Int,cellOf i (E.add (d.toNat*1))=some (vX xi G)/\
 ∃u:Addr,(a.ptr=some u/\0<=d/\d<((a.len:Nat):Int))/\
 ∃A:Int,cellOf i (u.add (d.toNat*1))=some (vX xi A)/\
 ∃m:Addr,(some s=some m)/\
 ∃n:Option Addr,cellOf i m=some (.pointer n)/\
 ag xl Bw #[(.pointer n),(vX xi (t.toNat:Int)),(vX xi G)] (.one (.sc (.int .u8))) i fun D z=>
 (ar.ok [(u.add (d.toNat*1),(vX xi A))] z)/\
 ∃q:Addr,(a.ptr=some q/\0<=d/\d<((a.len:Nat):Int))/\
 ac xl (qf aC (vZ (some (q.add (d.toNat*1)))) (vX xi (qc xi ((qA (qk xi) A^^^(qA (qk xi) D)).toNat:Nat)))) z fun _ h3=>
 (ar.ok [] h3)/\
 P (qc xh (d+(1:Int))) h3) (K i)) (0:Int) h:=by
 have Q:g.len=b.length:=(I.at [an aC a 1 aB c] H).2.2.len;refine aw (fun k:Nat=>(k:Int)) (fun k h'=>k<=b.length/\aa B r h' (an aC a 1 aB (zm (fun x y=>y^^^Gf.mul t x) (b.take k) (c.take k)++c.drop k)::As)) (fun k=>b.length-k) 0 rfl ⟨by omega,by simpa using H⟩ ?_;rintro k i ⟨R,p⟩;obtain⟨N,L,O⟩:=I.at [_] p;refine ak (fun e=>?_) (fun e=>?_)
 ·have w:k<b.length:=by omega
  have o:(zm (fun x y=>y^^^Gf.mul t x) (b.take k) (c.take k)).length=k:=by simp;omega
  have J:(zm (fun x y=>y^^^Gf.mul t x) (b.take k) (c.take k)++c.drop k).length=c.length:=by rw[qw,o,q7];omega
  refine O.bz k rfl w _ rfl ?_;have l:(zm (fun x y=>y^^^Gf.mul t x) (b.take k) (c.take k)++c.drop k)[k]'(by omega)=c[k]:=by
   rw[wI (by omega)];simp[o]
  refine(p.seq 0 rfl fun _=>rfl).RT k rfl (by omega) _ rfl fun ax j=>?_;rw[l]at j⊢;refine⟨s,rfl,some f,N,(KY f t b[k] i L).mono ?_⟩;rintro v z ⟨rfl,rfl⟩;refine⟨_,rfl,⟨j,trivial⟩,?_⟩;rw[rn];refine p.set af 0 rfl (fun _=>rfl) rfl k rfl (by omega) _ rfl rfl rfl fun h3 F=>⟨trivial,?_⟩
  rw[zB,Ai S (by omega)]at F;exact⟨k+1,by rw[Go.Vc.wrap_small _ (by omega) (by omega)];rfl,⟨by omega,F⟩,by omega⟩
 ·have:k=b.length:=by omega
  subst this;rw[qi (ql _),qi (by omega),zg (by omega),qQ]at p;exact M i p
def fU(f:Addr)(p:Int×Int×Int)(v r b d c a e:Sl):List Value:=[vZ (some f),vX xh p.1,vX xh p.2.1,vX xh p.2.2,vY v.ptr v.len v.cap,vY r.ptr r.len r.cap,vY b.ptr b.len b.cap,vY d.ptr d.len d.cap,vY c.ptr c.len c.cap,vY a.ptr a.len a.cap,vY e.ptr e.len e.cap]
structure DG (h:Heap) (s f:Addr) (wa mo:Sl) (wr mr:List Sl) (W M:aS):Prop where
 fld:cellOf h s=some (vZ (some f))
 way:cellOf h (s.add 9)=some (vY wa.ptr wa.len wa.cap)
 more:cellOf h (s.add 10)=some (vY mo.ptr mo.len mo.cap)
 field:gI h f
 rW:gO h (fun b=>b<h.size) wa 1 aB W wr
 rM:gO h (fun b=>b<h.size) mo 1 aB M mr
theorem DG.of{h:Heap}{s f:Addr}{p:Int×Int×Int}{v r l n m a d:Sl}{g e:List Sl}{W M:aS}(c:cy h s Bl (fU f p v r l n m a d))(i:gI h f)(k:gO h (fun b=>b<h.size) a 1 aB W g)(j:gO h (fun b=>b<h.size) d 1 aB M e):DG h s f a d g e W M:=
 ⟨c.cell0 rfl,c.cell rfl,c.cell rfl,i,k,j⟩
theorem It{B:aA}{k h:Heap}{As:List HP}(s f:Addr)(t:UInt8)(c:Int)(b a z p:Sl)(w0 e:Row)(u l:List Sl)(W M:aS)(H:aa B k h (an aC b 1 aB w0::an aC a 1 aB e::As))(i:St B k As fun h=>DG h s f z p u l W M)
  (E:0<=c) (n:c.toNat<W.length) (r:c.toNat<M.length) (y:(az W c.toNat).length=w0.length) (x:(az M c.toNat).length=e.length) (D:w0.length<=2^30) (F:e.length<=2^30):
  ae xl ED #[vZ (some s),vX xi t.toNat,vX xh c,vY b.ptr b.len b.cap,vY a.ptr a.len a.cap] h fun v h'=>v=.tuple #[]/\aa B k h' (an aC b 1 aB (df t (az W c.toNat) w0)::an aC a 1 aB (df t (az M c.toNat) e)::As):=by
 refine Dk (some s) _ c b a ?_;unfold rP;have S:=i.at [_,_] H;refine⟨s,rfl,z,S.way,?_⟩;rw[lV n]at y⊢;rw[lV r]at x⊢;have q:=S.rW;have A:=q.len;refine q.top.ox c.toNat (by omega) (by omega) ?_;refine Is s f t (u[c.toNat]'(by omega)) b (W[c.toNat]) w0 H (St.mk' fun h' j=>?_) y (by omega) fun h3 g=>?_
 ·have d:=i.at [_] j;exact⟨d.fld,d.field,d.rW.row _ _ _ (qd _) (qd n)⟩
 have o:=i.at [_,_] g;refine⟨s,rfl,p,o.more,?_⟩;have m:=o.rM;have w:=m.len;refine m.top.ox c.toNat (by omega) (by omega) ?_;refine Is s f t (l[c.toNat]'(by omega)) a (M[c.toNat]) e g.xx (St.mk' fun h' j=>?_) x (by omega) fun h3 g=>⟨rfl,g.xx⟩
 ·have d:=i.at [_] j;exact⟨d.fld,d.field,d.rM.row _ _ _ (qd _) (qd r)⟩
def fg:List Int->Bool
 |[]=>true
 |[_]=>true
 |a::b::r=>decide (a<b)&&fg (b::r)
theorem NC:∀(l:List Int) (a b:Int),fg (l++[a,b])=(fg (l++[a])&&decide (a<b))
 |[],a,b=>by simp[fg]
 |[c],a,b=>by simp[fg]
 |c::d::r,a,b=>by
  have:=NC (d::r) a b;simp only[zx]at this⊢;simp only[fg,this,Bool.and_assoc]
theorem ace{l r:List Int}(h:fg l=false):fg (l++r)=false:=by
 induction l with
 |nil=>simp[fg]at h
 |cons a t ih=>
  cases t with
  |nil=>simp[fg]at h
  |cons b t=>
   simp only[fg,yZ]at h;simp only[zx,fg,yZ];rcases h with h|h
   ·exact .inl h
   ·exact .inr (ih h)
theorem aek(l:List Int)(k:Nat)(h:k+1<l.length):l.take (k+2)=l.take k++[l[k],l[k+1]]:=by
 have b:l.take (k+2)=l.take (k+1)++[l[k+1]]:=aJ l (k+1) h;have a:=aJ l k (by omega);rw[b,a,qp];rfl
def fh(n:Int)(r:List Int):Bool:=r.all (fun c=>decide (0<=c/\c<n))&&fg r
theorem acf{n:Int}{l r:List Int}(h:fh n l=false):fh n (l++r)=false:=by
 simp only[fh,yZ]at*;rcases h with h|h
 ·left;rw[yD,h];rfl
 ·right;exact ace h
theorem Zy{n:Int}{r:List Int}(h:0<r.length):fh n (r.take 1)=decide (0<=r[0]/\r[0]<n):=by
 cases r with
 |nil=>simp at h
 |cons a t=>simp[fh,fg]
theorem Zz{n:Int}{r:List Int}{k:Nat}(h:k+1<r.length):fh n (r.take (k+2))=(fh n (r.take (k+1))&&decide (0<=r[k+1]/\r[k+1]<n)&&decide (r[k]<r[k+1])):=by
 have b:r.take (k+2)=r.take (k+1)++[r[k+1]]:=aJ r (k+1) h;have a:fg (r.take (k+2))=(fg (r.take (k+1))&&decide (r[k]<r[k+1])):=by
  rw[aek r k h,NC,aJ r k (by omega)]
 simp only[fh,a];rw[b,yD];simp only[vU,List.all_nil,Bool.and_true]
 cases(r.take (k+1)).all fun c=>decide (0<=c/\c<n)<;>cases fg (r.take (k+1))<;>cases decide (0<=r[k+1]/\r[k+1]<n)<;>simp
theorem Av{n:Int}{r:List Int}{k:Nat}(h:fh n (r.take k)=false):fh n r=false:=by
 rw[<-qE k r];exact acf h
theorem ZA{n:Int}{r:List Int}{k:Nat}(c:k<r.length)(h:fh n (r.take k)=true):
  (r[k]<0->fh n r=false)/\(n<=r[k]->fh n r=false)/\(∀(h0:0<k),r[k]<=r[k-1]->fh n r=false)/\
  (0<=r[k]->r[k]<n->(∀h0:0<k,r[k-1]<r[k])->fh n (r.take (k+1))=true):=by
 cases k with
 |zero=>
  have e:=Zy (n:=n) c;refine⟨fun a=>Av (k:=1) ?_,fun a=>Av (k:=1) ?_,fun h0=>by omega,fun a b _=>?_⟩
  ·rw[e,decide_eq_false (by omega)]
  ·rw[e,decide_eq_false (by omega)]
  ·rw[e,decide_eq_true ⟨a,b⟩]
 |succ k=>
  have e:=Zz (n:=n) c;refine⟨fun a=>Av (k:=k+2) ?_,fun a=>Av (k:=k+2) ?_,fun h0 a=>Av (k:=k+2) ?_,fun a b h3=>?_⟩
  ·rw[e,decide_eq_false (p:=0<=r[k+1]/\r[k+1]<n) (by omega)];simp
  ·rw[e,decide_eq_false (p:=0<=r[k+1]/\r[k+1]<n) (by omega)];simp
  ·rw[e,decide_eq_false (p:=r[k]<r[k+1]) (by simpa using a)];simp
  ·have d:r[k]<r[k+1]:=by simpa using h3 (by omega)
   rw[e,h,decide_eq_true (p:=0<=r[k+1]/\r[k+1]<n) ⟨a,b⟩,decide_eq_true d];rfl
def jt(n:Int)(a:List (List Int)):Bool:=decide (0<=n/\n<=64)&&a.all (fh n)
theorem ael{α:Type}{f:α->Bool}{l:List α}{k:Nat}(a:k<l.length)(h:(l.take k).all f=true):(l.take (k+1)).all f=f l[k]:=by
 rw[aJ _ _ a,yD,h];simp
theorem ahs{α:Type}{f:α->Bool}{l:List α}{k:Nat}(a:k<l.length)(h:f l[k]=false):l.all f=false:=by
 rw[yh];exact⟨l[k],qg a,by simp[h]⟩
theorem Pu{p:aA}(n:Int)(a:Sl)(b:List (List Int))(rs:List Sl)(h:Heap)(x:gO h p a 1 aD b rs)(J:b.length<=2^40)(t:∀l∈b,l.length<=2^40):
  ae xl Pe #[vX xh n,vY a.ptr a.len a.cap] h fun v h'=>v=xf (jt n b)/\h'=h:=by
 refine MU n a ?_;unfold FG;have G:=x.Sr;refine co (fun _ h'=>h'=h/\0<=n/\n<=64) ?_ ?_
 ·refine ak (fun j=>⟨?_,rfl⟩) (fun j=>ak (fun f=>⟨?_,rfl⟩) (fun f=>⟨rfl,by omega,by omega⟩))
  ·rw[jt,decide_eq_false (by omega)];rfl
  ·rw[jt,decide_eq_false (by omega)];rfl
 ·rintro _ h' ⟨rfl,o,w⟩;have y:jt n b=b.all (fh n):=by rw[jt,decide_eq_true ⟨o,w⟩];rfl
  refine aw (fun k:Nat=>(k:Int)) (fun k h0=>h0=h'/\k<=b.length/\(b.take k).all (fh n)=true) (fun k=>b.length-k) 0 rfl ⟨rfl,by omega,by simp⟩ ?_;rintro i h0 ⟨rfl,H,d⟩;refine ak (fun q=>?_) (fun s=>?_)
  ·have e:i<b.length:=by omega
   refine x.get i rfl e fun r u _=>?_;have D:=u.len;have E:=t _ (qg e);have c:fh n b[i]=false->jt n b=false:=fun F=>by rw[y];exact ahs e F
   refine aw (fun k:Nat=>(k:Int)) (fun k f=>f=h0/\k<=b[i].length/\fh n (b[i].take k)=true) (fun k=>b[i].length-k) 0 rfl ⟨rfl,by omega,by simp[fh,fg]⟩ ?_;rintro k f ⟨rfl,I,m⟩;refine ak (fun q=>?_) (fun s=>?_)
   ·have g:k<b[i].length:=by omega
    obtain⟨n1,n2,B,z⟩:=ZA g m;refine u.bz k rfl g _ rfl ?_;refine ak (fun j=>⟨by rw[c (n1 j)],rfl⟩) (fun j=>?_);refine ak (fun f=>⟨by rw[c (n2 f)],rfl⟩) (fun f=>?_);rw[Go.Vc.wrap_small (k+1) (by omega) (by omega),Go.Vc.wrap_small (k-1) (by omega) (by omega)];refine ak (fun h3=>?_) (fun h3=>?_)
    ·refine u.bz (k-1) (by omega) (by omega) _ rfl ?_;refine ak (fun A=>⟨by rw[c (B (by omega) A)],rfl⟩) (fun A=>?_);exact⟨k+1,by simp,⟨rfl,by omega,z (by omega) (by omega) (fun _=>by omega)⟩,by omega⟩
    ·exact⟨k+1,by simp,⟨rfl,by omega,z (by omega) (by omega) (fun _=>by omega)⟩,by omega⟩
   ·rw[qi (by omega)]at m;rw[Go.Vc.wrap_small (i+1) (by omega) (by omega)];exact⟨i+1,by simp,⟨rfl,by omega,by rw[ael e d,m]⟩,by omega⟩
  ·rw[qi (by omega)]at d;exact⟨by rw[y,d],rfl⟩
theorem ND{p:aA}(a:Sl)(c:List Bool)(x:Bool)(h:Heap)(i:Seq h p a 1 ey c)(o:c.length<=2^40):
  ae xl uS #[vY a.ptr a.len a.cap,xf x] h fun v h'=>∃r:Int,v=vX xh r/\(0<=r↔x∈c)/\h'=h:=by
 refine uf a x ?_;unfold mU;have m:=i.len;refine aw (fun k:Nat=>(k:Int)) (fun k h'=>h'=h/\k<=c.length/\x∉c.take k) (fun k=>c.length-k) 0 rfl ⟨rfl,by omega,by simp⟩ ?_;rintro k h' ⟨rfl,n,f⟩;refine ak (fun j=>?_) (fun l=>?_)
 ·have b:k<c.length:=by omega
  refine i.bz k rfl b _ rfl ?_;refine bs (fun g=>⟨_,rfl,⟨fun _=>?_,fun _=>by omega⟩,rfl⟩) (fun d=>?_)
  ·rw[eq_of_beq g];exact qg b
  ·rw[Go.Vc.wrap_small _ (by omega) (by omega)];refine⟨k+1,by simp,⟨rfl,by omega,?_⟩,by omega⟩;rw[aJ _ _ b];simp only[qB,qH,not_or];exact⟨f,fun e=>by rw[e]at d;simp at d⟩
 ·rw[qi (by omega)]at f;exact⟨_,rfl,⟨fun h=>by omega,fun h=>absurd h f⟩,rfl⟩
theorem Iu{p:aA}(a:Sl)(b:List Bool)(x:Bool)(h:Heap)(c:Seq h p a 1 ey b)(d:b.length<=2^40):
  ae xl sl #[vY a.ptr a.len a.cap,xf x] h fun v h'=>v=xf (decide (x∈b))/\h'=h:=by
 refine rz a x ?_;unfold li;refine(ND a b x h c d).mono ?_;rintro v h' ⟨r,rfl,e,rfl⟩;refine⟨r,rfl,?_,rfl⟩;exact congrArg Value.bool (decide_eq_decide.2 e)
theorem WJ{α:Type}{f:α->Bool}{l:List α}{k:Nat}(a:k<l.length):(l.take (k+1)).filter f=if f l[k]then(l.take k).filter f++[l[k]]else(l.take k).filter f:=by
 rw[aJ _ _ a,zk];by_cases h:f l[k]=true<;>simp[h]
theorem NE{p q:aA}(i:Addr)(o r:Sl)(op:List Bool)(row:List Int)(h:Heap)(s:cellOf h (i.add 1)=some (vY o.ptr o.len o.cap))(t:Seq h p o 1 ey op)(m:Seq h q r 1 aD row)
  (l:∀c∈row,0<=c/\c<op.length) (A:row.length<=2^40):
  ae xl AP #[vZ (some i),vY r.ptr r.len r.cap] h fun v h'=>
   v=.tuple #[vX xh ((cP op row).getLast?.getD 0),xf ((cP op row).length==1)]/\h'=h:=by
 refine Ab (some i) r ?_;unfold om;have x:=m.len;refine aw (fun k:Nat=>((cP op (row.take k)).getLast?.getD 0,((cP op (row.take k)).length:Int),(k:Int))) (fun k h'=>h'=h/\k<=row.length) (fun k=>row.length-k) 0 rfl ⟨rfl,by omega⟩ ?_;rintro k h' ⟨rfl,y⟩;dsimp only;refine ak (fun u=>?_) (fun w=>?_)
 ·have d:k<row.length:=by omega
  have z:=l _ (qg d);refine m.bz k rfl d _ rfl ?_;refine⟨i,rfl,o,s,?_⟩;have a:row[k].toNat<op.length:=by omega
  refine t.bz row[k].toNat (by omega) a _ rfl ?_;have b:jK op row[k]=op[row[k].toNat]:=by simp[jK,qe,qd a]
  have g:=WJ (f:=jK op) d;have n:(cP op (row.take k)).length<=row.length:=q9 (qY _ _) (by rw[qZ];omega);rw[Go.Vc.wrap_small (k+1) (by omega) (by omega),Go.Vc.wrap_small _ (by omega) (by omega)];refine bs (fun j=>?_) (fun j=>?_)
  ·refine⟨k+1,?_,⟨rfl,by omega⟩,by omega⟩;have e:cP op (row.take (k+1))=cP op (row.take k)++[row[k]]:=by rw[cP,g,b,j];rfl
   simp[e]
  ·refine⟨k+1,?_,⟨rfl,by omega⟩,by omega⟩;have e:cP op (row.take (k+1))=cP op (row.take k):=by rw[cP,g,b,j];rfl
   simp[e]
 ·have e:row.take k=row:=qi (by omega);refine⟨?_,rfl⟩;simp only[e];congr 4;congr 1;rw[yC];simp;omega
structure BC (h:Heap) (p:aA) (a:Addr) (l o u:Sl) (rows:List (List Int)) (rs:List Sl) (op us:List Bool):Prop where
 c0:cellOf h a=some (vY l.ptr l.len l.cap)
 c1:cellOf h (a.add 1)=some (vY o.ptr o.len o.cap)
 c2:cellOf h (a.add 2)=some (vY u.ptr u.len u.cap)
 fp:p a.block
 sRows:gO h p l 1 aD rows rs
 sOp:Seq h p o 1 ey op
 sUs:Seq h p u 1 ey us
 ulen:us.length=rows.length
 cF:∀r∈rows,∀c∈r,0<=c/\c<op.length
 short:∀r∈rows,r.length<=64
theorem BC.ai{h h':Heap}{p:aA}{a:Addr}{l o u:Sl}{rows:List (List Int)}{rs:List Sl}{op us:List Bool}(c:BC h p a l o u rows rs op us)(k:aU p h h'):BC h' p a l o u rows rs op us:=by
 have b:∀n,(a.add n).block=a.block:=fun n=>by unfold Addr.add;split<;>rfl
 exact⟨k.cell c.fp c.c0,k.cell (by rw[b];exact c.fp) c.c1,k.cell (by rw[b];exact c.fp) c.c2,c.fp,c.sRows.ai k,c.sOp.ai k,c.sUs.ai k,c.ulen,c.cF,c.short⟩
theorem RO{p:aA}(a:Addr)(l o u:Sl)(rows:List (List Int))(rs:List Sl)(op us:List Bool)(h:Heap)(y:BC h p a l o u rows rs op us)(P:rows.length<=2^40):
  ae xl Dp #[vZ (some a)] h fun v h'=>aU (fun _=>True) h h'/\
   v=match mq rows op us with
    |some i=>.tuple #[xg #[vX xh i,vX xh (eC rows op i)],xf true]
    |none=>.tuple #[xg #[vX xh 0,vX xh 0],xf false]:=by
 refine Cn (some a) ?_;unfold rh;refine AT af rfl fun b G O q d L=>?_;have f:=y.ai (d.mono fun _ _ _=>trivial);refine⟨a,rfl,l,f.c0,?_⟩;have F:=y.sRows.Sr;refine aw (fun k:Nat=>(k:Int)) (fun k h'=>h'=G/\k<=rows.length/\∀j,j<k->mj rows op us j=false) (fun k=>rows.length-k) 0 rfl ⟨rfl,by omega,fun j n=>by omega⟩ ?_;rintro k h' ⟨rfl,M,B⟩;refine ak (fun I=>?_) (fun J=>?_)
 ·have c:k<rows.length:=by omega
  refine f.sRows.get k rfl c fun r K _=>?_;refine⟨a,rfl,u,f.c2,?_⟩;refine f.sUs.bz k rfl (by rw[y.ulen];exact c) _ rfl ?_;have E:us.getD k false=us[k]'(by rw[y.ulen];exact c):=by rw[qe,qd];rfl
  have s:rows.getD k []=rows[k]:=by rw[qe,qd c];rfl
  rw[Go.Vc.wrap_small _ (by omega) (by omega)];refine bs (fun w=>?_) (fun w=>?_)
  ·refine⟨k+1,by simp,⟨rfl,by omega,fun j n=>?_⟩,by omega⟩;rcases zq.1 n with n|rfl
   ·exact B j n
   ·simp only[mj,E,w];rfl
  ·refine(NE a o r op rows[k] h' f.c1 f.sOp K (y.cF _ (qg c)) (q9 (y.short _ (qg c)) (by omega))).mono ?_;rintro v N ⟨rfl,rfl⟩;refine⟨(_,_),rfl,?_⟩;have g:mj rows op us k=((cP op rows[k]).length==1):=by simp only[mj,E,w,s];rfl
   refine bs (fun x=>?_) (fun x=>?_)
   ·have m:mj rows op us k=true:=g.trans x;refine DQ af q rfl _ rfl rfl rfl (ql _) fun h3 e t z=>?_;refine⟨(_,_),e.aO _ rfl,d.then t (fun H D _=>by omega),?_⟩;have A:eC rows op k=(cP op rows[k]).getLast?.getD 0:=by unfold eC;rw[s]
    rw[mq,aaP c B m];show _=Value.tuple #[xg #[vX xh k,vX xh (eC rows op k)],xf true];rw[A];rfl
   ·have m:mj rows op us k=false:=g.trans x;refine⟨k+1,by simp,⟨rfl,by omega,fun j n=>?_⟩,by omega⟩;rcases zq.1 n with n|rfl
    ·exact B j n
    ·exact m
 ·refine DQ af q rfl _ rfl rfl rfl (ql _) fun h3 e t z=>?_;refine⟨(_,_),e.aO _ rfl,d.then t (fun H D _=>by omega),?_⟩;rw[mq,Bd (fun j n=>B j (by omega))]
theorem Lb{l:List Bool}{i:Nat}(h:i<l.length):l.getD i false=l[i]:=by rw[qe,qd h];rfl
theorem XD(op:List Bool)(a:List Int):∀k,-1<=il op a k/\il op a k<k
 |0=>by simp[il]
 |k+1=>by
  have:=XD op a k;unfold il;split<;>omega
theorem RP{p:aA}(a:Addr)(l o u:Sl)(rows:List (List Int))(rs:List Sl)(op us:List Bool)(h:Heap)(q:BC h p a l o u rows rs op us)(hs:rows.length<=2^30)(a9:op.length<=2^30):
  ae xl Dq #[vZ (some a)] h fun v h'=>aU (fun _=>True) h h'/\v=vX xh (gy rows op us):=by
 refine Co (some a) ?_;unfold ri;refine⟨a,rfl,o,q.c1,?_⟩;have a6:=q.sOp.len;refine Go.Vc.run_make (f:=aD) af ⟨_,_,rfl,rfl,rfl,rfl,rfl,rfl⟩ (by decide) 0 rfl rfl op.length op.length (by omega) (by omega) (ql _) (by omega) fun s h1 I ap a3 n a4=>?_;have ab:=q.ai (n.mono fun _ _ _=>trivial);refine⟨a,rfl,l,ab.c0,?_⟩;have a5:=q.sRows.Sr;have z:∀b,s.on b->b=h.size:=by rintro b ⟨o',O⟩;rw[ap]at O;cases O;rfl
 have ad:∀k,((fun _ r=>r:Nat->List Int->List Int) k (rows.getD k [])).length<=64:=fun k=>by
  show(rows.getD k []).length<=64;by_cases S:k<rows.length
  ·rw[qe,qd S];exact q.short _ (qg S)
  ·rw[qe,zf (by omega)];simp
 let d:=kN (fun _ r=>r) rows us (qh op.length 0);have G:∀k,(d k).length=op.length:=fun k=>by rw[Ec];simp
 have U:∀k,∀x∈d k,0<=x/\x<=64*k:=fun k x hx=>Td (fun _ r=>r) ad k x hx;refine aw (fun k:Nat=>(k:Int)) (fun k h'=>aU (fun b=>b<h.size) h h'/\k<=rows.length/\Own h' aT s 1 aD (d k)) (fun k=>rows.length-k) 0 rfl ⟨n.mono fun _ _ _=>trivial,by omega,I⟩ ?_;rintro i T ⟨E,hi,t⟩;have w:BC T p a l o u rows rs op us:=q.ai (E.mono fun b e _=>e);refine ak (fun J=>?_) (fun K=>?_)
 ·have g:i<rows.length:=by omega
  have H:rows.getD i []=rows[i]:=by rw[qe,qd g];rfl
  have hu:us.getD i false=us[i]'(by rw[q.ulen];exact g):=Lb _;refine w.sRows.get i rfl g fun r hr Y=>?_;have a8:=hr.len;have Q:=q.short _ (qg g);refine aw (fun k:Nat=>(k:Int)) (fun k h'=>aU (fun b=>b<h.size) h h'/\k<=rows[i].length/\Own h' aT s 1 aD (if us.getD i false then d i else jW (d i) (rows[i].take k))) (fun k=>rows[i].length-k) 0 rfl
   ⟨E,by omega,by simpa[jW]using t⟩ ?_
  rintro j h3 ⟨B,hj,c⟩;have y:BC h3 p a l o u rows rs op us:=q.ai (B.mono fun b e _=>e);refine ak (fun J=>?_) (fun K=>?_)
  ·have D:j<rows[i].length:=by omega
   have R:=y.sRows.row i r _ Y (qd g);have hc:=q.cF _ (qg g) _ (qg D);refine R.bz j rfl D _ rfl ?_;refine⟨a,rfl,u,y.c2,?_⟩;refine y.sUs.bz i rfl (by rw[q.ulen];exact g) _ rfl ?_;rw[Go.Vc.wrap_small (j+1) (by omega) (by omega)];refine bi (fun e=>?_) (fun e=>?_)
   ·rw[hu,e]at c;simp only[ze,if_false]at c;have L:(jW (d i) (rows[i].take j)).length=op.length:=by rw[Fa,G]
    have m:rows[i][j].toNat<(jW (d i) (rows[i].take j)).length:=by rw[L];omega
    have a1:=GR (r:=rows[i].take j) (U i) _ (qg m);have a7:(rows[i].take j).length<=64:=by rw[qZ];omega
    have W:Seq h3 (fun _=>True) s 1 aD (jW (d i) (rows[i].take j)):=c.seq (fun _=>rfl) (fun _ _=>trivial);refine W.bz rows[i][j].toNat (by omega) m _ rfl ?_;rw[Go.Vc.wrap_small _ (by omega) (by omega)];refine c.set af (fun _=>rfl) rfl rows[i][j].toNat (by omega) m _ rfl rfl rfl fun h4 F am ay=>?_;refine⟨j+1,by simp,⟨B.then am (fun b e _=>fun V=>by have:=z b V;omega),by omega,?_⟩,by omega⟩;rw[hu,e];simp only[ze,if_false];rw[aJ _ _ D,Vs,getD_lt m];exact F
   ·refine⟨j+1,by simp,⟨B,by omega,?_⟩,by omega⟩;rw[hu,e]at c⊢;exact c
  ·rw[Go.Vc.wrap_small (i+1) (by omega) (by omega)];rw[qi (by omega)]at c;refine⟨i+1,by simp,⟨B,by omega,?_⟩,by omega⟩;have:d (i+1)=if us.getD i false then d i else jW (d i) rows[i]:=by
    show kN _ _ _ _ (i+1)=_;rw[kN];simp only[H];rfl
   rw[this];exact c
 ·have ao:i=rows.length:=by omega
  subst ao;refine⟨a,rfl,o,w.c1,?_⟩;have N:Seq T (fun _=>True) s 1 aD (d rows.length):=t.seq (fun _=>rfl) (fun _ _=>trivial);have a0:=G rows.length;refine aw (fun k:Nat=>(il op (d rows.length) k,(k:Int))) (fun k h'=>h'=T/\k<=op.length) (fun k=>op.length-k) 0 rfl ⟨rfl,by omega⟩ ?_;rintro k h3 ⟨rfl,S⟩;dsimp only;have a2:=XD op (d rows.length) k;refine ak (fun J=>?_) (fun K=>?_)
  ·have M:k<op.length:=by omega
   refine w.sOp.bz k rfl M _ rfl ?_;rw[Go.Vc.wrap_small (k+1) (by omega) (by omega)];have A:op.getD k false=op[k]:=Lb M;refine bs (fun e=>?_) (fun e=>?_)
   ·refine ak (fun P=>?_) (fun ah=>?_)
    ·refine⟨k+1,?_,⟨rfl,by omega⟩,by omega⟩;rw[il,if_pos (by rw[A,e,decide_eq_true P];rfl)];rfl
    ·refine N.bz k rfl (by omega) _ rfl ?_;refine N.bz (il op (d rows.length) k).toNat (by omega) (by omega) _ rfl ?_;have e1:(d rows.length).getD k 0=(d rows.length)[k]:=getD_lt (by omega);have e2:(d rows.length).getD (il op (d rows.length) k).toNat 0=(d rows.length)[(il op (d rows.length) k).toNat]:=getD_lt (by omega);refine ak (fun Z=>?_) (fun ax=>?_)
     ·refine⟨k+1,?_,⟨rfl,by omega⟩,by omega⟩;rw[il,if_pos (by rw[A,e,e1,e2,decide_eq_true Z];simp)];rfl
     ·refine⟨k+1,?_,⟨rfl,by omega⟩,by omega⟩;rw[il,if_neg (by rw[A,e,e1,e2,decide_eq_false ax,decide_eq_false ah];simp)];rfl
   ·refine⟨k+1,?_,⟨rfl,by omega⟩,by omega⟩;rw[il,if_neg (by rw[A,e];simp)];rfl
  ·have X:k=op.length:=by omega
   subst X;exact⟨E.mono fun b e _=>e,rfl⟩
def fi(p:Int×Int):List Value:=[vX xh p.1,vX xh p.2]
theorem aem:∀x,∀c∈fi x,c.oneCell'=true:=by
 intro x c a;simp only[fi,za,List.not_mem_nil,or_false]at a;rcases a with rfl|rfl<;>rfl
def EP(n:Int)(rows:List (List Int)):List (Int×Int)×List Int×List Int:=
 if jt n rows then((dn n.toNat rows).steps,(dn n.toNat rows).dead,fd (dn n.toNat rows).used rows.length)else([],[],[])
def aht(b h:Heap)(v:Value)(ok:Bool)(e:List (Int×Int))(c a:List Int):Prop:=
 ∃s d f:Sl,v=.tuple #[xg #[vY s.ptr s.len s.cap,vY d.ptr d.len d.cap,vY f.ptr f.len f.cap],xf ok]/\
  Sp b h [an cS s 2 fi e,an aT d 1 aD c,an aT f 1 aD a]
theorem afZ{α β γ:Type}{m h:Heap}{c:Nat->Nat}{n l q p t u:Nat}{r:α->List Value}{s:β->List Value}{g:γ->List Value}{w j o:Sl}{l1:List α}{l2:List β}{k:List γ}(v:mE m h c)(f:dt h c 6 n w p r l1)(e:dt h c 7 l j t s l2)(a3:dt h c 8 q o u g k):
  Sp m h [an n w p r l1,an l j t s l2,an q o u g k]:=by
 refine⟨fun _ h=>h,v.ai,fun b=>c b-5,fun b a=>?_,fun i A d=>?_⟩
 ·have:=v.bp b a;dsimp only;omega
 ·match i,d with
  |0,d=>simp at d;subst d;exact⟨f.own,fun b a=>⟨f.own.lt a,by have:=f.bp b a;dsimp only;omega⟩⟩
  |1,d=>simp at d;subst d;exact⟨e.own,fun b a=>⟨e.own.lt a,by have:=e.bp b a;dsimp only;omega⟩⟩
  |2,d=>simp at d;subst d;exact⟨a3.own,fun b a=>⟨a3.own.lt a,by have:=a3.bp b a;dsimp only;omega⟩⟩
  |i+3,d=>simp at d
theorem aga{n:Int}{rows:List (List Int)}(h:jt n rows=true):0<=n/\n<=64/\∀r∈rows,fh n r=true:=by
 simp only[jt,qz,decide_eq_true_eq,qM]at h;exact⟨h.1.1,h.1.2,h.2⟩
theorem Lc{n:Int}{r:List Int}(h:fh n r=true):∀c∈r,0<=c/\c<n:=by
 simp only[fh,qz,qM,decide_eq_true_eq]at h;exact h.1
theorem QE:∀{r:List Int} {a n:Int},fg r=true->(∀c∈r,a<=c/\c<n)->(r.length:Int)<=max 0 (n-a)
 |[],a,n,_,_=>by simp;omega
 |[x],a,n,_,h=>by have:=h x (by simp);simp;omega
 |x::y::t,a,n,hr,h=>by
  simp only[fg,qz,decide_eq_true_eq]at hr;have g:=h x (by simp);have f:=h y (by simp);have d:∀(l:List Int) (z:Int),fg (z::l)=true->∀c∈l,z<c:=by
   intro l
   induction l with
   |nil=>intro z _ c b;simp at b
   |cons w t ih=>
    intro z e c b;simp only[fg,qz,decide_eq_true_eq]at e;rcases za.1 b with rfl|b
    ·exact e.1
    ·have:=ih w e.2 c b;omega
  have:=QE (r:=y::t) (a:=x+1) (n:=n) hr.2 fun c b=>⟨by
   rcases za.1 b with rfl|b
   ·omega
   ·have:=d t y hr.2 c b;omega,(h c (by simp only[za]at b⊢;exact .inr b)).2⟩
  simp only[zb]at this⊢;omega
theorem acg{n:Int}{r:List Int}(h:fh n r=true)(c:n<=64):r.length<=64:=by
 have b:=Lc h;simp only[fh,qz]at h;have:=QE (a:=0) h.2 b;omega
theorem aen(n k:Nat)(h:k<n):(qh k true++qh (n-k) false).set k true=qh (k+1) true++qh (n-(k+1)) false:=by
 have e:n-k=(n-(k+1))+1:=by omega
 rw[zh _ _ (by simp),e,yL];simp only[yz,zj,zB];rw[List.replicate_succ' (n:=k)];simp
theorem US{h i:Heap}{c:Nat->Nat}{a:Addr}{l o u:Sl}{rows:List (List Int)}{rs:List Sl}{op us:List Bool}(q:gO i (fun b=>b<i.size) l 1 aD rows rs)(k:mE i h c)(e:kj h c 2 a mu [vY l.ptr l.len l.cap,vY o.ptr o.len o.cap,vY u.ptr u.len u.cap])
  (n:dt h c 3 gA o 1 ey op) (p:dt h c 4 gA u 1 ey us) (f:us.length=rows.length) (m:op.length<=64) (j:∀r∈rows,fh op.length r=true):BC h (fun b=>b<h.size) a l o u rows rs op us:=
 ⟨e.box.cell0 rfl,e.box.cell rfl,e.box.cell rfl,e.box.lt,(q.ai k.ai).mono fun b g=>qV g k.ai.1,n.XU fun _=>rfl,p.XU fun _=>rfl,f,fun r d=>Lc (j r d),fun r d=>acg (j r d) (by omega)⟩
theorem ach(n:Int)(l:Sl)(rows:List (List Int))(rs:List Sl)(h:Heap)(hl:gO h (fun b=>b<h.size) l 1 aD rows rs)(hs:rows.length<=2^30)(ei:∀r∈rows,r.length<=2^40):
  ae xl Ry #[vX xh n,vY l.ptr l.len l.cap] h fun v h'=>aht h h' v (jt n rows) (EP n rows).1 (EP n rows).2.1 (EP n rows).2.2:=by
 refine OZ n l ?_;unfold HL;have ew:=hl.Sr;refine uB af (mE.refl h) 1 rfl fun a1 h1 b6 d6=>?_;have E:=(mE.refl h).keep (m:=1) d6 (by decide);refine(Pu n l rows rs h1 (hl.ai E.ai) (by omega) ei).mono ?_;rintro v h2 ⟨rfl,rfl⟩;refine⟨_,rfl,?_⟩;refine bi (fun hr=>?_) (fun hr=>?_)
 ·refine b6.jS af rfl _ rfl rfl rfl (ql _) fun h3 ay D=>?_;refine⟨(⟨none,0,0⟩,⟨none,0,0⟩,⟨none,0,0⟩),ay.box.aO _ rfl,?_⟩;refine⟨⟨none,0,0⟩,⟨none,0,0⟩,⟨none,0,0⟩,by rw[hr],?_⟩;simp only[EP,hr,ze,if_false];exact(((Sp.zip (E.keep (m:=1) D (by decide)).ai).nil cS 2 fi).nil aT 1 aD).nil aT 1 aD
 ·obtain⟨eq,e3,ch⟩:=aga hr;obtain⟨N,rfl⟩:∃N:Nat,n=N:=⟨n.toNat,by omega⟩
  have hN:N<=64:=by omega
  refine co (fun s h'=>∃c a o u,s=some a/\mE h h' c/\kj h' c 1 a1 nl [vY none 0 0,vY none 0 0,vY none 0 0]/\kj h' c 2 a mu [vY l.ptr l.len l.cap,vY o.ptr o.len o.cap,vY u.ptr u.len u.cap]/\
   dt h' c 3 gA o 1 ey (qh N false)/\dt h' c 4 gA u 1 ey (qh rows.length false)) ⟨?_,?_⟩ ?_
  ·refine AU af E 3 ey ⟨_,_,rfl,rfl,rfl,rfl,rfl,rfl⟩ (by decide) false rfl rfl N rfl rfl (by omega) fun o h3 ho D=>?_;refine⟨trivial,?_⟩;refine AU af (E.keep (m:=3) D (by decide)) 4 ey ⟨_,_,rfl,rfl,rfl,rfl,rfl,rfl⟩ (by decide) false rfl rfl rows.length (by omega) (by omega) (by omega) fun u h4 hu H=>?_;refine⟨trivial,?_⟩;refine Sv _ ((E.keep (m:=3) D (by decide)).keep (m:=4) H (by decide)) 2 fun a h5 ha A=>?_;exact⟨trivial,_,a,o,u,rfl,((E.keep D (by decide)).keep H (by decide)).keep A (by decide),((b6.keep D (by decide)).keep H (by decide)).keep A (by decide),ha,(ho.keep H (by decide)).keep A (by decide),hu.keep A (by decide)⟩
  ·refine AU af E 4 ey ⟨_,_,rfl,rfl,rfl,rfl,rfl,rfl⟩ (by decide) false rfl rfl rows.length (by omega) (by omega) (by omega) fun u h3 hu D=>?_;refine⟨trivial,?_⟩;refine AU af (E.keep (m:=4) D (by decide)) 3 ey ⟨_,_,rfl,rfl,rfl,rfl,rfl,rfl⟩ (by decide) false rfl rfl N rfl rfl (by omega) fun o h4 ho H=>?_;refine⟨trivial,?_⟩;refine Sv _ ((E.keep (m:=4) D (by decide)).keep (m:=3) H (by decide)) 2 fun a h5 ha A=>?_;exact⟨trivial,_,a,o,u,rfl,((E.keep D (by decide)).keep H (by decide)).keep A (by decide),((b6.keep D (by decide)).keep H (by decide)).keep A (by decide),ha,ho.keep A (by decide),(hu.keep H (by decide)).keep A (by decide)⟩
  ·rintro s h3 ⟨c,a,o,u,rfl,c2,bd,ay,ao,c8⟩;refine⟨a,rfl,o,ay.box.cell rfl,?_⟩;have e0:o.len=N:=by rw[ao.own.len];simp
   refine aw (fun t:Nat×(Nat->Nat)=>(t.1:Int)) (fun t h'=>t.1<=N/\mE h h' t.2/\kj h' t.2 1 a1 nl [vY none 0 0,vY none 0 0,vY none 0 0]/\kj h' t.2 2 a mu [vY l.ptr l.len l.cap,vY o.ptr o.len o.cap,vY u.ptr u.len u.cap]/\
    dt h' t.2 3 gA o 1 ey (qh t.1 true++qh (N-t.1) false)/\dt h' t.2 4 gA u 1 ey (qh rows.length false)) (fun t=>N-t.1) (0,c) rfl ⟨by simp,c2,bd,ay,by simpa using ao,c8⟩ ?_
   rintro⟨k,c⟩ h4 ⟨hk,bl,b7,b0,bk,b2⟩;dsimp only at*;refine ak (fun d2=>?_) (fun d3=>?_)
   ·have ea:k<N:=by omega
    refine⟨a,rfl,o,b0.box.cell rfl,?_⟩;refine bk.set af (fun _=>rfl) rfl k rfl (by simp;omega) true rfl rfl rfl fun h5 bq A=>?_;rw[Go.Vc.wrap_small _ (by omega) (by omega)];rw[aen _ _ ea]at bq;exact⟨(k+1,_),by simp,⟨by simp;omega,bl.keep A (by decide),b7.keep A (by decide),b0.keep A (by decide),bq,b2.keep A (by decide)⟩,by simp;omega⟩
   ·have ed:k=N:=by omega
    subst ed;simp only[zj,List.replicate_zero,qQ]at bk;refine uB af bl 5 rfl fun ap h5 d0 A=>?_;have ec:=bl.keep (m:=5) A (by decide);have eh:=b7.keep (m:=5) A (by decide);have d5:=b0.keep (m:=5) A (by decide);have bq:=bk.keep (m:=5) A (by decide);have dr:=b2.keep (m:=5) A (by decide);clear bl b7 b0 bk b2 c2 bd ay ao c8;generalize grow c h4.size 5=c5 at*;refine aw (τ:=Nat×List Bool×List Bool×(List (Int×Int))×List Int×(Nat->Nat)×Sl×Sl) (fun _=>())
     (fun⟨f,op,us,st,dd,c,U,ds⟩ h'=>op.length=k/\us.length=rows.length/\op.count true<=f/\f<=k/\st.length<=k-f/\dd.length<=k-f/\
      (∃r,cm rows f op us=r/\dn k rows=⟨st++r.steps,dd++r.dead,r.used⟩)/\mE h h' c/\
      kj h' c 1 a1 nl [vY none 0 0,vY none 0 0,vY none 0 0]/\kj h' c 2 a mu [vY l.ptr l.len l.cap,vY o.ptr o.len o.cap,vY u.ptr u.len u.cap]/\
      dt h' c 3 gA o 1 ey op/\dt h' c 4 gA u 1 ey us/\
      kj h' c 5 ap nl [vY U.ptr U.len U.cap,vY ds.ptr ds.len ds.cap,vY none 0 0]/\dt h' c 6 cS U 2 fi st/\dt h' c 7 aT ds 1 aD dd)
     (fun t=>t.1) (k,qh k true,qh rows.length false,[],[],c5,⟨none,0,0⟩,⟨none,0,0⟩) rfl
     ⟨by simp,by simp,by simp,by simp,by simp,by simp,⟨_,rfl,by simp[dn]⟩,ec,eh,d5,bq,dr,d0,dt.nil _ _ _ _ _ _,dt.nil _ _ _ _ _ _⟩ ?_
    rintro⟨f,op,us,st,dd,c,U,ds⟩ h6 ⟨a9,I,en,er,ep,el,⟨r,ah,bb⟩,J,a3,P,ad,R,K,L,M⟩;dsimp only at*;have G:∀r∈rows,fh op.length r=true:=by rw[a9];exact ch
    have a5:=US hl J P ad R I (by omega) G;refine⟨a,rfl,o,P.box.cell rfl,?_⟩;refine(Iu o op true h6 (ad.XU fun _=>rfl) (by omega)).mono ?_;rintro v h7 ⟨rfl,rfl⟩;refine⟨_,rfl,?_⟩;refine bi (fun hc=>?_) (fun hc=>?_)
    ·have ab:op.contains true=false:=by simpa using hc
     have bd:r=⟨[],[],us⟩:=by rw[<-ah];exact Be ab f
     subst bd;simp only[qQ]at bb;refine⟨a,rfl,u,P.box.cell rfl,?_⟩;have et:u.len=rows.length:=by rw[R.own.len,I]
     refine aw (fun t:Nat×(Nat->Nat)×Sl=>(t.1:Int)) (fun⟨j,c,fs⟩ h'=>j<=rows.length/\mE h h' c/\
      kj h' c 1 a1 nl [vY none 0 0,vY none 0 0,vY none 0 0]/\dt h' c 4 gA u 1 ey us/\
      kj h' c 5 ap nl [vY U.ptr U.len U.cap,vY ds.ptr ds.len ds.cap,vY fs.ptr fs.len fs.cap]/\dt h' c 6 cS U 2 fi st/\dt h' c 7 aT ds 1 aD dd/\dt h' c 8 aT fs 1 aD (fd us j)) (fun t=>rows.length-t.1) (0,c,⟨none,0,0⟩) rfl
      ⟨by simp,J,a3,R,K,L,M,dt.nil _ _ _ _ _ _⟩ ?_
     rintro⟨j,c,fs⟩ h8 ⟨hj,br,b4,cc,V,am,a2,a7⟩;dsimp only at*;refine ak (fun d2=>?_) (fun d3=>?_)
     ·have es:j<rows.length:=by omega
      have e1:(fd us j).length<=j:=IZ us j;refine(cc.XU fun _=>rfl).bz j rfl (by omega) _ rfl ?_;have cs:us.getD j false=us[j]:=Lb (by omega);rw[Go.Vc.wrap_small _ (by omega) (by omega)];refine bi (fun hb=>?_) (fun hb=>?_)
      ·refine⟨fs,V.box.cell rfl,?_⟩;refine Ki af br 9 aD ⟨_,_,rfl,rfl,rfl,rfl,rfl,rfl⟩ rfl [(j:Int)] rfl (zE rfl) rfl fun v h9 dk p=>?_;refine(a7.keep (m:=9) p (by decide)).append af ⟨_,_,rfl,rfl,rfl,rfl,rfl,rfl⟩ ⟨_,_,rfl,rfl⟩ rfl (by decide) (fun _=>rfl) (dk.seq fun _=>rfl) jp (by simp;omega) fun d4 b3 cd g=>?_;refine((V.keep (m:=9) p (by decide)).keep (m:=8) g (by decide)).store af rfl 2 _ rfl rfl rfl (zE rfl) fun c9 cf d=>?_;refine⟨(j+1,_,d4),by simp,⟨by simp;omega,((br.keep p (by decide)).keep g (by decide)).keep d (by decide),((b4.keep p (by decide)).keep g (by decide)).keep d (by decide),((cc.keep p (by decide)).keep g (by decide)).keep d (by decide),cf,
        ((am.keep p (by decide)).keep g (by decide)).keep d (by decide),((a2.keep p (by decide)).keep g (by decide)).keep d (by decide),?_⟩,by simp;omega⟩
       have e:fd us (j+1)=fd us j++[(j:Int)]:=by rw[fd,cs,hb];rfl
       rw[e];exact cd.keep d (by decide)
      ·have e:fd us (j+1)=fd us j:=by rw[fd,cs,hb];rfl
       exact⟨(j+1,c,fs),by simp,⟨by simp;omega,br,b4,cc,V,am,a2,by rw[e];exact a7⟩,by simp;omega⟩
     ·have dy:j=rows.length:=by omega
      subst dy;refine⟨(U,ds,fs),V.box.aO _ rfl,?_⟩;refine b4.jS af rfl _ rfl rfl rfl (ql _) fun h9 d1 p=>?_;refine⟨(U,ds,fs),d1.box.aO _ rfl,?_⟩;refine⟨U,ds,fs,by rw[hr],?_⟩;simp only[EP,hr,if_true,qo,bb];exact afZ (br.keep (m:=1) p (by decide)) (am.keep (m:=1) p (by decide)) (a2.keep (m:=1) p (by decide)) (a7.keep (m:=1) p (by decide))
    ·have ab:op.contains true=true:=by simpa using hc
     obtain⟨f',rfl⟩:∃f',f=f'+1:=by
      obtain⟨j,hj,e⟩:=GS ab;have:=kp e;exact⟨f-1,by omega⟩
     refine aX ?_;refine(RO a l o u rows rs op us h7 a5 (by omega)).mono ?_;rintro v h8 ⟨z,rfl⟩;have z:=z.bp c 9;cases hst:mq rows op us with
     |some i=>
      obtain⟨hi,d8⟩:=uH hst;obtain⟨e2,du,ao⟩:=Ed d8;have cq:rows.getD i []=rows[i]:=by rw[qe,qd hi];rfl
      have eo:=Lc (G _ (qg hi)) _ (cq▸du);refine⟨((i,eC rows op i),true),rfl,?_⟩;dsimp only;refine uB af (J.keep (m:=9) z (by decide)) 9 rfl fun ax h9 has p=>?_;refine has.jS af rfl _ rfl rfl rfl (ql _) fun b3 O g=>?_;refine NV rfl ?_;have F:=((J.keep (m:=9) z (by decide)).keep (m:=9) p (by decide)).keep (m:=9) g (by decide);have a0:=((a3.keep (m:=9) z (by decide)).keep (m:=9) p (by decide)).keep (m:=9) g (by decide);have Z:=((P.keep (m:=9) z (by decide)).keep (m:=9) p (by decide)).keep (m:=9) g (by decide);have Y:=((ad.keep (m:=9) z (by decide)).keep (m:=9) p (by decide)).keep (m:=9) g (by decide);have W:=((R.keep (m:=9) z (by decide)).keep (m:=9) p (by decide)).keep (m:=9) g (by decide);have B:=((K.keep (m:=9) z (by decide)).keep (m:=9) p (by decide)).keep (m:=9) g (by decide);have Q:=((L.keep (m:=9) z (by decide)).keep (m:=9) p (by decide)).keep (m:=9) g (by decide);have T:=((M.keep (m:=9) z (by decide)).keep (m:=9) p (by decide)).keep (m:=9) g (by decide);clear J a3 P ad R K L M z p has a5;generalize grow (grow (grow c h7.size 9) h8.size 9) h9.size 9=c10 at*;refine⟨U,B.box.cell0 rfl,(_,_),O.box.aO _ rfl,?_⟩;dsimp only;refine Ki af F 10 fi ⟨_,_,rfl,rfl,rfl,rfl,rfl,rfl⟩ rfl [((i:Int),eC rows op i)] rfl (zE rfl) rfl fun v c9 cp d=>?_;refine(Q.keep (m:=10) d (by decide)).append af ⟨_,_,rfl,rfl,rfl,rfl,rfl,rfl⟩ ⟨_,_,rfl,rfl⟩ rfl (by decide) (fun _=>rfl) (cp.seq fun _=>rfl) aem (by simp;omega) fun ef ej b9 q=>?_;refine((B.keep (m:=10) d (by decide)).keep (m:=6) q (by decide)).jS af rfl _ rfl rfl rfl (zE rfl) fun eb b1 y=>?_;have S:=((O.keep (m:=10) d (by decide)).keep (m:=6) q (by decide)).keep (m:=5) y (by decide);have a4:=((Z.keep (m:=10) d (by decide)).keep (m:=6) q (by decide)).keep (m:=5) y (by decide);have c4:=((W.keep (m:=10) d (by decide)).keep (m:=6) q (by decide)).keep (m:=5) y (by decide);have c0:=((Y.keep (m:=10) d (by decide)).keep (m:=6) q (by decide)).keep (m:=5) y (by decide);refine⟨a,rfl,u,a4.box.cell rfl,(i:Int),S.box.cell0 rfl,a,rfl,o,a4.box.cell rfl,eC rows op i,S.box.cell rfl,?_⟩;refine c4.set af (fun _=>rfl) rfl i rfl (by omega) true rfl rfl rfl fun d7 cr x=>?_;have a8:=S.keep (m:=4) x (by decide);have X:=a4.keep (m:=4) x (by decide);refine⟨⟨a8.box.cell rfl,trivial⟩,?_⟩;refine(c0.keep (m:=4) x (by decide)).set af (fun _=>rfl) rfl (eC rows op i).toNat (by omega) (by omega) false rfl rfl rfl fun da a6 w=>?_;have ek:=a8.keep (m:=3) w (by decide);have c1:=X.keep (m:=3) w (by decide);refine⟨trivial,?_⟩;have d9:=kp (op:=op) (j:=(eC rows op i).toNat) ao;rw[oL ab hst]at ah;refine⟨(f',op.set (eC rows op i).toNat false,us.set i true,st++[((i:Int),eC rows op i)],dd,_,ef,ds),rfl,⟨by simp[a9],by simp[I],by dsimp only;omega,by dsimp only;omega,by simp;omega,by dsimp only;omega,⟨_,rfl,?_⟩,
       ((((F.keep d (by decide)).keep q (by decide)).keep y (by decide)).keep x (by decide)).keep w (by decide),
       ((((a0.keep d (by decide)).keep q (by decide)).keep y (by decide)).keep x (by decide)).keep w (by decide),
       c1,a6,cr.keep w (by decide),(b1.keep x (by decide)).keep w (by decide),((b9.keep y (by decide)).keep x (by decide)).keep w (by decide),
       ((((T.keep d (by decide)).keep q (by decide)).keep y (by decide)).keep x (by decide)).keep w (by decide)⟩,by dsimp only;omega⟩
      rw[bb,<-ah];simp
     |none=>
      have dx:=sY (rows:=rows) (us:=us) ab;refine⟨((0,0),false),rfl,?_⟩;dsimp only;refine uB af (J.keep (m:=9) z (by decide)) 9 rfl fun ax h9 has p=>?_;refine has.jS af rfl _ rfl rfl rfl (ql _) fun b3 O g=>?_;refine DO rfl ?_;have F:=((J.keep (m:=9) z (by decide)).keep (m:=9) p (by decide)).keep (m:=9) g (by decide);have a0:=((a3.keep (m:=9) z (by decide)).keep (m:=9) p (by decide)).keep (m:=9) g (by decide);have Z:=((P.keep (m:=9) z (by decide)).keep (m:=9) p (by decide)).keep (m:=9) g (by decide);have Y:=((ad.keep (m:=9) z (by decide)).keep (m:=9) p (by decide)).keep (m:=9) g (by decide);have W:=((R.keep (m:=9) z (by decide)).keep (m:=9) p (by decide)).keep (m:=9) g (by decide);have B:=((K.keep (m:=9) z (by decide)).keep (m:=9) p (by decide)).keep (m:=9) g (by decide);have Q:=((L.keep (m:=9) z (by decide)).keep (m:=9) p (by decide)).keep (m:=9) g (by decide);have T:=((M.keep (m:=9) z (by decide)).keep (m:=9) p (by decide)).keep (m:=9) g (by decide);clear J a3 P ad R K L M z p has a5;generalize grow (grow (grow c h7.size 9) h8.size 9) h9.size 9=c10 at*;have a5:=US hl F Z Y W I (by omega) G;refine(RP a l o u rows rs op us b3 a5 (by omega) (by omega)).mono ?_;rintro v c9 ⟨d,rfl⟩;have d:=d.bp c10 9;refine⟨_,rfl,?_⟩;refine⟨ds,(B.keep (m:=9) d (by decide)).box.cell rfl,?_⟩;refine Ki af (F.keep (m:=9) d (by decide)) 10 aD ⟨_,_,rfl,rfl,rfl,rfl,rfl,rfl⟩ rfl [gy rows op us] rfl (zE rfl) rfl fun v ej c6 q=>?_;refine((T.keep (m:=9) d (by decide)).keep (m:=10) q (by decide)).append af ⟨_,_,rfl,rfl,rfl,rfl,rfl,rfl⟩ ⟨_,_,rfl,rfl⟩ rfl (by decide) (fun _=>rfl) (c6.seq fun _=>rfl) jp (by simp;omega) fun eg eb b5 y=>?_;refine(((B.keep (m:=9) d (by decide)).keep (m:=10) q (by decide)).keep (m:=7) y (by decide)).store af rfl 1 _ rfl rfl rfl (zE rfl) fun d7 cn x=>?_;have X:=(((Z.keep (m:=9) d (by decide)).keep (m:=10) q (by decide)).keep (m:=7) y (by decide)).keep (m:=5) x (by decide);have c7:=(((Y.keep (m:=9) d (by decide)).keep (m:=10) q (by decide)).keep (m:=7) y (by decide)).keep (m:=5) x (by decide);refine⟨a,rfl,o,X.box.cell rfl,?_⟩;refine c7.set af (fun _=>rfl) rfl (gy rows op us).toNat (by omega) (by omega) false rfl rfl rfl fun da a6 w=>?_;have d9:=kp (op:=op) (j:=(gy rows op us).toNat) dx.2.2;rw[oM ab hst]at ah;refine⟨(f',op.set (gy rows op us).toNat false,us,st,dd++[gy rows op us],_,U,eg),rfl,⟨by simp[a9],I,by dsimp only;omega,by dsimp only;omega,by dsimp only;omega,by simp;omega,⟨_,rfl,?_⟩,
       ((((F.keep d (by decide)).keep q (by decide)).keep y (by decide)).keep x (by decide)).keep w (by decide),
       ((((a0.keep d (by decide)).keep q (by decide)).keep y (by decide)).keep x (by decide)).keep w (by decide),
       X.keep w (by decide),a6,((((W.keep d (by decide)).keep q (by decide)).keep y (by decide)).keep x (by decide)).keep w (by decide),cn.keep w (by decide),
       ((((Q.keep d (by decide)).keep q (by decide)).keep y (by decide)).keep x (by decide)).keep w (by decide),
       (b5.keep x (by decide)).keep w (by decide)⟩,by dsimp only;omega⟩
      rw[bb,<-ah];simp
theorem NF(pool:List (Sl×Row))(d:(⟨none,0,0⟩,[])∈pool)(n:Nat):gJ pool id (qh n ⟨none,0,0⟩) (qh n []):=
 ⟨by simp,fun i r l a b=>by
  rw[zY]at a b;split at a
  ·rename_i c;rw[if_pos c]at b;cases a;cases b;exact d
  ·cases a⟩
theorem aa.agb{B:aA}{b h:Heap}{As:List HP}(H:aa B b h As)(i:Nat){pool:List (Sl×Row)}(d:As[i]?=some (kG pool)):aa B b h (As.set i (kG ((⟨none,0,0⟩,[])::pool))):=
 H.gq i d fun q c x a=>by
  rcases za.1 a with rfl|a
  ·exact Seq.nil _ _ _ _ _ _
  ·exact c x a
structure ZB (h:Heap) (f:Addr) (r st dd lf:Sl) (rr:List (Sl×Sl)) (R:List eK) (ST:List (Int×Int)) (D L:List Int):Prop where
 field:gI h f
 rest:nX jc 2 qv h r rr R
 steps:Rd h st 2 fi ST
 dead:Rd h dd 1 aD D
 left:Rd h lf 1 aD L
abbrev SA(s:Addr)(a:List Value):HP:=aq s Bl a
abbrev HA(s:Sl)(rs:List Sl):HP:=an aH s 1 bQ rs
abbrev RA(s:Sl)(l:Row):HP:=an aC s 1 aB l
theorem QF{R:List (List Int)}:∀{l1 l2:List (Int×Int)} {D:Int->Prop},ta R D (l1++l2)->ta R D l1/\ta R (fun x=>D x∨∃i,(i,x)∈l1) l2
 |[],l2,D,h=>⟨trivial,by
  have:(fun x=>D x∨∃i,(i,x)∈([]:List (Int×Int)))=D:=by funext x;simp
  rw[this];exact h⟩
 |(i,c)::l1,l2,D,h=>by
  obtain⟨a,b,g,d,e⟩:=h;obtain⟨k,f⟩:=QF e;refine⟨⟨a,b,g,d,k⟩,?_⟩;have:(fun x=>D x∨∃j,(j,x)∈(i,c)::l1)=fun x=>(D x∨x=c)∨∃j,(j,x)∈l1:=by
   funext x;simp only[za,Prod.mk.injEq,eq_iff_iff];constructor
   ·rintro(h|⟨j,⟨_,h⟩|h⟩)
    ·exact .inl (.inl h)
    ·exact .inl (.inr h)
    ·exact .inr ⟨j,h⟩
   ·rintro((h|h)|⟨j,h⟩)
    ·exact .inl h
    ·exact .inr ⟨i,.inl ⟨rfl,h⟩⟩
    ·exact .inr ⟨j,.inr h⟩
  rw[this];exact f
section
variable {B:aA} {h0 h:Heap} {As:List HP}
theorem WK(s f:Addr)(p:Int×Int×Int)(v r V dd Y S P:Sl)(n:Nat)(pool:List (Sl×Row))(H:aa B h0 h (SA s (fU f p v r V dd Y S P)::kG pool::As))(m:v.len=n)(hn:n<=64){K:Unit->Heap->Prop}
  (O:∀d c h',d.len=n->c.len=n->aa B h0 h' (SA s (fU f p v r V dd Y d c)::HA d (qh n ⟨none,0,0⟩)::HA c (qh n ⟨none,0,0⟩)::kG pool::As)->K () h'):(fun(e:Option Addr) (Q:Unit->Heap->Prop)=>
 ∃a3:Addr,(e=some a3)/\
 ∃b:Sl,cellOf h (a3.add 4)=some (vY b.ptr b.len b.cap)/\
 ∃a5:Addr,(e=some a5)/\
 ∃a:Sl,cellOf h (a5.add 4)=some (vY a.ptr a.len a.cap)/\
 (av xl (qD dz (vX xh ((b.len:Nat):Int)) (vX xh ((b.len:Nat):Int))) (.one (.sc .slc)) h fun y A=>
 (ar.ok [(a5.add 4,(vY a.ptr a.len a.cap)),(a3.add 4,(vY b.ptr b.len b.cap))] A)/\
 ∃N:Addr,(e=some N)/\
 (av xl (qD dz (vX xh ((a.len:Nat):Int)) (vX xh ((a.len:Nat):Int))) (.one (.sc .slc)) A fun v9 z=>
 (ar.ok [(a5.add 4,(vY a.ptr a.len a.cap)),(a3.add 4,(vY b.ptr b.len b.cap))] z)/\
 ac xl (qf dz (vZ (some (N.add 9))) (vY y.ptr y.len y.cap)) z fun _ h3=>
 (ar.ok [] h3)/\
 ∃D:Addr,(e=some D)/\
 ac xl (qf dz (vZ (some (D.add 10))) (vY v9.ptr v9.len v9.cap)) h3 fun _ q=>
 (ar.ok [] q)/\
 Q () q)/\(ac xl (qf dz (vZ (some (N.add 9))) (vY y.ptr y.len y.cap)) A fun _ W=>
 (ar.ok [] W)/\
 av xl (qD dz (vX xh ((a.len:Nat):Int)) (vX xh ((a.len:Nat):Int))) (.one (.sc .slc)) W fun w X=>
 (ar.ok [] X)/\
 ∃I:Addr,(e=some I)/\
 ac xl (qf dz (vZ (some (I.add 10))) (vY w.ptr w.len w.cap)) X fun _ T=>
 (ar.ok [] T)/\
 Q () T))/\(av xl (qD dz (vX xh ((a.len:Nat):Int)) (vX xh ((a.len:Nat):Int))) (.one (.sc .slc)) h fun t h8=>
 (ar.ok [(a5.add 4,(vY a.ptr a.len a.cap)),(a3.add 4,(vY b.ptr b.len b.cap))] h8)/\
 av xl (qD dz (vX xh ((b.len:Nat):Int)) (vX xh ((b.len:Nat):Int))) (.one (.sc .slc)) h8 fun x U=>
 (ar.ok [(a5.add 4,(vY a.ptr a.len a.cap)),(a3.add 4,(vY b.ptr b.len b.cap))] U)/\
 ∃M:Addr,(e=some M)/\
 ac xl (qf dz (vZ (some (M.add 9))) (vY x.ptr x.len x.cap)) U fun _ G=>
 (ar.ok [] G)/\
 ∃E:Addr,(e=some E)/\
 ac xl (qf dz (vZ (some (E.add 10))) (vY t.ptr t.len t.cap)) G fun _ J=>
 (ar.ok [] J)/\
 Q () J)) (some s) K:=by
 have Z:=H.box 0 rfl;refine⟨s,rfl,v,Z.cell rfl,s,rfl,v,Z.cell rfl,?_,?_⟩
 ·refine H.make af bQ fJ (by decide) ⟨none,0,0⟩ rfl rfl n n (by rw[m]) (by rw[m]) (ql _) (by omega) fun d A o R l=>?_;have l:=l.bM;have i:=l.box 1 rfl;refine⟨⟨i.cell rfl,i.cell rfl,trivial⟩,s,rfl,?_,?_⟩
  ·refine l.make af bQ fJ (by decide) ⟨none,0,0⟩ rfl rfl n n (by rw[m]) (by rw[m]) (ql _) (by omega) fun c z g L j=>?_;have j:=j.bM;have k:=j.box 2 rfl;refine⟨⟨k.cell rfl,k.cell rfl,trivial⟩,?_⟩;refine j.store af 2 rfl rfl 9 [vY d.ptr d.len d.cap] rfl rfl rfl (by simp[fU]) fun h3 u=>⟨trivial,s,rfl,?_⟩
   refine u.store af 2 rfl rfl 10 [vY c.ptr c.len c.cap] rfl rfl rfl (by simp[fU]) fun q F=>⟨trivial,?_⟩
   exact O d c q o g (F.bo 4 [2,1,0,3])
  ·refine l.store af 1 rfl rfl 9 [vY d.ptr d.len d.cap] rfl rfl rfl (by simp[fU]) fun z j=>⟨trivial,?_⟩
   refine j.make af bQ fJ (by decide) ⟨none,0,0⟩ rfl rfl n n (by rw[m]) (by rw[m]) (ql _) (by omega) fun c h3 g L u=>⟨trivial,s,rfl,?_⟩
   have u:=u.bM;refine u.store af 2 rfl rfl 10 [vY c.ptr c.len c.cap] rfl rfl rfl (by simp[fU]) fun q F=>⟨trivial,?_⟩
   exact O d c q o g (F.bo 4 [2,1,0,3])
 ·refine H.make af bQ fJ (by decide) ⟨none,0,0⟩ rfl rfl n n (by rw[m]) (by rw[m]) (ql _) (by omega) fun c A o R l=>?_;have l:=l.bM;have i:=l.box 1 rfl;refine⟨⟨i.cell rfl,i.cell rfl,trivial⟩,?_⟩;refine l.make af bQ fJ (by decide) ⟨none,0,0⟩ rfl rfl n n (by rw[m]) (by rw[m]) (ql _) (by omega) fun d z g L j=>?_;have j:=j.bM;have k:=j.box 2 rfl;refine⟨⟨k.cell rfl,k.cell rfl,trivial⟩,s,rfl,?_⟩;refine j.store af 2 rfl rfl 9 [vY d.ptr d.len d.cap] rfl rfl rfl (by simp[fU]) fun h3 u=>⟨trivial,s,rfl,?_⟩
  refine u.store af 2 rfl rfl 10 [vY c.ptr c.len c.cap] rfl rfl rfl (by simp[fU]) fun q F=>⟨trivial,?_⟩
  exact O d c q g o (F.bo 4 [2,0,1,3])
end
section
variable {B:aA} {h0 h:Heap} {As:List HP}
theorem aci(n nd w:Nat)(d:List Int):(fw n nd w d).1.length=n/\(fw n nd w d).2.length=n:=by
 unfold fw;have:∀(l:List (Int×Nat)) (s:aS×aS),(l.foldl (fun s p=>(s.1.set p.1.toNat (ot nd p.2),s.2.set p.1.toNat (aL w))) s).1.length=s.1.length/\(l.foldl (fun s p=>(s.1.set p.1.toNat (ot nd p.2),s.2.set p.1.toNat (aL w))) s).2.length=s.2.length:=by
  intro l
  induction l with
  |nil=>intro s;exact⟨rfl,rfl⟩
  |cons a l ih=>intro s;rw[zD];have:=ih (s.1.set a.1.toNat (ot nd a.2),s.2.set a.1.toNat (aL w));simpa using this
 have:=this d.zipIdx (qh n [],qh n []);simpa using this
abbrev Told(s f:Addr)(p:Int×Int×Int)(v r e h g a b:Sl)(d c:List Sl)(i:List (Sl×Row)):List HP:=[SA s (fU f p v r e h g a b),HA a d,HA b c,kG i]
theorem ZC(s f:Addr)(p:Int×Int×Int)(v r st S lf wa M:Sl)(I mr:List Sl)(pl:List (Sl×Row))(c:Int)(nd w:Nat)(H:aa B h0 h (Told s f p v r st S lf wa M I mr pl++As))(ay:0<=c)(hw:c.toNat<I.length)(hm:c.toNat<mr.length)(X:p.2.2=w)(hd:S.len=nd)(ax:nd<=64)(P:w<=2^20){K:Unit->Heap->Prop}
  (hk:∀a b h',aa B h0 h' (RA a (aL nd)::RA b (aL w)::(Told s f p v r st S lf wa M (I.set c.toNat a) (mr.set c.toNat b) pl++As))->K () h'):(fun(Q:Option Addr) (K3:Unit->Heap->Prop)=>
 ∃n:Addr,(Q=some n)/\
 ∃g:Sl,cellOf h (n.add 9)=some (vY g.ptr g.len g.cap)/\
 ∃a25:Addr,(Q=some a25)/\
 ∃d:Sl,cellOf h (a25.add 10)=some (vY d.ptr d.len d.cap)/\
 ∃O:Addr,(Q=some O)/\
 ∃j:Int,cellOf h ((O.add 1).add 2)=some (vX xh j)/\
 (av xl (qD aH (vX xh ((S.len:Nat):Int)) (vX xh ((S.len:Nat):Int))) (.one (.sc .slc)) h fun l R=>
 (ar.ok [((O.add 1).add 2,(vX xh j)),(a25.add 10,(vY d.ptr d.len d.cap)),(n.add 9,(vY g.ptr g.len g.cap))] R)/\
 ∃J:Addr,(g.ptr=some J/\0<=c/\c<((g.len:Nat):Int))/\
 (av xl (qD aH (vX xh j) (vX xh j)) (.one (.sc .slc)) R fun V Z=>
 (ar.ok [(a25.add 10,(vY d.ptr d.len d.cap)),(n.add 9,(vY g.ptr g.len g.cap))] Z)/\
 ac xl (qf aH (vZ (some (J.add (c.toNat*1)))) (vY l.ptr l.len l.cap)) Z fun _ u=>
 (ar.ok [] u)/\
 ∃t:Addr,(d.ptr=some t/\0<=c/\c<((d.len:Nat):Int))/\
 ac xl (qf aH (vZ (some (t.add (c.toNat*1)))) (vY V.ptr V.len V.cap)) u fun _ D=>
 (ar.ok [] D)/\
 K3 () D)/\(ac xl (qf aH (vZ (some (J.add (c.toNat*1)))) (vY l.ptr l.len l.cap)) R fun _ A=>
 (ar.ok [] A)/\
 av xl (qD aH (vX xh j) (vX xh j)) (.one (.sc .slc)) A fun k F=>
 (ar.ok [] F)/\
 ∃z:Addr,(d.ptr=some z/\0<=c/\c<((d.len:Nat):Int))/\
 ac xl (qf aH (vZ (some (z.add (c.toNat*1)))) (vY k.ptr k.len k.cap)) F fun _ q=>
 (ar.ok [] q)/\
 K3 () q))/\(av xl (qD aH (vX xh j) (vX xh j)) (.one (.sc .slc)) h fun L ab=>
 (ar.ok [(a25.add 10,(vY d.ptr d.len d.cap)),(n.add 9,(vY g.ptr g.len g.cap))] ab)/\
 av xl (qD aH (vX xh ((S.len:Nat):Int)) (vX xh ((S.len:Nat):Int))) (.one (.sc .slc)) ab fun W ad=>
 (ar.ok [(a25.add 10,(vY d.ptr d.len d.cap)),(n.add 9,(vY g.ptr g.len g.cap))] ad)/\
 ∃ah:Addr,(g.ptr=some ah/\0<=c/\c<((g.len:Nat):Int))/\
 ac xl (qf aH (vZ (some (ah.add (c.toNat*1)))) (vY W.ptr W.len W.cap)) ad fun _ ao=>
 (ar.ok [] ao)/\
 ∃am:Addr,(d.ptr=some am/\0<=c/\c<((d.len:Nat):Int))/\
 ac xl (qf aH (vZ (some (am.add (c.toNat*1)))) (vY L.ptr L.len L.cap)) ao fun _ ap=>
 (ar.ok [] ap)/\
 K3 () ap)) (some s) K:=by
 have hb:=H.box 0 rfl;have mk:∀{Y:Heap} {Cs:List HP} (m:Nat) (hm:m<=2^20) {z1 z2:Int},z1=(m:Int)->z2=(m:Int)->aa B h0 Y Cs->∀{K:Sl->Heap->Prop},(∀a h',aa B h0 h' (RA a (aL m)::Cs)->K a h')->
   av xl (qD aH (vX xh z1) (vX xh z2)) (.one (.sc .slc)) Y K:=by
  intro Y Cs m hm z1 z2 e1 e2 G K hK;subst e1;subst e2;exact G.make af aB fX (by decide) 0 rfl rfl m m rfl rfl (ql _) (by omega) fun a h' _ _ H'=>hK a h' H'.bM
 refine⟨s,rfl,wa,hb.cell rfl,s,rfl,M,hb.cell rfl,s,rfl,p.2.2,show cellOf h (s.add 3)=_ from hb.cell rfl,?_,?_⟩
 ·refine mk nd (by omega) (by rw[hd]) (by rw[hd]) H fun a Y G=>?_;have o:=G.box 1 rfl;refine⟨⟨show cellOf Y (s.add 3)=_ from o.cell rfl,o.cell rfl,o.cell rfl,trivial⟩,?_⟩;have E:∀{h2:Heap} {Cs:List HP} {I:List Sl} (i:Nat) (a:Sl) {s':Sl},aa B h0 h2 Cs->Cs[i]?=some (HA s' I)->c.toNat<I.length->∀{K:Heap->Prop},(∀h',aa B h0 h' (Cs.set i (HA s' (I.set c.toNat a)))->K h')->∃x:Addr,(s'.ptr=some x/\0<=c/\c<((s'.len:Nat):Int))/\ac xl (qf aH (vZ (some (x.add (c.toNat*1)))) (vY a.ptr a.len a.cap)) h2 fun _ h'=>K h':=by
   intro h2 Cs I i a s' T hi hl K hK;exact T.set af i hi (fun _=>rfl) rfl c.toNat (by omega) hl a rfl rfl rfl fun h3 U=>hK h3 U
  obtain⟨x,hx,-⟩:=E (K:=fun _=>True) 2 a G rfl hw fun _ _=>trivial;refine⟨x,hx,?_,?_⟩
  ·refine mk w P X X G fun b h2 T=>?_;have y:=T.box 2 rfl;refine⟨⟨y.cell rfl,y.cell rfl,trivial⟩,?_⟩;obtain⟨x',N,hr⟩:=E (K:=fun u=>ar.ok [] u/\∃t:Addr,(M.ptr=some t/\0<=c/\c<((M.len:Nat):Int))/\
 ac xl (qf aH (vZ (some (t.add (c.toNat*1)))) (vY b.ptr b.len b.cap)) u fun _ D=>(ar.ok [] D)/\K () D) 3 a T rfl hw fun h3 U=>⟨trivial,E 4 b U rfl hm fun h4 H4=>⟨trivial,hk a b h4 (H4.bo 6 [1,0,2,3,4,5])⟩⟩
   have e:x=x':=zL.inj (hx.1.symm.trans N.1);subst e;exact hr
  ·obtain⟨x',N,hr⟩:=E (K:=fun A=>ar.ok [] A/\av xl (qD aH (vX xh p.2.2) (vX xh p.2.2)) (.one (.sc .slc)) A fun k F=>
 (ar.ok [] F)/\
 ∃z:Addr,(M.ptr=some z/\0<=c/\c<((M.len:Nat):Int))/\
 ac xl (qf aH (vZ (some (z.add (c.toNat*1)))) (vY k.ptr k.len k.cap)) F fun _ q=>
 (ar.ok [] q)/\K () q) 2 a G rfl hw fun h3 U=>⟨trivial,mk w P X X U fun b h4 H4=>⟨trivial,E 4 b H4 rfl hm fun h5 H5=>⟨trivial,hk a b h5 (H5.bo 6 [1,0,2,3,4,5])⟩⟩⟩
   have e:x=x':=zL.inj (hx.1.symm.trans N.1);subst e;exact hr
 ·refine mk w P X X H fun b Y G=>?_;have o:=G.box 1 rfl;refine⟨⟨o.cell rfl,o.cell rfl,trivial⟩,?_⟩;refine mk nd (by omega) (by rw[hd]) (by rw[hd]) G fun a h2 T=>?_;have y:=T.box 2 rfl;refine⟨⟨y.cell rfl,y.cell rfl,trivial⟩,?_⟩;refine T.set af 3 rfl (fun _=>rfl) rfl c.toNat (by omega) hw a rfl rfl rfl fun h3 U=>⟨trivial,?_⟩
  refine U.set af 4 rfl (fun _=>rfl) rfl c.toNat (by omega) hm b rfl rfl rfl fun h4 H4=>⟨trivial,hk a b h4 (H4.bo 6 [0,1,2,3,4,5])⟩
end
section
variable {B:aA} {h0 h:Heap} {As:List HP}
theorem UT{h:Heap}{Cs:List HP}(x:Sl)(m:Row)(nd:Nat)(z:Int)(H:aa B h0 h Cs)(A:z=nd)(w:nd<=64)(E:m.length<=2^20){L L2:ar}(D:L.ok h)(i:L2.ok h)(u:St B h0 Cs fun h=>Rd h x 1 aB m){K:Sl->Sl->Heap->Prop}
  (q:∀a b h',aU (fun b=>b<h.size) h h'->aa B h0 h' (RA a (aL nd)::RA b m::Cs)->K a b h'):
  (av xl (qD aH (vX xh z) (vX xh z)) (.one (.sc .slc)) h fun l e=>
 (ar.ok L e)/\
 ag xl sj #[(vY x.ptr x.len x.cap)] (.one (.sc .slc)) e fun p g=>K l p g)/\(ag xl sj #[(vY x.ptr x.len x.cap)] (.one (.sc .slc)) h fun n d=>
 (ar.ok L2 d)/\
 av xl (qD aH (vX xh z) (vX xh z)) (.one (.sc .slc)) d fun j k=>K j n k):=by
 subst A;constructor
 ·refine H.LA af aB fX (by decide) 0 rfl rfl nd nd rfl rfl (ql _) (by omega) fun a r _ s c=>⟨kW s D,?_⟩
  have c:=c.bM;refine(fO x m r (u.at [_] c) (by omega)).mono ?_;rintro _ f ⟨b,rfl,t⟩;exact⟨b,rfl,q a b f (up s t.ai) ((c.dc t).xx)⟩
 ·refine(fO x m h (u.at [] H) (by omega)).mono ?_;rintro _ r ⟨b,rfl,o⟩;have c:=H.dc o;refine⟨b,rfl,kW o.ai i,?_⟩;refine c.LA af aB fX (by decide) 0 rfl rfl nd nd rfl rfl (ql _) (by omega) fun a f _ v y=>?_;exact q a b f (up o.ai v) y.bM
structure lQ (pool pl:List (Sl×Row)) (wr mr:List Sl) (W M:aS):Prop where
 sub:∀x∈pool,x∈pl
 way:gJ pl id wr W
 more:gJ pl id mr M
theorem lQ.step{pool g:List (Sl×Row)}{f e:List Sl}{W M:aS}(x:lQ pool g f e W M)(c:Nat)(a b:Sl)(l m:Row):lQ pool ((b,m)::(a,l)::g) (f.set c a) (e.set c b) (W.set c l) (M.set c m):=
 ⟨fun y d=>by simp[x.sub y d],(x.way.mono fun y d=>by simp[d]).set c (by simp),(x.more.mono fun y d=>by simp[d]).set c (by simp)⟩
theorem ZD(s f:Addr)(p:Int×Int×Int)(v r A o G a4 a8:Sl)(rr:List (Sl×Sl))(R:List eK)(ST:List (Int×Int))(D L:List Int)(n nd w:Nat)(pool:List (Sl×Row))(H:aa B h0 h (SA s (fU f p v r A o G a4 a8)::kG pool::As))(Z:St B h0 As fun h=>ZB h f r A o G rr R ST D L)
  (hv:v.len=n) (hn:n<=64) (hp:p.2.2=w) (hw:w<=2^20) (br:D.length=nd) (ad:nd<=64) (hR:∀e∈R,iu n w e) (hD:∀c∈D,0<=c/\c<(n:Int)) (bl:D.Nodup) (hg:ta (R.map qJ) (·∈D) ST) (cf:ST.length<=2^20) (b6:∀e∈R,e.1.length<=2^20) (a2:(⟨none,0,0⟩,[])∈pool):
  ae xl Ci #[vZ (some s)] h fun v' h'=>v'=.tuple #[]/\∃d l z u J,aa B h0 h' (Told s f p v r A o G d l z u J++As)/\lQ pool J z u (ST.foldl (gz R nd) (fw n nd w D)).1 (ST.foldl (gz R nd) (fw n nd w D)).2:=by
 refine AM (some s) ?_;unfold pc;have hb:=H.box 0 rfl;have a6:o.len=nd:=by rw[(Z.at [_,_] H).dead.len,br]
 refine⟨s,rfl,o,show cellOf h (s.add 7)=_ from hb.cell rfl,?_⟩;refine co (fun _ h'=>∃d l,d.len=n/\l.len=n/\aa B h0 h' (Told s f p v r A o G d l (qh n ⟨none,0,0⟩) (qh n ⟨none,0,0⟩) pool++As)) ?_ ?_
 ·exact WK (K:=fun _ h'=>∃d l,d.len=n/\l.len=n/\aa B h0 h' (Told s f p v r A o G d l (qh n ⟨none,0,0⟩) (qh n ⟨none,0,0⟩) pool++As)) s f p v r A o G a4 a8 n pool H hv hn fun d l h' h1 h2 O=>⟨d,l,h1,h2,O⟩
 rintro-h1 ⟨d,l,c1,cr,H1⟩;have b7:=H1.box 0 rfl;refine⟨s,rfl,o,show cellOf h1 (s.add 7)=_ from b7.cell rfl,?_⟩;refine aw (fun t:Nat×List Sl×List Sl×List (Sl×Row)=>(t.1:Int)) (fun t h'=>t.1<=nd/\aa B h0 h' (Told s f p v r A o G d l t.2.1 t.2.2.1 t.2.2.2++As)/\lQ pool t.2.2.2 t.2.1 t.2.2.1 (fw n nd w (D.take t.1)).1 (fw n nd w (D.take t.1)).2) (fun t=>nd-t.1)
  (0,qh n ⟨none,0,0⟩,qh n ⟨none,0,0⟩,pool) rfl ⟨by omega,H1,⟨fun _ h=>h,NF pool a2 n,NF pool a2 n⟩⟩ ?_
 rintro⟨i,z,u,J⟩ h2 ⟨hi,H2,T2⟩;dsimp only at*;have b9:=aci n nd w (D.take i);have U:=T2.way.1;have V:=T2.more.1;refine ak (fun e=>?_) (fun e=>?_)
 ·have Y:i<nd:=by omega
  have P:=hD _ (qg (show i<D.length by omega));refine(Z.at [_,_,_,_] H2).dead.bz i rfl (by omega) _ rfl ?_;refine co (fun _ h'=>∃a b,aa B h0 h' (RA a (aL nd)::RA b (aL w)::(Told s f p v r A o G d l (z.set D[i].toNat a) (u.set D[i].toNat b) J++As))) ?_ ?_
  ·exact ZC (K:=fun _ h'=>∃a b,aa B h0 h' (RA a (aL nd)::RA b (aL w)::(Told s f p v r A o G d l (z.set D[i].toNat a) (u.set D[i].toNat b) J++As))) s f p v r A o G d l z u J D[i] nd w H2 P.1 (by omega) (by omega) hp a6 ad hw fun a b h' O=>⟨a,b,O⟩
  rintro-h3 ⟨a,b,H3⟩;refine⟨s,rfl,d,(H3.box 2 rfl).cell rfl,?_⟩;refine(H3.seq 3 rfl fun _=>rfl).ox D[i].toNat (by omega) (by simp;omega) ?_;rw[vC];refine H3.set af 0 rfl (fun _=>rfl) rfl i rfl (by simp[aL];omega) 1 rfl rfl rfl fun h4 H4=>?_;have H5:=(H4.freeze 0 rfl fun _=>rfl).pool 5 0 (by decide) rfl rfl;have H6:=(H5.freeze 1 rfl fun _=>rfl).pool 5 1 (by decide) rfl rfl;refine⟨(i+1,z.set D[i].toNat a,u.set D[i].toNat b,_),by dsimp only;rw[Go.Vc.wrap_small _ (by omega) (by omega)];rfl,⟨by dsimp only;omega,H6.bo 6 [2,3,4,5],?_⟩,by dsimp only;omega⟩;dsimp only;have e1:D.take (i+1)=D.take i++[D[i]]:=aJ _ _ (by omega);have e2:(D.take i).length=i:=by simp;omega
  rw[e1,LQ,e2];exact T2.step D[i].toNat a b (ot nd i) (aL w)
 have ao:i=D.length:=by omega
 subst ao;rw[qR]at T2 b9 U V;refine⟨s,rfl,A,(H2.box 0 rfl).cell rfl,?_⟩;have ch:=(Z.at [_,_,_,_] H2).steps.len;refine aw (fun t:Nat×List Sl×List Sl×List (Sl×Row)=>(t.1:Int)) (fun t h'=>t.1<=ST.length/\aa B h0 h' (Told s f p v r A o G d l t.2.1 t.2.2.1 t.2.2.2++As)/\lQ pool t.2.2.2 t.2.1 t.2.2.1 ((ST.take t.1).foldl (gz R nd) (fw n nd w D)).1 ((ST.take t.1).foldl (gz R nd) (fw n nd w D)).2) (fun t=>ST.length-t.1)
  (0,z,u,J) rfl ⟨by simp,H2,T2⟩ ?_
 clear U V T2 H2 hi e;rintro⟨i,z,u,J⟩ h3 ⟨hi,H3,T3⟩;dsimp only at*;obtain⟨dk,-⟩:=Oj (nd:=nd) (w:=w) hD bl D.length (ql _);rw[qR]at dk;have a5:=QF (l1:=ST.take i) (l2:=ST.drop i) (by rw[qE];exact hg);obtain⟨bk,-⟩:=Kt hR a5.1 dk;obtain⟨W,hW⟩:∃W,W=((ST.take i).foldl (gz R nd) (fw n nd w D)).1:=⟨_,rfl⟩
 obtain⟨M,hM⟩:∃M,M=((ST.take i).foldl (gz R nd) (fw n nd w D)).2:=⟨_,rfl⟩
 have ax:(ST.take i).foldl (gz R nd) (fw n nd w D)=(W,M):=by rw[hW,hM]
 have I:WOk n nd w (fun c=>c∈D∨∃j,(j,c)∈ST.take i) W M:=by rw[hW,hM];exact bk
 rw[<-hW,<-hM]at T3;clear bk hW hM;have cn:=I.wl;have cs:=I.ml;have U:=T3.way.1;have V:=T3.more.1;refine ak (fun e=>?_) (fun e=>?_)
 ·have Y:i<ST.length:=by omega
  have ap:=a5.2;rw[qW Y]at ap;obtain⟨row,bp,am⟩:∃row bp,ST[i]=(row,bp):=⟨_,_,rfl⟩
  rw[am]at ap;obtain⟨g1,g2,g3,g4,-⟩:=ap;have m:row.toNat<R.length:=by have:=g1.2;rw[qx]at this;omega
  obtain⟨k,T⟩:∃k,k=R[row.toNat]:=⟨_,rfl⟩
  have er:R.getD row.toNat ([],[])=k:=by rw[qe,qd m,T];rfl
  have b3:(R.map qJ).getD row.toNat []=k.1:=by rw[qe,qP,qd m,T];rfl
  rw[b3]at g3 g4;have N:=hR k (T▸qg m);have cq:=b6 k (T▸qg m);have cp:=N.cF bp g3;have G3:=Z.at [_,_,_,_] H3;have hF:=G3.rest.2.1;refine G3.steps.dI (g:=fi) i rfl Y ST[i] rfl ?_;rw[am];refine H3.Gw af rfl fun a50 h4 P4 H4=>?_;have H4:=H4.bM;refine H4.storeAll af 0 rfl rfl (fi (row,bp)) rfl rfl rfl rfl fun h5 H5=>?_;have b0:row.toNat<rr.length:=by rw[hF];exact m
  obtain⟨y,hy⟩:∃y,y=rr[row.toNat]:=⟨_,rfl⟩
  have E:∀{h'},nX jc 2 qv h' r rr R->jc.p h' (fun b=>b<h'.size) y k:=fun hh=>by rw[hy,T];exact Fix.row hh m
  refine co (fun a' h'=>aa B h0 h' (aq a' dL (qv y)::aq a50 cS (fi (row,bp))::(Told s f p v r A o G d l z u J++As))) ?_ ?_
  ·have a9:=H5.box 1 rfl;have G5:=Z.at [_,_,_,_,_] H5;refine⟨s,rfl,r,a9.cell rfl,row,(H5.box 0 rfl).cell0 rfl,?_⟩;obtain⟨cd,ha,x,P,rfl⟩:=G5.rest.1.dI (g:=qv) (i:=row) row.toNat (by omega) b0 y (by rw[hy]) (K:=fun x=>x=y) rfl;refine⟨cd,ha,_,P,?_⟩;refine H5.Gw af rfl fun S h6 P6 H6=>⟨⟨sA P.1 P6,sA P.2.1 P6,sA ((H5.box 0 rfl).cell0 rfl) P6,sA (a9.cell rfl) P6,trivial⟩,?_⟩
   have H6:=H6.bM;refine H6.storeAll af 0 rfl rfl (qv x) rfl rfl rfl rfl fun h7 H7=>⟨trivial,H7⟩
  intro S h7 H7;refine co (fun t h'=>aa B h0 h' (RA t.1 (aL nd)::RA t.2 k.2::aq S dL (qv y)::aq a50 cS (fi (row,bp))::(Told s f p v r A o G d l z u J++As))) ?_ ?_
  ·have a7:=H7.box 0 rfl;refine⟨y.2,a7.cell rfl,?_⟩;exact UT (L:=[(S.add 1,vY y.2.ptr y.2.len y.2.cap)]) (K:=fun a b h'=>ar.ok [] h'/\aa B h0 h' (RA a (aL nd)::RA b k.2::aq S dL (qv y)::aq a50 cS (fi (row,bp))::(Told s f p v r A o G d l z u J++As))) y.2 k.2 nd _ H7 (by rw[a6]) ad (by rw[N.len];exact hw) ⟨a7.cell rfl,trivial⟩ (L2:=[]) trivial (St.mk' fun h' O=>(E (Z.at [_,_,_,_,_,_] O).rest).2) fun a b h' _ O=>⟨trivial,O⟩
  rintro⟨X,q⟩ h8 H8;dsimp only at H8;refine⟨y.1,(H8.box 2 rfl).cell0 rfl,?_⟩;have c0:=(E (Z.at [_,_,_,_,_,_,_,_] H8).rest).1.len;let F:Nat->List Int:=fun j=>(k.1.take j).filter fun c=>!decide (c=bp);refine aw (fun j:Nat=>(j:Int)) (fun j h'=>j<=k.1.length/\aa B h0 h' (RA X (cD W (aL nd) (F j))::RA q (cD M k.2 (F j))::aq S dL (qv y)::aq a50 cS (fi (row,bp))::(Told s f p v r A o G d l z u J++As))) (fun j=>k.1.length-j) 0 rfl ⟨by omega,by simpa[F,cD]using H8⟩ ?_;rintro j h9 ⟨hj,H9⟩;have told:∀c∈F j,(az W c.toNat).length=nd/\(az M c.toNat).length=w:=fun c P=>by
   have a0:=qI.1 P;have hm:=zM a0.1;exact I.rw_ c (g4 c hm (by simpa using a0.2)) (N.cF c hm).1 (N.cF c hm).2
  have ay:(cD W (aL nd) (F j)).length=nd:=jz (by simp[aL]) fun c P=>(told c P).1;have bb:(cD M k.2 (F j)).length=w:=jz N.len fun c P=>(told c P).2;refine ak (fun e2=>?_) (fun e2=>?_)
  ·have Q:j<k.1.length:=by omega
   have ah:=N.cF _ (qg Q);refine(E (Z.at [_,_,_,_,_,_,_,_] H9).rest).1.bz j rfl Q _ rfl ?_;refine⟨bp,(H9.box 3 rfl).cell rfl,?_⟩;refine ci (fun a1=>?_) (fun cc=>?_)
   ·have tc:=I.rw_ k.1[j] (g4 _ (qg Q) a1) ah.1 ah.2;refine(It s f 1 k.1[j] X q d l _ _ z u W M H9 (St.mk' fun h' O=>?_) ah.1 (by omega) (by omega) (by rw[tc.1,ay]) (by rw[tc.2,bb]) (by omega) (by omega)).mono ?_
    ·exact DG.of (O.box 2 rfl) (Z.at [_,_,_,_,_,_] O).field (O.EO 3 5 rfl rfl T3.way) (O.EO 4 5 rfl rfl T3.more)
    rintro _ b2 ⟨rfl,ab⟩;have e3:F (j+1)=F j++[k.1[j]]:=by
     simp only[F];rw[jo _ _ Q];simp[a1]
    exact⟨(),rfl,j+1,by rw[Go.Vc.wrap_small _ (by omega) (by omega)];rfl,⟨by omega,by rw[e3,tQ,tQ];exact ab⟩,by omega⟩
   ·have e3:F (j+1)=F j:=by
     simp only[F];rw[jo _ _ Q];simp[cc]
    exact⟨j+1,by rw[Go.Vc.wrap_small _ (by omega) (by omega)];rfl,⟨by omega,by rw[e3];exact H9⟩,by omega⟩
  ·have b1:j=k.1.length:=by omega
   subst b1;have bd:=H9.box 3 rfl;have a3:=H9.box 4 rfl;refine⟨s,rfl,d,a3.cell rfl,bp,bd.cell rfl,s,rfl,l,a3.cell rfl,bp,bd.cell rfl,?_⟩;refine H9.set af 5 rfl (fun _=>rfl) rfl bp.toNat (by omega) (by omega) X rfl rfl rfl fun b2 ab=>⟨⟨(ab.box 3 rfl).cell rfl,trivial⟩,?_⟩
   refine ab.set af 6 rfl (fun _=>rfl) rfl bp.toNat (by omega) (by omega) q rfl rfl rfl fun c2 b4=>⟨trivial,?_⟩
   have bq:=(b4.freeze 0 rfl fun _=>rfl).pool 7 0 (by decide) rfl rfl;have b5:=(bq.freeze 1 rfl fun _=>rfl).pool 7 1 (by decide) rfl rfl;refine⟨(i+1,z.set bp.toNat X,u.set bp.toNat q,_),by dsimp only;rw[Go.Vc.wrap_small _ (by omega) (by omega)];rfl,⟨by dsimp only;omega,b5.bo 8 [4,5,6,7],?_⟩,by dsimp only;omega⟩;dsimp only;rw[aJ _ _ Y,wM,ax,am];have e3:[(row,bp)].foldl (gz R nd) (W,M)=(W.set bp.toNat (cD W (aL nd) (F k.1.length)),M.set bp.toNat (cD M k.2 (F k.1.length))):=by
    simp only[zD,wQ,gz,er,F,qR]
   rw[e3];exact T3.step bp.toNat X q _ _
 ·have ao:i=ST.length:=by omega
  subst ao;rw[qR]at ax;exact⟨rfl,d,l,z,u,J,H3,by rw[ax];exact T3⟩
end
def kf(nd:Nat)(known:List Bool)(vals:aS)(s:aS×aS)(i:Nat):aS×aS:=
 (s.1.mapIdx fun c r=>if c<i/\known.getD c false=true then aL nd else r,s.2.mapIdx fun c r=>if c<i/\known.getD c false=true then az vals c else r)
theorem ZE(nd:Nat)(known:List Bool)(vals:aS)(s:aS×aS):kf nd known vals s 0=s:=by
 unfold kf;refine yT ?_ ?_<;>refine wk (by simp) fun i b a=>?_<;>simp
theorem acj(nd:Nat)(known:List Bool)(vals:aS)(s:aS×aS){n:Nat}(a:s.1.length=n)(b:s.2.length=n):kf nd known vals s n=gU nd known vals s:=by
 unfold kf gU;refine yT ?_ ?_<;>refine wk (by simp) fun i a b=>?_<;>simp at a<;>simp[show i<n by omega]
theorem ack(nd:Nat)(known:List Bool)(vals:aS)(s:aS×aS){i:Nat}(d:known.getD i false=true):kf nd known vals s (i+1)=((kf nd known vals s i).1.set i (aL nd),(kf nd known vals s i).2.set i (az vals i)):=by
 unfold kf;refine yT ?_ ?_<;>refine wk (by simp) fun j f e=>?_<;>simp only[List.getElem_mapIdx,List.getElem_set]<;>by_cases c:i=j
 ·subst c;rw[if_pos ⟨by omega,d⟩,if_pos rfl]
 ·rw[if_neg c];congr 1;simp only[eq_iff_iff];constructor<;>rintro⟨a,b⟩<;>exact⟨by omega,b⟩
 ·subst c;rw[if_pos ⟨by omega,d⟩,if_pos rfl]
 ·rw[if_neg c];congr 1;simp only[eq_iff_iff];constructor<;>rintro⟨a,b⟩<;>exact⟨by omega,b⟩
theorem aeo(nd:Nat)(known:List Bool)(vals:aS)(s:aS×aS){i:Nat}(e:known.getD i false=false):kf nd known vals s (i+1)=kf nd known vals s i:=by
 have c:∀j,(j<i+1/\known.getD j false=true)↔(j<i/\known.getD j false=true):=fun j=>by
  constructor
  ·rintro⟨a,b⟩;by_cases d:j=i
   ·subst d;rw[e]at b;cases b
   ·exact⟨by omega,b⟩
  ·rintro⟨a,b⟩;exact⟨by omega,b⟩
 unfold kf;simp only[c]
section
variable {B:aA} {h0 h:Heap} {As:List HP}
theorem acl(s f:Addr)(p:Int×Int×Int)(v r N F O J G:Sl)(j g d:List Sl)(k:List (Sl×Row))(known:List Bool)(V W M:aS)(n nd:Nat)(H:aa B h0 h (Told s f p v r N F O J G g d k++HA v j::As))(hn:n<=64)(w:F.len=nd)(am:nd<=64)(hT:lQ k k g d W M)(S:gJ k id j V)(ad:V.length=n)(z:W.length=n)(y:M.length=n)
  (U:∀(c:Nat) (hc:c<j.length),j[c].ptr.isNone=!(known.getD c false)):
  ae xl Dg #[vZ (some s)] h fun v' h'=>v'=.tuple #[]/\∃g d b,aa B h0 h' (Told s f p v r N F O J G g d b++HA v j::As)/\lQ k b g d (gU nd known V (W,M)).1 (gU nd known V (W,M)).2:=by
 refine Cj (some s) ?_;unfold ra;have Q:=S.1;have K:v.len=n:=by rw[(H.own 4 rfl).len];omega
 refine⟨s,rfl,v,(H.box 0 rfl).cell rfl,?_⟩;refine aw (fun t:Nat×List Sl×List Sl×List (Sl×Row)=>(t.1:Int)) (fun t h'=>t.1<=n/\aa B h0 h' (Told s f p v r N F O J G t.2.1 t.2.2.1 t.2.2.2++HA v j::As)/\lQ k t.2.2.2 t.2.1 t.2.2.1 (kf nd known V (W,M) t.1).1 (kf nd known V (W,M) t.1).2) (fun t=>n-t.1) (0,g,d,k) rfl ⟨by omega,H,by rw[ZE];exact hT⟩ ?_;rintro⟨i,g,d,b⟩ Y ⟨hi,D,l⟩;dsimp only at*;have ab:(kf nd known V (W,M) i).1.length=n:=by simp[kf,z]
 have T:(kf nd known V (W,M) i).2.length=n:=by simp[kf,y]
 have R:=l.way.1;have P:=l.more.1;refine ak (fun e=>?_) (fun e=>?_)
 ·have ah:i<n:=by omega
  refine(D.seq 4 rfl fun _=>rfl).ox i rfl (by omega) ?_;have u:=U i (by omega);refine bi (fun A=>?_) (fun A=>?_)
  ·have m:known.getD i false=true:=by rw[u]at A;simpa using A
   have o:=D.box 0 rfl;refine⟨s,rfl,J,o.cell rfl,s,rfl,G,o.cell rfl,s,rfl,F,show cellOf Y (s.add 7)=_ from o.cell rfl,?_⟩;refine D.LA af aB fX (by decide) 0 rfl rfl nd nd (by rw[w]) (by rw[w]) (ql _) (by omega) fun a X _ P2 I=>?_;have I:=I.bM;have q:=I.box 1 rfl;refine⟨⟨show cellOf X (s.add 7)=_ from q.cell rfl,q.cell rfl,q.cell rfl,trivial⟩,?_⟩;refine I.set af 2 rfl (fun _=>rfl) rfl i rfl (by omega) a rfl rfl rfl fun h3 Z=>⟨trivial,?_⟩
   refine Z.set af 3 rfl (fun _=>rfl) rfl i rfl (by omega) (j[i]'(by omega)) rfl rfl rfl fun h4 H4=>⟨trivial,?_⟩
   have H5:=(H4.freeze 0 rfl fun _=>rfl).pool 4 0 (by decide) rfl rfl;refine⟨(i+1,g.set i a,d.set i (j[i]'(by omega)),_),by dsimp only;rw[Go.Vc.wrap_small _ (by omega) (by omega)];rfl,⟨by dsimp only;omega,H5.bo 5 [1,2,3,4],?_⟩,by dsimp only;omega⟩;dsimp only;rw[ack nd known V (W,M) m];have hm:((j[i]'(by omega)),az V i)∈k:=by
    have:=S.get (i:=i) (by omega);rw[lV (by omega)];exact this
   exact⟨fun x E=>qO _ (l.sub x E),(l.way.mono fun x E=>qO _ E).set i (by simp[aL]),(l.more.mono fun x E=>qO _ E).set i (qO _ (l.sub _ hm))⟩
  ·have m:known.getD i false=false:=by rw[u]at A;simpa using A
   exact⟨(i+1,g,d,b),by dsimp only;rw[Go.Vc.wrap_small _ (by omega) (by omega)];rfl,⟨by dsimp only;omega,D,by dsimp only;rw[aeo nd known V (W,M) m];exact l⟩,by dsimp only;omega⟩
 ·have L:i=n:=by omega
  subst L;exact⟨rfl,g,d,b,D,by rw[<-acj nd known V (W,M) z y];exact l⟩
def nD(nd:Nat)(known:List Bool)(vals W M D:aS)(i:Nat):aS:=vals.mapIdx fun c r=>if c<i/\known.getD c false=false then gn D (az W c) (az M c) nd else r
theorem acm(nd:Nat)(known:List Bool)(vals W M D:aS):nD nd known vals W M D 0=vals:=by
 unfold nD;refine wk (by simp) fun i b a=>?_;simp
theorem aep(nd:Nat)(known:List Bool)(vals W M D:aS){n:Nat}(a:vals.length=n):nD nd known vals W M D n=xJ nd known vals W M D:=by
 unfold nD xJ;refine wk (by simp) fun i a b=>?_;simp at a;simp only[List.getElem_mapIdx];cases hk:known.getD i false
 ·rw[if_pos ⟨by omega,rfl⟩,if_neg (by simp)]
 ·rw[if_neg (by simp),if_pos rfl]
theorem aeq(nd:Nat)(known:List Bool)(vals W M D:aS){i:Nat}(e:known.getD i false=true):nD nd known vals W M D (i+1)=nD nd known vals W M D i:=by
 have c:∀j,(j<i+1/\known.getD j false=false)↔(j<i/\known.getD j false=false):=fun j=>by
  constructor
  ·rintro⟨a,b⟩;by_cases d:j=i
   ·subst d;rw[e]at b;cases b
   ·exact⟨by omega,b⟩
  ·rintro⟨a,b⟩;exact⟨by omega,b⟩
 unfold nD;simp only[c]
theorem agc(nd:Nat)(known:List Bool)(vals W M D:aS){i:Nat}(d:known.getD i false=false):nD nd known vals W M D (i+1)=(nD nd known vals W M D i).set i (gn D (az W i) (az M i) nd):=by
 unfold nD;refine wk (by simp) fun j f e=>?_;simp only[List.getElem_mapIdx,List.getElem_set];by_cases c:i=j
 ·subst c;rw[if_pos ⟨by omega,d⟩,if_pos rfl]
 ·rw[if_neg c];congr 1;simp only[eq_iff_iff];constructor<;>rintro⟨a,b⟩<;>exact⟨by omega,b⟩
theorem acn(s f:Addr)(p:Int×Int×Int)(v r Y X Z I J dead:Sl)(g A z dr:List Sl)(E:List (Sl×Row))(known:List Bool)(V W M D:aS)(n nd w:Nat)(H:aa B h0 h (Told s f p v r Y X Z I J A z E++HA v g::As))(hS:St B h0 As fun h=>gI h f/\gO h (fun b=>b<h.size) dead 1 aB D dr)(hn:n<=64)(hw:w<=2^20)(a8:nd<=64)(T:lQ E E A z W M)(hV:gJ E id g V)(Q:V.length=n)(a6:W.length=n)(bd:M.length=n)
  (K:∀c,c<n->(az W c).length=nd/\(az M c).length=w) (bk:D.length=nd) (R:bh w D) (hk:∀(c:Nat) (l:c<g.length),g[c].ptr.isNone=!(known.getD c false)):
  ae xl rc #[vZ (some s),vY dead.ptr dead.len dead.cap] h fun v' h'=>v'=.tuple #[]/\∃L a,aa B h0 h' (Told s f p v r Y X Z I J A z a++HA v L::As)/\gJ a id L (xJ nd known V W M D):=by
 refine Dh (some s) dead ?_;unfold rN;have a5:=hV.1;have ad:v.len=n:=by rw[(H.own 4 rfl).len];omega
 have a3:=T.way.1;have a4:=T.more.1;refine⟨s,rfl,v,(H.box 0 rfl).cell rfl,?_⟩;refine aw (fun t:Nat×List Sl×List (Sl×Row)=>(t.1:Int)) (fun t h'=>t.1<=n/\aa B h0 h' (Told s f p v r Y X Z I J A z t.2.2++HA v t.2.1::As)/\gJ t.2.2 id t.2.1 (nD nd known V W M D t.1)/\(∀x∈E,x∈t.2.2)/\∀(c:Nat) (l:c<t.2.1.length),t.1<=c->t.2.1[c].ptr.isNone=!(known.getD c false)) (fun t=>n-t.1) (0,g,E) rfl ⟨by omega,H,by rw[acm];exact hV,fun _ h=>h,fun c l _=>hk c l⟩ ?_;rintro⟨i,g,a⟩ h1 ⟨hi,q,U,d,y⟩;dsimp only at*;have bb:(nD nd known V W M D i).length=n:=by simp[nD,Q]
 have a2:=U.1;refine ak (fun e=>?_) (fun e=>?_)
 ·have ah:i<n:=by omega
  have N:=q.box 0 rfl;refine⟨s,rfl,v,N.cell rfl,?_⟩;refine(q.seq 4 rfl fun _=>rfl).ox i rfl (by omega) ?_;have G:=y i (by omega) (ql _);refine bi (fun S=>?_) (fun S=>?_)
  ·have u:known.getD i false=true:=by rw[G]at S;simpa using S
   exact⟨(i+1,g,a),by dsimp only;rw[Go.Vc.wrap_small _ (by omega) (by omega)];rfl,⟨by dsimp only;omega,q,by dsimp only;rw[aeq nd known V W M D u];exact U,d,fun c l h=>y c l (by dsimp only at h;omega)⟩,by dsimp only;omega⟩
  have u:known.getD i false=false:=by rw[G]at S;simpa using S
  have am:=K i ah;have a0:((z[i]'(by omega)),az M i)∈a:=by
   have:=(T.more.mono d).get (i:=i) (by omega);rw[lV (by omega)];exact this
  have F:((A[i]'(by omega)),az W i)∈a:=by
   have:=(T.way.mono d).get (i:=i) (by omega);rw[lV (by omega)];exact this
  refine⟨s,rfl,J,N.cell rfl,?_⟩;refine(q.seq 2 rfl fun _=>rfl).ox i rfl (by omega) ?_;refine(fO _ (az M i) h1 (q.NB 3 rfl a0) (by omega)).mono ?_;rintro _ h2 ⟨b,rfl,R2⟩;have H2:=q.dc R2;have ap:=H2.box 1 rfl;refine⟨b,rfl,s,rfl,I,ap.cell rfl,?_⟩;refine(H2.seq 2 rfl fun _=>rfl).ox i rfl (by omega) ?_;have ao:=(H2.NB 4 rfl F).len;refine aw (fun j:Nat=>(j:Int)) (fun j h'=>j<=nd/\aa B h0 h' (RA b (gn D (az W i) (az M i) j)::(Told s f p v r Y X Z I J A z a++HA v g::As))) (fun j=>nd-j) 0 rfl ⟨by omega,H2⟩ ?_;rintro j h3 ⟨hj,P⟩;refine ak (fun e3=>?_) (fun e3=>?_)
  ·have a9:j<nd:=by omega
   have o:j<(az W i).length:=by omega
   refine(P.NB 4 rfl F).bz j rfl o _ rfl ?_;obtain⟨S1,S2⟩:=hS.at [_,_,_,_,_,_] P;have a7:=S2.len;refine S2.top.ox j rfl (by omega) ?_;have ab:(D[j]'(by omega)).length=w:=R _ (qg _);have O:(az W i)[j]'o=aN (az W i) j:=by rw[aN,qe,qd o];rfl
   have ax:(gn D (az W i) (az M i) j).length=w:=lx _ am.2 fun k hk=>cb R (by omega);rw[O];refine Is s f (aN (az W i) j) (dr[j]'(by omega)) b (D[j]'(by omega)) _ P (St.mk' fun h' H'=>?_) (by rw[ab,ax]) (by omega) fun h4 H4=>?_
   ·obtain⟨q1,q2⟩:=hS.at [_,_,_,_,_] H';exact⟨(H'.box 0 rfl).cell0 rfl,q1,q2.row _ _ _ (qd _) (qd _)⟩
   ·refine⟨j+1,by rw[Go.Vc.wrap_small _ (by omega) (by omega)];rfl,⟨by omega,?_⟩,by omega⟩;rw[gn,lV (m:=D) (i:=j) (by omega)];exact H4
  ·have a1:j=nd:=by omega
   subst a1;refine⟨s,rfl,v,(P.box 1 rfl).cell rfl,?_⟩;refine P.set af 5 rfl (fun _=>rfl) rfl i rfl (by omega) b rfl rfl rfl fun h4 H4=>?_;have H5:=(H4.freeze 0 rfl fun _=>rfl).pool 4 0 (by decide) rfl rfl;refine⟨(i+1,g.set i b,_),by dsimp only;rw[Go.Vc.wrap_small _ (by omega) (by omega)];rfl,⟨by dsimp only;omega,H5.bo 6 [1,2,3,4,5],?_,fun x hx=>qO _ (d x hx),fun c l h=>?_⟩,by dsimp only;omega⟩
   ·dsimp only;rw[agc j known V W M D u];exact(U.mono fun x hx=>qO _ hx).set i (by simp)
   ·dsimp only at l h⊢;rw[List.getElem_set_ne (by omega)];exact y c (by simpa using l) (by omega)
 ·have ay:i=n:=by omega
  subst ay;exact⟨rfl,g,a,q,by rw[<-aep nd known V W M D Q];exact U⟩
end
section
variable {B:aA} {h0 h:Heap} {As:List HP}
abbrev MA(s:Sl)(m:aS):HP:=fP aH s 1 aB m
abbrev UU:je Sl Row:=agx (ju 1 aB) fun r _=>r.len<=r.cap
abbrev CA(s:Sl)(m:aS):HP:=eM aH s 1 bQ UU m
theorem aa.aco{e:Nat}{s:Sl}{l:Row}(H:aa B h0 h As)(i:Nat)(c:As[i]?=some (an e s 1 aB l)):aa B h0 h (As.set i (EA UU s l)):=
 H.gq i c fun _ ⟨a,b⟩=>⟨a.seq (fun _=>rfl) b,a.cap⟩
theorem ZF(s f:Addr)(p:Int×Int×Int)(v r T N S I J:Sl)(F u:List Sl)(Q:List (Sl×Row))(rr:List (Sl×Sl))(R:List eK)(ST:List (Int×Int))(D L:List Int)(W M:aS)(n nd w:Nat)(H:aa B h0 h (Told s f p v r T N S I J F u Q++As))(hS:St B h0 As fun h=>ZB h f r T N S rr R ST D L)
  (hn:n=p.1.toNat+p.2.1.toNat) (hp:p.2.2=w) (hw:w<=2^20) (ay:bJ p=true) (bl:D.length=nd) (bb:nd<=64) (hR:∀e∈R,iu n w e) (b1:∀e∈R,e.1.length<=2^20) (hL:∀i∈L,0<=i/\i<(R.length:Int)) (b9:L.length<=2^20) (hT:lQ Q Q F u W M) (b7:W.length=n) (cf:M.length=n)
  (G:∀c,c<n->(az W c).length=nd/\(az M c).length=w):
  ae xl Ck #[vZ (some s)] h fun v' h'=>∃a b:Sl,v'=.tuple #[vY a.ptr a.len a.cap,vY b.ptr b.len b.cap]/\aa B h0 h' (MA a (di n nd R W L (bw p.1.toNat p.2.1.toNat))::CA b (fe n w R M L (bw p.1.toNat p.2.1.toNat))::(Told s f p v r T N S I J F u Q++As)):=by
 refine AN (some s) ?_;unfold pd;have hb:=H.box 0 rfl;have Z:N.len=nd:=by rw[(hS.at [_,_,_,_] H).dead.len,bl]
 have ch:=(bK p).1 ay;have b5:=hT.way.1;have b6:=hT.more.1;refine⟨s,rfl,N,show cellOf h (s.add 7)=_ from hb.cell rfl,s,rfl,S,show cellOf h (s.add 8)=_ from hb.cell rfl,?_⟩;have cn:=(hS.at [_,_,_,_] H).left.len;have ax:∀{h':Heap} {Cs:List HP},aa B h0 h' (Cs++(Told s f p v r T N S I J F u Q++As))->aa B h0 h' (Told s f p v r T N S I J F u Q++As):=fun{h' Cs} U=>U.take Cs.length fun i A hi=>by
  rw[qj (by omega),zn];exact hi
 have SR:∀{h':Heap},aa B h0 h' (Told s f p v r T N S I J F u Q++As)->DG h' s f I J F u W M:=fun U=>DG.of (U.box 0 rfl) (hS.at [_,_,_,_] U).field (U.EO 1 3 rfl rfl hT.way) (U.EO 2 3 rfl rfl hT.more);let rA:Int->Row:=fun i=>cD W (aL nd) (R.getD i.toNat ([],[])).1;let rB:Int->Row:=fun i=>cD M (R.getD i.toNat ([],[])).2 (R.getD i.toNat ([],[])).1;have H0:aa B h0 h (MA ⟨none,0,0⟩ []::CA ⟨none,0,0⟩ []::(Told s f p v r T N S I J F u Q++As)):=((H.XW aH 1 bQ UU).bM.Lu aH 1 aB).bM;refine aw (fun t:Nat×Sl×Sl=>(t.2.1,t.2.2,(t.1:Int))) (fun t h'=>t.1<=L.length/\aa B h0 h' (MA t.2.1 ((L.take t.1).map rA)::CA t.2.2 ((L.take t.1).map rB)::(Told s f p v r T N S I J F u Q++As))) (fun t=>L.length-t.1) (0,⟨none,0,0⟩,⟨none,0,0⟩) rfl ⟨by simp,H0⟩ ?_;rintro⟨i,a,b⟩ h1 ⟨hi,H1⟩;dsimp only at*;refine ak (fun e=>?_) (fun e=>?_)
 ·have m:i<L.length:=by omega
  have G1:=hS.at [_,_,_,_,_,_] H1;refine G1.left.bz i rfl m _ rfl ?_;have hx:=hL _ (qg m);generalize b2:L[i]=x at hx⊢;have o:x.toNat<R.length:=by omega
  obtain⟨l,am⟩:∃l,l=R[x.toNat]:=⟨_,rfl⟩
  have er:R.getD x.toNat ([],[])=l:=by rw[qe,qd o,am];rfl
  have ao:=hR l (am▸qg o);have cc:=b1 l (am▸qg o);have hF:=G1.rest.2.1;have a8:x.toNat<rr.length:=by rw[hF];exact o
  obtain⟨y,hy⟩:∃y,y=rr[x.toNat]:=⟨_,rfl⟩
  have O:∀{h'},nX jc 2 qv h' r rr R->jc.p h' (fun b=>b<h'.size) y l:=fun hh=>by rw[hy,am];exact Fix.row hh o
  refine co (fun t h'=>aa B h0 h' (RA t.1 (aL nd)::RA t.2 l.2::MA a ((L.take i).map rA)::CA b ((L.take i).map rB)::(Told s f p v r T N S I J F u Q++As))) ?_ ?_
  ·have ap:=H1.box 2 rfl;refine⟨s,rfl,r,ap.cell rfl,?_⟩;obtain⟨a9,ha,z,hc,rfl⟩:=G1.rest.1.dI (g:=qv) (i:=x) x.toNat (by omega) a8 y (by rw[hy]) (K:=fun z=>z=y) rfl;refine⟨a9,ha,z.2,hc.2.1,?_⟩;have a0:ar.ok [(s.add 5,vY r.ptr r.len r.cap)] h1:=⟨ap.cell rfl,trivial⟩
   exact UT (L:=[((a9.add (x.toNat*2)).add 1,vY z.2.ptr z.2.len z.2.cap),(s.add 5,vY r.ptr r.len r.cap)]) (L2:=[(s.add 5,vY r.ptr r.len r.cap)]) (K:=fun a' b' h'=>ar.ok [(s.add 5,vY r.ptr r.len r.cap)] h'/\aa B h0 h' (RA a' (aL nd)::RA b' l.2::MA a ((L.take i).map rA)::CA b ((L.take i).map rB)::(Told s f p v r T N S I J F u Q++As)))
    z.2 l.2 nd _ H1 (by rw[Z]) bb (by rw[ao.len];exact hw) ⟨hc.2.1,a0⟩ a0 (St.mk' fun h' U=>(O (hS.at [_,_,_,_,_,_] U).rest).2) fun a b h' P U=>⟨kW P a0,U⟩
  rintro⟨ad,E⟩ h2 H2;dsimp only at H2;have G2:=hS.at [_,_,_,_,_,_,_,_] H2;refine⟨s,rfl,r,(H2.box 4 rfl).cell rfl,?_⟩;obtain⟨bq,ha,z,hc,rfl⟩:=G2.rest.1.dI (g:=qv) (i:=x) x.toNat (by omega) a8 y (by rw[hy]) (K:=fun z=>z=y) rfl;refine⟨bq,ha,z.1,hc.1,?_⟩;have b0:=(O G2.rest).1.len;refine aw (fun j:Nat=>(j:Int)) (fun j h'=>j<=l.1.length/\aa B h0 h' (RA ad (cD W (aL nd) (l.1.take j))::RA E (cD M l.2 (l.1.take j))::MA a ((L.take i).map rA)::CA b ((L.take i).map rB)::(Told s f p v r T N S I J F u Q++As))) (fun j=>l.1.length-j) 0 rfl ⟨by omega,by simpa[cD]using H2⟩ ?_;rintro j h3 ⟨hj,H3⟩;have told:∀c∈l.1.take j,(az W c.toNat).length=nd/\(az M c.toNat).length=w:=fun c hc=>by
   have cd:=ao.cF c (zM hc);exact G c.toNat (by omega)
  have X:(cD W (aL nd) (l.1.take j)).length=nd:=jz (by simp[aL]) fun c hc=>(told c hc).1;have ab:(cD M l.2 (l.1.take j)).length=w:=jz ao.len fun c hc=>(told c hc).2;refine ak (fun e2=>?_) (fun e2=>?_)
  ·have Y:j<l.1.length:=by omega
   have bk:=ao.cF _ (qg Y);refine(O (hS.at [_,_,_,_,_,_,_,_] H3).rest).1.bz j rfl Y _ rfl ?_;have tc:=G l.1[j].toNat (by omega);refine(It s f 1 l.1[j] ad E I J _ _ F u W M H3 (St.mk' fun h' U=>SR (ax (Cs:=[_,_]) U)) bk.1 (by omega) (by omega) (by rw[tc.1,X]) (by rw[tc.2,ab]) (by omega) (by omega)).mono ?_;rintro _ h4 ⟨rfl,V⟩;exact⟨(),rfl,j+1,by rw[Go.Vc.wrap_small _ (by omega) (by omega)];rfl,⟨by omega,by rw[aJ _ _ Y,tQ,tQ];exact V⟩,by omega⟩
  ·have a2:j=l.1.length:=by omega
   subst a2;rw[qR]at H3;have V:=aa.aco (H3.freeze 0 rfl fun _=>rfl) 1 rfl;refine V.wn af 2 0 (by decide) rfl rfl fJ (by simp;omega) fun a' h5 H5=>?_;refine H5.Lw af 3 1 (by decide) rfl rfl fJ rfl (by decide) (fun _=>rfl) nW rfl (by decide) (by simp;omega) fun b' h6 H6=>?_;refine⟨(i+1,a',b'),by dsimp only;rw[Go.Vc.wrap_small _ (by omega) (by omega)];rfl,⟨by dsimp only;omega,?_⟩,by dsimp only;omega⟩;dsimp only;rw[aJ _ _ m,qS,qS,b2];have e3:[x].map rA=[cD W (aL nd) l.1]:=by simp only[zT,vA,rA,er]
   have e4:[x].map rB=[cD M l.2 l.1]:=by simp only[zT,vA,rB,er]
   rw[e3,e4];exact H6.bo 8 [2,3,4,5,6,7]
 have a6:i=L.length:=by omega
 subst a6;rw[qR]at H1;have ap:=H1.box 2 rfl;refine⟨s,rfl,p,ap.cells 1 _ rfl,(FJ p h1).mono ?_⟩;rintro _ h2 ⟨q,rfl,R2⟩;rw[ay,if_pos rfl]at R2;obtain⟨d,a4⟩:∃d,d=bw p.1.toNat p.2.1.toNat:=⟨_,rfl⟩
 have b4:d.length=p.2.1.toNat:=by rw[a4];simp[bw]
 have a7:∀x∈d,x.length=n:=fun x hx=>by rw[hn];exact LN _ _ x (a4▸hx)
 rw[<-a4]at R2⊢;have H2:=(H1.dc R2).XY 0 rfl;obtain⟨qr,H2⟩:=H2.Ob 0 rfl fun _=>rfl;have cq:=(H2.dO 0 rfl).1.len;have cp:=(H2.dO 0 rfl).2.1;refine⟨q,rfl,?_⟩;let a1:Row->Row:=fun x=>gn W x (aL nd) n;let a5:Row->Row:=fun x=>gn M x (aL w) n;refine aw (fun t:Nat×Sl×Sl=>(t.2.1,t.2.2,(t.1:Int))) (fun t h'=>t.1<=d.length/\aa B h0 h' (cj (ju 1 aB) 1 bQ q qr d::MA t.2.1 (L.map rA++(d.take t.1).map a1)::CA t.2.2 (L.map rB++(d.take t.1).map a5)::(Told s f p v r T N S I J F u Q++As))) (fun t=>d.length-t.1) (0,a,b) rfl ⟨by simp,by simpa using H2⟩ ?_;rintro⟨i,a,b⟩ h3 ⟨hi,H3⟩;dsimp only at*;refine ak (fun e=>?_) (fun e=>?_)
 ·have m:i<d.length:=by omega
  have b3:=a7 _ (qg m);have F3:=H3.dO 0 rfl;refine F3.1.ox i rfl (by omega) ?_;have b0:(qr[i]'(by omega)).len=n:=by rw[(Fix.row F3 m).len,b3]
  refine co (fun t h'=>aa B h0 h' (RA t.1 (aL nd)::RA t.2 (aL w)::cj (ju 1 aB) 1 bQ q qr d::MA a (L.map rA++(d.take i).map a1)::CA b (L.map rB++(d.take i).map a5)::(Told s f p v r T N S I J F u Q++As))) ?_ ?_
  ·have br:=H3.box 3 rfl;refine⟨s,rfl,p.2.2,show cellOf h3 (s.add 3)=_ from br.cell rfl,?_,?_⟩
   ·refine H3.make af aB fX (by decide) 0 rfl rfl nd nd (by rw[Z]) (by rw[Z]) (ql _) (by omega) fun x h4 _ _ V=>?_;have V:=V.bM;refine⟨⟨show cellOf h4 (s.add 3)=_ from(V.box 4 rfl).cell rfl,trivial⟩,?_⟩;refine V.make af aB fX (by decide) 0 rfl rfl w w hp hp (ql _) (by omega) fun y h5 _ _ H5=>⟨trivial,H5.bM.xx⟩
   ·refine H3.make af aB fX (by decide) 0 rfl rfl w w hp hp (ql _) (by omega) fun y h4 _ _ V=>⟨trivial,?_⟩
    refine V.bM.make af aB fX (by decide) 0 rfl rfl nd nd (by rw[Z]) (by rw[Z]) (ql _) (by omega) fun x h5 _ _ H5=>⟨trivial,H5.bM⟩
  rintro⟨ad,E⟩ h4 V;dsimp only at V⊢;refine aw (fun j:Nat=>(j:Int)) (fun j h'=>j<=n/\aa B h0 h' (RA ad (gn W d[i] (aL nd) j)::RA E (gn M d[i] (aL w) j)::cj (ju 1 aB) 1 bQ q qr d::MA a (L.map rA++(d.take i).map a1)::CA b (L.map rB++(d.take i).map a5)::(Told s f p v r T N S I J F u Q++As))) (fun j=>n-j) 0 rfl ⟨by omega,V⟩ ?_;rintro j h5 ⟨hj,H5⟩;have X:(gn W d[i] (aL nd) j).length=nd:=lx _ (by simp[aL]) fun k hk=>(G k (by omega)).1;have ab:(gn M d[i] (aL w) j).length=w:=lx _ (by simp[aL]) fun k hk=>(G k (by omega)).2;refine ak (fun e2=>?_) (fun e2=>?_)
  ·have Y:j<n:=by omega
   have a3:j<d[i].length:=by omega
   refine(Fix.row (H5.dO 2 rfl) m).bz j rfl a3 _ rfl ?_;have bd:d[i][j]'a3=aN d[i] j:=by rw[aN,qe,qd a3];rfl
   rw[bd];have tc:=G j Y;refine(It s f (aN d[i] j) (j:Int) ad E I J _ _ F u W M H5 (St.mk' fun h' U=>SR (ax (Cs:=[_,_,_]) U)) (by omega) (by omega) (by omega) (by rw[qo,tc.1,X]) (by rw[qo,tc.2,ab]) (by omega) (by omega)).mono ?_;rintro _ h6 ⟨rfl,H6⟩;rw[qo]at H6;exact⟨(),rfl,j+1,by rw[Go.Vc.wrap_small _ (by omega) (by omega)];rfl,⟨by omega,H6⟩,by omega⟩
  ·have a2:j=n:=by omega
   subst a2;have H6:=aa.aco (H5.freeze 0 rfl fun _=>rfl) 1 rfl;refine H6.wn af 3 0 (by decide) rfl rfl fJ (by simp;omega) fun a' h7 H7=>?_;refine H7.Lw af 4 1 (by decide) rfl rfl fJ rfl (by decide) (fun _=>rfl) nW rfl (by decide) (by simp;omega) fun b' h8 H8=>?_;refine⟨(i+1,a',b'),by dsimp only;rw[Go.Vc.wrap_small _ (by omega) (by omega)];rfl,⟨by dsimp only;omega,?_⟩,by dsimp only;omega⟩;dsimp only;rw[aJ _ _ m,qS,qS,<-qp,<-qp];exact H8.bo 9 [2,3,4,5,6,7,8]
 ·have a6:i=d.length:=by omega
  subst a6;rw[qR]at H3;exact⟨a,b,rfl,H3.rest⟩
end
section
variable {B:aA} {h0 h:Heap} {As:List HP}
theorem Iv{α:Type}{g:α->Bool}{l:List α}{i:Nat}(h:i<l.length)(a:∀j (b:j<l.length),j<i->g l[j]=false)(c:g l[i]=true):l.findIdx g=i:=by
 rw[List.findIdx_eq h];exact⟨c,fun j b=>a j (by omega) b⟩
theorem WL(s:Sl)(l:List Int)(b:FuncId)(a:Array Value)(g:Int->Bool)(Q:Heap->Prop)(u:C.fns[b]?=some true)(A:St B h0 As Q)(q:∀x h',Q h'->ae xl b ([Value.int .i64 x]++a.toList).toArray h' fun v p=>v=xf (g x)/\Sp h' p [])(H:aa B h0 h (an aT s 1 aD l::As))(F:l.length<=2^20):
  ae xl tE #[vY s.ptr s.len s.cap,.func (.func b) #[] a] h fun v h'=>v=vX xh (if l.findIdx g<l.length then(l.findIdx g:Int)else-1)/\aa B h0 h' (an aT s 1 aD l::As):=by
 refine ia s (b,#[],a) ?_;unfold fT;have y:=(H.own 0 rfl).len;refine aw (fun i:Nat=>(i:Int)) (fun i h'=>aa B h0 h' (an aT s 1 aD l::As)/\i<=l.length/\∀j (n:j<l.length),j<i->g l[j]=false) (fun i=>l.length-i) 0 rfl ⟨H,by omega,fun j _ n=>by omega⟩ ?_;rintro i w ⟨m,D,d⟩;refine ak (fun e=>?_) (fun e=>?_)
 ·have c:i<l.length:=by omega
  refine(m.seq 0 rfl fun _=>rfl).bz i rfl c _ rfl ?_;refine fa u ?_;refine(q l[i] w (A.at [_] m)).mono ?_;rintro _ E ⟨rfl,t⟩;refine⟨_,rfl,bs (fun r=>?_) (fun r=>?_)⟩
  ·rw[Iv c d r,if_pos c];exact⟨rfl,m.up t.ai⟩
  ·refine⟨i+1,by rw[Go.Vc.wrap_small _ (by omega) (by omega)];rfl,⟨m.up t.ai,by omega,fun j n o=>?_⟩,by omega⟩;rcases zq.1 o with h3|rfl
   ·exact d j n h3
   ·exact r
 ·have k:¬l.findIdx g<l.length:=by
   rw[yo];rintro⟨x,z,f⟩;obtain⟨j,n,rfl⟩:=qG z;rw[d j n (by omega)]at f;cases f
  rw[if_neg k];exact⟨rfl,m⟩
theorem ZG{α:Type}{g:α->Bool}{l:List α}{j:Nat}(h:j<l.findIdx g)(a:j<l.length):g l[j]=false:=by
 simpa using List.not_of_lt_findIdx h
structure mv {α:Type} (g:α->Bool) (l l':List α) (i j:Nat):Prop where
 len:l'.length=l.length
 le:i<=j
 pre:l'.take i=(l.take j).filter fun x=>!g x
 post:l'.drop j=l.drop j
theorem mv.start{α:Type}{g:α->Bool}{l:List α}{i:Nat}(h:i<l.length)(b:l.findIdx g=i):mv g l l i (i+1):=by
 refine⟨rfl,by omega,?_,rfl⟩;have a:g l[i]=true:=by
  have:=List.findIdx_getElem (xs:=l) (p:=g) (w:=by rw[b];exact h);simpa[b]using this
 rw[aJ _ _ h,zk,zp,a];have:(l.take i).filter (fun x=>!g x)=l.take i:=wq.2 fun x d=>by
  obtain⟨j,c,rfl⟩:=qG d;simp only[qZ]at c;rw[w5,ZG (g:=g) (l:=l) (j:=j) (by omega) (by omega)];rfl
 rw[this];simp
theorem mv.at_{α:Type}{g:α->Bool}{l b:List α}{i j:Nat}(x:mv g l b i j)(a:j<l.length):b[j]'(by rw[x.len];exact a)=l[j]:=by
 have h:=congrArg (fun m=>m[0]?) x.post;simp only[wB,w9]at h;rw[qd a,qd (by rw[x.len];exact a)]at h;exact zL.inj h
theorem mv.keep{α:Type}{g:α->Bool}{l a:List α}{i j:Nat}(x:mv g l a i j)(c:j<l.length)(d:g l[j]=false):mv g l (a.set i l[j]) (i+1) (j+1):=by
 have f:=x.len;have b:=x.le;refine⟨by simp[f],by omega,?_,?_⟩
 ·rw[aJ _ _ (by simp;omega),vC,List.take_set_of_le (ql _),x.pre,aJ _ _ c,zk,zp,d];rfl
 ·rw[List.drop_set_of_lt (by omega)];have e:=congrArg (vW 1) x.post;simpa[zy]using e
theorem mv.skip{α:Type}{g:α->Bool}{l a:List α}{i j:Nat}(x:mv g l a i j)(c:j<l.length)(d:g l[j]=true):mv g l a i (j+1):=by
 have f:=x.len;have b:=x.le;refine⟨f,by omega,?_,?_⟩
 ·rw[x.pre,aJ _ _ c,zk,zp,d];simp
 ·have e:=congrArg (vW 1) x.post;simpa[zy]using e
theorem filter_all{α:Type}{g:α->Bool}{l:List α}(h:¬l.findIdx g<l.length):l.filter (fun x=>!g x)=l:=wq.2 fun x a=>by
 have:g x=false:=by
  cases hh:g x with
  |false=>rfl
  |true=>exact absurd (yo.2 ⟨x,a,hh⟩) h
 rw[this];rfl
theorem UV(s:Sl)(l:List Int)(b:FuncId)(a:Array Value)(g:Int->Bool)(Q:Heap->Prop)(y:C.fns[b]?=some true)(A:St B h0 As Q)(f:∀x h',Q h'->ae xl b ([Value.int .i64 x]++a.toList).toArray h' fun v o=>v=xf (g x)/\Sp h' o [])(H:aa B h0 h (an aT s 1 aD l::As))(M:l.length<=2^20):
  ae xl sk #[vY s.ptr s.len s.cap,.func (.func b) #[] a] h fun v h'=>∃r:Sl,v=vY r.ptr r.len r.cap/\aa B h0 h' (an aT r 1 aD (l.filter fun x=>!g x)::As):=by
 refine ry s (b,#[],a) ?_;unfold lh;refine(WL s l b a g Q y A f H M).mono ?_;rintro _ N ⟨rfl,z⟩;have K:=(H.own 0 rfl).len;have G:=(H.own 0 rfl).cap;refine⟨_,rfl,cw (fun e=>?_) (fun e=>?_)⟩
 ·have q:¬l.findIdx g<l.length:=fun n=>by rw[if_pos n]at e;omega
  exact⟨s,rfl,by rw[filter_all q];exact z⟩
 ·have c:l.findIdx g<l.length:=by
   by_cases n:l.findIdx g<l.length
   ·exact n
   ·rw[if_neg n]at e;exact absurd rfl e
  rw[if_pos c];refine aw (fun t:Nat×Nat×List Int=>((t.1:Int),(t.2.1:Int))) (fun t h'=>mv g l t.2.2 t.1 t.2.1/\t.2.1<=l.length/\aa B h0 h' (an aT s 1 aD t.2.2::As)) (fun t=>l.length-t.2.1) (l.findIdx g,l.findIdx g+1,l) (by rw[Go.Vc.wrap_small _ (by omega) (by omega)];rfl) ⟨mv.start c rfl,by dsimp only;omega,z⟩ ?_;rintro⟨i,j,w⟩ E ⟨M2,P,m⟩;dsimp only at*;have D:=M2.len;have L:=M2.le;refine ak (fun I=>?_) (fun I=>?_)
  ·have d:j<l.length:=by omega
   refine(m.seq 0 rfl fun _=>rfl).bz j rfl (by omega) _ rfl ?_;rw[M2.at_ d];refine fa y ?_;refine(f l[j] E (A.at [_] m)).mono ?_;rintro _ h3 ⟨rfl,J⟩;have k:=m.up J.ai;refine⟨_,rfl,bi (fun u=>?_) (fun u=>?_)⟩
   ·refine k.set af 0 rfl (fun _=>rfl) rfl i rfl (by omega) l[j] rfl rfl rfl fun O F=>?_;exact⟨(i+1,j+1,w.set i l[j]),by dsimp only;rw[Go.Vc.wrap_small _ (by omega) (by omega),Go.Vc.wrap_small _ (by omega) (by omega)];rfl,⟨M2.keep d (by simpa using u),by dsimp only;omega,F⟩,by dsimp only;omega⟩
   ·exact⟨(i,j+1,w),by dsimp only;rw[Go.Vc.wrap_small _ (by omega) (by omega)];rfl,⟨M2.skip d (by simpa using u),by dsimp only;omega,k⟩,by dsimp only;omega⟩
  ·have p:j=l.length:=by omega
   subst p;refine⟨⟨by omega,by omega⟩,?_⟩;rw[qo];refine m.oK af 0 rfl me (fun _=>rfl) rfl (by decide) i (by omega) fun h3 k=>⟨⟨by omega,by omega⟩,⟨s.ptr,i,s.cap⟩,rfl,?_⟩
   have:=M2.pre;rw[qR]at this;rw[<-this];exact k
end
section
variable {B:aA} {h0 h:Heap} {As:List HP}
abbrev ahu:bN C.toCB QS cS 2 [vX xh 0,vX xh 0] 16:=⟨_,_,rfl,rfl,rfl,rfl,rfl,rfl⟩
theorem WM(s:Sl)(l:List (Int×Int))(b:FuncId)(a:Array Value)(g:Int×Int->Bool)(Q:Heap->Prop)(u:C.fns[b]?=some true)(A:St B h0 As Q)(q:∀x h',Q h'->ae xl b ([Value.agg #[vX xh x.1,vX xh x.2]]++a.toList).toArray h' fun v p=>v=xf (g x)/\Sp h' p [])(H:aa B h0 h (an cS s 2 fi l::As))(F:l.length<=2^20):
  ae xl mB #[vY s.ptr s.len s.cap,.func (.func b) #[] a] h fun v h'=>v=vX xh (if l.findIdx g<l.length then(l.findIdx g:Int)else-1)/\aa B h0 h' (an cS s 2 fi l::As):=by
 refine mb s (b,#[],a) ?_;unfold iv;have y:=(H.own 0 rfl).len;refine aw (fun i:Nat=>(i:Int)) (fun i h'=>aa B h0 h' (an cS s 2 fi l::As)/\i<=l.length/\∀j (n:j<l.length),j<i->g l[j]=false) (fun i=>l.length-i) 0 rfl ⟨H,by omega,fun j _ n=>by omega⟩ ?_;rintro i w ⟨m,D,d⟩;refine ak (fun e=>?_) (fun e=>?_)
 ·have c:i<l.length:=by omega
  refine(m.seq 0 rfl fun _=>rfl).dI (g:=fi) i rfl c l[i] rfl ?_;refine fa u ?_;refine(q l[i] w (A.at [_] m)).mono ?_;rintro _ E ⟨rfl,t⟩;refine⟨_,rfl,bs (fun r=>?_) (fun r=>?_)⟩
  ·rw[Iv c d r,if_pos c];exact⟨rfl,m.up t.ai⟩
  ·refine⟨i+1,by rw[Go.Vc.wrap_small _ (by omega) (by omega)];rfl,⟨m.up t.ai,by omega,fun j n o=>?_⟩,by omega⟩;rcases zq.1 o with h3|rfl
   ·exact d j n h3
   ·exact r
 ·have k:¬l.findIdx g<l.length:=by
   rw[yo];rintro⟨x,z,f⟩;obtain⟨j,n,rfl⟩:=qG z;rw[d j n (by omega)]at f;cases f
  rw[if_neg k];exact⟨rfl,m⟩
theorem UW(s:Sl)(l:List (Int×Int))(b:FuncId)(a:Array Value)(g:Int×Int->Bool)(Q:Heap->Prop)(z:C.fns[b]?=some true)(F:St B h0 As Q)(k:∀x h',Q h'->ae xl b ([Value.agg #[vX xh x.1,vX xh x.2]]++a.toList).toArray h' fun v o=>v=xf (g x)/\Sp h' o [])(H:aa B h0 h (an cS s 2 fi l::As))(M:l.length<=2^20):
  ae xl ma #[vY s.ptr s.len s.cap,.func (.func b) #[] a] h fun v h'=>∃r:Sl,v=vY r.ptr r.len r.cap/\aa B h0 h' (an cS r 2 fi (l.filter fun x=>!g x)::As):=by
 refine lN s (b,#[],a) ?_;unfold ig;refine(WM s l b a g Q z F k H M).mono ?_;rintro _ O ⟨rfl,D⟩;have K:=(H.own 0 rfl).len;have I:=(H.own 0 rfl).cap;refine⟨_,rfl,cw (fun e=>?_) (fun e=>?_)⟩
 ·have q:¬l.findIdx g<l.length:=fun n=>by rw[if_pos n]at e;omega
  exact⟨s,rfl,by rw[filter_all q];exact D⟩
 ·have d:l.findIdx g<l.length:=by
   by_cases n:l.findIdx g<l.length
   ·exact n
   ·rw[if_neg n]at e;exact absurd rfl e
  rw[if_pos d];refine aw (fun t:Nat×Nat×List (Int×Int)=>((t.1:Int),(t.2.1:Int))) (fun t h'=>mv g l t.2.2 t.1 t.2.1/\t.2.1<=l.length/\aa B h0 h' (an cS s 2 fi t.2.2::As)) (fun t=>l.length-t.2.1) (l.findIdx g,l.findIdx g+1,l) (by rw[Go.Vc.wrap_small _ (by omega) (by omega)];rfl) ⟨mv.start d rfl,by dsimp only;omega,D⟩ ?_;rintro⟨i,j,y⟩ P ⟨M2,S,u⟩;dsimp only at*;have G:=M2.len;have L:=M2.le;refine ak (fun J=>?_) (fun J=>?_)
  ·have f:j<l.length:=by omega
   refine(u.seq 0 rfl fun _=>rfl).dI (g:=fi) j rfl (by omega) l[j] (by rw[M2.at_ f]) ?_;refine u.alloc af rfl fun a5 h3 c=>?_;have c:=c.bM;refine c.storeAll af 0 rfl rfl (fi l[j]) rfl rfl rfl rfl fun A m=>?_;refine⟨l[j],(m.box 0 rfl).aO _ rfl,?_⟩;refine fa z ?_;refine(k l[j] A (F.at [_,_] m)).mono ?_;rintro _ R ⟨rfl,N⟩;have E:=m.up N.ai;have c:=E.Lx;refine⟨_,rfl,bi (fun w=>?_) (fun w=>?_)⟩
   ·refine⟨l[j],(E.box 0 rfl).aO _ rfl,?_⟩;refine c.set af 0 rfl (fun _=>rfl) rfl i rfl (by omega) l[j] rfl rfl rfl fun A m=>?_;exact⟨(i+1,j+1,y.set i l[j]),by dsimp only;rw[Go.Vc.wrap_small _ (by omega) (by omega),Go.Vc.wrap_small _ (by omega) (by omega)];rfl,⟨M2.keep f (by simpa using w),by dsimp only;omega,m⟩,by dsimp only;omega⟩
   ·exact⟨(i,j+1,y),by dsimp only;rw[Go.Vc.wrap_small _ (by omega) (by omega)];rfl,⟨M2.skip f (by simpa using w),by dsimp only;omega,c⟩,by dsimp only;omega⟩
  ·have p:j=l.length:=by omega
   subst p;refine⟨⟨by omega,by omega⟩,?_⟩;rw[qo];refine u.oK af 0 rfl ahu (fun _=>rfl) rfl (by decide) i (by omega) fun h3 c=>⟨⟨by omega,by omega⟩,⟨s.ptr,i,s.cap⟩,rfl,?_⟩
   have:=M2.pre;rw[qR]at this;rw[<-this];exact c
end
section
variable {B:aA} {h0 h:Heap} {As:List HP}
def uY(pool:List (Sl×List Int)):HP:=⟨fun h q=>∀x∈pool,Seq h q x.1 1 aD x.2,fun a d x b=>(a x b).ai d,fun a c x b=>(a x b).mono c⟩
theorem aa.acp(H:aa B h0 h As):aa B h0 h (As++[uY []]):=H.comp (.one (aU.refl _ _) fun x a=>by cases a)
theorem aa.afd(H:aa B h0 h As)(i j:Nat)(b:i≠j){pool:List (Sl×List Int)}{r:Sl}{l:List Int}(c:As[i]?=some (uY pool))(d:As[j]?=some (tW r 1 aD l)):aa B h0 h ((As.set i (uY (pool++[(r,l)]))).set j emp):=
 H.merge i j b c d fun k g _ e f x a=>by
  rcases qB.1 a with a|a
  ·exact(e x a).mono fun _ h=>.inl h
  ·rw[qH]at a;subst a;exact Seq.mono f fun _ h=>.inr h
abbrev ahv:bN C.toCB VA oD 1 [vY none 0 0] 24:=⟨_,_,rfl,rfl,rfl,rfl,rfl,rfl⟩
theorem WN(s d:Addr)(r:Sl)(x:Int×Int)(h':Heap)(e:cellOf h' d=some (vZ (some s))/\cellOf h' (s.add 5)=some (vY r.ptr r.len r.cap)):
  ae xl mR ([Value.agg #[vX xh x.1,vX xh x.2]]++(#[Value.pointer (some d)]:Array Value).toList).toArray h' fun v c=>v=xf (decide (x.1>=(r.len:Int)))/\Sp h' c []:=by
 refine uQ x d ?_;unfold nI;refine(Sp.refl h').boxed fun a f b=>?_;exact⟨x.1,(b.box 0 rfl).cell0 rfl,some s,sA e.1 b.ai,s,rfl,r,sA e.2 b.ai,rfl,.zip b.ai⟩
theorem WO(s b:Addr)(r:Sl)(x:Int)(h':Heap)(c:cellOf h' b=some (vZ (some s))/\cellOf h' (s.add 5)=some (vY r.ptr r.len r.cap)):
  ae xl mS ([Value.int .i64 x]++(#[Value.pointer (some b)]:Array Value).toList).toArray h' fun v a=>v=xf (decide (x>=(r.len:Int)))/\Sp h' a []:=by
 refine uR x b ?_;unfold nJ;exact⟨some s,c.1,s,rfl,r,c.2,rfl,Sp.refl _⟩
theorem WP(s f:Addr)(p:Int×Int×Int)(v r u m q I J kn:Sl)(G:List (Sl×Sl))(R:List eK)(known:List Bool)(n:Nat)(H:aa B h0 h (SA s (fU f p v r u m q I J)::As))(hS:St B h0 As fun h=>nX jc 2 qv h r G R/\Rd h kn 1 ey known)(ax:known.length=n)(hn:n<=64)(bb:R.length<=2^19)(ay:∀e∈R,e.1.length<=2^20)
  (E:jt (n:Int) (rowsOf R known n)=true) (W:(dn n (rowsOf R known n)).steps.length<=2^20/\(fd (dn n (rowsOf R known n)).used (rowsOf R known n).length).length<=2^20):
  ae xl Ch #[vZ (some s),vY kn.ptr kn.len kn.cap] h fun v' h'=>v'=.tuple #[]/\∃A w D:Sl,aa B h0 h' (SA s (fU f p v r A w D I J)::an cS A 2 fi ((dn n (rowsOf R known n)).steps.filter fun x=>decide (x.1<R.length))::an aT w 1 aD (dn n (rowsOf R known n)).dead::an aT D 1 aD ((fd (dn n (rowsOf R known n)).used (rowsOf R known n).length).filter fun x=>decide (x<R.length))::As):=by
 refine AL (some s) kn ?_;unfold oZ;refine H.boxed fun y K T=>?_;have T:=T.bM;refine⟨some s,(T.box 0 rfl).cell0 rfl,s,rfl,r,(T.box 1 rfl).cell rfl,?_⟩;have G1:=hS.at [_,_] T;have ad:=G1.1.1.len;have Q:=G1.1.2.1;have am:=G1.2.len;let pre:List HP:=[aq y fL [vZ (some s)],SA s (fU f p v r u m q I J)]
 have H2:aa B h0 K (an oD ⟨none,0,0⟩ 1 bQ []::uY []::aq y fL [vZ (some s)]::SA s (fU f p v r u m q I J)::As):=((aa.acp T).bM.nil oD 1 bQ).bM;refine aw (fun t:Nat×Sl=>(t.2,(t.1:Int))) (fun t h'=>t.1<=R.length/\aa B h0 h' (an oD t.2 1 bQ ((G.take t.1).map qJ)::uY []::aq y fL [vZ (some s)]::SA s (fU f p v r u m q I J)::As)) (fun t=>R.length-t.1) (0,⟨none,0,0⟩) rfl ⟨by simp,by simpa using H2⟩ ?_;rintro⟨i,o⟩ h3 ⟨hi,H3⟩;dsimp only at*;refine ak (fun e=>?_) (fun e=>?_)
 ·have ap:i<R.length:=by omega
  have G3:=hS.at [_,_,_,_] H3;refine G3.1.1.dI (g:=qv) i rfl (by omega) (G[i]'(by omega)) rfl ?_;refine H3.alloc af rfl fun a8 h4 z=>?_;have z:=z.bM;refine z.storeAll af 0 rfl rfl (qv (G[i]'(by omega))) rfl rfl rfl rfl fun h5 L=>?_;refine⟨(G[i]'(by omega)).1,(L.box 0 rfl).cell0 rfl,?_⟩;refine L.Lx.push af 0 rfl ahv rfl (by decide) (fun _=>rfl) nW (G[i]'(by omega)).1 rfl (by decide) (by simp;omega) fun o' h6 H6=>?_;refine⟨(i+1,o'),by dsimp only;rw[Go.Vc.wrap_small _ (by omega) (by omega)];rfl,⟨by dsimp only;omega,?_⟩,by dsimp only;omega⟩;dsimp only;rw[aJ G i (by omega),qS];exact H6
 have O:i=R.length:=by omega
 subst O;rw[qi (by omega)]at H3;refine aw (fun t:Nat×Sl×List Sl=>(t.2.1,(t.1:Int))) (fun t h'=>t.1<=n/\t.2.2.length=(gM known t.1).length/\aa B h0 h' (an oD t.2.1 1 bQ (G.map qJ++t.2.2)::uY (t.2.2.zip (gM known t.1))::aq y fL [vZ (some s)]::SA s (fU f p v r u m q I J)::As)) (fun t=>n-t.1) (0,o,[]) rfl ⟨by omega,rfl,by simpa using H3⟩ ?_;rintro⟨i,o,U⟩ h4 ⟨hi,F,z⟩;dsimp only at*;have a9:=Fb known i;refine ak (fun e=>?_) (fun e=>?_)
 ·have ap:i<n:=by omega
  have G4:=hS.at [_,_,_,_] z;refine G4.2.bz i rfl (by omega) _ rfl ?_;have a2:known.getD i false=known[i]'(by omega):=by rw[qe,qd (by omega)];rfl
  have M:=Om known i;rw[a2]at M;refine bs (fun e2=>?_) (fun e2=>?_)
  ·rw[e2,if_pos rfl]at M;refine z.lit af aD me rfl [(i:Int)] rfl (show 1*1<=2^20 by decide) rfl fun b h5 L=>?_;have L:=L.bM.freeze 0 rfl fun _=>rfl;have H6:=aa.afd L 2 0 (by decide) rfl rfl;refine H6.push af 1 rfl ahv rfl (by decide) (fun _=>rfl) nW b rfl (by decide) (by simp;omega) fun o' h7 Z=>?_;refine⟨(i+1,o',U++[b]),by dsimp only;rw[Go.Vc.wrap_small _ (by omega) (by omega)];rfl,⟨by dsimp only;omega,by dsimp only;rw[M];simp[F],?_⟩,by dsimp only;omega⟩;dsimp only;rw[M,List.zip_append F,<-qp];exact Z.Lx
  ·rw[e2,if_neg (by simp),qQ]at M;exact⟨(i+1,o,U),by dsimp only;rw[Go.Vc.wrap_small _ (by omega) (by omega)];rfl,⟨by dsimp only;omega,by dsimp only;rw[M];exact F,by dsimp only;rw[M];exact z⟩,by dsimp only;omega⟩
 have O:i=n:=by omega
 subst O;have G4:=hS.at [_,_,_,_] z;have P:(rowsOf R known i).length=R.length+U.length:=by rw[rowsOf,qw,qx,F]
 have ab:gO h4 (fun b=>b<h4.size) o 1 aD (rowsOf R known i) (G.map qJ++U):=by
  refine⟨z.seq 0 rfl fun _=>rfl,by rw[P];simp;omega,fun k a l K S=>?_⟩;by_cases hk:k<R.length
  ·rw[qn (by simp;omega),qP,qd (by omega)]at K;rw[rowsOf,qn (by simp;omega),qP,qd hk]at S;simp only[qN,zL.injEq]at K S;subst K;subst S;exact(Fix.row G4.1 hk).1
  ·rw[qj (by simp;omega)]at K;rw[rowsOf,qj (by simp;omega)]at S;simp only[qx,Q]at K S;have hm:(a,l)∈U.zip (gM known i):=by
    refine yy.2 ⟨k-R.length,?_⟩;rw[vg];exact⟨K,S⟩
   exact(z.at 1 rfl) _ hm
 rw[am,ax];refine(ach (i:Int) o (rowsOf R known i) _ h4 ab (by omega) ?_).mono ?_
 ·intro x X;rcases qB.1 X with X|X
  ·obtain⟨e,he,rfl⟩:=qu.1 X;have:=ay e he;omega
  ·obtain⟨c,hc,rfl⟩:=qu.1 X;simp
 rintro _ h5 ⟨A,w,D,rfl,R5⟩;have a0:EP (i:Int) (rowsOf R known i)=((dn i (rowsOf R known i)).steps,(dn i (rowsOf R known i)).dead,fd (dn i (rowsOf R known i)).used (rowsOf R known i).length):=by
  unfold EP;rw[if_pos E,qo]
 rw[a0]at R5;dsimp only at R5;have L:=((z.Lx).Lx).comp R5;refine⟨((A,w,D),_),rfl,?_⟩;have H6:aa B h0 h5 (an cS A 2 fi (dn i (rowsOf R known i)).steps::an aT w 1 aD (dn i (rowsOf R known i)).dead::an aT D 1 aD (fd (dn i (rowsOf R known i)).used (rowsOf R known i).length)::aq y fL [vZ (some s)]::SA s (fU f p v r u m q I J)::As):=aa.front (As:=aq y fL [vZ (some s)]::SA s (fU f p v r u m q I J)::As) (Bs:=[_,_,_]) L;refine H6.alloc af rfl fun a4 h7 Z=>?_;have Z:=Z.bM;refine Z.storeAll af 0 rfl rfl [vY A.ptr A.len A.cap,vY w.ptr w.len w.cap,vY D.ptr D.len D.cap] rfl rfl rfl rfl fun h8 H8=>?_;refine⟨A,(H8.box 0 rfl).cell0 rfl,?_⟩;refine(UW A _ mR #[vZ (some y)] (fun x=>decide (x.1>=(r.len:Int))) (fun h'=>cellOf h' y=some (vZ (some s))/\cellOf h' (s.add 5)=some (vY r.ptr r.len r.cap)) rfl (St.mk' fun h' Y=>⟨(Y.box 3 rfl).cell0 rfl,(Y.box 4 rfl).cell rfl⟩) (fun x h' hq=>WN s y r x h' hq) H8.xx W.1).mono ?_;rintro _ h9 ⟨j,rfl,H9⟩;refine⟨j,rfl,?_⟩;refine H9.jS af 1 rfl rfl [vY j.ptr j.len j.cap] rfl rfl rfl (by simp) fun a5 ah=>?_;refine⟨D,(ah.box 1 rfl).cell rfl,?_⟩;have a3:=ah.bo 6 [3,0,1,2,4,5];refine(UV D _ mS #[vZ (some y)] (fun x=>decide (x>=(r.len:Int))) (fun h'=>cellOf h' y=some (vZ (some s))/\cellOf h' (s.add 5)=some (vY r.ptr r.len r.cap)) rfl (St.mk' fun h' Y=>⟨(Y.box 3 rfl).cell0 rfl,(Y.box 4 rfl).cell rfl⟩) (fun x h' hq=>WO s y r x h' hq) a3 W.2).mono ?_;rintro _ bd ⟨d,rfl,ao⟩;refine⟨d,rfl,?_⟩;refine ao.store af 2 rfl rfl 2 [vY d.ptr d.len d.cap] rfl rfl rfl (by simp) fun a7 N=>?_;refine⟨some s,(N.box 4 rfl).cell0 rfl,(j,w,d),(N.box 2 rfl).aO _ rfl,s,rfl,?_⟩;refine N.store af 5 rfl rfl 6 [vY j.ptr j.len j.cap,vY w.ptr w.len w.cap,vY d.ptr d.len d.cap] rfl rfl rfl (by simp[fU]) fun a6 V=>⟨rfl,j,w,d,?_⟩
 have e1:(fun x:Int×Int=>!decide (x.1>=(r.len:Int)))=fun x=>decide (x.1<(R.length:Int)):=by
  funext x;rw[ad,Q];by_cases h:x.1<(R.length:Int)
  ·rw[decide_eq_true h,decide_eq_false (by omega)];rfl
  ·rw[decide_eq_false h,decide_eq_true (by omega)];rfl
 have e2:(fun x:Int=>!decide (x>=(r.len:Int)))=fun x=>decide (x<(R.length:Int)):=by
  funext x;rw[ad,Q];by_cases h:x<(R.length:Int)
  ·rw[decide_eq_true h,decide_eq_false (by omega)];rfl
  ·rw[decide_eq_false h,decide_eq_true (by omega)];rfl
 rw[e1,e2]at V;exact V.bo 6 [5,1,3,0]
end
theorem agd(h:Heap)(x:UInt8):ae xl FF #[vX xi x.toNat] h fun v h'=>v=xf (x !=0)/\h'=h:=by
 refine Pb _ ?_;unfold HR;refine⟨?_,rfl⟩;congr 1;by_cases a:x=0
 ·subst a;rfl
 ·have:((x.toNat:Nat):Int)≠0:=fun b=>a (EG.1 b);rw[bne_iff_ne.2 a];exact bne_iff_ne.2 this
theorem acq(a:Sl)(l:Row)(h:Heap)(p:Rd h a 1 aB l)(u:l.length<=2^30):ae xl VU #[vY a.ptr a.len a.cap] h fun v h'=>v=vX xh (if ms l<l.length then(ms l:Int)else-1)/\h'=h:=by
 refine TT a ?_;unfold MK;refine(rg a (FF,#[],#[]) (R:=fun v h'=>v=vX xh (if ms l<l.length then(ms l:Int)else-1)/\h'=h) ?_).mono ?_
 ·unfold kR;have r:=p.len;refine aw (fun i:Nat=>(i:Int)) (fun i h'=>h'=h/\i<=l.length/\∀j (d:j<l.length),j<i->l[j]=0) (fun i=>l.length-i) 0 rfl ⟨rfl,by omega,fun j _ d=>by omega⟩ ?_;rintro i o ⟨rfl,s,c⟩;refine ak (fun e=>?_) (fun e=>?_)
  ·have b:i<l.length:=by omega
   refine p.bz i rfl b _ rfl ?_;refine fa (by rfl) ?_;refine(agd o l[i]).mono ?_;rintro v t ⟨rfl,rfl⟩;refine⟨_,rfl,bs (fun n=>?_) (fun n=>?_)⟩
   ·have m:ms l=i:=by
     rw[ms,List.findIdx_eq b];exact⟨n,fun j d=>by simp[c j (by omega) d]⟩
    rw[m,if_pos b];exact⟨rfl,rfl⟩
   ·refine⟨i+1,by rw[wrap_small _ (by omega) (by omega)];rfl,⟨rfl,by omega,fun j d k=>?_⟩,by omega⟩;rcases zq.1 k with h3|rfl
    ·exact c j d h3
    ·simpa using n
  ·have g:¬ms l<l.length:=by
    rw[ms,yo];rintro⟨x,q,f⟩;obtain⟨j,d,rfl⟩:=qG q;rw[c j d (by omega)]at f;simp at f
   rw[if_neg g];exact⟨rfl,rfl⟩
 ·rintro v o ⟨rfl,rfl⟩;exact⟨_,rfl,rfl,rfl⟩
theorem QG{l:Row}:¬ms l<l.length↔l=aL l.length:=by
 rw[ms,yo];constructor
 ·intro h;refine vD.2 ⟨rfl,fun x b=>?_⟩;by_cases a:x=0
  ·exact a
  ·exact absurd ⟨x,b,by simpa using a⟩ h
 ·rintro h ⟨x,b,a⟩;have:=(vD.1 h).2 x b;subst this;simp at a
theorem WQ(f:Addr)(a b:Sl)(A B:aS)(m n w:Nat)(h:Heap)(hf:gI h f)(ha:gr h a 1 aB A)(hb:gr h b 1 aB B)(hl:A.length=m)(bb:B.length=m)(q:bh n A)(hB:bh w B)(b2:1<=n)(hn:n+w<=64)(hm:m<=2^20)(hr:cL A=n):
  ae xl Hy #[vZ (some f),vY a.ptr a.len a.cap,vY b.ptr b.len b.cap] h fun v h'=>(kE n A B/\∃r:Sl,v=.tuple #[vY r.ptr r.len r.cap,vX xh 0]/\Sp h h' [fP aH r 1 aB (fD n A B)])∨(¬kE n A B/\v=.tuple #[vY none 0 0,vX xh 10]/\Sp h h' []):=by
 have bl:n<=m:=by have:=pH A q;omega
 have d:B.length=A.length:=by omega
 have ao:=ha.len;have T:=hb.len;refine Fy (some f) a b ?_;unfold Cf;refine aX ?_;refine(mY a A n h ha q (by omega) (by omega)).mono ?_;rintro v S ⟨rfl,rfl⟩;refine⟨_,rfl,bi (fun e=>by cases e) fun _=>?_⟩;refine(mY b B w S hb hB (by omega) (by omega)).mono ?_;rintro v H ⟨rfl,rfl⟩;refine⟨_,rfl,bi (fun e=>by cases e) fun _=>?_⟩;refine ci (fun e=>absurd (by rw[ao,T,d]) e) fun _=>?_;refine cw (fun e=>by omega) fun _=>?_;refine(sw a A H ha).mono ?_;rintro v h3 ⟨rfl,rfl⟩;have ab:fM A=n:=by
  cases A with
  |nil=>simp at hl;omega
  |cons x t=>rw[fM,bu (by simp)];exact q _ (by simp)
 refine⟨_,rfl,?_⟩;rw[ab];refine(Ah a A n h3 ha q (by omega) (by omega)).mono ?_;rintro v h4 ⟨r,rs,rfl,a7,R4⟩;refine⟨r,rfl,?_⟩;have a6:=(R4.own 0 rfl).len;refine aw (fun t:Nat×List Sl=>(t.1:Int)) (fun t h'=>t.1<=m/\t.2.length=m/\Sp h3 h' (nR r t.2 (pm A B t.1))) (fun t=>m-t.1) (0,rs) rfl ⟨by simp,by dsimp only;omega,by simpa[pm,dX]using R4⟩ ?_;rintro⟨k,rs⟩ h5 ⟨hk,bd,H5⟩;dsimp only at*;have Z:rs.length=(pm A B k).length:=by rw[tI d];omega
 refine ak (fun e=>?_) (fun e=>?_)
 ·have O:k<m:=by omega
  have K:k<A.length:=by omega
  have F:=ph (a:=r) Z k (by rw[tI d];omega);have eg:(pm A B k)[k]'(by rw[tI d];omega)=A[k]:=by
   have:=abF d K;rw[qd (by rw[tI d];omega)]at this;exact zL.inj this
  rw[eg]at F;have l1:A[k].length=n:=q _ (qg _);have l2:(B[k]'(by omega)).length=w:=hB _ (qg _);refine(H5.seq 0 rfl (fun _=>rfl)).tZ k rfl (by omega) fun a1 P R=>?_;refine(hb.up H5.ai).get k rfl (by omega) fun rb am=>?_;refine H5.append af (k+1) F fX Uy rfl (by decide) (fun _=>rfl) am gp (by omega) fun s6 h6 H6=>⟨trivial,?_⟩
  refine H6.set af 0 rfl (fun _=>rfl) rfl k rfl (by omega) s6 rfl rfl rfl fun h7 H7=>⟨trivial,?_⟩
  refine⟨(k+1,rs.set k s6),by dsimp only;rw[Go.Vc.wrap_small _ (by omega) (by omega)];rfl,⟨by dsimp only;omega,by dsimp only;simp;omega,?_⟩,by dsimp only;omega⟩;dsimp only;rw[<-abG d K];show Sp h3 h7 (an aH r 1 bQ (rs.set k s6)::bT aC 1 aB (rs.set k s6) ((pm A B k).set k _));rw[<-lR Z];exact H7
 ·have a2:k=A.length:=by omega
  subst a2;rw[abH d]at H5;refine(uh f h5).mono ?_;rintro v h6 ⟨rfl,rfl⟩;refine⟨some f,rfl,?_⟩;have U:=mK d.symm q hB;have b0:=lS d.symm;refine(Cr (m:=dX A B) (n:=n+w) hf hf.lt (by omega) U (by omega) (by omega) (by omega) H5).mono ?_;rintro v h7 ⟨l,rfl,a4,u⟩;rw[Kp d.symm q,hr];refine⟨_,rfl,?_⟩;dsimp only;have L:=(u.own 0 rfl).cap;have br:=(u.own 0 rfl).len;have H:=ik U n;refine ak (fun e=>absurd (show(n:Int)<(n:Int)from e) (by omega)) fun _=>?_;refine⟨⟨zO _,yI.2 (show n<=r.len by omega)⟩,?_⟩;obtain⟨M,V⟩:∃M,M=(bF (dX A B) n).2:=⟨_,rfl⟩
  have a9:M.length=A.length:=by have:=H.2;rw[<-V]at this;omega
  have Q:bh (n+w) M:=by rw[V];exact H.1
  rw[<-V]at u;have Y:l.length=M.length:=by omega
  have o:kE n A B↔∀i (G:i<M.length),n<=i->M[i]=aL M[i].length:=by
   unfold kE;rw[<-V];constructor
   ·intro I i G hn;refine I _ (yy.2 ⟨i-n,?_⟩);rw[wB,show n+(i-n)=i by omega,qd G]
   ·intro I x hx;obtain⟨i,G,rfl⟩:=qG hx;simp only[q7]at G;rw[zZ];exact I _ (by omega) (by omega)
  refine aw (fun i:Nat=>(i:Int)) (fun i h'=>h'=h7/\n+i<=M.length/\∀j (hj:j<M.length),n<=j->j<n+i->M[j]=aL M[j].length) (fun i=>M.length-(n+i)) 0 rfl ⟨rfl,by omega,fun j _ _ _=>by omega⟩ ?_;rintro i h8 ⟨rfl,G,p⟩;rw[qo];refine ak (fun e=>?_) (fun e=>?_)
  ·have g:n+i<M.length:=by omega
   have F:=ph (a:=r) Y (n+i) (by omega);have ah:(M[n+i]'g).length=n+w:=Q _ (qg _);have z:=u.seq (n+i+1) F (fun _=>rfl);have E:=(u.seq 0 rfl (fun _=>rfl)).drop n L;have ap:(l.drop n)[i]'(by simp;omega)=l[n+i]'(by omega):=zZ;refine E.tZ i rfl (by simp;omega) fun a1 P R=>?_;rw[ap];refine(acq _ _ h8 z (by omega)).mono ?_;rintro _ h9 ⟨rfl,rfl⟩;refine⟨_,rfl,ak (fun X=>?_) (fun X=>?_)⟩
   ·right;have D:ms (M[n+i]'g)<(M[n+i]'g).length:=by
     by_cases hh:ms (M[n+i]'g)<(M[n+i]'g).length
     ·exact hh
     ·rw[if_neg hh]at X;exact absurd X (by decide)
    refine⟨fun I=>?_,rfl,.zip u.ai⟩;have:=o.1 I (n+i) g (by omega);exact absurd D (QG.2 this)
   ·have D:¬ms (M[n+i]'g)<(M[n+i]'g).length:=fun hh=>by
     rw[if_pos hh]at X;exact X (zO _)
    refine⟨i+1,by rw[Go.Vc.wrap_small _ (by omega) (by omega)];rfl,⟨rfl,by omega,fun j hj S H=>?_⟩,by omega⟩;by_cases ay:j=n+i
    ·subst ay;exact QG.1 D
    ·exact p j hj S (by omega)
  refine⟨⟨zO _,yI.2 (show n<=r.cap by omega)⟩,?_⟩;have y:kE n A B:=o.2 fun j hj S=>p j hj S (by omega);have e1:fD n A B=(M.take n).map (vW n):=by rw[fD,<-V]
  have N:∀k (hk:k<n),(fD n A B).take (k+1)=(fD n A B).take k++[(M[k]'(by omega)).drop n]:=fun k hk=>by
   rw[e1,aJ _ _ (by simp;omega),wo,w5]
  have a8:(fD n A B).length=n:=(xm d.symm q hB hr).1;refine aw (fun t:Sl×Nat=>(t.1,(t.2:Int))) (fun t h'=>t.2<=n/\Sp h8 h' [fP aH t.1 1 aB ((fD n A B).take t.2)]) (fun t=>n-t.2) (⟨none,0,0⟩,0) rfl ⟨by simp,(Sp.refl h8).Lu aH 1 aB⟩ ?_;rintro⟨s,k⟩ h9 ⟨bq,H9⟩;dsimp only at*;have HH:=u.comp H9;refine ak (fun e=>?_) (fun e=>?_)
  ·have O:k<n:=by omega
   have F:=ph (a:=r) Y k (by omega);have W:(nR r l M++[fP aH s 1 aB ((fD n A B).take k)])[k+1]?=some (an aC (l[k]'(by omega)) 1 aB (M[k]'(by omega))):=by
    rw[qn (by simp[bT];omega)];exact F
   have ah:(M[k]'(by omega)).length=n+w:=Q _ (qg _);have J:=HH.own (k+1) W;have z:=HH.seq (k+1) W (fun _=>rfl);have a5:=J.len;have E:=(HH.seq 0 rfl (fun _=>rfl)).take n (by omega);have a0:(l.take n)[k]'(by simp;omega)=l[k]'(by omega):=w5;refine E.tZ k rfl (by simp;omega) fun a1 P R=>?_;rw[a0];refine⟨⟨zO _,yI.2 (by omega)⟩,?_⟩;refine(fO _ _ h9 (z.drop n J.cap) (by simp;omega)).mono ?_;rintro v bk ⟨c,rfl,ad⟩;have a3:=(H9.comp ad).freeze 1 rfl (fun _=>rfl);refine⟨c,rfl,?_⟩;refine a3.wn af 0 1 (by decide) rfl rfl fJ (by simp;omega) fun s' b1 ax=>?_;refine⟨(s',k+1),by dsimp only;rw[Go.Vc.wrap_small _ (by omega) (by omega)];rfl,⟨by dsimp only;omega,?_⟩,by dsimp only;omega⟩;dsimp only;rw[N k O];exact ax.del 1
  ·rw[qi (by omega)]at H9;refine .inl ⟨y,s,rfl,?_⟩;have:=(Sp.zip u.ai).comp H9;exact this
section
variable {B:aA} {h0 h:Heap} {As:List HP}
theorem UX:∀{l:List Int},l.Pairwise (·<·)->fg l=true
 |[],_=>rfl
 |[_],_=>rfl
 |a::b::r,h=>by
  rw[zN]at h;rw[fg,UX h.2,decide_eq_true (h.1 b (by simp))];rfl
theorem ZH{l:List Int}(h:l.Pairwise (·<·)):Pt l:=fun i a=>zd.1 h i (i+1) (by omega) a (by omega)
theorem ZI{n:Nat}{R:List eK}{known:List Bool}(h:n<=64)(b:∀e∈R,(∀c∈e.1,0<=c/\c<(n:Int))/\e.1.Pairwise (·<·)):jt (n:Int) (rowsOf R known n)=true:=by
 unfold jt;rw[qz];refine⟨by simp;omega,qM.2 fun r a=>?_⟩;unfold fh;rw[qz];rcases qB.1 a with a|a
 ·obtain⟨e,f,rfl⟩:=qu.1 a;exact⟨qM.2 fun c g=>by simpa using(b e f).1 c g,UX (b e f).2⟩
 ·obtain⟨d,rfl,i,_⟩:=Bi a;exact⟨by simp;omega,rfl⟩
theorem aa.ahw{e:Nat}{v:Sl}{vs:aS}(H:aa B h0 h As)(i:Nat)(p:As[i]?=some (eM e v 1 bQ (ua 1 aB) vs)):
  ∃f:List Sl,aa B h0 h (As.set i (an e v 1 bQ f)++[kG (f.zip vs)])/\f.length=vs.length/\∀(c:Nat) (m:c<f.length) (n:c<vs.length),f[c].ptr.isNone=vs[c].isEmpty:=by
 have g:i<As.length:=(qm.1 p).1;have D:aa B h0 h (As.set i (HP.ex fun f:List Sl=>((an e v 1 bQ f).sep (kG (f.zip vs))).and (f.length=vs.length/\∀(c:Nat) (m:c<f.length) (n:c<vs.length),f[c].ptr.isNone=vs[c].isEmpty))):=
  H.gq i p fun q ⟨rs,A,a,b,c,d,e⟩=>⟨rs,⟨fun b=>v.on b,A,fun x j=>(b x j).2,fun x j=>(b x j).1,c,⟨a,fun x j=>j⟩,fun x j=>by
   obtain⟨k,w,l⟩:=qG j;simp only[List.length_zip]at w;rw[yS]at l;subst l;exact(e k _ _ (qd (by omega)) (qd (by omega))).1⟩,d,fun k m n=>by
   obtain⟨x,y⟩:=e k _ _ (qd m) (qd n);cases hv:vs[k]with
   |nil=>rw[y hv];rfl
   |cons z t=>
    have:=x.isSome (by rw[hv];simp);rw[this];rfl⟩
 obtain⟨f,o⟩:=D.XV i (zA g);rw[vd]at o;have u:=o.fact i (zA g);have r:=o.aeO i (zA g);rw[vd]at r;have s:=r.split i (zA g);rw[vd]at s;exact⟨f,s,u⟩
def yv(x:Int×Sl):List Value:=[vX xh x.1,vY x.2.ptr x.2.len x.2.cap]
def aih:je (Int×Sl) (Int×Row):=⟨fun h q a b=>a.1=b.1/\Seq h q a.2 1 aB b.2,fun a d=>⟨a.1,a.2.ai d⟩,fun a c=>⟨a.1,a.2.mono c⟩⟩
abbrev NG:je Sl (List (Int×Row)):=cO aih 2 yv
end
theorem ZJ{a:List Sl}{vs:aS}(h:a.length=vs.length)(b:List (Sl×Row))(c:∀x∈a.zip vs,x∈b):gJ b id a vs:=
 ⟨h,fun i r l e d=>c _ (yy.2 ⟨i,by rw[vg];exact⟨e,d⟩⟩)⟩
theorem UY{α β:Type}:∀(a:List α) (x:α) (l:List β) (h:a.length<l.length),(a++[x]).zip l=a.zip l++[(x,l[a.length])]
 |[],x,b::l,_=>by simp
 |c::a,x,b::l,h=>by
  have:=UY a x l (by simpa using h);simp[this]
def afe(h h':Heap)(v:Value)(n:Nat)(A a:aS):Prop:=
 (kE n A a/\∃r:Sl,v=.tuple #[vY r.ptr r.len r.cap,vX xh 0]/\Sp h h' [MA r (fD n A a)])∨(¬kE n A a/\v=.tuple #[vY none 0 0,vX xh 10]/\Sp h h' [])
theorem aer(p:Pm)(seed:Int)(l:Sl)(syms:List (Int×Row))(n w:Nat)(h:Heap)(hl:fG NG h l syms)(y:bJ p=true)(b2:∀x∈syms,Bj p x)(hn:(bZ p).toNat=n)(hw:p.2.2.toNat=w)(en:syms.length<=2^18)(hr:cL (dM p seed (syms.map qJ))=n):
  ae xl Rm #[kA p,vX xj seed,vY l.ptr l.len l.cap] h fun v h'=>afe h h' v n (dM p seed (syms.map qJ)) (sg p syms):=by
 refine OL p seed l ?_;unfold Hv;have ep:=(bK p).1 y;have ds:bZ p=n:=by rw[<-hn];have:=se y;omega
 have c0:n=p.1.toNat+p.2.1.toNat:=by rw[<-hn,se y];omega
 have b5:p.2.2=(w:Int):=by omega
 have c7:1<=n:=by omega
 have b7:n<=20:=by omega
 obtain⟨U,d4,eq,cn⟩:=cO.sH hl;have er:=cO.len hl;let d:List eK:=uJ n seed syms;have ek:d.length=syms.length:=by simp[d,uJ]
 have J:=agN (seed:=seed) c7 b7 b2 hw;let u:Nat->List (List Int):=fun i=>(syms.take i).map fun x=>de n seed x.1;have ad:∀x:Int×Row,x∈syms->(bJ p&&bU x.1)=true:=fun x hx=>by rw[y,(b2 x hx).id];rfl
 refine(Sp.refl h).boxed fun a1 K H1=>?_;have ef:Sp h K [an dL ⟨none,0,0⟩ 2 qv [],uY [],aq a1 aP [vX xh p.1,vX xh p.2.1,vX xh p.2.2]]:=((aa.acp H1).nil dL 2 qv).bO [2,1,0];refine aw (fun t:Nat×Sl×List Sl=>(t.2.1,(t.1:Int))) (fun t h'=>t.1<=syms.length/\t.2.2.length=t.1/\Sp h h' [an dL t.2.1 2 qv (t.2.2.zip (U.map zC)),uY (t.2.2.zip (u t.1)),aq a1 aP [vX xh p.1,vX xh p.2.1,vX xh p.2.2]]) (fun t=>syms.length-t.1) (0,⟨none,0,0⟩,[]) rfl ⟨by simp,rfl,ef⟩ ?_;rintro⟨i,o,cr⟩ h2 ⟨hi,bq,H2⟩;dsimp only at*;have c4:(u i).length=i:=by simp[u];omega
 refine ak (fun e=>?_) (fun e=>?_)
 ·have V:i<syms.length:=by omega
  obtain⟨y1,y2⟩:=cn i (by omega) V;refine(Seq.up d4 H2.ai).dI (g:=yv) i rfl (by omega) (U[i]'(by omega)) rfl ?_;refine H2.alloc af rfl fun a5 h3 H3=>?_;refine H3.storeAll af 3 rfl rfl (yv (U[i]'(by omega))) rfl rfl rfl rfl fun h4 N=>?_;refine⟨p,(N.box 2 rfl).aO _ rfl,(U[i]'(by omega)).1,(N.box 3 rfl).cell0 rfl,(U[i]'(by omega)).2,(N.box 3 rfl).cell rfl,?_⟩;refine(Bz p seed (U[i]'(by omega)).1 h4).mono ?_;rintro _ h5 ⟨r,rfl,R5⟩;rw[y1,ad _ (qg V),if_pos rfl,hn]at R5;have H5:=(N.comp R5).freeze 4 rfl fun _=>rfl;refine⟨r,rfl,⟨(H5.box 3 rfl).cell rfl,trivial⟩,?_⟩;have H6:=aa.afd H5 1 4 (by decide) rfl rfl;have d6:=H6.box 3 rfl;refine H6.rU af qv eQ rfl [(r,(U[i]'(by omega)).2)] rfl (show 1*2<=2^20 by decide) rfl ⟨d6.cell rfl,trivial⟩ ?_;refine H6.push af 0 rfl eQ rfl (by decide) (fun _=>rfl) abX (r,(U[i]'(by omega)).2) rfl (by decide) (by simp;omega) fun o' h7 H7=>?_;refine⟨⟨(H7.box 3 rfl).cell rfl,trivial⟩,?_⟩;refine⟨(i+1,o',cr++[r]),by dsimp only;rw[Go.Vc.wrap_small _ (by omega) (by omega)];rfl,⟨by dsimp only;omega,by simp[bq],?_⟩,by dsimp only;omega⟩;dsimp only;have e1:u (i+1)=u i++[de n seed syms[i].1]:=by simp only[u];rw[aJ _ _ V,qS];rfl
  have e2:(cr++[r]).zip (U.map zC)=cr.zip (U.map zC)++[(r,(U[i]'(by omega)).2)]:=by
   rw[UY cr r (U.map zC) (by simp;omega),wo];simp only[bq]
  rw[e1,e2,List.zip_append (by rw[bq,c4])];exact H7.bO [0,1,2]
 have ec:i=syms.length:=by omega
 subst ec;have dk:u syms.length=syms.map fun x=>de n seed x.1:=by simp only[u];rw[qR]
 rw[dk]at H2;have d5:∀{h':Heap},(∀x∈cr.zip (syms.map fun x=>de n seed x.1),Vc.Seq h' (fun b=>b<h'.size) x.1 1 aD x.2)->aU (fun b=>b<h.size) h h'->Vc.Seq h' (fun b=>b<h'.size) o 2 qv (cr.zip (U.map zC))->fG ru h' o d:=fun{h'} hp hpr hs=>by
  refine⟨_,hs,by simp[d,uJ];omega,fun k a b K h2=>?_⟩;have hk:k<syms.length:=by have:=(qm.1 h2).1;omega
  rw[qd (by simp;omega),yS,wo]at K;have e2:d[k]?=some (de n seed syms[k].1,syms[k].2):=by simp[d,uJ,hk]
  rw[e2]at h2;simp only[zL.injEq]at K h2;subst K;subst h2;refine⟨hp (cr[k]'(by omega),de n seed syms[k].1) (yy.2 ⟨k,?_⟩),Seq.up (cn k (by omega) hk).2 hpr⟩;rw[vg];exact⟨qd _,by simp[hk]⟩
 refine co (fun s h'=>∃(bb f:Addr),s=some bb/\Sp h h' [SA bb (fU f p ⟨none,0,0⟩ ⟨none,0,0⟩ ⟨none,0,0⟩ ⟨none,0,0⟩ ⟨none,0,0⟩ ⟨none,0,0⟩ ⟨none,0,0⟩),an dL o 2 qv (cr.zip (U.map zC)),uY (cr.zip (syms.map fun x=>de n seed x.1)),aq a1 aP [vX xh p.1,vX xh p.2.1,vX xh p.2.2],aq f gC dq]) ?_ ?_
 ·refine⟨p,(H2.box 2 rfl).aO _ rfl,(uX h2).mono ?_⟩;rintro _ h3 ⟨f,rfl,R3⟩;have H3:=H2.comp R3;refine⟨some f,rfl,⟨(H3.box 2 rfl).cell0 rfl,(H3.box 2 rfl).cell rfl,(H3.box 2 rfl).cell rfl,trivial⟩,?_⟩;refine H3.boxed fun bb h4 N=>?_;exact⟨⟨(N.box 2 rfl).cell0 rfl,(N.box 2 rfl).cell rfl,(N.box 2 rfl).cell rfl,trivial⟩,bb,f,rfl,N.bO [4,0,1,2,3]⟩
 rintro _ h3 ⟨s,f,rfl,H3⟩;refine⟨p,(H3.box 3 rfl).aO _ rfl,(lP p h3).mono ?_⟩;rintro _ h4 ⟨rfl,R4⟩;have N:=H3.up R4.ai;refine⟨_,rfl,?_⟩;rw[ds];have ei:fG ru h4 o d:=d5 (N.at 2 rfl) N.ai (N.seq 1 rfl fun _=>rfl);have b9:∀e∈d,e.1.length<=2^20:=fun e F=>by
  obtain⟨x,hx,rfl⟩:=qu.1 F;have:=AV c7 b7 seed x.1;dsimp only;omega
 refine(acd o d n w h4 ei (fun e F=>⟨(J e F).1,ZH (J e F).2⟩) (by omega) (by omega) ⟨by omega,by omega⟩ b9).mono ?_;have hA:bh n (bw p.1.toNat p.2.1.toNat):=by rw[c0];exact LN _ _
 have eA:=Yx (seed:=seed) y hn b2;have eB:=Yy (seed:=seed) (n:=n) (p:=p) (l:=syms) hw;rw[<-eA]at hr⊢;rw[<-eB];rintro _ h5 ⟨known,vals,hI,⟨ad,rfl,R5⟩|⟨ad,k,v,rs,rfl,R5⟩⟩
 ·refine⟨(⟨none,0,0⟩,⟨none,0,0⟩,⟨none,0,0⟩,10),rfl,ci (fun _=>?_) (fun e=>absurd e (by decide))⟩;exact .inr ⟨aaT (fun e F=>(J e F).1) hA hI ad hr,rfl,(N.up R5.ai).bO []⟩
 refine⟨(k,v,rs,0),rfl,ci (fun e=>absurd rfl e) (fun _=>?_)⟩;have S:=adz (fun e F=>(J e F).1) hA hI ad;have B:=PW (fun e F=>(J e F).1) hI;obtain⟨f1,f2,f3,f4,f5⟩:=LR (fun e F=>(J e F).1) hI;have H:=oN hI (fun e F=>(J e F).1);have bk:=afD (known:=known) (vals:=vals) (fun e F=>(J e F).2);have d9:=aaU (l:=d) (known:=known) (vals:=vals);have a8:=aaV (known:=known) (vals:=vals) b9;have c5:=hI.vlen;have da:=hI.klen;unfold RV at S;obtain⟨R,a3⟩:∃R,R=aY known vals d:=⟨_,rfl⟩
 change gl n w d _ known vals _ _ _ _ at S;rw[<-a3]at S B f1 f2 f3 f4 f5 H bk d9 a8 R5;obtain⟨T,H6,eh,cs⟩:=aa.ahw (N.comp R5) 6 rfl;obtain⟨rr,H7⟩:=aa.Ob H6 7 rfl fun _=>rfl;have H8:=aa.agb H7 8 rfl;have H9:Sp h h5 [SA s (fU f p ⟨none,0,0⟩ ⟨none,0,0⟩ ⟨none,0,0⟩ ⟨none,0,0⟩ ⟨none,0,0⟩ ⟨none,0,0⟩ ⟨none,0,0⟩),kG ((⟨none,0,0⟩,[])::T.zip vals),HA v T,cj jc 2 qv rs rr R,an gA k 1 ey known,aq f gC dq]:=aa.bO H8 [0,8,6,7,5,4];have bl:v.len=n:=by rw[(H9.own 2 rfl).len];omega
 have hk:∀(c:Nat) (hc:c<T.length),T[c].ptr.isNone=!(known.getD c false):=fun c hc=>by
  rw[cs c hc (by omega)];have K:=hI.row c (by omega);rw[lV (show c<vals.length by omega)]at K;cases hkn:known.getD c false with
  |true=>
   rw[hkn,if_pos rfl]at K;cases hv:vals[c]'(by omega)with
   |nil=>rw[hv]at K;simp at K;omega
   |cons x t=>rfl
  |false=>
   rw[hkn,if_neg (by simp)]at K;rw[vu.1 K];rfl
 refine⟨s,rfl,H9.store af 0 rfl rfl 4 [vY v.ptr v.len v.cap] rfl rfl rfl (by simp[fU]) fun h6 eg=>?_⟩;refine⟨s,rfl,eg.store af 0 rfl rfl 5 [vY rs.ptr rs.len rs.cap] rfl rfl rfl (by simp[fU]) fun h7 d1=>?_⟩;have cd:=ZI (known:=known) (n:=n) (by omega) fun e F=>⟨(H e F).cF,bk e F⟩
 have am:=xI (rows:=rowsOf R known n) (n:=n) (by rw[a3];exact xo (a3▸H));have e5:(rowsOf R known n).length<=R.length+n:=by
  rw[rowsOf,qw,qx];have:=Fb known n;omega
 refine(WP s f p v rs _ _ _ _ _ k rr R known n (As:=[kG ((⟨none,0,0⟩,[])::T.zip vals),HA v T,cj jc 2 qv rs rr R,an gA k 1 ey known,aq f gC dq]) d1 (St.mk' fun h' H'=>⟨H'.dO 2 rfl,H'.seq 3 rfl fun _=>rfl⟩) da (by omega) (by omega) a8 cd ⟨by have:=am.1;omega,by have:=IZ (dn n (rowsOf R known n)).used (rowsOf R known n).length;omega⟩).mono ?_;rintro _ h8 ⟨rfl,st,Z,lf,c9⟩;refine⟨(),rfl,?_⟩;obtain⟨D,hD⟩:∃D,D=(gc R known n).dead:=⟨_,rfl⟩
 obtain⟨ST,b1⟩:∃ST,ST=nk R known n:=⟨_,rfl⟩
 obtain⟨L,hL⟩:∃L,L=Wl.leftOf R known n:=⟨_,rfl⟩
 have d3:Sp h h8 (SA s (fU f p v rs st Z lf ⟨none,0,0⟩ ⟨none,0,0⟩)::kG ((⟨none,0,0⟩,[])::T.zip vals)::[HA v T,an cS st 2 fi ST,an aT Z 1 aD D,an aT lf 1 aD L,cj jc 2 qv rs rr R,aq f gC dq]):=by
  rw[hD,b1,hL];exact aa.bO c9 [0,4,5,1,2,3,6,8]
 rw[<-hD]at S B f1 f2 f3 f5;rw[<-b1]at S B;rw[<-hL]at S f4;have ch:ST.length<=2^20:=by
  rw[b1,nk,gc];have:=qY (fun x:Int×Int=>decide (x.1<R.length)) (dn n (rowsOf R known n)).steps;have:=am.1;omega
 have el:L.length<=2^20-2^10:=by
  rw[hL,Wl.leftOf,gc];have:=qY (fun x:Int=>decide (x<R.length)) (fd (dn n (rowsOf R known n)).used (rowsOf R known n).length);have:=IZ (dn n (rowsOf R known n)).used (rowsOf R known n).length;omega
 have z:St (fun b=>b<h.size) h [HA v T,an cS st 2 fi ST,an aT Z 1 aD D,an aT lf 1 aD L,cj jc 2 qv rs rr R,aq f gC dq] fun h=>ZB h f rs st Z lf rr R ST D L:=
  St.mk' fun h' H'=>⟨H'.box 5 rfl,H'.dO 4 rfl,H'.seq 1 rfl fun _=>rfl,H'.seq 2 rfl fun _=>rfl,H'.seq 3 rfl fun _=>rfl⟩
 refine(ZD s f p v rs st Z lf _ _ rr R ST D L n D.length w _ d3 z bl (by omega) b5 (by omega) rfl (by omega) H f1 f2 B ch a8 (by simp)).mono ?_;rintro _ h9 ⟨rfl,wa,mo,wr,mr,pl,cf,a2⟩;refine⟨(),rfl,?_⟩;have eb:=(z.at [_,_,_,_] cf).dead.len;generalize e4:ST.foldl (gz R D.length) (fw n D.length w D)=S0 at a2 S;have dx:S0.1.length=n:=by have:=S.lens.1;simpa[gU]using this
 have d7:S0.2.length=n:=by have:=S.lens.2.1;simpa[gU]using this
 have hV:gJ pl id T vals:=ZJ eh pl fun x hx=>a2.sub x (qO _ hx);refine(acl s f p v rs st Z lf wa mo T wr mr pl known vals S0.1 S0.2 n D.length cf (by omega) eb (by omega) ⟨fun _ h=>h,a2.way,a2.more⟩ hV c5 dx d7 hk).mono ?_;rintro _ eo ⟨rfl,ao,ab,Y,ej,O⟩;refine⟨(),rfl,?_⟩;obtain⟨W,hW⟩:∃W,W=(gU D.length known vals S0).1:=⟨_,rfl⟩
 obtain⟨M,hM⟩:∃M,M=(gU D.length known vals S0).2:=⟨_,rfl⟩
 change lQ pl Y ao ab (gU D.length known vals S0).1 (gU D.length known vals S0).2 at O;rw[<-hW,<-hM]at O S;have m:=S.lens;refine(ZF s f p v rs st Z lf wa mo ao ab Y rr R ST D L W M n D.length w ej z c0 b5 (by omega) y rfl (by omega) H a8 f4 (by omega) ⟨fun _ h=>h,O.way,O.more⟩ m.1 m.2.1 m.2.2).mono ?_;rintro _ ap ⟨a,b,rfl,a7⟩;refine⟨(a,b),rfl,s,rfl,Z,show cellOf ap (s.add 7)=_ from(a7.box 2 rfl).cell rfl,?_⟩;have ed:gJ Y id T vals:=hV.mono O.sub;obtain⟨e1,e2⟩:=pN S;have P:=Bh (n:=n) (w:=w) (ahead:=bw p.1.toNat p.2.1.toNat) (l:=d) (known:=known) (vals:=vals) (dead:=D) (left:=L) (W:=W) (M:=M);have a0:∀{X:aS},_->_:=fun{X} hs=>S.Xp hr (D:=X) hs;have a4:=S.Xq hr;have a9:=S.Yz (by omega) hr;have ay:=S.Oh (by omega) hr;rw[<-a3]at e1 e2 P a0 a4 a9 ay;obtain⟨dA,cc⟩:∃dA,dA=di n D.length R W L (bw p.1.toNat p.2.1.toNat):=⟨_,rfl⟩
 obtain⟨G,ea⟩:∃G,G=fe n w R M L (bw p.1.toNat p.2.1.toNat):=⟨_,rfl⟩
 rw[<-cc]at e1 P a0 a4 a9 ay a7;rw[<-ea]at e2 P a0 a4 a9 a7;have d0:dA.length=L.length+p.2.1.toNat:=by rw[cc];simp[di,bw]
 have bd:∀{h':Heap} {pre:List HP} {dead:Sl} {dr:List Sl} {X:aS} {Q:HP},Sp h h' (Told s f p v rs st Z lf wa mo ao ab Y++HA v T::[an cS st 2 fi ST,an aT Z 1 aD D,an aT lf 1 aD L,cj jc 2 qv rs rr R,aq f gC dq,Q])->(∀h',Q.p h' (fun b=>b<h'.size)->gO h' (fun b=>b<h'.size) dead 1 aB X dr)->fc D.length w dA G X->
   ae xl rc #[vZ (some s),vY dead.ptr dead.len dead.cap] h' fun v' ah=>v'=.tuple #[]/\cellOf ah (s.add 4)=some (vY v.ptr v.len v.cap)/\afe h ah (.tuple #[vY v.ptr v.len v.cap,vX xh 0]) n (dj n d (bw p.1.toNat p.2.1.toNat)) (gP w d (bw p.1.toNat p.2.1.toNat)):=by
  intro h' pre dead dr X Q H' hQ hs;refine(acn s f p v rs st Z lf wa mo dead T ao ab dr Y known vals W M X n D.length w H' (St.mk' fun ah ax=>⟨ax.box 4 rfl,hQ ah (ax.at 5 rfl)⟩) (by omega) (by omega) (by omega) ⟨fun _ h=>h,O.way,O.more⟩ ed c5 m.1 m.2.1 m.2.2 hs.1 hs.2.1 hk).mono ?_;rintro _ ah ⟨rfl,et,ew,ax,ip⟩;refine⟨rfl,(ax.box 0 rfl).cell rfl,?_⟩;obtain⟨c1,c2⟩:=a0 hs;refine .inl ⟨c1,v,rfl,?_⟩;rw[<-c2];exact(ax.aej 4 3 (by decide) rfl rfl ip.1 fun k r l K h2=>ip.2 k r l K h2).bO [4]
 have I:Sp h ap (MA a dA::CA b G::(Told s f p v rs st Z lf wa mo ao ab Y++HA v T::[an cS st 2 fi ST,an aT Z 1 aD D,an aT lf 1 aD L,cj jc 2 qv rs rr R,aq f gC dq])):=a7;have c6:=I.eRd 1 rfl fun _=>rfl;have cp:gr ap b 1 aB G:=cO.togr (by
  have:=cO.impl (α':=Sl) (E:=UU) (E':=ju 1 aB) id (fun{h q a b} (hx:UU.p h q a b)=>hx.1) c6
  rwa [List.map_id]at this)
 have dy:=cp.len;refine cw (fun e0=>?_) (fun e0=>?_)
 ·have b6:D.length=0:=by omega
  obtain⟨br,q1,q2,q3⟩:=cO.sH c6;refine aw (fun i:Nat=>(i:Int)) (fun i h'=>h'=ap/\i<=G.length/\∀j (hj:j<G.length),j<i->G[j]=aL w) (fun i=>G.length-i) 0 rfl ⟨rfl,by omega,fun j _ hj=>by omega⟩ ?_;rintro i a6 ⟨rfl,hi,hz⟩;have b3:fc D.length w dA G []↔∀r∈G,r=aL w:=by rw[b6];exact LS P
  refine ak (fun e=>?_) (fun e=>?_)
  ·have V:i<G.length:=by
    have e':(i:Int)<(b.len:Int):=e;omega
   obtain⟨y1,y2⟩:=q3 i (by omega) V;have du:G[i].length=w:=e2 _ (qg _);refine q1.ox i rfl (by omega) ?_;refine(QC (br[i]'(by omega)) G[i] _ rfl a6 y1 y2 (by omega)).mono ?_;rintro _ cq ⟨⟨t,rfl,ht⟩,rfl⟩;refine⟨t,rfl,ak (fun e3=>?_) (fun e3=>?_)⟩
   ·refine .inr ⟨fun hc=>?_,rfl,I.bO []⟩;have b4:=a4 hc;have c8:D=[]:=vu.1 b6;rw[c8]at b4;have:=(LS P).1 b4 _ (qg V);have h0:t.len=0:=ht.2 fun x hx=>by rw[this]at hx;exact(wT.1 hx).2
    omega
   ·have h0:t.len=0:=by omega
    refine⟨i+1,by rw[Go.Vc.wrap_small _ (by omega) (by omega)];rfl,⟨rfl,by omega,fun j hj es=>?_⟩,by omega⟩;by_cases hh:j=i
    ·subst hh;exact vD.2 ⟨du,ht.1 h0⟩
    ·exact hz j hj (by omega)
  ·have hs:fc D.length w dA G []:=b3.2 fun r hr=>by
    obtain⟨j,hj,rfl⟩:=qG hr;have e':¬(i:Int)<(b.len:Int):=e;exact hz j hj (by omega)
   have b0:=aa.comp (I.bO [2,3,4,5,6,7,8,9,10,11]) (Sp.one (h:=a6) (h':=a6) (A:=emp) (aU.refl _ _) trivial);refine(bd (pre:=[]) (dead:=⟨none,0,0⟩) (dr:=[]) (X:=[]) (Q:=emp) ?_ (fun h' _=>⟨Seq.nil _ _ _ _ _ _,rfl,fun k r l K _=>by cases K⟩) hs).mono ?_
   ·exact b0
   ·rintro _ cq ⟨rfl,hc,hm⟩;exact⟨(),rfl,s,rfl,v,hc,hm⟩
 ·have d8:1<=D.length:=by omega
  refine⟨s,rfl,some f,(I.box 2 rfl).cell0 rfl,?_⟩;refine(WQ f a b dA G dA.length D.length w ap (I.box 11 rfl) (I.Jz 0 rfl) cp rfl P.symm e1 e2 d8 (by omega) (by omega) ay).mono ?_;rintro _ a6 (⟨hc,r,rfl,R12⟩|⟨hc,rfl,R12⟩)
  ·refine⟨(r,0),rfl,ci (fun e=>absurd rfl e) fun _=>?_⟩;have b0:=(I.comp R12).XY 12 rfl;obtain⟨dr,d2⟩:=aa.Ob b0 12 rfl fun _=>rfl;have hs:=pJ P e1 e2 ay hc;refine(bd (pre:=[]) (dead:=r) (dr:=dr) (X:=fD D.length dA G) (Q:=cj (ju 1 aB) 1 bQ r dr (fD D.length dA G)) (d2.bO [2,3,4,5,6,7,8,9,10,11,12]) (fun h' x=>⟨x.1,x.2.1,x.2.2⟩) hs).mono ?_;rintro _ cq ⟨rfl,hc,hm⟩;exact⟨(),rfl,s,rfl,v,hc,hm⟩
  ·refine⟨(⟨none,0,0⟩,10),rfl,ci (fun _=>?_) (fun e=>absurd e (by decide))⟩;exact .inr ⟨fun hh=>hc (a9.2 hh),rfl,(I.up R12.ai).bO []⟩
end Go.Proofs.YtdhamoojccmbdaaGreatDoor
namespace Wl
def mw(p:Int×Int×Int)(x:Int×Row):Bool:=bU x.1&&decide ((x.2.length:Int)=p.2.2)
theorem UZ{p:Int×Int×Int}{x:Int×Row}(c:bJ p=true):mw p x=true↔Bj p x:=by
 have:=(bK p).1 c;unfold mw;rw[qz,decide_eq_true_iff];exact⟨fun⟨a,b⟩=>⟨a,by omega⟩,fun h=>⟨h.id,by have:=h.len;omega⟩⟩
def uk(p:Int×Int×Int)(seed:Int)(X:aS)(i:Nat):Row:=(qC i).flatMap fun j:Nat=>fv p.2.2.toNat X (de (bZ p).toNat seed (j:Int))
theorem QH(p:Int×Int×Int)(seed:Int)(X:aS)(i:Nat):uk p seed X (i+1)=uk p seed X i++fv p.2.2.toNat X (de (bZ p).toNat seed (i:Int)):=by
 unfold uk;rw[zI,zc];simp
open Classical in
noncomputable def ng(p:Int×Int×Int)(seed:Int)(l:List (Int×Row)):Row×Int:=
 if bJ p&&l.all (mw p)then
  if fR p seed (l.map qJ)then
   if kE (bZ p).toNat (dM p seed (l.map qJ)) (sg p l)then(uk p seed (fD (bZ p).toNat (dM p seed (l.map qJ)) (sg p l)) p.1.toNat,0)else([],10)
  else([],9)
 else([],1)
end Wl
namespace Go.Proofs.YtdhamoojccmbdaaGreatDoor
open Go Go.Vc Go.Proofs Wl
theorem WR(p:Pm)(x:Int×Sl)(l:Row)(h:Heap)(d:Rd h x.2 1 aB l):ae xl Mr #[kA p,xg #[vX xh x.1,vY x.2.ptr x.2.len x.2.cap]] h fun v h'=>v=xf (mw p (x.1,l))/\Sp h h' []:=by
 refine KC p x ?_;unfold Db;refine(Sp.refl h).boxed fun g k f=>?_;refine f.boxed fun i j a=>?_;have e:=d.len;refine⟨x.1,(a.box 1 rfl).cell0 rfl,ak (fun c=>?_) (fun c=>?_)⟩
 ·refine⟨x.1,(a.box 1 rfl).cell0 rfl,ak (fun b=>?_) (fun b=>?_)⟩
  ·refine⟨x.2,(a.box 1 rfl).cell rfl,p.2.2,(a.box 0 rfl).cell rfl,?_,.zip a.ai⟩;congr 1;unfold mw bU;rw[decide_eq_true (show 0<=x.1 from c),decide_eq_true (show x.1<=65535 from b),e];rw[yC];simp
  ·refine⟨?_,.zip a.ai⟩;unfold mw bU;rw[decide_eq_false (show¬x.1<=65535 from b)];simp
 ·refine⟨?_,.zip a.ai⟩;unfold mw bU;rw[decide_eq_false (show¬0<=x.1 from c)];simp
theorem WS(p:Pm)(b:Addr)(x:Int×Sl)(l:Row)(h:Heap)(c:cy h b aP [vX xh p.1,vX xh p.2.1,vX xh p.2.2])(e:Rd h x.2 1 aB l):ae xl kF #[xg #[vX xh x.1,vY x.2.ptr x.2.len x.2.cap],vZ (some b)] h fun v h'=>v=xf (!mw p (x.1,l))/\Sp h h' []:=by
 refine Ht x b ?_;unfold xU;refine(Sp.refl h).boxed fun g f a=>?_;refine⟨p,(c.ai a.ai c.lt).aO _ rfl,x,(a.box 0 rfl).aO _ rfl,?_⟩;refine(WR p x l f (Seq.up e a.ai)).mono ?_;rintro _ i ⟨rfl,d⟩;exact⟨_,rfl,rfl,.zip (a.up d.ai).ai⟩
theorem WT(p:Pm)(d:Addr)(l:Sl)(syms:List (Int×Row))(h:Heap)(q:cy h d aP [vX xh p.1,vX xh p.2.1,vX xh p.2.2])(r:fG NG h l syms)(B:syms.length<=2^30):ae xl kr #[vY l.ptr l.len l.cap,.func (.func kF) #[] #[vZ (some d)]] h fun v h'=>v=xf (!syms.all (mw p))/\Sp h h' []:=by
 refine jY l (kF,#[],#[vZ (some d)]) ?_;unfold fW;refine(kP l (kF,#[],#[vZ (some d)]) (R:=fun v h'=>(∃i:Int,v=vX xh i/\(decide (i>=0)=!syms.all (mw p)))/\Sp h h' []) ?_).mono ?_
 ·unfold gF;obtain⟨f,w,A,u⟩:=cO.sH r;have s:=cO.len r;refine aw (fun i:Nat=>(i:Int)) (fun i h'=>i<=syms.length/\(syms.take i).all (mw p)=true/\Sp h h' []) (fun i=>syms.length-i) 0 rfl ⟨by omega,by simp,Sp.refl h⟩ ?_;rintro i n ⟨m,a,c⟩;refine ak (fun e=>?_) (fun e=>?_)
  ·have b:i<syms.length:=by omega
   obtain⟨x,t⟩:=u i (by omega) b;refine(Seq.up w c.ai).dI (g:=yv) i rfl (by omega) (f[i]'(by omega)) rfl ?_;refine fa (by rfl) ?_;refine(WS p d (f[i]'(by omega)) syms[i].2 n (q.ai c.ai q.lt) (Seq.up t c.ai)).mono ?_;rintro _ z ⟨rfl,o⟩;have k:((f[i]'(by omega)).1,syms[i].2)=syms[i]:=by rw[x]
   rw[k];refine⟨_,rfl,bi (fun j=>?_) (fun j=>?_)⟩
   ·refine⟨⟨i,rfl,?_⟩,c.up o.ai⟩;rw[decide_eq_true (show(i:Int)>=0 by omega)];have:syms.all (mw p)=false:=yh.2 ⟨_,qg b,by simpa using j⟩;rw[this];rfl
   ·refine⟨i+1,by rw[Go.Vc.wrap_small _ (by omega) (by omega)];rfl,⟨by omega,?_,c.up o.ai⟩,by omega⟩;rw[aJ _ _ b,yD,a];simpa using j
  ·refine⟨⟨-1,rfl,?_⟩,c⟩;rw[qi (by omega)]at a;rw[a];rfl
 ·rintro _ n ⟨⟨i,rfl,m⟩,y⟩;exact⟨i,rfl,by rw[m],y⟩
theorem acr(l:Sl)(syms:List (Int×Row))(h:Heap)(k:fG NG h l syms)(D:syms.length<=2^30):ae xl Rl #[vY l.ptr l.len l.cap] h fun v h'=>∃r:Sl,v=vY r.ptr r.len r.cap/\Sp h h' [an aT r 1 aD (syms.map qJ)]:=by
 refine OK l ?_;unfold Hu;obtain⟨c,p,A,n⟩:=cO.sH k;have m:=cO.len k;refine aw (fun t:Nat×Sl=>(t.2,(t.1:Int))) (fun t h'=>t.1<=syms.length/\Sp h h' [an aT t.2 1 aD ((syms.take t.1).map qJ)]) (fun t=>syms.length-t.1) (0,⟨none,0,0⟩) rfl ⟨by simp,(Sp.refl h).nil aT 1 aD⟩ ?_;rintro⟨i,o⟩ y ⟨w,d⟩;dsimp only at*;refine ak (fun e=>?_) (fun e=>?_)
 ·have b:i<syms.length:=by omega
  obtain⟨s,z⟩:=n i (by omega) b;refine(Seq.up p d.ai).dI (g:=yv) i rfl (by omega) (c[i]'(by omega)) rfl ?_;refine d.alloc af rfl fun a x q=>?_;refine q.storeAll af 1 rfl rfl (yv (c[i]'(by omega))) rfl rfl rfl rfl fun h3 f=>?_;refine⟨(c[i]'(by omega)).1,(f.box 1 rfl).cell0 rfl,?_⟩;refine f.push af 0 rfl me rfl (by decide) (fun _=>rfl) jp (c[i]'(by omega)).1 rfl (by decide) (by simp;omega) fun u B j=>?_;refine⟨(i+1,u),by dsimp only;rw[Go.Vc.wrap_small _ (by omega) (by omega)];rfl,⟨by dsimp only;omega,?_⟩,by dsimp only;omega⟩;dsimp only;rw[aJ _ _ b,qS];rw[s]at j;exact j.bO [0]
 ·have:i=syms.length:=by omega
  subst this;rw[qR]at d;exact⟨o,rfl,d⟩
theorem aes{B:aA}{q h:Heap}{As:List HP}(f b:Sl)(d c:Row)(H:aa B q h (an aC b 1 aB c::As))(u:St B q As fun h=>Rd h f 1 aB d)
  (G:d.length=c.length) (I:d.length<=2^30) {K:Heap->Prop} (z:∀h',aa B q h' (an aC b 1 aB (df 1 d c)::As)->K h'):
  aM (σ:=Int) (fun a w g=>
 Br (decide (a<((f.len:Nat):Int)))
 (∃n:Addr,(f.ptr=some n/\0<=a/\a<((f.len:Nat):Int))/\
 ∃l:Int,cellOf g (n.add (a.toNat*1))=some (vX xi l)/\
 ∃m:Addr,(b.ptr=some m/\0<=a/\a<((b.len:Nat):Int))/\
 ∃j:Int,cellOf g (m.add (a.toNat*1))=some (vX xi j)/\
 ∃a28:Addr,(b.ptr=some a28/\0<=a/\a<((b.len:Nat):Int))/\
 ac xl (qf aC (vZ (some (a28.add (a.toNat*1)))) (vX xi (qc xi ((qA (qk xi) j^^^(qA (qk xi) l)).toNat:Nat)))) g fun _ s=>
 w (qc xh (a+(1:Int))) s) (K g)) (0:Int) h:=by
 have E:f.len=d.length:=(u.at [an aC b 1 aB c] H).len;refine aw (fun k:Nat=>(k:Int)) (fun k h'=>k<=d.length/\aa B q h' (an aC b 1 aB (zm (fun x y=>y^^^x) (d.take k) (c.take k)++c.drop k)::As)) (fun k=>d.length-k) 0 rfl ⟨by omega,by simpa using H⟩ ?_;rintro k A ⟨F,p⟩;have D:=u.at [_] p;refine ak (fun e=>?_) (fun e=>?_)
 ·have r:k<d.length:=by omega
  have o:(zm (fun x y=>y^^^x) (d.take k) (c.take k)).length=k:=by simp;omega
  have v:(zm (fun x y=>y^^^x) (d.take k) (c.take k)++c.drop k).length=c.length:=by rw[qw,o,q7];omega
  refine D.bz k rfl r _ rfl ?_;have i:(zm (fun x y=>y^^^x) (d.take k) (c.take k)++c.drop k)[k]'(by omega)=c[k]:=by
   rw[wI (by omega)];simp[o]
  refine(p.seq 0 rfl fun _=>rfl).bz k rfl (by omega) _ rfl ?_;rw[i,rn];refine p.set af 0 rfl (fun _=>rfl) rfl k rfl (by omega) _ rfl rfl rfl fun h3 t=>?_;rw[zB,Ir G (by omega)]at t;exact⟨k+1,by rw[Go.Vc.wrap_small _ (by omega) (by omega)];rfl,⟨by omega,t⟩,by omega⟩
 ·have:k=d.length:=by omega
  subst this;rw[qi (ql _),qi (by omega),zg (by omega),qQ,<-XC]at p;exact z A p
theorem ZK(p:Pm)(seed:Int)(l:Sl)(syms:List (Int×Row))(h:Heap)(V:fG NG h l syms)(U:syms.length<=2^18):
  ae xl Mj #[kA p,vX xj seed,vY l.ptr l.len l.cap] h fun v h'=>∃r:Sl,v=.tuple #[vY r.ptr r.len r.cap,vX xh (ng p seed syms).2]/\Sp h h' [an aC r 1 aB (ng p seed syms).1]:=by
 refine Kz p seed l ?_;unfold CU;refine(Sp.refl h).boxed fun J h1 H1=>?_;have s:∀{h':Heap} (e:Int),Sp h h' [aq J aP [vX xh p.1,vX xh p.2.1,vX xh p.2.2]]->ng p seed syms=([],e)->∃r:Sl,(.tuple #[vY none 0 0,vX xh e]:Value)=.tuple #[vY r.ptr r.len r.cap,vX xh (ng p seed syms).2]/\Sp h h' [an aC r 1 aB (ng p seed syms).1]:=fun e H' he=>by
  rw[he];exact⟨⟨none,0,0⟩,rfl,(H'.nil aC 1 aB).bO [1]⟩
 refine aX ⟨p,(H1.box 0 rfl).aO _ rfl,?_⟩;refine(dS p h1).mono ?_;rintro _ h2 ⟨rfl,R2⟩;have Q:=H1.up R2.ai;refine⟨_,rfl,bi (fun e=>?_) (fun a=>?_)⟩
 ·exact s 1 Q (by unfold ng;rw[e];rfl)
 refine(WT p J l syms h2 (Q.box 0 rfl) (fG.up V Q.ai) (by omega)).mono ?_;rintro _ h3 ⟨rfl,R3⟩;have R:=Q.up R3.ai;refine⟨_,rfl,bi (fun e=>?_) (fun d=>?_)⟩
 ·exact s 1 R (by unfold ng;rw[a,e];rfl)
 refine aX ⟨p,(R.box 0 rfl).aO _ rfl,?_⟩;refine(acr l syms h3 (fG.up V R.ai) (by omega)).mono ?_;rintro _ h4 ⟨r,rfl,R4⟩;have T:=R.comp R4;have D:=T.box 0 rfl;refine⟨r,rfl,⟨D.cell0 rfl,D.cell rfl,D.cell rfl,trivial⟩,?_⟩;refine(Qq p seed r (syms.map qJ) h4 (T.seq 1 rfl fun _=>rfl) (by simp;omega)).mono ?_;rintro _ h5 ⟨rfl,R5⟩;have M:Sp h h5 [aq J aP [vX xh p.1,vX xh p.2.1,vX xh p.2.2]]:=(T.up R5.ai).bO [0];refine⟨_,rfl,trivial,bi (fun e=>?_) (fun b=>?_)⟩
 ·exact s 9 M (by unfold ng;rw[a,d,e];rfl)
 have G:∀x∈syms,Bj p x:=fun x g=>(UZ a).1 (qM.1 d x g);have a2:=(bK p).1 a;have ay:=se a;have hr:cL (dM p seed (syms.map qJ))=(bZ p).toNat:=by
  have:=b;unfold fR LM at this;rw[a]at this;simp at this;omega
 refine⟨p,(M.box 0 rfl).aO _ rfl,?_⟩;refine(aer p seed l syms (bZ p).toNat p.2.2.toNat h5 (fG.up V M.ai) a G rfl rfl U hr).mono ?_;rintro _ h6 (⟨hc,m,rfl,R6⟩|⟨hc,rfl,R6⟩)
 rotate_left
 ·refine⟨(⟨none,0,0⟩,10),rfl,ci (fun _=>s 10 (M.up R6.ai) ?_) (fun e=>absurd e (by decide))⟩;unfold ng;rw[a,d,b,if_neg hc];rfl
 refine⟨(m,0),rfl,ci (fun e=>absurd rfl e) (fun _=>?_)⟩;obtain⟨X,hX⟩:∃X,X=fD (bZ p).toNat (dM p seed (syms.map qJ)) (sg p syms):=⟨_,rfl⟩
 have N:ng p seed syms=(uk p seed X p.1.toNat,0):=by unfold ng;rw[a,d,b,if_pos hc,hX];rfl
 have ah:bh p.2.2.toNat (sg p syms):=fun x g=>by
  rcases qB.1 g with g|g
  ·rw[(wT.1 g).2];simp[aL]
  ·obtain⟨y,hy,rfl⟩:=qu.1 g;exact(G y hy).len
 have Y:(dM p seed (syms.map qJ)).length=(sg p syms).length:=by
  rw[<-Yx (n:=(bZ p).toNat) (seed:=seed) a rfl G,<-Yy (n:=(bZ p).toNat) (seed:=seed) (p:=p) (l:=syms) rfl];exact xn
 obtain⟨A,q⟩:=xm Y (mJ p seed _) ah hr;rw[<-hX]at R6 A q;have H6:=(M.comp R6).XY 1 rfl;obtain⟨O,P⟩:=aa.Ob H6 1 rfl fun _=>rfl;have ax:=(P.dO 1 rfl).1.len;have a4:=(P.dO 1 rfl).2.1;refine⟨p.1,(P.box 0 rfl).cell0 rfl,?_⟩;rw[N];have K:Sp h h6 [an aC ⟨none,0,0⟩ 1 aB [],aq J aP [vX xh p.1,vX xh p.2.1,vX xh p.2.2],cj (ju 1 aB) 1 bQ m O X]:=(P.nil aC 1 aB).bO [2,0,1];have L:∀j:Nat,(fv p.2.2.toNat X (de (bZ p).toNat seed (j:Int))).length=p.2.2.toNat:=fun j=>Xn q A fun x g=>mG (by omega) (by omega) g;have F:∀i,(uk p seed X i).length=i*p.2.2.toNat:=fun i=>by
  induction i with
  |zero=>simp[uk]
  |succ i ih=>rw[QH,qw,ih,L,zJ]
 refine aw (fun t:Nat×Sl=>(t.2,(t.1:Int))) (fun t h'=>t.1<=p.1.toNat/\Sp h h' [an aC t.2 1 aB (uk p seed X t.1),aq J aP [vX xh p.1,vX xh p.2.1,vX xh p.2.2],cj (ju 1 aB) 1 bQ m O X]) (fun t=>p.1.toNat-t.1) (0,⟨none,0,0⟩) rfl ⟨by omega,by simpa[uk]using K⟩ ?_;rintro⟨i,o⟩ h8 ⟨hi,K⟩;dsimp only at*;refine ak (fun e=>?_) (fun e=>?_)
 ·have am:i<p.1.toNat:=by omega
  refine⟨p.2.2,(K.box 1 rfl).cell rfl,?_⟩;refine K.make af aB fX (by decide) 0 rfl rfl p.2.2.toNat p.2.2.toNat (by omega) (by omega) (ql _) (by omega) fun sm h9 _ _ H9=>?_;refine⟨p,(H9.box 1 rfl).aO _ rfl,(Bz p seed (i:Int) h9).mono ?_⟩;rintro _ a0 ⟨c,rfl,z⟩;have S:(bJ p&&bU (i:Int))=true:=by rw[a];unfold bU;simp;omega
  rw[S,if_pos rfl]at z;have I:=(H9.comp z).bO [3,0,1,2,4];refine⟨c,rfl,?_⟩;generalize H:de (bZ p).toNat seed (i:Int)=cs at I z;have u:∀x∈cs,0<=x/\x<((bZ p).toNat:Int):=fun x g=>mG (by omega) (by omega) (H▸g);have ao:cs.length<=20:=by have:=AV (n:=(bZ p).toNat) (by omega) (by omega) seed (i:Int);rw[H]at this;omega
  have ap:=(I.own 4 rfl).len;refine aw (fun j:Nat=>(j:Int)) (fun j h'=>j<=cs.length/\Sp h h' [an aC sm 1 aB (fv p.2.2.toNat X (cs.take j)),an aC o 1 aB (uk p seed X i),aq J aP [vX xh p.1,vX xh p.2.1,vX xh p.2.2],cj (ju 1 aB) 1 bQ m O X,an aT c 1 aD cs]) (fun j=>cs.length-j) 0 rfl ⟨by omega,I⟩ ?_;rintro j a5 ⟨hj,f⟩;have E:=pK q A u j hj;refine ak (fun e2=>?_) (fun e2=>?_)
  ·have B:j<cs.length:=by omega
   have a3:=u _ (qg B);refine(f.seq 4 rfl fun _=>rfl).bz j rfl B _ rfl ?_;have k:cs[j].toNat<X.length:=by omega
   refine(f.dO 3 rfl).1.ox cs[j].toNat (by omega) (by omega) ?_;have Z:(X[cs[j].toNat]'k).length=p.2.2.toNat:=q _ (qg _);refine aes (O[cs[j].toNat]'(by omega)) sm (X[cs[j].toNat]'k) _ f (St.mk' fun h' H'=>Fix.row (H'.dO 2 rfl) k) (by rw[Z,E]) (by omega) fun ad w=>?_;refine⟨j+1,by rw[Go.Vc.wrap_small _ (by omega) (by omega)];rfl,⟨by omega,?_⟩,by omega⟩;rw[aJ _ _ B,Eb,lV k];exact w
  ·have W:j=cs.length:=by omega
   subst W;rw[qR]at f E;refine f.append af 1 rfl fX Uy rfl (by decide) (fun _=>rfl) (f.seq 0 rfl fun _=>rfl) gp (by rw[F,E];have:i*p.2.2.toNat<=16*24:=we (by omega) (by omega);omega) fun o' ad w=>?_;refine⟨(i+1,o'),by dsimp only;rw[Go.Vc.wrap_small _ (by omega) (by omega)];rfl,⟨by dsimp only;omega,?_⟩,by dsimp only;omega⟩;dsimp only;rw[QH,H];exact w.bO [1,2,3]
 ·have ab:i=p.1.toNat:=by omega
  subst ab;exact⟨o,rfl,K.bO [0]⟩
end Go.Proofs.YtdhamoojccmbdaaGreatDoor
namespace Wl
section
variable {p:Int×Int×Int} {seed:Int} {d:Row} {K H w n:Nat}
def lE(p:Int×Int×Int)(seed:Int)(X:aS)(ids:List Int):List (Int×Row):=ids.map fun i=>(i,fv p.2.2.toNat X (de (bZ p).toNat seed i))
theorem bV.size(B:bV p seed d K H w n):p.2.2.toNat=w:=by have:=B.s;omega
theorem Ld(X:aS)(ids:List Int):(lE p seed X ids).map qJ=ids:=by simp[lE,wS,Function.comp_def]
theorem bV.Va(B:bV p seed d K H w n){ids:List Int}(hid:∀i∈ids,bU i=true):(lE p seed (eJ p seed d) ids).all (mw p)=true:=qM.2 fun x b=>by
 obtain⟨i,a,rfl⟩:=qu.1 b;refine(UZ B.may).2 ⟨hid i a,?_⟩;dsimp only;rw[B.size,B.pL];exact B.aaJ i
theorem NH{α β:Type}{f g:α->List β}:∀(l:List α),(∀x∈l,f x=g x)->l.flatMap f=l.flatMap g
 |[],_=>rfl
 |a::l,h=>by rw[zl,zl,h a (by simp),NH l fun x b=>h x (by simp[b])]
theorem QI(d:Row)(w:Nat):∀i,i*w<=d.length->(qC i).flatMap (Go.Vc.Gu d w)=d.take (i*w)
 |0,_=>by simp
 |i+1,h=>by
  have e:(i+1)*w=i*w+w:=zJ i w;rw[zI,zc,QI d w i (by omega),e,List.take_add];simp[Go.Vc.Gu]
theorem bV.out(B:bV p seed d K H w n):uk p seed (eJ p seed d) p.1.toNat=d:=by
 have a:p.1.toNat=K:=by have:=B.k;omega
 unfold uk;rw[a,B.size,B.pL];have:(qC K).flatMap (fun j:Nat=>fv w (eJ p seed d) (de n seed (j:Int)))=(qC K).flatMap (Go.Vc.Gu d w):=by
  exact NH _ fun j b=>B.adp (qF.1 b)
 rw[this,QI d w K (by rw[B.len];exact ql _),qi (by rw[B.len];exact ql _)]
theorem bV.acs(B:bV p seed d K H w n){ids:List Int}(hid:∀i∈ids,bU i=true):Wl.fc n w (dM p seed ids) (sg p (lE p seed (eJ p seed d) ids)) (eJ p seed d):=by
 have j:ids.filter bU=ids:=wq.2 hid;have l:dM p seed ids=bw K H++ids.map (rY n seed):=by
  unfold dM;rw[B.may,if_pos rfl,j,B.pL];have m:p.1.toNat=K:=by have:=B.k;omega
  have f:p.2.1.toNat=H:=by have:=B.h;omega
  rw[m,f]
 have o:sg p (lE p seed (eJ p seed d) ids)=qh H (aL w)++ids.map fun i=>fv w (eJ p seed d) (de n seed i):=by
  unfold sg lE;have f:p.2.1.toNat=H:=by have:=B.h;omega
  rw[f,B.size,B.pL,wS];rfl
 refine⟨B.sX.1,B.sX.2,fun i g=>?_⟩;rw[l]at g⊢;rw[o];have b:(bw K H).length=H:=by simp[bw]
 simp only[qw,qx,b]at g;by_cases a:i<H
 ·have e:az (bw K H++ids.map (rY n seed)) i=lq K H i:=by
   rw[bu (by simp;omega),ya (by omega)];simp[bw]
  have c:az (qh H (aL w)++ids.map fun i=>fv w (eJ p seed d) (de n seed i)) i=aL w:=by
   rw[bu (by simp;omega),ya (by simpa using a)];simp
  rw[e,c];exact B.low a
 ·have e:az (bw K H++ids.map (rY n seed)) i=rY n seed (ids[i-H]'(by omega)):=by
   rw[bu (by simp;omega),wI (by omega)];simp[b]
  have c:az (qh H (aL w)++ids.map fun i=>fv w (eJ p seed d) (de n seed i)) i=fv w (eJ p seed d) (de n seed (ids[i-H]'(by omega))):=by
   rw[bu (by simp;omega),wI (by simpa using a)];simp
  rw[e,c,B.sym]
theorem act{l:List (Int×Row)}(c:∀x∈l,Bj p x):bh p.2.2.toNat (sg p l):=fun x a=>by
 rcases qB.1 a with a|a
 ·rw[(wT.1 a).2];simp[aL]
 ·obtain⟨y,b,rfl⟩:=qu.1 a;exact(c y b).len
theorem WU(b:bJ p=true){l:List (Int×Row)}(a:∀x∈l,Bj p x):(dM p seed (l.map qJ)).length=(sg p l).length:=by
 rw[<-Yx (n:=(bZ p).toNat) (seed:=seed) b rfl a,<-Yy (n:=(bZ p).toNat) (seed:=seed) (p:=p) (l:=l) rfl];exact xn
theorem Iw(a:bJ p=true){ids:List Int}:fR p seed ids=true↔cL (dM p seed ids)=(bZ p).toNat:=by
 have:=se a;have:=(bK p).1 a;unfold fR LM;rw[a,zU];simp;omega
theorem bV.dec(B:bV p seed d K H w n){ids:List Int}(hid:∀i∈ids,bU i=true)(c:fR p seed ids=true):ng p seed (lE p seed (eJ p seed d) ids)=(d,0):=by
 have a:∀x∈lE p seed (eJ p seed d) ids,Bj p x:=fun x g=>(UZ B.may).1 (qM.1 (B.Va hid) x g);have f:=B.acs hid;have e:=WU (seed:=seed) B.may a;rw[Ld]at e;have h:=(Iw B.may).1 c;have b:=lu e (mJ p seed ids) (act a) h (by rw[B.pL,B.size];exact f);unfold ng;rw[B.may,B.Va hid,Ld,c];simp only[vS,if_true];rw[if_pos b.2,<-b.1,B.out]
theorem aet(c:bJ p=true){l:List (Int×Row)}(a:l.all (mw p)=true)(b:fR p seed (l.map qJ)=false):ng p seed l=([],9):=by
 unfold ng;rw[c,a,b];rfl
end
end Wl
namespace Go.Proofs.YtdhamoojccmbdaaGreatDoor
open Go Go.Vc Go.Proofs Wl
end Go.Proofs.YtdhamoojccmbdaaGreatDoor
namespace Wl
section
variable {p:Int×Int×Int} {seed:Int} {d:Row} {K H w n:Nat}
end
theorem WV{n:Nat}{A:aS}(o:bh n A)(d:cL A=n){y:Nat->UInt8}(t:∀r∈A,bE (fun j=>aN r j) y n=0):∀i,i<n->y i=0:=by
 intro i l;let Y:aS:=(qC n).map fun c=>[y c]
 have p:bh 1 (qh A.length (aL 1)):=fun r d=>by rw[(wT.1 d).2];rfl
 have a:A.length=(qh A.length (aL 1)).length:=by simp
 have f:∀j,j<A.length->az (qh A.length (aL 1)) j=aL 1:=fun j g=>by rw[bu (by simpa using g)];simp
 have e:∀z:Nat->UInt8,(∀r∈A,bE (fun j=>aN r j) z n=0)->fc n 1 A (qh A.length (aL 1)) ((qC n).map fun c=>[z c]):=fun z u=>by
  have b:bh 1 ((qC n).map fun c=>[z c]):=fun r d=>by obtain⟨c,_,rfl⟩:=qu.1 d;rfl
  refine⟨by simp,b,fun j g=>?_⟩;rw[f j g];refine fq (n:=1) (hO b (by simp) _ n (ql _)) rfl fun k v=>?_;obtain rfl:k=0:=by omega
  rw[gw b (by simp) _ 0 n (ql _),ct,<-u _ (mem_row g)];refine fu n (fun _ _=>rfl) fun c q=>?_;rw[bu (by simpa using q)];simp[aN]
 have u0:=(lu a o p d (e (fun _=>0) fun r _=>dot_zero' r n)).1;have s:=(lu a o p d (e y t)).1;have h:aN (az ((qC n).map fun c=>[y c]) i) 0=aN (az ((qC n).map fun _=>[(0:UInt8)]) i) 0:=congrArg (fun m=>aN (az m i) 0) (s.trans u0.symm);rw[bu (by simpa using l),bu (by simpa using l)]at h;simpa[aN]using h
where
 dot_zero' (r:Row):∀n,bE (fun j=>aN r j) (fun _=>(0:UInt8)) n=0
  |0=>rfl
  |n+1=>by rw[bE,dot_zero' r n,Gf.mul_zero];rfl
section
variable {p:Int×Int×Int} {seed:Int} {d:Row} {K H w n:Nat}
theorem age{ids c:List Int}(h:∀i∈ids,i∈c):∀r∈dM p seed ids,r∈dM p seed c:=fun r a=>by
 unfold dM at*;cases hm:bJ p
 ·rw[hm]at a;simp at a
 ·rw[hm,if_pos rfl,qB]at a;rw[if_pos rfl,qB];rcases a with a|a
  ·exact .inl a
  ·obtain⟨i,b,rfl⟩:=qu.1 a;rw[qI]at b;exact .inr (qu.2 ⟨i,qI.2 ⟨h i b.1,b.2⟩,rfl⟩)
theorem acu(d:bJ p=true){ids a:List Int}(h:∀i∈ids,i∈a)(j:fR p seed ids=true):fR p seed a=true:=by
 have b:=(Iw d).1 j;refine(Iw d).2 ?_;have e:=GJ (mJ p seed a);by_cases c:cL (dM p seed a)<(bZ p).toNat
 ·exfalso;obtain⟨y,⟨i,k,f⟩,g⟩:=kernel (mJ p seed a) c;exact f (WV (mJ p seed ids) b (fun r b=>g r (age h r b)) i k)
 ·omega
end
end Wl
namespace Go.Proofs.YtdhamoojccmbdaaGreatDoor
open Go Go.Vc Go.Proofs Wl
theorem kg(a b:cT):pE a b=true↔a.object=b.object/\a.block=b.block/\a.id=b.id:=by unfold pE;rw[decide_eq_true_eq]
theorem XE{l:List cT}{i:Nat}(a:i<l.length)(b:pF l i=true):l[i]∈sa l:=by
 unfold sa;exact qu.2 ⟨i,qI.2 ⟨qF.2 a,b⟩,iM _ a⟩
theorem aeu{l:List cT}{r:cT}(h:r∈l):∃b∈sa l,pE b r=true:=by
 have e:∀i (a:i<l.length),∃b∈sa l,pE b l[i]=true:=by
  intro i
  induction i with
  |zero=>intro a;exact⟨l[0],XE a (by unfold pF;simp),(kg _ _).2 ⟨rfl,rfl,rfl⟩⟩
  |succ i ih=>
   intro a;cases hk:pF l (i+1)with
   |true=>exact⟨_,XE a hk,(kg _ _).2 ⟨rfl,rfl,rfl⟩⟩
   |false=>
    obtain⟨b,f,d⟩:=ih (by omega);unfold pF at hk;rw[yc,Bool.not_eq_false']at hk;have c:=hk.2;rw[yV,iM _ a,iM _ (show i<l.length by omega)]at c;rw[kg]at d c;exact⟨b,f,(kg _ _).2 ⟨by rw[d.1,c.1],by rw[d.2.1,c.2.1],by rw[d.2.2,c.2.2]⟩⟩
 obtain⟨i,a,rfl⟩:=qG h;exact e i a
theorem fj{m:aE}{r:cT}:cX m r=true↔iU r=true/\r.p=m.p/\∃x∈m.objs,x.object=r.object/\r.block<(x.tries.length:Int)/\r.seed=cJ r.object r.block (x.tries.getD r.block.toNat 0):=by
 unfold cX;rw[qz,qz,decide_eq_true_eq,wm];simp only[qz,decide_eq_true_eq]
theorem Le{m:aE}(e:bP m=true){x y:Wl.bY}(f:x∈m.objs)(d:y∈m.objs)(h:x.object=y.object):x=y:=by
 have c:=zd.1 ((bS m).1 e).2.2.2.2.2.2;obtain⟨i,a,rfl⟩:=qG f;obtain⟨j,b,rfl⟩:=qG d;rcases yg i j with hl|rfl|hl
 ·exact absurd h (c i j a b hl)
 ·rfl
 ·exact absurd h.symm (c j i b a hl)
theorem QJ{m:aE}(e:bP m=true){x y:Wl.bY}(f:x∈m.objs)(d:y∈m.objs)(h:x.name=y.name):x=y:=by
 have c:=zd.1 ((bS m).1 e).2.2.2.2.2.1;obtain⟨i,a,rfl⟩:=qG f;obtain⟨j,b,rfl⟩:=qG d;rcases yg i j with hl|rfl|hl
 ·exact absurd h (pr (c i j a b hl))
 ·rfl
 ·exact absurd h.symm (pr (c j i b a hl))
def fB(m:aE)(C:Int->List UInt8)(o b:Int):List UInt8:=(bm m.p (C o)).getD b.toNat []
def EQ(m:aE)(C:Int->List UInt8)(r:cT):Prop:=r.data=Am m.p r.seed (fB m C r.object r.block) r.id
theorem aev{m:aE}{C:Int->List UInt8}{r a:cT}(p:bP m=true)(j:cX m r=true)(i:cX m a=true)(f:EQ m C r)(g:EQ m C a)(h:pE a r=true):a=r:=by
 obtain⟨_,q,o,b,n,_,w⟩:=fj.1 j;obtain⟨_,s,x2,c,t,_,l⟩:=fj.1 i;rw[kg]at h;obtain⟨d,e,u⟩:=h;have v:o=x2:=Le p b c (by rw[n,t,d]);subst v;have k:a.seed=r.seed:=by rw[w,l,d,e]
 unfold EQ at f g;cases r;cases a;simp only at*;subst d e u k;rw[q,s,f,g]
structure hG (m:aE) (C:Int->List UInt8) (c:List UInt8):Prop where
 old:∀r,dm c=some r->r.object<m.next
 tru:∀r,dm c=some r->cX m r=true->EQ m C r
 page:∀g,DF c=some g->g.seq<=m.seq/\(g.seq=m.seq->c∈be m)
theorem Lf{m:aE}{C:Int->List UInt8}{l:List (List UInt8)}(o:bP m=true)(k:∀c∈l,hG m C c){c:List UInt8}(j:c∈l){r:cT}(h:dm c=some r)(f:cX m r=true):r∈fQ m l:=by
 have b:r∈(l.filterMap (jH m)).mergeSort rD:=yw.2 (List.mem_filterMap.2 ⟨c,j,by unfold jH;rw[h];dsimp only;rw[if_pos f]⟩);obtain⟨g,i,p⟩:=aeu b;obtain⟨n,d,e,a⟩:=EM (m:=m) (l:=l) (r:=g) i;have:=aev o f a ((k c j).tru r h f) ((k n d).tru g e a) p;rw[<-this];exact i
theorem lj{m:aE}{l:List (List UInt8)}{r:cT}(h:r∈fQ m l):dN r∈l/\dm (dN r)=some r/\cX m r=true:=by
 obtain⟨c,b,a,d⟩:=EM h;rw[(Yj a).1];exact⟨b,a,d⟩
theorem Jf{n:aE}(C:Int->List UInt8){c:List UInt8}(e:bP n=true)(h:c∈be n):hG n C c:=by
 have h0:=fN h;refine⟨fun r a=>(by rw[h0]at a;cases a),fun r a _=>(by rw[h0]at a;cases a),fun g b=>?_⟩;rw[QB]at h;obtain⟨i,d,rfl⟩:=qu.1 h;rw[Zv e (qF.1 d)]at b;injection b with b
 subst b;exact⟨vQ _,fun _=>by rw[QB];exact qu.2 ⟨i,d,rfl⟩⟩
theorem agf{m:aE}{C:Int->List UInt8}{l:List (List UInt8)}(a:bP m=true)(d:∀c∈l,hG m C c):∀c∈ja m l,hG m C c:=fun c b=>by
 rcases qB.1 b with h|h
 ·exact Jf C a h
 ·obtain⟨r,e,rfl⟩:=qu.1 h;exact d _ (lj e).1
theorem XF{m:aE}{C:Int->List UInt8}{d:bC}{N:Int}(e:bP m=true)(b:∀c∈d.l,hG m C c):∀c∈(dw m d N).l,hG m C c:=fun c a=>by
 unfold dw at a;split at a
 ·exact b c a
 ·exact agf e b c a
theorem Vb{m:aE}{C:Int->List UInt8}{d:bC}{N:Int}(e:bP m=true)(f:∀c∈d.l,hG m C c){r:cT}(a:dN r∈d.l)(b:dm (dN r)=some r)(g:cX m r=true):dN r∈(dw m d N).l:=by
 unfold dw;split
 ·exact a
 ·exact wN _ (qu.2 ⟨r,Lf e f a b g,rfl⟩)
theorem ZL{r:cT}(h:iU r=true):DF (dN r)=none:=by
 have a:=oJ h;unfold DF dN;rw[if_pos h,AZ (by decide) (by decide) (by omega)];dsimp only;rw[if_neg (by rintro⟨h,_⟩;exact absurd h (by decide))]
theorem ER{m n:aE}{C D:Int->List UInt8}{o b:Int}(a:n.p=m.p)(h:D o=C o):fB n D o b=fB m C o b:=by unfold fB;rw[a,h]
theorem EQ.congr{m n:aE}{C D:Int->List UInt8}{r:cT}(a:n.p=m.p)(b:D r.object=C r.object)(h:EQ m C r):EQ n D r:=by
 unfold EQ at h⊢;rw[ER a b,a];exact h
theorem uZ{m n:aE}{r:cT}(c:n.p=m.p)(a:∀x∈n.objs,x∈m.objs)(h:cX n r=true):cX m r=true:=by
 obtain⟨e,d,x,b,h3⟩:=fj.1 h;exact fj.2 ⟨e,by rw[d,c],x,a x b,h3⟩
theorem hG.next{m n:aE}{C:Int->List UInt8}{c:List UInt8}(h:hG m C c)(d:n.p=m.p)(j:m.next<=n.next)(k:m.seq<n.seq)(a:∀x∈n.objs,x∈m.objs):hG n C c:=
 ⟨fun r b=>by have:=h.old r b;omega,fun r b i=>(h.tru r b (uZ d a i)).congr d rfl,fun g f=>by have:=(h.page g f).1;exact⟨by omega,fun e=>by omega⟩⟩
def iK(C:Int->List UInt8)(o:Int)(b:List UInt8):Int->List UInt8:=fun k=>if k=o then b else C k
theorem hG.with{m:aE}{C:Int->List UInt8}{e:Wl.bY}{b c:List UInt8}(h:hG m C c)(o:e.object=m.next):hG (cM m e) (iK C m.next b) c:=by
 refine⟨fun r a=>?_,fun r a k=>?_,fun g f=>?_⟩
 ·have:=h.old r a;show r.object<m.next+1;omega
 ·have l:=h.old r a;obtain⟨j,i,x,d,h3,n⟩:=fj.1 k;rcases jD.1 d with d|rfl
  ·refine(h.tru r a (fj.2 ⟨j,i,x,d,h3,n⟩)).congr (m:=m) rfl ?_;unfold iK;rw[if_neg (by omega)]
  ·omega
 ·have:=(h.page g f).1;show g.seq<=m.seq+1/\(g.seq=m.seq+1->_)
  exact⟨by omega,fun e=>by omega⟩
theorem ahx{m:aE}{C:Int->List UInt8}{e:Wl.bY}{b:List UInt8}{seed:Int}{i id:Nat}(f:0<=seed/\seed<4294967296)(c:iU (kw m m.next i seed ((bm m.p b).getD i []) id)=true):
  hG (cM m e) (iK C m.next b) (dN (kw m m.next i seed ((bm m.p b).getD i []) id)):=by
 have a:=mI c f;refine⟨fun r h=>?_,fun r h j=>?_,fun g h=>?_⟩
 ·rw[a]at h;injection h with h;subst h
  show m.next<m.next+1;omega
 ·rw[a]at h;injection h with h;subst h
  have d:fB (cM m e) (iK C m.next b) m.next (i:Int)=(bm m.p b).getD i []:=by
   unfold fB iK;rw[if_pos rfl,qo];rfl
  show Am m.p seed ((bm m.p b).getD i []) id=Am (cM m e).p seed (fB (cM m e) (iK C m.next b) m.next (i:Int)) id;rw[d];rfl
 ·rw[ZL c]at h;cases h
structure fo (m:aE) (C:Int->List UInt8) (ds:aW):Prop where
 may:bP m=true
 len:ds.length=64
 cells:∀k d,bG ds k=some d->∀c∈d.l,hG m C c
 ents:∀e∈m.objs,((C e.object).length:Int)=e.length/\cz m.p e.object (bm m.p (C e.object)).length=some e.tries
theorem fo.old{m:aE}{C:Int->List UInt8}{ds:aW}(S:fo m C ds){e:Wl.bY}(a:e∈m.objs):e.object<m.next:=((eW m e).1 (((bS m).1 S.may).2.2.2.2.1 e a)).2.1.2
theorem nh{ds b:aW}{f:Int->bC->bC}(h:∀k,bG b k=(bG ds k).map (f k)){k:Int}{d:bC}(a:bG b k=some d):∃c,bG ds k=some c/\d=f k c:=by
 rw[h]at a;cases h0:bG ds k with
 |none=>rw[h0]at a;cases a
 |some c=>rw[h0]at a;injection a with a;exact⟨c,rfl,a.symm⟩
theorem XG{n:aE}{C:Int->List UInt8}{a:List (List UInt8)}{d:bC}(e:∀c∈d.l,hG n C c)(f:∀c∈a,hG n C c):∀c∈(dG a d).l,hG n C c:=fun c b=>by
 rw[Ar]at b;rcases qB.1 b with h|h
 ·exact e c h
 ·exact f c h
def kH(m:aE)(ds:aW)(t:List Int)(b:List UInt8)(n:aE)(k:Int)(d:bC):bC:=
 if k∈bg ds m.drives then dG ((gi m m.next t (bm m.p b) (bg ds m.drives) k (bm m.p b).length).map dN++be n) (dw m d (jb (be n).length (db m m.next t (bm m.p b) (bg ds m.drives) (bm m.p b).length) k))else d
theorem agh{m:aE}{offs:Int}{w:Pow}{ds:aW}{C:Int->List UInt8}{name:ByteArray}{b:List UInt8}(G:w.calm)(S:fo m C ds):
  ((∃e,e≠0/\ga m offs w ds name b=(e,m,w,ds))/\((ga m offs w ds name b).1=cB m (eF w offs) ds name b.length∨(cB m (eF w offs) ds name b.length=0/\((ga m offs w ds name b).1=8/\cz m.p m.next (bm m.p b).length=none∨(ga m offs w ds name b).1=7/\∃t,cz m.p m.next (bm m.p b).length=some t/\cY m ds (bg ds m.drives) (jb (be (cM m ⟨name,m.next,b.length,t⟩)).length (db m m.next t (bm m.p b) (bg ds m.drives) (bm m.p b).length))=false))))∨
  (cB m (eF w offs) ds name b.length=0/\∃t a,cz m.p m.next (bm m.p b).length=some t/\ga m offs w ds name b=(0,cM m ⟨name,m.next,b.length,t⟩,w,a)/\fo (cM m ⟨name,m.next,b.length,t⟩) (iK C m.next b) a/\
   ∀k,bG a k=(bG ds k).map (kH m ds t b (cM m ⟨name,m.next,b.length,t⟩) k)):=by
 obtain⟨E,y⟩:=QA (offs:=offs) (name:=name) (b:=b) G S.len S.may;by_cases f:cB m (eF w offs) ds name b.length=0
 ·obtain⟨B,z⟩:=y f;cases ht:cz m.p m.next (bm m.p b).length with
  |none=>rw[B ht];exact .inl ⟨⟨8,by decide,rfl⟩,.inr ⟨f,.inl ⟨rfl,rfl⟩⟩⟩
  |some t=>
   obtain⟨l,x,I⟩:=z t ht;cases hf:cY m ds (bg ds m.drives) (jb (be (cM m ⟨name,m.next,b.length,t⟩)).length (db m m.next t (bm m.p b) (bg ds m.drives) (bm m.p b).length))with
   |false=>rw[x hf];exact .inl ⟨⟨7,by decide,rfl⟩,.inr ⟨f,.inr ⟨rfl,t,rfl,hf⟩⟩⟩
   |true=>
    obtain⟨a,F,D,H⟩:=I hf;have j:∀k,bG a k=(bG ds k).map (kH m ds t b (cM m ⟨name,m.next,b.length,t⟩) k):=H;refine .inr ⟨f,t,a,rfl,F,⟨l,D,fun k d v=>?_,fun e n=>?_⟩,j⟩
    ·obtain⟨s,h0,rfl⟩:=nh j v;unfold kH;split
     ·refine XG (fun c g=>(XF S.may (S.cells k s h0) c g).with rfl) fun c g=>?_;rcases qB.1 g with h|h
      ·obtain⟨r,o,rfl⟩:=qu.1 h;obtain⟨i,id,rfl,u,hid⟩:=Nw o;obtain⟨J,K,z3,z4,z5⟩:=jC f;have q:=((dD m).1 ((bS m).1 S.may).1)
       have h8:=xq q.2.2.1 (fun h=>z4 (.inl h));exact ahx (jn _ _ _) (Je S.may (by have:¬16777215<m.next:=fun h=>z5 (.inr (.inl h));omega) h8 ht u hid)
      ·exact Jf _ l h
     ·exact fun c g=>(S.cells k s h0 c g).with rfl
    ·rcases jD.1 n with n|rfl
     ·have A:=S.old n;have:iK C m.next b e.object=C e.object:=by unfold iK;rw[if_neg (by omega)]
      rw[this];exact S.ents e n
     ·have:iK C m.next b m.next=b:=by unfold iK;rw[if_pos rfl]
      show((iK C m.next b m.next).length:Int)=(b.length:Int)/\cz m.p m.next (bm m.p (iK C m.next b m.next)).length=some t;rw[this];exact⟨rfl,ht⟩
 ·rw[E f];exact .inl ⟨⟨_,f,rfl⟩,.inl rfl⟩
theorem ZM{m n:aE}{offs:Int}{w:Pow}{ds:aW}{C:Int->List UInt8}(E:w.calm)(S:fo m C ds)(v:eF w offs=false)(o:bP n=true)(F:n.seq=m.seq+1)(j:n.p=m.p)(t:m.next<=n.next)(a:∀x∈n.objs,x∈m.objs):
  ((bg ds n.drives=[]∨cY m ds (bg ds n.drives) (fun _=>((be n).length:Int))=false)/\dU m offs w ds n=(7,m,w,ds))∨
  ((bg ds n.drives≠[]/\cY m ds (bg ds n.drives) (fun _=>((be n).length:Int))=true)/\∃b,dU m offs w ds n=(0,n,w,b)/\fo n C b/\
   ∀k,bG b k=(bG ds k).map fun d=>if k∈bg ds n.drives then dG (be n) (dw m d (be n).length)else d):=by
 obtain⟨A,y⟩:=UP (m:=m) (n:=n) (offs:=offs) (w:=w) (ds:=ds) E S.len v o F;by_cases i:bg ds n.drives=[]∨cY m ds (bg ds n.drives) (fun _=>((be n).length:Int))=false
 ·exact .inl ⟨i,A i⟩
 ·have u:bg ds n.drives≠[]:=fun h=>i (.inl h);have q:cY m ds (bg ds n.drives) (fun _=>((be n).length:Int))=true:=by
   cases h:cY m ds (bg ds n.drives) (fun _=>((be n).length:Int))with
   |false=>exact absurd (.inr h) i
   |true=>rfl
  obtain⟨b,D,z,s⟩:=y u q;refine .inr ⟨⟨u,q⟩,b,D,⟨o,z,fun k d l=>?_,fun e B=>?_⟩,s⟩
  ·obtain⟨r,h0,rfl⟩:=nh (f:=fun k d=>if k∈bg ds n.drives then dG (be n) (dw m d (be n).length)else d) s l;split
   ·exact XG (fun c g=>(XF S.may (S.cells k r h0) c g).next j t (by omega) a) fun c g=>Jf C o g
   ·exact fun c g=>(S.cells k r h0 c g).next j t (by omega) a
  ·have:=S.ents e (a e B);rw[j];exact this
end Go.Proofs.YtdhamoojccmbdaaGreatDoor
namespace Wl
open Go Go.Proofs.YtdhamoojccmbdaaGreatDoor Go.Vc
def nE(p:Int×Int×Int)(a:List (List UInt8))(n:Int):List UInt8:=if bJ p=true/\0<=n/\(a.length:Int)=countP p n/\(a.all fun x=>decide (x.length=dv p))=true then a.flatten.take n.toNat else[]
noncomputable def jE(m:aE)(ds:aW)(o:Int)(a:List Int)(k:Nat):List UInt8×Int:=ng m.p (cJ o k (a.getD k 0)) (io m ds (bg ds m.drives) o k)
def NI(m:aE)(ds:aW)(k:Int):Bool:=match bG ds k with|some d=>ne m d.l|none=>false
def sC(m:aE)(ds:aW):Bool:=(bg ds m.drives).any (NI m ds)
noncomputable def Cw(m:aE)(ds:aW)(e:bY):List UInt8×Int:=
 if sC m ds=false then([],11)else if((qC e.tries.length).all fun k=>decide ((jE m ds e.object e.tries k).2=0))=true then(nE m.p ((qC e.tries.length).map fun k=>(jE m ds e.object e.tries k).1) e.length,0)else([],11)
noncomputable def mf(m:aE)(offs:Int)(w:Pow)(ds:aW)(name:ByteArray):List UInt8×Int:=
 if eF w offs then([],14)else match m.objs.find? (bR name)with
 |none=>([],5)
 |some e=>Cw m ds e
def pv(m:aE)(ds:aW)(o b:Int):List Int:=(io m ds (bg ds m.drives) o b).map qJ
def Vd(m:aE)(ds:aW)(e:bY):Bool:=sC m ds&&(qC e.tries.length).all fun k=>fR m.p (cJ e.object k (e.tries.getD k 0)) (pv m ds e.object k)
theorem NJ(a:Nat)(b:List UInt8):∀n,((qC n).map (uW a b)).flatten=b.take (n*a)++qh (n*a-b.length) 0
 |0=>by simp
 |n+1=>by
  rw[zI,qS,List.flatten_append,NJ a b n,zJ];simp only[zT,vA,List.flatten_cons,List.flatten_nil,qQ];unfold uW;by_cases h:n*a<=b.length
  ·have c:n*a-b.length=0:=by omega
   rw[c,List.replicate_zero,qQ,<-qp,<-List.take_add,List.drop_replicate,q7];congr 2;omega
  ·have d:b.drop (n*a)=[]:=zg (by omega);rw[d,List.take_nil,zW,ym,List.drop_zero,qi (by omega),qi (by omega),qp,yK];congr 2;omega
theorem Kb{p:Int×Int×Int}(a:bJ p=true)(n:Nat):n<=(countP p n).toNat*dv p:=by
 obtain⟨f,h,c⟩:=kT a;unfold countP;rw[a,zU];by_cases h0:0<(n:Int)
 ·rw[decide_eq_true h0,if_pos rfl,<-c];have g:=wC ((n:Int)-1) (show(0:Int)<(dv p:Int)by omega);have d:=Int.mul_ediv_add_emod ((n:Int)-1) (dv p:Int);have h3:0<=((n:Int)-1)/(dv p:Int):=Int.ediv_nonneg (by omega) (by omega);obtain⟨q,b⟩:=Int.eq_ofNat_of_zero_le h3;rw[b]at d⊢;have e:((q:Int)+1).toNat=q+1:=by omega
  rw[e,zJ];have:(dv p:Int)*(q:Int)=((q*dv p:Nat):Int):=by rw[wh,Int.mul_comm]
  omega
 ·omega
theorem ZN{p:Int×Int×Int}(a:bJ p=true)(b:List UInt8):nE p (bm p b) b.length=b:=by
 unfold nE;rw[if_pos ⟨a,by omega,Aq a b,qM.2 fun x c=>by
  unfold bm at c;obtain⟨i,_,rfl⟩:=qu.1 c;exact decide_eq_true (Ic _ _ _)⟩]
 have:=Kb a b.length;unfold bm;rw[NJ,qi this,qo,yd (ql _),qR]
end Wl
namespace Go.Proofs.YtdhamoojccmbdaaGreatDoor
open Go Go.Vc Go.Proofs Wl
section
variable {m:aE} {C:Int->List UInt8} {ds:aW} {offs:Int} {w:Pow}
theorem ZO{o b k:Int}{x:Int×List UInt8}(h:x∈tK m ds o b k):∃d r,bG ds k=some d/\r∈fQ m d.l/\r.object=o/\r.block=b/\x=(r.id,r.data):=by
 unfold tK at h;cases hd:bG ds k with
 |none=>rw[hd]at h;cases h
 |some d=>
  rw[hd]at h;unfold Ao at h;obtain⟨r,e,rfl⟩:=qu.1 h;obtain⟨c,a⟩:=qI.1 e;rw[qz,decide_eq_true_eq,decide_eq_true_eq]at a;exact⟨d,r,rfl,c,a.1,a.2,rfl⟩
theorem fo.entry(S:fo m C ds){e:Wl.bY}(a:e∈m.objs):gv m e=true:=((bS m).1 S.may).2.2.2.2.1 e a
theorem fo.Cx(S:fo m C ds):bJ m.p=true:=((dD m).1 ((bS m).1 S.may).1).2.2.1
theorem fo.blocks(S:fo m C ds){e:Wl.bY}(a:e∈m.objs):(bm m.p (C e.object)).length=e.tries.length:=(im (S.ents e a).2).symm
theorem fo.fp(S:fo m C ds){e:Wl.bY}(a:e∈m.objs){k:Nat}(b:k<e.tries.length):∃K H w n,bV m.p (cJ e.object k (e.tries.getD k 0)) (fB m C e.object k) K H w n:=by
 have h:=XB S.Cx (S.ents e a).2 (i:=k) (by rw[S.blocks a];exact b);unfold fB;rw[qo];exact h
theorem fo.sym(S:fo m C ds){e:Wl.bY}(v:e∈m.objs){k:Nat}(z:k<e.tries.length){s:Int}{x:Int×List UInt8}(h:x∈tK m ds e.object k s):
  bU x.1=true/\x.2=fv m.p.2.2.toNat (eJ m.p (cJ e.object k (e.tries.getD k 0)) (fB m C e.object k)) (de (bZ m.p).toNat (cJ e.object k (e.tries.getD k 0)) x.1):=by
 obtain⟨d,r,l,u,c,g,rfl⟩:=ZO h;obtain⟨t,o,i⟩:=lj u;obtain⟨n,A,y,w,q,_,j⟩:=fj.1 i;have f:y=e:=Le S.may w v (by rw[q,c]);subst f;have hid:=((iI r).1 n).2.2.1;have a:bU r.id=true:=by unfold bU;simp;omega
 have b:=(S.cells s d l _ t).tru r o i;unfold EQ at b;rw[c,g]at b;rw[c,g,qo]at j;refine⟨a,?_⟩;show r.data=_;rw[b,j];unfold Am;rw[if_pos a]
theorem NK{α β:Type}{f:α->β}:∀{l:List (α×β)},(∀x∈l,x.2=f x.1)->l=(l.map qJ).map fun i=>(i,f i)
 |[],_=>rfl
 |x::l,h=>by
  have c:=h x qU;have b:=NK (l:=l) fun y a=>h y (qO _ a);rw[zT,zT,<-b,<-c]
theorem fo.syms(S:fo m C ds){e:Wl.bY}(g:e∈m.objs){k:Nat}(f:k<e.tries.length)(a:List Int):
  io m ds a e.object k=lE m.p (cJ e.object k (e.tries.getD k 0)) (eJ m.p (cJ e.object k (e.tries.getD k 0)) (fB m C e.object k)) ((io m ds a e.object k).map qJ)/\∀i∈(io m ds a e.object k).map qJ,bU i=true:=by
 have c:∀x∈io m ds a e.object k,bU x.1=true/\x.2=fv m.p.2.2.toNat (eJ m.p (cJ e.object k (e.tries.getD k 0)) (fB m C e.object k)) (de (bZ m.p).toNat (cJ e.object k (e.tries.getD k 0)) x.1):=fun x b=>by
  unfold io at b;obtain⟨s,_,b⟩:=zo.1 b;exact S.sym g f b
 refine⟨NK fun x b=>(c x b).2,fun i d=>?_⟩;obtain⟨x,b,rfl⟩:=qu.1 d;exact(c x b).1
theorem fo.jE(S:fo m C ds){e:Wl.bY}(d:e∈m.objs){k:Nat}(b:k<e.tries.length):
  Wl.jE m ds e.object e.tries k=if fR m.p (cJ e.object k (e.tries.getD k 0)) (pv m ds e.object k)=true then(fB m C e.object k,0)else([],9):=by
 obtain⟨K,H,w,n,B⟩:=S.fp d b;obtain⟨f,c⟩:=S.syms d b (bg ds m.drives);unfold Wl.jE;rw[f];by_cases a:fR m.p (cJ e.object k (e.tries.getD k 0)) (pv m ds e.object k)=true
 ·rw[if_pos a];exact B.dec c a
 ·rw[if_neg a];refine aet B.may (B.Va c) ?_;rw[Ld];exact eq_false_of_ne_true a
theorem fo.Cw(S:fo m C ds){e:Wl.bY}(b:e∈m.objs):Wl.Cw m ds e=if Vd m ds e=true then(C e.object,0)else([],11):=by
 have a:((qC e.tries.length).all fun k=>decide ((Wl.jE m ds e.object e.tries k).2=0))=(qC e.tries.length).all fun k=>fR m.p (cJ e.object k (e.tries.getD k 0)) (pv m ds e.object k):=by
  rw[yC,qM,qM];refine forall_congr' fun k=>forall_congr' fun d=>?_;rw[S.jE b (qF.1 d)];cases fR m.p (cJ e.object k (e.tries.getD k 0)) (pv m ds e.object k)with
  |true=>simp
  |false=>simp
 unfold Wl.Cw Vd;rw[a];cases hw:sC m ds with
 |false=>rw[if_pos rfl,Bool.false_and,if_neg (by decide)]
 |true=>
  rw[if_neg (by decide),zU];cases hf:(qC e.tries.length).all fun k=>fR m.p (cJ e.object k (e.tries.getD k 0)) (pv m ds e.object k)with
  |false=>rw[if_neg (by decide),if_neg (by decide)]
  |true=>
   rw[if_pos rfl,if_pos rfl];have g:((qC e.tries.length).map fun k=>(Wl.jE m ds e.object e.tries k).1)=bm m.p (C e.object):=by
    apply wk
    ·simp[S.blocks b]
    ·intro k c f;rw[wo,List.getElem_range];simp only[qx,zw]at c;rw[S.jE b c,if_pos (qM.1 hf k (qF.2 c))];unfold fB;rw[qo,iM _ f]
   rw[g,<-(S.ents e b).1,ZN S.Cx]
theorem fo.get(S:fo m C ds)(d:eF w offs=false)(name:ByteArray):
  (∀e∈m.objs,e.name=name->mf m offs w ds name=if Vd m ds e=true then(C e.object,0)else([],11))/\((∀e∈m.objs,e.name≠name)->mf m offs w ds name=([],5)):=by
 refine⟨fun e b g=>?_,fun c=>?_⟩
 ·have a:m.objs.find? (bR name)=some e:=by
   cases a:m.objs.find? (bR name)with
   |none=>
    have:=z8.1 a e b;exact absurd (by unfold bR;rw[g];simp) this
   |some y=>
    have f:=vK a;have i:=yB a;rw[QJ S.may i b (by rw[g];exact ke (by unfold bR at f;simpa using f))]
  unfold mf;rw[d,if_neg (by decide),a];exact S.Cw b
 ·have a:m.objs.find? (bR name)=none:=z8.2 fun e b h=>c e b (ke (by unfold bR at h;simpa using h));unfold mf;rw[d,if_neg (by decide),a]
end
theorem ZP{o b:Int}{live:List Int}(i:0<=o/\o<=16777215)(g:0<=b/\b<8)(c:live.Nodup)(d:∀k∈live,0<=k/\k<64):(gh o b live).Nodup/\(gh o b live).Perm live:=by
 have e:gh o b live=tJ ((8*o+b)%64).toNat live:=by unfold gh;rw[if_pos (by omega)]
 rw[e];have f:=adY ((8*o+b)%64).toNat live;refine⟨f,(List.perm_ext_iff_of_nodup f c).2 fun a=>?_⟩;rw[Qy];exact⟨fun h=>h.1,fun h=>⟨h,d a h⟩⟩
theorem aew{a b:cT}(d:rD a b=true)(c:rD b a=true):pE a b=true:=by
 unfold rD at d c;rw[decide_eq_true_eq]at d c;rw[kg];omega
theorem aex{a b c:cT}(h:rD a b=true)(d:pE a c=true):rD c b=true:=by
 rw[kg]at d;unfold rD at h⊢;rw[decide_eq_true_eq]at h⊢;omega
theorem ZQ{l:List cT}(h:l.Pairwise fun a b=>rD a b=true):(sa l).Pairwise fun a b=>pE a b=false:=by
 unfold sa;rw[w4];have o:((qC l.length).filter (pF l)).Pairwise (·<·):=(vy (n:=l.length)).filter _;refine o.imp_of_mem fun{i j} hi hj hlt=>?_;have c:=qF.1 (qI.1 hj).1;have d:=(qI.1 hj).2;rw[iM _ (show i<l.length by omega),iM _ c];refine eq_false_of_ne_true fun m=>?_;unfold pF at d;rw[decide_eq_false (by omega),vi,wK,iM _ c,iM _ (show j-1<l.length by omega)]at d;have f:=zd.1 h;have k:rD l[i] l[j-1]=true:=by
  by_cases e:i=j-1
  ·subst e;unfold rD;rw[decide_eq_true_eq];omega
  ·exact f i (j-1) (by omega) (by omega) (by omega)
 have g:rD l[j-1] l[j]=true:=f (j-1) j (by omega) c (by omega);have:=aew (aex k m) g;rw[d]at this;cases this
theorem Kc(m:aE)(l:List (List UInt8)):(fQ m l).Pairwise fun a b=>pE a b=false:=ZQ (yQ agE.1 agE.2 _)
theorem Aw{α:Type}[DecidableEq α]:∀{l m:List α},l.Nodup->(∀x∈l,x∈m)->l.length<=m.length
 |[],m,_,_=>w7 _
 |x::l,m,h,hs=>by
  obtain⟨f,d⟩:=wR.1 h;have c:=hs x qU;have:=Aw (l:=l) (m:=m.erase x) d fun y b=>by
   have a:y≠x:=fun e=>f (e▸b);exact(List.mem_erase_of_ne a).2 (hs y (qO _ b))
  rw[List.length_erase_of_mem c]at this;have:=List.length_pos_of_mem c;rw[zb];omega
def rv(r:cT):Int×Int×Int:=(r.object,r.block,r.id)
def Pv(l:List Wl.bY)(T:Nat):List (Int×Int×Int):=l.flatMap fun e=>(qC e.tries.length).flatMap fun(i:Nat)=>(qC T).map fun(id:Nat)=>(e.object,(i:Int),(id:Int))
theorem Pw{α β:Type}{f:α->List β}{c:Nat}:∀{l:List α},(∀x∈l,(f x).length=c)->(l.flatMap f).length=l.length*c
 |[],_=>by simp
 |x::l,h=>by
  rw[zl,qw,h x qU,Pw fun y a=>h y (qO _ a),zb,zJ];omega
theorem aey{l:List Wl.bY}{T c n:Nat}(h:∀e∈l,e.tries.length<=c)(a:l.length<=n):(Pv l T).length<=n*(c*T):=by
 refine q9 (DC (c:=c*T) fun e b=>?_) (zr _ a);rw[Pw (c:=T) fun i _=>by simp,zw];exact zr _ (h e b)
section
variable {m:aE} {C:Int->List UInt8} {ds:aW} {offs:Int} {w:Pow}
def DH(m:aE)(ds:aW):Prop:=∀k d,bG ds k=some d->∀c∈d.l,∀r,dm c=some r->cX m r=true->r.id<m.p.1+m.extra
theorem ZR{l:List (List UInt8)}(a:∀r∈fQ m l,r.id<m.p.1+m.extra){c n:Nat}(i:∀e∈m.objs,e.tries.length<=c)(u:m.objs.length<=n):(fQ m l).length<=n*(c*(m.p.1+m.extra).toNat):=by
 have g:((fQ m l).map rv).Nodup:=by
  refine w4.2 ((Kc m l).imp fun h e=>?_);unfold rv at e;injection e with e1 e2
  injection e2 with e2 e3
  rw[(kg _ _).2 ⟨e1,e2,e3⟩]at h;cases h
 have b:=Aw g (m:=Pv m.objs (m.p.1+m.extra).toNat) fun x s=>by
  obtain⟨r,d,rfl⟩:=qu.1 s;obtain⟨_,_,j⟩:=lj d;obtain⟨f,v,e,o,k,y,_⟩:=fj.1 j;obtain⟨w,q,t,_⟩:=(iI r).1 f;have:=a r d;refine zo.2 ⟨e,o,zo.2 ⟨r.block.toNat,qF.2 (by omega),qu.2 ⟨r.id.toNat,qF.2 (by omega),?_⟩⟩⟩;unfold rv;rw[k,yN q.1,yN t.1]
 rw[qx]at b;exact q9 b (aey i u)
structure Full (m:aE) (C:Int->List UInt8) (ds:aW):Prop where
 live:∀k∈m.drives,∃d,bG ds k=some d/\d.lost=false/\ne m d.l=true
 all:∀e∈m.objs,∀i:Nat,i<e.tries.length->∀id:Nat,id<(m.p.1+m.extra).toNat->∃k∈m.drives,∃d,bG ds k=some d/\dN (kw m e.object i (cJ e.object i (e.tries.getD i 0)) (fB m C e.object i) id)∈d.l
theorem Full.bg(F:Full m C ds):Wl.bg ds m.drives=m.drives:=wq.2 fun k a=>by
 obtain⟨d,c,b,_⟩:=F.live k a;unfold isLive;rw[c];simp[b]
theorem fo.ahy(S:fo m C ds){e:Wl.bY}(a:e∈m.objs):e.tries.length<=8:=by
 obtain⟨_,_,h3,_,b⟩:=(eW m e).1 (S.entry a);have:=nC h3.2;omega
theorem fo.Ix(S:fo m C ds){e:Wl.bY}(a:e∈m.objs){i:Nat}(c:i<e.tries.length){id:Nat}(hid:id<=65535):iU (kw m e.object i (cJ e.object i (e.tries.getD i 0)) (fB m C e.object i) id)=true:=by
 obtain⟨K,H,w,n,B⟩:=S.fp a c;have h8:=S.ahy a;have d:=((eW m e).1 (S.entry a)).2.1;have b:=((dD m).1 ((bS m).1 S.may).1).2.1;exact UH B ⟨d.1,by omega⟩ ⟨by omega,by omega⟩ ⟨by omega,by omega⟩
theorem fo.counts(S:fo m C ds){e:Wl.bY}(a:e∈m.objs){i:Nat}(b:i<e.tries.length){id:Nat}(hid:id<=65535):cX m (kw m e.object i (cJ e.object i (e.tries.getD i 0)) (fB m C e.object i) id)=true:=
 fj.2 ⟨S.Ix a b hid,rfl,e,a,rfl,by show(i:Int)<_;omega,by show cJ e.object i _=cJ e.object (i:Int) (e.tries.getD (i:Int).toNat 0);rw[qo]⟩
theorem fo.Lg(S:fo m C ds){id:Nat}(h:id<(m.p.1+m.extra).toNat):id<=65535:=by
 obtain⟨_,_,a,b⟩:=(dD m).1 ((bS m).1 S.may).1;have:=(bK m.p).1 a;omega
theorem fo.ahR(S:fo m C ds){e:Wl.bY}(c:e∈m.objs){i:Nat}(a:i<e.tries.length){id:Nat}(hid:id<=65535){k:Int}(f:k∈bg ds m.drives){d:bC}(b:bG ds k=some d)
  (g:dN (kw m e.object i (cJ e.object i (e.tries.getD i 0)) (fB m C e.object i) id)∈d.l):(id:Int)∈pv m ds e.object i:=by
 have h:=Lf S.may (S.cells k d b) g (mI (S.Ix c a hid) (jn _ _ _)) (S.counts c a hid);unfold pv io;refine qu.2 ⟨((id:Int),(kw m e.object i (cJ e.object i (e.tries.getD i 0)) (fB m C e.object i) id).data),zo.2 ⟨k,f,?_⟩,rfl⟩;unfold tK;rw[b];exact qu.2 ⟨_,qI.2 ⟨h,by simp[kw]⟩,rfl⟩
theorem acv{p:Pm}(a:bJ p=true){i:Int}(h:i∈eI p):∃id:Nat,i=id/\(id:Int)<p.1:=by
 have:=(bK p).1 a;unfold eI upto at h;obtain⟨id,hid,rfl⟩:=qu.1 h;have:=qF.1 hid;exact⟨id,rfl,by omega⟩
theorem Full.can(F:Full m C ds)(S:fo m C ds)(f:m.drives≠[]){e:Wl.bY}(g:e∈m.objs):Vd m ds e=true:=by
 unfold Vd;rw[qz];constructor
 ·unfold sC;rw[F.bg];obtain⟨k,c⟩:=vf _ f;obtain⟨d,l,_,h3⟩:=F.live k c;exact wm.2 ⟨k,c,by unfold NI;rw[l];exact h3⟩
 ·refine qM.2 fun i b=>?_;have b:=qF.1 b;obtain⟨K,H,w,n,B⟩:=S.fp g b;refine acu B.may (ids:=eI m.p) (fun j q=>?_) B.full;obtain⟨id,rfl,hid⟩:=acv S.Cx q;have r:=((dD m).1 ((bS m).1 S.may).1).2.2.2;have a:id<(m.p.1+m.extra).toNat:=by omega
  obtain⟨k,c,d,h,o⟩:=F.all e g i b id a;exact S.ahR g b (S.Lg a) (by rw[F.bg];exact c) h o
theorem tR(m:aE)(d:bC)(N:Int):(dw m d N).lost=d.lost/\(dw m d N).room=d.room:=by
 unfold dw;split<;>exact⟨rfl,rfl⟩
theorem lW{t:List Int}{b:List UInt8}{n:aE}{k:Int}{d:bC}(a:k∈bg ds m.drives):
  (kH m ds t b n k d).lost=d.lost/\(kH m ds t b n k d).room=d.room/\∃N,(kH m ds t b n k d).l=(dw m d N).l++((gi m m.next t (bm m.p b) (bg ds m.drives) k (bm m.p b).length).map dN++be n):=by
 unfold kH;rw[if_pos a];refine⟨by rw[(nf _ _).1,(tR _ _ _).1],by rw[(nf _ _).2,(tR _ _ _).2],_,Ar _ _⟩
theorem QK{n:aE}(b:bP n=true){l1 l2:List (List UInt8)}(h:∀c∈be n,c∈l2):ne n (l1++l2)=true:=by
 unfold ne;rw[b,zU];exact qM.2 fun c a=>decide_eq_true (wN _ (h c a))
theorem Full.put(F:Full m C ds)(S:fo m C ds){name:ByteArray}{b:List UInt8}{t:List Int}{l:aW}(O:cB m (eF w offs) ds name b.length=0)(I:cz m.p m.next (bm m.p b).length=some t)
  (L:fo (cM m ⟨name,m.next,b.length,t⟩) (iK C m.next b) l) (f:∀k,bG l k=(bG ds k).map (kH m ds t b (cM m ⟨name,m.next,b.length,t⟩) k)):Full (cM m ⟨name,m.next,b.length,t⟩) (iK C m.next b) l:=by
 have a:=F.bg;obtain⟨Q,T,z3,z4,z5⟩:=jC O;have v:m.drives≠[]:=by rw[<-a];exact fun h=>z5 (.inl h)
 have u:m.next<=16777215:=by have:¬16777215<m.next:=fun h=>z5 (.inr (.inl h));omega
 refine⟨fun k g=>?_,fun e q i s id hid=>?_⟩
 ·have g:k∈m.drives:=g;obtain⟨d,x,G,h3⟩:=F.live k g;obtain⟨D,H,N,r⟩:=lW (m:=m) (t:=t) (b:=b) (n:=cM m ⟨name,m.next,b.length,t⟩) (d:=d) (show k∈Wl.bg ds m.drives by rw[a];exact g);refine⟨_,by rw[f,x,qN],by rw[D];exact G,?_⟩;rw[r];exact QK L.may fun c y=>wN _ y
 ·have hid:id<(m.p.1+m.extra).toNat:=hid;rcases jD.1 q with q|rfl
  ·have J:=S.old q;obtain⟨k,g,d,E,y⟩:=F.all e q i s id hid;obtain⟨D,H,N,r⟩:=lW (m:=m) (t:=t) (b:=b) (n:=cM m ⟨name,m.next,b.length,t⟩) (d:=d) (show k∈Wl.bg ds m.drives by rw[a];exact g);refine⟨k,g,_,by rw[f,E,qN],?_⟩;rw[r];have z:fB (cM m ⟨name,m.next,b.length,t⟩) (iK C m.next b) e.object i=fB m C e.object i:=ER rfl (by unfold iK;rw[if_neg (by omega)]);rw[z];exact yE _ (Vb S.may (S.cells k d E) y (mI (S.Ix q s (S.Lg hid)) (jn _ _ _)) (S.counts q s (S.Lg hid)))
  ·have s:i<t.length:=s;have P:=im I;have h8:=xq S.Cx (fun h=>z4 (.inl h));have A:=((dD m).1 ((bS m).1 S.may).1).2.1.1;have M:(0:Int)<=(i:Int)/\(i:Int)<8:=⟨by omega,by omega⟩
   have K:=ZP (o:=m.next) (b:=(i:Int)) (live:=m.drives) ⟨A,u⟩ M (uG S.may) (ko S.may);obtain⟨R,B⟩:=K;have one:gh m.next i m.drives≠[]:=fun h=>by rw[h]at B;exact v (List.nil_perm.1 B)
   have j:rp (gh m.next i m.drives) id∈m.drives:=by
    rw[ahp one];exact B.mem_iff.1 (qg _)
   obtain⟨d,x,G,h3⟩:=F.live _ j;obtain⟨D,H,N,r⟩:=lW (m:=m) (t:=t) (b:=b) (n:=cM m ⟨name,m.next,b.length,t⟩) (d:=d) (show rp (gh m.next i m.drives) id∈Wl.bg ds m.drives by rw[a];exact j);refine⟨_,j,_,by rw[f,x,qN],?_⟩;rw[r];refine wN _ (yE _ (qu.2 ⟨_,?_,rfl⟩));have z:fB (cM m ⟨name,m.next,b.length,t⟩) (iK C m.next b) m.next i=(bm m.p b).getD i []:=by
    unfold fB iK;rw[if_pos rfl,qo];rfl
   show kw m m.next i (cJ m.next i (t.getD i 0)) (fB (cM m ⟨name,m.next,b.length,t⟩) (iK C m.next b) m.next i) id∈_;rw[z,a];unfold gi;refine zo.2 ⟨i,qF.2 (by omega),?_⟩;unfold pq;exact qu.2 ⟨id,qI.2 ⟨qF.2 hid,decide_eq_true rfl⟩,rfl⟩
theorem Full.Iy(F:Full m C ds)(S:fo m C ds){n:aE}{l:aW}(z:bP n=true)(r:n.p=m.p)(y:n.extra=m.extra)(f:n.drives=m.drives)(j:∀x∈n.objs,x∈m.objs)
  (a:∀k,bG l k=(bG ds k).map fun d=>if k∈Wl.bg ds n.drives then dG (be n) (dw m d (be n).length)else d):Full n C l:=by
 have g:=F.bg;rw[f,g]at a;refine⟨fun k h=>?_,fun e w i o id hid=>?_⟩
 ·rw[f]at h;obtain⟨d,v,u,h3⟩:=F.live k h;refine⟨_,by rw[a,v,qN,if_pos h],by rw[(nf _ _).1,(tR _ _ _).1];exact u,?_⟩;rw[Ar];exact QK z fun c q=>q
 ·rw[r,y]at hid;have b:=j e w;obtain⟨k,h,d,s,q⟩:=F.all e b i o id hid;refine⟨k,by rw[f];exact h,_,by rw[a,s,qN,if_pos h],?_⟩;have t:kw n e.object i (cJ e.object i (e.tries.getD i 0)) (fB n C e.object i) id=kw m e.object i (cJ e.object i (e.tries.getD i 0)) (fB m C e.object i) id:=by
   unfold kw;rw[ER r rfl,r]
  rw[Ar,t];exact yE _ (Vb S.may (S.cells k d s) q (mI (S.Ix b o (S.Lg hid)) (jn _ _ _)) (S.counts b o (S.Lg hid)))
end
section
variable {m:aE} {C:Int->List UInt8} {ds:aW} {offs:Int} {w:Pow}
theorem ES{d:bC}{N:Int}{c:List UInt8}(h:c∈(dw m d N).l):c∈d.l∨c∈be m:=by
 unfold dw at h;split at h
 ·exact .inl h
 ·rcases qB.1 h with h|h
  ·exact .inr h
  ·obtain⟨r,a,rfl⟩:=qu.1 h;exact .inl (lj a).1
theorem DH.put(L:DH m ds)(S:fo m C ds){name:ByteArray}{b:List UInt8}{t:List Int}{o:aW}(J:cB m (eF w offs) ds name b.length=0)(D:cz m.p m.next (bm m.p b).length=some t)
  (s:∀k,bG o k=(bG ds k).map (kH m ds t b (cM m ⟨name,m.next,b.length,t⟩) k)):DH (cM m ⟨name,m.next,b.length,t⟩) o:=by
 obtain⟨K,O,z3,z4,z5⟩:=jC J;have q:m.next<=16777215:=by have:¬16777215<m.next:=fun h=>z5 (.inr (.inl h));omega
 have I:=((dD m).1 ((bS m).1 S.may).1)
 have h8:=xq S.Cx (fun h=>z4 (.inl h));have j:∀k f,bG ds k=some f->∀c∈f.l,∀r,dm c=some r->cX (cM m ⟨name,m.next,b.length,t⟩) r=true->r.id<m.p.1+m.extra:=fun k f h0 c g r a e=>by
  have H:=(S.cells k f h0 c g).old r a;obtain⟨F,G,x,v,c3,A⟩:=fj.1 e;rcases jD.1 v with v|rfl
  ·exact L k f h0 c g r a (fj.2 ⟨F,G,x,v,c3,A⟩)
  ·have:m.next=r.object:=c3;omega
 intro k d E c g r a e;show r.id<m.p.1+m.extra;obtain⟨f,h0,rfl⟩:=nh s E;by_cases y:k∈bg ds m.drives
 ·obtain⟨_,_,N,z⟩:=lW (m:=m) (t:=t) (b:=b) (n:=cM m ⟨name,m.next,b.length,t⟩) (d:=f) y;rw[z]at g;rcases qB.1 g with h|h
  ·rcases ES h with h|h
   ·exact j k f h0 c h r a e
   ·rw[fN h]at a;cases a
  ·rcases qB.1 h with h|h
   ·obtain⟨M,u,rfl⟩:=qu.1 h;obtain⟨i,id,rfl,B,hid⟩:=Nw u;rw[mI (Je S.may q h8 D B hid) (jn _ _ _)]at a;injection a with a
    subst a;show(id:Int)<_;omega
   ·rw[fN h]at a;cases a
 ·unfold kH at g;rw[if_neg y]at g;exact j k f h0 c g r a e
theorem DH.Iy(L:DH m ds){n:aE}{g:aW}(o:n.p=m.p)(t:n.extra=m.extra)(b:∀x∈n.objs,x∈m.objs)
  (j:∀k,bG g k=(bG ds k).map fun d=>if k∈Wl.bg ds n.drives then dG (be n) (dw m d (be n).length)else d):DH n g:=by
 intro k d s c i r a l;rw[o,t];have e:=uZ o b l;obtain⟨q,h0,rfl⟩:=nh (f:=fun k d=>if k∈Wl.bg ds n.drives then dG (be n) (dw m d (be n).length)else d) j s;split at i
 ·rw[Ar]at i;rcases qB.1 i with h|h
  ·rcases ES h with h|h
   ·exact L k q h0 c h r a e
   ·rw[fN h]at a;cases a
  ·rw[fN h]at a;cases a
 ·exact L k q h0 c i r a e
theorem DH.cA(L:DH m ds){k:Int}{d:bC}(c:bG ds k=some d):∀r∈fQ m d.l,r.id<m.p.1+m.extra:=fun r e=>by
 obtain⟨b,a,f⟩:=lj e;exact L k d c _ b r a f
theorem DH.fits(L:DH m ds)(S:fo m C ds){live:List Int}{N:Int->Int}{R:Nat}{c n:Nat}(g:∀e∈m.objs,e.tries.length<=c)(j:m.objs.length<=n)(a:∀k∈live,∃d,bG ds k=some d/\d.lost=false/\d.room=R/\((9+n*(c*(m.p.1+m.extra).toNat):Nat):Int)+max (N k) 0<=R):
  cY m ds live N=true:=by
 unfold cY;refine qM.2 fun k f=>?_;obtain⟨d,b,i,h,r⟩:=a k f;unfold mZ;rw[b];show nB m d (N k)=true;have q:=ZR (m:=m) (L.cA b) g j;have o:=NA S.may;unfold nB;rw[i];have:gg d (ja m d.l).length (N k)=true:=by
  unfold gg ja ro;rw[qw,qx];exact decide_eq_true (by rw[h];omega)
 rw[this,Bool.or_true];rfl
theorem acw{t:List Int}{b:List UInt8}{live:List Int}{k:Int}{nb:Nat}:(ky (db m m.next t (bm m.p b) live nb) k).length<=nb*(m.p.1+m.extra).toNat:=by
 rw[UN,qx];exact WG m m.next t (bm m.p b) live k nb
theorem agi{t:List Int}{b:List UInt8}{live:List Int}{n:aE}(d:bP n=true)(k:Int){nb c:Nat}(a:nb<=c):0<=jb (be n).length (db m m.next t (bm m.p b) live nb) k/\jb (be n).length (db m m.next t (bm m.p b) live nb) k<=((9+c*(m.p.1+m.extra).toNat:Nat):Int):=by
 have f:=acw (m:=m) (t:=t) (b:=b) (live:=live) (k:=k) (nb:=nb);have e:=NA d;have h3:=zr (m.p.1+m.extra).toNat a;rw[Iq];omega
end
end Go.Proofs.YtdhamoojccmbdaaGreatDoor
namespace Go.Vc
open Go Wl
section
variable {k:JU} {B:aA} {h0 h:Heap} {As:List HP} {a pw b:Addr} {mc:List Value} {offs:Int} {da:List (Option Addr)} {w:Pow} {ds:aW} {d:bC} {n:Nat}
end
end Go.Vc
