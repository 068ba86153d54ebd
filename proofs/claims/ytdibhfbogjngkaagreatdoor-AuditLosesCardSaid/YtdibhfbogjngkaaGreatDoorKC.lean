/- Lemmas for the proof of the law; no condition. -/
import Derived.Test.YtdibhfbogjngkaaGreatDoorKB
set_option linter.unusedVariables false
set_option maxHeartbeats 4000000
set_option linter.unusedSimpArgs false
open Go.Proofs.Tryz renaming prog -> xR
open List renaming all_append -> yU, all_eq_false -> yA, all_eq_true -> qL, any_append -> yV, any_eq_true -> zV, append_assoc -> qp, append_nil -> qN, cons_append -> zt, drop -> xF, drop_drop -> zE, drop_eq_getElem_cons -> qV, drop_of_length_le -> zf, eq_replicate_iff -> xd, ext_getElem -> wx, filter_append -> zk, filter_cons -> zp, filter_eq_self -> zT, find?_eq_none -> wT, findIdx_lt_length -> w4, flatMap_append -> zg, flatMap_cons -> zl, foldl_append -> zN, foldl_cons -> zy, getD_eq_getElem?_getD -> qe, getElem?_append_left -> qm, getElem?_append_right -> qj, getElem?_cons_succ -> qu, getElem?_drop -> wC, getElem?_eq_getElem -> qd, getElem?_eq_some_iff -> qo, getElem?_map -> qR, getElem?_replicate -> wv, getElem?_set -> qY, getElem?_set_ne -> zG, getElem?_set_self -> zm, getElem?_zip_eq_some -> vA, getElem_append_left -> yb, getElem_append_right -> wc, getElem_drop -> wA, getElem_map -> wy, getElem_mem -> qg, getElem_of_mem -> qH, getElem_set_self -> yR, getElem_take -> yq, getElem_zip -> vh, length_append -> qx, length_cons -> zo, length_drop -> za, length_eq_zero_iff -> vN, length_filter_le -> qP, length_map -> qy, length_range -> zA, length_take -> qU, map_append -> qT, map_cons -> wz, map_map -> yd, map_nil -> vY, mem_append -> qz, mem_append_left -> wg, mem_append_right -> wM, mem_cons -> zd, mem_cons_of_mem -> qS, mem_cons_self -> zb, mem_filter -> qI, mem_flatMap -> zJ, mem_iff_getElem? -> yQ, mem_map -> qw, mem_of_mem_take -> zD, mem_range -> qG, mem_replicate -> ye, mem_singleton -> qC, pairwise_iff_getElem -> zw, range -> qE, range_succ -> zO, replicate -> qh, replicate_zero -> vd, set_append_right -> q7, set_cons_succ -> zx, set_cons_zero -> zq, set_set -> yG, take_append_drop -> qA, take_length -> q8, take_of_length_le -> qi, zipWith -> zh
open Option renaming map_some -> qQ, some -> zS
open Go.Value renaming agg -> xM, bool -> xL, int -> xH, pointer -> xJ, slice -> xI, string -> xK
open Go.IntKind renaming bits -> qk, i64 -> xN, u32 -> xP, u8 -> xO, wrap -> qc
open Nat renaming le_of_ble_eq_true -> zL, le_refl -> qn, le_trans -> zi, lt_of_lt_of_le -> qM, lt_succ_iff_lt_or_eq -> zn, lt_trichotomy -> yo, sub_self -> zc, succ_mul -> zK
open UInt8 renaming toNat_inj -> wY
open Bool renaming and_eq_false_iff -> vn, and_eq_true -> qB, eq_iff_iff -> vm, false_eq_true -> ze, true_and -> zU
open Go.Instr renaming makeSlice -> qF, storeAt -> qf
open BitVec renaming ofInt -> qD
open Int renaming natCast_nonneg -> zY, ofNat_le -> y6, toNat_natCast -> ql
open Prod renaming ext -> y5, fst -> qJ, snd -> zH
set_option maxRecDepth 100000
open Option renaming some -> dB, none -> eH
open Bool renaming true -> eL, false -> eR
open Go renaming Addr -> fz
open Go.Vc renaming cellOf -> f7, Heap -> f8
open List renaming length -> ii
namespace Go.Qw
open Go Go.Vc Go.Proofs Wl
theorem Uv{m:aI}{offs:Int}{w:Pow}{ds:aW}{n:aI}(q:w.calm)(j:ii ds=64)(G:di w offs=eR)(s:bO n=eL)(D:n.seq=m.seq+1):
  let live:=aN ds n.drives;let N:Int->Int:=λ_=>(ii (bo n):Int)
  (live=[]∨dt m ds live N=eR->cM m offs w ds n=(7,m,w,ds))/\(live≠[]->dt m ds live N=eL->∃b,cM m offs w ds n=(0,n,w,b)/\b.length=64/\
   ∀k,bC b k=(bC ds k).map λd=>if k∈live then ee (bo n) (dU m d (bo n).length)else d):=by
 intro live N;have a:live.Nodup:=ni (nt s);have e:cM m offs w ds n=(if live=[]∨dt m ds live N=eR then(7,m,w,ds)else
   if(makes m N live w ds).1≠0 then((makes m N live w ds).1,m,(makes m N live w ds).2)else
   ((layAll (bH n live) (makes m N live w ds).2.1 (makes m N live w ds).2.2).1,if(layAll (bH n live) (makes m N live w ds).2.1 (makes m N live w ds).2.2).1=0 then n else m,(layAll (bH n live) (makes m N live w ds).2.1 (makes m N live w ds).2.2).2)):=by
  unfold cM;rw[g0 (by rw[G];decide),g0 (by rw[s,hU (by simpa using D)];decide)]
 refine⟨λh=>by rw[e,f9 h],λi l=>?_⟩;rw[e,g0 (by rintro(h|h);exact i h;rw[l]at h;cases h)];obtain⟨B,I,t,r⟩:=EU q (N:=N) a j l;rw[I];dsimp only;rw[g0 i9];obtain⟨H,y,z,F⟩:=Nw q (ds:=B) (P:=bH n live) t λx v=>by
  obtain⟨c,g⟩:=kJ v;obtain⟨E,o,p⟩:=CI (qL.1 l x.1 c);obtain⟨A,u,J⟩:=Nv p;refine⟨g,dU m E (N x.1),?_,A,?_⟩
  ·rw[r,o,qQ,f9 c]
  ·rw[py a,f9 c,u];have:N x.1=(ii (bo n):Int):=rfl;omega
 rw[y];refine⟨H,i0,z,λk=>?_⟩;rw[F,r,Option.map_map];congr 1;funext d;show ee (lB (bH n live) k) (if k∈live then dU m d (N k)else d)=_;rw[py a];by_cases f:k∈live
 ·rw[f9 f,f9 f,f9 f]
 ·rw[g0 f,g0 f,g0 f];rfl
end Go.Qw
namespace Wl
open Go
structure Pg where
 seq:Int
 num:Int
 many:Int
 bears:bc
 cell:bc
def ahS(x c:bc):Pg:=⟨dh (x.take 4),((x.getD 4 0).toNat:Int),((x.getD 5 0).toNat:Int),(x.drop 7).take (x.getD 6 0).toNat,c⟩
def tQ(c:bc):Option Pg:=
 match fh c with
 |some (k,x)=>if k=2/\(x.getD 6 0).toNat<=48/\(x.drop (7+(x.getD 6 0).toNat)).all (λb=>decide (b=0))=eL then dB (ahS x c)else eH
 |none=>eH
theorem YR{seq c a:Int}{b:bc}(i:0<=seq/\seq<4294967296)(q:0<=c/\c<256)(h3:0<=a/\a<256)(r:ii b<=48):tQ (jW seq c a b)=dB ⟨seq,c,a,b,jW seq c a b⟩:=by
 have j:ii (bY seq 4++([b8 c,b8 a,b8 b.length]++b))=7+ii b:=l9
 obtain⟨x,e⟩:∃x,x=bY seq 4++([b8 c,b8 a,b8 b.length]++b)++qh (55-ii (bY seq 4++([b8 c,b8 a,b8 b.length]++b))) 0:=⟨_,rfl⟩
 have o:fh (jW seq c a b)=dB (2,x):=by unfold jW;rw[Bx,e]
 have d:=LL seq;have f:x.getD 6 0=b8 b.length:=by rw[e,d];rfl
 have p:x.getD 5 0=b8 a:=by rw[e,d];rfl
 have k:x.getD 4 0=b8 c:=by rw[e,d];rfl
 have n:x.take 4=bY seq 4:=by rw[e,d];rfl
 have h:x.drop 7=b++qh (55-(7+ii b)) 0:=by rw[e,j,d];rfl
 have g:((b8 (ii b:Int)).toNat)=ii b:=by have:=pG (ii b:Int);omega
 unfold tQ;rw[o];dsimp only;have m:(b8 (ii b:Int)).toNat<=48:=i4
 rw[f9 ⟨i0,by rw[f];exact m,by
  rw[f,g,<-zE,h,List.drop_left];exact qL.2 λy l=>g9 (List.eq_of_mem_replicate l)⟩]
 unfold ahS;rw[n,k,p,f,h,PD i.1 i.2,g,List.take_left];have:=pG c;have:=pG a;congr 2<;>omega
def pgN(m:aI)(i:Nat):Pg:=⟨m.seq,i,ij (gz m),((gz m).drop (48*i)).take 48,jW m.seq i (ij (gz m)) (((gz m).drop (48*i)).take 48)⟩
theorem Qv(m:aI):bo m=(qE (ij (gz m))).map λi=>(pgN m i).cell:=rfl
theorem agj{m:aI}(a:bO m=eL):ij (gz m)<=9:=by
 have:=Go.Qw.ahQ a;unfold bo at this
 rwa [qy,zA]at this
theorem YS{m:aI}(a:bO m=eL){i:Nat}(b:i<ij (gz m)):tQ (pgN m i).cell=dB (pgN m i):=by have d:=agj a;have c:=((dE m).1 ((bU m).1 a).1).1;exact YR ⟨i4,i4⟩ ⟨i4,i4⟩ ⟨i4,i4⟩ i7
end Wl
namespace Go.Qw
open Go Go.Vc Go.Proofs Wl
theorem Pj(s:Sl)(l:Row)(c:UInt8)(h:f8)(p:Rd h s 1 aE l)(w:s.len<=s.cap)(u:ii l<=2^30):
  ac xR 274 #[s,xH xO c.toNat] h λv h'=>∃k:Nat,v=xI s.ptr k s.cap/\k<=ii l/\(∀j (f:j<ii l),k<=j->l[j]=c)/\(∀(d:k-1<ii l),0<k->l[k-1]≠c)/\h'=h:=by
 refine Bi s _ ?_;unfold pm;have i:=p.len;refine bg ?_;refine av (λk:Nat=>(⟨s.ptr,k,s.cap⟩:Sl)) (λk h'=>h'=h/\k<=ii l/\∀j (f:j<ii l),k<=j->l[j]=c) (λk=>k) l.length (by rw[<-i]) ⟨i0,qn _,λj f d=>i4⟩ ?_;rintro k y ⟨rfl,d,b⟩;dsimp only;refine bg (aj (λe=>?_) λe=>?_)
 ·have t:0<k:=i4
  rw[ak _];refine(p.take k d).bB (g:=λx:UInt8=>Value.int .u8 x.toNat) (k-1) i4 i7 (l[k-1]'(by omega)) (by simp[aE]) ?_|>λ⟨a,ha,x,hx,hK⟩=>⟨a,ha,x.toNat,hx,hK⟩
  refine cu (λm=>?_) (λm=>?_)
  ·have n:l[k-1]'(by omega)=c:=by
    have:(l[k-1]'(by omega)).toNat=c.toNat:=by exact_mod_cast m
    exact wY.1 this
   refine⟨⟨i4,i4⟩,k-1,by congr 1;omega,⟨i0,i4,λj f r=>?_⟩,i4⟩;by_cases o:j=k-1
   ·subst o;exact n
   ·exact b j f i4
  ·refine⟨k,i0,d,b,λ_ _ q=>m sp,i0⟩
 ·exact⟨k,i0,d,b,λ_ h0=>i4,i0⟩
theorem Ru(s:Sl)(l:Row)(c:UInt8)(h:f8)(p:Rd h s 1 aE l)(w:s.len<=s.cap)(D:ii l<=2^30):
  ac xR 273 #[s,xH xO c.toNat] h λv h'=>(∃r:Sl,v=r/\(r.len=0↔∀x∈l,x=c))/\h'=h:=by
 refine Cy s _ ?_;unfold rg;have u:=p.len;refine cE (λr h'=>h'=h/\(r.len=0↔∀x∈l,x=c)) ?_ ?_
 ·refine av (λt:Sl×Nat=>t.1) (λt h'=>h'=h/\t.2<=ii l/\(∀j (d:j<ii l),j<t.2->l[j]=c)/\Rd h t.1 1 aE (l.drop t.2)/\t.1.len<=t.1.cap) (λt=>ii l-t.2) (s,0) i0 ⟨i0,i9,λj _ d=>i4,p8,w⟩ ?_;rintro⟨r,k⟩ A ⟨rfl,E,a,b,o⟩;dsimp only at*;have g:=b.len;rw[za]at g;refine bg (aj (λe=>?_) λe=>?_)
  ·have i:k<ii l:=i4
   refine b.bB 0 i0 l5 _ i0 ?_;have B:(l.drop k)[0]'(by rw[za];omega)=l[k]:=i9
   rw[B];refine cu (λm=>?_) (λm=>?_)
   ·have n:l[k]=c:=by
     have:(l[k]).toNat=c.toNat:=by exact_mod_cast m
     exact wY.1 this
    refine⟨⟨i4,i4⟩,(⟨if r.cap=1 then r.ptr else r.ptr.map (·.add (1*1)),r.len-1,r.cap-1⟩,k+1),i0,⟨i0,i4,λj d f=>?_,?_,i6⟩,i6⟩
    ·rcases zn.1 f with h2|rfl
     ·exact a j d h2
     ·exact n
    ·have:=b.drop 1 o;rw[zE]at this;exact this
   ·refine⟨i0,⟨λh0=>i4,λy=>absurd ?_ m⟩⟩;rw[y _ (qg i)]
  ·have z:k=ii l:=i4
   refine⟨i0,⟨λ_ x q=>?_,λ_=>by show r.len=0;omega⟩⟩;obtain⟨j,d,rfl⟩:=qH q;exact a j d i4
 ·rintro r A ⟨rfl,b⟩;refine cu (λe=>?_) (λe=>?_)
  ·exact⟨⟨⟨eH,0,0⟩,i0,by rw[<-b];exact⟨λ_=>i4,λ_=>rfl⟩⟩,i0⟩
  ·exact⟨⟨r,i0,b⟩,i0⟩
theorem Qx(s:Sl)(l:Row)(cut:ByteArray)(a:cut=⟨#[0]⟩)(h:f8)(d:Rd h s 1 aE l)(o:s.len<=s.cap)(m:ii l<=2^30):
  ac xR 221 #[s,xK cut] h λv h'=>(∃r:Sl,v=r/\(r.len=0↔∀x∈l,x=0))/\h'=h:=by
 subst a;refine OP s _ ?_;unfold HI;have n:=d.len;refine cu (λe=>?_) (λe=>?_)
 ·refine⟨⟨⟨eH,0,0⟩,i0,⟨λ_ x b=>?_,λ_=>rfl⟩⟩,i0⟩;have:l=[]:=List.eq_nil_of_length_eq_zero i4;subst this;cases b
 ·refine wn j4 (bg (Gr j4 ?_));refine⟨0,⟨i5,i0⟩,Gr i5 ?_⟩;refine⟨0,⟨i5,i0⟩,0,⟨i5,i0⟩,?_⟩;refine(Pj s l 0 h d o m).mono ?_;rintro v q ⟨k,rfl,t,f,h3,rfl⟩;refine⟨⟨s.ptr,k,s.cap⟩,i0,trivial,?_⟩;refine(Ru ⟨s.ptr,k,s.cap⟩ (l.take k) 0 q (d.take k t) (by show k<=s.cap;omega) i7).mono ?_;rintro v u ⟨⟨r,rfl,p⟩,rfl⟩;refine⟨r,i0,trivial,⟨r,i0,p.trans ⟨λc x b=>?_,λc x b=>c x (zD b)⟩⟩,i0⟩;obtain⟨j,i,rfl⟩:=qH b;by_cases g:j<k
  ·exact c _ (by rw[List.mem_take_iff_getElem];exact⟨j,i4,i0⟩)
  ·exact f j i i4
def qv(x:Sl×Sl):be:=[x.1,x.2]
theorem aby:∀x,∀c∈qv x,c.oneCell'=eL:=λx c a=>by
 simp only[qv,zd,List.not_mem_nil,or_false]at a;rcases a with rfl|rfl<;>rfl
def ji:iM (Sl×Sl) fe:=⟨λh q a e=>Seq h q a.1 1 aC e.1/\Seq h q a.2 1 aE e.2,λa c=>⟨a.1.ai c,a.2.ai c⟩,λa b=>⟨a.1.mono b,a.2.mono b⟩⟩
abbrev rv:iM Sl (List fe):=bE ji 2 qv
abbrev aiw:iM Sl aQ:=bE (ua 1 aE) 1 bt
abbrev eQ:bL C.toCM 273 275 2 [xI eH 0 0,xI eH 0 0] 48:=⟨_,_,i0,i0,i0,i0,i0,i0⟩
abbrev abz:bL C.toCM 85 34 1 [xI eH 0 0] 24:=⟨_,_,i0,i0,i0,i0,i0,i0⟩
abbrev afh:bL C.toCM 282 4 1 [xL eR] 1:=⟨_,_,i0,i0,i0,i0,i0,i0⟩
theorem rv.get{h:f8}{q:aB}{s:Sl}{L:List fe}(x:rv.p h q s L){i:Int}(n:Nat)(b:i=n)(d:n<ii L){K:Sl×Sl->Prop}(e:∀r,ji.p h q r L[n]->K r):
  ∃a:fz,(s.ptr=dB a/\0<=i/\i<((s.len:Nat):Int))/\∃x:Sl×Sl,an h (a.add (i.toNat*2)) 0 [x.1,x.2]/\K x:=by
 obtain⟨rs,c,f,h3⟩:=bE.kO x;exact c.dQ (g:=qv) n b i4 (rs[n]'(by omega)) i0 (e _ (h3 n i4 d))
structure AS (h:f8) (p:fz) (l k v:Sl) (L:List fe) (kn:List Bool) (vs:aQ):Prop where
 box:cA h p 326 [l,k,v]
 eqs:dX rv h l L
 known:Rd h k 1 eN kn
 vals:dX aiw h v vs
theorem AS.up{h h':f8}{p:fz}{l k v:Sl}{L:List fe}{kn:List Bool}{vs:aQ}(x:AS h p l k v L kn vs)(a:aV (λb=>b<h.size) h h'):AS h' p l k v L kn vs:=
 ⟨x.box.ai a x.box.lt,dX.up x.eqs a,Seq.up x.known a,dX.up x.vals a⟩
theorem Uw{kn:List Bool}{c:Int}(b:0<=c)(a:c.toNat<ii kn):Wl.kn kn c=kn[c.toNat]:=by unfold Wl.kn;rw[qe,qd a];rfl
theorem mz{m:aQ}{i:Nat}(h:i<ii m):aD m i=m[i]:=bA h
theorem jw{α:Type}(f:α->Bool)(l:List α){k:Nat}(a:k<ii l):(l.take (k+1)).filter f=(l.take k).filter f++if f l[k]then[l[k]]else[]:=by rw[aK _ _ a,zk,zp];cases f l[k]<;>rfl
theorem tR(V:aQ)(a:Row)(l:aF)(c:Int):cO V a (l++[c])=cR 1 (aD V c.toNat) (cO V a l):=by unfold cO;rw[zN];rfl
theorem Xm(a t:Row):cR 1 a t=zh (λx y=>y^^^x) a t:=by unfold cR;congr 1;funext x y;rw[Gf.one_mul]
theorem Ip{a t:Row}(c:ii a=ii t){k:Nat}(b:k<ii t:=by omega):(zh (λx y=>y^^^x) (a.take k) (t.take k)++t.drop k).set k (t[k]^^^(a[k]'(by omega)))=zh (λx y=>y^^^x) (a.take (k+1)) (t.take (k+1))++t.drop (k+1):=by
 have d:ii (zh (λx y=>y^^^x) (a.take k) (t.take k))=k:=i7
 rw[q7 _ _ i4,d,zc,qV b,zq,aK _ _ b,aK _ _ (show k<ii a by omega),List.zipWith_append i7];simp
theorem Ux(p:fz)(l k v:Sl)(L:List fe)(kn:List Bool)(vs:aQ)(n:Nat)(h:f8)(t:AS h p l k v L kn vs)(O:ii kn=n)(I:∀e∈L,∀c∈e.1,0<=c/\c<(n:Int))(T:ii L<=2^30)(A:∀e∈L,ii e.1<=2^30):
  ac xR 306 #[xJ (dB p)] h λv h'=>(∃i:Int,v=xH xN i/\(0<=i->∃(M:i.toNat<ii L),ii ((L[i.toNat]).1.filter λc=>!Wl.kn kn c)=1))/\Sp h h' []:=by
 refine EJ (dB p) ?_;unfold tC;have H:=bE.len t.eqs;refine⟨p,i0,l,t.box.cell0 i0,?_⟩;refine av (λi:Nat=>(i:Int)) (λi h'=>i<=ii L/\Sp h h' []) (λi=>ii L-i) 0 i0 ⟨i4,Sp.refl h⟩ ?_;rintro i J ⟨M,y⟩;refine aj (λe=>?_) λe=>⟨⟨-1,i0,λV=>i4⟩,y⟩;have g:i<ii L:=i4
 refine rv.get (dX.up t.eqs y.ai) i i0 g λx G=>?_;refine(Sp.refl J).alloc af i0 λa R N=>?_;refine N.storeAll af 0 i0 i0 (qv x) i0 i0 i0 i0 λh3 u=>?_;have w:=up y.ai u.ai;have o:=t.up w;have s:=ji.mono (ji.loc G u.ai) λb F=>qM F u.ai.1;have z:=u.box 0 i0;refine⟨x.1,z.cell0 i0,?_⟩;have P:=s.1.len;have E:=A _ (qg g);let d:Nat->Nat:=λj=>ii (((L[i]).1.take j).filter λc=>!Wl.kn kn c);refine av (λj:Nat=>(((d j:Nat):Int),(j:Int))) (λj h'=>h'=h3/\j<=(L[i]).1.length) (λj=>(L[i]).1.length-j) 0 pa ⟨i0,i4⟩ ?_;rintro j S ⟨rfl,U⟩;dsimp only;have Q:d j<=j:=zi (qP _ _) i7;refine aj (λK=>?_) (λK=>?_)
 ·have f:j<(L[i]).1.length:=i4
  have B:=I _ (qg g) _ (qg f);refine s.1.bB j i0 f _ i0 ?_;refine⟨p,i0,k,o.box.cell i0,?_⟩;refine o.known.bB (L[i]).1[j].toNat i4 i4 _ i0 ?_;rw[ak ((j:Int)+1),ak _];have q:=Uw (kn:=kn) B.1 i4;refine bm (λm=>?_) (λm=>?_)
  ·refine⟨j+1,?_,⟨i0,i4⟩,i4⟩;have:d (j+1)=d j+1:=by simp only[d];rw[jw _ _ f,q,m];simp
   rw[this];rfl
  ·refine⟨j+1,?_,⟨i0,i4⟩,i4⟩;have:d (j+1)=d j:=by simp only[d];rw[jw _ _ f,q,m];simp
   rw[this];rfl
 ·have D:j=(L[i]).1.length:=i4
  subst D;have r:d (L[i]).1.length=ii ((L[i]).1.filter λc=>!Wl.kn kn c):=by simp only[d];rw[q8]
  rw[r];refine cu (λm=>⟨⟨i,i0,λ_=>⟨i4,by exact_mod_cast m⟩⟩,.zip w⟩) λm=>?_;exact⟨i+1,js,⟨i4,.zip w⟩,i4⟩
theorem Qy(p:fz)(l k v:Sl)(L:List fe)(kn:List Bool)(vs:aQ)(n w:Nat)(x:Sl×Sl)(e:fe)(h:f8)(hP:AS h p l k v L kn vs)(N:jH n w L kn vs)(O:dX ji h x e)(I:iF n w e)(hw:w<=2^20)(ad:ii e.1<=2^20):
  ac xR 265 #[xJ (dB p),xM #[x.1,x.2]] h λr h'=>∃a b:Sl,r=xM #[a,b]/\Sp h h' [aq 3 a 1 aC (fi kn vs e).1,aq 5 b 1 aE (fi kn vs e).2]:=by
 refine EI (dB p) x ?_;unfold tz;refine(Sp.refl h).boxed λT h1 H1=>?_;refine H1.alloc af i0 λQ h2 P=>?_;have P2:=P.ai;refine⟨x.2,(P.box 0 i0).cell i0,(eI x.2 e.2 h2 (Seq.up O.2 P2) (by have:=I.len;omega)).mono ?_⟩;rintro vv h3 ⟨d,rfl,R3⟩;have H3:=P.comp R3;refine⟨d,i0,H3.alloc af i0 λa5 h4 H4=>?_⟩;refine H4.storeAll af 3 i0 i0 (qv (⟨eH,0,0⟩,d)) i0 i0 i0 i0 λh5 H5=>?_;have Y:Sp h h5 [aw T 275 (qv x),aw Q 275 [xI eH 0 0,xI eH 0 0],aq 5 d 1 aE e.2,aw a5 275 (qv (⟨eH,0,0⟩,d)),aq 3 ⟨eH,0,0⟩ 1 aC []]:=H5.nil 3 1 aC;refine⟨x.1,(Y.box 0 i0).cell0 i0,?_⟩;have ar:=O.1.len;have ao:=N.klen;have ap:=N.vlen;refine av (λt:Nat×Sl=>(t.1:Int)) (λt h'=>t.1<=ii e.1/\Sp h h' [aw T 275 (qv x),aw Q 275 [xI eH 0 0,xI eH 0 0],aq 5 d 1 aE (cO vs e.2 ((e.1.take t.1).filter λc=>Wl.kn kn c)),aw a5 275 (qv (t.2,d)),aq 3 t.2 1 aC ((e.1.take t.1).filter λc=>!Wl.kn kn c)]) (λt=>ii e.1-t.1) (0,⟨eH,0,0⟩) i0 ⟨i9,by simpa[cO]using Y⟩ ?_;rintro⟨j,o⟩ h7 ⟨hj,q⟩;dsimp only at*;have u:ii (cO vs e.2 ((e.1.take j).filter λc=>Wl.kn kn c))=w:=jG I.len λc hc=>by
  have F:=qI.1 hc;have E:=zD F.1;exact N.GQ (I.cS c E).1 (I.cS c E).2 F.2
 have ah:ii ((e.1.take j).filter λc=>!Wl.kn kn c)<=j:=zi (qP _ _) i7;refine aj (λe2=>?_) (λe2=>?_)
 ·have f:j<ii e.1:=i4
  have s:=I.cS _ (qg f);have z:=hP.up q.ai;refine(Seq.up O.1 q.ai).bB j i0 f _ i0 ?_;refine⟨p,i0,k,z.box.cell i0,?_⟩;refine z.known.bB (e.1[j]).toNat i4 i4 _ i0 ?_;have H:=Uw (kn:=kn) s.1 i4;refine bm (λB=>?_) (λB=>?_)
  ·rw[<-H]at B;refine⟨o,(q.box 3 i0).cell0 i0,?_⟩;refine q.push af 4 i0 lx i0 i5 (λ_=>rfl) ir e.1[j] i0 i5 i4 λo' h8 i=>?_;refine i.jB af 3 i0 i0 [o'] i0 i0 i0 (by simp[qv]) λh9 K=>?_;refine⟨(j+1,o'),jj,⟨i6,?_⟩,i6⟩;dsimp only;rw[jw _ _ f,jw _ _ f,B];simp only[Bool.not_false,if_true,ze,if_false,qN];exact K
  ·rw[<-H]at B;have G:=N.GQ s.1 s.2 B;rw[mz i4]at G;refine⟨p,i0,v,z.box.cell i0,?_⟩;obtain⟨vr,R,am,X⟩:=bE.kO hP.vals;have g:(e.1[j]).toNat<ii vs:=i4
   refine(Seq.up R q.ai).lM (e.1[j]).toNat i4 i4 ?_;have M:=(X (e.1[j]).toNat i4 g).1;have J:=M.len;generalize vr[(e.1[j]).toNat]'(by omega)=y at M J⊢;obtain⟨A,hA⟩:∃A,A=vs[(e.1[j]).toNat]'g:=⟨_,rfl⟩
   obtain⟨D,Z⟩:∃D,D=cO vs e.2 ((e.1.take j).filter λc=>Wl.kn kn c):=⟨_,rfl⟩
   rw[<-hA]at G M J;rw[<-Z]at q u;refine av (λm:Nat=>(m:Int)) (λm h'=>m<=w/\Sp h h' [aw T 275 (qv x),aw Q 275 [xI eH 0 0,xI eH 0 0],aq 5 d 1 aE (zh (λx y=>y^^^x) (A.take m) (D.take m)++D.drop m),aw a5 275 (qv (o,d)),aq 3 o 1 aC ((e.1.take j).filter λc=>!Wl.kn kn c)]) (λm=>w-m) 0 i0 ⟨i4,p9⟩ ?_;rintro m h8 ⟨hm,i⟩;have U:ii (zh (λx y=>y^^^x) (A.take m) (D.take m))=m:=i7
   refine aj (λe4=>?_) (λe4=>?_)
   ·have ab:m<w:=i4
    refine(Seq.up M i.ai).bB m i0 i4 _ i0 ?_;refine⟨d,(i.box 3 i0).cell i0,?_⟩;refine(i.seq 2 i0 λ_=>rfl).bB m i0 i7 _ i0 ?_;have W:((zh (λx y=>y^^^x) (A.take m) (D.take m)++D.drop m)[m]'(by simp;omega))=D[m]'(by omega):=by rw[wc i4];simp[U]
    rw[W,ne];refine i.set af 2 i0 (λ_=>rfl) i0 m i0 i7 (D[m]'(by omega)^^^A[m]'(by omega)) i0 i0 i0 λh9 K=>?_;rw[Ip i4]at K;exact⟨m+1,js,⟨i4,K⟩,i4⟩
   ·have S:m=w:=i4
    subst S;refine⟨(j+1,o),jj,⟨i6,?_⟩,i6⟩;dsimp only;rw[jw _ _ f,jw _ _ f,B];simp only[Bool.not_true,if_true,ze,if_false,qN];rw[tR,mz g,<-hA,<-Z,Xm];rw[qi i4,qi i4,zf i4,qN]at i;exact i
 ·have V:j=ii e.1:=i4
  subst V;rw[q8]at q;refine⟨(o,d),(q.box 3 i0).aS _ i0,?_⟩;refine q.storeAll af 1 i0 i0 (qv (o,d)) i0 i0 i0 i0 λh8 i=>?_;refine⟨(o,d),(i.box 1 i0).aS _ i0,o,d,i0,?_⟩;exact i.ck [4,2]
theorem aa.aiL{B:aB}{c h:f8}{As:List HP}{e k:Nat}{α:Type}{f:α->be}{s:Sl}{l:List α}(H:aa B c h As)(i:Nat)(m:As[i]?=dB (aq e s k f l))(d:∀x,ii (f x)=k)(g:l≠[]):aa B c h (As.set i (EA (ua k f) s l)):=
 H.fI i m λq ⟨a,b⟩=>⟨a.seq d b,λj=>absurd j g⟩
theorem count_set{l:List Bool}:∀{i:Nat} (h:i<ii l),l[i]=eR->((l.set i eL).count eR)+1=l.count eR:=by
 induction l with
 |nil=>intro i h;simp at h
 |cons a l ih=>
  intro i h b;cases i with
  |zero=>simp at b;subst b;simp
  |succ i=>
   have:=ih (i:=i) j5 k7;rw[zx,List.count_cons,List.count_cons];omega
theorem abA(p:fz)(l k v:Sl)(L:List fe)(n w:Nat)(s h:f8)(R:dX rv s l L)(D:∀e∈L,iF n w e)(hn:n<=64)(T:ii L<=2^20)(Q:1<=w/\w<=2^20)(A:∀e∈L,ii e.1<=2^20)
  (H:Sp s h [aw p 326 [l,k,v],aq 4 k 1 eN (qh n eR),bX 34 v 1 bt (ua 1 aE) (qh n [])]):
  ac xR 264 #[xJ (dB p)] h λr h'=>r=.tuple #[]/\∃kn vs,jH n w L kn vs/\Sp s h' [aw p 326 [l,k,v],aq 4 k 1 eN kn,bX 34 v 1 bt (ua 1 aE) vs]:=by
 refine Gd (dB p) ?_;unfold uA;refine av (λ_:List Bool×aQ=>()) (λt h'=>jH n w L t.1 t.2/\Sp s h' [aw p 326 [l,k,v],aq 4 k 1 eN t.1,bX 34 v 1 bt (ua 1 aE) t.2]) (λt=>t.1.count eR) (qh n eR,qh n []) i0 ⟨Yc n w L,H⟩ ?_;rintro⟨kn,vs⟩ M ⟨j,O⟩;dsimp only at*;have I:=j.klen;have U:=j.vlen;have mk:∀{o},Sp s o [aw p 326 [l,k,v],aq 4 k 1 eN kn,bX 34 v 1 bt (ua 1 aE) vs]->AS o p l k v L kn vs:=λf=>
  ⟨f.box 0 i0,dX.up R f.ai,f.seq 1 i0 λ_=>rfl,f.Pz 2 i0 λ_=>rfl⟩
 refine(Ux p l k v L kn vs n M (mk O) I (λe N=>(D e N).cS) i4 λe N=>by have:=A e N;omega).mono ?_;rintro _ o ⟨⟨i,rfl,Z⟩,S⟩;refine⟨i,i0,?_⟩;have f:=O.up S.ai;refine aj (λe=>⟨i0,kn,vs,j,f⟩) λe=>?_;have J:0<=i:=Int.not_lt.1 e;obtain⟨y,q⟩:=Z J;have m:=mk f;refine⟨p,i0,l,m.box.cell0 i0,?_⟩;refine rv.get m.eqs i.toNat i4 y λx V=>?_;have d:=qg y;refine(Qy p l k v L kn vs n w x L[i.toNat] o m j V (D _ d) Q.2 (A _ d)).mono ?_;rintro _ h3 ⟨a,b,rfl,Y⟩;refine⟨(a,b),i0,?_⟩;obtain⟨c,E⟩:∃c,(fi kn vs L[i.toNat]).1=[c]:=by
  have M:(fi kn vs L[i.toNat]).1.length=1:=q
  match o:(fi kn vs L[i.toNat]).1,M with
  |[c],_=>exact⟨c,i0⟩
 have u:=j.CQ (D _ d);have K:=u.cS c (by rw[E];simp);have B:Wl.kn kn c=eR:=GR j L[i.toNat] c (by rw[E];simp);rw[Uw K.1 i4]at B;have P:=f.comp Y;rw[E]at P;refine P.alloc af i0 λa8 h4 W=>?_;refine W.storeAll af 5 i0 i0 (qv (a,b)) i0 i0 i0 i0 λh5 g=>?_;refine⟨p,i0,k,(g.box 0 i0).cell i0,a,(g.box 5 i0).cell0 i0,?_⟩;have z:=g.seq 3 i0 λ_=>rfl;refine z.bB 0 i0 i9 c i0 ?_;refine⟨p,i0,v,(g.box 0 i0).cell i0,a,(g.box 5 i0).cell0 i0,?_⟩;refine z.bB 0 i0 i9 c i0 ?_;refine⟨b,(g.box 5 i0).cell i0,?_⟩;refine g.set af 1 i0 (λ_=>rfl) i0 c.toNat i4 i4 eL i0 i0 i0 λh6 F=>?_;refine⟨⟨(F.box 5 i0).cell i0,(F.box 5 i0).cell0 i0,trivial⟩,?_⟩;have G:(fi kn vs L[i.toNat]).2≠[]:=λX=>by have:=u.len;rw[X]at this;simp at this;omega
 have H7:=aa.aiL F 4 i0 (λ_=>rfl) G;refine H7.aiD af 2 4 i5 i0 i0 (λ_=>rfl) i0 c.toNat i4 i4 i0 i0 i0 λh8 H8=>⟨trivial,?_⟩
 refine⟨(kn.set c.toNat eL,vs.set c.toNat (fi kn vs L[i.toNat]).2),i0,⟨aap j D d E,H8.ck [0,1,2]⟩,?_⟩;have:=count_set (l:=kn) (i:=c.toNat) i4 B;dsimp only;omega
theorem Wk(s:Sl)(l:Row)(h:f8)(c:Rd h s 1 aE l)(b:s.len<=s.cap)(d:ii l<=2^30):
  ac xR 266 #[s] h λv h'=>v=xL (!(l.any (· !=0)))/\h'=h:=by
 refine MQ s ?_;unfold FN;refine(Qx s l _ i0 h c b d).mono ?_;rintro _ e ⟨⟨r,rfl,a⟩,rfl⟩;refine⟨r,i0,?_,i0⟩;congr 1;rw[vm];simp only[beq_iff_eq,Bool.not_eq_true',List.any_eq_false,bne_iff_ne,ne_eq,Decidable.not_not];rw[<-a];omega
def Pk(l:aF):Prop:=∀i (h:i+1<ii l),l[i]<l[i+1]
theorem Rv(n:Nat)(l:Sl)(L:List fe)(w:Nat)(h:f8)(r:dX rv h l L)(E:∀e∈L,iF n w e/\Pk e.1)(hn:n<=64)(J:ii L<=2^20)(u:∀e∈L,ii e.1<=2^20):
  ac xR 263 #[xH xN n,l] h λv h'=>v=xL eL/\Sp h h' []:=by
 refine OR _ l ?_;unfold HL;have O:=bE.len r;refine bg (aj (λe=>i4) λ_=>aj (λe=>i4) λ_=>?_);refine av (λi:Nat=>(i:Int)) (λi h'=>i<=ii L/\Sp h h' []) (λi=>ii L-i) 0 i0 ⟨i4,Sp.refl h⟩ ?_;rintro i T ⟨hi,s⟩;refine aj (λe=>?_) λe=>⟨i0,s⟩;have f:i<ii L:=i4
 refine rv.get (dX.up r s.ai) i i0 f λx M=>?_;refine(Sp.refl T).alloc af i0 λa h2 X=>?_;refine X.storeAll af 0 i0 i0 (qv x) i0 i0 i0 i0 λh3 p=>?_;have B:=up s.ai p.ai;have c:=ji.mono (ji.loc M p.ai) λb I=>qM I p.ai.1;have d:=p.box 0 i0;refine⟨x.1,d.cell0 i0,?_⟩;have Y:=c.1.len;have F:=u _ (qg f);obtain⟨m,z⟩:=E _ (qg f);refine av (λj:Nat=>(j:Int)) (λj h'=>h'=h3/\j<=(L[i]).1.length) (λj=>(L[i]).1.length-j) 0 i0 ⟨i0,i4⟩ ?_;rintro j D ⟨rfl,hj⟩;refine aj (λV=>?_) (λV=>?_)
 ·have k:j<(L[i]).1.length:=i4
  have S:=m.cS _ (qg k);refine c.1.bB j i0 k _ i0 ?_;refine aj (λe=>i4) λ_=>aj (λe=>i4) λ_=>?_;have G:∃t:Nat,qc xN ((j:Int)+1)=(t:Int)/\(D=D/\t<=(L[i]).1.length)/\(L[i]).1.length-t<(L[i]).1.length-j:=⟨j+1,js,⟨i0,i4⟩,i4⟩
  refine aj (λN=>?_) λN=>G;refine⟨x.1,d.cell0 i0,?_⟩;rw[ak ((j:Int)-1)];refine c.1.bB (j-1) i4 i4 _ i0 ?_;have H:=z (j-1) i4;have R:(L[i]).1[j-1+1]'(by omega)=(L[i]).1[j]:=by congr 1;omega
  rw[R]at H;exact aj (λe=>absurd H i4) λ_=>G
 ·refine⟨x.2,d.cell i0,?_⟩;obtain⟨rs,P,h8,Z⟩:=bE.kO (dX.up r B);have A:=(Z 0 i4 i4).2.len;obtain⟨q,W,y,Q,U⟩:=P.dQ (g:=qv) (i:=(0:Int)) 0 rfl i4 (rs[0]'(by omega)) rfl (K:=λy=>y.2.len=w) (by rw[A];exact(E _ (qg (show 0<ii L by omega))).1.len);refine⟨q,W,y.2,?_,?_⟩
  ·exact Q.2.1
  have o:=c.2.len;rw[m.len]at o;refine cv (λe=>absurd (by rw[o,U]) e) λ_=>?_;exact⟨i+1,js,⟨i4,.zip B⟩,i4⟩
theorem aa.abB{B:aB}{m h:f8}{As:List HP}{e k:Nat}{α β:Type}{E:iM α β}{f:α->be}{s:Sl}{n:Nat}{a:α}{b:β}(H:aa B m h As)(i:Nat)(v:As[i]?=dB (aq e s k f (qh n a)))(u:∀h,E.p h (λ_=>False) a b):aa B m h (As.set i (bX e s k f E (qh n b))):=
 H.fI i v λq ⟨x,y⟩=>⟨_,λ_=>False,x,λc t=>⟨y c t,λh=>h⟩,λ_ h=>h.elim,i9,λj r l d g=>by
  rw[wv]at d g;split at d
  ·rename_i o;rw[f9 o]at g;cases d;cases g;exact u h
  ·cases d⟩
theorem aa.aiM{B:aB}{f h:f8}{As:List HP}{e n:Nat}{a b:Sl}{l:aF}{r:Row}(H:aa B f h As)(i j:Nat)(d:i≠j)(o:As[i]?=dB (aq e a 1 aC l))(m:As[j]?=dB (aq n b 1 aE r)):aa B f h ((As.set i (EA ji (a,b) (l,r))).set j emp):=
 H.merge i j d o m λq p _ g k=>⟨g.1.seq (λ_=>rfl) λx c=>.inl (g.2 x c),k.1.seq (λ_=>rfl) λx c=>.inr (k.2 x c)⟩
theorem abC(kn:List Bool)(vs:aQ)(L:List fe){i:Nat}(a:i<ii L):bh kn vs (L.take (i+1))=if(fi kn vs L[i]).1.isEmpty then bh kn vs (L.take i)else bh kn vs (L.take i)++[fi kn vs L[i]]:=by unfold bh;rw[aK _ _ a,qT,zk];cases h:(fi kn vs L[i]).1.isEmpty<;>simp[h]
theorem YT(kn:List Bool)(vs:aQ)(L:List fe){i:Nat}(a:i<ii L):ki kn vs (L.take (i+1))=(ki kn vs (L.take i)||((fi kn vs L[i]).1.isEmpty&&(fi kn vs L[i]).2.any (· !=0))):=by unfold ki;rw[aK _ _ a,qT,yV];simp
theorem YU{kn:List Bool}{vs:aQ}{L:List fe}{i:Nat}(h:ki kn vs (L.take i)=eL):ki kn vs L=eL:=by rw[<-qA i L];unfold ki at*;rw[qT,yV,h];rfl
theorem abD(l:Sl)(L:List fe)(n w:Nat)(h:f8)(D:dX rv h l L)(M:∀e∈L,iF n w e/\Pk e.1)(hn:n<=64)(F:ii L<=2^20)(hw:1<=w/\w<=2^20)(z:∀e∈L,ii e.1<=2^20):
  ac xR 216 #[xH xN n,l] h λr h'=>∃kn vs,jH n w L kn vs/\((ki kn vs L=eL/\r=.tuple #[xI eH 0 0,xI eH 0 0,xI eH 0 0,xH xN 10]/\Sp h h' [])∨
   (ki kn vs L=eR/\∃k v s:Sl,r=.tuple #[k,v,s,xH xN 0]/\Sp h h' [aq 4 k 1 eN kn,bX 34 v 1 bt (ua 1 aE) vs,bX 275 s 2 qv ji (bh kn vs L)])):=by
 refine Rj _ l ?_;unfold JY;have ao:=bE.len D;refine(Rv n l L w h D M hn F z).mono ?_;rintro _ h1 ⟨rfl,R1⟩;refine⟨eL,i0,bm (λe=>j0) λ_=>?_⟩;refine cE (λs h'=>∃(p:fz) (k v:Sl),s=dB p/\Sp h h' [aw p 326 [l,k,v],aq 4 k 1 eN (qh n eR),bX 34 v 1 bt (ua 1 aE) (qh n [])]) ⟨?_,?_⟩ ?_
 ·refine R1.make af eN afh i5 eR i0 i0 n n i0 i0 (qn _) i4 λk h2 T V Q=>⟨trivial,?_⟩
  refine Q.make af bt abz i5 ⟨eH,0,0⟩ i0 i0 n n i0 i0 (qn _) i4 λv h3 Z U O=>⟨trivial,?_⟩
  refine O.boxed λp Y G=>⟨trivial,p,k,v,i0,?_⟩
  exact(aa.abB (E:=ua 1 aE) (b:=[]) G 1 i0 λh=>⟨Seq.nil _ _ _ _ _ _,λ_=>rfl⟩).ck [2,0,1]
 ·refine R1.make af bt abz i5 ⟨eH,0,0⟩ i0 i0 n n i0 i0 (qn _) i4 λv h3 Z U O=>⟨trivial,?_⟩
  refine O.make af eN afh i5 eR i0 i0 n n i0 i0 (qn _) i4 λk h2 T V Q=>⟨trivial,?_⟩
  refine Q.boxed λp Y G=>⟨trivial,p,k,v,i0,?_⟩
  exact(aa.abB (E:=ua 1 aE) (b:=[]) G 0 i0 λh=>⟨Seq.nil _ _ _ _ _ _,λ_=>rfl⟩).ck [2,1,0]
 rintro s Y ⟨p,k,v,rfl,G⟩;refine(abA p l k v L n w h Y D (λe he=>(M e he).1) hn F hw z G).mono ?_;rintro _ h5 ⟨rfl,kn,vs,J,H5⟩;refine⟨(),i0,?_⟩;refine av (λt:Nat×Sl=>(t.2,(t.1:Int))) (λt h'=>t.1<=ii L/\ki kn vs (L.take t.1)=eR/\Sp h h' [aw p 326 [l,k,v],aq 4 k 1 eN kn,bX 34 v 1 bt (ua 1 aE) vs,bX 275 t.2 2 qv ji (bh kn vs (L.take t.1))]) (λt=>ii L-t.1) (0,⟨eH,0,0⟩) i0 ⟨i9,i0,H5.Gw 275 2 qv ji⟩ ?_;rintro⟨i,o⟩ h6 ⟨hi,q,B⟩;dsimp only at*;refine aj (λe=>?_) (λe=>?_)
 ·have m:i<ii L:=i4
  obtain⟨rs,q1,q2,q3⟩:=bE.kO D;have hx:=q3 i i4 m;refine(Seq.up q1 B.ai).dQ (g:=qv) i i0 i4 (rs[i]'(by omega)) i0 ?_;generalize rs[i]'(by omega)=x at hx⊢;refine B.alloc af i0 λa h7 H7=>?_;refine H7.storeAll af 4 i0 i0 (qv x) i0 i0 i0 i0 λh8 A=>?_;refine⟨x,(A.box 4 i0).aS _ i0,?_⟩;have R:AS h8 p l k v L kn vs:=⟨A.box 0 i0,dX.up D A.ai,A.seq 1 i0 λ_=>rfl,A.Pz 2 i0 λ_=>rfl⟩
  obtain⟨I,-⟩:=M _ (qg m);have ab:dX ji h8 x L[i]:=dX.up hx A.ai;refine(Qy p l k v L kn vs n w x L[i] h8 R J ab I hw.2 (z _ (qg m))).mono ?_;rintro _ h9 ⟨c,d,rfl,R9⟩;refine⟨(c,d),i0,?_⟩;have H9:=A.comp R9;refine H9.alloc af i0 λa2 ap N=>?_;refine N.storeAll af 7 i0 i0 (qv (c,d)) i0 i0 i0 i0 λW f=>?_;refine⟨c,(f.box 7 i0).cell0 i0,?_⟩;have u:=(f.own 5 i0).len;have ah:ii (bh kn vs (L.take i))<=ii L:=by unfold bh;refine zi (qP _ _) ?_;simp;omega
  have y:=abC kn vs L m;have j:=YT kn vs L m;refine aj (λe2=>?_) (λe2=>?_)
  ·have X:(fi kn vs L[i]).1.isEmpty=eR:=by
    cases hh:(fi kn vs L[i]).1 with
    |nil=>rw[hh]at u;simp at u;omega
    |cons a l=>rfl
   rw[X]at y j;refine⟨(c,d),(f.box 7 i0).aS _ i0,?_⟩;have S:=aa.aiM f 5 6 i5 i0 i0;refine S.sH af 3 5 i5 i0 i0 eQ i0 i5 (λ_=>rfl) aby i0 i5 i4 λo' ar P=>?_;refine⟨(i+1,o'),jj,⟨i6,by dsimp only;rw[j,q];rfl,?_⟩,i6⟩;dsimp only;rw[y];exact P.ck [0,1,2,3]
  ·have K:(fi kn vs L[i]).1.isEmpty=eL:=by
    cases hh:(fi kn vs L[i]).1 with
    |nil=>rfl
    |cons a l=>rw[hh]at u;simp at u;omega
   rw[K]at y j;refine⟨d,(f.box 7 i0).cell i0,?_⟩;refine(Wk d _ W (f.seq 6 i0 λ_=>rfl) (f.own 6 i0).cap (by have:=(J.CQ I).len;omega)).mono ?_;rintro _ am ⟨rfl,rfl⟩;refine⟨_,i0,bm (λH=>?_) λH=>?_⟩
   ·refine⟨kn,vs,J,.inl ⟨YU (i:=i+1) ?_,i0,f.ck []⟩⟩;rw[j];simp at H;simp[H]
   ·refine⟨(i+1,o),jj,⟨i6,?_,?_⟩,i6⟩
    ·dsimp only;rw[j,q];simp at H;simp;exact H
    ·dsimp only;rw[y];exact f.ck [0,1,2,3]
 ·have ad:i=ii L:=i4
  subst ad;rw[q8]at B q;refine⟨p,i0,k,(B.box 0 i0).cell i0,p,i0,v,(B.box 0 i0).cell i0,kn,vs,J,.inr ⟨q,k,v,o,i0,B.ck [1,2,3]⟩⟩
def kU(pool:List (Sl×Row)):HP:=⟨λh q=>∀x∈pool,Seq h q x.1 1 aE x.2,λa d x b=>(a x b).ai d,λa c x b=>(a x b).mono c⟩
theorem _root_.Go.Vc.aa.pool{B:aB}{c h:f8}{As:List HP}(H:aa B c h As)(i j:Nat)(b:i≠j){pool:List (Sl×Row)}{r:Sl}{l:Row}(g:As[i]?=dB (kU pool))(d:As[j]?=dB (tZ r 1 aE l)):aa B c h ((As.set i (kU ((r,l)::pool))).set j emp):=
 H.merge i j b g d λm k _ e f x a=>by
  rcases zd.1 a with rfl|a
  ·exact Seq.mono f λ_ h=>.inr h
  ·exact(e x a).mono λ_ h=>.inl h
theorem _root_.Go.Vc.aa.Ny{B:aB}{b h:f8}{As:List HP}(H:aa B b h As)(i:Nat){pool:List (Sl×Row)}(a:As[i]?=dB (kU pool)){r:Sl}{l:Row}(c:(r,l)∈pool):Rd h r 1 aE l:=(H.at i a) _ c
theorem _root_.Go.Vc.aa.adP{B:aB}{f h:f8}{As:List HP}(H:aa B f h As)(i j:Nat)(c:i≠j){pool:List (Sl×Row)}{s:Sl}{rs:List Sl}{d:aQ}(t:As[i]?=dB (aq 34 s 1 bt rs))(n:As[j]?=dB (kU pool))
  (o:ii rs=ii d) (v:∀(k:Nat) r l,rs[k]?=dB r->d[k]?=dB l->(r,l)∈pool):aa B f h ((As.set i (gl 34 s 1 aE d)).set j emp):=
 H.merge i j c t n λw m u a p=>⟨rs,m,a.1,λb e=>⟨.inl (a.2 b e),u b (a.2 b e)⟩,λ_ h=>.inr h,o,λk r l q g=>p _ (v k r l q g)⟩
def fx(pool:List (Sl×Row))(g:Row->Row)(rs:List Sl)(m:aQ):Prop:=ii rs=ii m/\∀(i:Nat) r l,rs[i]?=dB r->m[i]?=dB l->(r,g l)∈pool
theorem fx.get{pool:List (Sl×Row)}{g:Row->Row}{rs:List Sl}{m:aQ}(h:fx pool g rs m){i:Nat}(a:i<ii m):(rs[i]'(by rw[h.1];exact a),g m[i])∈pool:=
 h.2 i _ _ (qd _) (qd _)
theorem fx.mono{pool a:List (Sl×Row)}{g:Row->Row}{rs:List Sl}{m:aQ}(h:fx pool g rs m)(d:∀x∈pool,x∈a):fx a g rs m:=⟨h.1,λi r l c b=>d _ (h.2 i r l c b)⟩
theorem fx.set{pool:List (Sl×Row)}{g:Row->Row}{rs:List Sl}{m:aQ}(h:fx pool g rs m)(i:Nat){r:Sl}{l:Row}(f:(r,g l)∈pool):fx pool g (rs.set i r) (m.set i l):=by
 refine⟨by simp[h.1],λk e j a b=>?_⟩;rw[qY]at a b;by_cases c:i=k
 ·subst c;rw[f9 rfl]at a b;split at a
  ·rename_i d;rw[f9 (by rw[<-h.1];exact d)]at b;cases a;cases b;exact f
  ·cases a
 ·rw[g0 c]at a b;exact h.2 k e j a b
theorem fx.snoc{pool:List (Sl×Row)}{g:Row->Row}{rs:List Sl}{m:aQ}(h:fx pool g rs m){r:Sl}{l:Row}(e:(r,g l)∈pool):fx pool g (rs++[r]) (m++[l]):=by
 refine⟨by simp[h.1],λk d f b a=>?_⟩;by_cases c:k<ii rs
 ·rw[qm c]at b;rw[qm (by rw[<-h.1];exact c)]at a;exact h.2 k d f b a
 ·have:k=ii rs:=by have:=(qo.1 b).1;simp at this;omega
  subst this;simp at b;rw[h.1]at a;simp at a;subst b;subst a;exact e
theorem fx.nil(pool:List (Sl×Row))(g:Row->Row):fx pool g [] []:=⟨i0,λi r l h=>ld⟩
theorem _root_.Go.Vc.aa.EV{B:aB}{g h:f8}{As:List HP}(H:aa B g h As)(i j:Nat){pool:List (Sl×Row)}{e:Nat}{s:Sl}{rs:List Sl}{a:aQ}(n:As[i]?=dB (aq e s 1 bt rs))(f:As[j]?=dB (kU pool))
  (c:fx pool id rs a):gB h (λb=>b<h.size) s 1 aE a rs:=⟨H.seq i n λ_=>rfl,c.1,λk r l m d=>H.Ny j f (c.2 k r l m d)⟩
theorem Iq{B:aB}{r h:f8}{As:List HP}(s f:fz)(t:UInt8)(g a:Sl)(b c:Row)(H:aa B r h (aq 5 a 1 aE c::As))(E:St B r As λh=>f7 h s=dB (xJ (dB f))/\fw h f/\Rd h g 1 aE b)
  (J:ii b=ii c) (T:ii b<=2^30) {K:f8->Prop} (S:∀h',aa B r h' (aq 5 a 1 aE (cR t b c)::As)->K h'):
  aM (σ:=Int) (λd Q i=>
 Br (decide (d<((g.len:Nat):Int)))
 (∃I:fz,(g.ptr=dB I/\0<=d/\d<((g.len:Nat):Int))/\
 ∃G:Int,f7 i (I.add (d.toNat*1))=dB (xH xO G)/\
 ∃D:fz,(a.ptr=dB D/\0<=d/\d<((a.len:Nat):Int))/\
 ∃z:Int,f7 i (D.add (d.toNat*1))=dB (xH xO z)/\
 ∃j:fz,(dB s=dB j)/\
 ∃q:aT,f7 i j=dB (.pointer q)/\
 ae xR 280 #[(.pointer q),(xH xO (t.toNat:Int)),(xH xO G)] (.one (.sc (.int .u8))) i λw u=>
 (aA.ok [(D.add (d.toNat*1),(xH xO z))] u)/\
 ∃m:fz,(a.ptr=dB m/\0<=d/\d<((a.len:Nat):Int))/\
 ag xR (qf 5 (xJ (dB (m.add (d.toNat*1)))) (xH xO (qc xO ((qD (qk xO) z^^^(qD (qk xO) w)).toNat:Nat)))) u λ_ h3=>
 (aA.ok [] h3)/\
 Q (qc xN (d+(1:Int))) h3) (K i)) (0:Int) h:=by
 have M:g.len=ii b:=(E.at [aq 5 a 1 aE c] H).2.2.len;refine av (λk:Nat=>(k:Int)) (λk h'=>k<=ii b/\aa B r h' (aq 5 a 1 aE (zh (λx y=>y^^^Gf.mul t x) (b.take k) (c.take k)++c.drop k)::As)) (λk=>ii b-k) 0 i0 ⟨i4,l6⟩ ?_;rintro k i ⟨P,l⟩;obtain⟨O,L,R⟩:=E.at [_] l;refine aj (λe=>?_) (λe=>?_)
 ·have A:k<ii b:=i4
  have o:ii (zh (λx y=>y^^^Gf.mul t x) (b.take k) (c.take k))=k:=i7
  have N:ii (zh (λx y=>y^^^Gf.mul t x) (b.take k) (c.take k)++c.drop k)=ii c:=by rw[qx,o,za];omega
  refine R.bB k i0 A _ i0 ?_;have n:(zh (λx y=>y^^^Gf.mul t x) (b.take k) (c.take k)++c.drop k)[k]'(by omega)=c[k]:=by rw[wc i4];simp[o]
  refine(l.seq 0 i0 λ_=>rfl).RJ k i0 i4 _ i0 λax p=>?_;rw[n]at p⊢;refine⟨s,i0,dB f,O,(Lg f t b[k] i L).mono ?_⟩;rintro v u ⟨rfl,rfl⟩;refine⟨_,i0,⟨p,trivial⟩,?_⟩;rw[ne];refine l.set af 0 i0 (λ_=>rfl) i0 k i0 i4 _ i0 i0 i0 λh3 F=>⟨trivial,?_⟩
  rw[zq,AL J i4]at F;exact⟨k+1,js,⟨i4,F⟩,i4⟩
 ·have:k=ii b:=i4
  subst this;rw[qi (qn _),qi i4,zf i4,qN]at l;exact S i l
def gn(f:fz)(p:Int×Int×Int)(v r d b a c e:Sl):be:=[xJ (dB f),xH xN p.1,xH xN p.2.1,xH xN p.2.2,v,r,d,b,a,c,e]
structure DF (h:f8) (s f:fz) (wa mo:Sl) (wr mr:List Sl) (W M:aQ):Prop where
 fld:f7 h s=dB (xJ (dB f))
 way:f7 h (s.add 9)=dB (xI wa.ptr wa.len wa.cap)
 more:f7 h (s.add 10)=dB (xI mo.ptr mo.len mo.cap)
 field:fw h f
 rW:gB h (λb=>b<h.size) wa 1 aE W wr
 rM:gB h (λb=>b<h.size) mo 1 aE M mr
theorem DF.of{h:f8}{s f:fz}{p:Int×Int×Int}{v r n l k c d:Sl}{g e:List Sl}{W M:aQ}(a:cA h s 281 (gn f p v r n l k c d))(j:fw h f)(m:gB h (λb=>b<h.size) c 1 aE W g)(i:gB h (λb=>b<h.size) d 1 aE M e):DF h s f c d g e W M:=
 ⟨a.cell0 i0,a.cell i0,a.cell i0,j,m,i⟩
theorem Ir{B:aB}{j h:f8}{As:List HP}(s f:fz)(t:UInt8)(c:Int)(b a o w:Sl)(w0 e:Row)(z p:List Sl)(W M:aQ)(H:aa B j h (aq 5 b 1 aE w0::aq 5 a 1 aE e::As))(g:St B j As λh=>DF h s f o w z p W M)
  (E:0<=c) (l:c.toNat<ii W) (x:c.toNat<ii M) (m:ii (aD W c.toNat)=ii w0) (r:ii (aD M c.toNat)=ii e) (F:ii w0<=2^30) (D:ii e<=2^30):
  ac xR 272 #[xJ (dB s),xH xO t.toNat,xH xN c,b,a] h λv h'=>v=.tuple #[]/\aa B j h' (aq 5 b 1 aE (cR t (aD W c.toNat) w0)::aq 5 a 1 aE (cR t (aD M c.toNat) e)::As):=by
 refine Ds (dB s) _ c b a ?_;unfold rP;have S:=g.at [_,_] H;refine⟨s,i0,o,S.way,?_⟩;rw[mz l]at m⊢;rw[mz x]at r⊢;have q:=S.rW;have A:=q.len;refine q.top.lM c.toNat i4 i4 ?_;refine Iq s f t (z[c.toNat]'(by omega)) b (W[c.toNat]) w0 H (St.mk' λh' k=>?_) m i4 λh3 i=>?_
 ·have d:=g.at [_] k;exact⟨d.fld,d.field,d.rW.row _ _ _ (qd _) (qd l)⟩
 have y:=g.at [_,_] i;refine⟨s,i0,w,y.more,?_⟩;have n:=y.rM;have u:=n.len;refine n.top.lM c.toNat i4 i4 ?_;refine Iq s f t (p[c.toNat]'(by omega)) a (M[c.toNat]) e i.sV (St.mk' λh' k=>?_) r i4 λh3 i=>⟨i0,i.sV⟩
 ·have d:=g.at [_] k;exact⟨d.fld,d.field,d.rM.row _ _ _ (qd _) (qd x)⟩
def fy:aF->Bool
 |[]=>eL
 |[_]=>eL
 |a::b::r=>decide (a<b)&&fy (b::r)
theorem Nz:∀(l:aF) (a b:Int),fy (l++[a,b])=(fy (l++[a])&&decide (a<b))
 |[],a,b=>by simp[fy]
 |[c],a,b=>by simp[fy]
 |c::d::r,a,b=>by
  have:=Nz (d::r) a b;simp only[zt]at this⊢;simp only[fy,this,Bool.and_assoc]
theorem abE{l r:aF}(h:fy l=eR):fy (l++r)=eR:=by
 induction l with
 |nil=>simp[fy]at h
 |cons a t ih=>
  cases t with
  |nil=>simp[fy]at h
  |cons b t=>
   simp only[fy,vn]at h;simp only[zt,fy,vn];rcases h with h|h
   ·exact .inl h
   ·exact .inr (ih h)
theorem adQ(l:aF)(k:Nat)(h:k+1<ii l):l.take (k+2)=l.take k++[l[k],l[k+1]]:=by have a:l.take (k+2)=l.take (k+1)++[l[k+1]]:=aK l (k+1) h;have b:=aK l k;rw[a,b,qp];rfl
def fA(n:Int)(r:aF):Bool:=r.all (λc=>decide (0<=c/\c<n))&&fy r
theorem abF{n:Int}{l r:aF}(h:fA n l=eR):fA n (l++r)=eR:=by
 simp only[fA,vn]at*;rcases h with h|h
 ·left;rw[yU,h];rfl
 ·right;exact abE h
theorem YV{n:Int}{r:aF}(h:0<ii r):fA n (r.take 1)=decide (0<=r[0]/\r[0]<n):=by
 cases r with
 |nil=>simp at h
 |cons a t=>simp[fA,fy]
theorem YW{n:Int}{r:aF}{k:Nat}(h:k+1<ii r):fA n (r.take (k+2))=(fA n (r.take (k+1))&&decide (0<=r[k+1]/\r[k+1]<n)&&decide (r[k]<r[k+1])):=by
 have a:r.take (k+2)=r.take (k+1)++[r[k+1]]:=aK r (k+1) h;have b:fy (r.take (k+2))=(fy (r.take (k+1))&&decide (r[k]<r[k+1])):=by rw[adQ r k h,Nz,aK r k]
 simp only[fA,b];rw[a,yU];simp only[List.all_cons,List.all_nil,Bool.and_true]
 cases(r.take (k+1)).all λc=>decide (0<=c/\c<n)<;>cases fy (r.take (k+1))<;>cases decide (0<=r[k+1]/\r[k+1]<n)<;>simp
theorem AT{n:Int}{r:aF}{k:Nat}(h:fA n (r.take k)=eR):fA n r=eR:=by rw[<-qA k r];exact abF h
theorem YX{n:Int}{r:aF}{k:Nat}(c:k<ii r)(h:fA n (r.take k)=eL):
  (r[k]<0->fA n r=eR)/\(n<=r[k]->fA n r=eR)/\(∀(h0:0<k),r[k]<=r[k-1]->fA n r=eR)/\
  (0<=r[k]->r[k]<n->(∀h0:0<k,r[k-1]<r[k])->fA n (r.take (k+1))=eL):=by
 cases k with
 |zero=>
  have e:=YV (n:=n) c;refine⟨λa=>AT (k:=1) ?_,λa=>AT (k:=1) ?_,λh0=>i4,λa b _=>?_⟩
  ·rw[e,hU i4]
  ·rw[e,hU i4]
  ·rw[e,g9 ⟨a,b⟩]
 |succ k=>
  have e:=YW (n:=n) c;refine⟨λa=>AT (k:=k+2) ?_,λa=>AT (k:=k+2) ?_,λh0 a=>AT (k:=k+2) ?_,λa b h3=>?_⟩
  ·rw[e,hU (p:=0<=r[k+1]/\r[k+1]<n) i4];simp
  ·rw[e,hU (p:=0<=r[k+1]/\r[k+1]<n) i4];simp
  ·rw[e,hU (p:=r[k]<r[k+1]) j7];simp
  ·have d:r[k]<r[k+1]:=by simpa using h3 i4
   rw[e,h,g9 (p:=0<=r[k+1]/\r[k+1]<n) ⟨a,b⟩,g9 d];rfl
def jA(n:Int)(a:cV):Bool:=decide (0<=n/\n<=64)&&a.all (fA n)
theorem adR{α:Type}{f:α->Bool}{l:List α}{k:Nat}(a:k<ii l)(h:(l.take k).all f=eL):(l.take (k+1)).all f=f l[k]:=by rw[aK _ _ a,yU,h];simp
theorem ahU{α:Type}{f:α->Bool}{l:List α}{k:Nat}(a:k<ii l)(h:f l[k]=eR):l.all f=eR:=by rw[yA];exact⟨l[k],qg a,rb⟩
theorem Pn{p:aB}(n:Int)(a:Sl)(b:cV)(rs:List Sl)(h:f8)(z:gB h p a 1 aC b rs)(H:ii b<=2^40)(u:∀l∈b,ii l<=2^40):
  ac xR 307 #[xH xN n,a] h λv h'=>v=xL (jA n b)/\h'=h:=by
 refine MS n a ?_;unfold FO;have E:=z.Sg;refine cE (λ_ h'=>h'=h/\0<=n/\n<=64) ?_ ?_
 ·refine aj (λj=>⟨?_,i0⟩) (λj=>aj (λf=>⟨?_,i0⟩) λf=>⟨i0,i4,i4⟩)
  ·rw[jA,hU i4];rfl
  ·rw[jA,hU i4];rfl
 ·rintro _ h' ⟨rfl,m,o⟩;have y:jA n b=b.all (fA n):=by rw[jA,g9 ⟨m,o⟩];rfl
  refine av (λk:Nat=>(k:Int)) (λk h0=>h0=h'/\k<=ii b/\(b.take k).all (fA n)=eL) (λk=>ii b-k) 0 i0 ⟨i0,i4,i9⟩ ?_;rintro i h0 ⟨rfl,I,c⟩;refine aj (λw=>?_) (λq=>?_)
  ·have e:i<ii b:=i4
   refine z.get i i0 e λr t _=>?_;have D:=t.len;have G:=u _ (qg e);have d:fA n b[i]=eR->jA n b=eR:=λB=>by rw[y];exact ahU e B
   refine av (λk:Nat=>(k:Int)) (λk f=>f=h0/\k<=b[i].length/\fA n (b[i].take k)=eL) (λk=>b[i].length-k) 0 i0 ⟨i0,i4,by simp[fA,fy]⟩ ?_;rintro k f ⟨rfl,J,s⟩;refine aj (λw=>?_) (λq=>?_)
   ·have g:k<b[i].length:=i4
    obtain⟨n1,n2,F,A⟩:=YX g s;refine t.bB k i0 g _ i0 ?_;refine aj (λj=>⟨by rw[d (n1 j)],i0⟩) λj=>?_;refine aj (λf=>⟨by rw[d (n2 f)],i0⟩) λf=>?_;rw[ak (k+1),ak (k-1)];refine aj (λh3=>?_) (λh3=>?_)
    ·refine t.bB (k-1) i4 i4 _ i0 ?_;refine aj (λx=>⟨by rw[d (F i4 x)],i0⟩) λx=>?_;exact⟨k+1,i9,⟨i0,i4,A i4 i4 λ_=>i4⟩,i4⟩
    ·exact⟨k+1,i9,⟨i0,i4,A i4 i4 λ_=>i4⟩,i4⟩
   ·rw[qi i4]at s;rw[ak (i+1)];exact⟨i+1,i9,⟨i0,i4,by rw[adR e c,s]⟩,i4⟩
  ·rw[qi i4]at c;exact⟨by rw[y,c],i0⟩
theorem NA{p:aB}(a:Sl)(c:List Bool)(x:Bool)(h:f8)(i:Seq h p a 1 eN c)(n:ii c<=2^40):
  ac xR 324 #[a,xL x] h λv h'=>∃r:Int,v=xH xN r/\(0<=r↔x∈c)/\h'=h:=by
 refine uf a x ?_;unfold na;have l:=i.len;refine av (λk:Nat=>(k:Int)) (λk h'=>h'=h/\k<=ii c/\x∉c.take k) (λk=>ii c-k) 0 i0 ⟨i0,i4,i9⟩ ?_;rintro k h' ⟨rfl,o,f⟩;refine aj (λm=>?_) (λj=>?_)
 ·have b:k<ii c:=i4
  refine i.bB k i0 b _ i0 ?_;refine bv (λg=>⟨_,i0,⟨λ_=>?_,λ_=>i4⟩,i0⟩) (λd=>?_)
  ·rw[eq_of_beq g];exact qg b
  ·rw[ak _];refine⟨k+1,i9,⟨i0,i4,?_⟩,i4⟩;rw[aK _ _ b];simp only[qz,qC,not_or];exact⟨f,λe=>by rw[e]at d;simp at d⟩
 ·rw[qi i4]at f;exact⟨_,i0,⟨λh=>i4,λh=>absurd h f⟩,i0⟩
theorem Is{p:aB}(a:Sl)(b:List Bool)(x:Bool)(h:f8)(e:Seq h p a 1 eN b)(d:ii b<=2^40):
  ac xR 308 #[a,xL x] h λv h'=>v=xL (decide (x∈b))/\h'=h:=by
 refine ry a x ?_;unfold lK;refine(NA a b x h e d).mono ?_;rintro v h' ⟨r,rfl,c,rfl⟩;refine⟨r,i0,?_,i0⟩;exact congrArg Value.bool (decide_eq_decide.2 c)
theorem Wm{α:Type}{f:α->Bool}{l:List α}{k:Nat}(a:k<ii l):(l.take (k+1)).filter f=if f l[k]then(l.take k).filter f++[l[k]]else(l.take k).filter f:=by rw[aK _ _ a,zk];by_cases h:f l[k]=eL<;>simp[h]
theorem NB{p q:aB}(i:fz)(o r:Sl)(op:List Bool)(row:aF)(h:f8)(w:f7 h (i.add 1)=dB (xI o.ptr o.len o.cap))(n:Seq h p o 1 eN op)(m:Seq h q r 1 aC row)
  (l:∀c∈row,0<=c/\c<ii op) (z:ii row<=2^40):
  ac xR 325 #[xJ (dB i),r] h λv h'=>
   v=.tuple #[xH xN ((cX op row).getLast?.getD 0),xL (ii (cX op row)==1)]/\h'=h:=by
 refine AD (dB i) r ?_;unfold oh;have s:=m.len;refine av (λk:Nat=>((cX op (row.take k)).getLast?.getD 0,(ii (cX op (row.take k)):Int),(k:Int))) (λk h'=>h'=h/\k<=ii row) (λk=>ii row-k) 0 i0 ⟨i0,i4⟩ ?_;rintro k h' ⟨rfl,A⟩;dsimp only;refine aj (λx=>?_) (λt=>?_)
 ·have d:k<ii row:=i4
  have y:=l _ (qg d);refine m.bB k i0 d _ i0 ?_;refine⟨i,i0,o,w,?_⟩;have b:row[k].toNat<ii op:=i4
  refine n.bB row[k].toNat i4 b _ i0 ?_;have a:jR op row[k]=op[row[k].toNat]:=by simp[jR,qe,qd b]
  have g:=Wm (f:=jR op) d;have u:ii (cX op (row.take k))<=ii row:=zi (qP _ _) o9;rw[ak (k+1),ak _];refine bv (λj=>?_) (λj=>?_)
  ·refine⟨k+1,?_,⟨i0,i4⟩,i4⟩;have e:cX op (row.take (k+1))=cX op (row.take k)++[row[k]]:=by rw[cX,g,a,j];rfl
   simp[e]
  ·refine⟨k+1,?_,⟨i0,i4⟩,i4⟩;have e:cX op (row.take (k+1))=cX op (row.take k):=by rw[cX,g,a,j];rfl
   simp[e]
 ·have e:row.take k=row:=qi i4;refine⟨?_,i0⟩;simp only[e];congr 4;congr 1;rw[vm];simp;omega
structure BX (h:f8) (p:aB) (a:fz) (l o u:Sl) (rows:cV) (rs:List Sl) (op us:List Bool):Prop where
 c0:f7 h a=dB (xI l.ptr l.len l.cap)
 c1:f7 h (a.add 1)=dB (xI o.ptr o.len o.cap)
 c2:f7 h (a.add 2)=dB (xI u.ptr u.len u.cap)
 fG:p a.block
 sRows:gB h p l 1 aC rows rs
 sOp:Seq h p o 1 eN op
 sUs:Seq h p u 1 eN us
 ulen:ii us=ii rows
 cS:∀r∈rows,∀c∈r,0<=c/\c<ii op
 short:∀r∈rows,ii r<=64
theorem BX.ai{h h':f8}{p:aB}{a:fz}{l o u:Sl}{rows:cV}{rs:List Sl}{op us:List Bool}(c:BX h p a l o u rows rs op us)(k:aV p h h'):BX h' p a l o u rows rs op us:=by
 have b:∀n,(a.add n).block=a.block:=λn=>by unfold Addr.add;split<;>rfl
 exact⟨k.cell c.fG c.c0,k.cell (by rw[b];exact c.fG) c.c1,k.cell (by rw[b];exact c.fG) c.c2,c.fG,c.sRows.ai k,c.sOp.ai k,c.sUs.ai k,c.ulen,c.cS,c.short⟩
theorem Rw{p:aB}(a:fz)(l o u:Sl)(rows:cV)(rs:List Sl)(op us:List Bool)(h:f8)(y:BX h p a l o u rows rs op us)(O:ii rows<=2^40):
  ac xR 309 #[xJ (dB a)] h λv h'=>aV (λ_=>True) h h'/\
   v=match mE rows op us with
    |some i=>.tuple #[xM #[xH xN i,xH xN (eT rows op i)],xL eL]
    |none=>.tuple #[xM #[xH xN 0,xH xN 0],xL eR]:=by
 refine Cz (dB a) ?_;unfold rh;refine Bo af i0 λb J M s c K=>?_;have f:=y.ai (c.mono λ_ _ _=>trivial);refine⟨a,i0,l,f.c0,?_⟩;have H:=y.sRows.Sg;refine av (λk:Nat=>(k:Int)) (λk h'=>h'=J/\k<=ii rows/\∀j,j<k->mD rows op us j=eR) (λk=>ii rows-k) 0 i0 ⟨i0,i4,λj n=>i4⟩ ?_;rintro k h' ⟨rfl,P,B⟩;refine aj (λL=>?_) (λG=>?_)
 ·have d:k<ii rows:=i4
  refine f.sRows.get k i0 d λr I _=>?_;refine⟨a,i0,u,f.c2,?_⟩;refine f.sUs.bB k i0 (by rw[y.ulen];exact d) _ i0 ?_;have E:us.getD k eR=us[k]'(by rw[y.ulen];exact d):=by rw[qe,qd];rfl
  have q:rows.getD k []=rows[k]:=by rw[qe,qd d];rfl
  rw[ak _];refine bv (λx=>?_) (λx=>?_)
  ·refine⟨k+1,i9,⟨i0,i4,λj n=>?_⟩,i4⟩;rcases zn.1 n with n|rfl
   ·exact B j n
   ·simp only[mD,E,x];rfl
  ·refine(NB a o r op rows[k] h' f.c1 f.sOp I (y.cS _ (qg d)) (zi (y.short _ (qg d)) i4)).mono ?_;rintro v N ⟨rfl,rfl⟩;refine⟨(_,_),i0,?_⟩;have m:mD rows op us k=(ii (cX op rows[k])==1):=by simp only[mD,E,x,q];rfl
   refine bv (λt=>?_) (λt=>?_)
   ·have g:mD rows op us k=eL:=m.trans t;refine DS af s i0 _ i0 i0 i0 (qn _) λh3 e w z=>?_;refine⟨(_,_),e.aS _ i0,c.then w (λF D _=>i4),?_⟩;have A:eT rows op k=(cX op rows[k]).getLast?.getD 0:=by unfold eT;rw[q]
    rw[mE,aar d B g];show _=Value.tuple #[xM #[xH xN k,xH xN (eT rows op k)],xL eL];rw[A];rfl
   ·have g:mD rows op us k=eR:=m.trans t;refine⟨k+1,i9,⟨i0,i4,λj n=>?_⟩,i4⟩;rcases zn.1 n with n|rfl
    ·exact B j n
    ·exact g
 ·refine DS af s i0 _ i0 i0 i0 (qn _) λh3 e w z=>?_;refine⟨(_,_),e.aS _ i0,c.then w (λF D _=>i4),?_⟩;rw[mE,aaq λj n=>B j i4]
theorem Lm{l:List Bool}{i:Nat}(h:i<ii l):l.getD i eR=l[i]:=by rw[qe,qd h];rfl
theorem Xn(op:List Bool)(a:aF):∀k,-1<=iB op a k/\iB op a k<k
 |0=>by simp[iB]
 |k+1=>by
  have:=Xn op a k;unfold iB;split<;>omega
theorem Rx{p:aB}(a:fz)(l o u:Sl)(rows:cV)(rs:List Sl)(op us:List Bool)(h:f8)(n:BX h p a l o u rows rs op us)(hs:ii rows<=2^30)(a2:ii op<=2^30):
  ac xR 310 #[xJ (dB a)] h λv h'=>aV (λ_=>True) h h'/\v=xH xN (gQ rows op us):=by
 refine CB (dB a) ?_;unfold ri;refine⟨a,i0,o,n.c1,?_⟩;have a4:=n.sOp.len;refine Go.Vc.run_make (f:=aC) af ⟨_,_,i0,i0,i0,i0,i0,i0⟩ i5 0 i0 i0 op.length op.length i4 i4 (qn _) i4 λs h1 I ab a0 y a3=>?_;have ap:=n.ai (y.mono λ_ _ _=>trivial);refine⟨a,i0,l,ap.c0,?_⟩;have a7:=n.sRows.Sg;have z:∀b,s.on b->b=h.size:=by rintro b ⟨o',J⟩;rw[ab]at J;cases J;rfl
 have T:∀k,ii ((λ_ r=>r:Nat->aF->aF) k (rows.getD k []))<=64:=λk=>by
  show(rows.getD k []).length<=64;by_cases U:k<ii rows
  ·rw[qe,qd U];exact n.short _ (qg U)
  ·rw[qe,List.getElem?_eq_none i4];simp
 let d:=li (λ_ r=>r) rows us (qh op.length 0);have N:∀k,ii (d k)=ii op:=λk=>by rw[Ek];simp
 have X:∀k,∀x∈d k,0<=x/\x<=64*k:=λk x hx=>SU (λ_ r=>r) T k x hx;refine av (λk:Nat=>(k:Int)) (λk h'=>aV (λb=>b<h.size) h h'/\k<=ii rows/\Own h' 3 s 1 aC (d k)) (λk=>ii rows-k) 0 i0 ⟨y.mono λ_ _ _=>trivial,i4,I⟩ ?_;rintro i R ⟨D,hi,w⟩;have q:BX R p a l o u rows rs op us:=n.ai (D.mono λb e _=>e);refine aj (λP=>?_) (λK=>?_)
 ·have g:i<ii rows:=i4
  have O:rows.getD i []=rows[i]:=by rw[qe,qd g];rfl
  have hu:us.getD i eR=us[i]'(by rw[n.ulen];exact g):=Lm _;refine q.sRows.get i i0 g λr hr Y=>?_;have a6:=hr.len;have Q:=n.short _ (qg g);refine av (λk:Nat=>(k:Int)) (λk h'=>aV (λb=>b<h.size) h h'/\k<=rows[i].length/\Own h' 3 s 1 aC (if us.getD i eR then d i else kj (d i) (rows[i].take k))) (λk=>rows[i].length-k) 0 i0
   ⟨D,i4,by simpa[kj]using w⟩ ?_
  rintro j h3 ⟨A,hj,c⟩;have t:BX h3 p a l o u rows rs op us:=n.ai (A.mono λb e _=>e);refine aj (λP=>?_) (λK=>?_)
  ·have E:j<rows[i].length:=i4
   have W:=t.sRows.row i r _ Y (qd g);have hc:=n.cS _ (qg g) _ (qg E);refine W.bB j i0 E _ i0 ?_;refine⟨a,i0,u,t.c2,?_⟩;refine t.sUs.bB i i0 (by rw[n.ulen];exact g) _ i0 ?_;rw[ak (j+1)];refine bm (λe=>?_) (λe=>?_)
   ·rw[hu,e]at c;simp only[ze,if_false]at c;have M:ii (kj (d i) (rows[i].take j))=ii op:=by rw[Fi,N]
    have m:rows[i][j].toNat<ii (kj (d i) (rows[i].take j)):=by rw[M];omega
    have a5:=GS (r:=rows[i].take j) (X i) _ (qg m);have a8:ii (rows[i].take j)<=64:=o9
    have ah:Seq h3 (λ_=>True) s 1 aC (kj (d i) (rows[i].take j)):=c.seq (λ_=>rfl) λ_ _=>trivial;refine ah.bB rows[i][j].toNat i4 m _ i0 ?_;rw[ak _];refine c.set af (λ_=>rfl) i0 rows[i][j].toNat i4 m _ i0 i0 i0 λh4 F ad ay=>?_;refine⟨j+1,i9,⟨A.then ad (λb e _=>λar=>by have:=z b ar;omega),i4,?_⟩,i4⟩;rw[hu,e];simp only[ze,if_false];rw[aK _ _ E,Vs,getD_lt m];exact F
   ·refine⟨j+1,i9,⟨A,i4,?_⟩,i4⟩;rw[hu,e]at c⊢;exact c
  ·rw[ak (i+1)];rw[qi i4]at c;refine⟨i+1,i9,⟨A,i4,?_⟩,i4⟩;have:d (i+1)=if us.getD i eR then d i else kj (d i) rows[i]:=by show li _ _ _ _ (i+1)=_;rw[li];simp only[O];rfl
   rw[this];exact c
 ·have ao:i=ii rows:=i4
  subst ao;refine⟨a,i0,o,q.c1,?_⟩;have L:Seq R (λ_=>True) s 1 aC (d rows.length):=w.seq (λ_=>rfl) λ_ _=>trivial;have ax:=N rows.length;refine av (λk:Nat=>(iB op (d rows.length) k,(k:Int))) (λk h'=>h'=R/\k<=ii op) (λk=>ii op-k) 0 i0 ⟨i0,i4⟩ ?_;rintro k h3 ⟨rfl,U⟩;dsimp only;have a1:=Xn op (d rows.length) k;refine aj (λP=>?_) (λK=>?_)
  ·have G:k<ii op:=i4
   refine q.sOp.bB k i0 G _ i0 ?_;rw[ak (k+1)];have B:op.getD k eR=op[k]:=Lm G;refine bv (λe=>?_) (λe=>?_)
   ·refine aj (λH=>?_) (λV=>?_)
    ·refine⟨k+1,?_,⟨i0,i4⟩,i4⟩;rw[iB,f9 (by rw[B,e,g9 H];rfl)];rfl
    ·refine L.bB k i0 i4 _ i0 ?_;refine L.bB (iB op (d rows.length) k).toNat i4 i4 _ i0 ?_;have e1:(d rows.length).getD k 0=(d rows.length)[k]:=getD_lt;have e2:(d rows.length).getD (iB op (d rows.length) k).toNat 0=(d rows.length)[(iB op (d rows.length) k).toNat]:=getD_lt;refine aj (λZ=>?_) (λam=>?_)
     ·refine⟨k+1,?_,⟨i0,i4⟩,i4⟩;rw[iB,f9 (by rw[B,e,e1,e2,g9 Z];simp)];rfl
     ·refine⟨k+1,?_,⟨i0,i4⟩,i4⟩;rw[iB,g0 (by rw[B,e,e1,e2,hU am,hU V];simp)];rfl
   ·refine⟨k+1,?_,⟨i0,i4⟩,i4⟩;rw[iB,g0 (by rw[B,e];simp)];rfl
  ·have S:k=ii op:=i4
   subst S;exact⟨D.mono λb e _=>e,i0⟩
def fB(p:Int×Int):be:=[xH xN p.1,xH xN p.2]
theorem adS:∀x,∀c∈fB x,c.oneCell'=eL:=by intro x c a;simp only[fB,zd,List.not_mem_nil,or_false]at a;rcases a with rfl|rfl<;>rfl
def EW(n:Int)(rows:cV):List (Int×Int)×aF×aF:=
 if jA n rows then((dz n.toNat rows).steps,(dz n.toNat rows).dead,fu (dz n.toNat rows).used rows.length)else([],[],[])
def ahV(e h:f8)(v:Value)(ok:Bool)(c:List (Int×Int))(b a:aF):Prop:=
 ∃s d f:Sl,v=.tuple #[xM #[s,d,f],xL ok]/\
  Sp e h [aq 332 s 2 fB c,aq 3 d 1 aC b,aq 3 f 1 aC a]
theorem agk{α β γ:Type}{k h:f8}{c:Nat->Nat}{l r m v t q:Nat}{w:α->be}{s:β->be}{n:γ->be}{j u p:Sl}{l1:List α}{l2:List β}{o:List γ}(g:lL k h c)(e:dl h c 6 l j v w l1)(f:dl h c 7 r u t s l2)(a3:dl h c 8 m p q n o):
  Sp k h [aq l j v w l1,aq r u t s l2,aq m p q n o]:=by
 refine⟨λ_ h=>h,g.ai,λb=>c b-5,λb a=>?_,λi A d=>?_⟩
 ·have:=g.bx b a;dsimp only;omega
 ·match i,d with
  |0,d=>simp at d;subst d;exact⟨e.own,λb a=>⟨e.own.lt a,by have:=e.bx b a;dsimp only;omega⟩⟩
  |1,d=>simp at d;subst d;exact⟨f.own,λb a=>⟨f.own.lt a,by have:=f.bx b a;dsimp only;omega⟩⟩
  |2,d=>simp at d;subst d;exact⟨a3.own,λb a=>⟨a3.own.lt a,by have:=a3.bx b a;dsimp only;omega⟩⟩
  |i+3,d=>simp at d
theorem agl{n:Int}{rows:cV}(h:jA n rows=eL):0<=n/\n<=64/\∀r∈rows,fA n r=eL:=by simp only[jA,qB,decide_eq_true_eq,qL]at h;exact⟨h.1.1,h.1.2,h.2⟩
theorem Ln{n:Int}{r:aF}(h:fA n r=eL):∀c∈r,0<=c/\c<n:=by simp only[fA,qB,qL,decide_eq_true_eq]at h;exact h.1
theorem Qz:∀{r:aF} {a n:Int},fy r=eL->(∀c∈r,a<=c/\c<n)->(ii r:Int)<=max 0 (n-a)
 |[],a,n,_,_=>i7
 |[x],a,n,_,h=>by have:=h x i9;simp;omega
 |x::y::t,a,n,hr,h=>by
  simp only[fy,qB,decide_eq_true_eq]at hr;have g:=h x i9;have f:=h y i9;have d:∀(l:aF) (z:Int),fy (z::l)=eL->∀c∈l,z<c:=by
   intro l
   induction l with
   |nil=>intro z _ c b;simp at b
   |cons w t ih=>
    intro z e c b;simp only[fy,qB,decide_eq_true_eq]at e;rcases zd.1 b with rfl|b
    ·exact e.1
    ·have:=ih w e.2 c b;omega
  have:=Qz (r:=y::t) (a:=x+1) (n:=n) hr.2 λc b=>⟨by
   rcases zd.1 b with rfl|b
   ·omega
   ·have:=d t y hr.2 c b;omega,(h c (by simp only[zd]at b⊢;exact .inr b)).2⟩
  simp only[zo]at this⊢;omega
theorem abG{n:Int}{r:aF}(h:fA n r=eL)(c:n<=64):ii r<=64:=by have b:=Ln h;simp only[fA,qB]at h;have:=Qz (a:=0) h.2 b;omega
theorem adT(n k:Nat)(h:k<n):(qh k eL++qh (n-k) eR).set k eL=qh (k+1) eL++qh (n-(k+1)) eR:=by
 have e:n-k=(n-(k+1))+1:=i4
 rw[q7 _ _ i9,e,List.replicate_succ];simp only[List.length_replicate,zc,zq];rw[List.replicate_succ' (n:=k)];simp
theorem Uy{h g:f8}{c:Nat->Nat}{a:fz}{l o u:Sl}{rows:cV}{rs:List Sl}{op us:List Bool}(n:gB g (λb=>b<g.size) l 1 aC rows rs)(j:lL g h c)(e:kB h c 2 a 366 [l,o,u])
  (m:dl h c 3 4 o 1 eN op) (q:dl h c 4 4 u 1 eN us) (i:ii us=ii rows) (p:ii op<=64) (k:∀r∈rows,fA op.length r=eL):BX h (λb=>b<h.size) a l o u rows rs op us:=
 ⟨e.box.cell0 i0,e.box.cell i0,e.box.cell i0,e.box.lt,(n.ai j.ai).mono λb f=>qM f j.ai.1,m.XF λ_=>rfl,q.XF λ_=>rfl,i,λr d=>Ln (k r d),λr d=>abG (k r d) i4⟩
theorem abH(n:Int)(l:Sl)(rows:cV)(rs:List Sl)(h:f8)(hl:gB h (λb=>b<h.size) l 1 aC rows rs)(hs:ii rows<=2^30)(ei:∀r∈rows,ii r<=2^40):
  ac xR 267 #[xH xN n,l] h λv h'=>ahV h h' v (jA n rows) (EW n rows).1 (EW n rows).2.1 (EW n rows).2.2:=by
 refine OS n l ?_;unfold HM;have e1:=hl.Sg;refine uD af (lL.refl h) 1 i0 λa1 h1 b2 eh=>?_;have E:=(lL.refl h).keep (m:=1) eh i5;refine(Pn n l rows rs h1 (hl.ai E.ai) i4 ei).mono ?_;rintro v h2 ⟨rfl,rfl⟩;refine⟨_,i0,?_⟩;refine bm (λhr=>?_) (λhr=>?_)
 ·refine b2.jB af i0 _ i0 i0 i0 (qn _) λh3 ao B=>?_;refine⟨(⟨eH,0,0⟩,⟨eH,0,0⟩,⟨eH,0,0⟩),ao.box.aS _ i0,?_⟩;refine⟨⟨eH,0,0⟩,⟨eH,0,0⟩,⟨eH,0,0⟩,by rw[hr],?_⟩;simp only[EW,hr,ze,if_false];exact(((Sp.zip (E.keep (m:=1) B i5).ai).nil 332 2 fB).nil 3 1 aC).nil 3 1 aC
 ·obtain⟨e0,er,b7⟩:=agl hr;obtain⟨N,rfl⟩:∃N:Nat,n=N:=⟨n.toNat,i4⟩
  have hN:N<=64:=i4
  refine cE (λs h'=>∃c a o u,s=dB a/\lL h h' c/\kB h' c 1 a1 279 [xI eH 0 0,xI eH 0 0,xI eH 0 0]/\kB h' c 2 a 366 [l,xI o.ptr o.len o.cap,xI u.ptr u.len u.cap]/\
   dl h' c 3 4 o 1 eN (qh N eR)/\dl h' c 4 4 u 1 eN (qh rows.length eR)) ⟨?_,?_⟩ ?_
  ·refine Bp af E 3 eN ⟨_,_,i0,i0,i0,i0,i0,i0⟩ i5 eR i0 i0 N i0 i0 i4 λo h3 ho B=>?_;refine⟨trivial,?_⟩;refine Bp af (E.keep (m:=3) B i5) 4 eN ⟨_,_,i0,i0,i0,i0,i0,i0⟩ i5 eR i0 i0 rows.length i4 i4 i4 λu h4 hu G=>?_;refine⟨trivial,?_⟩;refine Sk _ ((E.keep (m:=3) B i5).keep (m:=4) G i5) 2 λa h5 ha A=>?_;exact⟨trivial,_,a,o,u,i0,((E.keep B i5).keep G i5).keep A i5,((b2.keep B i5).keep G i5).keep A i5,ha,(ho.keep G i5).keep A i5,hu.keep A i5⟩
  ·refine Bp af E 4 eN ⟨_,_,i0,i0,i0,i0,i0,i0⟩ i5 eR i0 i0 rows.length i4 i4 i4 λu h3 hu B=>?_;refine⟨trivial,?_⟩;refine Bp af (E.keep (m:=4) B i5) 3 eN ⟨_,_,i0,i0,i0,i0,i0,i0⟩ i5 eR i0 i0 N i0 i0 i4 λo h4 ho G=>?_;refine⟨trivial,?_⟩;refine Sk _ ((E.keep (m:=4) B i5).keep (m:=3) G i5) 2 λa h5 ha A=>?_;exact⟨trivial,_,a,o,u,i0,((E.keep B i5).keep G i5).keep A i5,((b2.keep B i5).keep G i5).keep A i5,ha,ho.keep A i5,(hu.keep G i5).keep A i5⟩
  ·rintro s h3 ⟨c,a,o,u,rfl,cs,bd,ao,ay,c6⟩;refine⟨a,i0,o,ao.box.cell i0,?_⟩;have ep:o.len=N:=by rw[ay.own.len];simp
   refine av (λt:Nat×(Nat->Nat)=>(t.1:Int)) (λt h'=>t.1<=N/\lL h h' t.2/\kB h' t.2 1 a1 279 [xI eH 0 0,xI eH 0 0,xI eH 0 0]/\kB h' t.2 2 a 366 [l,o,u]/\
    dl h' t.2 3 4 o 1 eN (qh t.1 eL++qh (N-t.1) eR)/\dl h' t.2 4 4 u 1 eN (qh rows.length eR)) (λt=>N-t.1) (0,c) i0 ⟨i9,cs,bd,ao,by simpa using ay,c6⟩ ?_
   rintro⟨k,c⟩ h4 ⟨hk,bk,b4,bq,bb,b5⟩;dsimp only at*;refine aj (λej=>?_) (λeg=>?_)
   ·have dr:k<N:=i4
    refine⟨a,i0,o,bq.box.cell i0,?_⟩;refine bb.set af (λ_=>rfl) i0 k i0 i7 eL i0 i0 i0 λh5 bl A=>?_;rw[ak _];rw[adT _ _ dr]at bl;exact⟨(k+1,_),i9,⟨i7,bk.keep A i5,b4.keep A i5,bq.keep A i5,bl,b5.keep A i5⟩,i7⟩
   ·have d4:k=N:=i4
    subst d4;simp only[zc,vd,qN]at bb;refine uD af bk 5 i0 λap h5 d5 A=>?_;have dy:=bk.keep (m:=5) A i5;have c9:=b4.keep (m:=5) A i5;have eb:=bq.keep (m:=5) A i5;have bl:=bb.keep (m:=5) A i5;have dk:=b5.keep (m:=5) A i5;clear bk b4 bq bb b5 cs bd ao ay c6;generalize grow c h4.size 5=c5 at*;refine av (τ:=Nat×List Bool×List Bool×(List (Int×Int))×aF×(Nat->Nat)×Sl×Sl) (λ_=>())
     (λ⟨f,op,us,st,dd,c,ss,ds⟩ h'=>ii op=k/\us.length=ii rows/\op.count eL<=f/\f<=k/\st.length<=k-f/\dd.length<=k-f/\
      (∃r,cB rows f op us=r/\dz k rows=⟨st++r.steps,dd++r.dead,r.used⟩)/\lL h h' c/\
      kB h' c 1 a1 279 [xI eH 0 0,xI eH 0 0,xI eH 0 0]/\kB h' c 2 a 366 [l,o,u]/\
      dl h' c 3 4 o 1 eN op/\dl h' c 4 4 u 1 eN us/\
      kB h' c 5 ap 279 [ss,ds,xI eH 0 0]/\dl h' c 6 332 ss 2 fB st/\dl h' c 7 3 ds 1 aC dd)
     (λt=>t.1) (k,qh k eL,qh rows.length eR,[],[],c5,⟨eH,0,0⟩,⟨eH,0,0⟩) i0
     ⟨i9,i9,i9,i9,i9,i9,⟨_,i0,by simp[dz]⟩,dy,c9,eb,bl,dk,d5,dl.nil _ _ _ _ _ _,dl.nil _ _ _ _ _ _⟩ ?_
    rintro⟨f,op,us,st,dd,c,ss,ds⟩ h6 ⟨a7,K,ek,ew,eo,el,⟨r,a4,a8⟩,I,ad,P,ab,Q,L,M,J⟩;dsimp only at*;have H:∀r∈rows,fA op.length r=eL:=by rw[a7];exact b7
    have a3:=Uy hl I P ab Q K i4 H;refine⟨a,i0,o,P.box.cell i0,?_⟩;refine(Is o op eL h6 (ab.XF λ_=>rfl) i4).mono ?_;rintro v h7 ⟨rfl,rfl⟩;refine⟨_,i0,?_⟩;refine bm (λhc=>?_) (λhc=>?_)
    ·have Z:op.contains eL=eR:=by simpa using hc
     have bd:r=⟨[],[],us⟩:=by rw[<-a4];exact BB Z f
     subst bd;simp only[qN]at a8;refine⟨a,i0,u,P.box.cell i0,?_⟩;have es:u.len=ii rows:=by rw[Q.own.len,K]
     refine av (λt:Nat×(Nat->Nat)×Sl=>(t.1:Int)) (λ⟨j,c,fs⟩ h'=>j<=ii rows/\lL h h' c/\
      kB h' c 1 a1 279 [xI eH 0 0,xI eH 0 0,xI eH 0 0]/\dl h' c 4 4 u 1 eN us/\
      kB h' c 5 ap 279 [ss,ds,fs]/\dl h' c 6 332 ss 2 fB st/\dl h' c 7 3 ds 1 aC dd/\dl h' c 8 3 fs 1 aC (fu us j)) (λt=>ii rows-t.1) (0,c,⟨eH,0,0⟩) i0
      ⟨i9,I,ad,Q,L,M,J,dl.nil _ _ _ _ _ _⟩ ?_
     rintro⟨j,c,fs⟩ h8 ⟨hj,a9,cc,cf,W,ar,a5,a2⟩;dsimp only at*;refine aj (λej=>?_) (λeg=>?_)
     ·have et:j<ii rows:=i4
      have e3:ii (fu us j)<=j:=Je us j;refine(cf.XF λ_=>rfl).bB j i0 i4 _ i0 ?_;have c4:us.getD j eR=us[j]:=Lm i4;rw[ak _];refine bm (λhb=>?_) (λhb=>?_)
      ·refine⟨fs,W.box.cell i0,?_⟩;refine Kt af a9 9 aC ⟨_,_,i0,i0,i0,i0,i0,i0⟩ i0 [(j:Int)] i0 (zL i0) i0 λv h9 d6 p=>?_;refine(a2.keep (m:=9) p i5).append af ⟨_,_,i0,i0,i0,i0,i0,i0⟩ ⟨_,_,i0,i0⟩ i0 i5 (λ_=>rfl) (d6.seq λ_=>rfl) ir i7 λd2 b9 b1 g=>?_;refine((W.keep (m:=9) p i5).keep (m:=8) g i5).store af i0 2 _ i0 i0 i0 (zL i0) λc2 cd d=>?_;refine⟨(j+1,_,d2),i9,⟨i7,((a9.keep p i5).keep g i5).keep d i5,((cc.keep p i5).keep g i5).keep d i5,((cf.keep p i5).keep g i5).keep d i5,cd,
        ((ar.keep p i5).keep g i5).keep d i5,((a5.keep p i5).keep g i5).keep d i5,?_⟩,i7⟩
       have e:fu us (j+1)=fu us j++[(j:Int)]:=by rw[fu,c4,hb];rfl
       rw[e];exact b1.keep d i5
      ·have e:fu us (j+1)=fu us j:=by rw[fu,c4,hb];rfl
       exact⟨(j+1,c,fs),i9,⟨i7,a9,cc,cf,W,ar,a5,by rw[e];exact a2⟩,i7⟩
     ·have d3:j=ii rows:=i4
      subst d3;refine⟨(ss,ds,fs),W.box.aS _ i0,?_⟩;refine cc.jB af i0 _ i0 i0 i0 (qn _) λh9 d9 p=>?_;refine⟨(ss,ds,fs),d9.box.aS _ i0,?_⟩;refine⟨ss,ds,fs,by rw[hr],?_⟩;simp only[EW,hr,if_true,ql,a8];exact agk (a9.keep (m:=1) p i5) (ar.keep (m:=1) p i5) (a5.keep (m:=1) p i5) (a2.keep (m:=1) p i5)
    ·have Z:op.contains eL=eL:=by simpa using hc
     obtain⟨f',rfl⟩:∃f',f=f'+1:=by obtain⟨j,hj,e⟩:=GU Z;have:=kF e;exact⟨f-1,i4⟩
     refine bg ?_;refine(Rw a l o u rows rs op us h7 a3 i4).mono ?_;rintro v h8 ⟨z,rfl⟩;have z:=z.bx c 9;cases hst:mE rows op us with
     |some i=>
      obtain⟨hi,da⟩:=uJ hst;obtain⟨e2,ea,ay⟩:=El da;have c7:rows.getD i []=rows[i]:=by rw[qe,qd hi];rfl
      have en:=Ln (H _ (qg hi)) _ (c7▸ea);refine⟨((i,eT rows op i),eL),i0,?_⟩;dsimp only;refine uD af (I.keep (m:=9) z i5) 9 i0 λax h9 has p=>?_;refine has.jB af i0 _ i0 i0 i0 (qn _) λb9 O g=>?_;refine Gr i0 ?_;have F:=((I.keep (m:=9) z i5).keep (m:=9) p i5).keep (m:=9) g i5;have a0:=((ad.keep (m:=9) z i5).keep (m:=9) p i5).keep (m:=9) g i5;have V:=((P.keep (m:=9) z i5).keep (m:=9) p i5).keep (m:=9) g i5;have Y:=((ab.keep (m:=9) z i5).keep (m:=9) p i5).keep (m:=9) g i5;have X:=((Q.keep (m:=9) z i5).keep (m:=9) p i5).keep (m:=9) g i5;have D:=((L.keep (m:=9) z i5).keep (m:=9) p i5).keep (m:=9) g i5;have T:=((M.keep (m:=9) z i5).keep (m:=9) p i5).keep (m:=9) g i5;have S:=((J.keep (m:=9) z i5).keep (m:=9) p i5).keep (m:=9) g i5;clear I ad P ab Q L M J z p has a3;generalize grow (grow (grow c h7.size 9) h8.size 9) h9.size 9=c10 at*;refine⟨ss,D.box.cell0 i0,(_,_),O.box.aS _ i0,?_⟩;dsimp only;refine Kt af F 10 fB ⟨_,_,i0,i0,i0,i0,i0,i0⟩ i0 [((i:Int),eT rows op i)] i0 (zL i0) i0 λv c2 c1 d=>?_;refine(T.keep (m:=10) d i5).append af ⟨_,_,i0,i0,i0,i0,i0,i0⟩ ⟨_,_,i0,i0⟩ i0 i5 (λ_=>rfl) (c1.seq λ_=>rfl) adS i7 λed d7 b3 q=>?_;refine((D.keep (m:=10) d i5).keep (m:=6) q i5).jB af i0 _ i0 i0 i0 (zL i0) λef b6 x=>?_;have R:=((O.keep (m:=10) d i5).keep (m:=6) q i5).keep (m:=5) x i5;have am:=((V.keep (m:=10) d i5).keep (m:=6) q i5).keep (m:=5) x i5;have c8:=((X.keep (m:=10) d i5).keep (m:=6) q i5).keep (m:=5) x i5;have cn:=((Y.keep (m:=10) d i5).keep (m:=6) q i5).keep (m:=5) x i5;refine⟨a,i0,u,am.box.cell i0,(i:Int),R.box.cell0 i0,a,i0,o,am.box.cell i0,eT rows op i,R.box.cell i0,?_⟩;refine c8.set af (λ_=>rfl) i0 i i0 i4 eL i0 i0 i0 λd8 cp y=>?_;have ah:=R.keep (m:=4) y i5;have U:=am.keep (m:=4) y i5;refine⟨⟨ah.box.cell i0,trivial⟩,?_⟩;refine(cn.keep (m:=4) y i5).set af (λ_=>rfl) i0 (eT rows op i).toNat i4 i4 eR i0 i0 i0 λd1 a6 w=>?_;have du:=ah.keep (m:=3) w i5;have c0:=U.keep (m:=3) w i5;refine⟨trivial,?_⟩;have ec:=kF (op:=op) (j:=(eT rows op i).toNat) ay;rw[oS Z hst]at a4;refine⟨(f',op.set (eT rows op i).toNat eR,us.set i eL,st++[((i:Int),eT rows op i)],dd,_,ed,ds),i0,⟨by simp[a7],by simp[K],i6,i6,i7,i6,⟨_,i0,?_⟩,
       ((((F.keep d i5).keep q i5).keep x i5).keep y i5).keep w i5,
       ((((a0.keep d i5).keep q i5).keep x i5).keep y i5).keep w i5,
       c0,a6,cp.keep w i5,(b6.keep y i5).keep w i5,((b3.keep x i5).keep y i5).keep w i5,
       ((((S.keep d i5).keep q i5).keep x i5).keep y i5).keep w i5⟩,i6⟩
      rw[a8,<-a4];simp
     |none=>
      have dx:=sY (rows:=rows) (us:=us) Z;refine⟨((0,0),eR),i0,?_⟩;dsimp only;refine uD af (I.keep (m:=9) z i5) 9 i0 λax h9 has p=>?_;refine has.jB af i0 _ i0 i0 i0 (qn _) λb9 O g=>?_;refine wn i0 ?_;have F:=((I.keep (m:=9) z i5).keep (m:=9) p i5).keep (m:=9) g i5;have a0:=((ad.keep (m:=9) z i5).keep (m:=9) p i5).keep (m:=9) g i5;have V:=((P.keep (m:=9) z i5).keep (m:=9) p i5).keep (m:=9) g i5;have Y:=((ab.keep (m:=9) z i5).keep (m:=9) p i5).keep (m:=9) g i5;have X:=((Q.keep (m:=9) z i5).keep (m:=9) p i5).keep (m:=9) g i5;have D:=((L.keep (m:=9) z i5).keep (m:=9) p i5).keep (m:=9) g i5;have T:=((M.keep (m:=9) z i5).keep (m:=9) p i5).keep (m:=9) g i5;have S:=((J.keep (m:=9) z i5).keep (m:=9) p i5).keep (m:=9) g i5;clear I ad P ab Q L M J z p has a3;generalize grow (grow (grow c h7.size 9) h8.size 9) h9.size 9=c10 at*;have a3:=Uy hl F V Y X K i4 H;refine(Rx a l o u rows rs op us b9 a3 i4 i4).mono ?_;rintro v c2 ⟨d,rfl⟩;have d:=d.bx c10 9;refine⟨_,i0,?_⟩;refine⟨ds,(D.keep (m:=9) d i5).box.cell i0,?_⟩;refine Kt af (F.keep (m:=9) d i5) 10 aC ⟨_,_,i0,i0,i0,i0,i0,i0⟩ i0 [gQ rows op us] i0 (zL i0) i0 λv d7 cr q=>?_;refine((S.keep (m:=9) d i5).keep (m:=10) q i5).append af ⟨_,_,i0,i0,i0,i0,i0,i0⟩ ⟨_,_,i0,i0⟩ i0 i5 (λ_=>rfl) (cr.seq λ_=>rfl) ir i7 λd0 ef br x=>?_;refine(((D.keep (m:=9) d i5).keep (m:=10) q i5).keep (m:=7) x i5).store af i0 1 _ i0 i0 i0 (zL i0) λd8 b0 y=>?_;have U:=(((V.keep (m:=9) d i5).keep (m:=10) q i5).keep (m:=7) x i5).keep (m:=5) y i5;have cq:=(((Y.keep (m:=9) d i5).keep (m:=10) q i5).keep (m:=7) x i5).keep (m:=5) y i5;refine⟨a,i0,o,U.box.cell i0,?_⟩;refine cq.set af (λ_=>rfl) i0 (gQ rows op us).toNat i4 i4 eR i0 i0 i0 λd1 a6 w=>?_;have ec:=kF (op:=op) (j:=(gQ rows op us).toNat) dx.2.2;rw[oT Z hst]at a4;refine⟨(f',op.set (gQ rows op us).toNat eR,us,st,dd++[gQ rows op us],_,ss,d0),i0,⟨by simp[a7],K,i6,i6,i6,i7,⟨_,i0,?_⟩,
       ((((F.keep d i5).keep q i5).keep x i5).keep y i5).keep w i5,
       ((((a0.keep d i5).keep q i5).keep x i5).keep y i5).keep w i5,
       U.keep w i5,a6,((((X.keep d i5).keep q i5).keep x i5).keep y i5).keep w i5,b0.keep w i5,
       ((((T.keep d i5).keep q i5).keep x i5).keep y i5).keep w i5,
       (br.keep y i5).keep w i5⟩,i6⟩
      rw[a8,<-a4];simp
theorem NC(pool:List (Sl×Row))(d:(⟨eH,0,0⟩,[])∈pool)(n:Nat):fx pool id (qh n ⟨eH,0,0⟩) (qh n []):=
 ⟨i9,λi r l a b=>by
  rw[wv]at a b;split at a
  ·rename_i c;rw[f9 c]at b;cases a;cases b;exact d
  ·cases a⟩
theorem aa.agm{B:aB}{b h:f8}{As:List HP}(H:aa B b h As)(i:Nat){pool:List (Sl×Row)}(c:As[i]?=dB (kU pool)):aa B b h (As.set i (kU ((⟨eH,0,0⟩,[])::pool))):=
 H.fI i c λq d x a=>by
  rcases zd.1 a with rfl|a
  ·exact Seq.nil _ _ _ _ _ _
  ·exact d x a
structure YY (h:f8) (f:fz) (r st dd lf:Sl) (rr:List (Sl×Sl)) (R:List fe) (ST:List (Int×Int)) (D L:aF):Prop where
 field:fw h f
 rest:nU ji 2 qv h r rr R
 steps:Rd h st 2 fB ST
 dead:Rd h dd 1 aC D
 left:Rd h lf 1 aC L
abbrev SA(s:fz)(a:be):HP:=aw s 281 a
abbrev HA(s:Sl)(rs:List Sl):HP:=aq 34 s 1 bt rs
abbrev RA(s:Sl)(l:Row):HP:=aq 5 s 1 aE l
theorem QA{R:cV}:∀{l1 l2:List (Int×Int)} {D:Int->Prop},ta R D (l1++l2)->ta R D l1/\ta R (λx=>D x∨∃i,(i,x)∈l1) l2
 |[],l2,D,h=>⟨trivial,by
  have:(λx=>D x∨∃i,(i,x)∈([]:List (Int×Int)))=D:=by funext x;simp
  rw[this];exact h⟩
 |(i,c)::l1,l2,D,h=>by
  obtain⟨a,b,f,d,e⟩:=h;obtain⟨g,k⟩:=QA e;refine⟨⟨a,b,f,d,g⟩,?_⟩;have:(λx=>D x∨∃j,(j,x)∈(i,c)::l1)=λx=>(D x∨x=c)∨∃j,(j,x)∈l1:=by
   funext x;simp only[zd,Prod.mk.injEq,eq_iff_iff];constructor
   ·rintro(h|⟨j,⟨_,h⟩|h⟩)
    ·exact .inl (.inl h)
    ·exact .inl (.inr h)
    ·exact .inr ⟨j,h⟩
   ·rintro((h|h)|⟨j,h⟩)
    ·exact .inl h
    ·exact .inr ⟨i,.inl ⟨i0,h⟩⟩
    ·exact .inr ⟨j,.inr h⟩
  rw[this];exact k
section
variable {B:aB} {h0 h:f8} {As:List HP}
theorem Wo(s f:fz)(p:Int×Int×Int)(v r Y V U N P:Sl)(n:Nat)(pool:List (Sl×Row))(H:aa B h0 h (SA s (gn f p v r Y V U N P)::kU pool::As))(m:v.len=n)(hn:n<=64){K:Unit->f8->Prop}
  (R:∀g d h',g.len=n->d.len=n->aa B h0 h' (SA s (gn f p v r Y V U g d)::HA g (qh n ⟨eH,0,0⟩)::HA d (qh n ⟨eH,0,0⟩)::kU pool::As)->K () h'):(λ(c:aT) (Q:Unit->f8->Prop)=>
 ∃a3:fz,(c=dB a3)/\
 ∃b:Sl,f7 h (a3.add 4)=dB (xI b.ptr b.len b.cap)/\
 ∃a5:fz,(c=dB a5)/\
 ∃a:Sl,f7 h (a5.add 4)=dB (xI a.ptr a.len a.cap)/\
 (az xR (qF 85 (xH xN ((b.len:Nat):Int)) (xH xN ((b.len:Nat):Int))) (.one (.sc .slc)) h λy G=>
 (aA.ok [(a5.add 4,(xI a.ptr a.len a.cap)),(a3.add 4,(xI b.ptr b.len b.cap))] G)/\
 ∃S:fz,(c=dB S)/\
 (az xR (qF 85 (xH xN ((a.len:Nat):Int)) (xH xN ((a.len:Nat):Int))) (.one (.sc .slc)) G λv9 z=>
 (aA.ok [(a5.add 4,(xI a.ptr a.len a.cap)),(a3.add 4,(xI b.ptr b.len b.cap))] z)/\
 ag xR (qf 85 (xJ (dB (S.add 9))) (xI y.ptr y.len y.cap)) z λ_ h3=>
 (aA.ok [] h3)/\
 ∃A:fz,(c=dB A)/\
 ag xR (qf 85 (xJ (dB (A.add 10))) (xI v9.ptr v9.len v9.cap)) h3 λ_ q=>
 (aA.ok [] q)/\
 Q () q)/\(ag xR (qf 85 (xJ (dB (S.add 9))) (xI y.ptr y.len y.cap)) G λ_ Z=>
 (aA.ok [] Z)/\
 az xR (qF 85 (xH xN ((a.len:Nat):Int)) (xH xN ((a.len:Nat):Int))) (.one (.sc .slc)) Z λt X=>
 (aA.ok [] X)/\
 ∃E:fz,(c=dB E)/\
 ag xR (qf 85 (xJ (dB (E.add 10))) (xI t.ptr t.len t.cap)) X λ_ W=>
 (aA.ok [] W)/\
 Q () W))/\(az xR (qF 85 (xH xN ((a.len:Nat):Int)) (xH xN ((a.len:Nat):Int))) (.one (.sc .slc)) h λw h8=>
 (aA.ok [(a5.add 4,(xI a.ptr a.len a.cap)),(a3.add 4,(xI b.ptr b.len b.cap))] h8)/\
 az xR (qF 85 (xH xN ((b.len:Nat):Int)) (xH xN ((b.len:Nat):Int))) (.one (.sc .slc)) h8 λu h9=>
 (aA.ok [(a5.add 4,(xI a.ptr a.len a.cap)),(a3.add 4,(xI b.ptr b.len b.cap))] h9)/\
 ∃F:fz,(c=dB F)/\
 ag xR (qf 85 (xJ (dB (F.add 9))) (xI u.ptr u.len u.cap)) h9 λ_ J=>
 (aA.ok [] J)/\
 ∃I:fz,(c=dB I)/\
 ag xR (qf 85 (xJ (dB (I.add 10))) (xI w.ptr w.len w.cap)) J λ_ M=>
 (aA.ok [] M)/\
 Q () M)) (dB s) K:=by
 have T:=H.box 0 i0;refine⟨s,i0,v,T.cell i0,s,i0,v,T.cell i0,?_,?_⟩
 ·refine H.make af bt fj i5 ⟨eH,0,0⟩ i0 i0 n n oo oo (qn _) i4 λg G o O l=>?_;have l:=l.bN;have k:=l.box 1 i0;refine⟨⟨k.cell i0,k.cell i0,trivial⟩,s,i0,?_,?_⟩
  ·refine l.make af bt fj i5 ⟨eH,0,0⟩ i0 i0 n n oo oo (qn _) i4 λd z e L j=>?_;have j:=j.bN;have i:=j.box 2 i0;refine⟨⟨i.cell i0,i.cell i0,trivial⟩,?_⟩;refine j.store af 2 i0 i0 9 [g] i0 i0 i0 m8 λh3 x=>⟨trivial,s,i0,?_⟩
   refine x.store af 2 i0 i0 10 [d] i0 i0 i0 m8 λq D=>⟨trivial,?_⟩
   exact R g d q o e (D.bs 4 [2,1,0,3])
  ·refine l.store af 1 i0 i0 9 [g] i0 i0 i0 m8 λz j=>⟨trivial,?_⟩
   refine j.make af bt fj i5 ⟨eH,0,0⟩ i0 i0 n n oo oo (qn _) i4 λd h3 e L x=>⟨trivial,s,i0,?_⟩
   have x:=x.bN;refine x.store af 2 i0 i0 10 [d] i0 i0 i0 m8 λq D=>⟨trivial,?_⟩
   exact R g d q o e (D.bs 4 [2,1,0,3])
 ·refine H.make af bt fj i5 ⟨eH,0,0⟩ i0 i0 n n oo oo (qn _) i4 λd G o O l=>?_;have l:=l.bN;have k:=l.box 1 i0;refine⟨⟨k.cell i0,k.cell i0,trivial⟩,?_⟩;refine l.make af bt fj i5 ⟨eH,0,0⟩ i0 i0 n n oo oo (qn _) i4 λg z e L j=>?_;have j:=j.bN;have i:=j.box 2 i0;refine⟨⟨i.cell i0,i.cell i0,trivial⟩,s,i0,?_⟩;refine j.store af 2 i0 i0 9 [g] i0 i0 i0 m8 λh3 x=>⟨trivial,s,i0,?_⟩
  refine x.store af 2 i0 i0 10 [d] i0 i0 i0 m8 λq D=>⟨trivial,?_⟩
  exact R g d q e o (D.bs 4 [2,0,1,3])
end
section
variable {B:aB} {h0 h:f8} {As:List HP}
theorem abI(n nd w:Nat)(d:aF):(fM n nd w d).1.length=n/\(fM n nd w d).2.length=n:=by
 unfold fM;have:∀(l:List (Int×Nat)) (s:aQ×aQ),(l.foldl (λs p=>(s.1.set p.1.toNat (ow nd p.2),s.2.set p.1.toNat (aO w))) s).1.length=ii s.1/\(l.foldl (λs p=>(s.1.set p.1.toNat (ow nd p.2),s.2.set p.1.toNat (aO w))) s).2.length=ii s.2:=by
  intro l
  induction l with
  |nil=>intro s;exact⟨i0,i0⟩
  |cons a l ih=>intro s;rw[zy];have:=ih (s.1.set a.1.toNat (ow nd a.2),s.2.set a.1.toNat (aO w));simpa using this
 have:=this d.zipIdx (qh n [],qh n []);simpa using this
abbrev Told(s f:fz)(p:Int×Int×Int)(v r h e d a b:Sl)(i g:List Sl)(c:List (Sl×Row)):List HP:=[SA s (gn f p v r h e d a b),HA a i,HA b g,kU c]
theorem YZ(s f:fz)(p:Int×Int×Int)(v r st Q lf wa V:Sl)(I mr:List Sl)(pl:List (Sl×Row))(c:Int)(nd w:Nat)(H:aa B h0 h (Told s f p v r st Q lf wa V I mr pl++As))(ay:0<=c)(hw:c.toNat<ii I)(hm:c.toNat<ii mr)(Y:p.2.2=w)(hd:Q.len=nd)(ax:nd<=64)(T:w<=2^20){K:Unit->f8->Prop}
  (hk:∀a b h',aa B h0 h' (RA a (aO nd)::RA b (aO w)::(Told s f p v r st Q lf wa V (I.set c.toNat a) (mr.set c.toNat b) pl++As))->K () h'):(λ(W:aT) (K3:Unit->f8->Prop)=>
 ∃l:fz,(W=dB l)/\
 ∃g:Sl,f7 h (l.add 9)=dB (xI g.ptr g.len g.cap)/\
 ∃a25:fz,(W=dB a25)/\
 ∃d:Sl,f7 h (a25.add 10)=dB (xI d.ptr d.len d.cap)/\
 ∃R:fz,(W=dB R)/\
 ∃j:Int,f7 h ((R.add 1).add 2)=dB (xH xN j)/\
 (az xR (qF 34 (xH xN ((Q.len:Nat):Int)) (xH xN ((Q.len:Nat):Int))) (.one (.sc .slc)) h λn P=>
 (aA.ok [((R.add 1).add 2,(xH xN j)),(a25.add 10,(xI d.ptr d.len d.cap)),(l.add 9,(xI g.ptr g.len g.cap))] P)/\
 ∃S:fz,(g.ptr=dB S/\0<=c/\c<((g.len:Nat):Int))/\
 (az xR (qF 34 (xH xN j) (xH xN j)) (.one (.sc .slc)) P λU ad=>
 (aA.ok [(a25.add 10,(xI d.ptr d.len d.cap)),(l.add 9,(xI g.ptr g.len g.cap))] ad)/\
 ag xR (qf 34 (xJ (dB (S.add (c.toNat*1)))) (xI n.ptr n.len n.cap)) ad λ_ u=>
 (aA.ok [] u)/\
 ∃E:fz,(d.ptr=dB E/\0<=c/\c<((d.len:Nat):Int))/\
 ag xR (qf 34 (xJ (dB (E.add (c.toNat*1)))) (xI U.ptr U.len U.cap)) u λ_ y=>
 (aA.ok [] y)/\
 K3 () y)/\(ag xR (qf 34 (xJ (dB (S.add (c.toNat*1)))) (xI n.ptr n.len n.cap)) P λ_ F=>
 (aA.ok [] F)/\
 az xR (qF 34 (xH xN j) (xH xN j)) (.one (.sc .slc)) F λk D=>
 (aA.ok [] D)/\
 ∃q:fz,(d.ptr=dB q/\0<=c/\c<((d.len:Nat):Int))/\
 ag xR (qf 34 (xJ (dB (q.add (c.toNat*1)))) (xI k.ptr k.len k.cap)) D λ_ z=>
 (aA.ok [] z)/\
 K3 () z))/\(az xR (qF 34 (xH xN j) (xH xN j)) (.one (.sc .slc)) h λN am=>
 (aA.ok [(a25.add 10,(xI d.ptr d.len d.cap)),(l.add 9,(xI g.ptr g.len g.cap))] am)/\
 az xR (qF 34 (xH xN ((Q.len:Nat):Int)) (xH xN ((Q.len:Nat):Int))) (.one (.sc .slc)) am λO ah=>
 (aA.ok [(a25.add 10,(xI d.ptr d.len d.cap)),(l.add 9,(xI g.ptr g.len g.cap))] ah)/\
 ∃ap:fz,(g.ptr=dB ap/\0<=c/\c<((g.len:Nat):Int))/\
 ag xR (qf 34 (xJ (dB (ap.add (c.toNat*1)))) (xI O.ptr O.len O.cap)) ah λ_ ab=>
 (aA.ok [] ab)/\
 ∃ao:fz,(d.ptr=dB ao/\0<=c/\c<((d.len:Nat):Int))/\
 ag xR (qf 34 (xJ (dB (ao.add (c.toNat*1)))) (xI N.ptr N.len N.cap)) ab λ_ ar=>
 (aA.ok [] ar)/\
 K3 () ar)) (dB s) K:=by
 have hb:=H.box 0 i0;have mk:∀{X:f8} {Cs:List HP} (m:Nat) (hm:m<=2^20) {z1 z2:Int},z1=(m:Int)->z2=(m:Int)->aa B h0 X Cs->∀{K:Sl->f8->Prop},(∀a h',aa B h0 h' (RA a (aO m)::Cs)->K a h')->
   az xR (qF 34 (xH xN z1) (xH xN z2)) (.one (.sc .slc)) X K:=by
  intro X Cs m hm z1 z2 e1 e2 G K hK;subst e1;subst e2;exact G.make af aE gj i5 0 i0 i0 m m i0 i0 (qn _) i4 λa h' _ _ H'=>hK a h' H'.bN
 refine⟨s,i0,wa,hb.cell i0,s,i0,V,hb.cell i0,s,i0,p.2.2,show f7 h (s.add 3)=_ from hb.cell i0,?_,?_⟩
 ·refine mk nd i4 (by rw[hd]) (by rw[hd]) H λa X G=>?_;have o:=G.box 1 i0;refine⟨⟨show f7 X (s.add 3)=_ from o.cell i0,o.cell i0,o.cell i0,trivial⟩,?_⟩;have A:∀{Z:f8} {Cs:List HP} {I:List Sl} (i:Nat) (a:Sl) {s':Sl},aa B h0 Z Cs->Cs[i]?=dB (HA s' I)->c.toNat<ii I->∀{K:f8->Prop},(∀h',aa B h0 h' (Cs.set i (HA s' (I.set c.toNat a)))->K h')->∃x:fz,(s'.ptr=dB x/\0<=c/\c<((s'.len:Nat):Int))/\ag xR (qf 34 (xJ (dB (x.add (c.toNat*1)))) (xI a.ptr a.len a.cap)) Z λ_ h'=>K h':=by intro Z Cs I i a s' M hi hl K hK;exact M.set af i hi (λ_=>rfl) i0 c.toNat i4 hl a i0 i0 i0 λh3 L=>hK h3 L
  obtain⟨x,hx,-⟩:=A (K:=λ_=>True) 2 a G rfl hw λ_ _=>trivial;refine⟨x,hx,?_,?_⟩
  ·refine mk w T Y Y G λb Z M=>?_;have t:=M.box 2 i0;refine⟨⟨t.cell i0,t.cell i0,trivial⟩,?_⟩;obtain⟨x',J,hr⟩:=A (K:=λu=>aA.ok [] u/\∃E:fz,(V.ptr=dB E/\0<=c/\c<((V.len:Nat):Int))/\
 ag xR (qf 34 (xJ (dB (E.add (c.toNat*1)))) (xI b.ptr b.len b.cap)) u λ_ y=>(aA.ok [] y)/\K () y) 3 a M i0 hw λh3 L=>⟨trivial,A 4 b L i0 hm λh4 H4=>⟨trivial,hk a b h4 (H4.bs 6 [1,0,2,3,4,5])⟩⟩
   have e:x=x':=zS.inj (hx.1.symm.trans J.1);subst e;exact hr
  ·obtain⟨x',J,hr⟩:=A (K:=λF=>aA.ok [] F/\az xR (qF 34 (xH xN p.2.2) (xH xN p.2.2)) (.one (.sc .slc)) F λk D=>
 (aA.ok [] D)/\
 ∃q:fz,(V.ptr=dB q/\0<=c/\c<((V.len:Nat):Int))/\
 ag xR (qf 34 (xJ (dB (q.add (c.toNat*1)))) (xI k.ptr k.len k.cap)) D λ_ z=>
 (aA.ok [] z)/\K () z) 2 a G i0 hw λh3 L=>⟨trivial,mk w T Y Y L λb h4 H4=>⟨trivial,A 4 b H4 i0 hm λh5 H5=>⟨trivial,hk a b h5 (H5.bs 6 [1,0,2,3,4,5])⟩⟩⟩
   have e:x=x':=zS.inj (hx.1.symm.trans J.1);subst e;exact hr
 ·refine mk w T Y Y H λb X G=>?_;have o:=G.box 1 i0;refine⟨⟨o.cell i0,o.cell i0,trivial⟩,?_⟩;refine mk nd i4 (by rw[hd]) (by rw[hd]) G λa Z M=>?_;have t:=M.box 2 i0;refine⟨⟨t.cell i0,t.cell i0,trivial⟩,?_⟩;refine M.set af 3 i0 (λ_=>rfl) i0 c.toNat i4 hw a i0 i0 i0 λh3 L=>⟨trivial,?_⟩
  refine L.set af 4 i0 (λ_=>rfl) i0 c.toNat i4 hm b i0 i0 i0 λh4 H4=>⟨trivial,hk a b h4 (H4.bs 6 [0,1,2,3,4,5])⟩
end
section
variable {B:aB} {h0 h:f8} {As:List HP}
theorem Uz{h:f8}{Cs:List HP}(x:Sl)(m:Row)(nd:Nat)(z:Int)(H:aa B h0 h Cs)(v:z=nd)(y:nd<=64)(E:ii m<=2^20){L L2:aA}(w:L.ok h)(g:L2.ok h)(r:St B h0 Cs λh=>Rd h x 1 aE m){K:Sl->Sl->f8->Prop}
  (s:∀a b h',aV (λb=>b<h.size) h h'->aa B h0 h' (RA a (aO nd)::RA b m::Cs)->K a b h'):
  (az xR (qF 34 (xH xN z) (xH xN z)) (.one (.sc .slc)) h λl d=>
 (aA.ok L d)/\
 ae xR 146 #[(xI x.ptr x.len x.cap)] (.one (.sc .slc)) d λo n=>K l o n)/\(ae xR 146 #[(xI x.ptr x.len x.cap)] (.one (.sc .slc)) h λp e=>
 (aA.ok L2 e)/\
 az xR (qF 34 (xH xN z) (xH xN z)) (.one (.sc .slc)) e λk i=>K k p i):=by
 subst v;constructor
 ·refine H.LF af aE gj i5 0 i0 i0 nd nd i0 i0 (qn _) i4 λa t _ u c=>⟨kf u w,?_⟩
  have c:=c.bN;refine(eI x m t (r.at [_] c) i4).mono ?_;rintro _ f ⟨b,rfl,q⟩;exact⟨b,i0,s a b f (up u q.ai) ((c.cD q).sV)⟩
 ·refine(eI x m h (r.at [] H) i4).mono ?_;rintro _ t ⟨b,rfl,j⟩;have c:=H.cD j;refine⟨b,i0,kf j.ai g,?_⟩;refine c.LF af aE gj i5 0 i0 i0 nd nd i0 i0 (qn _) i4 λa f _ A D=>?_;exact s a b f (up j.ai A) D.bN
structure mh (pool pl:List (Sl×Row)) (wr mr:List Sl) (W M:aQ):Prop where
 sub:∀x∈pool,x∈pl
 way:fx pl id wr W
 more:fx pl id mr M
theorem mh.step{pool e:List (Sl×Row)}{g f:List Sl}{W M:aQ}(x:mh pool e g f W M)(c:Nat)(a b:Sl)(l m:Row):mh pool ((b,m)::(a,l)::e) (g.set c a) (f.set c b) (W.set c l) (M.set c m):=
 ⟨λy d=>by simp[x.sub y d],(x.way.mono λy d=>pa).set c i9,(x.more.mono λy d=>pa).set c i9⟩
theorem Za(s f:fz)(p:Int×Int×Int)(v r A o G a9 bb:Sl)(rr:List (Sl×Sl))(R:List fe)(ST:List (Int×Int))(D L:aF)(n nd w:Nat)(pool:List (Sl×Row))(H:aa B h0 h (SA s (gn f p v r A o G a9 bb)::kU pool::As))(hS:St B h0 As λh=>YY h f r A o G rr R ST D L)
  (hv:v.len=n) (hn:n<=64) (hp:p.2.2=w) (hw:w<=2^20) (bd:ii D=nd) (ab:nd<=64) (hR:∀e∈R,iF n w e) (hD:∀c∈D,0<=c/\c<(n:Int)) (br:D.Nodup) (hg:ta (R.map qJ) (·∈D) ST) (cc:ii ST<=2^20) (b0:∀e∈R,ii e.1<=2^20) (ax:(⟨eH,0,0⟩,[])∈pool):
  ac xR 218 #[xJ (dB s)] h λv' h'=>v'=.tuple #[]/\∃d l z u J,aa B h0 h' (Told s f p v r A o G d l z u J++As)/\mh pool J z u (ST.foldl (gS R nd) (fM n nd w D)).1 (ST.foldl (gS R nd) (fM n nd w D)).2:=by
 refine Bg (dB s) ?_;unfold pj;have hb:=H.box 0 i0;have a1:o.len=nd:=by rw[(hS.at [_,_] H).dead.len,bd]
 refine⟨s,i0,o,show f7 h (s.add 7)=_ from hb.cell i0,?_⟩;refine cE (λ_ h'=>∃d l,d.len=n/\l.len=n/\aa B h0 h' (Told s f p v r A o G d l (qh n ⟨eH,0,0⟩) (qh n ⟨eH,0,0⟩) pool++As)) ?_ ?_
 ·exact Wo (K:=λ_ h'=>∃d l,d.len=n/\l.len=n/\aa B h0 h' (Told s f p v r A o G d l (qh n ⟨eH,0,0⟩) (qh n ⟨eH,0,0⟩) pool++As)) s f p v r A o G a9 bb n pool H hv hn λd l h' h1 h2 O=>⟨d,l,h1,h2,O⟩
 rintro-h1 ⟨d,l,cq,cr,H1⟩;have b9:=H1.box 0 i0;refine⟨s,i0,o,show f7 h1 (s.add 7)=_ from b9.cell i0,?_⟩;refine av (λt:Nat×List Sl×List Sl×List (Sl×Row)=>(t.1:Int)) (λt h'=>t.1<=nd/\aa B h0 h' (Told s f p v r A o G d l t.2.1 t.2.2.1 t.2.2.2++As)/\mh pool t.2.2.2 t.2.1 t.2.2.1 (fM n nd w (D.take t.1)).1 (fM n nd w (D.take t.1)).2) (λt=>nd-t.1)
  (0,qh n ⟨eH,0,0⟩,qh n ⟨eH,0,0⟩,pool) i0 ⟨i4,H1,⟨λ_ h=>h,NC pool ax n,NC pool ax n⟩⟩ ?_
 rintro⟨i,z,u,J⟩ h2 ⟨hi,H2,T2⟩;dsimp only at*;have bk:=abI n nd w (D.take i);have P:=T2.way.1;have S:=T2.more.1;refine aj (λe=>?_) (λe=>?_)
 ·have Z:i<nd:=i4
  have U:=hD _ (qg (show i<ii D by omega));refine(hS.at [_,_,_,_] H2).dead.bB i i0 i4 _ i0 ?_;refine cE (λ_ h'=>∃a b,aa B h0 h' (RA a (aO nd)::RA b (aO w)::(Told s f p v r A o G d l (z.set D[i].toNat a) (u.set D[i].toNat b) J++As))) ?_ ?_
  ·exact YZ (K:=λ_ h'=>∃a b,aa B h0 h' (RA a (aO nd)::RA b (aO w)::(Told s f p v r A o G d l (z.set D[i].toNat a) (u.set D[i].toNat b) J++As))) s f p v r A o G d l z u J D[i] nd w H2 U.1 i4 i4 hp a1 ab hw λa b h' O=>⟨a,b,O⟩
  rintro-h3 ⟨a,b,H3⟩;refine⟨s,i0,d,(H3.box 2 i0).cell i0,?_⟩;refine(H3.seq 3 i0 λ_=>rfl).lM D[i].toNat i4 i7 ?_;rw[yR];refine H3.set af 0 i0 (λ_=>rfl) i0 i i0 (by simp[aO];omega) 1 i0 i0 i0 λh4 H4=>?_;have H5:=(H4.freeze 0 i0 λ_=>rfl).pool 5 0 i5 i0 i0;have H6:=(H5.freeze 1 i0 λ_=>rfl).pool 5 1 i5 i0 i0;refine⟨(i+1,z.set D[i].toNat a,u.set D[i].toNat b,_),jj,⟨i6,H6.bs 6 [2,3,4,5],?_⟩,i6⟩;dsimp only;have e1:D.take (i+1)=D.take i++[D[i]]:=aK _ _;have e2:ii (D.take i)=i:=i7
  rw[e1,LU,e2];exact T2.step D[i].toNat a b (ow nd i) (aO w)
 have am:i=ii D:=i4
 subst am;rw[q8]at T2 bk P S;refine⟨s,i0,A,(H2.box 0 i0).cell i0,?_⟩;have cd:=(hS.at [_,_,_,_] H2).steps.len;refine av (λt:Nat×List Sl×List Sl×List (Sl×Row)=>(t.1:Int)) (λt h'=>t.1<=ii ST/\aa B h0 h' (Told s f p v r A o G d l t.2.1 t.2.2.1 t.2.2.2++As)/\mh pool t.2.2.2 t.2.1 t.2.2.1 ((ST.take t.1).foldl (gS R nd) (fM n nd w D)).1 ((ST.take t.1).foldl (gS R nd) (fM n nd w D)).2) (λt=>ii ST-t.1)
  (0,z,u,J) i0 ⟨i9,H2,T2⟩ ?_
 clear P S T2 H2 hi e;rintro⟨i,z,u,J⟩ h3 ⟨hi,H3,T3⟩;dsimp only at*;obtain⟨dk,-⟩:=Oo (nd:=nd) (w:=w) hD br D.length (qn _);rw[q8]at dk;have a6:=QA (l1:=ST.take i) (l2:=ST.drop i) (by rw[qA];exact hg);obtain⟨ay,-⟩:=KF hR a6.1 dk;obtain⟨W,hW⟩:∃W,W=((ST.take i).foldl (gS R nd) (fM n nd w D)).1:=⟨_,rfl⟩
 obtain⟨M,hM⟩:∃M,M=((ST.take i).foldl (gS R nd) (fM n nd w D)).2:=⟨_,rfl⟩
 have ao:(ST.take i).foldl (gS R nd) (fM n nd w D)=(W,M):=by rw[hW,hM]
 have I:WOk n nd w (λc=>c∈D∨∃j,(j,c)∈ST.take i) W M:=by rw[hW,hM];exact ay
 rw[<-hW,<-hM]at T3;clear ay hW hM;have cs:=I.wl;have cf:=I.ml;have P:=T3.way.1;have S:=T3.more.1;refine aj (λe=>?_) (λe=>?_)
 ·have Z:i<ii ST:=i4
  have ah:=a6.2;rw[qV Z]at ah;obtain⟨row,bx,ad⟩:∃row bx,ST[i]=(row,bx):=⟨_,_,rfl⟩
  rw[ad]at ah;obtain⟨g1,g2,g3,g4,-⟩:=ah;have m:row.toNat<ii R:=by have:=g1.2;rw[qy]at this;omega
  obtain⟨k,X⟩:∃k,k=R[row.toNat]:=⟨_,rfl⟩
  have er:R.getD row.toNat ([],[])=k:=by rw[qe,qd m,X];rfl
  have b3:(R.map qJ).getD row.toNat []=k.1:=by rw[qe,qR,qd m,X];rfl
  rw[b3]at g3 g4;have N:=hR k (X▸qg m);have cn:=b0 k (X▸qg m);have cp:=N.cS bx g3;have G3:=hS.at [_,_,_,_] H3;have hF:=G3.rest.2.1;refine G3.steps.dQ (g:=fB) i i0 Z ST[i] i0 ?_;rw[ad];refine H3.GA af i0 λa50 h4 P4 H4=>?_;have H4:=H4.bN;refine H4.storeAll af 0 i0 i0 (fB (row,bx)) i0 i0 i0 i0 λh5 H5=>?_;have b7:row.toNat<ii rr:=by rw[hF];exact m
  obtain⟨y,hy⟩:∃y,y=rr[row.toNat]:=⟨_,rfl⟩
  have E:∀{h'},nU ji 2 qv h' r rr R->ji.p h' (λb=>b<h'.size) y k:=λhh=>by rw[hy,X];exact Fix.row hh m
  refine cE (λa' h'=>aa B h0 h' (aw a' 275 (qv y)::aw a50 332 (fB (row,bx))::(Told s f p v r A o G d l z u J++As))) ?_ ?_
  ·have a2:=H5.box 1 i0;have G5:=hS.at [_,_,_,_,_] H5;refine⟨s,i0,r,a2.cell i0,row,(H5.box 0 i0).cell0 i0,?_⟩;obtain⟨b2,ha,x,U,rfl⟩:=G5.rest.1.dQ (g:=qv) (i:=row) row.toNat i4 b7 y (by rw[hy]) (K:=λx=>x=y) rfl;refine⟨b2,ha,_,U,?_⟩;refine H5.GA af i0 λT h6 P6 H6=>⟨⟨pr U.1 P6,pr U.2.1 P6,pr ((H5.box 0 i0).cell0 i0) P6,pr (a2.cell i0) P6,trivial⟩,?_⟩
   have H6:=H6.bN;refine H6.storeAll af 0 i0 i0 (qv x) i0 i0 i0 i0 λh7 H7=>⟨trivial,H7⟩
  intro T h7 H7;refine cE (λt h'=>aa B h0 h' (RA t.1 (aO nd)::RA t.2 k.2::aw T 275 (qv y)::aw a50 332 (fB (row,bx))::(Told s f p v r A o G d l z u J++As))) ?_ ?_
  ·have a5:=H7.box 0 i0;refine⟨y.2,a5.cell i0,?_⟩;exact Uz (L:=[(T.add 1,xI y.2.ptr y.2.len y.2.cap)]) (K:=λa b h'=>aA.ok [] h'/\aa B h0 h' (RA a (aO nd)::RA b k.2::aw T 275 (qv y)::aw a50 332 (fB (row,bx))::(Told s f p v r A o G d l z u J++As))) y.2 k.2 nd _ H7 (by rw[a1]) ab (by rw[N.len];exact hw) ⟨a5.cell i0,trivial⟩ (L2:=[]) trivial (St.mk' λh' O=>(E (hS.at [_,_,_,_,_,_] O).rest).2) λa b h' _ O=>⟨trivial,O⟩
  rintro⟨Q,q⟩ h8 H8;dsimp only at H8;refine⟨y.1,(H8.box 2 i0).cell0 i0,?_⟩;have c1:=(E (hS.at [_,_,_,_,_,_,_,_] H8).rest).1.len;let F:Nat->aF:=λj=>(k.1.take j).filter λc=>!decide (c=bx);refine av (λj:Nat=>(j:Int)) (λj h'=>j<=ii k.1/\aa B h0 h' (RA Q (cO W (aO nd) (F j))::RA q (cO M k.2 (F j))::aw T 275 (qv y)::aw a50 332 (fB (row,bx))::(Told s f p v r A o G d l z u J++As))) (λj=>ii k.1-j) 0 i0 ⟨i4,by simpa[F,cO]using H8⟩ ?_;rintro j h9 ⟨hj,H9⟩;have told:∀c∈F j,ii (aD W c.toNat)=nd/\(aD M c.toNat).length=w:=λc U=>by
   have a4:=qI.1 U;have hm:=zD a4.1;exact I.rw_ c (g4 c hm (by simpa using a4.2)) (N.cS c hm).1 (N.cS c hm).2
  have a8:ii (cO W (aO nd) (F j))=nd:=jG k8 λc U=>(told c U).1;have ar:ii (cO M k.2 (F j))=w:=jG N.len λc U=>(told c U).2;refine aj (λe2=>?_) (λe2=>?_)
  ·have V:j<ii k.1:=i4
   have ap:=N.cS _ (qg V);refine(E (hS.at [_,_,_,_,_,_,_,_] H9).rest).1.bB j i0 V _ i0 ?_;refine⟨bx,(H9.box 3 i0).cell i0,?_⟩;refine cv (λa7=>?_) (λb4=>?_)
   ·have tc:=I.rw_ k.1[j] (g4 _ (qg V) a7) ap.1 ap.2;refine(Ir s f 1 k.1[j] Q q d l _ _ z u W M H9 (St.mk' λh' O=>?_) ap.1 i4 i4 (by rw[tc.1,a8]) (by rw[tc.2,ar]) i4 i4).mono ?_
    ·exact DF.of (O.box 2 i0) (hS.at [_,_,_,_,_,_] O).field (O.EV 3 5 i0 i0 T3.way) (O.EV 4 5 i0 i0 T3.more)
    rintro _ b5 ⟨rfl,Y⟩;have e3:F (j+1)=F j++[k.1[j]]:=by simp only[F];rw[jw _ _ V];simp[a7]
    exact⟨(),i0,j+1,js,⟨i4,by rw[e3,tR,tR];exact Y⟩,i4⟩
   ·have e3:F (j+1)=F j:=by simp only[F];rw[jw _ _ V];simp[b4]
    exact⟨j+1,js,⟨i4,by rw[e3];exact H9⟩,i4⟩
  ·have b1:j=ii k.1:=i4
   subst b1;have a0:=H9.box 3 i0;have a3:=H9.box 4 i0;refine⟨s,i0,d,a3.cell i0,bx,a0.cell i0,s,i0,l,a3.cell i0,bx,a0.cell i0,?_⟩;refine H9.set af 5 i0 (λ_=>rfl) i0 bx.toNat i4 i4 Q i0 i0 i0 λb5 Y=>⟨⟨(Y.box 3 i0).cell i0,trivial⟩,?_⟩
   refine Y.set af 6 i0 (λ_=>rfl) i0 bx.toNat i4 i4 q i0 i0 i0 λc0 b6=>⟨trivial,?_⟩
   have bq:=(b6.freeze 0 i0 λ_=>rfl).pool 7 0 i5 i0 i0;have bl:=(bq.freeze 1 i0 λ_=>rfl).pool 7 1 i5 i0 i0;refine⟨(i+1,z.set bx.toNat Q,u.set bx.toNat q,_),jj,⟨i6,bl.bs 8 [4,5,6,7],?_⟩,i6⟩;dsimp only;rw[aK _ _ Z,zN,ao,ad];have e3:[(row,bx)].foldl (gS R nd) (W,M)=(W.set bx.toNat (cO W (aO nd) (F k.1.length)),M.set bx.toNat (cO M k.2 (F k.1.length))):=by simp only[zy,List.foldl_nil,gS,er,F,q8]
   rw[e3];exact T3.step bx.toNat Q q _ _
 ·have am:i=ii ST:=i4
  subst am;rw[q8]at ao;exact⟨i0,d,l,z,u,J,H3,by rw[ao];exact T3⟩
end
def ky(nd:Nat)(known:List Bool)(vals:aQ)(s:aQ×aQ)(i:Nat):aQ×aQ:=
 (s.1.mapIdx λc r=>if c<i/\known.getD c eR=eL then aO nd else r,s.2.mapIdx λc r=>if c<i/\known.getD c eR=eL then aD vals c else r)
theorem Zb(nd:Nat)(known:List Bool)(vals:aQ)(s:aQ×aQ):ky nd known vals s 0=s:=by unfold ky;refine y5 ?_ ?_<;>refine wx i9 λi b a=>?_<;>simp
theorem abJ(nd:Nat)(known:List Bool)(vals:aQ)(s:aQ×aQ){n:Nat}(a:ii s.1=n)(b:ii s.2=n):ky nd known vals s n=ik nd known vals s:=by unfold ky ik;refine y5 ?_ ?_<;>refine wx i9 λi a b=>?_<;>simp at a<;>simp[show i<n by omega]
theorem abK(nd:Nat)(known:List Bool)(vals:aQ)(s:aQ×aQ){i:Nat}(d:known.getD i eR=eL):ky nd known vals s (i+1)=((ky nd known vals s i).1.set i (aO nd),(ky nd known vals s i).2.set i (aD vals i)):=by
 unfold ky;refine y5 ?_ ?_<;>refine wx i9 λj f e=>?_<;>simp only[List.getElem_mapIdx,List.getElem_set]<;>by_cases c:i=j
 ·subst c;rw[f9 ⟨i4,d⟩,f9 rfl]
 ·rw[g0 c];congr 1;simp only[eq_iff_iff];constructor<;>rintro⟨a,b⟩<;>exact⟨i4,b⟩
 ·subst c;rw[f9 ⟨i4,d⟩,f9 rfl]
 ·rw[g0 c];congr 1;simp only[eq_iff_iff];constructor<;>rintro⟨a,b⟩<;>exact⟨i4,b⟩
theorem adU(nd:Nat)(known:List Bool)(vals:aQ)(s:aQ×aQ){i:Nat}(e:known.getD i eR=eR):ky nd known vals s (i+1)=ky nd known vals s i:=by
 have d:∀j,(j<i+1/\known.getD j eR=eL)↔(j<i/\known.getD j eR=eL):=λj=>by
  constructor
  ·rintro⟨a,b⟩;by_cases c:j=i
   ·subst c;rw[e]at b;cases b
   ·exact⟨i4,b⟩
  ·rintro⟨a,b⟩;exact⟨i4,b⟩
 unfold ky;simp only[d]
section
variable {B:aB} {h0 h:f8} {As:List HP}
theorem abL(s f:fz)(p:Int×Int×Int)(v r N y K G I:Sl)(j g d:List Sl)(l:List (Sl×Row))(known:List Bool)(V W M:aQ)(n nd:Nat)(H:aa B h0 h (Told s f p v r N y K G I g d l++HA v j::As))(hn:n<=64)(z:y.len=nd)(X:nd<=64)(hT:mh l l g d W M)(S:fx l id j V)(Y:ii V=n)(F:ii W=n)(A:ii M=n)
  (hk:∀(c:Nat) (hc:c<ii j),j[c].ptr.isNone=!(known.getD c eR)):
  ac xR 219 #[xJ (dB s)] h λv' h'=>v'=.tuple #[]/\∃g d b,aa B h0 h' (Told s f p v r N y K G I g d b++HA v j::As)/\mh l b g d (ik nd known V (W,M)).1 (ik nd known V (W,M)).2:=by
 refine Cx (dB s) ?_;unfold re;have R:=S.1;have O:v.len=n:=by rw[(H.own 4 i0).len];omega
 refine⟨s,i0,v,(H.box 0 i0).cell i0,?_⟩;refine av (λt:Nat×List Sl×List Sl×List (Sl×Row)=>(t.1:Int)) (λt h'=>t.1<=n/\aa B h0 h' (Told s f p v r N y K G I t.2.1 t.2.2.1 t.2.2.2++HA v j::As)/\mh l t.2.2.2 t.2.1 t.2.2.1 (ky nd known V (W,M) t.1).1 (ky nd known V (W,M) t.1).2) (λt=>n-t.1) (0,g,d,l) i0 ⟨i4,H,by rw[Zb];exact hT⟩ ?_;rintro⟨i,g,d,b⟩ h1 ⟨hi,u,k⟩;dsimp only at*;have Z:(ky nd known V (W,M) i).1.length=n:=by simp[ky,F]
 have ad:(ky nd known V (W,M) i).2.length=n:=by simp[ky,A]
 have P:=k.way.1;have Q:=k.more.1;refine aj (λe=>?_) (λe=>?_)
 ·have ab:i<n:=i4
  refine(u.seq 4 i0 λ_=>rfl).lM i i0 i4 ?_;have E:=hk i i4;refine bm (λD=>?_) (λD=>?_)
  ·have o:known.getD i eR=eL:=by rw[E]at D;simpa using D
   have q:=u.box 0 i0;refine⟨s,i0,G,q.cell i0,s,i0,I,q.cell i0,s,i0,y,show f7 h1 (s.add 7)=_ from q.cell i0,?_⟩;refine u.LF af aE gj i5 0 i0 i0 nd nd (by rw[z]) (by rw[z]) (qn _) i4 λa T _ P2 J=>?_;have J:=J.bN;have m:=J.box 1 i0;refine⟨⟨show f7 T (s.add 7)=_ from m.cell i0,m.cell i0,m.cell i0,trivial⟩,?_⟩;refine J.set af 2 i0 (λ_=>rfl) i0 i i0 i4 a i0 i0 i0 λh3 H3=>⟨trivial,?_⟩
   refine H3.set af 3 i0 (λ_=>rfl) i0 i i0 i4 (j[i]'(by omega)) i0 i0 i0 λh4 H4=>⟨trivial,?_⟩
   have H5:=(H4.freeze 0 i0 λ_=>rfl).pool 4 0 i5 i0 i0;refine⟨(i+1,g.set i a,d.set i (j[i]'(by omega)),_),jj,⟨i6,H5.bs 5 [1,2,3,4],?_⟩,i6⟩;dsimp only;rw[abK nd known V (W,M) o];have U:((j[i]'(by omega)),aD V i)∈l:=by have:=S.get (i:=i) i4;rw[mz i4];exact this
   exact⟨λx w=>qS _ (k.sub x w),(k.way.mono λx w=>qS _ w).set i k8,(k.more.mono λx w=>qS _ w).set i (qS _ (k.sub _ U))⟩
  ·have o:known.getD i eR=eR:=by rw[E]at D;simpa using D
   exact⟨(i+1,g,d,b),jj,⟨i6,u,by dsimp only;rw[adU nd known V (W,M) o];exact k⟩,i6⟩
 ·have L:i=n:=i4
  subst L;exact⟨i0,g,d,b,u,by rw[<-abJ nd known V (W,M) F A];exact k⟩
def nF(nd:Nat)(known:List Bool)(vals W M D:aQ)(i:Nat):aQ:=vals.mapIdx λc r=>if c<i/\known.getD c eR=eR then gD D (aD W c) (aD M c) nd else r
theorem abM(nd:Nat)(known:List Bool)(vals W M D:aQ):nF nd known vals W M D 0=vals:=by unfold nF;refine wx i9 λi b a=>?_;simp
theorem adV(nd:Nat)(known:List Bool)(vals W M D:aQ){n:Nat}(a:ii vals=n):nF nd known vals W M D n=Ai nd known vals W M D:=by
 unfold nF Ai;refine wx i9 λi a b=>?_;simp at a;simp only[List.getElem_mapIdx];cases hk:known.getD i eR
 ·rw[f9 ⟨i4,i0⟩,g0 i9]
 ·rw[g0 i9,f9 rfl]
theorem adW(nd:Nat)(known:List Bool)(vals W M D:aQ){i:Nat}(e:known.getD i eR=eL):nF nd known vals W M D (i+1)=nF nd known vals W M D i:=by
 have d:∀j,(j<i+1/\known.getD j eR=eR)↔(j<i/\known.getD j eR=eR):=λj=>by
  constructor
  ·rintro⟨a,b⟩;by_cases c:j=i
   ·subst c;rw[e]at b;cases b
   ·exact⟨i4,b⟩
  ·rintro⟨a,b⟩;exact⟨i4,b⟩
 unfold nF;simp only[d]
theorem agn(nd:Nat)(known:List Bool)(vals W M D:aQ){i:Nat}(d:known.getD i eR=eR):nF nd known vals W M D (i+1)=(nF nd known vals W M D i).set i (gD D (aD W i) (aD M i) nd):=by
 unfold nF;refine wx i9 λj f e=>?_;simp only[List.getElem_mapIdx,List.getElem_set];by_cases c:i=j
 ·subst c;rw[f9 ⟨i4,d⟩,f9 rfl]
 ·rw[g0 c];congr 1;simp only[eq_iff_iff];constructor<;>rintro⟨a,b⟩<;>exact⟨i4,b⟩
theorem abN(s f:fz)(p:Int×Int×Int)(v r st X Z I P dead:Sl)(g E z dr:List Sl)(A:List (Sl×Row))(known:List Bool)(V W M D:aQ)(n nd w:Nat)(H:aa B h0 h (Told s f p v r st X Z I P E z A++HA v g::As))(hS:St B h0 As λh=>fw h f/\gB h (λb=>b<h.size) dead 1 aE D dr)(hn:n<=64)(hw:w<=2^20)(a5:nd<=64)(Y:mh A A E z W M)(hV:fx A id g V)(N:ii V=n)(a9:ii W=n)(a6:ii M=n)
  (O:∀c,c<n->ii (aD W c)=nd/\(aD M c).length=w) (bb:ii D=nd) (G:aZ w D) (hk:∀(c:Nat) (l:c<ii g),g[c].ptr.isNone=!(known.getD c eR)):
  ac xR 222 #[xJ (dB s),dead] h λv' h'=>v'=.tuple #[]/\∃S a,aa B h0 h' (Told s f p v r st X Z I P E z a++HA v S::As)/\fx a id S (Ai nd known V W M D):=by
 refine Dn (dB s) dead ?_;unfold rN;have a3:=hV.1;have ax:v.len=n:=by rw[(H.own 4 i0).len];omega
 have a1:=Y.way.1;have a2:=Y.more.1;refine⟨s,i0,v,(H.box 0 i0).cell i0,?_⟩;refine av (λt:Nat×List Sl×List (Sl×Row)=>(t.1:Int)) (λt h'=>t.1<=n/\aa B h0 h' (Told s f p v r st X Z I P E z t.2.2++HA v t.2.1::As)/\fx t.2.2 id t.2.1 (nF nd known V W M D t.1)/\(∀x∈A,x∈t.2.2)/\∀(c:Nat) (l:c<ii t.2.1),t.1<=c->t.2.1[c].ptr.isNone=!(known.getD c eR)) (λt=>n-t.1) (0,g,A) i0 ⟨i4,H,by rw[abM];exact hV,λ_ h=>h,λc l _=>hk c l⟩ ?_;rintro⟨i,g,a⟩ h1 ⟨hi,o,U,d,u⟩;dsimp only at*;have a8:ii (nF nd known V W M D i)=n:=by simp[nF,N]
 have a4:=U.1;refine aj (λe=>?_) (λe=>?_)
 ·have ar:i<n:=i4
  have R:=o.box 0 i0;refine⟨s,i0,v,R.cell i0,?_⟩;refine(o.seq 4 i0 λ_=>rfl).lM i i0 i4 ?_;have J:=u i i4 (qn _);refine bm (λL=>?_) (λL=>?_)
  ·have y:known.getD i eR=eL:=by rw[J]at L;simpa using L
   exact⟨(i+1,g,a),jj,⟨i6,o,by dsimp only;rw[adW nd known V W M D y];exact U,d,λc l h=>u c l (by dsimp only at h;omega)⟩,i6⟩
  have y:known.getD i eR=eR:=by rw[J]at L;simpa using L
  have ao:=O i ar;have ah:((z[i]'(by omega)),aD M i)∈a:=by have:=(Y.more.mono d).get (i:=i) i4;rw[mz i4];exact this
  have K:((E[i]'(by omega)),aD W i)∈a:=by have:=(Y.way.mono d).get (i:=i) i4;rw[mz i4];exact this
  refine⟨s,i0,P,R.cell i0,?_⟩;refine(o.seq 2 i0 λ_=>rfl).lM i i0 i4 ?_;refine(eI _ (aD M i) h1 (o.Ny 3 i0 ah) i4).mono ?_;rintro _ h2 ⟨b,rfl,R2⟩;have T:=o.cD R2;have ad:=T.box 1 i0;refine⟨b,i0,s,i0,I,ad.cell i0,?_⟩;refine(T.seq 2 i0 λ_=>rfl).lM i i0 i4 ?_;have ap:=(T.Ny 4 i0 K).len;refine av (λj:Nat=>(j:Int)) (λj h'=>j<=nd/\aa B h0 h' (RA b (gD D (aD W i) (aD M i) j)::(Told s f p v r st X Z I P E z a++HA v g::As))) (λj=>nd-j) 0 i0 ⟨i4,T⟩ ?_;rintro j h3 ⟨hj,F⟩;refine aj (λe3=>?_) (λe3=>?_)
  ·have a7:j<nd:=i4
   have q:j<ii (aD W i):=i4
   refine(F.Ny 4 i0 K).bB j i0 q _ i0 ?_;obtain⟨S1,S2⟩:=hS.at [_,_,_,_,_,_] F;have bd:=S2.len;refine S2.top.lM j i0 i4 ?_;have am:ii (D[j]'(by omega))=w:=G _ (qg _);have Q:(aD W i)[j]'q=aP (aD W i) j:=by rw[aP,qe,qd q];rfl
   have ay:ii (gD D (aD W i) (aD M i) j)=w:=lS _ ao.2 λk hk=>cl G;rw[Q];refine Iq s f (aP (aD W i) j) (dr[j]'(by omega)) b (D[j]'(by omega)) _ F (St.mk' λh' H'=>?_) (by rw[am,ay]) i4 λh4 H4=>?_
   ·obtain⟨q1,q2⟩:=hS.at [_,_,_,_,_] H';exact⟨(H'.box 0 i0).cell0 i0,q1,q2.row _ _ _ (qd _) (qd _)⟩
   ·refine⟨j+1,js,⟨i4,?_⟩,i4⟩;rw[gD,mz (m:=D) (i:=j) i4];exact H4
  ·have ab:j=nd:=i4
   subst ab;refine⟨s,i0,v,(F.box 1 i0).cell i0,?_⟩;refine F.set af 5 i0 (λ_=>rfl) i0 i i0 i4 b i0 i0 i0 λh4 H4=>?_;have H5:=(H4.freeze 0 i0 λ_=>rfl).pool 4 0 i5 i0 i0;refine⟨(i+1,g.set i b,_),jj,⟨i6,H5.bs 6 [1,2,3,4,5],?_,λx hx=>qS _ (d x hx),λc l h=>?_⟩,i6⟩
   ·dsimp only;rw[agn j known V W M D y];exact(U.mono λx hx=>qS _ hx).set i i9
   ·dsimp only at l h⊢;rw[List.getElem_set_ne i4];exact u c (by simpa using l) i4
 ·have a0:i=n:=i4
  subst a0;exact⟨i0,g,a,o,by rw[<-adV nd known V W M D N];exact U⟩
end
section
variable {B:aB} {h0 h:f8} {As:List HP}
abbrev MA(s:Sl)(m:aQ):HP:=gl 34 s 1 aE m
abbrev UA:iM Sl Row:=agL (ct 1 aE) λr _=>r.len<=r.cap
abbrev CA(s:Sl)(m:aQ):HP:=bX 34 s 1 bt UA m
theorem aa.abO{e:Nat}{s:Sl}{l:Row}(H:aa B h0 h As)(i:Nat)(c:As[i]?=dB (aq e s 1 aE l)):aa B h0 h (As.set i (EA UA s l)):=
 H.fI i c λ_ ⟨a,b⟩=>⟨a.seq (λ_=>rfl) b,a.cap⟩
theorem Zc(s f:fz)(p:Int×Int×Int)(v r U J S I N:Sl)(u m:List Sl)(Q:List (Sl×Row))(rr:List (Sl×Sl))(R:List fe)(ST:List (Int×Int))(D L:aF)(W M:aQ)(n nd w:Nat)(H:aa B h0 h (Told s f p v r U J S I N u m Q++As))(hS:St B h0 As λh=>YY h f r U J S rr R ST D L)
  (hn:n=p.1.toNat+p.2.1.toNat) (hp:p.2.2=w) (hw:w<=2^20) (ay:bI p=eL) (bk:ii D=nd) (a7:nd<=64) (hR:∀e∈R,iF n w e) (bq:∀e∈R,ii e.1<=2^20) (hL:∀i∈L,0<=i/\i<(ii R:Int)) (cd:ii L<=2^20) (hT:mh Q Q u m W M) (cn:ii W=n) (b7:ii M=n)
  (E:∀c,c<n->ii (aD W c)=nd/\(aD M c).length=w):
  ac xR 220 #[xJ (dB s)] h λv' h'=>∃a b:Sl,v'=.tuple #[a,b]/\aa B h0 h' (MA a (dn n nd R W L (bD p.1.toNat p.2.1.toNat))::CA b (fv n w R M L (bD p.1.toNat p.2.1.toNat))::(Told s f p v r U J S I N u m Q++As)):=by
 refine Bh (dB s) ?_;unfold pk;have hb:=H.box 0 i0;have ab:J.len=nd:=by rw[(hS.at [_,_,_,_] H).dead.len,bk]
 have cq:=(ce p).1 ay;have b4:=hT.way.1;have b5:=hT.more.1;refine⟨s,i0,J,show f7 h (s.add 7)=_ from hb.cell i0,s,i0,S,show f7 h (s.add 8)=_ from hb.cell i0,?_⟩;have cp:=(hS.at [_,_,_,_] H).left.len;have ax:∀{h':f8} {Cs:List HP},aa B h0 h' (Cs++(Told s f p v r U J S I N u m Q++As))->aa B h0 h' (Told s f p v r U J S I N u m Q++As):=λ{h' Cs} T=>T.take Cs.length λi A hi=>by
  rw[qj i4,Nat.add_sub_cancel_left];exact hi
 have SR:∀{h':f8},aa B h0 h' (Told s f p v r U J S I N u m Q++As)->DF h' s f I N u m W M:=λT=>DF.of (T.box 0 i0) (hS.at [_,_,_,_] T).field (T.EV 1 3 i0 i0 hT.way) (T.EV 2 3 i0 i0 hT.more);let rA:Int->Row:=λi=>cO W (aO nd) (R.getD i.toNat ([],[])).1;let rB:Int->Row:=λi=>cO M (R.getD i.toNat ([],[])).2 (R.getD i.toNat ([],[])).1;have H0:aa B h0 h (MA ⟨eH,0,0⟩ []::CA ⟨eH,0,0⟩ []::(Told s f p v r U J S I N u m Q++As)):=((H.Gw 34 1 bt UA).bN.LC 34 1 aE).bN;refine av (λt:Nat×Sl×Sl=>(t.2.1,t.2.2,(t.1:Int))) (λt h'=>t.1<=ii L/\aa B h0 h' (MA t.2.1 ((L.take t.1).map rA)::CA t.2.2 ((L.take t.1).map rB)::(Told s f p v r U J S I N u m Q++As))) (λt=>ii L-t.1) (0,⟨eH,0,0⟩,⟨eH,0,0⟩) i0 ⟨i9,H0⟩ ?_;rintro⟨i,a,b⟩ h1 ⟨hi,H1⟩;dsimp only at*;refine aj (λe=>?_) (λe=>?_)
 ·have o:i<ii L:=i4
  have G1:=hS.at [_,_,_,_,_,_] H1;refine G1.left.bB i i0 o _ i0 ?_;have hx:=hL _ (qg o);generalize b1:L[i]=x at hx⊢;have F:x.toNat<ii R:=i4
  obtain⟨d,ap⟩:∃d,d=R[x.toNat]:=⟨_,rfl⟩
  have er:R.getD x.toNat ([],[])=d:=by rw[qe,qd F,ap];rfl
  have ao:=hR d (ap▸qg F);have cc:=bq d (ap▸qg F);have hF:=G1.rest.2.1;have bb:x.toNat<ii rr:=by rw[hF];exact F
  obtain⟨y,hy⟩:∃y,y=rr[x.toNat]:=⟨_,rfl⟩
  have O:∀{h'},nU ji 2 qv h' r rr R->ji.p h' (λb=>b<h'.size) y d:=λhh=>by rw[hy,ap];exact Fix.row hh F
  refine cE (λt h'=>aa B h0 h' (RA t.1 (aO nd)::RA t.2 d.2::MA a ((L.take i).map rA)::CA b ((L.take i).map rB)::(Told s f p v r U J S I N u m Q++As))) ?_ ?_
  ·have ar:=H1.box 2 i0;refine⟨s,i0,r,ar.cell i0,?_⟩;obtain⟨a9,ha,z,hc,rfl⟩:=G1.rest.1.dQ (g:=qv) (i:=x) x.toNat i4 bb y (by rw[hy]) (K:=λz=>z=y) rfl;refine⟨a9,ha,z.2,hc.2.1,?_⟩;have a4:aA.ok [(s.add 5,xI r.ptr r.len r.cap)] h1:=⟨ar.cell i0,trivial⟩
   exact Uz (L:=[((a9.add (x.toNat*2)).add 1,xI z.2.ptr z.2.len z.2.cap),(s.add 5,xI r.ptr r.len r.cap)]) (L2:=[(s.add 5,xI r.ptr r.len r.cap)]) (K:=λa' b' h'=>aA.ok [(s.add 5,xI r.ptr r.len r.cap)] h'/\aa B h0 h' (RA a' (aO nd)::RA b' d.2::MA a ((L.take i).map rA)::CA b ((L.take i).map rB)::(Told s f p v r U J S I N u m Q++As)))
    z.2 d.2 nd _ H1 (by rw[ab]) a7 (by rw[ao.len];exact hw) ⟨hc.2.1,a4⟩ a4 (St.mk' λh' T=>(O (hS.at [_,_,_,_,_,_] T).rest).2) λa b h' P T=>⟨kf P a4,T⟩
  rintro⟨X,G⟩ h2 H2;dsimp only at H2;have G2:=hS.at [_,_,_,_,_,_,_,_] H2;refine⟨s,i0,r,(H2.box 4 i0).cell i0,?_⟩;obtain⟨br,ha,z,hc,rfl⟩:=G2.rest.1.dQ (g:=qv) (i:=x) x.toNat i4 bb y (by rw[hy]) (K:=λz=>z=y) rfl;refine⟨br,ha,z.1,hc.1,?_⟩;have b0:=(O G2.rest).1.len;refine av (λj:Nat=>(j:Int)) (λj h'=>j<=ii d.1/\aa B h0 h' (RA X (cO W (aO nd) (d.1.take j))::RA G (cO M d.2 (d.1.take j))::MA a ((L.take i).map rA)::CA b ((L.take i).map rB)::(Told s f p v r U J S I N u m Q++As))) (λj=>ii d.1-j) 0 i0 ⟨i4,by simpa[cO]using H2⟩ ?_;rintro j h3 ⟨hj,Z⟩;have told:∀c∈d.1.take j,ii (aD W c.toNat)=nd/\(aD M c.toNat).length=w:=λc hc=>by
   have cf:=ao.cS c (zD hc);exact E c.toNat i4
  have am:ii (cO W (aO nd) (d.1.take j))=nd:=jG k8 λc hc=>(told c hc).1;have Y:ii (cO M d.2 (d.1.take j))=w:=jG ao.len λc hc=>(told c hc).2;refine aj (λe2=>?_) (λe2=>?_)
  ·have ad:j<ii d.1:=i4
   have b2:=ao.cS _ (qg ad);refine(O (hS.at [_,_,_,_,_,_,_,_] Z).rest).1.bB j i0 ad _ i0 ?_;have tc:=E d.1[j].toNat i4;refine(Ir s f 1 d.1[j] X G I N _ _ u m W M Z (St.mk' λh' T=>SR (ax (Cs:=[_,_]) T)) b2.1 i4 i4 (by rw[tc.1,am]) (by rw[tc.2,Y]) i4 i4).mono ?_;rintro _ h4 ⟨rfl,V⟩;exact⟨(),i0,j+1,js,⟨i4,by rw[aK _ _ ad,tR,tR];exact V⟩,i4⟩
  ·have a2:j=ii d.1:=i4
   subst a2;rw[q8]at Z;have V:=aa.abO (Z.freeze 0 i0 λ_=>rfl) 1 i0;refine V.uX af 2 0 i5 i0 i0 fj i7 λa' h5 H5=>?_;refine H5.sH af 3 1 i5 i0 i0 fj i0 i5 (λ_=>rfl) iU i0 i5 i7 λb' h6 H6=>?_;refine⟨(i+1,a',b'),jj,⟨i6,?_⟩,i6⟩;dsimp only;rw[aK _ _ o,qT,qT,b1];have e3:[x].map rA=[cO W (aO nd) d.1]:=by simp only[wz,vY,rA,er]
   have e4:[x].map rB=[cO M d.2 d.1]:=by simp only[wz,vY,rB,er]
   rw[e3,e4];exact H6.bs 8 [2,3,4,5,6,7]
 have a6:i=ii L:=i4
 subst a6;rw[q8]at H1;have ar:=H1.box 2 i0;refine⟨s,i0,p,ar.cells 1 _ i0,(ui p h1).mono ?_⟩;rintro _ h2 ⟨q,rfl,R2⟩;rw[ay,f9 rfl]at R2;obtain⟨l,a5⟩:∃l,l=bD p.1.toNat p.2.1.toNat:=⟨_,rfl⟩
 have b6:ii l=p.2.1.toNat:=by rw[a5];simp[bD]
 have a8:∀x∈l,ii x=n:=λx hx=>by rw[hn];exact LQ _ _ x (a5▸hx)
 rw[<-a5]at R2⊢;have H2:=(H1.cD R2).RK 0 i0;obtain⟨qr,H2⟩:=H2.Oe 0 rfl λ_=>rfl;have b9:=(H2.eG 0 i0).1.len;have cr:=(H2.eG 0 i0).2.1;refine⟨q,i0,?_⟩;let a0:Row->Row:=λx=>gD W x (aO nd) n;let a1:Row->Row:=λx=>gD M x (aO w) n;refine av (λt:Nat×Sl×Sl=>(t.2.1,t.2.2,(t.1:Int))) (λt h'=>t.1<=ii l/\aa B h0 h' (cK (ct 1 aE) 1 bt q qr l::MA t.2.1 (L.map rA++(l.take t.1).map a0)::CA t.2.2 (L.map rB++(l.take t.1).map a1)::(Told s f p v r U J S I N u m Q++As))) (λt=>ii l-t.1) (0,a,b) i0 ⟨i9,by simpa using H2⟩ ?_;rintro⟨i,a,b⟩ h3 ⟨hi,Z⟩;dsimp only at*;refine aj (λe=>?_) (λe=>?_)
 ·have o:i<ii l:=i4
  have b3:=a8 _ (qg o);have F3:=Z.eG 0 i0;refine F3.1.lM i i0 i4 ?_;have b0:(qr[i]'(by omega)).len=n:=by rw[(Fix.row F3 o).len,b3]
  refine cE (λt h'=>aa B h0 h' (RA t.1 (aO nd)::RA t.2 (aO w)::cK (ct 1 aE) 1 bt q qr l::MA a (L.map rA++(l.take i).map a0)::CA b (L.map rB++(l.take i).map a1)::(Told s f p v r U J S I N u m Q++As))) ?_ ?_
  ·have bl:=Z.box 3 i0;refine⟨s,i0,p.2.2,show f7 h3 (s.add 3)=_ from bl.cell i0,?_,?_⟩
   ·refine Z.make af aE gj i5 0 i0 i0 nd nd (by rw[ab]) (by rw[ab]) (qn _) i4 λx h4 _ _ V=>?_;have V:=V.bN;refine⟨⟨show f7 h4 (s.add 3)=_ from(V.box 4 i0).cell i0,trivial⟩,?_⟩;refine V.make af aE gj i5 0 i0 i0 w w hp hp (qn _) i4 λy h5 _ _ H5=>⟨trivial,H5.bN.sV⟩
   ·refine Z.make af aE gj i5 0 i0 i0 w w hp hp (qn _) i4 λy h4 _ _ V=>⟨trivial,?_⟩
    refine V.bN.make af aE gj i5 0 i0 i0 nd nd (by rw[ab]) (by rw[ab]) (qn _) i4 λx h5 _ _ H5=>⟨trivial,H5.bN⟩
  rintro⟨X,G⟩ h4 V;dsimp only at V⊢;refine av (λj:Nat=>(j:Int)) (λj h'=>j<=n/\aa B h0 h' (RA X (gD W l[i] (aO nd) j)::RA G (gD M l[i] (aO w) j)::cK (ct 1 aE) 1 bt q qr l::MA a (L.map rA++(l.take i).map a0)::CA b (L.map rB++(l.take i).map a1)::(Told s f p v r U J S I N u m Q++As))) (λj=>n-j) 0 i0 ⟨i4,V⟩ ?_;rintro j h5 ⟨hj,H5⟩;have am:ii (gD W l[i] (aO nd) j)=nd:=lS _ k8 λk hk=>(E k i4).1;have Y:ii (gD M l[i] (aO w) j)=w:=lS _ k8 λk hk=>(E k i4).2;refine aj (λe2=>?_) (λe2=>?_)
  ·have ad:j<n:=i4
   have a3:j<l[i].length:=i4
   refine(Fix.row (H5.eG 2 i0) o).bB j i0 a3 _ i0 ?_;have bd:l[i][j]'a3=aP l[i] j:=by rw[aP,qe,qd a3];rfl
   rw[bd];have tc:=E j ad;refine(Ir s f (aP l[i] j) (j:Int) X G I N _ _ u m W M H5 (St.mk' λh' T=>SR (ax (Cs:=[_,_,_]) T)) i4 i4 i4 (by rw[ql,tc.1,am]) (by rw[ql,tc.2,Y]) i4 i4).mono ?_;rintro _ h6 ⟨rfl,H6⟩;rw[ql]at H6;exact⟨(),i0,j+1,js,⟨i4,H6⟩,i4⟩
  ·have a2:j=n:=i4
   subst a2;have H6:=aa.abO (H5.freeze 0 i0 λ_=>rfl) 1 i0;refine H6.uX af 3 0 i5 i0 i0 fj i7 λa' h7 H7=>?_;refine H7.sH af 4 1 i5 i0 i0 fj i0 i5 (λ_=>rfl) iU i0 i5 i7 λb' h8 H8=>?_;refine⟨(i+1,a',b'),jj,⟨i6,?_⟩,i6⟩;dsimp only;rw[aK _ _ o,qT,qT,<-qp,<-qp];exact H8.bs 9 [2,3,4,5,6,7,8]
 ·have a6:i=ii l:=i4
  subst a6;rw[q8]at Z;exact⟨a,b,i0,Z.rest⟩
end
section
variable {B:aB} {h0 h:f8} {As:List HP}
theorem It{α:Type}{g:α->Bool}{l:List α}{i:Nat}(h:i<ii l)(a:∀j (b:j<ii l),j<i->g l[j]=eR)(c:g l[i]=eL):l.findIdx g=i:=by rw[List.findIdx_eq h];exact⟨c,λj b=>a j i4 b⟩
theorem Wp(s:Sl)(l:aF)(b:FuncId)(a:Array Value)(g:Int->Bool)(Q:f8->Prop)(A:C.fns[b]?=dB eL)(y:St B h0 As Q)(p:∀x h',Q h'->ac xR b ([Value.int .i64 x]++a.toList).toArray h' λv r=>v=xL (g x)/\Sp h' r [])(H:aa B h0 h (aq 3 s 1 aC l::As))(E:ii l<=2^20):
  ac xR 189 #[s,.func (.func b) #[] a] h λv h'=>v=xH xN (if l.findIdx g<ii l then(l.findIdx g:Int)else-1)/\aa B h0 h' (aq 3 s 1 aC l::As):=by
 refine iv s (b,#[],a) ?_;unfold gm;have w:=(H.own 0 i0).len;refine av (λi:Nat=>(i:Int)) (λi h'=>aa B h0 h' (aq 3 s 1 aC l::As)/\i<=ii l/\∀j (k:j<ii l),j<i->g l[j]=eR) (λi=>ii l-i) 0 i0 ⟨H,i4,λj _ k=>i4⟩ ?_;rintro i z ⟨f,F,d⟩;refine aj (λe=>?_) (λe=>?_)
 ·have c:i<ii l:=i4
  refine(f.seq 0 i0 λ_=>rfl).bB i i0 c _ i0 ?_;refine fa A ?_;refine(p l[i] z (y.at [_] f)).mono ?_;rintro _ D ⟨rfl,t⟩;refine⟨_,i0,bv (λq=>?_) λq=>?_⟩
  ·rw[It c d q,f9 c];exact⟨i0,f.up t.ai⟩
  ·refine⟨i+1,js,⟨f.up t.ai,i4,λj k o=>?_⟩,i4⟩;rcases zn.1 o with h3|rfl
   ·exact d j k h3
   ·exact q
 ·have n:¬l.findIdx g<ii l:=by rw[w4];rintro⟨x,u,m⟩;obtain⟨j,k,rfl⟩:=qH u;rw[d j k i4]at m;cases m
  rw[g0 n];exact⟨i0,f⟩
theorem Zd{α:Type}{g:α->Bool}{l:List α}{j:Nat}(h:j<l.findIdx g)(a:j<ii l):g l[j]=eR:=by simpa using List.not_of_lt_findIdx h
structure mF {α:Type} (g:α->Bool) (l l':List α) (i j:Nat):Prop where
 len:ii l'=ii l
 le:i<=j
 pre:l'.take i=(l.take j).filter λx=>!g x
 post:l'.drop j=l.drop j
theorem mF.start{α:Type}{g:α->Bool}{l:List α}{i:Nat}(h:i<ii l)(b:l.findIdx g=i):mF g l l i (i+1):=by
 refine⟨i0,i4,?_,i0⟩;have a:g l[i]=eL:=by have:=List.findIdx_getElem (xs:=l) (p:=g) (w:=by rw[b];exact h);simpa[b]using this
 rw[aK _ _ h,zk,zp,a];have:(l.take i).filter (λx=>!g x)=l.take i:=zT.2 λx c=>by
  obtain⟨j,d,rfl⟩:=qH c;simp only[qU]at d;rw[yq,Zd (g:=g) (l:=l) (j:=j) i4 i4];rfl
 rw[this];simp
theorem mF.at_{α:Type}{g:α->Bool}{l b:List α}{i j:Nat}(x:mF g l b i j)(a:j<ii l):b[j]'(by rw[x.len];exact a)=l[j]:=by have h:=congrArg (λm=>m[0]?) x.post;simp only[wC,Nat.add_zero]at h;rw[qd a,qd (by rw[x.len];exact a)]at h;exact zS.inj h
theorem mF.keep{α:Type}{g:α->Bool}{l a:List α}{i j:Nat}(x:mF g l a i j)(e:j<ii l)(d:g l[j]=eR):mF g l (a.set i l[j]) (i+1) (j+1):=by
 have f:=x.len;have b:=x.le;refine⟨nq,i4,?_,?_⟩
 ·rw[aK _ _ i7,yR,List.take_set_of_le (qn _),x.pre,aK _ _ e,zk,zp,d];rfl
 ·rw[List.drop_set_of_lt i4];have c:=congrArg (xF 1) x.post;simpa[zE]using c
theorem mF.skip{α:Type}{g:α->Bool}{l a:List α}{i j:Nat}(x:mF g l a i j)(e:j<ii l)(d:g l[j]=eL):mF g l a i (j+1):=by
 have f:=x.len;have b:=x.le;refine⟨f,i4,?_,?_⟩
 ·rw[x.pre,aK _ _ e,zk,zp,d];simp
 ·have c:=congrArg (xF 1) x.post;simpa[zE]using c
theorem filter_all{α:Type}{g:α->Bool}{l:List α}(h:¬l.findIdx g<ii l):l.filter (λx=>!g x)=l:=zT.2 λx a=>by
 have:g x=eR:=by
  cases hh:g x with
  |false=>rfl
  |true=>exact absurd (w4.2 ⟨x,a,hh⟩) h
 rw[this];rfl
theorem UB(s:Sl)(l:aF)(b:FuncId)(a:Array Value)(g:Int->Bool)(Q:f8->Prop)(z:C.fns[b]?=dB eL)(y:St B h0 As Q)(f:∀x h',Q h'->ac xR b ([Value.int .i64 x]++a.toList).toArray h' λv q=>v=xL (g x)/\Sp h' q [])(H:aa B h0 h (aq 3 s 1 aC l::As))(F:ii l<=2^20):
  ac xR 270 #[s,.func (.func b) #[] a] h λv h'=>∃r:Sl,v=r/\aa B h0 h' (aq 3 r 1 aC (l.filter λx=>!g x)::As):=by
 refine rx s (b,#[],a) ?_;unfold lJ;refine(Wp s l b a g Q z y f H F).mono ?_;rintro _ P ⟨rfl,w⟩;have I:=(H.own 0 i0).len;have E:=(H.own 0 i0).cap;refine⟨_,i0,cu (λe=>?_) λe=>?_⟩
 ·have u:¬l.findIdx g<ii l:=λm=>by rw[f9 m]at e;omega
  exact⟨s,i0,by rw[filter_all u];exact w⟩
 ·have c:l.findIdx g<ii l:=by
   by_cases m:l.findIdx g<ii l
   ·exact m
   ·rw[g0 m]at e;exact absurd i0 e
  rw[f9 c];refine av (λt:Nat×Nat×aF=>((t.1:Int),(t.2.1:Int))) (λt h'=>mF g l t.2.2 t.1 t.2.1/\t.2.1<=ii l/\aa B h0 h' (aq 3 s 1 aC t.2.2::As)) (λt=>ii l-t.2.1) (l.findIdx g,l.findIdx g+1,l) js ⟨mF.start c i0,i6,w⟩ ?_;rintro⟨i,j,A⟩ D ⟨M2,O,n⟩;dsimp only at*;have M:=M2.len;have G:=M2.le;refine aj (λL=>?_) (λL=>?_)
  ·have d:j<ii l:=i4
   refine(n.seq 0 i0 λ_=>rfl).bB j i0 i4 _ i0 ?_;rw[M2.at_ d];refine fa z ?_;refine(f l[j] D (y.at [_] n)).mono ?_;rintro _ h3 ⟨rfl,K⟩;have k:=n.up K.ai;refine⟨_,i0,bm (λo=>?_) λo=>?_⟩
   ·refine k.set af 0 i0 (λ_=>rfl) i0 i i0 i4 l[j] i0 i0 i0 λN J=>?_;exact⟨(i+1,j+1,A.set i l[j]),by dsimp only;rw[ak _,ak _];rfl,⟨M2.keep d oi,i6,J⟩,i6⟩
   ·exact⟨(i,j+1,A),jj,⟨M2.skip d oi,i6,k⟩,i6⟩
  ·have p:j=ii l:=i4
   subst p;refine⟨⟨i4,i4⟩,?_⟩;rw[ql];refine n.oR af 0 i0 lx (λ_=>rfl) i0 i5 i i4 λh3 k=>⟨⟨i4,i4⟩,⟨s.ptr,i,s.cap⟩,i0,?_⟩
   have:=M2.pre;rw[q8]at this;rw[<-this];exact k
end
section
variable {B:aB} {h0 h:f8} {As:List HP}
abbrev ahW:bL C.toCM 277 332 2 [xH xN 0,xH xN 0] 16:=⟨_,_,i0,i0,i0,i0,i0,i0⟩
theorem Wq(s:Sl)(l:List (Int×Int))(b:FuncId)(a:Array Value)(g:Int×Int->Bool)(Q:f8->Prop)(A:C.fns[b]?=dB eL)(y:St B h0 As Q)(p:∀x h',Q h'->ac xR b ([Value.agg #[xH xN x.1,xH xN x.2]]++a.toList).toArray h' λv r=>v=xL (g x)/\Sp h' r [])(H:aa B h0 h (aq 332 s 2 fB l::As))(E:ii l<=2^20):
  ac xR 311 #[s,.func (.func b) #[] a] h λv h'=>v=xH xN (if l.findIdx g<ii l then(l.findIdx g:Int)else-1)/\aa B h0 h' (aq 332 s 2 fB l::As):=by
 refine mA s (b,#[],a) ?_;unfold iG;have w:=(H.own 0 i0).len;refine av (λi:Nat=>(i:Int)) (λi h'=>aa B h0 h' (aq 332 s 2 fB l::As)/\i<=ii l/\∀j (k:j<ii l),j<i->g l[j]=eR) (λi=>ii l-i) 0 i0 ⟨H,i4,λj _ k=>i4⟩ ?_;rintro i z ⟨f,F,d⟩;refine aj (λe=>?_) (λe=>?_)
 ·have c:i<ii l:=i4
  refine(f.seq 0 i0 λ_=>rfl).dQ (g:=fB) i i0 c l[i] i0 ?_;refine fa A ?_;refine(p l[i] z (y.at [_] f)).mono ?_;rintro _ D ⟨rfl,t⟩;refine⟨_,i0,bv (λq=>?_) λq=>?_⟩
  ·rw[It c d q,f9 c];exact⟨i0,f.up t.ai⟩
  ·refine⟨i+1,js,⟨f.up t.ai,i4,λj k o=>?_⟩,i4⟩;rcases zn.1 o with h3|rfl
   ·exact d j k h3
   ·exact q
 ·have n:¬l.findIdx g<ii l:=by rw[w4];rintro⟨x,u,m⟩;obtain⟨j,k,rfl⟩:=qH u;rw[d j k i4]at m;cases m
  rw[g0 n];exact⟨i0,f⟩
theorem UC(s:Sl)(l:List (Int×Int))(b:FuncId)(a:Array Value)(g:Int×Int->Bool)(Q:f8->Prop)(E:C.fns[b]?=dB eL)(A:St B h0 As Q)(k:∀x h',Q h'->ac xR b ([Value.agg #[xH xN x.1,xH xN x.2]]++a.toList).toArray h' λv u=>v=xL (g x)/\Sp h' u [])(H:aa B h0 h (aq 332 s 2 fB l::As))(I:ii l<=2^20):
  ac xR 268 #[s,.func (.func b) #[] a] h λv h'=>∃r:Sl,v=r/\aa B h0 h' (aq 332 r 2 fB (l.filter λx=>!g x)::As):=by
 refine mf s (b,#[],a) ?_;unfold iA;refine(Wq s l b a g Q E A k H I).mono ?_;rintro _ R ⟨rfl,z⟩;have K:=(H.own 0 i0).len;have G:=(H.own 0 i0).cap;refine⟨_,i0,cu (λe=>?_) λe=>?_⟩
 ·have w:¬l.findIdx g<ii l:=λn=>by rw[f9 n]at e;omega
  exact⟨s,i0,by rw[filter_all w];exact z⟩
 ·have d:l.findIdx g<ii l:=by
   by_cases n:l.findIdx g<ii l
   ·exact n
   ·rw[g0 n]at e;exact absurd i0 e
  rw[f9 d];refine av (λt:Nat×Nat×List (Int×Int)=>((t.1:Int),(t.2.1:Int))) (λt h'=>mF g l t.2.2 t.1 t.2.1/\t.2.1<=ii l/\aa B h0 h' (aq 332 s 2 fB t.2.2::As)) (λt=>ii l-t.2.1) (l.findIdx g,l.findIdx g+1,l) js ⟨mF.start d i0,i6,z⟩ ?_;rintro⟨i,j,F⟩ O ⟨M2,P,q⟩;dsimp only at*;have N:=M2.len;have J:=M2.le;refine aj (λM=>?_) (λM=>?_)
  ·have f:j<ii l:=i4
   refine(q.seq 0 i0 λ_=>rfl).dQ (g:=fB) j i0 i4 l[j] (by rw[M2.at_ f]) ?_;refine q.alloc af i0 λa5 h3 c=>?_;have c:=c.bN;refine c.storeAll af 0 i0 i0 (fB l[j]) i0 i0 i0 i0 λy m=>?_;refine⟨l[j],(m.box 0 i0).aS _ i0,?_⟩;refine fa E ?_;refine(k l[j] y (A.at [_,_] m)).mono ?_;rintro _ S ⟨rfl,L⟩;have D:=m.up L.ai;have c:=D.ou;refine⟨_,i0,bm (λo=>?_) λo=>?_⟩
   ·refine⟨l[j],(D.box 0 i0).aS _ i0,?_⟩;refine c.set af 0 i0 (λ_=>rfl) i0 i i0 i4 l[j] i0 i0 i0 λy m=>?_;exact⟨(i+1,j+1,F.set i l[j]),by dsimp only;rw[ak _,ak _];rfl,⟨M2.keep f oi,i6,m⟩,i6⟩
   ·exact⟨(i,j+1,F),jj,⟨M2.skip f oi,i6,c⟩,i6⟩
  ·have p:j=ii l:=i4
   subst p;refine⟨⟨i4,i4⟩,?_⟩;rw[ql];refine q.oR af 0 i0 ahW (λ_=>rfl) i0 i5 i i4 λh3 c=>⟨⟨i4,i4⟩,⟨s.ptr,i,s.cap⟩,i0,?_⟩
   have:=M2.pre;rw[q8]at this;rw[<-this];exact c
end
section
variable {B:aB} {h0 h:f8} {As:List HP}
def uU(pool:List (Sl×aF)):HP:=⟨λh q=>∀x∈pool,Seq h q x.1 1 aC x.2,λa d x b=>(a x b).ai d,λa c x b=>(a x b).mono c⟩
theorem aa.abP(H:aa B h0 h As):aa B h0 h (As++[uU []]):=H.comp (.one (aV.refl _ _) λx a=>by cases a)
theorem aa.afi(H:aa B h0 h As)(i j:Nat)(b:i≠j){pool:List (Sl×aF)}{r:Sl}{l:aF}(c:As[i]?=dB (uU pool))(f:As[j]?=dB (tZ r 1 aC l)):aa B h0 h ((As.set i (uU (pool++[(r,l)]))).set j emp):=
 H.merge i j b c f λg k _ e d x a=>by
  rcases qz.1 a with a|a
  ·exact(e x a).mono λ_ h=>.inl h
  ·rw[qC]at a;subst a;exact Seq.mono d λ_ h=>.inr h
abbrev ahX:bL C.toCM 51 22 1 [xI eH 0 0] 24:=⟨_,_,i0,i0,i0,i0,i0,i0⟩
theorem Wr(s d:fz)(r:Sl)(x:Int×Int)(h':f8)(e:f7 h' d=dB (xJ (dB s))/\f7 h' (s.add 5)=dB (xI r.ptr r.len r.cap)):
  ac xR 269 ([Value.agg #[xH xN x.1,xH xN x.2]]++(#[Value.pointer (dB d)]:Array Value).toList).toArray h' λv c=>v=xL (decide (x.1>=(r.len:Int)))/\Sp h' c []:=by
 refine uP x d ?_;unfold nL;refine(Sp.refl h').boxed λa f b=>?_;exact⟨x.1,(b.box 0 i0).cell0 i0,dB s,pr e.1 b.ai,s,i0,r,pr e.2 b.ai,i0,.zip b.ai⟩
theorem Ws(s a:fz)(r:Sl)(x:Int)(h':f8)(c:f7 h' a=dB (xJ (dB s))/\f7 h' (s.add 5)=dB (xI r.ptr r.len r.cap)):
  ac xR 271 ([Value.int .i64 x]++(#[Value.pointer (dB a)]:Array Value).toList).toArray h' λv b=>v=xL (decide (x>=(r.len:Int)))/\Sp h' b []:=by
 refine uQ x a ?_;unfold nM;exact⟨dB s,c.1,s,i0,r,c.2,i0,Sp.refl _⟩
theorem Wt(s f:fz)(p:Int×Int×Int)(v r j m d I L kn:Sl)(D:List (Sl×Sl))(R:List fe)(known:List Bool)(n:Nat)(H:aa B h0 h (SA s (gn f p v r j m d I L)::As))(hS:St B h0 As λh=>nU ji 2 qv h r D R/\Rd h kn 1 eN known)(ao:ii known=n)(hn:n<=64)(a0:ii R<=2^19)(ah:∀e∈R,ii e.1<=2^20)
  (z:jA (n:Int) (rowsOf R known n)=eL) (Z:(dz n (rowsOf R known n)).steps.length<=2^20/\(fu (dz n (rowsOf R known n)).used (rowsOf R known n).length).length<=2^20):
  ac xR 217 #[xJ (dB s),kn] h λv' h'=>v'=.tuple #[]/\∃K A J:Sl,aa B h0 h' (SA s (gn f p v r K A J I L)::aq 332 K 2 fB ((dz n (rowsOf R known n)).steps.filter λx=>decide (x.1<ii R))::aq 3 A 1 aC (dz n (rowsOf R known n)).dead::aq 3 J 1 aC ((fu (dz n (rowsOf R known n)).used (rowsOf R known n).length).filter λx=>decide (x<ii R))::As):=by
 refine Bf (dB s) kn ?_;unfold pi;refine H.boxed λq F T=>?_;have T:=T.bN;refine⟨dB s,(T.box 0 i0).cell0 i0,s,i0,r,(T.box 1 i0).cell i0,?_⟩;have G1:=hS.at [_,_] T;have ab:=G1.1.1.len;have Q:=G1.1.2.1;have ad:=G1.2.len;let pre:List HP:=[aw q 276 [xJ (dB s)],SA s (gn f p v r j m d I L)]
 have H2:aa B h0 F (aq 22 ⟨eH,0,0⟩ 1 bt []::uU []::aw q 276 [xJ (dB s)]::SA s (gn f p v r j m d I L)::As):=((aa.abP T).bN.nil 22 1 bt).bN;refine av (λt:Nat×Sl=>(t.2,(t.1:Int))) (λt h'=>t.1<=ii R/\aa B h0 h' (aq 22 t.2 1 bt ((D.take t.1).map qJ)::uU []::aw q 276 [xJ (dB s)]::SA s (gn f p v r j m d I L)::As)) (λt=>ii R-t.1) (0,⟨eH,0,0⟩) i0 ⟨i9,by simpa using H2⟩ ?_;rintro⟨i,o⟩ h3 ⟨hi,H3⟩;dsimp only at*;refine aj (λe=>?_) (λe=>?_)
 ·have ap:i<ii R:=i4
  have G3:=hS.at [_,_,_,_] H3;refine G3.1.1.dQ (g:=qv) i i0 i4 (D[i]'(by omega)) i0 ?_;refine H3.alloc af i0 λa8 h4 y=>?_;have y:=y.bN;refine y.storeAll af 0 i0 i0 (qv (D[i]'(by omega))) i0 i0 i0 i0 λh5 G=>?_;refine⟨(D[i]'(by omega)).1,(G.box 0 i0).cell0 i0,?_⟩;refine G.ou.push af 0 i0 ahX i0 i5 (λ_=>rfl) iU (D[i]'(by omega)).1 i0 i5 i7 λo' h6 V=>?_;refine⟨(i+1,o'),jj,⟨i6,?_⟩,i6⟩;dsimp only;rw[aK D i,qT];exact V
 have P:i=ii R:=i4
 subst P;rw[qi i4]at H3;refine av (λt:Nat×Sl×List Sl=>(t.2.1,(t.1:Int))) (λt h'=>t.1<=n/\t.2.2.length=ii (gZ known t.1)/\aa B h0 h' (aq 22 t.2.1 1 bt (D.map qJ++t.2.2)::uU (t.2.2.zip (gZ known t.1))::aw q 276 [xJ (dB s)]::SA s (gn f p v r j m d I L)::As)) (λt=>n-t.1) (0,o,[]) i0 ⟨i4,i0,by simpa using H3⟩ ?_;rintro⟨i,o,sr⟩ h4 ⟨hi,E,y⟩;dsimp only at*;have a7:=Fj known i;refine aj (λe=>?_) (λe=>?_)
 ·have ap:i<n:=i4
  have G4:=hS.at [_,_,_,_] y;refine G4.2.bB i i0 i4 _ i0 ?_;have ay:known.getD i eR=known[i]'(by omega):=by rw[qe,qd i4];rfl
  have N:=Ot known i;rw[ay]at N;refine bv (λe2=>?_) (λe2=>?_)
  ·rw[e2,f9 rfl]at N;refine y.lit af aC lx i0 [(i:Int)] i0 (show 1*1<=2^20 by decide) i0 λb h5 G=>?_;have G:=G.bN.freeze 0 i0 λ_=>rfl;have V:=aa.afi G 2 0 i5 i0 i0;refine V.push af 1 i0 ahX i0 i5 (λ_=>rfl) iU b i0 i5 i7 λo' h7 H7=>?_;refine⟨(i+1,o',sr++[b]),jj,⟨i6,by dsimp only;rw[N];simp[E],?_⟩,i6⟩;dsimp only;rw[N,List.zip_append E,<-qp];exact H7.ou
  ·rw[e2,g0 i9,qN]at N;exact⟨(i+1,o,sr),jj,⟨i6,by dsimp only;rw[N];exact E,by dsimp only;rw[N];exact y⟩,i6⟩
 have P:i=n:=i4
 subst P;have G4:=hS.at [_,_,_,_] y;have O:ii (rowsOf R known i)=ii R+ii sr:=by rw[rowsOf,qx,qy,E]
 have U:gB h4 (λb=>b<h4.size) o 1 aC (rowsOf R known i) (D.map qJ++sr):=by
  refine⟨y.seq 0 i0 λ_=>rfl,by rw[O];simp;omega,λk a l F S=>?_⟩;by_cases hk:k<ii R
  ·rw[qm i7,qR,qd i4]at F;rw[rowsOf,qm i7,qR,qd hk]at S;simp only[qQ,zS.injEq]at F S;subst F;subst S;exact(Fix.row G4.1 hk).1
  ·rw[qj i7]at F;rw[rowsOf,qj i7]at S;simp only[qy,Q]at F S;have hm:(a,l)∈sr.zip (gZ known i):=by refine yQ.2 ⟨k-ii R,?_⟩;rw[vA];exact⟨F,S⟩
   exact(y.at 1 i0) _ hm
 rw[ad,ao];refine(abH (i:Int) o (rowsOf R known i) _ h4 U i4 ?_).mono ?_
 ·intro x W;rcases qz.1 W with W|W
  ·obtain⟨e,he,rfl⟩:=qw.1 W;have:=ah e he;omega
  ·obtain⟨c,hc,rfl⟩:=qw.1 W;simp
 rintro _ h5 ⟨K,A,J,rfl,R5⟩;have ar:EW (i:Int) (rowsOf R known i)=((dz i (rowsOf R known i)).steps,(dz i (rowsOf R known i)).dead,fu (dz i (rowsOf R known i)).used (rowsOf R known i).length):=by unfold EW;rw[f9 z,ql]
 rw[ar]at R5;dsimp only at R5;have G:=((y.ou).ou).comp R5;refine⟨((K,A,J),_),i0,?_⟩;have V:aa B h0 h5 (aq 332 K 2 fB (dz i (rowsOf R known i)).steps::aq 3 A 1 aC (dz i (rowsOf R known i)).dead::aq 3 J 1 aC (fu (dz i (rowsOf R known i)).used (rowsOf R known i).length)::aw q 276 [xJ (dB s)]::SA s (gn f p v r j m d I L)::As):=aa.front (As:=aw q 276 [xJ (dB s)]::SA s (gn f p v r j m d I L)::As) (Bs:=[_,_,_]) G;refine V.alloc af i0 λa4 h7 H7=>?_;have H7:=H7.bN;refine H7.storeAll af 0 i0 i0 [K,A,J] i0 i0 i0 i0 λh8 H8=>?_;refine⟨K,(H8.box 0 i0).cell0 i0,?_⟩;refine(UC K _ 269 #[xJ (dB q)] (λx=>decide (x.1>=(r.len:Int))) (λh'=>f7 h' q=dB (xJ (dB s))/\f7 h' (s.add 5)=dB (xI r.ptr r.len r.cap)) i0 (St.mk' λh' H'=>⟨(H'.box 3 i0).cell0 i0,(H'.box 4 i0).cell i0⟩) (λx h' hq=>Wr s q r x h' hq) H8.sV Z.1).mono ?_;rintro _ h9 ⟨u,rfl,H9⟩;refine⟨u,i0,?_⟩;refine H9.jB af 1 i0 i0 [u] i0 i0 i0 i9 λa5 X=>?_;refine⟨J,(X.box 1 i0).cell i0,?_⟩;have ax:=X.bs 6 [3,0,1,2,4,5];refine(UB J _ 271 #[xJ (dB q)] (λx=>decide (x>=(r.len:Int))) (λh'=>f7 h' q=dB (xJ (dB s))/\f7 h' (s.add 5)=dB (xI r.ptr r.len r.cap)) i0 (St.mk' λh' H'=>⟨(H'.box 3 i0).cell0 i0,(H'.box 4 i0).cell i0⟩) (λx h' hq=>Ws s q r x h' hq) ax Z.2).mono ?_;rintro _ a2 ⟨w,rfl,am⟩;refine⟨w,i0,?_⟩;refine am.store af 2 i0 i0 2 [w] i0 i0 i0 i9 λa6 M=>?_;refine⟨dB s,(M.box 4 i0).cell0 i0,(u,A,w),(M.box 2 i0).aS _ i0,s,i0,?_⟩;refine M.store af 5 i0 i0 6 [u,A,w] i0 i0 i0 m8 λa3 Y=>⟨i0,u,A,w,?_⟩
 have e1:(λx:Int×Int=>!decide (x.1>=(r.len:Int)))=λx=>decide (x.1<(ii R:Int)):=by
  funext x;rw[ab,Q];by_cases h:x.1<(ii R:Int)
  ·rw[g9 h,hU i4];rfl
  ·rw[hU h,g9 i4];rfl
 have e2:(λx:Int=>!decide (x>=(r.len:Int)))=λx=>decide (x<(ii R:Int)):=by
  funext x;rw[ab,Q];by_cases h:x<(ii R:Int)
  ·rw[g9 h,hU i4];rfl
  ·rw[hU h,g9 i4];rfl
 rw[e1,e2]at Y;exact Y.bs 6 [5,1,3,0]
end
theorem ago(h:f8)(x:UInt8):ac xR 209 #[xH xO x.toNat] h λv h'=>v=xL (x !=0)/\h'=h:=by
 refine OO _ ?_;unfold HE;refine⟨?_,i0⟩;congr 1;by_cases a:x=0
 ·subst a;rfl
 ·have:((x.toNat:Nat):Int)≠0:=λb=>a (CE.1 b);rw[bne_iff_ne.2 a];exact bne_iff_ne.2 this
theorem Iu(a:Sl)(l:Row)(h:f8)(p:Rd h a 1 aE l)(t:ii l<=2^30:=by omega):ac xR 139 #[a] h λv h'=>v=xH xN (if eU l<ii l then(eU l:Int)else-1)/\h'=h:=by
 refine TA a ?_;unfold My;refine(rc a (209,#[],#[]) (R:=λv h'=>v=xH xN (if eU l<ii l then(eU l:Int)else-1)/\h'=h) ?_).mono ?_
 ·unfold lq;have q:=p.len;refine av (λi:Nat=>(i:Int)) (λi h'=>h'=h/\i<=ii l/\∀j (b:j<ii l),j<i->l[j]=0) (λi=>ii l-i) 0 i0 ⟨i0,i4,λj _ b=>i4⟩ ?_;rintro i o ⟨rfl,u,d⟩;refine aj (λe=>?_) (λe=>?_)
  ·have c:i<ii l:=i4
   refine p.bB i i0 c _ i0 ?_;refine fa k9 ?_;refine(ago o l[i]).mono ?_;rintro v s ⟨rfl,rfl⟩;refine⟨_,i0,bv (λn=>?_) λn=>?_⟩
   ·have m:eU l=i:=by rw[eU,List.findIdx_eq c];exact⟨n,λj b=>by simp[d j i4 b]⟩
    rw[m,f9 c];exact⟨i0,i0⟩
   ·refine⟨i+1,js,⟨i0,i4,λj b k=>?_⟩,i4⟩;rcases zn.1 k with h3|rfl
    ·exact d j b h3
    ·simpa using n
  ·have g:¬eU l<ii l:=by rw[eU,w4];rintro⟨x,r,f⟩;obtain⟨j,b,rfl⟩:=qH r;rw[d j b i4]at f;simp at f
   rw[g0 g];exact⟨i0,i0⟩
 ·rintro v o ⟨rfl,rfl⟩;exact⟨_,i0,i0,i0⟩
theorem QB{l:Row}:¬eU l<ii l↔l=aO l.length:=by
 rw[eU,w4];constructor
 ·intro h;refine xd.2 ⟨i0,λx b=>?_⟩;by_cases a:x=0
  ·exact a
  ·exact absurd ⟨x,b,j7⟩ h
 ·rintro h ⟨x,b,a⟩;have:=(xd.1 h).2 x b;subst this;simp at a
theorem Wu(f:fz)(a b:Sl)(A B:aQ)(m n w:Nat)(h:f8)(hf:fw h f)(ha:fF h a 1 aE A)(hb:fF h b 1 aE B)(hl:ii A=m)(br:ii B=m)(u:aZ n A)(hB:aZ w B)(a8:1<=n)(hn:n+w<=64)(hm:m<=2^20)(hr:bW A=n):
  ac xR 175 #[xJ (dB f),a,b] h λv h'=>(kT n A B/\∃r:Sl,v=.tuple #[r,xH xN 0]/\Sp h h' [gl 34 r 1 aE (fX n A B)])∨(¬kT n A B/\v=.tuple #[xI eH 0 0,xH xN 10]/\Sp h h' []):=by
 have bb:n<=m:=by have:=pH A u;omega
 have d:ii B=ii A:=i4
 have a3:=ha.len;have V:=hb.len;refine FG (dB f) a b ?_;unfold Cw;refine bg ?_;refine(nf a A n h ha u).mono ?_;rintro v J ⟨rfl,rfl⟩;refine⟨_,i0,bm (λe=>j0) λ_=>?_⟩;refine(nf b B w J hb hB).mono ?_;rintro v G ⟨rfl,rfl⟩;refine⟨_,i0,bm (λe=>j0) λ_=>?_⟩;refine cv (λe=>absurd (by rw[a3,V,d]) e) λ_=>?_;refine cu (λe=>i4) λ_=>?_;refine(sl a A G ha).mono ?_;rintro v h3 ⟨rfl,rfl⟩;have ah:eu A=n:=by
  cases A with
  |nil=>simp at hl;omega
  |cons x t=>rw[eu,bA i9];exact u _ i9
 refine⟨_,i0,?_⟩;rw[ah];refine(AK a A n h3 ha u).mono ?_;rintro v h4 ⟨r,rs,rfl,b1,R4⟩;refine⟨r,i0,?_⟩;have a4:=(R4.own 0 i0).len;refine av (λt:Nat×List Sl=>(t.1:Int)) (λt h'=>t.1<=m/\t.2.length=m/\Sp h3 h' (nQ r t.2 (pv A B t.1))) (λt=>m-t.1) (0,rs) i0 ⟨i9,i6,by simpa[pv,eK]using R4⟩ ?_;rintro⟨k,rs⟩ h5 ⟨hk,b2,K⟩;dsimp only at*;have W:ii rs=ii (pv A B k):=nb
 refine aj (λe=>?_) (λe=>?_)
 ·have I:k<m:=i4
  have L:k<ii A:=i4
  have F:=pq (a:=r) W k nb;have eg:(pv A B k)[k]'(by rw[tH d];omega)=A[k]:=by have:=abf d L;rw[qd nb]at this;exact zS.inj this
  rw[eg]at F;have l1:A[k].length=n:=u _ (qg _);have l2:ii (B[k]'(by omega))=w:=hB _ (qg _);refine(K.seq 0 i0 λ_=>rfl).nN k i0 i4 λa1 R ab=>?_;refine(hb.up K.ai).get k i0 i4 λrb ax=>?_;refine K.append af (k+1) F gj Ug i0 i5 (λ_=>rfl) ax gH i4 λs6 h6 H6=>⟨trivial,?_⟩
  refine H6.set af 0 i0 (λ_=>rfl) i0 k i0 i4 s6 i0 i0 i0 λh7 H7=>⟨trivial,?_⟩
  refine⟨(k+1,rs.set k s6),jj,⟨i6,l0,?_⟩,i6⟩;dsimp only;rw[<-abg d L];show Sp h3 h7 (aq 34 r 1 bt (rs.set k s6)::bM 5 1 aE (rs.set k s6) ((pv A B k).set k _));rw[<-mj W];exact H7
 ·have ar:k=ii A:=i4
  subst ar;rw[abh d]at K;refine(uh f h5).mono ?_;rintro v h6 ⟨rfl,rfl⟩;refine⟨dB f,i0,?_⟩;have H:=mR d.symm u hB;have bk:=ms d.symm;refine(CF (m:=eK A B) (n:=n+w) hf hf.lt i4 H i4 i4 i4 K).mono ?_;rintro v h7 ⟨l,rfl,a5,q⟩;rw[KA d.symm u,hr];refine⟨_,i0,?_⟩;dsimp only;have X:=(q.own 0 i0).cap;have bd:=(q.own 0 i0).len;have G:=gG H n;refine aj (λe=>absurd (show(n:Int)<(n:Int)from e) i4) λ_=>?_;refine⟨⟨zY _,y6.2 (show n<=r.len by omega)⟩,?_⟩;obtain⟨M,Q⟩:∃M,M=(bG (eK A B) n).2:=⟨_,rfl⟩
  have a7:ii M=ii A:=by have:=G.2;rw[<-Q]at this;omega
  have S:aZ (n+w) M:=by rw[Q];exact G.1
  rw[<-Q]at q;have Z:ii l=ii M:=i4
  have o:kT n A B↔∀i (U:i<ii M),n<=i->M[i]=aO M[i].length:=by
   unfold kT;rw[<-Q];constructor
   ·intro N i U hn;refine N _ (yQ.2 ⟨i-n,?_⟩);rw[wC,show n+(i-n)=i by omega,qd U]
   ·intro N x hx;obtain⟨i,U,rfl⟩:=qH hx;simp only[za]at U;rw[wA];exact N _ i4 i4
  refine av (λi:Nat=>(i:Int)) (λi h'=>h'=h7/\n+i<=ii M/\∀j (hj:j<ii M),n<=j->j<n+i->M[j]=aO M[j].length) (λi=>ii M-(n+i)) 0 i0 ⟨i0,i4,λj _ _ _=>i4⟩ ?_;rintro i h8 ⟨rfl,U,p⟩;rw[ql];refine aj (λe=>?_) (λe=>?_)
  ·have g:n+i<ii M:=i4
   have F:=pq (a:=r) Z (n+i) i4;have ap:ii (M[n+i]'g)=n+w:=S _ (qg _);have z:=q.seq (n+i+1) F λ_=>rfl;have D:=(q.seq 0 i0 λ_=>rfl).drop n X;have a2:(l.drop n)[i]'(by simp;omega)=l[n+i]'(by omega):=wA;refine D.nN i i0 i7 λa1 R ab=>?_;rw[a2];refine(Iu _ _ h8 z).mono ?_;rintro _ h9 ⟨rfl,rfl⟩;refine⟨_,i0,aj (λT=>?_) λT=>?_⟩
   ·right;have E:eU (M[n+i]'g)<ii (M[n+i]'g):=by
     by_cases hh:eU (M[n+i]'g)<ii (M[n+i]'g)
     ·exact hh
     ·rw[g0 hh]at T;exact absurd T i5
    refine⟨λN=>?_,i0,.zip q.ai⟩;have:=o.1 N (n+i) g i4;exact absurd E (QB.2 this)
   ·have E:¬eU (M[n+i]'g)<ii (M[n+i]'g):=λhh=>by
     rw[f9 hh]at T;exact T (zY _)
    refine⟨i+1,js,⟨i0,i4,λj hj J G=>?_⟩,i4⟩;by_cases ao:j=n+i
    ·subst ao;exact QB.1 E
    ·exact p j hj J i4
  refine⟨⟨zY _,y6.2 (show n<=r.cap by omega)⟩,?_⟩;have y:kT n A B:=o.2 λj hj J=>p j hj J i4;have e1:fX n A B=(M.take n).map (xF n):=by rw[fX,<-Q]
  have P:∀k (hk:k<n),(fX n A B).take (k+1)=(fX n A B).take k++[(M[k]'(by omega)).drop n]:=λk hk=>by
   rw[e1,aK _ _ i7,wy,yq]
  have b0:ii (fX n A B)=n:=(vg d.symm u hB hr).1;refine av (λt:Sl×Nat=>(t.1,(t.2:Int))) (λt h'=>t.2<=n/\Sp h8 h' [gl 34 t.1 1 aE ((fX n A B).take t.2)]) (λt=>n-t.2) (⟨eH,0,0⟩,0) i0 ⟨i9,(Sp.refl h8).LC 34 1 aE⟩ ?_;rintro⟨s,k⟩ h9 ⟨a9,H9⟩;dsimp only at*;have HH:=q.comp H9;refine aj (λe=>?_) (λe=>?_)
  ·have I:k<n:=i4
   have F:=pq (a:=r) Z k i4;have Y:(nQ r l M++[gl 34 s 1 aE ((fX n A B).take k)])[k+1]?=dB (aq 5 (l[k]'(by omega)) 1 aE (M[k]'(by omega))):=by rw[qm (by simp[bM];omega)];exact F
   have ap:ii (M[k]'(by omega))=n+w:=S _ (qg _);have O:=HH.own (k+1) Y;have z:=HH.seq (k+1) Y λ_=>rfl;have a6:=O.len;have D:=(HH.seq 0 i0 λ_=>rfl).take n i4;have a0:(l.take n)[k]'(by simp;omega)=l[k]'(by omega):=yq;refine D.nN k i0 i7 λa1 R ab=>?_;rw[a0];refine⟨⟨zY _,y6.2 i4⟩,?_⟩;refine(eI _ _ h9 (z.drop n O.cap) i7).mono ?_;rintro v bl ⟨c,rfl,am⟩;have ad:=(H9.comp am).freeze 1 i0 λ_=>rfl;refine⟨c,i0,?_⟩;refine ad.uX af 0 1 i5 i0 i0 fj i7 λs' bq ay=>?_;refine⟨(s',k+1),jj,⟨i6,?_⟩,i6⟩;dsimp only;rw[P k I];exact ay.del 1
  ·rw[qi i4]at H9;refine .inl ⟨y,s,i0,?_⟩;have:=(Sp.zip q.ai).comp H9;exact this
section
variable {B:aB} {h0 h:f8} {As:List HP}
theorem UD:∀{l:aF},l.Pairwise (·<·)->fy l=eL
 |[],_=>rfl
 |[_],_=>rfl
 |a::b::r,h=>by
  rw[List.pairwise_cons]at h;rw[fy,UD h.2,g9 (h.1 b i9)];rfl
theorem Ze{l:aF}(h:l.Pairwise (·<·)):Pk l:=λi a=>zw.1 h i (i+1) i4 a i4
theorem Zf{n:Nat}{R:List fe}{known:List Bool}(i:n<=64)(f:∀e∈R,(∀c∈e.1,0<=c/\c<(n:Int))/\e.1.Pairwise (·<·)):jA (n:Int) (rowsOf R known n)=eL:=by
 unfold jA;rw[qB];refine⟨i7,qL.2 λr a=>?_⟩;unfold fA;rw[qB];rcases qz.1 a with a|a
 ·obtain⟨e,b,rfl⟩:=qw.1 a;exact⟨qL.2 λc g=>by simpa using(f e b).1 c g,UD (f e b).2⟩
 ·obtain⟨d,rfl,h,_⟩:=BF a;exact⟨i7,i0⟩
theorem aa.ahY{e:Nat}{v:Sl}{vs:aQ}(H:aa B h0 h As)(i:Nat)(s:As[i]?=dB (bX e v 1 bt (ua 1 aE) vs)):
  ∃f:List Sl,aa B h0 h (As.set i (aq e v 1 bt f)++[kU (f.zip vs)])/\f.length=ii vs/\∀(c:Nat) (o:c<ii f) (m:c<ii vs),f[c].ptr.isNone=vs[c].isEmpty:=by
 have g:i<ii As:=(qo.1 s).1;have A:aa B h0 h (As.set i (HP.ex λf:List Sl=>((aq e v 1 bt f).sep (kU (f.zip vs))).and (ii f=ii vs/\∀(c:Nat) (o:c<ii f) (m:c<ii vs),f[c].ptr.isNone=vs[c].isEmpty))):=
  H.fI i s λq ⟨rs,w,a,b,c,d,e⟩=>⟨rs,⟨λb=>v.on b,w,λx j=>(b x j).2,λx j=>(b x j).1,c,⟨a,λx j=>j⟩,λx j=>by
   obtain⟨k,D,l⟩:=qH j;simp only[List.length_zip]at D;rw[vh]at l;subst l;exact(e k _ _ (qd i4) (qd i4)).1⟩,d,λk o m=>by
   obtain⟨x,y⟩:=e k _ _ (qd o) (qd m);cases hv:vs[k]with
   |nil=>rw[y hv];rfl
   |cons z t=>
    have:=x.isSome (by rw[hv];simp);rw[this];rfl⟩
 obtain⟨f,n⟩:=A.XG i (zm g);rw[yG]at n;have u:=n.fact i (zm g);have p:=n.aez i (zm g);rw[yG]at p;have r:=p.split i (zm g);rw[yG]at r;exact⟨f,r,u⟩
def yv(x:Int×Sl):be:=[xH xN x.1,x.2]
def aiN:iM (Int×Sl) (Int×Row):=⟨λh q a b=>a.1=b.1/\Seq h q a.2 1 aE b.2,λa d=>⟨a.1,a.2.ai d⟩,λa c=>⟨a.1,a.2.mono c⟩⟩
abbrev ND:iM Sl (List (Int×Row)):=bE aiN 2 yv
end
theorem Zg{a:List Sl}{vs:aQ}(h:ii a=ii vs)(b:List (Sl×Row))(e:∀x∈a.zip vs,x∈b):fx b id a vs:=
 ⟨h,λi r l d c=>e _ (yQ.2 ⟨i,by rw[vA];exact⟨d,c⟩⟩)⟩
theorem UE{α β:Type}:∀(a:List α) (x:α) (l:List β) (h:ii a<ii l),(a++[x]).zip l=a.zip l++[(x,l[ii a])]
 |[],x,b::l,_=>i9
 |c::a,x,b::l,h=>by
  have:=UE a x l j5;simp[this]
def afj(h h':f8)(v:Value)(n:Nat)(A a:aQ):Prop:=
 (kT n A a/\∃r:Sl,v=.tuple #[r,xH xN 0]/\Sp h h' [MA r (fX n A a)])∨(¬kT n A a/\v=.tuple #[xI eH 0 0,xH xN 10]/\Sp h h' [])
theorem adX(p:Pm)(seed:Int)(l:Sl)(syms:List (Int×Row))(n w:Nat)(h:f8)(hl:dX ND h l syms)(y:bI p=eL)(b2:∀x∈syms,BG p x)(hn:(bS p).toNat=n)(hw:p.2.2.toNat=w)(e4:ii syms<=2^18)(hr:bW (dH p seed (syms.map qJ))=n):
  ac xR 160 #[jU p,xH xP seed,l] h λv h'=>afj h h' v n (dH p seed (syms.map qJ)) (se p syms):=by
 refine OH p seed l ?_;unfold Hv;have e5:=(ce p).1 y;have d1:bS p=n:=by rw[<-hn];have:=oH y;omega
 have c7:n=p.1.toNat+p.2.1.toNat:=by rw[<-hn,oH y];omega
 have c0:p.2.2=(w:Int):=i4
 have cd:1<=n:=i4
 have cp:n<=20:=i4
 obtain⟨U,ec,er,b3⟩:=bE.kO hl;have et:=bE.len hl;let d:List fe:=uL n seed syms;have ek:ii d=ii syms:=by simp[d,uL]
 have I:=ahe (seed:=seed) cd cp b2 hw;let u:Nat->cV:=λi=>(syms.take i).map λx=>dj n seed x.1;have ar:∀x:Int×Row,x∈syms->(bI p&&bV x.1)=eL:=λx hx=>by rw[y,(b2 x hx).id];rfl
 refine(Sp.refl h).boxed λa1 K H1=>?_;have d9:Sp h K [aq 275 ⟨eH,0,0⟩ 2 qv [],uU [],aw a1 24 [xH xN p.1,xH xN p.2.1,xH xN p.2.2]]:=((aa.abP H1).nil 275 2 qv).ck [2,1,0];refine av (λt:Nat×Sl×List Sl=>(t.2.1,(t.1:Int))) (λt h'=>t.1<=ii syms/\t.2.2.length=t.1/\Sp h h' [aq 275 t.2.1 2 qv (t.2.2.zip (U.map zH)),uU (t.2.2.zip (u t.1)),aw a1 24 [xH xN p.1,xH xN p.2.1,xH xN p.2.2]]) (λt=>ii syms-t.1) (0,⟨eH,0,0⟩,[]) i0 ⟨i9,i0,d9⟩ ?_;rintro⟨i,o,cr⟩ h2 ⟨hi,bk,H2⟩;dsimp only at*;have cc:ii (u i)=i:=by simp[u];omega
 refine aj (λe=>?_) (λe=>?_)
 ·have V:i<ii syms:=i4
  obtain⟨y1,y2⟩:=b3 i i4 V;refine(Seq.up ec H2.ai).dQ (g:=yv) i i0 i4 (U[i]'(by omega)) i0 ?_;refine H2.alloc af i0 λa5 h3 H3=>?_;refine H3.storeAll af 3 i0 i0 (yv (U[i]'(by omega))) i0 i0 i0 i0 λh4 O=>?_;refine⟨p,(O.box 2 i0).aS _ i0,(U[i]'(by omega)).1,(O.box 3 i0).cell0 i0,(U[i]'(by omega)).2,(O.box 3 i0).cell i0,?_⟩;refine(BS p seed (U[i]'(by omega)).1 h4).mono ?_;rintro _ h5 ⟨r,rfl,R5⟩;rw[y1,ar _ (qg V),f9 rfl,hn]at R5;have H5:=(O.comp R5).freeze 4 i0 λ_=>rfl;refine⟨r,i0,⟨(H5.box 3 i0).cell i0,trivial⟩,?_⟩;have H6:=aa.afi H5 1 4 i5 i0 i0;have dx:=H6.box 3 i0;refine H6.oO af qv eQ i0 [(r,(U[i]'(by omega)).2)] i0 (show 1*2<=2^20 by decide) i0 ⟨dx.cell i0,trivial⟩ ?_;refine H6.push af 0 i0 eQ i0 i5 (λ_=>rfl) aby (r,(U[i]'(by omega)).2) i0 i5 i7 λo' h7 H7=>?_;refine⟨⟨(H7.box 3 i0).cell i0,trivial⟩,?_⟩;refine⟨(i+1,o',cr++[r]),jj,⟨i6,by simp[bk],?_⟩,i6⟩;dsimp only;have e1:u (i+1)=u i++[dj n seed syms[i].1]:=by simp only[u];rw[aK _ _ V,qT];rfl
  have e2:(cr++[r]).zip (U.map zH)=cr.zip (U.map zH)++[(r,(U[i]'(by omega)).2)]:=by rw[UE cr r (U.map zH) i7,wy];simp only[bk]
  rw[e1,e2,List.zip_append (by rw[bk,cc])];exact H7.ck [0,1,2]
 have eg:i=ii syms:=i4
 subst eg;have ed:u syms.length=syms.map λx=>dj n seed x.1:=by simp only[u];rw[q8]
 rw[ed]at H2;have eb:∀{h':f8},(∀x∈cr.zip (syms.map λx=>dj n seed x.1),Vc.Seq h' (λb=>b<h'.size) x.1 1 aC x.2)->aV (λb=>b<h.size) h h'->Vc.Seq h' (λb=>b<h'.size) o 2 qv (cr.zip (U.map zH))->dX rv h' o d:=λ{h'} hp hpr hs=>by
  refine⟨_,hs,by simp[d,uL];omega,λk a b K h2=>?_⟩;have hk:k<ii syms:=by have:=(qo.1 h2).1;omega
  rw[qd i7,vh,wy]at K;have e2:d[k]?=dB (dj n seed syms[k].1,syms[k].2):=by simp[d,uL,hk]
  rw[e2]at h2;simp only[zS.injEq]at K h2;subst K;subst h2;refine⟨hp (cr[k]'(by omega),dj n seed syms[k].1) (yQ.2 ⟨k,?_⟩),Seq.up (b3 k i4 hk).2 hpr⟩;rw[vA];exact⟨qd _,by simp[hk]⟩
 refine cE (λs h'=>∃(a7 f:fz),s=dB a7/\Sp h h' [SA a7 (gn f p ⟨eH,0,0⟩ ⟨eH,0,0⟩ ⟨eH,0,0⟩ ⟨eH,0,0⟩ ⟨eH,0,0⟩ ⟨eH,0,0⟩ ⟨eH,0,0⟩),aq 275 o 2 qv (cr.zip (U.map zH)),uU (cr.zip (syms.map λx=>dj n seed x.1)),aw a1 24 [xH xN p.1,xH xN p.2.1,xH xN p.2.2],aw f 197 cU]) ?_ ?_
 ·refine⟨p,(H2.box 2 i0).aS _ i0,(ro h2).mono ?_⟩;rintro _ h3 ⟨f,rfl,R3⟩;have H3:=H2.comp R3;refine⟨dB f,i0,⟨(H3.box 2 i0).cell0 i0,(H3.box 2 i0).cell i0,(H3.box 2 i0).cell i0,trivial⟩,?_⟩;refine H3.boxed λa7 h4 O=>?_;exact⟨⟨(O.box 2 i0).cell0 i0,(O.box 2 i0).cell i0,(O.box 2 i0).cell i0,trivial⟩,a7,f,i0,O.ck [4,0,1,2,3]⟩
 rintro _ h3 ⟨s,f,rfl,H3⟩;refine⟨p,(H3.box 3 i0).aS _ i0,(jZ p h3).mono ?_⟩;rintro _ h4 ⟨rfl,R4⟩;have O:=H3.up R4.ai;refine⟨_,i0,?_⟩;rw[d1];have ej:dX rv h4 o d:=eb (O.at 2 i0) O.ai (O.seq 1 i0 λ_=>rfl);have b7:∀e∈d,ii e.1<=2^20:=λe B=>by
  obtain⟨x,hx,rfl⟩:=qw.1 B;have:=Bu cd cp seed x.1;dsimp only;omega
 refine(abD o d n w h4 ej (λe B=>⟨(I e B).1,Ze (I e B).2⟩) i4 i4 ⟨i4,i4⟩ b7).mono ?_;have hA:aZ n (bD p.1.toNat p.2.1.toNat):=by rw[c7];exact LQ _ _
 have eA:=Yg (seed:=seed) y hn b2;have eB:=Yh (seed:=seed) (n:=n) (p:=p) (l:=syms) hw;rw[<-eA]at hr⊢;rw[<-eB];rintro _ h5 ⟨known,vals,hI,⟨ar,rfl,R5⟩|⟨ar,k,v,rs,rfl,R5⟩⟩
 ·refine⟨(⟨eH,0,0⟩,⟨eH,0,0⟩,⟨eH,0,0⟩,10),i0,cv (λ_=>?_) λe=>absurd e i5⟩;exact .inr ⟨aay (λe B=>(I e B).1) hA hI ar hr,i0,(O.up R5.ai).ck []⟩
 refine⟨(k,v,rs,0),i0,cv (λe=>absurd i0 e) λ_=>?_⟩;have S:=adh (λe B=>(I e B).1) hA hI ar;have z:=PQ (λe B=>(I e B).1) hI;obtain⟨f1,f2,f3,f4,f5⟩:=LV (λe B=>(I e B).1) hI;have J:=oU hI λe B=>(I e B).1;have bd:=afM (known:=known) (vals:=vals) λe B=>(I e B).2;have d3:=aaz (l:=d) (known:=known) (vals:=vals);have ax:=aaA (known:=known) (vals:=vals) b7;have c5:=hI.vlen;have d4:=hI.klen;unfold RM at S;obtain⟨R,a4⟩:∃R,R=bh known vals d:=⟨_,rfl⟩
 change gA n w d _ known vals _ _ _ _ at S;rw[<-a4]at S z f1 f2 f3 f4 f5 J bd d3 ax R5;obtain⟨P,H6,dy,cq⟩:=aa.ahY (O.comp R5) 6 rfl;obtain⟨rr,H7⟩:=aa.Oe H6 7 rfl λ_=>rfl;have H8:=aa.agm H7 8 i0;have H9:Sp h h5 [SA s (gn f p ⟨eH,0,0⟩ ⟨eH,0,0⟩ ⟨eH,0,0⟩ ⟨eH,0,0⟩ ⟨eH,0,0⟩ ⟨eH,0,0⟩ ⟨eH,0,0⟩),kU ((⟨eH,0,0⟩,[])::P.zip vals),HA v P,cK ji 2 qv rs rr R,aq 4 k 1 eN known,aw f 197 cU]:=aa.ck H8 [0,8,6,7,5,4];have b0:v.len=n:=by rw[(H9.own 2 i0).len];omega
 have hk:∀(c:Nat) (hc:c<ii P),P[c].ptr.isNone=!(known.getD c eR):=λc hc=>by
  rw[cq c hc i4];have K:=hI.row c i4;rw[mz (show c<ii vals by omega)]at K;cases hkn:known.getD c eR with
  |true=>
   rw[hkn,f9 rfl]at K;cases hv:vals[c]'(by omega)with
   |nil=>rw[hv]at K;simp at K;omega
   |cons x t=>rfl
  |false=>
   rw[hkn,g0 i9]at K;rw[vN.1 K];rfl
 refine⟨s,i0,H9.store af 0 i0 i0 4 [v] i0 i0 i0 m8 λh6 da=>?_⟩;refine⟨s,i0,da.store af 0 i0 i0 5 [rs] i0 i0 i0 m8 λh7 ef=>?_⟩;have c6:=Zf (known:=known) (n:=n) i4 λe B=>⟨(J e B).cS,bd e B⟩
 have ad:=Ah (rows:=rowsOf R known n) (n:=n) (by rw[a4];exact vK (a4▸J));have es:ii (rowsOf R known n)<=ii R+n:=by rw[rowsOf,qx,qy];have:=Fj known n;omega
 refine(Wt s f p v rs _ _ _ _ _ k rr R known n (As:=[kU ((⟨eH,0,0⟩,[])::P.zip vals),HA v P,cK ji 2 qv rs rr R,aq 4 k 1 eN known,aw f 197 cU]) ef (St.mk' λh' H'=>⟨H'.eG 2 i0,H'.seq 3 i0 λ_=>rfl⟩) d4 i4 i4 ax c6 ⟨by have:=ad.1;omega,by have:=Je (dz n (rowsOf R known n)).used (rowsOf R known n).length;omega⟩).mono ?_;rintro _ h8 ⟨rfl,st,Z,lf,d0⟩;refine⟨(),i0,?_⟩;obtain⟨D,hD⟩:∃D,D=(gw R known n).dead:=⟨_,rfl⟩
 obtain⟨ST,bq⟩:∃ST,ST=nv R known n:=⟨_,rfl⟩
 obtain⟨L,hL⟩:∃L,L=Wl.leftOf R known n:=⟨_,rfl⟩
 have ds:Sp h h8 (SA s (gn f p v rs st Z lf ⟨eH,0,0⟩ ⟨eH,0,0⟩)::kU ((⟨eH,0,0⟩,[])::P.zip vals)::[HA v P,aq 332 st 2 fB ST,aq 3 Z 1 aC D,aq 3 lf 1 aC L,cK ji 2 qv rs rr R,aw f 197 cU]):=by rw[hD,bq,hL];exact aa.ck d0 [0,4,5,1,2,3,6,8]
 rw[<-hD]at S z f1 f2 f3 f5;rw[<-bq]at S z;rw[<-hL]at S f4;have b9:ii ST<=2^20:=by rw[bq,nv,gw];have:=qP (λx:Int×Int=>decide (x.1<ii R)) (dz n (rowsOf R known n)).steps;have:=ad.1;omega
 have en:ii L<=2^20-2^10:=by rw[hL,Wl.leftOf,gw];have:=qP (λx:Int=>decide (x<ii R)) (fu (dz n (rowsOf R known n)).used (rowsOf R known n).length);have:=Je (dz n (rowsOf R known n)).used (rowsOf R known n).length;omega
 have F:St (λb=>b<h.size) h [HA v P,aq 332 st 2 fB ST,aq 3 Z 1 aC D,aq 3 lf 1 aC L,cK ji 2 qv rs rr R,aw f 197 cU] λh=>YY h f rs st Z lf rr R ST D L:=
  St.mk' λh' H'=>⟨H'.box 5 i0,H'.eG 4 i0,H'.seq 1 i0 λ_=>rfl,H'.seq 2 i0 λ_=>rfl,H'.seq 3 i0 λ_=>rfl⟩
 refine(Za s f p v rs st Z lf _ _ rr R ST D L n D.length w _ ds F b0 i4 c0 i4 i0 i4 J f1 f2 z b9 ax i9).mono ?_;rintro _ h9 ⟨rfl,wa,mo,wr,mr,pl,b6,ay⟩;refine⟨(),i0,?_⟩;have d5:=(F.at [_,_,_,_] b6).dead.len;generalize ep:ST.foldl (gS R D.length) (fM n D.length w D)=S0 at ay S;have d7:ii S0.1=n:=by have:=S.lens.1;simpa[ik]using this
 have ea:ii S0.2=n:=by have:=S.lens.2.1;simpa[ik]using this
 have hV:fx pl id P vals:=Zg dy pl λx hx=>ay.sub x (qS _ hx);refine(abL s f p v rs st Z lf wa mo P wr mr pl known vals S0.1 S0.2 n D.length b6 i4 d5 i4 ⟨λ_ h=>h,ay.way,ay.more⟩ hV c5 d7 ea hk).mono ?_;rintro _ ew ⟨rfl,ah,ab,Y,c9,T⟩;refine⟨(),i0,?_⟩;obtain⟨W,hW⟩:∃W,W=(ik D.length known vals S0).1:=⟨_,rfl⟩
 obtain⟨M,hM⟩:∃M,M=(ik D.length known vals S0).2:=⟨_,rfl⟩
 change mh pl Y ah ab (ik D.length known vals S0).1 (ik D.length known vals S0).2 at T;rw[<-hW,<-hM]at T S;have m:=S.lens;refine(Zc s f p v rs st Z lf wa mo ah ab Y rr R ST D L W M n D.length w c9 F c7 c0 i4 y i0 i4 J ax f4 i4 ⟨λ_ h=>h,T.way,T.more⟩ m.1 m.2.1 m.2.2).mono ?_;rintro _ ap ⟨a,b,rfl,a8⟩;refine⟨(a,b),i0,s,i0,Z,show f7 ap (s.add 7)=_ from(a8.box 2 i0).cell i0,?_⟩;have dk:fx Y id P vals:=hV.mono T.sub;obtain⟨e1,e2⟩:=pN S;have N:=BE (n:=n) (w:=w) (ahead:=bD p.1.toNat p.2.1.toNat) (l:=d) (known:=known) (vals:=vals) (dead:=D) (left:=L) (W:=W) (M:=M);have a6:∀{X:aQ},_->_:=λ{X} hs=>S.Xa hr (D:=X) hs;have a0:=S.Xb hr;have a2:=S.Yi i4 hr;have a9:=S.Ol i4 hr;rw[<-a4]at e1 e2 N a6 a0 a2 a9;obtain⟨dA,cs⟩:∃dA,dA=dn n D.length R W L (bD p.1.toNat p.2.1.toNat):=⟨_,rfl⟩
 obtain⟨G,d6⟩:∃G,G=fv n w R M L (bD p.1.toNat p.2.1.toNat):=⟨_,rfl⟩
 rw[<-cs]at e1 N a6 a0 a2 a9 a8;rw[<-d6]at e2 N a6 a0 a2 a8;have c8:ii dA=ii L+p.2.1.toNat:=by rw[cs];simp[dn,bD]
 have bb:∀{h':f8} {pre:List HP} {dead:Sl} {dr:List Sl} {X:aQ} {Q:HP},Sp h h' (Told s f p v rs st Z lf wa mo ah ab Y++HA v P::[aq 332 st 2 fB ST,aq 3 Z 1 aC D,aq 3 lf 1 aC L,cK ji 2 qv rs rr R,aw f 197 cU,Q])->(∀h',Q.p h' (λb=>b<h'.size)->gB h' (λb=>b<h'.size) dead 1 aE X dr)->ft D.length w dA G X->
   ac xR 222 #[xJ (dB s),dead] h' λv' am=>v'=.tuple #[]/\f7 am (s.add 4)=dB (xI v.ptr v.len v.cap)/\afj h am (.tuple #[v,xH xN 0]) n (dq n d (bD p.1.toNat p.2.1.toNat)) (ib w d (bD p.1.toNat p.2.1.toNat)):=by
  intro h' pre dead dr X Q H' hQ hs;refine(abN s f p v rs st Z lf wa mo dead P ah ab dr Y known vals W M X n D.length w H' (St.mk' λam ao=>⟨ao.box 4 i0,hQ am (ao.at 5 i0)⟩) i4 i4 i4 ⟨λ_ h=>h,T.way,T.more⟩ dk c5 m.1 m.2.1 m.2.2 hs.1 hs.2.1 hk).mono ?_;rintro _ am ⟨rfl,e6,eo,ao,ip⟩;refine⟨i0,(ao.box 0 i0).cell i0,?_⟩;obtain⟨c1,c2⟩:=a6 hs;refine .inl ⟨c1,v,i0,?_⟩;rw[<-c2];exact(ao.adP 4 3 i5 i0 i0 ip.1 λk r l K h2=>ip.2 k r l K h2).ck [4]
 have H:Sp h ap (MA a dA::CA b G::(Told s f p v rs st Z lf wa mo ah ab Y++HA v P::[aq 332 st 2 fB ST,aq 3 Z 1 aC D,aq 3 lf 1 aC L,cK ji 2 qv rs rr R,aw f 197 cU])):=a8;have cf:=H.Pz 1 i0 λ_=>rfl;have b4:fF ap b 1 aE G:=bE.tofF (by
  have:=bE.impl (α':=Sl) (E:=UA) (E':=ct 1 aE) id (λ{h q a b} (hx:UA.p h q a b)=>hx.1) cf
  rwa [List.map_id]at this)
 have du:=b4.len;refine cu (λe0=>?_) (λe0=>?_)
 ·have b5:ii D=0:=i4
  obtain⟨br,q1,q2,q3⟩:=bE.kO cf;refine av (λi:Nat=>(i:Int)) (λi h'=>h'=ap/\i<=ii G/\∀j (hj:j<ii G),j<i->G[j]=aO w) (λi=>ii G-i) 0 i0 ⟨i0,i4,λj _ hj=>i4⟩ ?_;rintro i a3 ⟨rfl,hi,hz⟩;have b1:ft D.length w dA G []↔∀r∈G,r=aO w:=by rw[b5];exact LW N
  refine aj (λe=>?_) (λe=>?_)
  ·have V:i<ii G:=by have e':(i:Int)<(b.len:Int):=e;omega
   obtain⟨y1,y2⟩:=q3 i i4 V;have eh:G[i].length=w:=e2 _ (qg _);refine q1.lM i i0 i4 ?_;refine(Qx (br[i]'(by omega)) G[i] _ i0 a3 y1 y2 i4).mono ?_;rintro _ c4 ⟨⟨t,rfl,ht⟩,rfl⟩;refine⟨t,i0,aj (λe3=>?_) λe3=>?_⟩
   ·refine .inr ⟨λhc=>?_,i0,H.ck []⟩;have cn:=a0 hc;have d2:D=[]:=vN.1 b5;rw[d2]at cn;have:=(LW N).1 cn _ (qg V);have h0:t.len=0:=ht.2 λx hx=>by rw[this]at hx;exact(ye.1 hx).2
    omega
   ·have h0:t.len=0:=i4
    refine⟨i+1,js,⟨i0,i4,λj hj el=>?_⟩,i4⟩;by_cases hh:j=i
    ·subst hh;exact xd.2 ⟨eh,ht.1 h0⟩
    ·exact hz j hj i4
  ·have hs:ft D.length w dA G []:=b1.2 λr hr=>by
    obtain⟨j,hj,rfl⟩:=qH hr;have e':¬(i:Int)<(b.len:Int):=e;exact hz j hj i4
   have bl:=aa.comp (H.ck [2,3,4,5,6,7,8,9,10,11]) (Sp.one (h:=a3) (h':=a3) (A:=emp) (aV.refl _ _) trivial);refine(bb (pre:=[]) (dead:=⟨eH,0,0⟩) (dr:=[]) (X:=[]) (Q:=emp) ?_ (λh' _=>⟨Seq.nil _ _ _ _ _ _,i0,λk r l K _=>by cases K⟩) hs).mono ?_
   ·exact bl
   ·rintro _ c4 ⟨rfl,hc,hm⟩;exact⟨(),i0,s,i0,v,hc,hm⟩
 ·have d8:1<=ii D:=i4
  refine⟨s,i0,dB f,(H.box 2 i0).cell0 i0,?_⟩;refine(Wu f a b dA G dA.length D.length w ap (H.box 11 i0) (H.JD 0 i0) b4 i0 N.symm e1 e2 d8 i4 i4 a9).mono ?_;rintro _ a3 (⟨hc,r,rfl,R12⟩|⟨hc,rfl,R12⟩)
  ·refine⟨(r,0),i0,cv (λe=>absurd i0 e) λ_=>?_⟩;have bl:=(H.comp R12).RK 12 i0;obtain⟨dr,ei⟩:=aa.Oe bl 12 rfl λ_=>rfl;have hs:=pJ N e1 e2 a9 hc;refine(bb (pre:=[]) (dead:=r) (dr:=dr) (X:=fX D.length dA G) (Q:=cK (ct 1 aE) 1 bt r dr (fX D.length dA G)) (ei.ck [2,3,4,5,6,7,8,9,10,11,12]) (λh' x=>⟨x.1,x.2.1,x.2.2⟩) hs).mono ?_;rintro _ c4 ⟨rfl,hc,hm⟩;exact⟨(),i0,s,i0,v,hc,hm⟩
  ·refine⟨(⟨eH,0,0⟩,10),i0,cv (λ_=>?_) λe=>absurd e i5⟩;exact .inr ⟨λhh=>hc (a2.2 hh),i0,(H.up R12.ai).ck []⟩
end Go.Qw
namespace Wl
def mG(p:Int×Int×Int)(x:Int×Row):Bool:=bV x.1&&decide ((ii x.2:Int)=p.2.2)
theorem UF{p:Int×Int×Int}{x:Int×Row}(c:bI p=eL):mG p x=eL↔BG p x:=by have:=(ce p).1 c;unfold mG;rw[qB,decide_eq_true_iff];exact⟨λ⟨a,b⟩=>⟨a,i4⟩,λh=>⟨h.id,by have:=h.len;omega⟩⟩
def ul(p:Int×Int×Int)(seed:Int)(X:aQ)(i:Nat):Row:=(qE i).flatMap λj:Nat=>fL p.2.2.toNat X (dj (bS p).toNat seed (j:Int))
theorem QC(p:Int×Int×Int)(seed:Int)(X:aQ)(i:Nat):ul p seed X (i+1)=ul p seed X i++fL p.2.2.toNat X (dj (bS p).toNat seed (i:Int)):=by unfold ul;rw[zO,zg];simp
open Classical in
noncomputable def nk(p:Int×Int×Int)(seed:Int)(l:List (Int×Row)):Row×Int:=
 if bI p&&l.all (mG p)then
  if fJ p seed (l.map qJ)then
   if kT (bS p).toNat (dH p seed (l.map qJ)) (se p l)then(ul p seed (fX (bS p).toNat (dH p seed (l.map qJ)) (se p l)) p.1.toNat,0)else([],10)
  else([],9)
 else([],1)
end Wl
namespace Go.Qw
open Go Go.Vc Go.Proofs Wl
theorem Wv(p:Pm)(x:Int×Sl)(l:Row)(h:f8)(d:Rd h x.2 1 aE l):ac xR 157 #[jU p,xM #[xH xN x.1,x.2]] h λv h'=>v=xL (mG p (x.1,l))/\Sp h h' []:=by
 refine KR p x ?_;unfold Di;refine(Sp.refl h).boxed λj k e=>?_;refine e.boxed λi g a=>?_;have f:=d.len;refine⟨x.1,(a.box 1 i0).cell0 i0,aj (λb=>?_) λb=>?_⟩
 ·refine⟨x.1,(a.box 1 i0).cell0 i0,aj (λc=>?_) λc=>?_⟩
  ·refine⟨x.2,(a.box 1 i0).cell i0,p.2.2,(a.box 0 i0).cell i0,?_,.zip a.ai⟩;congr 1;unfold mG bV;rw[g9 (show 0<=x.1 from b),g9 (show x.1<=65535 from c),f];rw[vm];simp
  ·refine⟨?_,.zip a.ai⟩;unfold mG bV;rw[hU (show¬x.1<=65535 from c)];simp
 ·refine⟨?_,.zip a.ai⟩;unfold mG bV;rw[hU (show¬0<=x.1 from b)];simp
theorem Ww(p:Pm)(b:fz)(x:Int×Sl)(l:Row)(h:f8)(c:cA h b 24 [xH xN p.1,xH xN p.2.1,xH xN p.2.2])(d:Rd h x.2 1 aE l):ac xR 156 #[xM #[xH xN x.1,x.2],xJ (dB b)] h λv h'=>v=xL (!mG p (x.1,l))/\Sp h h' []:=by refine Ht x b ?_;unfold Av;refine(Sp.refl h).boxed λi e a=>?_;refine⟨p,(c.ai a.ai c.lt).aS _ i0,x,(a.box 0 i0).aS _ i0,?_⟩;refine(Wv p x l e (Seq.up d a.ai)).mono ?_;rintro _ g ⟨rfl,f⟩;exact⟨_,i0,i0,.zip (a.up f.ai).ai⟩
theorem Wx(p:Pm)(d:fz)(l:Sl)(syms:List (Int×Row))(h:f8)(m:cA h d 24 [xH xN p.1,xH xN p.2.1,xH xN p.2.2])(o:dX ND h l syms)(B:ii syms<=2^30):ac xR 155 #[l,.func (.func 156) #[] #[xJ (dB d)]] h λv h'=>v=xL (!syms.all (mG p))/\Sp h h' []:=by
 refine km l (156,#[],#[xJ (dB d)]) ?_;unfold go;refine(lr l (156,#[],#[xJ (dB d)]) (R:=λv h'=>(∃i:Int,v=xH xN i/\(decide (i>=0)=!syms.all (mG p)))/\Sp h h' []) ?_).mono ?_
 ·unfold gU;obtain⟨k,x,A,u⟩:=bE.kO o;have t:=bE.len o;refine av (λi:Nat=>(i:Int)) (λi h'=>i<=ii syms/\(syms.take i).all (mG p)=eL/\Sp h h' []) (λi=>ii syms-i) 0 i0 ⟨i4,i9,Sp.refl h⟩ ?_;rintro i q ⟨r,a,c⟩;refine aj (λe=>?_) (λe=>?_)
  ·have b:i<ii syms:=i4
   obtain⟨y,w⟩:=u i i4 b;refine(Seq.up x c.ai).dQ (g:=yv) i i0 i4 (k[i]'(by omega)) i0 ?_;refine fa k9 ?_;refine(Ww p d (k[i]'(by omega)) syms[i].2 q (m.ai c.ai m.lt) (Seq.up w c.ai)).mono ?_;rintro _ z ⟨rfl,n⟩;have f:((k[i]'(by omega)).1,syms[i].2)=syms[i]:=by rw[y]
   rw[f];refine⟨_,i0,bm (λj=>?_) λj=>?_⟩
   ·refine⟨⟨i,i0,?_⟩,c.up n.ai⟩;rw[g9 (show(i:Int)>=0 by omega)];have:syms.all (mG p)=eR:=yA.2 ⟨_,qg b,sb⟩;rw[this];rfl
   ·refine⟨i+1,js,⟨i4,?_,c.up n.ai⟩,i4⟩;rw[aK _ _ b,yU,a];simpa using j
  ·refine⟨⟨-1,i0,?_⟩,c⟩;rw[qi i4]at a;rw[a];rfl
 ·rintro _ q ⟨⟨i,rfl,r⟩,s⟩;exact⟨i,i0,by rw[r],s⟩
theorem abQ(l:Sl)(syms:List (Int×Row))(h:f8)(f:dX ND h l syms)(B:ii syms<=2^30):ac xR 159 #[l] h λv h'=>∃r:Sl,v=r/\Sp h h' [aq 3 r 1 aC (syms.map qJ)]:=by
 refine OG l ?_;unfold Hu;obtain⟨d,p,x,n⟩:=bE.kO f;have m:=bE.len f;refine av (λt:Nat×Sl=>(t.2,(t.1:Int))) (λt h'=>t.1<=ii syms/\Sp h h' [aq 3 t.2 1 aC ((syms.take t.1).map qJ)]) (λt=>ii syms-t.1) (0,⟨eH,0,0⟩) i0 ⟨i9,(Sp.refl h).nil 3 1 aC⟩ ?_;rintro⟨i,o⟩ A ⟨D,c⟩;dsimp only at*;refine aj (λe=>?_) (λe=>?_)
 ·have b:i<ii syms:=i4
  obtain⟨u,z⟩:=n i i4 b;refine(Seq.up p c.ai).dQ (g:=yv) i i0 i4 (d[i]'(by omega)) i0 ?_;refine c.alloc af i0 λa w q=>?_;refine q.storeAll af 1 i0 i0 (yv (d[i]'(by omega))) i0 i0 i0 i0 λh3 j=>?_;refine⟨(d[i]'(by omega)).1,(j.box 1 i0).cell0 i0,?_⟩;refine j.push af 0 i0 lx i0 i5 (λ_=>rfl) ir (d[i]'(by omega)).1 i0 i5 i7 λs y k=>?_;refine⟨(i+1,s),jj,⟨i6,?_⟩,i6⟩;dsimp only;rw[aK _ _ b,qT];rw[u]at k;exact k.ck [0]
 ·have:i=ii syms:=i4
  subst this;rw[q8]at c;exact⟨o,i0,c⟩
theorem adY{B:aB}{q h:f8}{As:List HP}(f b:Sl)(d c:Row)(H:aa B q h (aq 5 b 1 aE c::As))(t:St B q As λh=>Rd h f 1 aE d)
  (v:ii d=ii c) (I:ii d<=2^30) {K:f8->Prop} (G:∀h',aa B q h' (aq 5 b 1 aE (cR 1 d c)::As)->K h'):
  aM (σ:=Int) (λa E g=>
 Br (decide (a<((f.len:Nat):Int)))
 (∃i:fz,(f.ptr=dB i/\0<=a/\a<((f.len:Nat):Int))/\
 ∃o:Int,f7 g (i.add (a.toNat*1))=dB (xH xO o)/\
 ∃n:fz,(b.ptr=dB n/\0<=a/\a<((b.len:Nat):Int))/\
 ∃l:Int,f7 g (n.add (a.toNat*1))=dB (xH xO l)/\
 ∃a28:fz,(b.ptr=dB a28/\0<=a/\a<((b.len:Nat):Int))/\
 ag xR (qf 5 (xJ (dB (a28.add (a.toNat*1)))) (xH xO (qc xO ((qD (qk xO) l^^^(qD (qk xO) o)).toNat:Nat)))) g λ_ r=>
 E (qc xN (a+(1:Int))) r) (K g)) (0:Int) h:=by
 have w:f.len=ii d:=(t.at [aq 5 b 1 aE c] H).len;refine av (λk:Nat=>(k:Int)) (λk h'=>k<=ii d/\aa B q h' (aq 5 b 1 aE (zh (λx y=>y^^^x) (d.take k) (c.take k)++c.drop k)::As)) (λk=>ii d-k) 0 i0 ⟨i4,l6⟩ ?_;rintro k D ⟨A,j⟩;have F:=t.at [_] j;refine aj (λe=>?_) (λe=>?_)
 ·have s:k<ii d:=i4
  have p:ii (zh (λx y=>y^^^x) (d.take k) (c.take k))=k:=i7
  have z:ii (zh (λx y=>y^^^x) (d.take k) (c.take k)++c.drop k)=ii c:=by rw[qx,p,za];omega
  refine F.bB k i0 s _ i0 ?_;have m:(zh (λx y=>y^^^x) (d.take k) (c.take k)++c.drop k)[k]'(by omega)=c[k]:=by rw[wc i4];simp[p]
  refine(j.seq 0 i0 λ_=>rfl).bB k i0 i4 _ i0 ?_;rw[m,ne];refine j.set af 0 i0 (λ_=>rfl) i0 k i0 i4 _ i0 i0 i0 λh3 u=>?_;rw[zq,Ip v]at u;exact⟨k+1,js,⟨i4,u⟩,i4⟩
 ·have:k=ii d:=i4
  subst this;rw[qi (qn _),qi i4,zf i4,qN,<-Xm]at j;exact G D j
theorem Zh(p:Pm)(seed:Int)(l:Sl)(syms:List (Int×Row))(h:f8)(T:dX ND h l syms)(ah:ii syms<=2^18):
  ac xR 93 #[jU p,xH xP seed,l] h λv h'=>∃r:Sl,v=.tuple #[r,xH xN (nk p seed syms).2]/\Sp h h' [aq 5 r 1 aE (nk p seed syms).1]:=by
 refine KM p seed l ?_;unfold Dc;refine(Sp.refl h).boxed λJ h1 H1=>?_;have k:∀{h':f8} (e:Int),Sp h h' [aw J 24 [xH xN p.1,xH xN p.2.1,xH xN p.2.2]]->nk p seed syms=([],e)->∃r:Sl,(.tuple #[xI eH 0 0,xH xN e]:Value)=.tuple #[r,xH xN (nk p seed syms).2]/\Sp h h' [aq 5 r 1 aE (nk p seed syms).1]:=λe V he=>by
  rw[he];exact⟨⟨eH,0,0⟩,i0,(V.nil 5 1 aE).ck [1]⟩
 refine bg ⟨p,(H1.box 0 i0).aS _ i0,?_⟩;refine(dM p h1).mono ?_;rintro _ h2 ⟨rfl,R2⟩;have P:=H1.up R2.ai;refine⟨_,i0,bm (λe=>?_) λa=>?_⟩
 ·exact k 1 P (by unfold nk;rw[e];rfl)
 refine(Wx p J l syms h2 (P.box 0 i0) (dX.up T P.ai) i4).mono ?_;rintro _ h3 ⟨rfl,R3⟩;have O:=P.up R3.ai;refine⟨_,i0,bm (λe=>?_) λd=>?_⟩
 ·exact k 1 O (by unfold nk;rw[a,e];rfl)
 refine bg ⟨p,(O.box 0 i0).aS _ i0,?_⟩;refine(abQ l syms h3 (dX.up T O.ai) i4).mono ?_;rintro _ h4 ⟨r,rfl,R4⟩;have U:=O.comp R4;have I:=U.box 0 i0;refine⟨r,i0,⟨I.cell0 i0,I.cell i0,I.cell i0,trivial⟩,?_⟩;refine(Qj p seed r (syms.map qJ) h4 (U.seq 1 i0 λ_=>rfl) i7).mono ?_;rintro _ h5 ⟨rfl,R5⟩;have L:Sp h h5 [aw J 24 [xH xN p.1,xH xN p.2.1,xH xN p.2.2]]:=(U.up R5.ai).ck [0];refine⟨_,i0,trivial,bm (λe=>?_) λb=>?_⟩
 ·exact k 9 L (by unfold nk;rw[a,d,e];rfl)
 have H:∀x∈syms,BG p x:=λx g=>(UF a).1 (qL.1 d x g);have a4:=(ce p).1 a;have ao:=oH a;have hr:bW (dH p seed (syms.map qJ))=(bS p).toNat:=by have:=b;unfold fJ Ef at this;rw[a]at this;simp at this;omega
 refine⟨p,(L.box 0 i0).aS _ i0,?_⟩;refine(adX p seed l syms (bS p).toNat p.2.2.toNat h5 (dX.up T L.ai) a H i0 i0 ah hr).mono ?_;rintro _ h6 (⟨hc,m,rfl,R6⟩|⟨hc,rfl,R6⟩)
 rotate_left
 ·refine⟨(⟨eH,0,0⟩,10),i0,cv (λ_=>k 10 (L.up R6.ai) ?_) λe=>absurd e i5⟩;unfold nk;rw[a,d,b,g0 hc];rfl
 refine⟨(m,0),i0,cv (λe=>absurd i0 e) λ_=>?_⟩;obtain⟨X,hX⟩:∃X,X=fX (bS p).toNat (dH p seed (syms.map qJ)) (se p syms):=⟨_,rfl⟩
 have M:nk p seed syms=(ul p seed X p.1.toNat,0):=by unfold nk;rw[a,d,b,f9 hc,hX];rfl
 have ab:aZ p.2.2.toNat (se p syms):=λx g=>by
  rcases qz.1 g with g|g
  ·rw[(ye.1 g).2];simp[aO]
  ·obtain⟨y,hy,rfl⟩:=qw.1 g;exact(H y hy).len
 have Z:ii (dH p seed (syms.map qJ))=ii (se p syms):=by rw[<-Yg (n:=(bS p).toNat) (seed:=seed) a i0 H,<-Yh (n:=(bS p).toNat) (seed:=seed) (p:=p) (l:=syms) rfl];exact vE
 obtain⟨E,s⟩:=vg Z (mQ p seed _) ab hr;rw[<-hX]at R6 E s;have H6:=(L.comp R6).RK 1 i0;obtain⟨Q,R⟩:=aa.Oe H6 1 rfl λ_=>rfl;have ap:=(R.eG 1 i0).1.len;have ax:=(R.eG 1 i0).2.1;refine⟨p.1,(R.box 0 i0).cell0 i0,?_⟩;rw[M];have N:Sp h h6 [aq 5 ⟨eH,0,0⟩ 1 aE [],aw J 24 [xH xN p.1,xH xN p.2.1,xH xN p.2.2],cK (ct 1 aE) 1 bt m Q X]:=(R.nil 5 1 aE).ck [2,0,1];have K:∀j:Nat,ii (fL p.2.2.toNat X (dj (bS p).toNat seed (j:Int)))=p.2.2.toNat:=λj=>WY s E λx g=>mM i4 i4 g;have G:∀i,ii (ul p seed X i)=i*p.2.2.toNat:=λi=>by
  induction i with
  |zero=>simp[ul]
  |succ i ih=>rw[QC,qx,ih,K,zK]
 refine av (λt:Nat×Sl=>(t.2,(t.1:Int))) (λt h'=>t.1<=p.1.toNat/\Sp h h' [aq 5 t.2 1 aE (ul p seed X t.1),aw J 24 [xH xN p.1,xH xN p.2.1,xH xN p.2.2],cK (ct 1 aE) 1 bt m Q X]) (λt=>p.1.toNat-t.1) (0,⟨eH,0,0⟩) i0 ⟨i4,by simpa[ul]using N⟩ ?_;rintro⟨i,o⟩ h8 ⟨hi,N⟩;dsimp only at*;refine aj (λe=>?_) (λe=>?_)
 ·have ar:i<p.1.toNat:=i4
  refine⟨p.2.2,(N.box 1 i0).cell i0,?_⟩;refine N.make af aE gj i5 0 i0 i0 p.2.2.toNat p.2.2.toNat i4 i4 (qn _) i4 λsm h9 _ _ H9=>?_;refine⟨p,(H9.box 1 i0).aS _ i0,(BS p seed (i:Int) h9).mono ?_⟩;rintro _ a2 ⟨c,rfl,B⟩;have S:(bI p&&bV (i:Int))=eL:=by rw[a];unfold bV;simp;omega
  rw[S,f9 rfl]at B;have z:=(H9.comp B).ck [3,0,1,2,4];refine⟨c,i0,?_⟩;generalize A:dj (bS p).toNat seed (i:Int)=cs at z B;have u:∀x∈cs,0<=x/\x<((bS p).toNat:Int):=λx g=>mM i4 i4 (A▸g);have a5:ii cs<=20:=by have:=Bu (n:=(bS p).toNat) i4 i4 seed (i:Int);rw[A]at this;omega
  have a0:=(z.own 4 i0).len;refine av (λj:Nat=>(j:Int)) (λj h'=>j<=ii cs/\Sp h h' [aq 5 sm 1 aE (fL p.2.2.toNat X (cs.take j)),aq 5 o 1 aE (ul p seed X i),aw J 24 [xH xN p.1,xH xN p.2.1,xH xN p.2.2],cK (ct 1 aE) 1 bt m Q X,aq 3 c 1 aC cs]) (λj=>ii cs-j) 0 i0 ⟨i4,z⟩ ?_;rintro j a3 ⟨hj,f⟩;have w:=pK s E u j hj;refine aj (λe2=>?_) (λe2=>?_)
  ·have F:j<ii cs:=i4
   have ay:=u _ (qg F);refine(f.seq 4 i0 λ_=>rfl).bB j i0 F _ i0 ?_;have q:cs[j].toNat<ii X:=i4
   refine(f.eG 3 i0).1.lM cs[j].toNat i4 i4 ?_;have ad:ii (X[cs[j].toNat]'q)=p.2.2.toNat:=s _ (qg _);refine adY (Q[cs[j].toNat]'(by omega)) sm (X[cs[j].toNat]'q) _ f (St.mk' λh' V=>Fix.row (V.eG 2 i0) q) (by rw[ad,w]) i4 λY D=>?_;refine⟨j+1,js,⟨i4,?_⟩,i4⟩;rw[aK _ _ F,Ei,mz q];exact D
  ·have W:j=ii cs:=i4
   subst W;rw[q8]at f w;refine f.append af 1 i0 gj Ug i0 i5 (λ_=>rfl) (f.seq 0 i0 λ_=>rfl) gH (by rw[G,w];have:i*p.2.2.toNat<=16*24:=Nat.mul_le_mul i4 i4;omega) λo' Y D=>?_;refine⟨(i+1,o'),jj,⟨i6,?_⟩,i6⟩;dsimp only;rw[QC,A];exact D.ck [1,2,3]
 ·have am:i=p.1.toNat:=i4
  subst am;exact⟨o,i0,N.ck [0]⟩
end Go.Qw
namespace Wl
section
variable {p:Int×Int×Int} {seed:Int} {d:Row} {K H w n:Nat}
def lW(p:Int×Int×Int)(seed:Int)(X:aQ)(ids:aF):List (Int×Row):=ids.map λi=>(i,fL p.2.2.toNat X (dj (bS p).toNat seed i))
theorem ca.size(B:ca p seed d K H w n):p.2.2.toNat=w:=by have:=B.s;omega
theorem Lo(X:aQ)(ids:aF):(lW p seed X ids).map qJ=ids:=by simp[lW,yd,Function.comp_def]
theorem ca.UG(B:ca p seed d K H w n){ids:aF}(hid:∀i∈ids,bV i=eL):(lW p seed (fd p seed d) ids).all (mG p)=eL:=qL.2 λx b=>by
 obtain⟨i,a,rfl⟩:=qw.1 b;refine(UF B.may).2 ⟨hid i a,?_⟩;dsimp only;rw[B.size,B.pL];exact B.aal i
theorem NE{α β:Type}{f g:α->List β}:∀(l:List α),(∀x∈l,f x=g x)->l.flatMap f=l.flatMap g
 |[],_=>rfl
 |a::l,h=>by rw[zl,zl,h a i9,NE l λx b=>h x ns]
theorem QD(d:Row)(w:Nat):∀i,i*w<=ii d->(qE i).flatMap (Go.Vc.Gv d w)=d.take (i*w)
 |0,_=>i9
 |i+1,h=>by
  have e:(i+1)*w=i*w+w:=zK i w;rw[zO,zg,QD d w i i4,e,List.take_add];simp[Go.Vc.Gv]
theorem ca.out(B:ca p seed d K H w n):ul p seed (fd p seed d) p.1.toNat=d:=by
 have a:p.1.toNat=K:=by have:=B.k;omega
 unfold ul;rw[a,B.size,B.pL];have:(qE K).flatMap (λj:Nat=>fL w (fd p seed d) (dj n seed (j:Int)))=(qE K).flatMap (Go.Vc.Gv d w):=by exact NE _ λj b=>B.acX (qG.1 b)
 rw[this,QD d w K (by rw[B.len];exact qn _),qi (by rw[B.len];exact qn _)]
theorem ca.abR(B:ca p seed d K H w n){ids:aF}(hid:∀i∈ids,bV i=eL):Wl.ft n w (dH p seed ids) (se p (lW p seed (fd p seed d) ids)) (fd p seed d):=by
 have m:ids.filter bV=ids:=zT.2 hid;have l:dH p seed ids=bD K H++ids.map (oC n seed):=by
  unfold dH;rw[B.may,f9 i0,m,B.pL];have o:p.1.toNat=K:=by have:=B.k;omega
  have c:p.2.1.toNat=H:=by have:=B.h;omega
  rw[o,c]
 have j:se p (lW p seed (fd p seed d) ids)=qh H (aO w)++ids.map λi=>fL w (fd p seed d) (dj n seed i):=by
  unfold se lW;have c:p.2.1.toNat=H:=by have:=B.h;omega
  rw[c,B.size,B.pL,yd];rfl
 refine⟨B.sX.1,B.sX.2,λi g=>?_⟩;rw[l]at g⊢;rw[j];have b:ii (bD K H)=H:=by simp[bD]
 simp only[qx,qy,b]at g;by_cases a:i<H
 ·have e:aD (bD K H++ids.map (oC n seed)) i=lO K H i:=by rw[bA i7,yb i4];simp[bD]
  have f:aD (qh H (aO w)++ids.map λi=>fL w (fd p seed d) (dj n seed i)) i=aO w:=by rw[bA i7,yb j7];simp
  rw[e,f];exact B.low a
 ·have e:aD (bD K H++ids.map (oC n seed)) i=oC n seed (ids[i-H]'(by omega)):=by rw[bA i7,wc i4];simp[b]
  have f:aD (qh H (aO w)++ids.map λi=>fL w (fd p seed d) (dj n seed i)) i=fL w (fd p seed d) (dj n seed (ids[i-H]'(by omega))):=by rw[bA i7,wc j7];simp
  rw[e,f,B.sym]
theorem abS{l:List (Int×Row)}(c:∀x∈l,BG p x):aZ p.2.2.toNat (se p l):=λx a=>by
 rcases qz.1 a with a|a
 ·rw[(ye.1 a).2];simp[aO]
 ·obtain⟨y,b,rfl⟩:=qw.1 a;exact(c y b).len
theorem Wy(a:bI p=eL){l:List (Int×Row)}(b:∀x∈l,BG p x):ii (dH p seed (l.map qJ))=ii (se p l):=by rw[<-Yg (n:=(bS p).toNat) (seed:=seed) a i0 b,<-Yh (n:=(bS p).toNat) (seed:=seed) (p:=p) (l:=l) rfl];exact vE
theorem Iv(a:bI p=eL){ids:aF}:fJ p seed ids=eL↔bW (dH p seed ids)=(bS p).toNat:=by have:=oH a;have:=(ce p).1 a;unfold fJ Ef;rw[a,zU];simp;omega
theorem ca.dec(B:ca p seed d K H w n){ids:aF}(hid:∀i∈ids,bV i=eL)(c:fJ p seed ids=eL):nk p seed (lW p seed (fd p seed d) ids)=(d,0):=by have a:∀x∈lW p seed (fd p seed d) ids,BG p x:=λx f=>(UF B.may).1 (qL.1 (B.UG hid) x f);have h:=B.abR hid;have e:=Wy (seed:=seed) B.may a;rw[Lo]at e;have g:=(Iv B.may).1 c;have b:=lR e (mQ p seed ids) (abS a) g (by rw[B.pL,B.size];exact h);unfold nk;rw[B.may,B.UG hid,Lo,c];simp only[Bool.and_self,if_true];rw[f9 b.2,<-b.1,B.out]
theorem adZ(b:bI p=eL){l:List (Int×Row)}(c:l.all (mG p)=eL)(a:fJ p seed (l.map qJ)=eR):nk p seed l=([],9):=by unfold nk;rw[b,c,a];rfl
end
end Wl
namespace Go.Qw
open Go Go.Vc Go.Proofs Wl
end Go.Qw
namespace Wl
section
variable {p:Int×Int×Int} {seed:Int} {d:Row} {K H w n:Nat}
end
theorem Wz{n:Nat}{A:aQ}(l:aZ n A)(d:bW A=n){y:Nat->UInt8}(u:∀r∈A,bP (λj=>aP r j) y n=0):∀i,i<n->y i=0:=by
 intro i p;let Y:aQ:=(qE n).map λc=>[y c]
 have o:aZ 1 (qh A.length (aO 1)):=λr d=>by rw[(ye.1 d).2];rfl
 have a:ii A=ii (qh A.length (aO 1)):=i9
 have f:∀j,j<ii A->aD (qh A.length (aO 1)) j=aO 1:=λj g=>by rw[bA oj];simp
 have e:∀z:Nat->UInt8,(∀r∈A,bP (λj=>aP r j) z n=0)->ft n 1 A (qh A.length (aO 1)) ((qE n).map λc=>[z c]):=λz q=>by
  have b:aZ 1 ((qE n).map λc=>[z c]):=λr d=>by obtain⟨c,_,rfl⟩:=qw.1 d;rfl
  refine⟨i9,b,λj g=>?_⟩;rw[f j g];refine ez (n:=1) (iu b i9 _ n (qn _)) i0 λk w=>?_;obtain rfl:k=0:=i4
  rw[gN b i9 _ 0 n (qn _),cm,<-q _ (mem_row g)];refine fK n (λ_ _=>rfl) λc s=>?_;rw[bA (by simpa using s)];simp[aP]
 have t:=(lR a l o d (e (λ_=>0) λr _=>dot_zero' r n)).1;have v:=(lR a l o d (e y u)).1;have h:aP (aD ((qE n).map λc=>[y c]) i) 0=aP (aD ((qE n).map λ_=>[(0:UInt8)]) i) 0:=congrArg (λm=>aP (aD m i) 0) (v.trans t.symm);rw[bA p8,bA p8]at h;simpa[aP]using h
where
 dot_zero' (r:Row):∀n,bP (λj=>aP r j) (λ_=>(0:UInt8)) n=0
  |0=>rfl
  |n+1=>by rw[bP,dot_zero' r n,Gf.mul_zero];rfl
section
variable {p:Int×Int×Int} {seed:Int} {d:Row} {K H w n:Nat}
theorem agp{ids c:aF}(h:∀i∈ids,i∈c):∀r∈dH p seed ids,r∈dH p seed c:=λr a=>by
 unfold dH at*;cases hm:bI p
 ·rw[hm]at a;simp at a
 ·rw[hm,f9 rfl,qz]at a;rw[f9 i0,qz];rcases a with a|a
  ·exact .inl a
  ·obtain⟨i,b,rfl⟩:=qw.1 a;rw[qI]at b;exact .inr (qw.2 ⟨i,qI.2 ⟨h i b.1,b.2⟩,i0⟩)
theorem QE(d:bI p=eL){ids a:aF}(h:∀i∈ids,i∈a)(k:fJ p seed ids=eL):fJ p seed a=eL:=by
 have b:=(Iv d).1 k;refine(Iv d).2 ?_;have g:=mO (mQ p seed a);by_cases c:bW (dH p seed a)<(bS p).toNat
 ·exfalso;obtain⟨y,⟨i,f,e⟩,j⟩:=kernel (mQ p seed a) c;exact e (Wz (mQ p seed ids) b (λr b=>j r (agp h r b)) i f)
 ·omega
end
end Wl
namespace Go.Qw
open Go Go.Vc Go.Proofs Wl
theorem tU(a b:dD):Ed a b=eL↔a.object=b.object/\a.block=b.block/\a.id=b.id:=by unfold Ed;rw[decide_eq_true_eq]
theorem Xo{l:List dD}{i:Nat}(a:i<ii l)(b:uG l i=eL):l[i]∈Ad l:=by unfold Ad;exact qw.2 ⟨i,qI.2 ⟨qG.2 a,b⟩,fR _ a⟩
theorem aea{l:List dD}{r:dD}(h:r∈l):∃b∈Ad l,Ed b r=eL:=by
 have e:∀i (a:i<ii l),∃b∈Ad l,Ed b l[i]=eL:=by
  intro i
  induction i with
  |zero=>intro a;exact⟨l[0],Xo a (by unfold uG;simp),(tU _ _).2 ⟨i0,i0,i0⟩⟩
  |succ i ih=>
   intro a;cases hk:uG l (i+1)with
   |true=>exact⟨_,Xo a hk,(tU _ _).2 ⟨i0,i0,i0⟩⟩
   |false=>
    obtain⟨b,f,d⟩:=ih i4;unfold uG at hk;rw[Bool.or_eq_false_iff,Bool.not_eq_false']at hk;have c:=hk.2;rw[Nat.add_sub_cancel,fR _ a,fR _ (show i<ii l by omega)]at c;rw[tU]at d c;exact⟨b,f,(tU _ _).2 ⟨by rw[d.1,c.1],by rw[d.2.1,c.2.1],by rw[d.2.2,c.2.2]⟩⟩
 obtain⟨i,a,rfl⟩:=qH h;exact e i a
theorem iC{m:aI}{r:dD}:dT m r=eL↔jc r=eL/\r.p=m.p/\∃x∈m.aG,x.object=r.object/\r.block<(x.tries.length:Int)/\r.seed=cF r.object r.block (x.tries.getD r.block.toNat 0):=by unfold dT;rw[qB,qB,decide_eq_true_eq,zV];simp only[qB,decide_eq_true_eq]
theorem UH{m:aI}(f:bO m=eL){x y:Wl.cb}(d:x∈m.aG)(e:y∈m.aG)(h:x.object=y.object):x=y:=by
 have c:=zw.1 ((bU m).1 f).2.2.2.2.2.2;obtain⟨i,a,rfl⟩:=qH d;obtain⟨j,b,rfl⟩:=qH e;rcases yo i j with hl|rfl|hl
 ·exact absurd h (c i j a b hl)
 ·rfl
 ·exact absurd h.symm (c j i b a hl)
theorem abT{m:aI}(f:bO m=eL){x y:Wl.cb}(d:x∈m.aG)(e:y∈m.aG)(h:x.name=y.name):x=y:=by
 have c:=zw.1 ((bU m).1 f).2.2.2.2.2.1;obtain⟨i,a,rfl⟩:=qH d;obtain⟨j,b,rfl⟩:=qH e;rcases yo i j with hl|rfl|hl
 ·exact absurd h (Im (c i j a b hl))
 ·rfl
 ·exact absurd h.symm (Im (c j i b a hl))
def gc(m:aI)(C:Int->bc)(o b:Int):bc:=(splitB m.p (C o)).getD b.toNat []
def EX(m:aI)(C:Int->bc)(r:dD):Prop:=r.data=AP m.p r.seed (gc m C r.object r.block) r.id
theorem aeb{m:aI}{C:Int->bc}{r a:dD}(w:bO m=eL)(s:dT m r=eL)(i:dT m a=eL)(e:EX m C r)(h:EX m C a)(f:Ed a r=eL):a=r:=by
 obtain⟨_,p,v,b,l,_,k⟩:=iC.1 s;obtain⟨_,q,x2,d,u,_,t⟩:=iC.1 i;rw[tU]at f;obtain⟨c,g,o⟩:=f;have n:v=x2:=UH w b d (by rw[l,u,c]);subst n;have j:a.seed=r.seed:=by rw[k,t,c,g]
 unfold EX at e h;cases r;cases a;simp only at*;subst c g o j;rw[p,q,e,h]
structure fU (m:aI) (C:Int->bc) (c:bc):Prop where
 old:∀r,dL c=dB r->r.object<m.next
 tru:∀r,dL c=dB r->dT m r=eL->EX m C r
 page:∀g,tQ c=dB g->g.seq<=m.seq/\(g.seq=m.seq->c∈bo m)
theorem UI{m:aI}{C:Int->bc}{l:cP}(p:bO m=eL)(j:∀c∈l,fU m C c){c:bc}(i:c∈l){r:dD}(k:dL c=dB r)(d:dT m r=eL):r∈kS m l:=by have b:r∈(l.filterMap (jN m)).mergeSort leC:=List.mem_mergeSort.2 (List.mem_filterMap.2 ⟨c,i,by unfold jN;rw[k];dsimp only;rw[f9 d]⟩);obtain⟨g,h,n⟩:=aea b;obtain⟨o,e,f,a⟩:=ET (m:=m) (l:=l) (r:=g) h;have:=aeb p d a ((j c i).tru r k d) ((j o e).tru g f a) n;rw[<-this];exact h
theorem BY{m:aI}{l:cP}{r:dD}(h:r∈kS m l):dW r∈l/\dL (dW r)=dB r/\dT m r=eL:=by obtain⟨c,d,a,b⟩:=ET h;rw[(XS a).1];exact⟨d,a,b⟩
theorem Jj{n:aI}(C:Int->bc){c:bc}(e:bO n=eL)(h:c∈bo n):fU n C c:=by
 have h0:=mu h;refine⟨λr a=>(by rw[h0]at a;cases a),λr a _=>(by rw[h0]at a;cases a),λg b=>?_⟩;rw[Qv]at h;obtain⟨i,d,rfl⟩:=qw.1 h;rw[YS e (qG.1 d)]at b;injection b with b
 subst b;exact⟨Int.le_refl _,λ_=>by rw[Qv];exact qw.2 ⟨i,d,i0⟩⟩
theorem agq{m:aI}{C:Int->bc}{l:cP}(e:bO m=eL)(d:∀c∈l,fU m C c):∀c∈ku m l,fU m C c:=λc b=>by
 rcases qz.1 b with h|h
 ·exact Jj C e h
 ·obtain⟨r,a,rfl⟩:=qw.1 h;exact d _ (BY a).1
theorem Xp{m:aI}{C:Int->bc}{d:bw}{N:Int}(e:bO m=eL)(b:∀c∈d.l,fU m C c):∀c∈(dU m d N).l,fU m C c:=λc a=>by
 unfold dU at a;split at a
 ·exact b c a
 ·exact agq e b c a
theorem UJ{m:aI}{C:Int->bc}{d:bw}{N:Int}(f:bO m=eL)(e:∀c∈d.l,fU m C c){r:dD}(a:dW r∈d.l)(g:dL (dW r)=dB r)(b:dT m r=eL):dW r∈(dU m d N).l:=by
 unfold dU;split
 ·exact a
 ·exact wM _ (qw.2 ⟨r,UI f e a g b,i0⟩)
theorem Zi{r:dD}(h:jc r=eL):tQ (dW r)=eH:=by have a:=oQ h;unfold tQ dW;rw[f9 h,Bx];dsimp only;rw[g0 (by rintro⟨h,_⟩;exact absurd h i5)]
theorem EY{m n:aI}{C D:Int->bc}{o b:Int}(a:n.p=m.p)(h:D o=C o):gc n D o b=gc m C o b:=by unfold gc;rw[a,h]
theorem EX.congr{m n:aI}{C D:Int->bc}{r:dD}(a:n.p=m.p)(b:D r.object=C r.object)(h:EX m C r):EX n D r:=by unfold EX at h⊢;rw[EY a b,a];exact h
theorem NF{m n:aI}{r:dD}(e:n.p=m.p)(a:∀x∈n.aG,x∈m.aG)(h:dT n r=eL):dT m r=eL:=by obtain⟨d,b,x,c,h3⟩:=iC.1 h;exact iC.2 ⟨d,by rw[b,e],x,a x c,h3⟩
theorem fU.next{m n:aI}{C:Int->bc}{c:bc}(h:fU m C c)(d:n.p=m.p)(j:m.next<=n.next)(k:m.seq<n.seq)(a:∀x∈n.aG,x∈m.aG):fU n C c:=
 ⟨λr b=>by have:=h.old r b;omega,λr b i=>(h.tru r b (NF d a i)).congr d i0,λg f=>by have:=(h.page g f).1;exact⟨i4,λe=>i4⟩⟩
def kK(C:Int->bc)(o:Int)(b:bc):Int->bc:=λk=>if k=o then b else C k
theorem fU.with{m:aI}{C:Int->bc}{e:Wl.cb}{b c:bc}(h:fU m C c)(o:e.object=m.next):fU (dw m e) (kK C m.next b) c:=by
 refine⟨λr a=>?_,λr a j=>?_,λg n=>?_⟩
 ·have:=h.old r a;show r.object<m.next+1;omega
 ·have l:=h.old r a;obtain⟨k,f,x,d,h3,i⟩:=iC.1 j;rcases su.1 d with d|rfl
  ·refine(h.tru r a (iC.2 ⟨k,f,x,d,h3,i⟩)).congr (m:=m) i0 ?_;unfold kK;rw[g0 i4]
  ·omega
 ·have:=(h.page g n).1;show g.seq<=m.seq+1/\(g.seq=m.seq+1->_)
  exact⟨i4,λe=>i4⟩
theorem ahZ{m:aI}{C:Int->bc}{e:Wl.cb}{b:bc}{seed:Int}{i id:Nat}(f:0<=seed/\seed<4294967296)(a:jc (lV m m.next i seed ((splitB m.p b).getD i []) id)=eL):
  fU (dw m e) (kK C m.next b) (dW (lV m m.next i seed ((splitB m.p b).getD i []) id)):=by
 have c:=sW a f;refine⟨λr h=>?_,λr h j=>?_,λg h=>?_⟩
 ·rw[c]at h;injection h with h;subst h
  show m.next<m.next+1;omega
 ·rw[c]at h;injection h with h;subst h
  have d:gc (dw m e) (kK C m.next b) m.next (i:Int)=(splitB m.p b).getD i []:=by unfold gc kK;rw[f9 i0,ql];rfl
  show AP m.p seed ((splitB m.p b).getD i []) id=AP (dw m e).p seed (gc (dw m e) (kK C m.next b) m.next (i:Int)) id;rw[d];rfl
 ·rw[Zi a]at h;cases h
structure fl (m:aI) (C:Int->bc) (ds:aW):Prop where
 may:bO m=eL
 len:ds.length=64
 cells:∀k d,bC ds k=dB d->∀c∈d.l,fU m C c
 ents:∀e∈m.aG,((C e.object).length:Int)=e.length/\cL m.p e.object (splitB m.p (C e.object)).length=dB e.tries
theorem fl.old{m:aI}{C:Int->bc}{ds:aW}(S:fl m C ds){e:Wl.cb}(a:e∈m.aG):e.object<m.next:=((gP m e).1 (((bU m).1 S.may).2.2.2.2.1 e a)).2.1.2
theorem EZ{ds b:aW}{f:Int->bw->bw}(h:∀k,bC b k=(bC ds k).map (f k)){k:Int}{d:bw}(a:bC b k=dB d):∃c,bC ds k=dB c/\d=f k c:=by
 rw[h]at a;cases h0:bC ds k with
 |none=>rw[h0]at a;cases a
 |some c=>rw[h0]at a;injection a with a;exact⟨c,i0,a.symm⟩
theorem Xq{n:aI}{C:Int->bc}{b:cP}{d:bw}(f:∀c∈d.l,fU n C c)(e:∀c∈b,fU n C c):∀c∈(ee b d).l,fU n C c:=λc a=>by
 rw[DD]at a;rcases qz.1 a with h|h
 ·exact f c h
 ·exact e c h
def oy(m:aI)(ds:aW)(t:aF)(b:bc)(n:aI)(k:Int)(d:bw):bw:=
 if k∈aN ds m.drives then ee ((jz m m.next t (splitB m.p b) (aN ds m.drives) k (splitB m.p b).length).map dW++bo n) (dU m d (kv (bo n).length (dJ m m.next t (splitB m.p b) (aN ds m.drives) (splitB m.p b).length) k))else d
theorem Xr{m:aI}{offs:Int}{w:Pow}{ds:aW}{C:Int->bc}{name:ByteArray}{b:bc}(u:w.calm)(S:fl m C ds):
  ((∃e,e≠0/\gE m offs w ds name b=(e,m,w,ds))/\((gE m offs w ds name b).1=dv m (di w offs) ds name b.length∨(dv m (di w offs) ds name b.length=0/\((gE m offs w ds name b).1=8/\cL m.p m.next (splitB m.p b).length=eH∨(gE m offs w ds name b).1=7/\∃t,cL m.p m.next (splitB m.p b).length=dB t/\dt m ds (aN ds m.drives) (kv (bo (dw m ⟨name,m.next,b.length,t⟩)).length (dJ m m.next t (splitB m.p b) (aN ds m.drives) (splitB m.p b).length))=eR))))∨
  (dv m (di w offs) ds name b.length=0/\∃t a,cL m.p m.next (splitB m.p b).length=dB t/\gE m offs w ds name b=(0,dw m ⟨name,m.next,b.length,t⟩,w,a)/\fl (dw m ⟨name,m.next,b.length,t⟩) (kK C m.next b) a/\
   ∀k,bC a k=(bC ds k).map (oy m ds t b (dw m ⟨name,m.next,b.length,t⟩) k)):=by
 obtain⟨D,x⟩:=abu (offs:=offs) (name:=name) (b:=b) u S.len S.may;by_cases f:dv m (di w offs) ds name b.length=0
 ·obtain⟨B,F⟩:=x f;cases ht:cL m.p m.next (splitB m.p b).length with
  |none=>rw[B ht];exact .inl ⟨⟨8,i5,i0⟩,.inr ⟨f,.inl ⟨i0,i0⟩⟩⟩
  |some t=>
   obtain⟨j,z,v⟩:=F t ht;cases hf:dt m ds (aN ds m.drives) (kv (bo (dw m ⟨name,m.next,b.length,t⟩)).length (dJ m m.next t (splitB m.p b) (aN ds m.drives) (splitB m.p b).length))with
   |false=>rw[z hf];exact .inl ⟨⟨7,i5,i0⟩,.inr ⟨f,.inr ⟨i0,t,i0,hf⟩⟩⟩
   |true=>
    obtain⟨a,y,E,A⟩:=v hf;have l:∀k,bC a k=(bC ds k).map (oy m ds t b (dw m ⟨name,m.next,b.length,t⟩) k):=A;refine .inr ⟨f,t,a,i0,y,⟨j,E,λk d H=>?_,λe n=>?_⟩,l⟩
    ·obtain⟨s,h0,rfl⟩:=EZ l H;unfold oy;split
     ·refine Xq (λc g=>(Xp S.may (S.cells k s h0) c g).with i0) λc g=>?_;rcases qz.1 g with h|h
      ·obtain⟨r,q,rfl⟩:=qw.1 h;obtain⟨i,id,rfl,G,hid⟩:=Nu q;obtain⟨K,J,z3,z4,z5⟩:=lA f;have o:=((dE m).1 ((bU m).1 S.may).1)
       have h8:=DC o.2.2.1 λh=>z4 (.inl h);exact ahZ (my _ _ _) (Pf S.may (by have:¬16777215<m.next:=λh=>z5 (.inr (.inl h));omega) h8 ht G hid)
      ·exact Jj _ j h
     ·exactλc g=>(S.cells k s h0 c g).with i0
    ·rcases su.1 n with n|rfl
     ·have I:=S.old n;have:kK C m.next b e.object=C e.object:=by unfold kK;rw[g0 i4]
      rw[this];exact S.ents e n
     ·have:kK C m.next b m.next=b:=by unfold kK;rw[f9 rfl]
      show((kK C m.next b m.next).length:Int)=(b.length:Int)/\cL m.p m.next (splitB m.p (kK C m.next b m.next)).length=dB t;rw[this];exact⟨i0,ht⟩
 ·rw[D f];exact .inl ⟨⟨_,f,i0⟩,.inl i0⟩
theorem NG{m n:aI}{offs:Int}{w:Pow}{ds:aW}{C:Int->bc}(v:w.calm)(S:fl m C ds)(E:di w offs=eR)(l:bO n=eL)(B:n.seq=m.seq+1)(o:n.p=m.p)(s:m.next<=n.next)(b:∀x∈n.aG,x∈m.aG):
  ((aN ds n.drives=[]∨dt m ds (aN ds n.drives) (λ_=>(ii (bo n):Int))=eR)/\cM m offs w ds n=(7,m,w,ds))∨
  ((aN ds n.drives≠[]/\dt m ds (aN ds n.drives) (λ_=>(ii (bo n):Int))=eL)/\∃a,cM m offs w ds n=(0,n,w,a)/\fl n C a/\
   ∀k,bC a k=(bC ds k).map λd=>if k∈aN ds n.drives then ee (bo n) (dU m d (bo n).length)else d):=by
 obtain⟨A,y⟩:=Uv (m:=m) (n:=n) (offs:=offs) (w:=w) (ds:=ds) v S.len E l B;by_cases i:aN ds n.drives=[]∨dt m ds (aN ds n.drives) (λ_=>(ii (bo n):Int))=eR
 ·exact .inl ⟨i,A i⟩
 ·have r:aN ds n.drives≠[]:=λh=>i (.inl h);have q:dt m ds (aN ds n.drives) (λ_=>(ii (bo n):Int))=eL:=by
   cases h:dt m ds (aN ds n.drives) (λ_=>(ii (bo n):Int))with
   |false=>exact absurd (.inr h) i
   |true=>rfl
  obtain⟨a,z,D,t⟩:=y r q;refine .inr ⟨⟨r,q⟩,a,z,⟨l,D,λk d j=>?_,λe F=>?_⟩,t⟩
  ·obtain⟨u,h0,rfl⟩:=EZ (f:=λk d=>if k∈aN ds n.drives then ee (bo n) (dU m d (bo n).length)else d) t j;split
   ·exact Xq (λc g=>(Xp S.may (S.cells k u h0) c g).next o s i4 b) λc g=>Jj C l g
   ·exactλc g=>(S.cells k u h0 c g).next o s i4 b
  ·have:=S.ents e (b e F);rw[o];exact this
end Go.Qw
namespace Wl
open Go Go.Qw Go.Vc
def nG(p:Int×Int×Int)(a:cP)(n:Int):bc:=if bI p=eL/\0<=n/\(ii a:Int)=countP p n/\(a.all λx=>decide (ii x=dG p))=eL then a.flatten.take n.toNat else[]
noncomputable def jL(m:aI)(ds:aW)(o:Int)(a:aF)(k:Nat):bc×Int:=nk m.p (cF o k (a.getD k 0)) (fQ m ds (aN ds m.drives) o k)
def Iw(m:aI)(ds:aW)(k:Int):Bool:=match bC ds k with|some d=>iq m d.l|none=>eR
def oL(m:aI)(ds:aW):Bool:=(aN ds m.drives).any (Iw m ds)
noncomputable def CJ(m:aI)(ds:aW)(e:cb):bc×Int:=
 if oL m ds=eR then([],11)else if((qE e.tries.length).all λk=>decide ((jL m ds e.object e.tries k).2=0))=eL then(nG m.p ((qE e.tries.length).map λk=>(jL m ds e.object e.tries k).1) e.length,0)else([],11)
noncomputable def kL(m:aI)(offs:Int)(w:Pow)(ds:aW)(name:ByteArray):bc×Int:=
 if di w offs then([],14)else match m.aG.find? (dP name)with
 |none=>([],5)
 |some e=>CJ m ds e
def nH(m:aI)(ds:aW)(o b:Int):aF:=(fQ m ds (aN ds m.drives) o b).map qJ
def Lp(m:aI)(ds:aW)(e:cb):Bool:=oL m ds&&(qE e.tries.length).all λk=>fJ m.p (cF e.object k (e.tries.getD k 0)) (nH m ds e.object k)
theorem NH(a:Nat)(b:bc):∀n,((qE n).map (uT a b)).flatten=b.take (n*a)++qh (n*a-ii b) 0
 |0=>i9
 |n+1=>by
  rw[zO,qT,List.flatten_append,NH a b n,zK];simp only[wz,vY,List.flatten_cons,List.flatten_nil,qN];unfold uT;by_cases h:n*a<=ii b
  ·have d:n*a-ii b=0:=i4
   rw[d,vd,qN,<-qp,<-List.take_add,List.drop_replicate,za];congr 2;omega
  ·have c:b.drop (n*a)=[]:=zf i4;rw[c,List.take_nil,List.nil_append,List.length_nil,List.drop_zero,qi i4,qi i4,qp,List.replicate_append_replicate];congr 2;omega
theorem Ki{p:Int×Int×Int}(a:bI p=eL)(n:Nat):n<=(countP p n).toNat*dG p:=by
 obtain⟨h,g,c⟩:=ly a;unfold countP;rw[a,zU];by_cases h0:0<(n:Int)
 ·rw[g9 h0,f9 i0,<-c];have f:=Int.emod_lt_of_pos ((n:Int)-1) (show(0:Int)<(dG p:Int)by omega);have b:=Int.mul_ediv_add_emod ((n:Int)-1) (dG p:Int);have h3:0<=((n:Int)-1)/(dG p:Int):=Int.ediv_nonneg i4 i4;obtain⟨q,d⟩:=Int.eq_ofNat_of_zero_le h3;rw[d]at b⊢;have e:((q:Int)+1).toNat=q+1:=i4
  rw[e,zK];have:(dG p:Int)*(q:Int)=((q*dG p:Nat):Int):=by rw[Int.natCast_mul,Int.mul_comm]
  omega
 ·omega
theorem Zj{p:Int×Int×Int}(a:bI p=eL)(b:bc):nG p (splitB p b) b.length=b:=by
 unfold nG;rw[f9 ⟨a,i4,Io a b,qL.2 λx c=>by
  unfold splitB at c;obtain⟨i,_,rfl⟩:=qw.1 c;exact g9 (Ia _ _ _)⟩]
 have:=Ki a b.length;unfold splitB;rw[NH,qi this,ql,List.take_append_of_le_length (qn _),q8]
end Wl
namespace Go.Qw
open Go Go.Vc Go.Proofs Wl
section
variable {m:aI} {C:Int->bc} {ds:aW} {offs:Int} {w:Pow}
theorem Zk{o b k:Int}{x:Int×bc}(h:x∈kw m ds o b k):∃d r,bC ds k=dB d/\r∈kS m d.l/\r.object=o/\r.block=b/\x=(r.id,r.data):=by
 unfold kw at h;cases hd:bC ds k with
 |none=>rw[hd]at h;cases h
 |some d=>
  rw[hd]at h;unfold tK at h;obtain⟨r,c,rfl⟩:=qw.1 h;obtain⟨e,a⟩:=qI.1 c;rw[qB,decide_eq_true_eq,decide_eq_true_eq]at a;exact⟨d,r,i0,e,a.1,a.2,i0⟩
theorem fl.entry(S:fl m C ds){e:Wl.cb}(a:e∈m.aG):gM m e=eL:=((bU m).1 S.may).2.2.2.2.1 e a
theorem fl.Ix(S:fl m C ds):bI m.p=eL:=((dE m).1 ((bU m).1 S.may).1).2.2.1
theorem fl.blocks(S:fl m C ds){e:Wl.cb}(a:e∈m.aG):(splitB m.p (C e.object)).length=e.tries.length:=(jg (S.ents e a).2).symm
theorem fl.fG(S:fl m C ds){e:Wl.cb}(a:e∈m.aG){k:Nat}(b:k<e.tries.length):∃K H w n,ca m.p (cF e.object k (e.tries.getD k 0)) (gc m C e.object k) K H w n:=by have h:=Xl S.Ix (S.ents e a).2 (i:=k) (by rw[S.blocks a];exact b);unfold gc;rw[ql];exact h
theorem fl.sym(S:fl m C ds){e:Wl.cb}(w:e∈m.aG){k:Nat}(A:k<e.tries.length){s:Int}{x:Int×bc}(h:x∈kw m ds e.object k s):
  bV x.1=eL/\x.2=fL m.p.2.2.toNat (fd m.p (cF e.object k (e.tries.getD k 0)) (gc m C e.object k)) (dj (bS m.p).toNat (cF e.object k (e.tries.getD k 0)) x.1):=by
 obtain⟨d,r,v,t,c,g,rfl⟩:=Zk h;obtain⟨u,l,i⟩:=BY t;obtain⟨o,z,y,q,n,_,j⟩:=iC.1 i;have f:y=e:=UH S.may q w (by rw[n,c]);subst f;have hid:=((kC r).1 o).2.2.1;have a:bV r.id=eL:=by unfold bV;simp;omega
 have b:=(S.cells s d v _ u).tru r l i;unfold EX at b;rw[c,g]at b;rw[c,g,ql]at j;refine⟨a,?_⟩;show r.data=_;rw[b,j];unfold AP;rw[f9 a]
theorem NI{α β:Type}{f:α->β}:∀{l:List (α×β)},(∀x∈l,x.2=f x.1)->l=(l.map qJ).map λi=>(i,f i)
 |[],_=>rfl
 |x::l,h=>by
  have c:=h x zb;have a:=NI (l:=l) λy b=>h y (qS _ b);rw[wz,wz,<-a,<-c]
theorem fl.syms(S:fl m C ds){e:Wl.cb}(f:e∈m.aG){k:Nat}(d:k<e.tries.length)(cj:aF):
  fQ m ds cj e.object k=lW m.p (cF e.object k (e.tries.getD k 0)) (fd m.p (cF e.object k (e.tries.getD k 0)) (gc m C e.object k)) ((fQ m ds cj e.object k).map qJ)/\∀i∈(fQ m ds cj e.object k).map qJ,bV i=eL:=by
 have b:∀x∈fQ m ds cj e.object k,bV x.1=eL/\x.2=fL m.p.2.2.toNat (fd m.p (cF e.object k (e.tries.getD k 0)) (gc m C e.object k)) (dj (bS m.p).toNat (cF e.object k (e.tries.getD k 0)) x.1):=λx a=>by
  unfold fQ at a;obtain⟨s,_,a⟩:=zJ.1 a;exact S.sym f d a
 refine⟨NI λx a=>(b x a).2,λi c=>?_⟩;obtain⟨x,a,rfl⟩:=qw.1 c;exact(b x a).1
theorem fl.jL(S:fl m C ds){e:Wl.cb}(c:e∈m.aG){k:Nat}(d:k<e.tries.length):
  Wl.jL m ds e.object e.tries k=if fJ m.p (cF e.object k (e.tries.getD k 0)) (nH m ds e.object k)=eL then(gc m C e.object k,0)else([],9):=by
 obtain⟨K,H,w,n,B⟩:=S.fG c d;obtain⟨f,b⟩:=S.syms c d (aN ds m.drives);unfold Wl.jL;rw[f];by_cases a:fJ m.p (cF e.object k (e.tries.getD k 0)) (nH m ds e.object k)=eL
 ·rw[f9 a];exact B.dec b a
 ·rw[g0 a];refine adZ B.may (B.UG b) ?_;rw[Lo];exact eq_false_of_ne_true a
theorem fl.CJ(S:fl m C ds){e:Wl.cb}(b:e∈m.aG):Wl.CJ m ds e=if Lp m ds e=eL then(C e.object,0)else([],11):=by
 have a:((qE e.tries.length).all λk=>decide ((Wl.jL m ds e.object e.tries k).2=0))=(qE e.tries.length).all λk=>fJ m.p (cF e.object k (e.tries.getD k 0)) (nH m ds e.object k):=by
  rw[vm,qL,qL];refine forall_congr' λk=>forall_congr' λg=>?_;rw[S.jL b (qG.1 g)];cases fJ m.p (cF e.object k (e.tries.getD k 0)) (nH m ds e.object k)with
  |true=>simp
  |false=>simp
 unfold Wl.CJ Lp;rw[a];cases hw:oL m ds with
 |false=>rw[f9 i0,Bool.false_and,g0 i5]
 |true=>
  rw[g0 i5,zU];cases hf:(qE e.tries.length).all λk=>fJ m.p (cF e.object k (e.tries.getD k 0)) (nH m ds e.object k)with
  |false=>rw[g0 i5,g0 i5]
  |true=>
   rw[f9 i0,f9 rfl];have f:((qE e.tries.length).map λk=>(Wl.jL m ds e.object e.tries k).1)=splitB m.p (C e.object):=by
    apply wx
    ·simp[S.blocks b]
    ·intro k c d;rw[wy,List.getElem_range];simp only[qy,zA]at c;rw[S.jL b c,f9 (qL.1 hf k (qG.2 c))];unfold gc;rw[ql,fR _ d]
   rw[f,<-(S.ents e b).1,Zj S.Ix]
theorem fl.get(S:fl m C ds)(d:di w offs=eR)(name:ByteArray):
  (∀e∈m.aG,e.name=name->kL m offs w ds name=if Lp m ds e=eL then(C e.object,0)else([],11))/\((∀e∈m.aG,e.name≠name)->kL m offs w ds name=([],5)):=by
 refine⟨λe b g=>?_,λc=>?_⟩
 ·have a:m.aG.find? (dP name)=dB e:=by
   cases a:m.aG.find? (dP name)with
   |none=>
    have:=wT.1 a e b;exact absurd (by unfold dP;rw[g];simp) this
   |some y=>
    have f:=List.find?_some a;have i:=List.mem_of_find?_eq_some a;rw[abT S.may i b (by rw[g];exact Ej (by unfold dP at f;simpa using f))]
  unfold kL;rw[d,g0 i5,a];exact S.CJ b
 ·have a:m.aG.find? (dP name)=eH:=wT.2 λe b h=>c e b (Ej (by unfold dP at h;simpa using h));unfold kL;rw[d,g0 i5,a]
end
theorem Zl{o b:Int}{live:aF}(i:0<=o/\o<=16777215)(g:0<=b/\b<8)(d:live.Nodup)(c:∀k∈live,0<=k/\k<64):(io o b live).Nodup/\(io o b live).Perm live:=by
 have e:io o b live=tI ((8*o+b)%64).toNat live:=by unfold io;rw[f9 i4]
 rw[e];have f:=adF ((8*o+b)%64).toNat live;refine⟨f,(List.perm_ext_iff_of_nodup f d).2 λa=>?_⟩;rw[Qs];exact⟨λh=>h.1,λh=>⟨h,c a h⟩⟩
theorem AU{α:Type}[DecidableEq α]:∀{l m:List α},l.Nodup->(∀x∈l,x∈m)->ii l<=ii m
 |[],m,_,_=>Nat.zero_le _
 |x::l,m,h,hs=>by
  obtain⟨f,d⟩:=List.nodup_cons.1 h;have c:=hs x zb;have:=AU (l:=l) (m:=m.erase x) d λy b=>by
   have a:y≠x:=λe=>f (e▸b);exact(List.mem_erase_of_ne a).2 (hs y (qS _ b))
  rw[List.length_erase_of_mem c]at this;have:=List.length_pos_of_mem c;rw[zo];omega
section
variable {m:aI} {C:Int->bc} {ds:aW} {offs:Int} {w:Pow}
def Kj(m:aI)(ds:aW):Prop:=∀k d,bC ds k=dB d->∀c∈d.l,∀r,dL c=dB r->dT m r=eL->r.id<m.p.1+m.extra
structure Full (m:aI) (C:Int->bc) (ds:aW):Prop where
 live:∀k∈m.drives,∃d,bC ds k=dB d/\d.lost=eR/\iq m d.l=eL
 all:∀e∈m.aG,∀i:Nat,i<e.tries.length->∀id:Nat,id<(m.p.1+m.extra).toNat->∃k∈m.drives,∃d,bC ds k=dB d/\dW (lV m e.object i (cF e.object i (e.tries.getD i 0)) (gc m C e.object i) id)∈d.l
theorem Full.aN(F:Full m C ds):Wl.aN ds m.drives=m.drives:=zT.2 λk c=>by
 obtain⟨d,b,a,_⟩:=F.live k c;unfold isLive;rw[b];simp[a]
theorem fl.aia(S:fl m C ds){e:Wl.cb}(a:e∈m.aG):e.tries.length<=8:=by obtain⟨_,_,h3,_,b⟩:=(gP m e).1 (S.entry a);have:=ru h3.2;omega
theorem fl.NJ(S:fl m C ds){e:Wl.cb}(a:e∈m.aG){i:Nat}(b:i<e.tries.length){id:Nat}(hid:id<=65535):jc (lV m e.object i (cF e.object i (e.tries.getD i 0)) (gc m C e.object i) id)=eL:=by obtain⟨K,H,w,n,B⟩:=S.fG a b;have h8:=S.aia a;have c:=((gP m e).1 (S.entry a)).2.1;have d:=((dE m).1 ((bU m).1 S.may).1).2.1;exact Un B ⟨c.1,i4⟩ ⟨i4,i4⟩ ⟨i4,i4⟩
theorem fl.counts(S:fl m C ds){e:Wl.cb}(a:e∈m.aG){i:Nat}(b:i<e.tries.length){id:Nat}(hid:id<=65535):dT m (lV m e.object i (cF e.object i (e.tries.getD i 0)) (gc m C e.object i) id)=eL:=
 iC.2 ⟨S.NJ a b hid,i0,e,a,i0,by show(i:Int)<_;omega,by show cF e.object i _=cF e.object (i:Int) (e.tries.getD (i:Int).toNat 0);rw[ql]⟩
theorem fl.UK(S:fl m C ds){id:Nat}(h:id<(m.p.1+m.extra).toNat):id<=65535:=by obtain⟨_,_,a,b⟩:=(dE m).1 ((bU m).1 S.may).1;have:=(ce m.p).1 a;omega
theorem fl.aix(S:fl m C ds){e:Wl.cb}(c:e∈m.aG){i:Nat}(a:i<e.tries.length){id:Nat}(hid:id<=65535){k:Int}(h:k∈aN ds m.drives){d:bw}(b:bC ds k=dB d)
  (g:dW (lV m e.object i (cF e.object i (e.tries.getD i 0)) (gc m C e.object i) id)∈d.l):(id:Int)∈nH m ds e.object i:=by
 have f:=UI S.may (S.cells k d b) g (sW (S.NJ c a hid) (my _ _ _)) (S.counts c a hid);unfold nH fQ;refine qw.2 ⟨((id:Int),(lV m e.object i (cF e.object i (e.tries.getD i 0)) (gc m C e.object i) id).data),zJ.2 ⟨k,h,?_⟩,i0⟩;unfold kw;rw[b];exact qw.2 ⟨_,qI.2 ⟨f,by simp[lV]⟩,i0⟩
theorem abU{p:Pm}(a:bI p=eL){i:Int}(h:i∈fc p):∃id:Nat,i=id/\(id:Int)<p.1:=by have:=(ce p).1 a;unfold fc upto at h;obtain⟨id,hid,rfl⟩:=qw.1 h;have:=qG.1 hid;exact⟨id,i0,i4⟩
theorem Full.can(F:Full m C ds)(S:fl m C ds)(f:m.drives≠[]){e:Wl.cb}(g:e∈m.aG):Lp m ds e=eL:=by
 unfold Lp;rw[qB];constructor
 ·unfold oL;rw[F.aN];obtain⟨k,c⟩:=List.exists_mem_of_ne_nil _ f;obtain⟨d,o,_,h3⟩:=F.live k c;exact zV.2 ⟨k,c,by unfold Iw;rw[o];exact h3⟩
 ·refine qL.2 λi b=>?_;have b:=qG.1 b;obtain⟨K,H,w,n,B⟩:=S.fG g b;refine QE B.may (ids:=fc m.p) (λj h=>?_) B.full;obtain⟨id,rfl,hid⟩:=abU S.Ix h;have r:=((dE m).1 ((bU m).1 S.may).1).2.2.2;have a:id<(m.p.1+m.extra).toNat:=i4
  obtain⟨k,c,d,q,l⟩:=F.all e g i b id a;exact S.aix g b (S.UK a) (by rw[F.aN];exact c) q l
theorem tV(m:aI)(d:bw)(N:Int):(dU m d N).lost=d.lost/\(dU m d N).room=d.room:=by unfold dU;split<;>exact⟨i0,i0⟩
theorem sO{t:aF}{b:bc}{n:aI}{k:Int}{d:bw}(a:k∈aN ds m.drives):
  (oy m ds t b n k d).lost=d.lost/\(oy m ds t b n k d).room=d.room/\∃N,(oy m ds t b n k d).l=(dU m d N).l++((jz m m.next t (splitB m.p b) (aN ds m.drives) k (splitB m.p b).length).map dW++bo n):=by
 unfold oy;rw[f9 a];refine⟨by rw[(nj _ _).1,(tV _ _ _).1],by rw[(nj _ _).2,(tV _ _ _).2],_,DD _ _⟩
theorem QF{n:aI}(b:bO n=eL){l1 l2:cP}(h:∀c∈bo n,c∈l2):iq n (l1++l2)=eL:=by unfold iq;rw[b,zU];exact qL.2 λc a=>g9 (wM _ (h c a))
theorem Full.put(F:Full m C ds)(S:fl m C ds){name:ByteArray}{b:bc}{t:aF}{g:aW}(K:dv m (di w offs) ds name b.length=0)(J:cL m.p m.next (splitB m.p b).length=dB t)
  (M:fl (dw m ⟨name,m.next,b.length,t⟩) (kK C m.next b) g) (j:∀k,bC g k=(bC ds k).map (oy m ds t b (dw m ⟨name,m.next,b.length,t⟩) k)):Full (dw m ⟨name,m.next,b.length,t⟩) (kK C m.next b) g:=by
 have a:=F.aN;obtain⟨T,R,z3,z4,z5⟩:=lA K;have u:m.drives≠[]:=by rw[<-a];exactλh=>z5 (.inl h)
 have A:m.next<=16777215:=by have:¬16777215<m.next:=λh=>z5 (.inr (.inl h));omega
 refine⟨λk l=>?_,λe q i s id hid=>?_⟩
 ·have l:k∈m.drives:=l;obtain⟨d,z,E,h3⟩:=F.live k l;obtain⟨x,G,N,r⟩:=sO (m:=m) (t:=t) (b:=b) (n:=dw m ⟨name,m.next,b.length,t⟩) (d:=d) (show k∈Wl.aN ds m.drives by rw[a];exact l);refine⟨_,by rw[j,z,qQ],by rw[x];exact E,?_⟩;rw[r];exact QF M.may λc y=>wM _ y
 ·have hid:id<(m.p.1+m.extra).toNat:=hid;rcases su.1 q with q|rfl
  ·have O:=S.old q;obtain⟨k,l,d,H,y⟩:=F.all e q i s id hid;obtain⟨x,G,N,r⟩:=sO (m:=m) (t:=t) (b:=b) (n:=dw m ⟨name,m.next,b.length,t⟩) (d:=d) (show k∈Wl.aN ds m.drives by rw[a];exact l);refine⟨k,l,_,by rw[j,H,qQ],?_⟩;rw[r];have B:gc (dw m ⟨name,m.next,b.length,t⟩) (kK C m.next b) e.object i=gc m C e.object i:=EY i0 (by unfold kK;rw[g0 i4]);rw[B];exact wg _ (UJ S.may (S.cells k d H) y (sW (S.NJ q s (S.UK hid)) (my _ _ _)) (S.counts q s (S.UK hid)))
  ·have s:i<t.length:=s;have I:=jg J;have h8:=DC S.Ix λh=>z4 (.inl h);have v:=((dE m).1 ((bU m).1 S.may).1).2.1.1;have P:(0:Int)<=(i:Int)/\(i:Int)<8:=⟨i4,i4⟩
   have L:=Zl (o:=m.next) (b:=(i:Int)) (live:=m.drives) ⟨v,A⟩ P (nt S.may) (kE S.may);obtain⟨Q,D⟩:=L;have one:io m.next i m.drives≠[]:=λh=>by rw[h]at D;exact u (List.nil_perm.1 D)
   have f:tJ (io m.next i m.drives) id∈m.drives:=by rw[ahR one];exact D.mem_iff.1 (qg _)
   obtain⟨d,z,E,h3⟩:=F.live _ f;obtain⟨x,G,N,r⟩:=sO (m:=m) (t:=t) (b:=b) (n:=dw m ⟨name,m.next,b.length,t⟩) (d:=d) (show tJ (io m.next i m.drives) id∈Wl.aN ds m.drives by rw[a];exact f);refine⟨_,f,_,by rw[j,z,qQ],?_⟩;rw[r];refine wM _ (wg _ (qw.2 ⟨_,?_,i0⟩));have B:gc (dw m ⟨name,m.next,b.length,t⟩) (kK C m.next b) m.next i=(splitB m.p b).getD i []:=by unfold gc kK;rw[f9 i0,ql];rfl
   show lV m m.next i (cF m.next i (t.getD i 0)) (gc (dw m ⟨name,m.next,b.length,t⟩) (kK C m.next b) m.next i) id∈_;rw[B,a];unfold jz;refine zJ.2 ⟨i,qG.2 i4,?_⟩;unfold so;exact qw.2 ⟨id,qI.2 ⟨qG.2 hid,g9 i0⟩,i0⟩
theorem Full.DG(F:Full m C ds)(S:fl m C ds){n:aI}{j:aW}(y:bO n=eL)(q:n.p=m.p)(u:n.extra=m.extra)(g:n.drives=m.drives)(l:∀x∈n.aG,x∈m.aG)
  (f:∀k,bC j k=(bC ds k).map λd=>if k∈Wl.aN ds n.drives then ee (bo n) (dU m d (bo n).length)else d):Full n C j:=by
 have b:=F.aN;rw[g,b]at f;refine⟨λk h=>?_,λe z i r id hid=>?_⟩
 ·rw[g]at h;obtain⟨d,w,t,h3⟩:=F.live k h;refine⟨_,by rw[f,w,qQ,f9 h],by rw[(nj _ _).1,(tV _ _ _).1];exact t,?_⟩;rw[DD];exact QF y λc o=>o
 ·rw[q,u]at hid;have a:=l e z;obtain⟨k,h,d,s,o⟩:=F.all e a i r id hid;refine⟨k,by rw[g];exact h,_,by rw[f,s,qQ,f9 h],?_⟩;have v:lV n e.object i (cF e.object i (e.tries.getD i 0)) (gc n C e.object i) id=lV m e.object i (cF e.object i (e.tries.getD i 0)) (gc m C e.object i) id:=by unfold lV;rw[EY q i0,q]
  rw[DD,v];exact wg _ (UJ S.may (S.cells k d s) o (sW (S.NJ a r (S.UK hid)) (my _ _ _)) (S.counts a r (S.UK hid)))
end
section
variable {m:aI} {C:Int->bc} {ds:aW} {offs:Int} {w:Pow}
theorem UL{d:bw}{N:Int}{c:bc}(h:c∈(dU m d N).l):c∈d.l∨c∈bo m:=by
 unfold dU at h;split at h
 ·exact .inl h
 ·rcases qz.1 h with h|h
  ·exact .inr h
  ·obtain⟨r,a,rfl⟩:=qw.1 h;exact .inl (BY a).1
theorem Kj.put(L:Kj m ds)(S:fl m C ds){name:ByteArray}{b:bc}{t:aF}{o:aW}(E:dv m (di w offs) ds name b.length=0)(D:cL m.p m.next (splitB m.p b).length=dB t)
  (u:∀k,bC o k=(bC ds k).map (oy m ds t b (dw m ⟨name,m.next,b.length,t⟩) k)):Kj (dw m ⟨name,m.next,b.length,t⟩) o:=by
 obtain⟨O,M,z3,z4,z5⟩:=lA E;have v:m.next<=16777215:=by have:¬16777215<m.next:=λh=>z5 (.inr (.inl h));omega
 have z:=((dE m).1 ((bU m).1 S.may).1)
 have h8:=DC S.Ix λh=>z4 (.inl h);have j:∀k e,bC ds k=dB e->∀c∈e.l,∀r,dL c=dB r->dT (dw m ⟨name,m.next,b.length,t⟩) r=eL->r.id<m.p.1+m.extra:=λk e h0 c g r a f=>by
  have I:=(S.cells k e h0 c g).old r a;obtain⟨B,F,x,q,c3,J⟩:=iC.1 f;rcases su.1 q with q|rfl
  ·exact L k e h0 c g r a (iC.2 ⟨B,F,x,q,c3,J⟩)
  ·have:m.next=r.object:=c3;omega
 intro k d H c g r a f;show r.id<m.p.1+m.extra;obtain⟨e,h0,rfl⟩:=EZ u H;by_cases y:k∈aN ds m.drives
 ·obtain⟨_,_,N,A⟩:=sO (m:=m) (t:=t) (b:=b) (n:=dw m ⟨name,m.next,b.length,t⟩) (d:=e) y;rw[A]at g;rcases qz.1 g with h|h
  ·rcases UL h with h|h
   ·exact j k e h0 c h r a f
   ·rw[mu h]at a;cases a
  ·rcases qz.1 h with h|h
   ·obtain⟨K,s,rfl⟩:=qw.1 h;obtain⟨i,id,rfl,G,hid⟩:=Nu s;rw[sW (Pf S.may v h8 D G hid) (my _ _ _)]at a;injection a with a
    subst a;show(id:Int)<_;omega
   ·rw[mu h]at a;cases a
 ·unfold oy at g;rw[g0 y]at g;exact j k e h0 c g r a f
theorem Kj.DG(L:Kj m ds){n:aI}{b:aW}(o:n.p=m.p)(s:n.extra=m.extra)(e:∀x∈n.aG,x∈m.aG)
  (j:∀k,bC b k=(bC ds k).map λd=>if k∈Wl.aN ds n.drives then ee (bo n) (dU m d (bo n).length)else d):Kj n b:=by
 intro k d t c i r a l;rw[o,s];have g:=NF o e l;obtain⟨q,h0,rfl⟩:=EZ (f:=λk d=>if k∈Wl.aN ds n.drives then ee (bo n) (dU m d (bo n).length)else d) j t;split at i
 ·rw[DD]at i;rcases qz.1 i with h|h
  ·rcases UL h with h|h
   ·exact L k q h0 c h r a g
   ·rw[mu h]at a;cases a
  ·rw[mu h]at a;cases a
 ·exact L k q h0 c i r a g
theorem Kj.fp(L:Kj m ds){k:Int}{d:bw}(b:bC ds k=dB d):∀r∈kS m d.l,r.id<m.p.1+m.extra:=λr e=>by
 obtain⟨c,f,a⟩:=BY e;exact L k d b _ c r f a
end
end Go.Qw
namespace Go.Vc
open Go Wl
section
variable {k:Kit} {B:aB} {h0 h:f8} {As:List HP} {a pw b:fz} {mc:be} {offs:Int} {da:List aT} {w:Pow} {ds:aW} {d:bw} {n:Nat}
theorem aa.aec(ok:fS mc da ds)(F:n<64)(H:aa B h0 h (aw a k.tS (cH mc pw offs (da.set n (dB b)))::de k.tP pw w::(fO k pw da ds++(ie k.tD (k.f pw) b d::As)))):aa B h0 h (bj k a pw mc offs (da.set n (dB b)) w (ds.set n (dB d))::As):=by
 have s:=ok.la;have r:=ok.ls;have t:fS mc (da.set n (dB b)) (ds.set n (dB d)):=⟨ok.l8,by simp[s],by simp[r],λi=>by
  by_cases g:n=i
  ·subst g;rw[qe,qe,zm i4,zm i4];rfl
  ·have:=ok.same i;rw[qe,qe]at this⊢;rw[zG g,zG g];exact this⟩
 have p:=EN (k:=k) (pw:=pw) ok;have l:fO k pw (da.set n (dB b)) (ds.set n (dB d))=(fO k pw da ds).set n (ie k.tD (k.f pw) b d):=by
  apply List.ext_getElem?;intro j;simp only[fO,qY,List.getElem?_zipWith,List.length_zipWith];by_cases m:n=j
  ·subst m;rw[f9 i0,f9 i4,f9 i0,f9 i4,f9 i0,f9 i4];rfl
  ·simp[m]
 refine aa.po t ?_;rw[l];obtain⟨L,q⟩:∃L,L=fO k pw da ds:=⟨_,rfl⟩
 rw[<-q]at H p⊢;have c:n<ii L:=i4
 have H:=H.fI (n+2) (A:=L[n]) (D:=emp) (by rw[qu,qu,qm c,qd c]) λ_ _=>trivial;have y:(aw a k.tS (cH mc pw offs (da.set n (dB b)))::de k.tP pw w::(L++(ie k.tD (k.f pw) b d::As))).set (n+2) emp=aw a k.tS (cH mc pw offs (da.set n (dB b)))::de k.tP pw w::(L.set n emp++(ie k.tD (k.f pw) b d::As)):=by rw[zx,zx,List.set_append_left _ _ c]
 rw[y]at H;have o:ii (L.set n emp)=ii L:=List.length_set;have u:=H.cons (ii L+2) (A:=ie k.tD (k.f pw) b d) (by
  rw[qu,qu,qj i4,o,zc];rfl)
 have e:(aw a k.tS (cH mc pw offs (da.set n (dB b)))::de k.tP pw w::(L.set n emp++(ie k.tD (k.f pw) b d::As))).set (ii L+2) emp=aw a k.tS (cH mc pw offs (da.set n (dB b)))::de k.tP pw w::(L.set n emp++(emp::As)):=by rw[zx,zx,q7 _ _ i4,o,zc];rfl
 rw[e]at u;have E:=u.bs 3 [0,2,1];have v:aa B h0 h (ie k.tD (k.f pw) b d::de k.tP pw w::aw a k.tS (cH mc pw offs (da.set n (dB b)))::(L.set n emp++(emp::As))):=E;have x:=aa.OX n c v;have z:=aa.closeAll (aw a k.tS (cH mc pw offs (da.set n (dB b)))::de k.tP pw w::L.set n (ie k.tD (k.f pw) b d)) x;exact aa.uY (L:=aw a k.tS (cH mc pw offs (da.set n (dB b)))::de k.tP pw w::L.set n (ie k.tD (k.f pw) b d)) z.pC
end
end Go.Vc
