/- Lemmas for the proof of the law; no condition. -/
import Derived.Test.YtcjnjifdphcijaaGreatDoorTKC
import Derived.Lib.BufferWrite
import Derived.Lib.UnsafeStr
set_option maxHeartbeats 2000000
set_option linter.unusedVariables false
set_option maxHeartbeats 4000000
set_option linter.unusedSimpArgs false
open Go.Proofs.Tryz renaming prog -> xJ
open Go.Value renaming agg -> xE, bool -> xD, int -> xz, pointer -> xB, slice -> xA, string -> xC
open Go.IntKind renaming bits -> qG, i64 -> xF, u32 -> xH, u8 -> xG, wrap -> qe
open List renaming drop -> xy, eq_replicate_iff -> vU, getElem?_zip_eq_some -> vy, length_eq_zero_iff -> vK, mem_iff_getElem? -> yO, range -> qt, replicate -> qh, zipWith -> za
open Option renaming some -> zQ
open Int renaming tdiv -> yn
open Prod renaming fst -> qL, snd -> zH
open Go.Instr renaming storeAt -> qE
open BitVec renaming ofInt -> qN
set_option maxRecDepth 100000
open Option renaming some -> dB, none -> eH
open Bool renaming true -> eR, false -> eS
open Go renaming Addr -> f7
open Go.Qw renaming cellOf -> f8, Heap -> f9
open List renaming length -> i0
namespace Go.Qw
open Go.Proofs
variable {B:ak} {h0 h:f9} {As:List HP}
theorem DP{α:Type}{g:α->Bool}{l:List α}{i:Nat}(h:i<i0 l)(a:∀j (b:j<i0 l),j<i->g l[j]=eS)(c:g l[i]=eR):l.findIdx g=i:=by rw[List.findIdx_eq h];exact⟨c,λj b=>a j i5 b⟩
theorem Pv(s:Sl)(l:au)(b:FuncId)(a:Array Value)(g:Int->Bool)(Q:f9->Prop)(w:C.fns[b]?=dB eR)(z:St B h0 As Q)(p:∀x h',Q h'->ai xJ b ([Value.int .i64 x]++a.toList).toArray h' λv r=>v=xD (g x)/\Sp h' r [])(H:aa B h0 h (an 3 s 1 az l::As))(E:i0 l<=2^20):
  ai xJ 102 #[s,.func (.func b) #[] a] h λv h'=>v=xz xF (if l.findIdx g<i0 l then(l.findIdx g:Int)else-1)/\aa B h0 h' (an 3 s 1 az l::As):=by
 refine iu s (b,#[],a) ?_;have A:=(H.own 0 i4).len;refine aq (λi:Nat=>(i:Int)) (λi h'=>aa B h0 h' (an 3 s 1 az l::As)/\i<=i0 l/\∀j (k:j<i0 l),j<i->g l[j]=eS) (λi=>i0 l-i) 0 i4 ⟨H,i5,λj _ k=>i5⟩ ?_;rintro i y ⟨n,D,c⟩;refine ae (λe=>?_) (λe=>?_)
 ·have d:i<i0 l:=i5
  refine(n.seq 0 i4 λ_=>rfl).bo i i4 d _ i4 ?_;refine eU w ?_;refine(p l[i] y (z.at [_] n)).mono ?_;rintro _ F ⟨rfl,t⟩;refine⟨_,i4,bc (λo=>?_) λo=>?_⟩
  ·rw[DP d c o,g0 d];exact⟨i4,n.up t.ac⟩
  ·refine⟨i+1,j0,⟨n.up t.ac,i5,λj k q=>?_⟩,i5⟩;rcases zi.1 q with h3|rfl
   ·exact c j k h3
   ·exact o
 ·have f:¬l.findIdx g<i0 l:=by rw[wU];rintro⟨x,u,m⟩;obtain⟨j,k,rfl⟩:=qD u;rw[c j k i5]at m;cases m
  rw[g9 f];exact⟨i4,n⟩
theorem TG{α:Type}{g:α->Bool}{l:List α}{j:Nat}(h:j<l.findIdx g)(a:j<i0 l):g l[j]=eS:=by simpa using List.not_of_lt_findIdx h
structure mf {α:Type} (g:α->Bool) (l l':List α) (i j:Nat):Prop where
 len:i0 l'=i0 l
 le:i<=j
 pre:l'.take i=(l.take j).filter λx=>!g x
 post:l'.drop j=l.drop j
theorem mf.start{α:Type}{g:α->Bool}{l:List α}{i:Nat}(h:i<i0 l)(b:l.findIdx g=i):mf g l l i (i+1):=by
 refine⟨i4,i5,?_,i4⟩;have a:g l[i]=eR:=by have:=List.findIdx_getElem (xs:=l) (p:=g) (w:=by rw[b];exact h);simpa[b]using this
 rw[aD _ _ h,zg,zl,a];have:(l.take i).filter (λx=>!g x)=l.take i:=wD.2 λx c=>by
  obtain⟨j,d,rfl⟩:=qD c;simp only[List.length_take]at d;rw[yg,TG (g:=g) (l:=l) (j:=j) i5 i5];rfl
 rw[this];simp
theorem mf.at_{α:Type}{g:α->Bool}{l l':List α}{i j:Nat}(x:mf g l l' i j)(a:j<i0 l):l'[j]'(by rw[x.len];exact a)=l[j]:=by have h:=congrArg (λm=>m[0]?) x.post;simp only[wO,wJ]at h;rw[qc a,qc (by rw[x.len];exact a)]at h;exact zQ.inj h
theorem mf.keep{α:Type}{g:α->Bool}{l l':List α}{i j:Nat}(x:mf g l l' i j)(d:j<i0 l)(a:g l[j]=eS):mf g l (l'.set i l[j]) (i+1) (j+1):=by
 have c:=x.len;have b:=x.le;refine⟨l5,i5,?_,?_⟩
 ·rw[aD _ _ i9,List.getElem_set_self,List.take_set_of_le (qk _),x.pre,aD _ _ d,zg,zl,a];rfl
 ·rw[List.drop_set_of_lt i5];have e:=congrArg (xy 1) x.post;simpa[zE]using e
theorem mf.skip{α:Type}{g:α->Bool}{l l':List α}{i j:Nat}(x:mf g l l' i j)(d:j<i0 l)(a:g l[j]=eR):mf g l l' i (j+1):=by
 have c:=x.len;have b:=x.le;refine⟨c,i5,?_,?_⟩
 ·rw[x.pre,aD _ _ d,zg,zl,a];simp
 ·have e:=congrArg (xy 1) x.post;simpa[zE]using e
theorem filter_all{α:Type}{g:α->Bool}{l:List α}(h:¬l.findIdx g<i0 l):l.filter (λx=>!g x)=l:=wD.2 λx a=>by
 have:g x=eS:=by
  cases hh:g x with
  |false=>rfl
  |true=>exact absurd (wU.2 ⟨x,a,hh⟩) h
 rw[this];rfl
theorem NS(s:Sl)(l:au)(b:FuncId)(a:Array Value)(g:Int->Bool)(Q:f9->Prop)(y:C.fns[b]?=dB eR)(z:St B h0 As Q)(f:∀x h',Q h'->ai xJ b ([Value.int .i64 x]++a.toList).toArray h' λv w=>v=xD (g x)/\Sp h' w [])(H:aa B h0 h (an 3 s 1 az l::As))(K:i0 l<=2^20):
  ai xJ 49 #[s,.func (.func b) #[] a] h λv h'=>∃r:Sl,v=r/\aa B h0 h' (an 3 r 1 az (l.filter λx=>!g x)::As):=by
 refine ts Tryz.func49 ?_ (.two .n (.two .n (.two .n (.two (.two .n (.inn (.loop [(5,aT),(6,aT)] [(5,8),(16,36)] .n))) .n)))) (args:=[s,(.func (.func b) #[] a)]);refine(Pv s l b a g Q y z f H K).mono ?_;rintro _ O ⟨rfl,A⟩;have J:=(H.own 0 i4).len;have G:=(H.own 0 i4).cap;refine⟨_,i4,bf (λe=>?_) λe=>?_⟩
 ·have q:¬l.findIdx g<i0 l:=λm=>by rw[g0 m]at e;omega
  exact⟨s,i4,by rw[filter_all q];exact A⟩
 ·have c:l.findIdx g<i0 l:=by
   by_cases m:l.findIdx g<i0 l
   ·exact m
   ·rw[g9 m]at e;exact absurd i4 e
  rw[g0 c];refine aq (λt:Nat×Nat×au=>((t.1:Int),(t.2.1:Int))) (λt h'=>mf g l t.2.2 t.1 t.2.1/\t.2.1<=i0 l/\aa B h0 h' (an 3 s 1 az t.2.2::As)) (λt=>i0 l-t.2.1) (l.findIdx g,l.findIdx g+1,l) j0 ⟨mf.start c i4,i7,A⟩ ?_;rintro⟨i,j,l'⟩ L ⟨M2,P,k⟩;dsimp only at*;have I:=M2.len;have F:=M2.le;refine ae (λE=>?_) (λE=>?_)
  ·have d:j<i0 l:=i5
   refine(k.seq 0 i4 λ_=>rfl).bo j i4 i5 _ i4 ?_;rw[M2.at_ d];refine eU y ?_;refine(f l[j] L (z.at [_] k)).mono ?_;rintro _ h3 ⟨rfl,D⟩;have o:=k.up D.ac;refine⟨_,i4,aU (λu=>?_) λu=>?_⟩
   ·refine o.set ag 0 i4 (λ_=>rfl) i4 i i4 i5 l[j] i4 i4 i4 λN M=>?_;exact⟨(i+1,j+1,l'.set i l[j]),by dsimp only;rw[af _,af _];rfl,⟨M2.keep d o9,i7,M⟩,i7⟩
   ·exact⟨(i,j+1,l'),js,⟨M2.skip d o9,i7,o⟩,i7⟩
  ·have p:j=i0 l:=i5
   subst p;refine⟨⟨i5,i5⟩,?_⟩;rw[qj];refine k.rp ag 0 i4 gy (λ_=>rfl) i4 i6 i i5 λh3 o=>⟨⟨i5,i5⟩,⟨s.ptr,i,s.cap⟩,i4,?_⟩
   have:=M2.pre;rw[qU]at this;rw[<-this];exact o
abbrev aeo:bO C.toxZ 278 349 2 [xz xF 0,xz xF 0] 16:=⟨_,_,i4,i4,i4,i4,i4,i4⟩
theorem Pw(s:Sl)(l:List (Int×Int))(b:FuncId)(a:Array Value)(g:Int×Int->Bool)(Q:f9->Prop)(y:C.fns[b]?=dB eR)(A:St B h0 As Q)(q:∀x h',Q h'->ai xJ b ([Value.agg #[xz xF x.1,xz xF x.2]]++a.toList).toArray h' λv t=>v=xD (g x)/\Sp h' t [])(H:aa B h0 h (an 349 s 2 gc l::As))(F:i0 l<=2^20):
  ai xJ 329 #[s,.func (.func b) #[] a] h λv h'=>v=xz xF (if l.findIdx g<i0 l then(l.findIdx g:Int)else-1)/\aa B h0 h' (an 349 s 2 gc l::As):=by
 refine ts Tryz.func329 ?_ (.two .n (.two (.two .n (.inn (.loop [(8,aT)] [(4,6),(8,19)] .n))) .n)) (args:=[s,(.func (.func b) #[] a)]);have D:=(H.own 0 i4).len;refine aq (λi:Nat=>(i:Int)) (λi h'=>aa B h0 h' (an 349 s 2 gc l::As)/\i<=i0 l/\∀j (k:j<i0 l),j<i->g l[j]=eS) (λi=>i0 l-i) 0 i4 ⟨H,i5,λj _ k=>i5⟩ ?_;rintro i z ⟨o,E,c⟩;refine ae (λe=>?_) (λe=>?_)
 ·have d:i<i0 l:=i5
  refine(o.seq 0 i4 λ_=>rfl).dY (g:=gc) i i4 d l[i] i4 ?_;refine eU y ?_;refine(q l[i] z (A.at [_] o)).mono ?_;rintro _ G ⟨rfl,u⟩;refine⟨_,i4,bc (λp=>?_) λp=>?_⟩
  ·rw[DP d c p,g0 d];exact⟨i4,o.up u.ac⟩
  ·refine⟨i+1,j0,⟨o.up u.ac,i5,λj k r=>?_⟩,i5⟩;rcases zi.1 r with h3|rfl
   ·exact c j k h3
   ·exact p
 ·have f:¬l.findIdx g<i0 l:=by rw[wU];rintro⟨x,w,m⟩;obtain⟨j,k,rfl⟩:=qD w;rw[c j k i5]at m;cases m
  rw[g9 f];exact⟨i4,o⟩
theorem NT(s:Sl)(l:List (Int×Int))(b:FuncId)(a:Array Value)(g:Int×Int->Bool)(Q:f9->Prop)(A:C.fns[b]?=dB eR)(D:St B h0 As Q)(k:∀x h',Q h'->ai xJ b ([Value.agg #[xz xF x.1,xz xF x.2]]++a.toList).toArray h' λv y=>v=xD (g x)/\Sp h' y [])(H:aa B h0 h (an 349 s 2 gc l::As))(N:i0 l<=2^20):
  ai xJ 273 #[s,.func (.func b) #[] a] h λv h'=>∃r:Sl,v=r/\aa B h0 h' (an 349 r 2 gc (l.filter λx=>!g x)::As):=by
 refine ts Tryz.func273 ?_ (.two .n (.two .n (.two .n (.two (.two .n (.inn (.loop [(5,aT),(6,aT)] [(5,8),(16,36)] .n))) .n)))) (args:=[s,(.func (.func b) #[] a)]);refine(Pw s l b a g Q A D k H N).mono ?_;rintro _ P ⟨rfl,E⟩;have L:=(H.own 0 i4).len;have J:=(H.own 0 i4).cap;refine⟨_,i4,bf (λe=>?_) λe=>?_⟩
 ·have q:¬l.findIdx g<i0 l:=λo=>by rw[g0 o]at e;omega
  exact⟨s,i4,by rw[filter_all q];exact E⟩
 ·have c:l.findIdx g<i0 l:=by
   by_cases o:l.findIdx g<i0 l
   ·exact o
   ·rw[g9 o]at e;exact absurd i4 e
  rw[g0 c];refine aq (λt:Nat×Nat×List (Int×Int)=>((t.1:Int),(t.2.1:Int))) (λt h'=>mf g l t.2.2 t.1 t.2.1/\t.2.1<=i0 l/\aa B h0 h' (an 349 s 2 gc t.2.2::As)) (λt=>i0 l-t.2.1) (l.findIdx g,l.findIdx g+1,l) j0 ⟨mf.start c i4,i7,E⟩ ?_;rintro⟨i,j,l'⟩ S ⟨M2,R,u⟩;dsimp only at*;have K:=M2.len;have I:=M2.le;refine ae (λG=>?_) (λG=>?_)
  ·have f:j<i0 l:=i5
   refine(u.seq 0 i4 λ_=>rfl).dY (g:=gc) j i4 i5 l[j] (by rw[M2.at_ f]) ?_;refine u.alloc ag i4 λa5 h3 d=>?_;have d:=d.aY;refine d.storeAll ag 0 i4 i4 (gc l[j]) i4 i4 i4 i4 λz m=>?_;refine⟨l[j],(m.box 0 i4).aE _ i4,?_⟩;refine eU A ?_;refine(k l[j] z (D.at [_,_] m)).mono ?_;rintro _ O ⟨rfl,M⟩;have F:=m.up M.ac;have d:=F.nr;refine⟨_,i4,aU (λw=>?_) λw=>?_⟩
   ·refine⟨l[j],(F.box 0 i4).aE _ i4,?_⟩;refine d.set ag 0 i4 (λ_=>rfl) i4 i i4 i5 l[j] i4 i4 i4 λz m=>?_;exact⟨(i+1,j+1,l'.set i l[j]),by dsimp only;rw[af _,af _];rfl,⟨M2.keep f (by simpa using w),i7,m⟩,i7⟩
   ·exact⟨(i,j+1,l'),js,⟨M2.skip f (by simpa using w),i7,d⟩,i7⟩
  ·have p:j=i0 l:=i5
   subst p;refine⟨⟨i5,i5⟩,?_⟩;rw[qj];refine u.rp ag 0 i4 aeo (λ_=>rfl) i4 i6 i i5 λh3 d=>⟨⟨i5,i5⟩,⟨s.ptr,i,s.cap⟩,i4,?_⟩
   have:=M2.pre;rw[qU]at this;rw[<-this];exact d
def uW(pool:List (Sl×au)):HP:=⟨λh q=>∀x∈pool,Seq h q x.1 1 az x.2,λa c x b=>(a x b).ac c,λa d x b=>(a x b).mono d⟩
theorem aa.WP(H:aa B h0 h As):aa B h0 h (As++[uW []]):=H.comp (.one (aP.refl _ _) λx a=>qs)
theorem aa.aaX(H:aa B h0 h As)(i j:Nat)(b:i≠j){pool:List (Sl×au)}{r:Sl}{l:au}(e:As[i]?=dB (uW pool))(f:As[j]?=dB (pm r 1 az l)):aa B h0 h ((As.set i (uW (pool++[(r,l)]))).set j emp):=
 H.merge i j b e f λk g _ c d x a=>by
  rcases qw.1 a with a|a
  ·exact(c x a).mono λ_ h=>.inl h
  ·rw[qx]at a;subst a;exact Seq.mono d λ_ h=>.inr h
abbrev aep:bO C.toxZ 181 22 1 [xA eH 0 0] 24:=⟨_,_,i4,i4,i4,i4,i4,i4⟩
theorem Px(s c:f7)(r:Sl)(x:Int×Int)(h':f9)(e:f8 h' c=dB (xB (dB s))/\f8 h' (s.add 5)=dB (xA r.ptr r.len r.cap)):
  ai xJ 274 ([Value.agg #[xz xF x.1,xz xF x.2]]++(#[Value.pointer (dB c)]:Array Value).toList).toArray h' λv d=>v=xD (decide (x.1>=(r.len:Int)))/\Sp h' d []:=by
 refine ts Tryz.func274 ?_ (args:=[x,c]);refine(Sp.refl h').boxed λa f b=>?_;exact⟨x.1,(b.box 0 i4).cell0 i4,dB s,nY e.1 b.ac,s,i4,r,nY e.2 b.ac,i4,.zip b.ac⟩
theorem Py(s a:f7)(r:Sl)(x:Int)(h':f9)(c:f8 h' a=dB (xB (dB s))/\f8 h' (s.add 5)=dB (xA r.ptr r.len r.cap)):
  ai xJ 275 ([Value.int .i64 x]++(#[Value.pointer (dB a)]:Array Value).toList).toArray h' λv b=>v=xD (decide (x>=(r.len:Int)))/\Sp h' b []:=by
 refine ts Tryz.func275 ?_ (args:=[(x:Int),a]);exact⟨dB s,c.1,s,i4,r,c.2,i4,Sp.refl _⟩
theorem Pz(s f:f7)(p:Int×Int×Int)(v r d m j P L kn:Sl)(A:List (Sl×Sl))(R:List fi)(known:List Bool)(n:Nat)(H:aa B h0 h (SA s (gX f p v r d m j P L)::As))(hS:St B h0 As λh=>ng jX 2 qv h r A R/\Rd h kn 1 fm known)(ay:i0 known=n)(hn:n<=64)(a3:i0 R<=2^19)(ar:∀e∈R,i0 e.1<=2^20)
  (D:jE (n:Int) (rowsOf R known n)=eR) (W:(dW n (rowsOf R known n)).steps.length<=2^20/\(fO (dW n (rowsOf R known n)).used (rowsOf R known n).length).length<=2^20):
  ai xJ 215 #[xB (dB s),kn] h λv' h'=>v'=.tuple #[]/\∃Q F O:Sl,aa B h0 h' (SA s (gX f p v r Q F O P L)::an 349 Q 2 gc ((dW n (rowsOf R known n)).steps.filter λx=>decide (x.1<i0 R))::an 3 F 1 az (dW n (rowsOf R known n)).dead::an 3 O 1 az ((fO (dW n (rowsOf R known n)).used (rowsOf R known n).length).filter λx=>decide (x<i0 R))::As):=by
 refine ts Tryz.func215 ?_ (.two .n (.two .n (.two (.two .n (.inn (.loop [(4,cF),(16,aT)] [(4,5),(6,7),(16,26)] .n))) (.two (.two .n (.inn (.loop [(4,cF),(28,aT)] [(4,5),(7,9),(28,40)] .n))) .n))));refine H.boxed λu E S=>?_;have S:=S.aY;refine⟨dB s,(S.box 0 i4).cell0 i4,s,i4,r,(S.box 1 i4).cell i4,?_⟩;have G1:=hS.at [_,_] S;have ad:=G1.1.1.len;have M:=G1.1.2.1;have ab:=G1.2.len;let pre:List HP:=[av u 277 [xB (dB s)],SA s (gX f p v r d m j P L)]
 have H2:aa B h0 E (an 22 ⟨eH,0,0⟩ 1 bi []::uW []::av u 277 [xB (dB s)]::SA s (gX f p v r d m j P L)::As):=((aa.WP S).aY.nil 22 1 bi).aY;refine aq (λt:Nat×Sl=>(t.2,(t.1:Int))) (λt h'=>t.1<=i0 R/\aa B h0 h' (an 22 t.2 1 bi ((A.take t.1).map qL)::uW []::av u 277 [xB (dB s)]::SA s (gX f p v r d m j P L)::As)) (λt=>i0 R-t.1) (0,⟨eH,0,0⟩) i4 ⟨jj,by simpa using H2⟩ ?_;rintro⟨i,o⟩ h3 ⟨hi,H3⟩;dsimp only at*;refine ae (λe=>?_) (λe=>?_)
 ·have am:i<i0 R:=i5
  have G3:=hS.at [_,_,_,_] H3;refine G3.1.1.dY (g:=qv) i i4 i5 (A[i]'(by omega)) i4 ?_;refine H3.alloc ag i4 λa8 h4 w=>?_;have w:=w.aY;refine w.storeAll ag 0 i4 i4 (qv (A[i]'(by omega))) i4 i4 i4 i4 λh5 G=>?_;refine⟨(A[i]'(by omega)).1,(G.box 0 i4).cell0 i4,?_⟩;refine G.nr.push ag 0 i4 aep i4 i6 (λ_=>rfl) jG (A[i]'(by omega)).1 i4 i6 i9 λo' h6 X=>?_;refine⟨(i+1,o'),js,⟨i7,?_⟩,i7⟩
  try dsimp only
  rw[aD A i,qT];exact X
 have N:i=i0 R:=i5
 subst N;rw[qg i5]at H3;refine aq (λt:Nat×Sl×List Sl=>(t.2.1,(t.1:Int))) (λt h'=>t.1<=n/\t.2.2.length=i0 (hO known t.1)/\aa B h0 h' (an 22 t.2.1 1 bi (A.map qL++t.2.2)::uW (t.2.2.zip (hO known t.1))::av u 277 [xB (dB s)]::SA s (gX f p v r d m j P L)::As)) (λt=>n-t.1) (0,o,[]) i4 ⟨i5,i4,by simpa using H3⟩ ?_;rintro⟨i,o,sr⟩ h4 ⟨hi,z,w⟩;dsimp only at*;have a2:=BP known i;refine ae (λe=>?_) (λe=>?_)
 ·have am:i<n:=i5
  have G4:=hS.at [_,_,_,_] w;refine G4.2.bo i i4 i5 _ i4 ?_;have al:known.getD i eS=known[i]'(by omega):=by rw[qd,qc i5];rfl
  have I:=IP known i;rw[al]at I;refine bc (λZ=>?_) (λZ=>?_)
  ·rw[Z,g0 rfl]at I;refine w.lit ag az gy i4 [(i:Int)] i4 (show 1*1<=2^20 by decide) i4 λb h5 G=>?_;have G:=G.aY.freeze 0 i4 λ_=>rfl;have X:=aa.aaX G 2 0 i6 i4 i4;refine X.push ag 1 i4 aep i4 i6 (λ_=>rfl) jG b i4 i6 i9 λo' h7 Y=>?_;refine⟨(i+1,o',sr++[b]),js,⟨i7,by dsimp only;rw[I];simp[z],?_⟩,i7⟩
   try dsimp only
   rw[I,List.zip_append z,<-qn];exact Y.nr
  ·rw[Z,g9 jj,qH]at I;exact⟨(i+1,o,sr),js,⟨i7,by dsimp only;rw[I];exact z,by dsimp only;rw[I];exact w⟩,i7⟩
 have N:i=n:=i5
 subst N;have G4:=hS.at [_,_,_,_] w;have J:i0 (rowsOf R known i)=i0 R+i0 sr:=by rw[rowsOf,qp,qy,z]
 have ah:ib h4 (λb=>b<h4.size) o 1 az (rowsOf R known i) (A.map qL++sr):=by
  refine⟨w.seq 0 i4 λ_=>rfl,by rw[J];simp;omega,λk a l E T=>?_⟩;by_cases hk:k<i0 R
  ·rw[qm i9,qO,qc i5]at E;rw[rowsOf,qm i9,qO,qc hk]at T;simp only[qS,zQ.injEq]at E T;subst E;subst T;exact(Fix.row G4.1 hk).1
  ·rw[qi i9]at E;rw[rowsOf,qi i9]at T;simp only[qy,M]at E T;have hm:(a,l)∈sr.zip (hO known i):=by refine yO.2 ⟨k-i0 R,?_⟩;rw[vy];exact⟨E,T⟩
   exact(w.at 1 i4) _ hm
 rw[ab,ay];refine(WH (i:Int) o (rowsOf R known i) _ h4 ah i5 ?_).mono ?_
 ·intro x hx;rcases qw.1 hx with hx|hx
  ·obtain⟨e,he,rfl⟩:=qo.1 hx;have:=ar e he;omega
  ·obtain⟨c,hc,rfl⟩:=qo.1 hx;simp
 rintro _ h5 ⟨Q,F,O,rfl,R5⟩;have ax:Bx (i:Int) (rowsOf R known i)=((dW i (rowsOf R known i)).steps,(dW i (rowsOf R known i)).dead,fO (dW i (rowsOf R known i)).used (rowsOf R known i).length):=by unfold Bx;rw[g0 D,qj]
 rw[ax]at R5;dsimp only at R5;have G:=((w.nr).nr).comp R5;refine⟨((Q,F,O),_),i4,?_⟩;have X:=aa.front (As:=av u 277 [xB (dB s)]::SA s (gX f p v r d m j P L)::As) (Bs:=[_,_,_]) G;refine X.alloc ag i4 λa4 h7 Y=>?_;have Y:=Y.aY;refine Y.storeAll ag 0 i4 i4 [Q,F,O] i4 i4 i4 i4 λh8 H8=>?_;refine⟨Q,(H8.box 0 i4).cell0 i4,?_⟩;refine(NT Q _ 274 #[xB (dB u)] (λx=>decide (x.1>=(r.len:Int))) (λh'=>f8 h' u=dB (xB (dB s))/\f8 h' (s.add 5)=dB (xA r.ptr r.len r.cap)) i4 (St.mk' λh' H'=>⟨(H'.box 3 i4).cell0 i4,(H'.box 4 i4).cell i4⟩) (λx h' hq=>Px s u r x h' hq) H8.nf W.1).mono ?_;rintro _ h9 ⟨q,rfl,H9⟩;refine⟨q,i4,?_⟩;refine H9.gA ag 1 i4 i4 [q] i4 i4 i4 jj λa7 U=>?_;refine⟨O,(U.box 1 i4).cell i4,?_⟩;have ap:=U.aK 6 [3,0,1,2,4,5];refine(NS O _ 275 #[xB (dB u)] (λx=>decide (x>=(r.len:Int))) (λh'=>f8 h' u=dB (xB (dB s))/\f8 h' (s.add 5)=dB (xA r.ptr r.len r.cap)) i4 (St.mk' λh' H'=>⟨(H'.box 3 i4).cell0 i4,(H'.box 4 i4).cell i4⟩) (λx h' hq=>Py s u r x h' hq) ap W.2).mono ?_;rintro _ a0 ⟨y,rfl,ao⟩;refine⟨y,i4,?_⟩;refine ao.store ag 2 i4 i4 2 [y] i4 i4 i4 jj λa5 K=>?_;refine⟨dB s,(K.box 4 i4).cell0 i4,(q,F,y),(K.box 2 i4).aE _ i4,s,i4,?_⟩;refine K.store ag 5 i4 i4 6 [q,F,y] i4 i4 i4 n0 λa6 V=>⟨i4,q,F,y,?_⟩
 have e1:(λx:Int×Int=>!decide (x.1>=(r.len:Int)))=λx=>decide (x.1<(i0 R:Int)):=by
  funext x;rw[ad,M];by_cases h:x.1<(i0 R:Int)
  ·rw[hU h,hZ i5];rfl
  ·rw[hZ h,hU i5];rfl
 have Z:(λx:Int=>!decide (x>=(r.len:Int)))=λx=>decide (x<(i0 R:Int)):=by
  funext x;rw[ad,M];by_cases h:x<(i0 R:Int)
  ·rw[hU h,hZ i5];rfl
  ·rw[hZ h,hU i5];rfl
 rw[e1,Z]at V;exact V.aK 6 [5,1,3,0]
theorem Ks{l:Row}:¬fb l<i0 l↔l=aG l.length:=by
 rw[fb,wU];constructor
 ·intro h;refine vU.2 ⟨i4,λx b=>?_⟩;by_cases a:x=0
  ·exact a
  ·exact absurd ⟨x,b,j9⟩ h
 ·rintro h ⟨x,b,a⟩;have:=(vU.1 h).2 x b;subst this;simp at a
theorem PA(f:f7)(a b:Sl)(A B:aI)(m n w:Nat)(h:f9)(hf:fG h f)(ha:fA h a 1 aB A)(hb:fA h b 1 aB B)(hl:i0 A=m)(a9:i0 B=m)(q:aQ n A)(hB:aQ w B)(bb:1<=n)(hn:n+w<=64)(hm:m<=2^20)(hr:bL A=n):
  ai xJ 194 #[xB (dB f),a,b] h λv h'=>(kK n A B/\∃r:Sl,v=.tuple #[r,xz xF 0]/\Sp h h' [gn 34 r 1 aB (gg n A B)])∨(¬kK n A B/\v=.tuple #[xA eH 0 0,xz xF 10]/\Sp h h' []):=by
 have a6:n<=m:=by have:=ow A q;omega
 have d:i0 B=i0 A:=i5
 have am:=ha.len;have T:=hb.len;refine ts Tryz.func194 ?_ (.two .n (.two (.join [] [(6,8),(17,37)] .n) (.two .n (.two .n (.two (.two .n (.inn (.loop [(43,aT)] [(10,11),(43,59)] .n))) (.two .n (.two .n (.two (.two .n (.inn (.loop [(71,aT)] [(6,8),(13,14),(71,79)] .n))) (.two .n (.two (.two .n (.inn (.loop [(14,cF),(83,aT)] [(14,15),(16,17),(83,95)] .n))) .n))))))))));refine aO ?_;refine(mA a A n h ha q).mono ?_;rintro v I ⟨rfl,rfl⟩;refine⟨_,i4,aU (λe=>j1) λ_=>?_⟩;refine(mA b B w I hb hB).mono ?_;rintro v Y ⟨rfl,rfl⟩;refine⟨_,i4,aU (λe=>j1) λ_=>?_⟩;refine bz (λe=>absurd (by rw[am,T,d]) e) λ_=>?_;refine bf (λe=>i5) λ_=>?_;refine(pG a A Y ha).mono ?_;rintro v h3 ⟨rfl,rfl⟩;have a0:eC A=n:=by
  cases A with
  |nil=>simp at hl;omega
  |cons x t=>rw[eC,bm jj];exact q _ jj
 refine⟨_,i4,?_⟩;rw[a0];refine(tU a A n h3 ha q).mono ?_;rintro v h4 ⟨r,rs,rfl,bd,R4⟩;refine⟨r,i4,?_⟩;have a4:=(R4.own 0 i4).len;refine aq (λt:Nat×List Sl=>(t.1:Int)) (λt h'=>t.1<=m/\t.2.length=m/\Sp h3 h' (mZ r t.2 (nZ A B t.1))) (λt=>m-t.1) (0,rs) i4 ⟨jj,i7,by simpa[nZ,eT]using R4⟩ ?_;rintro⟨k,rs⟩ h5 ⟨hk,bl,Z⟩;dsimp only at*;have G:i0 rs=i0 (nZ A B k):=n4
 refine ae (λe=>?_) (λe=>?_)
 ·have X:k<m:=i5
  have P:k<i0 A:=i5
  have F:=nX (a:=r) G k n4;have eg:(nZ A B k)[k]'(by rw[rz d];omega)=A[k]:=by have:=VR d P;rw[qc n4]at this;exact zQ.inj this
  rw[eg]at F;have l1:A[k].length=n:=q _ (qf _);have l2:i0 (B[k]'(by omega))=w:=hB _ (qf _);refine(Z.seq 0 i4 λ_=>rfl).mY k i4 i5 λa1 ab S=>?_;refine(hb.up Z.ac).get k i4 i5 λrb a2=>?_;refine Z.append ag (k+1) F gp Ni i4 i6 (λ_=>rfl) a2 gJ i5 λs6 h6 H6=>⟨trivial,?_⟩
  refine H6.set ag 0 i4 (λ_=>rfl) i4 k i4 i5 s6 i4 i4 i4 λh7 H7=>⟨trivial,?_⟩
  refine⟨(k+1,rs.set k s6),js,⟨i7,lz,?_⟩,i7⟩
  try dsimp only
  rw[<-VS d P];show Sp h3 h7 (an 34 r 1 bi (rs.set k s6)::bt 5 1 aB (rs.set k s6) ((nZ A B k).set k _));rw[<-kz G];exact H7
 ·have ay:k=i0 A:=i5
  subst ay;rw[VT d]at Z;refine(rS f h5).mono ?_;rintro v h6 ⟨rfl,rfl⟩;refine⟨dB f,i4,?_⟩;have N:=mv d.symm q hB;have bk:=lT d.symm;refine(wX (m:=eT A B) (n:=n+w) hf hf.lt i5 N i5 i5 i5 Z).mono ?_;rintro v h7 ⟨l,rfl,a5,u⟩;rw[Fx d.symm q,hr];refine⟨_,i4,?_⟩
  try dsimp only
  have L:=(u.own 0 i4).cap;have bq:=(u.own 0 i4).len;have Y:=gI N n;refine ae (λe=>absurd (show(n:Int)<(n:Int)from e) i5) λ_=>?_;refine⟨⟨z8 _,yY.2 (show n<=r.len by omega)⟩,?_⟩;obtain⟨M,H⟩:∃M,M=(bA (eT A B) n).2:=⟨_,rfl⟩
  have b0:i0 M=i0 A:=by have:=Y.2;rw[<-H]at this;omega
  have Q:aQ (n+w) M:=by rw[H];exact Y.1
  rw[<-H]at u;have U:i0 l=i0 M:=i5
  have p:kK n A B↔∀i (K:i<i0 M),n<=i->M[i]=aG M[i].length:=by
   unfold kK;rw[<-H];constructor
   ·intro V i K hn;refine V _ (yO.2 ⟨i-n,?_⟩);rw[wO,show n+(i-n)=i by omega,qc K]
   ·intro V x hx;obtain⟨i,K,rfl⟩:=qD hx;simp only[q7]at K;rw[z6];exact V _ i5 i5
  refine aq (λi:Nat=>(i:Int)) (λi h'=>h'=h7/\n+i<=i0 M/\∀j (hj:j<i0 M),n<=j->j<n+i->M[j]=aG M[j].length) (λi=>i0 M-(n+i)) 0 i4 ⟨i4,i5,λj _ _ _=>i5⟩ ?_;rintro i h8 ⟨rfl,K,o⟩;rw[qj];refine ae (λe=>?_) (λe=>?_)
  ·have g:n+i<i0 M:=i5
   have F:=nX (a:=r) U (n+i) i5;have ap:i0 (M[n+i]'g)=n+w:=Q _ (qf _);have y:=u.seq (n+i+1) F λ_=>rfl;have D:=(u.seq 0 i4 λ_=>rfl).drop n L;have al:(l.drop n)[i]'(by simp;omega)=l[n+i]'(by omega):=z6;refine D.mY i i4 i9 λa1 ab S=>?_;rw[al];refine(DF _ _ h8 y).mono ?_;rintro _ h9 ⟨rfl,rfl⟩;refine⟨_,i4,ae (λO=>?_) λO=>?_⟩
   ·right;have E:fb (M[n+i]'g)<i0 (M[n+i]'g):=by
     by_cases hh:fb (M[n+i]'g)<i0 (M[n+i]'g)
     ·exact hh
     ·rw[g9 hh]at O;exact absurd O i6
    refine⟨λV=>?_,i4,.zip u.ac⟩;have:=p.1 V (n+i) g i5;exact absurd E (Ks.2 this)
   ·have E:¬fb (M[n+i]'g)<i0 (M[n+i]'g):=λhh=>by
     rw[g0 hh]at O;exact O (z8 _)
    refine⟨i+1,j0,⟨i4,i5,λj hj I Y=>?_⟩,i5⟩;by_cases ar:j=n+i
    ·subst ar;exact Ks.1 E
    ·exact o j hj I i5
  refine⟨⟨z8 _,yY.2 (show n<=r.cap by omega)⟩,?_⟩;have z:kK n A B:=p.2 λj hj I=>o j hj I i5;have e1:gg n A B=(M.take n).map (xy n):=by rw[gg,<-H]
  have W:∀k (hk:k<n),(gg n A B).take (k+1)=(gg n A B).take k++[(M[k]'(by omega)).drop n]:=λk hk=>by
   rw[e1,aD _ _ i9,wV,yg]
  have a7:i0 (gg n A B)=n:=(sO d.symm q hB hr).1;refine aq (λt:Sl×Nat=>(t.1,(t.2:Int))) (λt h'=>t.2<=n/\Sp h8 h' [gn 34 t.1 1 aB ((gg n A B).take t.2)]) (λt=>n-t.2) (⟨eH,0,0⟩,0) i4 ⟨jj,(Sp.refl h8).GA 34 1 aB⟩ ?_;rintro⟨s,k⟩ h9 ⟨br,H9⟩;dsimp only at*;have HH:=u.comp H9;refine ae (λe=>?_) (λe=>?_)
  ·have X:k<n:=i5
   have F:=nX (a:=r) U k i5;have R:(mZ r l M++[gn 34 s 1 aB ((gg n A B).take k)])[k+1]?=dB (an 5 (l[k]'(by omega)) 1 aB (M[k]'(by omega))):=by rw[qm (by simp[bt];omega)];exact F
   have ap:i0 (M[k]'(by omega))=n+w:=Q _ (qf _);have J:=HH.own (k+1) R;have y:=HH.seq (k+1) R λ_=>rfl;have a3:=J.len;have D:=(HH.seq 0 i4 λ_=>rfl).take n i5;have ah:(l.take n)[k]'(by simp;omega)=l[k]'(by omega):=yg;refine D.mY k i4 i9 λa1 ab S=>?_;rw[ah];refine⟨⟨z8 _,yY.2 i5⟩,?_⟩;refine(eK _ _ h9 (y.drop n J.cap) i9).mono ?_;rintro v bs ⟨c,rfl,ao⟩;have ad:=(H9.comp ao).freeze 1 i4 λ_=>rfl;refine⟨c,i4,?_⟩;refine ad.sK ag 0 1 i6 i4 i4 fu i9 λs' a8 ax=>?_;refine⟨(s',k+1),js,⟨i7,?_⟩,i7⟩
   try dsimp only
   rw[W k X];exact ax.del 1
  ·rw[qg i5]at H9;refine .inl ⟨z,s,i4,?_⟩;have:=(Sp.zip u.ac).comp H9;exact this
theorem NU:∀{l:au},l.Pairwise (·<·)->fJ l=eR
 |[],_=>rfl
 |[_],_=>rfl
 |a::b::r,h=>by
  rw[List.pairwise_cons]at h;rw[fJ,NU h.2,hU (h.1 b jj)];rfl
theorem TH{l:au}(h:l.Pairwise (·<·)):Jd l:=λi a=>zj.1 h i (i+1) i5 a i5
theorem TJ{n:Nat}{R:List fi}{known:List Bool}(i:n<=64)(f:∀e∈R,(∀c∈e.1,0<=c/\c<(n:Int))/\e.1.Pairwise (·<·)):jE (n:Int) (rowsOf R known n)=eR:=by
 unfold jE;rw[qu];refine⟨i9,qK.2 λr a=>?_⟩;unfold fK;rw[qu];rcases qw.1 a with a|a
 ·obtain⟨e,b,rfl⟩:=qo.1 a;exact⟨qK.2 λc g=>by simpa using(f e b).1 c g,NU (f e b).2⟩
 ·obtain⟨d,rfl,h,_⟩:=uI a;exact⟨i9,i4⟩
theorem aa.aeq{e:Nat}{v:Sl}{vs:aI}(H:aa B h0 h As)(i:Nat)(p:As[i]?=dB (ck e v 1 bi (rJ 1 aB) vs)):
  ∃f:List Sl,aa B h0 h (As.set i (an e v 1 bi f)++[lF (f.zip vs)])/\f.length=i0 vs/\∀(c:Nat) (m:c<i0 f) (o:c<i0 vs),f[c].ptr.isNone=vs[c].isEmpty:=by
 have g:i<i0 As:=(ql.1 p).1;have A:aa B h0 h (As.set i (HP.ex λf:List Sl=>((an e v 1 bi f).sep (lF (f.zip vs))).and (i0 f=i0 vs/\∀(c:Nat) (m:c<i0 f) (o:c<i0 vs),f[c].ptr.isNone=vs[c].isEmpty))):=
  H.fM i p λq ⟨rs,u,a,b,c,d,e⟩=>⟨rs,⟨λb=>v.on b,u,λx j=>(b x j).2,λx j=>(b x j).1,c,⟨a,λx j=>j⟩,λx j=>by
   obtain⟨k,D,l⟩:=qD j;simp only[List.length_zip]at D;rw[vb]at l;subst l;exact(e k _ _ (qc i5) (qc i5)).1⟩,d,λk m o=>by
   obtain⟨x,y⟩:=e k _ _ (qc m) (qc o);cases hv:vs[k]with
   |nil=>rw[y hv];rfl
   |cons z t=>
    have:=x.isSome (by rw[hv];simp);rw[this];rfl⟩
 obtain⟨f,n⟩:=A.RO i (ze g);rw[yu]at n;have w:=n.fact i (ze g);have r:=n.aaj i (ze g);rw[yu]at r;have s:=r.split i (ze g);rw[yu]at s;exact⟨f,s,w⟩
def yv(x:Int×Sl):aR:=[xz xF x.1,x.2]
def afy:iF (Int×Sl) (Int×Row):=⟨λh q a b=>a.1=b.1/\Seq h q a.2 1 aB b.2,λa c=>⟨a.1,a.2.ac c⟩,λa d=>⟨a.1,a.2.mono d⟩⟩
abbrev ED:iF Sl (List (Int×Row)):=bD afy 2 yv
theorem TK{a:List Sl}{vs:aI}(h:i0 a=i0 vs)(pl:List (Sl×Row))(b:∀x∈a.zip vs,x∈pl):gW pl id a vs:=
 ⟨h,λi r l d c=>b _ (yO.2 ⟨i,by rw[vy];exact⟨d,c⟩⟩)⟩
theorem NV{α β:Type}:∀(a:List α) (x:α) (l:List β) (h:i0 a<i0 l),(a++[x]).zip l=a.zip l++[(x,l[i0 a])]
 |[],x,b::l,_=>jj
 |c::a,x,b::l,h=>by
  have:=NV a x l j6;simp[this]
def aaY(h h':f9)(v:Value)(n:Nat)(A a:aI):Prop:=
 (kK n A a/\∃r:Sl,v=.tuple #[r,xz xF 0]/\Sp h h' [MA r (gg n A a)])∨(¬kK n A a/\v=.tuple #[xA eH 0 0,xz xF 10]/\Sp h h' [])
theorem Zt(p:Pm)(seed:Int)(l:Sl)(syms:List (Int×Row))(n w:Nat)(h:f9)(hl:dN ED h l syms)(y:bx p=eR)(bd:∀x∈syms,uJ p x)(hn:(bu p).toNat=n)(hw:p.2.2.toNat=w)(ei:i0 syms<=2^18)(hr:bL (dE p seed (syms.map qL))=n):
  ai xJ 151 #[jv p,xz xH seed,l] h λv h'=>aaY h h' v n (dE p seed (syms.map qL)) (py p syms):=by
 refine ts Tryz.func151 ?_ (.two .n (.fwd (.two .n (.two (.two .n (.inn (.loop [(8,cF),(23,aT)] [(8,9),(10,11),(23,39)] .n))) (.two (.join [(11,MJ)] [(11,12),(39,43)] .n) .n))) [(0,[.n]),(1,[(.two (.two .n (.inn (.loop [(95,aT)] [(20,21),(95,104)] .n))) .n)]),(2,[.n])])) [(5,(.l [0,1,2,3,4,6,7,5,8,9,10,11])),(7,(.l [1,0,2,3,4]))] (args:=[p,(xz xH (seed:Int)),l]);have eh:=(bN p).1 y;have d9:bu p=n:=by rw[<-hn];have:=nG y;omega
 have b5:n=p.1.toNat+p.2.1.toNat:=by rw[<-hn,nG y];omega
 have cq:p.2.2=(w:Int):=i5
 have cc:1<=n:=i5
 have b4:n<=20:=i5
 obtain⟨T,ec,eo,b2⟩:=bD.kg hl;have ep:=bD.len hl;let d:List fi:=sv n seed syms;have ef:i0 d=i0 syms:=by simp[d,sv]
 have J:=ads (seed:=seed) cc b4 bd hw;let u:Nat->bP:=λi=>(syms.take i).map λx=>cW n seed x.1;have Z:∀x:Int×Row,x∈syms->(bx p&&bJ x.1)=eR:=λx hx=>by rw[y,(bd x hx).id];rfl
 refine(Sp.refl h).boxed λa1 N H1=>?_;have d8:=((aa.WP H1).nil 276 2 qv).bX [2,1,0];refine aq (λt:Nat×Sl×List Sl=>(t.2.1,(t.1:Int))) (λt h'=>t.1<=i0 syms/\t.2.2.length=t.1/\Sp h h' [an 276 t.2.1 2 qv (t.2.2.zip (T.map zH)),uW (t.2.2.zip (u t.1)),av a1 25 [xz xF p.1,xz xF p.2.1,xz xF p.2.2]]) (λt=>i0 syms-t.1) (0,⟨eH,0,0⟩,[]) i4 ⟨jj,i4,d8⟩ ?_;rintro⟨i,o,cr⟩ h2 ⟨hi,bs,H2⟩;dsimp only at*;have b3:i0 (u i)=i:=by simp[u];omega
 refine ae (λe=>?_) (λe=>?_)
 ·have U:i<i0 syms:=i5
  obtain⟨y1,y2⟩:=b2 i i5 U;refine(Seq.up ec H2.ac).dY (g:=yv) i i4 i5 (T[i]'(by omega)) i4 ?_;refine H2.alloc ag i4 λa5 h3 H3=>?_;refine H3.storeAll ag 3 i4 i4 (yv (T[i]'(by omega))) i4 i4 i4 i4 λh4 P=>?_;refine⟨p,(P.box 2 i4).aE _ i4,(T[i]'(by omega)).1,(P.box 3 i4).cell0 i4,(T[i]'(by omega)).2,(P.box 3 i4).cell i4,?_⟩;refine(uM p seed (T[i]'(by omega)).1 h4).mono ?_;rintro _ h5 ⟨r,rfl,R5⟩;rw[y1,Z _ (qf U),g0 rfl,hn]at R5;have H5:=(P.comp R5).freeze 4 i4 λ_=>rfl;refine⟨r,i4,⟨(H5.box 3 i4).cell i4,trivial⟩,?_⟩;have H6:=aa.aaX H5 1 4 i6 i4 i4;have dy:=H6.box 3 i4;refine H6.nN ag qv eQ i4 [(r,(T[i]'(by omega)).2)] i4 (show 1*2<=2^20 by decide) i4 ⟨dy.cell i4,trivial⟩ ?_;refine H6.push ag 0 i4 eQ i4 i6 (λ_=>rfl) Wy (r,(T[i]'(by omega)).2) i4 i6 i9 λo' h7 H7=>?_;refine⟨⟨(H7.box 3 i4).cell i4,trivial⟩,?_⟩;refine⟨(i+1,o',cr++[r]),js,⟨i7,by simp[bs],?_⟩,i7⟩
  try dsimp only
  have e1:u (i+1)=u i++[cW n seed syms[i].1]:=by simp only[u];rw[aD _ _ U,qT];rfl
  have e2:(cr++[r]).zip (T.map zH)=cr.zip (T.map zH)++[(r,(T[i]'(by omega)).2)]:=by rw[NV cr r (T.map zH) i9,wV];simp only[bs]
  rw[e1,e2,List.zip_append (by rw[bs,b3])];exact H7.bX [0,1,2]
 have dp:i=i0 syms:=i5
 subst dp;have d5:u syms.length=syms.map λx=>cW n seed x.1:=by simp only[u];rw[qU]
 rw[d5]at H2;have eb:∀{h':f9},(∀x∈cr.zip (syms.map λx=>cW n seed x.1),Qw.Seq h' (λb=>b<h'.size) x.1 1 az x.2)->aP (λb=>b<h.size) h h'->Qw.Seq h' (λb=>b<h'.size) o 2 qv (cr.zip (T.map zH))->dN oT h' o d:=λ{h'} hp hpr hs=>by
  refine⟨_,hs,by simp[d,sv];omega,λk a b N h2=>?_⟩;have hk:k<i0 syms:=by have:=(ql.1 h2).1;omega
  rw[qc i9,vb,wV]at N;have e2:d[k]?=dB (cW n seed syms[k].1,syms[k].2):=by simp[d,sv,hk]
  rw[e2]at h2;simp only[zQ.injEq]at N h2;subst N;subst h2;refine⟨hp (cr[k]'(by omega),cW n seed syms[k].1) (yO.2 ⟨k,?_⟩),Seq.up (b2 k i5 hk).2 hpr⟩;rw[vy];exact⟨qc _,by simp[hk]⟩
 refine bE (λs h'=>∃(ap f:f7),s=dB ap/\Sp h h' [SA ap (gX f p ⟨eH,0,0⟩ ⟨eH,0,0⟩ ⟨eH,0,0⟩ ⟨eH,0,0⟩ ⟨eH,0,0⟩ ⟨eH,0,0⟩ ⟨eH,0,0⟩),an 276 o 2 qv (cr.zip (T.map zH)),uW (cr.zip (syms.map λx=>cW n seed x.1)),av a1 25 [xz xF p.1,xz xF p.2.1,xz xF p.2.2],av f 325 dG]) ?_ ?_
 ·refine⟨p,(H2.box 2 i4).aE _ i4,(oN h2).mono ?_⟩;rintro _ h3 ⟨f,rfl,R3⟩;have H3:=H2.comp R3;refine⟨dB f,i4,⟨(H3.box 2 i4).cell0 i4,(H3.box 2 i4).cell i4,(H3.box 2 i4).cell i4,trivial⟩,?_⟩;refine H3.boxed λap h4 P=>?_;exact⟨⟨(P.box 2 i4).cell0 i4,(P.box 2 i4).cell i4,(P.box 2 i4).cell i4,trivial⟩,ap,f,i4,P.bX [4,0,1,2,3]⟩
 rintro _ h3 ⟨s,f,rfl,H3⟩;refine⟨p,(H3.box 3 i4).aE _ i4,(kb p h3).mono ?_⟩;rintro _ h4 ⟨rfl,R4⟩;have P:=H3.up R4.ac;refine⟨_,i4,?_⟩;rw[d9];have dx:dN oT h4 o d:=eb (P.at 2 i4) P.ac (P.seq 1 i4 λ_=>rfl);have cs:∀e∈d,i0 e.1<=2^20:=λe F=>by
  obtain⟨x,hx,rfl⟩:=qo.1 F;have:=ux cc b4 seed x.1;dsimp only;omega
 refine(WD o d n w h4 dx (λe F=>⟨(J e F).1,TH (J e F).2⟩) i5 i5 ⟨i5,i5⟩ cs).mono ?_;have hA:aQ n (bn p.1.toNat p.2.1.toNat):=by rw[b5];exact GL _ _
 have eA:=Sx (seed:=seed) y hn bd;have eB:=Sy (seed:=seed) (n:=n) (p:=p) (l:=syms) hw;rw[<-eA]at hr⊢;rw[<-eB];rintro _ h5 ⟨known,vals,hI,⟨Z,rfl,R5⟩|⟨Z,k,v,rs,rfl,R5⟩⟩
 ·refine⟨(⟨eH,0,0⟩,⟨eH,0,0⟩,⟨eH,0,0⟩,10),i4,bz (λ_=>?_) λe=>absurd e i6⟩;exact .inr ⟨Vh (λe F=>(J e F).1) hA hI Z hr,i4,(P.up R5.ac).bX []⟩
 refine⟨(k,v,rs,0),i4,bz (λe=>absurd i4 e) λ_=>?_⟩;have S:=Yw (λe F=>(J e F).1) hA hI Z;have B:=JN (λe F=>(J e F).1) hI;obtain⟨f1,f2,f3,f4,f5⟩:=GP (λe F=>(J e F).1) hI;have G:=nU hI λe F=>(J e F).1;have a9:=abz (known:=known) (vals:=vals) λe F=>(J e F).2;have c8:=Vi (l:=d) (known:=known) (vals:=vals);have ay:=Vj (known:=known) (vals:=vals) cs;have cd:=hI.vlen;have ed:=hI.klen;unfold Lj at S;obtain⟨R,ao⟩:∃R,R=aV known vals d:=⟨_,rfl⟩
 change gF n w d _ known vals _ _ _ _ at S;rw[<-ao]at S B f1 f2 f3 f4 f5 G a9 c8 ay R5;obtain⟨Y,H6,dk,cf⟩:=aa.aeq (P.comp R5) 6 rfl;obtain⟨rr,H7⟩:=aa.IB H6 7 rfl λ_=>rfl;have H8:=aa.acf H7 8 i4;have H9:=aa.bX H8 [0,8,6,7,5,4];have bk:v.len=n:=by rw[(H9.own 2 i4).len];omega
 have hk:∀(c:Nat) (V:c<i0 Y),Y[c].ptr.isNone=!(known.getD c eS):=λc V=>by
  rw[cf c V i5];have N:=hI.row c i5;rw[lX (show c<i0 vals by omega)]at N;cases hkn:known.getD c eS with
  |true=>
   rw[hkn,g0 rfl]at N;cases hv:vals[c]'(by omega)with
   |nil=>rw[hv]at N;simp at N;omega
   |cons x t=>rfl
  |false=>
   rw[hkn,g9 jj]at N;rw[vK.1 N];rfl
 refine⟨s,i4,H9.store ag 0 i4 i4 4 [v] i4 i4 i4 n0 λh6 c4=>?_⟩;refine⟨s,i4,c4.store ag 0 i4 i4 5 [rs] i4 i4 i4 n0 λh7 d1=>?_⟩;have cl:=TJ (known:=known) (n:=n) i5 λe F=>⟨(G e F).cM,a9 e F⟩
 have al:=tG (rows:=rowsOf R known n) (n:=n) (by rw[ao];exact sQ (ao▸G));have eq:i0 (rowsOf R known n)<=i0 R+n:=by rw[rowsOf,qp,qy];have:=BP known n;omega
 refine(Pz s f p v rs _ _ _ _ _ k rr R known n (As:=[lF ((⟨eH,0,0⟩,[])::Y.zip vals),HA v Y,cJ jX 2 qv rs rr R,an 4 k 1 fm known,av f 325 dG]) d1 (St.mk' λh' H'=>⟨H'.eu 2 i4,H'.seq 3 i4 λ_=>rfl⟩) ed i5 i5 ay cl ⟨by have:=al.1;omega,by have:=Eu (dW n (rowsOf R known n)).used (rowsOf R known n).length;omega⟩).mono ?_;rintro _ h8 ⟨rfl,st,dd,lf,d0⟩;refine⟨(),i4,?_⟩;obtain⟨D,hD⟩:∃D,D=(gC R known n).dead:=⟨_,rfl⟩
 obtain⟨ST,b0⟩:∃ST,ST=mP R known n:=⟨_,rfl⟩
 obtain⟨L,hL⟩:∃L,L=Qw.leftOf R known n:=⟨_,rfl⟩
 have c9:Sp h h8 (SA s (gX f p v rs st dd lf ⟨eH,0,0⟩ ⟨eH,0,0⟩)::lF ((⟨eH,0,0⟩,[])::Y.zip vals)::[HA v Y,an 349 st 2 gc ST,an 3 dd 1 az D,an 3 lf 1 az L,cJ jX 2 qv rs rr R,av f 325 dG]):=by rw[hD,b0,hL];exact aa.bX d0 [0,4,5,1,2,3,6,8]
 rw[<-hD]at S B f1 f2 f3 f5;rw[<-b0]at S B;rw[<-hL]at S f4;have cp:i0 ST<=2^20:=by rw[b0,mP,gC];have:=qJ (λx:Int×Int=>decide (x.1<i0 R)) (dW n (rowsOf R known n)).steps;have:=al.1;omega
 have el:i0 L<=2^20-2^10:=by rw[hL,Qw.leftOf,gC];have:=qJ (λx:Int=>decide (x<i0 R)) (fO (dW n (rowsOf R known n)).used (rowsOf R known n).length);have:=Eu (dW n (rowsOf R known n)).used (rowsOf R known n).length;omega
 have z:St (λb=>b<h.size) h [HA v Y,an 349 st 2 gc ST,an 3 dd 1 az D,an 3 lf 1 az L,cJ jX 2 qv rs rr R,av f 325 dG] λh=>TB h f rs st dd lf rr R ST D L:=
  St.mk' λh' H'=>⟨H'.box 5 i4,H'.eu 4 i4,H'.seq 1 i4 λ_=>rfl,H'.seq 2 i4 λ_=>rfl,H'.seq 3 i4 λ_=>rfl⟩
 refine(TD s f p v rs st dd lf _ _ rr R ST D L n D.length w _ c9 z bk i5 cq i5 i4 i5 G f1 f2 B cp ay jj).mono ?_;rintro _ h9 ⟨rfl,wa,mo,wr,mr,pl,b1,a7⟩;refine⟨(),i4,?_⟩;have c5:=(z.at [_,_,_,_] b1).dead.len;generalize eg:ST.foldl (gQ R D.length) (fZ n D.length w D)=S0 at a7 S;have c6:i0 S0.1=n:=by have:=S.lens.1;simpa[il]using this
 have d6:i0 S0.2=n:=by have:=S.lens.2.1;simpa[il]using this
 have hV:gW pl id Y vals:=TK dk pl λx hx=>a7.sub x (qz _ hx);refine(WL s f p v rs st dd lf wa mo Y wr mr pl known vals S0.1 S0.2 n D.length b1 i5 c5 i5 ⟨λ_ h=>h,a7.way,a7.more⟩ hV cd c6 d6 hk).mono ?_;rintro _ er ⟨rfl,a8,a0,ad,c7,O⟩;refine⟨(),i4,?_⟩;obtain⟨W,hW⟩:∃W,W=(il D.length known vals S0).1:=⟨_,rfl⟩
 obtain⟨M,hM⟩:∃M,M=(il D.length known vals S0).2:=⟨_,rfl⟩
 change lP pl ad a8 a0 (il D.length known vals S0).1 (il D.length known vals S0).2 at O;rw[<-hW,<-hM]at O S;have m:=S.lens;refine(TF s f p v rs st dd lf wa mo a8 a0 ad rr R ST D L W M n D.length w c7 z b5 cq i5 y i4 i5 G ay f4 i5 ⟨λ_ h=>h,O.way,O.more⟩ m.1 m.2.1 m.2.2).mono ?_;rintro _ ar ⟨a,b,rfl,a4⟩;refine⟨(a,b),i4,s,i4,dd,show f8 ar (s.add 7)=_ from(a4.box 2 i4).cell i4,?_⟩;have du:gW ad id Y vals:=hV.mono O.sub;obtain⟨e1,e2⟩:=oG S;have K:=uH (n:=n) (w:=w) (ahead:=bn p.1.toNat p.2.1.toNat) (l:=d) (known:=known) (vals:=vals) (dead:=D) (left:=L) (W:=W) (M:=M);have a2:∀{X:aI},_->_:=λ{X} hs=>S.Qz hr (D:=X) hs;have ax:=S.QA hr;have a3:=S.Sz i5 hr;have a6:=S.II i5 hr;rw[<-ao]at e1 e2 K a2 ax a3 a6;obtain⟨dA,b9⟩:∃dA,dA=dq n D.length R W L (bn p.1.toNat p.2.1.toNat):=⟨_,rfl⟩
 obtain⟨I,da⟩:∃I,I=fE n w R M L (bn p.1.toNat p.2.1.toNat):=⟨_,rfl⟩
 rw[<-b9]at e1 K a2 ax a3 a6 a4;rw[<-da]at e2 K a2 ax a3 a4;have ds:i0 dA=i0 L+p.2.1.toNat:=by rw[b9];simp[dq,bn]
 have bb:∀{h':f9} {pre:List HP} {dead:Sl} {dr:List Sl} {X:aI} {Q:HP},Sp h h' (Told s f p v rs st dd lf wa mo a8 a0 ad++HA v Y::[an 349 st 2 gc ST,an 3 dd 1 az D,an 3 lf 1 az L,cJ jX 2 qv rs rr R,av f 325 dG,Q])->(∀h',Q.p h' (λb=>b<h'.size)->ib h' (λb=>b<h'.size) dead 1 aB X dr)->fD D.length w dA I X->
   ai xJ 220 #[xB (dB s),dead] h' λv' ah=>v'=.tuple #[]/\f8 ah (s.add 4)=dB (xA v.ptr v.len v.cap)/\aaY h ah (.tuple #[v,xz xF 0]) n (dC n d (bn p.1.toNat p.2.1.toNat)) (ic w d (bn p.1.toNat p.2.1.toNat)):=by
  intro h' pre dead dr X Q H' hQ hs;refine(WN s f p v rs st dd lf wa mo dead Y a8 a0 dr ad known vals W M X n D.length w H' (St.mk' λah ab=>⟨ab.box 4 i4,hQ ah (ab.at 5 i4)⟩) i5 i5 i5 ⟨λ_ h=>h,O.way,O.more⟩ du cd m.1 m.2.1 m.2.2 hs.1 hs.2.1 hk).mono ?_;rintro _ ah ⟨rfl,en,ek,ab,ip⟩;refine⟨i4,(ab.box 0 i4).cell i4,?_⟩;obtain⟨c1,c2⟩:=a2 hs;refine .inl ⟨c1,v,i4,?_⟩;rw[<-c2];exact(ab.Zl 4 3 i6 i4 i4 ip.1 λk r l N h2=>ip.2 k r l N h2).bX [4]
 have H:=a4;have cn:=H.Jv 1 i4 λ_=>rfl;have b7:fA ar b 1 aB I:=bD.tofA (by
  have:=bD.impl (α':=Sl) (E:=NR) (E':=cw 1 aB) id (λ{h q a b} (hx:NR.p h q a b)=>hx.1) cn
  rwa [List.map_id]at this)
 have d7:=b7.len;refine bf (λe0=>?_) (λe0=>?_)
 ·have b6:i0 D=0:=i5
  obtain⟨br,q1,q2,q3⟩:=bD.kg cn;refine aq (λi:Nat=>(i:Int)) (λi h'=>h'=ar/\i<=i0 I/\∀j (hj:j<i0 I),j<i->I[j]=aG w) (λi=>i0 I-i) 0 i4 ⟨i4,i5,λj _ hj=>i5⟩ ?_;rintro i am ⟨rfl,hi,hz⟩;have bq:fD D.length w dA I []↔∀r∈I,r=aG w:=by rw[b6];exact GQ K
  refine ae (λe=>?_) (λe=>?_)
  ·have U:i<i0 I:=by have e':(i:Int)<(b.len:Int):=e;omega
   obtain⟨y1,y2⟩:=q3 i i5 U;have d4:I[i].length=w:=e2 _ (qf _);refine q1.lr i i4 i5 ?_;refine(Ko (br[i]'(by omega)) I[i] _ i4 am y1 y2 i5).mono ?_;rintro _ c0 ⟨⟨t,rfl,ht⟩,rfl⟩;refine⟨t,i4,ae (λe3=>?_) λe3=>?_⟩
   ·refine .inr ⟨λV=>?_,i4,H.bX []⟩;have ca:=ax V;have d3:D=[]:=vK.1 b6;rw[d3]at ca;have:=(GQ K).1 ca _ (qf U);have h0:t.len=0:=ht.2 λx hx=>by rw[this]at hx;exact(w6.1 hx).2
    omega
   ·have h0:t.len=0:=i5
    refine⟨i+1,j0,⟨i4,i5,λj hj ej=>?_⟩,i5⟩;by_cases hh:j=i
    ·subst hh;exact vU.2 ⟨d4,ht.1 h0⟩
    ·exact hz j hj i5
  ·have hs:fD D.length w dA I []:=bq.2 λr hr=>by
    obtain⟨j,hj,rfl⟩:=qD hr;have e':¬(i:Int)<(b.len:Int):=e;exact hz j hj i5
   have bl:=aa.comp (H.bX [2,3,4,5,6,7,8,9,10,11]) (Sp.one (h:=am) (h':=am) (A:=emp) (aP.refl _ _) trivial);refine(bb (pre:=[]) (dead:=⟨eH,0,0⟩) (dr:=[]) (X:=[]) (Q:=emp) ?_ (λh' _=>⟨Seq.nil _ _ _ _ _ _,i4,λk r l N _=>by cases N⟩) hs).mono ?_
   ·exact bl
   ·rintro _ c0 ⟨rfl,V,hm⟩;exact⟨(),i4,s,i4,v,V,hm⟩
 ·have ea:1<=i0 D:=i5
  refine⟨s,i4,dB f,(H.box 2 i4).cell0 i4,?_⟩;refine(PA f a b dA I dA.length D.length w ar (H.box 11 i4) (H.Cm 0 i4) b7 i4 K.symm e1 e2 ea i5 i5 a6).mono ?_;rintro _ am (⟨V,r,rfl,R12⟩|⟨V,rfl,R12⟩)
  ·refine⟨(r,0),i4,bz (λe=>absurd i4 e) λ_=>?_⟩;have bl:=(H.comp R12).Lf 12 i4;obtain⟨dr,d2⟩:=aa.IB bl 12 rfl λ_=>rfl;have hs:=oy K e1 e2 a6 V;refine(bb (pre:=[]) (dead:=r) (dr:=dr) (X:=gg D.length dA I) (Q:=cJ (cw 1 aB) 1 bi r dr (gg D.length dA I)) (d2.bX [2,3,4,5,6,7,8,9,10,11,12]) (λh' x=>⟨x.1,x.2.1,x.2.2⟩) hs).mono ?_;rintro _ c0 ⟨rfl,V,hm⟩;exact⟨(),i4,s,i4,v,V,hm⟩
  ·refine⟨(⟨eH,0,0⟩,10),i4,bz (λ_=>?_) λe=>absurd e i6⟩;exact .inr ⟨λhh=>V (a3.2 hh),i4,(H.up R12.ac).bX []⟩
def mg(p:Int×Int×Int)(x:Int×Row):Bool:=bJ x.1&&decide ((i0 x.2:Int)=p.2.2)
theorem NW{p:Int×Int×Int}{x:Int×Row}(c:bx p=eR):mg p x=eR↔uJ p x:=by have:=(bN p).1 c;unfold mg;rw[qu,decide_eq_true_iff];exact⟨λ⟨a,b⟩=>⟨a,i5⟩,λh=>⟨h.id,by have:=h.len;omega⟩⟩
def rY(p:Int×Int×Int)(seed:Int)(X:aI)(i:Nat):Row:=(qt i).flatMap λj:Nat=>fS p.2.2.toNat X (cW (bu p).toNat seed (j:Int))
theorem Ku(p:Int×Int×Int)(seed:Int)(X:aI)(i:Nat):rY p seed X (i+1)=rY p seed X i++fS p.2.2.toNat X (cW (bu p).toNat seed (i:Int)):=by unfold rY;rw[zL,zf];simp
open Classical in
noncomputable def kZ(p:Int×Int×Int)(seed:Int)(l:List (Int×Row)):Row×Int:=
 if bx p&&l.all (mg p)then
  if fq p seed (l.map qL)then
   if kK (bu p).toNat (dE p seed (l.map qL)) (py p l)then(rY p seed (gg (bu p).toNat (dE p seed (l.map qL)) (py p l)) p.1.toNat,0)else([],10)
  else([],9)
 else([],1)
theorem PB(p:Pm)(x:Int×Sl)(l:Row)(h:f9)(d:Rd h x.2 1 aB l):ai xJ 148 #[jv p,xE #[xz xF x.1,x.2]] h λv h'=>v=xD (mg p (x.1,l))/\Sp h h' []:=by
 refine ts Tryz.func148 ?_ (args:=[p,x]);refine(Sp.refl h).boxed λg j f=>?_;refine f.boxed λa2 i a=>?_;have e:=d.len;refine⟨x.1,(a.box 1 i4).cell0 i4,ae (λc=>?_) λc=>?_⟩
 ·refine⟨x.1,(a.box 1 i4).cell0 i4,ae (λb=>?_) λb=>?_⟩
  ·refine⟨x.2,(a.box 1 i4).cell i4,p.2.2,(a.box 0 i4).cell i4,?_,.zip a.ac⟩;congr 1;unfold mg bJ;rw[hU (show 0<=x.1 from c),hU (show x.1<=65535 from b),e];rw[yS];simp
  ·refine⟨?_,.zip a.ac⟩;unfold mg bJ;rw[hZ (show¬x.1<=65535 from b)];simp
 ·refine⟨?_,.zip a.ac⟩;unfold mg bJ;rw[hZ (show¬0<=x.1 from c)];simp
theorem PC(p:Pm)(b:f7)(x:Int×Sl)(l:Row)(h:f9)(c:bT h b 25 [xz xF p.1,xz xF p.2.1,xz xF p.2.2])(d:Rd h x.2 1 aB l):ai xJ 147 #[xE #[xz xF x.1,x.2],xB (dB b)] h λv h'=>v=xD (!mg p (x.1,l))/\Sp h h' []:=by refine ts Tryz.func147 ?_ (args:=[x,b]);refine(Sp.refl h).boxed λa2 f a=>?_;refine⟨p,(c.ac a.ac c.lt).aE _ i4,x,(a.box 0 i4).aE _ i4,?_⟩;refine(PB p x l f (Seq.up d a.ac)).mono ?_;rintro _ g ⟨rfl,e⟩;exact⟨_,i4,i4,.zip (a.up e.ac).ac⟩
theorem PD(p:Pm)(d:f7)(l:Sl)(syms:List (Int×Row))(h:f9)(m:bT h d 25 [xz xF p.1,xz xF p.2.1,xz xF p.2.2])(r:dN ED h l syms)(A:i0 syms<=2^30):ai xJ 146 #[l,.func (.func 147) #[] #[xB (dB d)]] h λv h'=>v=xD (!syms.all (mg p))/\Sp h h' []:=by
 refine ts Tryz.func146 ?_ (args:=[l,(.func (.func 147) #[] #[xB (dB d)])]);refine(kT l (147,#[],#[xB (dB d)]) (R:=λv h'=>(∃i:Int,v=xz xF i/\(decide (i>=0)=!syms.all (mg p)))/\Sp h h' []) ?_).mono ?_
 ·skip
  obtain⟨j,s,z,y⟩:=bD.kg r;have x:=bD.len r;refine aq (λi:Nat=>(i:Int)) (λi h'=>i<=i0 syms/\(syms.take i).all (mg p)=eR/\Sp h h' []) (λi=>i0 syms-i) 0 i4 ⟨i5,jj,Sp.refl h⟩ ?_;rintro i n ⟨o,a,c⟩;refine ae (λe=>?_) (λe=>?_)
  ·have b:i<i0 syms:=i5
   obtain⟨u,w⟩:=y i i5 b;refine(Seq.up s c.ac).dY (g:=yv) i i4 i5 (j[i]'(by omega)) i4 ?_;refine eU lb ?_;refine(PC p d (j[i]'(by omega)) syms[i].2 n (m.ac c.ac m.lt) (Seq.up w c.ac)).mono ?_;rintro _ B ⟨rfl,q⟩;have k:((j[i]'(by omega)).1,syms[i].2)=syms[i]:=by rw[u]
   rw[k];refine⟨_,i4,aU (λf=>?_) λf=>?_⟩
   ·refine⟨⟨i,i4,?_⟩,c.up q.ac⟩;rw[hU (show(i:Int)>=0 by omega)];have:syms.all (mg p)=eS:=List.all_eq_false.2 ⟨_,qf b,o7⟩;rw[this];rfl
   ·refine⟨i+1,j0,⟨i5,?_,c.up q.ac⟩,i5⟩;rw[aD _ _ b,List.all_append,a];simpa using f
  ·refine⟨⟨-1,i4,?_⟩,c⟩;rw[qg i5]at a;rw[a];rfl
 ·rintro _ n ⟨⟨i,rfl,o⟩,t⟩;exact⟨i,i4,by rw[o],t⟩
theorem WQ(l:Sl)(syms:List (Int×Row))(h:f9)(j:dN ED h l syms)(D:i0 syms<=2^30):ai xJ 150 #[l] h λv h'=>∃r:Sl,v=r/\Sp h h' [an 3 r 1 az (syms.map qL)]:=by
 refine ts Tryz.func150 ?_ (.two .n (.two .n (.two (.two .n (.inn (.loop [(3,cF),(8,aT)] [(3,4),(5,6),(8,18)] .n))) .n)));obtain⟨c,m,x,w⟩:=bD.kg j;have u:=bD.len j;refine aq (λt:Nat×Sl=>(t.2,(t.1:Int))) (λt h'=>t.1<=i0 syms/\Sp h h' [an 3 t.2 1 az ((syms.take t.1).map qL)]) (λt=>i0 syms-t.1) (0,⟨eH,0,0⟩) i4 ⟨jj,(Sp.refl h).nil 3 1 az⟩ ?_;rintro⟨i,o⟩ z ⟨A,d⟩;dsimp only at*;refine ae (λe=>?_) (λe=>?_)
 ·have b:i<i0 syms:=i5
  obtain⟨s,B⟩:=w i i5 b;refine(Seq.up m d.ac).dY (g:=yv) i i4 i5 (c[i]'(by omega)) i4 ?_;refine d.alloc ag i4 λa E q=>?_;refine q.storeAll ag 1 i4 i4 (yv (c[i]'(by omega))) i4 i4 i4 i4 λh3 f=>?_;refine⟨(c[i]'(by omega)).1,(f.box 1 i4).cell0 i4,?_⟩;refine f.push ag 0 i4 gy i4 i6 (λ_=>rfl) fx (c[i]'(by omega)).1 i4 i6 i9 λp y k=>?_;refine⟨(i+1,p),js,⟨i7,?_⟩,i7⟩
  try dsimp only
  rw[aD _ _ b,qT];rw[s]at k;exact k.bX [0]
 ·have:i=i0 syms:=i5
  subst this;rw[qU]at d;exact⟨o,i4,d⟩
theorem Zu{B:ak}{q h:f9}{As:List HP}(f b:Sl)(d c:Row)(H:aa B q h (an 5 b 1 aB c::As))(t:St B q As λh=>Rd h f 1 aB d)
  (F:i0 d=i0 c) (I:i0 d<=2^30) {K:f9->Prop} (z:∀h',aa B q h' (an 5 b 1 aB (cK 1 d c)::As)->K h'):
  gm (σ:=Int) (λa G g=>
 Br (decide (a<((f.len:Nat):Int)))
 (∃j:f7,(f.ptr=dB j/\0<=a/\a<((f.len:Nat):Int))/\
 ∃n:Int,f8 g (j.add (a.toNat*1))=dB (xz xG n)/\
 ∃i:f7,(b.ptr=dB i/\0<=a/\a<((b.len:Nat):Int))/\
 ∃o:Int,f8 g (i.add (a.toNat*1))=dB (xz xG o)/\
 ∃a28:f7,(b.ptr=dB a28/\0<=a/\a<((b.len:Nat):Int))/\
 aj xJ (qE 5 (xB (dB (a28.add (a.toNat*1)))) (xz xG (qe xG ((qN (qG xG) o^^^(qN (qG xG) n)).toNat:Nat)))) g λ_ s=>
 G (qe xF (a+(1:Int))) s) (K g)) (0:Int) h:=by
 have E:f.len=i0 d:=(t.at [an 5 b 1 aB c] H).len;refine aq (λk:Nat=>(k:Int)) (λk h'=>k<=i0 d/\aa B q h' (an 5 b 1 aB (za (λx y=>y^^^x) (d.take k) (c.take k)++c.drop k)::As)) (λk=>i0 d-k) 0 i4 ⟨i5,l4⟩ ?_;rintro k w ⟨A,p⟩;have v:=t.at [_] p;refine ae (λe=>?_) (λe=>?_)
 ·have r:k<i0 d:=i5
  have m:i0 (za (λx y=>y^^^x) (d.take k) (c.take k))=k:=i9
  have D:i0 (za (λx y=>y^^^x) (d.take k) (c.take k)++c.drop k)=i0 c:=by rw[qp,m,q7];omega
  refine v.bo k i4 r _ i4 ?_;have l:(za (λx y=>y^^^x) (d.take k) (c.take k)++c.drop k)[k]'(by omega)=c[k]:=by rw[zX i5];simp[m]
  refine(p.seq 0 i4 λ_=>rfl).bo k i4 i5 _ i4 ?_;rw[l,mz];refine p.set ag 0 i4 (λ_=>rfl) i4 k i4 i5 _ i4 i4 i4 λh3 u=>?_;rw[List.set_cons_zero,DL F]at u;exact⟨k+1,j0,⟨i5,u⟩,i5⟩
 ·have:k=i0 d:=i5
  subst this;rw[qg (qk _),qg i5,q8 i5,qH,<-QR]at p;exact z w p
theorem HQ(p:Pm)(seed:Int)(l:Sl)(syms:List (Int×Row))(h:f9)(hl:dN ED h l syms)(U:i0 syms<=2^18:=by omega):
  ai xJ 88 #[jv p,xz xH seed,l] h λv h'=>∃r:Sl,v=.tuple #[r,xz xF (kZ p seed syms).2]/\Sp h h' [an 5 r 1 aB (kZ p seed syms).1]:=by
 refine ts Tryz.func88 ?_ (.two .n (.two (.join [] [(6,8),(17,25)] .n) (.two (.join [] [(6,8),(25,31)] .n) (.two .n (.two .n (.two .n (.two (.two .n (.inn (.loop [(10,cF),(43,aT)] [(10,13),(14,17),(43,81)] (.two .n (.two .n (.two (.inn (.two .n (.two .n (.two (.two .n (.inn (.loop [(54,aT)] [(14,17),(54,77)] (.two .n (.two .n (.two (.inn (.two .n (.two .n (.inn (.loop [(63,aT)] [(15,17),(63,76)] .n))))) .n)))))) .n)))) .n)))))) .n))))))) (args:=[p,(xz xH (seed:Int)),l]);refine(Sp.refl h).boxed λJ h1 H1=>?_;have k:∀{h':f9} (e:Int),Sp h h' [av J 25 [xz xF p.1,xz xF p.2.1,xz xF p.2.2]]->kZ p seed syms=([],e)->∃r:Sl,(.tuple #[xA eH 0 0,xz xF e]:Value)=.tuple #[r,xz xF (kZ p seed syms).2]/\Sp h h' [an 5 r 1 aB (kZ p seed syms).1]:=λe H' he=>by
  rw[he];exact⟨⟨eH,0,0⟩,i4,(H'.nil 5 1 aB).bX [1]⟩
 refine aO ⟨p,(H1.box 0 i4).aE _ i4,?_⟩;refine(dO p h1).mono ?_;rintro _ h2 ⟨rfl,R2⟩;have R:=H1.up R2.ac;refine⟨_,i4,aU (λe=>?_) λa=>?_⟩
 ·exact k 1 R (by unfold kZ;rw[e];rfl)
 refine(PD p J l syms h2 (R.box 0 i4) (dN.up hl R.ac) i5).mono ?_;rintro _ h3 ⟨rfl,R3⟩;have P:=R.up R3.ac;refine⟨_,i4,aU (λe=>?_) λd=>?_⟩
 ·exact k 1 P (by unfold kZ;rw[a,e];rfl)
 refine aO ⟨p,(P.box 0 i4).aE _ i4,?_⟩;refine(WQ l syms h3 (dN.up hl P.ac) i5).mono ?_;rintro _ h4 ⟨r,rfl,R4⟩;have H4:=P.comp R4;have z:=H4.box 0 i4;refine⟨r,i4,⟨z.cell0 i4,z.cell i4,z.cell i4,trivial⟩,?_⟩;refine(JY p seed r (syms.map qL) h4 (H4.seq 1 i4 λ_=>rfl) i9).mono ?_;rintro _ h5 ⟨rfl,R5⟩;have N:=(H4.up R5.ac).bX [0];refine⟨_,i4,trivial,aU (λe=>?_) λb=>?_⟩
 ·exact k 9 N (by unfold kZ;rw[a,d,e];rfl)
 have B:∀x∈syms,uJ p x:=λx g=>(NW a).1 (qK.1 d x g);have am:=(bN p).1 a;have ay:=nG a;have hr:bL (dE p seed (syms.map qL))=(bu p).toNat:=by have:=b;unfold fq mM at this;rw[a]at this;simp at this;omega
 refine⟨p,(N.box 0 i4).aE _ i4,?_⟩;refine(Zt p seed l syms (bu p).toNat p.2.2.toNat h5 (dN.up hl N.ac) a B i4 i4 U hr).mono ?_;rintro _ h6 (⟨hc,m,rfl,R6⟩|⟨hc,rfl,R6⟩)
 rotate_left
 ·refine⟨(⟨eH,0,0⟩,10),i4,bz (λ_=>k 10 (N.up R6.ac) ?_) λe=>absurd e i6⟩;unfold kZ;rw[a,d,b,g9 hc];rfl
 refine⟨(m,0),i4,bz (λe=>absurd i4 e) λ_=>?_⟩;obtain⟨X,hX⟩:∃X,X=gg (bu p).toNat (dE p seed (syms.map qL)) (py p syms):=⟨_,rfl⟩
 have M:kZ p seed syms=(rY p seed X p.1.toNat,0):=by unfold kZ;rw[a,d,b,g0 hc,hX];rfl
 have S:aQ p.2.2.toNat (py p syms):=λx g=>by
  rcases qw.1 g with g|g
  ·rw[(w6.1 g).2];simp[aG]
  ·obtain⟨y,hy,rfl⟩:=qo.1 g;exact(B y hy).len
 have ab:i0 (dE p seed (syms.map qL))=i0 (py p syms):=by rw[<-Sx (n:=(bu p).toNat) (seed:=seed) a i4 B,<-Sy (n:=(bu p).toNat) (seed:=seed) (p:=p) (l:=syms) rfl];exact sP
 obtain⟨F,s⟩:=sO ab (jr p seed _) S hr;rw[<-hX]at R6 F s;have H6:=(N.comp R6).Lf 1 i4;obtain⟨Q,O⟩:=aa.IB H6 1 rfl λ_=>rfl;have ar:=(O.eu 1 i4).1.len;have ad:=(O.eu 1 i4).2.1;refine⟨p.1,(O.box 0 i4).cell0 i4,?_⟩;rw[M];have L:Sp h h6 [an 5 ⟨eH,0,0⟩ 1 aB [],av J 25 [xz xF p.1,xz xF p.2.1,xz xF p.2.2],cJ (cw 1 aB) 1 bi m Q X]:=(O.nil 5 1 aB).bX [2,0,1];have K:∀j:Nat,i0 (fS p.2.2.toNat X (cW (bu p).toNat seed (j:Int)))=p.2.2.toNat:=λj=>Qv s F λx g=>mj i5 i5 g;have H:∀i,i0 (rY p seed X i)=i*p.2.2.toNat:=λi=>by
  induction i with
  |zero=>simp[rY]
  |succ i ih=>rw[Ku,qp,ih,K,zI]
 refine aq (λt:Nat×Sl=>(t.2,(t.1:Int))) (λt h'=>t.1<=p.1.toNat/\Sp h h' [an 5 t.2 1 aB (rY p seed X t.1),av J 25 [xz xF p.1,xz xF p.2.1,xz xF p.2.2],cJ (cw 1 aB) 1 bi m Q X]) (λt=>p.1.toNat-t.1) (0,⟨eH,0,0⟩) i4 ⟨i5,by simpa[rY]using L⟩ ?_;rintro⟨i,o⟩ h8 ⟨hi,L⟩;dsimp only at*;refine ae (λe=>?_) (λe=>?_)
 ·have ao:i<p.1.toNat:=i5
  refine⟨p.2.2,(L.box 1 i4).cell i4,?_⟩;refine L.make ag aB gp i6 0 i4 i4 p.2.2.toNat p.2.2.toNat i5 i5 (qk _) i5 λsm h9 _ _ H9=>?_;refine⟨p,(H9.box 1 i4).aE _ i4,(uM p seed (i:Int) h9).mono ?_⟩;rintro _ a0 ⟨c,rfl,A⟩;have V:(bx p&&bJ (i:Int))=eR:=by rw[a];unfold bJ;simp;omega
  rw[V,g0 rfl]at A;have w:=(H9.comp A).bX [3,0,1,2,4];refine⟨c,i4,?_⟩;generalize E:cW (bu p).toNat seed (i:Int)=cs at w A;have u:∀x∈cs,0<=x/\x<((bu p).toNat:Int):=λx g=>mj i5 i5 (E▸g);have ah:i0 cs<=20:=by have:=ux (n:=(bu p).toNat) i5 i5 seed (i:Int);rw[E]at this;omega
  have al:=(w.own 4 i4).len;refine aq (λj:Nat=>(j:Int)) (λj h'=>j<=i0 cs/\Sp h h' [an 5 sm 1 aB (fS p.2.2.toNat X (cs.take j)),an 5 o 1 aB (rY p seed X i),av J 25 [xz xF p.1,xz xF p.2.1,xz xF p.2.2],cJ (cw 1 aB) 1 bi m Q X,an 3 c 1 az cs]) (λj=>i0 cs-j) 0 i4 ⟨i5,w⟩ ?_;rintro j ap ⟨hj,f⟩;have I:=oz s F u j hj;refine ae (λe2=>?_) (λe2=>?_)
  ·have D:j<i0 cs:=i5
   have ax:=u _ (qf D);refine(f.seq 4 i4 λ_=>rfl).bo j i4 D _ i4 ?_;have q:cs[j].toNat<i0 X:=i5
   refine(f.eu 3 i4).1.lr cs[j].toNat i5 i5 ?_;have Y:i0 (X[cs[j].toNat]'q)=p.2.2.toNat:=s _ (qf _);refine Zu (Q[cs[j].toNat]'(by omega)) sm (X[cs[j].toNat]'q) _ f (St.mk' λh' H'=>Fix.row (H'.eu 2 i4) q) (by rw[Y,I]) i5 λT G=>?_;refine⟨j+1,j0,⟨i5,?_⟩,i5⟩;rw[aD _ _ D,AS,lX q];exact G
  ·have W:j=i0 cs:=i5
   subst W;rw[qU]at f I;refine f.append ag 1 i4 gp Ni i4 i6 (λ_=>rfl) (f.seq 0 i4 λ_=>rfl) gJ (by rw[H,I];have:i*p.2.2.toNat<=16*24:=wi i5 i5;omega) λo' T G=>?_;refine⟨(i+1,o'),js,⟨i7,?_⟩,i7⟩
   try dsimp only
   rw[Ku,E];exact G.bX [1,2,3]
 ·have Z:i=p.1.toNat:=i5
  subst Z;exact⟨o,i4,L.bX [0]⟩
variable {p:Int×Int×Int} {seed:Int} {d:Row} {K H w n:Nat}
def lG(p:Int×Int×Int)(seed:Int)(X:aI)(ids:au):List (Int×Row):=ids.map λi=>(i,fS p.2.2.toNat X (cW (bu p).toNat seed i))
theorem bU.size(B:bU p seed d K H w n):p.2.2.toNat=w:=by have:=B.s;omega
theorem FY(X:aI)(ids:au):(lG p seed X ids).map qL=ids:=by simp[lG,w5,Function.comp_def]
theorem bU.NX(B:bU p seed d K H w n){ids:au}(hid:∀i∈ids,bJ i=eR):(lG p seed (dj p seed d) ids).all (mg p)=eR:=qK.2 λx a=>by
 obtain⟨i,b,rfl⟩:=qo.1 a;refine(NW B.may).2 ⟨hid i b,?_⟩
 try dsimp only
 rw[B.size,B.oA];exact B.UT i
theorem HR{α β:Type}{f g:α->List β}:∀(l:List α),(∀x∈l,f x=g x)->l.flatMap f=l.flatMap g
 |[],_=>rfl
 |a::l,h=>by rw[zd,zd,h a jj,HR l λx b=>h x n5]
theorem Kv(d:Row)(w:Nat):∀i,i*w<=i0 d->(qt i).flatMap (Qw.Cn d w)=d.take (i*w)
 |0,_=>jj
 |i+1,h=>by
  have e:(i+1)*w=i*w+w:=zI i w;rw[zL,zf,Kv d w i i5,e,List.take_add];simp[Qw.Cn]
theorem bU.out(B:bU p seed d K H w n):rY p seed (dj p seed d) p.1.toNat=d:=by
 have a:p.1.toNat=K:=by have:=B.k;omega
 unfold rY;rw[a,B.size,B.oA];have:(qt K).flatMap (λj:Nat=>fS w (dj p seed d) (cW n seed (j:Int)))=(qt K).flatMap (Qw.Cn d w):=by exact HR _ λj b=>B.Ym (qA.1 b)
 rw[this,Kv d w K (by rw[B.len];exact qk _),qg (by rw[B.len];exact qk _)]
theorem bU.WR(B:bU p seed d K H w n){ids:au}(hid:∀i∈ids,bJ i=eR):Qw.fD n w (dE p seed ids) (py p (lG p seed (dj p seed d) ids)) (dj p seed d):=by
 have o:ids.filter bJ=ids:=wD.2 hid;have j:dE p seed ids=bn K H++ids.map (mq n seed):=by
  unfold dE;rw[B.may,g0 i4,o,B.oA];have m:p.1.toNat=K:=by have:=B.k;omega
  have e:p.2.1.toNat=H:=by have:=B.h;omega
  rw[m,e]
 have l:py p (lG p seed (dj p seed d) ids)=qh H (aG w)++ids.map λi=>fS w (dj p seed d) (cW n seed i):=by
  unfold py lG;have e:p.2.1.toNat=H:=by have:=B.h;omega
  rw[e,B.size,B.oA,w5];rfl
 refine⟨B.nh.1,B.nh.2,λi g=>?_⟩;rw[j]at g⊢;rw[l];have b:i0 (bn K H)=H:=by simp[bn]
 simp only[qp,qy,b]at g;by_cases a:i<H
 ·have f:aA (bn K H++ids.map (mq n seed)) i=lx K H i:=by rw[bm i9,w4 i5];simp[bn]
  have c:aA (qh H (aG w)++ids.map λi=>fS w (dj p seed d) (cW n seed i)) i=aG w:=by rw[bm i9,w4 j9];simp
  rw[f,c];exact B.low a
 ·have f:aA (bn K H++ids.map (mq n seed)) i=mq n seed (ids[i-H]'(by omega)):=by rw[bm i9,zX i5];simp[b]
  have c:aA (qh H (aG w)++ids.map λi=>fS w (dj p seed d) (cW n seed i)) i=fS w (dj p seed d) (cW n seed (ids[i-H]'(by omega))):=by rw[bm i9,zX j9];simp
  rw[f,c,B.sym]
theorem WS{l:List (Int×Row)}(c:∀x∈l,uJ p x):aQ p.2.2.toNat (py p l):=λx a=>by
 rcases qw.1 a with a|a
 ·rw[(w6.1 a).2];simp[aG]
 ·obtain⟨y,b,rfl⟩:=qo.1 a;exact(c y b).len
theorem PE(a:bx p=eR){l:List (Int×Row)}(b:∀x∈l,uJ p x):i0 (dE p seed (l.map qL))=i0 (py p l):=by rw[<-Sx (n:=(bu p).toNat) (seed:=seed) a i4 b,<-Sy (n:=(bu p).toNat) (seed:=seed) (p:=p) (l:=l) rfl];exact sP
theorem DQ(a:bx p=eR){ids:au}:fq p seed ids=eR↔bL (dE p seed ids)=(bu p).toNat:=by have:=nG a;have:=(bN p).1 a;unfold fq mM;rw[a,zS];simp;omega
theorem bU.dec(B:bU p seed d K H w n){ids:au}(hid:∀i∈ids,bJ i=eR)(e:fq p seed ids=eR):kZ p seed (lG p seed (dj p seed d) ids)=(d,0):=by have a:∀x∈lG p seed (dj p seed d) ids,uJ p x:=λx f=>(NW B.may).1 (qK.1 (B.NX hid) x f);have g:=B.WR hid;have b:=PE (seed:=seed) B.may a;rw[FY]at b;have h:=(DQ B.may).1 e;have c:=lA b (jr p seed ids) (WS a) h (by rw[B.oA,B.size];exact g);unfold kZ;rw[B.may,B.NX hid,FY,e];simp only[Bool.and_self,if_true];rw[g0 c.2,<-c.1,B.out]
theorem Zv(a:bx p=eR){l:List (Int×Row)}(b:l.all (mg p)=eR)(c:fq p seed (l.map qL)=eS):kZ p seed l=([],9):=by unfold kZ;rw[a,b,c];rfl
theorem PF{n:Nat}{A:aI}(o:aQ n A)(d:bL A=n){y:Nat->UInt8}(u:∀r∈A,bI (λj=>aJ r j) y n=0):∀i,i<n->y i=0:=by
 intro i p;let Y:aI:=(qt n).map λc=>[y c]
 have l:aQ 1 (qh A.length (aG 1)):=λr d=>by rw[(w6.1 d).2];rfl
 have a:i0 A=i0 (qh A.length (aG 1)):=jj
 have e:∀j,j<i0 A->aA (qh A.length (aG 1)) j=aG 1:=λj g=>by rw[bm l7];simp
 have f:∀z:Nat->UInt8,(∀r∈A,bI (λj=>aJ r j) z n=0)->fD n 1 A (qh A.length (aG 1)) ((qt n).map λc=>[z c]):=λz s=>by
  have b:aQ 1 ((qt n).map λc=>[z c]):=λr d=>by obtain⟨c,_,rfl⟩:=qo.1 d;rfl
  refine⟨jj,b,λj g=>?_⟩;rw[e j g];refine eE (n:=1) (ir b jj _ n (qk _)) i4 λk w=>?_;obtain rfl:k=0:=i5
  rw[gN b jj _ 0 n (qk _),cg,<-s _ (mem_row g)];refine fY n (λ_ _=>rfl) λc q=>?_;rw[bm pb];simp[aJ]
 have t:=(lA a o l d (f (λ_=>0) λr _=>dot_zero' r n)).1;have v:=(lA a o l d (f y u)).1;have h:aJ (aA ((qt n).map λc=>[y c]) i) 0=aJ (aA ((qt n).map λ_=>[(0:UInt8)]) i) 0:=congrArg (λm=>aJ (aA m i) 0) (v.trans t.symm);rw[bm sb,bm sb]at h;simpa[aJ]using h
where
 dot_zero' (r:Row):∀n,bI (λj=>aJ r j) (λ_=>(0:UInt8)) n=0
  |0=>rfl
  |n+1=>by rw[bI,dot_zero' r n,Gf.mul_zero];rfl
theorem ach{ids c:au}(h:∀i∈ids,i∈c):∀r∈dE p seed ids,r∈dE p seed c:=λr a=>by
 unfold dE at*;cases hm:bx p
 ·rw[hm]at a;simp at a
 ·rw[hm,g0 rfl,qw]at a;rw[g0 i4,qw];rcases a with a|a
  ·exact .inl a
  ·obtain⟨i,b,rfl⟩:=qo.1 a;rw[qC]at b;exact .inr (qo.2 ⟨i,qC.2 ⟨h i b.1,b.2⟩,i4⟩)
theorem Kw(d:bx p=eR){ids a:au}(h:∀i∈ids,i∈a)(k:fq p seed ids=eR):fq p seed a=eR:=by
 have c:=(DQ d).1 k;refine(DQ d).2 ?_;have g:=kR (jr p seed a);by_cases b:bL (dE p seed a)<(bu p).toNat
 ·exfalso;obtain⟨y,⟨i,f,e⟩,j⟩:=kernel (jr p seed a) b;exact e (PF (jr p seed ids) c (λr c=>j r (ach h r c)) i f)
 ·omega
theorem lm(a b:cP):mL a b=eR↔a.object=b.object/\a.block=b.block/\a.id=b.id:=by unfold mL;rw[decide_eq_true_eq]
theorem QU{l:List cP}{i:Nat}(a:i<i0 l)(b:pU l i=eR):l[i]∈pu l:=by unfold pu;exact qo.2 ⟨i,qC.2 ⟨qA.2 a,b⟩,fh _ a⟩
theorem Zw{l:List cP}{r:cP}(h:r∈l):∃b∈pu l,mL b r=eR:=by
 have e:∀i (a:i<i0 l),∃b∈pu l,mL b l[i]=eR:=by
  intro i
  induction i with
  |zero=>intro a;exact⟨l[0],QU a (by unfold pU;simp),(lm _ _).2 ⟨i4,i4,i4⟩⟩
  |succ i ih=>
   intro a;cases hk:pU l (i+1)with
   |true=>exact⟨_,QU a hk,(lm _ _).2 ⟨i4,i4,i4⟩⟩
   |false=>
    obtain⟨b,f,d⟩:=ih i5;unfold pU at hk;rw[Bool.or_eq_false_iff,Bool.not_eq_false']at hk;have c:=hk.2;rw[Nat.add_sub_cancel,fh _ a,fh _ (show i<i0 l by omega)]at c;rw[lm]at d c;exact⟨b,f,(lm _ _).2 ⟨by rw[d.1,c.1],by rw[d.2.1,c.2.1],by rw[d.2.2,c.2.2]⟩⟩
 obtain⟨i,a,rfl⟩:=qD h;exact e i a
theorem gY{m:aw}{r:cP}:dz m r=eR↔iR r=eR/\r.p=m.p/\∃x∈m.objs,x.object=r.object/\r.block<(x.tries.length:Int)/\r.seed=cb r.object r.block (x.tries.getD r.block.toNat 0):=by unfold dz;rw[qu,qu,decide_eq_true_eq,zY];simp only[qu,decide_eq_true_eq]
theorem NY{m:aw}(f:bp m=eR){x y:Qw.ci}(e:x∈m.objs)(d:y∈m.objs)(h:x.object=y.object):x=y:=by
 have a:=zj.1 ((cv m).1 f).2.2.2.2.2.2;obtain⟨i,b,rfl⟩:=qD e;obtain⟨j,c,rfl⟩:=qD d;rcases yd i j with hl|rfl|hl
 ·exact absurd h (a i j b c hl)
 ·rfl
 ·exact absurd h.symm (a j i c b hl)
theorem WT{m:aw}(f:bp m=eR){x y:Qw.ci}(e:x∈m.objs)(d:y∈m.objs)(h:x.name=y.name):x=y:=by
 have a:=zj.1 ((cv m).1 f).2.2.2.2.2.1;obtain⟨i,b,rfl⟩:=qD e;obtain⟨j,c,rfl⟩:=qD d;rcases yd i j with hl|rfl|hl
 ·exact absurd h (DA (a i j b c hl))
 ·rfl
 ·exact absurd h.symm (DA (a j i c b hl))
def fL(m:aw)(C:Int->aM)(o b:Int):aM:=(splitB m.p (C o)).getD b.toNat []
def By(m:aw)(C:Int->aM)(r:cP):Prop:=r.data=rU m.p r.seed (fL m C r.object r.block) r.id
theorem Zx{m:aw}{C:Int->aM}{r a:cP}(s:bp m=eR)(o:dz m r=eR)(v:dz m a=eR)(f:By m C r)(h:By m C a)(g:mL a r=eR):a=r:=by
 obtain⟨_,l,j,d,i,_,k⟩:=gY.1 o;obtain⟨_,p,x2,c,w,_,u⟩:=gY.1 v;rw[lm]at g;obtain⟨b,e,q⟩:=g;have n:j=x2:=NY s d c (by rw[i,w,b]);subst n;have t:a.seed=r.seed:=by rw[k,u,b,e]
 unfold By at f h;cases r;cases a;simp only at*;subst b e q t;rw[l,p,f,h]
structure dv (m:aw) (C:Int->aM) (c:aM):Prop where
 old:∀r,dg c=dB r->r.object<m.next
 tru:∀r,dg c=dB r->dz m r=eR->By m C r
 page:∀g,lO c=dB g->g.seq<=m.seq/\(g.seq=m.seq->c∈aX m)
theorem pJ{m:aw}{C:Int->aM}{l:bY}(n:bp m=eR)(i:∀c∈l,dv m C c){c:aM}(j:c∈l){r:cP}(g:dg c=dB r)(d:dz m r=eR):r∈fp m l:=by have a:r∈(l.filterMap (jg m)).mergeSort oZ:=List.mem_mergeSort.2 (List.mem_filterMap.2 ⟨c,j,by unfold jg;rw[g];(try dsimp only);rw[g0 d]⟩);obtain⟨h,k,o⟩:=Zw a;obtain⟨p,e,f,b⟩:=sE (m:=m) (l:=l) (r:=h) k;have:=Zx n d b ((i c j).tru r g d) ((i p e).tru h f b) o;rw[<-this];exact k
theorem lp{m:aw}{l:bY}{r:cP}(h:r∈fp m l):cT r∈l/\dg (cT r)=dB r/\dz m r=eR:=by obtain⟨c,b,a,d⟩:=sE h;rw[(Sa a).1];exact⟨b,a,d⟩
theorem EE{n:aw}(C:Int->aM){c:aM}(e:bp n=eR)(h:c∈aX n):dv n C c:=by
 have h0:=ni h;refine⟨λr a=>(by rw[h0]at a;cases a),λr a _=>(by rw[h0]at a;cases a),λg b=>?_⟩;rw[Kn]at h;obtain⟨i,d,rfl⟩:=qo.1 h;rw[Tu e (qA.1 d)]at b;injection b with b
 subst b;exact⟨Int.le_refl _,λ_=>by rw[Kn];exact qo.2 ⟨i,d,i4⟩⟩
theorem Jf{m:aw}{C:Int->aM}{l:bY}(a:bp m=eR)(b:∀c∈l,dv m C c):∀c∈bW m l,dv m C c:=λc d=>by
 rcases qw.1 d with h|h
 ·exact EE C a h
 ·obtain⟨r,e,rfl⟩:=qo.1 h;exact b _ (lp e).1
theorem Jg{m:aw}{C:Int->aM}{d:aW}{N:Int}(e:bp m=eR)(b:∀c∈d.l,dv m C c):∀c∈(cN m d N).l,dv m C c:=λc a=>by
 unfold cN at a;split at a
 ·exact b c a
 ·exact Jf e b c a
theorem Zy{m:aw}{C:Int->aM}{d:aW}{N:Int}(e:bp m=eR)(f:∀c∈d.l,dv m C c){r:cP}(a:cT r∈d.l)(b:dg (cT r)=dB r)(g:dz m r=eR):cT r∈(cN m d N).l:=by
 unfold cN;split
 ·exact a
 ·exact zP _ (qo.2 ⟨r,pJ e f a b g,i4⟩)
theorem HS{r:cP}(h:iR r=eR):lO (cT r)=eH:=by
 have a:=nQ h;unfold lO cT;rw[g0 h,uA]
 try dsimp only
 rw[g9 (by rintro⟨h,_⟩;exact absurd h i6)]
theorem HT{m n:aw}{C D:Int->aM}{o b:Int}(a:n.p=m.p)(h:D o=C o):fL n D o b=fL m C o b:=by unfold fL;rw[a,h]
theorem By.congr{m n:aw}{C D:Int->aM}{r:cP}(a:n.p=m.p)(b:D r.object=C r.object)(h:By m C r):By n D r:=by unfold By at h⊢;rw[HT a b,a];exact h
theorem TL{m n:aw}{r:cP}(b:n.p=m.p)(a:∀x∈n.objs,x∈m.objs)(h:dz n r=eR):dz m r=eR:=by obtain⟨e,d,x,c,h3⟩:=gY.1 h;exact gY.2 ⟨e,by rw[d,b],x,a x c,h3⟩
theorem dv.next{m n:aw}{C:Int->aM}{c:aM}(h:dv m C c)(d:n.p=m.p)(j:m.next<=n.next)(k:m.seq<n.seq)(a:∀x∈n.objs,x∈m.objs):dv n C c:=
 ⟨λr b=>by have:=h.old r b;omega,λr b i=>(h.tru r b (TL d a i)).congr d i4,λg f=>by have:=(h.page g f).1;exact⟨i5,λe=>i5⟩⟩
def ig(C:Int->aM)(o:Int)(b:aM):Int->aM:=λk=>if k=o then b else C k
theorem dv.with{m:aw}{C:Int->aM}{e:Qw.ci}{b c:aM}(h:dv m C c)(o:e.object=m.next):dv (dh m e) (ig C m.next b) c:=by
 refine⟨λr a=>?_,λr a f=>?_,λg j=>?_⟩
 ·have:=h.old r a;show r.object<m.next+1;omega
 ·have k:=h.old r a;obtain⟨l,n,x,d,h3,i⟩:=gY.1 f;rcases kE.1 d with d|rfl
  ·refine(h.tru r a (gY.2 ⟨l,n,x,d,h3,i⟩)).congr (m:=m) i4 ?_;unfold ig;rw[g9 i5]
  ·omega
 ·have:=(h.page g j).1;show g.seq<=m.seq+1/\(g.seq=m.seq+1->_)
  exact⟨i5,λe=>i5⟩
theorem aer{m:aw}{C:Int->aM}{e:Qw.ci}{b:aM}{seed:Int}{i id:Nat}(d:0<=seed/\seed<4294967296)(c:iR (kW m m.next i seed ((splitB m.p b).getD i []) id)=eR):
  dv (dh m e) (ig C m.next b) (cT (kW m m.next i seed ((splitB m.p b).getD i []) id)):=by
 have a:=nR c d;refine⟨λr h=>?_,λr h j=>?_,λg h=>?_⟩
 ·rw[a]at h;injection h with h;subst h
  show m.next<m.next+1;omega
 ·rw[a]at h;injection h with h;subst h
  have f:fL (dh m e) (ig C m.next b) m.next (i:Int)=(splitB m.p b).getD i []:=by unfold fL ig;rw[g0 i4,qj];rfl
  show rU m.p seed ((splitB m.p b).getD i []) id=rU (dh m e).p seed (fL (dh m e) (ig C m.next b) m.next (i:Int)) id;rw[f];rfl
 ·rw[HS c]at h;cases h
structure dX (m:aw) (C:Int->aM) (ds:aC):Prop where
 may:bp m=eR
 len:ds.length=64
 cells:∀k d,aS ds k=dB d->∀c∈d.l,dv m C c
 ents:∀e∈m.objs,((C e.object).length:Int)=e.length/\cA m.p e.object (splitB m.p (C e.object)).length=dB e.tries
theorem dX.old{m:aw}{C:Int->aM}{ds:aC}(S:dX m C ds){e:Qw.ci}(a:e∈m.objs):e.object<m.next:=((iS m e).1 (((cv m).1 S.may).2.2.2.2.1 e a)).2.1.2
theorem FZ{ds b:aC}{f:Int->aW->aW}(h:∀k,aS b k=(aS ds k).map (f k)){k:Int}{d:aW}(a:aS b k=dB d):∃c,aS ds k=dB c/\d=f k c:=by
 rw[h]at a;cases h0:aS ds k with
 |none=>rw[h0]at a;cases a
 |some c=>rw[h0]at a;injection a with a;exact⟨c,i4,a.symm⟩
theorem QV{n:aw}{C:Int->aM}{a:bY}{d:aW}(f:∀c∈d.l,dv n C c)(e:∀c∈a,dv n C c):∀c∈(fd a d).l,dv n C c:=λc b=>by
 rw[Nz]at b;rcases qw.1 b with h|h
 ·exact f c h
 ·exact e c h
def oU(m:aw)(ds:aC)(t:au)(b:aM)(n:aw)(k:Int)(d:aW):aW:=
 if k∈aN ds m.drives then fd ((iw m m.next t (splitB m.p b) (aN ds m.drives) k (splitB m.p b).length).map cT++aX n) (cN m d (jm (aX n).length (dF m m.next t (splitB m.p b) (aN ds m.drives) (splitB m.p b).length) k))else d
theorem Jh{m:aw}{offs:Int}{w:Pow}{ds:aC}{C:Int->aM}{name:ByteArray}{b:aM}(B:w.calm)(S:dX m C ds):
  ((∃e,e≠0/\cY m offs w ds name b=(e,m,w,ds))/\((cY m offs w ds name b).1=de m (dn w offs) ds name b.length∨(de m (dn w offs) ds name b.length=0/\((cY m offs w ds name b).1=8/\cA m.p m.next (splitB m.p b).length=eH∨(cY m offs w ds name b).1=7/\∃t,cA m.p m.next (splitB m.p b).length=dB t/\dm m ds (aN ds m.drives) (jm (aX (dh m ⟨name,m.next,b.length,t⟩)).length (dF m m.next t (splitB m.p b) (aN ds m.drives) (splitB m.p b).length))=eS))))∨
  (de m (dn w offs) ds name b.length=0/\∃t a,cA m.p m.next (splitB m.p b).length=dB t/\cY m offs w ds name b=(0,dh m ⟨name,m.next,b.length,t⟩,w,a)/\dX (dh m ⟨name,m.next,b.length,t⟩) (ig C m.next b) a/\
   ∀k,aS a k=(aS ds k).map (oU m ds t b (dh m ⟨name,m.next,b.length,t⟩) k)):=by
 obtain⟨x,u⟩:=Kh (offs:=offs) (name:=name) (b:=b) B S.len S.may;by_cases f:de m (dn w offs) ds name b.length=0
 ·obtain⟨I,F⟩:=u f;cases ht:cA m.p m.next (splitB m.p b).length with
  |none=>rw[I ht];exact .inl ⟨⟨8,i6,i4⟩,.inr ⟨f,.inl ⟨i4,i4⟩⟩⟩
  |some t=>
   obtain⟨j,G,H⟩:=F t ht;cases hf:dm m ds (aN ds m.drives) (jm (aX (dh m ⟨name,m.next,b.length,t⟩)).length (dF m m.next t (splitB m.p b) (aN ds m.drives) (splitB m.p b).length))with
   |false=>rw[G hf];exact .inl ⟨⟨7,i6,i4⟩,.inr ⟨f,.inr ⟨i4,t,i4,hf⟩⟩⟩
   |true=>
    obtain⟨a,z,v,D⟩:=H hf;have l:∀k,aS a k=(aS ds k).map (oU m ds t b (dh m ⟨name,m.next,b.length,t⟩) k):=D;refine .inr ⟨f,t,a,i4,z,⟨j,v,λk d A=>?_,λe n=>?_⟩,l⟩
    ·obtain⟨s,h0,rfl⟩:=FZ l A;unfold oU;split
     ·refine QV (λc g=>(Jg S.may (S.cells k s h0) c g).with i4) λc g=>?_;rcases qw.1 g with h|h
      ·obtain⟨r,q,rfl⟩:=qo.1 h;obtain⟨i,id,rfl,E,hid⟩:=Hy q;obtain⟨J,K,z3,z4,z5⟩:=jO f;have o:=((dZ m).1 ((cv m).1 S.may).1)
       have h8:=Ap o.2.2.1 λh=>z4 (.inl h);exact aer (jy _ _ _) (IX S.may (by have:¬16777215<m.next:=λh=>z5 (.inr (.inl h));omega) h8 ht E hid)
      ·exact EE _ j h
     ·exactλc g=>(S.cells k s h0 c g).with i4
    ·rcases kE.1 n with n|rfl
     ·have y:=S.old n;have:ig C m.next b e.object=C e.object:=by unfold ig;rw[g9 i5]
      rw[this];exact S.ents e n
     ·have:ig C m.next b m.next=b:=by unfold ig;rw[g0 rfl]
      show((ig C m.next b m.next).length:Int)=(b.length:Int)/\cA m.p m.next (splitB m.p (ig C m.next b m.next)).length=dB t;rw[this];exact⟨i4,ht⟩
 ·rw[x f];exact .inl ⟨⟨_,f,i4⟩,.inl i4⟩
theorem TM{m n:aw}{offs:Int}{w:Pow}{ds:aC}{C:Int->aM}(D:w.calm)(S:dX m C ds)(E:dn w offs=eS)(o:bp n=eR)(F:n.seq=m.seq+1)(l:n.p=m.p)(r:m.next<=n.next)(b:∀x∈n.objs,x∈m.objs):
  ((aN ds n.drives=[]∨dm m ds (aN ds n.drives) (λ_=>(i0 (aX n):Int))=eS)/\cR m offs w ds n=(7,m,w,ds))∨
  ((aN ds n.drives≠[]/\dm m ds (aN ds n.drives) (λ_=>(i0 (aX n):Int))=eR)/\∃a,cR m offs w ds n=(0,n,w,a)/\dX n C a/\
   ∀k,aS a k=(aS ds k).map λd=>if k∈aN ds n.drives then fd (aX n) (cN m d (aX n).length)else d):=by
 obtain⟨A,v⟩:=NJ (m:=m) (n:=n) (offs:=offs) (w:=w) (ds:=ds) D S.len E o F;by_cases i:aN ds n.drives=[]∨dm m ds (aN ds n.drives) (λ_=>(i0 (aX n):Int))=eS
 ·exact .inl ⟨i,A i⟩
 ·have u:aN ds n.drives≠[]:=λh=>i (.inl h);have q:dm m ds (aN ds n.drives) (λ_=>(i0 (aX n):Int))=eR:=by
   cases h:dm m ds (aN ds n.drives) (λ_=>(i0 (aX n):Int))with
   |false=>exact absurd (.inr h) i
   |true=>rfl
  obtain⟨a,B,z,t⟩:=v u q;refine .inr ⟨⟨u,q⟩,a,B,⟨o,z,λk d j=>?_,λe y=>?_⟩,t⟩
  ·obtain⟨s,h0,rfl⟩:=FZ (f:=λk d=>if k∈aN ds n.drives then fd (aX n) (cN m d (aX n).length)else d) t j;split
   ·exact QV (λc g=>(Jg S.may (S.cells k s h0) c g).next l r i5 b) λc g=>EE C o g
   ·exactλc g=>(S.cells k s h0 c g).next l r i5 b
  ·have:=S.ents e (b e y);rw[l];exact this
def mU(p:Int×Int×Int)(a:bY)(n:Int):aM:=if bx p=eR/\0<=n/\(i0 a:Int)=countP p n/\(a.all λx=>decide (i0 x=dJ p))=eR then a.flatten.take n.toNat else[]
noncomputable def iK(m:aw)(ds:aC)(o:Int)(tries:au)(k:Nat):aM×Int:=kZ m.p (cb o k (tries.getD k 0)) (dR m ds (aN ds m.drives) o k)
def HU(m:aw)(ds:aC)(k:Int):Bool:=match aS ds k with|some d=>iY m d.l|none=>eS
def pK(m:aw)(ds:aC):Bool:=(aN ds m.drives).any (HU m ds)
noncomputable def xQ(m:aw)(ds:aC)(e:ci):aM×Int:=
 if pK m ds=eS then([],11)else if((qt e.tries.length).all λk=>decide ((iK m ds e.object e.tries k).2=0))=eR then(mU m.p ((qt e.tries.length).map λk=>(iK m ds e.object e.tries k).1) e.length,0)else([],11)
noncomputable def ij(m:aw)(offs:Int)(w:Pow)(ds:aC)(name:ByteArray):aM×Int:=
 if dn w offs then([],14)else match m.objs.find? (gf name)with
 |none=>([],5)
 |some e=>xQ m ds e
def lY(m:aw)(ds:aC)(o b:Int):au:=(dR m ds (aN ds m.drives) o b).map qL
def Ji(m:aw)(ds:aC)(e:ci):Bool:=pK m ds&&(qt e.tries.length).all λk=>fq m.p (cb e.object k (e.tries.getD k 0)) (lY m ds e.object k)
theorem HV(a:Nat)(b:aM):∀n,((qt n).map (sC a b)).flatten=b.take (n*a)++qh (n*a-i0 b) 0
 |0=>jj
 |n+1=>by
  rw[zL,qT,List.flatten_append,HV a b n,zI];simp only[wm,List.map_nil,List.flatten_cons,List.flatten_nil,qH];unfold sC;by_cases h:n*a<=i0 b
  ·have c:n*a-i0 b=0:=i5
   rw[c,List.replicate_zero,qH,<-qn,<-List.take_add,List.drop_replicate,q7];congr 2;omega
  ·have d:b.drop (n*a)=[]:=q8 i5;rw[d,List.take_nil,List.nil_append,List.length_nil,List.drop_zero,qg i5,qg i5,qn,List.replicate_append_replicate];congr 2;omega
theorem Fe{p:Int×Int×Int}(a:bx p=eR)(n:Nat):n<=(countP p n).toNat*dJ p:=by
 obtain⟨f,g,b⟩:=kV a;unfold countP;rw[a,zS];by_cases h0:0<(n:Int)
 ·rw[hU h0,g0 i4,<-b];have h:=wq ((n:Int)-1) (show(0:Int)<(dJ p:Int)by omega);have c:=Int.mul_ediv_add_emod ((n:Int)-1) (dJ p:Int);have h3:0<=((n:Int)-1)/(dJ p:Int):=Int.ediv_nonneg i5 i5;obtain⟨q,d⟩:=Int.eq_ofNat_of_zero_le h3;rw[d]at c⊢;have e:((q:Int)+1).toNat=q+1:=i5
  rw[e,zI];have:(dJ p:Int)*(q:Int)=((q*dJ p:Nat):Int):=by rw[Int.natCast_mul,Int.mul_comm]
  omega
 ·omega
theorem TN{p:Int×Int×Int}(a:bx p=eR)(b:aM):mU p (splitB p b) b.length=b:=by
 unfold mU;rw[g0 ⟨a,i5,DB a b,qK.2 λx c=>by
  unfold splitB at c;obtain⟨i,_,rfl⟩:=qo.1 c;exact hU (Di _ _ _)⟩]
 have:=Fe a b.length;unfold splitB;rw[HV,qg this,qj,List.take_append_of_le_length (qk _),qU]
variable {m:aw} {ds:aC} {offs:Int}
section
variable {C:Int->aM} {w:Pow}
theorem Bz{o b k:Int}{x:Int×aM}(h:x∈gD m ds o b k):∃d r,aS ds k=dB d/\r∈fp m d.l/\r.object=o/\r.block=b/\x=(r.id,r.data):=by
 unfold gD at h;cases hd:aS ds k with
 |none=>rw[hd]at h;cases h
 |some d=>
  rw[hd]at h;unfold ud at h;obtain⟨r,c,rfl⟩:=qo.1 h;obtain⟨e,a⟩:=qC.1 c;rw[qu,decide_eq_true_eq,decide_eq_true_eq]at a;exact⟨d,r,i4,e,a.1,a.2,i4⟩
theorem dX.entry(S:dX m C ds){e:Qw.ci}(a:e∈m.objs):gM m e=eR:=((cv m).1 S.may).2.2.2.2.1 e a
theorem dX.DR(S:dX m C ds):bx m.p=eR:=((dZ m).1 ((cv m).1 S.may).1).2.2.1
theorem dX.blocks(S:dX m C ds){e:Qw.ci}(a:e∈m.objs):(splitB m.p (C e.object)).length=e.tries.length:=(jk (S.ents e a).2).symm
theorem dX.eV(S:dX m C ds){e:Qw.ci}(a:e∈m.objs){k:Nat}(b:k<e.tries.length):∃K H w n,bU m.p (cb e.object k (e.tries.getD k 0)) (fL m C e.object k) K H w n:=by have h:=QO S.DR (S.ents e a).2 (i:=k) (by rw[S.blocks a];exact b);unfold fL;rw[qj];exact h
theorem dX.sym(S:dX m C ds){e:Qw.ci}(o:e∈m.objs){k:Nat}(A:k<e.tries.length){s:Int}{x:Int×aM}(h:x∈gD m ds e.object k s):
  bJ x.1=eR/\x.2=fS m.p.2.2.toNat (dj m.p (cb e.object k (e.tries.getD k 0)) (fL m C e.object k)) (cW (bu m.p).toNat (cb e.object k (e.tries.getD k 0)) x.1):=by
 obtain⟨d,r,v,u,c,i,rfl⟩:=Bz h;obtain⟨q,n,j⟩:=lp u;obtain⟨t,z,y,w,l,_,g⟩:=gY.1 j;have f:y=e:=NY S.may w o (by rw[l,c]);subst f;have hid:=((kA r).1 t).2.2.1;have a:bJ r.id=eR:=by unfold bJ;simp;omega
 have b:=(S.cells s d v _ q).tru r n j;unfold By at b;rw[c,i]at b;rw[c,i,qj]at g;refine⟨a,?_⟩;show r.data=_;rw[b,g];unfold rU;rw[g0 a]
theorem HW{α β:Type}{f:α->β}:∀{l:List (α×β)},(∀x∈l,x.2=f x.1)->l=(l.map qL).map λi=>(i,f i)
 |[],_=>rfl
 |x::l,h=>by
  have c:=h x qF;have b:=HW (l:=l) λy a=>h y (qz _ a);rw[wm,wm,<-b,<-c]
theorem dX.syms(S:dX m C ds){e:Qw.ci}(d:e∈m.objs){k:Nat}(g:k<e.tries.length)(a:au):
  dR m ds a e.object k=lG m.p (cb e.object k (e.tries.getD k 0)) (dj m.p (cb e.object k (e.tries.getD k 0)) (fL m C e.object k)) ((dR m ds a e.object k).map qL)/\∀i∈(dR m ds a e.object k).map qL,bJ i=eR:=by
 have c:∀x∈dR m ds a e.object k,bJ x.1=eR/\x.2=fS m.p.2.2.toNat (dj m.p (cb e.object k (e.tries.getD k 0)) (fL m C e.object k)) (cW (bu m.p).toNat (cb e.object k (e.tries.getD k 0)) x.1):=λx b=>by
  unfold dR at b;obtain⟨s,_,b⟩:=zO.1 b;exact S.sym d g b
 refine⟨HW λx b=>(c x b).2,λi f=>?_⟩;obtain⟨x,b,rfl⟩:=qo.1 f;exact(c x b).1
theorem dX.iK(S:dX m C ds){e:Qw.ci}(b:e∈m.objs){k:Nat}(d:k<e.tries.length):
  Qw.iK m ds e.object e.tries k=if fq m.p (cb e.object k (e.tries.getD k 0)) (lY m ds e.object k)=eR then(fL m C e.object k,0)else([],9):=by
 obtain⟨K,H,w,n,B⟩:=S.eV b d;obtain⟨f,c⟩:=S.syms b d (aN ds m.drives);unfold Qw.iK;rw[f];by_cases a:fq m.p (cb e.object k (e.tries.getD k 0)) (lY m ds e.object k)=eR
 ·rw[g0 a];exact B.dec c a
 ·rw[g9 a];refine Zv B.may (B.NX c) ?_;rw[FY];exact eq_false_of_ne_true a
theorem dX.xQ(S:dX m C ds){e:Qw.ci}(b:e∈m.objs):Qw.xQ m ds e=if Ji m ds e=eR then(C e.object,0)else([],11):=by
 have a:((qt e.tries.length).all λk=>decide ((Qw.iK m ds e.object e.tries k).2=0))=(qt e.tries.length).all λk=>fq m.p (cb e.object k (e.tries.getD k 0)) (lY m ds e.object k):=by
  rw[yS,qK,qK];refine forall_congr' λk=>forall_congr' λd=>?_;rw[S.iK b (qA.1 d)];cases fq m.p (cb e.object k (e.tries.getD k 0)) (lY m ds e.object k)with
  |true=>simp
  |false=>simp
 unfold Qw.xQ Ji;rw[a];cases hw:pK m ds with
 |false=>rw[g0 i4,Bool.false_and,g9 i6]
 |true=>
  rw[g9 i6,zS];cases hf:(qt e.tries.length).all λk=>fq m.p (cb e.object k (e.tries.getD k 0)) (lY m ds e.object k)with
  |false=>rw[g9 i6,g9 i6]
  |true=>
   rw[g0 i4,g0 rfl];have g:((qt e.tries.length).map λk=>(Qw.iK m ds e.object e.tries k).1)=splitB m.p (C e.object):=by
    apply List.ext_getElem
    ·simp[S.blocks b]
    ·intro k c f;rw[wV,List.getElem_range];simp only[qy,List.length_range]at c;rw[S.iK b c,g0 (qK.1 hf k (qA.2 c))];unfold fL;rw[qj,fh _ f]
   rw[g,<-(S.ents e b).1,TN S.DR]
theorem dX.get(S:dX m C ds)(d:dn w offs=eS)(name:ByteArray):
  (∀e∈m.objs,e.name=name->ij m offs w ds name=if Ji m ds e=eR then(C e.object,0)else([],11))/\((∀e∈m.objs,e.name≠name)->ij m offs w ds name=([],5)):=by
 refine⟨λe b f=>?_,λc=>?_⟩
 ·have a:m.objs.find? (gf name)=dB e:=by
   cases a:m.objs.find? (gf name)with
   |none=>
    have:=z7.1 a e b;exact absurd (by unfold gf;rw[f];simp) this
   |some y=>
    have g:=List.find?_some a;have i:=List.mem_of_find?_eq_some a;rw[WT S.may i b (by rw[f];exact oD (by unfold gf at g;simpa using g))]
  unfold ij;rw[d,g9 i6,a];exact S.xQ b
 ·have a:m.objs.find? (gf name)=eH:=z7.2 λe b h=>c e b (oD (by unfold gf at h;simpa using h));unfold ij;rw[d,g9 i6,a]
end
theorem Jj{a:Nat}:∀{l:bY},(∀x∈l,i0 x=a)->i0 l.flatten=i0 l*a
 |[],_=>jj
 |x::l,h=>by
  rw[List.flatten_cons,qp,h x qF,Jj λy b=>h y (qz _ b),zc,zI];omega
theorem TO(p:Pm)(l:Sl)(c:bY)(n:Int)(h:f9)(P:fA h l 1 aB c)(hn:n<=2^20)(ab:i0 c<=2^10):
  ai xJ 90 #[jv p,l,xz xF n] h λv h'=>∃(r:Sl) (b:Bool),v=.tuple #[r,xD b]/\Sp h h' [EA (cw 1 aB) r (mU p c n)]:=by
 refine ts Tryz.func90 ?_ (.two .n (.two (.join [] [(6,8),(11,26)] .n) (.two .n (.two (.two .n (.inn (.loop [(8,cF),(28,aT)] [(6,9),(10,11),(28,41)] .n))) .n)))) (args:=[p,l,(n:Int)]);have j:=P.len;refine(Sp.refl h).boxed λK Z Q=>?_;have f:∀{h':f9},Sp h h' [av K 25 [xz xF p.1,xz xF p.2.1,xz xF p.2.2]]->mU p c n=[]->∃(r:Sl) (b:Bool),(.tuple #[xA eH 0 0,xD eS]:Value)=.tuple #[r,xD b]/\Sp h h' [EA (cw 1 aB) r (mU p c n)]:=λH' U=>by
  rw[U];exact⟨⟨eH,0,0⟩,eS,i4,(((H'.nil 5 1 aB).bX [1]).uu 0 i4 λ_=>rfl)⟩
 refine aO ⟨p,(Q.box 0 i4).aE _ i4,(dO p Z).mono ?_⟩;rintro _ h2 ⟨rfl,R2⟩;have A:=Q.up R2.ac;refine⟨_,i4,aU (λe=>f A (by unfold mU;rw[g9 (by rintro⟨h,_⟩;rw[e]at h;cases h)])) λY=>ae (λe=>f A (by unfold mU;rw[g9 (by rintro⟨_,h,_⟩;omega)])) λe2=>?_⟩;have z:bx p=eR:=by simpa using Y
 refine⟨p,(A.box 0 i4).aE _ i4,(sB p n h2).mono ?_⟩;rintro _ h3 ⟨rfl,S⟩;have O:=A.up S.ac;refine⟨_,i4,bz (λe=>f O (by unfold mU;rw[g9 (by rintro⟨_,_,h,_⟩;rw[j]at e;exact e h)])) λL=>?_⟩;have G:(i0 c:Int)=countP p n:=by rw[j]at L;exact L
 obtain⟨s1,s2,s3⟩:=kV z;refine aq (λt:Sl×Nat=>(t.1,(t.2:Int))) (λt h'=>t.2<=i0 c/\(∀x∈c.take t.2,i0 x=dJ p)/\Sp h h' [av K 25 [xz xF p.1,xz xF p.2.1,xz xF p.2.2],an 5 t.1 1 aB (c.take t.2).flatten]) (λt=>i0 c-t.2) (⟨eH,0,0⟩,0) i4 ⟨jj,jj,O.nil 5 1 aB⟩ ?_;rintro⟨o,i⟩ V ⟨M,a,w⟩;dsimp only at M a w⊢;refine ae (λe=>?_) λe=>?_
 ·have g:i<i0 c:=by have e':(i:Int)<(l.len:Int):=e;omega
  refine(P.up w.ac).get i i4 g λr J=>⟨p,(w.box 0 i4).aE _ i4,(Dk p V z).mono ?_⟩
  rintro _ h5 ⟨rfl,N⟩;have D:=w.up N.ac;have y:=J.len;refine⟨_,i4,bz (λB=>?_) λB=>?_⟩
  ·refine f (D.bX [0]) ?_;unfold mU;rw[g9];rintro⟨_,_,_,h⟩;have:=ii (qK.1 h _ (qf g));exact B (by rw[y,this])
  ·have E:c[i].length=dJ p:=by rw[y]at B;exact Int.ofNat_inj.1 B
   have u:=Jj a;rw[List.length_take_of_le M]at u;have hb:i*dJ p<=2^10*2^10:=wi i5 i5;refine D.append ag 1 i4 gp ⟨_,_,i4,i4⟩ i4 i6 (λ_=>rfl) (Seq.up J N.ac) gJ i5 λX h6 R=>?_;refine⟨(X,i+1),js,⟨i7,?_,?_⟩,i7⟩
   ·try dsimp only
    intro x s;rw[aD _ _ g]at s;rcases qw.1 s with s|s
    ·exact a x s
    ·rw[qx.1 s];exact E
   ·try dsimp only
    rw[aD _ _ g,List.flatten_append];simpa using R
 ·rw[qg (by have e':¬(i:Int)<(l.len:Int):=e;omega)]at a w;have u:=Jj a;have m:=w.own 1 i4;have H:=m.len;obtain⟨k,hk⟩:∃k:Nat,n=k:=⟨n.toNat,i5⟩
  subst hk;have d:=Fe z k;have F:(countP p (k:Int)).toNat=i0 c:=i5
  rw[F,<-u,<-H]at d;have T:mU p c (k:Int)=c.flatten.take k:=by unfold mU;rw[g0 ⟨z,i5,G,qK.2 λx s=>hU (a x s)⟩,qj]
  refine SB ag gp k i4 i4 (qY d m.cap) ?_;refine⟨⟨o.ptr,k,k⟩,eR,i4,?_⟩;rw[T];have D:=(w.bX [1]).uu 0 i4 λ_=>rfl;refine D.fM 0 i4 λq W=>?_;have I:=Seq.take W k i5;exact⟨I.1,I.2⟩
variable {a:f7} {da:List bK}
section
variable {pw:f7} {w:Pow}
theorem PG(x:bF)(q:bp m=eR)(H:aa B h0 h (bg bB a pw (bh x) offs da w ds::cU x m::As)):
  ai xJ 86 #[xB (dB a)] h λv h'=>v=xD (pK m ds)/\Sp h h' []:=by
 refine ts Tryz.func86 ?_;have E:=jD q;have j:=iH q;refine(Sp.refl h).boxed λp O l=>?_;have y:=H.up l.ac;refine⟨dB a,(l.box 0 i4).cell0 i4,(dM x m (y.at 1 i4) E y).mono ?_⟩;rintro _ M ⟨I,rfl,r⟩;have e:=l.comp r;have L:i0 (aN ds m.drives)<=64:=qY (qJ _ _) j;refine⟨I,i4,(Ka 144 #[] #[xB (dB p)] (HU m ds) I (aN ds m.drives) M lb (r.seq 0 i4 λ_=>rfl) i5 ?_).mono ?_⟩
 ·intro k J h3 f;have i:=y.up (r.up f.ac).ac;have g:bT h3 p 28 [xB (dB a)]:=(e.up f.ac).box 0 i4;obtain⟨ok,D⟩:=aa.cz i;obtain⟨t,d,o,_⟩:=iy J;have A:=iB q k t;refine ts Tryz.func144 ?_ (args:=[(k:Int),p]);obtain⟨n,rfl⟩:∃n:Nat,k=n:=⟨k.toNat,i5⟩
  have G:n<i0 da:=qa
  have K:f8 h3 ((a.add 10).add ((n:Int).toNat*1))=dB (.pointer da[n]):=by rw[qj,Nat.mul_one];refine D.tO 10 n ?_;rw[ry ok.l8,qc G];rfl
  have u:gH da (n:Int)=da[n]:=by unfold gH;rw[g0 i5,qj,qc G];rfl
  obtain⟨b,s,P,c,_⟩:=DD o i;refine⟨dB a,g.cell0 i4,a,i4,⟨i5,i5⟩,da[n],K,dB a,g.cell0 i4,a,i4,x,D.aE _ i4,?_⟩;rw[<-u,c];refine(ND x m o c (i.at 1 i4) E i).mono ?_;rintro _ N ⟨rfl,F⟩;have z:=(g.ac F.ac g.lt).cell0 i4;refine⟨_,i4,⟨z,z,trivial⟩,?_,F⟩;unfold HU;rw[o]
 ·rintro _ h3 ⟨rfl,f⟩;exact⟨_,i4,i4,.zip (e.up f.ac).ac⟩
theorem aci{name:ByteArray}{l:List Qw.ci}{i:Int}(h:SM (gf name) l i):(i<0/\l.find? (gf name)=eH)∨∃(n:Nat) (b:n<i0 l),i=n/\l.find? (gf name)=dB l[n]:=by
 rcases h with⟨rfl,h⟩|⟨n,b,rfl,h1,h2⟩
 ·exact .inl ⟨i6,z7.2 λe a=>wL.1 h e a⟩
 ·refine .inr ⟨n,b,i4,List.find?_eq_some_iff_append.2 ⟨h1,l.take n,l.drop (n+1),?_,λe a=>?_⟩⟩
  ·rw[<-List.drop_eq_getElem_cons b,List.take_append_drop]
  ·have:=wL.1 h2 e a;simpa using this
theorem Zz(x:bF)(name:ByteArray)(X:bp m=eR)(J:∀k d,aS ds k=dB d->d.l.length<=512)(H:aa B h0 h (bg bB a pw (bh x) offs da w ds::cU x m::As)):
  ai xJ 34 #[xB (dB a),xC name] h λv h'=>∃r:Sl,v=.tuple #[r,xz xF (ij m offs w ds name).2]/\Sp h h' [EA (cw 1 aB) r (ij m offs w ds name).1]:=by
 refine ts Tryz.func34 ?_ (.two .n (.two .n (.two .n (.two .n (.two .n (.two .n (.two .n (.two (.two .n (.inn (.loop [(8,cF),(37,aT)] [(4,6),(8,14),(37,76)] (.two .n (.two .n (.two (.inn (.two .n (.two (.join [(11,cF)] [(11,12),(42,54)] .n) (.two (.join [(12,cF),(13,aT)] [(12,14),(54,69)] .n) .n)))) .n)))))) .n)))))))) [(13,(.l [0,1,2,4,5,6,7,8,9,10,3,11,12])),(14,(.l [0,1,2,3,4,5,6,7,8,10,9,11,12,13,14,15,16]))];have hz:=jD X;have ab:=iH X;have ar:(aN ds m.drives).length<=64:=qY (qJ _ _) ab;have f:∀{h':f9} (e:Int),Sp h h' []->ij m offs w ds name=([],e)->∃r:Sl,(.tuple #[xA eH 0 0,xz xF e]:Value)=.tuple #[r,xz xF (ij m offs w ds name).2]/\Sp h h' [EA (cw 1 aB) r (ij m offs w ds name).1]:=λe R he=>by
  rw[he];exact⟨⟨eH,0,0⟩,i4,(R.nil 5 1 aB).uu 0 i4 λ_=>rfl⟩
 refine(Dr H).mono ?_;rintro _ Z ⟨rfl,rfl⟩;refine⟨_,i4,bc (λe=>f 14 (Sp.refl _) (by unfold ij;rw[g0 e])) λe1=>?_⟩;refine(find_spec x m name (H.at 1 i4) hz H).mono ?_;rintro _ h2 ⟨⟨i,rfl,hi⟩,R2⟩;have H2:=H.up R2.ac;refine⟨i,i4,?_⟩;rcases aci hi with⟨hneg,hf⟩|⟨n,hn,rfl,hf⟩
 ·exact ae (λ_=>f 5 R2 (by unfold ij;rw[g9 m4,hf])) λe=>absurd hneg e
 refine ae (λe=>absurd e (Int.not_lt.2 (z8 n))) λ_=>?_;obtain⟨E,hE⟩:∃E,E=m.objs[n]:=⟨_,rfl⟩
 have ay:E∈m.objs:=by rw[hE];exact qf hn
 have ep:ij m offs w ds name=xQ m ds E:=by unfold ij;rw[g9 m4,hf,hE]
 rw[ep]at f⊢;refine(PG x X H2).mono ?_;rintro _ h3 ⟨rfl,R3⟩;have H3:=H2.up R3.ac;have G:=R2.up R3.ac;refine⟨_,i4,aU (λe=>f 11 G (by unfold xQ;rw[g0 e])) λe3=>?_⟩;have e3:pK m ds=eR:=by simpa using e3
 have P:=(iS m E).1 (((cv m).1 X).2.2.2.2.1 E ay);have a7:E.tries.length<=8:=by have:=oR P.2.2.1.2;omega
 have ah:=((dZ m).1 ((cv m).1 X).1).2.2.1;have ad:=(aa.cz H3).2;have a0:df Z x m:=H.at 1 i4;obtain⟨ys,F⟩:=bD.fix a0.objs;have a4:=F.2.1;have s:=Fix.row F hn;obtain⟨xe,S⟩:∃xe,xe=ys[n]'(by omega):=⟨_,rfl⟩
 rw[<-hE,<-S]at s;refine⟨a,i4,x.2.2.2.2.2.2.2,ad.cell i4,(Seq.up F.1 G.ac).dY (g:=cD) n i4 i5 xe (by rw[S]) ?_⟩;refine(Sp.refl h3).alloc ag i4 λa8 h4 Q4=>?_;refine Q4.storeAll ag 0 i4 i4 (cD xe) i4 i4 i4 i4 λh5 Q5=>?_;have R5:=G.comp Q5;have T:Rd Z xe.2.2.2 1 az E.tries:=s.2;have a2:=T.len;have eo:xe.2.1=E.object:=s.1.2.1;have el:xe.2.2.1=E.length:=s.1.2.2;have R5:=R5.te 34 5 1 aB;refine⟨xe.2.2.2,(Q5.box 0 i4).cell i4,?_⟩;refine aq (λt:Sl×Nat=>(t.1,(t.2:Int))) (λt h'=>t.2<=E.tries.length/\(∀j,j<t.2->(iK m ds E.object E.tries j).2=0)/\Sp Z h' [fP t.1 ((qt t.2).map λj=>(iK m ds E.object E.tries j).1),av a8 111 (cD xe)]) (λt=>E.tries.length-t.2) (⟨eH,0,0⟩,0) i4 ⟨jj,λj u=>absurd u (Nat.not_lt_zero _),R5⟩ ?_;rintro⟨o,k⟩ h6 ⟨hk,D,y⟩;dsimp only at hk D y⊢;have H6:=H.up y.ac;have Q:=(aa.cz H6).2;have V:df h6 x m:=H6.at 1 i4;have cp:∀{h':f9},bT h' a 127 (cB (bh x) pw offs da)->ba h' (a.add 2) 0 [xz xF m.p.1,xz xF m.p.2.1,xz xF m.p.2.2]:=λ{h'} hb=>by
  rw[<-V.p];exact⟨j8,j8,j8,trivial⟩
 refine ae (λe=>?_) λe=>?_
 ·have L:k<E.tries.length:=by have e':(k:Int)<(xe.2.2.2.len:Int):=e;omega
  refine(Seq.up T y.ac).bo k i4 L E.tries[k] i4 ?_;refine aO ⟨a,i4,x,Q.aE _ i4,xe.2.1,(y.box 1 i4).cell i4,(dM x m V hz H6).mono ?_⟩;rintro _ h7 ⟨lv,rfl,R7⟩;have H7:=H6.up R7.ac;have q:=(aa.cz H7).2;have U:=y.up R7.ac;refine⟨lv,i4,⟨(U.box 1 i4).cell i4,q.cell0 i4,q.cell i4,q.cell i4,q.cell i4,q.cell i4,q.cell i4,q.cell i4,q.cell i4,trivial⟩,?_⟩;rw[eo];refine(ue x m lv (aN ds m.drives) E.object k (H7.at 1 rfl) hz (R7.seq 0 rfl λ_=>rfl) i5 (λj u=>by obtain⟨_,d,hd,_⟩:=iy u;exact⟨d,hd⟩) H7).mono ?_;rintro _ h8 ⟨r,ss,rfl,R8⟩;have H8:=H7.up R8.ac;have W:=(aa.cz H8).2;have I:=U.up R8.ac;refine⟨r,i4,trivial,aO ⟨a,i4,m.p,cp W,xe.2.1,(I.box 1 i4).cell i4,(oL xe.2.1 k E.tries[k] h8).mono ?_⟩⟩;rintro _ Y ⟨rfl,rfl⟩;obtain⟨c1,c2,c3,_⟩:=cp W;have z:Fix lZ 2 piv Y (λb=>b<Y.size) r ss (dR m ds (aN ds m.drives) E.object k):=R8.at 0 i4;have al:dN ED Y r (dR m ds (aN ds m.drives) E.object k):=⟨ss,z.1,z.2.1,z.2.2⟩
  have a5:(dR m ds (aN ds m.drives) E.object k).length<=64*512:=by unfold dR;refine qY (Aq (c:=512) λj u=>?_) (zq _ ar);obtain⟨_,d,hd,_⟩:=iy u;unfold gD;rw[hd];have Z:=Bo m E.object k d.l;have h2:=J j d hd;show(ud m E.object k d.l).length<=512;omega
  rw[eo];refine⟨_,i4,⟨c1,c2,c3,trivial⟩,(HQ m.p (cb E.object k E.tries[k]) r _ Y al).mono ?_⟩;rintro _ a9 ⟨ao,rfl,A⟩;have eb:kZ m.p (cb E.object k E.tries[k]) (dR m ds (aN ds m.drives) E.object k)=iK m ds E.object E.tries k:=by unfold iK;rw[fh 0 L]
  rw[eb]at A⊢;have M:=I.up A.ac;refine⟨(ao,(iK m ds E.object E.tries k).2),i4,trivial,bz (λe4=>f 11 (.zip M.ac) ?_) λe4=>?_⟩
  ·unfold xQ;rw[g9 (by rw[e3];decide),g9];intro O;exact e4 (ii (qK.1 O k (qA.2 L)))
  ·have ax:=(I.comp A).aK 3 [0,2,1];refine aa.AJ ag ax fu i9 λo' a6 am=>?_;refine⟨(o',k+1),js,⟨i7,λj u=>?_,?_⟩,i7⟩
   ·rcases zi.1 u with u|rfl
    ·exact D j u
    ·simpa using e4
   ·try dsimp only
    rw[zL,qT];exact am
 ·have a1:k=E.tries.length:=by have e':¬(k:Int)<(xe.2.2.2.len:Int):=e;omega
  subst a1;refine⟨a,i4,m.p,cp Q,xe.2.2.1,(y.box 1 i4).cell i4,?_⟩;rw[el];have K:E.length<=2^20:=by obtain⟨⟨k1,k2⟩,_,z1,z2⟩:=(bN m.p).1 ah;have:m.p.1*m.p.2.2<=16*24:=yf k2 z2 i5 i5;have:=P.2.2.1.2;omega
  refine(TO m.p o _ E.length h6 (y.BJ λ_=>rfl) K i9).mono ?_;rintro _ a3 ⟨N,b,rfl,ap⟩;have eg:xQ m ds E=(mU m.p ((qt E.tries.length).map λk=>(iK m ds E.object E.tries k).1) E.length,0):=by unfold xQ;rw[g9 (by rw[e3];decide),g0 (qK.2 λj u=>hU (D j (qA.1 u)))]
  rw[eg];exact⟨(N,b),i4,trivial,N,i4,((y.comp ap).bX [2])⟩
end
structure afW (m:aw) (o:Int) (d:aW) (bad:Nat->Prop):Prop where
 lost:d.lost=eS
 pos:0<d.l.length
 len:d.l.length<=60
 cell:∀c∈d.l,c.length=64
 bad:∀j (hj:j<d.l.length),fC d.l[j]=eH↔bad j
 cnt:∀c∈d.l,∀r,dg c=dB r->dz m r=eR/\r.object=o
 apart:(d.l.filterMap (jg m)).Pairwise λa b=>mL a b=eS
variable {B':ak} {h0' h':f9} {As':List HP} {b pw2:f7}
section
variable {pw:f7} {d:aW}
end
variable {a2:f7} {mc:aR} {da2:List bK}
section
variable {pw:f7} {w:Pow}
end
variable {x:bF}
section
variable {pw:f7} {w:Pow} {d:aW}
end
def oV(l:au)(k:Nat):Int:=l.getD k 0
def jQ(l:au):Pm:=Au (oV l 0) (oV l 1) (oV l 2)
def uj(l:au):Nat:=(2+oV l 4%4).toNat
def BA(l:au):au:=(qt (uj l)).map λi=>8+oV l (5+i)%50
def DS(l:au):Int:=oV l 3%7
theorem QW(l:au):2<=uj l/\uj l<=5:=by unfold uj;omega
theorem NZ(l:au):i0 (BA l)=uj l:=by simp[BA]
section
variable {pw:f7} {w:Pow}
theorem nL(s:Sl)(l:au)(k:Nat)(h:f9)(a:Rd h s 1 az l):ai xJ 10 #[s,xz xF k] h λv h'=>v=xz xF (oV l k)/\h'=h:=by
 refine ts Tryz.func10 ?_;unfold oV;have c:=a.len;refine ae (λe=>?_) (λe=>⟨?_,i4⟩)
 ·have b:k<i0 l:=i5
  refine a.bo k i4 b (l.getD k 0) (by rw[getD_lt b];rfl) ⟨i4,i4⟩
 ·rw[qd,List.getElem?_eq_none i5];rfl
theorem PH(s:Sl)(l:au)(h:f9)(q:Rd h s 1 az l):ai xJ 14 #[s] h λv h'=>∃r:Sl,v=.tuple #[jv (jQ l),xz xF (DS l),r]/\Sp h h' [an 3 r 1 az (BA l)]:=by
 refine sw s ?_;refine(Sp.refl h).alloc ag i4 λE D u=>?_;have a:=q.up u.ac;refine(nL s l 0 D a).mono ?_;rintro _ _ ⟨rfl,rfl⟩;refine⟨_,i4,(nL s l 1 _ a).mono ?_⟩;rintro _ _ ⟨rfl,rfl⟩;refine⟨_,i4,(nL s l 2 _ a).mono ?_⟩;rintro _ x ⟨rfl,rfl⟩;refine⟨_,i4,(Tm _ _ _ x).mono ?_⟩;rintro _ M ⟨rfl,K⟩;have L:=u.up K.ac;refine⟨jQ l,i4,?_⟩;refine L.alloc ag i4 λg N w=>?_;refine w.storeAll ag 1 i4 i4 [xz xF (jQ l).1,xz xF (jQ l).2.1,xz xF (jQ l).2.2] i4 i4 i4 i4 λP k=>?_;have k:=(k.nil 3 1 az).bX [2,1,0];have O:=QW l;have z:=NZ l;refine aq (λt:Sl×Nat=>(t.1,(t.2:Int))) (λt h'=>t.2<=uj l/\Sp h h' [an 3 t.1 1 az ((BA l).take t.2),av g 25 [xz xF (jQ l).1,xz xF (jQ l).2.1,xz xF (jQ l).2.2],av E 25 [xz xF 0,xz xF 0,xz xF 0]]) (λt=>uj l-t.2) (⟨eH,0,0⟩,0) i4 ⟨jj,k⟩ ?_;rintro⟨o,i⟩ h8 ⟨Q,c⟩;dsimp only at*;have b:=q.up c.ac;refine(nL s l 4 h8 b).mono ?_;rintro _ _ ⟨rfl,rfl⟩;refine⟨_,i4,(bQ _ 4 _).mono ?_⟩;rintro _ h8 ⟨rfl,rfl⟩;refine⟨_,i4,?_⟩;have f:=c.box 1 i4
 try dsimp only
 rw[af (2+oV l 4%4)];have m:2+oV l 4%4=(uj l:Int):=by unfold uj;omega
 rw[m];refine ae (λe=>?_) (λe=>?_)
 ·have I:i<uj l:=i5
  rw[af ((5:Int)+i)];have J:(5:Int)+i=((5+i:Nat):Int):=i5
  rw[J];refine(nL s l (5+i) h8 b).mono ?_;rintro _ _ ⟨rfl,rfl⟩;refine⟨_,i4,(bQ _ 50 _).mono ?_⟩;rintro _ A ⟨rfl,rfl⟩;refine⟨_,i4,?_⟩
  try dsimp only
  rw[af (8+oV l (5+i)%50)];refine c.push ag 0 i4 gy i4 i6 (λ_=>rfl) fx (8+oV l (5+i)%50) i4 i6 i9 λB G j=>?_;refine⟨(B,i+1),js,⟨i7,?_⟩,i7⟩
  try dsimp only
  rw[aD _ _ (show i<i0 (BA l) by omega)];have H:(BA l)[i]'(by omega)=8+oV l (5+i)%50:=by simp[BA]
  rw[H];exact j
 ·have n:i=uj l:=i5
  subst n;rw[qg i5]at c;have p:bH.ok [(g,(xz xF (jQ l).1)),(g.add 1,(xz xF (jQ l).2.1)),(g.add 2,(xz xF (jQ l).2.2))] h8:=⟨f.cell0 i4,f.cell i4,f.cell i4,trivial⟩
  refine⟨jQ l,f.aE _ i4,(nL s l 3 h8 b).mono ?_⟩;rintro _ _ ⟨rfl,rfl⟩;refine⟨_,i4,p,(bQ _ 7 _).mono ?_⟩;rintro _ y ⟨rfl,rfl⟩;refine⟨_,i4,p,?_⟩;refine c.storeAll ag 2 i4 i4 [xz xF (jQ l).1,xz xF (jQ l).2.1,xz xF (jQ l).2.2] i4 i4 i4 i4 λF d=>⟨trivial,?_⟩
  exact⟨jQ l,(d.box 2 i4).aE _ i4,o,i4,d.bX [0]⟩
end
section
variable {w:Pow}
end
abbrev Ln(p s:bK)(L:List bK):aR:=.pointer p::.pointer s::L.map .pointer
abbrev ey(p s:bK):aR:=Ln p s (qh 64 eH)
variable {b2:f7}
section
variable {pw:f7} {w:Pow}
theorem WU(pw s:f7):aF xJ (Instr.build 60 #[(0,xB (dB pw)),(1,xB (dB s))]) (xE (ey (dB pw) (dB s)).toArray):=
 sZ ag (i:=_) i4 i4 i4 (vs:=[(0,xB (dB pw)),(1,xB (dB s))]) (cells:=(ey (dB pw) (dB s)).toArray) j3
theorem WV(p:Pm)(extra:Int)(s:Sl)(l:au)(o:St B h0 As λh=>Rd h s 1 az l)(r:i0 l<=2^20)(H:aa B h0 h As):
  ai xJ 15 #[jv p,xz xF extra,s] h λv h'=>
   ((dH p extra Pow.new l).1≠0->v=.tuple #[xB eH,xz xF (dH p extra Pow.new l).1]/\aa B h0 h' As)/\
   ((dH p extra Pow.new l).1=0->∃(b a pw:f7) (x:bF) (da:List bK),v=.tuple #[xB (dB b),xz xF 0]/\
    aa B h0 h' (av b 60 (ey (dB pw) (dB a))::bg bB a pw (bh x) Pow.new.offs da (dH p extra Pow.new l).2.1 (dH p extra Pow.new l).2.2::cU x (cC p extra l)::As)):=by
 refine ts Tryz.func15 ?_ (args:=[p,(extra:Int),s]);refine H.boxed λm i f=>?_;have f:aa B h0 i (av m 25 [xz xF p.1,xz xF p.2.1,xz xF p.2.2]::As):=f.aY;refine(Vq i).mono ?_;rintro _ u ⟨pw,rfl,q⟩;have j:=f.bR q;refine⟨_,i4,p,(j.box 1 i4).aE _ i4,?_⟩;refine(Pb p extra s l (o.cons) r j).mono ?_;rintro _ h3 ⟨k,n⟩;by_cases c:(dH p extra Pow.new l).1=0
 ·obtain⟨a,x,da,rfl,d⟩:=n c;refine⟨(dB a,0),i4,bz (λe=>absurd i4 e) λ_=>⟨_,WU pw a,d.boxed λb t g=>?_⟩⟩;have g:=g.aY;exact⟨λe=>absurd c e,λ_=>⟨b,a,pw,x,da,i4,g.aK 4 [0,1,2]⟩⟩
 ·obtain⟨rfl,d⟩:=k c;refine⟨(eH,(dH p extra Pow.new l).1),i4,bz (λ_=>⟨λ_=>⟨i4,d.rest⟩,λe=>absurd e c⟩) λe=>absurd e c⟩
theorem PI{p:bK}{L:List bK}(c:bT h b 60 (Ln p (dB a) L)):ai xJ 6 #[xB (dB b)] h λv h'=>v=xB (dB a)/\h'=h:=by refine ts Tryz.func6 ?_;exact bc (λe=>j1) λ_=>⟨b,i4,dB a,c.cell i4,i4,i4⟩
end
abbrev DT:=Int×ByteArray×Sl×Int×Int×Int×Int×Sl×Sl
abbrev mvG(y:DT):aR:=[xz xF y.1,xC y.2.1,y.2.2.1,xz xF y.2.2.2.1,xz xF y.2.2.2.2.1,xz xF y.2.2.2.2.2.1,xz xH y.2.2.2.2.2.2.1,y.2.2.2.2.2.2.2.1,y.2.2.2.2.2.2.2.2]
abbrev BB(y:DT):Value:=xE (mvG y).toArray
variable {q:bK}
section
variable {pw:f7} {w:Pow}
theorem Oa(y:DT)(p:y.1=1)(c:aM)(r:St B h0 As λh=>Rd h y.2.2.1 1 aB c)(f:y.2.2.1.len<=y.2.2.1.cap)(l:y.2.1.size<=2^40)(o:bp m=eR)(i:i0 c<=2^20)(H:aa B h0 h (bv a pw da offs w ds m::av b 60 (ey q (dB a))::As)):
  ai xJ 19 #[xB (dB b),BB y] h λv h'=>v=CX (ga (cY m offs w ds y.2.1 c).1)/\
   aa B h0 h' (bv a pw da offs (cY m offs w ds y.2.1 c).2.2.1 (cY m offs w ds y.2.1 c).2.2.2 (cY m offs w ds y.2.1 c).2.1::av b 60 (ey q (dB a))::As):=by
 refine ts Tryz.func19 ?_ (.two .n (.two (.join [] [(5,78)] .n) .n)) (args:=[(dB b),y]);refine H.boxed λF D g=>?_;have g:=g.aY;refine g.alloc ag i4 λa2 G d=>?_;have d:=d.aY;refine bE (λ_ h'=>aa B h0 h' (av a2 43 (jV (ga (cY m offs w ds y.2.1 c).1))::bv a pw da offs (cY m offs w ds y.2.1 c).2.2.1 (cY m offs w ds y.2.1 c).2.2.2 (cY m offs w ds y.2.1 c).2.1::av b 60 (ey q (dB a))::As)) ?_ ?_
 ·refine⟨y.1,(d.box 1 i4).cell0 i4,bf (λ_=>?_) λe=>absurd p e⟩;refine⟨b,i4,dB a,(d.box 3 i4).cell i4,y.2.1,(d.box 1 i4).cell i4,y.2.2.1,(d.box 1 i4).cell i4,?_⟩;have s:=d.aK 4 [2,0,3];refine(abS y.2.1 y.2.2.1 c (As:=av a2 43 (jV (ga 0))::av b 60 (ey q (dB a))::As) r.cons.cons f l o i s).mono ?_;rintro _ x ⟨rfl,t⟩;refine⟨_,i4,trivial,t.gA ag 1 i4 i4 [xz xF (cY m offs w ds y.2.1 c).1] i4 i4 i4 jj λz u=>⟨trivial,?_⟩⟩;exact u.aK 3 [1,0,2]
 ·rintro _ A j;refine⟨ga (cY m offs w ds y.2.1 c).1,(j.box 0 i4).aE _ i4,j.storeAll ag 0 i4 i4 (jV (ga (cY m offs w ds y.2.1 c).1)) i4 i4 i4 i4 λE k=>?_⟩;exact⟨ga (cY m offs w ds y.2.1 c).1,(k.box 0 i4).aE _ i4,i4,k.rest⟩
theorem HX(y:DT)(g:y.1=1)(c:aM)(r:St B h0 As λh=>Rd h y.2.2.1 1 aB c)(f:y.2.2.1.len<=y.2.2.1.cap)(l:y.2.1.size<=2^40)(p:bp m=eR)(j:i0 c<=2^20)(H:aa B h0 h (bv a pw da offs w ds m::av b 60 (ey q (dB a))::As)):
  ai xJ 9 #[xB (dB b),BB y] h λv h'=>v=CX (ga (cY m offs w ds y.2.1 c).1)/\
   aa B h0 h' (bv a pw da offs (cY m offs w ds y.2.1 c).2.2.1 (cY m offs w ds y.2.1 c).2.2.2 (cY m offs w ds y.2.1 c).2.1::av b 60 (ey q (dB a))::As):=by
 refine ts Tryz.func9 ?_ (.two .n (.two .n (.two (.join [] [(8,101)] (.two .n (.inn (.two (.join [(11,nV)] [(11,17)] .n) .n)))) .n))) (args:=[(dB b),y]);refine H.boxed λo u i=>?_;have i:=i.aY;refine i.alloc ag i4 λa2 x d=>bc (λe=>j1) λ_=>aO ?_;have d:=d.aY.aK 4 [2,3,1,0];refine⟨y.1,(d.box 2 i4).cell0 i4,aO (bf (λ_=>?_) λe=>absurd g e)⟩;refine bc (λ_=>?_) λe=>by rw[g]at e;cases e
 refine⟨y,(d.box 2 i4).aE _ i4,(Oa y g c (As:=av o 37 (mvG y)::av a2 43 (jV (ga 0))::As) r.cons.cons f l p j d).mono ?_⟩;rintro _ h3 ⟨rfl,s⟩;refine⟨ga (cY m offs w ds y.2.1 c).1,i4,s.storeAll ag 3 i4 i4 (jV (ga (cY m offs w ds y.2.1 c).1)) i4 i4 i4 i4 λt k=>?_⟩;exact⟨ga (cY m offs w ds y.2.1 c).1,(k.box 3 i4).aE _ i4,i4,k.aK 4 [0,1]⟩
theorem DU(p:Pm)(extra:Int)(s:Sl)(l:au)(i:St B h0 As λh=>Rd h s 1 az l)(k:i0 l<=64)(g:pH p extra l=0)(H:aa B h0 h As):
  ai xJ 15 #[jv p,xz xF extra,s] h λv h'=>∃(b a pw:f7) (da:List bK) (D:aC),v=.tuple #[xB (dB b),xz xF 0]/\D.length=64/\
   (∀s,aS D s=if s∈be l l.length then dB ⟨(l.getD s.toNat 0).toNat,aX (cC p extra l),0,[],eS,eS⟩else eH)/\aa B h0 h' (bv a pw da 0 Pow.new D (cC p extra l)::av b 60 (ey (dB pw) (dB a))::As):=by
 obtain⟨D,d,j,e⟩:=Wg (p:=p) (extra:=extra) (l:=l) k g;refine(WV p extra s l i i5 H).mono ?_;rintro _ h' ⟨_,c⟩;rw[d]at c;obtain⟨b,a,pw,y,da,rfl,f⟩:=c rfl;exact⟨b,a,pw,da,D,i4,j,e,kG (f.aK 3 [1,2,0])⟩
end
theorem ZA{a b:cP}(d:oZ a b=eR)(c:oZ b a=eR):mL a b=eR:=by unfold oZ at d c;rw[decide_eq_true_eq]at d c;rw[lm];omega
theorem ZB{a b c:cP}(h:oZ a b=eR)(d:mL a c=eR):oZ c b=eR:=by rw[lm]at d;unfold oZ at h⊢;rw[decide_eq_true_eq]at h⊢;omega
theorem TP{l:List cP}(h:l.Pairwise λa b=>oZ a b=eR):(pu l).Pairwise λa b=>mL a b=eS:=by
 unfold pu;rw[List.pairwise_map];have m:((qt l.length).filter (pU l)).Pairwise (·<·):=(List.pairwise_lt_range (n:=i0 l)).filter _;refine m.imp_of_mem λ{i j} hi hj hlt=>?_;have c:=qA.1 (qC.1 hj).1;have d:=(qC.1 hj).2;rw[fh _ (show i<i0 l by omega),fh _ c];refine eq_false_of_ne_true λg=>?_;unfold pU at d;rw[hZ i5,Bool.false_or,Bool.not_eq_true',fh _ c,fh _ (show j-1<i0 l by omega)]at d;have f:=zj.1 h;have o:oZ l[i] l[j-1]=eR:=by
  by_cases e:i=j-1
  ·subst e;unfold oZ;rw[decide_eq_true_eq];omega
  ·exact f i (j-1) i5 i5 i5
 have k:oZ l[j-1] l[j]=eR:=f (j-1) j i5 c i5;have:=ZA (ZB o g) k;rw[d]at this;cases this
theorem PJ(m:aw)(l:bY):(fp m l).Pairwise λa b=>mL a b=eS:=TP (List.pairwise_mergeSort adf.1 adf.2 _)
theorem uk{α:Type}[DecidableEq α]:∀{l m:List α},l.Nodup->(∀x∈l,x∈m)->i0 l<=i0 m
 |[],m,_,_=>Nat.zero_le _
 |x::l,m,h,hs=>by
  obtain⟨f,d⟩:=List.nodup_cons.1 h;have c:=hs x qF;have:=uk (l:=l) (m:=m.erase x) d λy b=>by
   have a:y≠x:=λe=>f (e▸b);exact(List.mem_erase_of_ne a).2 (hs y (qz _ b))
  rw[List.length_erase_of_mem c]at this;have:=List.length_pos_of_mem c;rw[zc];omega
def aaZ(r:cP):Int×Int×Int:=(r.object,r.block,r.id)
section
variable {C:Int->aM} {w:Pow}
def WW(m:aw)(ds:aC):Prop:=∀k d,aS ds k=dB d->∀c∈d.l,∀r,dg c=dB r->dz m r=eR->r.id<m.p.1+m.extra
structure Full (m:aw) (C:Int->aM) (ds:aC):Prop where
 live:∀k∈m.drives,∃d,aS ds k=dB d/\d.lost=eS/\iY m d.l=eR
 all:∀e∈m.objs,∀i:Nat,i<e.tries.length->∀id:Nat,id<(m.p.1+m.extra).toNat->∃k∈m.drives,∃d,aS ds k=dB d/\cT (kW m e.object i (cb e.object i (e.tries.getD i 0)) (fL m C e.object i) id)∈d.l
theorem Full.aN(F:Full m C ds):Qw.aN ds m.drives=m.drives:=wD.2 λk a=>by
 obtain⟨d,c,b,_⟩:=F.live k a;unfold isLive;rw[c];simp[b]
theorem dX.aet(S:dX m C ds){e:Qw.ci}(a:e∈m.objs):e.tries.length<=8:=by obtain⟨_,_,h3,_,b⟩:=(iS m e).1 (S.entry a);have:=oR h3.2;omega
theorem dX.DV(S:dX m C ds){e:Qw.ci}(a:e∈m.objs){i:Nat}(c:i<e.tries.length){id:Nat}(hid:id<=65535):iR (kW m e.object i (cb e.object i (e.tries.getD i 0)) (fL m C e.object i) id)=eR:=by obtain⟨K,H,w,n,B⟩:=S.eV a c;have h8:=S.aet a;have d:=((iS m e).1 (S.entry a)).2.1;have b:=((dZ m).1 ((cv m).1 S.may).1).2.1;exact Ns B ⟨d.1,i5⟩ ⟨i5,i5⟩ ⟨i5,i5⟩
theorem dX.counts(S:dX m C ds){e:Qw.ci}(a:e∈m.objs){i:Nat}(b:i<e.tries.length){id:Nat}(hid:id<=65535):dz m (kW m e.object i (cb e.object i (e.tries.getD i 0)) (fL m C e.object i) id)=eR:=
 gY.2 ⟨S.DV a b hid,i4,e,a,i4,by show(i:Int)<_;omega,by show cb e.object i _=cb e.object (i:Int) (e.tries.getD (i:Int).toNat 0);rw[qj]⟩
theorem dX.ZC(S:dX m C ds){id:Nat}(h:id<(m.p.1+m.extra).toNat):id<=65535:=by obtain⟨_,_,a,b⟩:=(dZ m).1 ((cv m).1 S.may).1;have:=(bN m.p).1 a;omega
theorem dX.afb(S:dX m C ds){e:Qw.ci}(a:e∈m.objs){i:Nat}(b:i<e.tries.length){id:Nat}(hid:id<=65535){k:Int}(f:k∈aN ds m.drives){d:aW}(c:aS ds k=dB d)
  (g:cT (kW m e.object i (cb e.object i (e.tries.getD i 0)) (fL m C e.object i) id)∈d.l):(id:Int)∈lY m ds e.object i:=by
 have h:=pJ S.may (S.cells k d c) g (nR (S.DV a b hid) (jy _ _ _)) (S.counts a b hid);unfold lY dR;refine qo.2 ⟨((id:Int),(kW m e.object i (cb e.object i (e.tries.getD i 0)) (fL m C e.object i) id).data),zO.2 ⟨k,f,?_⟩,i4⟩;unfold gD;rw[c];exact qo.2 ⟨_,qC.2 ⟨h,by simp[kW]⟩,i4⟩
theorem WX{p:Pm}(a:bx p=eR){i:Int}(h:i∈eF p):∃id:Nat,i=id/\(id:Int)<p.1:=by have:=(bN p).1 a;unfold eF upto at h;obtain⟨id,hid,rfl⟩:=qo.1 h;have:=qA.1 hid;exact⟨id,i4,i5⟩
theorem Full.can(F:Full m C ds)(S:dX m C ds)(g:m.drives≠[]){e:Qw.ci}(f:e∈m.objs):Ji m ds e=eR:=by
 unfold Ji;rw[qu];constructor
 ·unfold pK;rw[F.aN];obtain⟨k,c⟩:=List.exists_mem_of_ne_nil _ g;obtain⟨d,q,_,h3⟩:=F.live k c;exact zY.2 ⟨k,c,by unfold HU;rw[q];exact h3⟩
 ·refine qK.2 λi b=>?_;have b:=qA.1 b;obtain⟨K,H,w,n,B⟩:=S.eV f b;refine Kw B.may (ids:=eF m.p) (λj o=>?_) B.full;obtain⟨id,rfl,hid⟩:=WX S.DR o;have r:=((dZ m).1 ((cv m).1 S.may).1).2.2.2;have a:id<(m.p.1+m.extra).toNat:=i5
  obtain⟨k,c,d,l,h⟩:=F.all e f i b id a;exact S.afb f b (S.ZC a) (by rw[F.aN];exact c) l h
theorem Kx(m:aw)(d:aW)(N:Int):(cN m d N).lost=d.lost/\(cN m d N).room=d.room:=by unfold cN;split<;>exact⟨i4,i4⟩
theorem rh{t:au}{b:aM}{n:aw}{k:Int}{d:aW}(a:k∈aN ds m.drives):
  (oU m ds t b n k d).lost=d.lost/\(oU m ds t b n k d).room=d.room/\∃N,(oU m ds t b n k d).l=(cN m d N).l++((iw m m.next t (splitB m.p b) (aN ds m.drives) k (splitB m.p b).length).map cT++aX n):=by
 unfold oU;rw[g0 a];refine⟨by rw[(uQ _ _).1,(Kx _ _ _).1],by rw[(uQ _ _).2,(Kx _ _ _).2],_,Nz _ _⟩
theorem WY{n:aw}(b:bp n=eR){l1 l2:bY}(h:∀c∈aX n,c∈l2):iY n (l1++l2)=eR:=by unfold iY;rw[b,zS];exact qK.2 λc a=>hU (zP _ (h c a))
theorem Full.put(F:Full m C ds)(S:dX m C ds){name:ByteArray}{b:aM}{t:au}{g:aC}(L:de m (dn w offs) ds name b.length=0)(I:cA m.p m.next (splitB m.p b).length=dB t)
  (P:dX (dh m ⟨name,m.next,b.length,t⟩) (ig C m.next b) g) (l:∀k,aS g k=(aS ds k).map (oU m ds t b (dh m ⟨name,m.next,b.length,t⟩) k)):Full (dh m ⟨name,m.next,b.length,t⟩) (ig C m.next b) g:=by
 have a:=F.aN;obtain⟨R,T,z3,z4,z5⟩:=jO L;have y:m.drives≠[]:=by rw[<-a];exactλh=>z5 (.inl h)
 have z:m.next<=16777215:=by have:¬16777215<m.next:=λh=>z5 (.inr (.inl h));omega
 refine⟨λk j=>?_,λe q i s id hid=>?_⟩
 ·have j:k∈m.drives:=j;obtain⟨d,A,H,h3⟩:=F.live k j;obtain⟨u,G,N,r⟩:=rh (m:=m) (t:=t) (b:=b) (n:=dh m ⟨name,m.next,b.length,t⟩) (d:=d) (show k∈Qw.aN ds m.drives by rw[a];exact j);refine⟨_,by rw[l,A,qS],by rw[u];exact H,?_⟩;rw[r];exact WY P.may λc x=>zP _ x
 ·have hid:id<(m.p.1+m.extra).toNat:=hid;rcases kE.1 q with q|rfl
  ·have K:=S.old q;obtain⟨k,j,d,E,x⟩:=F.all e q i s id hid;obtain⟨u,G,N,r⟩:=rh (m:=m) (t:=t) (b:=b) (n:=dh m ⟨name,m.next,b.length,t⟩) (d:=d) (show k∈Qw.aN ds m.drives by rw[a];exact j);refine⟨k,j,_,by rw[l,E,qS],?_⟩;rw[r];have B:fL (dh m ⟨name,m.next,b.length,t⟩) (ig C m.next b) e.object i=fL m C e.object i:=HT i4 (by unfold ig;rw[g9 i5]);rw[B];exact zm _ (Zy S.may (S.cells k d E) x (nR (S.DV q s (S.ZC hid)) (jy _ _ _)) (S.counts q s (S.ZC hid)))
  ·have s:i<t.length:=s;have J:=jk I;have h8:=Ap S.DR λh=>z4 (.inl h);have v:=((dZ m).1 ((cv m).1 S.may).1).2.1.1;have O:(0:Int)<=(i:Int)/\(i:Int)<8:=⟨i5,i5⟩
   have M:=Tq (o:=m.next) (b:=(i:Int)) (live:=m.drives) ⟨v,z⟩ O (oC S.may) (iB S.may);obtain⟨Q,D⟩:=M;have one:dt m.next i m.drives≠[]:=λh=>by rw[h]at D;exact y (List.nil_perm.1 D)
   have f:fI (dt m.next i m.drives) id∈m.drives:=by rw[aeg one];exact D.mem_iff.1 (qf _)
   obtain⟨d,A,H,h3⟩:=F.live _ f;obtain⟨u,G,N,r⟩:=rh (m:=m) (t:=t) (b:=b) (n:=dh m ⟨name,m.next,b.length,t⟩) (d:=d) (show fI (dt m.next i m.drives) id∈Qw.aN ds m.drives by rw[a];exact f);refine⟨_,f,_,by rw[l,A,qS],?_⟩;rw[r];refine zP _ (zm _ (qo.2 ⟨_,?_,i4⟩));have B:fL (dh m ⟨name,m.next,b.length,t⟩) (ig C m.next b) m.next i=(splitB m.p b).getD i []:=by unfold fL ig;rw[g0 i4,qj];rfl
   show kW m m.next i (cb m.next i (t.getD i 0)) (fL (dh m ⟨name,m.next,b.length,t⟩) (ig C m.next b) m.next i) id∈_;rw[B,a];unfold iw;refine zO.2 ⟨i,qA.2 i5,?_⟩;unfold pI;exact qo.2 ⟨id,qC.2 ⟨qA.2 hid,hU i4⟩,i4⟩
theorem ZD{d:aW}{N:Int}{c:aM}(h:c∈(cN m d N).l):c∈d.l∨c∈aX m:=by
 unfold cN at h;split at h
 ·exact .inl h
 ·rcases qw.1 h with h|h
  ·exact .inr h
  ·obtain⟨r,a,rfl⟩:=qo.1 h;exact .inl (lp a).1
theorem WW.put(L:WW m ds)(S:dX m C ds){name:ByteArray}{b:aM}{t:au}{o:aC}(G:de m (dn w offs) ds name b.length=0)(z:cA m.p m.next (splitB m.p b).length=dB t)
  (v:∀k,aS o k=(aS ds k).map (oU m ds t b (dh m ⟨name,m.next,b.length,t⟩) k)):WW (dh m ⟨name,m.next,b.length,t⟩) o:=by
 obtain⟨K,O,z3,z4,z5⟩:=jO G;have s:m.next<=16777215:=by have:¬16777215<m.next:=λh=>z5 (.inr (.inl h));omega
 have A:=((dZ m).1 ((cv m).1 S.may).1)
 have h8:=Ap S.DR λh=>z4 (.inl h);have j:∀k e,aS ds k=dB e->∀c∈e.l,∀r,dg c=dB r->dz (dh m ⟨name,m.next,b.length,t⟩) r=eR->r.id<m.p.1+m.extra:=λk e h0 c g r a f=>by
  have E:=(S.cells k e h0 c g).old r a;obtain⟨B,F,x,u,c3,D⟩:=gY.1 f;rcases kE.1 u with u|rfl
  ·exact L k e h0 c g r a (gY.2 ⟨B,F,x,u,c3,D⟩)
  ·have:m.next=r.object:=c3;omega
 intro k d H c g r a f;show r.id<m.p.1+m.extra;obtain⟨e,h0,rfl⟩:=FZ v H;by_cases y:k∈aN ds m.drives
 ·obtain⟨_,_,N,I⟩:=rh (m:=m) (t:=t) (b:=b) (n:=dh m ⟨name,m.next,b.length,t⟩) (d:=e) y;rw[I]at g;rcases qw.1 g with h|h
  ·rcases ZD h with h|h
   ·exact j k e h0 c h r a f
   ·rw[ni h]at a;cases a
  ·rcases qw.1 h with h|h
   ·obtain⟨M,q,rfl⟩:=qo.1 h;obtain⟨i,id,rfl,J,hid⟩:=Hy q;rw[nR (IX S.may s h8 z J hid) (jy _ _ _)]at a;injection a with a
    subst a;show(id:Int)<_;omega
   ·rw[ni h]at a;cases a
 ·unfold oU at g;rw[g9 y]at g;exact j k e h0 c g r a f
theorem WZ{t:au}{b:aM}{live:au}{k:Int}{nb:Nat}:i0 (kF (dF m m.next t (splitB m.p b) live nb) k)<=nb*(m.p.1+m.extra).toNat:=by rw[Nx,qy];exact Pk m m.next t (splitB m.p b) live k nb
theorem acj{t:au}{b:aM}{live:au}{n:aw}(d:bp n=eR)(k:Int){nb c:Nat}(a:nb<=c):0<=jm (aX n).length (dF m m.next t (splitB m.p b) live nb) k/\jm (aX n).length (dF m m.next t (splitB m.p b) live nb) k<=((9+c*(m.p.1+m.extra).toNat:Nat):Int):=by have f:=WZ (m:=m) (t:=t) (b:=b) (live:=live) (k:=k) (nb:=nb);have e:=Wi d;have h3:=zq (m.p.1+m.extra).toNat a;rw[DC];omega
end
variable {s:Sl}
section
variable {pw:f7} {w:Pow}
end
structure Mv where
 kind:Int
 name:ByteArray
 data:aM
 slot:Int
 n:Int
 m:Int
 mask:Int
 keeps:au
 torns:au
def DW:List ByteArray:=[⟨#[97]⟩,⟨#[98]⟩,⟨#[99,97,116,45,55]⟩,⟨#[100]⟩,⟨#[101,49,50,51,52,53,54,55,56,57,48,49]⟩]
def oW(p:Int×Int×Int)(b:Mv):Prop:=
 (b.kind=1/\b.name∈DW/\(i0 b.data:Int)<=3*(p.1*p.2.2)+1)∨((b.kind=2∨b.kind=3∨b.kind=5)/\b.name∈DW)∨b.kind=4∨
 (b.kind=6/\(0<=b.slot/\b.slot<9)/\6<=b.n/\b.n<66)∨(b.kind=7/\0<=b.slot/\b.slot<8)∨(b.kind=8/\(0<=b.slot/\b.slot<8)/\6<=b.n/\b.n<66)∨(b.kind=9/\0<=b.slot/\b.slot<8)∨
 (b.kind=10/\(-1<=b.n/\b.n<=7)/\-1<=b.m/\b.m<=68)∨(b.kind=11/\(0<=b.slot/\b.slot<7)/\(0<=b.n/\b.n<40)/\(0<=b.m/\b.m<61)/\0<=b.mask/\b.mask<4294967296)
def Ob(b:Mv):Prop:=b=⟨b.kind,if b.kind=1∨b.kind=2∨b.kind=3∨b.kind=5 then b.name else⟨#[]⟩,if b.kind=1 then b.data else[],if b.kind=6∨b.kind=7∨b.kind=8∨b.kind=9∨b.kind=11 then b.slot else 0,
 if b.kind=6∨b.kind=8∨b.kind=10∨b.kind=11 then b.n else 0,if b.kind=10∨b.kind=11 then b.m else 0,if b.kind=11 then b.mask else 0,[],[]⟩
abbrev afz(s:ByteArray):aR:=[xC s]
abbrev HY:=Int×ByteArray×Sl×Int×Int×Int×Int×Sl×Sl
abbrev jB(x:HY):aR:=[xz xF x.1,xC x.2.1,x.2.2.1,xz xF x.2.2.2.1,xz xF x.2.2.2.2.1,xz xF x.2.2.2.2.2.1,xz xH x.2.2.2.2.2.2.1,x.2.2.2.2.2.2.2.1,x.2.2.2.2.2.2.2.2]
abbrev mvV(x:HY):Value:=xE #[xz xF x.1,xC x.2.1,x.2.2.1,xz xF x.2.2.2.1,xz xF x.2.2.2.2.1,xz xF x.2.2.2.2.2.1,xz xH x.2.2.2.2.2.2.1,x.2.2.2.2.2.2.2.1,x.2.2.2.2.2.2.2.2]
def gv:iF HY Mv:=⟨λh q a b=>(a.1=b.kind/\a.2.1=b.name/\a.2.2.2.1=b.slot/\a.2.2.2.2.1=b.n/\a.2.2.2.2.2.1=b.m/\a.2.2.2.2.2.2.1=b.mask/\a.2.2.1.len<=a.2.2.1.cap)/\Seq h q a.2.2.1 1 aB b.data/\Seq h q a.2.2.2.2.2.2.2.1 1 az b.keeps/\Seq h q a.2.2.2.2.2.2.2.2 1 az b.torns,
 λa c=>⟨a.1,a.2.1.ac c,a.2.2.1.ac c,a.2.2.2.ac c⟩,λa d=>⟨a.1,a.2.1.mono d,a.2.2.1.mono d,a.2.2.2.mono d⟩⟩
theorem aeu:∀x,∀c∈jB x,c.oneCell'=eR:=by intro x c a;simp[jB]at a;rcases a with rfl|rfl|rfl|rfl|rfl|rfl|rfl|rfl|rfl<;>rfl
abbrev afA:bO C.toxZ 39 9 1 [xC ⟨#[]⟩] 16:=⟨_,_,i4,i4,i4,i4,i4,i4⟩
abbrev zMv:aR:=[xz xF 0,xC ⟨#[]⟩,xA eH 0 0,xz xF 0,xz xF 0,xz xF 0,xz xH 0,xA eH 0 0,xA eH 0 0]
abbrev eMv:bO C.toxZ 32 37 9 zMv 128:=⟨_,_,i4,i4,i4,i4,i4,i4⟩
theorem sF(n:Int)(h:f9):ai xJ 31 #[xz xF n] h λv h'=>∃s∈DW,v=xC s/\Sp h h' []:=by refine ts Tryz.func31 ?_;refine(Sp.refl h).lit ag afz afA i4 DW i4 i6 j3 λc b a=>?_;refine(bQ n 5 b).mono ?_;rintro _ f ⟨rfl,rfl⟩;have e:=yk n (show(5:Int)≠0 by decide);have g:=wq n (show(0:Int)<5 by decide);have d:i0 DW=5:=rfl;refine⟨_,i4,(a.seq 0 i4 λ_=>rfl).bo (n%5).toNat i5 i5 (DW[(n%5).toNat]'(by omega)) i4 ⟨_,qf _,i4,.zip a.ac⟩⟩
theorem TQ(p:Pm)(k a b:Int)(h:f9)(L:bx p=eR):ai xJ 18 #[jv p,xz xF k,xz xF a,xz xF b] h λv h'=>∃(x:HY) (m:Mv),v=mvV x/\oW p m/\Ob m/\Sp h h' [EA gv x m]:=by
 refine um p k a b ?_;obtain⟨⟨K,R⟩,_,J,z2⟩:=(bN p).1 L;have M:1<=p.1*p.2.2/\p.1*p.2.2<=16*24:=⟨yf K J i5 i5,yf R z2 i5 i5⟩
 refine(Sp.refl h).boxed λT h1 Y=>Y.alloc ag i4 λa2 Z e=>?_;have fin:∀(kind slot n m c:Int) (name:ByteArray) {h':f9},Sp h h' [av T 25 [xz xF p.1,xz xF p.2.1,xz xF p.2.2],av a2 37 zMv]->oW p ⟨kind,name,[],slot,n,m,c,[],[]⟩->Ob ⟨kind,name,[],slot,n,m,c,[],[]⟩->
   aj xJ (qE 37 (xB (dB a2)) (xE #[xz xF kind,xC name,xA eH 0 0,xz xF slot,xz xF n,xz xF m,xz xH c,xA eH 0 0,xA eH 0 0])) h' λ_ f=>
    ∃r:HY,ba f a2 0 (jB r)/\∃(x:HY) (m:Mv),mvV r=mvV x/\oW p m/\Ob m/\Sp h f [EA gv x m]:=by
  intro kind slot n m c name h' U A P;refine U.storeAll ag 1 i4 i4 (jB (kind,name,⟨eH,0,0⟩,slot,n,m,c,⟨eH,0,0⟩,⟨eH,0,0⟩)) i4 i4 i4 i4 λf u=>?_;refine⟨(kind,name,⟨eH,0,0⟩,slot,n,m,c,⟨eH,0,0⟩,⟨eH,0,0⟩),(u.box 1 i4).aE _ i4,_,_,i4,A,P,?_⟩;have X:Sp h f []:=.zip u.ac;exact X.comp (.one (aP.refl _ _) ⟨⟨i4,i4,i4,i4,i4,i4,qk _⟩,Seq.nil _ _ _ _ _ _,Seq.nil _ _ _ _ _ _,Seq.nil _ _ _ _ _ _⟩)
 refine(bQ k 26 Z).mono ?_;rintro _ h3 ⟨rfl,rfl⟩;have k0:=yk k (show(26:Int)≠0 by decide);have k1:=wq k (show(0:Int)<26 by decide);have W:∀(x n:Int),0<n->0<=x%n/\x%n<n:=λx n Q=>⟨yk x i5,wq x Q⟩
 refine⟨_,i4,ae (λ_=>?_) λ_=>?_⟩
 ·refine⟨i6,p.1,(e.box 0 i4).cell0 i4,p.2.2,(e.box 0 i4).cell i4,(sF a h3).mono ?_⟩;rintro _ d ⟨s,j,rfl,i⟩;have w:=e.up i.ac;have S:qe xF ((qe xF ((qe xF ((3:Int)*p.1))*p.2.2))+(2:Int))=3*(p.1*p.2.2)+2:=by rw[af (3*p.1),Int.mul_assoc,af (3*(p.1*p.2.2)),af _]
  refine⟨s,i4,⟨(w.box 0 i4).cell i4,(w.box 0 i4).cell0 i4,trivial⟩,?_⟩;rw[S];refine(bQ _ (3*(p.1*p.2.2)+2) d i5 i5).mono ?_;rintro _ g ⟨rfl,rfl⟩;obtain⟨q,y⟩:∃q,q=qe xF (yn a 5)%(3*(p.1*p.2.2)+2):=⟨_,rfl⟩
  have D:=W (qe xF (yn a 5)) (3*(p.1*p.2.2)+2) i5;rw[<-y]at D⊢;obtain⟨N,I⟩:∃N:Nat,q=N:=⟨q.toNat,i5⟩
  subst I;refine⟨_,i4,⟨(w.box 0 i4).cell i4,(w.box 0 i4).cell0 i4,trivial⟩,(Tb N b g i5).mono ?_⟩;rintro _ O ⟨r,l,rfl,hl,F⟩;have B:=w.comp F;have t:=(F.own 0 i4).cap;refine⟨r,i4,⟨(B.box 0 i4).cell i4,(B.box 0 i4).cell0 i4,trivial⟩,?_⟩;refine B.storeAll ag 1 i4 i4 (jB (1,s,r,0,0,0,0,⟨eH,0,0⟩,⟨eH,0,0⟩)) i4 i4 i4 i4 λh7 G=>?_;refine⟨trivial,(1,s,r,0,0,0,0,⟨eH,0,0⟩,⟨eH,0,0⟩),(G.box 1 i4).aE _ i4,_,(⟨1,s,l,0,0,0,0,[],[]⟩:Mv),i4,.inl ⟨i4,j,i7⟩,i4,?_⟩;have H:=G.bX [2];exact H.fM 0 i4 λq y=>⟨⟨i4,i4,i4,i4,i4,i4,t⟩,y.1.seq (λ_=>rfl) y.2,Seq.nil _ _ _ _ _ _,Seq.nil _ _ _ _ _ _⟩
 refine ae (λ_=>(sF a h3).mono ?_) λ_=>ae (λ_=>(sF a h3).mono ?_) λ_=>bf (λ_=>?_) λ_=>bf (λ_=>(sF a h3).mono ?_) λ_=>bf (λ_=>?_) λ_=>bf (λ_=>?_) λ_=>bf (λ_=>?_) λ_=>bf (λ_=>?_) λ_=>ae (λ_=>?_) λ_=>bf (λ_=>?_) λ_=>?_
 ·rintro _ d ⟨s,j,rfl,i⟩;exact⟨s,i4,fin 2 0 0 0 0 s (e.up i.ac) (.inr (.inl ⟨.inl i4,j⟩)) i4⟩
 ·rintro _ d ⟨s,j,rfl,i⟩;exact⟨s,i4,fin 3 0 0 0 0 s (e.up i.ac) (.inr (.inl ⟨.inr (.inl i4),j⟩)) i4⟩
 ·exact fin 4 0 0 0 0 _ e (.inr (.inr (.inl i4))) i4
 ·rintro _ d ⟨s,j,rfl,i⟩;exact⟨s,i4,fin 5 0 0 0 0 s (e.up i.ac) (.inr (.inl ⟨.inr (.inr i4),j⟩)) i4⟩
 ·refine(bQ a 9 h3).mono ?_;rintro _ d ⟨rfl,rfl⟩;refine⟨_,i4,(bQ b 60 d).mono ?_⟩;rintro _ g ⟨rfl,rfl⟩;have o:=W a 9 i6;have E:=W b 60 i6;refine⟨_,i4,?_⟩
  try dsimp only
  rw[af (6+b%60)];exact fin 6 _ _ 0 0 _ e (.inr (.inr (.inr (.inl ⟨i4,o,i7,i7⟩)))) i4
 ·refine(bQ a 8 h3).mono ?_;rintro _ _ ⟨rfl,rfl⟩;exact⟨_,i4,fin 7 _ 0 0 0 _ e (.inr (.inr (.inr (.inr (.inl ⟨i4,W a 8 i6⟩))))) i4⟩
 ·refine(bQ a 8 h3).mono ?_;rintro _ d ⟨rfl,rfl⟩;refine⟨_,i4,(bQ b 60 d).mono ?_⟩;rintro _ g ⟨rfl,rfl⟩;have o:=W a 8 i6;have E:=W b 60 i6;refine⟨_,i4,?_⟩
  try dsimp only
  rw[af (6+b%60)];exact fin 8 _ _ 0 0 _ e (.inr (.inr (.inr (.inr (.inr (.inl ⟨i4,o,i7,i7⟩)))))) i4
 ·refine(bQ a 8 h3).mono ?_;rintro _ _ ⟨rfl,rfl⟩;exact⟨_,i4,fin 9 _ 0 0 0 _ e (.inr (.inr (.inr (.inr (.inr (.inr (.inl ⟨i4,W a 8 i6⟩))))))) i4⟩
 ·refine(bQ a 3 h3).mono ?_;rintro _ d ⟨rfl,rfl⟩;refine⟨_,i4,(bQ b 20 d).mono ?_⟩;rintro _ g ⟨rfl,rfl⟩;have o:=W a 3 i6;have E:=W b 20 i6;exact⟨_,i4,fin 10 0 _ _ 0 _ e (.inr (.inr (.inr (.inr (.inr (.inr (.inr (.inl ⟨i4,i7,i7,i7⟩)))))))) i4⟩
 ·refine(bQ a 9 h3).mono ?_;rintro _ d ⟨rfl,rfl⟩;refine⟨_,i4,(bQ b 70 d).mono ?_⟩;rintro _ g ⟨rfl,rfl⟩;have o:=W a 9 i6;have E:=W b 70 i6;refine⟨_,i4,?_⟩
  try dsimp only
  rw[af (a%9-1),af (b%70-1)];exact fin 10 0 _ _ 0 _ e (.inr (.inr (.inr (.inr (.inr (.inr (.inr (.inl ⟨i4,i7,i7,i7⟩)))))))) i4
 ·refine(bQ a 7 h3).mono ?_;rintro _ d ⟨rfl,rfl⟩;refine⟨_,i4,i6,(bQ _ 40 d).mono ?_⟩;rintro _ g ⟨rfl,rfl⟩;refine⟨_,i4,(bQ b 61 g).mono ?_⟩;rintro _ O ⟨rfl,rfl⟩;have V:∀z:Int,0<=qe xH z/\qe xH z<4294967296:=λz=>by rw[Jy];have:=(qN 32 z).isLt;omega
  exact⟨_,i4,fin 11 _ _ _ _ _ e (.inr (.inr (.inr (.inr (.inr (.inr (.inr (.inr ⟨i4,W a 7 i6,W _ 40 i6,W b 61 i6,V _⟩)))))))) i4⟩
theorem Xa(p:Pm)(k a b:Int)(h:f9)(c:bx p=eR):ai xJ 18 #[jv p,xz xF k,xz xF a,xz xF b] h λv h'=>∃(x:HY) (m:Mv),v=mvV x/\oW p m/\Sp h h' [EA gv x m]:=
 (TQ p k a b h c).mono λ_ _ ⟨x,m,e,o,_,H⟩=>⟨x,m,e,o,H⟩
theorem TR(p:Pm)(s:Sl)(l:au)(most:Nat)(h:f9)(J:bx p=eR)(g:Rd h s 1 az l)(Y:most<=100):
  ai xJ 8 #[jv p,s,xz xF most,xD eS] h λv h'=>∃(r:Sl) (L:List Mv),v=r/\(∀m∈L,oW p m)/\L.length<=most/\Sp h h' [ck 37 r 9 jB gv L]:=by
 refine tI p s most eS ?_;have N:=g.len;refine(Sp.refl h).boxed λz W O=>?_;have fin:∀{h':f9} (r:Sl) (L:List Mv),(∀m∈L,oW p m)->i0 L<=most->Sp h h' [av z 25 [xz xF p.1,xz xF p.2.1,xz xF p.2.2],ck 37 r 9 jB gv L]->∃(j:Sl) (L:List Mv),(Value.slice r.ptr r.len r.cap)=xA j.ptr j.len j.cap/\(∀m∈L,oW p m)/\L.length<=most/\Sp h h' [ck 37 j 9 jB gv L]:=λr L i G M=>⟨r,L,i4,i,G,M.bX [1]⟩
 refine aO ?_;refine aq (λt:Sl×List Mv=>(t.1,((3*i0 t.2:Nat):Int))) (λt h'=>(∀m∈t.2,oW p m)/\t.2.length<=most/\Sp h h' [av z 25 [xz xF p.1,xz xF p.2.1,xz xF p.2.2],ck 37 t.1 9 jB gv t.2]) (λt=>most-i0 t.2) (⟨eH,0,0⟩,[]) i4 ⟨jj,jj,O.Co 37 9 jB gv⟩ ?_;rintro⟨o,L⟩ P ⟨b,B,d⟩;dsimp only at b B d⊢;obtain⟨k,A⟩:∃k,k=i0 L:=⟨_,rfl⟩
 rw[<-A]at B⊢;obtain⟨X,U⟩:=d.RP 1 rfl;refine aO ?_;rw[af (((3*k:Nat):Int)+2)];refine ae (λV=>?_) λ_=>fin o L b i5 d;refine ae (λR=>?_) λ_=>fin o L b i5 d;have I:3*k+2<i0 l:=i5
 have Q:k<most:=i5
 refine aO (aO (bc (λe=>j1) λ_=>bc (λe=>j1) λ_=>?_));have c:=g.up d.ac;obtain⟨F,E,i,_,_⟩:=g.elem (3*k) l[3*k] (qc i5);have a:∀{h':f9},Rd h' s 1 az l->f8 h' ((⟨F,E,eH⟩:f7).add (((3*k:Nat):Int).toNat*1))=dB (xz xF l[3*k]):=λ{h'} hr=>by
  obtain⟨S,y,f,_,u3⟩:=hr.elem (3*k) l[3*k] (qc i5);rw[i]at f;injection f with f
  injection f with f u2
  subst f;subst u2;rw[qj,add_eq];have w:=u3.1;rw[add_eq,wJ]at w;exact w
 refine⟨p,(d.box 0 i4).aE _ i4,⟨F,E,eH⟩,⟨i,i5,i5⟩,l[3*k],a c,i6,?_⟩;rw[af (((3*k:Nat):Int)+1)];refine c.bo (3*k+1) i5 i5 l[3*k+1] i4 ?_;refine c.bo (3*k+2) i5 i5 l[3*k+2] i4 ?_;refine(Xa p _ _ _ P J).mono ?_;rintro _ h3 ⟨x,m,rfl,u,H⟩;have n:=d.comp H;refine⟨x,i4,⟨a (g.up n.ac),trivial⟩,?_⟩;refine n.nN ag jB eMv i4 [x] i4 (show 1*9<=2^20 by decide) j3 ⟨a (g.up n.ac),trivial⟩ ?_;refine n.pQ ag 1 2 i6 i4 i4 eMv i4 i6 (λ_=>rfl) aeu j3 i6 i5 λy T D=>?_;refine⟨⟨a (g.up D.ac),trivial⟩,(y,L++[m]),?_,⟨λK q=>?_,lz,D.bX [0,1]⟩,lz⟩
 ·try dsimp only
  rw[af (((3*k:Nat):Int)+3),qp,<-A];rfl
 ·rcases qw.1 q with h|h
  ·exact b K h
  ·rw[qx.1 h];exact u
theorem oW.put{p:Pm}{b:Mv}(h:oW p b)(a:b.kind=1):b.name∈DW/\(i0 b.data:Int)<=3*(p.1*p.2.2)+1:=by
 unfold oW at h;rw[a]at h;rcases h with h|h|h|h|h|h|h|h|h
 ·exact h.2
 ·exact absurd h.1 i6
 ·exact absurd h i6
 all_goals exact absurd h.1 i6
theorem ZE:∀s∈DW,s.size<=12:=j4
theorem ack{p:Pm}{extra:Int}{l:au}(e:bx p=eR)(f:0<=extra/\extra<=16)(j:1<=i0 l/\l.length<=24)(h:∀x∈l,1<=x/\x<=512):
  pH p extra l=0/\be l l.length=(qt l.length).map λi:Nat=>(i:Int):=by
 have d:∀i (a:i<i0 l),1<=l.getD i 0/\l.getD i 0<=512:=λi a=>by rw[fh 0 a];exact h _ (qf a)
 have h0:be l l.length=(qt l.length).map λi:Nat=>(i:Int):=by unfold be;refine wD.2 λy b=>?_;obtain⟨i,a,rfl⟩:=qo.1 b;have a:=qA.1 a;have:=d i a;rw[qj];exact hU i5
 refine⟨?_,h0⟩;have g:(fy l).2=eR:=by have c:l.all (fz · 0 512)=eR:=qK.2 λy b=>(lU _ _ _).2 ⟨by have:=h y b;omega,(h y b).2⟩;unfold fy;rw[g0 c,h0];simp;omega
 have k:fz extra 0 16=eR:=(lU _ _ _).2 f;have h3:((be l l.length).any λi=>decide (l.getD i.toNat 0<(i0 (aX (cC p extra l)):Int)))=eS:=by refine wL.2 λy b=>?_;rw[h0]at b;obtain⟨i,a,rfl⟩:=qo.1 b;have a:=qA.1 a;have m:=KQ p extra l j.2;have:=d i a;rw[qj,decide_eq_true_eq];omega
 unfold pH;rw[g,e,k,h3];rfl
theorem Ky{p:Pm}{extra:Int}{l:au}{D:aC}{m:aw}(n:m=cC p extra l)(v:pH p extra l=0)(w:i0 l<=64)(i:i0 D=64)
  (q:∀s,aS D s=if s∈be l l.length then dB ⟨(l.getD s.toNat 0).toNat,aX m,0,[],eS,eS⟩else eH) (C:Int->aM):dX m C D/\Full m C D/\WW m D:=by
 have b:bp m=eR:=by rw[n];exact Nr w v
 have j:m.drives=be l l.length:=by rw[n];rfl
 have o:m.objs=[]:=by rw[n];rfl
 have f:∀k d,aS D k=dB d->∀c∈d.l,c∈aX m:=λk d a c f=>by
  rw[q]at a;split at a
  ·injection a with a;subst a;exact f
  ·cases a
 refine⟨⟨b,i,λk d a c h=>EE C b (f k d a c h),λe g=>by rw[o]at g;cases g⟩,⟨λk u=>?_,λe g=>by rw[o]at g;cases g⟩,λk d a c h r t=>?_⟩
 ·rw[j]at u;refine⟨_,by rw[q,g0 u],i4,?_⟩;unfold iY;rw[b,zS];exact qK.2 λc f=>hU f
 ·rw[ni (f k d a c h)]at t;cases t
structure Inv (m:aw) (C:Int->aM) (ds:aC) (N:Nat):Prop where
 sto:dX m C ds
 full:Full m C ds
 low:WW m ds
 nm:∀e∈m.objs,e.name∈DW
 dr:m.drives≠[]
 seq:m.seq<=1+N
 nx:m.next<=N
theorem Inv.put{m:aw}{C:Int->aM}{ds:aC}{N:Nat}{name:ByteArray}{b:aM}(I:Inv m C ds N)(d:name∈DW):
  (∃e,e≠0/\cY m 0 Pow.new ds name b=(e,m,Pow.new,ds))∨(de m eS ds name b.length=0/\∃t a,cA m.p m.next (splitB m.p b).length=dB t/\cY m 0 Pow.new ds name b=(0,dh m ⟨name,m.next,i0 b,t⟩,Pow.new,a)/\Inv (dh m ⟨name,m.next,i0 b,t⟩) (ig C m.next b) a (N+1)):=by
 rcases Jh (offs:=0) (name:=name) (b:=b) jP I.sto with⟨h,_⟩|⟨hr,t,a,ht,c,S',hds⟩
 ·exact .inl h
 ·refine .inr ⟨hr,t,a,ht,c,S',I.full.put I.sto hr ht S' hds,I.low.put I.sto hr ht hds,λe c=>?_,I.dr,?_,?_⟩
  ·rcases kE.1 c with c|rfl
   ·exact I.nm e c
   ·exact d
  ·have:=I.seq;show m.seq+1<=_;omega
  ·have:=I.nx;show m.next+1<=_;omega
theorem Inv.get{m:aw}{C:Int->aM}{ds:aC}{N:Nat}(I:Inv m C ds N){e:Qw.ci}(a:e∈m.objs):ij m 0 Pow.new ds e.name=(C e.object,0):=by rw[(I.sto.get i4 e.name).1 e a i4,g0 (I.full.can I.sto I.dr a)]
section
variable {pw:f7} {w:Pow}
end
theorem acl{B:ak}{g h:f9}{As:List HP}{a pw:f7}{offs:Int}{f:List bK}{w:Pow}{ds:aC}{m:aw}(name:ByteArray)(e:bp m=eR)(H:aa B g h (bv a pw f offs w ds m::As)):
  ai xJ 34 #[xB (dB a),xC name] h λv h'=>∃r:Sl,v=.tuple #[r,xz xF (ij m offs w ds name).2]/\Sp h h' [EA (cw 1 aB) r (ij m offs w ds name).1]:=by
 have b:=(mE H).2;obtain⟨x,i⟩:=gE H;exact Zz x name e (λk d c=>qY (b k d c).1 (b k d c).2.1) i
variable {L:List bK}
section
variable {pw:f7} {w:Pow}
theorem Oc(y:DT)(o:y.1=2)(l:bp m=eR)(H:aa B h0 h (bv a pw da offs w ds m::av b 60 (Ln q (dB a) L)::As)):
  ai xJ 19 #[xB (dB b),BB y] h λv h'=>∃r:Sl,v=CX ((ij m offs w ds y.2.1).2,r,fj,0,0,0,fj,0)/\Sp h h' [EA (cw 1 aB) r (ij m offs w ds y.2.1).1]:=by
 refine ts Tryz.func19 ?_ (.two .n (.two (.join [] [(5,78)] .n) .n)) (args:=[(dB b),y]);have c:=H.box 1 i4;refine(Sp.refl h).boxed λG D s=>?_;refine s.alloc ag i4 λa2 I d=>?_;have f:=c.ac d.ac c.lt;obtain⟨E,g⟩:∃E,E=ij m offs w ds y.2.1:=⟨_,rfl⟩
 refine bE (λ_ h'=>∃r:Sl,Sp h h' [av a2 43 (jV (E.2,r,fj,0,0,0,fj,0)),EA (cw 1 aB) r E.1]) ?_ ?_
 ·refine⟨y.1,(d.box 0 i4).cell0 i4,?_⟩;rw[o];refine bf (λe=>absurd e i6) λ_=>bf (λ_=>?_) λe=>absurd i4 e;refine⟨b,i4,dB a,f.cell i4,y.2.1,(d.box 0 i4).cell i4,(acl y.2.1 l (H.up d.ac)).mono ?_⟩;rw[<-g];rintro _ h3 ⟨r,rfl,k⟩;have p:=d.comp k;refine⟨(r,E.2),i4,trivial,?_⟩;refine p.store ag 1 i4 i4 1 [r] i4 i4 i4 jj λx t=>⟨trivial,?_⟩
  refine t.gA ag 1 i4 i4 [xz xF E.2] i4 i4 i4 jj λz u=>⟨trivial,r,?_⟩
  exact u.bX [1,2]
 ·rintro _ A ⟨r,i⟩;refine⟨(E.2,r,fj,0,0,0,fj,0),(i.box 0 i4).aE _ i4,i.storeAll ag 0 i4 i4 (jV (E.2,r,fj,0,0,0,fj,0)) i4 i4 i4 i4 λF j=>?_⟩;exact⟨(E.2,r,fj,0,0,0,fj,0),(j.box 0 i4).aE _ i4,r,by rw[<-g],by rw[<-g];exact j.bX [1]⟩
theorem HZ(y:DT)(f:y.1=2)(k:bp m=eR)(H:aa B h0 h (bv a pw da offs w ds m::av b 60 (Ln q (dB a) L)::As)):
  ai xJ 9 #[xB (dB b),BB y] h λv h'=>∃r:Sl,v=CX ((ij m offs w ds y.2.1).2,r,fj,0,0,0,fj,0)/\Sp h h' [EA (cw 1 aB) r (ij m offs w ds y.2.1).1]:=by
 refine ts Tryz.func9 ?_ (.two .n (.two .n (.two (.join [] [(8,101)] (.two .n (.inn (.two (.join [(11,nV)] [(11,17)] .n) .n)))) .n))) (args:=[(dB b),y]);refine(Sp.refl h).boxed λs p l=>?_;refine l.alloc ag i4 λa2 t c=>bc (λe=>j1) λ_=>aO ?_;refine⟨y.1,(c.box 0 i4).cell0 i4,aO ?_⟩;rw[f];refine bf (λe=>absurd e i6) λ_=>bf (λ_=>?_) λe=>absurd i4 e;refine bc (λ_=>?_) λe=>j1
 refine⟨y,(c.box 0 i4).aE _ i4,(Oc y f k (H.up c.ac)).mono ?_⟩;obtain⟨E,j⟩:∃E,E=ij m offs w ds y.2.1:=⟨_,rfl⟩
 rw[<-j];rintro _ h3 ⟨r,rfl,i⟩;obtain⟨Y,d⟩:∃Y:Bd,Y=(E.2,r,fj,0,0,0,fj,0):=⟨_,rfl⟩
 rw[<-d];refine⟨Y,i4,(c.comp i).storeAll ag 1 i4 i4 (jV Y) i4 i4 i4 i4 λo g=>?_⟩;exact⟨Y,(g.box 1 i4).aE _ i4,r,by rw[<-d],g.bX [2]⟩
end
variable {v:f7}
section
variable {pw:f7} {w:Pow}
end
end Go.Qw
