/- Lemmas for the proof of the law; no condition. -/
import Derived.Test.YtmobnmonkaacaaaGreatDoorKC
set_option maxHeartbeats 2000000
set_option linter.unusedVariables false
set_option maxHeartbeats 4000000
set_option linter.unusedSimpArgs false
open Go.Proofs.Tryz renaming prog -> xR
open List renaming drop -> wS, eq_replicate_iff -> vg, findIdx_eq -> vD, findIdx_getElem -> vn, findIdx_lt_length -> w9, getElem?_zip_eq_some -> yd, length_eq_zero_iff -> yt, mem_iff_getElem? -> wR, not_of_lt_findIdx -> y7, range -> qy, replicate -> qh, zipWith -> zl, zip_append -> xu
open Go.Value renaming agg -> xM, bool -> xL, int -> xH, pointer -> xJ, slice -> xI, string -> xK
open Go.IntKind renaming bits -> qq, i64 -> xN, signed -> yA, u32 -> xP, u64 -> xQ, u8 -> xO, wrap -> qc
open Option renaming some -> wb
open Int renaming fdiv -> zo, tdiv -> yg
open Prod renaming fst -> qA, snd -> zh
open Go.Instr renaming slice -> xG, sliceAt -> w5, sliceBounds -> zZ, storeAt -> qD
open BitVec renaming ofInt -> qG
open UInt8 renaming ofNat -> zI
set_option maxRecDepth 100000
open Option renaming some -> dB, none -> eH
open Bool renaming true -> eX, false -> eY
open Go renaming Addr -> hU
open Go.Qw renaming cellOf -> hY, Heap -> m5
open List renaming length -> n4
open Go.Qw.cg renaming two -> G0, n -> G6, inn -> G7, loop -> G9, tn -> HF, lp -> I0, jn -> I1
namespace Go.Qw
open Go.Proofs
variable {B:au} {h0 h:m5} {As:List HP}
theorem Dy{α:Type}{g:α->Bool}{l:List α}{i:Nat}(h:i<n4 l)(a:∀j (b:j<n4 l),j<i->g l[j]=eY)(c:g l[i]=eX):l.findIdx g=i:=by rw[vD h];exact⟨c,λj b=>a j n7 b⟩
theorem OT(s:Sl)(l:aC)(b:FuncId)(a:Array Value)(g:Int->Bool)(Q:m5->Prop)(z:C.fns[b]?=dB eX)(A:St B h0 As Q)(o:∀x h',Q h'->ak xR b ([Value.int .i64 x]++a.toList).toArray h' λv p=>v=xL (g x)/\Sp h' p [])(H:aa B h0 h (ai 3 s 1 ar l::As))(E:n4 l<=2^20):
  ak xR 206 #[s,.func (.func b) #[] a] h λv h'=>v=xH xN (if l.findIdx g<n4 l then(l.findIdx g:Int)else-1)/\aa B h0 h' (ai 3 s 1 ar l::As):=by
 refine iJ s (b,#[],a) ?_;have w:=(H.own 0 n5).len;refine aj (λi:Nat=>(i:Int)) (λi h'=>aa B h0 h' (ai 3 s 1 ar l::As)/\i<=n4 l/\∀j (m:j<n4 l),j<i->g l[j]=eY) (λi=>n4 l-i) 0 n5 ⟨H,n7,λj _ m=>n7⟩ ?_;rintro i y ⟨k,F,c⟩;refine ae (λe=>?_) (λe=>?_)
 .have d:i<n4 l:=n7
  refine(k.seq 0 n5 λ_=>rfl).aV i n5 d _ n5 ?_;refine fv z ?_;refine(o l[i] y (A.at [_] k)).I3 λD t=>⟨_,n5,aT (λq=>?_) λq=>?_⟩
  .rw[Dy d c q,m6 d];exact⟨n5,k.up t.ac⟩
  .refine⟨i+1,o0,⟨k.up t.ac,n7,λj m r=>?_⟩,n7⟩;rcases q8.1 r with h3|rfl
   .exact c j m h3
   .exact q
 .have f:¬l.findIdx g<n4 l:=by rw[w9];rintro⟨x,u,n⟩;obtain⟨j,m,rfl⟩:=qE u;rw[c j m n7]at n;cases n
  rw[nq f];exact⟨n5,k⟩
theorem SK{α:Type}{g:α->Bool}{l:List α}{j:Nat}(h:j<l.findIdx g)(a:j<n4 l):g l[j]=eY:=by simpa using y7 h
structure ms {α:Type} (g:α->Bool) (l l':List α) (i j:Nat):Prop where
 len:n4 l'=n4 l
 le:i<=j
 pre:l'.take i=(l.take j).filter λx=>!g x
 post:l'.drop j=l.drop j
theorem ms.start{α:Type}{g:α->Bool}{l:List α}{i:Nat}(h:i<n4 l)(b:l.findIdx g=i):ms g l l i (i+1):=by
 refine⟨n5,n7,?_,n5⟩;have a:g l[i]=eX:=by have:=vn (xs:=l) (p:=g) (w:=by rw[b];exact h);simpa[b]using this
 rw[az _ _ h,zg,zx,a];have:(l.take i).filter (λx=>!g x)=l.take i:=yQ.2 λx c=>by
  obtain⟨j,d,rfl⟩:=qE c;simp only[qw]at d;rw[zF,SK (g:=g) (l:=l) (j:=j) n7 n7];rfl
 rw[this];simp
theorem ms.at_{α:Type}{g:α->Bool}{l b:List α}{i j:Nat}(x:ms g l b i j)(a:j<n4 l):b[j]'(by rw[x.len];exact a)=l[j]:=by have h:=congrArg (λm=>m[0]?) x.post;simp only[wJ,ym]at h;rw[qd a,qd (by rw[x.len];exact a)]at h;exact wb.inj h
theorem ms.keep{α:Type}{g:α->Bool}{l a:List α}{i j:Nat}(x:ms g l a i j)(f:j<n4 l)(d:g l[j]=eY):ms g l (a.set i l[j]) (i+1) (j+1):=by
 have c:=x.len;have e:=x.le;refine⟨B9,n7,?_,?_⟩
 .rw[az _ _ oi,List.getElem_set_self,List.take_set_of_le (qj _),x.pre,az _ _ f,zg,zx,d];rfl
 .rw[List.drop_set_of_lt n7];have b:=congrArg (wS 1) x.post;simpa[wm]using b
theorem ms.skip{α:Type}{g:α->Bool}{l a:List α}{i j:Nat}(x:ms g l a i j)(f:j<n4 l)(d:g l[j]=eX):ms g l a i (j+1):=by
 have c:=x.len;have e:=x.le;refine⟨c,n7,?_,?_⟩
 .rw[x.pre,az _ _ f,zg,zx,d];simp
 .have b:=congrArg (wS 1) x.post;simpa[wm]using b
theorem filter_all{α:Type}{g:α->Bool}{l:List α}(h:¬l.findIdx g<n4 l):l.filter (λx=>!g x)=l:=yQ.2 λx a=>by
 have:g x=eY:=by
  cases hh:g x with
  |false=>rfl
  |true=>exact absurd (w9.2 ⟨x,a,hh⟩) h
 rw[this];rfl
theorem Nk(s:Sl)(l:aC)(b:FuncId)(a:Array Value)(g:Int->Bool)(Q:m5->Prop)(A:C.fns[b]?=dB eX)(D:St B h0 As Q)(f:∀x h',Q h'->ak xR b ([Value.int .i64 x]++a.toList).toArray h' λv u=>v=xL (g x)/\Sp h' u [])(H:aa B h0 h (ai 3 s 1 ar l::As))(K:n4 l<=2^20):
  ak xR 290 #[s,.func (.func b) #[] a] h λv h'=>∃r:Sl,v=r/\aa B h0 h' (ai 3 r 1 ar (l.filter λx=>!g x)::As):=by
 refine ts Tryz.func290 ?_ (HF (HF (HF (I0 [(5,aI),(6,aI)] [(5,8),(16,36)])))) (args:=[s,(.func (.func b) #[] a)]);refine(OT s l b a g Q A D f H K).I3 λR z=>?_;have G:=(H.own 0 n5).len;have J:=(H.own 0 n5).cap;refine⟨_,n5,be (λe=>?_) λe=>?_⟩
 .have q:¬l.findIdx g<n4 l:=λm=>by rw[m6 m]at e;omega
  exact⟨s,n5,by rw[filter_all q];exact z⟩
 .have c:l.findIdx g<n4 l:=by
   by_cases m:l.findIdx g<n4 l
   .exact m
   .rw[nq m]at e;exact absurd n5 e
  rw[m6 c];refine aj (λt:Nat×Nat×aC=>((t.1:Int),(t.2.1:Int))) (λt h'=>ms g l t.2.2 t.1 t.2.1/\t.2.1<=n4 l/\aa B h0 h' (ai 3 s 1 ar t.2.2::As)) (λt=>n4 l-t.2.1) (l.findIdx g,l.findIdx g+1,l) o0 ⟨ms.start c n5,n9,z⟩ ?_;rintro⟨i,j,y⟩ F ⟨M2,P,k⟩;dsimp only at*;have N:=M2.len;have L:=M2.le;refine ae (λM=>?_) (λM=>?_)
  .have d:j<n4 l:=n7
   refine(k.seq 0 n5 λ_=>rfl).aV j n5 n7 _ n5 ?_;rw[M2.at_ d];refine fv A ?_;refine(f l[j] F (D.at [_] k)).I3 λh3 E=>?_;have o:=k.up E.ac;refine⟨_,n5,aH (λp=>?_) λp=>?_⟩
   .refine o.set ag 0 n5 (λ_=>rfl) n5 i n5 n7 l[j] n5 n5 n5 λO I=>?_;exact⟨(i+1,j+1,y.set i l[j]),by dsimp only;rw[af _,af _];rfl,⟨M2.keep d B3,n9,I⟩,n9⟩
   .exact⟨(i,j+1,y),oj,⟨M2.skip d B3,n9,o⟩,n9⟩
  .have w:j=n4 l:=n7
   subst w;refine⟨⟨n7,n7⟩,?_⟩;rw[qi];refine k.nY ag 0 n5 fu (λ_=>rfl) n5 n8 i n7 λh3 o=>⟨⟨n7,n7⟩,⟨s.ptr,i,s.cap⟩,n5,?_⟩
   have:=M2.pre;rw[qt]at this;rw[<-this];exact o
abbrev acu:bS C.toAg 257 326 2 [xH xN 0,xH xN 0] 16:=⟨_,_,n5,n5,n5,n5,n5,n5⟩
theorem OU(s:Sl)(l:List (Int×Int))(b:FuncId)(a:Array Value)(g:Int×Int->Bool)(Q:m5->Prop)(A:C.fns[b]?=dB eX)(D:St B h0 As Q)(p:∀x h',Q h'->ak xR b ([Value.agg #[xH xN x.1,xH xN x.2]]++a.toList).toArray h' λv q=>v=xL (g x)/\Sp h' q [])(H:aa B h0 h (ai 326 s 2 fX l::As))(F:n4 l<=2^20):
  ak xR 341 #[s,.func (.func b) #[] a] h λv h'=>v=xH xN (if l.findIdx g<n4 l then(l.findIdx g:Int)else-1)/\aa B h0 h' (ai 326 s 2 fX l::As):=by
 refine ts Tryz.func341 ?_ (HF (I0 [(8,aI)] [(4,6),(8,19)])) (args:=[s,(.func (.func b) #[] a)]);have y:=(H.own 0 n5).len;refine aj (λi:Nat=>(i:Int)) (λi h'=>aa B h0 h' (ai 326 s 2 fX l::As)/\i<=n4 l/\∀j (m:j<n4 l),j<i->g l[j]=eY) (λi=>n4 l-i) 0 n5 ⟨H,n7,λj _ m=>n7⟩ ?_;rintro i z ⟨k,G,c⟩;refine ae (λe=>?_) (λe=>?_)
 .have d:i<n4 l:=n7
  refine(k.seq 0 n5 λ_=>rfl).cG (g:=fX) i n5 d l[i] n5 ?_;refine fv A ?_;refine(p l[i] z (D.at [_] k)).I3 λE u=>⟨_,n5,aT (λr=>?_) λr=>?_⟩
  .rw[Dy d c r,m6 d];exact⟨n5,k.up u.ac⟩
  .refine⟨i+1,o0,⟨k.up u.ac,n7,λj m t=>?_⟩,n7⟩;rcases q8.1 t with h3|rfl
   .exact c j m h3
   .exact r
 .have f:¬l.findIdx g<n4 l:=by rw[w9];rintro⟨x,w,o⟩;obtain⟨j,m,rfl⟩:=qE w;rw[c j m n7]at o;cases o
  rw[nq f];exact⟨n5,k⟩
theorem Nl(s:Sl)(l:List (Int×Int))(b:FuncId)(a:Array Value)(g:Int×Int->Bool)(Q:m5->Prop)(F:C.fns[b]?=dB eX)(G:St B h0 As Q)(k:∀x h',Q h'->ak xR b ([Value.agg #[xH xN x.1,xH xN x.2]]++a.toList).toArray h' λv w=>v=xL (g x)/\Sp h' w [])(H:aa B h0 h (ai 326 s 2 fX l::As))(K:n4 l<=2^20):
  ak xR 288 #[s,.func (.func b) #[] a] h λv h'=>∃r:Sl,v=r/\aa B h0 h' (ai 326 r 2 fX (l.filter λx=>!g x)::As):=by
 refine ts Tryz.func288 ?_ (HF (HF (HF (I0 [(5,aI),(6,aI)] [(5,8),(16,36)])))) (args:=[s,(.func (.func b) #[] a)]);refine(OU s l b a g Q F G k H K).I3 λT E=>?_;have I:=(H.own 0 n5).len;have J:=(H.own 0 n5).cap;refine⟨_,n5,be (λe=>?_) λe=>?_⟩
 .have u:¬l.findIdx g<n4 l:=λo=>by rw[m6 o]at e;omega
  exact⟨s,n5,by rw[filter_all u];exact E⟩
 .have d:l.findIdx g<n4 l:=by
   by_cases o:l.findIdx g<n4 l
   .exact o
   .rw[nq o]at e;exact absurd n5 e
  rw[m6 d];refine aj (λt:Nat×Nat×List (Int×Int)=>((t.1:Int),(t.2.1:Int))) (λt h'=>ms g l t.2.2 t.1 t.2.1/\t.2.1<=n4 l/\aa B h0 h' (ai 326 s 2 fX t.2.2::As)) (λt=>n4 l-t.2.1) (l.findIdx g,l.findIdx g+1,l) o0 ⟨ms.start d n5,n9,E⟩ ?_;rintro⟨i,j,D⟩ P ⟨M2,R,q⟩;dsimp only at*;have N:=M2.len;have L:=M2.le;refine ae (λM=>?_) (λM=>?_)
  .have f:j<n4 l:=n7
   refine(q.seq 0 n5 λ_=>rfl).cG (g:=fX) j n5 n7 l[j] (by rw[M2.at_ f]) ?_;refine q.alloc ag n5 λa5 h3 c=>?_;have c:=c.bc;refine c.storeAll ag 0 n5 n5 (fX l[j]) n5 n5 n5 n5 λA m=>?_;refine⟨l[j],(m.box 0 n5).aw _ n5,?_⟩;refine fv F ?_;refine(k l[j] A (G.at [_,_] m)).I3 λS O=>?_;have z:=m.up O.ac;have c:=z.oA;refine⟨_,n5,aH (λp=>?_) λp=>?_⟩
   .refine⟨l[j],(z.box 0 n5).aw _ n5,?_⟩;refine c.set ag 0 n5 (λ_=>rfl) n5 i n5 n7 l[j] n5 n5 n5 λA m=>?_;exact⟨(i+1,j+1,D.set i l[j]),by dsimp only;rw[af _,af _];rfl,⟨M2.keep f B3,n9,m⟩,n9⟩
   .exact⟨(i,j+1,D),oj,⟨M2.skip f B3,n9,c⟩,n9⟩
  .have y:j=n4 l:=n7
   subst y;refine⟨⟨n7,n7⟩,?_⟩;rw[qi];refine q.nY ag 0 n5 acu (λ_=>rfl) n5 n8 i n7 λh3 c=>⟨⟨n7,n7⟩,⟨s.ptr,i,s.cap⟩,n5,?_⟩
   have:=M2.pre;rw[qt]at this;rw[<-this];exact c
def uU(pool:List (Sl×aC)):HP:=⟨λh q=>∀x∈pool,Seq h q x.1 1 ar x.2,λa d x b=>(a x b).ac d,λa c x b=>(a x b).mono c⟩
theorem aa.VP(H:aa B h0 h As):aa B h0 h (As++[uU []]):=H.comp (.one (aQ.refl _ _) λx a=>E6)
theorem aa.ZC(H:aa B h0 h As)(i j:Nat)(b:i≠j){pool:List (Sl×aC)}{r:Sl}{l:aC}(d:As[i]?=dB (uU pool))(f:As[j]?=dB (wd r 1 ar l)):aa B h0 h ((As.set i (uU (pool++[(r,l)]))).set j emp):=
 H.merge i j b d f λk g _ c e x a=>by
  rcases qx.1 a with a|a
  .exact(c x a).mono λ_ h=>.inl h
  .rw[qB]at a;subst a;exact Seq.mono e λ_ h=>.inr h
abbrev acv:bS C.toAg 59 22 1 [xI eH 0 0] 24:=⟨_,_,n5,n5,n5,n5,n5,n5⟩
theorem OV(s d:hU)(r:Sl)(x:Int×Int)(h':m5)(e:hY h' d=dB (xJ (dB s))/\hY h' (s.add 5)=dB (xI r.ptr r.len r.cap)):
  ak xR 289 ([Value.agg #[xH xN x.1,xH xN x.2]]++(#[Value.pointer (dB d)]:Array Value).toList).toArray h' λv c=>v=xL (decide (x.1>=(r.len:Int)))/\Sp h' c []:=by
 refine ts Tryz.func289 ?_ (args:=[x,d]);refine(Sp.refl h').boxed λa f b=>?_;exact⟨x.1,(b.box 0 n5).cell0 n5,dB s,dY e.1 b.ac,s,n5,r,dY e.2 b.ac,n5,.zip b.ac⟩
theorem OW(s b:hU)(r:Sl)(x:Int)(h':m5)(c:hY h' b=dB (xJ (dB s))/\hY h' (s.add 5)=dB (xI r.ptr r.len r.cap)):
  ak xR 291 ([Value.int .i64 x]++(#[Value.pointer (dB b)]:Array Value).toList).toArray h' λv a=>v=xL (decide (x>=(r.len:Int)))/\Sp h' a []:=by
 refine ts Tryz.func291 ?_ (args:=[(x:Int),b]);exact⟨dB s,c.1,s,n5,r,c.2,n5,Sp.refl _⟩
theorem OX(s f:hU)(p:Int×Int×Int)(v r m d j I O kn:Sl)(z:List (Sl×Sl))(R:List fi)(known:List Bool)(n:Nat)(H:aa B h0 h (SA s (ie f p v r m d j I O)::As))(hS:St B h0 As λh=>fO kd 2 qv h r z R/\Rd h kn 1 fk known)(ay:n4 known=n)(hn:n<=64)(a3:n4 R<=2^19)(ap:∀e∈R,n4 e.1<=2^20)
  (A:jI (n:Int) (rowsOf R known n)=eX) (ad:(eI n (rowsOf R known n)).steps.length<=2^20/\(fJ (eI n (rowsOf R known n)).used (rowsOf R known n).length).length<=2^20):
  ak xR 226 #[xJ (dB s),kn] h λv' h'=>v'=.tuple #[]/\∃P F L:Sl,aa B h0 h' (SA s (ie f p v r P F L I O)::ai 326 P 2 fX ((eI n (rowsOf R known n)).steps.filter λx=>decide (x.1<n4 R))::ai 3 F 1 ar (eI n (rowsOf R known n)).dead::ai 3 L 1 ar ((fJ (eI n (rowsOf R known n)).used (rowsOf R known n).length).filter λx=>decide (x<n4 R))::As):=by
 refine ts Tryz.func226 ?_ (HF (HF (G0 (HF (G7 (G9 [(4,bK),(16,aI)] [(4,5),(6,7),(16,26)] G6))) (I0 [(4,bK),(28,aI)] [(4,5),(7,9),(28,40)]))));refine H.boxed λq G S=>?_;have S:=S.bc;refine⟨dB s,(S.box 0 n5).cell0 n5,s,n5,r,(S.box 1 n5).cell n5,?_⟩;have G1:=hS.at [_,_] S;have W:=G1.1.1.len;have N:=G1.1.2.1;have ab:=G1.2.len;let pre:List HP:=[an q 254 [xJ (dB s)],SA s (ie f p v r m d j I O)]
 have H2:aa B h0 G (ai 22 ⟨eH,0,0⟩ 1 bv []::uU []::an q 254 [xJ (dB s)]::SA s (ie f p v r m d j I O)::As):=((aa.VP S).bc.nil 22 1 bv).bc;refine aj (λt:Nat×Sl=>(t.2,(t.1:Int))) (λt h'=>t.1<=n4 R/\aa B h0 h' (ai 22 t.2 1 bv ((z.take t.1).map qA)::uU []::an q 254 [xJ (dB s)]::SA s (ie f p v r m d j I O)::As)) (λt=>n4 R-t.1) (0,⟨eH,0,0⟩) n5 ⟨oo,by simpa using H2⟩ ?_;rintro⟨i,o⟩ h3 ⟨hi,H3⟩;dsimp only at*;refine ae (λe=>?_) (λe=>?_)
 .have ax:i<n4 R:=n7
  have G3:=hS.at [_,_,_,_] H3;refine G3.1.1.cG (g:=qv) i n5 n7 (z[i]'n7) n5 ?_;refine H3.alloc ag n5 λa8 h4 w=>?_;have w:=w.bc;refine w.storeAll ag 0 n5 n5 (qv (z[i]'n7)) n5 n5 n5 n5 λh5 E=>?_;refine⟨(z[i]'n7).1,(E.box 0 n5).cell0 n5,?_⟩;refine E.oA.push ag 0 n5 acv n5 n8 (λ_=>rfl) jK (z[i]'n7).1 n5 n8 oi λo' h6 X=>?_;refine⟨(i+1,o'),oj,⟨n9,?_⟩,n9⟩
  try dsimp only
  rw[az z i,qF];exact X
 have K:i=n4 R:=n7
 subst K;rw[qf n7]at H3;refine aj (λt:Nat×Sl×List Sl=>(t.2.1,(t.1:Int))) (λt h'=>t.1<=n/\t.2.2.length=n4 (io known t.1)/\aa B h0 h' (ai 22 t.2.1 1 bv (z.map qA++t.2.2)::uU (t.2.2.zip (io known t.1))::an q 254 [xJ (dB s)]::SA s (ie f p v r m d j I O)::As)) (λt=>n-t.1) (0,o,[]) n5 ⟨n7,n5,by simpa using H3⟩ ?_;rintro⟨i,o,sr⟩ h4 ⟨hi,D,w⟩;dsimp only at*;have a6:=BM known i;refine ae (λe=>?_) (λe=>?_)
 .have ax:i<n:=n7
  have G4:=hS.at [_,_,_,_] w;refine G4.2.aV i n5 n7 _ n5 ?_;have ao:known.getD i eY=known[i]'n7:=by rw[qg,qd n7];rfl
  have J:=Iu known i;rw[ao]at J;refine aT (λe2=>?_) (λe2=>?_)
  .rw[e2,m6 rfl]at J;refine w.lit ag ar fu n5 [(i:Int)] n5 (show 1*1<=2^20 by decide) n5 λb h5 E=>?_;have E:=E.bc.freeze 0 n5 λ_=>rfl;have X:=aa.ZC E 2 0 n8 n5 n5;refine X.push ag 1 n5 acv n5 n8 (λ_=>rfl) jK b n5 n8 oi λo' h7 H7=>?_;refine⟨(i+1,o',sr++[b]),oj,⟨n9,by dsimp only;rw[J];simp[D],?_⟩,n9⟩
   try dsimp only
   rw[J,xu D,<-ql];exact H7.oA
  .rw[e2,nq oo,qL]at J;exact⟨(i+1,o,sr),oj,⟨n9,by dsimp only;rw[J];exact D,by dsimp only;rw[J];exact w⟩,n9⟩
 have K:i=n:=n7
 subst K;have G4:=hS.at [_,_,_,_] w;have Q:n4 (rowsOf R known i)=n4 R+n4 sr:=by rw[rowsOf,qo,qm,D]
 have ah:gu h4 (λb=>b<h4.size) o 1 ar (rowsOf R known i) (z.map qA++sr):=by
  refine⟨w.seq 0 n5 λ_=>rfl,by rw[Q];simp;omega,λk a l G T=>?_⟩;by_cases hk:k<n4 R
  .rw[qu oi,qM,qd n7]at G;rw[rowsOf,qu oi,qM,qd hk]at T;simp only[zn,wb.injEq]at G T;subst G;subst T;exact(Fix.row G4.1 hk).1
  .rw[qk oi]at G;rw[rowsOf,qk oi]at T;simp only[qm,N]at G T;have hm:(a,l)∈sr.zip (io known i):=by refine wR.2 ⟨k-n4 R,?_⟩;rw[yd];exact⟨G,T⟩
   exact(w.at 1 n5) _ hm
 rw[ab,ay];refine(VH (i:Int) o (rowsOf R known i) _ h4 ah n7 ?_).mono ?_
 .intro x U;rcases qx.1 U with U|U
  .obtain⟨e,he,rfl⟩:=qI.1 U;have:=ap e he;omega
  .obtain⟨c,hc,rfl⟩:=qI.1 U;simp
 rintro _ h5 ⟨P,F,L,rfl,R5⟩;have a0:Bz (i:Int) (rowsOf R known i)=((eI i (rowsOf R known i)).steps,(eI i (rowsOf R known i)).dead,fJ (eI i (rowsOf R known i)).used (rowsOf R known i).length):=by unfold Bz;rw[m6 A,qi]
 rw[a0]at R5;dsimp only at R5;have E:=((w.oA).oA).comp R5;refine⟨((P,F,L),_),n5,?_⟩;have X:=aa.front (As:=an q 254 [xJ (dB s)]::SA s (ie f p v r m d j I O)::As) (Bs:=[_,_,_]) E;refine X.alloc ag n5 λa9 h7 H7=>?_;have H7:=H7.bc;refine H7.storeAll ag 0 n5 n5 [P,F,L] n5 n5 n5 n5 λh8 H8=>?_;refine⟨P,(H8.box 0 n5).cell0 n5,?_⟩;refine(Nl P _ 289 #[xJ (dB q)] (λx=>decide (x.1>=(r.len:Int))) (λh'=>hY h' q=dB (xJ (dB s))/\hY h' (s.add 5)=dB (xI r.ptr r.len r.cap)) n5 (St.mk' λh' Z=>⟨(Z.box 3 n5).cell0 n5,(Z.box 4 n5).cell n5⟩) (λx h' hq=>OV s q r x h' hq) H8.nj ad.1).I4 λy h9 H9=>⟨y,n5,?_⟩;refine H9.iB ag 1 n5 n5 [y] n5 n5 n5 oo λa7 Y=>?_;refine⟨L,(Y.box 1 n5).cell n5,?_⟩;have al:=Y.aG 6 [3,0,1,2,4,5];refine(Nk L _ 291 #[xJ (dB q)] (λx=>decide (x>=(r.len:Int))) (λh'=>hY h' q=dB (xJ (dB s))/\hY h' (s.add 5)=dB (xI r.ptr r.len r.cap)) n5 (St.mk' λh' Z=>⟨(Z.box 3 n5).cell0 n5,(Z.box 4 n5).cell n5⟩) (λx h' hq=>OW s q r x h' hq) al ad.2).I4 λu a5 am=>⟨u,n5,?_⟩;refine am.store ag 2 n5 n5 2 [u] n5 n5 n5 oo λa2 M=>?_;refine⟨dB s,(M.box 4 n5).cell0 n5,(y,F,u),(M.box 2 n5).aw _ n5,s,n5,?_⟩;refine M.store ag 5 n5 n5 6 [y,F,u] n5 n5 n5 A7 λa4 V=>⟨n5,y,F,u,?_⟩
 have e1:(λx:Int×Int=>!decide (x.1>=(r.len:Int)))=λx=>decide (x.1<(n4 R:Int)):=by
  funext x;rw[W,N];by_cases h:x.1<(n4 R:Int)
  .rw[n1 h,n2 n7];rfl
  .rw[n2 h,n1 n7];rfl
 have e2:(λx:Int=>!decide (x>=(r.len:Int)))=λx=>decide (x<(n4 R:Int)):=by
  funext x;rw[W,N];by_cases h:x<(n4 R:Int)
  .rw[n1 h,n2 n7];rfl
  .rw[n2 h,n1 n7];rfl
 rw[e1,e2]at V;exact V.aG 6 [5,1,3,0]
theorem uV{l:Row}:¬gV l<n4 l↔l=aN l.length:=by
 rw[gV,w9];constructor
 .intro h;refine vg.2 ⟨n5,λx b=>?_⟩;by_cases a:x=0
  .exact a
  .exact absurd ⟨x,b,B5⟩ h
 .rintro h ⟨x,b,a⟩;have:=(vg.1 h).2 x b;subst this;simp at a
theorem OY(f:hU)(a b:Sl)(A B:aO)(m n w:Nat)(h:m5)(hf:ia h f)(ha:dT h a 1 aq A)(hb:dT h b 1 aq B)(hl:n4 A=m)(bd:n4 B=m)(u:aU n A)(hB:aU w B)(b2:1<=n)(hn:n+w<=64)(hm:m<=2^20)(hr:cv A=n):
  ak xR 230 #[xJ (dB f),a,b] h λv h'=>(jb n A B/\∃r:Sl,v=.tuple #[r,xH xN 0]/\Sp h h' [dw 41 r 1 aq (eM n A B)])∨(¬jb n A B/\v=.tuple #[xI eH 0 0,xH xN 10]/\Sp h h' []):=by
 have bl:n<=m:=by have:=mA A u;omega
 have d:n4 B=n4 A:=n7
 have a0:=ha.len;have J:=hb.len;refine ts Tryz.func230 ?_ (HF (I1 [] [(6,8),(17,37)] (HF (HF (G0 (HF (G7 (G9 [(43,aI)] [(10,11),(43,59)] G6))) (HF (HF (G0 (HF (G7 (G9 [(71,aI)] [(6,8),(13,14),(71,79)] G6))) (HF (I0 [(14,bK),(83,aI)] [(14,15),(16,17),(83,95)]))))))))));refine aE ?_;refine(mI a A n h ha u).mono ?_;rintro v O ⟨rfl,rfl⟩;refine⟨_,n5,aH (λe=>o1) λ_=>?_⟩;refine(mI b B w O hb hB).mono ?_;rintro v X ⟨rfl,rfl⟩;refine⟨_,n5,aH (λe=>o1) λ_=>?_⟩;refine bt (λe=>absurd (by rw[a0,J,d]) e) λ_=>?_;refine be (λe=>n7) λ_=>?_;refine(pH a A X ha).mono ?_;rintro v h3 ⟨rfl,rfl⟩;have a3:ee A=n:=by
  cases A with
  |nil=>simp at hl;omega
  |cons x t=>rw[ee,bf oo];exact u _ oo
 refine⟨_,n5,?_⟩;rw[a3];refine(ug a A n h3 ha u).mono ?_;rintro v h4 ⟨r,rs,rfl,bk,R4⟩;refine⟨r,n5,?_⟩;have a5:=(R4.own 0 n5).len;refine aj (λt:Nat×List Sl=>(t.1:Int)) (λt h'=>t.1<=m/\t.2.length=m/\Sp h3 h' (kO r t.2 (oh A B t.1))) (λt=>m-t.1) (0,rs) n5 ⟨oo,n9,by simpa[oh,eE]using R4⟩ ?_;rintro⟨k,rs⟩ h5 ⟨hk,br,G⟩;dsimp only at*;have I:n4 rs=n4 (oh A B k):=A9
 refine ae (λe=>?_) (λe=>?_)
 .have Q:k<m:=n7
  have P:k<n4 A:=n7
  have F:=lq (a:=r) I k A9;have eg:(oh A B k)[k]'(by rw[rI d];omega)=A[k]:=by have:=Vd d P;rw[qd A9]at this;exact wb.inj this
  rw[eg]at F;have l1:A[k].length=n:=u _ (qe _);have l2:n4 (B[k]'n7)=w:=hB _ (qe _);refine(G.seq 0 n5 λ_=>rfl).dN k n5 n7 λa1 V N=>?_;refine(hb.up G.ac).get k n5 n7 λrb ay=>?_;refine G.append ag (k+1) F cK ui n5 n8 (λ_=>rfl) ay cB n7 λs6 h6 H6=>⟨I6,?_⟩
  refine H6.set ag 0 n5 (λ_=>rfl) n5 k n5 n7 s6 n5 n5 n5 λh7 H7=>⟨I6,?_⟩
  refine⟨(k+1,rs.set k s6),oj,⟨n9,u0,?_⟩,n9⟩
  try dsimp only
  rw[<-Ve d P];show Sp h3 h7 (ai 41 r 1 bv (rs.set k s6)::bo 5 1 aq (rs.set k s6) ((oh A B k).set k _));rw[<-jw I];exact H7
 .have ap:k=n4 A:=n7
  subst ap;rw[Vf d]at G;refine(sg f h5).mono ?_;rintro v h6 ⟨rfl,rfl⟩;refine⟨dB f,n5,?_⟩;have ab:=lF d.symm u hB;have a9:=kZ d.symm;refine(xV (m:=eE A B) (n:=n+w) hf hf.lt n7 ab n7 n7 n7 G).mono ?_;rintro v h7 ⟨l,rfl,a6,q⟩;rw[tJ d.symm u,hr];refine⟨_,n5,?_⟩
  try dsimp only
  have S:=(q.own 0 n5).cap;have a8:=(q.own 0 n5).len;have X:=fM ab n;refine ae (λe=>absurd (show(n:Int)<(n:Int)from e) n7) λ_=>?_;refine⟨⟨ze _,wA.2 (show n<=r.len by omega)⟩,?_⟩;obtain⟨M,Z⟩:=I5 ((ba (eE A B) n).2)
  have bb:n4 M=n4 A:=by have:=X.2;rw[<-Z]at this;omega
  have R:aU (n+w) M:=by rw[Z];exact X.1
  rw[<-Z]at q;have H:n4 l=n4 M:=n7
  have o:jb n A B↔∀i (T:i<n4 M),n<=i->M[i]=aN M[i].length:=by
   unfold jb;rw[<-Z];constructor
   .intro L i T hn;refine L _ (wR.2 ⟨i-n,?_⟩);rw[wJ,show n+(i-n)=i by omega,qd T]
   .intro L x hx;obtain⟨i,T,rfl⟩:=qE hx;simp only[qJ]at T;rw[zM];exact L _ n7 n7
  refine aj (λi:Nat=>(i:Int)) (λi h'=>h'=h7/\n+i<=n4 M/\∀j (hj:j<n4 M),n<=j->j<n+i->M[j]=aN M[j].length) (λi=>n4 M-(n+i)) 0 n5 ⟨n5,n7,λj _ _ _=>n7⟩ ?_;rintro i h8 ⟨rfl,T,p⟩;rw[qi];refine ae (λe=>?_) (λe=>?_)
  .have g:n+i<n4 M:=n7
   have F:=lq (a:=r) H (n+i) n7;have ad:n4 (M[n+i]'g)=n+w:=R _ (qe _);have D:=q.seq (n+i+1) F λ_=>rfl;have y:=(q.seq 0 n5 λ_=>rfl).drop n S;have ax:(l.drop n)[i]'(by simp;omega)=l[n+i]'n7:=zM;refine y.dN i n5 oi λa1 V N=>?_;rw[ax];refine(Vw _ _ h8 D n7).mono ?_;rintro _ h9 ⟨rfl,rfl⟩;refine⟨_,n5,ae (λU=>?_) λU=>?_⟩
   .right;have z:gV (M[n+i]'g)<n4 (M[n+i]'g):=by
     by_cases hh:gV (M[n+i]'g)<n4 (M[n+i]'g)
     .exact hh
     .rw[nq hh]at U;exact absurd U n8
    refine⟨λL=>?_,n5,.zip q.ac⟩;have:=o.1 L (n+i) g n7;exact absurd z (uV.2 this)
   .have z:¬gV (M[n+i]'g)<n4 (M[n+i]'g):=λhh=>by
     rw[m6 hh]at U;exact U (ze _)
    refine⟨i+1,o0,⟨n5,n7,λj hj O X=>?_⟩,n7⟩;by_cases am:j=n+i
    .subst am;exact uV.1 z
    .exact p j hj O n7
  refine⟨⟨ze _,wA.2 (show n<=r.cap by omega)⟩,?_⟩;have E:jb n A B:=o.2 λj hj O=>p j hj O n7;have e1:eM n A B=(M.take n).map (wS n):=by rw[eM,<-Z]
  have W:∀k (hk:k<n),(eM n A B).take (k+1)=(eM n A B).take k++[(M[k]'n7).drop n]:=λk hk=>by
   rw[e1,az _ _ oi,zk,zF]
  have a7:n4 (eM n A B)=n:=(pz d.symm u hB hr).1;refine aj (λt:Sl×Nat=>(t.1,(t.2:Int))) (λt h'=>t.2<=n/\Sp h8 h' [dw 41 t.1 1 aq ((eM n A B).take t.2)]) (λt=>n-t.2) (⟨eH,0,0⟩,0) n5 ⟨oo,(Sp.refl h8).sq 41 1 aq⟩ ?_;rintro⟨s,k⟩ h9 ⟨bq,H9⟩;dsimp only at*;have HH:=q.comp H9;refine ae (λe=>?_) (λe=>?_)
  .have Q:k<n:=n7
   have F:=lq (a:=r) H k n7;have Y:(kO r l M++[dw 41 s 1 aq ((eM n A B).take k)])[k+1]?=dB (ai 5 (l[k]'n7) 1 aq (M[k]'n7)):=by rw[qu (by simp[bo];omega)];exact F
   have ad:n4 (M[k]'n7)=n+w:=R _ (qe _);have K:=HH.own (k+1) Y;have D:=HH.seq (k+1) Y λ_=>rfl;have a4:=K.len;have y:=(HH.seq 0 n5 λ_=>rfl).take n n7;have a2:(l.take n)[k]'(by simp;omega)=l[k]'n7:=zF;refine y.dN k n5 oi λa1 V N=>?_;rw[a2];refine⟨⟨ze _,wA.2 n7⟩,?_⟩;refine(fN _ _ h9 (D.drop n K.cap) oi).I4 λc b0 al=>?_;have ao:=(H9.comp al).freeze 1 n5 λ_=>rfl;refine⟨c,n5,?_⟩;refine ao.jD ag 0 1 n8 n5 n5 cI oi λs' b1 ah=>?_;refine⟨(s',k+1),oj,⟨n9,?_⟩,n9⟩
   try dsimp only
   rw[W k Q];exact ah.del 1
  .rw[qf n7]at H9;refine .inl ⟨E,s,n5,?_⟩;have:=(Sp.zip q.ac).comp H9;exact this
theorem Nm:∀{l:aC},l.Pairwise (·<·)->fE l=eX
 |[],_=>rfl
 |[_],_=>rfl
 |a::b::r,h=>by
  rw[List.pairwise_cons]at h;rw[fE,Nm h.2,n1 (h.1 b oo)];rfl
theorem SL{l:aC}(h:l.Pairwise (·<·)):IH l:=λi a=>List.pairwise_iff_getElem.1 h i (i+1) n7 a n7
theorem SM{n:Nat}{R:List fi}{known:List Bool}(i:n<=64)(f:∀e∈R,(∀c∈e.1,0<=c/\c<(n:Int))/\e.1.Pairwise (·<·)):jI (n:Int) (rowsOf R known n)=eX:=by
 unfold jI;rw[qC];refine⟨oi,qP.2 λr a=>?_⟩;unfold fF;rw[qC];rcases qx.1 a with a|a
 .obtain⟨e,b,rfl⟩:=qI.1 a;exact⟨qP.2 λc g=>o4,Nm (f e b).2⟩
 .obtain⟨d,rfl,h,_⟩:=uN a;exact⟨o4,n5⟩
theorem aa.acw{e:Nat}{v:Sl}{vs:aO}(H:aa B h0 h As)(i:Nat)(r:As[i]?=dB (dK e v 1 bv (rY 1 aq) vs)):
  ∃f:List Sl,aa B h0 h (As.set i (ai e v 1 bv f)++[fK (f.zip vs)])/\f.length=n4 vs/\∀(c:Nat) (n:c<n4 f) (m:c<n4 vs),f[c].ptr.isNone=vs[c].isEmpty:=by
 have g:i<n4 As:=(qn.1 r).1;have s:aa B h0 h (As.set i (HP.ex λf:List Sl=>((ai e v 1 bv f).sep (fK (f.zip vs))).and (n4 f=n4 vs/\∀(c:Nat) (n:c<n4 f) (m:c<n4 vs),f[c].ptr.isNone=vs[c].isEmpty))):=
  H.dW i r λq ⟨rs,A,a,b,c,d,e⟩=>⟨rs,⟨λb=>v.on b,A,λx j=>(b x j).2,λx j=>(b x j).1,c,⟨a,λx j=>j⟩,λx j=>by
   obtain⟨k,w,l⟩:=qE j;simp only[List.length_zip]at w;rw[yk]at l;subst l;exact(e k _ _ (qd n7) (qd n7)).1⟩,d,λk n m=>by
   obtain⟨x,y⟩:=e k _ _ (qd n) (qd m);cases hv:vs[k]with
   |nil=>grind
   |cons z t=>
    have:=x.isSome o4
    grind⟩
 obtain⟨f,o⟩:=s.KQ i (zJ g);rw[yY]at o;have D:=o.fact i (zJ g);have p:=o.YT i (zJ g);rw[yY]at p;have u:=p.split i (zJ g);rw[yY]at u
 grind
def yv(x:Int×Sl):aS:=[xH xN x.1,x.2]
def adx:ja (Int×Sl) (Int×Row):=⟨λh q a b=>a.1=b.1/\Seq h q a.2 1 aq b.2,λa d=>⟨a.1,a.2.ac d⟩,λa c=>⟨a.1,a.2.mono c⟩⟩
abbrev BA:ja Sl (List (Int×Row)):=bZ adx 2 yv
theorem SN{a:List Sl}{vs:aO}(h:n4 a=n4 vs)(pl:List (Sl×Row))(c:∀x∈a.zip vs,x∈pl):bY pl id a vs:=
 ⟨h,λi r l b d=>c _ (wR.2 ⟨i,by rw[yd];exact⟨b,d⟩⟩)⟩
theorem Nn{α β:Type}:∀(a:List α) (x:α) (l:List β) (h:n4 a<n4 l),(a++[x]).zip l=a.zip l++[(x,l[n4 a])]
 |[],x,b::l,_=>oo
 |c::a,x,b::l,h=>by
  have:=Nn a x l sR;simp[this]
def ZD(h h':m5)(v:Value)(n:Nat)(A a:aO):Prop:=
 (jb n A a/\∃r:Sl,v=.tuple #[r,xH xN 0]/\Sp h h' [MA r (eM n A a)])∨(¬jb n A a/\v=.tuple #[xI eH 0 0,xH xN 10]/\Sp h h' [])
theorem Yg(p:Pm)(seed:Int)(l:Sl)(d:List (Int×Row))(n w:Nat)(h:m5)(hl:eN BA h l d)(z:bH p=eX)(bq:∀x∈d,Ee p x)(hn:(bD p).toNat=n)(hw:p.2.2.toNat=w)(eo:n4 d<=2^18)(hr:cv (ez p seed (d.map qA))=n):
  ak xR 165 #[go p,xH xP seed,l] h λv h'=>ZD h h' v n (ez p seed (d.map qA)) (mD p d):=by
 refine ts Tryz.func165 ?_ (HF (.fwd (HF (G0 (HF (G7 (G9 [(8,bK),(23,aI)] [(8,9),(10,11),(23,39)] G6))) (I1 [(11,YZ)] [(11,12),(39,43)] G6))) [(0,[G6]),(1,[(.two (.two G6 (.inn (.loop [(95,aI)] [(20,21),(95,104)] G6))) G6)]),(2,[G6])])) [(5,(.l [0,1,2,3,4,6,7,5,8,9,10,11])),(7,(.l [1,0,2,3,4]))] (args:=[p,(xH xP (seed:Int)),l]);have en:=(bI p).1 z;have d7:bD p=n:=by rw[<-hn];have:=py z;omega
 have cq:n=p.1.toNat+p.2.1.toNat:=by rw[<-hn,py z];omega
 have c4:p.2.2=(w:Int):=n7
 have c7:1<=n:=n7
 have c0:n<=20:=n7
 obtain⟨U,eg,e6,cn⟩:=bZ.kQ hl;have ew:=bZ.len hl;let m:List fi:=sC n seed d;have el:n4 m=n4 d:=by simp[m,sC]
 have H:=abF (seed:=seed) c7 c0 bq hw;let y:Nat->cO:=λi=>(d.take i).map λx=>dZ n seed x.1;have ah:∀x:Int×Row,x∈d->(bH p&&bP x.1)=eX:=λx hx=>by rw[z,(bq x hx).id];rfl
 refine(Sp.refl h).boxed λa1 N H1=>?_;have ds:=((aa.VP H1).nil 253 2 qv).bu [2,1,0];refine aj (λt:Nat×Sl×List Sl=>(t.2.1,(t.1:Int))) (λt h'=>t.1<=n4 d/\t.2.2.length=t.1/\Sp h h' [ai 253 t.2.1 2 qv (t.2.2.zip (U.map zh)),uU (t.2.2.zip (y t.1)),an a1 24 [xH xN p.1,xH xN p.2.1,xH xN p.2.2]]) (λt=>n4 d-t.1) (0,⟨eH,0,0⟩,[]) n5 ⟨oo,n5,ds⟩ ?_;rintro⟨i,o,cr⟩ h2 ⟨hi,b0,H2⟩;dsimp only at*;have cc:n4 (y i)=i:=by simp[y];omega
 refine ae (λe=>?_) (λe=>?_)
 .have V:i<n4 d:=n7
  obtain⟨y1,y2⟩:=cn i n7 V;refine(Seq.up eg H2.ac).cG (g:=yv) i n5 n7 (U[i]'n7) n5 ?_;refine H2.alloc ag n5 λa5 h3 H3=>?_;refine H3.storeAll ag 3 n5 n5 (yv (U[i]'n7)) n5 n5 n5 n5 λh4 T=>?_;refine⟨p,(T.box 2 n5).aw _ n5,(U[i]'n7).1,(T.box 3 n5).cell0 n5,(U[i]'n7).2,(T.box 3 n5).cell n5,?_⟩;refine(uR p seed (U[i]'n7).1 h4).I4 λr h5 R5=>?_;rw[y1,ah _ (qe V),m6 rfl,hn]at R5;have H5:=(T.comp R5).freeze 4 n5 λ_=>rfl;refine⟨r,n5,⟨(H5.box 3 n5).cell n5,I6⟩,?_⟩;have H6:=aa.ZC H5 1 4 n8 n5 n5;have ed:=H6.box 3 n5;refine H6.ke ag qv eQ n5 [(r,(U[i]'n7).2)] n5 (show 1*2<=2^20 by decide) n5 ⟨ed.cell n5,I6⟩ ?_;refine H6.push ag 0 n5 eQ n5 n8 (λ_=>rfl) Vy (r,(U[i]'n7).2) n5 n8 oi λo' h7 H7=>?_;refine⟨⟨(H7.box 3 n5).cell n5,I6⟩,?_⟩;refine⟨(i+1,o',cr++[r]),oj,⟨n9,by simp[b0],?_⟩,n9⟩
  try dsimp only
  have e1:y (i+1)=y i++[dZ n seed d[i].1]:=by simp only[y];rw[az _ _ V,qF];rfl
  have e2:(cr++[r]).zip (U.map zh)=cr.zip (U.map zh)++[(r,(U[i]'n7).2)]:=by rw[Nn cr r (U.map zh) oi,zk];simp only[b0]
  rw[e1,e2,xu (by rw[b0,cc])];exact H7.bu [0,1,2]
 have dx:i=n4 d:=n7
 subst dx;have ea:y d.length=d.map λx=>dZ n seed x.1:=by simp only[y];rw[qt]
 rw[ea]at H2;have du:∀{h':m5},(∀x∈cr.zip (d.map λx=>dZ n seed x.1),Qw.Seq h' (λb=>b<h'.size) x.1 1 ar x.2)->aQ (λb=>b<h.size) h h'->Qw.Seq h' (λb=>b<h'.size) o 2 qv (cr.zip (U.map zh))->eN oS h' o m:=λ{h'} hp hpr hs=>by
  refine⟨_,hs,by simp[m,sC];omega,λk a b N h2=>?_⟩;have hk:k<n4 d:=by have:=(qn.1 h2).1;omega
  rw[qd oi,yk,zk]at N;have e2:m[k]?=dB (dZ n seed d[k].1,d[k].2):=by simp[m,sC,hk]
  rw[e2]at h2;simp only[wb.injEq]at N h2;subst N;subst h2;refine⟨hp (cr[k]'n7,dZ n seed d[k].1) (wR.2 ⟨k,?_⟩),Seq.up (cn k n7 hk).2 hpr⟩;rw[yd];exact⟨qd _,by simp[hk]⟩
 refine bs (λs h'=>∃(a7 f:hU),s=dB a7/\Sp h h' [SA a7 (ie f p ⟨eH,0,0⟩ ⟨eH,0,0⟩ ⟨eH,0,0⟩ ⟨eH,0,0⟩ ⟨eH,0,0⟩ ⟨eH,0,0⟩ ⟨eH,0,0⟩),ai 253 o 2 qv (cr.zip (U.map zh)),uU (cr.zip (d.map λx=>dZ n seed x.1)),an a1 24 [xH xN p.1,xH xN p.2.1,xH xN p.2.2],an f 316 eP]) ?_ ?_
 .refine⟨p,(H2.box 2 n5).aw _ n5,(sI h2).I4 λf h3 R3=>?_⟩;have H3:=H2.comp R3;refine⟨dB f,n5,⟨(H3.box 2 n5).cell0 n5,(H3.box 2 n5).cell n5,(H3.box 2 n5).cell n5,I6⟩,?_⟩;refine H3.boxed λa7 h4 T=>?_;exact⟨⟨(T.box 2 n5).cell0 n5,(T.box 2 n5).cell n5,(T.box 2 n5).cell n5,I6⟩,a7,f,n5,T.bu [4,0,1,2,3]⟩
 rintro _ h3 ⟨s,f,rfl,H3⟩;refine⟨p,(H3.box 3 n5).aw _ n5,(lR p h3).I3 λh4 R4=>?_⟩;have T:=H3.up R4.ac;refine⟨_,n5,?_⟩;rw[d7];have ef:eN oS h4 o m:=du (T.at 2 n5) T.ac (T.seq 1 n5 λ_=>rfl);have c6:∀e∈m,n4 e.1<=2^20:=λe G=>by
  obtain⟨x,hx,rfl⟩:=qI.1 G;have:=mw c7 c0 seed x.1;dsimp only;omega
 refine(VD o m n w h4 ef (λe G=>⟨(H e G).1,SL (H e G).2⟩) n7 n7 ⟨n7,n7⟩ c6).mono ?_;have hA:aU n (bA p.1.toNat p.2.1.toNat):=by rw[cq];exact GA _ _
 have eA:=RI (seed:=seed) z hn bq;have eB:=RJ (seed:=seed) (n:=n) (p:=p) (l:=d) hw;rw[<-eA]at hr⊢;rw[<-eB];rintro _ h5 ⟨known,vals,hI,⟨ah,rfl,R5⟩|⟨ah,k,v,rs,rfl,R5⟩⟩
 .refine⟨(⟨eH,0,0⟩,⟨eH,0,0⟩,⟨eH,0,0⟩,10),n5,bt (λ_=>?_) λe=>absurd e n8⟩;exact .inr ⟨Ul (λe G=>(H e G).1) hA hI ah hr,n5,(T.up R5.ac).bu []⟩
 refine⟨(k,v,rs,0),n5,bt (λe=>absurd n5 e) λ_=>?_⟩;have S:=Xp (λe G=>(H e G).1) hA hI ah;have B:=Jt (λe G=>(H e G).1) hI;obtain⟨f1,f2,f3,f4,f5⟩:=GI (λe G=>(H e G).1) hI;have J:=od hI λe G=>(H e G).1;have bd:=ZX (known:=known) (vals:=vals) λe G=>(H e G).2;have d4:=Um (l:=m) (known:=known) (vals:=vals);have a6:=Un (known:=known) (vals:=vals) c6;have cf:=hI.vlen;have ei:=hI.klen;unfold KT at S;obtain⟨R,ap⟩:=I5 (aX known vals m)
 change gM n w m _ known vals _ _ _ _ at S;rw[<-ap]at S B f1 f2 f3 f4 f5 J bd d4 a6 R5;obtain⟨Z,H6,d3,cs⟩:=aa.acw (T.comp R5) 6 rfl;obtain⟨rr,H7⟩:=aa.Fu H6 7 rfl λ_=>rfl;have H8:=aa.aas H7 8 n5;have H9:=aa.bu H8 [0,8,6,7,5,4];have b2:v.len=n:=by rw[(H9.own 2 n5).len];omega
 have hk:∀(c:Nat) (Y:c<n4 Z),Z[c].ptr.isNone=!(known.getD c eY):=λc Y=>by
  rw[cs c Y n7];have N:=hI.row c n7;rw[mb (show c<n4 vals by omega)]at N;cases hkn:known.getD c eY with
  |true=>
   rw[hkn,m6 rfl]at N;cases hv:vals[c]'n7 with
   |nil=>rw[hv]at N;simp at N;omega
   |cons x t=>rfl
  |false=>
   rw[hkn,nq oo]at N;rw[yt.1 N];rfl
 refine⟨s,n5,H9.store ag 0 n5 n5 4 [v] n5 n5 n5 A7 λh6 d0=>?_⟩;refine⟨s,n5,d0.store ag 0 n5 n5 5 [rs] n5 n5 n5 A7 λh7 da=>?_⟩;have b7:=SM (known:=known) (n:=n) n7 λe G=>⟨(J e G).cX,bd e G⟩
 have al:=tQ (rows:=rowsOf R known n) (n:=n) (by rw[ap];exact sV (ap▸J));have er:n4 (rowsOf R known n)<=n4 R+n:=by rw[rowsOf,qo,qm];have:=BM known n;omega
 refine(OX s f p v rs _ _ _ _ _ k rr R known n (As:=[fK ((⟨eH,0,0⟩,[])::Z.zip vals),HA v Z,ci kd 2 qv rs rr R,ai 4 k 1 fk known,an f 316 eP]) da (St.mk' λh' H'=>⟨H'.dg 2 n5,H'.seq 3 n5 λ_=>rfl⟩) ei n7 n7 a6 b7 ⟨by have:=al.1;omega,by have:=Ed (eI n (rowsOf R known n)).used (rowsOf R known n).length;omega⟩).I3 λh8 ⟨st,dd,lf,d2⟩=>⟨(),n5,?_⟩;obtain⟨D,hD⟩:=I5 ((gG R known n).dead)
 obtain⟨ST,b3⟩:=I5 (mR R known n)
 obtain⟨L,hL⟩:=I5 (Qw.leftOf R known n)
 have d6:Sp h h8 (SA s (ie f p v rs st dd lf ⟨eH,0,0⟩ ⟨eH,0,0⟩)::fK ((⟨eH,0,0⟩,[])::Z.zip vals)::[HA v Z,ai 326 st 2 fX ST,ai 3 dd 1 ar D,ai 3 lf 1 ar L,ci kd 2 qv rs rr R,an f 316 eP]):=by rw[hD,b3,hL];exact aa.bu d2 [0,4,5,1,2,3,6,8]
 rw[<-hD]at S B f1 f2 f3 f5;rw[<-b3]at S B;rw[<-hL]at S f4;have b9:n4 ST<=2^20:=by rw[b3,mR,gG];have:=qH (λx:Int×Int=>decide (x.1<n4 R)) (eI n (rowsOf R known n)).steps;have:=al.1;omega
 have eq:n4 L<=2^20-2^10:=by rw[hL,Qw.leftOf,gG];have:=qH (λx:Int=>decide (x<n4 R)) (fJ (eI n (rowsOf R known n)).used (rowsOf R known n).length);have:=Ed (eI n (rowsOf R known n)).used (rowsOf R known n).length;omega
 have F:St (λb=>b<h.size) h [HA v Z,ai 326 st 2 fX ST,ai 3 dd 1 ar D,ai 3 lf 1 ar L,ci kd 2 qv rs rr R,an f 316 eP] λh=>SF h f rs st dd lf rr R ST D L:=
  St.mk' λh' H'=>⟨H'.box 5 n5,H'.dg 4 n5,H'.seq 1 n5 λ_=>rfl,H'.seq 2 n5 λ_=>rfl,H'.seq 3 n5 λ_=>rfl⟩
 refine(SH s f p v rs st dd lf _ _ rr R ST D L n D.length w _ d6 F b2 n7 c4 n7 n5 n7 J f1 f2 B b9 a6 oo).I3 λh9 ⟨wa,mo,wr,mr,pl,b4,a0⟩=>⟨(),n5,?_⟩;have ek:=(F.at [_,_,_,_] b4).dead.len;generalize et:ST.foldl (gW R D.length) (fU n D.length w D)=S0 at a0 S;have d8:n4 S0.1=n:=by have:=S.lens.1;simpa[iy]using this
 have d5:n4 S0.2=n:=by have:=S.lens.2.1;simpa[iy]using this
 have hV:bY pl id Z vals:=SN d3 pl λx hx=>a0.sub x (qp _ hx);refine(VL s f p v rs st dd lf wa mo Z wr mr pl known vals S0.1 S0.2 n D.length b4 n7 ek n7 ⟨λ_ h=>h,a0.way,a0.more⟩ hV cf d8 d5 hk).I3 λe5 ⟨a2,ay,ab,eb,O⟩=>⟨(),n5,?_⟩;obtain⟨W,hW⟩:=I5 ((iy D.length known vals S0).1)
 obtain⟨M,hM⟩:=I5 ((iy D.length known vals S0).2)
 change lV pl ab a2 ay (iy D.length known vals S0).1 (iy D.length known vals S0).2 at O;rw[<-hW,<-hM]at O S;have u:=S.lens;refine(SJ s f p v rs st dd lf wa mo a2 ay ab rr R ST D L W M n D.length w eb F cq c4 n7 z n5 n7 J a6 f4 n7 ⟨λ_ h=>h,O.way,O.more⟩ u.1 u.2.1 u.2.2).mono ?_;rintro _ a8 ⟨a,b,rfl,ax⟩;refine⟨(a,b),n5,s,n5,dd,show hY a8 (s.add 7)=_ from(ax.box 2 n5).cell n5,?_⟩;have ej:bY ab id Z vals:=hV.mono O.sub;obtain⟨e1,e2⟩:=oJ S;have P:=uM (n:=n) (w:=w) (ahead:=bA p.1.toNat p.2.1.toNat) (l:=m) (known:=known) (vals:=vals) (dead:=D) (left:=L) (W:=W) (M:=M);have a9:∀{X:aO},_->_:=λ{X} hs=>S.PW hr (D:=X) hs;have ao:=S.PX hr;have bb:=S.RK n7 hr;have a4:=S.Iq n7 hr;rw[<-ap]at e1 e2 P a9 ao bb a4;obtain⟨dA,cd⟩:=I5 (dE n D.length R W L (bA p.1.toNat p.2.1.toNat))
 obtain⟨K,d9⟩:=I5 (fA n w R M L (bA p.1.toNat p.2.1.toNat))
 rw[<-cd]at e1 P a9 ao bb a4 ax;rw[<-d9]at e2 P a9 ao bb ax;have dy:n4 dA=n4 L+p.2.1.toNat:=by rw[cd];simp[dE,bA]
 have bk:∀{h':m5} {pre:List HP} {dead:Sl} {dr:List Sl} {X:aO} {Q:HP},Sp h h' (Told s f p v rs st dd lf wa mo a2 ay ab++HA v Z::[ai 326 st 2 fX ST,ai 3 dd 1 ar D,ai 3 lf 1 ar L,ci kd 2 qv rs rr R,an f 316 eP,Q])->(∀h',Q.p h' (λb=>b<h'.size)->gu h' (λb=>b<h'.size) dead 1 aq X dr)->jf D.length w dA K X->
   ak xR 232 #[xJ (dB s),dead] h' λv' ad=>v'=.tuple #[]/\hY ad (s.add 4)=dB (xI v.ptr v.len v.cap)/\ZD h ad (.tuple #[v,xH xN 0]) n (dG n m (bA p.1.toNat p.2.1.toNat)) (iu w m (bA p.1.toNat p.2.1.toNat)):=by
  intro h' pre dead dr X Q H' hQ hs;refine(VN s f p v rs st dd lf wa mo dead Z a2 ay dr ab known vals W M X n D.length w H' (St.mk' λad am=>⟨am.box 4 n5,hQ ad (am.at 5 n5)⟩) n7 n7 n7 ⟨λ_ h=>h,O.way,O.more⟩ ej cf u.1 u.2.1 u.2.2 hs.1 hs.2.1 hk).I3 λad ⟨e4,ep,am,ip⟩=>⟨n5,(am.box 0 n5).cell n5,?_⟩;obtain⟨c1,c2⟩:=a9 hs;refine .inl ⟨c1,v,n5,?_⟩;rw[<-c2];exact(am.pL 4 3 n8 n5 n5 ip.1 λk r l N h2=>ip.2 k r l N h2).bu [4]
 have I:=ax;have c8:=I.eRd 1 n5 λ_=>rfl;have b6:dT a8 b 1 aq K:=bZ.todT (by
  have:=bZ.impl (α':=Sl) (E:=Nj) (E':=iG 1 aq) id (λ{h q a b} (hx:Nj.p h q a b)=>hx.1) c8
  rwa [List.map_id]at this)
 have eh:=b6.len;refine be (λe0=>?_) (λe0=>?_)
 .have cp:n4 D=0:=n7
  obtain⟨br,q1,q2,q3⟩:=bZ.kQ c8;refine aj (λi:Nat=>(i:Int)) (λi h'=>h'=a8/\i<=n4 K/\∀j (hj:j<n4 K),j<i->K[j]=aN w) (λi=>n4 K-i) 0 n5 ⟨n5,n7,λj _ hj=>n7⟩ ?_;rintro i a3 ⟨rfl,hi,hz⟩;have bl:jf D.length w dA K []↔∀r∈K,r=aN w:=by rw[cp];exact GJ P
  refine ae (λe=>?_) (λe=>?_)
  .have V:i<n4 K:=by have e':(i:Int)<(b.len:Int):=e;omega
   obtain⟨y1,y2⟩:=q3 i n7 V;have c9:K[i].length=w:=e2 _ (qe _);refine q1.kX i n5 n7 ?_;refine(JT (br[i]'n7) K[i] _ n5 a3 y1 y2 n7).mono ?_;rintro _ b5 ⟨⟨t,rfl,ht⟩,rfl⟩;refine⟨t,n5,ae (λe3=>?_) λe3=>?_⟩
   .refine .inr ⟨λY=>?_,n5,I.bu []⟩;have ca:=ao Y;have ec:D=[]:=yt.1 cp;rw[ec]at ca;have:=(GJ P).1 ca _ (qe V);have h0:t.len=0:=ht.2 λx hx=>by rw[this]at hx;exact(yj.1 hx).2
    omega
   .have h0:t.len=0:=n7
    refine⟨i+1,o0,⟨n5,n7,λj hj es=>?_⟩,n7⟩;by_cases hh:j=i
    .subst hh;exact vg.2 ⟨c9,ht.1 h0⟩
    .exact hz j hj n7
  .have hs:jf D.length w dA K []:=bl.2 λr hr=>by
    obtain⟨j,hj,rfl⟩:=qE hr;have e':¬(i:Int)<(b.len:Int):=e;exact hz j hj n7
   have b1:=aa.comp (I.bu [2,3,4,5,6,7,8,9,10,11]) (Sp.one (h:=a3) (h':=a3) (A:=emp) (aQ.refl _ _) I6);refine(bk (pre:=[]) (dead:=⟨eH,0,0⟩) (dr:=[]) (X:=[]) (Q:=emp) ?_ (λh' _=>⟨Seq.nil _ _ _ _ _ _,n5,λk r l N _=>by cases N⟩) hs).mono ?_
   .exact b1
   .rintro _ b5 ⟨rfl,Y,hm⟩;exact⟨(),n5,s,n5,v,Y,hm⟩
 .have d1:1<=n4 D:=n7
  refine⟨s,n5,dB f,(I.box 2 n5).cell0 n5,?_⟩;refine(OY f a b dA K dA.length D.length w a8 (I.box 11 n5) (I.ov 0 n5) b6 n5 P.symm e1 e2 d1 n7 n7 a4).mono ?_;rintro _ a3 (⟨Y,r,rfl,R12⟩|⟨Y,rfl,R12⟩)
  .refine⟨(r,0),n5,bt (λe=>absurd n5 e) λ_=>?_⟩;have b1:=(I.comp R12).Rl 12 n5;obtain⟨dr,dk⟩:=aa.Fu b1 12 rfl λ_=>rfl;have hs:=sw P e1 e2 a4 Y;refine(bk (pre:=[]) (dead:=r) (dr:=dr) (X:=eM D.length dA K) (Q:=ci (iG 1 aq) 1 bv r dr (eM D.length dA K)) (dk.bu [2,3,4,5,6,7,8,9,10,11,12]) (λh' x=>⟨x.1,x.2.1,x.2.2⟩) hs).I3 λb5 ⟨Y,hm⟩=>⟨(),n5,s,n5,v,Y,hm⟩
  .refine⟨(⟨eH,0,0⟩,10),n5,bt (λ_=>?_) λe=>absurd e n8⟩;exact .inr ⟨λhh=>Y (bb.2 hh),n5,(I.up R12.ac).bu []⟩
def jv(p:Int×Int×Int)(x:Int×Row):Bool:=bP x.1&&decide ((n4 x.2:Int)=p.2.2)
theorem VQ{p:Int×Int×Int}{x:Int×Row}(c:bH p=eX):jv p x=eX↔Ee p x:=by have:=(bI p).1 c;unfold jv;rw[qC,decide_eq_true_iff];exact⟨λ⟨a,b⟩=>⟨a,n7⟩,λh=>⟨h.id,by have:=h.len;omega⟩⟩
def nf(p:Int×Int×Int)(seed:Int)(X:aO)(i:Nat):Row:=(qy i).flatMap λj:Nat=>jN p.2.2.toNat X (dZ (bD p).toNat seed (j:Int))
theorem uW(p:Int×Int×Int)(seed:Int)(X:aO)(i:Nat):nf p seed X (i+1)=nf p seed X i++jN p.2.2.toNat X (dZ (bD p).toNat seed (i:Int)):=by unfold nf;rw[zC,List.flatMap_append];simp
open Classical in
noncomputable def iW(p:Int×Int×Int)(seed:Int)(l:List (Int×Row)):Row×Int:=
 if bH p&&l.all (jv p)then
  if fy p seed (l.map qA)then
   if jb (bD p).toNat (ez p seed (l.map qA)) (mD p l)then(nf p seed (eM (bD p).toNat (ez p seed (l.map qA)) (mD p l)) p.1.toNat,0)else([],10)
  else([],9)
 else([],1)
theorem OZ(p:Pm)(x:Int×Sl)(l:Row)(h:m5)(d:Rd h x.2 1 aq l):ak xR 162 #[go p,xM #[xH xN x.1,x.2]] h λv h'=>v=xL (jv p (x.1,l))/\Sp h h' []:=by
 refine ts Tryz.func162 ?_ (args:=[p,x]);refine(Sp.refl h).boxed λi g f=>?_;refine f.boxed λa2 j a=>?_;have e:=d.len;refine⟨x.1,(a.box 1 n5).cell0 n5,ae (λc=>?_) λc=>?_⟩
 .refine⟨x.1,(a.box 1 n5).cell0 n5,ae (λb=>?_) λb=>?_⟩
  .refine⟨x.2,(a.box 1 n5).cell n5,p.2.2,(a.box 0 n5).cell n5,?_,.zip a.ac⟩;congr 1;unfold jv bP;rw[n1 (show 0<=x.1 from c),n1 (show x.1<=65535 from b),e];rw[yE];simp
  .refine⟨?_,.zip a.ac⟩;unfold jv bP;rw[n2 (show¬x.1<=65535 from b)];simp
 .refine⟨?_,.zip a.ac⟩;unfold jv bP;rw[n2 (show¬0<=x.1 from c)];simp
theorem Pa(p:Pm)(b:hU)(x:Int×Sl)(l:Row)(h:m5)(c:bV h b 24 [xH xN p.1,xH xN p.2.1,xH xN p.2.2])(f:Rd h x.2 1 aq l):ak xR 161 #[xM #[xH xN x.1,x.2],xJ (dB b)] h λv h'=>v=xL (!jv p (x.1,l))/\Sp h h' []:=by refine ts Tryz.func161 ?_ (args:=[x,b]);refine(Sp.refl h).boxed λa2 e a=>?_;refine⟨p,(c.ac a.ac c.lt).aw _ n5,x,(a.box 0 n5).aw _ n5,?_⟩;refine(OZ p x l e (Seq.up f a.ac)).I3 λg d=>⟨_,n5,n5,.zip (a.up d.ac).ac⟩
theorem Pb(p:Pm)(f:hU)(l:Sl)(a:List (Int×Row))(h:m5)(n:bV h f 24 [xH xN p.1,xH xN p.2.1,xH xN p.2.2])(o:eN BA h l a)(B:n4 a<=2^30):ak xR 160 #[l,.func (.func 161) #[] #[xJ (dB f)]] h λv h'=>v=xL (!a.all (jv p))/\Sp h h' []:=by
 refine ts Tryz.func160 ?_ (args:=[l,(.func (.func 161) #[] #[xJ (dB f)])]);refine(lj l (161,#[],#[xJ (dB f)]) (R:=λv h'=>(∃i:Int,v=xH xN i/\(decide (i>=0)=!a.all (jv p)))/\Sp h h' []) ?_).mono ?_
 .skip
  obtain⟨j,y,D,x⟩:=bZ.kQ o;have w:=bZ.len o;refine aj (λi:Nat=>(i:Int)) (λi h'=>i<=n4 a/\(a.take i).all (jv p)=eX/\Sp h h' []) (λi=>n4 a-i) 0 n5 ⟨n7,oo,Sp.refl h⟩ ?_;rintro i s ⟨q,b,d⟩;refine ae (λe=>?_) (λe=>?_)
  .have c:i<n4 a:=n7
   obtain⟨z,t⟩:=x i n7 c;refine(Seq.up y d.ac).cG (g:=yv) i n5 n7 (j[i]'n7) n5 ?_;refine fv qa ?_;refine(Pa p f (j[i]'n7) a[i].2 s (n.ac d.ac n.lt) (Seq.up t d.ac)).I3 λA r=>?_;have k:((j[i]'n7).1,a[i].2)=a[i]:=by rw[z]
   rw[k];refine⟨_,n5,aH (λm=>?_) λm=>?_⟩
   .refine⟨⟨i,n5,?_⟩,d.up r.ac⟩;rw[n1 (show(i:Int)>=0 by omega)];have:a.all (jv p)=eY:=List.all_eq_false.2 ⟨_,qe c,x7⟩;rw[this];rfl
   .refine⟨i+1,o0,⟨n7,?_,d.up r.ac⟩,n7⟩;rw[az _ _ c,List.all_append,b];simpa using m
  .refine⟨⟨-1,n5,?_⟩,d⟩;rw[qf n7]at b;rw[b];rfl
 .rintro _ s ⟨⟨i,rfl,q⟩,u⟩;exact⟨i,n5,by rw[q],u⟩
theorem VR(l:Sl)(b:List (Int×Row))(h:m5)(j:eN BA h l b)(B:n4 b<=2^30):ak xR 164 #[l] h λv h'=>∃r:Sl,v=r/\Sp h h' [ai 3 r 1 ar (b.map qA)]:=by
 refine ts Tryz.func164 ?_ (HF (HF (I0 [(3,bK),(8,aI)] [(3,4),(5,6),(8,18)])));obtain⟨d,u,E,s⟩:=bZ.kQ j;have q:=bZ.len j;refine aj (λt:Nat×Sl=>(t.2,(t.1:Int))) (λt h'=>t.1<=n4 b/\Sp h h' [ai 3 t.2 1 ar ((b.take t.1).map qA)]) (λt=>n4 b-t.1) (0,⟨eH,0,0⟩) n5 ⟨oo,(Sp.refl h).nil 3 1 ar⟩ ?_;rintro⟨i,o⟩ F ⟨D,f⟩;dsimp only at*;refine ae (λe=>?_) (λe=>?_)
 .have c:i<n4 b:=n7
  obtain⟨x,y⟩:=s i n7 c;refine(Seq.up u f.ac).cG (g:=yv) i n5 n7 (d[i]'n7) n5 ?_;refine f.alloc ag n5 λa z p=>?_;refine p.storeAll ag 1 n5 n5 (yv (d[i]'n7)) n5 n5 n5 n5 λh3 m=>?_;refine⟨(d[i]'n7).1,(m.box 1 n5).cell0 n5,?_⟩;refine m.push ag 0 n5 fu n5 n8 (λ_=>rfl) db (d[i]'n7).1 n5 n8 oi λw A k=>?_;refine⟨(i+1,w),oj,⟨n9,?_⟩,n9⟩
  try dsimp only
  rw[az _ _ c,qF];rw[x]at k;exact k.bu [0]
 .have:i=n4 b:=n7
  subst this;rw[qt]at f;exact⟨o,n5,f⟩
theorem Yh{B:au}{q h:m5}{As:List HP}(f b:Sl)(d c:Row)(H:aa B q h (ai 5 b 1 aq c::As))(t:St B q As λh=>Rd h f 1 aq d)
  (A:n4 d=n4 c) (I:n4 d<=2^30) {K:m5->Prop} (v:∀h',aa B q h' (ai 5 b 1 aq (cH 1 d c)::As)->K h'):
  fP (σ:=Int) (λa F g=>
 Br (decide (a<((f.len:Nat):Int)))
 (∃m:hU,(f.ptr=dB m/\0<=a/\a<((f.len:Nat):Int))/\
 ∃j:Int,hY g (m.add (a.toNat*1))=dB (xH xO j)/\
 ∃l:hU,(b.ptr=dB l/\0<=a/\a<((b.len:Nat):Int))/\
 ∃p:Int,hY g (l.add (a.toNat*1))=dB (xH xO p)/\
 ∃a28:hU,(b.ptr=dB a28/\0<=a/\a<((b.len:Nat):Int))/\
 av xR (qD 5 (xJ (dB (a28.add (a.toNat*1)))) (xH xO (qc xO ((qG (qq xO) p^^^(qG (qq xO) j)).toNat:Nat)))) g λ_ s=>
 F (qc xN (a+(1:Int))) s) (K g)) (0:Int) h:=by
 have z:f.len=n4 d:=(t.at [ai 5 b 1 aq c] H).len;refine aj (λk:Nat=>(k:Int)) (λk h'=>k<=n4 d/\aa B q h' (ai 5 b 1 aq (zl (λx y=>y^^^x) (d.take k) (c.take k)++c.drop k)::As)) (λk=>n4 d-k) 0 n5 ⟨n7,v8⟩ ?_;rintro k E ⟨G,n⟩;have w:=t.at [_] n;refine ae (λe=>?_) (λe=>?_)
 .have r:k<n4 d:=n7
  have o:n4 (zl (λx y=>y^^^x) (d.take k) (c.take k))=k:=oi
  have D:n4 (zl (λx y=>y^^^x) (d.take k) (c.take k)++c.drop k)=n4 c:=by rw[qo,o,qJ];omega
  refine w.aV k n5 r _ n5 ?_;have i:(zl (λx y=>y^^^x) (d.take k) (c.take k)++c.drop k)[k]'n7=c[k]:=by rw[List.getElem_append_right n7];simp[o]
  refine(n.seq 0 n5 λ_=>rfl).aV k n5 n7 _ n5 ?_;rw[i,lQ];refine n.set ag 0 n5 (λ_=>rfl) n5 k n5 n7 _ n5 n5 n5 λh3 u=>?_;rw[zu,Du A]at u;exact⟨k+1,o0,⟨n7,u⟩,n7⟩
 .have:k=n4 d:=n7
  subst this;rw[qf (qj _),qf n7,List.drop_of_length_le n7,qL,<-Qn]at n;exact v E n
theorem SO(p:Pm)(seed:Int)(l:Sl)(a:List (Int×Row))(h:m5)(hl:eN BA h l a)(T:n4 a<=2^18):
  ak xR 89 #[go p,xH xP seed,l] h λv h'=>∃r:Sl,v=.tuple #[r,xH xN (iW p seed a).2]/\Sp h h' [ai 5 r 1 aq (iW p seed a).1]:=by
 refine ts Tryz.func89 ?_ (HF (I1 [] [(6,8),(17,25)] (I1 [] [(6,8),(25,31)] (HF (HF (HF (G0 (HF (G7 (G9 [(10,bK),(43,aI)] [(10,13),(14,17),(43,81)] (HF (HF (G0 (G7 (HF (HF (G0 (HF (G7 (G9 [(54,aI)] [(14,17),(54,77)] (HF (HF (G0 (G7 (HF (HF (G7 (G9 [(63,aI)] [(15,17),(63,76)] G6))))) G6)))))) G6)))) G6)))))) G6))))))) (args:=[p,(xH xP (seed:Int)),l]);refine(Sp.refl h).boxed λM h1 H1=>?_;have u:∀{h':m5} (e:Int),Sp h h' [an M 24 [xH xN p.1,xH xN p.2.1,xH xN p.2.2]]->iW p seed a=([],e)->∃r:Sl,(.tuple #[xI eH 0 0,xH xN e]:Value)=.tuple #[r,xH xN (iW p seed a).2]/\Sp h h' [ai 5 r 1 aq (iW p seed a).1]:=λe Y he=>by
  rw[he];exact⟨⟨eH,0,0⟩,n5,(Y.nil 5 1 aq).bu [1]⟩
 refine aE ⟨p,(H1.box 0 n5).aw _ n5,?_⟩;refine(eV p h1).I3 λh2 R2=>?_;have P:=H1.up R2.ac;refine⟨_,n5,aH (λe=>?_) λb=>?_⟩
 .exact u 1 P (by unfold iW;rw[e];rfl)
 refine(Pb p M l a h2 (P.box 0 n5) (eN.up hl P.ac) n7).I3 λh3 R3=>?_;have R:=P.up R3.ac;refine⟨_,n5,aH (λe=>?_) λf=>?_⟩
 .exact u 1 R (by unfold iW;rw[b,e];rfl)
 refine aE ⟨p,(R.box 0 n5).aw _ n5,?_⟩;refine(VR l a h3 (eN.up hl R.ac) n7).I4 λr h4 R4=>?_;have H4:=R.comp R4;have G:=H4.box 0 n5;refine⟨r,n5,⟨G.cell0 n5,G.cell n5,G.cell n5,I6⟩,?_⟩;refine(JD p seed r (a.map qA) h4 (H4.seq 1 n5 λ_=>rfl) oi).I3 λh5 R5=>?_;have K:=(H4.up R5.ac).bu [0];refine⟨_,n5,I6,aH (λe=>?_) λd=>?_⟩
 .exact u 9 K (by unfold iW;rw[b,f,e];rfl)
 have E:∀x∈a,Ee p x:=λx k=>(VQ b).1 (qP.1 f x k);have ao:=(bI p).1 b;have ay:=py b;have hr:cv (ez p seed (a.map qA))=(bD p).toNat:=by have:=d;unfold fy AY at this;rw[b]at this;simp at this;omega
 refine⟨p,(K.box 0 n5).aw _ n5,?_⟩;refine(Yg p seed l a (bD p).toNat p.2.2.toNat h5 (eN.up hl K.ac) b E n5 n5 T hr).mono ?_;rintro _ h6 (⟨hc,m,rfl,R6⟩|⟨hc,rfl,R6⟩)
 rotate_left
 .refine⟨(⟨eH,0,0⟩,10),n5,bt (λ_=>u 10 (K.up R6.ac) ?_) λe=>absurd e n8⟩;unfold iW;rw[b,f,d,nq hc];rfl
 refine⟨(m,0),n5,bt (λe=>absurd n5 e) λ_=>?_⟩;obtain⟨X,hX⟩:=I5 (eM (bD p).toNat (ez p seed (a.map qA)) (mD p a))
 have O:iW p seed a=(nf p seed X p.1.toNat,0):=by unfold iW;rw[b,f,d,m6 hc,hX];rfl
 have W:aU p.2.2.toNat (mD p a):=λx k=>by
  rcases qx.1 k with k|k
  .rw[(yj.1 k).2];simp[aN]
  .obtain⟨y,hy,rfl⟩:=qI.1 k;exact(E y hy).len
 have ad:n4 (ez p seed (a.map qA))=n4 (mD p a):=by rw[<-RI (n:=(bD p).toNat) (seed:=seed) b n5 E,<-RJ (n:=(bD p).toNat) (seed:=seed) (p:=p) (l:=a) rfl];exact sU
 obtain⟨A,q⟩:=pz ad (nZ p seed _) W hr;rw[<-hX]at R6 A q;have H6:=(K.comp R6).Rl 1 n5;obtain⟨Q,S⟩:=aa.Fu H6 1 rfl λ_=>rfl;have al:=(S.dg 1 n5).1.len;have ax:=(S.dg 1 n5).2.1;refine⟨p.1,(S.box 0 n5).cell0 n5,?_⟩;rw[O];have L:Sp h h6 [ai 5 ⟨eH,0,0⟩ 1 aq [],an M 24 [xH xN p.1,xH xN p.2.1,xH xN p.2.2],ci (iG 1 aq) 1 bv m Q X]:=(S.nil 5 1 aq).bu [2,0,1];have N:∀j:Nat,n4 (jN p.2.2.toNat X (dZ (bD p).toNat seed (j:Int)))=p.2.2.toNat:=λj=>PR q A λx k=>km n7 n7 k;have F:∀i,n4 (nf p seed X i)=i*p.2.2.toNat:=λi=>by
  induction i with
  |zero=>simp[nf]
  |succ i ih=>rw[uW,qo,ih,N,zU]
 refine aj (λt:Nat×Sl=>(t.2,(t.1:Int))) (λt h'=>t.1<=p.1.toNat/\Sp h h' [ai 5 t.2 1 aq (nf p seed X t.1),an M 24 [xH xN p.1,xH xN p.2.1,xH xN p.2.2],ci (iG 1 aq) 1 bv m Q X]) (λt=>p.1.toNat-t.1) (0,⟨eH,0,0⟩) n5 ⟨n7,by simpa[nf]using L⟩ ?_;rintro⟨i,o⟩ h8 ⟨hi,L⟩;dsimp only at*;refine ae (λe=>?_) (λe=>?_)
 .have a4:i<p.1.toNat:=n7
  refine⟨p.2.2,(L.box 1 n5).cell n5,?_⟩;refine L.make ag aq cK n8 0 n5 n5 p.2.2.toNat p.2.2.toNat n7 n7 (qj _) n7 λsm h9 _ _ H9=>?_;refine⟨p,(H9.box 1 n5).aw _ n5,(uR p seed (i:Int) h9).I4 λc a2 z=>?_⟩;have ah:(bH p&&bP (i:Int))=eX:=by rw[b];unfold bP;simp;omega
  rw[ah,m6 rfl]at z;have B:=(H9.comp z).bu [3,0,1,2,4];refine⟨c,n5,?_⟩;generalize I:dZ (bD p).toNat seed (i:Int)=cs at B z;have w:∀x∈cs,0<=x/\x<((bD p).toNat:Int):=λx k=>km n7 n7 (I▸k);have ap:n4 cs<=20:=by have:=mw (n:=(bD p).toNat) n7 n7 seed (i:Int);rw[I]at this;omega
  have a0:=(B.own 4 n5).len;refine aj (λj:Nat=>(j:Int)) (λj h'=>j<=n4 cs/\Sp h h' [ai 5 sm 1 aq (jN p.2.2.toNat X (cs.take j)),ai 5 o 1 aq (nf p seed X i),an M 24 [xH xN p.1,xH xN p.2.1,xH xN p.2.2],ci (iG 1 aq) 1 bv m Q X,ai 3 c 1 ar cs]) (λj=>n4 cs-j) 0 n5 ⟨n7,B⟩ ?_;rintro j a3 ⟨hj,g⟩;have J:=oE q A w j hj;refine ae (λe2=>?_) (λe2=>?_)
  .have H:j<n4 cs:=n7
   have am:=w _ (qe H);refine(g.seq 4 n5 λ_=>rfl).aV j n5 H _ n5 ?_;have s:cs[j].toNat<n4 X:=n7
   refine(g.dg 3 n5).1.kX cs[j].toNat n7 n7 ?_;have ab:n4 (X[cs[j].toNat]'s)=p.2.2.toNat:=q _ (qe _);refine Yh (Q[cs[j].toNat]'n7) sm (X[cs[j].toNat]'s) _ g (St.mk' λh' Y=>Fix.row (Y.dg 2 n5) s) (by rw[ab,J]) n7 λZ D=>?_;refine⟨j+1,o0,⟨n7,?_⟩,n7⟩;rw[az _ _ H,AZ,mb s];exact D
  .have U:j=n4 cs:=n7
   subst U;rw[qt]at g J;refine g.append ag 1 n5 cK ui n5 n8 (λ_=>rfl) (g.seq 0 n5 λ_=>rfl) cB (by rw[F,J];have:i*p.2.2.toNat<=16*24:=zr n7 n7;omega) λo' Z D=>?_;refine⟨(i+1,o'),oj,⟨n9,?_⟩,n9⟩
   try dsimp only
   rw[uW,I];exact D.bu [1,2,3]
 .have V:i=p.1.toNat:=n7
  subst V;exact⟨o,n5,L.bu [0]⟩
variable {p:Int×Int×Int} {seed:Int} {d:Row} {K H w n:Nat}
theorem SP{m:aB}{r:ck}:dF m r=eX↔jL r=eX/\r.p=m.p/\∃x∈m.objs,x.object=r.object/\r.block<(x.tries.length:Int)/\r.seed=fl r.object r.block (x.tries.getD r.block.toNat 0):=by unfold dF;simp
def SQ(m:aB)(C:Int->aR)(o b:Int):aR:=(splitB m.p (C o)).getD b.toNat []
def ady(m:aB)(C:Int->aR)(r:ck):Prop:=r.data=Bp m.p r.seed (SQ m C r.object r.block) r.id
structure acx (m:aB) (C:Int->aR) (c:aR):Prop where
 old:∀r,dn c=dB r->r.object<m.next
 tru:∀r,dn c=dB r->dF m r=eX->ady m C r
 page:∀g,Dt c=dB g->g.seq<=m.seq/\(g.seq=m.seq->c∈bG m)
theorem VS{m:aB}{l:dP}{r:ck}(h:r∈gK m l):gc r∈l/\dn (gc r)=dB r/\dF m r=eX:=by
 obtain⟨c,b,a,d⟩:=Bw h;rw[(Ri a).1]
 grind
structure No (m:aB) (C:Int->aR) (ds:aF):Prop where
 may:bE m=eX
 len:ds.length=64
 cells:∀k d,bR ds k=dB d->∀c∈d.l,acx m C c
 ents:∀e∈m.objs,((C e.object).length:Int)=e.length/\cR m.p e.object (splitB m.p (C e.object)).length=dB e.tries
def iA(p:Int×Int×Int)(bl:dP)(n:Int):aR:=if bH p=eX/\0<=n/\(n4 bl:Int)=countP p n/\(bl.all λx=>decide (n4 x=cN p))=eX then bl.flatten.take n.toNat else[]
noncomputable def kE(m:aB)(a:aF)(o:Int)(tries:aC)(k:Nat):aR×Int:=iW m.p (fl o k (tries.getD k 0)) (dp m a (aY a m.drives) o k)
def oT(m:aB)(a:aF)(k:Int):Bool:=match bR a k with|some d=>jh m d.l|none=>eY
def BB(m:aB)(a:aF):Bool:=(aY a m.drives).any (oT m a)
noncomputable def pM(m:aB)(a:aF)(e:cT):aR×Int:=
 if BB m a=eY then([],11)else if((qy e.tries.length).all λk=>decide ((kE m a e.object e.tries k).2=0))=eX then(iA m.p ((qy e.tries.length).map λk=>(kE m a e.object e.tries k).1) e.length,0)else([],11)
noncomputable def iX(m:aB)(b:Int)(w:Pow)(c:aF)(a:ByteArray):aR×Int:=
 if gN w b then([],14)else match m.objs.find? (dD a)with
 |none=>([],5)
 |some e=>pM m c e
def aau(m:aB)(a:aF)(o b:Int):aC:=(dp m a (aY a m.drives) o b).map qA
theorem EU{p:Int×Int×Int}(a:bH p=eX)(n:Nat):n<=(countP p n).toNat*cN p:=by
 obtain⟨h,g,b⟩:=gZ a;unfold countP;rw[a,Bool.true_and];by_cases h0:0<(n:Int)
 .rw[n1 h0,m6 n5,<-b];have f:=wj ((n)-1) (show(0:Int)<(cN p)by omega);have d:=Int.mul_ediv_add_emod ((n)-1) (cN p);have h3:0<=((n)-1)/(cN p:Int):=Int.ediv_nonneg n7 n7;obtain⟨q,c⟩:=Int.eq_ofNat_of_zero_le h3;rw[c]at d⊢;have e:((q:Int)+1).toNat=q+1:=rfl;rw[e,]
  grind
 .omega
variable {m:aB} {ds:aF} {offs:Int}
section
variable {C:Int->aR} {w:Pow}
end
theorem AB{a:Nat}:∀{l:dP},(∀x∈l,n4 x=a)->n4 l.flatten=n4 l*a
 |[],_=>oo
 |x::l,h=>by
  rw[List.flatten_cons,qo,h x List.mem_cons_self,AB λy b=>h y (qp _ b),q7,zU];omega
theorem SS(p:Pm)(l:Sl)(ll:dP)(n:Int)(h:m5)(J:dT h l 1 aq ll)(hn:n<=2^20)(X:n4 ll<=2^10):
  ak xR 91 #[go p,l,xH xN n] h λv h'=>∃(r:Sl) (b:Bool),v=.tuple #[r,xL b]/\Sp h h' [EA (iG 1 aq) r (iA p ll n)]:=by
 refine ts Tryz.func91 ?_ (HF (I1 [] [(6,8),(11,26)] (HF (I0 [(8,bK),(28,aI)] [(6,9),(10,11),(28,41)])))) (args:=[p,l,(n:Int)]);have j:=J.len;refine(Sp.refl h).boxed λI h1 M=>?_;have f:∀{h':m5},Sp h h' [an I 24 [xH xN p.1,xH xN p.2.1,xH xN p.2.2]]->iA p ll n=[]->∃(r:Sl) (b:Bool),(.tuple #[xI eH 0 0,xL eY]:Value)=.tuple #[r,xL b]/\Sp h h' [EA (iG 1 aq) r (iA p ll n)]:=λH' Y=>by
  rw[Y];exact⟨⟨eH,0,0⟩,eY,n5,(((H'.nil 5 1 aq).bu [1]).DU 0 n5 λ_=>rfl)⟩
 refine aE ⟨p,(M.box 0 n5).aw _ n5,(eV p h1).I3 λR V=>?_⟩;have y:=M.up V.ac;refine⟨_,n5,aH (λe=>f y (by unfold iA;rw[nq (by rintro⟨h,_⟩;rw[e]at h;cases h)])) λW=>ae (λe=>f y (by unfold iA;rw[nq (by rintro⟨_,h,_⟩;omega)])) λe2=>?_⟩;have B:bH p=eX:=by simpa using W
 refine⟨p,(y.box 0 n5).aw _ n5,(sE p n R).I3 λh3 Q=>?_⟩;have P:=y.up Q.ac;refine⟨_,n5,bt (λe=>f P (by unfold iA;rw[nq (by rintro⟨_,_,h,_⟩;rw[j]at e;exact e h)])) λH=>?_⟩;have G:(n4 ll:Int)=countP p n:=by rw[j]at H;exact H
 obtain⟨s1,s2,s3⟩:=gZ B;refine aj (λt:Sl×Nat=>(t.1,(t.2:Int))) (λt h'=>t.2<=n4 ll/\(∀x∈ll.take t.2,n4 x=cN p)/\Sp h h' [an I 24 [xH xN p.1,xH xN p.2.1,xH xN p.2.2],ai 5 t.1 1 aq (ll.take t.2).flatten]) (λt=>n4 ll-t.2) (⟨eH,0,0⟩,0) n5 ⟨oo,oo,P.nil 5 1 aq⟩ ?_;rintro⟨o,i⟩ T ⟨L,a,s⟩;dsimp only at L a s⊢;refine ae (λe=>?_) λe=>?_
 .have d:i<n4 ll:=by have U:(i:Int)<(l.len:Int):=e;omega
  refine(J.up s.ac).get i n5 d λr K=>⟨p,(s.box 0 n5).aw _ n5,(Dg p T B).I3 λh5 N=>?_⟩;have A:=s.up N.ac;have w:=K.len;refine⟨_,n5,bt (λz=>?_) λz=>?_⟩
  .refine f (A.bu [0]) ?_;unfold iA;rw[nq];rintro⟨_,_,_,h⟩;have:=n3 (qP.1 h _ (qe d));exact z (by rw[w,this])
  .have E:ll[i].length=cN p:=by rw[w]at z;exact yO.1 z
   have u:=AB a;rw[List.length_take_of_le L]at u;have hb:i*cN p<=2^10*2^10:=zr n7 n7;refine A.append ag 1 n5 cK ⟨_,_,n5,n5⟩ n5 n8 (λ_=>rfl) (Seq.up K N.ac) cB n7 λo' h6 H6=>?_;refine⟨(o',i+1),oj,⟨n9,?_,?_⟩,n9⟩
   .try dsimp only
    intro x g;rw[az _ _ d]at g;rcases qx.1 g with g|g
    .exact a x g
    .rw[qB.1 g];exact E
   .try dsimp only
    rw[az _ _ d,List.flatten_append];simpa using H6
 .rw[qf (by have U:¬(i:Int)<(l.len:Int):=e;omega)]at a s;have u:=AB a;have m:=s.own 1 n5;have F:=m.len;obtain⟨k,S⟩:∃k:Nat,n=k:=⟨n.toNat,n7⟩
  subst S;have c:=EU B k;have D:(countP p (k:Int)).toNat=n4 ll:=n7
  rw[D,<-u,<-F]at c;have Z:iA p ll (k:Int)=ll.flatten.take k:=by unfold iA;rw[m6 ⟨B,n7,G,qP.2 λx g=>n1 (a x g)⟩,qi]
  refine gX ag cK k n5 n5 (qV c m.cap) ?_;refine⟨⟨o.ptr,k,k⟩,eX,n5,?_⟩;rw[Z];have A:=(s.bu [1]).DU 0 n5 λ_=>rfl;refine A.dW 0 n5 λq hq=>?_;have O:=Seq.take hq k n7;exact⟨O.1,O.2⟩
variable {a:hU} {da:List bJ}
section
variable {pw:hU} {w:Pow}
theorem Pc(x:bi)(u:bE m=eX)(H:aa B h0 h (aJ bN a pw (aD x) offs da w ds::bn x m::As)):
  ak xR 88 #[xJ (dB a)] h λv h'=>v=xL (BB m ds)/\Sp h h' []:=by
 refine ts Tryz.func88 ?_;have G:=jH u;have l:=gn u;refine(Sp.refl h).boxed λj N p=>?_;have t:=H.up p.ac;refine⟨dB a,(p.box 0 n5).cell0 n5,(eW x m (t.at 1 n5) G t).I4 λz J q=>?_⟩;have c:=p.comp q;have L:n4 (aY ds m.drives)<=64:=qV (qH _ _) l;refine⟨z,n5,(JI 158 #[] #[xJ (dB j)] (oT m ds) z (aY ds m.drives) J qa (q.seq 0 n5 λ_=>rfl) n7 ?_).mono ?_⟩
 .intro k K h3 g;have i:=t.up (q.up g.ac).ac;have f:bV h3 j 30 [xJ (dB a)]:=(c.up g.ac).box 0 n5;obtain⟨ok,I⟩:=aa.cw i;obtain⟨y,d,o,_⟩:=pJ K;have D:=gx u k y;refine ts Tryz.func158 ?_ (args:=[(k:Int),j]);obtain⟨n,rfl⟩:∃n:Nat,k=n:=⟨k.toNat,n7⟩
  have A:n<n4 da:=C1
  have cd:hY h3 ((a.add 10).add ((n:Int).toNat*1))=dB (.pointer da[n]):=by rw[qi,zG];refine I.mi 10 n ?_;rw[mH ok.l8,qd A];rfl
  have r:de da (n:Int)=da[n]:=by unfold de;rw[m6 n7,qi,qd A];rfl
  obtain⟨b,s,bl,e,_⟩:=Ds o i;refine⟨dB a,f.cell0 n5,a,n5,⟨n7,n7⟩,da[n],cd,dB a,f.cell0 n5,a,n5,x,I.aw _ n5,?_⟩;rw[<-r,e];refine(Na x m o e (i.at 1 n5) G i).I3 λM E=>?_;have F:=(f.ac E.ac f.lt).cell0 n5;refine⟨_,n5,⟨F,F,I6⟩,?_,E⟩;unfold oT;rw[o]
 .rintro _ h3 ⟨rfl,g⟩;exact⟨_,n5,n5,.zip (c.up g.ac).ac⟩
theorem Eo{a:ByteArray}{l:List Qw.cT}{i:Int}(h:Mw (dD a) l i):(i<0/\l.find? (dD a)=eH)∨∃(n:Nat) (c:n<n4 l),i=n/\l.find? (dD a)=dB l[n]:=by
 rcases h with⟨rfl,h⟩|⟨n,c,rfl,h1,h2⟩
 .exact .inl ⟨n8,List.find?_eq_none.2 λe b=>wg.1 h e b⟩
 .refine .inr ⟨n,c,n5,List.find?_eq_some_iff_append.2 ⟨h1,l.take n,l.drop (n+1),?_,λe b=>?_⟩⟩
  .rw[<-qT c,List.take_append_drop]
  .have:=wg.1 h2 e b;simpa using this
theorem Yi(x:bi)(f:ByteArray)(N:bE m=eX)(M:∀k d,bR ds k=dB d->d.l.length<=512)(H:aa B h0 h (aJ bN a pw (aD x) offs da w ds::bn x m::As)):
  ak xR 31 #[xJ (dB a),xK f] h λv h'=>∃r:Sl,v=.tuple #[r,xH xN (iX m offs w ds f).2]/\Sp h h' [EA (iG 1 aq) r (iX m offs w ds f).1]:=by
 refine ts Tryz.func31 ?_ (HF (HF (HF (HF (HF (HF (HF (G0 (HF (G7 (G9 [(8,bK),(37,aI)] [(4,6),(8,14),(37,76)] (HF (HF (G0 (G7 (HF (I1 [(11,bK)] [(11,12),(42,54)] (I1 [(12,bK),(13,aI)] [(12,14),(54,69)] G6)))) G6)))))) G6)))))))) [(13,(.l [0,1,2,4,5,6,7,8,9,10,3,11,12])),(14,(.l [0,1,2,3,4,5,6,7,8,10,9,11,12,13,14,15,16]))];have hz:=jH N;have ao:=gn N;have ap:(aY ds m.drives).length<=64:=qV (qH _ _) ao;have q:∀{h':m5} (e:Int),Sp h h' []->iX m offs w ds f=([],e)->∃r:Sl,(.tuple #[xI eH 0 0,xH xN e]:Value)=.tuple #[r,xH xN (iX m offs w ds f).2]/\Sp h h' [EA (iG 1 aq) r (iX m offs w ds f).1]:=λe R he=>by
  rw[he];exact⟨⟨eH,0,0⟩,n5,(R.nil 5 1 aq).DU 0 n5 λ_=>rfl⟩
 refine(og H).mono ?_;rintro _ h1 ⟨rfl,rfl⟩;refine⟨_,n5,aT (λe=>q 14 (Sp.refl _) (by unfold iX;rw[m6 e])) λe1=>?_⟩;refine(find_spec x m f (H.at 1 n5) hz H).mono ?_;rintro _ h2 ⟨⟨i,rfl,hi⟩,R2⟩;have H2:=H.up R2.ac;refine⟨i,n5,?_⟩;rcases Eo hi with⟨hneg,hf⟩|⟨n,hn,rfl,hf⟩
 .exact ae (λ_=>q 5 R2 (by unfold iX;rw[nq pa,hf])) λe=>absurd hneg e
 refine ae (λe=>absurd e (xh.2 (ze n))) λ_=>?_;obtain⟨E,hE⟩:=I5 (m.objs[n])
 have a2:E∈m.objs:=C5
 have ep:iX m offs w ds f=pM m ds E:=by unfold iX;rw[nq pa,hf,hE]
 rw[ep]at q⊢;refine(Pc x N H2).I3 λh3 R3=>?_;have H3:=H2.up R3.ac;have L:=R2.up R3.ac;refine⟨_,n5,aH (λe=>q 11 L (by unfold pM;rw[m6 e])) λe3=>?_⟩;have e3:BB m ds=eX:=by simpa using e3
 have X:=(iI m E).1 (((cJ m).1 N).2.2.2.2.1 E a2);have a7:E.tries.length<=8:=by have:=lN X.2.2.1.2;omega
 have ah:=((iT m).1 ((cJ m).1 N).1).2.2.1;have ad:=(aa.cw H3).2;have ax:ct h1 x m:=H.at 1 n5;obtain⟨ys,F⟩:=bZ.fix ax.objs;have a6:=F.2.1;have u:=Fix.row F hn;obtain⟨xe,P⟩:=I5 (ys[n]'n7)
 rw[<-hE,<-P]at u;refine⟨a,n5,x.2.2.2.2.2.2.2,ad.cell n5,(Seq.up F.1 L.ac).cG (g:=bg) n n5 n7 xe (by rw[P]) ?_⟩;refine(Sp.refl h3).alloc ag n5 λa8 h4 Q4=>?_;refine Q4.storeAll ag 0 n5 n5 (bg xe) n5 n5 n5 n5 λh5 Q5=>?_;have R5:=L.comp Q5;have Y:Rd h1 xe.2.2.2 1 ar E.tries:=u.2;have a3:=Y.len;have eo:xe.2.1=E.object:=u.1.2.1;have el:xe.2.2.1=E.length:=u.1.2.2;have R5:=R5.jm 41 5 1 aq;refine⟨xe.2.2.2,(Q5.box 0 n5).cell n5,?_⟩;refine aj (λt:Sl×Nat=>(t.1,(t.2:Int))) (λt h'=>t.2<=E.tries.length/\(∀j,j<t.2->(kE m ds E.object E.tries j).2=0)/\Sp h1 h' [ce t.1 ((qy t.2).map λj=>(kE m ds E.object E.tries j).1),an a8 83 (bg xe)]) (λt=>E.tries.length-t.2) (⟨eH,0,0⟩,0) n5 ⟨oo,λj y=>absurd y (Nat.not_lt_zero _),R5⟩ ?_;rintro⟨o,k⟩ h6 ⟨hk,D,z⟩;dsimp only at hk D z⊢;have H6:=H.up z.ac;have T:=(aa.cw H6).2;have U:ct h6 x m:=H6.at 1 n5;have cp:∀{h':m5},bV h' a 105 (cZ (aD x) pw offs da)->aZ h' (a.add 2) 0 [xH xN m.p.1,xH xN m.p.2.1,xH xN m.p.2.2]:=λ{h'} hb=>by
  rw[<-U.p];exact⟨o8,o8,o8,I6⟩
 refine ae (λe=>?_) λe=>?_
 .have K:k<E.tries.length:=by have e':(k:Int)<(xe.2.2.2.len:Int):=e;omega
  refine(Seq.up Y z.ac).aV k n5 K E.tries[k] n5 ?_;refine aE ⟨a,n5,x,T.aw _ n5,xe.2.1,(z.box 1 n5).cell n5,(eW x m U hz H6).I4 λlv h7 R7=>?_⟩;have H7:=H6.up R7.ac;have s:=(aa.cw H7).2;have O:=z.up R7.ac;refine⟨lv,n5,⟨(O.box 1 n5).cell n5,s.cell0 n5,s.cell n5,s.cell n5,s.cell n5,s.cell n5,s.cell n5,s.cell n5,s.cell n5,I6⟩,?_⟩;rw[eo];refine(Dn x m lv (aY ds m.drives) E.object k (H7.at 1 rfl) hz (R7.seq 0 rfl λ_=>rfl) n7 (λj y=>by obtain⟨_,d,Z,_⟩:=pJ y;exact⟨d,Z⟩) H7).mono ?_;rintro _ h8 ⟨r,ss,rfl,R8⟩;have H8:=H7.up R8.ac;have S:=(aa.cw H8).2;have J:=O.up R8.ac;refine⟨r,n5,I6,aE ⟨a,n5,m.p,cp S,xe.2.1,(J.box 1 n5).cell n5,(sG xe.2.1 k E.tries[k] h8).mono ?_⟩⟩;rintro _ h9 ⟨rfl,rfl⟩;obtain⟨c1,c2,c3,_⟩:=cp S;have I:Fix dR 2 piv h9 (λb=>b<h9.size) r ss (dp m ds (aY ds m.drives) E.object k):=R8.at 0 n5;have ay:eN BA h9 r (dp m ds (aY ds m.drives) E.object k):=⟨ss,I.1,I.2.1,I.2.2⟩
  have a4:(dp m ds (aY ds m.drives) E.object k).length<=64*512:=by unfold dp;refine qV (En (c:=512) λj y=>?_) (zi _ ap);obtain⟨_,d,Z,_⟩:=pJ y;unfold jR;rw[Z];have h1:=sK m E.object k d.l;have h2:=M j d Z;show(rK m E.object k d.l).length<=512;omega
  rw[eo];refine⟨_,n5,⟨c1,c2,c3,I6⟩,(SO m.p (fl E.object k E.tries[k]) r _ h9 ay n7).I4 λa0 a9 A=>?_⟩;have eb:iW m.p (fl E.object k E.tries[k]) (dp m ds (aY ds m.drives) E.object k)=kE m ds E.object E.tries k:=by unfold kE;rw[rC 0 K]
  rw[eb]at A⊢;have Q:=J.up A.ac;refine⟨(a0,(kE m ds E.object E.tries k).2),n5,I6,bt (λe4=>q 11 (.zip Q.ac) ?_) λe4=>?_⟩
  .unfold pM;rw[nq D4,nq];intro V;exact e4 (n3 (qP.1 V k (qY.2 K)))
  .have al:=(J.comp A).aG 3 [0,2,1];refine aa.mh ag al cI oi λo' bb ab=>?_;refine⟨(o',k+1),oj,⟨n9,λj y=>?_,?_⟩,n9⟩
   .rcases q8.1 y with y|rfl
    .exact D j y
    .simpa using e4
   .try dsimp only
    rw[zC,qF];exact ab
 .have a1:k=E.tries.length:=by have e':¬(k:Int)<(xe.2.2.2.len:Int):=e;omega
  subst a1;refine⟨a,n5,m.p,cp T,xe.2.2.1,(z.box 1 n5).cell n5,?_⟩;rw[el];have G:E.length<=2^20:=by obtain⟨⟨k1,k2⟩,_,z1,z2⟩:=(bI m.p).1 ah;have:m.p.1*m.p.2.2<=16*24:=Int.mul_le_mul k2 z2 n7 n7;have:=X.2.2.1.2;omega
  refine(SS m.p o _ E.length h6 (z.uC λ_=>rfl) G oi).mono ?_;rintro _ a5 ⟨W,b,rfl,am⟩;have eg:pM m ds E=(iA m.p ((qy E.tries.length).map λk=>(kE m ds E.object E.tries k).1) E.length,0):=by unfold pM;rw[nq D4,m6 (qP.2 λj y=>n1 (D j (qY.1 y)))]
  rw[eg];exact⟨(W,b),n5,I6,W,n5,((z.comp am).bu [2])⟩
end
def Dz(m:aB)(a:aF)(o k:Int):Nat:=match bR a k with|some d=>(gK m d.l).countP (λr=>decide (r.object=o))|none=>0
def nO(m:aB)(a:aF)(live:aC)(o:Int):Nat:=(live.map (Dz m a o)).sum
def gD(m:aB)(b:Int)(w:Pow)(c:aF)(a:ByteArray):(Int×Int×Int)×Int:=
 if gN w b=eX then((0,0,0),14)else match m.objs.find? (dD a)with
 |none=>((0,0,0),5)
 |some e=>((e.length,(e.tries.length:Int),(nO m c (aY c m.drives) e.object:Int)),0)
section
variable {pw:hU} {w:Pow}
abbrev me(s:Int×Int×Int)(t:Sl):aS:=[xH xN s.1,xH xN s.2.1,xH xN s.2.2,t]
theorem aav(m:aB)(b:aF)(o k:Int)(a:∀k d,bR b k=dB d->n4 d.l<=512):Dz m b o k<=512:=by
 unfold Dz;cases hd:bR b k with
 |none=>exact qX _
 |some d=>exact qV List.countP_le_length (qV (iV m d.l) (a k d hd))
theorem Qq(m:aB)(b:aF)(o:Int)(a:∀k d,bR b k=dB d->n4 d.l<=512):∀l:aC,nO m b l o<=n4 l*512
 |[]=>by simp[nO]
 |k::l=>by
  have:=Qq m b o a l;have:=aav m b o k a;unfold nO at*;rw[List.map_cons,List.sum_cons,q7,zU];omega
theorem VT(m:aB)(a:aF)(o:Int)(l:aC)(i:Nat)(b:i<n4 l):nO m a (l.take (i+1)) o=nO m a (l.take i) o+Dz m a o l[i]:=by unfold nO;rw[List.take_succ_eq_append_getElem b,qF,List.sum_append];simp
end
structure aec (m:aB) (o:Int) (d:bp) (bad:Nat->Prop):Prop where
 lost:d.lost=eY
 pos:0<d.l.length
 len:d.l.length<=60
 cell:∀c∈d.l,c.length=64
 bad:∀j (hj:j<d.l.length),gz d.l[j]=eH↔bad j
 cnt:∀c∈d.l,∀r,dn c=dB r->dF m r=eX/\r.object=o
 apart:(d.l.filterMap (gj m)).Pairwise λa b=>dJ a b=eY
theorem JX(k:Nat):upto (k+1)=upto k++[(k:Int)]:=by simp[upto,zC]
theorem Yj(n:Nat)(a:n<65536):(qG (qq .u16) (n:Int)).toNat=n:=by simp[qq];omega
theorem Qr(p q:Nat)(b:p<65536)(a:q<65536):qc .u16 ((qG (qq .u16) (p:Int)^^^qG (qq .u16) (q:Int)).toNat:Nat)=((p^^^q:Nat):Int):=by rw[BitVec.toNat_xor,Yj p b,Yj q a];have:p^^^q<2^16:=Nat.xor_lt_two_pow b a;show((p^^^q:Nat):Int)%65536=_;omega
theorem zY(a b:UInt8)(h:m5):ak xR 330 #[xH xO a.toNat,xH xO b.toNat] h λv h'=>v=xH xO (Gf.mul a b).toNat/\h'=h:=by
 have u:∀b:Nat,b<256->∀i:Nat,i<8->(qc xO ((qG (qq xO) (zo (b:Int) (2^min (i:Int).toNat (qq xO)))&&&(qG (qq xO) (1:Int))).toNat:Nat))=((b/2^i%2:Nat):Int):=o6
 have w:∀a:Nat,a<256->∀i:Nat,i<8->qc .u16 ((qc .u16 (a:Int))*2^min (i:Int).toNat (qq .u16))=((a*2^i:Nat):Int)/\a*2^i<65536:=o6
 have t3:∀(p i:Nat),p<65536->i<16->qc .u16 ((qG (qq .u16) (zo (p:Int) (2^min (i:Int).toNat (qq .u16)))&&&(qG (qq .u16) (1:Int))).toNat:Nat)=((p/2^i%2:Nat):Int):=by
  intro p i g f;have d:min (i:Int).toNat (qq .u16)=i:=by simp[qq];omega
  rw[d];have t:zo (p:Int) (2^i)=((p/2^i:Nat):Int):=by rw[Int.fdiv_eq_ediv_of_nonneg _ (by exact Int.pow_nonneg n8)];simp
  rw[t];have k:p/2^i<65536:=Nat.lt_of_le_of_lt (Nat.div_le_self _ _) g;have r:(qG (qq .u16) ((p/2^i:Nat):Int)).toNat=p/2^i:=Yj _ k;have s:(qG (qq .u16) (1:Int)).toNat=1:=n8
  rw[BitVec.toNat_and,r,s,Nat.and_one_is_mod];show((p/2^i%2:Nat):Int)%65536=_;omega
 have t4:∀i:Nat,i<8->qc .u16 ((283:Int)*2^min (qc xN (((15-i:Nat):Int)-(8:Int))).toNat (qq .u16))=((283*2^(7-i):Nat):Int)/\283*2^(7-i)<65536/\0<=qc xN (((15-i:Nat):Int)-(8:Int)):=o6
 have l:=zP a;have x:=zP b;refine ts Tryz.func330 ?_ (HF (HF (G0 (HF (G7 (G9 [(5,(.sc (.int .u16))),(6,aI)] [(5,7),(8,23)] G6))) (I0 [(5,(.sc (.int .u16))),(7,aI)] [(5,6),(7,8),(23,37)]))));refine aj (λi:Nat=>((Gf.pl a.toNat b.toNat i:Int),(i:Int))) (λi h'=>h'=h/\i<=8) (λi=>8-i) 0 n5 ⟨n5,n7⟩ ?_;rintro i k ⟨rfl,f⟩
 try dsimp only
 refine ae (λe=>?_) (λe=>?_)
 .have c:i<8:=n7
  refine⟨n7,?_⟩;rw[u _ x i c,af _];refine be (λd=>?_) (λd=>?_)
  .refine⟨n7,i+1,?_,⟨n5,n7⟩,n7⟩;have:=w _ l i c;rw[this.1,Qr _ _ (Gf.RM _ _ l i f) this.2,Gf.pl,m6 n7];rfl
  .refine⟨i+1,?_,⟨n5,n7⟩,n7⟩;rw[Gf.pl,nq n7];rfl
 .have c:i=8:=n7
  subst c;have g:=Gf.RM _ b.toNat l 8 (qj _);generalize o:Gf.pl a.toNat b.toNat 8=P at g⊢;refine aj (λi:Nat=>((Gf.rd P i:Int),(15:Int)-(i:Int))) (λi h'=>h'=k/\i<=8) (λi=>8-i) 0 n5 ⟨n5,n7⟩ ?_;rintro i y ⟨rfl,f⟩;have m:=Gf.YX P g i f
  try dsimp only
  refine ae (λe=>?_) (λe=>?_)
  .have c:i<8:=n7
   have q:(15:Int)-(i:Int)=((15-i:Nat):Int):=n7
   rw[q];refine⟨n7,?_⟩;rw[t3 _ (15-i) m n7,af (((15-i:Nat):Int)-1)];have j:=t4 i c;refine be (λd=>?_) (λd=>?_)
   .refine⟨j.2.2,i+1,?_,⟨n5,n7⟩,n7⟩;rw[j.1,Qr _ _ m j.2.1,Gf.rd,m6 n7];exact yU n5 n9
   .refine⟨i+1,?_,⟨n5,n7⟩,n7⟩;rw[Gf.rd,nq n7];exact yU n5 n9
  .have c:i=8:=n7
   subst c;refine⟨?_,n5⟩;have:=Gf.RL a b;rw[Gf.mS,o]at this;rw[<-this];show Value.int .u8 (((Gf.rd P 8:Nat):Int)%256)=_;rfl
theorem Pd(n:Int)(h:m5):ak xR 264 #[xH xN n] h λv h'=>v=xH xO (Gf.pw (n%255).toNat).toNat/\h'=h:=by
 refine ts Tryz.func264 ?_ (HF (HF (I1 [(0,aI)] [(0,1),(7,11)] (HF (I0 [(3,(.sc (.int .u8))),(4,aI)] [(3,5),(11,18)])))));have m:=Int.tmod_lt_of_pos n (show(0:Int)<255 by decide);have a:-255<n.tmod 255:=Int.lt_tmod_of_pos n n8;have b:=Fm n 255;have g:=Int.emod_nonneg n (show(255:Int)≠0 by decide);have j:=wj n (show(0:Int)<255 by decide);refine⟨n8,bs (λs h'=>s=n%255/\h'=h) ?_ ?_⟩
 .refine ae (λd=>?_) (λc=>?_)
  .rw[m6 d]at b;exact⟨by rw[af _,b],n5⟩
  .rw[nq c]at b;exact⟨b.symm,n5⟩
 .rintro s h' ⟨rfl,rfl⟩;obtain⟨N,k⟩:∃N:Nat,n%255=N:=⟨(n%255).toNat,n7⟩
  rw[k,qi];refine aj (λi:Nat=>(((Gf.pw i).toNat:Int),(i:Int))) (λi a=>a=h'/\i<=N) (λi=>N-i) 0 n5 ⟨n5,n7⟩ ?_;rintro i a ⟨rfl,l⟩
  try dsimp only
  refine ae (λe=>?_) (λe=>?_)
  .have f:=zY (Gf.pw i) 3 a;refine f.mono ?_;rintro v h3 ⟨rfl,rfl⟩;refine⟨_,n5,i+1,?_,⟨n5,n7⟩,n7⟩;rw[af _,Gf.Ur];rfl
  .have:i=N:=n7
   subst this;exact⟨n5,n5⟩
theorem Aa(a:UInt8)(h:m5):ak xR 267 #[xH xO a.toNat] h λv h'=>v=xH xO (Gf.inv a).toNat/\h'=h:=by
 refine ts Tryz.func267 ?_ (HF (I0 [(3,aI)] [(2,15)]));refine aj (λk:Nat=>(k:Int)) (λk h'=>h'=h/\1<=k/\k<=256/\∀j,j<k->Gf.mul a (zI j)≠1) (λk=>256-k) 1 n5 ⟨n5,n7,n7,λj f=>?_⟩ ?_
 .have:j=0:=n7
  subst this;show Gf.mul a 0≠1;rw[Gf.mul_zero];decide
 .rintro k h' ⟨rfl,o,m,f⟩;refine ae (λe=>?_) (λe=>?_)
  .have l:k<256:=n7
   have i:qc xO (k:Int)=((zI k).toNat:Int):=by show(k:Int)%256=_;simp[Nat.mod_eq_of_lt l];omega
   rw[i];refine(zY a (zI k) h').I2 ⟨_,n5,?_⟩;refine be (λd=>?_) (λd=>?_)
   .have b:Gf.mul a (zI k)=1:=UInt8.toNat_inj.1 (show(Gf.mul a (zI k)).toNat=1 from yO.1 d);exact⟨by rw[<-Gf.RN b],n5⟩
   .refine⟨k+1,o0,⟨n5,n7,n7,λj c=>?_⟩,n7⟩;rcases q8.1 c with b|rfl
    .exact f j b
    .intro b;apply d;rw[b];rfl
  .have:k=256:=n7
   subst this;have g:a=0:=by refine Classical.byContradiction λg=>?_;have:=f (Gf.inv a).toNat (zP _);rw[UInt8.ofNat_toNat]at this;exact this (Gf.Aj g)
   subst g;exact⟨n5,n5⟩
theorem jT(c:UInt8)(a b:Sl)(f d:Row)(h:m5)(m:Rd h a 1 aq f)(o:Rd h b 1 aq d)(u:n4 f=n4 d)(E:n4 d<=2^30):
  ak xR 269 #[xH xO c.toNat,a,b] h λv h'=>∃r:Sl,v=r/\Sp h h' [ai 5 r 1 aq (cH c f d)]:=by
 refine ts Tryz.func269 ?_ (HF (HF (I0 [(14,aI)] [(8,9),(14,32)])));have y:=m.len;have x:=o.len;refine(Sp.refl h).make ag aq cK n8 0 n5 n5 d.length d.length n7 n7 (qj _) n7 λs G t A z=>?_;refine aj (λk:Nat=>(k:Int)) (λk h'=>k<=n4 d/\Sp h h' [ai 5 s 1 aq ((cH c f d).take k++qh (n4 d-k) 0)]) (λk=>n4 d-k) 0 n5 ⟨n7,by simpa using z⟩ ?_;rintro k p ⟨B,g⟩;have l:=cl (c:=c) u;refine ae (λe=>?_) (λe=>?_)
 .have i:k<n4 d:=n7
  refine(Seq.up o g.ac).nA k n5 i _ n5 λa3 h3=>?_;refine(Seq.up m g.ac).aV k n5 n7 _ n5 ?_;refine(zY c _ p).I2 ⟨_,n5,⟨h3,I6⟩,?_⟩
  try dsimp only
  rw[lQ];refine g.set ag 0 n5 (λ_=>rfl) n5 k n5 oi _ n5 n5 n5 λF q=>⟨I6,?_⟩
  refine⟨k+1,o0,⟨n7,?_⟩,n7⟩;have j:n4 ((cH c f d).take k)=k:=t6
  have w:((cH c f d).take k++qh (n4 d-k) 0).set k (d[k]^^^Gf.mul c (f[k]'n7))=(cH c f d).take (k+1)++qh (n4 d-(k+1)) 0:=by rw[List.set_append_right _ _ n7,j,zd,show d.length-k=n4 d-(k+1)+1 by omega,List.replicate_succ,zu,az _ _,ql];simp[cH]
  rw[<-w];exact q
 .have:k=n4 d:=n7
  subst this;refine⟨s,n5,?_⟩;rw[qf n7,zd,List.replicate_zero,qL]at g;exact g
theorem lW(c:UInt8)(a:Sl)(b:Row)(h:m5)(g:Rd h a 1 aq b)(t:n4 b<=2^30):
  ak xR 268 #[xH xO c.toNat,a] h λv h'=>∃r:Sl,v=r/\Sp h h' [ai 5 r 1 aq (scaleB c b)]:=by
 refine ts Tryz.func268 ?_;have m:=g.len;refine(Sp.refl h).make ag aq cK n8 0 n5 n5 b.length b.length n7 n7 (qj _) n7 λs o k p d=>?_;refine(jT c a s b _ o (Seq.up g d.ac) (d.seq 0 n5 λ_=>rfl) oo oi).I4 λr q l=>⟨r,n5,r,n5,?_⟩;have e:cH c b (qh b.length 0)=scaleB c b:=gr (n:=n4 b) (by rw[cl oo];simp) (ry _ _) λj _=>by
  rw[cU oo,rz,show qh b.length (0:UInt8)=aN b.length from n5,cF,UInt8.zero_xor]
 rw[<-e];exact(d.comp l).take 1 (λi A f=>by cases i with|zero=>exact f|succ i=>simp at f)
theorem oU(p:Pm)(h:m5):ak xR 263 #[go p] h λv h'=>v=xH xN (bD p)/\Sp h h' []:=by refine ts Tryz.func263 ?_ (args:=[p]);refine(Sp.refl h).boxed λa f c=>?_;refine⟨p,(c.box 0 n5).aw _ n5,?_⟩;refine(dS p f).I3 λi g=>?_;have b:=c.comp g;have d:=b.box 0 n5;refine⟨_,n5,aH (λe=>⟨by simp[bD,e],.zip b.ac⟩) λe=>?_⟩;refine⟨_,d.cell0 n5,_,d.cell n5,?_,.zip b.ac⟩;have:=(bI p).1 e;rw[af _,bD,m6 e]
theorem kh(id:Int)(h:m5):ak xR 197 #[xH xN id] h λv h'=>v=xL (bP id)/\h'=h:=by
 refine ts Tryz.func197 ?_;refine ae (λe=>⟨?_,n5⟩) (λe=>⟨?_,n5⟩)
 .rw[bP,n1 (show 0<=id from e)];rfl
 .rw[bP,n2 (show¬0<=id from e)];rfl
theorem DA(a:hU)(s:Int)(h:m5)(d:bV h a 306 [xH xQ s]):ak xR 272 #[xJ (dB a)] h λv h'=>v=xH xP (told s)/\bV h' a 306 [xH xQ (tw s)]/\aQ (·≠a.block) h h':=by refine ts Tryz.func272 ?_;refine⟨a,n5,s,d.cell0 n5,a,n5,?_⟩;refine sn ag d n5 _ n5 n5 n5 (qj _) λe b c _=>?_;exact⟨a,n5,_,b.cell0 n5,n8,n5,b,c⟩
theorem BS(a:hU)(s n:Int)(h:m5)(f:bV h a 306 [xH xQ s])(i:0<n:=by omega)(d:n<=2^62:=by omega):ak xR 333 #[xJ (dB a),xH xN n] h λv h'=>v=xH xN (je s n)/\bV h' a 306 [xH xQ (tw s)]/\aQ (·≠a.block) h h':=by refine ts Tryz.func333 ?_;refine ae (λe=>n7) λ_=>?_;refine(DA a s h f).I3 λg ⟨c,b⟩=>⟨_,n5,B1,n5,c,b⟩
theorem IJ{p:au}(t:Sl)(lt:aC)(x a:Int)(h:m5)(j:Seq h p t 1 ar lt)(o:0<=x)(b:lt.getLast?=dB a)(g:x<a)(r:n4 lt<=2^40):
  ak xR 332 #[t,xH xN x] h λv h'=>v=xH xN (Ij lt x)/\h'=h:=by
 refine ts Tryz.func332 ?_ (HF (G0 (HF (G7 (G9 [(5,aI)] [(4,24)] (I1 [] [(6,14)] G6)))) G6));have q:=j.len;have d:(lt.findIdx λy=>decide (y>x))<n4 lt:=List.findIdx_lt_length_of_exists ⟨a,List.mem_of_getLast? b,Cw⟩;refine aj (λk:Nat=>(k:Int)) (λk h'=>h'=h/\k<=(lt.findIdx λy=>decide (y>x))) (λk=>n4 lt-k) 0 n5 ⟨n5,n7⟩ ?_;rintro k h' ⟨rfl,i⟩;refine aE ?_;refine ae (λe=>?_) (λe=>n7);refine ae (λ_=>?_) (λe=>n7);have c:k<n4 lt:=n7
 refine j.aV k n5 c _ n5 ?_;rw[af _];refine ae (λl=>?_) (λl=>?_)
 .have:(lt.findIdx λy=>decide (y>x))=k:=Nat.le_antisymm (Nat.le_of_not_lt λf=>by have:=y7 f;simp at this;omega) i;exact⟨by rw[Ij,this];rfl,n5⟩
 .refine⟨k+1,n5,⟨n5,?_⟩,n7⟩;refine Nat.lt_of_le_of_ne i λm=>?_;have:=vn (xs:=lt) (p:=λy=>decide (y>x)) (w:=d);simp only[<-m]at this;simp at this;omega
theorem Np(t:Sl)(n:Nat)(a:hU)(s:Int)(h:m5)(i:Seq h (·≠a.block) t 1 ar (fx n))(o:bV h a 306 [xH xQ s])(b:1<=n)(f:n<=20):
  ak xR 273 #[t,xJ (dB a)] h λv h'=>v=xH xN (AU s n)/\bV h' a 306 [xH xQ (tw s)]/\aQ (·≠a.block) h h':=by
 refine ts Tryz.func273 ?_;have j:=i.len;rw[fR]at j;refine be (λe=>n7) λ_=>?_;rw[af _];refine i.aV (n-1) n7 xa _ n5 ?_;have k:(fx n)[n-1]'(by rw[fR];omega)=((jk n n:Nat):Int):=by simp only[fx,zk,List.getElem_range];rw[show n-1+1=n by omega]
 rw[k];have q:=Fq n f b;have m:=sQ n f n f;refine(BS a s _ h o).mono ?_;rintro v l ⟨rfl,g,d⟩;have c:=nK s (jk n n);refine⟨_,n5,(IJ t (fx n) _ _ l (i.ac d) c.1 (AT n b) c.2 xa).I2 ?_⟩;exact⟨_,n5,n5,g,d⟩
def rP(r:Nat):Nat->Nat
 |0=>r
 |k+1=>rP r k/2
theorem Kv(l:Nat)(h:m5)(f:l<=20)(b:1<=l):ak xR 274 #[xH xN l] h λv h'=>∃s:Sl,v=s/\Sp h h' [ai 3 s 1 ar (fx l)]:=by
 have O:∀l:Nat,l<=20->∀r:Nat,r<=5->(∀j,j<r->j*j<l)->r*r<l->r<5:=n8
 have N:∀l:Nat,l<=20->∀r:Nat,r<=5->(∀j,j<r->j*j<l)->¬r*r<l->r=cu l:=n8
 have J:∀r:Nat,r<=5->∀k:Nat,k<=3->0<rP r k->k<3/\qc xN (yg (rP r k:Int) 2)=(rP r (k+1):Int):=n8
 have Q:∀r:Nat,r<=5->∀k:Nat,k<=3->rP r k=0->(∀j,j<k->0<rP r j)->k=pY r:=n8
 have T:∀k:Nat,k<=20->1<k->qc xN ((k:Int)*qc xN ((k:Int)-1))=((k*(k-1):Nat):Int)/\k*(k-1)≠0:=n8
 have W:∀l:Nat,l<=20->1<=l->1<=cu l/\cu l<=5:=n8
 have c3:∀l:Nat,l<=20->1<=l->qc xN (yg (l:Int) (cu l))=((l/cu l:Nat):Int):=n8
 have V:∀l:Nat,l<=20->1<=l->∀k:Nat,k<=20->1<=k->qc xN ((l:Int)*k)≠0:=o6
 have c5:∀k:Nat,k<=20->1<k->qc xN (yg (1048576:Int) (qc xN ((k:Int)*qc xN ((k:Int)-1))))=((1048576/(k*(k-1)):Nat):Int):=o6
 have M:∀l:Nat,l<=20->1<=l->qc xN (yg (1048576:Int) (l:Int))=((1048576/l:Nat):Int):=o6
 have Z:∀l:Nat,l<=20->1<=l->∀k:Nat,k<=20->1<=k->qc xN (yg (qc xN ((1048576:Int)*cu l)) (qc xN ((l:Int)*k)))=((1048576*cu l/(l*k):Nat):Int):=o6
 have X:∀l:Nat,l<=20->1<=l->qc xN (yg (qc xN ((qc xN ((1048576:Int)*cu l))*pY (cu l))) (l:Int))=((1048576*cu l*pY (cu l)/l:Nat):Int):=o6
 have P:∀l:Nat,l<=20->∀k:Nat,k<=20->1048576*cu l/(l*k)<=2^30/\1048576*cu l*pY (cu l)/l<=2^30/\1048576/(k*(k-1))<=2^30/\1048576/l<=2^30:=o6
 refine ts Tryz.func274 ?_ (HF (I1 [] [(2,3),(12,18)] (HF (HF (G0 (G7 (G9 [(4,aI)] [(4,5),(18,25)] G6)) (HF (G0 (HF (G7 (G9 [(6,aI),(7,aI)] [(6,8),(29,35)] G6))) (HF (HF (G0 (HF (G7 (G9 [(8,bK),(9,aI),(10,aI)] [(8,12),(35,82)] (HF (G0 (G7 (HF (I1 [(11,aI)] [(11,12),(43,51)] (I1 [(11,aI)] [(11,12),(51,63)] (I1 [(11,aI)] [(11,12),(63,75)] G6))))) G6))))) G6))))))))));refine aE (ae (λe=>n7) λ_=>ae (λe=>n7) λ_=>?_);refine aj (λr:Nat=>(r:Int)) (λr h'=>h'=h/\r<=5/\∀j,j<r->j*j<l) (λr=>5-r) 0 n5 ⟨n5,n7,λj u=>n7⟩ ?_;rintro r h' ⟨rfl,z,u⟩;have S:r*r<=25:=zr z z;have e:qc xN ((r:Int)*(r:Int))=((r*r:Nat):Int):=by rw[<-Int.natCast_mul];exact kl _
 rw[e];refine ae (λY=>?_) (λL=>?_)
 .have g:r*r<l:=n7
  have H:=O l f r z u g;refine⟨r+1,o0,⟨n5,n7,λj a=>?_⟩,n7⟩;rcases q8.1 a with a|rfl
  .exact u j a
  .exact g
 .have D:=N l f r z u n7;have o:=W l f b;rw[D];refine⟨n7,?_⟩;refine aj (λk:Nat=>((k:Int),(rP (cu l) k:Int))) (λk y=>y=h'/\k<=3/\∀j,j<k->0<rP (cu l) j) (λk=>3-k) 0 n5 ⟨n5,n7,λj u=>n7⟩ ?_;rintro k y ⟨rfl,A,q⟩
  try dsimp only
  refine ae (λm=>?_) (λm=>?_)
  .have I:=J _ o.2 k A n7;refine⟨n8,k+1,?_,⟨n5,n7,λj a=>?_⟩,n7⟩
   .rw[I.2,af _];rfl
   .rcases q8.1 a with a|rfl
    .exact q j a
    .omega
  .have B:=Q _ o.2 k A n7 q;subst B;refine aj (λt:Sl×Nat=>(t.1,((jk l t.2:Nat):Int),((t.2+1:Nat):Int))) (λt h'=>t.2<=l/\Sp y h' [ai 3 t.1 1 ar ((fx l).take t.2)]) (λt=>l-t.2) (⟨eH,0,0⟩,0) n5 ⟨oo,aa.nil (Sp.refl y) 3 1 ar⟩ ?_;rintro⟨s,k⟩ h3 ⟨A,F⟩;dsimp only at*;refine ae (λe=>?_) (λe=>?_)
   .have d:k+1<=20:=n7
    have w:=P l f (k+1) d;have b3:=sQ l f k n7;have b4:=AS l f (k+1) d;refine⟨n7,bs (λx h'=>x=(((if k+1>1 then 1048576/((k+1)*(k+1-1))else 1048576/l):Nat):Int)/\h'=h3) ?_ ?_⟩
    .refine ae (λm=>?_) (λm=>?_)
     .have:=T (k+1) d n7;exact⟨by rw[this.1];omega,by rw[c5 (k+1) d n7,m6 n7],n5⟩
     .exact⟨by rw[M l f b,nq n7],n5⟩
    .rintro x G ⟨rfl,rfl⟩;have I:(if k+1>1 then 1048576/((k+1)*(k+1-1))else 1048576/l)<=2^30:=by split<;>first|exact w.2.2.1|exact w.2.2.2
     refine bs (λx h'=>x=(((if k+1>1 then 1048576/((k+1)*(k+1-1))else 1048576/l)+(if k+1<l/cu l then 1048576*cu l/(l*(k+1))else 0):Nat):Int)/\h'=G) ?_ ?_
     .rw[c3 l f b];refine ae (λm=>⟨V l f b (k+1) d n7,?_,n5⟩) (λm=>⟨?_,n5⟩)
      .rw[Z l f b (k+1) d n7,El _ _ n7 (qV w.1 n8),m6 (c:=k+1<l/cu l) (xy.1 m)]
      .rw[nq (c:=k+1<l/cu l) λE=>m (xy.2 E)];rfl
     .rintro x H ⟨rfl,rfl⟩;refine bs (λx h'=>x=((kW l (k+1):Nat):Int)/\h'=H) ?_ ?_
      .rw[c3 l f b];refine be (λp=>⟨n7,?_,n5⟩) (λp=>⟨?_,n5⟩)
       .have i:k+1=l/cu l:=yO.1 p;rw[X l f b,nq (c:=k+1<l/cu l) n7,ym,El _ _ n7 (qV w.2.1 n8),kW,nq (c:=k+1<l/cu l) n7,m6 (c:=k+1=l/cu l) i]
       .have i:¬k+1=l/cu l:=λE=>p (yO.2 E);rw[kW,nq (c:=k+1=l/cu l) i]
      .rintro x h6 ⟨rfl,rfl⟩;have p:qc xN ((jk l k:Int)+(kW l (k+1):Int))=((jk l (k+1):Nat):Int):=by rw[af _,jk];rfl
       rw[p];refine F.push ag 0 n5 fu n5 n8 (λ_=>rfl) db _ n5 n8 t6 λR G U=>?_;refine⟨(R,k+1),oj,⟨n9,?_⟩,n9⟩;have K:(fx l).take (k+1)=(fx l).take k++[((jk l (k+1):Nat):Int)]:=by rw[az _ _ xa];simp[fx]
       dsimp only;rw[K];exact U
   .refine⟨s,n5,?_⟩;rw[qf xa]at F;exact F
theorem DB(b:Sl)(l:aR)(h:m5)(d:Rd h b 1 aq l)(m:n4 l<=4):ak xR 217 #[b] h λv h'=>v=xH xN (dm l)/\h'=h:=by
 refine ts Tryz.func217 ?_ (HF (HF (I0 [(3,aI),(7,aI)] [(3,5),(7,19)])));have g:=d.len;refine aj (λi:Nat=>(dm (l.take i),(i:Int))) (λi h'=>i<=n4 l/\h'=h) (λi=>n4 l-i) 0 n5 ⟨n7,n5⟩ ?_;rintro i p ⟨o,rfl⟩
 try dsimp only
 refine ae (λe=>?_) (λe=>?_)
 .have a:i<n4 l:=n7
  refine⟨n8,d.aV i n5 a (l[i].toNat:Int) n5 ?_⟩;have c:=(Bl (l.take i) oi)
  have j:=c.2.2 oi;have k:=l[i].toNat_lt;obtain⟨n,f⟩:∃n:Nat,dm (l.take i)=(n:Int):=⟨(dm (l.take i)).toNat,n7⟩
  refine⟨i+1,?_,⟨n7,n5⟩,n7⟩;rw[az _ _ a,GL,f,UI n _,af ((i:Int)+1)];rfl
 .rw[qf n7];exact⟨n5,n5⟩
theorem Hz(k:Int)(b:aR):n4 (eS k b)<=64:=by
 by_cases h:1<=k/\k<=255/\b.length<=55
 .rw[ni h.1 h.2.1 h.2.2];exact qj _
 .unfold eS;rw[nq h];exact qX _
theorem IK(b:Sl)(c:aR)(h:m5)(l:Rd h b 1 aq c)(y:n4 c<=2^30)(d:b.len<=b.cap):
  ak xR 216 #[b] h λv h'=>(gz c=eH->v=.tuple #[xH xN 0,xI eH 0 0,xL eY]/\Sp h h' [])/\
   ∀k x,gz c=dB (k,x)->∃r:Sl,v=.tuple #[xH xN k,r,xL eX]/\Sp h h' [ai 5 r 1 aq x]:=by
 refine ts Tryz.func216 ?_;have B:=l.len;refine bt (λe=>?_) (λe=>?_)
 .have:gz c=eH:=by unfold gz;rw[nq λa=>e n7]
  rw[this];exact⟨λ_=>⟨n5,Sp.refl h⟩,λk x h=>t7⟩
 have m:n4 c=64:=n7
 have h3:3<n4 c:=n7
 refine l.nA 3 n5 h3 ((c.getD 3 0).toNat:Int) (by rw[getD_lt h3];rfl) λz n=>⟨⟨n8,n8,n7⟩,?_⟩
 have g:=(l.drop 4 d).take 55 oi;have i:n4 ((c.drop 4).take 55)=55:=oi
 refine((Sp.refl h).nil 5 1 aq).append ag 0 n5 cK ⟨_,_,n5,n5⟩ n5 n8 (λ_=>rfl) g cB (by rw[i];decide) λr t f=>?_;have f:Sp h t [ai 5 r 1 aq ((c.drop 4).take 55)]:=f;refine⟨gF f.ac ⟨n,I6⟩,?_⟩;have A:=(c.getD 3 0).toNat_lt;rw[af ((c.getD 3 0).toNat:Int)];refine(Dp ((c.getD 3 0).toNat:Int) r ((c.drop 4).take 55) t (f.seq 0 n5 λ_=>rfl)).I4 λs u w=>?_;have j:=f.comp w;refine⟨s,n5,(lI s b _ c u (j.seq 1 n5 λ_=>rfl) (l.up j.ac) ?_).mono ?_⟩
 .exact qV (Hz _ _) n8
 rintro _ h3 ⟨rfl,rfl⟩;refine⟨_,n5,aH (λp=>?_) λp=>?_⟩
 .have q:¬eS ((c.getD 3 0).toNat:Int) ((c.drop 4).take 55)=c:=of_decide_eq_false p;have:gz c=eH:=by unfold gz;rw[nq λa=>q a.2]
  rw[this];exact⟨λ_=>⟨n5,.zip j.ac⟩,λk x h=>t7⟩
 .have o:eS ((c.getD 3 0).toNat:Int) ((c.drop 4).take 55)=c:=n3 p;have:gz c=dB (((c.getD 3 0).toNat:Int),(c.drop 4).take 55):=by unfold gz;rw[m6 ⟨m,o⟩]
  rw[this];refine⟨λh=>t7,λk x a=>?_⟩;injection a with a
  injection a with hh1 hh2
  subst hh1;subst hh2;exact⟨r,n5,j.bu [0]⟩
theorem DC(x:bw)(r:ck)(h:m5)(w:eN cx h x r):ak xR 200 #[recv x] h λv h'=>v=xL (jL r)/\Sp h h' []:=by
 refine ts Tryz.func200 ?_ (args:=[x]);obtain⟨⟨F,D,y,m,H,_⟩,A⟩:=w;have o:x.2.2.2.1=r.p.1:=congrArg (·.1) m;have n:x.2.2.2.2.1=r.p.2.1:=congrArg (·.2.1) m;have f:x.2.2.2.2.2.1=r.p.2.2:=congrArg (·.2.2) m;have B:=Seq.len A;refine(Sp.refl h).boxed λc k b=>?_;have b:Sp h k [an c 128 (bB x)]:=b;have l:=b.box 0 n5;have u:hY k c=dB (xH xN r.object):=by rw[<-F];exact l.cell0 n5
 have t:hY k (c.add 1)=dB (xH xN r.block):=by rw[<-D];exact l.cell n5
 have E:hY k (c.add 2)=dB (xH xN r.id):=by rw[<-y];exact l.cell n5
 have d:∀{h':m5},Sp h h' [an c 128 (bB x)]->(jL r=eX->False)->Value.bool eY=xL (jL r)/\Sp h h' []:=λ{h'} H' hn=>⟨by cases hq:jL r with|false=>rfl|true=>exact absurd hq hn,.zip H'.ac⟩
 have e:∀a:jL r=eX,(0<=r.object/\r.object<=16777215)/\(0<=r.block/\r.block<=7)/\(0<=r.id/\r.id<=65535)/\bH r.p=eX/\(r.data.length:Int)=r.p.2.2:=λa=>(jM r).1 a;refine⟨_,u,ae (λJ=>⟨_,u,ae (λK=>⟨_,t,ae (λG=>⟨_,t,ae (λI=>⟨_,E,(kh r.id k).mono ?_⟩) λg=>d b λa=>g C6⟩) λg=>d b λa=>g C6⟩) λg=>d b λa=>g C6⟩) λg=>d b λa=>g C6⟩;rintro _ _ ⟨rfl,rfl⟩;refine⟨_,n5,aT (λi=>?_) λi=>d b λa=>by have:=e a;unfold bP at i;simp at i;omega⟩;refine⟨r.p,by rw[<-o,<-n,<-f];exact l.mj 3 n5 n5 n5,(dS r.p _).I3 λh3 z=>?_⟩;have q:Sp h h3 [an c 128 (bB x)]:=b.up z.ac;have j:=q.box 0 n5;refine⟨_,n5,aT (λs=>?_) λs=>d q λa=>by have:=(e a).2.2.2.1;rw[s]at this;cases this⟩;refine⟨x.2.2.2.2.2.2.2,j.cell n5,r.p.2.2,by rw[<-f];exact j.mi 3 2 n5,?_,.zip q.ac⟩;have hid:0<=r.id/\r.id<=65535:=by unfold bP at i;simp at i;omega
 have:(((x.2.2.2.2.2.2.2.len:Nat):Int)==r.p.2.2)=jL r:=by
  rw[yE,jM,beq_iff_eq];constructor
  .intro a;exact⟨n7,n7,hid,s,n7⟩
  .rintro⟨_,_,_,_,a⟩;omega
 rw[this]
theorem uo(x:bw)(r:ck)(h:m5)(G:eN cx h x r):ak xR 122 #[recv x] h λv h'=>∃s:Sl,v=s/\Sp h h' [ai 5 s 1 aq (gc r)]:=by
 refine ts Tryz.func122 ?_ (HF (HF (I1 [(3,bK)] [(3,4),(7,16)] G6))) [(3,(.l [0,1,3,4,6,7,2,5,8,9])),(5,(.l [0,1,2,3,5,6,4,7,8,9]))] (args:=[x]);obtain⟨⟨Z,K,u,A,q,e7,e8⟩,V⟩:=id G;have E:x.2.2.2.1=r.p.1:=congrArg (·.1) A;have B:x.2.2.2.2.1=r.p.2.1:=congrArg (·.2.1) A;have w:x.2.2.2.2.2.1=r.p.2.2:=congrArg (·.2.2) A;refine(Sp.refl h).boxed λo P d=>?_;have d:Sp h P [an o 128 (bB x)]:=d;refine⟨x,(d.box 0 n5).aw _ n5,(DC x r P (cx.mono (cx.loc G d.ac) λ_ hb=>Nat.lt_of_lt_of_le hb d.ac.1)).I3 λU X=>?_⟩;have y:Sp h U [an o 128 (bB x)]:=d.up X.ac;refine⟨_,n5,aH (λg=>?_) λg=>?_⟩
 .unfold gc;rw[g];exact⟨⟨eH,0,0⟩,n5,(y.nil 5 1 aq).bu [1]⟩
 have W:=rx g;have b:=y.box 0 n5;refine aE ⟨r.object,by rw[<-Z];exact b.cell0 n5,r.block,by rw[<-K];exact b.cell n5,r.id,by rw[<-u];exact b.cell n5,(ju ⟨eH,0,0⟩ [] r.object 3 n8 oo (y.nil 5 1 aq).bc).I4 λM h3 Q=>?_⟩;have j:=Q.box 1 n5;refine⟨M,n5,⟨by rw[<-u];exact j.cell n5,by rw[<-K];exact j.cell n5,I6⟩,(ju M _ r.block 1 n8 tq Q).I4 λR h4 I=>?_⟩;have D:=I.box 1 n5;refine⟨R,n5,⟨by rw[<-u];exact D.cell n5,I6⟩,(ju R _ r.id 2 n8 tq I).I4 λs5 h5 H=>?_⟩;have a:=H.box 1 n5;refine⟨s5,n5,I6,r.p.1,by rw[<-E];exact a.cell n5,r.p.2.1,by rw[<-B];exact a.mi 3 1 n5,r.p.2.2,by rw[<-w];exact a.mi 3 2 n5,?_⟩
 try dsimp only
 rw[cb,cb,cb];refine H.lit ag aq cK n5 [b8 r.p.1,b8 r.p.2.1,b8 r.p.2.2] n5 (show 3*1<=2^20 by decide) n5 λY h6 N=>?_;refine N.append ag 0 n5 cK ⟨_,_,n5,n5⟩ n5 n8 (λ_=>rfl) (N.seq 2 n5 λ_=>rfl) cB tq λL h7 t=>?_;have t:Sp h h7 [ai 5 L 1 aq ([]++cy r.object 3++cy r.block 1++cy r.id 2++[b8 r.p.1,b8 r.p.2.1,b8 r.p.2.2]),an o 128 (bB x)]:=t.bu [0,1];have f:=t.box 1 n5;refine⟨r.seed,by rw[<-q];exact f.cell n5,x.2.2.2.2.2.2.2,f.cell n5,?_⟩;rw[af r.seed];refine(ju L _ r.seed 4 n8 tq t).I4 λs8 h8 F=>?_;have m:=F.box 1 n5;refine⟨s8,n5,⟨m.cell n5,by rw[<-q];exact m.cell n5,I6⟩,?_⟩;refine F.append ag 0 n5 cK ⟨_,_,n5,n5⟩ n5 n8 (λ_=>rfl) (Seq.up V F.ac) cB p9 λO J c=>?_;have S:[]++cy r.object 3++cy r.block 1++cy r.id 2++[b8 r.p.1,b8 r.p.2.1,b8 r.p.2.2]++cy r.seed 4++r.data=ox r:=by unfold ox;simp[ql]
 have c:Sp h J [ai 5 O 1 aq (ox r),an o 128 (bB x)]:=by rw[<-S];exact c
 have z:=c.box 1 n5;refine⟨⟨by rw[<-q];exact z.cell n5,I6⟩,(Dp 1 O (ox r) J (c.seq 0 n5 λ_=>rfl)).I4 λe T k=>?_⟩;have i:=(c.comp k).box 1 n5;refine⟨e,n5,⟨by rw[<-q];exact i.cell n5,I6⟩,e,n5,?_⟩;unfold gc;rw[g,m6 rfl];exact(c.comp k).bu [2]
theorem uX{x:aR}{j:Nat}(a:j<n4 x:=by omega):dm ((x.drop j).take 1)=(x[j].toNat:Int):=by rw[qT a];show dm [x[j]]=_;unfold dm;show(0:Int)*256+(x[j].toNat:Int)=_;omega
theorem IL(b:Sl)(c:aR)(h:m5)(hb:Rd h b 1 aq c)(hc:c.length<=2^30)(W:b.len<=b.cap):
  ak xR 152 #[b] h λv h'=>∃x:bw,v=.tuple #[recv x,xL (dn c).isSome]/\((dn c=eH/\Sp h h' [])∨∃R,dn c=dB R/\Sp h h' [EA cx x R]):=by
 refine ts Tryz.func152 ?_ (HF (HF (I1 [] [(3,4),(14,21)] (I1 [(7,(.sc .adr))] [(7,8),(21,49)] G6)))) [(4,(.y [0,1,3,4,5,6,7,8,10,11,12,13,14,15,16,17,18,19,20,21,22,23,24] (.y [2] (.y [9] (.l [25,26,27,28,29]) (.l [28,25,26,27,29])) (.l [28,9,25,26,27,29])) (.l [28,2,9,25,26,27,29])))];refine(Sp.refl h).alloc ag n5 λA h1 T=>?_;have T:Sp h h1 [an A 128 (bB (0,0,0,0,0,0,0,⟨eH,0,0⟩))]:=T;have E:∀{h':m5} {Bs:List HP},Sp h h' (an A 128 (bB (0,0,0,0,0,0,0,⟨eH,0,0⟩))::Bs)->dn c=eH->
   av xR (qD 128 (xJ (dB A)) (recv (0,0,0,0,0,0,0,⟨eH,0,0⟩))) h' λ_ G=>∃Y:bw,aZ G A 0 (bB Y)/\∃x:bw,Value.tuple #[recv Y,xL eY]=.tuple #[recv x,xL (dn c).isSome]/\((dn c=eH/\Sp h G [])∨∃R,dn c=dB R/\Sp h G [EA cx x R]):=λ{h' Bs} V hn=>by
  refine V.storeAll ag 0 n5 n5 (bB (0,0,0,0,0,0,0,⟨eH,0,0⟩)) n5 n5 n5 n5 λG H4=>?_;exact⟨(0,0,0,0,0,0,0,⟨eH,0,0⟩),(H4.box 0 n5).aw _ n5,(0,0,0,0,0,0,0,⟨eH,0,0⟩),by rw[hn];rfl,.inl ⟨hn,.zip H4.ac⟩⟩
 refine(IK b c h1 (hb.up T.ac) hc W).mono ?_;rintro _ f ⟨Q0,Q1⟩;cases htc:gz c with
 |none=>
  obtain⟨rfl,R2⟩:=Q0 htc;have hn:dn c=eH:=by unfold dn;rw[htc]
  exact⟨(0,⟨eH,0,0⟩,eY),n5,aE (aH (λ_=>E (T.up R2.ac) hn) λe=>o1)⟩
 |some kx=>
  obtain⟨k,x⟩:=kx;obtain⟨r,rfl,R2⟩:=Q1 k x htc;have S:Sp h f [an A 128 (bB (0,0,0,0,0,0,0,⟨eH,0,0⟩)),ai 5 r 1 aq x]:=T.comp R2;have a4:x.length=55:=by
   unfold gz at htc;split at htc
   .rename_i o;injection htc with htc
    injection htc with _ htc
    rw[<-htc];simp;omega
   .cases htc
  have bb:=(S.own 1 n5).len;have J:=(S.own 1 n5).cap;refine⟨(k,r,eX),n5,aE (aH (λe=>o1) λ_=>bt (λe=>E S ?_) λM=>?_)⟩
  .unfold dn;rw[htc];exact nq λo=>e o.1
  try dsimp only
  have M:k=1:=M;obtain⟨R,D⟩:=I5 (uB x)
  have N:dn c=if bH R.p=eX/\gc R=c then dB R else eH:=by
   unfold dn;rw[htc]
   try dsimp only
   rw[<-D];by_cases o:bH R.p=eX/\gc R=c
   .rw[m6 o];exact m6 ⟨M,o⟩
   .rw[nq o];exact nq λh=>o h.2
  have i:Rd f r 1 aq x:=S.seq 1 n5 λ_=>rfl;have tA:∀{h':m5},Rd h' r 1 aq x->ak xR 217 #[xI r.ptr 3 r.cap] h' λv I=>v=xH xN R.object/\I=h':=λ{h'} hr=>by
   rw[D];exact DB ⟨r.ptr,3,r.cap⟩ (x.take 3) h' (hr.take 3 n7) oi
  have tB:∀{h':m5} (j n:Nat),j+n<=55->n<=4->Rd h' r 1 aq x->ak xR 217 #[.slice (if r.cap=j then r.ptr else r.ptr.map (·.add (j*1))) n (r.cap-j)] h' λv I=>v=xH xN (dm ((x.drop j).take n))/\I=h':=λ{h'} j n h1 f hr=>
   DB ⟨if r.cap=j then r.ptr else r.ptr.map (·.add (j*1)),n,r.cap-j⟩ ((x.drop j).take n) h' ((hr.drop j J).take n p6) oi
  have ei:dm ((x.drop 4).take 2)=R.id:=by rw[D];rfl
  have es:dm ((x.drop 9).take 4)=R.seed:=by rw[D];rfl
  have e3:R.block=(x[3].toNat:Int):=E0
  have e6:R.p.1=(x[6].toNat:Int):=E0
  have e7:R.p.2.1=(x[7].toNat:Int):=E0
  have e8:R.p.2.2=(x[8].toNat:Int):=E0
  have s:0<=R.seed/\R.seed<4294967296:=by have:=Bl ((x.drop 9).take 4) oi;rw[<-es];exact⟨this.1,this.2.1⟩
  have ew:qc xP R.seed=R.seed:=by unfold qc;simp[qq,yA];omega
  refine bs (λ(a:hU) h'=>Sp h h' [an a 128 (bB (R.object,R.block,R.id,R.p.1,R.p.2.1,R.p.2.2,R.seed,⟨eH,0,0⟩)),an A 128 (bB (0,0,0,0,0,0,0,⟨eH,0,0⟩)),ai 5 r 1 aq x]) ?_ ?_
  .refine⟨⟨n8,n7⟩,i.nA 3 n5 n7 (x[3].toNat:Int) n5 λa6 c6=>⟨⟨n8,n8,n7⟩,i.nA 6 n5 n7 (x[6].toNat:Int) n5 λa8 c8=>i.nA 7 n5 n7 (x[7].toNat:Int) n5 λax a2=>i.nA 8 n5 n7 (x[8].toNat:Int) n5 λa3 a0=>⟨⟨n8,n8,n7⟩,?_⟩⟩⟩;have w:∀z:UInt8,qc xN (z.toNat:Int)=(z.toNat:Int):=λz=>by have:=z.toNat_lt;exact af _
   rw[w,w,w,w];have held:∀{h':m5},aQ (λb=>b<f.size) f h'->bx.ok [(a3.add ((8:Int).toNat*1),xH xO (x[8].toNat:Int)),(ax.add ((7:Int).toNat*1),xH xO (x[7].toNat:Int)),(a8.add ((6:Int).toNat*1),xH xO (x[6].toNat:Int)),(a6.add ((3:Int).toNat*1),xH xO (x[3].toNat:Int))] h':=λ{h'} d=>gF d ⟨a0,a2,c8,c6,I6⟩;have A_:∀{h':m5} {K:Int->m5->Prop},aQ (λb=>b<f.size) f h'->K R.object h'->ji xR 217 #[xI r.ptr 3 r.cap] (.one (.sc (.int .i64))) h' K:=λ{h' K} d hK=>by
    refine(tA (i.up d)).I2 ⟨_,n5,hK⟩
   have B_:∀{h':m5} {K:Int->m5->Prop},aQ (λb=>b<f.size) f h'->K R.id h'->ji xR 217 #[.slice (if r.cap=4 then r.ptr else r.ptr.map (·.add (4*1))) 2 (r.cap-4)] (.one (.sc (.int .i64))) h' K:=λ{h' K} d hK=>by
    refine(tB 4 2 n8 n8 (i.up d)).I2 ⟨_,n5,by rw[ei];exact hK⟩
   have C_:∀{h':m5} {K:Int->m5->Prop},aQ (λb=>b<f.size) f h'->K R.seed h'->ji xR 217 #[.slice (if r.cap=9 then r.ptr else r.ptr.map (·.add (9*1))) 4 (r.cap-9)] (.one (.sc (.int .i64))) h' K:=λ{h' K} d hK=>by
    refine(tB 9 4 n8 n8 (i.up d)).I2 ⟨_,n5,by rw[es];exact hK⟩
   have fin:∀{h':m5} {a:hU},Sp h h' [an A 128 (bB (0,0,0,0,0,0,0,⟨eH,0,0⟩)),ai 5 r 1 aq x,an a 128 (bB (0,0,0,0,0,0,0,⟨eH,0,0⟩))]->
     av xR (qD 128 (xJ (dB a)) (recv (R.object,x[3].toNat,R.id,x[6].toNat,x[7].toNat,x[8].toNat,qc xP R.seed,⟨eH,0,0⟩))) h' λ_ G=>bx.ok [] G/\Sp h G [an a 128 (bB (R.object,R.block,R.id,R.p.1,R.p.2.1,R.p.2.2,R.seed,⟨eH,0,0⟩)),an A 128 (bB (0,0,0,0,0,0,0,⟨eH,0,0⟩)),ai 5 r 1 aq x]:=λ{h' a} V=>by
    rw[ew,<-e3,<-e6,<-e7,<-e8];exact V.storeAll ag 2 n5 n5 (bB (R.object,R.block,R.id,R.p.1,R.p.2.1,R.p.2.2,R.seed,⟨eH,0,0⟩)) n5 n5 n5 n5 λG H4=>⟨I6,H4.bu [2,0,1]⟩
   have O:=aQ.refl (λb=>b<f.size) f;have al:∀{K:hU->m5->Prop},(∀a h',aQ (λb=>b<f.size) f h'->Sp h h' [an A 128 (bB (0,0,0,0,0,0,0,⟨eH,0,0⟩)),ai 5 r 1 aq x,an a 128 (bB (0,0,0,0,0,0,0,⟨eH,0,0⟩))]->K a h')->pW xR (Instr.alloc 128 eX (.tuple #[])) f K:=λ{K} hk=>by
    refine S.tE ag n5 ?_;exactλa h' d V=>hk a h' d V
   refine⟨A_ O ⟨held O,B_ O ⟨held O,C_ O ⟨held O,al λa h9 d H=>⟨held d,fin H⟩⟩,al λa h9 d H=>⟨held d,C_ d ⟨held d,fin H⟩⟩⟩,al λa h9 d H=>⟨held d,B_ d ⟨held d,C_ d ⟨held d,fin H⟩⟩⟩⟩,al λa h9 d H=>⟨held d,A_ d ⟨held d,B_ d ⟨held d,C_ d ⟨held d,fin H⟩⟩⟩⟩⟩
  .rintro a9 ao P;refine⟨R.p,(P.box 0 n5).mj 3 n5 n5 n5,(dS R.p ao).I3 λap ay=>?_⟩;have L:Sp h ap [an a9 128 (bB (R.object,R.block,R.id,R.p.1,R.p.2.1,R.p.2.2,R.seed,⟨eH,0,0⟩)),an A 128 (bB (0,0,0,0,0,0,0,⟨eH,0,0⟩)),ai 5 r 1 aq x]:=P.up ay.ac;refine⟨_,n5,aH (λg=>E (L.aG 2 [1,0]) (by rw[N,nq λo=>by rw[g]at o;cases o.1])) λg=>?_⟩;have a5:=(bI R.p).1 g;refine⟨R.p.2.2,(L.box 0 n5).mi 3 2 n5,?_⟩
   try dsimp only
   rw[af ((13:Int)+R.p.2.2)];refine⟨⟨n8,n7,n7⟩,?_⟩;have ah:((13:Int)+R.p.2.2).toNat-(13:Int).toNat=R.p.2.2.toNat:=n7
   rw[ah];have F:(x.drop 13).take R.p.2.2.toNat=R.data:=by rw[D];rfl
   obtain⟨u,hu⟩:∃u:Sl,u=⟨if r.cap=13 then r.ptr else r.ptr.map (·.add (13*1)),R.p.2.2.toNat,r.cap-13⟩:=⟨_,rfl⟩
   have Q:∀{h':m5},Rd h' r 1 aq x->Rd h' u 1 aq R.data:=λ{h'} hr=>by
    rw[hu,<-F];exact(hr.drop 13 J).take R.p.2.2.toNat p6
   refine L.store ag 0 n5 n5 7 [u] (by rw[hu];rfl) n5 n5 oo λZ m=>?_;have m:Sp h Z [an a9 128 (bB (R.object,R.block,R.id,R.p.1,R.p.2.1,R.p.2.2,R.seed,u)),an A 128 (bB (0,0,0,0,0,0,0,⟨eH,0,0⟩)),ai 5 r 1 aq x]:=m;obtain⟨X,hX⟩:∃X:bw,X=(R.object,R.block,R.id,R.p.1,R.p.2.1,R.p.2.2,R.seed,u):=⟨_,rfl⟩
   rw[<-hX]at m;refine⟨X,(m.box 0 n5).aw _ n5,(uo X R Z (by rw[hX];exact⟨⟨n5,n5,n5,n5,n5,s⟩,Q (m.seq 2 n5 λ_=>rfl)⟩)).I4 λs5 am ad=>?_⟩;have t:=m.comp ad;refine⟨s5,n5,(lI s5 b (gc R) c am (t.seq 3 n5 λ_=>rfl) (hb.up t.ac) ?_).mono ?_⟩
   .unfold gc;split
    .exact qV (Hz _ _) n8
    .exact qX _
   rintro _ a7 ⟨rfl,rfl⟩;refine⟨_,n5,aH (λg2=>E (t.aG 2 [1,0]) (by rw[N,nq λo=>(of_decide_eq_false g2) o.2])) λg2=>?_⟩;have g2:gc R=c:=n3 g2;refine⟨X,(t.box 0 n5).aw _ n5,?_⟩;refine t.storeAll ag 1 n5 n5 (bB X) n5 n5 n5 n5 λab U=>?_;have B:dn c=dB R:=by rw[N,m6 ⟨g,g2⟩]
   refine⟨X,(U.box 1 n5).aw _ n5,X,by rw[B];rfl,.inr ⟨R,B,?_⟩⟩;refine(U.bu [2]).dW 0 n5 λq hq=>?_;have hs:Seq ab q r 1 aq x:=hq.1.seq (λ_=>rfl) hq.2;rw[hX];refine⟨⟨n5,n5,n5,n5,n5,s⟩,?_⟩;show Seq ab q u 1 aq R.data;rw[hu,<-F];exact(hs.drop 13 J).take R.p.2.2.toNat p6
section
variable {pw:hU} {w:Pow}
theorem aaw(n:Int)(c:n<2^62)(H:aa B h0 h (gQ a pw da offs w ds m::As)):ak xR 16 #[xJ (dB pw),xH xN n] h λv h'=>v=.tuple #[]/\aa B h0 h' (gQ a pw da offs (w.arm n) ds m::As):=by obtain⟨x,H⟩:=iM H;obtain⟨ok,d⟩:=H.jQ;refine(Xv n c (d.aG 2 [1,0])).mono ?_;rintro _ h' ⟨rfl,b⟩;exact⟨n5,pK ((b.aG 2 [1,0]).mG ok)⟩
end
def adz(W:cO):Nat:=W.flatten.foldr (λx a=>max a x.toNat) 0
def acy(live:aC)(s:Int):Int:=match live.idxOf? s with|some k=>(k:Int)|none=>-1
structure Blk where
 o:Int
 b:Int
 seed:Int
 M:aO
 W:cO
 got:aC
 deriving Inhabited
section
variable {pw:hU} {w:Pow}
end
structure adN (m:aB) (live:aC) (x:Blk):Prop where
 seed:0<=x.seed/\x.seed<4294967296
 ev:aU m.p.2.2.toNat x.M
 ml:n4 x.M=(bD m.p).toNat
 wl:n4 x.W=n4 live
 rl:∀l∈x.W,n4 l<=2^12+n4 x.got
 top:adz x.W<=2^20+n4 x.got
 gl:n4 x.got<=64
 gi:∀s∈x.got,s∈live
variable {s:Sl} {W:cO} {k:Nat}
variable {b cd:hU} {x:Blk}
section
variable {pw:hU} {w:Pow}
end
theorem SU{m:aB}{c:aF}{o b k:Int}(a:∀k d,bR c k=dB d->n4 d.l<=512):n4 (jR m c o b k)<=512:=by
 unfold jR;cases hd:bR c k with
 |none=>exact qX _
 |some d=>exact qV (sK m o b d.l) (a k d hd)
theorem rQq{m:aB}{e:aF}{o b:Int}{live:aC}(f:n4 live<=64)(a:∀k d,bR e k=dB d->n4 d.l<=512):n4 (dp m e live o b)<=64*512:=by unfold dp;exact qV (En (c:=512) λj _=>SU a) (zi _ f)
section
variable {pw:hU} {w:Pow}
end
structure adT (ds ds':aF):Prop where
 len:n4 ds'=n4 ds
 at_:∀k,(bR ds' k).map bp.lost=(bR ds k).map bp.lost
section
variable {pw:hU} {w:Pow}
end
def ZE(r:ck):Int×Int×Int:=(r.object,r.block,r.id)
section
variable {C:Int->aR} {w:Pow}
def Low(m:aB)(a:aF):Prop:=∀k d,bR a k=dB d->∀c∈d.l,∀r,dn c=dB r->dF m r=eX->r.id<m.p.1+m.extra
structure Full (m:aB) (C:Int->aR) (ds:aF):Prop where
 live:∀k∈m.drives,∃d,bR ds k=dB d/\d.lost=eY/\jh m d.l=eX
 all:∀e∈m.objs,∀i:Nat,i<e.tries.length->∀id:Nat,id<(m.p.1+m.extra).toNat->∃k∈m.drives,∃d,bR ds k=dB d/\gc (Si m e.object i (fl e.object i (e.tries.getD i 0)) (SQ m C e.object i) id)∈d.l
end
def oV(m:aB)(i:Nat):aB:={m with seq:=m.seq+1,objs:=m.objs.take i++m.objs.drop (i+1)}
def cE(m:aB)(b:Int)(w:Pow)(c:aF)(a:ByteArray):Int×aB×Pow×aF:=
 if gN w b then(14,m,w,c)else if m.objs.any (dD a)=eY then(5,m,w,c)else if m.seq>=2147483647 then(7,m,w,c)else
 cM m b w c (oV m (m.objs.findIdx (dD a)))
theorem Nq{C:Ctx}{t e k:Nat}{z:aS}{a:Nat}{h:m5}{s:Sl}(b:C.Ok)(c:bS C.toAg t e k z a){x y u:Int}(i j n:Nat)(d:x=i)(q:y=j)(D:u=n)(I:i<=j)(m:j<=n)(h3:n<=s.cap){K:Sl->m5->Prop}(p:∀v,K v h):
  bF C.P (w5 t (xI s.ptr s.len s.cap) (dB (xH xN x)) (dB (xH xN y)) (dB (xH xN u))) (.one (.sc .slc)) h K:=by
 subst d;subst q;subst D;have M:aL C.P (zZ eX s.len s.cap (dB (xH xN (i:Int))) (dB (xH xN (j:Int))) (dB (xH xN (n:Int)))) (i,j,n):=λw=>by
  have r:¬((n:Int)<0):=n7
  have x2:¬((s.cap:Int)<(n:Int)):=n7
  have x3:(n:Int)<=(s.cap:Int):=n7
  have G:(0:Int)<=(n:Int):=n7
  have l:(0:Int)<=(j:Int):=n7
  have A:(0:Int)<=(i:Int):=n7
  have g:(j:Int)<=(n:Int):=n7
  have J:(i:Int)<=(j:Int):=n7
  have B:¬((j:Int)<0):=n7
  have E:¬((i:Int)<0):=n7
  have o:¬((n:Int)<(j:Int)):=n7
  have F:¬((j:Int)<(i:Int)):=n7
  have H:¬(n<j):=n7
  have f:¬(j<i):=n7
  have L:¬(s.cap<n):=n7
  simp[zZ,Instr.sliceBound,asIntOf,r,x2,x3,G,l,A,g,J,B,E,o,F,H,f,L,I,m,h3]
 unfold bF w5;refine av.bind (av.always (aK (c.under b)) ?_);show av C.P (xG t (xI s.ptr s.len s.cap) (dB (xH xN (i:Int))) (dB (xH xN (j:Int))) (dB (xH xN (n:Int)))) h _;unfold xG;refine av.bind (av.always (aK (c.under b)) ?_);refine av.bind (av.always M ?_);refine av.bind (av.always (c.size b) ?_);exact av.pure' ⟨⟨_,_,_⟩,n5,p _⟩
section
variable {pw:hU} {w:Pow}
theorem Pe(d:List dH)(i:Nat)(j:i<n4 d)(p:n4 d<=2^30)(H:aa B h0 h (ai 83 s 4 bg d::As)):
  ak xR 101 #[s,xH xN i,xH xN (i+1)] h λv h'=>∃r:Sl,v=r/\aa B h0 h' (ai 83 r 4 bg (d.take i++d.drop (i+1))::As):=by
 refine ts Tryz.func101 ?_;have f:=H.own 0 n5;have o:=f.len;have g:=f.cap;refine Nq ag mF i (i+1) s.len n5 n5 n5 n7 n7 g λ_=>?_;refine be (λe=>absurd e n7) λ_=>⟨⟨n7,n7⟩,⟨n7,n7⟩,?_⟩
 have k:((i:Int)+1).toNat=i+1:=n7
 rw[k,qi];refine H.Iv ag 0 n5 mF ⟨_,_,n5,n5⟩ (λ_=>rfl) Ar i j λq l=>⟨I6,⟨n7,n9,n9⟩,?_⟩
 have a:n4 (d.take i++d.drop (i+1))=n4 d-1:=oi
 try dsimp only
 rw[qi,qi];refine l.nY ag 0 n5 mF (λ_=>rfl) n5 (by intro v c;simp at c;rcases c with rfl|rfl|rfl<;>rfl) (n4 d-1) oi λn b=>?_;have m:((d.take i++d.drop (i+1))++d.drop (n4 d-1)).take (n4 d-1)=d.take i++d.drop (i+1):=by rw[<-a,List.take_left]
 rw[m]at b;exact⟨⟨s.ptr,n4 d-1,s.cap⟩,n5,b⟩
theorem Nr(b:ByteArray)(x:bi)(m:aB)(I:bE m=eX)(H:aa B h0 h (aJ bN a pw (aD x) offs da w ds::bn x m::As)):
  ak xR 35 #[xJ (dB a),xK b] h λv h'=>v=xH xN (cE m offs w ds b).1/\
   ∃y,aa B h0 h' (aJ bN a pw (aD y) offs da (cE m offs w ds b).2.2.1 (cE m offs w ds b).2.2.2::bn y (cE m offs w ds b).2.1::As):=by
 refine ts Tryz.func35 ?_;have r:=jH I;have U:=gn I;obtain⟨g1,g2,g3,g4⟩:=(iT m).1 ((cJ m).1 I).1;have V:=((cJ m).1 I).2.2.2.1;refine(og H).I2 ⟨_,n5,aT (λe=>?_) λO=>?_⟩
 .have k:cE m offs w ds b=(14,m,w,ds):=by unfold cE;rw[m6 e]
  rw[k];exact⟨n5,x,H⟩
 refine(find_spec x m b (H.at 1 n5) r H).mono ?_;rintro _ S ⟨⟨i,rfl,hi⟩,R2⟩;have s:=H.up R2.ac;refine⟨i,n5,?_⟩;rcases hi with⟨rfl,hno⟩|⟨n,hn,rfl,f,hbef⟩
 .refine ae (λ_=>?_) λe=>absurd n8 e;have k:cE m offs w ds b=(5,m,w,ds):=by unfold cE;rw[nq (by rw[O];decide),m6 hno]
  rw[k];exact⟨n5,x,s⟩
 have g:m.objs.any (dD b)=eX:=List.any_eq_true.2 ⟨_,qe hn,f⟩;have z:m.objs.findIdx (dD b)=n:=by rw[vD hn];refine⟨f,λj hj=>?_⟩;have:=wg.1 hbef (m.objs[j]'n7) (List.mem_take_iff_getElem.2 ⟨j,n7,n5⟩);simpa using this
 have D:=(aa.cw s).2;have t:ct S x m:=s.at 1 n5;refine ae (λe=>absurd e (xh.2 (ze n))) λ_=>⟨a,n5,x.1,D.cell0 n5,?_⟩
 rw[t.seq];refine ae (λJ=>?_) λJ=>?_
 .have k:cE m offs w ds b=(7,m,w,ds):=by unfold cE;rw[nq (by rw[O];decide),nq D9,m6 J]
  rw[k];exact⟨n5,x,s⟩
 refine⟨a,n5,x,D.aw _ n5,(pB x m S t r).mono ?_⟩;rintro _ h3 ⟨y,L,pool,rfl,E,u,Z,W⟩;have H3:=(s.comp W).front;refine⟨y,n5,H3.alloc ag n5 λa3 h4 N=>?_⟩;have N:=N.bc;refine N.storeAll ag 0 n5 n5 (aD y) n5 n5 n5 n5 λh5 T=>?_;refine⟨y.1,(T.box 0 n5).cell0 n5,?_⟩
 try dsimp only
 rw[E.1,af (m.seq+1)];refine T.iB ag 0 n5 n5 [xH xN (m.seq+1)] n5 n5 n5 pb λh6 F=>?_;refine⟨_,(F.box 0 n5).cell n5,?_⟩;have ab:n4 L=n4 m.objs:=by rw[<-u,qm]
 have F:=F.aG 6 [3,0,1,2,4,5];rw[af ((n:Int)+1)];refine(Pe (L.map qA) n B6 B6 F).I4 λo h7 Q=>?_;have Q:=Q.aG 6 [1,2,3,0,4,5];refine⟨o,n5,Q.store ag 0 n5 n5 7 [o] n5 n5 n5 pb λh8 G=>?_⟩;obtain⟨c,d⟩:∃c:bi,c=(m.seq+1,y.2.1,y.2.2.1,y.2.2.2.1,y.2.2.2.2.1,y.2.2.2.2.2.1,y.2.2.2.2.2.2.1,o):=⟨_,rfl⟩
 have ed:c.2.2.2.2.2.2.1=y.2.2.2.2.2.2.1:=E1
 have X:c.2.2.2.2.2.2.2=o:=E1
 obtain⟨L2,l⟩:=I5 (L.take n++L.drop (n+1))
 have R:L2.map qA=(L.map qA).take n++(L.map qA).drop (n+1):=by rw[l,qF,xC,xl]
 have G:aa B h0 h8 (an a3 27 (aD c)::iz 1 ar pool::ai 3 c.2.2.2.2.2.2.1 1 ar m.drives::ai 83 c.2.2.2.2.2.2.2 4 bg (L2.map qA)::aJ bN a pw (aD x) offs da w ds::bn x m::As):=by rw[ed,X,R,d];exact G
 refine⟨c,(G.box 0 n5).aw _ n5,?_⟩;obtain⟨M,A⟩:=I5 (oV m n)
 have H9:aa B h0 h8 (bn c M::aJ bN a pw (aD x) offs da w ds::bn x m::As):=aa.Bi (m:=M) (L:=L2) (pool:=pool) (by rw[A,d];exact⟨n5,E.2.1,E.2.2.1,E.2.2.2⟩)
  (by rw[A,l,qF,xC,xl,u];rfl) (λp f=>Z p (by
   rw[l]at f;rcases qx.1 f with f|f
   .exact zK f
   .exact yM f)) (by rw[A];exact G.aG 6 [1,2,3,4,5])
 have K:bM M:=by
  rw[A];have sub:∀e,e∈m.objs.take n++m.objs.drop (n+1)->e∈m.objs:=λe q=>by
   rcases qx.1 q with q|q
   .exact zK q
   .exact yM q
  refine⟨r.dr,?_,?_⟩
  .have:=r.ob;show(m.objs.take n++m.objs.drop (n+1)).length<=_;simp;omega
  .exactλe q=>r.nm e (sub e q)
 refine(OO x m c M (As:=bn c M::As) (St.dU 0 n5 λ_ hq=>hq) r K n7 (H9.aG 3 [1,2,0])).I3 λY ⟨y3,P⟩=>?_;have k:cE m offs w ds b=cM m offs w ds M:=by unfold cE;rw[nq (by rw[O];decide),nq D9,nq J,z,A]
 rw[k];exact⟨_,n5,n5,y3,P.aG 3 [0,1]⟩
theorem SV(b:ByteArray)(c:bE m=eX)(H:aa B h0 h (gQ a pw da offs w ds m::As)):
  ak xR 35 #[xJ (dB a),xK b] h λv h'=>v=xH xN (cE m offs w ds b).1/\
   aa B h0 h' (gQ a pw da offs (cE m offs w ds b).2.2.1 (cE m offs w ds b).2.2.2 (cE m offs w ds b).2.1::As):=by
 obtain⟨x,H⟩:=iM H;refine(Nr b x m c H).mono ?_;rintro _ h' ⟨rfl,y,d⟩;exact⟨n5,pK d⟩
end
theorem IM(x y:bi)(m:aB)(h:m5)(k:ct h x m)(o:ct h y m)(W:bM m):ak xR 79 #[cL x,cL y] h λv h'=>v=xL eX/\Sp h h' []:=by
 refine ts Tryz.func79 ?_ (HF (I1 [] [(4,5),(8,51)] (G0 (HF (G7 (G9 [(54,aI)] [(4,8),(54,95)] (HF (HF (G0 (G7 (HF (I1 [(6,(.sc .adr)),(7,(.sc .adr))] [(6,8),(57,67)] G6))) G6)))))) G6))) [(6,(.y [0,1,2,3,4,5,6,7,8,9] (.l [10,11,12,13]) (.l [11,10,12,13])))] (args:=[x,y]);refine(Sp.refl h).boxed λH h1 H1=>?_;refine H1.boxed λa2 h2 s=>?_;have s:Sp h h2 [an H 27 (aD x),an a2 27 (aD y)]:=s;have r:=s.box 0 n5;have z:=s.box 1 n5;have T:x.2.2.1=m.p.1:=congrArg (·.1) k.p;have Q:x.2.2.2.1=m.p.2.1:=congrArg (·.2.1) k.p;have R:x.2.2.2.2.1=m.p.2.2:=congrArg (·.2.2) k.p;have U:y.2.2.1=m.p.1:=congrArg (·.1) o.p;have O:y.2.2.2.1=m.p.2.1:=congrArg (·.2.1) o.p;have ab:y.2.2.2.2.1=m.p.2.2:=congrArg (·.2.2) o.p;have ap:=W.dr;have ax:=W.ob;have ah:=bZ.len k.objs;have ay:=bZ.len o.objs;refine aE ⟨m.seq,by rw[<-k.seq];exact r.cell0 n5,m.seq,by rw[<-o.seq];exact z.cell0 n5,bt (λe=>absurd n5 e) λ_=>?_⟩;refine⟨m.next,by rw[<-k.next];exact r.cell n5,m.next,by rw[<-o.next];exact z.cell n5,bt (λe=>absurd n5 e) λ_=>?_⟩;refine⟨m.p,by rw[<-T,<-Q,<-R];exact r.mj 2 n5 n5 n5,m.p,by rw[<-U,<-O,<-ab];exact z.mj 2 n5 n5 n5,_,Mu _ _ m.p m.p,aH (λe=>absurd e oo) λ_=>?_⟩;refine⟨m.extra,by rw[<-k.extra];exact r.cell n5,m.extra,by rw[<-o.extra];exact z.cell n5,bt (λe=>absurd n5 e) λ_=>?_⟩;refine⟨x.2.2.2.2.2.2.1,r.cell n5,y.2.2.2.2.2.2.1,z.cell n5,(lU _ _ m.drives m.drives h2 (k.up s.ac).drives (o.up s.ac).drives n7).I2 ?_⟩;refine⟨_,n5,aH (λe=>absurd e oo) λ_=>⟨x.2.2.2.2.2.2.2,r.cell n5,y.2.2.2.2.2.2.2,z.cell n5,bt (λe=>absurd n7 e) λ_=>?_⟩⟩;refine⟨x.2.2.2.2.2.2.2,r.cell n5,?_⟩;obtain⟨us,F⟩:=bZ.fix k.objs;obtain⟨vs,G⟩:=bZ.fix o.objs;have ao:=F.2.1;have al:=G.2.1;refine aj (λi:Nat=>(i:Int)) (λi h'=>i<=m.objs.length/\Sp h h' [an H 27 (aD x),an a2 27 (aD y)]) (λi=>m.objs.length-i) 0 n5 ⟨n7,s⟩ ?_;rintro i h5 ⟨hi,q⟩;refine ae (λe=>?_) (λe=>?_)
 .have w:i<m.objs.length:=by have e':(i:Int)<(x.2.2.2.2.2.2.2.len:Int):=e;omega
  obtain⟨E,S⟩:=I5 (m.objs[i])
  have B:=W.nm _ (qe w);rw[<-S]at B;obtain⟨u,hu⟩:=I5 (us[i]'n7)
  obtain⟨v,hv⟩:=I5 (vs[i]'n7)
  obtain⟨f,ha,zz,b,Z⟩:=F.1.cG (g:=bg) (i:=(i:Int)) i rfl n7 u (by rw[hu]) (K:=λt=>t=u) rfl;obtain⟨d,hb,am,a,I⟩:=G.1.cG (g:=bg) (i:=(i:Int)) i rfl n7 v (by rw[hv]) (K:=λt=>t=v) rfl;rw[Z]at b;rw[I]at a;obtain⟨⟨u1,u2,u3⟩,u4⟩:=Fix.row F w;obtain⟨⟨v1,v2,v3⟩,v4⟩:=Fix.row G w;rw[<-S,<-hu]at u1 u2 u3 u4;rw[<-S,<-hv]at v1 v2 v3 v4;refine bs (λst h'=>∃Bs,Sp h h' (an H 27 (aD x)::an a2 27 (aD y)::an st.1 83 (bg u)::an st.2 83 (bg v)::Bs)) ?_ ?_
  .have keep:∀{h':m5} {Bs:List HP},Sp h h' (an H 27 (aD x)::an a2 27 (aD y)::Bs)->
     bx.ok [(d.add ((i:Int).toNat*4),(xK v.1)),((d.add ((i:Int).toNat*4)).add 1,(xH xN v.2.1)),((d.add ((i:Int).toNat*4)).add 2,(xH xN v.2.2.1)),((d.add ((i:Int).toNat*4)).add 3,(xI v.2.2.2.ptr v.2.2.2.len v.2.2.2.cap)),(a2.add 7,(xI y.2.2.2.2.2.2.2.ptr y.2.2.2.2.2.2.2.len y.2.2.2.2.2.2.2.cap)),(f.add ((i:Int).toNat*4),(xK u.1)),((f.add ((i:Int).toNat*4)).add 1,(xH xN u.2.1)),((f.add ((i:Int).toNat*4)).add 2,(xH xN u.2.2.1)),((f.add ((i:Int).toNat*4)).add 3,(xI u.2.2.2.ptr u.2.2.2.len u.2.2.2.cap)),(H.add 7,(xI x.2.2.2.2.2.2.2.ptr x.2.2.2.2.2.2.2.len x.2.2.2.2.2.2.2.cap))] h':=λ{h' Bs} H'=>by
    have c:=H'.ac;exact⟨c.cell (df a.1) a.1,c.cell (df a.2.1) a.2.1,c.cell (df a.2.2.1) a.2.2.1,c.cell (df a.2.2.2.1) a.2.2.2.1,(H'.box 1 n5).cell n5,c.cell (df b.1) b.1,c.cell (df b.2.1) b.2.1,c.cell (df b.2.2.1) b.2.2.1,c.cell (df b.2.2.2.1) b.2.2.2.1,(H'.box 0 n5).cell n5,I6⟩
   have N:=keep q;have c:=q.ac;refine⟨x.2.2.2.2.2.2.2,(q.box 0 n5).cell n5,f,ha,u,⟨c.cell (df b.1) b.1,c.cell (df b.2.1) b.2.1,c.cell (df b.2.2.1) b.2.2.1,c.cell (df b.2.2.2.1) b.2.2.2.1,I6⟩,y.2.2.2.2.2.2.2,(q.box 1 n5).cell n5,d,hb,v,⟨c.cell (df a.1) a.1,c.cell (df a.2.1) a.2.1,c.cell (df a.2.2.1) a.2.2.1,c.cell (df a.2.2.2.1) a.2.2.2.1,I6⟩,?_,?_⟩
   .refine q.alloc ag n5 λP h6 A=>⟨keep A,A.alloc ag n5 λV h7 J=>⟨keep J,?_⟩⟩
    refine J.storeAll ag 2 n5 n5 (bg u) n5 n5 n5 n5 λh8 D=>?_;obtain⟨k1,Y,X,k4,N,_⟩:=keep D;refine⟨⟨k1,Y,X,k4,N,I6⟩,D.storeAll ag 3 n5 n5 (bg v) n5 n5 n5 n5 λh9 j=>⟨I6,[],j⟩⟩
   .refine q.alloc ag n5 λP h6 A=>⟨keep A,A.alloc ag n5 λV h7 J=>⟨keep J,?_⟩⟩
    refine J.storeAll ag 3 n5 n5 (bg u) n5 n5 n5 n5 λh8 D=>?_;obtain⟨k1,Y,X,k4,N,_⟩:=keep D;refine⟨⟨k1,Y,X,k4,N,I6⟩,D.storeAll ag 2 n5 n5 (bg v) n5 n5 n5 n5 λh9 j=>⟨I6,[],j.aG 4 [0,1,3,2]⟩⟩
  .rintro⟨s1,s2⟩ h9 ⟨Bs,j⟩;dsimp only at j⊢;have L:=j.box 2 n5;have M:=j.box 3 n5;have ad:=B.2;refine⟨E.name,by rw[<-u1];exact L.cell0 n5,E.name,by rw[<-v1];exact M.cell0 n5,aH (λe=>absurd e oo) λ_=>?_⟩;refine⟨E.object,by rw[<-u2];exact L.cell n5,E.object,by rw[<-v2];exact M.cell n5,bt (λe=>absurd n5 e) λ_=>?_⟩;refine⟨E.length,by rw[<-u3];exact L.cell n5,E.length,by rw[<-v3];exact M.cell n5,bt (λe=>absurd n5 e) λ_=>?_⟩;refine⟨u.2.2.2,L.cell n5,v.2.2.2,M.cell n5,(lU _ _ E.tries E.tries h9 (Seq.up u4 j.ac) (Seq.up v4 j.ac) n7).I2 ?_⟩;refine⟨_,n5,aH (λe=>absurd e oo) λ_=>⟨i+1,o0,⟨n7,j.aG 2 [0,1]|>.px (As:=[_,_])⟩,n7⟩⟩
 .exact⟨n5,.zip q.ac⟩
theorem SX(a b:Sl)(c f:aO)(h:m5)(o:dT h a 1 aq c)(p:dT h b 1 aq f)(D:n4 c<=2^40)(x:∀r∈c,n4 r<=2^40):
  ak xR 214 #[a,b] h λv h'=>v=xL (decide (c=f))/\h'=h:=by
 refine ts Tryz.func214 ?_ (HF (HF (I0 [(13,aI)] [(4,6),(13,27)])));have l:=o.len;have j:=p.len;refine bt (λd=>⟨?_,n5⟩) (λw=>?_)
 .rw[n2 λe=>d (by rw[l,j,e])]
 .refine aj (λk:Nat=>(k:Int)) (λk h'=>h'=h/\k<=n4 c/\c.take k=f.take k) (λk=>n4 c-k) 0 n5 ⟨n5,n7,oo⟩ ?_;rintro k h' ⟨rfl,B,m⟩;refine ae (λz=>?_) (λq=>?_)
  .have g:k<n4 c:=n7
   have i:k<n4 f:=n7
   refine o.get k n5 g λt A=>?_;refine p.get k n5 i λs u=>?_;refine(lI t s _ _ h' A u (x _ (qe _))).I2 ⟨_,n5,I6,?_⟩;refine aH (λe=>⟨?_,n5⟩) (λe=>?_)
   .have d:c[k]≠f[k]:=of_decide_eq_false e;rw[n2];intro e;subst e;exact d n5
   .have y:c[k]=f[k]:=n3 e;rw[af _];exact⟨k+1,oo,⟨n5,n7,by rw[az _ _ g,az _ _ i,m,y]⟩,n7⟩
  .have:k=n4 c:=n7
   subst this;rw[qf n7,qf n7]at m;exact⟨by rw[n1 m],n5⟩
theorem HB(s:Sl)(f b:hU)(d:bp)(rs k:Sl)(h:m5)(j:dT h s 1 aq d.l)(a:bV h b 174 (dz f d rs k))(i:dT h rs 1 aq d.l)(ok:eZ d):
  ak xR 148 #[xH xN d.room,xH xN d.wait,s,xL d.lost,xJ (dB b)] h λv h'=>v=xL eX/\h'=h:=by
 refine ts Tryz.func148 ?_;have:=ok.len;have:=ok.room;refine⟨b,n5,_,a.cell0 n5,be (λ_=>?_) λe=>absurd n5 e⟩;refine⟨b,n5,_,a.cell n5,be (λ_=>?_) λe=>absurd n5 e⟩;refine⟨b,n5,d.lost,a.cell n5,aT (λ_=>?_) λe=>absurd e oo⟩;refine⟨b,n5,rs,a.cell n5,(SX s rs d.l d.l h j i n7 λc g=>by rw[ok.cell c g];decide).I2 ?_⟩;exact⟨_,n5,oo,n5⟩
def rj(d:bp)(i:Int):aR:=if 0<=i then d.l.getD i.toNat []else[]
variable {B':au} {h0' h':m5} {As':List HP} {pw2:hU}
section
variable {pw:hU} {d:bp}
theorem Pf(H:aa B h0 h (jo pw a d::As))(H':aa B' h0' h (ib pw2 b d::As')):
  ak xR 83 #[xJ (dB a),xJ (dB b)] h λv h'=>v=xL eX/\Sp h h' []:=by
 refine ts Tryz.func83 ?_ (HF (HF (HF (G0 (HF (G7 (G9 [(28,aI)] [(4,5),(6,8),(28,57)] (HF (HF (G0 (G7 (HF (HF (I1 [(7,bK)] [(7,8),(32,50)] G6)))) G6)))))) G6)))) [(5,(.l [0,1,2,3,4,5,6,7,8,9,10,13,11,12])),(14,(.l [0,2,3,4,5,6,1,7,8,9,11,13,15,17,10,12,14,16,18,19,20]))];obtain⟨s,w,R,V,J⟩:=jo.box H;obtain⟨ok,rs,W,j,N,k⟩:=ib.box H';have Q:=ok.len;have M:=ok.room;refine aT (λe=>o1) λ_=>aT (λe=>o1) λ_=>⟨b,n5,rs,j.cell n5,b,n5,rs,j.cell n5,?_⟩
 try dsimp only
 rw[af ((rs.len:Int)-1),k];obtain⟨L,I⟩:∃L:aC,L=[-1,0,(n4 d.l:Int)-1,(n4 d.l:Int)]:=⟨_,rfl⟩
 have Y:n4 L=4:=by rw[I];rfl
 refine(Sp.refl h).ke ag ar fu n5 [-1,0,(n4 d.l:Int)-1,(n4 d.l:Int)] n5 (show 4*1<=2^20 by decide) n5 ⟨by rw[<-k];exact j.cell n5,by rw[<-k];exact j.cell n5,I6⟩ ?_;refine(Sp.refl h).lit ag ar fu n5 [-1,0,(n4 d.l:Int)-1,(n4 d.l:Int)] n5 (show 4*1<=2^20 by decide) n5 λv5 h1 F=>?_;have F:Sp h h1 [ai 3 v5 1 ar L]:=by rw[I];exact F
 have S:=(F.own 0 n5).len;refine aj (λi:Nat=>(i:Int)) (λi h'=>i<=4/\Sp h h' [ai 3 v5 1 ar L]) (λi=>4-i) 0 n5 ⟨n7,F⟩ ?_;rintro i E ⟨hi,u⟩;have g:=R.ac u.ac R.lt;have f:=j.ac u.ac j.lt;have D:=V.up u.ac;have p:=N.up u.ac;refine ae (λe=>?_) (λe=>?_)
 .have z:i<n4 L:=by have e':(i:Int)<(v5.len:Int):=e;omega
  obtain⟨x,P⟩:=I5 (L[i])
  have U:-1<=x/\x<=n4 d.l:=by
   have:x∈L:=by rw[P];exact qe z
   rw[I]at this;simp only[List.mem_cons,List.not_mem_nil,or_false]at this;omega
  refine(u.seq 0 n5 λ_=>rfl).aV i n5 z x (by rw[P];rfl) ?_;refine bs (λr h'=>h'=E/\Rd E r 1 aq (rj d x)) ?_ ?_
  .have q:rj d x=[]->Rd E ⟨eH,0,0⟩ 1 aq (rj d x):=λhh=>by rw[hh];exact Seq.nil _ _ _ _ _ _
   refine ae (λZ=>⟨b,n5,rs,f.cell n5,ae (λX=>?_) λX=>⟨n5,q ?_⟩⟩) (λZ=>⟨n5,q ?_⟩)
   .refine⟨b,n5,rs,f.cell n5,p.get x.toNat n7 n7 λr K=>⟨n5,?_⟩⟩;unfold rj;rw[m6 n7,getD_lt (show x.toNat<n4 d.l by omega)];exact K
   .unfold rj;rw[m6 n7,qg,zf n7];rfl
   .unfold rj;rw[nq n7]
  .rintro r _ ⟨rfl,K⟩;refine(UC s w x g D ok.cell).I4 λA h3 G=>?_;have T:n4 (rj d x)<=64:=by
    unfold rj;split
    .rw[qg];cases hg:d.l[x.toNat]? with
     |none=>simp
     |some c=>simp[ok.cell c (List.mem_of_getElem? hg)]
    .simp
   refine⟨A,n5,(lI A r (rj d x) (rj d x) h3 (G.seq 0 n5 λ_=>rfl) (K.up G.ac) n7).I2 ?_⟩;refine⟨_,n5,aH (λe=>absurd e oo) λ_=>⟨i+1,o0,⟨n7,u.up G.ac⟩,n7⟩⟩
 .have o:hY E (b.add 2)=dB (xI rs.ptr rs.len rs.cap):=f.cell n5;refine⟨b,n5,rs,o,(CY s w g J).I2 ?_⟩;refine⟨_,n5,⟨o,I6⟩,be (λ_=>?_) λe=>absurd n7 e⟩;refine(Jx s w g).I2 ⟨_,n5,⟨o,I6⟩,(UB s w g).I2 ?_⟩;refine⟨_,n5,⟨o,I6⟩,(FL s w g D ok).I4 λr h6 y=>?_⟩;have O:=g.ac y.ac g.lt;have t:=f.ac y.ac f.lt;have m:hY h6 (b.add 2)=dB (xI rs.ptr rs.len rs.cap):=t.cell n5;refine⟨r,n5,⟨m,I6⟩,(uO s w O).mono ?_⟩;rintro _ h7 ⟨rfl,rfl⟩;refine⟨_,n5,⟨m,I6⟩,(HB r pw2 b d rs W h7 (aa.uC y λ_=>rfl) t (p.up y.ac) ok).I2 ?_⟩;exact⟨_,n5,⟨m,I6⟩,n5,.zip (up u.ac y.ac)⟩
theorem IN(h:m5):ak xR 83 #[xJ eH,xJ eH] h λv h'=>v=xL eX/\Sp h h' []:=by refine ts Tryz.func83 ?_ (HF (HF (HF (G0 (HF (G7 (G9 [(28,aI)] [(4,5),(6,8),(28,57)] (HF (HF (G0 (G7 (HF (HF (I1 [(7,bK)] [(7,8),(32,50)] G6)))) G6)))))) G6)))) [(5,(.l [0,1,2,3,4,5,6,7,8,9,10,13,11,12])),(14,(.l [0,2,3,4,5,6,1,7,8,9,11,13,15,17,10,12,14,16,18,19,20]))];exact aT (λe=>o1) λ_=>aT (λ_=>⟨n5,Sp.refl h⟩) λe=>o1
end
variable {a2:hU} {mc:aS} {da2:List bJ}
section
variable {pw:hU} {w:Pow}
theorem kF(x:bi)(m:aB)(d:ct h x m)(f:bM m)(b:∀y∈m.drives,0<=y/\y<64)(H:aa B h0 h (aJ bC a pw (aD x) offs da w ds::As)):
  ak xR 81 #[xJ (dB a)] h λv h'=>∃r:Sl,v=r/\Sp h h' [ai 3 r 1 ar (aY ds m.drives)]:=by
 refine ts Tryz.func81 ?_;obtain⟨ok,g⟩:=aa.cP H;have e:=f.dr;refine⟨a,n5,x.2.2.2.2.2.2.1,g.cell n5,(Hq _ m.drives d.drives n7 b H).I4 λr i c=>?_⟩;exact⟨r,n5,r,n5,c⟩
theorem aa.Ns(H:aa B h0 h (aJ bC a pw mc offs da w ds::As)):∃l,Eg w l/\bV h pw 89 (powC w l):=by obtain⟨ok,e⟩:=Qw.aa.jQ H;have b:=e.rest;obtain⟨l,c,d⟩:=aa.jE b;exact⟨l,c,d.box 0 n5⟩
theorem ig(H:aa B h0 h (aJ bC a pw mc offs da w ds::As)):
  ak xR 71 #[xJ (dB a)] h λv h'=>v=xL (gN w offs)/\h'=h:=by
 refine ts Tryz.func71 ?_;obtain⟨ok,c⟩:=aa.cP H;obtain⟨l,g,d⟩:=aa.Ns H;have b:hY h (a.add 8)=dB (xJ (dB pw)):=c.cell (ud ok.l8);have f:hY h (a.add 9)=dB (xH xN offs):=c.cell (GM ok.l8);refine⟨a,n5,dB pw,b,pw,n5,w.off,d.cell0 n5,aT (λe=>⟨by unfold gN;rw[e];rfl,n5⟩) λe=>?_⟩;refine⟨a,n5,dB pw,b,pw,n5,w.offs,d.cell n5,a,n5,offs,f,by unfold gN;rw[e];rfl,n5⟩
theorem Ph(x x2:bi)(m:aB)(X:ct h x m)(I:ct h x2 m)(K:bM m)(V:∀y∈m.drives,0<=y/\y<64){k:Int}(A:k=offs)
  (H:aa B h0 h (aJ bN a pw (aD x) offs da w ds::aJ bC a2 pw2 (aD x2) k da2 w ds::As)):
  ak xR 20 #[xJ (dB a),xJ (dB a2)] h λv h'=>v=xL eX/\Sp h h' []:=by
 subst A;refine ts Tryz.func20 ?_ (HF (HF (HF (I1 [] [(4,5),(13,67)] (I0 [(67,aI)] [(4,6),(67,82)]))))) [(5,(.l [0,2,3,4,5,1,6,7,8,9,11,10,12,13,14,15,16,17,19,18,20,21,22,23,24,25,26,27,28,29,32,33,34,35,36,37,38,30,31,39,40,41,42,45,46,47,48,49,50,51,43,44,52,53])),(10,(.l [0,1,3,4,5,6,7,8,2,9,10]))];have G:=H.nj;refine aT (λe=>o1) λ_=>aT (λe=>o1) λ_=>?_;obtain⟨ok,hb⟩:=aa.cw H;obtain⟨D,j⟩:=aa.cP G;obtain⟨l2,ao,E⟩:=aa.Ns G;obtain⟨l1,ab,J⟩:=aa.Qe H;have al:=K.dr;refine bs (λ_ h'=>Sp h h' []) ?_ ?_
 .refine⟨a2,n5,x2,j.aw _ n5,(IB x m X K H).I4 λy h1 L=>?_⟩;have q:=j.ac L.ac j.lt;refine⟨y,n5,⟨q.cell0 n5,q.cell n5,q.cell n5,q.cell n5,q.cell n5,q.cell n5,q.cell n5,q.cell n5,I6⟩,?_⟩;refine(IM y x2 m h1 (L.at 0 n5) (I.up L.ac) K).I3 λh2 R2=>?_;have N:=up L.ac R2.ac;refine⟨eX,n5,I6,aH (λe=>o1) λ_=>?_⟩;refine(eW x m (X.up N) K (aa.up H N)).I4 λZ h3 R3=>?_;have S:=up N R3.ac;refine⟨Z,n5,I6,(kF x2 m (I.up S) K V (aa.up G S)).I4 λY h4 M=>?_⟩;have o:=up S M.ac;have am:n4 (aY ds m.drives)<=n4 m.drives:=qH _ _;refine⟨Y,n5,I6,(lU Z Y _ _ h4 ((R3.seq 0 n5 λ_=>rfl).up M.ac) (M.seq 0 n5 λ_=>rfl) n7).I2 ?_⟩;refine⟨_,n5,I6,aH (λe=>absurd e oo) λ_=>?_⟩;refine(pE (aa.up H o)).I2 ⟨_,n5,I6,(ig (aa.up G o)).mono ?_⟩;rintro _ T ⟨rfl,rfl⟩;refine⟨_,n5,I6,aH (λe=>absurd e oo) λ_=>?_⟩;have u:hY T (a2.add 8)=dB (xJ (dB pw2)):=(j.ac o j.lt).cell (ud D.l8);have r:=E.ac o E.lt;have s:hY T pw2=dB (xL w.off):=r.cell0 n5;have c3:hY T (pw2.add 3)=dB (xH xN w.offs):=r.cell n5;have t:=J.ac o J.lt;refine(nF (aa.up H o)).I2 ⟨_,n5,I6,aT (λe=>o1) λ_=>?_⟩;refine⟨a2,n5,dB pw2,u,pw2,n5,w.off,s,(nF (aa.up H o)).I2 ?_⟩;refine⟨_,n5,⟨s,u,I6⟩,(sW l1 t).I2 ?_⟩;refine⟨_,n5,⟨s,u,I6⟩,aT (λe=>absurd e (by cases w.off<;>decide)) λ_=>?_⟩;refine⟨a2,n5,dB pw2,u,pw2,n5,w.offs,c3,(nF (aa.up H o)).I2 ?_⟩;refine⟨_,n5,⟨c3,u,s,u,I6⟩,(CV l1 t).I2 ?_⟩;exact⟨_,n5,⟨c3,u,s,u,I6⟩,bt (λe=>absurd n5 e) λ_=>.zip o⟩
 .rintro _ ad W;refine aj (λi:Nat=>(i:Int)) (λi h'=>i<=64/\Sp h h' []) (λi=>64-i) 0 n5 ⟨n7,W⟩ ?_;rintro i ah ⟨hi,g⟩;have c:=hb.ac g.ac hb.lt;have f:=j.ac g.ac j.lt;refine ae (λe=>?_) (λe=>?_)
  .have U:i<64:=n7
   obtain⟨p,hp,F⟩:=MW D f i U;refine⟨a2,n5,⟨n7,n7⟩,p,by rw[qi];exact hp,(jz (i:Int) ok c).I2 ?_⟩;refine⟨_,n5,⟨by rw[qi];exact hp,I6⟩,?_⟩;have next:∀{h':m5},Sp h h' []->∃O:Nat,qc xN ((i:Int)+1)=(O:Int)/\(O<=64/\Sp h h' [])/\64-O<64-i:=λR=>⟨i+1,o0,⟨n7,R⟩,n7⟩
   have Hc:=aa.up H g.ac;have Q:=aa.up G g.ac;rcases gf ok (i:Int)with⟨c1,c2⟩|⟨n,d,b,s,c1,c2,c3,c4,c5⟩
   .rcases gf D (i:Int)with⟨g1,g2⟩|⟨n,d,b,g0,g1,g2,g3,g4,g5⟩
    .have:p=eH:=by unfold de at g2;rw[m6 n7,qi,F]at g2;exact g2
     subst this;rw[c2];refine(IN _).I3 λP z=>⟨eX,n5,I6,aH (λe=>o1) λ_=>next (aa.up g z.ac)⟩
    .rw[c1]at g3;cases g3
   .have s:i=n:=n7
    subst s;rw[c5];obtain⟨b',c,H5⟩:=Qw.aa.fq Hc c2;rw[c4]at c;injection c with c
    injection c with c
    subst c;obtain⟨b2,f,H6⟩:=Qw.aa.fq Q c2;rw[F]at f;injection f with f
    subst f;refine(Pf H5 H6).I3 λP z=>⟨eX,n5,I6,aH (λe=>o1) λ_=>next (aa.up g z.ac)⟩
  .refine(jz (-1) ok c).I2 ?_;have e1:de da (-1)=eH:=by unfold de;rw[nq n8]
   rw[e1];refine⟨_,n5,aT (λ_=>?_) λe=>o1⟩;refine(jz 64 ok c).I2 ?_;have e2:de da 64=eH:=by unfold de;rw[nq n8]
   rw[e2];exact⟨_,n5,n5,g⟩
theorem IP(h:m5):ak xR 20 #[xJ eH,xJ eH] h λv h'=>v=xL eX/\Sp h h' []:=by refine ts Tryz.func20 ?_ (HF (HF (HF (I1 [] [(4,5),(13,67)] (I0 [(67,aI)] [(4,6),(67,82)]))))) [(5,(.l [0,2,3,4,5,1,6,7,8,9,11,10,12,13,14,15,16,17,19,18,20,21,22,23,24,25,26,27,28,29,32,33,34,35,36,37,38,30,31,39,40,41,42,45,46,47,48,49,50,51,43,44,52,53])),(10,(.l [0,1,3,4,5,6,7,8,2,9,10]))];exact aT (λe=>o1) λ_=>aT (λ_=>⟨n5,Sp.refl h⟩) λe=>o1
end
section
theorem SY(x:bi)(pw:hU)(a:Int):aL xR (Instr.build 40 #[(0,cL x),(1,xJ (dB pw)),(2,xH xN a)]) (xM (cZ (aD x) pw a (qh 64 eH)).toArray):=
 tv ag (i:=_) n5 n5 n5 (vs:=[(0,cL x),(1,xJ (dB pw)),(2,xH xN a)]) (cells:=(cZ (aD x) pw a (qh 64 eH)).toArray) o5
variable {B:au} {h0 h:m5} {As:List HP} {a pw b:hU} {x:bi} {offs:Int} {da:List bJ} {w:Pow} {ds:aF} {d:bp}
theorem aa.VU(n:Nat)(j:n<64)(i:ds[n]?=dB eH)(H:aa B h0 h (aJ bC a pw (aD x) offs da w ds::ib pw b d::As)){K:Unit->m5->Prop}
  (e:∀h',aa B h0 h' (aJ bC a pw (aD x) offs (da.set n (dB b)) w (ds.set n (dB d))::As)->K () h'):
  av xR (qD 37 (xJ (dB ((a.add 10).add n))) (xJ (dB b))) h K:=by
 obtain⟨ok,g⟩:=Qw.aa.jQ H;have f:(a.add 10).add n=a.add (10+n):=by unfold Addr.add;simp[Nat.add_assoc]
 rw[f];refine g.storeAt ag 0 n5 n5 n5 n5 n5 (by simp[ok.la];omega) λh' c=>e h' ?_;rw[zu,JB ok.l8]at c;exact aa.Qf ok j i c
theorem DD(p:Pm)(c:Int)(s:Sl)(l:aC)(hS:St B h0 As λh=>Rd h s 1 ar l)(hl:n4 l<=2^20)(H:aa B h0 h (fW pw w::As)):
  ak xR 43 #[go p,xH xN c,xJ (dB pw),s] h λv h'=>
   ((cV p c w l).1≠0->v=.tuple #[xJ eH,xH xN (cV p c w l).1]/\aa B h0 h' As)/\
   ((cV p c w l).1=0->∃(a:hU) (x:bi) (da:List bJ),v=.tuple #[xJ (dB a),xH xN 0]/\aa B h0 h' (aJ bC a pw (aD x) w.offs da (cV p c w l).2.1 (cV p c w l).2.2::bn x (co p c l)::As)):=by
 refine ts Tryz.func43 ?_ (HF (HF (HF (HF (HF (I0 [(38,aI)] [(14,15),(38,54)])))))) [(10,(.l [0,1,2,3,4,5,6,8,9,7,10,11]))] (args:=[p,(c:Int),(dB pw),s]);refine H.boxed λa1 h1 K=>aT (λe=>o1) λ_=>?_;have K:aa B h0 h1 (an a1 24 [xH xN p.1,xH xN p.2.1,xH xN p.2.2]::fW pw w::As):=K.bc;refine⟨p,(K.box 0 n5).aw _ n5,(Hr p c s l h1 (hS.at [_,_] K) hl).I4 λx h2 ⟨Z,ad⟩=>?_⟩;refine⟨(x,iL p c l),n5,?_⟩
 try dsimp only
 by_cases r:iL p c l=0
 case neg=>
  have ef:cV p c w l=(iL p c l,w,[]):=by rw[sM,nq r]
  rw[ef];have H2:=K.up (Z r).ac;refine H2.alloc ag n5 λa4 h3 H3=>?_;refine H3.bc.storeAll ag 0 n5 n5 (aD x) n5 n5 n5 n5 λh4 I=>?_;exact bt (λ_=>⟨λ_=>⟨n5,I.rest.rest.rest⟩,λh=>absurd h r⟩) λe=>absurd e r
 have Z:=ad r;obtain⟨em,b1,a8,ep,U⟩:=Bv r;obtain⟨a7,o,F⟩:=GY ep;have y:cV p c w l=layAll (bj (co p c l) (bh l l.length)) w (fG l (bh l l.length).length):=by rw[sM,m6 r]
 have f14:=OE p c w l o U;rw[<-y]at f14;obtain⟨m,M⟩:=I5 (co p c l)
 obtain⟨P,G⟩:=I5 (bh l l.length)
 have E:m.drives=P:=by rw[M,G];rfl
 rw[<-M,<-G]at y;rw[<-M]at Z;have hz:bM m:=M▸sJ p c l o;have bl:n4 P<=64:=by rw[G];exact qV (lp _ _) o
 have H2:aa B h0 h2 (bn x m::fW pw w::As):=(K.oA).bQ Z;refine H2.alloc ag n5 λa4 h3 H3=>?_;refine H3.bc.storeAll ag 0 n5 n5 (aD x) n5 n5 n5 n5 λh4 I=>?_;have I:aa B h0 h4 (an a4 27 (aD x)::bn x m::fW pw w::As):=I;refine bt (λe=>absurd r e) λ_=>?_;obtain⟨lw,bq,ah⟩:=(I.aG 3 [2,1,0]).jE;have ap:=I.box 0 n5;refine⟨x,ap.aw _ n5,pw,n5,w.offs,(ah.box 0 n5).cell n5,_,SY x pw w.offs,?_⟩;refine I.boxed λa9 h5 q=>?_;have D:(Value.agg (cZ (aD x) pw w.offs (qh 64 eH)).toArray).cells.toList=cZ (aD x) pw w.offs (qh 64 eH):=pb
 rw[D]at q;have q:aa B h0 h5 (an a9 40 (cZ (aD x) pw w.offs (qh 64 eH))::an a4 27 (aD x)::bn x m::fW pw w::As):=q.bc;have d:=q.box 1 n5;obtain⟨bb,a5,a0⟩:=(q.aG 4 [3,0,1,2]).jE;refine⟨⟨(a0.box 0 n5).cell n5,d.cell0 n5,d.cell n5,d.cell n5,d.cell n5,d.cell n5,d.cell n5,d.cell n5,d.cell n5,I6⟩,?_⟩;have q:=aa.JA (k:=bC) (h8:=by simp) (q.aG 4 [0,3,1,2]);refine⟨x.2.2.2.2.2.2.1,d.cell n5,?_⟩;have S:∀i (hi:i<n4 P),∃n:Nat,n<n4 l/\P[i]=(n:Int)/\0<l.getD n 0:=by subst G;exactλi hi=>xU l l.length i hi
 rw[<-Dc l]at q;have Q:∀{h':m5} {X Y:HP} {Bs:List HP},aa B h0 h' (X::Y::bn x m::Bs)->ct h' x m:=λ{h' X Y Bs} H'=>H'.at 2 n5;have am:=(Q q).drives.len;rw[E]at am;refine aj (λt:Nat×List bJ=>(t.1:Int)) (λt h'=>t.1<=n4 P/\aa B h0 h' (aJ bC a9 pw (aD x) w.offs t.2 w (fG l t.1)::an a4 27 (aD x)::bn x m::As)) (λt=>n4 P-t.1) (0,qh 64 eH) n5 ⟨oo,q⟩ ?_;rintro⟨i,da⟩ ay ⟨hi,g⟩;dsimp only at*;obtain⟨b0,a2⟩:=aa.cP g;have T:=Q g;have u:=T.drives;rw[E]at u;refine ae (λe6=>?_) (λe6=>?_)
 .have J:i<n4 P:=n7
  obtain⟨n,hn,O,a6⟩:=S i J;have a3:=F n;refine Seq.aV (f:=ar) u i n5 J (n:Int) (by rw[O];rfl) ?_;refine(hS.at [_,_,_] g).aV n n5 hn (l.getD n 0) (by rw[getD_lt hn];rfl) ?_;refine⟨a9,n5,(OL (l.getD n 0) pw ay).mono ?_⟩;rintro _ br ⟨Q1,_⟩;obtain⟨b,rfl,al⟩:=Q1 n7;have ab:=(g.bQ al).aG 4 [1,0,2,3];refine⟨_,n5,I6,⟨n7,n7⟩,?_⟩;rw[qi,zG];have N:i<n4 (bh l l.length):=by rw[<-G];exact J
  have R:(bh l l.length)[i]=(n:Int):=by rw[<-O];simp only[G]
  refine Qw.aa.VU n n7 (Dl l i n N R) ab λbk ao=>?_;refine⟨I6,(i+1,da.set n (dB b)),oj,⟨n9,?_⟩,n9⟩
  try dsimp only
  rw[<-Dd l i n N R];exact ao
 .have ax:i=n4 P:=n7
  subst ax;refine⟨x,(g.box 1 n5).aw _ n5,x.2.2.2.2.2.2.1,(g.box 1 n5).cell n5,?_⟩;have L:Has (fG l P.length) P:=⟨xT _ _,λs hs=>by
   obtain⟨j,hj,ej⟩:=qE hs;obtain⟨n,hn,O,_⟩:=S j hj;rw[<-ej,O];refine⟨bp.new (l.getD n 0).toNat,?_⟩;unfold bR fG;rw[m6 n7,qi,qM,List.getElem?_range n7,zn,m6 (by rw[<-G,qt,<-O];exact qe hj)];rfl⟩
  refine(xZ (As:=an a4 27 (aD x)::bn x m::As) x m x.2.2.2.2.2.2.1 P (St.mono (St.dU (A:=bn x m) 1 n5 λh' W=>W) λh' W=>⟨W,by have:=kS.drives W;rw[E]at this;exact this⟩) hz n7 L g).I3 λbd z=>?_;rw[<-y]at z⊢;refine⟨_,n5,bt (λV=>⟨λ_=>⟨?_,z.rest.rest.rest⟩,λh=>absurd h V⟩) λV=>⟨λh=>absurd V h,λ_=>⟨a9,x,da,n5,?_⟩⟩⟩
  .rcases f14 with f|f
   .exact absurd f V
   .rw[f]
  .rw[<-M];exact z.nB
end
def pN(l:aC)(k:Nat):Int:=l.getD k 0
def dv(l:aC):Pm:=Nb (pN l 0) (pN l 1) (pN l 2)
def uq(l:aC):Nat:=(2+pN l 4%4).toNat
def jU(l:aC):aC:=(qy (uq l)).map λi=>8+pN l (5+i)%50
def sl(l:aC):Int:=pN l 3%7
theorem IQ(l:aC):2<=uq l/\uq l<=5:=by unfold uq;omega
theorem FV(l:aC):n4 (jU l)=uq l:=by simp[jU]
section
variable {pw:hU} {w:Pow}
theorem pO(s:Sl)(l:aC)(k:Nat)(h:m5)(b:Rd h s 1 ar l):ak xR 59 #[s,xH xN k] h λv h'=>v=xH xN (pN l k)/\h'=h:=by
 refine ts Tryz.func59 ?_;unfold pN;have c:=b.len;refine ae (λe=>?_) (λe=>⟨?_,n5⟩)
 .have a:k<n4 l:=n7
  refine b.aV k n5 a (l.getD k 0) (by rw[getD_lt a];rfl) ⟨n5,n5⟩
 .rw[qg,zf n7];rfl
theorem Pj(s:Sl)(l:aC)(h:m5)(q:Rd h s 1 ar l):ak xR 42 #[s] h λv h'=>∃r:Sl,v=.tuple #[go (dv l),xH xN (sl l),r]/\Sp h h' [ai 3 r 1 ar (jU l)]:=by
 refine sD s ?_;refine(Sp.refl h).alloc ag n5 λy J u=>?_;have a:=q.up u.ac;refine(pO s l 0 J a).I2 ⟨_,n5,(pO s l 1 _ a).I2 ?_⟩;refine⟨_,n5,(pO s l 2 _ a).mono ?_⟩;rintro _ B ⟨rfl,rfl⟩;refine⟨_,n5,(Sw _ _ _ B).I3 λO L=>?_⟩;have A:=u.up L.ac;refine⟨dv l,n5,?_⟩;refine A.alloc ag n5 λf Q G=>?_;refine G.storeAll ag 1 n5 n5 [xH xN (dv l).1,xH xN (dv l).2.1,xH xN (dv l).2.2] n5 n5 n5 n5 λP n=>?_;have n:=(n.nil 3 1 ar).bu [2,1,0];have M:=IQ l;have D:=FV l;refine aj (λt:Sl×Nat=>(t.1,(t.2:Int))) (λt h'=>t.2<=uq l/\Sp h h' [ai 3 t.1 1 ar ((jU l).take t.2),an f 24 [xH xN (dv l).1,xH xN (dv l).2.1,xH xN (dv l).2.2],an y 24 [xH xN 0,xH xN 0,xH xN 0]]) (λt=>uq l-t.2) (⟨eH,0,0⟩,0) n5 ⟨oo,n⟩ ?_;rintro⟨o,i⟩ h8 ⟨N,d⟩;dsimp only at*;have b:=q.up d.ac;refine(pO s l 4 h8 b).I2 ⟨_,n5,(bT _ 4 _).mono ?_⟩;rintro _ h8 ⟨rfl,rfl⟩;refine⟨_,n5,?_⟩;have g:=d.box 1 n5
 try dsimp only
 rw[af (2+pN l 4%4)];have k:2+pN l 4%4=(uq l:Int):=by unfold uq;omega
 rw[k];refine ae (λe=>?_) (λe=>?_)
 .have F:i<uq l:=n7
  rw[af ((5:Int)+i)];have z:(5:Int)+i=((5+i:Nat):Int):=n7
  rw[z];refine(pO s l (5+i) h8 b).I2 ⟨_,n5,(bT _ 50 _).I2 ?_⟩;refine⟨_,n5,?_⟩
  try dsimp only
  rw[af (8+pN l (5+i)%50)];refine d.push ag 0 n5 fu n5 n8 (λ_=>rfl) db (8+pN l (5+i)%50) n5 n8 oi λI K m=>?_;refine⟨(I,i+1),oj,⟨n9,?_⟩,n9⟩
  try dsimp only
  rw[az _ _ (show i<n4 (jU l) by omega)];have E:(jU l)[i]'n7=8+pN l (5+i)%50:=by simp[jU]
  rw[E];exact m
 .have j:i=uq l:=n7
  subst j;rw[qf n7]at d;have p:bx.ok [(f,(xH xN (dv l).1)),(f.add 1,(xH xN (dv l).2.1)),(f.add 2,(xH xN (dv l).2.2))] h8:=⟨g.cell0 n5,g.cell n5,g.cell n5,I6⟩
  refine⟨dv l,g.aw _ n5,(pO s l 3 h8 b).I2 ?_⟩;refine⟨_,n5,p,(bT _ 7 _).I2 ?_⟩;refine⟨_,n5,p,?_⟩;refine d.storeAll ag 2 n5 n5 [xH xN (dv l).1,xH xN (dv l).2.1,xH xN (dv l).2.2] n5 n5 n5 n5 λx c=>⟨I6,?_⟩
  exact⟨dv l,(c.box 2 n5).aw _ n5,o,n5,c.bu [0]⟩
theorem Yk:(cV (1,1,1) 0 Pow.new [5]).1=0:=o6
theorem SZ:n4 (aY (cV (1,1,1) 0 Pow.new [5]).2.2 (co (1,1,1) 0 [5]).drives)=1:=o6
end
end Go.Qw
