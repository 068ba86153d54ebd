/- Lemmas for the proof of the law; no condition. -/
import Derived.Test.YtmobnmonkaacaaaGreatDoorDKC
set_option maxHeartbeats 2000000
set_option linter.unusedVariables false
set_option maxHeartbeats 4000000
set_option linter.unusedSimpArgs false
open Go.Proofs.Tryz renaming prog -> xT
open List renaming drop -> wS, eq_replicate_iff -> vg, findIdx_eq -> vE, findIdx_getElem -> vo, findIdx_lt_length -> ya, getElem?_zip_eq_some -> yf, length_eq_zero_iff -> yw, mem_iff_getElem? -> wR, not_of_lt_findIdx -> y8, range -> qy, replicate -> qf, zipWith -> zj, zip_append -> xw
open Go.Value renaming agg -> xO, bool -> xN, int -> xJ, pointer -> xL, slice -> xK, string -> xM
open Go.IntKind renaming bits -> qq, i64 -> xP, signed -> yC, u32 -> xR, u64 -> xS, u8 -> xQ, wrap -> qd
open Option renaming some -> z8
open Int renaming fdiv -> zp, tdiv -> yN
open Prod renaming fst -> qC, snd -> zg
open Go.Instr renaming slice -> xI, sliceAt -> w5, sliceBounds -> zY, storeAt -> qG
open BitVec renaming ofInt -> qF
open UInt8 renaming ofNat -> zI
set_option maxRecDepth 100000
open Option renaming some -> dB, none -> eH
open Bool renaming true -> eL, false -> eR
open Go renaming Addr -> fY
open Go.Qw renaming cellOf -> hU, Heap -> hY
open List renaming length -> m8
open Go.Qw.bU renaming two -> E5, n -> E6, inn -> E7, loop -> E8, tn -> F8, lp -> F9, jn -> G0
namespace Go.Qw
open Go.Proofs
variable {B:ar} {h0 h:hY} {As:List HP}
theorem DS{α:Type}{g:α->Bool}{l:List α}{i:Nat}(h:i<m8 l)(a:∀j (b:j<m8 l),j<i->g l[j]=eR)(c:g l[i]=eL):l.findIdx g=i:=by rw[vE h];exact⟨c,λj b=>a j nb b⟩
theorem Pv(s:Sl)(l:aC)(b:FuncId)(a:Array Value)(g:Int->Bool)(Q:hY->Prop)(y:C.fns[b]?=dB eL)(A:St B h0 As Q)(q:∀x h',Q h'->aj xT b ([Value.int .i64 x]++a.toList).toArray h' λv r=>v=xN (g x)/\Sp h' r [])(H:aa B h0 h (ai 3 s 1 av l::As))(D:m8 l<=2^20):
  aj xT 206 #[s,.func (.func b) #[] a] h λv h'=>v=xJ xP (if l.findIdx g<m8 l then(l.findIdx g:Int)else-1)/\aa B h0 h' (ai 3 s 1 av l::As):=by
 refine iU s (b,#[],a) ?_;have z:=(H.own 0 m9).len;refine ak (λi:Nat=>(i:Int)) (λi h'=>aa B h0 h' (ai 3 s 1 av l::As)/\i<=m8 l/\∀j (m:j<m8 l),j<i->g l[j]=eR) (λi=>m8 l-i) 0 m9 ⟨H,nb,λj _ m=>nb⟩ ?_;rintro i w ⟨k,F,d⟩;refine ae (λe=>?_) (λe=>?_)
 .have c:i<m8 l:=nb
  refine(k.seq 0 m9 λ_=>rfl).aW i m9 c _ m9 ?_;refine fF y ?_;refine(q l[i] w (A.at [_] k)).G7 λE t=>⟨_,m9,aS (λp=>?_) λp=>?_⟩
  .rw[DS c d p,hZ c];exact⟨m9,k.up t.ac⟩
  .refine⟨i+1,n7,⟨k.up t.ac,nb,λj m o=>?_⟩,nb⟩;rcases q8.1 o with h3|rfl
   .exact d j m h3
   .exact p
 .have n:¬l.findIdx g<m8 l:=by rw[ya];rintro⟨x,u,f⟩;obtain⟨j,m,rfl⟩:=qD u;rw[d j m nb]at f;cases f
  rw[k4 n];exact⟨m9,k⟩
theorem Tz{α:Type}{g:α->Bool}{l:List α}{j:Nat}(h:j<l.findIdx g)(a:j<m8 l):g l[j]=eR:=by simpa using y8 h
structure mG {α:Type} (g:α->Bool) (l l':List α) (i j:Nat):Prop where
 len:m8 l'=m8 l
 le:i<=j
 pre:l'.take i=(l.take j).filter λx=>!g x
 post:l'.drop j=l.drop j
theorem mG.start{α:Type}{g:α->Bool}{l:List α}{i:Nat}(h:i<m8 l)(b:l.findIdx g=i):mG g l l i (i+1):=by
 refine⟨m9,nb,?_,m9⟩;have a:g l[i]=eL:=by have:=vo (xs:=l) (p:=g) (w:=by rw[b];exact h);simpa[b]using this
 rw[aA _ _ h,zi,zA,a];have:(l.take i).filter (λx=>!g x)=l.take i:=yR.2 λx d=>by
  obtain⟨j,c,rfl⟩:=qD d;simp only[qx]at c;rw[zH,Tz (g:=g) (l:=l) (j:=j) nb nb];rfl
 rw[this];simp
theorem mG.at_{α:Type}{g:α->Bool}{l b:List α}{i j:Nat}(x:mG g l b i j)(a:j<m8 l):b[j]'(by rw[x.len];exact a)=l[j]:=by have h:=congrArg (λm=>m[0]?) x.post;simp only[wJ,yn]at h;rw[qc a,qc (by rw[x.len];exact a)]at h;exact z8.inj h
theorem mG.keep{α:Type}{g:α->Bool}{l a:List α}{i j:Nat}(x:mG g l a i j)(c:j<m8 l)(e:g l[j]=eR):mG g l (a.set i l[j]) (i+1) (j+1):=by
 have b:=x.len;have d:=x.le;refine⟨by simp[b],nb,?_,?_⟩
 .rw[aA _ _ n2,List.getElem_set_self,List.take_set_of_le (qj _),x.pre,aA _ _ c,zi,zA,e];rfl
 .rw[List.drop_set_of_lt nb];have f:=congrArg (wS 1) x.post;simpa[wu]using f
theorem mG.skip{α:Type}{g:α->Bool}{l a:List α}{i j:Nat}(x:mG g l a i j)(c:j<m8 l)(e:g l[j]=eL):mG g l a i (j+1):=by
 have b:=x.len;have d:=x.le;refine⟨b,nb,?_,?_⟩
 .rw[x.pre,aA _ _ c,zi,zA,e];simp
 .have f:=congrArg (wS 1) x.post;simpa[wu]using f
theorem filter_all{α:Type}{g:α->Bool}{l:List α}(h:¬l.findIdx g<m8 l):l.filter (λx=>!g x)=l:=yR.2 λx a=>by
 have:g x=eR:=by
  cases hh:g x with
  |false=>rfl
  |true=>exact absurd (ya.2 ⟨x,a,hh⟩) h
 rw[this];rfl
theorem NC(s:Sl)(l:aC)(b:FuncId)(a:Array Value)(g:Int->Bool)(Q:hY->Prop)(y:C.fns[b]?=dB eL)(D:St B h0 As Q)(f:∀x h',Q h'->aj xT b ([Value.int .i64 x]++a.toList).toArray h' λv w=>v=xN (g x)/\Sp h' w [])(H:aa B h0 h (ai 3 s 1 av l::As))(E:m8 l<=2^20):
  aj xT 290 #[s,.func (.func b) #[] a] h λv h'=>∃r:Sl,v=r/\aa B h0 h' (ai 3 r 1 av (l.filter λx=>!g x)::As):=by
 refine ts Tryz.func290 ?_ (F8 (F8 (F8 (F9 [(5,aI),(6,aI)] [(5,8),(16,36)])))) (args:=[s,(.func (.func b) #[] a)]);refine(Pv s l b a g Q y D f H E).G7 λO z=>?_;have N:=(H.own 0 m9).len;have K:=(H.own 0 m9).cap;refine⟨_,m9,aZ (λe=>?_) λe=>?_⟩
 .have q:¬l.findIdx g<m8 l:=λm=>by rw[hZ m]at e;omega
  exact⟨s,m9,by rw[filter_all q];exact z⟩
 .have c:l.findIdx g<m8 l:=by
   by_cases m:l.findIdx g<m8 l
   .exact m
   .rw[k4 m]at e;exact absurd m9 e
  rw[hZ c];refine ak (λt:Nat×Nat×aC=>((t.1:Int),(t.2.1:Int))) (λt h'=>mG g l t.2.2 t.1 t.2.1/\t.2.1<=m8 l/\aa B h0 h' (ai 3 s 1 av t.2.2::As)) (λt=>m8 l-t.2.1) (l.findIdx g,l.findIdx g+1,l) n7 ⟨mG.start c m9,n1,z⟩ ?_;rintro⟨i,j,A⟩ M ⟨M2,P,k⟩;dsimp only at*;have J:=M2.len;have F:=M2.le;refine ae (λL=>?_) (λL=>?_)
  .have d:j<m8 l:=nb
   refine(k.seq 0 m9 λ_=>rfl).aW j m9 nb _ m9 ?_;rw[M2.at_ d];refine fF y ?_;refine(f l[j] M (D.at [_] k)).G7 λh3 G=>?_;have o:=k.up G.ac;refine⟨_,m9,aH (λu=>?_) λu=>?_⟩
   .refine o.set ag 0 m9 (λ_=>rfl) m9 i m9 nb l[j] m9 m9 m9 λR I=>?_;exact⟨(i+1,j+1,A.set i l[j]),by dsimp only;rw[af _,af _];rfl,⟨M2.keep d u5,n1,I⟩,n1⟩
   .exact⟨(i,j+1,A),n3,⟨M2.skip d u5,n1,o⟩,n1⟩
  .have p:j=m8 l:=nb
   subst p;refine⟨⟨nb,nb⟩,?_⟩;rw[qi];refine k.ox ag 0 m9 ge (λ_=>rfl) m9 nq i nb λh3 o=>⟨⟨nb,nb⟩,⟨s.ptr,i,s.cap⟩,m9,?_⟩
   have:=M2.pre;rw[qt]at this;rw[<-this];exact o
abbrev adp:bO C.toAA 257 326 2 [xJ xP 0,xJ xP 0] 16:=⟨_,_,m9,m9,m9,m9,m9,m9⟩
theorem Pw(s:Sl)(l:List (Int×Int))(b:FuncId)(a:Array Value)(g:Int×Int->Bool)(Q:hY->Prop)(z:C.fns[b]?=dB eL)(D:St B h0 As Q)(r:∀x h',Q h'->aj xT b ([Value.agg #[xJ xP x.1,xJ xP x.2]]++a.toList).toArray h' λv t=>v=xN (g x)/\Sp h' t [])(H:aa B h0 h (ai 326 s 2 gh l::As))(E:m8 l<=2^20):
  aj xT 341 #[s,.func (.func b) #[] a] h λv h'=>v=xJ xP (if l.findIdx g<m8 l then(l.findIdx g:Int)else-1)/\aa B h0 h' (ai 326 s 2 gh l::As):=by
 refine ts Tryz.func341 ?_ (F8 (F9 [(8,aI)] [(4,6),(8,19)])) (args:=[s,(.func (.func b) #[] a)]);have A:=(H.own 0 m9).len;refine ak (λi:Nat=>(i:Int)) (λi h'=>aa B h0 h' (ai 326 s 2 gh l::As)/\i<=m8 l/\∀j (m:j<m8 l),j<i->g l[j]=eR) (λi=>m8 l-i) 0 m9 ⟨H,nb,λj _ m=>nb⟩ ?_;rintro i y ⟨k,G,d⟩;refine ae (λe=>?_) (λe=>?_)
 .have c:i<m8 l:=nb
  refine(k.seq 0 m9 λ_=>rfl).cQ (g:=gh) i m9 c l[i] m9 ?_;refine fF z ?_;refine(r l[i] y (D.at [_] k)).G7 λF u=>⟨_,m9,aS (λq=>?_) λq=>?_⟩
  .rw[DS c d q,hZ c];exact⟨m9,k.up u.ac⟩
  .refine⟨i+1,n7,⟨k.up u.ac,nb,λj m p=>?_⟩,nb⟩;rcases q8.1 p with h3|rfl
   .exact d j m h3
   .exact q
 .have o:¬l.findIdx g<m8 l:=by rw[ya];rintro⟨x,w,f⟩;obtain⟨j,m,rfl⟩:=qD w;rw[d j m nb]at f;cases f
  rw[k4 o];exact⟨m9,k⟩
theorem ND(s:Sl)(l:List (Int×Int))(b:FuncId)(a:Array Value)(g:Int×Int->Bool)(Q:hY->Prop)(z:C.fns[b]?=dB eL)(G:St B h0 As Q)(m:∀x h',Q h'->aj xT b ([Value.agg #[xJ xP x.1,xJ xP x.2]]++a.toList).toArray h' λv y=>v=xN (g x)/\Sp h' y [])(H:aa B h0 h (ai 326 s 2 gh l::As))(I:m8 l<=2^20):
  aj xT 288 #[s,.func (.func b) #[] a] h λv h'=>∃r:Sl,v=r/\aa B h0 h' (ai 326 r 2 gh (l.filter λx=>!g x)::As):=by
 refine ts Tryz.func288 ?_ (F8 (F8 (F8 (F9 [(5,aI),(6,aI)] [(5,8),(16,36)])))) (args:=[s,(.func (.func b) #[] a)]);refine(Pw s l b a g Q z G m H I).G7 λR A=>?_;have O:=(H.own 0 m9).len;have L:=(H.own 0 m9).cap;refine⟨_,m9,aZ (λe=>?_) λe=>?_⟩
 .have u:¬l.findIdx g<m8 l:=λo=>by rw[hZ o]at e;omega
  exact⟨s,m9,by rw[filter_all u];exact A⟩
 .have c:l.findIdx g<m8 l:=by
   by_cases o:l.findIdx g<m8 l
   .exact o
   .rw[k4 o]at e;exact absurd m9 e
  rw[hZ c];refine ak (λt:Nat×Nat×List (Int×Int)=>((t.1:Int),(t.2.1:Int))) (λt h'=>mG g l t.2.2 t.1 t.2.1/\t.2.1<=m8 l/\aa B h0 h' (ai 326 s 2 gh t.2.2::As)) (λt=>m8 l-t.2.1) (l.findIdx g,l.findIdx g+1,l) n7 ⟨mG.start c m9,n1,A⟩ ?_;rintro⟨i,j,D⟩ S ⟨M2,T,p⟩;dsimp only at*;have K:=M2.len;have J:=M2.le;refine ae (λM=>?_) (λM=>?_)
  .have f:j<m8 l:=nb
   refine(p.seq 0 m9 λ_=>rfl).cQ (g:=gh) j m9 nb l[j] (by rw[M2.at_ f]) ?_;refine p.alloc ag m9 λa5 h3 d=>?_;have d:=d.ba;refine d.storeAll ag 0 m9 m9 (gh l[j]) m9 m9 m9 m9 λF k=>?_;refine⟨l[j],(k.box 0 m9).aw _ m9,?_⟩;refine fF z ?_;refine(m l[j] F (G.at [_,_] k)).G7 λP N=>?_;have E:=k.up N.ac;have d:=E.oQ;refine⟨_,m9,aH (λw=>?_) λw=>?_⟩
   .refine⟨l[j],(E.box 0 m9).aw _ m9,?_⟩;refine d.set ag 0 m9 (λ_=>rfl) m9 i m9 nb l[j] m9 m9 m9 λF k=>?_;exact⟨(i+1,j+1,D.set i l[j]),by dsimp only;rw[af _,af _];rfl,⟨M2.keep f D0,n1,k⟩,n1⟩
   .exact⟨(i,j+1,D),n3,⟨M2.skip f D0,n1,d⟩,n1⟩
  .have q:j=m8 l:=nb
   subst q;refine⟨⟨nb,nb⟩,?_⟩;rw[qi];refine p.ox ag 0 m9 adp (λ_=>rfl) m9 nq i nb λh3 d=>⟨⟨nb,nb⟩,⟨s.ptr,i,s.cap⟩,m9,?_⟩
   have:=M2.pre;rw[qt]at this;rw[<-this];exact d
def wO(pool:List (Sl×aC)):HP:=⟨λh q=>∀x∈pool,Seq h q x.1 1 av x.2,λa d x b=>(a x b).ac d,λa c x b=>(a x b).mono c⟩
theorem aa.Wz(H:aa B h0 h As):aa B h0 h (As++[wO []]):=H.comp (.one (aQ.refl _ _) λx a=>C2)
theorem aa.aas(H:aa B h0 h As)(i j:Nat)(b:i≠j){pool:List (Sl×aC)}{r:Sl}{l:aC}(e:As[i]?=dB (wO pool))(c:As[j]?=dB (Ae r 1 av l)):aa B h0 h ((As.set i (wO (pool++[(r,l)]))).set j emp):=
 H.merge i j b e c λg k _ f d x a=>by
  rcases qw.1 a with a|a
  .exact(f x a).mono λ_ h=>.inl h
  .rw[qB]at a;subst a;exact Seq.mono d λ_ h=>.inr h
abbrev adq:bO C.toAA 59 22 1 [xK eH 0 0] 24:=⟨_,_,m9,m9,m9,m9,m9,m9⟩
theorem Px(s d:fY)(r:Sl)(x:Int×Int)(h':hY)(e:hU h' d=dB (xL (dB s))/\hU h' (s.add 5)=dB (xK r.ptr r.len r.cap)):
  aj xT 289 ([Value.agg #[xJ xP x.1,xJ xP x.2]]++(#[Value.pointer (dB d)]:Array Value).toList).toArray h' λv c=>v=xN (decide (x.1>=(r.len:Int)))/\Sp h' c []:=by
 refine ts Tryz.func289 ?_ (args:=[x,d]);refine(Sp.refl h').boxed λa f b=>?_;exact⟨x.1,(b.box 0 m9).cell0 m9,dB s,eE e.1 b.ac,s,m9,r,eE e.2 b.ac,m9,.zip b.ac⟩
theorem Py(s b:fY)(r:Sl)(x:Int)(h':hY)(c:hU h' b=dB (xL (dB s))/\hU h' (s.add 5)=dB (xK r.ptr r.len r.cap)):
  aj xT 291 ([Value.int .i64 x]++(#[Value.pointer (dB b)]:Array Value).toList).toArray h' λv a=>v=xN (decide (x>=(r.len:Int)))/\Sp h' a []:=by
 refine ts Tryz.func291 ?_ (args:=[(x:Int),b]);exact⟨dB s,c.1,s,m9,r,c.2,m9,Sp.refl _⟩
theorem Pz(s f:fY)(p:Int×Int×Int)(v r d j m N M kn:Sl)(D:List (Sl×Sl))(R:List fp)(known:List Bool)(n:Nat)(H:aa B h0 h (SA s (iv f p v r d j m N M)::As))(hS:St B h0 As λh=>gE kl 2 qv h r D R/\Rd h kn 1 fw known)(a2:m8 known=n)(hn:n<=64)(a9:m8 R<=2^19)(a0:∀e∈R,m8 e.1<=2^20)
  (z:jP (n:Int) (rowsOf R known n)=eL) (al:(eP n (rowsOf R known n)).steps.length<=2^20/\(fS (eP n (rowsOf R known n)).used (rowsOf R known n).length).length<=2^20):
  aj xT 226 #[xL (dB s),kn] h λv' h'=>v'=.tuple #[]/\∃Q G P:Sl,aa B h0 h' (SA s (iv f p v r Q G P N M)::ai 326 Q 2 gh ((eP n (rowsOf R known n)).steps.filter λx=>decide (x.1<m8 R))::ai 3 G 1 av (eP n (rowsOf R known n)).dead::ai 3 P 1 av ((fS (eP n (rowsOf R known n)).used (rowsOf R known n).length).filter λx=>decide (x<m8 R))::As):=by
 refine ts Tryz.func226 ?_ (F8 (F8 (E5 (F8 (E7 (E8 [(4,bJ),(16,aI)] [(4,5),(6,7),(16,26)] E6))) (F9 [(4,bJ),(28,aI)] [(4,5),(7,9),(28,40)]))));refine H.boxed λy F S=>?_;have S:=S.ba;refine⟨dB s,(S.box 0 m9).cell0 m9,s,m9,r,(S.box 1 m9).cell m9,?_⟩;have G1:=hS.at [_,_] S;have ah:=G1.1.1.len;have L:=G1.1.2.1;have ab:=G1.2.len;let pre:List HP:=[an y 254 [xL (dB s)],SA s (iv f p v r d j m N M)]
 have H2:aa B h0 F (ai 22 ⟨eH,0,0⟩ 1 bv []::wO []::an y 254 [xL (dB s)]::SA s (iv f p v r d j m N M)::As):=((aa.Wz S).ba.nil 22 1 bv).ba;refine ak (λt:Nat×Sl=>(t.2,(t.1:Int))) (λt h'=>t.1<=m8 R/\aa B h0 h' (ai 22 t.2 1 bv ((D.take t.1).map qC)::wO []::an y 254 [xL (dB s)]::SA s (iv f p v r d j m N M)::As)) (λt=>m8 R-t.1) (0,⟨eH,0,0⟩) m9 ⟨n4,by simpa using H2⟩ ?_;rintro⟨i,o⟩ h3 ⟨hi,H3⟩;dsimp only at*;refine ae (λe=>?_) (λe=>?_)
 .have ay:i<m8 R:=nb
  have G3:=hS.at [_,_,_,_] H3;refine G3.1.1.cQ (g:=qv) i m9 nb (D[i]'nb) m9 ?_;refine H3.alloc ag m9 λa8 h4 q=>?_;have q:=q.ba;refine q.storeAll ag 0 m9 m9 (qv (D[i]'nb)) m9 m9 m9 m9 λh5 E=>?_;refine⟨(D[i]'nb).1,(E.box 0 m9).cell0 m9,?_⟩;refine E.oQ.push ag 0 m9 adq m9 nq (λ_=>rfl) jQ (D[i]'nb).1 m9 nq n2 λo' h6 Y=>?_;refine⟨(i+1,o'),n3,⟨n1,?_⟩,n1⟩
  try dsimp only
  rw[aA D i,qE];exact Y
 have K:i=m8 R:=nb
 subst K;rw[qh nb]at H3;refine ak (λt:Nat×Sl×List Sl=>(t.2.1,(t.1:Int))) (λt h'=>t.1<=n/\t.2.2.length=(iE known t.1).length/\aa B h0 h' (ai 22 t.2.1 1 bv (D.map qC++t.2.2)::wO (t.2.2.zip (iE known t.1))::an y 254 [xL (dB s)]::SA s (iv f p v r d j m N M)::As)) (λt=>n-t.1) (0,o,[]) m9 ⟨nb,m9,by simpa using H3⟩ ?_;rintro⟨i,o,V⟩ h4 ⟨hi,A,q⟩;dsimp only at*;have a5:=Cm known i;refine ae (λe=>?_) (λe=>?_)
 .have ay:i<n:=nb
  have G4:=hS.at [_,_,_,_] q;refine G4.2.aW i m9 nb _ m9 ?_;have ap:known.getD i eR=known[i]'nb:=by rw[qg,qc nb];rfl
  have I:=IQ known i;rw[ap]at I;refine aS (λZ=>?_) (λZ=>?_)
  .rw[Z,hZ rfl]at I;refine q.lit ag av ge m9 [(i:Int)] m9 (show 1*1<=2^20 by decide) m9 λb h5 E=>?_;have E:=E.ba.freeze 0 m9 λ_=>rfl;have Y:=aa.aas E 2 0 nq m9 m9;refine Y.push ag 1 m9 adq m9 nq (λ_=>rfl) jQ b m9 nq n2 λo' h7 H7=>?_;refine⟨(i+1,o',V++[b]),n3,⟨n1,by dsimp only;rw[I];simp[A],?_⟩,n1⟩
   try dsimp only
   rw[I,xw A,<-ql];exact H7.oQ
  .rw[Z,k4 n4,qL]at I;exact⟨(i+1,o,V),n3,⟨n1,by dsimp only;rw[I];exact A,by dsimp only;rw[I];exact q⟩,n1⟩
 have K:i=n:=nb
 subst K;have G4:=hS.at [_,_,_,_] q;have O:(rowsOf R known i).length=m8 R+m8 V:=by rw[rowsOf,qo,qn,A]
 have X:gW h4 (λb=>b<h4.size) o 1 av (rowsOf R known i) (D.map qC++V):=by
  refine⟨q.seq 0 m9 λ_=>rfl,by rw[O];simp;omega,λk a l F T=>?_⟩;by_cases hk:k<m8 R
  .rw[qu n2,qM,qc nb]at F;rw[rowsOf,qu n2,qM,qc hk]at T;simp only[zl,z8.injEq]at F T;subst F;subst T;exact(Fix.row G4.1 hk).1
  .rw[qk n2]at F;rw[rowsOf,qk n2]at T;simp only[qn,L]at F T;have hm:(a,l)∈V.zip (iE known i):=by refine wR.2 ⟨k-m8 R,?_⟩;rw[yf];exact⟨F,T⟩
   exact(q.at 1 m9) _ hm
 rw[ab,a2];refine(Wq (i:Int) o (rowsOf R known i) _ h4 X nb ?_).mono ?_
 .intro x hx;rcases qw.1 hx with hx|hx
  .obtain⟨e,he,rfl⟩:=qI.1 hx;have:=a0 e he;omega
  .obtain⟨c,hc,rfl⟩:=qI.1 hx;simp
 rintro _ h5 ⟨Q,G,P,rfl,R5⟩;have ao:BV (i:Int) (rowsOf R known i)=((eP i (rowsOf R known i)).steps,(eP i (rowsOf R known i)).dead,fS (eP i (rowsOf R known i)).used (rowsOf R known i).length):=by unfold BV;rw[hZ z,qi]
 rw[ao]at R5;dsimp only at R5;have E:=((q.oQ).oQ).comp R5;refine⟨((Q,G,P),_),m9,?_⟩;have Y:=aa.front (As:=an y 254 [xL (dB s)]::SA s (iv f p v r d j m N M)::As) (Bs:=[_,_,_]) E;refine Y.alloc ag m9 λbb h7 H7=>?_;have H7:=H7.ba;refine H7.storeAll ag 0 m9 m9 [Q,G,P] m9 m9 m9 m9 λh8 H8=>?_;refine⟨Q,(H8.box 0 m9).cell0 m9,?_⟩;refine(ND Q _ 289 #[xL (dB y)] (λx=>decide (x.1>=(r.len:Int))) (λh'=>hU h' y=dB (xL (dB s))/\hU h' (s.add 5)=dB (xK r.ptr r.len r.cap)) m9 (St.mk' λh' W=>⟨(W.box 3 m9).cell0 m9,(W.box 4 m9).cell m9⟩) (λx h' hq=>Px s y r x h' hq) H8.nF al.1).Hf λw h9 H9=>⟨w,m9,?_⟩;refine H9.gO ag 1 m9 m9 [w] m9 m9 m9 n4 λa3 ad=>?_;refine⟨P,(ad.box 1 m9).cell m9,?_⟩;have am:=ad.aF 6 [3,0,1,2,4,5];refine(NC P _ 291 #[xL (dB y)] (λx=>decide (x>=(r.len:Int))) (λh'=>hU h' y=dB (xL (dB s))/\hU h' (s.add 5)=dB (xK r.ptr r.len r.cap)) m9 (St.mk' λh' W=>⟨(W.box 3 m9).cell0 m9,(W.box 4 m9).cell m9⟩) (λx h' hq=>Py s y r x h' hq) am al.2).Hf λu a4 ax=>⟨u,m9,?_⟩;refine ax.store ag 2 m9 m9 2 [u] m9 m9 m9 n4 λa6 J=>?_;refine⟨dB s,(J.box 4 m9).cell0 m9,(w,G,u),(J.box 2 m9).aw _ m9,s,m9,?_⟩;refine J.store ag 5 m9 m9 6 [w,G,u] m9 m9 m9 A0 λa7 U=>⟨m9,w,G,u,?_⟩
 have e1:(λx:Int×Int=>!decide (x.1>=(r.len:Int)))=λx=>decide (x.1<(m8 R:Int)):=by
  funext x;rw[ah,L];by_cases h:x.1<(m8 R:Int)
  .rw[ln h,m5 nb];rfl
  .rw[m5 h,ln nb];rfl
 have Z:(λx:Int=>!decide (x>=(r.len:Int)))=λx=>decide (x<(m8 R:Int)):=by
  funext x;rw[ah,L];by_cases h:x<(m8 R:Int)
  .rw[ln h,m5 nb];rfl
  .rw[m5 h,ln nb];rfl
 rw[e1,Z]at U;exact U.aF 6 [5,1,3,0]
theorem xU{l:Row}:¬ic l<m8 l↔l=aN l.length:=by
 rw[ic,ya];constructor
 .intro h;refine vg.2 ⟨m9,λx b=>?_⟩;by_cases a:x=0
  .exact a
  .exact absurd ⟨x,b,A8⟩ h
 .rintro h ⟨x,b,a⟩;have:=(vg.1 h).2 x b;subst this;simp at a
theorem PA(f:fY)(a b:Sl)(A B:aO)(m n w:Nat)(h:hY)(hf:io h f)(ha:eF h a 1 aq A)(hb:eF h b 1 aq B)(hl:m8 A=m)(bk:m8 B=m)(q:aU n A)(hB:aU w B)(br:1<=n)(hn:n+w<=64)(hm:m<=2^20)(hr:cz A=n):
  aj xT 230 #[xL (dB f),a,b] h λv h'=>(jk n A B/\∃r:Sl,v=.tuple #[r,xJ xP 0]/\Sp h h' [dE 41 r 1 aq (eU n A B)])∨(¬jk n A B/\v=.tuple #[xK eH 0 0,xJ xP 10]/\Sp h h' []):=by
 have bq:n<=m:=by have:=mN A q;omega
 have d:m8 B=m8 A:=nb
 have ao:=ha.len;have S:=hb.len;refine ts Tryz.func230 ?_ (F8 (G0 [] [(6,8),(17,37)] (F8 (F8 (E5 (F8 (E7 (E8 [(43,aI)] [(10,11),(43,59)] E6))) (F8 (F8 (E5 (F8 (E7 (E8 [(71,aI)] [(6,8),(13,14),(71,79)] E6))) (F8 (F9 [(14,bJ),(83,aI)] [(14,15),(16,17),(83,95)]))))))))));refine aE ?_;refine(mU a A n h ha q).mono ?_;rintro v N ⟨rfl,rfl⟩;refine⟨_,m9,aH (λe=>n5) λ_=>?_⟩;refine(mU b B w N hb hB).mono ?_;rintro v U ⟨rfl,rfl⟩;refine⟨_,m9,aH (λe=>n5) λ_=>?_⟩;refine bm (λe=>absurd (by rw[ao,S,d]) e) λ_=>?_;refine aZ (λe=>nb) λ_=>?_;refine(pX a A U ha).mono ?_;rintro v h3 ⟨rfl,rfl⟩;have ax:eI A=n:=by
  cases A with
  |nil=>simp at hl;omega
  |cons x t=>rw[eI,be n4];exact q _ n4
 refine⟨_,m9,?_⟩;rw[ax];refine(uw a A n h3 ha q).mono ?_;rintro v h4 ⟨r,rs,rfl,a9,R4⟩;refine⟨r,m9,?_⟩;have a6:=(R4.own 0 m9).len;refine ak (λt:Nat×List Sl=>(t.1:Int)) (λt h'=>t.1<=m/\t.2.length=m/\Sp h3 h' (kX r t.2 (oE A B t.1))) (λt=>m-t.1) (0,rs) m9 ⟨n4,n1,by simpa[oE,eO]using R4⟩ ?_;rintro⟨k,rs⟩ h5 ⟨hk,bb,K⟩;dsimp only at*;have L:m8 rs=(oE A B k).length:=A3
 refine ae (λe=>?_) (λe=>?_)
 .have X:k<m:=nb
  have O:k<m8 A:=nb
  have F:=lK (a:=r) L k A3;have eg:(oE A B k)[k]'(by rw[rV d];omega)=A[k]:=by have:=VL d O;rw[qc A3]at this;exact z8.inj this
  rw[eg]at F;have l1:A[k].length=n:=q _ (qe _);have l2:(B[k]'nb).length=w:=hB _ (qe _);refine(K.seq 0 m9 λ_=>rfl).dR k m9 nb λa1 P V=>?_;refine(hb.up K.ac).get k m9 nb λrb al=>?_;refine K.append ag (k+1) F cR uy m9 nq (λ_=>rfl) al cH nb λs6 h6 H6=>⟨I0,?_⟩
  refine H6.set ag 0 m9 (λ_=>rfl) m9 k m9 nb s6 m9 m9 m9 λh7 H7=>⟨I0,?_⟩
  refine⟨(k+1,rs.set k s6),n3,⟨n1,qb,?_⟩,n1⟩
  try dsimp only
  rw[<-VM d O];show Sp h3 h7 (ai 41 r 1 bv (rs.set k s6)::bt 5 1 aq (rs.set k s6) ((oE A B k).set k _));rw[<-jF L];exact H7
 .have a2:k=m8 A:=nb
  subst a2;rw[VN d]at K;refine(sA f h5).mono ?_;rintro v h6 ⟨rfl,rfl⟩;refine⟨dB f,m9,?_⟩;have ab:=lQ d.symm q hB;have b2:=lE d.symm;refine(Ao (m:=eO A B) (n:=n+w) hf hf.lt nb ab nb nb nb K).mono ?_;rintro v h7 ⟨l,rfl,a5,u⟩;rw[ug d.symm q,hr];refine⟨_,m9,?_⟩
  try dsimp only
  have G:=(u.own 0 m9).cap;have b0:=(u.own 0 m9).len;have U:=fV ab n;refine ae (λe=>absurd (show(n:Int)<(n:Int)from e) nb) λ_=>?_;refine⟨⟨ze _,wC.2 (show n<=r.len by omega)⟩,?_⟩;obtain⟨M,Y⟩:=HF ((aY (eO A B) n).2)
  have a8:m8 M=m8 A:=by have:=U.2;rw[<-Y]at this;omega
  have W:aU (n+w) M:=by rw[Y];exact U.1
  rw[<-Y]at u;have J:m8 l=m8 M:=nb
  have p:jk n A B↔∀i (Q:i<m8 M),n<=i->M[i]=aN M[i].length:=by
   unfold jk;rw[<-Y];constructor
   .intro Z i Q hn;refine Z _ (wR.2 ⟨i-n,?_⟩);rw[wJ,show n+(i-n)=i by omega,qc Q]
   .intro Z x hx;obtain⟨i,Q,rfl⟩:=qD hx;simp only[qH]at Q;rw[zM];exact Z _ nb nb
  refine ak (λi:Nat=>(i:Int)) (λi h'=>h'=h7/\n+i<=m8 M/\∀j (hj:j<m8 M),n<=j->j<n+i->M[j]=aN M[j].length) (λi=>m8 M-(n+i)) 0 m9 ⟨m9,nb,λj _ _ _=>nb⟩ ?_;rintro i h8 ⟨rfl,Q,o⟩;rw[qi];refine ae (λe=>?_) (λe=>?_)
  .have g:n+i<m8 M:=nb
   have F:=lK (a:=r) J (n+i) nb;have a3:(M[n+i]'g).length=n+w:=W _ (qe _);have D:=u.seq (n+i+1) F λ_=>rfl;have z:=(u.seq 0 m9 λ_=>rfl).drop n G;have ap:(l.drop n)[i]'(by simp;omega)=l[n+i]'nb:=zM;refine z.dR i m9 n2 λa1 P V=>?_;rw[ap];refine(Wc _ _ h8 D nb).mono ?_;rintro _ h9 ⟨rfl,rfl⟩;refine⟨_,m9,ae (λT=>?_) λT=>?_⟩
   .right;have E:ic (M[n+i]'g)<(M[n+i]'g).length:=by
     by_cases hh:ic (M[n+i]'g)<(M[n+i]'g).length
     .exact hh
     .rw[k4 hh]at T;exact absurd T nq
    refine⟨λZ=>?_,m9,.zip u.ac⟩;have:=p.1 Z (n+i) g nb;exact absurd E (xU.2 this)
   .have E:¬ic (M[n+i]'g)<(M[n+i]'g).length:=λhh=>by
     rw[hZ hh]at T;exact T (ze _)
    refine⟨i+1,n7,⟨m9,nb,λj hj N U=>?_⟩,nb⟩;by_cases a0:j=n+i
    .subst a0;exact xU.1 E
    .exact o j hj N nb
  refine⟨⟨ze _,wC.2 (show n<=r.cap by omega)⟩,?_⟩;have y:jk n A B:=p.2 λj hj N=>o j hj N nb;have e1:eU n A B=(M.take n).map (wS n):=by rw[eU,<-Y]
  have R:∀k (hk:k<n),(eU n A B).take (k+1)=(eU n A B).take k++[(M[k]'nb).drop n]:=λk hk=>by
   rw[e1,aA _ _ n2,zw,zH]
  have bl:(eU n A B).length=n:=(pQ d.symm q hB hr).1;refine ak (λt:Sl×Nat=>(t.1,(t.2:Int))) (λt h'=>t.2<=n/\Sp h8 h' [dE 41 t.1 1 aq ((eU n A B).take t.2)]) (λt=>n-t.2) (⟨eH,0,0⟩,0) m9 ⟨n4,(Sp.refl h8).sK 41 1 aq⟩ ?_;rintro⟨s,k⟩ h9 ⟨bd,H9⟩;dsimp only at*;have HH:=u.comp H9;refine ae (λe=>?_) (λe=>?_)
  .have X:k<n:=nb
   have F:=lK (a:=r) J k nb;have H:(kX r l M++[dE 41 s 1 aq ((eU n A B).take k)])[k+1]?=dB (ai 5 (l[k]'nb) 1 aq (M[k]'nb)):=by rw[qu (by simp[bt];omega)];exact F
   have a3:(M[k]'nb).length=n+w:=W _ (qe _);have I:=HH.own (k+1) H;have D:=HH.seq (k+1) H λ_=>rfl;have a4:=I.len;have z:=(HH.seq 0 m9 λ_=>rfl).take n nb;have am:(l.take n)[k]'(by simp;omega)=l[k]'nb:=zH;refine z.dR k m9 n2 λa1 P V=>?_;rw[am];refine⟨⟨ze _,wC.2 nb⟩,?_⟩;refine(fW _ _ h9 (D.drop n I.cap) n2).Hf λc a7 ah=>?_;have ay:=(H9.comp ah).freeze 1 m9 λ_=>rfl;refine⟨c,m9,?_⟩;refine ay.jM ag 0 1 nq m9 m9 cO n2 λs' b1 ad=>?_;refine⟨(s',k+1),n3,⟨n1,?_⟩,n1⟩
   try dsimp only
   rw[R k X];exact ad.del 1
  .rw[qh nb]at H9;refine .inl ⟨y,s,m9,?_⟩;have:=(Sp.zip u.ac).comp H9;exact this
theorem NE:∀{l:aC},l.Pairwise (·<·)->fM l=eL
 |[],_=>rfl
 |[_],_=>rfl
 |a::b::r,h=>by
  rw[List.pairwise_cons]at h;rw[fM,NE h.2,ln (h.1 b n4)];rfl
theorem TA{l:aC}(h:l.Pairwise (·<·)):Jd l:=λi a=>List.pairwise_iff_getElem.1 h i (i+1) nb a nb
theorem TB{n:Nat}{R:List fp}{known:List Bool}(h:n<=64)(f:∀e∈R,(∀c∈e.1,0<=c/\c<(n:Int))/\e.1.Pairwise (·<·)):jP (n:Int) (rowsOf R known n)=eL:=by
 unfold jP;rw[qz];refine⟨n2,qQ.2 λr a=>?_⟩;unfold fN;rw[qz];rcases qw.1 a with a|a
 .obtain⟨e,b,rfl⟩:=qI.1 a;exact⟨qQ.2 λc g=>n8,NE (f e b).2⟩
 .obtain⟨d,rfl,i,_⟩:=vi a;exact⟨n8,m9⟩
theorem aa.ads{e:Nat}{v:Sl}{vs:aO}(H:aa B h0 h As)(i:Nat)(r:As[i]?=dB (dP e v 1 bv (sq 1 aq) vs)):
  ∃f:List Sl,aa B h0 h (As.set i (ai e v 1 bv f)++[fT (f.zip vs)])/\f.length=m8 vs/\∀(c:Nat) (m:c<m8 f) (n:c<m8 vs),f[c].ptr.isNone=vs[c].isEmpty:=by
 have g:i<m8 As:=(qm.1 r).1;have s:aa B h0 h (As.set i (HP.ex λf:List Sl=>((ai e v 1 bv f).sep (fT (f.zip vs))).and (m8 f=m8 vs/\∀(c:Nat) (m:c<m8 f) (n:c<m8 vs),f[c].ptr.isNone=vs[c].isEmpty))):=
  H.dY i r λq ⟨rs,w,a,b,c,d,e⟩=>⟨rs,⟨λb=>v.on b,w,λx j=>(b x j).2,λx j=>(b x j).1,c,⟨a,λx j=>j⟩,λx j=>by
   obtain⟨k,u,l⟩:=qD j;simp only[List.length_zip]at u;rw[yl]at l;subst l;exact(e k _ _ (qc nb) (qc nb)).1⟩,d,λk m n=>by
   obtain⟨x,y⟩:=e k _ _ (qc m) (qc n);cases hv:vs[k]with
   |nil=>grind
   |cons z t=>
    have:=x.isSome n8
    grind⟩
 obtain⟨f,o⟩:=s.Lg i (zJ g);rw[yY]at o;have D:=o.fact i (zJ g);have p:=o.ZK i (zJ g);rw[yY]at p;have A:=p.split i (zJ g);rw[yY]at A
 grind
def yv(x:Int×Sl):aR:=[xJ xP x.1,x.2]
def aex:jq (Int×Sl) (Int×Row):=⟨λh q a b=>a.1=b.1/\Seq h q a.2 1 aq b.2,λa d=>⟨a.1,a.2.ac d⟩,λa c=>⟨a.1,a.2.mono c⟩⟩
abbrev BW:jq Sl (List (Int×Row)):=ce aex 2 yv
theorem TC{a:List Sl}{vs:aO}(h:m8 a=m8 vs)(pl:List (Sl×Row))(d:∀x∈a.zip vs,x∈pl):bZ pl id a vs:=
 ⟨h,λi r l c b=>d _ (wR.2 ⟨i,by rw[yf];exact⟨c,b⟩⟩)⟩
theorem NG{α β:Type}:∀(a:List α) (x:α) (l:List β) (h:m8 a<m8 l),(a++[x]).zip l=a.zip l++[(x,l[m8 a])]
 |[],x,b::l,_=>n4
 |c::a,x,b::l,h=>by
  have:=NG a x l p5;simp[this]
def aat(h h':hY)(v:Value)(n:Nat)(A a:aO):Prop:=
 (jk n A a/\∃r:Sl,v=.tuple #[r,xJ xP 0]/\Sp h h' [MA r (eU n A a)])∨(¬jk n A a/\v=.tuple #[xK eH 0 0,xJ xP 10]/\Sp h h' [])
theorem YU(p:Pm)(seed:Int)(l:Sl)(d:List (Int×Row))(n w:Nat)(h:hY)(hl:fm BW h l d)(z:bH p=eL)(b1:∀x∈d,EC p x)(hn:(bD p).toNat=n)(hw:p.2.2.toNat=w)(ep:m8 d<=2^18)(hr:cz (eM p seed (d.map qC))=n):
  aj xT 165 #[gx p,xJ xR seed,l] h λv h'=>aat h h' v n (eM p seed (d.map qC)) (mQ p d):=by
 refine ts Tryz.func165 ?_ (F8 (.fwd (F8 (E5 (F8 (E7 (E8 [(8,bJ),(23,aI)] [(8,9),(10,11),(23,39)] E6))) (G0 [(11,QG)] [(11,12),(39,43)] E6))) [(0,[E6]),(1,[(.two (.two E6 (.inn (.loop [(95,aI)] [(20,21),(95,104)] E6))) E6)]),(2,[E6])])) [(5,(.l [0,1,2,3,4,6,7,5,8,9,10,11])),(7,(.l [1,0,2,3,4]))] (args:=[p,(xJ xR (seed:Int)),l]);have eh:=(bI p).1 z;have d1:bD p=n:=by rw[<-hn];have:=pP z;omega
 have cq:n=p.1.toNat+p.2.1.toNat:=by rw[<-hn,pP z];omega
 have c0:p.2.2=(w:Int):=nb
 have cn:1<=n:=nb
 have ca:n<=20:=nb
 obtain⟨U,ed,el,cp⟩:=ce.kZ hl;have ej:=ce.len hl;let m:List fp:=sS n seed d;have eg:m8 m=m8 d:=by simp[m,sS]
 have H:=acA (seed:=seed) cn ca b1 hw;let y:Nat->cV:=λi=>(d.take i).map λx=>eG n seed x.1;have ab:∀x:Int×Row,x∈d->(bH p&&bR x.1)=eL:=λx hx=>by rw[z,(b1 x hx).id];rfl
 refine(Sp.refl h).boxed λa1 P H1=>?_;have c4:=((aa.Wz H1).nil 253 2 qv).bs [2,1,0];refine ak (λt:Nat×Sl×List Sl=>(t.2.1,(t.1:Int))) (λt h'=>t.1<=m8 d/\t.2.2.length=t.1/\Sp h h' [ai 253 t.2.1 2 qv (t.2.2.zip (U.map zg)),wO (t.2.2.zip (y t.1)),an a1 24 [xJ xP p.1,xJ xP p.2.1,xJ xP p.2.2]]) (λt=>m8 d-t.1) (0,⟨eH,0,0⟩,[]) m9 ⟨n4,m9,c4⟩ ?_;rintro⟨i,o,cr⟩ h2 ⟨hi,bq,H2⟩;dsimp only at*;have ci:(y i).length=i:=by simp[y];omega
 refine ae (λe=>?_) (λe=>?_)
 .have V:i<m8 d:=nb
  obtain⟨y1,y2⟩:=cp i nb V;refine(Seq.up ed H2.ac).cQ (g:=yv) i m9 nb (U[i]'nb) m9 ?_;refine H2.alloc ag m9 λa5 h3 H3=>?_;refine H3.storeAll ag 3 m9 m9 (yv (U[i]'nb)) m9 m9 m9 m9 λh4 N=>?_;refine⟨p,(N.box 2 m9).aw _ m9,(U[i]'nb).1,(N.box 3 m9).cell0 m9,(U[i]'nb).2,(N.box 3 m9).cell m9,?_⟩;refine(wn p seed (U[i]'nb).1 h4).Hf λr h5 R5=>?_;rw[y1,ab _ (qe V),hZ rfl,hn]at R5;have H5:=(N.comp R5).freeze 4 m9 λ_=>rfl;refine⟨r,m9,⟨(H5.box 3 m9).cell m9,I0⟩,?_⟩;have H6:=aa.aas H5 1 4 nq m9 m9;have d9:=H6.box 3 m9;refine H6.ko ag qv eQ m9 [(r,(U[i]'nb).2)] m9 (show 1*2<=2^20 by decide) m9 ⟨d9.cell m9,I0⟩ ?_;refine H6.push ag 0 m9 eQ m9 nq (λ_=>rfl) We (r,(U[i]'nb).2) m9 nq n2 λo' h7 H7=>?_;refine⟨⟨(H7.box 3 m9).cell m9,I0⟩,?_⟩;refine⟨(i+1,o',cr++[r]),n3,⟨n1,by simp[bq],?_⟩,n1⟩
  try dsimp only
  have e1:y (i+1)=y i++[eG n seed d[i].1]:=by simp only[y];rw[aA _ _ V,qE];rfl
  have e2:(cr++[r]).zip (U.map zg)=cr.zip (U.map zg)++[(r,(U[i]'nb).2)]:=by rw[NG cr r (U.map zg) n2,zw];simp only[bq]
  rw[e1,e2,xw (by rw[bq,ci])];exact H7.bs [0,1,2]
 have dy:i=m8 d:=nb
 subst dy;have ef:y d.length=d.map λx=>eG n seed x.1:=by simp only[y];rw[qt]
 rw[ef]at H2;have d0:∀{h':hY},(∀x∈cr.zip (d.map λx=>eG n seed x.1),Qw.Seq h' (λb=>b<h'.size) x.1 1 av x.2)->aQ (λb=>b<h.size) h h'->Qw.Seq h' (λb=>b<h'.size) o 2 qv (cr.zip (U.map zg))->fm pu h' o m:=λ{h'} hp hpr hs=>by
  refine⟨_,hs,by simp[m,sS];omega,λk a b P h2=>?_⟩;have hk:k<m8 d:=by have:=(qm.1 h2).1;omega
  rw[qc n2,yl,zw]at P;have e2:m[k]?=dB (eG n seed d[k].1,d[k].2):=by simp[m,sS,hk]
  rw[e2]at h2;simp only[z8.injEq]at P h2;subst P;subst h2;refine⟨hp (cr[k]'nb,eG n seed d[k].1) (wR.2 ⟨k,?_⟩),Seq.up (cp k nb hk).2 hpr⟩;rw[yf];exact⟨qc _,by simp[hk]⟩
 refine bn (λs h'=>∃(ao f:fY),s=dB ao/\Sp h h' [SA ao (iv f p ⟨eH,0,0⟩ ⟨eH,0,0⟩ ⟨eH,0,0⟩ ⟨eH,0,0⟩ ⟨eH,0,0⟩ ⟨eH,0,0⟩ ⟨eH,0,0⟩),ai 253 o 2 qv (cr.zip (U.map zg)),wO (cr.zip (d.map λx=>eG n seed x.1)),an a1 24 [xJ xP p.1,xJ xP p.2.1,xJ xP p.2.2],an f 316 eW]) ?_ ?_
 .refine⟨p,(H2.box 2 m9).aw _ m9,(sX h2).Hf λf h3 R3=>?_⟩;have H3:=H2.comp R3;refine⟨dB f,m9,⟨(H3.box 2 m9).cell0 m9,(H3.box 2 m9).cell m9,(H3.box 2 m9).cell m9,I0⟩,?_⟩;refine H3.boxed λao h4 N=>?_;exact⟨⟨(N.box 2 m9).cell0 m9,(N.box 2 m9).cell m9,(N.box 2 m9).cell m9,I0⟩,ao,f,m9,N.bs [4,0,1,2,3]⟩
 rintro _ h3 ⟨s,f,rfl,H3⟩;refine⟨p,(H3.box 3 m9).aw _ m9,(mj p h3).G7 λh4 R4=>?_⟩;have N:=H3.up R4.ac;refine⟨_,m9,?_⟩;rw[d1];have d3:fm pu h4 o m:=d0 (N.at 2 m9) N.ac (N.seq 1 m9 λ_=>rfl);have cy:∀e∈m,m8 e.1<=2^20:=λe F=>by
  obtain⟨x,hx,rfl⟩:=qI.1 F;have:=mK cn ca seed x.1;dsimp only;omega
 refine(Wj o m n w h4 d3 (λe F=>⟨(H e F).1,TA (H e F).2⟩) nb nb ⟨nb,nb⟩ cy).mono ?_;have hA:aU n (bA p.1.toNat p.2.1.toNat):=by rw[cq];exact GS _ _
 have eA:=Sx (seed:=seed) z hn b1;have eB:=Sy (seed:=seed) (n:=n) (p:=p) (l:=d) hw;rw[<-eA]at hr⊢;rw[<-eB];rintro _ h5 ⟨known,vals,hI,⟨ab,rfl,R5⟩|⟨ab,k,v,rs,rfl,R5⟩⟩
 .refine⟨(⟨eH,0,0⟩,⟨eH,0,0⟩,⟨eH,0,0⟩,10),m9,bm (λ_=>?_) λe=>absurd e nq⟩;exact .inr ⟨US (λe F=>(H e F).1) hA hI ab hr,m9,(N.up R5.ac).bs []⟩
 refine⟨(k,v,rs,0),m9,bm (λe=>absurd m9 e) λ_=>?_⟩;have S:=Yb (λe F=>(H e F).1) hA hI ab;have G:=JN (λe F=>(H e F).1) hI;obtain⟨f1,f2,f3,f4,f5⟩:=Ha (λe F=>(H e F).1) hI;have K:=oB hI λe F=>(H e F).1;have bd:=aaN (known:=known) (vals:=vals) λe F=>(H e F).2;have ea:=UT (l:=m) (known:=known) (vals:=vals);have a0:=UU (known:=known) (vals:=vals) cy;have b5:=hI.vlen;have ec:=hI.klen;unfold Lj at S;obtain⟨R,a4⟩:=HF (aX known vals m)
 change gV n w m _ known vals _ _ _ _ at S;rw[<-a4]at S G f1 f2 f3 f4 f5 K bd ea a0 R5;obtain⟨Y,H6,eb,b7⟩:=aa.ads (N.comp R5) 6 rfl;obtain⟨rr,H7⟩:=aa.FI H6 7 rfl λ_=>rfl;have H8:=aa.abj H7 8 m9;have H9:=aa.bs H8 [0,8,6,7,5,4];have b3:v.len=n:=by rw[(H9.own 2 m9).len];omega
 have hk:∀(c:Nat) (Z:c<m8 Y),Y[c].ptr.isNone=!(known.getD c eR):=λc Z=>by
  rw[b7 c Z nb];have P:=hI.row c nb;rw[mA (show c<m8 vals by omega)]at P;cases hkn:known.getD c eR with
  |true=>
   rw[hkn,hZ rfl]at P;cases hv:vals[c]'nb with
   |nil=>rw[hv]at P;simp at P;omega
   |cons x t=>rfl
  |false=>
   rw[hkn,k4 n4]at P;rw[yw.1 P];rfl
 refine⟨s,m9,H9.store ag 0 m9 m9 4 [v] m9 m9 m9 A0 λh6 d5=>?_⟩;refine⟨s,m9,d5.store ag 0 m9 m9 5 [rs] m9 m9 m9 A0 λh7 c7=>?_⟩;have cs:=TB (known:=known) (n:=n) nb λe F=>⟨(K e F).df,bd e F⟩
 have am:=uj (rows:=rowsOf R known n) (n:=n) (by rw[a4];exact tv (a4▸K));have eq:(rowsOf R known n).length<=m8 R+n:=by rw[rowsOf,qo,qn];have:=Cm known n;omega
 refine(Pz s f p v rs _ _ _ _ _ k rr R known n (As:=[fT ((⟨eH,0,0⟩,[])::Y.zip vals),HA v Y,cB kl 2 qv rs rr R,ai 4 k 1 fw known,an f 316 eW]) c7 (St.mk' λh' H'=>⟨H'.dv 2 m9,H'.seq 3 m9 λ_=>rfl⟩) ec nb nb a0 cs ⟨by have:=am.1;omega,by have:=EB (eP n (rowsOf R known n)).used (rowsOf R known n).length;omega⟩).G7 λh8 ⟨st,dd,lf,d6⟩=>⟨(),m9,?_⟩;obtain⟨D,hD⟩:=HF ((gQ R known n).dead)
 obtain⟨ST,bl⟩:=HF (nj R known n)
 obtain⟨L,hL⟩:=HF (Qw.leftOf R known n)
 have ds:Sp h h8 (SA s (iv f p v rs st dd lf ⟨eH,0,0⟩ ⟨eH,0,0⟩)::fT ((⟨eH,0,0⟩,[])::Y.zip vals)::[HA v Y,ai 326 st 2 gh ST,ai 3 dd 1 av D,ai 3 lf 1 av L,cB kl 2 qv rs rr R,an f 316 eW]):=by rw[hD,bl,hL];exact aa.bs d6 [0,4,5,1,2,3,6,8]
 rw[<-hD]at S G f1 f2 f3 f5;rw[<-bl]at S G;rw[<-hL]at S f4;have cc:m8 ST<=2^20:=by rw[bl,nj,gQ];have:=qK (λx:Int×Int=>decide (x.1<m8 R)) (eP n (rowsOf R known n)).steps;have:=am.1;omega
 have eo:m8 L<=2^20-2^10:=by rw[hL,Qw.leftOf,gQ];have:=qK (λx:Int=>decide (x<m8 R)) (fS (eP n (rowsOf R known n)).used (rowsOf R known n).length);have:=EB (eP n (rowsOf R known n)).used (rowsOf R known n).length;omega
 have B:St (λb=>b<h.size) h [HA v Y,ai 326 st 2 gh ST,ai 3 dd 1 av D,ai 3 lf 1 av L,cB kl 2 qv rs rr R,an f 316 eW] λh=>Tt h f rs st dd lf rr R ST D L:=
  St.mk' λh' H'=>⟨H'.box 5 m9,H'.dv 4 m9,H'.seq 1 m9 λ_=>rfl,H'.seq 2 m9 λ_=>rfl,H'.seq 3 m9 λ_=>rfl⟩
 refine(Tv s f p v rs st dd lf _ _ rr R ST D L n D.length w _ ds B b3 nb c0 nb m9 nb K f1 f2 G cc a0 n4).G7 λh9 ⟨wa,mo,wr,mr,pl,b6,ap⟩=>⟨(),m9,?_⟩;have du:=(B.at [_,_,_,_] b6).dead.len;generalize en:ST.foldl (ie R D.length) (gc n D.length w D)=S0 at ap S;have c9:m8 S0.1=n:=by have:=S.lens.1;simpa[iK]using this
 have c5:m8 S0.2=n:=by have:=S.lens.2.1;simpa[iK]using this
 have hV:bZ pl id Y vals:=TC eb pl λx hx=>ap.sub x (qp _ hx);refine(Wv s f p v rs st dd lf wa mo Y wr mr pl known vals S0.1 S0.2 n D.length b6 nb du nb ⟨λ_ h=>h,ap.way,ap.more⟩ hV b5 c9 c5 hk).G7 λek ⟨ax,a9,al,d2,O⟩=>⟨(),m9,?_⟩;obtain⟨W,hW⟩:=HF ((iK D.length known vals S0).1)
 obtain⟨M,hM⟩:=HF ((iK D.length known vals S0).2)
 change mu pl al ax a9 (iK D.length known vals S0).1 (iK D.length known vals S0).2 at O;rw[<-hW,<-hM]at O S;have u:=S.lens;refine(Tx s f p v rs st dd lf wa mo ax a9 al rr R ST D L W M n D.length w d2 B cq c0 nb z m9 nb K a0 f4 nb ⟨λ_ h=>h,O.way,O.more⟩ u.1 u.2.1 u.2.2).mono ?_;rintro _ bb ⟨a,b,rfl,a3⟩;refine⟨(a,b),m9,s,m9,dd,show hU bb (s.add 7)=_ from(a3.box 2 m9).cell m9,?_⟩;have d8:bZ al id Y vals:=hV.mono O.sub;obtain⟨e1,e2⟩:=oZ S;have T:=uZ (n:=n) (w:=w) (ahead:=bA p.1.toNat p.2.1.toNat) (l:=m) (known:=known) (vals:=vals) (dead:=D) (left:=L) (W:=W) (M:=M);have a6:∀{X:aO},_->_:=λ{X} hs=>S.QB hr (D:=X) hs;have a7:=S.QC hr;have a8:=S.Sz nb hr;have a2:=S.IL nb hr;rw[<-a4]at e1 e2 T a6 a7 a8 a2;obtain⟨dA,cd⟩:=HF (dJ n D.length R W L (bA p.1.toNat p.2.1.toNat))
 obtain⟨I,c8⟩:=HF (fJ n w R M L (bA p.1.toNat p.2.1.toNat))
 rw[<-cd]at e1 T a6 a7 a8 a2 a3;rw[<-c8]at e2 T a6 a7 a8 a3;have dk:m8 dA=m8 L+p.2.1.toNat:=by rw[cd];simp[dJ,bA]
 have bk:∀{h':hY} {pre:List HP} {dead:Sl} {dr:List Sl} {X:aO} {Q:HP},Sp h h' (Told s f p v rs st dd lf wa mo ax a9 al++HA v Y::[ai 326 st 2 gh ST,ai 3 dd 1 av D,ai 3 lf 1 av L,cB kl 2 qv rs rr R,an f 316 eW,Q])->(∀h',Q.p h' (λb=>b<h'.size)->gW h' (λb=>b<h'.size) dead 1 aq X dr)->jr D.length w dA I X->
   aj xT 232 #[xL (dB s),dead] h' λv' ah=>v'=.tuple #[]/\hU ah (s.add 4)=dB (xK v.ptr v.len v.cap)/\aat h ah (.tuple #[v,xJ xP 0]) n (dL n m (bA p.1.toNat p.2.1.toNat)) (iG w m (bA p.1.toNat p.2.1.toNat)):=by
  intro h' pre dead dr X Q H' hQ hs;refine(Wx s f p v rs st dd lf wa mo dead Y ax a9 dr al known vals W M X n D.length w H' (St.mk' λah ad=>⟨ad.box 4 m9,hQ ah (ad.at 5 m9)⟩) nb nb nb ⟨λ_ h=>h,O.way,O.more⟩ d8 b5 u.1 u.2.1 u.2.2 hs.1 hs.2.1 hk).G7 λah ⟨es,ei,ad,ip⟩=>⟨m9,(ad.box 0 m9).cell m9,?_⟩;obtain⟨c1,c2⟩:=a6 hs;refine .inl ⟨c1,v,m9,?_⟩;rw[<-c2];exact(ad.rc 4 3 nq m9 m9 ip.1 λk r l P h2=>ip.2 k r l P h2).bs [4]
 have J:=a3;have cu:=J.eRd 1 m9 λ_=>rfl;have cb:eF bb b 1 aq I:=ce.toeF (by
  have:=ce.impl (α':=Sl) (E:=NB) (E':=iR 1 aq) id (λ{h q a b} (hx:NB.p h q a b)=>hx.1) cu
  rwa [List.map_id]at this)
 have d4:=cb.len;refine aZ (λe0=>?_) (λe0=>?_)
 .have b9:m8 D=0:=nb
  obtain⟨br,q1,q2,q3⟩:=ce.kZ cu;refine ak (λi:Nat=>(i:Int)) (λi h'=>h'=bb/\i<=m8 I/\∀j (hj:j<m8 I),j<i->I[j]=aN w) (λi=>m8 I-i) 0 m9 ⟨m9,nb,λj _ hj=>nb⟩ ?_;rintro i ay ⟨rfl,hi,hz⟩;have b0:jr D.length w dA I []↔∀r∈I,r=aN w:=by rw[b9];exact Hb T
  refine ae (λe=>?_) (λe=>?_)
  .have V:i<m8 I:=by have e':(i:Int)<(b.len:Int):=e;omega
   obtain⟨y1,y2⟩:=q3 i nb V;have da:I[i].length=w:=e2 _ (qe _);refine q1.ly i m9 nb ?_;refine(Ko (br[i]'nb) I[i] _ m9 ay y1 y2 nb).mono ?_;rintro _ cf ⟨⟨t,rfl,ht⟩,rfl⟩;refine⟨t,m9,ae (λe3=>?_) λe3=>?_⟩
   .refine .inr ⟨λZ=>?_,m9,J.bs []⟩;have b4:=a7 Z;have dx:D=[]:=yw.1 b9;rw[dx]at b4;have:=(Hb T).1 b4 _ (qe V);have h0:t.len=0:=ht.2 λx hx=>by rw[this]at hx;exact(yk.1 hx).2
    omega
   .have h0:t.len=0:=nb
    refine⟨i+1,n7,⟨m9,nb,λj hj er=>?_⟩,nb⟩;by_cases hh:j=i
    .subst hh;exact vg.2 ⟨da,ht.1 h0⟩
    .exact hz j hj nb
  .have hs:jr D.length w dA I []:=b0.2 λr hr=>by
    obtain⟨j,hj,rfl⟩:=qD hr;have e':¬(i:Int)<(b.len:Int):=e;exact hz j hj nb
   have b2:=aa.comp (J.bs [2,3,4,5,6,7,8,9,10,11]) (Sp.one (h:=ay) (h':=ay) (A:=emp) (aQ.refl _ _) I0);refine(bk (pre:=[]) (dead:=⟨eH,0,0⟩) (dr:=[]) (X:=[]) (Q:=emp) ?_ (λh' _=>⟨Seq.nil _ _ _ _ _ _,m9,λk r l P _=>by cases P⟩) hs).mono ?_
   .exact b2
   .rintro _ cf ⟨rfl,Z,hm⟩;exact⟨(),m9,s,m9,v,Z,hm⟩
 .have c6:1<=m8 D:=nb
  refine⟨s,m9,dB f,(J.box 2 m9).cell0 m9,?_⟩;refine(PA f a b dA I dA.length D.length w bb (J.box 11 m9) (J.oL 0 m9) cb m9 T.symm e1 e2 c6 nb nb a2).mono ?_;rintro _ ay (⟨Z,r,rfl,R12⟩|⟨Z,rfl,R12⟩)
  .refine⟨(r,0),m9,bm (λe=>absurd m9 e) λ_=>?_⟩;have b2:=(J.comp R12).Sb 12 m9;obtain⟨dr,d7⟩:=aa.FI b2 12 rfl λ_=>rfl;have hs:=sO T e1 e2 a2 Z;refine(bk (pre:=[]) (dead:=r) (dr:=dr) (X:=eU D.length dA I) (Q:=cB (iR 1 aq) 1 bv r dr (eU D.length dA I)) (d7.bs [2,3,4,5,6,7,8,9,10,11,12]) (λh' x=>⟨x.1,x.2.1,x.2.2⟩) hs).G7 λcf ⟨Z,hm⟩=>⟨(),m9,s,m9,v,Z,hm⟩
  .refine⟨(⟨eH,0,0⟩,10),m9,bm (λ_=>?_) λe=>absurd e nq⟩;exact .inr ⟨λhh=>Z (a8.2 hh),m9,(J.up R12.ac).bs []⟩
def jD(p:Int×Int×Int)(x:Int×Row):Bool:=bR x.1&&decide ((m8 x.2:Int)=p.2.2)
theorem WA{p:Int×Int×Int}{x:Int×Row}(c:bH p=eL):jD p x=eL↔EC p x:=by have:=(bI p).1 c;unfold jD;rw[qz,decide_eq_true_iff];exact⟨λ⟨a,b⟩=>⟨a,nb⟩,λh=>⟨h.id,by have:=h.len;omega⟩⟩
def nB(p:Int×Int×Int)(seed:Int)(X:aO)(i:Nat):Row:=(qy i).flatMap λj:Nat=>jT p.2.2.toNat X (eG (bD p).toNat seed (j:Int))
theorem xV(p:Int×Int×Int)(seed:Int)(X:aO)(i:Nat):nB p seed X (i+1)=nB p seed X i++jT p.2.2.toNat X (eG (bD p).toNat seed (i:Int)):=by unfold nB;rw[zC,List.flatMap_append];simp
open Classical in
noncomputable def jg(p:Int×Int×Int)(seed:Int)(l:List (Int×Row)):Row×Int:=
 if bH p&&l.all (jD p)then
  if fI p seed (l.map qC)then
   if jk (bD p).toNat (eM p seed (l.map qC)) (mQ p l)then(nB p seed (eU (bD p).toNat (eM p seed (l.map qC)) (mQ p l)) p.1.toNat,0)else([],10)
  else([],9)
 else([],1)
theorem PB(p:Pm)(x:Int×Sl)(l:Row)(h:hY)(e:Rd h x.2 1 aq l):aj xT 162 #[gx p,xO #[xJ xP x.1,x.2]] h λv h'=>v=xN (jD p (x.1,l))/\Sp h h' []:=by
 refine ts Tryz.func162 ?_ (args:=[p,x]);refine(Sp.refl h).boxed λj i f=>?_;refine f.boxed λa2 g a=>?_;have d:=e.len;refine⟨x.1,(a.box 1 m9).cell0 m9,ae (λc=>?_) λc=>?_⟩
 .refine⟨x.1,(a.box 1 m9).cell0 m9,ae (λb=>?_) λb=>?_⟩
  .refine⟨x.2,(a.box 1 m9).cell m9,p.2.2,(a.box 0 m9).cell m9,?_,.zip a.ac⟩;congr 1;unfold jD bR;rw[ln (show 0<=x.1 from c),ln (show x.1<=65535 from b),d];rw[yG];simp
  .refine⟨?_,.zip a.ac⟩;unfold jD bR;rw[m5 (show¬x.1<=65535 from b)];simp
 .refine⟨?_,.zip a.ac⟩;unfold jD bR;rw[m5 (show¬0<=x.1 from c)];simp
theorem PC(p:Pm)(b:fY)(x:Int×Sl)(l:Row)(h:hY)(c:bQ h b 24 [xJ xP p.1,xJ xP p.2.1,xJ xP p.2.2])(e:Rd h x.2 1 aq l):aj xT 161 #[xO #[xJ xP x.1,x.2],xL (dB b)] h λv h'=>v=xN (!jD p (x.1,l))/\Sp h h' []:=by refine ts Tryz.func161 ?_ (args:=[x,b]);refine(Sp.refl h).boxed λa2 f a=>?_;refine⟨p,(c.ac a.ac c.lt).aw _ m9,x,(a.box 0 m9).aw _ m9,?_⟩;refine(PB p x l f (Seq.up e a.ac)).G7 λg d=>⟨_,m9,m9,.zip (a.up d.ac).ac⟩
theorem PD(p:Pm)(f:fY)(l:Sl)(a:List (Int×Row))(h:hY)(o:bQ h f 24 [xJ xP p.1,xJ xP p.2.1,xJ xP p.2.2])(n:fm BW h l a)(D:m8 a<=2^30):aj xT 160 #[l,.func (.func 161) #[] #[xL (dB f)]] h λv h'=>v=xN (!a.all (jD p))/\Sp h h' []:=by
 refine ts Tryz.func160 ?_ (args:=[l,(.func (.func 161) #[] #[xL (dB f)])]);refine(lH l (161,#[],#[xL (dB f)]) (R:=λv h'=>(∃i:Int,v=xJ xP i/\(decide (i>=0)=!a.all (jD p)))/\Sp h h' []) ?_).mono ?_
 .skip
  obtain⟨m,w,A,u⟩:=ce.kZ n;have t:=ce.len n;refine ak (λi:Nat=>(i:Int)) (λi h'=>i<=m8 a/\(a.take i).all (jD p)=eL/\Sp h h' []) (λi=>m8 a-i) 0 m9 ⟨nb,n4,Sp.refl h⟩ ?_;rintro i q ⟨s,b,d⟩;refine ae (λe=>?_) (λe=>?_)
  .have c:i<m8 a:=nb
   obtain⟨z,x⟩:=u i nb c;refine(Seq.up w d.ac).cQ (g:=yv) i m9 nb (m[i]'nb) m9 ?_;refine fF pa ?_;refine(PC p f (m[i]'nb) a[i].2 q (o.ac d.ac o.lt) (Seq.up x d.ac)).G7 λB r=>?_;have k:((m[i]'nb).1,a[i].2)=a[i]:=by rw[z]
   rw[k];refine⟨_,m9,aH (λj=>?_) λj=>?_⟩
   .refine⟨⟨i,m9,?_⟩,d.up r.ac⟩;rw[ln (show(i:Int)>=0 by omega)];have:a.all (jD p)=eR:=List.all_eq_false.2 ⟨_,qe c,by simpa using j⟩;rw[this];rfl
   .refine⟨i+1,n7,⟨nb,?_,d.up r.ac⟩,nb⟩;rw[aA _ _ c,List.all_append,b];simpa using j
  .refine⟨⟨-1,m9,?_⟩,d⟩;rw[qh nb]at b;rw[b];rfl
 .rintro _ q ⟨⟨i,rfl,s⟩,y⟩;exact⟨i,m9,by rw[s],y⟩
theorem WB(l:Sl)(b:List (Int×Row))(h:hY)(j:fm BW h l b)(D:m8 b<=2^30):aj xT 164 #[l] h λv h'=>∃r:Sl,v=r/\Sp h h' [ai 3 r 1 av (b.map qC)]:=by
 refine ts Tryz.func164 ?_ (F8 (F8 (F9 [(3,bJ),(8,aI)] [(3,4),(5,6),(8,18)])));obtain⟨f,w,y,u⟩:=ce.kZ j;have q:=ce.len j;refine ak (λt:Nat×Sl=>(t.2,(t.1:Int))) (λt h'=>t.1<=m8 b/\Sp h h' [ai 3 t.2 1 av ((b.take t.1).map qC)]) (λt=>m8 b-t.1) (0,⟨eH,0,0⟩) m9 ⟨n4,(Sp.refl h).nil 3 1 av⟩ ?_;rintro⟨i,o⟩ z ⟨E,d⟩;dsimp only at*;refine ae (λe=>?_) (λe=>?_)
 .have c:i<m8 b:=nb
  obtain⟨x,B⟩:=u i nb c;refine(Seq.up w d.ac).cQ (g:=yv) i m9 nb (f[i]'nb) m9 ?_;refine d.alloc ag m9 λa A p=>?_;refine p.storeAll ag 1 m9 m9 (yv (f[i]'nb)) m9 m9 m9 m9 λh3 m=>?_;refine⟨(f[i]'nb).1,(m.box 1 m9).cell0 m9,?_⟩;refine m.push ag 0 m9 ge m9 nq (λ_=>rfl) dt (f[i]'nb).1 m9 nq n2 λs F k=>?_;refine⟨(i+1,s),n3,⟨n1,?_⟩,n1⟩
  try dsimp only
  rw[aA _ _ c,qE];rw[x]at k;exact k.bs [0]
 .have:i=m8 b:=nb
  subst this;rw[qt]at d;exact⟨o,m9,d⟩
theorem YV{B:ar}{q h:hY}{As:List HP}(f b:Sl)(c d:Row)(H:aa B q h (ai 5 b 1 aq d::As))(u:St B q As λh=>Rd h f 1 aq c)
  (v:m8 c=m8 d) (I:m8 c<=2^30) {K:hY->Prop} (z:∀h',aa B q h' (ai 5 b 1 aq (cN 1 c d)::As)->K h'):
  gr (σ:=Int) (λa G g=>
 Br (decide (a<((f.len:Nat):Int)))
 (∃m:fY,(f.ptr=dB m/\0<=a/\a<((f.len:Nat):Int))/\
 ∃n:Int,hU g (m.add (a.toNat*1))=dB (xJ xQ n)/\
 ∃l:fY,(b.ptr=dB l/\0<=a/\a<((b.len:Nat):Int))/\
 ∃o:Int,hU g (l.add (a.toNat*1))=dB (xJ xQ o)/\
 ∃a28:fY,(b.ptr=dB a28/\0<=a/\a<((b.len:Nat):Int))/\
 au xT (qG 5 (xL (dB (a28.add (a.toNat*1)))) (xJ xQ (qd xQ ((qF (qq xQ) o^^^(qF (qq xQ) n)).toNat:Nat)))) g λ_ s=>
 G (qd xP (a+(1:Int))) s) (K g)) (0:Int) h:=by
 have D:f.len=m8 c:=(u.at [ai 5 b 1 aq d] H).len;refine ak (λk:Nat=>(k:Int)) (λk h'=>k<=m8 c/\aa B q h' (ai 5 b 1 aq (zj (λx y=>y^^^x) (c.take k) (d.take k)++d.drop k)::As)) (λk=>m8 c-k) 0 m9 ⟨nb,tg⟩ ?_;rintro k A ⟨E,j⟩;have F:=u.at [_] j;refine ae (λe=>?_) (λe=>?_)
 .have r:k<m8 c:=nb
  have i:(zj (λx y=>y^^^x) (c.take k) (d.take k)).length=k:=n2
  have w:(zj (λx y=>y^^^x) (c.take k) (d.take k)++d.drop k).length=m8 d:=by rw[qo,i,qH];omega
  refine F.aW k m9 r _ m9 ?_;have p:(zj (λx y=>y^^^x) (c.take k) (d.take k)++d.drop k)[k]'nb=d[k]:=by rw[List.getElem_append_right nb];simp[i]
  refine(j.seq 0 m9 λ_=>rfl).aW k m9 nb _ m9 ?_;rw[p,mi];refine j.set ag 0 m9 (λ_=>rfl) m9 k m9 nb _ m9 m9 m9 λh3 t=>?_;rw[zt,DO v]at t;exact⟨k+1,n7,⟨nb,t⟩,nb⟩
 .have:k=m8 c:=nb
  subst this;rw[qh (qj _),qh nb,List.drop_of_length_le nb,qL,<-QU]at j;exact z A j
theorem TD(p:Pm)(seed:Int)(l:Sl)(a:List (Int×Row))(h:hY)(hl:fm BW h l a)(ad:m8 a<=2^18):
  aj xT 89 #[gx p,xJ xR seed,l] h λv h'=>∃r:Sl,v=.tuple #[r,xJ xP (jg p seed a).2]/\Sp h h' [ai 5 r 1 aq (jg p seed a).1]:=by
 refine ts Tryz.func89 ?_ (F8 (G0 [] [(6,8),(17,25)] (G0 [] [(6,8),(25,31)] (F8 (F8 (F8 (E5 (F8 (E7 (E8 [(10,bJ),(43,aI)] [(10,13),(14,17),(43,81)] (F8 (F8 (E5 (E7 (F8 (F8 (E5 (F8 (E7 (E8 [(54,aI)] [(14,17),(54,77)] (F8 (F8 (E5 (E7 (F8 (F8 (E7 (E8 [(63,aI)] [(15,17),(63,76)] E6))))) E6)))))) E6)))) E6)))))) E6))))))) (args:=[p,(xJ xR (seed:Int)),l]);refine(Sp.refl h).boxed λN h1 H1=>?_;have u:∀{h':hY} (e:Int),Sp h h' [an N 24 [xJ xP p.1,xJ xP p.2.1,xJ xP p.2.2]]->jg p seed a=([],e)->∃r:Sl,(.tuple #[xK eH 0 0,xJ xP e]:Value)=.tuple #[r,xJ xP (jg p seed a).2]/\Sp h h' [ai 5 r 1 aq (jg p seed a).1]:=λe T he=>by
  rw[he];exact⟨⟨eH,0,0⟩,m9,(T.nil 5 1 aq).bs [1]⟩
 refine aE ⟨p,(H1.box 0 m9).aw _ m9,?_⟩;refine(fe p h1).G7 λh2 R2=>?_;have P:=H1.up R2.ac;refine⟨_,m9,aH (λe=>?_) λb=>?_⟩
 .exact u 1 P (by unfold jg;rw[e];rfl)
 refine(PD p N l a h2 (P.box 0 m9) (fm.up hl P.ac) nb).G7 λh3 R3=>?_;have Q:=P.up R3.ac;refine⟨_,m9,aH (λe=>?_) λf=>?_⟩
 .exact u 1 Q (by unfold jg;rw[b,e];rfl)
 refine aE ⟨p,(Q.box 0 m9).aw _ m9,?_⟩;refine(WB l a h3 (fm.up hl Q.ac) nb).Hf λr h4 R4=>?_;have U:=Q.comp R4;have z:=U.box 0 m9;refine⟨r,m9,⟨z.cell0 m9,z.cell m9,z.cell m9,I0⟩,?_⟩;refine(JY p seed r (a.map qC) h4 (U.seq 1 m9 λ_=>rfl) n2).G7 λh5 R5=>?_;have L:=(U.up R5.ac).bs [0];refine⟨_,m9,I0,aH (λe=>?_) λd=>?_⟩
 .exact u 9 L (by unfold jg;rw[b,f,e];rfl)
 have E:∀x∈a,EC p x:=λx k=>(WA b).1 (qQ.1 f x k);have ao:=(bI p).1 b;have ay:=pP b;have hr:cz (eM p seed (a.map qC))=(bD p).toNat:=by have:=d;unfold fI Bv at this;rw[b]at this;simp at this;omega
 refine⟨p,(L.box 0 m9).aw _ m9,?_⟩;refine(YU p seed l a (bD p).toNat p.2.2.toNat h5 (fm.up hl L.ac) b E m9 m9 ad hr).mono ?_;rintro _ h6 (⟨hc,m,rfl,R6⟩|⟨hc,rfl,R6⟩)
 rotate_left
 .refine⟨(⟨eH,0,0⟩,10),m9,bm (λ_=>u 10 (L.up R6.ac) ?_) λe=>absurd e nq⟩;unfold jg;rw[b,f,d,k4 hc];rfl
 refine⟨(m,0),m9,bm (λe=>absurd m9 e) λ_=>?_⟩;obtain⟨X,hX⟩:=HF (eU (bD p).toNat (eM p seed (a.map qC)) (mQ p a))
 have O:jg p seed a=(nB p seed X p.1.toNat,0):=by unfold jg;rw[b,f,d,hZ hc,hX];rfl
 have ah:aU p.2.2.toNat (mQ p a):=λx k=>by
  rcases qw.1 k with k|k
  .rw[(yk.1 k).2];simp[aN]
  .obtain⟨y,hy,rfl⟩:=qI.1 k;exact(E y hy).len
 have Y:(eM p seed (a.map qC)).length=(mQ p a).length:=by rw[<-Sx (n:=(bD p).toNat) (seed:=seed) b m9 E,<-Sy (n:=(bD p).toNat) (seed:=seed) (p:=p) (l:=a) rfl];exact tu
 obtain⟨H,q⟩:=pQ Y (oy p seed _) ah hr;rw[<-hX]at R6 H q;have H6:=(L.comp R6).Sb 1 m9;obtain⟨S,R⟩:=aa.FI H6 1 rfl λ_=>rfl;have a3:=(R.dv 1 m9).1.len;have a5:=(R.dv 1 m9).2.1;refine⟨p.1,(R.box 0 m9).cell0 m9,?_⟩;rw[O];have M:Sp h h6 [ai 5 ⟨eH,0,0⟩ 1 aq [],an N 24 [xJ xP p.1,xJ xP p.2.1,xJ xP p.2.2],cB (iR 1 aq) 1 bv m S X]:=(R.nil 5 1 aq).bs [2,0,1];have K:∀j:Nat,(jT p.2.2.toNat X (eG (bD p).toNat seed (j:Int))).length=p.2.2.toNat:=λj=>Qx q H λx k=>kw nb nb k;have B:∀i,(nB p seed X i).length=i*p.2.2.toNat:=λi=>by
  induction i with
  |zero=>simp[nB]
  |succ i ih=>rw[xV,qo,ih,K,zU]
 refine ak (λt:Nat×Sl=>(t.2,(t.1:Int))) (λt h'=>t.1<=p.1.toNat/\Sp h h' [ai 5 t.2 1 aq (nB p seed X t.1),an N 24 [xJ xP p.1,xJ xP p.2.1,xJ xP p.2.2],cB (iR 1 aq) 1 bv m S X]) (λt=>p.1.toNat-t.1) (0,⟨eH,0,0⟩) m9 ⟨nb,by simpa[nB]using M⟩ ?_;rintro⟨i,o⟩ h8 ⟨hi,M⟩;dsimp only at*;refine ae (λe=>?_) (λe=>?_)
 .have a2:i<p.1.toNat:=nb
  refine⟨p.2.2,(M.box 1 m9).cell m9,?_⟩;refine M.make ag aq cR nq 0 m9 m9 p.2.2.toNat p.2.2.toNat nb nb (qj _) nb λsm h9 _ _ H9=>?_;refine⟨p,(H9.box 1 m9).aw _ m9,(wn p seed (i:Int) h9).Hf λc ap A=>?_⟩;have ab:(bH p&&bR (i:Int))=eL:=by rw[b];unfold bR;simp;omega
  rw[ab,hZ rfl]at A;have J:=(H9.comp A).bs [3,0,1,2,4];refine⟨c,m9,?_⟩;generalize F:eG (bD p).toNat seed (i:Int)=cs at J A;have w:∀x∈cs,0<=x/\x<((bD p).toNat:Int):=λx k=>kw nb nb (F▸k);have ax:m8 cs<=20:=by have:=mK (n:=(bD p).toNat) nb nb seed (i:Int);rw[F]at this;omega
  have a0:=(J.own 4 m9).len;refine ak (λj:Nat=>(j:Int)) (λj h'=>j<=m8 cs/\Sp h h' [ai 5 sm 1 aq (jT p.2.2.toNat X (cs.take j)),ai 5 o 1 aq (nB p seed X i),an N 24 [xJ xP p.1,xJ xP p.2.1,xJ xP p.2.2],cB (iR 1 aq) 1 bv m S X,ai 3 c 1 av cs]) (λj=>m8 cs-j) 0 m9 ⟨nb,J⟩ ?_;rintro j a4 ⟨hj,g⟩;have G:=oU q H w j hj;refine ae (λe2=>?_) (λe2=>?_)
  .have D:j<m8 cs:=nb
   have am:=w _ (qe D);refine(g.seq 4 m9 λ_=>rfl).aW j m9 D _ m9 ?_;have s:cs[j].toNat<m8 X:=nb
   refine(g.dv 3 m9).1.ly cs[j].toNat nb nb ?_;have W:(X[cs[j].toNat]'s).length=p.2.2.toNat:=q _ (qe _);refine YV (S[cs[j].toNat]'nb) sm (X[cs[j].toNat]'s) _ g (St.mk' λh' T=>Fix.row (T.dv 2 m9) s) (by rw[W,G]) nb λV I=>?_;refine⟨j+1,n7,⟨nb,?_⟩,nb⟩;rw[aA _ _ D,Bw,mA s];exact I
  .have al:j=m8 cs:=nb
   subst al;rw[qt]at g G;refine g.append ag 1 m9 cR uy m9 nq (λ_=>rfl) (g.seq 0 m9 λ_=>rfl) cH (by rw[B,G];have:i*p.2.2.toNat<=16*24:=zq nb nb;omega) λo' V I=>?_;refine⟨(i+1,o'),n3,⟨n1,?_⟩,n1⟩
   try dsimp only
   rw[xV,F];exact I.bs [1,2,3]
 .have Z:i=p.1.toNat:=nb
  subst Z;exact⟨o,m9,M.bs [0]⟩
variable {p:Int×Int×Int} {seed:Int} {d:Row} {K H w n:Nat}
theorem TE{m:aB}{r:ct}:dK m r=eL↔jR r=eL/\r.p=m.p/\∃x∈m.objs,x.object=r.object/\r.block<(x.tries.length:Int)/\r.seed=fx r.object r.block (x.tries.getD r.block.toNat 0):=by unfold dK;simp
def TF(m:aB)(C:Int->aT)(o b:Int):aT:=(splitB m.p (C o)).getD b.toNat []
def aey(m:aB)(C:Int->aT)(r:ct):Prop:=r.data=BM m.p r.seed (TF m C r.object r.block) r.id
structure adt (m:aB) (C:Int->aT) (c:aT):Prop where
 old:∀r,dq c=dB r->r.object<m.next
 tru:∀r,dq c=dB r->dK m r=eL->aey m C r
 page:∀g,DN c=dB g->g.seq<=m.seq/\(g.seq=m.seq->c∈bG m)
theorem WC{m:aB}{l:dT}{r:ct}(h:r∈iI m l):gn r∈l/\dq (gn r)=dB r/\dK m r=eL:=by
 obtain⟨c,b,a,d⟩:=BQ h;rw[(RZ a).1]
 grind
structure NH (m:aB) (C:Int->aT) (ds:aG):Prop where
 may:bF m=eL
 len:ds.length=64
 cells:∀k d,bX ds k=dB d->∀c∈d.l,adt m C c
 ents:∀e∈m.objs,((C e.object).length:Int)=e.length/\cX m.p e.object (splitB m.p (C e.object)).length=dB e.tries
def iM(p:Int×Int×Int)(bl:dT)(n:Int):aT:=if bH p=eL/\0<=n/\(m8 bl:Int)=countP p n/\(bl.all λx=>decide (m8 x=cS p))=eL then bl.flatten.take n.toNat else[]
noncomputable def kM(m:aB)(a:aG)(o:Int)(tries:aC)(k:Nat):aT×Int:=jg m.p (fx o k (tries.getD k 0)) (dW m a (bh a m.drives) o k)
def pv(m:aB)(a:aG)(k:Int):Bool:=match bX a k with|some d=>jt m d.l|none=>eR
def BX(m:aB)(a:aG):Bool:=(bh a m.drives).any (pv m a)
noncomputable def rf(m:aB)(a:aG)(e:cZ):aT×Int:=
 if BX m a=eR then([],11)else if((qy e.tries.length).all λk=>decide ((kM m a e.object e.tries k).2=0))=eL then(iM m.p ((qy e.tries.length).map λk=>(kM m a e.object e.tries k).1) e.length,0)else([],11)
noncomputable def iH(m:aB)(a:Int)(w:Pow)(c:aG)(b:ByteArray):aT×Int:=
 if gy w a then([],14)else match m.objs.find? (dH b)with
 |none=>([],5)
 |some e=>rf m c e
def abl(m:aB)(a:aG)(o b:Int):aC:=(dW m a (bh a m.drives) o b).map qC
theorem Fl{p:Int×Int×Int}(a:bH p=eL)(n:Nat):n<=(countP p n).toNat*cS p:=by
 obtain⟨g,f,c⟩:=ik a;unfold countP;rw[a,Bool.true_and];by_cases h0:0<(n:Int)
 .rw[ln h0,hZ m9,<-c];have h:=wq ((n)-1) (show(0:Int)<(cS p)by omega);have b:=Int.mul_ediv_add_emod ((n)-1) (cS p);have h3:0<=((n)-1)/(cS p:Int):=Int.ediv_nonneg nb nb;obtain⟨q,d⟩:=Int.eq_ofNat_of_zero_le h3;rw[d]at b⊢;have e:((q:Int)+1).toNat=q+1:=rfl;rw[e,]
  grind
 .omega
variable {m:aB} {ds:aG} {offs:Int}
section
variable {C:Int->aT} {w:Pow}
end
theorem AU{a:Nat}:∀{l:dT},(∀x∈l,m8 x=a)->m8 l.flatten=m8 l*a
 |[],_=>n4
 |x::l,h=>by
  rw[List.flatten_cons,qo,h x List.mem_cons_self,AU λy b=>h y (qp _ b),q7,zU];omega
theorem TG(p:Pm)(l:Sl)(ll:dT)(n:Int)(h:hY)(H:eF h l 1 aq ll)(hn:n<=2^20)(S:m8 ll<=2^10):
  aj xT 91 #[gx p,l,xJ xP n] h λv h'=>∃(r:Sl) (b:Bool),v=.tuple #[r,xN b]/\Sp h h' [EA (iR 1 aq) r (iM p ll n)]:=by
 refine ts Tryz.func91 ?_ (F8 (G0 [] [(6,8),(11,26)] (F8 (F9 [(8,bJ),(28,aI)] [(6,9),(10,11),(28,41)])))) (args:=[p,l,(n:Int)]);have j:=H.len;refine(Sp.refl h).boxed λP X K=>?_;have d:∀{h':hY},Sp h h' [an P 24 [xJ xP p.1,xJ xP p.2.1,xJ xP p.2.2]]->iM p ll n=[]->∃(r:Sl) (b:Bool),(.tuple #[xK eH 0 0,xN eR]:Value)=.tuple #[r,xN b]/\Sp h h' [EA (iR 1 aq) r (iM p ll n)]:=λH' Q=>by
  rw[Q];exact⟨⟨eH,0,0⟩,eR,m9,(((H'.nil 5 1 aq).bs [1]).Eo 0 m9 λ_=>rfl)⟩
 refine aE ⟨p,(K.box 0 m9).aw _ m9,(fe p X).G7 λZ R2=>?_⟩;have y:=K.up R2.ac;refine⟨_,m9,aH (λe=>d y (by unfold iM;rw[k4 (by rintro⟨h,_⟩;rw[e]at h;cases h)])) λe1=>ae (λe=>d y (by unfold iM;rw[k4 (by rintro⟨_,h,_⟩;omega)])) λe2=>?_⟩;have z:bH p=eL:=by simpa using e1
 refine⟨p,(y.box 0 m9).aw _ m9,(sT p n Z).G7 λh3 R=>?_⟩;have N:=y.up R.ac;refine⟨_,m9,bm (λe=>d N (by unfold iM;rw[k4 (by rintro⟨_,_,h,_⟩;rw[j]at e;exact e h)])) λL=>?_⟩;have F:(m8 ll:Int)=countP p n:=by rw[j]at L;exact L
 obtain⟨s1,s2,s3⟩:=ik z;refine ak (λt:Sl×Nat=>(t.1,(t.2:Int))) (λt h'=>t.2<=m8 ll/\(∀x∈ll.take t.2,m8 x=cS p)/\Sp h h' [an P 24 [xJ xP p.1,xJ xP p.2.1,xJ xP p.2.2],ai 5 t.1 1 aq (ll.take t.2).flatten]) (λt=>m8 ll-t.2) (⟨eH,0,0⟩,0) m9 ⟨n4,n4,N.nil 5 1 aq⟩ ?_;rintro⟨o,i⟩ h4 ⟨O,a,s⟩;dsimp only at O a s⊢;refine ae (λe=>?_) λe=>?_
 .have f:i<m8 ll:=by have V:(i:Int)<(l.len:Int):=e;omega
  refine(H.up s.ac).get i m9 f λr I=>⟨p,(s.box 0 m9).aw _ m9,(DA p h4 z).G7 λh5 M=>?_⟩;have A:=s.up M.ac;have w:=I.len;refine⟨_,m9,bm (λB=>?_) λB=>?_⟩
  .refine d (A.bs [0]) ?_;unfold iM;rw[k4];rintro⟨_,_,_,h⟩;have:=m6 (qQ.1 h _ (qe f));exact B (by rw[w,this])
  .have G:ll[i].length=cS p:=by rw[w]at B;exact yQ.1 B
   have u:=AU a;rw[List.length_take_of_le O]at u;have hb:i*cS p<=2^10*2^10:=zq nb nb;refine A.append ag 1 m9 cR ⟨_,_,m9,m9⟩ m9 nq (λ_=>rfl) (Seq.up I M.ac) cH nb λW h6 Y=>?_;refine⟨(W,i+1),n3,⟨n1,?_,?_⟩,n1⟩
   .try dsimp only
    intro x g;rw[aA _ _ f]at g;rcases qw.1 g with g|g
    .exact a x g
    .rw[qB.1 g];exact G
   .try dsimp only
    rw[aA _ _ f,List.flatten_append];simpa using Y
 .rw[qh (by have V:¬(i:Int)<(l.len:Int):=e;omega)]at a s;have u:=AU a;have m:=s.own 1 m9;have E:=m.len;obtain⟨k,T⟩:∃k:Nat,n=k:=⟨n.toNat,nb⟩
  subst T;have c:=Fl z k;have D:(countP p (k:Int)).toNat=m8 ll:=nb
  rw[D,<-u,<-E]at c;have U:iM p ll (k:Int)=ll.flatten.take k:=by unfold iM;rw[hZ ⟨z,nb,F,qQ.2 λx g=>ln (a x g)⟩,qi]
  refine ig ag cR k m9 m9 (qX c m.cap) ?_;refine⟨⟨o.ptr,k,k⟩,eL,m9,?_⟩;rw[U];have A:=(s.bs [1]).Eo 0 m9 λ_=>rfl;refine A.dY 0 m9 λq hq=>?_;have J:=Seq.take hq k nb;exact⟨J.1,J.2⟩
variable {a:fY} {da:List bx}
section
variable {pw:fY} {w:Pow}
theorem PE(x:bc)(o:bF m=eL)(H:aa B h0 h (aJ bP a pw (aD x) offs da w ds::bo x m::As)):
  aj xT 88 #[xL (dB a)] h λv h'=>v=xN (BX m ds)/\Sp h h' []:=by
 refine ts Tryz.func88 ?_;have z:=iA o;have j:=iD o;refine(Sp.refl h).boxed λp M t=>?_;have q:=H.up t.ac;refine⟨dB a,(t.box 0 m9).cell0 m9,(fC x m (q.at 1 m9) z q).Hf λD L r=>?_⟩;have e:=t.comp r;have J:(bh ds m.drives).length<=64:=qX (qK _ _) j;refine⟨D,m9,(Ke 158 #[] #[xL (dB p)] (pv m ds) D (bh ds m.drives) L pa (r.seq 0 m9 λ_=>rfl) nb ?_).mono ?_⟩
 .intro k K h3 f;have i:=q.up (r.up f.ac).ac;have g:bQ h3 p 30 [xL (dB a)]:=(e.up f.ac).box 0 m9;obtain⟨ok,E⟩:=aa.cF i;obtain⟨u,d,l,_⟩:=pZ K;have G:=gZ o k u;refine ts Tryz.func158 ?_ (args:=[(k:Int),p]);obtain⟨n,rfl⟩:∃n:Nat,k=n:=⟨k.toNat,nb⟩
  have F:n<m8 da:=B0
  have cd:hU h3 ((a.add 10).add ((n:Int).toNat*1))=dB (.pointer da[n]):=by rw[qi,zG];refine E.mh 10 n ?_;rw[mT ok.l8,qc F];rfl
  have y:cT da (n:Int)=da[n]:=by unfold cT;rw[hZ nb,qi,qc F];rfl
  obtain⟨b,s,bl,c,_⟩:=DM l i;refine⟨dB a,g.cell0 m9,a,m9,⟨nb,nb⟩,da[n],cd,dB a,g.cell0 m9,a,m9,x,E.aw _ m9,?_⟩;rw[<-y,c];refine(Nu x m l c (i.at 1 m9) z i).G7 λN A=>?_;have I:=(g.ac A.ac g.lt).cell0 m9;refine⟨_,m9,⟨I,I,I0⟩,?_,A⟩;unfold pv;rw[l]
 .rintro _ h3 ⟨rfl,f⟩;exact⟨_,m9,m9,.zip (e.up f.ac).ac⟩
theorem EL{a:ByteArray}{l:List Qw.cZ}{i:Int}(h:MP (dH a) l i):(i<0/\l.find? (dH a)=eH)∨∃(n:Nat) (c:n<m8 l),i=n/\l.find? (dH a)=dB l[n]:=by
 rcases h with⟨rfl,h⟩|⟨n,c,rfl,h1,h2⟩
 .exact .inl ⟨nq,List.find?_eq_none.2 λe b=>wh.1 h e b⟩
 .refine .inr ⟨n,c,m9,List.find?_eq_some_iff_append.2 ⟨h1,l.take n,l.drop (n+1),?_,λe b=>?_⟩⟩
  .rw[<-qT c,List.take_append_drop]
  .have:=wh.1 h2 e b;simpa using this
theorem YW(x:bc)(f:ByteArray)(O:bF m=eL)(M:∀k d,bX ds k=dB d->d.l.length<=512)(H:aa B h0 h (aJ bP a pw (aD x) offs da w ds::bo x m::As)):
  aj xT 31 #[xL (dB a),xM f] h λv h'=>∃r:Sl,v=.tuple #[r,xJ xP (iH m offs w ds f).2]/\Sp h h' [EA (iR 1 aq) r (iH m offs w ds f).1]:=by
 refine pD (dB a) f ?_;have hz:=iA O;have ay:=iD O;have ap:(bh ds m.drives).length<=64:=qX (qK _ _) ay;have q:∀{h':hY} (e:Int),Sp h h' []->iH m offs w ds f=([],e)->∃r:Sl,(.tuple #[xK eH 0 0,xJ xP e]:Value)=.tuple #[r,xJ xP (iH m offs w ds f).2]/\Sp h h' [EA (iR 1 aq) r (iH m offs w ds f).1]:=λe R he=>by
  rw[he];exact⟨⟨eH,0,0⟩,m9,(R.nil 5 1 aq).Eo 0 m9 λ_=>rfl⟩
 refine(oD H).mono ?_;rintro _ Z ⟨rfl,rfl⟩;refine⟨_,m9,aS (λe=>q 14 (Sp.refl _) (by unfold iH;rw[hZ e])) λe1=>?_⟩;refine(find_spec x m f (H.at 1 m9) hz H).mono ?_;rintro _ h2 ⟨⟨i,rfl,hi⟩,R2⟩;have H2:=H.up R2.ac;refine⟨i,m9,?_⟩;rcases EL hi with⟨hneg,hf⟩|⟨n,hn,rfl,hf⟩
 .exact ae (λ_=>q 5 R2 (by unfold iH;rw[k4 o4,hf])) λe=>absurd hneg e
 refine ae (λe=>absurd e (xk.2 (ze n))) λ_=>?_;obtain⟨E,hE⟩:=HF (m.objs[n])
 have a0:E∈m.objs:=B4
 have ep:iH m offs w ds f=rf m ds E:=by unfold iH;rw[k4 o4,hf,hE]
 rw[ep]at q⊢;refine(PE x O H2).G7 λh3 R3=>?_;have H3:=H2.up R3.ac;have I:=R2.up R3.ac;refine⟨_,m9,aH (λe=>q 11 I (by unfold rf;rw[hZ e])) λe3=>?_⟩;have e3:BX m ds=eL:=by simpa using e3
 have V:=(iT m E).1 (((cM m).1 O).2.2.2.2.1 E a0);have a7:E.tries.length<=8:=by have:=ma V.2.2.1.2;omega
 have ao:=((iC m).1 ((cM m).1 O).1).2.2.1;have ab:=(aa.cF H3).2;have a2:cv Z x m:=H.at 1 m9;obtain⟨ys,F⟩:=ce.fix a2.objs;have a9:=F.2.1;have u:=Fix.row F hn;obtain⟨xe,X⟩:=HF (ys[n]'nb)
 rw[<-hE,<-X]at u;refine⟨a,m9,x.2.2.2.2.2.2.2,ab.cell m9,(Seq.up F.1 I.ac).cQ (g:=bf) n m9 nb xe (by rw[X]) ?_⟩;refine(Sp.refl h3).alloc ag m9 λa8 h4 Q4=>?_;refine Q4.storeAll ag 0 m9 m9 (bf xe) m9 m9 m9 m9 λh5 Q5=>?_;have R5:=I.comp Q5;have P:Rd Z xe.2.2.2 1 av E.tries:=u.2;have a3:=P.len;have eo:xe.2.1=E.object:=u.1.2.1;have el:xe.2.2.1=E.length:=u.1.2.2;have R5:=R5.kf 41 5 1 aq;refine⟨xe.2.2.2,(Q5.box 0 m9).cell m9,?_⟩;refine ak (λt:Sl×Nat=>(t.1,(t.2:Int))) (λt h'=>t.2<=E.tries.length/\(∀j,j<t.2->(kM m ds E.object E.tries j).2=0)/\Sp Z h' [cj t.1 ((qy t.2).map λj=>(kM m ds E.object E.tries j).1),an a8 83 (bf xe)]) (λt=>E.tries.length-t.2) (⟨eH,0,0⟩,0) m9 ⟨n4,λj y=>absurd y (Nat.not_lt_zero _),R5⟩ ?_;rintro⟨o,k⟩ h6 ⟨hk,K,z⟩;dsimp only at hk K z⊢;have H6:=H.up z.ac;have W:=(aa.cF H6).2;have S:cv h6 x m:=H6.at 1 m9;have cp:∀{h':hY},bQ h' a 105 (cP (aD x) pw offs da)->bp h' (a.add 2) 0 [xJ xP m.p.1,xJ xP m.p.2.1,xJ xP m.p.2.2]:=λ{h'} hb=>by
  rw[<-S.p];exact⟨oo,oo,oo,I0⟩
 refine ae (λe=>?_) λe=>?_
 .have L:k<E.tries.length:=by have e':(k:Int)<(xe.2.2.2.len:Int):=e;omega
  refine(Seq.up P z.ac).aW k m9 L E.tries[k] m9 ?_;refine aE ⟨a,m9,x,W.aw _ m9,xe.2.1,(z.box 1 m9).cell m9,(fC x m S hz H6).Hf λlv h7 R7=>?_⟩;have H7:=H6.up R7.ac;have s:=(aa.cF H7).2;have Q:=z.up R7.ac;refine⟨lv,m9,⟨(Q.box 1 m9).cell m9,s.cell0 m9,s.cell m9,s.cell m9,s.cell m9,s.cell m9,s.cell m9,s.cell m9,s.cell m9,I0⟩,?_⟩;rw[eo];refine(Nn x m lv (bh ds m.drives) E.object k (H7.at 1 rfl) hz (R7.seq 0 rfl λ_=>rfl) nb (λj y=>by obtain⟨_,d,hd,_⟩:=pZ y;exact⟨d,hd⟩) H7).mono ?_;rintro _ h8 ⟨r,ss,rfl,R8⟩;have H8:=H7.up R8.ac;have N:=(aa.cF H8).2;have J:=Q.up R8.ac;refine⟨r,m9,I0,aE ⟨a,m9,m.p,cp N,xe.2.1,(J.box 1 m9).cell m9,(sV xe.2.1 k E.tries[k] h8).mono ?_⟩⟩;rintro _ h9 ⟨rfl,rfl⟩;obtain⟨c1,c2,c3,_⟩:=cp N;have D:Fix ey 2 piv h9 (λb=>b<h9.size) r ss (dW m ds (bh ds m.drives) E.object k):=R8.at 0 m9;have al:fm BW h9 r (dW m ds (bh ds m.drives) E.object k):=⟨ss,D.1,D.2.1,D.2.2⟩
  have a6:(dW m ds (bh ds m.drives) E.object k).length<=64*512:=by unfold dW;refine qX (Jb (c:=512) λj y=>?_) (Nat.mul_le_mul_right _ ap);obtain⟨_,d,hd,_⟩:=pZ y;unfold mY;rw[hd];have Z:=HE m E.object k d.l;have h2:=M j d hd;show(rY m E.object k d.l).length<=512;omega
  rw[eo];refine⟨_,m9,⟨c1,c2,c3,I0⟩,(TD m.p (fx E.object k E.tries[k]) r _ h9 al nb).Hf λax a4 G=>?_⟩;have eb:jg m.p (fx E.object k E.tries[k]) (dW m ds (bh ds m.drives) E.object k)=kM m ds E.object E.tries k:=by unfold kM;rw[rQ 0 L]
  rw[eb]at G⊢;have U:=J.up G.ac;refine⟨(ax,(kM m ds E.object E.tries k).2),m9,I0,bm (λe4=>q 11 (.zip U.ac) ?_) λe4=>?_⟩
  .unfold rf;rw[k4 C4,k4];intro Y;exact e4 (m6 (qQ.1 Y k (qY.2 L)))
  .have am:=(J.comp G).aF 3 [0,2,1];refine aa.nQ ag am cO n2 λo' bb ah=>?_;refine⟨(o',k+1),n3,⟨n1,λj y=>?_,?_⟩,n1⟩
   .rcases q8.1 y with y|rfl
    .exact K j y
    .simpa using e4
   .try dsimp only
    rw[zC,qE];exact ah
 .have a1:k=E.tries.length:=by have e':¬(k:Int)<(xe.2.2.2.len:Int):=e;omega
  subst a1;refine⟨a,m9,m.p,cp W,xe.2.2.1,(z.box 1 m9).cell m9,?_⟩;rw[el];have A:E.length<=2^20:=by obtain⟨⟨k1,k2⟩,_,z1,z2⟩:=(bI m.p).1 ao;have:m.p.1*m.p.2.2<=16*24:=Int.mul_le_mul k2 z2 nb nb;have:=V.2.2.1.2;omega
  refine(TG m.p o _ E.length h6 (z.Ch λ_=>rfl) A n2).mono ?_;rintro _ a5 ⟨T,b,rfl,ad⟩;have eg:rf m ds E=(iM m.p ((qy E.tries.length).map λk=>(kM m ds E.object E.tries k).1) E.length,0):=by unfold rf;rw[k4 C4,hZ (qQ.2 λj y=>ln (K j (qY.1 y)))]
  rw[eg];exact⟨(T,b),m9,I0,T,m9,((z.comp ad).bs [2])⟩
end
def DT(m:aB)(a:aG)(o k:Int):Nat:=match bX a k with|some d=>(iI m d.l).countP (λr=>decide (r.object=o))|none=>0
def og(m:aB)(a:aG)(live:aC)(o:Int):Nat:=(live.map (DT m a o)).sum
def gj(m:aB)(a:Int)(w:Pow)(c:aG)(b:ByteArray):(Int×Int×Int)×Int:=
 if gy w a=eL then((0,0,0),14)else match m.objs.find? (dH b)with
 |none=>((0,0,0),5)
 |some e=>((e.length,(e.tries.length:Int),(og m c (bh c m.drives) e.object:Int)),0)
section
variable {pw:fY} {w:Pow}
abbrev lM(s:Int×Int×Int)(t:Sl):aR:=[xJ xP s.1,xJ xP s.2.1,xJ xP s.2.2,t]
theorem abm(m:aB)(b:aG)(o k:Int)(a:∀k d,bX b k=dB d->m8 d.l<=512):DT m b o k<=512:=by
 unfold DT;cases hd:bX b k with
 |none=>exact qW _
 |some d=>exact qX List.countP_le_length (qX (jf m d.l) (a k d hd))
theorem QW(m:aB)(b:aG)(o:Int)(a:∀k d,bX b k=dB d->m8 d.l<=512):∀l:aC,og m b l o<=m8 l*512
 |[]=>by simp[og]
 |k::l=>by
  have:=QW m b o a l;have:=abm m b o k a;unfold og at*;rw[List.map_cons,List.sum_cons,q7,zU];omega
theorem WD(m:aB)(a:aG)(o:Int)(l:aC)(i:Nat)(b:i<m8 l):og m a (l.take (i+1)) o=og m a (l.take i) o+DT m a o l[i]:=by unfold og;rw[List.take_succ_eq_append_getElem b,qE,List.sum_append];simp
end
structure afe (m:aB) (o:Int) (d:bu) (bad:Nat->Prop):Prop where
 lost:d.lost=eR
 pos:0<d.l.length
 len:d.l.length<=60
 cell:∀c∈d.l,c.length=64
 bad:∀j (hj:j<d.l.length),gH d.l[j]=eH↔bad j
 cnt:∀c∈d.l,∀r,dq c=dB r->dK m r=eL/\r.object=o
 apart:(d.l.filterMap (gv m)).Pairwise λa b=>dO a b=eR
theorem Ks(k:Nat):upto (k+1)=upto k++[(k:Int)]:=by simp[upto,zC]
theorem YX(n:Nat)(a:n<65536):(qF (qq .u16) (n:Int)).toNat=n:=by simp[qq];omega
theorem QX(p q:Nat)(b:p<65536)(a:q<65536):qd .u16 ((qF (qq .u16) (p:Int)^^^qF (qq .u16) (q:Int)).toNat:Nat)=((p^^^q:Nat):Int):=by rw[BitVec.toNat_xor,YX p b,YX q a];have:p^^^q<2^16:=Nat.xor_lt_two_pow b a;show((p^^^q:Nat):Int)%65536=_;omega
theorem Av(a b:UInt8)(h:hY):aj xT 330 #[xJ xQ a.toNat,xJ xQ b.toNat] h λv h'=>v=xJ xQ (Gf.mul a b).toNat/\h'=h:=by
 have r:∀b:Nat,b<256->∀i:Nat,i<8->(qd xQ ((qF (qq xQ) (zp (b:Int) (2^min (i:Int).toNat (qq xQ)))&&&(qF (qq xQ) (1:Int))).toNat:Nat))=((b/2^i%2:Nat):Int):=oi
 have o:∀a:Nat,a<256->∀i:Nat,i<8->qd .u16 ((qd .u16 (a:Int))*2^min (i:Int).toNat (qq .u16))=((a*2^i:Nat):Int)/\a*2^i<65536:=oi
 have t3:∀(p i:Nat),p<65536->i<16->qd .u16 ((qF (qq .u16) (zp (p:Int) (2^min (i:Int).toNat (qq .u16)))&&&(qF (qq .u16) (1:Int))).toNat:Nat)=((p/2^i%2:Nat):Int):=by
  intro p i f g;have d:min (i:Int).toNat (qq .u16)=i:=by simp[qq];omega
  rw[d];have u:zp (p:Int) (2^i)=((p/2^i:Nat):Int):=by rw[Int.fdiv_eq_ediv_of_nonneg _ (by exact Int.pow_nonneg nq)];simp
  rw[u];have j:p/2^i<65536:=Nat.lt_of_le_of_lt (Nat.div_le_self _ _) f;have w:(qF (qq .u16) ((p/2^i:Nat):Int)).toNat=p/2^i:=YX _ j;have t:(qF (qq .u16) (1:Int)).toNat=1:=nq
  rw[BitVec.toNat_and,w,t,Nat.and_one_is_mod];show((p/2^i%2:Nat):Int)%65536=_;omega
 have t4:∀i:Nat,i<8->qd .u16 ((283:Int)*2^min (qd xP (((15-i:Nat):Int)-(8:Int))).toNat (qq .u16))=((283*2^(7-i):Nat):Int)/\283*2^(7-i)<65536/\0<=qd xP (((15-i:Nat):Int)-(8:Int)):=oi
 have l:=zQ a;have s:=zQ b;refine ts Tryz.func330 ?_ (F8 (F8 (E5 (F8 (E7 (E8 [(5,(.sc (.int .u16))),(6,aI)] [(5,7),(8,23)] E6))) (F9 [(5,(.sc (.int .u16))),(7,aI)] [(5,6),(7,8),(23,37)]))));refine ak (λi:Nat=>((Gf.pl a.toNat b.toNat i:Int),(i:Int))) (λi h'=>h'=h/\i<=8) (λi=>8-i) 0 m9 ⟨m9,nb⟩ ?_;rintro i j ⟨rfl,g⟩
 try dsimp only
 refine ae (λe=>?_) (λe=>?_)
 .have c:i<8:=nb
  refine⟨nb,?_⟩;rw[r _ s i c,af _];refine aZ (λd=>?_) (λd=>?_)
  .refine⟨nb,i+1,?_,⟨m9,nb⟩,nb⟩;have:=o _ l i c;rw[this.1,QX _ _ (Gf.SC _ _ l i g) this.2,Gf.pl,hZ nb];rfl
  .refine⟨i+1,?_,⟨m9,nb⟩,nb⟩;rw[Gf.pl,k4 nb];rfl
 .have c:i=8:=nb
  subst c;have f:=Gf.SC _ b.toNat l 8 (qj _);generalize x:Gf.pl a.toNat b.toNat 8=P at f⊢;refine ak (λi:Nat=>((Gf.rd P i:Int),(15:Int)-(i:Int))) (λi h'=>h'=j/\i<=8) (λi=>8-i) 0 m9 ⟨m9,nb⟩ ?_;rintro i y ⟨rfl,g⟩;have m:=Gf.ZO P f i g
  try dsimp only
  refine ae (λe=>?_) (λe=>?_)
  .have c:i<8:=nb
   have q:(15:Int)-(i:Int)=((15-i:Nat):Int):=nb
   rw[q];refine⟨nb,?_⟩;rw[t3 _ (15-i) m nb,af (((15-i:Nat):Int)-1)];have k:=t4 i c;refine aZ (λd=>?_) (λd=>?_)
   .refine⟨k.2.2,i+1,?_,⟨m9,nb⟩,nb⟩;rw[k.1,QX _ _ m k.2.1,Gf.rd,hZ nb];exact yU m9 n1
   .refine⟨i+1,?_,⟨m9,nb⟩,nb⟩;rw[Gf.rd,k4 nb];exact yU m9 n1
  .have c:i=8:=nb
   subst c;refine⟨?_,m9⟩;have:=Gf.SB a b;rw[Gf.nk,x]at this;rw[<-this];show Value.int .u8 (((Gf.rd P 8:Nat):Int)%256)=_;rfl
theorem PF(n:Int)(h:hY):aj xT 264 #[xJ xP n] h λv h'=>v=xJ xQ (Gf.pw (n%255).toNat).toNat/\h'=h:=by
 refine ts Tryz.func264 ?_ (F8 (F8 (G0 [(0,aI)] [(0,1),(7,11)] (F8 (F9 [(3,(.sc (.int .u8))),(4,aI)] [(3,5),(11,18)])))));have l:=Int.tmod_lt_of_pos n (show(0:Int)<255 by decide);have b:-255<n.tmod 255:=Int.lt_tmod_of_pos n nq;have a:=FC n 255;have g:=Int.emod_nonneg n (show(255:Int)≠0 by decide);have j:=wq n (show(0:Int)<255 by decide);refine⟨nq,bn (λs h'=>s=n%255/\h'=h) ?_ ?_⟩
 .refine ae (λd=>?_) (λc=>?_)
  .rw[hZ d]at a;exact⟨by rw[af _,a],m9⟩
  .rw[k4 c]at a;exact⟨a.symm,m9⟩
 .rintro s h' ⟨rfl,rfl⟩;obtain⟨N,k⟩:∃N:Nat,n%255=N:=⟨(n%255).toNat,nb⟩
  rw[k,qi];refine ak (λi:Nat=>(((Gf.pw i).toNat:Int),(i:Int))) (λi b=>b=h'/\i<=N) (λi=>N-i) 0 m9 ⟨m9,nb⟩ ?_;rintro i b ⟨rfl,m⟩
  try dsimp only
  refine ae (λe=>?_) (λe=>?_)
  .have f:=Av (Gf.pw i) 3 b;refine f.mono ?_;rintro v h3 ⟨rfl,rfl⟩;refine⟨_,m9,i+1,?_,⟨m9,nb⟩,nb⟩;rw[af _,Gf.UY];rfl
  .have:i=N:=nb
   subst this;exact⟨m9,m9⟩
theorem Aw(a:UInt8)(h:hY):aj xT 267 #[xJ xQ a.toNat] h λv h'=>v=xJ xQ (Gf.inv a).toNat/\h'=h:=by
 refine ts Tryz.func267 ?_ (F8 (F9 [(3,aI)] [(2,15)]));refine ak (λk:Nat=>(k:Int)) (λk h'=>h'=h/\1<=k/\k<=256/\∀j,j<k->Gf.mul a (zI j)≠1) (λk=>256-k) 1 m9 ⟨m9,nb,nb,λj c=>?_⟩ ?_
 .have:j=0:=nb
  subst this;show Gf.mul a 0≠1;rw[Gf.mul_zero];decide
 .rintro k h' ⟨rfl,m,o,c⟩;refine ae (λe=>?_) (λe=>?_)
  .have l:k<256:=nb
   have i:qd xQ (k:Int)=((zI k).toNat:Int):=by show(k:Int)%256=_;simp[Nat.mod_eq_of_lt l];omega
   rw[i];refine(Av a (zI k) h').G6 ⟨_,m9,?_⟩;refine aZ (λd=>?_) (λd=>?_)
   .have b:Gf.mul a (zI k)=1:=UInt8.toNat_inj.1 (show(Gf.mul a (zI k)).toNat=1 from yQ.1 d);exact⟨by rw[<-Gf.SD b],m9⟩
   .refine⟨k+1,n7,⟨m9,nb,nb,λj g=>?_⟩,nb⟩;rcases q8.1 g with b|rfl
    .exact c j b
    .intro b;apply d;rw[b];rfl
  .have:k=256:=nb
   subst this;have f:a=0:=by refine Classical.byContradiction λf=>?_;have:=c (Gf.inv a).toNat (zQ _);rw[UInt8.ofNat_toNat]at this;exact this (Gf.AD f)
   subst f;exact⟨m9,m9⟩
theorem jX(c:UInt8)(a b:Sl)(f d:Row)(h:hY)(o:Rd h a 1 aq f)(l:Rd h b 1 aq d)(p:m8 f=m8 d)(F:m8 d<=2^30):
  aj xT 269 #[xJ xQ c.toNat,a,b] h λv h'=>∃r:Sl,v=r/\Sp h h' [ai 5 r 1 aq (cN c f d)]:=by
 refine ts Tryz.func269 ?_ (F8 (F8 (F9 [(14,aI)] [(8,9),(14,32)])));have x:=o.len;have q:=l.len;refine(Sp.refl h).make ag aq cR nq 0 m9 m9 d.length d.length nb nb (qj _) nb λs D y E w=>?_;refine ak (λk:Nat=>(k:Int)) (λk h'=>k<=m8 d/\Sp h h' [ai 5 s 1 aq ((cN c f d).take k++qf (m8 d-k) 0)]) (λk=>m8 d-k) 0 m9 ⟨nb,D0⟩ ?_;rintro k u ⟨B,g⟩;have m:=cl (c:=c) p;refine ae (λe=>?_) (λe=>?_)
 .have j:k<m8 d:=nb
  refine(Seq.up l g.ac).nO k m9 j _ m9 λa3 h3=>?_;refine(Seq.up o g.ac).aW k m9 nb _ m9 ?_;refine(Av c _ u).G6 ⟨_,m9,⟨h3,I0⟩,?_⟩
  try dsimp only
  rw[mi];refine g.set ag 0 m9 (λ_=>rfl) m9 k m9 n2 _ m9 m9 m9 λA z=>⟨I0,?_⟩
  refine⟨k+1,n7,⟨nb,?_⟩,nb⟩;have i:((cN c f d).take k).length=k:=p8
  have t:((cN c f d).take k++qf (m8 d-k) 0).set k (d[k]^^^Gf.mul c (f[k]'nb))=(cN c f d).take (k+1)++qf (m8 d-(k+1)) 0:=by rw[List.set_append_right _ _ nb,i,zd,show d.length-k=m8 d-(k+1)+1 by omega,List.replicate_succ,zt,aA _ _,ql];simp[cN]
  rw[<-t];exact z
 .have:k=m8 d:=nb
  subst this;refine⟨s,m9,?_⟩;rw[qh nb,zd,List.replicate_zero,qL]at g;exact g
theorem mv(c:UInt8)(a:Sl)(b:Row)(h:hY)(g:Rd h a 1 aq b)(t:m8 b<=2^30):
  aj xT 268 #[xJ xQ c.toNat,a] h λv h'=>∃r:Sl,v=r/\Sp h h' [ai 5 r 1 aq (scaleB c b)]:=by
 refine ts Tryz.func268 ?_;have l:=g.len;refine(Sp.refl h).make ag aq cR nq 0 m9 m9 b.length b.length nb nb (qj _) nb λs k o q d=>?_;refine(jX c a s b _ k (Seq.up g d.ac) (d.seq 0 m9 λ_=>rfl) n4 n2).Hf λr p m=>⟨r,m9,r,m9,?_⟩;have e:cN c b (qf b.length 0)=scaleB c b:=gB (n:=m8 b) (by rw[cl n4];simp) (rO _ _) λj _=>by
  rw[db n4,rP,show qf b.length (0:UInt8)=aN b.length from m9,cL,UInt8.zero_xor]
 rw[<-e];exact(d.comp m).take 1 (λi A f=>by cases i with|zero=>exact f|succ i=>simp at f)
theorem px(p:Pm)(h:hY):aj xT 263 #[gx p] h λv h'=>v=xJ xP (bD p)/\Sp h h' []:=by refine ts Tryz.func263 ?_ (args:=[p]);refine(Sp.refl h).boxed λa g c=>?_;refine⟨p,(c.box 0 m9).aw _ m9,?_⟩;refine(dV p g).G7 λi f=>?_;have b:=c.comp f;have d:=b.box 0 m9;refine⟨_,m9,aH (λe=>⟨by simp[bD,e],.zip b.ac⟩) λe=>?_⟩;refine⟨_,d.cell0 m9,_,d.cell m9,?_,.zip b.ac⟩;have:=(bI p).1 e;rw[af _,bD,hZ e]
theorem kr(id:Int)(h:hY):aj xT 197 #[xJ xP id] h λv h'=>v=xN (bR id)/\h'=h:=by
 refine ts Tryz.func197 ?_;refine ae (λe=>⟨?_,m9⟩) (λe=>⟨?_,m9⟩)
 .rw[bR,ln (show 0<=id from e)];rfl
 .rw[bR,m5 (show¬0<=id from e)];rfl
theorem DU(a:fY)(s:Int)(h:hY)(d:bQ h a 306 [xJ xS s]):aj xT 272 #[xL (dB a)] h λv h'=>v=xJ xR (told s)/\bQ h' a 306 [xJ xS (tW s)]/\aQ (·≠a.block) h h':=by refine ts Tryz.func272 ?_;refine⟨a,m9,s,d.cell0 m9,a,m9,?_⟩;refine sI ag d m9 _ m9 m9 m9 (qj _) λe b c _=>?_;exact⟨a,m9,_,b.cell0 m9,nq,m9,b,c⟩
theorem Cv(a:fY)(s n:Int)(h:hY)(f:bQ h a 306 [xJ xS s])(g:0<n:=by omega)(d:n<=2^62:=by omega):aj xT 333 #[xL (dB a),xJ xP n] h λv h'=>v=xJ xP (jo s n)/\bQ h' a 306 [xJ xS (tW s)]/\aQ (·≠a.block) h h':=by refine ts Tryz.func333 ?_;refine ae (λe=>nb) λ_=>?_;refine(DU a s h f).G7 λi ⟨c,b⟩=>⟨_,m9,A7,m9,c,b⟩
theorem Jf{p:ar}(t:Sl)(lt:aC)(x a:Int)(h:hY)(j:Seq h p t 1 av lt)(q:0<=x)(b:lt.getLast?=dB a)(d:x<a)(r:m8 lt<=2^40):
  aj xT 332 #[t,xJ xP x] h λv h'=>v=xJ xP (IF lt x)/\h'=h:=by
 refine ts Tryz.func332 ?_ (F8 (E5 (F8 (E7 (E8 [(5,aI)] [(4,24)] (G0 [] [(6,14)] E6)))) E6));have o:=j.len;have c:(lt.findIdx λy=>decide (y>x))<m8 lt:=List.findIdx_lt_length_of_exists ⟨a,List.mem_of_getLast? b,B5⟩;refine ak (λk:Nat=>(k:Int)) (λk h'=>h'=h/\k<=(lt.findIdx λy=>decide (y>x))) (λk=>m8 lt-k) 0 m9 ⟨m9,nb⟩ ?_;rintro k h' ⟨rfl,i⟩;refine aE ?_;refine ae (λe=>?_) (λe=>nb);refine ae (λ_=>?_) (λe=>nb);have f:k<m8 lt:=nb
 refine j.aW k m9 f _ m9 ?_;rw[af _];refine ae (λm=>?_) (λm=>?_)
 .have:(lt.findIdx λy=>decide (y>x))=k:=Nat.le_antisymm (Nat.le_of_not_lt λg=>by have:=y8 g;simp at this;omega) i;exact⟨by rw[IF,this];rfl,m9⟩
 .refine⟨k+1,m9,⟨m9,?_⟩,nb⟩;refine Nat.lt_of_le_of_ne i λl=>?_;have:=vo (xs:=lt) (p:=λy=>decide (y>x)) (w:=c);simp only[<-l]at this;simp at this;omega
theorem NI(t:Sl)(n:Nat)(a:fY)(s:Int)(h:hY)(g:Seq h (·≠a.block) t 1 av (fH n))(l:bQ h a 306 [xJ xS s])(d:1<=n)(f:n<=20):
  aj xT 273 #[t,xL (dB a)] h λv h'=>v=xJ xP (Bp s n)/\bQ h' a 306 [xJ xS (tW s)]/\aQ (·≠a.block) h h':=by
 refine ts Tryz.func273 ?_;have j:=g.len;rw[fZ]at j;refine aZ (λe=>nb) λ_=>?_;rw[af _];refine g.aW (n-1) nb t8 _ m9 ?_;have o:(fH n)[n-1]'(by rw[fZ];omega)=((jv n n:Nat):Int):=by simp only[fH,zw,List.getElem_range];rw[show n-1+1=n by omega]
 rw[o];have p:=FF n f d;have k:=tj n f n f;refine(Cv a s _ h l).mono ?_;rintro v m ⟨rfl,i,c⟩;have b:=oa s (jv n n);refine⟨_,m9,(Jf t (fH n) _ _ m (g.ac c) b.1 (Bo n d) b.2 t8).G6 ?_⟩;exact⟨_,m9,m9,i,c⟩
def sg(r:Nat):Nat->Nat
 |0=>r
 |k+1=>sg r k/2
theorem KQ(l:Nat)(h:hY)(f:l<=20)(a:1<=l):aj xT 274 #[xJ xP l] h λv h'=>∃s:Sl,v=s/\Sp h h' [ai 3 s 1 av (fH l)]:=by
 have T:∀l:Nat,l<=20->∀r:Nat,r<=5->(∀j,j<r->j*j<l)->r*r<l->r<5:=nq
 have Y:∀l:Nat,l<=20->∀r:Nat,r<=5->(∀j,j<r->j*j<l)->¬r*r<l->r=cx l:=nq
 have M:∀r:Nat,r<=5->∀k:Nat,k<=3->0<sg r k->k<3/\qd xP (yN (sg r k:Int) 2)=(sg r (k+1):Int):=nq
 have N:∀r:Nat,r<=5->∀k:Nat,k<=3->sg r k=0->(∀j,j<k->0<sg r j)->k=ry r:=nq
 have J:∀k:Nat,k<=20->1<k->qd xP ((k:Int)*qd xP ((k:Int)-1))=((k*(k-1):Nat):Int)/\k*(k-1)≠0:=nq
 have c2:∀l:Nat,l<=20->1<=l->1<=cx l/\cx l<=5:=nq
 have c3:∀l:Nat,l<=20->1<=l->qd xP (yN (l:Int) (cx l))=((l/cx l:Nat):Int):=nq
 have V:∀l:Nat,l<=20->1<=l->∀k:Nat,k<=20->1<=k->qd xP ((l:Int)*k)≠0:=oi
 have K:∀k:Nat,k<=20->1<k->qd xP (yN (1048576:Int) (qd xP ((k:Int)*qd xP ((k:Int)-1))))=((1048576/(k*(k-1)):Nat):Int):=oi
 have R:∀l:Nat,l<=20->1<=l->qd xP (yN (1048576:Int) (l:Int))=((1048576/l:Nat):Int):=oi
 have P:∀l:Nat,l<=20->1<=l->∀k:Nat,k<=20->1<=k->qd xP (yN (qd xP ((1048576:Int)*cx l)) (qd xP ((l:Int)*k)))=((1048576*cx l/(l*k):Nat):Int):=oi
 have X:∀l:Nat,l<=20->1<=l->qd xP (yN (qd xP ((qd xP ((1048576:Int)*cx l))*ry (cx l))) (l:Int))=((1048576*cx l*ry (cx l)/l:Nat):Int):=oi
 have S:∀l:Nat,l<=20->∀k:Nat,k<=20->1048576*cx l/(l*k)<=2^30/\1048576*cx l*ry (cx l)/l<=2^30/\1048576/(k*(k-1))<=2^30/\1048576/l<=2^30:=oi
 refine ts Tryz.func274 ?_ (F8 (G0 [] [(2,3),(12,18)] (F8 (F8 (E5 (E7 (E8 [(4,aI)] [(4,5),(18,25)] E6)) (F8 (E5 (F8 (E7 (E8 [(6,aI),(7,aI)] [(6,8),(29,35)] E6))) (F8 (F8 (E5 (F8 (E7 (E8 [(8,bJ),(9,aI),(10,aI)] [(8,12),(35,82)] (F8 (E5 (E7 (F8 (G0 [(11,aI)] [(11,12),(43,51)] (G0 [(11,aI)] [(11,12),(51,63)] (G0 [(11,aI)] [(11,12),(63,75)] E6))))) E6))))) E6))))))))));refine aE (ae (λe=>nb) λ_=>ae (λe=>nb) λ_=>?_);refine ak (λr:Nat=>(r:Int)) (λr h'=>h'=h/\r<=5/\∀j,j<r->j*j<l) (λr=>5-r) 0 m9 ⟨m9,nb,λj q=>nb⟩ ?_;rintro r h' ⟨rfl,y,q⟩;have Z:r*r<=25:=zq y y;have e:qd xP ((r:Int)*(r:Int))=((r*r:Nat):Int):=by rw[<-Int.natCast_mul];exact kv _
 rw[e];refine ae (λW=>?_) (λL=>?_)
 .have g:r*r<l:=nb
  have G:=T l f r y q g;refine⟨r+1,n7,⟨m9,nb,λj b=>?_⟩,nb⟩;rcases q8.1 b with b|rfl
  .exact q j b
  .exact g
 .have D:=Y l f r y q nb;have o:=c2 l f a;rw[D];refine⟨nb,?_⟩;refine ak (λk:Nat=>((k:Int),(sg (cx l) k:Int))) (λk z=>z=h'/\k<=3/\∀j,j<k->0<sg (cx l) j) (λk=>3-k) 0 m9 ⟨m9,nb,λj q=>nb⟩ ?_;rintro k z ⟨rfl,A,u⟩
  try dsimp only
  refine ae (λm=>?_) (λm=>?_)
  .have H:=M _ o.2 k A nb;refine⟨nq,k+1,?_,⟨m9,nb,λj b=>?_⟩,nb⟩
   .rw[H.2,af _];rfl
   .rcases q8.1 b with b|rfl
    .exact u j b
    .omega
  .have B:=N _ o.2 k A nb u;subst B;refine ak (λt:Sl×Nat=>(t.1,((jv l t.2:Nat):Int),((t.2+1:Nat):Int))) (λt h'=>t.2<=l/\Sp z h' [ai 3 t.1 1 av ((fH l).take t.2)]) (λt=>l-t.2) (⟨eH,0,0⟩,0) m9 ⟨n4,aa.nil (Sp.refl z) 3 1 av⟩ ?_;rintro⟨s,k⟩ h3 ⟨A,F⟩;dsimp only at*;refine ae (λe=>?_) (λe=>?_)
   .have d:k+1<=20:=nb
    have w:=S l f (k+1) d;have b3:=tj l f k nb;have b4:=Bn l f (k+1) d;refine⟨nb,bn (λx h'=>x=(((if k+1>1 then 1048576/((k+1)*(k+1-1))else 1048576/l):Nat):Int)/\h'=h3) ?_ ?_⟩
    .refine ae (λm=>?_) (λm=>?_)
     .have:=J (k+1) d nb;exact⟨by rw[this.1];omega,by rw[K (k+1) d nb,hZ nb],m9⟩
     .exact⟨by rw[R l f a,k4 nb],m9⟩
    .rintro x I ⟨rfl,rfl⟩;have H:(if k+1>1 then 1048576/((k+1)*(k+1-1))else 1048576/l)<=2^30:=by split<;>first|exact w.2.2.1|exact w.2.2.2
     refine bn (λx h'=>x=(((if k+1>1 then 1048576/((k+1)*(k+1-1))else 1048576/l)+(if k+1<l/cx l then 1048576*cx l/(l*(k+1))else 0):Nat):Int)/\h'=I) ?_ ?_
     .rw[c3 l f a];refine ae (λm=>⟨V l f a (k+1) d nb,?_,m9⟩) (λm=>⟨?_,m9⟩)
      .rw[P l f a (k+1) d nb,EJ _ _ nb (qX w.1 nq),hZ (c:=k+1<l/cx l) (xA.1 m)]
      .rw[k4 (c:=k+1<l/cx l) λE=>m (xA.2 E)];rfl
     .rintro x G ⟨rfl,rfl⟩;refine bn (λx h'=>x=((lx l (k+1):Nat):Int)/\h'=G) ?_ ?_
      .rw[c3 l f a];refine aZ (λp=>⟨nb,?_,m9⟩) (λp=>⟨?_,m9⟩)
       .have i:k+1=l/cx l:=yQ.1 p;rw[X l f a,k4 (c:=k+1<l/cx l) nb,yn,EJ _ _ nb (qX w.2.1 nq),lx,k4 (c:=k+1<l/cx l) nb,hZ (c:=k+1=l/cx l) i]
       .have i:¬k+1=l/cx l:=λE=>p (yQ.2 E);rw[lx,k4 (c:=k+1=l/cx l) i]
      .rintro x h6 ⟨rfl,rfl⟩;have p:qd xP ((jv l k:Int)+(lx l (k+1):Int))=((jv l (k+1):Nat):Int):=by rw[af _,jv];rfl
       rw[p];refine F.push ag 0 m9 ge m9 nq (λ_=>rfl) dt _ m9 nq p8 λQ I O=>?_;refine⟨(Q,k+1),n3,⟨n1,?_⟩,n1⟩;have U:(fH l).take (k+1)=(fH l).take k++[((jv l (k+1):Nat):Int)]:=by rw[aA _ _ t8];simp[fH]
       dsimp only;rw[U];exact O
   .refine⟨s,m9,?_⟩;rw[qh t8]at F;exact F
theorem DV(b:Sl)(l:aT)(h:hY)(d:Rd h b 1 aq l)(k:m8 l<=4):aj xT 217 #[b] h λv h'=>v=xJ xP (dp l)/\h'=h:=by
 refine ts Tryz.func217 ?_ (F8 (F8 (F9 [(3,aI),(7,aI)] [(3,5),(7,19)])));have f:=d.len;refine ak (λi:Nat=>(dp (l.take i),(i:Int))) (λi h'=>i<=m8 l/\h'=h) (λi=>m8 l-i) 0 m9 ⟨nb,m9⟩ ?_;rintro i o ⟨p,rfl⟩
 try dsimp only
 refine ae (λe=>?_) (λe=>?_)
 .have a:i<m8 l:=nb
  refine⟨nq,d.aW i m9 a (l[i].toNat:Int) m9 ?_⟩;have c:=(BI (l.take i) n2)
  have j:=c.2.2 n2;have m:=l[i].toNat_lt;obtain⟨n,g⟩:∃n:Nat,dp (l.take i)=(n:Int):=⟨(dp (l.take i)).toNat,nb⟩
  refine⟨i+1,?_,⟨nb,m9⟩,nb⟩;rw[aA _ _ a,He,g,Vs n _,af ((i:Int)+1)];rfl
 .rw[qh nb];exact⟨m9,m9⟩
theorem HW(k:Int)(b:aT):(eZ k b).length<=64:=by
 by_cases h:1<=k/\k<=255/\b.length<=55
 .rw[nE h.1 h.2.1 h.2.2];exact qj _
 .unfold eZ;rw[k4 h];exact qW _
theorem Jg(b:Sl)(c:aT)(h:hY)(j:Rd h b 1 aq c)(A:m8 c<=2^30)(f:b.len<=b.cap):
  aj xT 216 #[b] h λv h'=>(gH c=eH->v=.tuple #[xJ xP 0,xK eH 0 0,xN eR]/\Sp h h' [])/\
   ∀k x,gH c=dB (k,x)->∃r:Sl,v=.tuple #[xJ xP k,r,xN eL]/\Sp h h' [ai 5 r 1 aq x]:=by
 refine ts Tryz.func216 ?_;have y:=j.len;refine bm (λe=>?_) (λe=>?_)
 .have:gH c=eH:=by unfold gH;rw[k4 λa=>e nb]
  rw[this];exact⟨λ_=>⟨m9,Sp.refl h⟩,λk x h=>p9⟩
 have p:m8 c=64:=nb
 have h3:3<m8 c:=nb
 refine j.nO 3 m9 h3 ((c.getD 3 0).toNat:Int) (by rw[getD_lt h3];rfl) λB q=>⟨⟨nq,nq,nb⟩,?_⟩
 have g:=(j.drop 4 f).take 55 n2;have d:((c.drop 4).take 55).length=55:=n2
 refine((Sp.refl h).nil 5 1 aq).append ag 0 m9 cR ⟨_,_,m9,m9⟩ m9 nq (λ_=>rfl) g cH (by rw[d];decide) λr s i=>?_;have i:Sp h s [ai 5 r 1 aq ((c.drop 4).take 55)]:=i;refine⟨gP i.ac ⟨q,I0⟩,?_⟩;have z:=(c.getD 3 0).toNat_lt;rw[af ((c.getD 3 0).toNat:Int)];refine(DI ((c.getD 3 0).toNat:Int) r ((c.drop 4).take 55) s (i.seq 0 m9 λ_=>rfl)).Hf λt w u=>?_;have l:=i.comp u;refine⟨t,m9,(lU t b _ c w (l.seq 1 m9 λ_=>rfl) (j.up l.ac) ?_).mono ?_⟩
 .exact qX (HW _ _) nq
 rintro _ h3 ⟨rfl,rfl⟩;refine⟨_,m9,aH (λn=>?_) λn=>?_⟩
 .have m:¬eZ ((c.getD 3 0).toNat:Int) ((c.drop 4).take 55)=c:=of_decide_eq_false n;have:gH c=eH:=by unfold gH;rw[k4 λa=>m a.2]
  rw[this];exact⟨λ_=>⟨m9,.zip l.ac⟩,λk x h=>p9⟩
 .have o:eZ ((c.getD 3 0).toNat:Int) ((c.drop 4).take 55)=c:=m6 n;have:gH c=dB (((c.getD 3 0).toNat:Int),(c.drop 4).take 55):=by unfold gH;rw[hZ ⟨p,o⟩]
  rw[this];refine⟨λh=>p9,λk x a=>?_⟩;injection a with a
  injection a with hh1 hh2
  subst hh1;subst hh2;exact⟨r,m9,l.bs [0]⟩
theorem DW(x:bw)(r:ct)(h:hY)(w:fm cK h x r):aj xT 200 #[recv x] h λv h'=>v=xN (jR r)/\Sp h h' []:=by
 refine ts Tryz.func200 ?_ (args:=[x]);obtain⟨⟨E,B,D,o,J,_⟩,A⟩:=w;have q:x.2.2.2.1=r.p.1:=congrArg (·.1) o;have n:x.2.2.2.2.1=r.p.2.1:=congrArg (·.2.1) o;have k:x.2.2.2.2.2.1=r.p.2.2:=congrArg (·.2.2) o;have z:=Seq.len A;refine(Sp.refl h).boxed λe i b=>?_;have b:Sp h i [an e 128 (bB x)]:=b;have l:=b.box 0 m9;have u:hU i e=dB (xJ xP r.object):=by rw[<-E];exact l.cell0 m9
 have t:hU i (e.add 1)=dB (xJ xP r.block):=by rw[<-B];exact l.cell m9
 have F:hU i (e.add 2)=dB (xJ xP r.id):=by rw[<-D];exact l.cell m9
 have c:∀{h':hY},Sp h h' [an e 128 (bB x)]->(jR r=eL->False)->Value.bool eR=xN (jR r)/\Sp h h' []:=λ{h'} H' hn=>⟨by cases hq:jR r with|false=>rfl|true=>exact absurd hq hn,.zip H'.ac⟩
 have d:∀a:jR r=eL,(0<=r.object/\r.object<=16777215)/\(0<=r.block/\r.block<=7)/\(0<=r.id/\r.id<=65535)/\bH r.p=eL/\(r.data.length:Int)=r.p.2.2:=λa=>(jS r).1 a;refine⟨_,u,ae (λH=>⟨_,u,ae (λK=>⟨_,t,ae (λI=>⟨_,t,ae (λG=>⟨_,F,(kr r.id i).mono ?_⟩) λg=>c b λa=>g B7⟩) λg=>c b λa=>g B7⟩) λg=>c b λa=>g B7⟩) λg=>c b λa=>g B7⟩;rintro _ _ ⟨rfl,rfl⟩;refine⟨_,m9,aS (λf=>?_) λf=>c b λa=>by have:=d a;unfold bR at f;simp at f;omega⟩;refine⟨r.p,by rw[<-q,<-n,<-k];exact l.mE 3 m9 m9 m9,(dV r.p _).G7 λh3 y=>?_⟩;have s:Sp h h3 [an e 128 (bB x)]:=b.up y.ac;have j:=s.box 0 m9;refine⟨_,m9,aS (λm=>?_) λm=>c s λa=>by have:=(d a).2.2.2.1;rw[m]at this;cases this⟩;refine⟨x.2.2.2.2.2.2.2,j.cell m9,r.p.2.2,by rw[<-k];exact j.mh 3 2 m9,?_,.zip s.ac⟩;have hid:0<=r.id/\r.id<=65535:=by unfold bR at f;simp at f;omega
 have:(((x.2.2.2.2.2.2.2.len:Nat):Int)==r.p.2.2)=jR r:=by
  rw[yG,jS,beq_iff_eq];constructor
  .intro a;exact⟨nb,nb,hid,m,nb⟩
  .rintro⟨_,_,_,_,a⟩;omega
 rw[this]
theorem uE(x:bw)(r:ct)(h:hY)(H:fm cK h x r):aj xT 122 #[recv x] h λv h'=>∃s:Sl,v=s/\Sp h h' [ai 5 s 1 aq (gn r)]:=by
 refine ts Tryz.func122 ?_ (F8 (F8 (G0 [(3,bJ)] [(3,4),(7,16)] E6))) [(3,(.l [0,1,3,4,6,7,2,5,8,9])),(5,(.l [0,1,2,3,5,6,4,7,8,9]))] (args:=[x]);obtain⟨⟨e1,O,B,z,q,e7,e8⟩,T⟩:=id H;have E:x.2.2.2.1=r.p.1:=congrArg (·.1) z;have y:x.2.2.2.2.1=r.p.2.1:=congrArg (·.2.1) z;have D:x.2.2.2.2.2.1=r.p.2.2:=congrArg (·.2.2) z;refine(Sp.refl h).boxed λt M c=>?_;have c:Sp h M [an t 128 (bB x)]:=c;refine⟨x,(c.box 0 m9).aw _ m9,(DW x r M (cK.mono (cK.loc H c.ac) λ_ W=>Nat.lt_of_lt_of_le W c.ac.1)).G7 λY R2=>?_⟩;have u:Sp h Y [an t 128 (bB x)]:=c.up R2.ac;refine⟨_,m9,aH (λg=>?_) λg=>?_⟩
 .unfold gn;rw[g];exact⟨⟨eH,0,0⟩,m9,(u.nil 5 1 aq).bs [1]⟩
 have ab:=rN g;have b:=u.box 0 m9;refine aE ⟨r.object,by rw[<-e1];exact b.cell0 m9,r.block,by rw[<-O];exact b.cell m9,r.id,by rw[<-B];exact b.cell m9,(jC ⟨eH,0,0⟩ [] r.object 3 nq n4 (u.nil 5 1 aq).ba).Hf λL h3 P=>?_⟩;have m:=P.box 1 m9;refine⟨L,m9,⟨by rw[<-B];exact m.cell m9,by rw[<-O];exact m.cell m9,I0⟩,(jC L _ r.block 1 nq p7 P).Hf λG h4 I=>?_⟩;have F:=I.box 1 m9;refine⟨G,m9,⟨by rw[<-B];exact F.cell m9,I0⟩,(jC G _ r.id 2 nq p7 I).Hf λX h5 R=>?_⟩;have a:=R.box 1 m9;refine⟨X,m9,I0,r.p.1,by rw[<-E];exact a.cell m9,r.p.2.1,by rw[<-y];exact a.mh 3 1 m9,r.p.2.2,by rw[<-D];exact a.mh 3 2 m9,?_⟩
 try dsimp only
 rw[cg,cg,cg];refine R.lit ag aq cR m9 [b8 r.p.1,b8 r.p.2.1,b8 r.p.2.2] m9 (show 3*1<=2^20 by decide) m9 λU h6 N=>?_;refine N.append ag 0 m9 cR ⟨_,_,m9,m9⟩ m9 nq (λ_=>rfl) (N.seq 2 m9 λ_=>rfl) cH p7 λQ Z o=>?_;have o:Sp h Z [ai 5 Q 1 aq ([]++cD r.object 3++cD r.block 1++cD r.id 2++[b8 r.p.1,b8 r.p.2.1,b8 r.p.2.2]),an t 128 (bB x)]:=o.bs [0,1];have k:=o.box 1 m9;refine⟨r.seed,by rw[<-q];exact k.cell m9,x.2.2.2.2.2.2.2,k.cell m9,?_⟩;rw[af r.seed];refine(jC Q _ r.seed 4 nq p7 o).Hf λs8 h8 w=>?_;have e:=w.box 1 m9;refine⟨s8,m9,⟨e.cell m9,by rw[<-q];exact e.cell m9,I0⟩,?_⟩;refine w.append ag 0 m9 cR ⟨_,_,m9,m9⟩ m9 nq (λ_=>rfl) (Seq.up T w.ac) cH o9 λJ K d=>?_;have S:[]++cD r.object 3++cD r.block 1++cD r.id 2++[b8 r.p.1,b8 r.p.2.1,b8 r.p.2.2]++cD r.seed 4++r.data=oN r:=by unfold oN;simp[ql]
 have d:Sp h K [ai 5 J 1 aq (oN r),an t 128 (bB x)]:=by rw[<-S];exact d
 have A:=d.box 1 m9;refine⟨⟨by rw[<-q];exact A.cell m9,I0⟩,(DI 1 J (oN r) K (d.seq 0 m9 λ_=>rfl)).Hf λf V i=>?_⟩;have j:=(d.comp i).box 1 m9;refine⟨f,m9,⟨by rw[<-q];exact j.cell m9,I0⟩,f,m9,?_⟩;unfold gn;rw[g,hZ rfl];exact(d.comp i).bs [2]
theorem xW{x:aT}{j:Nat}(a:j<m8 x:=by omega):dp ((x.drop j).take 1)=(x[j].toNat:Int):=by rw[qT a];show dp [x[j]]=_;unfold dp;show(0:Int)*256+(x[j].toNat:Int)=_;omega
theorem Jh(b:Sl)(c:aT)(h:hY)(hb:Rd h b 1 aq c)(hc:c.length<=2^30)(P:b.len<=b.cap):
  aj xT 152 #[b] h λv h'=>∃x:bw,v=.tuple #[recv x,xN (dq c).isSome]/\((dq c=eH/\Sp h h' [])∨∃R,dq c=dB R/\Sp h h' [EA cK x R]):=by
 refine ts Tryz.func152 ?_ (F8 (F8 (G0 [] [(3,4),(14,21)] (G0 [(7,(.sc .adr))] [(7,8),(21,49)] E6)))) [(4,(.y [0,1,3,4,5,6,7,8,10,11,12,13,14,15,16,17,18,19,20,21,22,23,24] (.y [2] (.y [9] (.l [25,26,27,28,29]) (.l [28,25,26,27,29])) (.l [28,9,25,26,27,29])) (.l [28,2,9,25,26,27,29])))];refine(Sp.refl h).alloc ag m9 λt h1 U=>?_;have U:Sp h h1 [an t 128 (bB (0,0,0,0,0,0,0,⟨eH,0,0⟩))]:=U;have D:∀{h':hY} {Bs:List HP},Sp h h' (an t 128 (bB (0,0,0,0,0,0,0,⟨eH,0,0⟩))::Bs)->dq c=eH->
   au xT (qG 128 (xL (dB t)) (recv (0,0,0,0,0,0,0,⟨eH,0,0⟩))) h' λ_ F=>∃ab:bw,bp F t 0 (bB ab)/\∃x:bw,Value.tuple #[recv ab,xN eR]=.tuple #[recv x,xN (dq c).isSome]/\((dq c=eH/\Sp h F [])∨∃R,dq c=dB R/\Sp h F [EA cK x R]):=λ{h' Bs} Q hn=>by
  refine Q.storeAll ag 0 m9 m9 (bB (0,0,0,0,0,0,0,⟨eH,0,0⟩)) m9 m9 m9 m9 λF H4=>?_;exact⟨(0,0,0,0,0,0,0,⟨eH,0,0⟩),(H4.box 0 m9).aw _ m9,(0,0,0,0,0,0,0,⟨eH,0,0⟩),by rw[hn];rfl,.inl ⟨hn,.zip H4.ac⟩⟩
 refine(Jg b c h1 (hb.up U.ac) hc P).mono ?_;rintro _ f ⟨Q0,Q1⟩;cases htc:gH c with
 |none=>
  obtain⟨rfl,R2⟩:=Q0 htc;have hn:dq c=eH:=by unfold dq;rw[htc]
  exact⟨(0,⟨eH,0,0⟩,eR),m9,aE (aH (λ_=>D (U.up R2.ac) hn) λe=>n5)⟩
 |some kx=>
  obtain⟨k,x⟩:=kx;obtain⟨r,rfl,R2⟩:=Q1 k x htc;have S:Sp h f [an t 128 (bB (0,0,0,0,0,0,0,⟨eH,0,0⟩)),ai 5 r 1 aq x]:=U.comp R2;have a5:x.length=55:=by
   unfold gH at htc;split at htc
   .rename_i o;injection htc with htc
    injection htc with _ htc
    rw[<-htc];simp;omega
   .cases htc
  have bb:=(S.own 1 m9).len;have H:=(S.own 1 m9).cap;refine⟨(k,r,eL),m9,aE (aH (λe=>n5) λ_=>bm (λe=>D S ?_) λN=>?_)⟩
  .unfold dq;rw[htc];exact k4 λo=>e o.1
  try dsimp only
  have N:k=1:=N;obtain⟨R,E⟩:=HF (uP x)
  have I:dq c=if bH R.p=eL/\gn R=c then dB R else eH:=by
   unfold dq;rw[htc]
   try dsimp only
   rw[<-E];by_cases o:bH R.p=eL/\gn R=c
   .rw[hZ o];exact hZ ⟨N,o⟩
   .rw[k4 o];exact k4 λh=>o h.2
  have i:Rd f r 1 aq x:=S.seq 1 m9 λ_=>rfl;have tA:∀{h':hY},Rd h' r 1 aq x->aj xT 217 #[xK r.ptr 3 r.cap] h' λv M=>v=xJ xP R.object/\M=h':=λ{h'} hr=>by
   rw[E];exact DV ⟨r.ptr,3,r.cap⟩ (x.take 3) h' (hr.take 3 nb) n2
  have tB:∀{h':hY} (j n:Nat),j+n<=55->n<=4->Rd h' r 1 aq x->aj xT 217 #[.slice (if r.cap=j then r.ptr else r.ptr.map (·.add (j*1))) n (r.cap-j)] h' λv M=>v=xJ xP (dp ((x.drop j).take n))/\M=h':=λ{h'} j n h1 f hr=>
   DV ⟨if r.cap=j then r.ptr else r.ptr.map (·.add (j*1)),n,r.cap-j⟩ ((x.drop j).take n) h' ((hr.drop j H).take n o6) n2
  have ei:dp ((x.drop 4).take 2)=R.id:=by rw[E];rfl
  have es:dp ((x.drop 9).take 4)=R.seed:=by rw[E];rfl
  have e3:R.block=(x[3].toNat:Int):=D3
  have e6:R.p.1=(x[6].toNat:Int):=D3
  have e7:R.p.2.1=(x[7].toNat:Int):=D3
  have e8:R.p.2.2=(x[8].toNat:Int):=D3
  have A:0<=R.seed/\R.seed<4294967296:=by have:=BI ((x.drop 9).take 4) n2;rw[<-es];exact⟨this.1,this.2.1⟩
  have ew:qd xR R.seed=R.seed:=by unfold qd;simp[qq,yC];omega
  refine bn (λ(a:fY) h'=>Sp h h' [an a 128 (bB (R.object,R.block,R.id,R.p.1,R.p.2.1,R.p.2.2,R.seed,⟨eH,0,0⟩)),an t 128 (bB (0,0,0,0,0,0,0,⟨eH,0,0⟩)),ai 5 r 1 aq x]) ?_ ?_
  .refine⟨⟨nq,nb⟩,i.nO 3 m9 nb (x[3].toNat:Int) m9 λa6 c6=>⟨⟨nq,nq,nb⟩,i.nO 6 m9 nb (x[6].toNat:Int) m9 λa8 c8=>i.nO 7 m9 nb (x[7].toNat:Int) m9 λap ax=>i.nO 8 m9 nb (x[8].toNat:Int) m9 λay a0=>⟨⟨nq,nq,nb⟩,?_⟩⟩⟩;have w:∀z:UInt8,qd xP (z.toNat:Int)=(z.toNat:Int):=λz=>by have:=z.toNat_lt;exact af _
   rw[w,w,w,w];have held:∀{h':hY},aQ (λb=>b<f.size) f h'->bK.ok [(ay.add ((8:Int).toNat*1),xJ xQ (x[8].toNat:Int)),(ap.add ((7:Int).toNat*1),xJ xQ (x[7].toNat:Int)),(a8.add ((6:Int).toNat*1),xJ xQ (x[6].toNat:Int)),(a6.add ((3:Int).toNat*1),xJ xQ (x[3].toNat:Int))] h':=λ{h'} d=>gP d ⟨a0,ax,c8,c6,I0⟩;have A_:∀{h':hY} {K:Int->hY->Prop},aQ (λb=>b<f.size) f h'->K R.object h'->jZ xT 217 #[xK r.ptr 3 r.cap] (.one (.sc (.int .i64))) h' K:=λ{h' K} d hK=>by
    refine(tA (i.up d)).G6 ⟨_,m9,hK⟩
   have B_:∀{h':hY} {K:Int->hY->Prop},aQ (λb=>b<f.size) f h'->K R.id h'->jZ xT 217 #[.slice (if r.cap=4 then r.ptr else r.ptr.map (·.add (4*1))) 2 (r.cap-4)] (.one (.sc (.int .i64))) h' K:=λ{h' K} d hK=>by
    refine(tB 4 2 nq nq (i.up d)).G6 ⟨_,m9,by rw[ei];exact hK⟩
   have C_:∀{h':hY} {K:Int->hY->Prop},aQ (λb=>b<f.size) f h'->K R.seed h'->jZ xT 217 #[.slice (if r.cap=9 then r.ptr else r.ptr.map (·.add (9*1))) 4 (r.cap-9)] (.one (.sc (.int .i64))) h' K:=λ{h' K} d hK=>by
    refine(tB 9 4 nq nq (i.up d)).G6 ⟨_,m9,by rw[es];exact hK⟩
   have fin:∀{h':hY} {a:fY},Sp h h' [an t 128 (bB (0,0,0,0,0,0,0,⟨eH,0,0⟩)),ai 5 r 1 aq x,an a 128 (bB (0,0,0,0,0,0,0,⟨eH,0,0⟩))]->
     au xT (qG 128 (xL (dB a)) (recv (R.object,x[3].toNat,R.id,x[6].toNat,x[7].toNat,x[8].toNat,qd xR R.seed,⟨eH,0,0⟩))) h' λ_ F=>bK.ok [] F/\Sp h F [an a 128 (bB (R.object,R.block,R.id,R.p.1,R.p.2.1,R.p.2.2,R.seed,⟨eH,0,0⟩)),an t 128 (bB (0,0,0,0,0,0,0,⟨eH,0,0⟩)),ai 5 r 1 aq x]:=λ{h' a} Q=>by
    rw[ew,<-e3,<-e6,<-e7,<-e8];exact Q.storeAll ag 2 m9 m9 (bB (R.object,R.block,R.id,R.p.1,R.p.2.1,R.p.2.2,R.seed,⟨eH,0,0⟩)) m9 m9 m9 m9 λF H4=>⟨I0,H4.bs [2,0,1]⟩
   have O:=aQ.refl (λb=>b<f.size) f;have al:∀{K:fY->hY->Prop},(∀a h',aQ (λb=>b<f.size) f h'->Sp h h' [an t 128 (bB (0,0,0,0,0,0,0,⟨eH,0,0⟩)),ai 5 r 1 aq x,an a 128 (bB (0,0,0,0,0,0,0,⟨eH,0,0⟩))]->K a h')->rv xT (Instr.alloc 128 eL (.tuple #[])) f K:=λ{K} hk=>by
    refine S.ub ag m9 ?_;exactλa h' d Q=>hk a h' d Q
   refine⟨A_ O ⟨held O,B_ O ⟨held O,C_ O ⟨held O,al λa h9 d L=>⟨held d,fin L⟩⟩,al λa h9 d L=>⟨held d,C_ d ⟨held d,fin L⟩⟩⟩,al λa h9 d L=>⟨held d,B_ d ⟨held d,C_ d ⟨held d,fin L⟩⟩⟩⟩,al λa h9 d L=>⟨held d,A_ d ⟨held d,B_ d ⟨held d,C_ d ⟨held d,fin L⟩⟩⟩⟩⟩
  .rintro a9 a3 Y;refine⟨R.p,(Y.box 0 m9).mE 3 m9 m9 m9,(dV R.p a3).G7 λao a2=>?_⟩;have J:Sp h ao [an a9 128 (bB (R.object,R.block,R.id,R.p.1,R.p.2.1,R.p.2.2,R.seed,⟨eH,0,0⟩)),an t 128 (bB (0,0,0,0,0,0,0,⟨eH,0,0⟩)),ai 5 r 1 aq x]:=Y.up a2.ac;refine⟨_,m9,aH (λg=>D (J.aF 2 [1,0]) (by rw[I,k4 λo=>by rw[g]at o;cases o.1])) λg=>?_⟩;have a7:=(bI R.p).1 g;refine⟨R.p.2.2,(J.box 0 m9).mh 3 2 m9,?_⟩
   try dsimp only
   rw[af ((13:Int)+R.p.2.2)];refine⟨⟨nq,nb,nb⟩,?_⟩;have ah:((13:Int)+R.p.2.2).toNat-(13:Int).toNat=R.p.2.2.toNat:=nb
   rw[ah];have G:(x.drop 13).take R.p.2.2.toNat=R.data:=by rw[E];rfl
   obtain⟨u,hu⟩:∃u:Sl,u=⟨if r.cap=13 then r.ptr else r.ptr.map (·.add (13*1)),R.p.2.2.toNat,r.cap-13⟩:=⟨_,rfl⟩
   have T:∀{h':hY},Rd h' r 1 aq x->Rd h' u 1 aq R.data:=λ{h'} hr=>by
    rw[hu,<-G];exact(hr.drop 13 H).take R.p.2.2.toNat o6
   refine J.store ag 0 m9 m9 7 [u] (by rw[hu];rfl) m9 m9 n4 λV m=>?_;have m:Sp h V [an a9 128 (bB (R.object,R.block,R.id,R.p.1,R.p.2.1,R.p.2.2,R.seed,u)),an t 128 (bB (0,0,0,0,0,0,0,⟨eH,0,0⟩)),ai 5 r 1 aq x]:=m;obtain⟨X,hX⟩:∃X:bw,X=(R.object,R.block,R.id,R.p.1,R.p.2.1,R.p.2.2,R.seed,u):=⟨_,rfl⟩
   rw[<-hX]at m;refine⟨X,(m.box 0 m9).aw _ m9,(uE X R V (by rw[hX];exact⟨⟨m9,m9,m9,m9,m9,A⟩,T (m.seq 2 m9 λ_=>rfl)⟩)).Hf λs5 a4 am=>?_⟩;have B:=m.comp am;refine⟨s5,m9,(lU s5 b (gn R) c a4 (B.seq 3 m9 λ_=>rfl) (hb.up B.ac) ?_).mono ?_⟩
   .unfold gn;split
    .exact qX (HW _ _) nq
    .exact qW _
   rintro _ bd ⟨rfl,rfl⟩;refine⟨_,m9,aH (λW=>D (B.aF 2 [1,0]) (by rw[I,k4 λo=>(of_decide_eq_false W) o.2])) λW=>?_⟩;have W:gn R=c:=m6 W;refine⟨X,(B.box 0 m9).aw _ m9,?_⟩;refine B.storeAll ag 1 m9 m9 (bB X) m9 m9 m9 m9 λZ ad=>?_;have s:dq c=dB R:=by rw[I,hZ ⟨g,W⟩]
   refine⟨X,(ad.box 1 m9).aw _ m9,X,by rw[s];rfl,.inr ⟨R,s,?_⟩⟩;refine(ad.bs [2]).dY 0 m9 λq hq=>?_;have hs:Seq Z q r 1 aq x:=hq.1.seq (λ_=>rfl) hq.2;rw[hX];refine⟨⟨m9,m9,m9,m9,m9,A⟩,?_⟩;show Seq Z q u 1 aq R.data;rw[hu,<-G];exact(hs.drop 13 H).take R.p.2.2.toNat o6
section
variable {pw:fY} {w:Pow}
theorem QY(n:Int)(c:n<2^62)(H:aa B h0 h (fv a pw da offs w ds m::As)):aj xT 16 #[xL (dB pw),xJ xP n] h λv h'=>v=.tuple #[]/\aa B h0 h' (fv a pw da offs (w.arm n) ds m::As):=by obtain⟨x,H⟩:=fP H;obtain⟨ok,d⟩:=H.gM;refine(Yi n c (d.aF 2 [1,0])).mono ?_;rintro _ h' ⟨rfl,b⟩;exact⟨m9,mb ((b.aF 2 [1,0]).je ok)⟩
theorem YY(H:aa B h0 h (fv a pw da offs w ds m::As)):aj xT 27 #[xL (dB pw)] h λv h'=>v=xN w.step.1/\aa B h0 h' (fv a pw da offs w.step.2 ds m::As):=by obtain⟨x,H⟩:=fP H;obtain⟨ok,c⟩:=H.gM;refine(vJ (c.aF 2 [1,0])).mono ?_;rintro _ h' ⟨rfl,b⟩;exact⟨m9,mb ((b.aF 2 [1,0]).je ok)⟩
end
def aez(W:cV):Nat:=W.flatten.foldr (λx a=>max a x.toNat) 0
def adu(live:aC)(s:Int):Int:=match live.idxOf? s with|some k=>(k:Int)|none=>-1
structure Blk where
 o:Int
 b:Int
 seed:Int
 M:aO
 W:cV
 got:aC
 deriving Inhabited
section
variable {pw:fY} {w:Pow}
end
structure aeP (m:aB) (live:aC) (x:Blk):Prop where
 seed:0<=x.seed/\x.seed<4294967296
 ev:aU m.p.2.2.toNat x.M
 ml:m8 x.M=(bD m.p).toNat
 wl:m8 x.W=m8 live
 rl:∀l∈x.W,m8 l<=2^12+m8 x.got
 top:aez x.W<=2^20+m8 x.got
 gl:m8 x.got<=64
 gi:∀s∈x.got,s∈live
variable {s:Sl} {W:cV} {k:Nat}
variable {b cd:fY} {x:Blk}
section
variable {pw:fY} {w:Pow}
end
structure aeV (ds ds':aG):Prop where
 len:m8 ds'=m8 ds
 at_:∀k,(bX ds' k).map bu.lost=(bX ds k).map bu.lost
section
variable {pw:fY} {w:Pow}
end
def aau(r:ct):Int×Int×Int:=(r.object,r.block,r.id)
section
variable {C:Int->aT} {w:Pow}
def Low(m:aB)(a:aG):Prop:=∀k d,bX a k=dB d->∀c∈d.l,∀r,dq c=dB r->dK m r=eL->r.id<m.p.1+m.extra
structure Full (m:aB) (C:Int->aT) (ds:aG):Prop where
 live:∀k∈m.drives,∃d,bX ds k=dB d/\d.lost=eR/\jt m d.l=eL
 all:∀e∈m.objs,∀i:Nat,i<e.tries.length->∀id:Nat,id<(m.p.1+m.extra).toNat->∃k∈m.drives,∃d,bX ds k=dB d/\gn (SZ m e.object i (fx e.object i (e.tries.getD i 0)) (TF m C e.object i) id)∈d.l
end
def py(m:aB)(i:Nat):aB:={m with seq:=m.seq+1,objs:=m.objs.take i++m.objs.drop (i+1)}
def cA(m:aB)(a:Int)(w:Pow)(c:aG)(b:ByteArray):Int×aB×Pow×aG:=
 if gy w a then(14,m,w,c)else if m.objs.any (dH b)=eR then(5,m,w,c)else if m.seq>=2147483647 then(7,m,w,c)else
 cm m a w c (py m (m.objs.findIdx (dH b)))
theorem NJ{C:Ctx}{t e k:Nat}{z:aR}{c:Nat}{h:hY}{s:Sl}(b:C.Ok)(a:bO C.toAA t e k z c){x y u:Int}(i j n:Nat)(f:x=i)(I:y=j)(F:u=n)(q:i<=j)(A:j<=n)(h3:n<=s.cap){K:Sl->hY->Prop}(g:∀v,K v h):
  bC C.P (w5 t (xK s.ptr s.len s.cap) (dB (xJ xP x)) (dB (xJ xP y)) (dB (xJ xP u))) (.one (.sc .slc)) h K:=by
 subst f;subst I;subst F;have m:aL C.P (zY eL s.len s.cap (dB (xJ xP (i:Int))) (dB (xJ xP (j:Int))) (dB (xJ xP (n:Int)))) (i,j,n):=λw=>by
  have D:¬((n:Int)<0):=nb
  have x2:¬((s.cap:Int)<(n:Int)):=nb
  have x3:(n:Int)<=(s.cap:Int):=nb
  have r:(0:Int)<=(n:Int):=nb
  have p:(0:Int)<=(j:Int):=nb
  have l:(0:Int)<=(i:Int):=nb
  have o:(j:Int)<=(n:Int):=nb
  have H:(i:Int)<=(j:Int):=nb
  have L:¬((j:Int)<0):=nb
  have d:¬((i:Int)<0):=nb
  have G:¬((n:Int)<(j:Int)):=nb
  have B:¬((j:Int)<(i:Int)):=nb
  have J:¬(n<j):=nb
  have E:¬(j<i):=nb
  have M:¬(s.cap<n):=nb
  simp[zY,Instr.sliceBound,asIntOf,D,x2,x3,r,p,l,o,H,L,d,G,B,J,E,M,q,A,h3]
 unfold bC w5;refine au.bind (au.always (aK (a.under b)) ?_);show au C.P (xI t (xK s.ptr s.len s.cap) (dB (xJ xP (i:Int))) (dB (xJ xP (j:Int))) (dB (xJ xP (n:Int)))) h _;unfold xI;refine au.bind (au.always (aK (a.under b)) ?_);refine au.bind (au.always m ?_);refine au.bind (au.always (a.size b) ?_);exact au.pure' ⟨⟨_,_,_⟩,m9,g _⟩
section
variable {pw:fY} {w:Pow}
theorem PG(d:List dM)(i:Nat)(m:i<m8 d)(o:m8 d<=2^30)(H:aa B h0 h (ai 83 s 4 bf d::As)):
  aj xT 101 #[s,xJ xP i,xJ xP (i+1)] h λv h'=>∃r:Sl,v=r/\aa B h0 h' (ai 83 r 4 bf (d.take i++d.drop (i+1))::As):=by
 refine ts Tryz.func101 ?_;have f:=H.own 0 m9;have n:=f.len;have k:=f.cap;refine NJ ag mS i (i+1) s.len m9 m9 m9 nb nb k λ_=>?_;refine aZ (λe=>absurd e nb) λ_=>⟨⟨nb,nb⟩,⟨nb,nb⟩,?_⟩
 have l:((i:Int)+1).toNat=i+1:=nb
 rw[l,qi];refine H.IR ag 0 m9 mS ⟨_,_,m9,m9⟩ (λ_=>rfl) AL i m λp j=>⟨I0,⟨nb,n1,n1⟩,?_⟩
 have a:(d.take i++d.drop (i+1)).length=m8 d-1:=n2
 try dsimp only
 rw[qi,qi];refine j.ox ag 0 m9 mS (λ_=>rfl) m9 (by intro v c;simp at c;rcases c with rfl|rfl|rfl<;>rfl) (m8 d-1) n2 λq b=>?_;have g:((d.take i++d.drop (i+1))++d.drop (m8 d-1)).take (m8 d-1)=d.take i++d.drop (i+1):=by rw[<-a,List.take_left]
 rw[g]at b;exact⟨⟨s.ptr,m8 d-1,s.cap⟩,m9,b⟩
theorem NK(b:ByteArray)(x:bc)(m:aB)(F:bF m=eL)(H:aa B h0 h (aJ bP a pw (aD x) offs da w ds::bo x m::As)):
  aj xT 35 #[xL (dB a),xM b] h λv h'=>v=xJ xP (cA m offs w ds b).1/\
   ∃y,aa B h0 h' (aJ bP a pw (aD y) offs da (cA m offs w ds b).2.2.1 (cA m offs w ds b).2.2.2::bo y (cA m offs w ds b).2.1::As):=by
 refine nH (dB a) b ?_;have r:=iA F;have S:=iD F;obtain⟨g1,g2,g3,g4⟩:=(iC m).1 ((cM m).1 F).1;have ab:=((cM m).1 F).2.2.2.1;refine(oD H).G6 ⟨_,m9,aS (λe=>?_) λQ=>?_⟩
 .have l:cA m offs w ds b=(14,m,w,ds):=by unfold cA;rw[hZ e]
  rw[l];exact⟨m9,x,H⟩
 refine(find_spec x m b (H.at 1 m9) r H).mono ?_;rintro _ T ⟨⟨i,rfl,hi⟩,R2⟩;have s:=H.up R2.ac;refine⟨i,m9,?_⟩;rcases hi with⟨rfl,hno⟩|⟨n,hn,rfl,f,hbef⟩
 .refine ae (λ_=>?_) λe=>absurd nq e;have l:cA m offs w ds b=(5,m,w,ds):=by unfold cA;rw[k4 (by rw[Q];decide),hZ hno]
  rw[l];exact⟨m9,x,s⟩
 have g:m.objs.any (dH b)=eL:=List.any_eq_true.2 ⟨_,qe hn,f⟩;have t:m.objs.findIdx (dH b)=n:=by rw[vE hn];refine⟨f,λj hj=>?_⟩;have:=wh.1 hbef (m.objs[j]'nb) (List.mem_take_iff_getElem.2 ⟨j,nb,m9⟩);simpa using this
 have D:=(aa.cF s).2;have u:cv T x m:=s.at 1 m9;refine ae (λe=>absurd e (xk.2 (ze n))) λ_=>⟨a,m9,x.1,D.cell0 m9,?_⟩
 rw[u.seq];refine ae (λP=>?_) λP=>?_
 .have l:cA m offs w ds b=(7,m,w,ds):=by unfold cA;rw[k4 (by rw[Q];decide),k4 D2,hZ P]
  rw[l];exact⟨m9,x,s⟩
 refine⟨a,m9,x,D.aw _ m9,(pS x m T u r).mono ?_⟩;rintro _ h3 ⟨y,L,pool,rfl,I,z,Z,V⟩;have H3:=(s.comp V).front;refine⟨y,m9,H3.alloc ag m9 λa3 h4 N=>?_⟩;have N:=N.ba;refine N.storeAll ag 0 m9 m9 (aD y) m9 m9 m9 m9 λh5 U=>?_;refine⟨y.1,(U.box 0 m9).cell0 m9,?_⟩
 try dsimp only
 rw[I.1,af (m.seq+1)];refine U.gO ag 0 m9 m9 [xJ xP (m.seq+1)] m9 m9 m9 o1 λh6 G=>?_;refine⟨_,(G.box 0 m9).cell m9,?_⟩;have Y:m8 L=m8 m.objs:=by rw[<-z,qn]
 have G:=G.aF 6 [3,0,1,2,4,5];rw[af ((n:Int)+1)];refine(PG (L.map qC) n A9 A9 G).Hf λo h7 R=>?_;have R:=R.aF 6 [1,2,3,0,4,5];refine⟨o,m9,R.store ag 0 m9 m9 7 [o] m9 m9 m9 o1 λh8 E=>?_⟩;obtain⟨c,d⟩:∃c:bc,c=(m.seq+1,y.2.1,y.2.2.1,y.2.2.2.1,y.2.2.2.2.1,y.2.2.2.2.2.1,y.2.2.2.2.2.2.1,o):=⟨_,rfl⟩
 have X:c.2.2.2.2.2.2.1=y.2.2.2.2.2.2.1:=by rw[d]
 have eo:c.2.2.2.2.2.2.2=o:=by rw[d]
 obtain⟨L2,q⟩:=HF (L.take n++L.drop (n+1))
 have O:L2.map qC=(L.map qC).take n++(L.map qC).drop (n+1):=by rw[q,qE,xE,xn]
 have E:aa B h0 h8 (an a3 27 (aD c)::iL 1 av pool::ai 3 c.2.2.2.2.2.2.1 1 av m.drives::ai 83 c.2.2.2.2.2.2.2 4 bf (L2.map qC)::aJ bP a pw (aD x) offs da w ds::bo x m::As):=by rw[X,eo,O,d];exact E
 refine⟨c,(E.box 0 m9).aw _ m9,?_⟩;obtain⟨M,A⟩:=HF (py m n)
 have H9:aa B h0 h8 (bo c M::aJ bP a pw (aD x) offs da w ds::bo x m::As):=aa.BF (m:=M) (L:=L2) (pool:=pool) (by rw[A,d];exact⟨m9,I.2.1,I.2.2.1,I.2.2.2⟩)
  (by rw[A,q,qE,xE,xn,z];rfl) (λp f=>Z p (by
   rw[q]at f;rcases qw.1 f with f|f
   .exact zK f
   .exact yP f)) (by rw[A];exact E.aF 6 [1,2,3,4,5])
 have K:bM M:=by
  rw[A];have sub:∀e,e∈m.objs.take n++m.objs.drop (n+1)->e∈m.objs:=λe k=>by
   rcases qw.1 k with k|k
   .exact zK k
   .exact yP k
  refine⟨r.dr,?_,?_⟩
  .have:=r.ob;show(m.objs.take n++m.objs.drop (n+1)).length<=_;simp;omega
  .exactλe k=>r.nm e (sub e k)
 refine(Fk x m c M (As:=bo c M::As) (St.dS 0 m9 λ_ hq=>hq) r K nb (H9.aF 3 [1,2,0])).G7 λW ⟨y3,J⟩=>?_;have l:cA m offs w ds b=cm m offs w ds M:=by unfold cA;rw[k4 (by rw[Q];decide),k4 D2,k4 P,t,A]
 rw[l];exact⟨_,m9,m9,y3,J.aF 3 [0,1]⟩
theorem HX(b:ByteArray)(c:bF m=eL)(H:aa B h0 h (fv a pw da offs w ds m::As)):
  aj xT 35 #[xL (dB a),xM b] h λv h'=>v=xJ xP (cA m offs w ds b).1/\
   aa B h0 h' (fv a pw da offs (cA m offs w ds b).2.2.1 (cA m offs w ds b).2.2.2 (cA m offs w ds b).2.1::As):=by
 obtain⟨x,H⟩:=fP H;refine(NK b x m c H).mono ?_;rintro _ h' ⟨rfl,y,d⟩;exact⟨m9,mb d⟩
end
theorem Ji(x y:bc)(m:aB)(h:hY)(k:cv h x m)(o:cv h y m)(T:bM m):aj xT 79 #[cC x,cC y] h λv h'=>v=xN eL/\Sp h h' []:=by
 refine ts Tryz.func79 ?_ (F8 (G0 [] [(4,5),(8,51)] (E5 (F8 (E7 (E8 [(54,aI)] [(4,8),(54,95)] (F8 (F8 (E5 (E7 (F8 (G0 [(6,(.sc .adr)),(7,(.sc .adr))] [(6,8),(57,67)] E6))) E6)))))) E6))) [(6,(.y [0,1,2,3,4,5,6,7,8,9] (.l [10,11,12,13]) (.l [11,10,12,13])))] (args:=[x,y]);refine(Sp.refl h).boxed λJ h1 H1=>?_;refine H1.boxed λa2 h2 r=>?_;have r:Sp h h2 [an J 27 (aD x),an a2 27 (aD y)]:=r;have s:=r.box 0 m9;have z:=r.box 1 m9;have ab:x.2.2.1=m.p.1:=congrArg (·.1) k.p;have P:x.2.2.2.1=m.p.2.1:=congrArg (·.2.1) k.p;have Q:x.2.2.2.2.1=m.p.2.2:=congrArg (·.2.2) k.p;have O:y.2.2.1=m.p.1:=congrArg (·.1) o.p;have V:y.2.2.2.1=m.p.2.1:=congrArg (·.2.1) o.p;have Y:y.2.2.2.2.1=m.p.2.2:=congrArg (·.2.2) o.p;have ax:=T.dr;have ao:=T.ob;have ap:=ce.len k.objs;have a3:=ce.len o.objs;refine aE ⟨m.seq,by rw[<-k.seq];exact s.cell0 m9,m.seq,by rw[<-o.seq];exact z.cell0 m9,bm (λe=>absurd m9 e) λ_=>?_⟩;refine⟨m.next,by rw[<-k.next];exact s.cell m9,m.next,by rw[<-o.next];exact z.cell m9,bm (λe=>absurd m9 e) λ_=>?_⟩;refine⟨m.p,by rw[<-ab,<-P,<-Q];exact s.mE 2 m9 m9 m9,m.p,by rw[<-O,<-V,<-Y];exact z.mE 2 m9 m9 m9,_,MO _ _ m.p m.p,aH (λe=>absurd e n4) λ_=>?_⟩;refine⟨m.extra,by rw[<-k.extra];exact s.cell m9,m.extra,by rw[<-o.extra];exact z.cell m9,bm (λe=>absurd m9 e) λ_=>?_⟩;refine⟨x.2.2.2.2.2.2.1,s.cell m9,y.2.2.2.2.2.2.1,z.cell m9,(nV _ _ m.drives m.drives h2 (k.up r.ac).drives (o.up r.ac).drives).G6 ?_⟩;refine⟨_,m9,aH (λe=>absurd e n4) λ_=>⟨x.2.2.2.2.2.2.2,s.cell m9,y.2.2.2.2.2.2.2,z.cell m9,bm (λe=>absurd nb e) λ_=>?_⟩⟩;refine⟨x.2.2.2.2.2.2.2,s.cell m9,?_⟩;obtain⟨us,F⟩:=ce.fix k.objs;obtain⟨vs,G⟩:=ce.fix o.objs;have al:=F.2.1;have ah:=G.2.1;refine ak (λi:Nat=>(i:Int)) (λi h'=>i<=m.objs.length/\Sp h h' [an J 27 (aD x),an a2 27 (aD y)]) (λi=>m.objs.length-i) 0 m9 ⟨nb,r⟩ ?_;rintro i h5 ⟨hi,q⟩;refine ae (λe=>?_) (λe=>?_)
 .have w:i<m.objs.length:=by have e':(i:Int)<(x.2.2.2.2.2.2.2.len:Int):=e;omega
  obtain⟨E,S⟩:=HF (m.objs[i])
  have B:=T.nm _ (qe w);rw[<-S]at B;obtain⟨u,hu⟩:=HF (us[i]'nb)
  obtain⟨v,hv⟩:=HF (vs[i]'nb)
  obtain⟨d,ha,zz,c,ad⟩:=F.1.cQ (g:=bf) (i:=(i:Int)) i rfl nb u (by rw[hu]) (K:=λt=>t=u) rfl;obtain⟨f,hb,ay,b,A⟩:=G.1.cQ (g:=bf) (i:=(i:Int)) i rfl nb v (by rw[hv]) (K:=λt=>t=v) rfl;rw[ad]at c;rw[A]at b;obtain⟨⟨u1,u2,u3⟩,u4⟩:=Fix.row F w;obtain⟨⟨v1,v2,v3⟩,v4⟩:=Fix.row G w;rw[<-S,<-hu]at u1 u2 u3 u4;rw[<-S,<-hv]at v1 v2 v3 v4;refine bn (λst h'=>∃Bs,Sp h h' (an J 27 (aD x)::an a2 27 (aD y)::an st.1 83 (bf u)::an st.2 83 (bf v)::Bs)) ?_ ?_
  .have keep:∀{h':hY} {Bs:List HP},Sp h h' (an J 27 (aD x)::an a2 27 (aD y)::Bs)->
     bK.ok [(f.add ((i:Int).toNat*4),(xM v.1)),((f.add ((i:Int).toNat*4)).add 1,(xJ xP v.2.1)),((f.add ((i:Int).toNat*4)).add 2,(xJ xP v.2.2.1)),((f.add ((i:Int).toNat*4)).add 3,(xK v.2.2.2.ptr v.2.2.2.len v.2.2.2.cap)),(a2.add 7,(xK y.2.2.2.2.2.2.2.ptr y.2.2.2.2.2.2.2.len y.2.2.2.2.2.2.2.cap)),(d.add ((i:Int).toNat*4),(xM u.1)),((d.add ((i:Int).toNat*4)).add 1,(xJ xP u.2.1)),((d.add ((i:Int).toNat*4)).add 2,(xJ xP u.2.2.1)),((d.add ((i:Int).toNat*4)).add 3,(xK u.2.2.2.ptr u.2.2.2.len u.2.2.2.cap)),(J.add 7,(xK x.2.2.2.2.2.2.2.ptr x.2.2.2.2.2.2.2.len x.2.2.2.2.2.2.2.cap))] h':=λ{h' Bs} H'=>by
    have a:=H'.ac;exact⟨a.cell (di b.1) b.1,a.cell (di b.2.1) b.2.1,a.cell (di b.2.2.1) b.2.2.1,a.cell (di b.2.2.2.1) b.2.2.2.1,(H'.box 1 m9).cell m9,a.cell (di c.1) c.1,a.cell (di c.2.1) c.2.1,a.cell (di c.2.2.1) c.2.2.1,a.cell (di c.2.2.2.1) c.2.2.2.1,(H'.box 0 m9).cell m9,I0⟩
   have L:=keep q;have a:=q.ac;refine⟨x.2.2.2.2.2.2.2,(q.box 0 m9).cell m9,d,ha,u,⟨a.cell (di c.1) c.1,a.cell (di c.2.1) c.2.1,a.cell (di c.2.2.1) c.2.2.1,a.cell (di c.2.2.2.1) c.2.2.2.1,I0⟩,y.2.2.2.2.2.2.2,(q.box 1 m9).cell m9,f,hb,v,⟨a.cell (di b.1) b.1,a.cell (di b.2.1) b.2.1,a.cell (di b.2.2.1) b.2.2.1,a.cell (di b.2.2.2.1) b.2.2.2.1,I0⟩,?_,?_⟩
   .refine q.alloc ag m9 λX h6 D=>⟨keep D,D.alloc ag m9 λU h7 I=>⟨keep I,?_⟩⟩
    refine I.storeAll ag 2 m9 m9 (bf u) m9 m9 m9 m9 λh8 H=>?_;obtain⟨W,Z,k3,R,L,_⟩:=keep H;refine⟨⟨W,Z,k3,R,L,I0⟩,H.storeAll ag 3 m9 m9 (bf v) m9 m9 m9 m9 λh9 j=>⟨I0,[],j⟩⟩
   .refine q.alloc ag m9 λX h6 D=>⟨keep D,D.alloc ag m9 λU h7 I=>⟨keep I,?_⟩⟩
    refine I.storeAll ag 3 m9 m9 (bf u) m9 m9 m9 m9 λh8 H=>?_;obtain⟨W,Z,k3,R,L,_⟩:=keep H;refine⟨⟨W,Z,k3,R,L,I0⟩,H.storeAll ag 2 m9 m9 (bf v) m9 m9 m9 m9 λh9 j=>⟨I0,[],j.aF 4 [0,1,3,2]⟩⟩
  .rintro⟨s1,s2⟩ h9 ⟨Bs,j⟩;dsimp only at j⊢;have N:=j.box 2 m9;have M:=j.box 3 m9;have a0:=B.2;refine⟨E.name,by rw[<-u1];exact N.cell0 m9,E.name,by rw[<-v1];exact M.cell0 m9,aH (λe=>absurd e n4) λ_=>?_⟩;refine⟨E.object,by rw[<-u2];exact N.cell m9,E.object,by rw[<-v2];exact M.cell m9,bm (λe=>absurd m9 e) λ_=>?_⟩;refine⟨E.length,by rw[<-u3];exact N.cell m9,E.length,by rw[<-v3];exact M.cell m9,bm (λe=>absurd m9 e) λ_=>?_⟩;refine⟨u.2.2.2,N.cell m9,v.2.2.2,M.cell m9,(nV _ _ E.tries E.tries h9 (Seq.up u4 j.ac) (Seq.up v4 j.ac)).G6 ?_⟩;refine⟨_,m9,aH (λe=>absurd e n4) λ_=>⟨i+1,n7,⟨nb,j.aF 2 [0,1]|>.uc (As:=[_,_])⟩,nb⟩⟩
 .exact⟨m9,.zip q.ac⟩
theorem TH(a b:Sl)(c f:aO)(h:hY)(p:eF h a 1 aq c)(o:eF h b 1 aq f)(D:m8 c<=2^40)(x:∀r∈c,m8 r<=2^40):
  aj xT 214 #[a,b] h λv h'=>v=xN (decide (c=f))/\h'=h:=by
 refine ts Tryz.func214 ?_ (F8 (F8 (F9 [(13,aI)] [(4,6),(13,27)])));have m:=p.len;have j:=o.len;refine bm (λd=>⟨?_,m9⟩) (λy=>?_)
 .rw[m5 λe=>d (by rw[m,j,e])]
 .refine ak (λk:Nat=>(k:Int)) (λk h'=>h'=h/\k<=m8 c/\c.take k=f.take k) (λk=>m8 c-k) 0 m9 ⟨m9,nb,n4⟩ ?_;rintro k h' ⟨rfl,B,l⟩;refine ae (λA=>?_) (λs=>?_)
  .have g:k<m8 c:=nb
   have i:k<m8 f:=nb
   refine p.get k m9 g λt w=>?_;refine o.get k m9 i λu z=>?_;refine(lU t u _ _ h' w z (x _ (qe _))).G6 ⟨_,m9,I0,?_⟩;refine aH (λe=>⟨?_,m9⟩) (λe=>?_)
   .have d:c[k]≠f[k]:=of_decide_eq_false e;rw[m5];intro e;subst e;exact d m9
   .have q:c[k]=f[k]:=m6 e;rw[af _];exact⟨k+1,n4,⟨m9,nb,by rw[aA _ _ g,aA _ _ i,l,q]⟩,nb⟩
  .have:k=m8 c:=nb
   subst this;rw[qh nb,qh nb]at l;exact⟨by rw[ln l],m9⟩
theorem HY(s:Sl)(f b:fY)(d:bu)(rs i:Sl)(h:hY)(k:eF h s 1 aq d.l)(a:bQ h b 174 (dF f d rs i))(g:eF h rs 1 aq d.l)(ok:ff d):
  aj xT 148 #[xJ xP d.room,xJ xP d.wait,s,xN d.lost,xL (dB b)] h λv h'=>v=xN eL/\h'=h:=by
 refine ts Tryz.func148 ?_;have:=ok.len;have:=ok.room;refine⟨b,m9,_,a.cell0 m9,aZ (λ_=>?_) λe=>absurd m9 e⟩;refine⟨b,m9,_,a.cell m9,aZ (λ_=>?_) λe=>absurd m9 e⟩;refine⟨b,m9,d.lost,a.cell m9,aS (λ_=>?_) λe=>absurd e n4⟩;refine⟨b,m9,rs,a.cell m9,(TH s rs d.l d.l h k g nb λc j=>by rw[ok.cell c j];decide).G6 ?_⟩;exact⟨_,m9,n4,m9⟩
def rG(d:bu)(i:Int):aT:=if 0<=i then d.l.getD i.toNat []else[]
variable {B':ar} {h0' h':hY} {As':List HP} {pw2:fY}
section
variable {pw:fY} {d:bu}
theorem PH(H:aa B h0 h (jx pw a d::As))(H':aa B' h0' h (ir pw2 b d::As')):
  aj xT 83 #[xL (dB a),xL (dB b)] h λv h'=>v=xN eL/\Sp h h' []:=by
 refine ts Tryz.func83 ?_ (F8 (F8 (F8 (E5 (F8 (E7 (E8 [(28,aI)] [(4,5),(6,8),(28,57)] (F8 (F8 (E5 (E7 (F8 (F8 (G0 [(7,bJ)] [(7,8),(32,50)] E6)))) E6)))))) E6)))) [(5,(.l [0,1,2,3,4,5,6,7,8,9,10,13,11,12])),(14,(.l [0,2,3,4,5,6,1,7,8,9,11,13,15,17,10,12,14,16,18,19,20]))];obtain⟨s,w,R,S,N⟩:=jx.box H;obtain⟨ok,rs,U,j,I,m⟩:=ir.box H';have Q:=ok.len;have O:=ok.room;refine aS (λe=>n5) λ_=>aS (λe=>n5) λ_=>⟨b,m9,rs,j.cell m9,b,m9,rs,j.cell m9,?_⟩
 try dsimp only
 rw[af ((rs.len:Int)-1),m];obtain⟨L,J⟩:∃L:aC,L=[-1,0,(m8 d.l:Int)-1,(m8 d.l:Int)]:=⟨_,rfl⟩
 have V:m8 L=4:=by rw[J];rfl
 refine(Sp.refl h).ko ag av ge m9 [-1,0,(m8 d.l:Int)-1,(m8 d.l:Int)] m9 (show 4*1<=2^20 by decide) m9 ⟨by rw[<-m];exact j.cell m9,by rw[<-m];exact j.cell m9,I0⟩ ?_;refine(Sp.refl h).lit ag av ge m9 [-1,0,(m8 d.l:Int)-1,(m8 d.l:Int)] m9 (show 4*1<=2^20 by decide) m9 λv5 X F=>?_;have F:Sp h X [ai 3 v5 1 av L]:=by rw[J];exact F
 have W:=(F.own 0 m9).len;refine ak (λi:Nat=>(i:Int)) (λi h'=>i<=4/\Sp h h' [ai 3 v5 1 av L]) (λi=>4-i) 0 m9 ⟨nb,F⟩ ?_;rintro i E ⟨hi,u⟩;have g:=R.ac u.ac R.lt;have f:=j.ac u.ac j.lt;have y:=S.up u.ac;have p:=I.up u.ac;refine ae (λe=>?_) (λe=>?_)
 .have z:i<m8 L:=by have e':(i:Int)<(v5.len:Int):=e;omega
  obtain⟨x,P⟩:=HF (L[i])
  have Y:-1<=x/\x<=m8 d.l:=by
   have:x∈L:=by rw[P];exact qe z
   rw[J]at this;simp only[List.mem_cons,List.not_mem_nil,or_false]at this;omega
  refine(u.seq 0 m9 λ_=>rfl).aW i m9 z x (by rw[P];rfl) ?_;refine bn (λr h'=>h'=E/\Rd E r 1 aq (rG d x)) ?_ ?_
  .have q:rG d x=[]->Rd E ⟨eH,0,0⟩ 1 aq (rG d x):=λhh=>by rw[hh];exact Seq.nil _ _ _ _ _ _
   refine ae (λe1=>⟨b,m9,rs,f.cell m9,ae (λZ=>?_) λZ=>⟨m9,q ?_⟩⟩) (λe1=>⟨m9,q ?_⟩)
   .refine⟨b,m9,rs,f.cell m9,p.get x.toNat nb nb λr M=>⟨m9,?_⟩⟩;unfold rG;rw[hZ nb,getD_lt (show x.toNat<m8 d.l by omega)];exact M
   .unfold rG;rw[hZ nb,qg,zf nb];rfl
   .unfold rG;rw[k4 nb]
  .rintro r _ ⟨rfl,M⟩;refine(Vm s w x g y ok.cell).Hf λA h3 G=>?_;have T:(rG d x).length<=64:=by
    unfold rG;split
    .rw[qg];cases hg:d.l[x.toNat]? with
     |none=>simp
     |some c=>simp[ok.cell c (List.mem_of_getElem? hg)]
    .simp
   refine⟨A,m9,(lU A r (rG d x) (rG d x) h3 (G.seq 0 m9 λ_=>rfl) (M.up G.ac) nb).G6 ?_⟩;refine⟨_,m9,aH (λe=>absurd e n4) λ_=>⟨i+1,n7,⟨nb,u.up G.ac⟩,nb⟩⟩
 .have o:hU E (b.add 2)=dB (xK rs.ptr rs.len rs.cap):=f.cell m9;refine⟨b,m9,rs,o,(Ds s w g N).G6 ?_⟩;refine⟨_,m9,⟨o,I0⟩,aZ (λ_=>?_) λe=>absurd nb e⟩;refine(JR s w g).G6 ⟨_,m9,⟨o,I0⟩,(Vl s w g).G6 ?_⟩;refine⟨_,m9,⟨o,I0⟩,(Ga s w g y ok).Hf λr h6 D=>?_⟩;have K:=g.ac D.ac g.lt;have t:=f.ac D.ac f.lt;have k:hU h6 (b.add 2)=dB (xK rs.ptr rs.len rs.cap):=t.cell m9;refine⟨r,m9,⟨k,I0⟩,(vS s w K).mono ?_⟩;rintro _ h7 ⟨rfl,rfl⟩;refine⟨_,m9,⟨k,I0⟩,(HY r pw2 b d rs U h7 (aa.Ch D λ_=>rfl) t (p.up D.ac) ok).G6 ?_⟩;exact⟨_,m9,⟨k,I0⟩,m9,.zip (up u.ac D.ac)⟩
theorem Jj(h:hY):aj xT 83 #[xL eH,xL eH] h λv h'=>v=xN eL/\Sp h h' []:=by refine ts Tryz.func83 ?_ (F8 (F8 (F8 (E5 (F8 (E7 (E8 [(28,aI)] [(4,5),(6,8),(28,57)] (F8 (F8 (E5 (E7 (F8 (F8 (G0 [(7,bJ)] [(7,8),(32,50)] E6)))) E6)))))) E6)))) [(5,(.l [0,1,2,3,4,5,6,7,8,9,10,13,11,12])),(14,(.l [0,2,3,4,5,6,1,7,8,9,11,13,15,17,10,12,14,16,18,19,20]))];exact aS (λe=>n5) λ_=>aS (λ_=>⟨m9,Sp.refl h⟩) λe=>n5
end
variable {a2:fY} {mc:aR} {da2:List bx}
section
variable {pw:fY} {w:Pow}
theorem mH(x:bc)(m:aB)(f:cv h x m)(g:bM m)(b:∀y∈m.drives,0<=y/\y<64)(H:aa B h0 h (aJ bE a pw (aD x) offs da w ds::As)):
  aj xT 81 #[xL (dB a)] h λv h'=>∃r:Sl,v=r/\Sp h h' [ai 3 r 1 av (bh ds m.drives)]:=by
 refine ts Tryz.func81 ?_;obtain⟨ok,e⟩:=aa.cU H;have d:=g.dr;refine⟨a,m9,x.2.2.2.2.2.2.1,e.cell m9,(HM _ m.drives f.drives nb b H).Hf λr i c=>?_⟩;exact⟨r,m9,r,m9,c⟩
theorem aa.NL(H:aa B h0 h (aJ bE a pw mc offs da w ds::As)):∃l,EE w l/\bQ h pw 89 (powC w l):=by obtain⟨ok,e⟩:=Qw.aa.gM H;have c:=e.rest;obtain⟨l,b,d⟩:=aa.iV c;exact⟨l,b,d.box 0 m9⟩
theorem iw(H:aa B h0 h (aJ bE a pw mc offs da w ds::As)):
  aj xT 71 #[xL (dB a)] h λv h'=>v=xN (gy w offs)/\h'=h:=by
 refine ts Tryz.func71 ?_;obtain⟨ok,c⟩:=aa.cU H;obtain⟨l,g,b⟩:=aa.NL H;have d:hU h (a.add 8)=dB (xL (dB pw)):=c.cell (ut ok.l8);have f:hU h (a.add 9)=dB (xJ xP offs):=c.cell (Hg ok.l8);refine⟨a,m9,dB pw,d,pw,m9,w.off,b.cell0 m9,aS (λe=>⟨by unfold gy;rw[e];rfl,m9⟩) λe=>?_⟩;refine⟨a,m9,dB pw,d,pw,m9,w.offs,b.cell m9,a,m9,offs,f,by unfold gy;rw[e];rfl,m9⟩
theorem PI(x x2:bc)(m:aB)(hx:cv h x m)(E:cv h x2 m)(J:bM m)(Q:∀y∈m.drives,0<=y/\y<64){k:Int}(z:k=offs)
  (H:aa B h0 h (aJ bP a pw (aD x) offs da w ds::aJ bE a2 pw2 (aD x2) k da2 w ds::As)):
  aj xT 20 #[xL (dB a),xL (dB a2)] h λv h'=>v=xN eL/\Sp h h' []:=by
 subst z;refine ts Tryz.func20 ?_ (F8 (F8 (F8 (G0 [] [(4,5),(13,67)] (F9 [(67,aI)] [(4,6),(67,82)]))))) [(5,(.l [0,2,3,4,5,1,6,7,8,9,11,10,12,13,14,15,16,17,19,18,20,21,22,23,24,25,26,27,28,29,32,33,34,35,36,37,38,30,31,39,40,41,42,45,46,47,48,49,50,51,43,44,52,53])),(10,(.l [0,1,3,4,5,6,7,8,2,9,10]))];have I:=H.nF;refine aS (λe=>n5) λ_=>aS (λe=>n5) λ_=>?_;obtain⟨ok,hb⟩:=aa.cF H;obtain⟨A,g⟩:=aa.cU I;obtain⟨l2,ab,G⟩:=aa.NL I;obtain⟨l1,am,K⟩:=aa.IX H;have ah:=J.dr;refine bn (λ_ h'=>Sp h h' []) ?_ ?_
 .refine⟨a2,m9,x2,g.aw _ m9,(AP x m hx J H).Hf λy h1 L=>?_⟩;have s:=g.ac L.ac g.lt;refine⟨y,m9,⟨s.cell0 m9,s.cell m9,s.cell m9,s.cell m9,s.cell m9,s.cell m9,s.cell m9,s.cell m9,I0⟩,?_⟩;refine(Ji y x2 m h1 (L.at 0 m9) (E.up L.ac) J).G7 λh2 R2=>?_;have O:=up L.ac R2.ac;refine⟨eL,m9,I0,aH (λe=>n5) λ_=>?_⟩;refine(fC x m (hx.up O) J (aa.up H O)).Hf λY h3 X=>?_;have U:=up O X.ac;refine⟨Y,m9,I0,(mH x2 m (E.up U) J Q (aa.up I U)).Hf λZ h4 M=>?_⟩;have o:=up U M.ac;have ad:(bh ds m.drives).length<=m8 m.drives:=qK _ _;refine⟨Z,m9,I0,(nV Y Z _ _ h4 ((X.seq 0 m9 λ_=>rfl).up M.ac) (M.seq 0 m9 λ_=>rfl)).G6 ?_⟩;refine⟨_,m9,I0,aH (λe=>absurd e n4) λ_=>?_⟩;refine(nr (aa.up H o)).G6 ⟨_,m9,I0,(iw (aa.up I o)).mono ?_⟩;rintro _ W ⟨rfl,rfl⟩;refine⟨_,m9,I0,aH (λe=>absurd e n4) λ_=>?_⟩;have r:hU W (a2.add 8)=dB (xL (dB pw2)):=(g.ac o g.lt).cell (ut A.l8);have q:=G.ac o G.lt;have t:hU W pw2=dB (xN w.off):=q.cell0 m9;have c3:hU W (pw2.add 3)=dB (xJ xP w.offs):=q.cell m9;have u:=K.ac o K.lt;refine(nU (aa.up H o)).G6 ⟨_,m9,I0,aS (λe=>n5) λ_=>?_⟩;refine⟨a2,m9,dB pw2,r,pw2,m9,w.off,t,(nU (aa.up H o)).G6 ?_⟩;refine⟨_,m9,⟨t,r,I0⟩,(tw l1 u).G6 ?_⟩;refine⟨_,m9,⟨t,r,I0⟩,aS (λe=>absurd e (by cases w.off<;>decide)) λ_=>?_⟩;refine⟨a2,m9,dB pw2,r,pw2,m9,w.offs,c3,(nU (aa.up H o)).G6 ?_⟩;refine⟨_,m9,⟨c3,r,t,r,I0⟩,(vl l1 u).G6 ?_⟩;exact⟨_,m9,⟨c3,r,t,r,I0⟩,bm (λe=>absurd m9 e) λ_=>.zip o⟩
 .rintro _ al N;refine ak (λi:Nat=>(i:Int)) (λi h'=>i<=64/\Sp h h' []) (λi=>64-i) 0 m9 ⟨nb,N⟩ ?_;rintro i ao ⟨hi,j⟩;have c:=hb.ac j.ac hb.lt;have f:=g.ac j.ac g.lt;refine ae (λe=>?_) (λe=>?_)
  .have T:i<64:=nb
   obtain⟨p,hp,F⟩:=Nq A f i T;refine⟨a2,m9,⟨nb,nb⟩,p,by rw[qi];exact hp,(jI (i:Int) ok c).G6 ?_⟩;refine⟨_,m9,⟨by rw[qi];exact hp,I0⟩,?_⟩;have next:∀{h':hY},Sp h h' []->∃P:Nat,qd xP ((i:Int)+1)=(P:Int)/\(P<=64/\Sp h h' [])/\64-P<64-i:=λR=>⟨i+1,n7,⟨nb,R⟩,nb⟩
   have Hc:=aa.up H j.ac;have S:=aa.up I j.ac;rcases gp ok (i:Int)with⟨c1,c2⟩|⟨n,d,b,t,c1,c2,c3,c4,c5⟩
   .rcases gp A (i:Int)with⟨g1,g2⟩|⟨n,d,b,g0,g1,g2,g3,g4,g5⟩
    .have:p=eH:=by unfold cT at g2;rw[hZ nb,qi,F]at g2;exact g2
     subst this;rw[c2];refine(Jj _).G7 λV D=>⟨eL,m9,I0,aH (λe=>n5) λ_=>next (aa.up j D.ac)⟩
    .rw[c1]at g3;cases g3
   .have t:i=n:=nb
    subst t;rw[c5];obtain⟨b',c,H5⟩:=Qw.aa.fD Hc c2;rw[c4]at c;injection c with c
    injection c with c
    subst c;obtain⟨b2,f,H6⟩:=Qw.aa.fD S c2;rw[F]at f;injection f with f
    subst f;refine(PH H5 H6).G7 λV D=>⟨eL,m9,I0,aH (λe=>n5) λ_=>next (aa.up j D.ac)⟩
  .refine(jI (-1) ok c).G6 ?_;have e1:cT da (-1)=eH:=by unfold cT;rw[k4 nq]
   rw[e1];refine⟨_,m9,aS (λ_=>?_) λe=>n5⟩;refine(jI 64 ok c).G6 ?_;have e2:cT da 64=eH:=by unfold cT;rw[k4 nq]
   rw[e2];exact⟨_,m9,m9,j⟩
end
section
theorem TJ(x:bc)(pw:fY)(a:Int):aL xT (Instr.build 40 #[(0,cC x),(1,xL (dB pw)),(2,xJ xP a)]) (xO (cP (aD x) pw a (qf 64 eH)).toArray):=
 tV ag (i:=_) m9 m9 m9 (vs:=[(0,cC x),(1,xL (dB pw)),(2,xJ xP a)]) (cells:=(cP (aD x) pw a (qf 64 eH)).toArray) n9
variable {B:ar} {h0 h:hY} {As:List HP} {a pw b:fY} {x:bc} {offs:Int} {da:List bx} {w:Pow} {ds:aG} {d:bu}
theorem aa.WE(n:Nat)(g:n<64)(i:ds[n]?=dB eH)(H:aa B h0 h (aJ bE a pw (aD x) offs da w ds::ir pw b d::As)){K:Unit->hY->Prop}
  (j:∀h',aa B h0 h' (aJ bE a pw (aD x) offs (da.set n (dB b)) w (ds.set n (dB d))::As)->K () h'):
  au xT (qG 37 (xL (dB ((a.add 10).add n))) (xL (dB b))) h K:=by
 obtain⟨ok,f⟩:=Qw.aa.gM H;have e:(a.add 10).add n=a.add (10+n):=by unfold Addr.add;simp[Nat.add_assoc]
 rw[e];refine f.storeAt ag 0 m9 m9 m9 m9 m9 (by simp[ok.la];omega) λh' c=>j h' ?_;rw[zt,JW ok.l8]at c;exact aa.QK ok g i c
theorem DX(p:Pm)(c:Int)(s:Sl)(l:aC)(hS:St B h0 As λh=>Rd h s 1 av l)(hl:m8 l<=2^20)(H:aa B h0 h (fL pw w::As)):
  aj xT 43 #[gx p,xJ xP c,xL (dB pw),s] h λv h'=>
   ((dc p c w l).1≠0->v=.tuple #[xL eH,xJ xP (dc p c w l).1]/\aa B h0 h' As)/\
   ((dc p c w l).1=0->∃(a:fY) (x:bc) (da:List bx),v=.tuple #[xL (dB a),xJ xP 0]/\aa B h0 h' (aJ bE a pw (aD x) w.offs da (dc p c w l).2.1 (dc p c w l).2.2::bo x (cw p c l)::As)):=by
 refine ts Tryz.func43 ?_ (F8 (F8 (F8 (F8 (F8 (F9 [(38,aI)] [(14,15),(38,54)])))))) [(10,(.l [0,1,2,3,4,5,6,8,9,7,10,11]))] (args:=[p,(c:Int),(dB pw),s]);refine H.boxed λa1 h1 K=>aS (λe=>n5) λ_=>?_;have K:aa B h0 h1 (an a1 24 [xJ xP p.1,xJ xP p.2.1,xJ xP p.2.2]::fL pw w::As):=K.ba;refine⟨p,(K.box 0 m9).aw _ m9,(HN p c s l h1 (hS.at [_,_] K) hl).Hf λx h2 ⟨Z,am⟩=>?_⟩;refine⟨(x,iX p c l),m9,?_⟩
 try dsimp only
 by_cases u:iX p c l=0
 case neg=>
  have ef:dc p c w l=(iX p c l,w,[]):=by rw[ta,k4 u]
  rw[ef];have H2:=K.up (Z u).ac;refine H2.alloc ag m9 λa4 h3 H3=>?_;refine H3.ba.storeAll ag 0 m9 m9 (aD x) m9 m9 m9 m9 λh4 D=>?_;exact bm (λ_=>⟨λ_=>⟨m9,D.rest.rest.rest⟩,λh=>absurd h u⟩) λe=>absurd e u
 have Z:=am u;obtain⟨em,bk,bb,ep,M⟩:=BP u;obtain⟨b1,o,F⟩:=Hu ep;have z:dc p c w l=layAll (bi (cw p c l) (bg l l.length)) w (fO l (bg l l.length).length):=by rw[ta,hZ u]
 have f14:=Pd p c w l o M;rw[<-z]at f14;obtain⟨m,L⟩:=HF (cw p c l)
 obtain⟨P,G⟩:=HF (bg l l.length)
 have J:m.drives=P:=by rw[L,G];rfl
 rw[<-L,<-G]at z;rw[<-L]at Z;have hz:bM m:=L▸sY p c l o;have a7:m8 P<=64:=by rw[G];exact qX (lJ _ _) o
 have H2:aa B h0 h2 (bo x m::fL pw w::As):=(K.oQ).bS Z;refine H2.alloc ag m9 λa4 h3 H3=>?_;refine H3.ba.storeAll ag 0 m9 m9 (aD x) m9 m9 m9 m9 λh4 D=>?_;have D:aa B h0 h4 (an a4 27 (aD x)::bo x m::fL pw w::As):=D;refine bm (λe=>absurd u e) λ_=>?_;obtain⟨lw,bd,a0⟩:=(D.aF 3 [2,1,0]).iV;have ab:=D.box 0 m9;refine⟨x,ab.aw _ m9,pw,m9,w.offs,(a0.box 0 m9).cell m9,_,TJ x pw w.offs,?_⟩;refine D.boxed λa9 h5 q=>?_;have E:(Value.agg (cP (aD x) pw w.offs (qf 64 eH)).toArray).cells.toList=cP (aD x) pw w.offs (qf 64 eH):=o1
 rw[E]at q;have q:aa B h0 h5 (an a9 40 (cP (aD x) pw w.offs (qf 64 eH))::an a4 27 (aD x)::bo x m::fL pw w::As):=q.ba;have d:=q.box 1 m9;obtain⟨br,a6,ax⟩:=(q.aF 4 [3,0,1,2]).iV;refine⟨⟨(ax.box 0 m9).cell m9,d.cell0 m9,d.cell m9,d.cell m9,d.cell m9,d.cell m9,d.cell m9,d.cell m9,d.cell m9,I0⟩,?_⟩;have q:=aa.JU (k:=bE) (h8:=by simp) (q.aF 4 [0,3,1,2]);refine⟨x.2.2.2.2.2.2.1,d.cell m9,?_⟩;have R:∀i (hi:i<m8 P),∃n:Nat,n<m8 l/\P[i]=(n:Int)/\0<l.getD n 0:=by subst G;exactλi hi=>An l l.length i hi
 rw[<-Dw l]at q;have O:∀{h':hY} {X Y:HP} {Bs:List HP},aa B h0 h' (X::Y::bo x m::Bs)->cv h' x m:=λ{h' X Y Bs} H'=>H'.at 2 m9;have ao:=(O q).drives.len;rw[J]at ao;refine ak (λt:Nat×List bx=>(t.1:Int)) (λt h'=>t.1<=m8 P/\aa B h0 h' (aJ bE a9 pw (aD x) w.offs t.2 w (fO l t.1)::an a4 27 (aD x)::bo x m::As)) (λt=>m8 P-t.1) (0,qf 64 eH) m9 ⟨n4,q⟩ ?_;rintro⟨i,da⟩ al ⟨hi,g⟩;dsimp only at*;obtain⟨bq,a3⟩:=aa.cU g;have N:=O g;have r:=N.drives;rw[J]at r;refine ae (λe6=>?_) (λe6=>?_)
 .have I:i<m8 P:=nb
  obtain⟨n,hn,T,a2⟩:=R i I;have a5:=F n;refine Seq.aW (f:=av) r i m9 I (n:Int) (by rw[T];rfl) ?_;refine(hS.at [_,_,_] g).aW n m9 hn (l.getD n 0) (by rw[getD_lt hn];rfl) ?_;refine⟨a9,m9,(Po (l.getD n 0) pw al).mono ?_⟩;rintro _ b0 ⟨Q1,_⟩;obtain⟨b,rfl,ah⟩:=Q1 nb;have ad:=(g.bS ah).aF 4 [1,0,2,3];refine⟨_,m9,I0,⟨nb,nb⟩,?_⟩;rw[qi,zG];have S:i<(bg l l.length).length:=by rw[<-G];exact I
  have U:(bg l l.length)[i]=(n:Int):=by rw[<-T];simp only[G]
  refine Qw.aa.WE n nb (DF l i n S U) ad λa8 ay=>?_;refine⟨I0,(i+1,da.set n (dB b)),n3,⟨n1,?_⟩,n1⟩
  try dsimp only
  rw[<-Dx l i n S U];exact ay
 .have ap:i=m8 P:=nb
  subst ap;refine⟨x,(g.box 1 m9).aw _ m9,x.2.2.2.2.2.2.1,(g.box 1 m9).cell m9,?_⟩;have Q:Has (fO l P.length) P:=⟨Am _ _,λs hs=>by
   obtain⟨j,hj,ej⟩:=qD hs;obtain⟨n,hn,T,_⟩:=R j hj;rw[<-ej,T];refine⟨bu.new (l.getD n 0).toNat,?_⟩;unfold bX fO;rw[hZ nb,qi,qM,List.getElem?_range nb,zl,hZ (by rw[<-G,qt,<-T];exact qe hj)];rfl⟩
  refine(Au (As:=an a4 27 (aD x)::bo x m::As) x m x.2.2.2.2.2.2.1 P (St.mono (St.dS (A:=bo x m) 1 m9 λh' W=>W) λh' W=>⟨W,by have:=lm.drives W;rw[J]at this;exact this⟩) hz nb Q g).G7 λbl y=>?_;rw[<-z]at y⊢;refine⟨_,m9,bm (λV=>⟨λ_=>⟨?_,y.rest.rest.rest⟩,λh=>absurd h V⟩) λV=>⟨λh=>absurd V h,λ_=>⟨a9,x,da,m9,?_⟩⟩⟩
  .rcases f14 with f|f
   .exact absurd f V
   .rw[f]
  .rw[<-L];exact y.nP
end
def rh(l:aC)(k:Nat):Int:=l.getD k 0
def dD(l:aC):Pm:=Nv (rh l 0) (rh l 1) (rh l 2)
def uF(l:aC):Nat:=(2+rh l 4%4).toNat
def jY(l:aC):aC:=(qy (uF l)).map λi=>8+rh l (5+i)%50
def sE(l:aC):Int:=rh l 3%7
theorem Jk(l:aC):2<=uF l/\uF l<=5:=by unfold uF;omega
theorem Gm(l:aC):(jY l).length=uF l:=by simp[jY]
section
variable {pw:fY} {w:Pow}
theorem ri(s:Sl)(l:aC)(k:Nat)(h:hY)(a:Rd h s 1 av l):aj xT 59 #[s,xJ xP k] h λv h'=>v=xJ xP (rh l k)/\h'=h:=by
 refine ts Tryz.func59 ?_;unfold rh;have c:=a.len;refine ae (λe=>?_) (λe=>⟨?_,m9⟩)
 .have b:k<m8 l:=nb
  refine a.aW k m9 b (l.getD k 0) (by rw[getD_lt b];rfl) ⟨m9,m9⟩
 .rw[qg,zf nb];rfl
theorem PJ(s:Sl)(l:aC)(h:hY)(w:Rd h s 1 av l):aj xT 42 #[s] h λv h'=>∃r:Sl,v=.tuple #[gx (dD l),xJ xP (sE l),r]/\Sp h h' [ai 3 r 1 av (jY l)]:=by
 refine ts Tryz.func42 ?_ (F8 (F8 (F8 (F8 (F9 [(7,bJ),(8,aI)] [(7,9),(16,35)]))))) [(8,(.l [0,1,2,5,3,4,6,7,8]))];refine(Sp.refl h).alloc ag m9 λM D q=>?_;have a:=w.up q.ac;refine(ri s l 0 D a).G6 ⟨_,m9,(ri s l 1 _ a).G6 ?_⟩;refine⟨_,m9,(ri s l 2 _ a).mono ?_⟩;rintro _ K ⟨rfl,rfl⟩;refine⟨_,m9,(Tk _ _ _ K).G7 λN H=>?_⟩;have J:=q.up H.ac;refine⟨dD l,m9,?_⟩;refine J.alloc ag m9 λf Q F=>?_;refine F.storeAll ag 1 m9 m9 [xJ xP (dD l).1,xJ xP (dD l).2.1,xJ xP (dD l).2.2] m9 m9 m9 m9 λP m=>?_;have m:=(m.nil 3 1 av).bs [2,1,0];have O:=Jk l;have x:=Gm l;refine ak (λt:Sl×Nat=>(t.1,(t.2:Int))) (λt h'=>t.2<=uF l/\Sp h h' [ai 3 t.1 1 av ((jY l).take t.2),an f 24 [xJ xP (dD l).1,xJ xP (dD l).2.1,xJ xP (dD l).2.2],an M 24 [xJ xP 0,xJ xP 0,xJ xP 0]]) (λt=>uF l-t.2) (⟨eH,0,0⟩,0) m9 ⟨n4,m⟩ ?_;rintro⟨o,i⟩ h8 ⟨R,c⟩;dsimp only at*;have b:=w.up c.ac;refine(ri s l 4 h8 b).G6 ⟨_,m9,(bT _ 4 _).mono ?_⟩;rintro _ h8 ⟨rfl,rfl⟩;refine⟨_,m9,?_⟩;have g:=c.box 1 m9
 try dsimp only
 rw[af (2+rh l 4%4)];have j:2+rh l 4%4=(uF l:Int):=by unfold uF;omega
 rw[j];refine ae (λe=>?_) (λe=>?_)
 .have z:i<uF l:=nb
  rw[af ((5:Int)+i)];have L:(5:Int)+i=((5+i:Nat):Int):=nb
  rw[L];refine(ri s l (5+i) h8 b).G6 ⟨_,m9,(bT _ 50 _).G6 ?_⟩;refine⟨_,m9,?_⟩
  try dsimp only
  rw[af (8+rh l (5+i)%50)];refine c.push ag 0 m9 ge m9 nq (λ_=>rfl) dt (8+rh l (5+i)%50) m9 nq n2 λA B k=>?_;refine⟨(A,i+1),n3,⟨n1,?_⟩,n1⟩
  try dsimp only
  rw[aA _ _ (show i<(jY l).length by omega)];have y:(jY l)[i]'nb=8+rh l (5+i)%50:=by simp[jY]
  rw[y];exact k
 .have p:i=uF l:=nb
  subst p;rw[qh nb]at c;have u:bK.ok [(f,(xJ xP (dD l).1)),(f.add 1,(xJ xP (dD l).2.1)),(f.add 2,(xJ xP (dD l).2.2))] h8:=⟨g.cell0 m9,g.cell m9,g.cell m9,I0⟩
  refine⟨dD l,g.aw _ m9,(ri s l 3 h8 b).G6 ?_⟩;refine⟨_,m9,u,(bT _ 7 _).G6 ?_⟩;refine⟨_,m9,u,?_⟩;refine c.storeAll ag 2 m9 m9 [xJ xP (dD l).1,xJ xP (dD l).2.1,xJ xP (dD l).2.2] m9 m9 m9 m9 λI d=>⟨I0,?_⟩
  exact⟨dD l,(d.box 2 m9).aw _ m9,o,m9,d.bs [0]⟩
theorem YZ:(dc (1,1,1) 0 Pow.new [5]).1=0:=oi
theorem TK:(bh (dc (1,1,1) 0 Pow.new [5]).2.2 (cw (1,1,1) 0 [5]).drives).length=1:=oi
end
end Go.Qw
