/- Lemmas for the proof of the law; no condition. -/
import Derived.Test.YtplpfpidgljdhaaGreatDoorKA
import Derived.Test.YtplpfpidgljdhaaGreatDoorShelfB
import Derived.Test.YtplpfpidgljdhaaGreatDoorPlB
set_option linter.unusedVariables false
set_option maxHeartbeats 2000000
set_option linter.unusedSimpArgs false
open Go.Proofs.Tryz renaming prog -> xQ
open Go.Value renaming agg -> xL, bool -> xK, int -> xG, pointer -> xI, slice -> xH, string -> xJ
open Go.IntKind renaming bits -> qG, i64 -> xM, signed -> vg, u32 -> xO, u64 -> xP, u8 -> xN, wrap -> qe
open Nat renaming le_of_eq -> xt
open Int renaming tmod -> xz
open List renaming any_cons -> xn, any_nil -> xC, range -> qz, replicate -> qi, zipWith -> ze
open Option renaming some -> zQ
open Go.Instr renaming storeAt -> qE
open Prod renaming fst -> qq, snd -> zi
set_option maxRecDepth 100000
open Option renaming some -> dB, none -> ez
open Bool renaming true -> eH, false -> eL
open Go renaming Addr -> eX
open Go.Qw renaming Heap -> f8
open List renaming length -> ii
namespace Go.Qw
open Go.Proofs
theorem ZK{α:Type}{h:f8}{e:TypeId}{s:Sl}{k:Nat}{f:α->aR}{l:List α}(c:Own h e s k f l)(a:l≠[]):s.ptr.isNone=eL:=by
 rcases c.head with⟨_,_,h3⟩|⟨b,rest,h1,_⟩
 ·exact absurd h3 a
 ·rw[h1];rfl
theorem NI(p:Pm)(seed id:Int)(h:f8):an xQ 230 #[jQ p,xG xO seed,xG xM id] h λv h'=>∃r:Sl,v=r/\
  Sp h h' [ae 5 r 1 aw (if bS p&&ct id then CL (bX p).toNat seed id else[])]/\r.ptr.isNone=!(bS p&&ct id):=by
 refine ts Tryz.func230 ?_ (.two .n (.two (.join [] [(6,7),(10,21)] .n) (.two .n (.two (.two .n (.inn (.loop [(29,aS)] [(9,10),(29,37)] .n))) .n)))) (args:=[p,(xG xO (seed:Int)),(id:Int)]);refine(Sp.refl h).boxed λa R E=>?_;refine aT ?_;refine⟨p,(E.box 0 i0).aE _ i0,(eF p R).mono ?_⟩;rintro v D ⟨rfl,P⟩;have o:=E.comp P;have s:(bS p&&ct id)=eL->Sp h D [ae 5 ⟨ez,0,0⟩ 1 aw (if bS p&&ct id then CL (bX p).toNat seed id else[])]/\Option.isNone (ez:bZ)=!(bS p&&ct id):=λO=>by
  rw[O];exact⟨(o.nil 5 1 aw).take 1 (λi A g=>by cases i with|zero=>exact g|succ i=>simp at g),i0⟩
 refine⟨_,i0,aQ (λe=>⟨⟨ez,0,0⟩,i0,s o0⟩) λk=>?_⟩;refine ag (λe=>⟨⟨ez,0,0⟩,i0,s l5⟩) λX=>?_;refine ag (λe=>⟨⟨ez,0,0⟩,i0,s l5⟩) λG=>?_;have hid:ct id=eH:=l5
 refine⟨p,(o.box 0 i0).aE _ i0,(jV p D).mono ?_⟩;rintro v h3 ⟨rfl,K⟩;have S:=o.comp K;have L:=(cg p).1 k;have W:bX p=p.1+p.2.1:=by rw[bX,f9 k]
 obtain⟨n,F⟩:∃n:Nat,bX p=n:=⟨(bX p).toNat,i4⟩
 refine⟨_,i0,?_⟩
 try dsimp only
 rw[F];refine S.make aj aw gF i5 0 i0 i0 n n i0 i0 (qm _) i4 λv I U M H=>?_;refine⟨p,(H.box 0 i0).aE _ i0,(uP p seed id I).mono ?_⟩;rintro w V ⟨c,rfl,y⟩;rw[k,hid,F,qk]at y;rw[k,hid,qk];have u:=H.comp y;have j:=u.seq 2 i0 λ_=>rfl;have t:=j.len;obtain⟨b,d⟩:∃b,b=eT n seed id:=⟨_,rfl⟩
 have q:∀x∈b,0<=x/\x<(n:Int):=λx B=>nT i4 i4 (by rw[<-d];exact B);have z:ii b<=n:=by rw[d];exact uw i4 i4 _ _
 simp only[Bool.and_self,if_true,<-d]at u j t y;refine⟨c,i0,?_⟩;refine aq (λi:Nat=>(i:Int)) (λi h'=>i<=ii b/\Sp h h' [ac a 36 [xG xM p.1,xG xM p.2.1,xG xM p.2.2],ae 5 v 1 aw (iE n (b.take i)),ae 3 c 1 ak b]) (λi=>ii b-i) 0 i0 ⟨i4,u⟩ ?_;rintro i J ⟨g,l⟩;refine ag (λe=>?_) (λe=>?_)
 ·have f:i<ii b:=i4
  have B:=q _ (qf f);refine(l.seq 2 i0 λ_=>rfl).bt i i0 f _ i0 ?_;refine l.set aj 1 i0 (λ_=>rfl) i0 b[i].toNat i4 (by rw[tj];omega) 1 i0 i0 i0 λT N=>?_;refine⟨i+1,j0,⟨i4,?_⟩,i4⟩;have G:iE n (b.take (i+1))=(iE n (b.take i)).set b[i].toNat 1:=by rw[aD _ _ f,iE,zB];rfl
  rw[G];exact N
 ·rw[qg i4]at l;have m:Sp h J [ae 5 v 1 aw (iE n b)]:=(l.del 2).take 1 (λi A g=>by cases i with|zero=>exact g|succ i=>simp at g);refine⟨v,i0,?_,ZK (m.own 0 i0) λQ=>?_⟩
  ·rw[d]at m;exact m
  ·have:=tj n b;rw[Q]at this;simp at this;omega
theorem rK(p:Pm)(h:f8):an xQ 208 #[jQ p] h λv h'=>∃r:Sl,v=r/\Sp h h' [fH 58 r 1 aw (if bS p then bU p.1.toNat p.2.1.toNat else[])]:=by
 refine ts Tryz.func208 ?_ (.two .n (.two .n (.two .n (.two .n (.two (.two .n (.inn (.loop [(4,cK),(14,aS)] [(4,8),(14,45)] (.two .n (.two .n (.two (.inn (.two .n (.two (.join [(6,cK)] [(6,7),(17,24)] .n) (.two (.two .n (.inn (.loop [(26,aS)] [(7,8),(26,40)] .n))) .n)))) .n)))))) .n))))) [(8,(.l [0,2,3,4,5,1,6,7]))] (args:=[p]);refine(Sp.refl h).boxed λa Y D=>?_;refine⟨p,(D.box 0 i0).aE _ i0,(eF p Y).mono ?_⟩;rintro v O ⟨rfl,V⟩;have B:=D.comp V;refine⟨_,i0,aQ (λe=>⟨⟨ez,0,0⟩,i0,?_⟩) λw=>?_⟩
 ·rw[e];exact(B.GZ 58 1 aw).take 1 (λi A c=>by cases i with|zero=>exact c|succ i=>simp at c)
 have P:=(cg p).1 w;have hc:bX p=p.1+p.2.1:=by rw[bX,f9 w]
 obtain⟨K,W⟩:∃K:Nat,p.1=K:=⟨p.1.toNat,i4⟩
 obtain⟨b,T⟩:∃H:Nat,p.2.1=H:=⟨p.2.1.toNat,i4⟩
 refine(oU O).mono ?_;rintro v h3 ⟨f,rfl,N⟩;have G:=(B.comp N).GZ 58 1 aw;refine⟨dB f,i0,_,(G.box 0 i0).cell i0,?_⟩;refine aq (λt:Sl×Nat=>(t.1,(t.2:Int))) (λt h'=>t.2<=b/\Sp h h' [ac a 36 [xG xM p.1,xG xM p.2.1,xG xM p.2.2],ac f 308 cR,fH 58 t.1 1 aw ((bU K b).take t.2)]) (λt=>b-t.2) (⟨ez,0,0⟩,0) i0 ⟨i9,G⟩ ?_;rintro⟨s,k⟩ I ⟨hk,m⟩;dsimp only at*;refine ag (λe=>?_) (λe=>?_)
 ·have X:k<b:=i4
  refine aT ⟨p,(m.box 0 i0).aE _ i0,p.1,(m.box 0 i0).cell0 i0,?_⟩;refine(jV p I).mono ?_;rintro v R ⟨rfl,R5⟩;have E:=m.comp R5;refine⟨_,i0,⟨(E.box 0 i0).cell0 i0,trivial⟩,?_⟩
  try dsimp only
  rw[ai (p.1+k),hc];refine(WD _ _ R).mono ?_;rintro v h6 ⟨u,rfl,x⟩;rw[f9 i4]at x;have e1:(p.1+p.2.1).toNat=K+b:=i4
  have e2:(p.1+(k:Int)).toNat=K+k:=i4
  rw[e1,e2]at x;have y:=E.comp x;refine⟨u,i0,⟨(y.box 0 i0).cell0 i0,trivial⟩,p.1,(y.box 0 i0).cell0 i0,?_⟩;let rowAt:Nat->aP:=λj=>(qz j).map (λi=>Gf.pw ((k+1)*(i+1)%255))++((qi (K+b) (0:UInt8)).set (K+k) 1).drop j;refine aq (λj:Nat=>(j:Int)) (λj h'=>j<=K/\Sp h h' [ac a 36 [xG xM p.1,xG xM p.2.1,xG xM p.2.2],ac f 308 cR,fH 58 s 1 aw ((bU K b).take k),ae 5 u 1 aw (rowAt j)]) (λj=>K-j) 0 i0 ⟨i4,y⟩ ?_;rintro j L ⟨hj,o⟩;refine ag (λZ=>?_) (λZ=>?_)
  ·have d:j<K:=i4
   have hm:(k+1)*(j+1)<=4*16:=wx i4 i4;have J:qe xM (qe xM ((k:Int)+1)*qe xM ((j:Int)+1))=(((k+1)*(j+1):Nat):Int):=by rw[ai ((k:Int)+1),ai ((j:Int)+1),show((k:Int)+1)*((j:Int)+1)=(((k+1)*(j+1):Nat):Int)by rw[wQ];rfl];exact rY _
   rw[J];refine(ZJ f _ L (o.box 1 i0)).mono ?_;rintro v h8 ⟨rfl,rfl⟩;refine⟨_,i0,?_⟩;have F:ii (rowAt j)=K+b:=by simp[rowAt];omega
   refine o.set aj 3 i0 (λ_=>rfl) i0 j i0 i4 _ i0 i0 i0 λh9 q=>?_;refine⟨j+1,j0,⟨i4,?_⟩,i4⟩;have z:(rowAt j).set j (Gf.pw ((((k+1)*(j+1):Nat):Int)%255).toNat)=rowAt (j+1):=by
    have e6:((((k+1)*(j+1):Nat):Int)%255).toNat=(k+1)*(j+1)%255:=i4
    rw[e6];simp only[rowAt];rw[qS _ _ i9,qu,zC,qW,qJ i7,zr,zV,qM,qn];rfl
   rw[<-z];exact q
  ·have d:j=K:=i4
   subst d;have z:rowAt j=pq j b k:=by
    simp only[rowAt,pq];congr 1;apply zt;intro i;rw[wL,qU,qL];by_cases c:i<b
    ·rw[zm c,qQ,zO];by_cases g:i=k
     ·subst g;simp[c]
     ·rw[g0 i4,f9 i4,g0 g]
    ·rw[qB (l:=qz b) i7,g0 i4,zO,g0 i4];rfl
   rw[z]at o;have S:=o.freeze 3 i0 λ_=>rfl;have Q:ii ((bU j b).take k)=k:=by simp[bU];omega
   refine S.sI aj 2 3 i5 i0 i0 fw i4 λU h9 q=>?_;refine⟨(U,k+1),jj,⟨i6,?_⟩,i6⟩;have M:(bU j b).take (k+1)=(bU j b).take k++[pq j b k]:=by rw[aD _ _ (by simp[bU];omega)];simp[bU]
   try dsimp only
   rw[M];exact q.del 3
 ·refine⟨s,i0,?_⟩;rw[f9 w,W,T,qk,qk];rw[qg (by simp[bU];omega)]at m;exact m.take 2 (λi A c=>by cases i with|zero=>exact c|succ i=>simp at c)
theorem HN(p:Pm)(h:f8):an xQ 165 #[jQ p] h λv h'=>∃r:Sl,v=r/\Sp h h' [ae 3 r 1 ak (upto (max 0 (min p.1 16)).toNat)]:=by
 refine ts Tryz.func165 ?_ (.two .n (.two .n (.two (.two .n (.inn (.loop [(3,cK),(9,aS)] [(3,5),(9,17)] .n))) .n))) (args:=[p]);refine(Sp.refl h).boxed λa q c=>?_;refine⟨p.1,(c.box 0 i0).cell0 i0,?_⟩;have em:(if(if(16:Int)<p.1 then(16:Int)else p.1)>(0:Int)then(if(16:Int)<p.1 then(16:Int)else p.1)else(0:Int))=((max 0 (min p.1 16)).toNat:Int):=by split<;>split<;>omega
 try dsimp only
 rw[em];generalize o:(max 0 (min p.1 16)).toNat=N;have d:N<=16:=i4
 refine aq (λt:Sl×Nat=>(t.1,(t.2:Int))) (λt h'=>t.2<=N/\Sp h h' [emp,ae 3 t.1 1 ak (upto t.2)]) (λt=>N-t.2) (⟨ez,0,0⟩,0) i0 ⟨i9,(c.dX 0 i0 λ_ _=>trivial).nil 3 1 ak⟩ ?_;rintro⟨s,k⟩ m ⟨u,b⟩;dsimp only at*;refine ag (λe=>?_) (λe=>?_)
 ·refine b.push aj 1 i0 fR i0 i5 (λ_=>rfl) eC (k:Int) i0 i5 tp λg h3 l=>?_;refine⟨(g,k+1),jj,⟨i6,?_⟩,i6⟩;have j:upto (k+1)=upto k++[(k:Int)]:=by simp[upto,zV]
  dsimp only;rw[j];exact l
 ·have:k=N:=i4
  subst this;exact⟨s,i0,b.take 1 λi A f=>by cases i with|zero=>exact f|succ i=>simp at f⟩
theorem Fk(p:Pm)(seed:Int)(d:Sl)(l:aB)(h:f8)(B:Rd h d 1 ak l)(H:ii l<=2^30):an xQ 164 #[jQ p,xG xO seed,d] h λv h'=>∃r:Sl,v=r/\Sp h h' [fH 58 r 1 aw (ga p seed l)]:=by
 refine ts Tryz.func164 ?_ (.two .n (.two .n (.two (.two .n (.inn (.loop [(7,cK),(15,aS)] [(7,8),(9,11),(15,30)] .n))) .n))) (args:=[p,(xG xO (seed:Int)),d]);refine(Sp.refl h).boxed λa E z=>?_;refine⟨p,(z.box 0 i0).aE _ i0,(rK p E).mono ?_⟩;rintro v G ⟨r,rfl,M⟩;have y:=z.comp M;refine⟨r,i0,?_⟩;have D:=B.len;let at_:Nat->bO:=λk=>ga p seed (l.take k);have h0:(if bS p then bU p.1.toNat p.2.1.toNat else[])=at_ 0:=by simp[at_,ga]
 rw[h0]at y;refine aq (λt:Sl×Nat=>(t.1,(t.2:Int))) (λt h'=>t.2<=ii l/\Sp h h' [ac a 36 [xG xM p.1,xG xM p.2.1,xG xM p.2.2],fH 58 t.1 1 aw (at_ t.2)]) (λt=>ii l-t.2) (r,0) i0 ⟨i9,y⟩ ?_;rintro⟨s,k⟩ h3 ⟨P,o⟩;dsimp only at*;refine ag (λe=>?_) (λe=>?_)
 ·have f:k<ii l:=i4
  refine(Seq.up B o.af).bt k i0 f _ i0 ?_;refine⟨p,(o.box 0 i0).aE _ i0,(NI p seed l[k] h3).mono ?_⟩;rintro v N ⟨w,rfl,K,c⟩;have x:=(o.comp K).freeze 2 i0 λ_=>rfl;refine⟨w,i0,?_⟩;have u:ii (at_ k)<=4+k∨at_ k=[]:=by
   by_cases q:bS p
   ·left;have:=(cg p).1 q;have E:=qR ct (l.take k);have G:=List.length_take_le k l;simp only[at_,ga,q,if_true,qt,qu,bU,zC];omega
   ·right;simp[at_,ga,q]
  have m:ii (at_ k)+1<=2^32:=by
   rcases u with h|h
   ·omega
   ·rw[h];simp
  try dsimp only
  refine aQ (λg=>?_) (λg=>?_)
  ·rw[c]at g;have b:(bS p&&ct l[k])=eH:=l9
   rw[b,f9 rfl]at x;refine x.sI aj 1 2 i5 i0 i0 fw m λJ O I=>?_;refine⟨(J,k+1),jj,⟨i6,?_⟩,i6⟩;rw[qw]at b;have j:at_ (k+1)=at_ k++[CL (bX p).toNat seed l[k]]:=by simp only[at_,ga,b.1,if_true];rw[nH f,f9 b.2,qM,qn];rfl
   try dsimp only
   rw[j];exact I.del 2
  ·rw[c]at g;have b:(bS p&&ct l[k])=eL:=by
    cases hh:(bS p&&ct l[k])with
    |false=>rfl
    |true=>rw[hh]at g;cases g
   refine⟨(s,k+1),jj,⟨i6,?_⟩,i6⟩;have j:at_ (k+1)=at_ k:=by
    simp only[at_,ga];rw[Bool.and_eq_false_iff]at b;rcases b with h|h
    ·simp[h]
    ·have L:(l.take (k+1)).filter ct=(l.take k).filter ct:=by rw[nH f,g0 u9]
     rw[L]
   try dsimp only
   rw[j];exact x.del 2
 ·refine⟨s,i0,?_⟩;have j:at_ k=ga p seed l:=by simp only[at_];rw[qg i4]
  rw[j]at o;exact o.take 1 (λi A F=>by cases i with|zero=>exact F|succ i=>simp at F)
theorem mF(a:Sl)(m:aI)(n:Nat)(h:f8)(c:dY h a 1 aw m)(g:aV n m)(p:n<=64:=by omega)(q:ii m<=2^30:=by omega):an xQ 222 #[a] h λv h'=>v=xK eH/\h'=h:=by
 refine ts Tryz.func222 ?_ (.two .n (.two (.two .n (.inn (.loop [(7,aS)] [(2,3),(4,5),(7,24)] .n))) .n));have o:=c.len;refine aq (λk:Nat=>(k:Int)) (λk h'=>h'=h/\k<=ii m) (λk=>ii m-k) 0 i0 ⟨i0,i4⟩ ?_;rintro k h' ⟨rfl,s⟩;refine ag (λe=>?_) λe=>⟨i0,i0⟩;have d:k<ii m:=i4
 refine c.get k i0 d λr j=>?_;refine c.get 0 i0 i4 λl b=>?_;have i:=j.len;have f:=b.len;rw[g _ (qf _)]at i f;refine bx (λe=>i4) λ_=>ag (λe=>i4) λ_=>?_;exact⟨k+1,j0,⟨i0,i4⟩,i4⟩
theorem tK(a:Sl)(m:aI)(n:Nat)(h:f8)(d:dY h a 1 aw m)(p:aV n m)(A:n<=64:=by omega)(E:ii m<=2^30:=by omega):an xQ 224 #[a] h λv h'=>∃(r:Sl) (rs:List Sl),v=r/\rs.length=ii m/\Sp h h' (ae 58 r 1 aX rs::bn 5 1 aw rs m):=by
 refine ts Tryz.func224 ?_ (.two .n (.two .n (.two (.two .n (.inn (.loop [(3,cK),(11,aS)] [(3,4),(5,6),(11,21)] .n))) .n)));have z:=d.len;refine(Sp.refl h).make aj aX fw i5 ⟨ez,0,0⟩ i0 i0 0 m.length i0 i4 i4 i4 λs B i D j=>?_;refine aq (λt:Sl×List Sl=>(t.1,(ii t.2:Int))) (λt h'=>ii t.2<=ii m/\Sp h h' (ae 58 t.1 1 aX t.2::bn 5 1 aw t.2 (m.take t.2.length))) (λt=>ii m-ii t.2) (s,[]) i0 ⟨i9,by simpa[bn]using j⟩ ?_;rintro⟨s,rs⟩ g ⟨F,c⟩;dsimp only at*;refine ag (λe=>?_) (λe=>?_)
 ·have b:ii rs<ii m:=i4
  refine(d.up c.af).get rs.length i0 b λr x=>?_;have k:m[ii rs].length=n:=p _ (qf _);refine(eI r _ g x i4).mono ?_;rintro v h3 ⟨w,rfl,f⟩;have u:=c.comp f;refine⟨w,i0,?_⟩;refine u.push aj 0 i0 fw i0 i5 (λ_=>rfl) jb w i0 i5 i4 λl y o=>?_;refine⟨(l,rs++[w]),by dsimp only;rw[ai _];simp,⟨i7,?_⟩,i7⟩
  try dsimp only
  rw[show(rs++[w]).length=ii rs+1 by simp,aD _ _ b,sW (by rw[List.length_take];omega)];exact o
 ·have q:m.take rs.length=m:=qg i4;rw[q]at c;exact⟨s,rs,i0,i4,c⟩
theorem pG(a:Sl)(m:aI)(h:f8)(b:dY h a 1 aw m):an xQ 223 #[a] h λv h'=>v=xG xM (eE m)/\h'=h:=by
 refine ts Tryz.func223 ?_;have d:=b.len;refine cv (λe=>?_) (λe=>?_)
 ·have:m=[]:=qX i4;subst this;exact⟨i0,i0⟩
 ·refine b.get 0 i0 i4 λr c=>⟨?_,i0⟩
  rw[c.len,eE,bE i4]
theorem NJ{r:Row}{c:Nat}(h:c<ii r:=by omega):aJ r c=r[c]:=by rw[aJ,qd,qc h];rfl
theorem Qf(a:Sl)(m:aI)(n b bw:Nat)(h:f8)(q:dY h a 1 aw m)(u:aV n m)(y:bw<n)(z:ii m<=2^30):
  an xQ 289 #[a,xG xM b,xG xM bw] h λv h'=>v=xG xM (match iR m b bw with|some i=>(i:Int)|none=>-1)/\h'=h:=by
 refine ts Tryz.func289 ?_ (.two .n (.scope 0 [(7,aS)] [(6,8),(9,24)] [.n] [.n] [(1,[.n])]));have x:=q.len;refine aq (λk:Nat=>(k:Int)) (λk h'=>h'=h/\b<=k/\k<=max b m.length/\∀j,j<k->(decide (b<=j)&&(aJ (aC m j) bw !=0))=eL) (λk=>ii m-k) b i0 ⟨i0,i4,i4,λj g=>by rw[hU i4];rfl⟩ ?_;rintro k h' ⟨rfl,l,t,g⟩;refine ag (λe=>?_) (λe=>?_)
 ·rw[iR,Td λj f=>g j i4];exact⟨i0,i0⟩
 ·have d:k<ii m:=i4
  have s:m[k].length=n:=u _ (qf _);refine q.get k i0 d λr w=>?_;refine w.bt bw i0 i4 _ i0 ?_;have c:aJ (aC m k) bw=m[k][bw]'(by omega):=by rw[bE d,NJ]
  refine bx (λp=>?_) (λp=>?_)
  ·have o:(decide (b<=k)&&(aJ (aC m k) bw !=0))=eH:=by rw[g9 l,c];simp;exactλh0=>p (by rw[h0];rfl)
   rw[iR,Te d g o];exact⟨i0,i0⟩
  ·refine⟨k+1,j0,⟨i0,i4,i4,λj f=>?_⟩,i4⟩;rcases Nat.lt_succ_iff_lt_or_eq.1 f with h1|rfl
   ·exact g j h1
   ·rw[c,xX.1 p];simp
theorem HO(f:eX)(c:UInt8)(a:Sl)(l:Row)(h:f8)(j:fy h f)(i:Rd h a 1 aw l)(A:ii l<=2^30):an xQ 290 #[xI (dB f),xG xN c.toNat,a] h λv h'=>∃r:Sl,v=r/\Sp h h' [ae 5 r 1 aw (scaleB c l)]:=by
 refine ts Tryz.func290 ?_ (.two .n (.two .n (.two .n (.two (.two .n (.inn (.loop [(17,aS)] [(8,10),(17,30)] .n))) .n))));have y:=i.len;refine(Lo f h).mono ?_;rintro v m ⟨rfl,rfl⟩;refine⟨dB f,i0,?_⟩;refine(Sp.refl m).make aj aw gF i5 0 i0 i0 l.length l.length i4 i4 (qm _) i4 λs w p z o=>?_;refine aq (λk:Nat=>(k:Int)) (λk h'=>k<=ii l/\Sp m h' [ae 5 s 1 aw ((l.take k).map (Gf.mul c)++qi (ii l-k) 0)]) (λk=>ii l-k) 0 i0 ⟨i4,by simpa using o⟩ ?_;rintro k h3 ⟨B,d⟩;refine ag (λe=>?_) (λe=>?_)
 ·have b:k<ii l:=i4
  refine(Seq.up i d.af).bt k i0 b _ i0 ?_;refine(Gk f c l[k] h3 (j.af d.af j.lt)).mono ?_;rintro v u ⟨rfl,rfl⟩;refine⟨_,i0,?_⟩;refine d.set aj 0 i0 (λ_=>rfl) i0 k i0 i7 _ i0 i0 i0 λx q=>?_;refine⟨k+1,j0,⟨i4,?_⟩,i4⟩;have g:ii ((l.take k).map (Gf.mul c))=k:=i7
  have t:((l.take k).map (Gf.mul c)++qi (ii l-k) 0).set k (Gf.mul c l[k])=(l.take (k+1)).map (Gf.mul c)++qi (ii l-(k+1)) 0:=by rw[qS _ _ i4,g,qW,show l.length-k=ii l-(k+1)+1 by omega,List.replicate_succ,zr,aD _ _ b,qM,qn];rfl
  rw[<-t];exact q
 ·have:k=ii l:=i4
  subst this;refine⟨s,i0,?_⟩;rw[qg (qm _),qW,List.replicate_zero,qF]at d;exact d
theorem tO{c:UInt8}{a t:Row}(d:ii a=ii t){k:Nat}(b:k<ii t):(ze (λx y=>y^^^Gf.mul c x) (a.take k) (t.take k)++t.drop k).set k (t[k]^^^Gf.mul c (a[k]'(by omega)))=ze (λx y=>y^^^Gf.mul c x) (a.take (k+1)) (t.take (k+1))++t.drop (k+1):=by
 have e:ii (ze (λx y=>y^^^Gf.mul c x) (a.take k) (t.take k))=k:=i7
 rw[qS _ _ i4,e,qW,qJ b,zr,aD _ _ b,aD _ _ (show k<ii a by omega),yF i7];simp
theorem ZL(f:eX)(c:UInt8)(a l:Sl)(d lt:Row)(h:f8)(G:fy h f)(z:¬l.on f.block)(B:Seq h (λb=>¬l.on b) a 1 aw d)(t:Own h 5 l 1 aw lt)(o:ii d=ii lt)(K:ii d<=2^30):
  an xQ 292 #[xI (dB f),xG xN c.toNat,a,l] h λv h'=>v=.tuple #[]/\Own h' 5 l 1 aw (cO c d lt)/\aN (λb=>¬l.on b) h h':=by
 refine ts Tryz.func292 ?_ (.two .n (.two .n (.inn (.loop [(14,aS)] [(8,10),(14,30)] .n))));have J:=B.len;have I:=t.len;refine cv (λe=>?_) (λ_=>?_)
 ·have H:c=0:=xX.1 e;subst H;have:cO 0 d lt=lt:=by apply List.ext_getElem (by rw[bV o]);intro i D E;simp[cO,Gf.zero_mul]
  exact⟨i0,by rw[this];exact t,aN.refl _ _⟩
 ·refine aq (λk:Nat=>(k:Int)) (λk h'=>k<=ii d/\Own h' 5 l 1 aw (ze (λx y=>y^^^Gf.mul c x) (d.take k) (lt.take k)++lt.drop k)/\aN (λb=>¬l.on b) h h') (λk=>ii d-k) 0 i0 ⟨i4,by simpa using t,aN.refl _ _⟩ ?_;rintro k D ⟨L,g,j⟩;refine ag (λe=>?_) (λe=>?_)
  ·have A:k<ii d:=i4
   have s:k<ii lt:=i4
   have r:ii (ze (λx y=>y^^^Gf.mul c x) (d.take k) (lt.take k))=k:=i7
   have F:ii (ze (λx y=>y^^^Gf.mul c x) (d.take k) (lt.take k)++lt.drop k)=ii lt:=by rw[qt,r,List.length_drop];omega
   refine(B.af j).bt k i0 A _ i0 ?_;have m:(ze (λx y=>y^^^Gf.mul c x) (d.take k) (lt.take k)++lt.drop k)[k]'(by omega)=lt[k]:=by rw[List.getElem_append_right i4];simp[r]
   refine(g.seq (p:=λ_=>True) (λ_=>rfl) λ_ _=>trivial).mb k i0 i4 _ i0 λax q=>?_;rw[m]at q⊢;refine(Gk f c d[k] D (G.af j z)).mono ?_;rintro v E ⟨rfl,rfl⟩;refine⟨_,i0,⟨q,trivial⟩,?_⟩
   try dsimp only
   rw[mE];refine g.set aj (λ_=>rfl) i0 k i0 i4 _ i0 i0 i0 λh3 w u _=>⟨trivial,?_⟩
   refine⟨k+1,j0,⟨i4,?_,j.trans u⟩,i4⟩;rw[<-tO o s];exact w
  ·have:k=ii d:=i4
   subst this;rw[qg (qm _),qg i4,zd i4,qF]at g;exact⟨i0,g,j⟩
abbrev ni(a:Sl)(rs:List Sl)(m:aI):List HP:=ae 58 a 1 aX rs::bn 5 1 aw rs m
theorem oc{a:Sl}{rs:List Sl}{m:aI}(c:ii rs=ii m)(i:Nat)(b:i<ii m):(ni a rs m)[i+1]?=dB (ae 5 (rs[i]'(by omega)) 1 aw m[i]):=by rw[qo];exact fk c i b
theorem od{h h':f8}{a:eX}{v:Value}(c:cellOf h a=dB v)(d:aN (λb=>b<h.size) h h'):cellOf h' a=dB v:=d.cell (df c) c
theorem WH{B:av}{z:f8}{f:eX}(N:fy z f)(y:B f.block){a:Sl}{n c bw:Nat}{rs:List Sl}{m:aI}(W:ii rs=ii m)(Z:aV n m)(hc:bw<n)(hn:n<=64)(V:c<ii m)(hs:ii m<=2^30)
  {h:f8} (H:aa B z h (ni a rs m)) {K:f8->Prop} (hk:∀h',aa B z h' (ni a rs (eU c bw m m.length))->K h'):
 gU (σ:=Int) (λd Y i=>
 Br (decide (d<((a.len:Nat):Int)))
 (Br (d !=(c:Int))
 (∃s:eX,(a.ptr=dB s/\0<=d/\d<((a.len:Nat):Int))/\
 ∃g:Sl,cellOf i (s.add (d.toNat*1))=dB (xH g.ptr g.len g.cap)/\
 ∃I:eX,(g.ptr=dB I/\0<=(bw:Int)/\(bw:Int)<((g.len:Nat):Int))/\
 ∃G:Int,cellOf i (I.add ((bw:Int).toNat*1))=dB (xG xN G)/\
 ∃a25:eX,(a.ptr=dB a25/\0<=(c:Int)/\(c:Int)<((a.len:Nat):Int))/\
 ∃j:Sl,cellOf i (a25.add ((c:Int).toNat*1))=dB (xH j.ptr j.len j.cap)/\
 ∃E:eX,(a.ptr=dB E/\0<=d/\d<((a.len:Nat):Int))/\
 ∃l:Sl,cellOf i (E.add (d.toNat*1))=dB (xH l.ptr l.len l.cap)/\
 ox xQ 292 #[(xI (dB f)),(xG xN G),(xH j.ptr j.len j.cap),(xH l.ptr l.len l.cap)] (.many []) i λ_ J=>
 (bQ.ok [(s.add (d.toNat*1),(xH g.ptr g.len g.cap))] J)/\
 Y (qe xM (d+(1:Int))) J)
 (Y (qe xM (d+(1:Int))) i))
 (K i)) (0:Int) h:=by
 have ad:a.len=ii m:=by rw[(H.own 0 i0).len,W]
 refine aq (λk:Nat=>(k:Int)) (λk h'=>k<=ii m/\aa B z h' (ni a rs (eU c bw m k))) (λk=>ii m-k) 0 i0 ⟨i4,by rw[Vw];exact H⟩ ?_;rintro k h1 ⟨ab,o⟩;have S:=nJ c bw m k;have w:ii rs=ii (eU c bw m k):=by rw[S];exact W
 refine ag (λe=>?_) (λe=>?_)
 ·have x:k<ii m:=i4
  refine bx (λe2=>?_) (λe2=>?_)
  ·have r:k≠c:=λhh=>e2 (by rw[hh]);have L:aC (eU c bw m k) k=aC m k:=by rw[pr x,g0 i4]
   have O:aC (eU c bw m k) c=aC m c:=by rw[pr V,g0 i4]
   have e4:(eU c bw m k)[k]'(by omega)=aC m k:=by rw[<-L,bE]
   have e5:(eU c bw m k)[c]'(by omega)=aC m c:=by rw[<-O,bE]
   have u:=oc (a:=a) w k i4;have X:=oc (a:=a) w c i4;rw[e4]at u;rw[e5]at X;have lk:=cC Z x;have lt:=cC Z V;have q:=o.off (k+1) 0 i4 u i0;have t:=q.1.seq (λ_=>rfl) q.2;refine t.ng k i0 i4 λa1 P R=>?_;have Q:=o.seq (k+1) u λ_=>rfl;refine Q.bt bw i0 i4 _ i0 ?_;refine t.ng c i0 i4 λ_ _ _=>?_;refine t.ng k i0 i4 λ_ _ _=>?_;have D:(kP (rs[c]'(by omega)) 1 aw (aC m c)).p h1 (λb=>¬(rs[k]'(by omega)).on b):=by have:=o.off (k+1) (c+1) i4 u X;exact(this.1.seq (λ_=>rfl) this.2).mono λb hb=>hb.2
   refine(ZL f _ _ _ (aC m c) (aC m k) h1 (N.af o.af y) (o.base (k+1) u y) D (o.own (k+1) u) i4 i4).mono ?_;rintro v h2 ⟨rfl,T,A⟩;have U:=o.mN (k+1) u A T;have M:=A.cell R.2 P;refine⟨(),i0,⟨M,trivial⟩,?_⟩;refine⟨k+1,j0,⟨i4,?_⟩,i4⟩;rw[Vx x r];show aa B z h2 (ae 58 a 1 aX rs::bn 5 1 aw rs ((eU c bw m k).set k _));rw[<-My w k i4];have F:(aC m k)[bw]'(by omega)=aJ (aC m k) bw:=(NJ).symm;rw[F]at U;exact U
  ·have r:k=c:=i4
   subst r;exact⟨k+1,j0,⟨i4,by rw[Vy];exact o⟩,i4⟩
 ·have:k=ii m:=i4
  subst this;exact hk _ o
theorem NK{rs:List Sl}{m:aI}(a:ii rs=ii m)(i j:Nat)(c:i<ii m)(b:j<ii m):
  ((bn 5 1 aw rs m).set i (ae 5 (rs[j]'(by omega)) 1 aw m[j])).set j (ae 5 (rs[i]'(by omega)) 1 aw m[i])=bn 5 1 aw ((rs.set i (rs[j]'(by omega))).set j (rs[i]'(by omega))) (jd m i j):=by
 rw[kz a,kz kt,jd,bE c,bE b]
theorem xY{B:av}{u:f8}{f:eX}(Q:fy u f)(P:B f.block){a:Sl}{n cS:Nat}{rs:List Sl}{m:aI}(hl:ii rs=ii m)(hm:aV n m)(hc:cS<=n)(hn:n<=64)(hs:ii m<=2^30)
  {h:f8} (H:aa B u h (ni a rs m)):an xQ 225 #[xI (dB f),a,xG xM cS] h λv h'=>
   ∃V:List Sl,v=xG xM (bD m cS).1/\V.length=ii m/\aa B u h' (ni a V (bD m cS).2):=by
 have ah:a.len=ii m:=by rw[(H.own 0 i0).len,hl]
 refine ts Tryz.func225 ?_ (.two .n (.two .n (.two (.two .n (.inn (.loop [(7,aS),(12,aS)] [(7,11),(12,82)] (.two .n (.two .n (.two (.inn (.two .n (.two .n (.two .n (.two (.join [] [(21,35)] .n) (.two (.join [] [(35,53)] .n) (.two (.two .n (.inn (.loop [(55,aS)] [(10,11),(55,79)] .n))) .n))))))) .n)))))) .n))) [(8,(.l [0,1,2,3,4,5,6,7,8,9,10,12,13,14,15,11,16,17,18]))];refine aq (λt:List Sl×Nat=>(((bD m t.2).1:Int),(t.2:Int))) (λt h'=>t.2<=cS/\t.1.length=ii m/\aa B u h' (ni a t.1 (bD m t.2).2)) (λt=>cS-t.2) (rs,0) i0 ⟨i9,hl,H⟩ ?_;rintro⟨c,bw⟩ h1 ⟨hk,U,J⟩;dsimp only at*;have w:=iF hm bw;have F:=AX m bw;obtain⟨st,z⟩:∃st,st=bD m bw:=⟨_,rfl⟩
 rw[<-z]at w F J⊢;obtain⟨b,o⟩:=st;dsimp only at w F J⊢;have y:ii c=ii o:=i4
 have d:bD m (bw+1)=je (b,o) bw:=by rw[bD,<-z]
 refine ag (λe=>?_) (λe=>?_)
 ·have O:bw<n:=i4
  have N:dY h1 a 1 aw o:=J.Vq y λ_=>rfl;refine(Qf a o n b bw h1 N w.1 O i4).mono ?_;rintro v h2 ⟨rfl,rfl⟩;refine⟨_,i0,?_⟩
  try dsimp only
  cases hb:iR o b bw with
  |none=>
   refine ag (λ_=>?_) λe2=>absurd i5 e2;refine⟨(c,bw+1),?_,⟨i6,U,?_⟩,i6⟩
   ·(try dsimp only);rw[d,je,hb,ai _];rfl
   ·(try dsimp only);rw[d,je,hb];exact J
  |some i=>
   have hh:=pQ hb;refine ag (λe2=>absurd (show((i:Nat):Int)<0 from e2) i4) (λ_=>?_)
   try dsimp only
   have K:b<ii o:=i4
   have hi:=hh.2.1;have W:=J.seq 0 i0 λ_=>rfl;refine aT ?_;refine W.ng i i0 i4 λ_ _ _=>?_;refine W.ng b i0 i4 λ_ _ _=>?_;refine J.set aj 0 i0 (λ_=>rfl) i0 b i0 i4 (c[i]'(by omega)) i0 i0 i0 λh3 H3=>⟨trivial,?_⟩
   refine H3.set aj 0 i0 (λ_=>rfl) i0 i i0 i7 (c[b]'(by omega)) i0 i0 i0 λX H4=>⟨trivial,?_⟩
   have p:aa B u X (ni a ((c.set b (c[i]'(by omega))).set i (c[b]'(by omega))) (jd o b i)):=by have:=H4.abm (b+1) (i+1) (A:=ae 5 (c[b]'(by omega)) 1 aw o[b]) (A2:=ae 5 (c[i]'(by omega)) 1 aw o[i]) (fk y b K) (fk y i hi);show aa B u X (ae 58 a 1 aX _::bn 5 1 aw _ _);rw[<-NK y b i K hi];exact this
   obtain⟨j,E⟩:∃j,j=(c.set b (c[i]'(by omega))).set i (c[b]'(by omega)):=⟨_,rfl⟩
   rw[<-E]at p;have al:ii j=ii o:=by rw[E];simp;omega
   obtain⟨g,x⟩:∃g,g=jd o b i:=⟨_,rfl⟩
   have D:aV n g:=by rw[x];exact CM w.1 K hi
   have T:ii g=ii o:=by rw[x];exact lj _ _ _
   rw[<-x]at p;have q:ii j=ii g:=i4
   have k:b<ii g:=i4
   refine aT ?_;have gt:=oc (a:=a) q b k;have lt:g[b].length=n:=D _ (qf _);have M:=p.seq 0 i0 λ_=>rfl;refine M.ng b i0 i4 λad G _=>?_;have I:=p.seq (b+1) gt λ_=>rfl;refine I.bt bw i0 i4 _ i0 ?_;refine M.ng b i0 i4 λam R _=>?_;have S:fy X f:=Q.af p.af P;refine(ZI f _ X S).mono ?_;rintro v h5 ⟨rfl,rfl⟩;refine⟨_,i0,⟨R,G,trivial⟩,?_⟩;refine(HO f _ _ _ h5 S I i4).mono ?_;rintro v h6 ⟨r,rfl,R6⟩;refine⟨r,i0,⟨od G R6.af,trivial⟩,?_⟩;have H6:=p.comp R6
   try dsimp only
   refine H6.set aj 0 i0 (λ_=>rfl) i0 b i0 i4 r i0 i0 i0 λh7 H7=>⟨trivial,?_⟩
   have Y:g[b]=aC g b:=(bE k).symm;have ab:(g[b])[bw]'(by omega)=aJ (aC g b) bw:=by rw[NJ (by rw[bE k];omega)];simp only[bE k]
   have Z:aa B u h7 (ni a (j.set b r) (jL b bw g)):=by have h8:aa B u h7 ((ae 58 a 1 aX (j.set b r)::bn 5 1 aw j g)++[ae 5 r 1 aw (scaleB (Gf.inv ((g[b])[bw]'(by omega))) g[b])]):=H7;have h9:=h8.aef (b+1) (by simp[ky q];omega);rw[ab,Y]at h9;show aa B u h7 (ae 58 a 1 aX _::bn 5 1 aw _ (g.set b _));rw[<-kz q];exact h9
   have L:ii (jL b bw g)=ii g:=nI _ _ _;refine WH Q P i7 (ux D k) O hn i4 i4 Z λh8 H8=>?_;have s:je (b,o) bw=(b+1,eU b bw (jL b bw g) o.length):=by rw[je];(try dsimp only);rw[hb,x]
   refine⟨(j.set b r,bw+1),?_,⟨i6,i7,?_⟩,i6⟩
   ·(try dsimp only);rw[d,s,ai _,ai _];rfl
   ·(try dsimp only);rw[d,s];rw[L,T]at H8;exact H8
 ·have:bw=cS:=i4
  subst this;exact⟨c,by rw[<-z],U,by rw[<-z];exact J⟩
theorem Fl(f:eX)(a:Sl)(m:aI)(n:Nat)(h:f8)(w:fy h f)(s:dY h a 1 aw m)(i:aV n m)(k:n<=64)(q:ii m<=2^30):
  an xQ 276 #[xI (dB f),a] h λv h'=>∃(r:Sl) (rs:List Sl),v=r/\r.len=bY m/\rs.length=ii m/\r.len<=ii m/\Sp h h' (ni ⟨r.ptr,ii m,r.cap⟩ rs (bD m (eE m)).2):=by
 refine ts Tryz.func276 ?_;refine(mF a m n h s i k q).mono ?_;rintro v D ⟨rfl,rfl⟩;refine⟨_,i0,aQ (λe=>j1) λ_=>?_⟩;refine(tK a m n D s i k q).mono ?_;rintro v B ⟨r,rs,rfl,u,y⟩;refine⟨r,i0,(rJ f B).mono ?_⟩;rintro v h3 ⟨rfl,rfl⟩;refine⟨dB f,i0,(pG r m h3 (y.Vq u λ_=>rfl)).mono ?_⟩;rintro v E ⟨rfl,rfl⟩;have A:eE m<=n:=by
  cases m with
  |nil=>simp[eE,aC]
  |cons x t=>rw[eE,bE i9];exact xt (i _ i9)
 refine⟨_,i0,(xY w w.lt u i A k q y).mono ?_⟩;rintro v F ⟨j,rfl,g,o⟩;have d:=AX m (eE m);rw[(iF i _).2]at d;have z:=(o.own 0 i0).cap;have b:=(o.own 0 i0).len;refine⟨_,i0,⟨wg _,yI.2 (show(bD m (eE m)).1<=r.cap by omega)⟩,⟨r.ptr,(bD m (eE m)).1,r.cap⟩,j,i9,i0,g,d,?_⟩;have:r=⟨r.ptr,ii m,r.cap⟩:=by obtain⟨p,l,c⟩:=r;simp only at b⊢;rw[<-g,<-b]
 rw[<-this];exact o
theorem WI(f:eX)(a:Sl)(m:aI)(n:Nat)(h:f8)(d:fy h f)(b:dY h a 1 aw m)(e:aV n m)(c:n<=64)(i:ii m<=2^30):
  an xQ 250 #[xI (dB f),a] h λv h'=>v=xG xM (bY m)/\Sp h h' []:=by
 refine ts Tryz.func250 ?_;refine(Fl f a m n h d b e c i).mono ?_;rintro v k ⟨r,rs,rfl,j,_,_,g⟩;exact⟨r,i0,by rw[j],.zip g.af⟩
theorem Gl(p:Pm)(seed:Int)(b:Sl)(l:aB)(h:f8)(q:Rd h b 1 ak l)(o:ii l<=2^29):an xQ 192 #[jQ p,xG xO seed,b] h λv h'=>v=xG xM (EJ p seed l)/\Sp h h' []:=by
 refine ts Tryz.func192 ?_ .n [(1,(.l [1,2,3,0,4,5,6]))] (args:=[p,(xG xO (seed:Int)),b]);refine(Sp.refl h).boxed λa w i=>?_;refine⟨p,(i.box 0 i0).aE _ i0,(oU w).mono ?_⟩;rintro v m ⟨f,rfl,u⟩;have c:=i.comp u;have d:=c.box 0 i0;refine⟨dB f,i0,⟨d.cell0 i0,d.cell i0,d.cell i0,trivial⟩,?_⟩;refine(Fk p seed b l m (Seq.up q c.af) i4).mono ?_;rintro v h3 ⟨r,rfl,k⟩;have g:=c.comp k;refine⟨r,i0,trivial,?_⟩;have s:=Zd p seed l;have e:(bX p).toNat<=64:=by
  unfold bX;split
  ·rename_i j;have:=(cg p).1 j;omega
  ·omega
 refine(WI f r _ _ h3 (g.box 1 i0) (g.CF 2 i0) (CV p seed l) e i4).mono ?_;rintro v x ⟨rfl,t⟩;exact⟨_,i0,trivial,i0,.zip (g.comp t).af⟩
theorem KB(p:Pm)(seed:Int)(b:Sl)(l:aB)(h:f8)(o:Rd h b 1 ak l)(f:ii l<=2^29):an xQ 137 #[jQ p,xG xO seed,b] h λv h'=>v=xK (md p seed l)/\Sp h h' []:=by refine ts Tryz.func137 ?_ .n [(1,(.l [0,1,2,3,4,5,7,6,8,9,10,11]))] (args:=[p,(xG xO (seed:Int)),b]);refine(Sp.refl h).boxed λa s i=>?_;refine⟨p,(i.box 0 i0).aE _ i0,(eF p s).mono ?_⟩;rintro v m ⟨rfl,r⟩;have d:=i.comp r;refine⟨_,i0,trivial,bf (λe=>?_) λe=>⟨trivial,trivial,by rw[md,e];rfl,.zip d.af⟩⟩;have g:=d.box 0 i0;refine⟨p,g.aE _ i0,p,g.aE _ i0,(Gl p seed b l m (Seq.up o d.af) f).mono ?_⟩;rintro v h3 ⟨rfl,k⟩;have j:=d.comp k;have c:=j.box 0 i0;refine⟨_,i0,⟨c.cell0 i0,c.cell i0,c.cell i0,trivial⟩,(jV p h3).mono ?_⟩;rintro v t ⟨rfl,q⟩;exact⟨_,i0,trivial,by rw[md,e];rfl,.zip (j.comp q).af⟩
theorem HQ(p:Pm)(seed:Int)(h:f8):an xQ 161 #[jQ p,xG xO seed] h λv h'=>v=xK (md p seed (gD p))/\Sp h h' []:=by refine ts Tryz.func161 ?_ (args:=[p,(xG xO (seed:Int))]);refine(Sp.refl h).boxed λa i e=>?_;have d:=e.box 0 i0;refine⟨p,d.aE _ i0,p,d.aE _ i0,(HN p i).mono ?_⟩;rintro v g ⟨r,rfl,j⟩;have c:=e.comp j;have b:=c.box 0 i0;refine⟨r,i0,⟨b.cell0 i0,b.cell i0,b.cell i0,trivial⟩,(KB p seed r _ g (c.seq 1 i0 λ_=>rfl) tp).mono ?_⟩;rintro v h3 ⟨rfl,f⟩;exact⟨_,i0,trivial,i0,.zip (c.comp f).af⟩
theorem ZM(p:Pm)(o b:Int)(h:f8):an xQ 111 #[jQ p,xG xM o,xG xM b] h λv h'=>
  v=.tuple #[xG xM (((oS p o b).getD 0:Nat):Int),xK (oS p o b).isSome]/\Sp h h' []:=by
 refine ts Tryz.func111 ?_ (.two .n (.two (.two .n (.inn (.loop [(9,aS)] [(6,20)] .n))) .n)) (args:=[p,(o:Int),(b:Int)]);refine(Sp.refl h).boxed λu B r=>?_;have r:Sp h B [ac u 36 [xG xM p.1,xG xM p.2.1,xG xM p.2.2]]:=r;refine aq (λi:Nat=>(i:Int)) (λi h'=>i<=16/\(∀k,k<i->HL p o b k=eL)/\Sp h h' [ac u 36 [xG xM p.1,xG xM p.2.1,xG xM p.2.2]]) (λi=>16-i) 0 i0 ⟨i4,λk f=>absurd f (Nat.not_lt_zero k),r⟩ ?_;rintro i y ⟨F,c,l⟩;refine ag (λe=>?_) λe=>?_
 ·have z:i<16:=i4
  have a:=l.box 0 i0;refine⟨p,a.aE _ i0,(sw _ _ _ y).mono ?_⟩;rintro _ h3 ⟨rfl,rfl⟩;refine⟨_,i0,⟨a.cell0 i0,a.cell i0,a.cell i0,trivial⟩,(HQ p _ h3).mono ?_⟩;rintro _ E ⟨rfl,A⟩;have x:=l.up A.af;refine⟨_,i0,trivial,bf (λg=>?_) λg=>?_⟩
  ·have m:oS p o b=dB i:=by
    unfold oS;refine List.find?_eq_some_iff_append.2 ⟨g,qz i,(qz (15-i)).map (·+(i+1)),?_,λk f=>?_⟩
    ·apply zt;intro j;by_cases w:j<i
     ·rw[ql sb,zm i4,zm w]
     ·rw[qh i7,zC];by_cases q:j=i
      ·subst q;rw[qW,zm i4];rfl
      ·obtain⟨d,D⟩:∃d,j=i+(d+1):=⟨j-i-1,i4⟩
       subst D;rw[zn,qo,qL];by_cases s:d<15-i
       ·rw[zm s,zm i4];simp;omega
       ·rw[qB i7,qB i7];rfl
    ·rw[c k (qC.1 f)];rfl
   rw[m];exact⟨i0,.zip x.af⟩
  ·refine⟨i+1,j0,⟨i4,λk f=>?_,x⟩,i4⟩;by_cases t:k<i
   ·exact c k t
   ·have:k=i:=i4
    subst this;exact g
 ·have m:oS p o b=ez:=by unfold oS;rw[List.find?_eq_none];intro k f;rw[c k (by have:=qC.1 f;omega)];simp
  rw[m];exact⟨i0,.zip l.af⟩
theorem TJ(p:Pm)(o:Int)(n:Nat)(h:f8)(I:n<=2^30):an xQ 66 #[jQ p,xG xM o,xG xM n] h λv h'=>
  (dv p o n=ez->v=.tuple #[xH ez 0 0,xK eL]/\Sp h h' [])/\
  (∀l,dv p o n=dB l->∃r:Sl,v=.tuple #[r,xK eH]/\Sp h h' [ae 3 r 1 ak l]):=by
 refine ts Tryz.func66 ?_ (.two .n (.two .n (.two (.two .n (.inn (.loop [(8,cK),(13,aS)] [(6,12),(13,30)] .n))) .n))) (args:=[p,(o:Int),(n:Int)]);refine(Sp.refl h).boxed λu E k=>?_;have k:Sp h E [ae 3 ⟨ez,0,0⟩ 1 ak [],ac u 36 [xG xM p.1,xG xM p.2.1,xG xM p.2.2]]:=(k.nil 3 1 ak).bB [1,0];refine aq (λt:Sl×Nat×aB=>(t.1,(t.2.1:Int))) (λt h'=>t.2.1<=n/\dv p o t.2.1=dB t.2.2/\Sp h h' [ae 3 t.1 1 ak t.2.2,ac u 36 [xG xM p.1,xG xM p.2.1,xG xM p.2.2]]) (λt=>n-t.2.1) (⟨ez,0,0⟩,0,[]) i0 ⟨i9,i0,k⟩ ?_;rintro⟨s,i,l⟩ y ⟨J,c,d⟩;dsimp only at*;have z:=lE c;have b:∀j,oS p o i=ez->j<=n-(i+1)->dv p o (i+1+j)=ez:=λj m=>by
  induction j with
  |zero=>intro _;show dv p o (i+1)=ez;unfold dv;rw[c,m];rfl
  |succ j ih=>intro G;show dv p o ((i+1+j)+1)=ez;unfold dv;rw[ih i4];rfl
 refine ag (λe=>?_) λe=>?_
 ·have B:i<n:=i4
  refine⟨p,(d.box 1 i0).aE _ i0,(ZM p o i y).mono ?_⟩;rintro _ h3 ⟨rfl,x⟩;have w:=d.up x.af;refine⟨(_,_),i0,aQ (λg=>?_) λg=>?_⟩
  ·have a:dv p o n=ez:=by have:=b (n-(i+1)) (Option.isSome_eq_false_iff.1 g|>Option.isNone_iff_eq_none.1) (qm _);rw[show i+1+(n-(i+1))=n by omega]at this;exact this
   rw[a];exact⟨λ_=>⟨i0,.zip w.af⟩,λl h=>j8⟩
  ·obtain⟨t,q⟩:∃t,oS p o i=dB t:=Option.isSome_iff_exists.1 g;rw[q];refine w.push aj 0 i0 fR i0 i5 (λ_=>rfl) eC (t:Int) i0 i5 i4 λD H A=>?_;refine⟨(D,i+1,l++[(t:Int)]),jj,⟨i6,?_,A⟩,i6⟩;show dv p o (i+1)=_;unfold dv;rw[c,q];rfl
 ·have f:i=n:=i4
  subst f;rw[c];exact⟨λh=>j8,λF h=>(by injection h with h;subst h;exact⟨s,i0,d.bB [0]⟩)⟩
def jc(m:aA)(l:bO):bO:=(fO m l).map dl
def bH(m:aA)(l:bO):bO:=aO m++jc m l
def gG(d:aY)(a:Nat)(n:Int):Bool:=decide (max n 0<=(d.room:Int)-a)
def jk(m:aA)(d:aY)(n:Int):Bool:=!d.lost&&(gG d d.l.length n||gG d (bH m d.l).length n)
def fb(m:aA)(w:Pow)(d:aY)(n:Int):Int×Pow×aY:=
 if d.lost then(5,w,d)else if !jk m d n then(7,w,d)else if gG d d.l.length n then(0,w,d)else d.rewrite w (bH m d.l)
theorem NL(l:List dG):ii (rG l)<=ii l:=by unfold rG;rw[qu];exact q9 (qR _ _) i9
theorem uQ(m:aA)(l:bO):ii (fO m l)<=ii l:=by unfold fO;refine q9 (NL _) ?_;rw[wh];exact List.length_filterMap_le _ _
theorem sA(m:aA)(l:bO):ii (jc m l)<=ii l:=by unfold jc;rw[qu];exact uQ m l
variable {B:av} {h0 h:f8} {As:List HP} {a:eX} {d:aY} {w:Pow}
section
variable {pw:eX}
theorem tQ(x:Sl)(l:bO)(H:aa B h0 h (ir pw a d::bK 104 pw w::As))(P:St B h0 As λh=>dY h x 1 aw l)(O:ii l<=2^20)(u:∀c∈l,ii c<=2^20):
  an xQ 47 #[xI (dB a),x] h λv h'=>v=xG xM (d.rewrite w l).1/\aa B h0 h' (ir pw a (d.rewrite w l).2.2::bK 104 pw (d.rewrite w l).2.1::As):=by
 refine ts Tryz.func47 ?_ (.two .n (.two (.two .n (.inn (.loop [(9,aS)] [(4,5),(6,7),(9,17)] .n))) (.two (.join [] [(4,5),(17,41)] (.inn (.two (.join [(17,rS)] [(17,26)] .n) .n))) .n)));have M:=P.at [_,_] H;have X:=M.len;have p:=gy.rewrite (w:=w) (l:=l) (And.left (id H).nz);have same:∀(e:Int),d.rewrite w l=(e,w,d)->(Value.int .i64 e=xG xM (d.rewrite w l).1/\aa B h0 h (ir pw a (d.rewrite w l).2.2::bK 104 pw (d.rewrite w l).2.1::As)):=λe V=>by
  rw[V];exact⟨i0,H⟩
 refine aq (λi:Nat=>(i:Int)) (λi h'=>i<=ii l/\(∀c∈l.take i,ii c=64)/\h'=h) (λi=>ii l-i) 0 i0 ⟨i4,i9,i0⟩ ?_;rintro i h1 ⟨hi,f,rfl⟩;refine ag (λe=>?_) λe=>?_
 ·have o:i<ii l:=i4
  refine M.get i i0 o λr Z=>?_;have T:=Z.len;refine bx (λY=>same 1 ?_) λY=>?_
  ·unfold aY.rewrite;rw[f9];rw[wF,List.all_eq_false];exact⟨l[i],qf o,i7⟩
  ·refine⟨i+1,j0,⟨i4,λc j=>?_,i0⟩,i4⟩;rw[aD _ _ o]at j;rcases qy.1 j with j|j
   ·exact f c j
   ·rw[qp.1 j];omega
 have f:∀c∈l,ii c=64:=by rw[qg i4]at f;exact f
 have m:(!l.all λb=>decide (ii b=64))=eL:=by rw[Bool.not_eq_false',qY];exactλc j=>g9 (f c j)
 have A:d.rewrite w l=(if d.lost then(5,w,d)else if d.room<ii l then(7,w,d)else if w.off then(14,w,d)else if w.step.1 then(0,w.step.2,{d with l:=l,wait:=0,laid:=[],has:=eL})else(14,w.step.2,{d with laid:=l,has:=eH})):=by unfold aY.rewrite;rw[m];rfl
 obtain⟨ok,s,b,F⟩:=H.nz;have z:=F.box 0 i0;refine aT (aT (bf (λe=>j1) λ_=>⟨a,i0,d.lost,z.cell i0,bf (λe=>same 5 (by rw[A,f9 e])) λg=>?_⟩));refine⟨a,i0,(d.room:Int),z.cell i0,ag (λe=>same 7 (by rw[A,g0 oj,f9 i4])) λD=>?_⟩;obtain⟨U,W,I⟩:=(F.aL 4 [3,0,1,2]).nZ;refine⟨a,i0,dB pw,z.cell0 i0,(sO U (I.box 0 i0)).mono ?_⟩;rintro _ h2 ⟨rfl,rfl⟩;refine⟨_,i0,aQ (λe=>same 14 ?_) λt=>?_⟩
 ·rw[A,g0 oj,g0 i4,f9 lb]
 have k:w.off=eL:=by simpa using t
 have y:d.rewrite w l=(if w.step.1 then(0,w.step.2,{d with l:=l,wait:=0,laid:=[],has:=eL})else(14,w.step.2,{d with laid:=l,has:=eH})):=by rw[A,g0 oj,g0 i4,g0 (by simp[k])]
 refine⟨a,i0,dB pw,z.cell0 i0,(Dr (F.aL 4 [3,0,1,2])).mono ?_⟩;rintro _ N ⟨rfl,K⟩;have q:=P.at [_,_,_,_] K;refine⟨_,i0,aQ (λe=>?_) λe=>?_⟩
 ·rw[y,g0 p8]at p⊢;refine(Ge x l N q O u).mono ?_;rintro _ R ⟨r,rfl,E⟩;have L:=(K.bN E).aL 5 [2,3,0,1];refine⟨r,i0,a,i0,L.store aj 0 i0 i0 4 [r] i0 i0 i0 lz λS J=>?_⟩;refine⟨a,i0,J.store aj 0 i0 i0 5 [xK eH] i0 i0 i0 lz λh8 G=>⟨i0,?_⟩⟩;exact aa.tG (s:=s) (b:=r) p G
 ·rw[y,f9 e]at p⊢;refine(Ge x l N q O u).mono ?_;rintro _ R ⟨r,rfl,E⟩;have L:=(K.bN E).aL 5 [2,0,4,1];refine⟨r,i0,a,i0,L.store aj 0 i0 i0 2 [r] i0 i0 i0 lz λS J=>?_⟩;refine⟨a,i0,J.store aj 0 i0 i0 3 [xG xM 0] i0 i0 i0 lz λh8 G=>?_⟩;refine(Dt (d:={d with l:=l,wait:=0}) r b _ G ⟨Nat.zero_le _,i6,ok.room,f,ok.laid,ok.cellL⟩ i0).mono ?_;rintro _ h9 ⟨rfl,Q⟩;exact⟨0,i0,i0,Q⟩
theorem xZ(s b:Sl)(c:Nat)(n:Int)(e:bW h a 102 (eG pw d s b))(g:d.room<=512)(f:c<=2^40:=by omega):an xQ 176 #[xI (dB a),xG xM c,xG xM n] h λv h'=>v=xK (gG d c n)/\h'=h:=by refine ts Tryz.func176 ?_;refine(Du s b e).mono ?_;rintro _ _ ⟨rfl,rfl⟩;refine⟨_,i0,?_,i0⟩;rw[ai ((d.room:Int)-c)];unfold gG;congr 1;rw[decide_eq_decide];split<;>omega
theorem HR(s b:Sl)(x:bo)(m:aA)(B:bW h a 102 (eG pw d s b))(M:dY h s 1 aw d.l)(ok:gy d)(I:dh h x m)(P:cw m):
  an xQ 53 #[xI (dB a),dq x] h λv h'=>∃r:Sl,v=r/\Sp h h' [dC r (jc m d.l)]:=by
 refine ts Tryz.func53 ?_ (.two .n (.two .n (.two (.two .n (.inn (.loop [(5,cK),(12,aS)] [(5,6),(7,8),(12,22)] .n))) .n))) (args:=[(dB a),x]);have F:=ok.len;have y:=ok.room;refine(Sp.refl h).boxed λY S f=>?_;refine⟨x,(f.box 0 i0).aE _ i0,(DA a pw d s b x m S (B.af f.af B.lt) (M.up f.af) ok (I.up f.af) P).mono ?_⟩;rintro _ X ⟨r,c,rfl,R⟩;have p:=(f.bN R).ww 58 5 1 aw;refine⟨r,i0,?_⟩;have w:=uQ m d.l;obtain⟨L,D⟩:∃L,L=fO m d.l:=⟨_,rfl⟩
 have q:(jc m d.l)=L.map dl:=by unfold jc;rw[D]
 rw[<-D]at p w;rw[q];have G:=p.eS 1 i0;have J:=G.2.1;have z:=G.1.len;refine aq (λt:Sl×Nat=>(t.1,(t.2:Int))) (λt h'=>t.2<=ii L/\Sp h h' [dC t.1 ((L.map dl).take t.2),cy fg 8 bL r c L]) (λt=>ii L-t.2) (⟨ez,0,0⟩,0) i0 ⟨i9,p.bB [0,1]⟩ ?_;rintro⟨o,i⟩ h3 ⟨Z,k⟩;dsimp only at*;have H:=k.eS 1 i0;refine ag (λe=>?_) (λe=>?_)
 ·have A:i<ii L:=i4
  refine H.1.cX (g:=bL) i i0 i4 (c[i]'(by omega)) i0 ?_;refine k.alloc aj i0 λQ V U=>?_;refine U.storeAll aj 2 i0 i0 (bL (c[i]'(by omega))) i0 i0 i0 i0 λE j=>?_;have j:Sp h E [dC o ((L.map dl).take i),cy fg 8 bL r c L,ac Q 167 (bL (c[i]'(by omega)))]:=j;refine⟨c[i]'(by omega),(j.box 2 i0).aE _ i0,(pS _ L[i] E (Fix.row (j.eS 1 i0) A)).mono ?_⟩;rintro _ W ⟨u,rfl,K⟩;have T:=(j.bN K).aL 3 [1,0,2];refine⟨u,i0,T.Ey aj fw i7 λO h8 N=>?_⟩;refine⟨(O,i+1),jj,⟨i6,?_⟩,i6⟩
  try dsimp only
  rw[aD _ _ (show i<ii (L.map dl) by simp;omega),wV];exact N.bB [0,1]
 ·rw[qg i7]at k;exact⟨o,i0,k.bB [0]⟩
theorem Fm{m:aA}{l:bO}{c:aP}(h:c∈jc m l):ii c<=64:=by
 unfold jc at h;obtain⟨r,_,rfl⟩:=qx.1 h;unfold dl;split
 ·rename_i a;refine xt (lU i5 i5 ?_);have:=rh a;omega
 ·simp
theorem rp(s b:Sl)(x:bo)(m:aA)(k:bW h a 102 (eG pw d s b))(y:dY h s 1 aw d.l)(ok:gy d)(j:dh h x m)(g:cw m):
  an xQ 20 #[xI (dB a),dq x] h λv h'=>∃r:Sl,v=r/\Sp h h' [dC r (bH m d.l)]:=by
 refine ts Tryz.func20 ?_ .n [(1,(.l [0,2,3,1,4,5,6]))] (args:=[(dB a),x]);have o:=ok.len;have i:=ok.room;refine(Sp.refl h).boxed λt p e=>?_;have e:Sp h p [ac t 39 (az x)]:=e;refine⟨x,(e.box 0 i0).aE _ i0,x,(e.box 0 i0).aE _ i0,(mT x m p (j.up e.af) g).mono ?_⟩;rintro _ G ⟨r,rfl,B⟩;have f:=e.bN B;have c:=f.box 1 i0;refine⟨r,i0,⟨c.cell0 i0,c.cell i0,c.cell i0,c.cell i0,c.cell i0,c.cell i0,c.cell i0,c.cell i0,trivial⟩,(HR s b x m (k.af f.af k.lt) (y.up f.af) ok (j.up f.af) g).mono ?_⟩;rintro _ h3 ⟨u,rfl,q⟩;have D:=(f.bN q).aL 2 [1,0];have w:=ki m g;have z:=sA m d.l;refine⟨u,i0,trivial,D.acA aj fw ⟨_,_,i0,i0⟩ i4 λA F E=>?_⟩;exact⟨trivial,A,i0,E.bB [0]⟩
theorem DE(s b:Sl)(x:bo)(m:aA)(n:Int)(p:bW h a 102 (eG pw d s b))(A:dY h s 1 aw d.l)(g:s.len=ii d.l)(ok:gy d)(w:dh h x m)(q:cw m):
  an xQ 123 #[xI (dB a),dq x,xG xM n] h λv h'=>v=xK (jk m d n)/\Sp h h' []:=by
 refine ts Tryz.func123 ?_ (.two .n (.two (.join [] [(6,13)] .n) .n)) (args:=[(dB a),x,(n:Int)]);have u:=ok.len;have j:=ok.room;refine(Sp.refl h).boxed λz B f=>?_;have f:Sp h B [ac z 39 (az x)]:=f;have c:=p.af f.af p.lt;refine aT (bf (λe=>j1) λ_=>(ro s b c).mono ?_);rintro _ _ ⟨rfl,rfl⟩;refine⟨_,i0,bf (λe=>⟨by unfold jk;rw[e];rfl,.zip f.af⟩) λe=>?_⟩;have t:jk m d n=(gG d d.l.length n||gG d (bH m d.l).length n):=by unfold jk;rw[e];rfl
 refine(Ks s b c g).mono ?_;rintro _ _ ⟨rfl,rfl⟩;refine⟨_,i0,(xZ s b d.l.length n c ok.room).mono ?_⟩;rintro _ _ ⟨rfl,rfl⟩;refine⟨_,i0,bf (λo=>⟨by rw[t,o];rfl,.zip f.af⟩) λo=>?_⟩;refine⟨x,(f.box 0 i0).aE _ i0,(rp s b x m c (A.up f.af) ok (w.up f.af) q).mono ?_⟩;rintro _ E ⟨r,rfl,k⟩;have i:=(aa.rE k).1;have D:ii (bH m d.l)<=4000:=by have:=ki m q;have:=sA m d.l;unfold bH;rw[qt];omega
 have y:=f.bN k;refine⟨r,i0,(xZ s b r.len n (c.af k.af c.lt) ok.room).mono ?_⟩;rintro _ _ ⟨rfl,rfl⟩;exact⟨_,i0,by rw[t,o,vq,i],.zip y.af⟩
theorem NM(x:bo)(n:Int)(h:f8):an xQ 123 #[xI ez,dq x,xG xM n] h λv h'=>v=xK eL/\Sp h h' []:=by refine ts Tryz.func123 ?_ (.two .n (.two (.join [] [(6,13)] .n) .n)) (args:=[(ez:bZ),x,(n:Int)]);refine(Sp.refl h).boxed λb c a=>?_;exact aT (bf (λ_=>⟨i0,.zip a.af⟩) λe=>j1)
theorem KC(x:bo)(m:aA)(n:Int)(J:St B h0 As λh=>dh h x m)(A:cw m)(H:aa B h0 h (ir pw a d::bK 104 pw w::As)):
  an xQ 124 #[xI (dB a),dq x,xG xM n] h λv h'=>v=xG xM (fb m w d n).1/\aa B h0 h' (ir pw a (fb m w d n).2.2::bK 104 pw (fb m w d n).2.1::As):=by
 refine ts Tryz.func124 ?_ (.two .n (.two (.join [] [(6,26)] (.inn (.two (.join [(7,rS)] [(7,14)] .n) .n))) .n)) (args:=[(dB a),x,(n:Int)]);refine(Sp.refl h).boxed λN q E=>?_;have E:Sp h q [ac N 39 (az x)]:=E;have k:=(H.bN E).aL 3 [1,2,0];have same:∀(e:Int) {h':f8},aN (λb=>b<q.size) q h'->fb m w d n=(e,w,d)->(Value.int .i64 e=xG xM (fb m w d n).1/\aa B h0 h' (ir pw a (fb m w d n).2.2::bK 104 pw (fb m w d n).2.1::As)):=λe {h'} L P=>by
  rw[P];exact⟨i0,((k.up L).aL 3 [0,1])⟩
 obtain⟨ok,s,b,f⟩:=(id k).nz;have p:=f.box 0 i0;have O:dY q s 1 aw d.l:=(f.aL 2 [1]).sY λ_=>rfl;have j:=(aa.rE (f.aL 2 [1])).1;have K:=ok.len;have D:=ok.room;refine aT (aT (bf (λe=>j1) λ_=>(ro s b p).mono ?_));rintro _ _ ⟨rfl,rfl⟩;refine⟨_,i0,bf (λe=>same 5 (aN.refl _ _) (by unfold fb;rw[f9 e])) λe=>?_⟩;refine⟨x,(k.box 2 i0).aE _ i0,(DE s b x m n p O j ok (J.at [_,_,_] k) A).mono ?_⟩;rintro _ T ⟨rfl,o⟩;have z:=f.up o.af;have i:=p.af o.af p.lt;have u:=k.up o.af;refine⟨_,i0,aQ (λt=>same 7 o.af (by unfold fb;rw[g0 p8,f9 sL])) λt=>?_⟩;refine(Ks s b i j).mono ?_;rintro _ _ ⟨rfl,rfl⟩;refine⟨_,i0,(xZ s b d.l.length n i ok.room).mono ?_⟩;rintro _ _ ⟨rfl,rfl⟩;refine⟨_,i0,bf (λF=>same 0 o.af (by unfold fb;rw[g0 p8,g0 sL,f9 F])) λF=>?_⟩;have em:fb m w d n=d.rewrite w (bH m d.l):=by unfold fb;rw[g0 p8,g0 sL,g0 (by simp[F])]
 rw[em];have Q:ii (bH m d.l)<=4000:=by have:=ki m A;have:=sA m d.l;unfold bH;rw[qt];omega
 have I:∀c∈bH m d.l,ii c<=64:=λc g=>by
  unfold bH at g;rcases qy.1 g with g|g
  ·exact xt (sa g)
  ·exact Fm g
 refine⟨x,(u.box 2 i0).aE _ i0,(rp s b x m i ((z.aL 2 [1]).sY λ_=>rfl) ok (J.at [_,_,_] u) A).mono ?_⟩;rintro _ h3 ⟨r,rfl,M⟩;obtain⟨rs,G⟩:=(u.bN M).NC λ_=>rfl;have G:=G.aL 4 [1,2,0];refine⟨r,i0,(tQ r (bH m d.l) G (St.dN 0 i0 λh' y=>?_) i4 λc g=>q9 (I c g) i5).mono ?_⟩
 ·exact⟨rs,y.1,y.2.1,y.2.2⟩
 rintro _ S ⟨rfl,R⟩;exact⟨_,i0,i0,R.aL 3 [0,1]⟩
end
variable {b:eX} {x:bo} {offs:Int} {da:List bZ} {ds:aF}
section
variable {pw:eX}
theorem aa.ZN(n:Nat)(e:n<64)(i:ds[n]?=dB ez)(H:aa B h0 h (ba bc a pw (az x) offs da w ds::ir pw b d::As)){K:Unit->f8->Prop}
  (j:∀h',aa B h0 h' (ba bc a pw (az x) offs (da.set n (dB b)) w (ds.set n (dB d))::As)->K () h'):
  au xQ (qE 44 (xI (dB ((a.add 10).add n))) (xI (dB b))) h K:=by
 obtain⟨ok,g⟩:=Qw.aa.mB H;have f:(a.add 10).add n=a.add (10+n):=by unfold Addr.add;simp[Nat.add_assoc]
 rw[f];refine g.storeAt aj 0 i0 i0 i0 i0 i0 (by simp[ok.la];omega) λh' c=>j h' ?_;rw[zr,Ky ok.l8]at c;exact aa.acR ok e i c
end
theorem Az(ds:aF)(n:Nat)(d:aY)(s:Int)(b:n<64)(c:ii ds=64):aU (bM ds (n:Int) d) s=if s=(n:Int)then dB d else aU ds s:=by
 unfold aU bM;rw[qk];by_cases h:0<=s/\s<64
 ·rw[f9 h,f9 h,qU];by_cases a:s=(n:Int)
  ·subst a;rw[f9 i0,qk,f9 i0,f9 i4];rfl
  ·rw[g0 a,g0 i4]
 ·rw[g0 h,g0 h,g0 i4]
theorem ko{ds:aF}{s:Int}{d:aY}(h:aU ds s=dB d):∃n:Nat,s=(n:Int)/\n<64:=by
 unfold aU at h;by_cases a:0<=s/\s<64
 ·exact⟨s.toNat,i4,i4⟩
 ·rw[g0 a]at h;cases h
structure Fit (ds:aF) (S Q:aB):Prop where
 len:ii ds=64
 at_:∀s∈S,∃d,aU ds s=dB d/\d.lost=eL/\d.l.length+Q.count s<=d.room
theorem Qg{d:aY}{n:Nat}(w:Pow)(b:aP)(a:d.lost=eL)(f:ii d.l+(n+1)<=d.room)(g:ii b=64):
  ((d.append w b).1=0∨(d.append w b).1=14)/\(d.append w b).2.2.lost=eL/\(d.append w b).2.2.l.length+n<=(d.append w b).2.2.room:=by
 unfold aY.append;rw[g0 i4,g0 m5,g0 i4];by_cases e:w.off
 ·rw[f9 e];exact⟨.inr i0,a,i6⟩
 ·rw[g0 e];by_cases c:w.step.1
  ·rw[f9 c];exact⟨.inl i0,a,i7⟩
  ·rw[g0 c];exact⟨.inr i0,a,i7⟩
theorem WJ{d:aY}(w:Pow)(a:d.lost=eL):((d.sync w).1=0∨(d.sync w).1=14)/\(d.sync w).2.2.lost=eL/\(d.sync w).2.2.l=d.l/\(d.sync w).2.2.room=d.room:=by
 unfold aY.sync;rw[g0 m5];by_cases b:w.step.1
 ·rw[f9 b];exact⟨.inl i0,a,i0,i0⟩
 ·rw[g0 b];exact⟨.inr i0,a,i0,i0⟩
theorem Lq{ds:aF}{S Q:aB}{x:Int}(w:Pow)(b:aP)(F:Fit ds S (x::Q))(j:x∈S)(l:ii b=64):
  ((fJ w ds x b).1=0∨(fJ w ds x b).1=14)/\Fit (fJ w ds x b).2.2 S Q:=by
 obtain⟨d,c,p,k⟩:=F.at_ x j;rw[List.count_cons_self]at k;obtain⟨n,rfl,o⟩:=ko c;have A:=Qg w b p (n:=Q.count (n:Int)) i4 l;have e:fJ w ds (n:Int) b=((d.append w b).1,(d.append w b).2.1,bM ds (n:Int) (d.append w b).2.2):=by unfold fJ;rw[c]
 rw[e];refine⟨A.1,by unfold bM;rw[zc];exact F.len,λs q=>?_⟩;rw[Az _ _ _ _ o F.len];by_cases a:s=(n:Int)
 ·subst a;rw[f9 rfl];exact⟨_,i0,A.2⟩
 ·rw[g0 a];obtain⟨m,g,i,f⟩:=F.at_ s q;rw[List.count_cons_of_ne λh=>a h.symm]at f;exact⟨m,g,i,f⟩
theorem Qh{ds:aF}{S:aB}{x:Int}(w:Pow)(F:Fit ds S [])(f:x∈S):((fK w ds x).1=0∨(fK w ds x).1=14)/\Fit (fK w ds x).2.2 S []:=by
 obtain⟨d,b,j,g⟩:=F.at_ x f;obtain⟨n,rfl,h⟩:=ko b;obtain⟨c,A2,k,i⟩:=WJ w j;have e:fK w ds (n:Int)=((d.sync w).1,(d.sync w).2.1,bM ds (n:Int) (d.sync w).2.2):=by unfold fK;rw[b]
 rw[e];refine⟨c,by unfold bM;rw[zc];exact F.len,λs l=>?_⟩;rw[Az _ _ _ _ h F.len];by_cases a:s=(n:Int)
 ·subst a;rw[f9 rfl];exact⟨_,i0,A2,by rw[k,i];exact g⟩
 ·rw[g0 a];exact F.at_ s l
theorem JA(l:aB)(k:Nat):(bi l k).Nodup:=by unfold bi;refine List.Pairwise.filter _ (yf.2 ?_);exact(List.nodup_range (n:=k)).imp λh=>i4
theorem TK{l:aB}(h:(fl l).2=eH):(fl l).1=bi l l.length/\l.length<=64/\∀n:Nat,l.getD n 0<=512:=by
 unfold fl at h⊢;by_cases a:l.all (fo · 0 512)=eH
 ·rw[f9 a]at h⊢;refine⟨i0,by simp at h;exact h.1,λn=>?_⟩;rw[qd];by_cases b:n<ii l
  ·rw[qc b];have:=qY.1 a _ (qf b);unfold fo at this;simp at this⊢;omega
  ·rw[qB i4];simp
 ·rw[g0 a]at h;cases h
theorem NN(l:aB)(i n:Nat)(f:i<ii (bi l l.length))(e:(bi l l.length)[i]=(n:Int))(c:n<64):(ik l i)[n]?=dB ez:=by unfold ik;rw[qL,zm c,qQ,g0];intro g;obtain⟨j,h,d⟩:=List.mem_take_iff_getElem.1 g;have:=CG (JA l l.length) (a:=j) (b:=i) i4 f (by rw[d,e]);omega
theorem yx(m:aA):∀S:aB,ii (bF m S)=ii S*ii (aO m)
 |[]=>by simp[bF]
 |n::S=>by
  have e:bF m (n::S)=(aO m).map (λc=>(n,c))++bF m S:=by unfold bF;rw[zj]
  rw[e,qt,qu,yx m S,zh,wc,Nat.add_comm]
theorem TL(p:Pm)(extra:Int)(l:aB)(a:ii l<=64):cw (cA p extra l):=⟨by have:=oR l l.length;simp[cA];omega,by simp[cA],by simp[cA]⟩
section
variable {pw:eX}
theorem Qi(p:Pm)(extra:Int)(s:Sl)(l:aB)(hS:St B h0 As λh=>Rd h s 1 ak l)(hl:ii l<=2^20)(H:aa B h0 h (bK 104 pw w::As)):
  an xQ 22 #[jQ p,xG xM extra,xI (dB pw),s] h λv h'=>
   ((fU p extra w l).1≠0->v=.tuple #[xI ez,xG xM (fU p extra w l).1]/\aa B h0 h' As)/\
   ((fU p extra w l).1=0->∃(a:eX) (x:bo) (da:List bZ),v=.tuple #[xI (dB a),xG xM 0]/\aa B h0 h' (ba bc a pw (az x) w.offs da (fU p extra w l).2.1 (fU p extra w l).2.2::aZ x (cA p extra l)::As)):=by
 refine ts Tryz.func22 ?_ (.two .n (.two .n (.two (.join [] [(8,10),(23,42)] .n) (.two (.join [(12,Nv)] [(12,13),(42,51)] .n) (.two (.two .n (.inn (.loop [(53,aS)] [(8,10),(14,15),(53,69)] .n))) (.two (.two .n (.inn (.loop [(71,aS)] [(16,17),(71,87)] .n))) .n)))))) [(14,(.l [0,1,2,3,4,5,6,8,9,7,10,11]))] (args:=[p,(extra:Int),(dB pw),s]);refine H.boxed λa1 h1 H1=>?_;have H1:=H1.be;refine(PX s l h1 (hS.at [_,_] H1) hl).mono ?_;rintro _ h2 ⟨r,rfl,R2⟩;have H2:=H1.bN R2;refine⟨(r,(fl l).2),i0,?_⟩;have o:∀{h':f8},aa B h0 h' As->((fl l).2&&(bS p&&fo extra 0 16))=eL->
   ((fU p extra w l).1≠0->Value.tuple #[xI ez,xG xM 1]=.tuple #[xI ez,xG xM (fU p extra w l).1]/\aa B h0 h' As)/\
   ((fU p extra w l).1=0->∃(a:eX) (x:bo) (da:List bZ),Value.tuple #[xI ez,xG xM 1]=.tuple #[xI (dB a),xG xM 0]/\aa B h0 h' (ba bc a pw (az x) w.offs da (fU p extra w l).2.1 (fU p extra w l).2.2::aZ x (cA p extra l)::As)):=λ{h'} H' hc=>by
  have e:fU p extra w l=(1,w,[]):=by unfold fU;rw[hc];rfl
  rw[e];exact⟨λ_=>⟨i0,H'⟩,λh=>absurd h (show¬(1:Int)=0 by decide)⟩
 refine aT (aQ (λe=>o H2.rest.rest.rest o0) λe=>?_);have ep:(fl l).2=eH:=lb
 obtain⟨a6,D,I⟩:=TK ep;refine⟨p,(H2.box 1 i0).aE _ i0,(eF p h2).mono ?_⟩;rintro _ h3 ⟨rfl,R3⟩;have E:aa B h0 h3 (ae 3 r 1 ak (fl l).1::ac a1 36 [xG xM p.1,xG xM p.2.1,xG xM p.2.2]::bK 104 pw w::As):=by have:=H2.comp R3;rw[qF]at this;exact this
 refine⟨_,i0,aQ (λe2=>o E.rest.rest.rest (by rw[e2];simp)) λe2=>?_⟩;have em:bS p=eH:=nq
 refine ag (λe3=>o E.rest.rest.rest n8) λe3=>ag (λe4=>o E.rest.rest.rest n8) λe4=>bf (λe5=>by cases e5) λ_=>?_;rw[a6]at E;refine aT ⟨p,(E.box 1 i0).aE _ i0,?_⟩;obtain⟨lw,bl,ar⟩:=(E.aL 3 [2,1,0]).nZ;refine(Dq lw (ar.box 0 i0)).mono ?_;rintro _ h4 ⟨rfl,rfl⟩;have F:=E.box 1 i0;refine⟨_,i0,⟨F.cell0 i0,F.cell i0,F.cell i0,trivial⟩,?_⟩;obtain⟨m,M⟩:∃m,m=cA p extra l:=⟨_,rfl⟩
 refine⟨_,Kx (1,0,p.1,p.2.1,p.2.2,extra,r,⟨ez,0,0⟩) pw w.offs,?_⟩;refine E.boxed λa9 h6 g=>?_;obtain⟨x,hx⟩:∃x:bo,x=(1,0,p.1,p.2.1,p.2.2,extra,r,⟨ez,0,0⟩):=⟨_,rfl⟩
 rw[<-hx]at g;have L:(Value.agg (bC (az x) pw w.offs (qi 64 ez)).toArray).cells.toList=bC (az x) pw w.offs (qi 64 ez):=j9
 rw[L]at g;have g:=g.be;have K:=g.box 2 i0;refine⟨⟨K.cell0 i0,K.cell i0,K.cell i0,trivial⟩,?_⟩;have g:aa B h0 h6 (ac a9 92 (bC (az x) pw w.offs (qi 64 ez))::bK 104 pw w::ae 3 r 1 ak (bi l l.length)::As):=g.aL 4 [0,3,1];have g:=aa.WB (k:=bc) (h8:=by simp) g;obtain⟨P,j⟩:∃P,P=bi l l.length:=⟨_,rfl⟩
 rw[<-j]at g;have hz:cw m:=M▸TL p extra l D;have a5:ii P<=64:=by rw[j];exact q9 (oR _ _) D
 have Z:∀{h':f8} {Bs:List HP} {X:HP},aa B h0 h' (X::ae 3 r 1 ak P::Bs)->dh h' x m:=λ{h' Bs X} H'=>by
  have hs:=H'.seq 1 i0 λ_=>rfl;have hc:=(H'.own 1 i0).cap;subst hx;subst M;exact⟨i0,i0,i0,i0,by show Seq _ _ r 1 ak (bi l l.length);rw[<-j];exact hs,bv.nil _ _ _ _,hc,qm _⟩
 have ad:((fl l).2&&(bS p&&fo extra 0 16))=eH:=by rw[ep,em];unfold fo;simp;omega
 have T:(P.any λi=>decide (l.getD i.toNat 0<(ii (aO m):Int)))=eH->fU p extra w l=(7,w,[]):=λhh=>by
  unfold fU;rw[f9 ad,<-j,<-M,f9 hh]
 have al:(P.any λi=>decide (l.getD i.toNat 0<(ii (aO m):Int)))=eL->fU p extra w l=layAll (bF m P) w (ik l P.length):=λhh=>by
  unfold fU;rw[f9 ad,<-j,<-M,hh,g0 i5]
 have J:∀i (O:i<ii P),∃n:Nat,n<ii l/\P[i]=(n:Int)/\0<l.getD n 0:=by subst j;exactλi O=>PZ l l.length i O
 refine aq (λi:Nat=>(i:Int)) (λi h'=>i<=ii P/\((P.take i).any λi=>decide (l.getD i.toNat 0<(ii (aO m):Int)))=eL/\aa B h0 h' (ba bc a9 pw (az x) w.offs (qi 64 ez) w (qi 64 ez)::ae 3 r 1 ak P::As)) (λi=>ii P-i) 0 i0 ⟨i4,i9,g⟩ ?_;rintro i h7 ⟨O,f,z⟩;dsimp only at*;obtain⟨br,a2⟩:=aa.cP z;have a8:r.len=ii P:=(z.own 1 i0).len;refine ag (λe5=>?_) (λe5=>?_)
 ·have c:i<ii P:=i4
  obtain⟨n,N,A,R⟩:=J i c;refine(z.seq 1 i0 λ_=>rfl).bt i i0 c (n:Int) (by rw[A];rfl) ?_;refine(hS.at [_,_] z).mb n i0 N (l.getD n 0) (by rw[getD_lt N];rfl) λb2 V=>?_;refine⟨a9,i0,x,a2.aE _ lx,(mT x m h7 (Z z) hz).mono ?_⟩;rintro _ h9 ⟨u,rfl,R9⟩;have H9:=z.bN R9;have bk:=(aa.rE H9).1;refine⟨u,i0,ka R9.af ⟨V,trivial⟩,?_⟩;refine ag (λe6=>?_) (λe6=>?_)
  ·rw[T (wq.2 ⟨P[i],qf c,by rw[A,qk];exact g9 i4⟩)];exact⟨λ_=>⟨i0,H9.rest.rest.rest⟩,λh=>absurd h (show¬(7:Int)=0 by decide)⟩
  ·refine⟨i+1,j0,⟨i4,?_,H9.rest⟩,i4⟩;rw[aD _ _ c,y0,f,vq,xn,xC,Bool.or_false,A,qk];exact hU i4
 ·have G:i=ii P:=i4
  subst G;rw[qN]at f;have ay:=al f;rw[<-NG l]at z;refine aq (λt:Nat×List bZ=>(t.1:Int)) (λt h'=>t.1<=ii P/\aa B h0 h' (ba bc a9 pw (az x) w.offs t.2 w (ik l t.1)::ae 3 r 1 ak P::As)) (λt=>ii P-t.1) (0,qi 64 ez) i0 ⟨i9,z⟩ ?_;rintro⟨i,da⟩ W ⟨O,d⟩;dsimp only at*;obtain⟨bq,U⟩:=aa.cP d;refine ag (λe6=>?_) (λe6=>?_)
  ·have c:i<ii P:=i4
   obtain⟨n,N,A,R⟩:=J i c;have a7:=I n;refine(d.seq 1 i0 λ_=>rfl).bt i i0 c (n:Int) (by rw[A];rfl) ?_;refine(hS.at [_,_] d).bt n i0 N (l.getD n 0) (by rw[getD_lt N];rfl) ?_;refine⟨a9,i0,(HB (l.getD n 0) pw W).mono ?_⟩;rintro _ b0 ⟨Q1,_⟩;obtain⟨b,rfl,a3⟩:=Q1 i4;have ax:=(d.bN a3).aL 2 [1,0];refine⟨_,i0,trivial,⟨i4,i4⟩,?_⟩;rw[qk,wb];have ab:i<ii (bi l l.length):=by rw[<-j];exact c
   have ah:(bi l l.length)[i]=(n:Int):=by rw[<-A];simp only[j]
   refine Qw.aa.ZN n i4 (NN l i n ab ah i4) ax λb1 ap=>?_;refine⟨trivial,(i+1,da.set n (dB b)),jj,⟨i6,?_⟩,i6⟩
   try dsimp only
   rw[<-NH l i n ab ah i4];exact ap
  ·have G:i=ii P:=i4
   subst G;refine⟨a9,i0,x,U.aE _ lx,(Fi x m r P W (Z d) hz (d.seq 1 i0 λ_=>rfl) i4).mono ?_⟩;rintro _ bd ⟨u,ys,rfl,a4⟩;have ao:=(d.bN a4).aL 2 [1,0];refine⟨u,i0,?_⟩;have Y:=ki m hz;refine(Dz u ys (bF m P) (St.dN 0 i0 λ_ Q=>Q) ?_ ?_ ao).mono ?_
   ·rw[yx];have:=wx a5 Y;omega
   ·intro y hy;obtain⟨am,a0⟩:=kF hy;obtain⟨i,O,e⟩:=qD am;obtain⟨n,N,A,_⟩:=J i O;rw[<-e,A,a0];exact⟨⟨i4,i4⟩,i5⟩
   rintro _ bb ⟨rfl,S⟩;rw[ay];refine⟨_,i0,bx (λe7=>⟨λ_=>⟨i0,S.rest.rest.rest⟩,λh=>absurd h e7⟩) λe7=>⟨λh=>absurd e7 h,λ_=>⟨a9,x,da,i0,?_⟩⟩⟩;rw[<-M];exact S.oy.dX 1 i0 λq Q=>by
    subst hx;subst M;exact⟨i0,i0,i0,i0,by show Seq _ _ r 1 ak (bi l l.length);rw[<-j];exact Q.1.seq (λ_=>rfl) Q.2,bv.nil _ _ _ _,Q.1.cap,qm _⟩
end
def np(m:aA)(ds:aF)(k n:Int):Bool:=match aU ds k with|some d=>jk m d n|none=>eL
def fV(m:aA)(ds:aF)(l:aB)(N:Int->Int):Bool:=l.all λk=>np m ds k (N k)
def iN(m:aA)(w:Pow)(ds:aF)(k n:Int):Int×Pow×aF:=
 match aU ds k with
 |none=>(5,w,ds)
 |some d=>((fb m w d n).1,(fb m w d n).2.1,bM ds k (fb m w d n).2.2)
def makes(m:aA)(N:Int->Int):aB->Pow->aF->Int×Pow×aF
 |[],w,ds=>(0,w,ds)
 |k::l,w,ds=>if(iN m w ds k (N k)).1=0 then makes m N l (iN m w ds k (N k)).2.1 (iN m w ds k (N k)).2.2 else iN m w ds k (N k)
theorem WK(f:FuncId)(pre post:Array Value)(P:Int->Bool)(s:Sl)(l:aB)(h:f8)(r:C.fns[f]?=dB eH)(o:Rd h s 1 ak l)(y:ii l<=2^30)
  (w:∀k∈l,∀h',Sp h h' []->an xQ f (pre.toList++[Value.int .i64 k]++post.toList).toArray h' λv d=>v=xK (P k)/\Sp h' d []):
  an xQ 121 #[s,.func (.func f) pre post] h λv h'=>v=xK (l.any P)/\Sp h h' []:=by
 refine ts Tryz.func121 ?_ (args:=[s,(.func (.func (f,pre,post).1) (f,pre,post).2.1 (f,pre,post).2.2)]);refine(iB s (f,pre,post) (R:=λv h'=>(∃i:Int,v=xG xM i/\decide (i>=0)=l.any P)/\Sp h h' []) ?_).mono ?_
 ·skip
  have q:=o.len;refine aq (λi:Nat=>(i:Int)) (λi h'=>i<=ii l/\(l.take i).any P=eL/\Sp h h' []) (λi=>ii l-i) 0 i0 ⟨i4,i9,Sp.refl h⟩ ?_;rintro i m ⟨n,a,c⟩;refine ag (λg=>?_) (λg=>?_)
  ·have b:i<ii l:=by have p:(i:Int)<(s.len:Int):=g;omega
   refine(Seq.up o c.af).bt i i0 b l[i] i0 (dL r ?_);refine(w l[i] (qf b) m c).mono ?_;rintro _ x ⟨rfl,t⟩;have j:=c.up t.af;refine⟨_,i0,bf (λe=>⟨⟨i,i0,?_⟩,j⟩) λe=>?_⟩
   ·rw[wq.2 ⟨_,qf b,e⟩];exact g9 i4
   ·refine⟨i+1,j0,⟨i4,?_,j⟩,i4⟩;rw[aD _ _ b,y0,a,xn,xC,e];rfl
  ·have p:¬(i:Int)<(s.len:Int):=g;rw[qg i4]at a;exact⟨⟨-1,i0,by rw[a];rfl⟩,c⟩
 ·rintro _ m ⟨⟨i,rfl,n⟩,u⟩;exact⟨i,i0,by rw[n],u⟩
section
variable {pw:eX}
def LQ(f:FuncId)(pre post:Array Value)(N:Int->Int)(l:aB)(h:f8):Prop:=∀k∈l,an xQ f (pre.toList++[Value.int .i64 k]++post.toList).toArray h λv h'=>v=xG xM (N k)/\Sp h h' []
theorem HS(f:FuncId)(pre post:Array Value)(N:Int->Int)(x:bo)(m:aA)(s:Sl)(l:aB)(hf:C.fns[f]?=dB eH)(Q:St B h0 As λh=>dh h x m/\LQ f pre post N l h)(hz:cw m)(hs:Rd h s 1 ak l)(hl:ii l<=2^30)(A:∀k∈l,0<=k/\k<64)(H:aa B h0 h (ba bc a pw (az x) offs da w ds::As)):
  an xQ 71 #[xI (dB a),s,.func (.func f) pre post] h λv h'=>v=xK (fV m ds l N)/\Sp h h' []:=by
 refine ts Tryz.func71 ?_ (args:=[(dB a),s,(.func (.func (f,pre,post).1) (f,pre,post).2.1 (f,pre,post).2.2)]);refine(Sp.refl h).boxed λq h1 R1=>R1.boxed λM D t=>?_;have W:aa B h0 D (ba bc a pw (az x) offs da w ds::As):=H.up t.af;have g:bW D q 23 [xI (dB a)]:=t.box 0 i0;have P:=t.box 1 i0;refine(WK 122 #[] #[xI (dB q),xI (dB M)] (λk=>!np m ds k (N k)) s l D lx (hs.up t.af) hl ?_).mono ?_
 ·intro k U h3 i;have I:=W.up i.af;have R:=(g.af i.af g.lt).cell0 i0;have c2:=(P.af i.af P.lt).cell0 i0;obtain⟨ok,u⟩:=aa.cP I;have S:=A k U;refine ts Tryz.func122 ?_ (args:=[(k:Int),q,M]);obtain⟨n,rfl⟩:∃n:Nat,k=n:=⟨k.toNat,i4⟩
  have F:n<ii da:=by rw[ok.la];omega
  have Y:cellOf h3 ((a.add 10).add ((n:Int).toNat*1))=dB (.pointer da[n]):=by rw[qk,wb];refine u.uL 10 n ?_;rw[uN ok.l8,qc F];rfl
  obtain⟨Z,J⟩:=Q.at [_] I;refine⟨dB a,R,a,i0,⟨i4,i4⟩,da[n],Y,dB a,R,a,i0,x,u.aE _ i0,(f,pre,post),c2,dL hf ?_⟩;refine(J n U).mono ?_;rintro _ y ⟨rfl,r⟩;have T:=I.up r.af;have p:=((g.af i.af g.lt).af r.af (g.af i.af g.lt).lt).cell0 i0;have c:=u.af r.af u.lt;have E:cellOf y ((a.add 10).add ((n:Int).toNat*1))=dB (.pointer da[n]):=by rw[qk,wb];refine c.uL 10 n ?_;rw[uN ok.l8,qc F];rfl
  refine⟨_,i0,⟨c.cell0 i0,c.cell i0,c.cell i0,c.cell i0,c.cell i0,c.cell i0,c.cell i0,c.cell i0,p,E,p,trivial⟩,?_⟩;have K:gf da (n:Int)=da[n]:=by unfold gf;rw[f9 i4,qk,qc F];rfl
  rw[<-K];have fin:∀{z:Bool} {j:f8},z=np m ds n (N n)->Sp y j []->bQ.ok [(q,xI (dB a)),(q,xI (dB a))] j/\(Value.bool (!z)=xK (!np m ds n (N n))/\Sp h3 j []):=λ{z j} he o=>by
   have O:=(g.af i.af g.lt).af r.af (g.af i.af g.lt).lt;have:=(O.af o.af O.lt).cell0 i0;exact⟨⟨this,this,trivial⟩,by rw[he],.zip (aa.up r o.af).af⟩
  rcases mD ok (n:Int)with⟨e1,e2⟩|⟨n',d,b,e0,e1,e2,e3,e4,e5⟩
  ·rw[e2];refine(NM x _ y).mono ?_;rintro _ j ⟨rfl,o⟩;exact⟨_,i0,fin (by unfold np;rw[e1]) o⟩
  ·rw[e5];obtain⟨b',e,H5⟩:=Qw.aa.ju T e2;rw[e4]at e;injection e with e
   injection e with e
   subst e;obtain⟨G,X,V,L⟩:=aa.nz H5;refine(DE X V x m (N n) (L.box 0 i0) ((L.aL 2 [1]).sY λ_=>rfl) (aa.rE (L.aL 2 [1])).1 G (Q.at [_] T).1 hz).mono ?_;rintro _ j ⟨rfl,o⟩;exact⟨_,i0,fin (by unfold np;rw[e3]) o⟩
 ·rintro _ h3 ⟨rfl,i⟩;refine⟨_,i0,?_,.zip (aa.up t i.af).af⟩;unfold fV;rw[List.not_any_eq_all_not];simp
theorem NO(x:bo)(n:Int)(h:f8):an xQ 124 #[xI ez,dq x,xG xM n] h λv h'=>v=xG xM 5/\Sp h h' []:=by refine ts Tryz.func124 ?_ (.two .n (.two (.join [] [(6,26)] (.inn (.two (.join [(7,rS)] [(7,14)] .n) .n))) .n)) (args:=[(ez:bZ),x,(n:Int)]);refine(Sp.refl h).boxed λb c a=>?_;exact aT (aT (bf (λ_=>bf (λ_=>⟨i0,.zip a.af⟩) λe=>j1) λe=>j1))
theorem TM(m:aA)(N:Int->Int)(l:aB)(w:Pow)(ds:aF)(i:Nat)(a:i<ii l):makes m N (l.drop i) w ds=if(iN m w ds l[i] (N l[i])).1=0 then makes m N (l.drop (i+1)) (iN m w ds l[i] (N l[i])).2.1 (iN m w ds l[i] (N l[i])).2.2 else iN m w ds l[i] (N l[i]):=by rw[qJ a];rfl
theorem HT(f:FuncId)(pre post:Array Value)(N:Int->Int)(x:bo)(m:aA)(s:Sl)(l:aB)(hf:C.fns[f]?=dB eH)(J:St B h0 As λh=>dh h x m/\LQ f pre post N l h/\Rd h s 1 ak l)(hz:cw m)(hl:ii l<=2^30)(F:∀k∈l,0<=k/\k<64)(H:aa B h0 h (ba bc a pw (az x) offs da w ds::As)):
  an xQ 72 #[xI (dB a),s,.func (.func f) pre post] h λv h'=>v=xG xM (makes m N l w ds).1/\aa B h0 h' (ba bc a pw (az x) offs da (makes m N l w ds).2.1 (makes m N l w ds).2.2::As):=by
 refine ts Tryz.func72 ?_ (.two .n (.two (.two .n (.inn (.loop [(12,aS)] [(6,7),(8,10),(12,34)] (.two .n (.two .n (.two (.inn (.two .n (.two (.join [(9,aS)] [(9,10),(16,30)] .n) .n))) .n)))))) .n)) (args:=[(dB a),s,(.func (.func (f,pre,post).1) (f,pre,post).2.1 (f,pre,post).2.2)]);have W:=(J.at [_] H).2.2.len;obtain⟨Z,S⟩:∃Z,Z=makes m N l w ds:=⟨_,rfl⟩
 rw[<-S];refine aq (λt:Nat×Pow×aF=>(t.1:Int)) (λt h'=>t.1<=ii l/\Z=makes m N (l.drop t.1) t.2.1 t.2.2/\aa B h0 h' (ba bc a pw (az x) offs da t.2.1 t.2.2::As)) (λt=>ii l-t.1) (0,w,ds) i0 ⟨i9,S,H⟩ ?_;rintro⟨i,z,ds1⟩ h1 ⟨hi,q,E⟩;dsimp only at*;refine ag (λe=>?_) λe=>?_
 ·have p:i<ii l:=i4
  rw[TM _ _ _ _ _ _ p]at q;obtain⟨X,G,I⟩:=J.at [_] E;refine I.bt i i0 p l[i] i0 (aT ?_);have D:=F l[i] (qf p);obtain⟨k,K⟩:∃k,k=l[i]:=⟨_,rfl⟩
  have M:k∈l:=by rw[K];exact qf p
  rw[<-K]at q D;rw[<-K];obtain⟨n,rfl⟩:∃n:Nat,k=n:=⟨k.toNat,i4⟩
  obtain⟨ok,y⟩:=aa.cP E;have Q:n<ii da:=by rw[ok.la];omega
  have P:∀{h':f8},bW h' a 92 (bC (az x) pw offs da)->cellOf h' ((a.add 10).add ((n:Int).toNat*1))=dB (.pointer da[n]):=λ{h'} y=>by
   rw[qk,wb];refine y.uL 10 n ?_;rw[uN ok.l8,qc Q];rfl
  refine⟨a,i0,⟨i4,i4⟩,da[n],P y,a,i0,x,y.aE _ i0,dL hf ?_⟩;refine(G n M).mono ?_;rintro _ U ⟨rfl,R⟩;have O:=E.up R.af;have g:=y.af R.af y.lt;refine⟨_,i0,⟨g.cell0 i0,g.cell i0,g.cell i0,g.cell i0,g.cell i0,g.cell i0,g.cell i0,g.cell i0,P g,trivial⟩,?_⟩;have L:gf da (n:Int)=da[n]:=by unfold gf;rw[f9 i4,qk,qc Q];rfl
  rw[<-L];obtain⟨c,o⟩:∃c,c=iN m z ds1 n (N n):=⟨_,rfl⟩
  rw[<-o]at q;have fin:∀{h3:f8},aa B h0 h3 (ba bc a pw (az x) offs da c.2.1 c.2.2::As)->bQ.ok [] h3/\Br (c.1 !=(0:Int)) (Value.int .i64 c.1=xG xM Z.1/\aa B h0 h3 (ba bc a pw (az x) offs da Z.2.1 Z.2.2::As))
    (∃r:Nat×Pow×aF,qe xM ((i:Int)+1)=(r.1:Int)/\(r.1<=ii l/\Z=makes m N (l.drop r.1) r.2.1 r.2.2/\aa B h0 h3 (ba bc a pw (az x) offs da r.2.1 r.2.2::As))/\l.length-r.1<ii l-i):=λ{h3} H3=>by
   refine⟨trivial,bx (λu=>?_) λu=>?_⟩
   ·rw[g0 u]at q;rw[q];exact⟨i0,H3⟩
   ·rw[f9 u]at q;exact⟨(i+1,c.2.1,c.2.2),jj,⟨i6,q,H3⟩,i6⟩
  rcases mD ok (n:Int)with⟨e1,u⟩|⟨n',d,b,e0,e1,u,e3,e4,e5⟩
  ·rw[u];have A:c=(5,z,ds1):=by rw[o];unfold iN;rw[e1]
   refine(NO x _ U).mono ?_;rintro _ h3 ⟨rfl,T⟩;exact⟨c.1,by rw[A],fin (h3:=h3) (by rw[A];exact O.up T.af)⟩
  ·rw[e5];have V:n=n':=i4
   subst V;obtain⟨b',j,Y⟩:=Qw.aa.ju O u;rw[e4]at j;injection j with j
   injection j with j
   subst j;have A:c=((fb m z d (N n)).1,(fb m z d (N n)).2.1,ds1.set n (dB (fb m z d (N n)).2.2)):=by rw[o];unfold iN;rw[e3];simp only[bM,qk]
   refine(KC x m (N n) (λBs h' hh=>(J (Bs++[_]) h' (by rw[qn];exact hh)).1) hz Y).mono ?_;rintro _ h3 ⟨rfl,H6⟩;have H7:=Qw.aa.pC (k:=bc) (n:=n) e4 H6;exact⟨c.1,by rw[A],fin (h3:=h3) (by rw[A];exact H7)⟩
 ·rw[zd i4]at q;rw[q];exact⟨i0,E⟩
end
def ZO(a b:dD):Int:=if fd a.1 b.1 then-1 else if jE a.1 b.1 then 0 else 1
def jv(a b:dD):Bool:=jE a.1 b.1
theorem NP(a b:dD):ZO a b<0↔¬jv b a=eH:=by unfold ZO jv jE;cases h:fd a.1 b.1<;>simp;split<;>omega
theorem DF:Ord jv:=⟨λa b c=>CS a.1 b.1 c.1,λa b=>CT a.1 b.1⟩
abbrev NQ(x:dD):Value:=xL #[xJ x.1,xG xM x.2.1,xG xM x.2.2.1,x.2.2.2]
theorem Lr(x y:ByteArray)(h:f8):an xQ 120 #[xJ x,xJ y] h λv h'=>v=xG xM (if fd x y then-1 else if jE x y then 0 else 1)/\h'=h:=by
 refine ts Tryz.func120 ?_;have a:∀z:ByteArray,an xQ 174 #[xJ z] h λv h'=>v=xK eL/\h'=h:=λz=>by
  refine ts Tryz.func174 ?_;exact⟨i9,i0⟩
 refine(a x).mono ?_;rintro _ _ ⟨rfl,rfl⟩;refine⟨_,i0,(a y).mono ?_⟩;rintro _ _ ⟨rfl,rfl⟩;refine⟨_,i0,bf (λe=>j1) λ_=>bf (λe=>j1) λ_=>?_⟩;have d:Op.bytesLess x.toList y.toList=fd x y:=rfl;rw[LM,d];have c:(!Op.bytesLess y.toList x.toList)=jE x y:=rfl;rw[c];refine bf (λe=>⟨o0,i0⟩) λe=>aQ (λb=>⟨by rw[e,b];rfl,i0⟩) λb=>⟨by rw[e,b];rfl,i0⟩
theorem TN(a b:dD)(h:f8):an xQ 119 #[NQ a,NQ b] h λv h'=>v=xG xM (ZO a b)/\Sp h h' []:=by refine ts Tryz.func119 ?_ (args:=[a,b]);refine(Sp.refl h).boxed λf i g=>g.boxed λe d c=>?_;have c:Sp h d [ac f 88 (bh a),ac e 88 (bh b)]:=c;refine⟨a.1,(c.box 0 i0).cell0 i0,b.1,(c.box 1 i0).cell0 i0,(Lr a.1 b.1 d).mono ?_⟩;rintro _ _ ⟨rfl,rfl⟩;exact⟨_,i0,i0,.zip c.af⟩
abbrev rL(s:Sl)(d:List dD):HP:=ae 88 s 4 bh d
variable {h':f8} {s:Sl}
section
variable {d:List dD}
theorem Qj{b d:List dD}{y:dD}(c:Sd jv (b++d))(g:∀z∈b,jv z y=eH)(f:∀z∈d,¬jv z y=eH):Sd jv (b++y::d):=
 Sd.app DF c.left (zH.2 ⟨λz a=>DF.An (f z a),c.right⟩) λx e z a=>by
  rcases qV.1 a with rfl|a
  ·exact g x e
  ·exact c.uz x e z a
theorem HU(X M Y:List dD)(a b:Int)(ha:a=(ii X:Int))(hb:b=(ii X+ii M:Nat))(al:ii X+ii M+ii Y<=2^40)(H:aa B h0 h (rL s (X++(M++Y))::As)):
  an xQ 236 #[s,xG xM a,xG xM b,.func (.func 119) #[] #[]] h λv h'=>v=.tuple #[]/\∃Z,Sd jv Z/\cb jv M Z/\aa B h0 h' (rL s (X++(Z++Y))::As):=by
 refine ts Tryz.func236 ?_ (.two .n (.inn (.loop [(8,aS)] [(8,10),(12,53)] (.two .n (.two (.inn (.two .n (.inn (.loop [(9,aS)] [(9,10),(18,53)] (.two (.join [] [(18,35)] .n) .n))))) .n))))) (args:=[s,(a:Int),(b:Int),(.func (.func 119) #[] #[])]);subst ha;subst hb;rw[ai ((ii X:Int)+1)];refine aq (λt:Nat×List dD=>((ii X+1+t.1:Nat):Int)) (λt h'=>(t.1+1<=ii M∨t.1=0)/\Sd jv t.2/\cb jv (M.take (t.1+1)) t.2/\t.2.length=ii (M.take (t.1+1))/\aa B h0 h' (rL s (X++(t.2++(M.drop (t.1+1)++Y)))::As)) (λt=>ii M-t.1) (0,M.take 1) i0 ?_ ?_
 ·refine⟨.inr i0,?_,cb.refl _,i0,?_⟩
  ·cases M with
   |nil=>exact List.Pairwise.nil
   |cons x M=>exact zH.2 ⟨λ_ h=>mq,i9⟩
  ·rw[<-qn (M.take (0+1)),List.take_append_drop];exact H
 rintro⟨t,P⟩ h1 ⟨ht,F,r,ad,O⟩;dsimp only at*;refine ag (λe=>?_) (λe=>?_)
 ·have I:t+1<ii M:=i4
  obtain⟨y,hy⟩:∃y,y=M[t+1]:=⟨_,rfl⟩
  have J:ii P=t+1:=by rw[ad];simp;omega
  have eD:M.drop (t+1)=y::M.drop (t+1+1):=by rw[qJ I,hy]
  rw[eD]at O;refine aq (λu:List dD×List dD=>((ii X+ii u.1:Nat):Int)) (λu h'=>u.1++u.2=P/\(∀z∈u.2,¬jv z y=eH)/\aa B h0 h' (rL s (X++(u.1++(y::(u.2++(M.drop (t+1+1)++Y)))))::As)) (λu=>ii u.1) (P,[]) (by dsimp only;rw[J];congr 1;omega) ⟨i9,i9,by simpa using O⟩ ?_;rintro⟨c,d⟩ h2 ⟨K,f,L⟩;dsimp only at*;have ah:ii c+ii d=t+1:=by rw[<-J,<-K,qt]
  have k:∀{h':f8},(∀z∈c,jv z y=eH)->aa B h0 h' (rL s (X++(c++(y::(d++(M.drop (t+1+1)++Y)))))::As)->
    ∃l:Nat×List dD,qe xM (((ii X+1+t:Nat):Int)+1)=((ii X+1+l.1:Nat):Int)/\((l.1+1<=ii M∨l.1=0)/\Sd jv l.2/\cb jv (M.take (l.1+1)) l.2/\l.2.length=ii (M.take (l.1+1))/\aa B h0 h' (rL s (X++(l.2++(M.drop (l.1+1)++Y)))::As))/\M.length-l.1<ii M-t:=λ{h'} hle H'=>by
   refine⟨(t+1,c++y::d),by dsimp only;rw[ai _];omega,⟨.inl i6,?_,?_,?_,?_⟩,i6⟩
   ·exact Qj n3 hle f
   ·try dsimp only
    rw[aD M (t+1) I,<-hy];have h1:cb jv (M.take (t+1)++[y]) (P++[y]):=r.app (cb.refl _);refine h1.trans ?_;rw[<-K,qn];have h2:cb jv (d++[y]) ([y]++d):=cb.RC DF λx hx z S=>by rw[qp.1 S];exact f x hx
    exact(cb.refl _).app h2
   ·(try dsimp only);simp;omega
   ·try dsimp only
    have:X++((c++y::d)++(M.drop (t+1+1)++Y))=X++(c++(y::(d++(M.drop (t+1+1)++Y)))):=i9
    rw[this];exact H'
  obtain⟨D,U⟩:∃D,D=X++(c++(y::(d++(M.drop (t+1+1)++Y)))):=⟨_,rfl⟩
  refine bG (λ_ h'=>∃(Q:List dD) (z:dD),c=Q++[z]/\¬jv z y=eH/\aa B h0 h' (rL s D::As)) ?_ ?_
  ·rw[<-U]at L k;refine ag (λT=>?_) (λT=>⟨trivial,k (λz S=>?_) L⟩)
   ·have N:c≠[]:=λh=>by rw[h]at T;simp at T
    obtain⟨Q,z,o⟩:∃(Q:List dD) (z:dD),c=Q++[z]:=⟨c.dropLast,c.getLast N,(List.dropLast_concat_getLast N).symm⟩
    have ab:ii c=ii Q+1:=q0
    have g1:D[ii X+ii c]?=dB y:=by rw[U,qh i4,show X.length+ii c-ii X=ii c by omega,qh i4,qW];rfl
    have g2:D[ii X+ii c-1]?=dB z:=by rw[U,qh i4,show X.length+ii c-1-ii X=ii Q by omega,o,qn,qh (qm _),qW];rfl
    obtain⟨R,q⟩:=qj.1 g1;obtain⟨V,E⟩:=qj.1 g2;refine(L.seq 0 i0 λ_=>rfl).cX (g:=bh) _ i0 R y u7 ?_;have W:qe xM (((ii X+ii c:Nat):Int)-1)=((ii X+ii c-1:Nat):Int):=j4
    rw[W];refine(L.seq 0 i0 λ_=>rfl).cX (g:=bh) _ i0 V z t7 (dL lx ?_);refine(TN y z h2).mono ?_;rintro _ h3 ⟨rfl,R3⟩;have G:=L.up R3.af;refine⟨_,i0,trivial,ag (λe3=>⟨Q,z,o,(NP y z).1 e3,G⟩) λe3=>k (λw m=>?_) G⟩;have p:jv z y=eH:=by
     by_cases hc:jv z y=eH
     ·exact hc
     ·exact absurd ((NP y z).2 hc) e3
    rw[o]at m;rcases qy.1 m with m|m
    ·refine DF.trans _ _ _ ?_ p;have:Sd jv (Q++[z]):=by rw[<-o];exact Sd.left (v:=d) n3
     exact this.uz w m z i9
    ·rw[qp.1 m];exact p
   ·have:c=[]:=by
     cases c with
     |nil=>rfl
     |cons x P=>exfalso;simp only[zh]at T;omega
    rw[this]at S;cases S
  ·rintro _ h3 ⟨Q,z,o,p,G⟩;have ab:ii c=ii Q+1:=q0
   have A:D=(X++Q)++z::([]++y::(d++(M.drop (t+1+1)++Y))):=by rw[U,o];simp
   obtain⟨q1,q2,q3,q4⟩:=Ju (X++Q) [] (d++(M.drop (t+1+1)++Y)) z y (i:=ii X+ii c-1) (j:=ii X+ii c) i7 i7;rw[<-A]at q1 q2 q3 q4;obtain⟨V,E⟩:=qj.1 q1;obtain⟨R,q⟩:=qj.1 q2;have W:qe xM (((ii X+ii c:Nat):Int)-1)=((ii X+ii c-1:Nat):Int):=j4
   rw[W];refine(G.seq 0 i0 λ_=>rfl).cX (g:=bh) _ i0 V z t7 ?_;refine(G.seq 0 i0 λ_=>rfl).cX (g:=bh) _ i0 R y u7 ?_;refine G.set aj 0 i0 (λ_=>rfl) i0 (ii X+ii c) i0 R z i0 i0 i0 λh4 H4=>⟨trivial,?_⟩
   refine H4.set aj 0 i0 (λ_=>rfl) i0 (ii X+ii c-1) i0 (by simpa using V) y i0 i0 i0 λh5 H5=>⟨trivial,?_⟩
   refine⟨(Q,z::d),l4,⟨by dsimp only;rw[<-K,o];simp,?_,?_⟩,i6⟩
   ·try dsimp only
    intro w m;rcases qV.1 m with rfl|m
    ·exact p
    ·exact f w m
   ·try dsimp only
    have:X++(Q++(y::(z::d++(M.drop (t+1+1)++Y))))=(X++Q)++y::([]++z::(d++(M.drop (t+1+1)++Y))):=i9
    rw[this,<-q4];exact H5
 ·refine⟨i0,P,F,?_,?_⟩
  ·rw[qg i4]at r;exact r
  ·rw[zd i4]at O;simpa using O
theorem NR(r:Nat)(h:f8)(c:r<=2^32):an xQ 130 #[xG xP r] h λv h'=>(∃k:Int,v=xG xM k)/\h'=h:=by intro w a;refine(Tryz.bits_Len (r:Int) w i4 i4).mono ?_;rintro e b ⟨rfl,rfl⟩;exact⟨_,i0,de.refl _,⟨_,i0⟩,a⟩
theorem TO(d:List dD)(m:ii d<=12)(H:aa B h0 h (rL s d::As)):
  an xQ 118 #[s,.func (.func 119) #[] #[]] h λv h'=>v=.tuple #[]/\aa B h0 h' (rL s (d.mergeSort jv)::As):=by
 refine ts Tryz.func118 ?_ (args:=[s,(.func (.func 119) #[] #[])]);have g:=(H.own 0 i0).len;have a:∀k:Int,an xQ 173 #[s,xG xM 0,xG xM (s.len:Nat),xG xM k,.func (.func 119) #[] #[]] h λv h'=>v=.tuple #[]/\aa B h0 h' (rL s (d.mergeSort jv)::As):=λk=>by
  refine ts Tryz.func173 ?_ (.two .n (.two .n (.inn (.loop [(1,aS),(2,aS),(3,aS),(10,rS),(11,rS)] [(1,4),(10,148)] (.inn (.two .n (.two .n (.two .n (.two (.join [(3,aS)] [(3,4),(38,47)] .n) (.two .n (.two (.join [(13,aS),(14,aS)] [(13,15),(55,68)] .n) (.two (.join [] [(68,81)] .n) (.two (.join [(1,aS)] [(1,2),(15,16),(81,105)] (.two (.join [(97,rS)] [(81,98)] .n) .n)) .n))))))))))))) (args:=[s,(0:Int),((s.len:Nat):Int),(k:Int),(.func (.func 119) #[] #[])]);refine aq (λ_:Unit=>((0:Int),((s.len:Nat):Int),k,eH,eH)) (λ_ h'=>h'=h) (λ_=>0) () i0 i0 ?_;rintro _ j rfl;refine ag (λ_=>?_) λe=>absurd (show qe xM (((s.len:Nat):Int)-0)<=12 by rw[ai _];omega) e;refine(HU [] d [] 0 (s.len:Nat) i0 oj i7 l6).mono ?_;rintro _ f ⟨rfl,M,l,i,b⟩;refine⟨(),i0,i0,?_⟩;rw[<-LL DF l i];simpa using b
 have c:qe xP ((s.len:Nat):Int)=((s.len:Nat):Int):=by unfold qe;simp[qG,vg];omega
 rw[c];refine(NR s.len h i4).mono ?_;rintro _ j ⟨⟨k,rfl⟩,rfl⟩;refine⟨k,i0,(a k).mono ?_⟩;rintro _ f ⟨rfl,b⟩;exact⟨(),i0,i0,b⟩
end
def AA:bo:=(0,0,0,0,0,0,⟨ez,0,0⟩,⟨ez,0,0⟩)
theorem Qk{m:aA}{e:Qw.dm}{xe:dD}{L:List (dD×Qw.dm)}{pool:List (Sl×aB)}(k:L.map zi=m.objs)(i:∀p∈L,Bx pool p)(j:Bx pool (xe,e)):
  ∃g:List (dD×Qw.dm),g.map qq=(L.map qq++[xe]).mergeSort jv/\g.map zi=(m.objs++[e]).mergeSort sf/\∀p∈g,Bx pool p:=by
 have c:∀p∈L++[(xe,e)],Bx pool p:=λp d=>by
  rcases qy.1 d with d|d
  ·exact i p d
  ·rw[qp.1 d];exact j
 refine⟨(L++[(xe,e)]).mergeSort λa b=>jv a.1 b.1,?_,?_,λp d=>c p ((wX _ _).mem_iff.1 d)⟩
 ·rw[yP (r:=λa b=>jv a.1 b.1) (s:=jv) (f:=qq) λa _ b _=>rfl,qM];rfl
 ·rw[yP (r:=λa b=>jv a.1 b.1) (s:=sf) (f:=zi) (λa l b h=>by unfold jv sf;rw[(c a l).1.1,(c b h).1.1]),qM,k];rfl
theorem WL(x:bo)(m:aA)(xe:dD)(e:Qw.dm)(J:dh h x m)(R:cw m)(hs:0<=m.seq/\m.seq<=2^40)(hn:0<=m.next/\m.next<=2^40)(ho:m.objs.length<=11)(S:xe.1=e.name/\xe.2.1=e.object/\xe.2.2.1=e.length)(H:aa B h0 h (kP xe.2.2.2 1 ak e.tries::As)):
  an xQ 69 #[dq x,NQ xe] h λv h'=>∃y:bo,v=dq y/\aa B h0 h' (aZ y (oG m e)::As):=by
 refine ts Tryz.func69 ?_ (args:=[x,xe]);refine(Sp.refl h).boxed λN h1 P=>P.boxed λg Z M=>M.alloc aj i0 λa3 h3 l=>?_;have l:Sp h h3 [ac N 39 (az x),ac g 88 (bh xe),ac a3 39 (az AA)]:=l;refine⟨x,(l.box 0 i0).aE _ i0,(mU x m h3 (J.up l.af) R).mono ?_⟩;rintro _ Y ⟨y,L,pool,rfl,r,E,D,T⟩;have X:=((l.bB [1,2]).comp T).front;refine⟨y,i0,X.alloc aj i0 λi h5 u=>?_⟩;have u:=u.be;refine u.storeAll aj 0 i0 i0 (az y) i0 i0 i0 i0 λI s=>?_;have s:Sp h I [ac i 39 (az y),ci 1 ak pool,ae 3 y.2.2.2.2.2.2.1 1 ak m.drives,ae 88 y.2.2.2.2.2.2.2 4 bh (L.map qq),ac g 88 (bh xe),ac a3 39 (az AA)]:=s;refine⟨y.1,(s.box 0 i0).cell0 i0,?_⟩;have W:qe xM (y.1+1)=m.seq+1:=by rw[r.1,ai _]
 have U:qe xM (y.2.1+1)=m.next+1:=by rw[r.2.1,ai _]
 try dsimp only
 rw[W];refine s.ja aj 0 i0 i0 [xG xM (m.seq+1)] i0 i0 i0 j9 λK q=>?_;have q:Sp h K [ac i 39 (xG xM (m.seq+1)::(az y).drop 1),ci 1 ak pool,ae 3 y.2.2.2.2.2.2.1 1 ak m.drives,ae 88 y.2.2.2.2.2.2.2 4 bh (L.map qq),ac g 88 (bh xe),ac a3 39 (az AA)]:=q;refine⟨y.2.1,(q.box 0 i0).cell i0,?_⟩
 try dsimp only
 rw[U];refine q.store aj 0 i0 i0 1 [xG xM (m.next+1)] i0 i0 i0 j9 λh8 j=>?_;have j:Sp h h8 [ac i 39 (xG xM (m.seq+1)::xG xM (m.next+1)::(az y).drop 2),ci 1 ak pool,ae 3 y.2.2.2.2.2.2.1 1 ak m.drives,ae 88 y.2.2.2.2.2.2.2 4 bh (L.map qq),ac g 88 (bh xe),ac a3 39 (az AA)]:=j;have O:L.length=m.objs.length:=by rw[<-E,qu]
 refine⟨y.2.2.2.2.2.2.2,(j.box 0 i0).cell i0,xe,(j.box 4 i0).aE _ i0,?_⟩;refine j.push aj 3 i0 Jr i0 i5 (λ_=>rfl) EQ xe i0 i5 i7 λo V w=>?_;refine w.store aj 0 i0 i0 7 [o] i0 i0 i0 j9 λz c=>?_;obtain⟨a,b⟩:∃a:bo,a=(m.seq+1,m.next+1,y.2.2.1,y.2.2.2.1,y.2.2.2.2.1,y.2.2.2.2.2.1,y.2.2.2.2.2.2.1,o):=⟨_,rfl⟩
 have F:a.2.2.2.2.2.2.1=y.2.2.2.2.2.2.1:=by rw[b]
 have G:a.2.2.2.2.2.2.2=o:=by rw[b]
 have c:Sp h z [ac i 39 (az a),ci 1 ak pool,ae 3 a.2.2.2.2.2.2.1 1 ak m.drives,ae 88 a.2.2.2.2.2.2.2 4 bh (L.map qq++[xe]),ac g 88 (bh xe),ac a3 39 (az AA)]:=by rw[F,G,b];exact c
 refine⟨a.2.2.2.2.2.2.2,(c.box 0 i0).cell i0,?_⟩;have c:=c.aL 6 [3,0,1,2,4,5];refine(TO (L.map qq++[xe]) i7 c).mono ?_;rintro _ t ⟨rfl,f⟩;have f:Sp h t [rL a.2.2.2.2.2.2.2 ((L.map qq++[xe]).mergeSort jv),ac i 39 (az a),ci 1 ak pool,ae 3 a.2.2.2.2.2.2.1 1 ak m.drives,ac g 88 (bh xe),ac a3 39 (az AA)]:=f;refine⟨(),i0,a,(f.box 1 i0).aE _ i0,?_⟩;refine f.storeAll aj 5 i0 i0 (az a) i0 i0 i0 i0 λk d=>?_;have d:Sp h k [rL a.2.2.2.2.2.2.2 ((L.map qq++[xe]).mergeSort jv),ac i 39 (az a),ci 1 ak pool,ae 3 a.2.2.2.2.2.2.1 1 ak m.drives,ac g 88 (bh xe),ac a3 39 (az a)]:=d;refine⟨a,(d.box 5 i0).aE _ i0,a,i0,?_⟩;obtain⟨L',l1,l2,Q⟩:=Qk (pool:=(xe.2.2.2,e.tries)::pool) (m:=m) (e:=e) (xe:=xe) E (λp A=>⟨(D p A).1,qH _ (D p A).2⟩) ⟨S,qP⟩;have n:=((H.comp (d.bB [2,3,0])).front).aL 4 [0,3,1,2];have n:aa B h0 k (ci 1 ak ((xe.2.2.2,e.tries)::pool)::ae 3 a.2.2.2.2.2.2.1 1 ak m.drives::ae 88 a.2.2.2.2.2.2.2 4 bh ((L.map qq++[xe]).mergeSort jv)::As):=aa.Jt n;rw[<-l1]at n;refine aa.By (m:=oG m e) ⟨by rw[b];rfl,by rw[b];rfl,by rw[b];exact r.2.2.1,by rw[b];exact r.2.2.2⟩ l2 Q n
section
variable {pw:eX}
theorem aa.WM{x y:bo}(H:aa B h0 h (ba bc a pw (az x) offs da w ds::As)){K:Unit->f8->Prop}(d:∀h',aa B h0 h' (ba bc a pw (az y) offs da w ds::As)->K () h'):
  au xQ (qE 39 (xI (dB a)) (dq y)) h K:=by
 obtain⟨ok,b⟩:=Qw.aa.mB H;refine b.ja aj 0 i0 i0 (az y) i0 i0 i0 i9 λh' c=>d h' ?_;exact aa.mC (k:=bc) ⟨i0,ok.la,ok.ls,ok.same⟩ c
theorem HV(x z:bo)(b:aA)(s:Sl)(l:aB)(n:St B h0 As λh=>dh h z b/\Rd h s 1 ak l)(m:cw b)(p:ii l<=2^10)(i:∀k∈l,0<=k/\k<64)(H:aa B h0 h (ba bc a pw (az x) offs da w ds::As)):
  an xQ 73 #[xI (dB a),dq z,s] h λv h'=>v=xG xM (layAll (bF b l) w ds).1/\
   ((layAll (bF b l) w ds).1≠0->aa B h0 h' (ba bc a pw (az x) offs da (layAll (bF b l) w ds).2.1 (layAll (bF b l) w ds).2.2::As))/\
   ((layAll (bF b l) w ds).1=0->∃y,aa B h0 h' (ba bc a pw (az y) offs da (layAll (bF b l) w ds).2.1 (layAll (bF b l) w ds).2.2::aZ y b::As)):=by
 refine ts Tryz.func73 ?_ (args:=[(dB a),z,s]);refine H.boxed λD J d=>?_;have d:=d.be;refine⟨z,(d.box 0 i0).aE _ i0,(Fi z b s l J (n.at [_,_] d).1 m (n.at [_,_] d).2 p).mono ?_⟩;rintro _ M ⟨r,u,rfl,I⟩;have A:=(d.bN I).aL 3 [2,0,1];have f:=ki b m;have t:=wx p f;refine⟨r,i0,(Dz r u (bF b l) (St.dN 0 i0 λ_ j=>j) (by rw[yx];omega) (λq j=>?_) A).mono ?_⟩
 ·obtain⟨g,o⟩:=kF j;rw[o];exact⟨i _ g,i5⟩
 rintro _ h3 ⟨rfl,c⟩;obtain⟨R,E⟩:∃R,R=layAll (bF b l) w ds:=⟨_,rfl⟩
 rw[<-E]at c⊢;refine⟨_,i0,bx (λe=>⟨i0,λ_=>c.aL 3 [0],λh=>absurd h e⟩) λe=>?_⟩;have c:aa B h0 h3 (ba bc a pw (az x) offs da R.2.1 R.2.2::cy jg 2 piv r u (bF b l)::ac D 39 (az z)::As):=c;refine⟨z,(c.box 2 i0).aE _ i0,(Bz z b h3 (n.at [_,_,_] c).1 m).mono ?_⟩;rintro _ L ⟨y,rfl,G⟩;have K:=(c.bN G).aL 4 [1,0];refine⟨y,i0,a,i0,aa.WM K λN F=>?_⟩;exact⟨by rw[e],λh=>absurd e h,λ_=>⟨y,F⟩⟩
def lP(name:ByteArray)(e:Qw.dm):Bool:=e.name.toList==name.toList
theorem find_spec(x:bo)(m:aA)(name:ByteArray)(p:dh h x m)(s:cw m)(H:aa B h0 h (ba bc a pw (az x) offs da w ds::As)):
  an xQ 75 #[xI (dB a),xJ name] h λv h'=>(∃i:Int,v=xG xM i/\ZF (lP name) m.objs i)/\Sp h h' []:=by
 refine ts Tryz.func75 ?_;refine(Sp.refl h).boxed λd n b=>?_;have l:bW n d 9 [xJ name]:=b.box 0 i0;obtain⟨ok,k⟩:=aa.cP H;have f:=k.af b.af k.lt;have g:=s.ob;refine⟨a,i0,x.2.2.2.2.2.2.2,f.cell i0,?_⟩;refine(Fj 126 #[] #[xI (dB d)] (lP name) x.2.2.2.2.2.2.2 m.objs n lx (p.up b.af).objs g ?_).mono ?_
 ·intro u E j e q z;refine ts Tryz.func126 ?_ (args:=[u,d]);refine(Sp.refl j).boxed λy h3 c=>?_;have o:=(l.af e.af l.lt)
  have r:=o.af c.af o.lt;refine⟨u.1,(c.box 0 i0).cell0 i0,name,r.cell0 i0,?_,.zip c.af⟩;unfold lP;rw[q.1.1]
 ·rintro _ j ⟨⟨i,rfl,t⟩,e⟩;exact⟨i,i0,⟨i,i0,t⟩,.zip (aa.up b e.af).af⟩
theorem DG{b:aR}(H:aa B h0 h (ba bc a pw b offs da w ds::As)):an xQ 74 #[xI (dB a)] h λv h'=>v=xK (fT w offs)/\h'=h:=by refine ts Tryz.func74 ?_;refine bf (λe=>j1) λ_=>(pD H).mono ?_;rintro _ _ ⟨rfl,rfl⟩;exact⟨_,i0,i0,i0⟩
def fL(m:aA)(down:Bool)(ds:aF)(name:ByteArray)(n:Nat):Int:=
 if down then 14 else if !ly name then 3 else if m.objs.any (lP name)then 4
 else if m.p.1*m.p.2.2*8<(n:Int)∨12<=ii m.objs then 6
 else if bu ds m.drives=[]∨16777215<m.next∨2147483647<=m.seq then 7 else 0
theorem NS(x:bo)(m:aA)(name:ByteArray)(s:Sl)(n:Nat)(hn:s.len=n)(G:name.size<=2^40)(O:dh h x m)(J:cw m)(M:bS m.p=eH)(H:aa B h0 h (ba bc a pw (az x) offs da w ds::As)):
  an xQ 65 #[xI (dB a),xJ name,s] h λv h'=>v=xG xM (fL m (fT w offs) ds name n)/\Sp h h' []:=by
 refine ts Tryz.func65 ?_ (.two .n (.two (.inn (.two .n (.two .n (.two .n (.two .n (.two .n (.two .n (.two (.join [(19,rS)] [(19,46)] .n) .n)))))))) .n));have X:=(cg m.p).1 M;refine(DG H).mono ?_;rintro _ D ⟨rfl,rfl⟩;refine⟨_,i0,bf (λe=>⟨by unfold fL;rw[e];rfl,Sp.refl _⟩) λo=>?_⟩;refine(Ku name D G).mono ?_;rintro _ Z ⟨rfl,l⟩;refine⟨_,i0,aQ (λe=>⟨by unfold fL;rw[o,e];rfl,l⟩) λF=>?_⟩;have I:=H.up l.af;have k:=O.up l.af;refine(find_spec x m name k J I).mono ?_;rintro _ h3 ⟨⟨i,rfl,W⟩,q⟩;have E:Sp D h3 []:=.zip (aa.up l q.af).af;have c:=NF W;refine⟨i,i0,bf (λe=>⟨by unfold fL;rw[o,F,<-c,e];rfl,E⟩) λV=>?_⟩;rw[V]at c;have K:=I.up q.af;have b:=k.up q.af;obtain⟨ok,f⟩:=aa.cP K;have T:=bv.len b.objs;have y:x.2.2.1=m.p.1:=congrArg (·.1) b.p;have u:x.2.2.2.2.1=m.p.2.2:=congrArg (·.2.2) b.p;have hk:m.p.1*m.p.2.2<=16*24:=Int.mul_le_mul i4 i4 i4 i4;have R:0<=m.p.1*m.p.2.2:=vV i4 i4;refine bG (λ(t:Bool) h'=>t=decide (m.p.1*m.p.2.2*8<(n:Int)∨12<=ii m.objs)/\h'=h3) ?_ ?_
 ·refine⟨a,i0,x.2.2.1,f.cell i0,a,i0,x.2.2.2.2.1,by rw[addr_add];exact f.cell i0,?_⟩
  try dsimp only
  rw[y,u,ai (m.p.1*m.p.2.2),ai (m.p.1*m.p.2.2*8)];refine ag (λe=>⟨(g9 (.inl i4)).symm,i0⟩) λe=>?_;refine⟨a,i0,x.2.2.2.2.2.2.2,f.cell i0,?_,i0⟩;rw[decide_eq_decide];omega
 rintro t _ ⟨rfl,rfl⟩;refine ag (λe=>⟨by unfold fL;rw[o,F,<-c,f9 e];rfl,E⟩) λN=>?_;have S:fL m (fT w offs) ds name n=if bu ds m.drives=[]∨16777215<m.next∨2147483647<=m.seq then 7 else 0:=by unfold fL;rw[o,F,<-c,g0 N];rfl
 rw[S];refine(fS x m b J K).mono ?_;rintro _ L ⟨r,rfl,z⟩;have j:=(z.own 0 i0).len;have d:Sp D L []:=.zip (aa.up E z.af).af;have g:=f.af z.af f.lt;refine⟨r,i0,cv (λe=>⟨by rw[f9 (.inl (qX i4))],d⟩) λe=>?_⟩;have A:bu ds m.drives≠[]:=λU=>by rw[U]at j;simp at j;omega
 refine⟨a,i0,x.2.1,g.cell i0,ag (λe=>⟨by rw[f9 (.inr (.inl (by rw[<-b.next];omega)))],d⟩) λe6=>?_⟩;have Q:=b.next;have P:=b.seq;refine⟨a,i0,x.1,g.cell0 i0,ag (λe=>⟨by rw[f9 (.inr (.inr i4))],d⟩) λY=>⟨?_,d⟩⟩;rw[g0];rintro(h|h|h)
 ·exact A h
 ·omega
 ·omega
end
theorem NT:∃i a,C.T.get 58=dB i/\i.cz=.slice a:=⟨_,_,i0,i0⟩
def oe(A B:aI)(k:Nat):aI:=eN (A.take k) (B.take k)++A.drop k
theorem rq{A B:aI}(h:ii B=ii A)(k:Nat):ii (oe A B k)=ii A:=by simp[oe,eN,h];omega
theorem WN{A B:aI}(h:ii B=ii A){k:Nat}(a:k<ii A):(oe A B k)[k]?=dB A[k]:=by
 have:ii (eN (A.take k) (B.take k))=k:=by simp[eN];omega
 rw[oe,qh i4,this,qW,wL,wT,qc a]
theorem WO{A B:aI}(h:ii B=ii A){k:Nat}(a:k<ii A):(oe A B k).set k (A[k]++B[k]'(by omega))=oe A B (k+1):=by
 have b:ii (eN (A.take k) (B.take k))=k:=by simp[eN];omega
 rw[oe,qS _ _ i4,b,qW,qJ a,zr,oe,aD _ _ a,aD _ _ (show k<ii B by omega),eN,eN,yF i7,qn];rfl
theorem WP{A B:aI}(h:ii B=ii A):oe A B A.length=eN A B:=by rw[oe,qN,<-h,qN,h,List.drop_length,qF]
theorem TP(f:eX)(a b:Sl)(A B:aI)(n w:Nat)(h:f8)(hf:fy h f)(L:dY h a 1 aw A)(Y:dY h b 1 aw B)(hl:ii A=n)(a4:ii B=n)(g:aV n A)(K:aV w B)(a3:1<=n)(hn:n+w<=64)(hr:bY A=n):
  an xQ 162 #[xI (dB f),a,b] h λv h'=>∃r:Sl,v=.tuple #[r,xG xM 0]/\Sp h h' [fH 58 r 1 aw (gc n A B)]:=by
 have d:ii B=ii A:=i4
 have V:=L.len;have p:=Y.len;refine ts Tryz.func162 ?_ (.two .n (.two (.join [] [(6,8),(17,37)] .n) (.two .n (.two .n (.two (.two .n (.inn (.loop [(43,aS)] [(10,11),(43,59)] .n))) (.two .n (.two .n (.two (.two .n (.inn (.loop [(71,aS)] [(6,8),(13,14),(71,79)] .n))) (.two .n (.two (.two .n (.inn (.loop [(14,cK),(83,aS)] [(14,15),(16,17),(83,95)] .n))) .n))))))))));refine aT ?_;refine(mF a A n h L g).mono ?_;rintro v h1 ⟨rfl,rfl⟩;refine⟨_,i0,aQ (λe=>j1) λ_=>?_⟩;refine(mF b B w h1 Y K).mono ?_;rintro v N ⟨rfl,rfl⟩;refine⟨_,i0,aQ (λe=>j1) λ_=>?_⟩;refine bx (λe=>absurd (by rw[V,p,d]) e) λ_=>?_;refine cv (λe=>i4) λ_=>?_;refine(pG a A N L).mono ?_;rintro v h3 ⟨rfl,rfl⟩;have O:eE A=n:=by
  cases A with
  |nil=>simp at hl;omega
  |cons x t=>rw[eE,bE i9];exact g _ i9
 refine⟨_,i0,?_⟩;rw[O];refine(tK a A n h3 L g).mono ?_;rintro v h4 ⟨r,rs,rfl,ax,R4⟩;refine⟨r,i0,?_⟩;have ao:=(R4.own 0 i0).len;refine aq (λt:Nat×List Sl=>(t.1:Int)) (λt h'=>t.1<=n/\t.2.length=n/\Sp h3 h' (ni r t.2 (oe A B t.1))) (λt=>n-t.1) (0,rs) i0 ⟨i9,i6,by simpa[oe,eN]using R4⟩ ?_;rintro⟨k,rs⟩ h5 ⟨hk,ar,z⟩;dsimp only at*;have F:ii rs=ii (oe A B k):=n0
 refine ag (λe=>?_) (λe=>?_)
 ·have o:k<n:=i4
  have u:k<ii A:=i4
  have I:=oc (a:=r) F k n0;have eg:(oe A B k)[k]'(by rw[rq d];omega)=A[k]:=by have:=WN d u;rw[qc n0]at this;exact zQ.inj this
  rw[eg]at I;have l1:A[k].length=n:=g _ (qf _);have l2:ii (B[k]'(by omega))=w:=K _ (qf _);refine(z.seq 0 i0 λ_=>rfl).ng k i0 i4 λa1 Q U=>?_;refine(Y.up z.af).get k i0 i4 λrb ad=>?_;refine z.append aj (k+1) I gF NT i0 i5 (λ_=>rfl) ad gW i4 λH h6 H6=>⟨trivial,?_⟩
  refine H6.set aj 0 i0 (λ_=>rfl) i0 k i0 i4 H i0 i0 i0 λX H7=>⟨trivial,?_⟩
  refine⟨(k+1,rs.set k H),jj,⟨i6,l0,?_⟩,i6⟩
  try dsimp only
  rw[<-WO d u];show Sp h3 X (ae 58 r 1 aX (rs.set k H)::bn 5 1 aw (rs.set k H) ((oe A B k).set k _));rw[<-kz F];exact H7
 ·have P:k=ii A:=i4
  subst P;rw[WP d]at z;refine(rJ f h5).mono ?_;rintro v h6 ⟨rfl,rfl⟩;refine⟨dB f,i0,?_⟩;have q:=nM d.symm g K;have a6:=mP d.symm;refine(xY (m:=eN A B) (n:=n+w) hf hf.lt i4 q i4 i4 i4 z).mono ?_;rintro v X ⟨i,rfl,am,j⟩;rw[FS d.symm g,hr];refine⟨_,i0,?_⟩
  try dsimp only
  have ap:=(j.own 0 i0).cap;have a0:=(j.own 0 i0).len;have N:=iF q n;refine ag (λe=>absurd (show(n:Int)<(n:Int)from e) i4) λ_=>?_;refine⟨⟨wg _,yI.2 (show n<=r.len by omega)⟩,?_⟩;refine aq (λ_:Unit=>(0:Int)) (λ_ h'=>h'=X) (λ_=>0) () i0 i0 ?_;rintro _ h8 rfl;rw[qk];refine ag (λe=>i4) λ_=>?_;refine⟨⟨wg _,yI.2 (show n<=r.cap by omega)⟩,?_⟩;obtain⟨M,G⟩:∃M,M=(bD (eN A B) n).2:=⟨_,rfl⟩
  have a8:ii M=n:=by have:=N.2;rw[<-G]at this;omega
  have Z:aV (n+w) M:=by rw[G];exact N.1
  have l:∀k (hk:k<n),(gc n A B).take (k+1)=(gc n A B).take k++[(M[k]'(by omega)).drop n]:=λk hk=>by
   have e1:gc n A B=M.map (List.drop n):=by rw[gc,<-G,qg i4]
   rw[e1,aD _ _ i7,wV]
  have a7:ii (gc n A B)=n:=(sM d.symm g K hr).1;rw[<-G]at j;refine aq (λt:Sl×Nat=>(t.1,(t.2:Int))) (λt h'=>t.2<=n/\Sp h8 h' [fH 58 t.1 1 aw ((gc n A B).take t.2)]) (λt=>n-t.2) (⟨ez,0,0⟩,0) i0 ⟨i9,(Sp.refl h8).GZ 58 1 aw⟩ ?_;rintro⟨s,k⟩ h9 ⟨ay,J⟩;dsimp only at*;have W:=j.comp J;have ah:ii i=ii M:=i4
  refine ag (λe=>?_) (λe=>?_)
  ·have o:k<n:=i4
   have I:=oc (a:=r) ah k i4;have y:(ni r i M++[fH 58 s 1 aw ((gc n A B).take k)])[k+1]?=dB (ae 5 (i[k]'(by omega)) 1 aw (M[k]'(by omega))):=by rw[ql (by simp[bn];omega)];exact I
   have a2:ii (M[k]'(by omega))=n+w:=Z _ (qf _);have E:=W.own (k+1) y;have ab:=W.seq (k+1) y λ_=>rfl;have al:=E.len;have D:=(W.seq 0 i0 λ_=>rfl).take n i4;rw[qg i4]at D;refine D.ng k i0 i4 λa1 Q U=>?_;refine⟨⟨wg _,yI.2 i4⟩,?_⟩;refine(eI _ _ h9 (ab.drop n E.cap) i7).mono ?_;rintro v a5 ⟨c,rfl,T⟩;have R:=(J.comp T).freeze 1 i0 λ_=>rfl;refine⟨c,i0,?_⟩;refine R.sI aj 0 1 i5 i0 i0 fw i7 λs' a9 S=>?_;refine⟨(s',k+1),jj,⟨i6,?_⟩,i6⟩
   try dsimp only
   rw[l k o];exact S.del 1
  ·rw[qg i4]at J;refine⟨s,i0,?_⟩;have:=(Sp.zip j.af).comp J;exact this
def iY(p:Pm)(seed:Int)(l:Nat):Int:=if bS p&&decide ((l:Int)=p.1*p.2.2)then(if md p seed (gD p)then 0 else 8)else 1
abbrev Aa(p:Pm)(seed:Int)(m:Sl):aR:=[xG xM p.1,xG xM p.2.1,xG xM p.2.2,xG xO seed,m]
theorem NU(p:Pm)(seed:Int)(data:Sl)(d:Row)(h:f8)(hd:Rd h data 1 aw d)(hc:data.len<=data.cap):
  an xQ 114 #[jQ p,xG xO seed,data] h λv h'=>
   (iY p seed d.length=0->∃(b:eX) (m:Sl),v=.tuple #[xI (dB b),xG xM 0]/\Sp h h' [fH 58 m 1 aw (gP p seed d),ac b 225 (Aa p seed m)])/\
   (iY p seed d.length≠0->v=.tuple #[xI ez,xG xM (iY p seed d.length)]/\Sp h h' []):=by
 have U:=hd.len;refine ts Tryz.func114 ?_ (.two .n (.two (.join [] [(6,8),(12,25)] .n) (.two .n (.two .n (.two (.two .n (.inn (.loop [(8,cK),(31,aS)] [(8,9),(31,40)] .n))) (.two (.two .n (.inn (.loop [(8,cK),(42,aS)] [(8,10),(42,60)] .n))) (.two (.join [(10,cK),(11,aS)] [(10,12),(60,71)] .n) .n))))))) [(15,(.l [1,2,3,6,0,4,5,7,8,9,10,11,12]))] (args:=[p,(xG xO (seed:Int)),data]);refine(Sp.refl h).boxed λa h1 H1=>?_;refine aT ?_;refine⟨p,(H1.box 0 i0).aE _ i0,(eF p h1).mono ?_⟩;rintro v h2 ⟨rfl,R2⟩;have O:=H1.comp R2;have Y:∀{h3:f8} (x:Int),x≠0->iY p seed d.length=x->Sp h h3 [ac a 36 [xG xM p.1,xG xM p.2.1,xG xM p.2.2]]->
   (iY p seed d.length=0->∃(b:eX) (m:Sl),Value.tuple #[xI ez,xG xM x]=.tuple #[xI (dB b),xG xM 0]/\Sp h h3 [fH 58 m 1 aw (gP p seed d),ac b 225 (Aa p seed m)])/\
   (iY p seed d.length≠0->Value.tuple #[xI ez,xG xM x]=.tuple #[xI ez,xG xM (iY p seed d.length)]/\Sp h h3 []):=λx hx R H=>by
  refine⟨λe=>absurd (R.symm.trans e) hx,λ_=>⟨by rw[R],.zip H.af⟩⟩
 refine⟨_,i0,aQ (λe=>Y 1 i5 (by rw[iY,e];rfl) O) λS=>?_⟩;have ao:=(cg p).1 S;obtain⟨K,hK⟩:∃K:Nat,p.1=K:=⟨p.1.toNat,i4⟩
 obtain⟨y,hH⟩:∃H:Nat,p.2.1=H:=⟨p.2.1.toNat,i4⟩
 obtain⟨w,N⟩:∃w:Nat,p.2.2=w:=⟨p.2.2.toNat,i4⟩
 have al:K*w<=16*24:=wx i4 i4;have J:p.1*p.2.2=((K*w:Nat):Int):=by rw[hK,N,wQ]
 refine⟨p.1,(O.box 0 i0).cell0 i0,p.2.2,(O.box 0 i0).cell i0,?_⟩
 try dsimp only
 rw[J,ai _];refine bx (λe=>Y 1 i5 (by rw[iY,S,hU (by rw[J];intro Z;exact e (by rw[U];exact Z))];rfl) O) λel=>?_;have G:ii d=K*w:=i4
 refine⟨p,(O.box 0 i0).aE _ i0,(HQ p seed h2).mono ?_⟩;rintro v h3 ⟨rfl,R3⟩;have H3:=O.comp R3;have D:iY p seed d.length=if md p seed (gD p)then 0 else 8:=by rw[iY,S,g9 (by rw[J,G])];rfl
 refine⟨_,i0,aQ (λe=>Y 8 i5 (by rw[D,e];rfl) H3) λhf=>?_⟩;rw[hf,f9 rfl]at D;have B:dH p seed d K y w (K+y):=⟨S,hf,hK,hH,N,i0,i4,i4,i4,i4,i4,i4,G⟩
 refine⟨p.2.1,(H3.box 0 i0).cell i0,?_⟩;refine aq (λt:Sl×List Sl=>(t.1,(ii t.2:Int))) (λt h'=>ii t.2<=y/\Sp h h' (ac a 36 [xG xM p.1,xG xM p.2.1,xG xM p.2.2]::ni t.1 t.2 (qi t.2.length (aM w)))) (λt=>y-ii t.2) (⟨ez,0,0⟩,[]) i0 ⟨i9,H3.nil 58 1 aX⟩ ?_;rintro⟨s,rs⟩ h4 ⟨hk,P⟩;dsimp only at*;refine ag (λe=>?_) (λe=>?_)
 ·refine⟨p.2.2,(P.box 0 i0).cell i0,?_⟩;refine P.make aj aw gF i5 0 i0 i0 w w N N (qm _) i4 λz h5 ap ar E=>?_;refine E.push aj 1 i0 fw i0 i5 (λ_=>rfl) jb z i0 i5 i4 λs' h6 X=>?_;refine⟨(s',rs++[z]),by dsimp only;rw[ai _];simp,⟨i7,?_⟩,i7⟩
  try dsimp only
  have e7:ni s' (rs++[z]) (qi rs.length (aM w)++[aM w])=ae 58 s' 1 aX (rs++[z])::(bn 5 1 aw rs (qi rs.length (aM w))++[ae 5 z 1 aw (aM w)]):=congrArg _ (sW i9 z (aM w));rw[show(rs++[z]).length=ii rs+1 by simp,List.replicate_succ',e7];exact X
 ·have L:ii rs=y:=i4
  rw[L]at P;refine⟨p.1,(P.box 0 i0).cell0 i0,?_⟩;let own:=bn 5 1 aw rs (qi y (aM w));refine aq (λt:Sl×Nat=>(t.1,(t.2:Int))) (λt h'=>t.2<=K/\Sp h h' (ac a 36 [xG xM p.1,xG xM p.2.1,xG xM p.2.2]::ae 58 t.1 1 aX (rs++(qz t.2).map (Jc data w))::own)) (λt=>K-t.2) (s,0) i0 ⟨i9,by simpa using P⟩ ?_;rintro⟨t,k⟩ h5 ⟨ax,E⟩;dsimp only at*;refine ag (λZ=>?_) (λZ=>?_)
  ·have W:k<K:=i4
   have m1:(k+1)*w<=K*w:=zK w W;have m2:k*w<=(k+1)*w:=zK w i4;refine⟨p.2.2,(E.box 0 i0).cell i0,p.2.2,(E.box 0 i0).cell i0,?_⟩;rw[ai ((k:Int)+1)];have e5:(k:Int)*p.2.2=((k*w:Nat):Int):=by rw[N,wQ]
   have e6:((k:Int)+1)*p.2.2=(((k+1)*w:Nat):Int):=by rw[N,wQ];rfl
   try dsimp only
   rw[e5,e6,rY _,rY _,qk,qk];refine⟨⟨wg _,yI.2 m2,yI.2 i4⟩,?_⟩;refine E.push aj 1 i0 fw i0 i5 (λ_=>rfl) jb (Jc data w k) i0 i5 i7 λt' h6 X=>?_;refine⟨(t',k+1),i0,⟨i6,?_⟩,i6⟩
   try dsimp only
   rw[zV,qM,<-qn];exact X
  ·have ab:k=K:=i4
   subst ab;refine aT ?_;have F:dY h5 t 1 aw (oK k y w d):=by
    refine⟨rs++(qz k).map (Jc data w),E.seq 1 i0 λ_=>rfl,by rw[CX];simp;omega,λi r l o q=>?_⟩;by_cases I:i<y
    ·rw[ql i4,qc i4]at o;rw[oK,ql (by simpa using I)]at q;have hz:l=aM w:=by simp[I]at q;exact q.symm
     have hr:rs[i]'(by omega)=r:=zQ.inj o;have g:(ac a 36 [xG xM p.1,xG xM p.2.1,xG xM p.2.2]::ae 58 t 1 aX (rs++(qz k).map (Jc data w))::own)[i+2]?=dB (ae 5 (rs[i]'(by omega)) 1 aw ((qi y (aM w))[i]'(by simpa using I))):=fk (by simpa using L) i (by simpa using I);have:=E.seq (i+2) g λ_=>rfl;rw[List.getElem_replicate,hr]at this;rw[hz];exact this
    ·obtain⟨j,rfl⟩:∃j,i=y+j:=⟨i-y,i4⟩
     rw[qh i4,L,zn]at o;rw[oK,qh i9,List.length_replicate,zn]at q;have hj:j<k:=by have:=(qj.1 o).1;simpa using this
     simp[hj]at o q;have m1:(j+1)*w<=k*w:=zK w hj;rw[<-o,<-q];exact(Seq.up hd E.af).piece hc w j i4
   have c:=E.box 0 i0;refine⟨p,c.aE _ i0,p,c.aE _ i0,(oU h5).mono ?_⟩;rintro v h6 ⟨f,rfl,R6⟩;have u:=c.af R6.af c.lt;refine⟨dB f,i0,⟨u.cell0 i0,u.cell i0,u.cell i0,u.cell0 i0,u.cell i0,u.cell i0,trivial⟩,(HN p h6).mono ?_⟩;rintro v h7 ⟨r7,rfl,R7⟩;have V:=R6.comp R7;have M:=c.af V.af c.lt;refine⟨r7,i0,⟨M.cell0 i0,M.cell i0,M.cell i0,trivial⟩,?_⟩;refine(Fk p seed r7 (gD p) h7 (V.seq 1 i0 λ_=>rfl) (by rw[gD,gX];omega)).mono ?_;rintro v h8 ⟨r8,rfl,R8⟩;have T:=V.comp R8;refine⟨r8,i0,trivial,?_⟩;refine(TP f r8 t _ _ (k+y) w h8 (T.box 0 i0) (T.CF 2 i0) (F.up T.af) B.VP (by rw[CX]) B.RJ (Hs B.len) i4 i4 B.MW).mono ?_;rintro v h9 ⟨r9,rfl,R9⟩;have Q9:=T.comp R9;refine⟨(r9,0),i0,trivial,?_⟩;refine bx (λe=>absurd i0 e) λ_=>?_;have ad:=c.af Q9.af c.lt;refine⟨p,ad.aE _ i0,?_⟩;refine Q9.boxed (t:=225) λb am ah=>?_;refine⟨λ_=>⟨b,r9,i0,?_⟩,λe=>absurd D e⟩;have Q:=(Sp.zip E.af).comp ah;rw[<-B.CY]at Q;exact Q.take 3 (λi A I=>by
    cases i with
    |zero=>exact I
    |succ i=>cases i with
     |zero=>exact I
     |succ i=>simp at I)
def tR(h:f8)(b:eX)(p:Pm)(seed:Int)(M:aI):Prop:=∃m:Sl,bW h b 225 (Aa p seed m)/\dY h m 1 aw M
theorem tR.up{h h':f8}{b:eX}{p:Pm}{seed:Int}{M:aI}(e:tR h b p seed M)(c:aN (λb=>b<h.size) h h'):tR h' b p seed M:=by obtain⟨m,a,d⟩:=e;exact⟨m,a.af c a.lt,d.up c⟩
theorem Ql{a t:Row}(b:ii a=ii t){k:Nat}(d:k<ii t):(ze (λx y=>y^^^Gf.mul 1 x) (a.take k) (t.take k)++t.drop k).set k (t[k]^^^(a[k]'(by omega)))=ze (λx y=>y^^^Gf.mul 1 x) (a.take (k+1)) (t.take (k+1))++t.drop (k+1):=by have:=tO (c:=1) b d;rw[Gf.one_mul]at this;exact this
theorem aeV{a t:Row}(b:ii a=ii t){k:Nat}(c:k<ii t):(ze (λx y=>y^^^Gf.mul 1 x) (a.take k) (t.take k)++t.drop k)[k]?=dB t[k]:=by
 have d:ii (ze (λx y=>y^^^Gf.mul 1 x) (a.take k) (t.take k))=k:=i7
 rw[qh i4,d,qW,wL,wT,qc c]
theorem Ab(b:eX)(p:Pm)(seed id:Int)(M:aI)(n w:Nat)(h:f8)(hb:tR h b p seed M)(I:bS p=eH)(P:p.2.2=w)(hn:(bX p).toNat=n)(O:aV w M)(hl:ii M=n):
  an xQ 116 #[xI (dB b),xG xM id] h λv h'=>∃r:Sl,v=r/\Sp h h' [ae 5 r 1 aw (if ct id then kC w M (eT n seed id)else[])]:=by
 obtain⟨m,f,R⟩:=hb;have ah:=R.len;have ap:=(cg p).1 I;have hc:bX p=p.1+p.2.1:=by rw[bX,f9 I]
 refine ts Tryz.func116 ?_ (.two .n (.two (.join [] [(4,5),(10,20)] .n) (.two .n (.two (.two .n (.inn (.loop [(37,aS)] [(7,10),(37,63)] (.two .n (.two .n (.two (.inn (.two .n (.two .n (.inn (.loop [(49,aS)] [(8,10),(49,62)] .n))))) .n)))))) .n)))) [(4,(.l [0,1,2,3,4,5,6,7,8,11,9,10]))];have X:ct id=eL->∃r:Sl,Value.slice ez 0 0=xH r.ptr r.len r.cap/\Sp h h [ae 5 r 1 aw (if ct id then kC w M (eT n seed id)else[])]:=λe=>by
  rw[e];exact⟨⟨ez,0,0⟩,i0,(Sp.refl h).nil 5 1 aw⟩
 refine aT (bf (λe=>j1) λ_=>ag (λe=>X l5) λe1=>ag (λe=>X l5) λY=>?_);have hid:ct id=eH:=l5
 refine⟨b,i0,p.2.2,f.cell i0,?_⟩;refine(Sp.refl h).make aj aw gF i5 0 i0 i0 w w P P (qm _) i4 λo h1 a0 al T=>?_;have z:=f.af T.af f.lt;refine⟨b,i0,p,z.aE _ i0,b,i0,seed,z.cell i0,(uP p seed id h1).mono ?_⟩;rintro v h2 ⟨c,rfl,U⟩;rw[I,hid,Bool.and_self,f9 rfl,hn]at U;rw[hid,f9 rfl];have L:=T.comp U;obtain⟨d,s⟩:∃d,d=eT n seed id:=⟨_,rfl⟩
 have D:∀x∈d,0<=x/\x<(n:Int):=λx W=>nT i4 i4 (by rw[<-s];exact W);have Z:ii d<=n:=by rw[s];exact uw i4 i4 _ _
 rw[<-s]at L⊢;have ay:=(L.seq 1 i0 λ_=>rfl).len;refine⟨c,i0,trivial,?_⟩;refine aq (λi:Nat=>(i:Int)) (λi h'=>i<=ii d/\Sp h h' [ae 5 o 1 aw (kC w M (d.take i)),ae 3 c 1 ak d]) (λi=>ii d-i) 0 i0 ⟨i4,L⟩ ?_;rintro i h3 ⟨F,q⟩;refine ag (λe=>?_) (λe=>?_)
 ·have j:i<ii d:=i4
  have W:=D _ (qf j);refine(q.seq 1 i0 λ_=>rfl).bt i i0 j _ i0 ?_;have G:=f.af q.af f.lt;refine⟨b,i0,m,G.cell i0,?_⟩;obtain⟨ab,Q⟩:=R;refine(Q.af q.af).get d[i].toNat i4 i4 λr V H=>?_;have E:=Q.row _ r _ H (qc (show d[i].toNat<ii M by omega));obtain⟨row,g⟩:∃row,row=M[d[i].toNat]'(by omega):=⟨_,rfl⟩
  have ad:ii row=w:=by rw[g];exact O _ (qf _)
  rw[<-g]at V E;obtain⟨S,N⟩:∃S,S=kC w M (d.take i):=⟨_,rfl⟩
  have ao:ii S=w:=by rw[N];exact tv O hl D i F
  have ar:=V.len;have Y:kC w M (d.take (i+1))=cO 1 row S:=by rw[aD _ _ j,FU,N,g,bE i4]
  rw[<-N]at q;refine aq (λk:Nat=>(k:Int)) (λk h'=>k<=w/\Sp h h' [ae 5 o 1 aw (ze (λx y=>y^^^Gf.mul 1 x) (row.take k) (S.take k)++S.drop k),ae 3 c 1 ak d]) (λk=>w-k) 0 i0 ⟨i4,o7⟩ ?_;rintro k h4 ⟨hk,B⟩;have J:=E.af B.af;have ax:ii (ze (λx y=>y^^^Gf.mul 1 x) (row.take k) (S.take k)++S.drop k)=w:=i7
  refine ag (λe3=>?_) (λe3=>?_)
  ·have am:k<w:=i4
   have u:(ze (λx y=>y^^^Gf.mul 1 x) (row.take k) (S.take k)++S.drop k)[k]'(by omega)=S[k]'(by omega):=by have:=aeV (a:=row) (t:=S) i4 (show k<ii S by omega);rw[qc i4]at this;exact zQ.inj this
   refine J.bt k i0 i4 _ i0 ?_;refine(B.seq 0 i0 λ_=>rfl).bt k i0 i4 _ i0 ?_;rw[u,mE];refine B.set aj 0 i0 (λ_=>rfl) i0 k i0 i4 _ i0 i0 i0 λh5 H5=>?_;refine⟨k+1,j0,⟨i4,?_⟩,i4⟩;rw[<-Ql i4 (show k<ii S by omega)];exact H5
  ·have K:k=w:=i4
   subst K;rw[qg i4,qg i4,zd i4,qF]at B;refine⟨i+1,j0,⟨i4,?_⟩,i4⟩;rw[Y];exact B
 ·rw[qg i4]at q;exact⟨o,i0,q.take 0 λi A F=>by cases i with|zero=>exact F|succ i=>simp at F⟩
theorem dH.iY{p:Pm}{seed:Int}{d:Row}{K H w n:Nat}(B:dH p seed d K H w n):iY p seed d.length=0:=by rw[Qw.iY,B.may,B.full,B.len,B.k,B.s,g9 (by rw[wQ])];rfl
theorem aeW{p:Pm}{seed:Int}{d:Row}{K H w n:Nat}(B:dH p seed d K H w n)(data:Sl)(h:f8)(e:Rd h data 1 aw d)(c:data.len<=data.cap):
  an xQ 114 #[jQ p,xG xO seed,data] h λv h'=>
   ∃(b:eX) (m:Sl),v=.tuple #[xI (dB b),xG xM 0]/\Sp h h' [fH 58 m 1 aw (gP p seed d),ac b 225 (Aa p seed m)]:=
 (NU p seed data d h e c).mono λ_ _ a=>a.1 B.iY
theorem dH.symbol{p:Pm}{seed:Int}{d:Row}{K H w n:Nat}(B:dH p seed d K H w n)(b:eX)(id:Int)(h:f8)(a:tR h b p seed (gP p seed d)):
  an xQ 116 #[xI (dB b),xG xM id] h λv h'=>∃r:Sl,v=r/\Sp h h' [ae 5 r 1 aw (if ct id then kC w (gP p seed d) (eT n seed id)else[])]:=
 Ab b p seed id _ n w h a B.may B.s B.EM B.Ao.2 B.Ao.1
def AB(s:BZ):aR:=[.complex .f64 s.ax s.ay,.complex .f64 s.sx s.sy,xG xM s.left,xG xM s.leg,xK s.second]
theorem og{o:Option Nat}(h:o.isSome=eH):o=dB (o.getD 0):=by
 cases o with
 |none=>cases h
 |some x=>rfl
theorem TQ(h:f8):an xQ 231 #[] h λv h'=>∃a:eX,v=xI (dB a)/\Sp h h' [ac a 313 (AB fs0)]:=by refine ts Tryz.func231 ?_;refine(Sp.refl h).boxed (t:=313) λa c b=>?_;exact⟨a,i0,b⟩
theorem WQ(a b:Nat)(h:f8)(f:(gZ.mul a 0).isSome=eH)(c:(gZ.mul b oL).isSome=eH)(h3:(gZ.sub (rH a 0) (rH b oL)).isSome=eH)(d:(gZ.mul a oL).isSome=eH)(i:(gZ.mul b 0).isSome=eH)(g:(gZ.add (rH a oL) (rH b 0)).isSome=eH):
  an xQ 296 #[.complex .f64 a b,xG xM 1] h λv h'=>v=.complex .f64 (tx a b) (ty a b)/\h'=h:=by
 refine ts Tryz.func296 ?_ (.two .n (.two (.two .n (.inn (.loop [(0,(.sc (.cpx .f64))),(9,aS)] [(0,1),(9,14)] .n))) .n)) (args:=[(.complex .f64 (a,b).1 (a,b).2),(1:Int)]);refine⟨i5,i5,?_⟩;refine aq (λk:Nat=>(if k=0 then(a,b)else(tx a b,ty a b),(k:Int))) (λk h'=>k<=1/\h'=h) (λk=>1-k) 0 i0 ⟨i4,i0⟩ ?_;rintro k h' ⟨l,rfl⟩;have j:xz (qe xM (xz 1 4+4)) 4=1:=i5
 try dsimp only
 rw[j];refine ag (λe=>?_) (λe=>?_)
 ·have:k=0:=i4
  subst this;refine⟨(tx a b,ty a b),acD (og f) (og c) (og h3) (og d) (og i) (og g),?_⟩;exact⟨1,i0,⟨i4,i0⟩,i4⟩
 ·have:k=1:=i4
  subst this;exact⟨i0,i0⟩
theorem ZP(a:eX)(s:BZ)(h:f8)(f:bW h a 313 (AB s))(c:s.ok=eH):an xQ 232 #[xI (dB a)] h λv h'=>v=.tuple #[]/\bW h' a 313 (AB s.on)/\aN (λb=>b≠a.block) h h':=by
 simp only[BZ.ok,qw,decide_eq_true_eq]at c;obtain⟨⟨⟨⟨⟨⟨⟨⟨⟨⟨⟨L,J⟩,w⟩,F⟩,D⟩,A⟩,G⟩,I⟩,O⟩,z⟩,x⟩,u⟩:=c;refine ts Tryz.func232 ?_ (.two .n (.two .n (.two .n (.two .n (.two (.join [] [(33,44)] .n) .n)))));have K:aa (λb=>b<h.size/\¬b=a.block) h h [ac a 313 (AB s)]:=.Vp (λb=>b=a.block) (λb m=>by rw[m];exact f.lt) ⟨f,i0⟩;have fin:∀{h':f8},aa (λb=>b<h.size/\¬b=a.block) h h' [ac a 313 (AB s.on)]->Value.tuple #[]=.tuple #[]/\bW h' a 313 (AB s.on)/\aN (λb=>b≠a.block) h h':=λH=>
  ⟨i0,H.box 0 i0,H.af.1,λk t l=>H.af.2 k t ⟨t,l⟩⟩
 refine⟨a,i0,(s.ax,s.ay),f.cell0 i0,a,i0,(s.sx,s.sy),f.cell i0,(nO s.ax s.sx,nO s.ay s.sy),acB (og L) (og J),a,i0,?_⟩;refine K.ja aj 0 i0 i0 [.complex .f64 (nO s.ax s.sx) (nO s.ay s.sy)] i0 i0 i0 (by simp[AB]) λR p=>⟨trivial,?_⟩
 refine⟨a,i0,s.left,(p.box 0 i0).cell (j:=2) i0,a,i0,?_⟩;rw[ai (s.left-1)];refine p.storeAt aj 0 i0 i0 (off:=2) i0 i0 i0 (by simp[AB]) λy d=>?_;refine⟨a,i0,s.left-1,(d.box 0 i0).cell (j:=2) i0,?_⟩;refine ag (λe=>?_) (λe=>?_)
 ·have i:AB s.on=[.complex .f64 (nO s.ax s.sx) (nO s.ay s.sy),.complex .f64 s.sx s.sy,xG xM (s.left-1),xG xM s.leg,xK s.second]:=by rw[BZ.on,f9 e];rfl
  refine fin ?_;rw[i];exact d
 ·refine⟨a,i0,(s.sx,s.sy),(d.box 0 i0).cell (j:=1) i0,(WQ s.sx s.sy y w F D A G I).mono ?_⟩;rintro v h3 ⟨rfl,rfl⟩;refine⟨(tx s.sx s.sy,ty s.sx s.sy),i0,a,i0,?_⟩;refine d.storeAt aj 0 i0 i0 (off:=1) i0 i0 i0 (by simp[AB]) λM g=>?_;refine bG (λ_ h'=>aa (λb=>b<h.size/\¬b=a.block) h h' [ac a 313 [.complex .f64 (nO s.ax s.sx) (nO s.ay s.sy),.complex .f64 (tx s.sx s.sy) (ty s.sx s.sy),xG xM (s.left-1),xG xM (if s.second then s.leg+1 else s.leg),xK s.second]]) ?_ ?_
  ·refine⟨a,i0,s.second,(g.box 0 i0).cell (j:=4) i0,bf (λo=>?_) λo=>?_⟩
   ·refine⟨a,i0,s.leg,(g.box 0 i0).cell (j:=3) i0,a,i0,?_⟩;rw[ai (s.leg+1)];refine g.storeAt aj 0 i0 i0 (off:=3) i0 i0 i0 (by simp[AB]) λQ E=>?_;rw[f9 o];exact E
   ·rw[g0 (by rw[o];decide)];exact g
  ·rintro _ N r;refine⟨a,i0,s.second,(r.box 0 i0).cell (j:=4) i0,a,i0,?_⟩;refine r.storeAt aj 0 i0 i0 (off:=4) i0 i0 i0 i9 λP q=>?_;refine⟨a,i0,_,(q.box 0 i0).cell (j:=3) i0,a,i0,?_⟩;refine q.storeAt aj 0 i0 i0 (off:=2) i0 i0 i0 i9 λh8 B=>?_;have i:AB s.on=[.complex .f64 (nO s.ax s.sx) (nO s.ay s.sy),.complex .f64 (tx s.sx s.sy) (ty s.sx s.sy),xG xM (if s.second then s.leg+1 else s.leg),xG xM (if s.second then s.leg+1 else s.leg),xK (!s.second)]:=by rw[BZ.on,g0 e];rfl
   refine fin ?_;rw[i];exact B
theorem RV(n:Nat)(h:f8)(i:n<64):an xQ 166 #[xG xM n] h λv h'=>v=.complex .f64 (jr n).ax (jr n).ay/\Sp h h' []:=by
 refine ts Tryz.func166 ?_ (.two .n (.scope 0 [(4,aS)] [(2,3),(4,5),(12,23)] [.n,.n,.n] [.n] []));refine ag (λe=>i4) λ_=>ag (λe=>i4) λ_=>?_;refine(TQ h).mono ?_;rintro v j ⟨a,rfl,g⟩;refine⟨dB a,i0,?_⟩;refine aq (λk:Nat=>(k:Int)) (λk h'=>k<=n/\Sp h h' [ac a 313 (AB (jr k))]) (λk=>n-k) 0 i0 ⟨i4,g⟩ ?_;rintro k f ⟨l,b⟩;refine cv (λe=>?_) (λe=>?_)
 ·have:k=n:=i4
  subst this;exact⟨a,i0,((jr k).ax,(jr k).ay),(b.box 0 i0).cell0 i0,i0,.zip b.af⟩
 ·refine(ZP a (jr k) f (b.box 0 i0) (afL k i4)).mono ?_;rintro v h3 ⟨rfl,c,d⟩;refine⟨(),i0,k+1,j0,⟨i4,b.sH 0 i0 d c⟩,i4⟩
theorem KD{a b:Int}(e:-4<=a:=by omega)(c:a<=4:=by omega)(h3:-4<=b:=by omega)(d:b<=4:=by omega):gZ.sub (cQ a) (cQ b)=dB (cQ (a-b)):=by have:=aeq (a+4).toNat i4 (b+4).toNat i4;rw[show((a+4).toNat:Int)-4=a by omega,show((b+4).toNat:Int)-4=b by omega,show((a+4).toNat:Int)-((b+4).toNat:Int)=a-b by omega]at this;exact this
theorem KE{a:Int}(b:-8<=a:=by omega)(c:a<=8:=by omega):gZ.mul (cQ a) (cQ a)=dB (cQ (a*a)):=by have:=aer (a+8).toNat i4;rw[show((a+8).toNat:Int)-8=a by omega]at this;exact this
theorem NV(a:Int):((a.natAbs:Nat):Int)*(a.natAbs:Nat)=a*a:=Int.natAbs_mul_self
theorem WR{a b:Int}(e:-8<=a)(c:a<=8)(h3:-8<=b)(d:b<=8):gZ.add (cQ (a*a)) (cQ (b*b))=dB (cQ (a*a+b*b)):=by have:=aes a.natAbs i4 b.natAbs i4;rw[NV,NV]at this;exact this
def DH(i j:Nat):Int:=((ge i).x-(ge j).x)*((ge i).x-(ge j).x)+((ge i).y-(ge j).y)*((ge i).y-(ge j).y)
theorem abV{a:Int}(b:-8<=a)(c:a<=8):0<=a*a/\a*a<=64:=by rw[<-NV,<-wQ];have:a.natAbs*a.natAbs<=8*8:=wx i4 i4;omega
theorem uR{n:Nat}(h:n<64):(jr n).ax=cQ (ge n).x/\(jr n).ay=cQ (ge n).y/\-4<=(ge n).x/\(ge n).x<=4/\-4<=(ge n).y/\(ge n).y<=4:=by have:=aep n h;simp only[qw,decide_eq_true_eq,beq_iff_eq]at this;obtain⟨⟨⟨⟨⟨a,b⟩,c⟩,d⟩,e⟩,f⟩:=this;exact⟨a,b,c,d,e,f⟩
theorem WS{i j:Nat}(d:i<64)(c:j<64):0<=DH i j/\DH i j<=128:=by have a:=uR d;have b:=uR c;have f:=abV (a:=(ge i).x-(ge j).x) i4 i4;have e:=abV (a:=(ge i).y-(ge j).y) i4 i4;unfold DH;omega
theorem ZQ(i j:Nat)(h:f8)(d:i<64)(c:j<64):an xQ 167 #[.complex .f64 (jr i).ax (jr i).ay,.complex .f64 (jr j).ax (jr j).ay] h λv h'=>v=.float .f64 (cQ (DH i j))/\h'=h:=by
 have a:=uR d;have b:=uR c;refine ts Tryz.func167 ?_ (args:=[(.complex .f64 ((jr i).ax,(jr i).ay).1 ((jr i).ax,(jr i).ay).2),(.complex .f64 ((jr j).ax,(jr j).ay).1 ((jr j).ax,(jr j).ay).2)]);have e:gZ.sub (jr i).ax (jr j).ax=dB (cQ ((ge i).x-(ge j).x)):=by rw[a.1,b.1];exact KD
 have f:gZ.sub (jr i).ay (jr j).ay=dB (cQ ((ge i).y-(ge j).y)):=by rw[a.2.1,b.2.1];exact KD
 refine⟨(cQ ((ge i).x-(ge j).x),cQ ((ge i).y-(ge j).y)),acC e f,_,KE,_,KE,_,WR i4 i4 i4 i4,i0,i0⟩
abbrev abW:bI C.toAi 22 3 1 [xG xM 0] 8:=⟨_,_,i0,i0,i0,i0,i0,i0⟩
def mG(a b:Int):Int:=if a<b then-1 else if a>b then 1 else 0
theorem NW(m:Nat)(h:f8)(a:m<129):an xQ 234 #[.float .f64 (cQ (m:Nat))] h λv h'=>v=xK eL/\h'=h:=by refine ts Tryz.func234 ?_;have:=VS m a m a;rw[show(FloatKind.format .f64).order (cQ (m:Nat)) (cQ (m:Nat))=dB (compare m m)from this,Nat.compare_eq_eq.2 rfl];exact⟨i0,i0⟩
theorem WT(m n:Nat)(h:f8)(c:m<129)(b:n<129):an xQ 171 #[.float .f64 (cQ (m:Nat)),.float .f64 (cQ (n:Nat))] h λv h'=>v=xG xM (mG m n)/\h'=h:=by
 refine ts Tryz.func171 ?_;refine(NW m h c).mono ?_;rintro v a ⟨rfl,rfl⟩;refine⟨_,i0,(NW n a b).mono ?_⟩;rintro v f ⟨rfl,rfl⟩;refine⟨_,i0,bf (λe=>j1) λ_=>bf (λe=>j1) λ_=>?_⟩;have d:(FloatKind.format .f64).order (cQ (m:Nat)) (cQ (n:Nat))=dB (compare m n):=VS m c n b;rw[d];rcases Nat.lt_trichotomy m n with a|a|a
 ·rw[Nat.compare_eq_lt.2 a];refine bf (λ_=>⟨by rw[mG,f9 i4],i0⟩) (λe=>j1)
 ·subst a;rw[Nat.compare_eq_eq.2 rfl];refine bf (λe=>j1) λ_=>bf (λe=>j1) λ_=>⟨by rw[mG,g0 i4,g0 i4],i0⟩
 ·rw[Nat.compare_eq_gt.2 a];refine bf (λe=>j1) λ_=>bf (λ_=>⟨by rw[mG,g0 i4,f9 i4],i0⟩) (λe=>j1)
theorem KF(m:Int)(h:f8):an xQ 235 #[xG xM m] h λv h'=>v=xK eL/\h'=h:=by refine ts Tryz.func235 ?_;exact⟨i9,i0⟩
theorem WU(m n:Int)(h:f8):an xQ 172 #[xG xM m,xG xM n] h λv h'=>v=xG xM (mG m n)/\h'=h:=by refine ts Tryz.func172 ?_;refine(KF m h).mono ?_;rintro v b ⟨rfl,rfl⟩;refine⟨_,i0,(KF n b).mono ?_⟩;rintro v c ⟨rfl,rfl⟩;refine⟨_,i0,bf (λe=>j1) λ_=>bf (λe=>j1) λ_=>?_⟩;refine ag (λe=>⟨by rw[mG,f9 e],i0⟩) λe=>ag (λa=>⟨by rw[mG,g0 e,f9 a],i0⟩) λa=>⟨by rw[mG,g0 e,g0 a],i0⟩
def RW(a b:Int):Int:=if a≠0 then a else b
theorem acS(s:Sl)(a b:Int)(h:f8)(f:Rd h s 1 ak [a,b]):an xQ 170 #[s] h λv h'=>v=xG xM (RW a b)/\h'=h:=by
 refine Au s ?_;have l:s.len=2:=f.len;refine aq (λk:Nat=>(k:Int)) (λk h'=>h'=h/\k<=2/\(1<=k->a=0)/\(2<=k->b=0)) (λk=>2-k) 0 i0 ⟨i0,i4,i4,i4⟩ ?_;rintro k h' ⟨rfl,m,g,j⟩;refine ag (λe=>?_) (λe=>?_)
 ·rcases(show k=0∨k=1 by omega)with rfl|rfl
  ·refine f.bt 0 i0 i9 a i0 ?_;refine bx (λc=>⟨by rw[RW,f9 c],i0⟩) λc=>?_;exact⟨1,i0,⟨i0,i4,λ_=>c,i4⟩,i4⟩
  ·refine f.bt 1 i0 i9 b i0 ?_;have d:=g i4;refine bx (λc=>⟨by rw[RW,g0 p7],i0⟩) λc=>?_;exact⟨2,i0,⟨i0,i4,λ_=>d,λ_=>c⟩,i4⟩
 ·have d:=g i4;have i:=j i4;exact⟨by rw[RW,g0 p7,i],i0⟩
abbrev Fr:=Int×Fin 129
def tU(x:Fr):aR:=[xG xM x.1,.float .f64 (cQ ((x.2:Nat):Int))]
def tV(x y:Fr):Int:=RW (mG (x.2:Nat) (y.2:Nat)) (mG x.1 y.1)
theorem NX(x y:Fr)(h:f8):an xQ 169 #[xL (tU x).toArray,xL (tU y).toArray] h λv h'=>v=xG xM (tV x y)/\aN (λb=>b<h.size) h h':=by
 refine ts Tryz.func169 ?_ .n [(1,(.l [0,1,2,3,5,6,7,8,4,9,10,11,12]))] (args:=[(xL #[(x.1,cQ ((x.2:Nat):Int)).1,(.float .f64 (x.1,cQ ((x.2:Nat):Int)).2)]),(xL #[(y.1,cQ ((y.2:Nat):Int)).1,(.float .f64 (y.1,cQ ((y.2:Nat):Int)).2)])]);refine(Sp.refl h).boxed (t:=233) λa m f=>?_;refine f.boxed (t:=233) λb e c=>?_;refine⟨_,(c.box 0 i0).cell (j:=1) i0,_,(c.box 1 i0).cell (j:=1) i0,_,(c.box 0 i0).cell0 i0,_,(c.box 1 i0).cell0 i0,?_⟩;refine(WT x.2 y.2 e x.2.isLt y.2.isLt).mono ?_;rintro v h3 ⟨rfl,rfl⟩;refine⟨_,i0,⟨(c.box 1 i0).cell0 i0,(c.box 0 i0).cell0 i0,trivial⟩,(WU _ _ h3).mono ?_⟩;rintro v i ⟨rfl,rfl⟩;refine⟨_,i0,trivial,?_⟩;refine c.lit aj ak abW i0 [mG (x.2:Nat) (y.2:Nat),mG x.1 y.1] i0 (show 2*1<=2^20 by decide) i0 λs g d=>⟨trivial,?_⟩
 refine(acS s _ _ g (d.seq 2 i0 λ_=>rfl)).mono ?_;rintro v k ⟨rfl,rfl⟩;exact⟨_,i0,trivial,i0,d.af⟩
theorem RX{a b:Int}:mG a b<0↔a<b:=by unfold mG;split<;>(try split)<;>omega
theorem KG{a b:Int}:mG a b=0↔a=b:=by unfold mG;split<;>(try split)<;>omega
theorem abX{x y:Fr}:ltOf tV x y=eH↔((x.2:Nat):Int)<(y.2:Nat)∨(((x.2:Nat):Int)=(y.2:Nat)/\x.1<y.1):=by
 have h0:ltOf tV x y=eH↔tV x y<0:=by simp[ltOf]
 rw[h0,tV,RW];by_cases h:mG (x.2:Nat) (y.2:Nat)=0
 ·rw[g0 u9,RX];have:=KG.1 h;constructor
  ·exactλa=>.inr ⟨this,a⟩
  ·rintro(a|a)
   ·omega
   ·exact a.2
 ·rw[f9 h,RX];have b:((x.2:Nat):Int)≠(y.2:Nat):=λe=>h (KG.2 e);constructor
  ·exact .inl
  ·rintro(a|a)
   ·exact a
   ·exact absurd a.1 b
theorem DI{x y:Fr}:ltOf tV x y=eL↔¬(((x.2:Nat):Int)<(y.2:Nat)∨(((x.2:Nat):Int)=(y.2:Nat)/\x.1<y.1)):=by rw[<-abX];simp
theorem aeX:Sort.SWO (ltOf tV) where
 irrefl x:=DI.2 i4
 trans x y z h1 h2:=by rw[abX]at*;omega
 ntrans x y z h1 h2:=by rw[DI]at*;omega
theorem aeY(x y:Fr)(a:ltOf tV x y=eL)(b:ltOf tV y x=eL):x=y:=by rw[DI]at a b;refine vi i4 (Fin.ext i4)
theorem NY{e:TypeId}{s:Sl}{l:List Fr}{h:f8}(j:Own h e s 2 tU l)(a:ii l<2^40):
  an xQ 168 #[s,.func (.func 169) #[] #[]] h λv h'=>v=.tuple #[]/\Own h' e s 2 tU (l.mergeSort λx y=>!(ltOf tV) y x)/\aN (λb=>¬s.on b) h h':=by
 have o:∀x:Fr,ii (tU x)=2:=λ_=>rfl;refine Ll (P:=xQ) (id_:=168) (g:=169) (enc:=tU) (k:=2) (cf:=tV) o ?_ ?_ (λx y h=>NX x y h) j a
 ·intro c cap l w n i f m;have:=AnyQ.slices_SortFunc_total Tryz.RQ 2 Tryz.aeB Tryz.acK tU (λ_=>rfl) (λx v d=>by simp[tU]at d;rcases d with rfl|rfl<;>rfl) tV aeX 169 #[] c 0 cap l.toArray w (enters_of Tryz.acL j3 i0) rb i f n9 aeY;simp at this;exact this
 ·intro p cap w;exact AnyF.slices_SortFunc_none Tryz.RQ p cap _ w
def AC(a:aB)(n:Int):aB:=if 0<=n/\n<64/\a.contains n=eL then a++[n]else a
def iT(l:aB):aB:=l.foldl AC []
theorem DJ(l:aB){k:Nat}(a:k<ii l):iT (l.take (k+1))=AC (iT (l.take k)) l[k]:=by rw[iT,aD _ _ a,zB];rfl
theorem NZ(l:aB):∀k,k<=ii l->∀x,x∈iT (l.take k)↔x∈l.take k/\0<=x/\x<64
 |0,_,x=>by simp[iT]
 |k+1,hk,x=>by
  have c:=NZ l k i4;rw[DJ l i4,aD _ _ (show k<ii l by omega),AC];by_cases h:0<=l[k]/\l[k]<64/\(iT (l.take k)).contains l[k]=eL
  ·rw[f9 h,qy,qy,qp,c x];constructor
   ·rintro(a|rfl)
    ·exact⟨.inl a.1,a.2⟩
    ·exact⟨.inr i0,h.1,h.2.1⟩
   ·rintro⟨a|a,b⟩
    ·exact .inl ⟨a,b⟩
    ·exact .inr a
  ·rw[g0 h,qy,qp,c x];constructor
   ·rintro a;exact⟨.inl a.1,a.2⟩
   ·rintro⟨a|rfl,b⟩
    ·exact⟨a,b⟩
    ·have:(iT (l.take k)).contains l[k]=eH:=by
      cases hc:(iT (l.take k)).contains l[k]with
      |true=>rfl
      |false=>exact absurd ⟨b.1,b.2,hc⟩ h
     exact(c _).1 (by simpa using this)
theorem Oa(l:aB)(k:Nat):ii (iT (l.take k))<=k:=by
 induction k with
 |zero=>simp[iT]
 |succ k ih=>
  by_cases a:k<ii l
  ·rw[DJ l a,AC];split
   ·simp;omega
   ·omega
  ·rw[qg i4]at ih⊢;omega
def BE(c:Nat)(n:Int):Fr:=(n,Fin.ofNat 129 (DH n.toNat c).toNat)
theorem aeZ{c:Nat}{n:Int}(a:c<64)(d:0<=n)(b:n<64):(((BE c n).2:Nat):Int)=DH n.toNat c:=by have:=WS (i:=n.toNat) (j:=c) i4 a;show(((DH n.toNat c).toNat%129:Nat):Int)=_;omega
def AD(c:Nat)(l:aB):aB:=(((iT l).map (BE c)).mergeSort λx y=>!(ltOf tV) y x).map (·.1)
def fY(a block:Int)(l:aB):aB:=if 0<=a/\a<=16777215/\0<=block/\block<8 then AD ((8*a+block)%64).toNat l else[]
def pU(a:aB):aR:=(qz 64).map λi:Nat=>xK (a.contains (i:Int))
theorem acT(a:aB){n:Int}(b:0<=n)(c:n<64):(pU a)[n.toNat]?=dB (xK (a.contains n)):=by rw[pU,qL,zm i4,qQ,show((n.toNat:Nat):Int)=n by omega]
theorem ZR(a:aB){n:Int}(d:0<=n)(c:n<64):(pU a).set n.toNat (xK eH)=pU (a++[n]):=by
 apply zt;intro i;rw[qU,pU,pU,qL,qL,qu,zC];by_cases b:i<64
 ·rw[zm b,qQ,qQ];by_cases h:n.toNat=i
  ·rw[f9 h,f9 i4,show((i:Nat):Int)=n by omega];simp
  ·rw[g0 h];have:(a++[n]).contains (i:Int)=a.contains (i:Int):=by rw[List.contains_eq_mem,List.contains_eq_mem];simp;omega
   rw[this]
 ·rw[g0 i4,qB i7];rfl
abbrev eFr:bI C.toAi 228 233 2 [xG xM 0,.float .f64 0] 16:=⟨_,_,i0,i0,i0,i0,i0,i0⟩
theorem afa:∀x,∀c∈tU x,c.oneCell'=eH:=by intro x c a;simp[tU]at a;rcases a with rfl|rfl<;>rfl
theorem Fo(b block:Int)(live:Sl)(l:aB)(h:f8)(U:Rd h live 1 ak l)(ab:ii l<=2^30:=by omega):
  an xQ 115 #[xG xM b,xG xM block,live] h λv h'=>∃r:Sl,v=r/\Sp h h' [ae 3 r 1 ak (fY b block l)]:=by
 have Y:=U.len;refine ts Tryz.func115 ?_ (.two .n (.two (.join [] [(6,7),(15,29)] .n) (.two .n (.two .n (.two .n (.two (.two .n (.inn (.loop [(8,cK),(37,aS)] [(8,9),(11,12),(37,65)] (.two .n (.two .n (.two (.inn (.two .n (.two (.join [(52,rS)] [(41,53)] .n) .n))) .n)))))) (.two .n (.two .n (.two (.two .n (.inn (.loop [(12,cK),(69,aS)] [(12,13),(14,15),(69,79)] .n))) .n)))))))));have F:¬(0<=b/\b<=16777215/\0<=block/\block<8)->∃r:Sl,Value.slice ez 0 0=xH r.ptr r.len r.cap/\Sp h h [ae 3 r 1 ak (fY b block l)]:=λJ=>by
  rw[fY,g0 J];exact⟨⟨ez,0,0⟩,i0,(Sp.refl h).nil 3 1 ak⟩
 refine aT (ag (λe=>F i4) λe1=>ag (λe=>F i4) λe2=>ag (λe=>F i4) λe3=>ag (λe=>F i4) λe4=>?_);have R:0<=b/\b<=16777215/\0<=block/\block<8:=i4
 rw[fY,f9 R];rw[ai (8*b),ai (8*b+block),yQ i4];obtain⟨c,hc⟩:∃c:Nat,(8*b+block)%64=c:=⟨((8*b+block)%64).toNat,i4⟩
 have j:c<64:=i4
 rw[hc,qk];refine⟨i5,(RV c h j).mono ?_⟩;rintro v h2 ⟨rfl,R2⟩;refine⟨((jr c).ax,(jr c).ay),i0,?_⟩;refine R2.alloc aj i0 λa h3 H3=>?_;have K:Sp h h3 [ac a 229 (pU []),ae 233 ⟨ez,0,0⟩ 2 tU []]:=H3.nil 233 2 tU;refine aq (λt:Sl×Nat=>(t.1,(t.2:Int))) (λt h'=>t.2<=ii l/\Sp h h' [ac a 229 (pU (iT (l.take t.2))),ae 233 t.1 2 tU ((iT (l.take t.2)).map (BE c))]) (λt=>ii l-t.2) (⟨ez,0,0⟩,0) i0 ⟨i9,K⟩ ?_;rintro⟨s,k⟩ W ⟨hk,q⟩;dsimp only at*;have D:=Oa l k;refine ag (λe=>?_) (λe=>?_)
 ·have w:k<ii l:=i4
  have H:=DJ l w;obtain⟨f,E⟩:∃f,f=iT (l.take k):=⟨_,rfl⟩
  rw[<-E]at q D H;refine(Seq.up U q.af).bt k i0 w _ i0 ?_;obtain⟨x,hx⟩:∃x,x=l[k]:=⟨_,rfl⟩
  rw[<-hx]at H⊢;refine bG (λt h'=>(t=eH↔0<=x/\x<64/\f.contains x=eL)/\h'=W) ?_ ?_
  ·refine ag (λp=>ag (λm=>?_) λm=>⟨⟨λe=>j1,λB=>absurd B.2.1 m⟩,i0⟩) λp=>⟨⟨λe=>j1,λB=>absurd B.1 p⟩,i0⟩;refine⟨⟨p,m⟩,f.contains x,?_,?_,i0⟩
   ·rw[wb];exact(q.box 0 i0).cell (acT f p m)
   ·cases f.contains x<;>simp<;>omega
  ·rintro t h5 ⟨V,rfl⟩;refine bf (λe=>?_) (λe=>?_)
   ·obtain⟨p,m,x2⟩:=V.1 e;refine⟨⟨p,m⟩,?_⟩;rw[wb];refine q.storeAt aj 0 i0 i0 i0 i0 i0 (by simp[pU];omega) λQ u=>?_;have S:Sp h Q [ac a 229 (pU (f++[x])),ae 233 s 2 tU (f.map (BE c))]:=by rw[<-ZR f p m];exact u
    obtain⟨n,J⟩:∃n:Nat,x=n:=⟨x.toNat,i4⟩
    subst J;refine(RV n Q i4).mono ?_;rintro v T ⟨rfl,X⟩;refine⟨((jr n).ax,(jr n).ay),i0,(ZQ n c T i4 j).mono ?_⟩;rintro v h8 ⟨rfl,rfl⟩;have G:=S.up X.af;have ev:cQ (DH n c)=cQ (((BE c (n:Int)).2:Nat):Int):=by rw[aeZ j i4 i4,qk]
    refine⟨_,i0,?_⟩;rw[ev];refine G.push aj 1 i0 eFr i0 i5 (λ_=>rfl) afa (BE c (n:Int)) i0 i5 i7 λs' h9 N=>?_;refine⟨(s',k+1),jj,⟨i6,?_⟩,i6⟩
    try dsimp only
    rw[H,AC,f9 ⟨p,m,x2⟩,qM];exact N
   ·refine⟨(s,k+1),jj,⟨i6,?_⟩,i6⟩
    try dsimp only
    rw[H,AC,g0 λB=>by rw[V.2 B]at e;cases e];exact q
 have L:k=ii l:=i4
 subst L;rw[qN]at q D;refine(NY (q.own 1 i0) i7).mono ?_;rintro v h5 ⟨rfl,I,M⟩;have O:=q.mN 1 i0 M I;obtain⟨d,g⟩:∃d,d=((iT l).map (BE c)).mergeSort λx y=>!(ltOf tV) y x:=⟨_,rfl⟩
 have ad:ii d=ii (iT l):=by rw[g,wh,qu]
 have eo:AD c l=d.map (·.1):=by rw[AD,<-g]
 rw[<-g]at O;have Z:=(O.own 1 i0).len;rw[eo];refine⟨(),i0,?_⟩;refine aq (λt:Sl×Nat=>(t.1,(t.2:Int))) (λt h'=>t.2<=ii d/\Sp h h' [ae 233 s 2 tU d,ae 3 t.1 1 ak ((d.take t.2).map (·.1))]) (λt=>ii d-t.2) (⟨ez,0,0⟩,0) i0 ⟨i9,(O.del 0).nil 3 1 ak⟩ ?_;rintro⟨o,i⟩ Q ⟨P,u⟩;dsimp only at*;refine ag (λe=>?_) (λe=>?_)
 ·have z:i<ii d:=i4
  refine(u.seq 0 i0 λ_=>rfl).cX i i0 z (d[i].1,cQ ((d[i].2:Nat):Int)) i0 ?_;refine u.alloc aj i0 λy T H7=>?_;refine H7.storeAll aj 2 i0 i0 [xG xM d[i].1,.float .f64 (cQ ((d[i].2:Nat):Int))] i0 i0 i0 i0 λh8 G=>?_;refine⟨d[i].1,(G.box 2 i0).cell0 i0,?_⟩;refine G.push aj 1 i0 abW i0 i5 (λ_=>rfl) eC d[i].1 i0 i5 i7 λo' h9 N=>?_;refine⟨(o',i+1),jj,⟨i6,?_⟩,i6⟩
  try dsimp only
  rw[aD _ _ z,qM];exact N.del 2
 ·rw[qg i4]at u;exact⟨o,i0,u.take 1 λi A P=>by cases i with|zero=>exact P|succ i=>simp at P⟩
theorem JB{p q:av}(a b:Sl)(c j:aB)(h:f8)(r:Seq h p a 1 ak c)(s:Seq h q b 1 ak j)(w:ii c<=2^40):
  an xQ 18 #[a,b] h λv h'=>v=xK (decide (c=j))/\h'=h:=by
 refine ts Tryz.func18 ?_ (.two .n (.two .n (.two (.two .n (.inn (.loop [(13,aS)] [(4,6),(13,26)] .n))) .n)));have o:=r.len;have l:=s.len;refine bx (λd=>⟨?_,i0⟩) (λi=>?_)
 ·rw[hU λe=>d (by rw[o,l,e])]
 ·refine aq (λk:Nat=>(k:Int)) (λk h'=>h'=h/\k<=ii c/\c.take k=j.take k) (λk=>ii c-k) 0 i0 ⟨i0,i4,i9⟩ ?_;rintro k h' ⟨rfl,x,m⟩;refine ag (λu=>?_) (λt=>?_)
  ·have g:k<ii c:=i4
   have f:k<ii j:=i4
   refine r.bt k i0 g _ i0 ?_;refine s.bt k i0 f _ i0 ?_;refine bx (λd=>⟨?_,i0⟩) (λi=>?_)
   ·rw[hU];intro e;subst e;exact d i0
   ·rw[ai _];exact⟨k+1,i9,⟨i0,i4,by rw[aD _ _ g,aD _ _ f,m,i]⟩,i4⟩
  ·have:k=ii c:=i4
   subst this;rw[qg i4,qg i4]at m;exact⟨by rw[g9 m],i0⟩
theorem ZS(l:aB)(x:Int):x∈iT l↔x∈l/\0<=x/\x<64:=by
 have:=NZ l l.length (qm _) x
 rwa [qN]at this
theorem HW(c:Nat)(l:aB):(AD c l).Perm (iT l):=by have h:=(wX ((iT l).map (BE c)) λx y=>!(ltOf tV) y x).map (·.1);rw[w7]at h;have e:((λx:Fr=>x.1)∘BE c)=id:=rfl;rw[e,List.map_id]at h;exact h
theorem KH(c:Nat)(l:aB)(x:Int):x∈AD c l↔x∈l/\0<=x/\x<64:=by rw[(HW c l).mem_iff,ZS]
def LR(l:aB)(i:Nat):Int:=l.getD i 0
def jI(o:aB)(id:Int):Int:=if o=[]∨id<0 then-1 else LR o (id%(ii o:Int)).toNat
theorem RY(s:Sl)(o:aB)(id:Int)(h:f8)(g:Rd h s 1 ak o):an xQ 117 #[s,xG xM id] h λv h'=>v=xG xM (jI o id)/\h'=h:=by
 have f:=g.len;refine ts Tryz.func117 ?_ (.two .n (.two (.join [] [(4,12)] .n) .n));refine aT (cv (λe=>⟨by rw[jI,f9 (.inl (qX i4))],i0⟩) λe=>ag (λc=>⟨by rw[jI,f9 (.inr c)],i0⟩) λc=>?_);refine⟨e,?_⟩;have b:¬(o=[]∨id<0):=by
  rintro(rfl|h2)
  ·simp at f;omega
  ·exact c h2
 have d:xz id ((s.len:Nat):Int)=((id%(ii o:Int)).toNat:Int):=by rw[yQ i4,f];have:=yj id (show(ii o:Int)≠0 by omega);omega
 have a:(id%(ii o:Int)).toNat<ii o:=by have:=wN id (show(0:Int)<ii o by omega);omega
 rw[d];refine g.bt _ i0 a _ i0 ⟨?_,i0⟩;rw[jI,g0 b,LR,qd,qc a];rfl
def DK(p:Pm)(seed:Int)(d:Row)(id:Int):aP:=if ct id then kC p.2.2.toNat (gP p seed d) (eT (bX p).toNat seed id)else[]
def JC(m:aA)(o b seed:Int)(d:Row)(id:Int):dG:=⟨o,b,id,m.p,seed,DK m.p seed d id⟩
def HX(m:aA)(o b seed:Int)(d:Row)(a:aB)(id:Int):Int×aP:=(jI a id,dl (JC m o b seed d id))
def mH(m:aA)(o:Int)(tries:aB)(a:bO)(live:aB)(i:Nat):List (Int×aP):=
 (qz (m.p.1+m.extra).toNat).map λid:Nat=>HX m o i (iG o i (tries.getD i 0)) (a.getD i []) (fY o i live) id
def fc(m:aA)(o:Int)(tries:aB)(a:bO)(live:aB)(n:Nat):List (Int×aP):=(qz n).flatMap (mH m o tries a live)
theorem rN(m:aA)(o:Int)(tries:aB)(a:bO)(live:aB)(n:Nat):fc m o tries a live (n+1)=fc m o tries a live n++mH m o tries a live n:=by unfold fc;rw[zV,qZ,zj,z7,qF]
theorem HY(m:aA)(o:Int)(tries:aB)(a:bO)(live:aB)(i:Nat):ii (mH m o tries a live i)=(m.p.1+m.extra).toNat:=by simp[mH]
theorem tW(m:aA)(o:Int)(tries:aB)(a:bO)(live:aB):∀n,ii (fc m o tries a live n)=n*(m.p.1+m.extra).toNat
 |0=>by simp[fc]
 |n+1=>by rw[rN,qt,tW m o tries a live n,HY,wc]
theorem Fp(o b t:Int):0<=iG o b t/\iG o b t<4294967296:=by unfold iG;omega
section
variable {pw:eX}
theorem Ls(x:bo)(m:aA)(xe:dD)(e:Qw.dm)(s:Sl)(b:aP)(hS:St B h0 As λh=>dh h x m/\dM ff h xe e/\Rd h s 1 aw b)(b6:s.len<=s.cap)(hz:cw m)(S:bS m.p=eH)(d0:0<=m.extra/\m.extra<=16)(dp:b.length<=2^20)
  (ht:dv m.p e.object (splitB m.p b).length=dB e.tries) (H:aa B h0 h (ba bc a pw (az x) offs da w ds::As)):
  an xQ 68 #[xI (dB a),NQ xe,s] h λv h'=>∃(r:Sl) (ys:List (Int×Sl)),v=.tuple #[r,xK eH]/\
   aa B h0 h' (ba bc a pw (az x) offs da w ds::cy jg 2 piv r ys (fc m e.object e.tries (splitB m.p b) (bu ds m.drives) (splitB m.p b).length)::As):=by
 refine ts Tryz.func68 ?_ (.two .n (.two .n (.two .n (.two (.two .n (.inn (.loop [(9,cK),(28,aS)] [(6,8),(9,18),(28,100)] (.two .n (.two .n (.two (.inn (.two .n (.two .n (.two .n (.two .n (.two .n (.two .n (.inn (.loop [(9,cK),(72,aS)] [(9,10),(16,18),(72,99)] (.two .n (.two .n (.two (.inn (.two .n (.two (.join [(17,(.sc .adr))] [(17,18),(75,89)] .n) .n))) .n)))))))))))) .n)))))) .n)))) [(14,(.y [0,1,2,3,4,5,6,7,8,9,10,11] (.l [12,13,14,15]) (.l [14,12,13,15]))),(15,(.l [0,1,2,4,3,5,6,7,8,9]))] (args:=[(dB a),xe,s]);refine H.boxed λR h1 H1=>?_;have H1:=H1.be;have H1:aa B h0 h1 (ba bc a pw (az x) offs da w ds::ac R 88 (bh xe)::As):=H1.aL 2 [1,0];refine(fS x m (hS.at [_,_] H1).1 hz H1).mono ?_;rintro _ h2 ⟨lv,rfl,R2⟩;have H2:=(H1.bN R2).aL 3 [1,0,2];obtain⟨ok,ah⟩:=aa.cP H2;obtain⟨cr,d1,cq⟩:=hS.at [_,_,_] H2;have ad:(x.2.2.1,x.2.2.2.1,x.2.2.2.2.1)=m.p:=cr.p;have dx:=(cg m.p).1 S;obtain⟨s1,s2,s3⟩:=oT S;obtain⟨c1,c2,c3⟩:=lO S b.length;have br:(bu ds m.drives).length<=m.drives.length:=qR _ _;have c9:=hz.dr;obtain⟨live,W⟩:∃live,live=bu ds m.drives:=⟨_,rfl⟩
 rw[<-W]at H2 br⊢;obtain⟨g,I⟩:∃g,g=splitB m.p b:=⟨_,rfl⟩
 have cd:g.length<=2^20:=by rw[I];unfold splitB;simp;omega
 have ar:∀r∈g,r.length=gm m.p:=by rw[I];intro r hr;unfold splitB at hr;obtain⟨i,_,rfl⟩:=qx.1 hr;exact Kz _ _ _
 refine⟨lv,i0,a,i0,(x.2.2.1,x.2.2.2.1,x.2.2.2.2.1),⟨by rw[addr_add];exact ah.cell i0,by rw[addr_add];exact ah.cell i0,by rw[addr_add];exact ah.cell i0,trivial⟩,?_⟩;rw[ad];refine(Qa m.p s b h2 S cq b6 i4).mono ?_;rintro _ h3 ⟨q,rfl,R3⟩;rw[<-I]at R3 ht⊢;obtain⟨rs,H3⟩:=Qw.aa.abU (H2.bN R3) λ_=>rfl;have H3:=(H3.rD 124 2 piv jg).be;have H3:aa B h0 h3 (ba bc a pw (az x) offs da w ds::bm 124 ⟨ez,0,0⟩ 2 piv jg (fc m e.object e.tries g live 0)::cy (nB 1 aw) 1 aX q rs g::ae 3 lv 1 ak live::ac R 88 (bh xe)::As):=H3.aL 5 [2,0,1,3,4];have dd:=(H3.eS 2 i0).1.len;have c0:=(H3.eS 2 i0).2.1;have d2:=lE ht;refine⟨q,i0,?_⟩;obtain⟨k,J⟩:∃k:Nat,k=(m.p.1+m.extra).toNat:=⟨_,rfl⟩
 have M:k<=32:=i4
 refine aq (λt:Sl×Nat=>(t.1,(t.2:Int))) (λt h'=>t.2<=g.length/\aa B h0 h' (ba bc a pw (az x) offs da w ds::bm 124 t.1 2 piv jg (fc m e.object e.tries g live t.2)::cy (nB 1 aw) 1 aX q rs g::ae 3 lv 1 ak live::ac R 88 (bh xe)::As)) (λt=>g.length-t.2) (⟨ez,0,0⟩,0) i0 ⟨i9,H3⟩ ?_;rintro⟨o,i⟩ h4 ⟨hi,H4⟩;dsimp only at*;refine ag (λe1=>?_) (λe1=>?_)
 ·have am:i<g.length:=i4
  have F4:=H4.eS 2 i0;have al:=H4.box 4 i0;obtain⟨a9,a5,c5⟩:=hS.at [_,_,_,_,_] H4;obtain⟨_,b9⟩:=aa.cP H4;obtain⟨t,a3,cn⟩:=uO ht i i4;have b5:e.tries.getD i 0=(t:Int):=by rw[qd,qc i4];exact a3
  have bq:g.getD i []=g[i]:=by rw[qd,qc am];rfl
  have P:∀{h':f8},bW h' R 88 (bh xe)->cellOf h' (R.add 1)=dB (xG xM e.object):=λ{h'} hb=>by rw[<-a5.1.2.1];exact hb.cell i0
  have cp:∀{h':f8},bW h' a 92 (bC (az x) pw offs da)->bp h' (a.add 2) 0 [xG xM m.p.1,xG xM m.p.2.1,xG xM m.p.2.2]:=λ{h'} hb=>by
   rw[<-ad];exact⟨ln,ln,ln,trivial⟩
  have a2:=Fix.row F4 am;refine F4.1.bt i i0 i4 (rs[i]'(by omega)) i0 ?_;refine⟨e.object,P al,xe.2.2.2,al.cell i0,?_⟩;refine Seq.bt (f:=ak) a5.2 i i0 i4 (t:Int) (by rw[a3];rfl) ?_;refine(sw _ _ _ h4).mono ?_;rintro _ _ ⟨rfl,rfl⟩;refine⟨_,i0,⟨al.cell i0,trivial⟩,a,i0,m.p,cp b9,?_⟩;obtain⟨seed,A⟩:∃seed,seed=iG e.object i t:=⟨_,rfl⟩
  have hg:=(DB cn).2.1;have Z:md m.p seed (gD m.p)=eH:=by rw[A];exact hg
  obtain⟨K,Hh,w',n,BK⟩:=Tn (seed:=seed) (d:=g[i]) S Z (by rw[ar _ (qf am),s3]);rw[<-A];refine(aeW BK (rs[i]'(by omega)) _ a2.1 a2.2).mono ?_;rintro _ h6 ⟨bk,mm,rfl,R6⟩;have H6:=(H4.comp R6).front;have H6:aa B h0 h6 (ba bc a pw (az x) offs da w ds::bm 124 o 2 piv jg (fc m e.object e.tries g live i)::cy (nB 1 aw) 1 aX q rs g::ae 3 lv 1 ak live::ac R 88 (bh xe)::fH 58 mm 1 aw (gP m.p seed g[i])::ac bk 225 (Aa m.p seed mm)::As):=H6.aL 7 [2,3,4,5,6,0,1];refine⟨(dB bk,0),i0,bx (λe2=>absurd i0 e2) λ_=>?_⟩;have ca:=H6.box 4 i0;refine⟨e.object,P ca,(Fo e.object i lv live h6 (H6.seq 3 i0 λ_=>rfl)).mono ?_⟩;rintro _ h7 ⟨N,rfl,R7⟩;have H7:=(H6.bN R7).aL 8 [1,2,3,4,5,6,7,0];obtain⟨c,E⟩:∃c,c=fY e.object i live:=⟨_,rfl⟩
  rw[<-E]at H7;have a8:=(aa.cP H7).2;have b4:x.2.2.1=m.p.1:=congrArg (·.1) ad;refine⟨N,i0,a,i0,x.2.2.1,a8.cell i0,a,i0,x.2.2.2.2.2.1,a8.cell i0,?_⟩;have en:qe xM (x.2.2.1+x.2.2.2.2.2.1)=(k:Int):=by rw[b4,a9.extra,ai _];omega
  try dsimp only
  rw[en];have U:mH m e.object e.tries g live i=(qz k).map λid:Nat=>HX m e.object i seed g[i] c id:=by unfold mH;rw[b5,bq,<-A,<-E,<-J]
  have cf:(mH m e.object e.tries g live i).length=k:=by rw[HY,<-J]
  obtain⟨F,L⟩:∃F,F=fc m e.object e.tries g live i:=⟨_,rfl⟩
  have dj:F.length<=2^26:=by rw[L,tW,<-J];have:=wx (show i<=2^20 by omega) M;omega
  obtain⟨Q,hQ⟩:∃Q,Q=mH m e.object e.tries g live i:=⟨_,rfl⟩
  rw[<-hQ]at U cf;rw[<-L]at H7;refine aq (λt:Sl×Nat=>(t.1,(t.2:Int))) (λt h'=>t.2<=k/\aa B h0 h' (ba bc a pw (az x) offs da w ds::bm 124 t.1 2 piv jg (F++Q.take t.2)::cy (nB 1 aw) 1 aX q rs g::ae 3 lv 1 ak live::ac R 88 (bh xe)::fH 58 mm 1 aw (gP m.p seed g[i])::ac bk 225 (Aa m.p seed mm)::ae 3 N 1 ak c::As)) (λt=>k-t.2) (o,0) i0 ⟨i9,by simpa using H7⟩ ?_;rintro⟨o2,id⟩ h8 ⟨hid,V⟩;dsimp only at*;refine ag (λe3=>?_) λe3=>?_
  ·have cs:id<k:=i4
   have ap:=V.box 4 i0;have X:=(aa.cP V).2;have G:tR h8 bk m.p seed (gP m.p seed g[i]):=⟨mm,V.box 6 i0,V.CF 5 i0⟩
   have T:DK m.p seed g[i] id=if ct id then kC w' (gP m.p seed g[i]) (eT n seed id)else[]:=by unfold DK;rw[BK.EM,show m.p.2.2.toNat=w' by have:=BK.s;omega]
   have held:∀{h':f8},aN (λb=>b<h8.size) h8 h'->bQ.ok [((a.add 2),xG xM m.p.1),((a.add 2).add 1,xG xM m.p.2.1),((a.add 2).add 2,xG xM m.p.2.2),(R.add 1,xG xM e.object)] h':=λ{h'} S=>by
    obtain⟨q1,q2,q3,_⟩:=cp (X.af S X.lt);exact⟨q1,q2,q3,P (ap.af S ap.lt),trivial⟩
   refine bG (λ(a7:eX) h'=>∃r:Sl,aa B h0 h' (ac a7 167 (bL (e.object,(i:Int),(id:Int),m.p.1,m.p.2.1,m.p.2.2,seed,r))::ae 5 r 1 aw (DK m.p seed g[i] id)::ba bc a pw (az x) offs da w ds::bm 124 o2 2 piv jg (F++Q.take id)::cy (nB 1 aw) 1 aX q rs g::ae 3 lv 1 ak live::ac R 88 (bh xe)::fH 58 mm 1 aw (gP m.p seed g[i])::ac bk 225 (Aa m.p seed mm)::ae 3 N 1 ak c::As)) ?_ ?_
   ·refine⟨e.object,P ap,a,i0,m.p,cp X,?_,?_⟩
    ·refine(BK.symbol bk id h8 G).mono ?_;rintro _ h9 ⟨r,rfl,R9⟩;rw[<-T]at R9;have H9:=V.bN R9;refine⟨r,i0,held R9.af,H9.CH aj i0 λa28 dk cc ab=>⟨held (aa.up R9 cc).af,?_⟩⟩;have ab:=ab.be;refine ab.storeAll aj 0 i0 i0 (bL (e.object,(i:Int),(id:Int),m.p.1,m.p.2.1,m.p.2.2,seed,r)) i0 i0 i0 i0 λdy b2=>⟨trivial,r,b2⟩
    ·refine V.CH aj i0 λc6 cl ao Y=>⟨held ao,?_⟩
     have Y:=Y.be;refine(BK.symbol bk id cl (G.up ao)).mono ?_;rintro _ c7 ⟨r,rfl,ay⟩;rw[<-T]at ay;have bd:=(Y.bN ay).aL 2 [1,0];refine⟨r,i0,held (aa.up (Sp.zip ao) ay.af).af,?_⟩;refine bd.storeAll aj 0 i0 i0 (bL (e.object,(i:Int),(id:Int),m.p.1,m.p.2.1,m.p.2.2,seed,r)) i0 i0 i0 i0 λc4 b0=>⟨trivial,r,b0⟩
   ·rintro a7 bb ⟨r,O⟩;have j:=O.box 0 i0;have ax:=Fp e.object i t;rw[<-A]at ax;refine⟨(e.object,(i:Int),(id:Int),m.p.1,m.p.2.1,m.p.2.2,seed,r),j.aE _ i0,(RY N c id bb (O.seq 9 i0 λ_=>rfl)).mono ?_⟩;rintro _ b3 ⟨rfl,rfl⟩;refine⟨_,i0,⟨j.cell0 i0,j.cell i0,j.cell i0,j.cell i0,j.cell i0,j.cell i0,j.cell i0,j.cell i0,trivial⟩,?_⟩;refine(pS (e.object,(i:Int),(id:Int),m.p.1,m.p.2.1,m.p.2.2,seed,r) (JC m e.object i seed g[i] id) b3 ⟨⟨i0,i0,i0,i0,i0,ax.1,ax.2⟩,O.seq 1 i0 λ_=>rfl⟩).mono ?_;rintro _ c8 ⟨u,rfl,b7⟩;have a6:=(O.bN b7).dX 0 i0 (D:=EA jg (jI c id,u) (HX m e.object i seed g[i] c id)) λz hz=>⟨i0,hz.1.seq (λ_=>rfl) hz.2⟩
    have a4:Q[id]'(by omega)=HX m e.object i seed g[i] c id:=by simp[U]
    refine⟨u,i0,trivial,?_⟩;refine a6.nS aj piv ND i0 [(jI c id,u)] i0 (show 1*2<=2^20 by decide) i0 trivial ?_;refine aa.mO aj a6 4 0 i5 (a:=(jI c id,u)) i0 i0 ND i0 i5 (λ_=>rfl) Jv (parts:=#[(0,xL #[xG xM (jI c id),u])]) j3 i5 i7 λo3 du b1=>⟨trivial,?_⟩
    refine⟨(o3,id+1),jj,⟨i6,?_⟩,i6⟩
    try dsimp only
    rw[aD Q id,a4,<-qn];exact b1.rest.rest.rest
  ·have a0:id=k:=i4
   subst a0;rw[qg i4]at V;refine⟨(o2,i+1),jj,⟨i6,?_⟩,i6⟩
   try dsimp only
   rw[rN,<-L,<-hQ];exact V.aL 8 [0,1,2,3,4]
 ·have a0:i=g.length:=i4
  subst a0;obtain⟨ys,H5⟩:=H4.FM 1 rfl λ_=>rfl;exact⟨o,ys,i0,H5.aL 5 [0,1]⟩
end
def mh(a:Nat)(l:List (Int×aP))(k:Int):Int:=(a:Int)+ii (l.filter λy=>decide (y.1=k))
theorem WV(k:Int)(d c:eX)(a:Nat)(r:Sl)(p:List (Int×Sl))(l:List (Int×aP))(h:f8)(z:a<=2^30)(G:ii l<=2^30)(t:bW h d 3 [xG xM a])(s:bW h c 114 [r])(u:nl jg 2 piv h r p l):
  an xQ 70 #[xG xM k,xI (dB d),xI (dB c)] h λv h'=>v=xG xM (mh a l k)/\Sp h h' []:=by
 refine ts Tryz.func70 ?_ (.two .n (.two .n (.two (.two .n (.inn (.loop [(5,aS),(11,aS)] [(5,6),(7,8),(11,22)] .n))) .n))) (args:=[(k:Int),d,c]);have D:=u.1.len;have B:=u.2.1;refine⟨(a:Int),t.cell0 i0,r,s.cell0 i0,?_⟩;refine aq (λi:Nat=>(mh a (l.take i) k,(i:Int))) (λi h'=>i<=ii l/\Sp h h' []) (λi=>ii l-i) 0 (by simp[mh]) ⟨i4,Sp.refl h⟩ ?_;rintro i H ⟨I,q⟩
 try dsimp only
 have x:(ii ((l.take i).filter λy=>decide (y.1=k)):Int)<=i:=by have:=qR (λy:Int×aP=>decide (y.1=k)) (l.take i);simp at this;omega
 refine ag (λe=>?_) λe=>?_
 ·have f:i<ii l:=i4
  have j:=nl.up u q.af;refine j.1.cX (g:=piv) i i0 i4 (p[i]'(by omega)) i0 ?_;refine q.alloc aj i0 λE F A=>?_;refine A.storeAll aj 0 i0 i0 (piv (p[i]'(by omega))) i0 i0 i0 i0 λh3 o=>?_;have o:Sp h h3 [ac E 124 (piv (p[i]'(by omega)))]:=o;have m:=Fix.row j f;have b:mh a (l.take (i+1)) k=mh a (l.take i) k+(if l[i].1=k then 1 else 0):=by
   unfold mh;rw[aD _ _ f,zl,qt,zq,vo];split
   ·rename_i w;rw[f9 (hZ w)];simp;omega
   ·rename_i w;rw[g0 sb];simp
  refine⟨l[i].1,by rw[<-m.1];exact(o.box 0 i0).cell0 i0,cv (λg=>?_) λg=>?_⟩
  ·refine⟨i+1,?_,⟨i4,.zip o.af⟩,i4⟩;rw[b,f9 g,ai (mh a (l.take i) k+1) (by unfold mh;omega) (by unfold mh;omega),ai _];rfl
  ·refine⟨i+1,?_,⟨i4,.zip o.af⟩,i4⟩;rw[b,g0 g,Int.add_zero,ai _];rfl
 ·rw[qg i4];exact⟨i0,q⟩
def iZ(m:aA)(offs:Int)(w:Pow)(ds:aF)(name:ByteArray)(b:aP):Int×aA×Pow×aF:=
 if fL m (fT w offs) ds name b.length≠0 then(fL m (fT w offs) ds name b.length,m,w,ds)else
 match dv m.p m.next (splitB m.p b).length with
 |none=>(8,m,w,ds)
 |some t=>
  let live:=bu ds m.drives;let l:=fc m m.next t (splitB m.p b) live (splitB m.p b).length;let n:=oG m ⟨name,m.next,ii b,t⟩;let N:=mh (aO n).length l
  if fV m ds live N=eL then(7,m,w,ds)else
  if(makes m N live w ds).1≠0 then((makes m N live w ds).1,m,(makes m N live w ds).2)else
  let a:=layAll l (makes m N live w ds).2.1 (makes m N live w ds).2.2
  if a.1≠0 then(a.1,m,a.2)else
  ((layAll (bF n live) a.2.1 a.2.2).1,if(layAll (bF n live) a.2.1 a.2.2).1=0 then n else m,(layAll (bF n live) a.2.1 a.2.2).2)
theorem tZ{m:aA}{d:Bool}{ds:aF}{name:ByteArray}{n:Nat}(h:fL m d ds name n=0):
  d=eL/\ly name=eH/\m.objs.any (lP name)=eL/\¬(m.p.1*m.p.2.2*8<(n:Int)∨12<=ii m.objs)/\¬(bu ds m.drives=[]∨16777215<m.next∨2147483647<=m.seq):=by
 unfold fL at h;split at h
 ·cases h
 ·rename_i c;split at h
  ·cases h
  ·rename_i a;split at h
   ·cases h
   ·rename_i h3;split at h
    ·cases h
    ·rename_i b;split at h
     ·cases h
     ·rename_i e;exact⟨l7,kt,by simpa using h3,b,e⟩
theorem RZ{m:aA}{b:aP}(a:bS m.p=eH)(h:¬m.p.1*m.p.2.2*8<(ii b:Int)):ii (splitB m.p b)<=8:=by obtain⟨d,g,c⟩:=oT a;obtain⟨e,f,c3⟩:=lO a b.length;unfold splitB;rw[qu,zC];refine Nat.le_of_not_lt λh8=>?_;have:=c3 8 i4;rw[<-c]at h;omega
theorem afb{o:aB}(b:o≠[])(id:Nat):jI o id∈o:=by
 unfold jI LR;rw[g0 (by rintro(h|h);exact b h;omega)];have c:0<ii o:=by cases o with|nil=>exact absurd rfl b|cons=>simp
 have a:((id:Int)%(ii o:Int)).toNat<ii o:=by have:=wN (id:Int) (show(0:Int)<ii o by omega);have:=yj (id:Int) (show(ii o:Int)≠0 by omega);omega
 rw[qd,qc a];exact qf a
theorem Ob{m:aA}{o:Int}{tries:aB}{p:bO}{live:aB}(r:0<=o/\o<=16777215)(j:live≠[])(e:∀k∈live,0<=k/\k<64){n:Nat}(s:n<=8){y:Int×aP}(d:y∈fc m o tries p live n):y.1∈live/\y.2.length<=64:=by
 unfold fc at d;obtain⟨i,g,d⟩:=zM.1 d;have g:=qC.1 g;unfold mH at d;obtain⟨id,_,rfl⟩:=qx.1 d;refine⟨?_,?_⟩
 ·show jI _ _∈live;have c:fY o i live=AD ((8*o+i)%64).toNat live:=by unfold fY;rw[f9 i4]
  have b:∀a,a∈fY o i live↔a∈live/\0<=a/\a<64:=λa=>by rw[c];exact KH _ _ _
  have f:fY o i live≠[]:=λh=>by
   cases live with
   |nil=>exact j i0
   |cons a l=>
    have:=(b a).2 ⟨qP,e a qP⟩;rw[h]at this;cases this
  exact((b _).1 (afb f id)).1
 ·show(dl _).length<=64;unfold dl;split
  ·rename_i q;refine xt (lU i5 i5 ?_);have:=rh q;omega
  ·simp
theorem acU{m:aA}{e:Qw.dm}(b:cw m)(g:m.objs.length<=11)(c:e.name.size<=2^30)(d:e.tries.length<=2^30):cw (oG m e):=by
 refine⟨b.dr,?_,λf a=>?_⟩
 ·show((m.objs++[e]).mergeSort sf).length<=2^30;rw[wh];simp;omega
 ·have a:f∈(m.objs++[e]).mergeSort sf:=a;rcases qy.1 ((wX _ _).mem_iff.1 a)with h|h
  ·exact b.nm f h
  ·rw[qp.1 h];exact⟨c,d⟩
section
variable {pw:eX}
theorem ZT(x:bo)(m:aA)(name:ByteArray)(s:Sl)(b:aP)(hS:St B h0 As λh=>Rd h s 1 aw b)(c0:s.len<=s.cap)(hn:name.size<=2^40)(W:cw m)(hp:bS m.p=eH)(dk:0<=m.extra/\m.extra<=16)(dd:∀k∈m.drives,0<=k/\k<64)(b4:m.drives.length<=64)(dj:0<=m.seq)(bd:0<=m.next)(cn:b.length<=2^20)
  (H:aa B h0 h (ba bc a pw (az x) offs da w ds::aZ x m::As)):
  an xQ 25 #[xI (dB a),xJ name,s] h λv h'=>v=xG xM (iZ m offs w ds name b).1/\
   ∃y,aa B h0 h' (ba bc a pw (az y) offs da (iZ m offs w ds name b).2.2.1 (iZ m offs w ds name b).2.2.2::aZ y (iZ m offs w ds name b).2.1::As):=by
 refine ts Tryz.func25 ?_ (.two .n (.two .n (.two .n (.two (.join [(9,cK),(10,rS)] [(9,11),(34,53)] .n) (.two .n (.two .n (.two .n (.two .n (.two (.join [(12,(.sc .adr)),(13,cK)] [(12,14),(66,74)] .n) .n))))))))) [(12,(.y [0,1,2,3,4,6] (.y [5] (.l [7,8,9,10]) (.l [8,7,9,10])) (.l [8,5,7,9,10])))];have ap:=(hS.at [_,_] H).len;refine(NS x m name s b.length ap hn (H.at 1 i0) W hp H).mono ?_;rintro _ h1 ⟨rfl,R1⟩;have H1:=H.up R1.af;refine⟨_,i0,bx (λe=>?_) λe1=>?_⟩
 ·have ep:iZ m offs w ds name b=(fL m (fT w offs) ds name b.length,m,w,ds):=by unfold iZ;rw[f9 e]
  rw[ep];exact⟨i0,x,H1⟩
 obtain⟨z1,z2,z3,z4,z5⟩:=tZ e1;have cf:¬m.p.1*m.p.2.2*8<(b.length:Int):=λh=>z4 (.inl h);have ay:m.objs.length<=11:=by have:¬12<=m.objs.length:=λh=>z4 (.inr h);omega
 have c4:bu ds m.drives≠[]:=λh=>z5 (.inl h);have cs:m.next<=16777215:=by have:¬16777215<m.next:=λh=>z5 (.inr (.inl h));omega
 have ej:m.seq<=2147483646:=by have:¬2147483647<=m.seq:=λh=>z5 (.inr (.inr h));omega
 have h8:=RZ hp cf;have ee:name.size<=12:=by unfold ly at z2;simp at z2;omega
 have b2:=(aa.cP H1).2;have a5:dh h1 x m:=H1.at 1 i0;refine⟨a,i0,x.2.1,b2.cell i0,H1.alloc aj i0 λa4 h2 H2=>?_⟩;have H2:=H2.be;refine H2.storeAll aj 0 i0 i0 (bh (name,x.2.1,(s.len:Int),⟨ez,0,0⟩)) i0 i0 i0 i0 λh3 H3=>?_;have H3:aa B h0 h3 (ac a4 88 (bh (name,m.next,(b.length:Int),⟨ez,0,0⟩))::ba bc a pw (az x) offs da w ds::aZ x m::As):=by rw[<-a5.next,<-ap];exact H3
 have cp:∀{h':f8},bW h' a 92 (bC (az x) pw offs da)->bp h' (a.add 2) 0 [xG xM m.p.1,xG xM m.p.2.1,xG xM m.p.2.2]:=λ{h'} hb=>by
  rw[<-a5.p];exact⟨ln,ln,ln,trivial⟩
 obtain⟨L,M⟩:∃L,L=(splitB m.p b).length:=⟨_,rfl⟩
 have br:countP m.p (s.len:Nat)=(L:Int):=by have:=(lO hp b.length).1;rw[M,ap];unfold splitB;rw[qu,zC];omega
 refine bG (λ(t:Sl×Bool) h'=>(dv m.p m.next L=ez->t.2=eL/\aa B h0 h' (ba bc a pw (az x) offs da w ds::aZ x m::As))/\(∀l,dv m.p m.next L=dB l->t.2=eH/\aa B h0 h' (ae 3 t.1 1 ak l::ac a4 88 (bh (name,m.next,(b.length:Int),⟨ez,0,0⟩))::ba bc a pw (az x) offs da w ds::aZ x m::As))) ?_ ?_
 ·have b1:=H3.box 0 i0;have S:=(aa.cP (H3.aL 3 [1,0,2])).2;refine⟨a,i0,m.p,cp S,m.next,b1.cell i0,a,i0,m.p,cp S,(su m.p s.len h3).mono ?_⟩;rintro _ h4 ⟨rfl,R4⟩;have H4:=H3.up R4.af;have c2:=S.af R4.af S.lt;obtain⟨q1,q2,q3,_⟩:=cp c2;refine⟨_,i0,⟨(H4.box 0 i0).cell i0,q1,q2,q3,trivial⟩,?_⟩;rw[br];refine(TJ m.p m.next L h4 i4).mono ?_;rintro _ h5 ⟨T0,T1⟩;cases ht:dv m.p m.next L with
  |none=>
   obtain⟨rfl,R5⟩:=T0 ht;exact⟨(⟨ez,0,0⟩,eL),i0,trivial,λ_=>⟨i0,(H4.up R5.af).aL 3 [1,2]⟩,λl h=>j8⟩
  |some l=>
   obtain⟨r,rfl,R5⟩:=T1 l ht;exact⟨(r,eH),i0,trivial,λh=>j8,λl' h=>(by injection h with h;subst h;exact⟨i0,H4.bN R5⟩)⟩
 rintro⟨tr,tb⟩ h6 ⟨T0,T1⟩;dsimp only at T0 T1⊢;cases ht:dv m.p m.next L with
 |none=>
  obtain⟨rfl,H6⟩:=T0 ht;have ep:iZ m offs w ds name b=(8,m,w,ds):=by unfold iZ;rw[g0 n5,<-M,ht]
  rw[ep];exact aQ (λ_=>⟨i0,x,H6⟩) λe=>j1
 |some t=>
  obtain⟨rfl,H6⟩:=T1 t ht;refine aQ (λe=>j1) λ_=>?_;have ek:=lE ht;refine H6.store aj 1 i0 i0 3 [tr] i0 i0 i0 i9 λh7 H7=>?_;obtain⟨e,he⟩:∃e:Qw.dm,e=⟨name,m.next,b.length,t⟩:=⟨_,rfl⟩
  have H7:aa B h0 h7 (ae 3 tr 1 ak e.tries::ac a4 88 (bh (name,m.next,(b.length:Int),tr))::ba bc a pw (az x) offs da w ds::aZ x m::As):=by rw[he];exact H7
  have H7:=H7.aL 4 [2,3,0,1];have c1:St B h0 (aZ x m::ae 3 tr 1 ak e.tries::ac a4 88 (bh (name,m.next,(b.length:Int),tr))::As) λh=>dh h x m/\dM ff h (name,m.next,(b.length:Int),tr) e/\Rd h s 1 aw b:=λBs h' i=>
   ⟨(St.dN 0 i0 λ_ j=>j) Bs h' i,(St.dN (A:=ae 3 tr 1 ak e.tries) (Q:=λh=>dM ff h (name,m.next,(b.length:Int),tr) e) 1 i0 λh' j=>⟨by rw[he];exact⟨i0,i0,i0⟩,j.1.seq (λ_=>rfl) j.2⟩) Bs h' i,(hS.cons.cons.cons) Bs h' i⟩
  refine⟨(name,m.next,(b.length:Int),tr),(H7.box 3 i0).aE _ i0,?_⟩;refine(Ls x m (name,m.next,(b.length:Int),tr) e s b c1 c0 W hp dk cn (by rw[he,<-M];exact ht) H7).mono ?_;rintro _ dy ⟨r,ys,rfl,H8⟩;obtain⟨live,c⟩:∃live,live=bu ds m.drives:=⟨_,rfl⟩
  obtain⟨l,hl⟩:∃l,l=fc m m.next t (splitB m.p b) live L:=⟨_,rfl⟩
  have b0:fc m e.object e.tries (splitB m.p b) (bu ds m.drives) (splitB m.p b).length=l:=by rw[hl,he,<-c,<-M]
  rw[b0]at H8;refine⟨(r,eH),i0,H8.alloc aj i0 λf h9 H9=>?_⟩;have H9:=H9.be;refine H9.storeAll aj 0 i0 i0 [r] i0 i0 i0 i0 λao o=>?_;refine aQ (λe=>j1) λ_=>?_;obtain⟨n,V⟩:∃n,n=oG m e:=⟨_,rfl⟩
  have o:aa B h0 ao (ac f 114 [r]::ba bc a pw (az x) offs da w ds::cy jg 2 piv r ys l::aZ x m::ae 3 tr 1 ak e.tries::ac a4 88 (bh (name,m.next,(b.length:Int),tr))::As):=o;have o:aa B h0 ao (kP tr 1 ak e.tries::ba bc a pw (az x) offs da w ds::aZ x m::cy jg 2 piv r ys l::ac f 114 [r]::ac a4 88 (bh (name,m.next,(b.length:Int),tr))::As):=(o.freeze 4 i0 λ_=>rfl).aL 6 [4,1,3,2,0,5];have c6:((name,m.next,(b.length:Int),tr):dD).1=e.name/\((name,m.next,(b.length:Int),tr):dD).2.1=e.object/\((name,m.next,(b.length:Int),tr):dD).2.2.1=e.length:=by rw[he];exact⟨i0,i0,i0⟩
  have K:∀{h':f8} {Cs:List HP},aa B h0 h' (kP tr 1 ak e.tries::Cs)->dh h' x m->an xQ 69 #[dq x,NQ (name,m.next,(b.length:Int),tr)] h' λv cq=>∃y:bo,v=dq y/\aa B h0 cq (aZ y n::Cs):=λ{h' Cs} i hx'=>by
   rw[V];exact WL x m _ e hx' W ⟨dj,i4⟩ ⟨bd,i4⟩ ay c6 i
  have I:=(aa.cP (o.aL 2 [1,0])).2;have J:=o.box 5 i0;have a0:dh ao x m:=o.at 2 i0;refine bG (λ(t:eX×Sl) h'=>∃y,aa B h0 h' (ba bc a pw (az x) offs da w ds::aZ x m::cy jg 2 piv r ys l::ac f 114 [r]::ac t.1 39 (az y)::aZ y n::ae 3 t.2 1 ak live::As)) ?_ ?_
  ·refine⟨a,i0,x,I.aE _ i0,(name,m.next,(b.length:Int),tr),J.aE _ i0,?_,?_⟩
   ·refine(K o a0).mono ?_;rintro _ ef ⟨y,rfl,G⟩;have G:=G.aL 6 [1,2,3,4,0];refine⟨y,i0,trivial,?_,?_⟩
    ·refine(fS x m (G.at 1 i0) W G).mono ?_;rintro _ ei ⟨F,rfl,a7⟩;rw[<-c]at a7;have b5:=G.bN a7;refine⟨F,i0,trivial,b5.alloc aj i0 λeg d3 ah=>⟨trivial,?_⟩⟩;have ah:=ah.be;refine ah.storeAll aj 0 i0 i0 (az y) i0 i0 i0 i0 λd1 b6=>⟨trivial,y,?_⟩
     exact b6.aL 7 [2,3,4,5,0,6,1]
    ·refine G.alloc aj i0 λa22 du R=>⟨trivial,?_⟩
     have R:=R.be;have ad:=R.aL 6 [1,2,3,4,5,0];refine(fS x m (ad.at 1 i0) W ad).mono ?_;rintro _ d7 ⟨F,rfl,bk⟩;rw[<-c]at bk;have c9:=(R.bN bk).aL 2 [1,0];refine⟨F,i0,trivial,c9.storeAll aj 0 i0 i0 (az y) i0 i0 i0 i0 λd6 cl=>⟨trivial,y,?_⟩⟩;exact cl.aL 7 [2,3,4,5,0,6,1]
   ·refine o.CH aj i0 λd5 eh a6 U=>?_;have d:=I.af a6 I.lt;have E:=J.af a6 J.lt;refine⟨⟨E.cell0 i0,E.cell i0,E.cell i0,E.cell i0,d.cell0 i0,d.cell i0,d.cell i0,d.cell i0,d.cell i0,d.cell i0,d.cell i0,d.cell i0,trivial⟩,?_⟩;have U:=(U.be).aL 7 [1,0,2,3,4,5];refine(K U (U.at 3 i0)).mono ?_;rintro _ ea ⟨y,rfl,ca⟩;have O:=ca.aL 6 [2,3,4,5,0,1];refine⟨y,i0,trivial,(fS x m (O.at 1 i0) W O).mono ?_⟩;rintro _ dr ⟨F,rfl,a8⟩;rw[<-c]at a8;have c5:=(O.bN a8).aL 7 [6,0,1,2,3,4,5];refine⟨F,i0,trivial,c5.storeAll aj 0 i0 i0 (az y) i0 i0 i0 i0 λed cr=>⟨trivial,y,?_⟩⟩;exact cr.aL 7 [2,3,4,5,0,6,1]
  rintro⟨am,F⟩ cd ⟨y,Z⟩;dsimp only at Z⊢;have al:cw n:=by rw[V];exact acU W ay (by rw[he];show name.size<=2^30;omega) (by rw[he];show t.length<=2^30;omega)
  have dp:n.drives=m.drives:=by rw[V];rfl
  have dx:live.length<=64:=by rw[c];exact q9 (qR _ _) b4
  have q:∀k∈live,0<=k/\k<64:=λk hk=>by rw[c]at hk;exact dd k (qI.1 hk).1
  have a9:(m.p.1+m.extra).toNat<=32:=by have:=(cg m.p).1 hp;omega
  have eb:l.length<=256:=by rw[hl,tW];exact wx (show L<=8 by omega) a9
  have b7:∀z∈l,(0<=z.1/\z.1<64)/\z.2.length<=2^20:=λz a1=>by
   rw[hl]at a1;obtain⟨p1,p2⟩:=Ob (m:=m) ⟨bd,cs⟩ (by rw[c];exact c4) q (show L<=8 by omega) a1;exact⟨q _ p1,q9 p2 i5⟩
  refine⟨y,(Z.box 4 i0).aE _ i0,(mT y n cd (Z.at 5 i0) al).mono ?_⟩;rintro _ d0 ⟨pg,rfl,a3⟩;have ab:=(aa.rE a3).1;have a2:=ki n al;obtain⟨pn,bl⟩:∃pn,pn=(aO n).length:=⟨_,rfl⟩
  rw[<-bl]at ab a2;have c7:=Z.up a3.af;refine⟨pg,i0,c7.alloc aj i0 λu d2 ax=>?_⟩;have ax:=ax.be;refine ax.storeAll aj 0 i0 i0 [xG xM (pg.len:Int)] i0 i0 i0 i0 λb3 D=>?_;rw[ab]at D;have D:aa B h0 b3 (ba bc a pw (az x) offs da w ds::aZ x m::cy jg 2 piv r ys l::ac f 114 [r]::ac am 39 (az y)::aZ y n::ae 3 F 1 ak live::ac u 3 [xG xM (pn:Int)]::As):=D.aL 8 [1,2,3,4,5,6,7,0];obtain⟨N,hN⟩:∃N,N=mh pn l:=⟨_,rfl⟩
  obtain⟨T,P⟩:∃T,T=aZ x m::cy jg 2 piv r ys l::ac f 114 [r]::ac am 39 (az y)::aZ y n::ae 3 F 1 ak live::ac u 3 [xG xM (pn:Int)]::As:=⟨_,rfl⟩
  have tX:St B h0 T λh=>dh h x m:=by rw[P];exact St.dN 0 i0 λ_ j=>j
  have tF:St B h0 T λh=>nl jg 2 piv h r ys l:=by rw[P];exact St.dN 1 i0 λ_ j=>j
  have tB:St B h0 T λh=>bW h f 114 [r]:=by rw[P];exact St.dN (A:=ac f 114 [r]) 2 i0 λ_ j=>j.1
  have tM:St B h0 T λh=>bW h am 39 (az y):=by rw[P];exact St.dN (A:=ac am 39 (az y)) 3 i0 λ_ j=>j.1
  have tY:St B h0 T λh=>dh h y n:=by rw[P];exact St.dN 4 i0 λ_ j=>j
  have tL:St B h0 T λh=>Rd h F 1 ak live:=by rw[P];exact St.dN (A:=ae 3 F 1 ak live) 5 i0 λ_ j=>j.1.seq (λ_=>rfl) j.2
  have tN:St B h0 T λh=>bW h u 3 [xG xM (pn:Int)]:=by rw[P];exact St.dN (A:=ac u 3 [xG xM (pn:Int)]) 6 i0 λ_ j=>j.1
  have tT:St B h0 T λh=>LQ 70 #[] #[xI (dB u),xI (dB f)] N live h:=λBs h' i k hk=>by
   rw[hN];exact WV k u f pn r ys l h' i4 i4 (tN Bs h' i) (tB Bs h' i) (tF Bs h' i)
  have fin:∀{h':f8} {z:bo} {w':Pow} {ar:aF},aa B h0 h' (ba bc a pw (az x) offs da w' ar::T)->aa B h0 h' (ba bc a pw (az x) offs da w' ar::aZ x m::As):=λ{h' z w' ar} i=>by
   rw[P]at i;exact i.aL 8 [0,1]
  rw[<-P]at D;have ep:iZ m offs w ds name b=(if fV m ds live N=eL then(7,m,w,ds)else if(makes m N live w ds).1≠0 then((makes m N live w ds).1,m,(makes m N live w ds).2)else
    if(layAll l (makes m N live w ds).2.1 (makes m N live w ds).2.2).1≠0 then((layAll l (makes m N live w ds).2.1 (makes m N live w ds).2.2).1,m,(layAll l (makes m N live w ds).2.1 (makes m N live w ds).2.2).2)else
    ((layAll (bF n live) (layAll l (makes m N live w ds).2.1 (makes m N live w ds).2.2).2.1 (layAll l (makes m N live w ds).2.1 (makes m N live w ds).2.2).2.2).1,if(layAll (bF n live) (layAll l (makes m N live w ds).2.1 (makes m N live w ds).2.2).2.1 (layAll l (makes m N live w ds).2.1 (makes m N live w ds).2.2).2.2).1=0 then n else m,(layAll (bF n live) (layAll l (makes m N live w ds).2.1 (makes m N live w ds).2.2).2.1 (layAll l (makes m N live w ds).2.1 (makes m N live w ds).2.2).2.2).2)):=by
   rw[hN,bl,hl,V,he,c];unfold iZ;rw[g0 n5,<-M,ht]
  rw[ep];refine(HS 70 #[] #[xI (dB u),xI (dB f)] N x m F live lx (λBs h' i=>⟨tX Bs h' i,tT Bs h' i⟩) W (tL.at [_] D) i4 q D).mono ?_;rintro _ ec ⟨rfl,b9⟩;have bb:=D.up b9.af;refine⟨_,i0,aQ (λg=>?_) λg=>?_⟩
  ·rw[f9 g];exact⟨i0,x,fin (z:=x) bb⟩
  rw[g0 (by rw[g];decide)];refine(HT 70 #[] #[xI (dB u),xI (dB f)] N x m F live lx (λBs h' i=>⟨tX Bs h' i,tT Bs h' i,tL Bs h' i⟩) W i4 q bb).mono ?_;rintro _ d9 ⟨rfl,Y⟩;obtain⟨m1,cc⟩:∃m1,m1=makes m N live w ds:=⟨_,rfl⟩
  rw[<-cc]at Y⊢;refine⟨_,i0,bx (λg2=>?_) λg2=>?_⟩
  ·rw[f9 g2];exact⟨i0,x,fin (z:=x) Y⟩
  rw[g0 (by simpa using g2)];refine⟨r,(tB.at [_] Y).cell0 i0,(Dz r ys l tF i4 b7 Y).mono ?_⟩;rintro _ d4 ⟨rfl,X⟩;obtain⟨r2,c8⟩:∃r2,r2=layAll l m1.2.1 m1.2.2:=⟨_,rfl⟩
  rw[<-c8]at X⊢;refine⟨_,i0,bx (λg3=>?_) λg3=>?_⟩
  ·rw[f9 g3];exact⟨i0,x,fin (z:=x) X⟩
  rw[g0 (by simpa using g3)];refine⟨y,(tM.at [_] X).aE _ i0,(HV x y n F live (λBs h' i=>⟨tY Bs h' i,tL Bs h' i⟩) al i4 q X).mono ?_⟩;rintro _ d8 ⟨rfl,Q1,Q0⟩;refine⟨_,i0,i0,?_⟩;by_cases g4:(layAll (bF n live) r2.2.1 r2.2.2).1=0
  ·obtain⟨y2,bq⟩:=Q0 g4;rw[f9 g4];rw[P]at bq;exact⟨y2,bq.aL 9 [0,1]⟩
  ·rw[g0 g4];exact⟨x,fin (z:=x) (Q1 g4)⟩
end
theorem TR(n:Nat)(x:Int)(h:f8)(k:n<=2^30):an xQ 109 #[xG xM n,xG xM x] h λv h'=>∃(r:Sl) (l:aP),v=r/\l.length=n/\Sp h h' [ae 5 r 1 aw l]:=by
 refine ts Tryz.func109 ?_ (.two .n (.two .n (.two (.two .n (.inn (.loop [(5,cK),(6,aS)] [(5,25)] .n))) .n)));refine aq (λt:Sl×Nat×aP=>(t.1,(t.2.1:Int))) (λt h'=>t.2.1<=n/\t.2.2.length=t.2.1/\Sp h h' [ae 5 t.1 1 aw t.2.2]) (λt=>n-t.2.1) (⟨ez,0,0⟩,0,[]) i0 ⟨i9,i0,(Sp.refl h).nil 5 1 aw⟩ ?_;rintro⟨o,i,l⟩ m ⟨p,d,a⟩;dsimp only at*;refine ag (λe=>?_) λe=>?_
 ·have g:i<n:=i4
  refine⟨i5,Int.tmod_nonneg _ i4,?_⟩;rw[dU];generalize b8 (qe xM _)=c;refine a.push aj 0 i0 gF i0 i5 (λ_=>rfl) gW c i0 i5 i4 λf j b=>?_;refine⟨(f,i+1,l++[c]),jj,⟨i6,?_,b⟩,i6⟩;simp[d]
 ·exact⟨o,l,i0,i4,a⟩
variable {α:Type} {k:Nat} {f:α->aR} {L M:List (Sl×List α)}
theorem aa.ZU(H:aa B h0 h (ci k f L::ci k f M::As)):aa B h0 h (ci k f (L++M)::As):=by
 have g:aa B h0 h ((ci k f M).sep (ci k f L)::As):=H.iQ;refine g.dX 0 i0 λq ⟨i,j,_,b,c,d,e⟩ y a=>?_;rcases qy.1 a with a|a
 ·exact(e y a).mono c
 ·exact(d y a).mono b
def BF(o b:Int)(a:List dG):List (Int×aP):=(a.filter λr=>decide (r.object=o)&&decide (r.block=b)).map λr=>(r.id,r.data)
def AE(m:aA)(o b:Int)(l:bO):List (Int×aP):=((fO m l).filter λr=>decide (r.object=o)&&decide (r.block=b)).map λr=>(r.id,r.data)
def nr(m:aA)(ds:aF)(o b:Int)(k:Int):List (Int×aP):=match aU ds k with|some d=>AE m o b d.l|none=>[]
def iU(m:aA)(ds:aF)(cj:aB)(o b:Int):List (Int×aP):=cj.flatMap (nr m ds o b)
abbrev agr:bI C.toAi 138 145 2 [xG xM 0,xH ez 0 0] 32:=⟨_,_,i0,i0,i0,i0,i0,i0⟩
def TS(pool:List (Sl×aP))(p:(Int×Sl)×(Int×aP)):Prop:=p.1.1=p.2.1/\(p.1.2,p.2.2)∈pool
variable {mc:aR}
section
variable {pw:eX}
theorem DL(x:bo)(m:aA)(s:Sl)(cj:aB)(o b:Int)(hx:dh h x m)(hz:cw m)(hs:Rd h s 1 ak cj)(hl:cj.length<=2^10)(hd:∀k∈cj,∃d,aU ds k=dB d)(H:aa B h0 h (ba bc a pw mc offs da w ds::As)):
  an xQ 85 #[.func (.func 13) #[xI (dB a)] #[],s,dq x,xG xM o,xG xM b] h λv h'=>∃(r:Sl) (ys:List (Int×Sl)),v=r/\Sp h h' [cy jg 2 piv r ys (iU m ds cj o b)]:=by
 refine ts Tryz.func85 ?_ (.two .n (.two .n (.two (.two .n (.inn (.loop [(11,cK),(18,aS)] [(11,12),(13,14),(15,16),(18,52)] (.two .n (.two .n (.two (.inn (.two .n (.two (.join [(26,cK),(27,aS),(28,aS)] [(22,29)] .n) (.inn (.loop [(11,cK),(28,aS)] [(11,12),(15,16),(28,51)] .n))))) .n)))))) .n))) [(5,(.l [0,1,3,6,2,4,5]))] (args:=[(.func (.func 13) #[xI (dB a)] #[]),s,x,(o:Int),(b:Int)]);have a9:=hs.len;refine(Sp.refl h).boxed λa1 O H1=>?_;have H1:Sp h O [ac a1 39 (az x)]:=H1;have H1:Sp h O [ae 145 ⟨ez,0,0⟩ 2 piv (([]:List ((Int×Sl)×(Int×aP))).map qq),ci 1 aw [],ac a1 39 (az x)]:=((H1.Js 1 aw).nil 145 2 piv).bB [2,0,1];refine aq (λt:Sl×Nat×List ((Int×Sl)×(Int×aP))×List (Sl×aP)=>(t.1,(t.2.1:Int))) (λt h'=>t.2.1<=cj.length/\t.2.2.1.length<=t.2.1*512/\t.2.2.1.map zi=iU m ds (cj.take t.2.1) o b/\(∀p∈t.2.2.1,TS t.2.2.2 p)/\Sp h h' [ae 145 t.1 2 piv (t.2.2.1.map qq),ci 1 aw t.2.2.2,ac a1 39 (az x)]) (λt=>cj.length-t.2.1) (⟨ez,0,0⟩,0,[],[]) i0 ⟨i9,i9,by simp[iU],i9,H1⟩ ?_;rintro⟨u,i,L,P⟩ h2 ⟨hi,bl,J,U,Z⟩;dsimp only at*;refine ag (λe=>?_) λe=>?_
 ·have V:i<cj.length:=i4
  refine(Seq.up hs Z.af).bt i i0 V cj[i] i0 (aT ?_);obtain⟨d,E⟩:=hd cj[i] (qf V);have Hc:=H.up Z.af;obtain⟨ok,hb⟩:=aa.cP Hc;have f:=Z.box 2 i0;refine⟨x,f.aE _ i0,dL lx ?_⟩;refine(kE cj[i] ok hb).mono ?_;rintro _ h3 ⟨rfl,rfl⟩;refine⟨_,i0,⟨f.cell0 i0,f.cell i0,f.cell i0,f.cell i0,f.cell i0,f.cell i0,f.cell i0,f.cell i0,trivial⟩,?_⟩;rcases mD ok cj[i]with⟨c1,c2⟩|⟨n,d',bb,c0,c1,c2,c3,c4,c5⟩
  ·rw[E]at c1;cases c1
  have ah:d=d':=by rw[c3]at E;injection E with E;exact E.symm
  subst ah;rw[c5];obtain⟨bk,A,H3⟩:=Qw.aa.ju Hc c2;rw[c4]at A;injection A with A
  injection A with A
  subst A;obtain⟨W,sd,bd,ad⟩:=aa.nz H3;have a4:=W.len;have ap:=W.room;refine(DA bb pw d sd bd x m h3 (ad.box 0 i0) ((ad.aL 2 [1]).sY λ_=>rfl) W (hx.up Z.af) hz).mono ?_;rintro _ h4 ⟨r7,F,rfl,R4⟩;have ao:=uQ m d.l;obtain⟨c,I⟩:∃c,c=fO m d.l:=⟨_,rfl⟩
  rw[<-I]at R4 ao;have H4:=(Z.bN R4).aL 4 [1,2,0,3];have F4:=H4.eS 2 i0;have a8:=F4.2.1;have a7:=F4.1.len;refine⟨r7,i0,trivial,?_⟩;have ab:nr m ds o b cj[i]=BF o b c:=by unfold nr;rw[E];show AE m o b d.l=_;unfold AE BF;rw[I]
  have T:iU m ds (cj.take (i+1)) o b=iU m ds (cj.take i) o b++BF o b c:=by unfold iU;rw[aD _ _ V,qZ,zj,z7,qF,ab]
  obtain⟨Q,hQ⟩:∃Q:List (Sl×aP),Q=(F.zip c).map λz=>(z.1.2.2.2.2.2.2.2,z.2.data):=⟨_,rfl⟩
  refine aq (λt:Sl×Nat×List ((Int×Sl)×(Int×aP))=>(t.1,(t.2.1:Int))) (λt h'=>t.2.1<=c.length/\t.2.2.length<=L.length+t.2.1/\t.2.2.map zi=iU m ds (cj.take i) o b++BF o b (c.take t.2.1)/\(∀p∈t.2.2,TS (P++Q) p)/\Sp h h' [ae 145 t.1 2 piv (t.2.2.map qq),ci 1 aw P,cy fg 8 bL r7 F c,ac a1 39 (az x)]) (λt=>c.length-t.2.1) (u,0,L) i0 ⟨i9,i9,by simp[BF,J],λp N=>⟨(U p N).1,List.mem_append_left _ (U p N).2⟩,H4⟩ ?_;rintro⟨Y,j,L2⟩ h5 ⟨hj,a5,M,X,H5⟩;dsimp only at*;have F5:=H5.eS 2 i0;refine ag (λe2=>?_) λe2=>?_
  ·have al:j<c.length:=i4
   have am:=Fix.row F5 al;obtain⟨⟨g1,g2,g3,g4,g5,g6,g7⟩,g8⟩:=am;refine F5.1.cX (g:=bL) j i0 i4 (F[j]'(by omega)) i0 ?_;refine H5.alloc aj i0 λay h6 H6=>?_;refine H6.storeAll aj 4 i0 i0 (bL (F[j]'(by omega))) i0 i0 i0 i0 λh7 S=>?_;have S:Sp h h7 [ae 145 Y 2 piv (L2.map qq),ci 1 aw P,cy fg 8 bL r7 F c,ac a1 39 (az x),ac ay 167 (bL (F[j]'(by omega)))]:=S;have K:=S.box 4 i0;have R:BF o b (c.take (j+1))=BF o b (c.take j)++(if(decide (c[j].object=o)&&decide (c[j].block=b))=eH then[(c[j].id,c[j].data)]else[]):=by unfold BF;rw[aD _ _ al,zl,qM,zq,vo];split<;>rfl
   have skip:(decide (c[j].object=o)&&decide (c[j].block=b))=eL->∃G:Sl×Nat×List ((Int×Sl)×(Int×aP)),((⟨Y.ptr,Y.len,Y.cap⟩:Sl),qe xM ((j:Int)+1))=(G.1,(G.2.1:Int))/\(G.2.1<=c.length/\G.2.2.length<=L.length+G.2.1/\G.2.2.map zi=iU m ds (cj.take i) o b++BF o b (c.take G.2.1)/\(∀p∈G.2.2,TS (P++Q) p)/\Sp h h7 [ae 145 G.1 2 piv (G.2.2.map qq),ci 1 aw P,cy fg 8 bL r7 F c,ac a1 39 (az x)])/\c.length-G.2.1<c.length-j:=λhc=>
    ⟨(Y,j+1,L2),jj,⟨i6,i6,by dsimp only;rw[R,hc];simpa using M,X,S.bB [0,1,2,3]⟩,i6⟩
   refine⟨c[j].object,by rw[<-g1];exact K.cell0 i0,cv (λq1=>?_) λq1=>skip (by rw[hU q1];rfl)⟩;refine⟨c[j].block,by rw[<-g2];exact K.cell i0,cv (λq2=>?_) λq2=>skip (by rw[hU q2,Bool.and_false])⟩;refine⟨c[j].id,by rw[<-g3];exact K.cell i0,(F[j]'(by omega)).2.2.2.2.2.2.2,K.cell i0,?_⟩;refine S.push aj 0 i0 agr i0 i5 (λ_=>rfl) Jv (c[j].id,(F[j]'(by omega)).2.2.2.2.2.2.2) j3 i5 i7 λu3 a6 ar=>?_;refine⟨(u3,j+1,L2++[((c[j].id,(F[j]'(by omega)).2.2.2.2.2.2.2),(c[j].id,c[j].data))]),jj,⟨i6,i7,?_,λp N=>?_,?_⟩,i6⟩
   ·try dsimp only
    rw[qM,M,R,f9 (by rw[g9 q1,g9 q2];rfl),qn];rfl
   ·rcases qy.1 N with N|N
    ·exact X p N
    ·rw[qp.1 N];refine⟨i0,List.mem_append_right _ ?_⟩;rw[hQ];refine qx.2 ⟨(F[j]'(by omega),c[j]),?_,i0⟩;rw[<-yL (h:=by simp;omega)];exact qf _
   ·try dsimp only
    rw[qM];exact ar.bB [0,1,2,3]
  ·have ax:j=c.length:=i4
   subst ax;rw[qN,<-T]at M;have a3:=F5.2.1;have H6:=(H5.dX 2 i0 (D:=ci 1 aw Q) λq hq y hy=>by
    rw[hQ]at hy;obtain⟨z,a2,rfl⟩:=qx.1 hy;obtain⟨k,hk,rfl⟩:=qD a2;have a0:k<c.length:=by simp at hk;omega
    have:=(Fix.row hq a0).2;rw[yL];exact this).bB [1,2,0,3]
   have S:=aa.ZU H6;refine⟨(Y,i+1,L2,P++Q),jj,⟨i6,i6,M,X,S.bB [1,0,2]⟩,i6⟩
 ·rw[qg i4]at J;refine⟨u,L.map qq,i0,?_⟩;have H3:=((Z.freeze 0 i0 λ_=>rfl).bB [1,0]).iQ;refine H3.dX 0 i0 λq ⟨q1,q2,_,bq,cq,z1,z2⟩=>?_;refine⟨z1.mono bq,by rw[<-J];simp,λj r e O h2=>?_⟩;rw[<-J]at h2;rw[qL]at O h2;cases hj:L[j]? with
  |none=>rw[hj]at O;cases O
  |some p=>
   rw[hj]at O h2;have e1:=zQ.inj (show dB p.1=dB r from O);have e2:=zQ.inj (show dB p.2=dB e from h2);subst e1;subst e2;obtain⟨k1,k2⟩:=U p (List.mem_of_getElem? hj);exact⟨k1,(z2 _ k2).mono cq⟩
end
def fz(m:aA)(ds:aF)(o b:Int)(live:aB):cu:=live.map λk=>(iU m ds [k] o b).map qq
abbrev afc:bI C.toAi 75 22 1 [xH ez 0 0] 24:=⟨_,_,i0,i0,i0,i0,i0,i0⟩
section
variable {pw:eX}
theorem acV{k:Int}{l:aB}(h:k∈bu ds l):∃d,aU ds k=dB d/\d.lost=eL:=by
 have h:=(qI.1 h).2;unfold isLive at h;cases hd:aU ds k with
 |none=>rw[hd]at h;cases h
 |some d=>rw[hd]at h;exact⟨d,i0,j7⟩
theorem HZ(m:aA)(o b:Int)(l:bO):ii (AE m o b l)<=ii l:=by unfold AE;rw[qu];exact q9 (qR _ _) (uQ m l)
theorem TT(x:bo)(m:aA)(o b:Int)(U:dh h x m)(W:cw m)(al:ii m.drives<=64)(p:∀k d,aU ds k=dB d->ii d.l<=512)(H:aa B h0 h (ba bc a pw (az x) offs da w ds::As)):
  an xQ 33 #[xI (dB a),xG xM o,xG xM b] h λv h'=>∃r:Sl,v=r/\Sp h h' [dc 22 r 3 1 ak (fz m ds o b (bu ds m.drives))]:=by
 refine ts Tryz.func33 ?_ (.two .n (.two .n (.two (.two .n (.inn (.loop [(7,cK),(16,aS)] [(7,8),(9,11),(12,13),(16,47)] (.two .n (.two .n (.two (.inn (.two .n (.two .n (.two (.two .n (.inn (.loop [(10,cK),(32,aS)] [(10,11),(12,13),(32,42)] .n))) .n)))) .n)))))) .n)));refine(fS x m U W H).mono ?_;rintro _ h1 ⟨s,rfl,P⟩;have M:ii (bu ds m.drives)<=ii m.drives:=qR _ _;have D:∀k∈bu ds m.drives,∃d,aU ds k=dB d:=λk T=>by obtain⟨d,h,_⟩:=acV T;exact⟨d,h⟩
 obtain⟨live,c⟩:∃live,live=bu ds m.drives:=⟨_,rfl⟩
 rw[<-c]at P M D⊢;have ao:=(P.own 0 i0).len;refine⟨s,i0,?_⟩;have ad:ii (fz m ds o b live)=ii live:=by simp[fz]
 have H1:Sp h h1 [dc 22 ⟨ez,0,0⟩ 3 1 ak ((fz m ds o b live).take 0),ae 3 s 1 ak live]:=P.ww 22 3 1 ak;refine aq (λt:Sl×Nat=>(t.1,(t.2:Int))) (λt h'=>t.2<=ii live/\Sp h h' [dc 22 t.1 3 1 ak ((fz m ds o b live).take t.2),ae 3 s 1 ak live]) (λt=>ii live-t.2) (⟨ez,0,0⟩,0) i0 ⟨i9,H1⟩ ?_;rintro⟨u,i⟩ h2 ⟨hi,G⟩;dsimp only at*;refine ag (λe=>?_) λe=>?_
 ·have A:i<ii live:=i4
  refine(G.seq 1 i0 λ_=>rfl).bt i i0 A live[i] i0 ?_;refine G.lit aj ak fR i0 [live[i]] i0 (show 1*1<=2^20 by decide) i0 λq h3 z=>?_;have z:Sp h h3 [dc 22 u 3 1 ak ((fz m ds o b live).take i),ae 3 s 1 ak live,ae 3 q 1 ak [live[i]]]:=z;have Z:=H.up z.af;have O:=(aa.cP Z).2;refine⟨a,i0,x,O.aE _ i0,?_⟩;obtain⟨d,R⟩:=D live[i] (qf A);refine(DL x m q [live[i]] o b (U.up z.af) W (z.seq 2 i0 λ_=>rfl) i9 (λk T=>by rw[qp.1 T];exact⟨d,R⟩) Z).mono ?_;rintro _ h4 ⟨F,y,rfl,Y⟩;obtain⟨S,f⟩:∃S,S=iU m ds [live[i]] o b:=⟨_,rfl⟩
  have ab:ii S<=512:=by rw[f];unfold iU nr;rw[zj,z7,qF,R];exact q9 (HZ _ _ _ _) (p _ _ R)
  rw[<-f]at Y;have K:=(z.bN Y).aL 4 [1,2,0];have V:=K.eS 2 i0;have ah:=V.2.1;have am:=V.1.len;refine⟨F,i0,?_⟩;have K:Sp h h4 [ae 3 ⟨ez,0,0⟩ 1 ak ((S.map qq).take 0),dc 22 u 3 1 ak ((fz m ds o b live).take i),ae 3 s 1 ak live,cy jg 2 piv F y S]:=(K.nil 3 1 ak).bB [3,0,1,2];refine aq (λt:Sl×Nat=>(t.1,(t.2:Int))) (λt h'=>t.2<=ii S/\Sp h h' [ae 3 t.1 1 ak ((S.map qq).take t.2),dc 22 u 3 1 ak ((fz m ds o b live).take i),ae 3 s 1 ak live,cy jg 2 piv F y S]) (λt=>ii S-t.2) (⟨ez,0,0⟩,0) i0 ⟨i9,K⟩ ?_;rintro⟨u2,j⟩ h5 ⟨hj,J⟩;dsimp only at*;have X:=J.eS 3 i0;refine ag (λe2=>?_) λe2=>?_
  ·have N:j<ii S:=i4
   have E:=Fix.row X N;refine X.1.cX (g:=piv) j i0 i4 (y[j]'(by omega)) i0 ?_;refine J.alloc aj i0 λQ h6 H6=>?_;refine H6.storeAll aj 4 i0 i0 (piv (y[j]'(by omega))) i0 i0 i0 i0 λh7 I=>?_;have I:Sp h h7 [ae 3 u2 1 ak ((S.map qq).take j),dc 22 u 3 1 ak ((fz m ds o b live).take i),ae 3 s 1 ak live,cy jg 2 piv F y S,ac Q 145 (piv (y[j]'(by omega)))]:=I;refine⟨S[j].1,by rw[<-E.1];exact(I.box 4 i0).cell0 i0,?_⟩;refine I.push aj 0 i0 fR i0 i5 (λ_=>rfl) eC S[j].1 i0 i5 i7 λu3 h9 H9=>?_;refine⟨(u3,j+1),jj,⟨i6,?_⟩,i6⟩
   try dsimp only
   rw[aD _ _ (show j<ii (S.map qq) by simp;omega),wV];exact H9.bB [0,1,2,3]
  ·rw[qg i7]at J;refine(J.aL 2 [1,0]).Ey aj afc i7 λu3 ap L=>?_;refine⟨(u3,i+1),jj,⟨i6,?_⟩,i6⟩
   try dsimp only
   rw[aD _ _ (show i<ii (fz m ds o b live) by omega)];have ew:(fz m ds o b live)[i]'(by omega)=S.map qq:=by simp[fz,f]
   rw[ew];exact L.bB [0,1]
 ·rw[qg i4]at G;exact⟨u,i0,G.bB [0]⟩
end
def Pow.calm(w:Pow):Prop:=w.off=eL/\w.fuse=ez
theorem nP:Pow.new.calm:=⟨i0,i0⟩
theorem lp{w:Pow}(h:w.calm):w.step=(eH,w):=by unfold Pow.step;rw[g0 (by simp[h.1]),h.2]
theorem Fq{w:Pow}(h:w.calm)(ds:aF)(x:Int)(b:aP):(fJ w ds x b).2.1=w:=by
 unfold fJ;cases aU ds x with
 |none=>rfl
 |some d=>
  try dsimp only
  unfold aY.append;split
  ·rfl
  ·split
   ·rfl
   ·split
    ·rfl
    ·split
     ·rfl
     ·rw[lp h];rfl
theorem KI{w:Pow}(h:w.calm)(ds:aF)(x:Int):(fK w ds x).2.1=w:=by
 unfold fK;cases aU ds x with
 |none=>rfl
 |some d=>
  try dsimp only
  unfold aY.sync;split
  ·rfl
  ·rw[lp h];rfl
theorem oV{w:Pow}(h:w.calm):∀(l:List (Int×aP)) (ds:aF),(kR l w ds).2.1=w
 |[],_=>rfl
 |x::l,ds=>by
  rw[ta,Fq h];split
  ·exact oV h l _
  ·exact Fq h _ _ _
theorem Ia{w:Pow}(h:w.calm):∀(l:aB) (ds:aF),(fN l w ds).2.1=w
 |[],_=>rfl
 |x::l,ds=>by
  rw[oB,KI h];split
  ·exact Ia h l _
  ·exact KI h _ _
theorem ZV{w:Pow}(h:w.calm)(l:List (Int×aP))(ds:aF):(layAll l w ds).2.1=w:=by
 unfold layAll
 try dsimp only
 rw[oV h];split
 ·exact Ia h _ _
 ·exact oV h _ _
theorem Qm{w:Pow}{d:aY}{n:Nat}{b:aP}(h:w.calm)(a:d.lost=eL)(c:ii d.l+(n+1)<=d.room)(e:ii b=64):d.append w b=(0,w,{d with l:=d.l++[b],wait:=d.wait+1,laid:=[],has:=eL}):=by unfold aY.append;rw[g0 i4,g0 m5,g0 i4,g0 (by simp[h.1]),lp h];rfl
theorem WW{w:Pow}{d:aY}(h:w.calm)(a:d.lost=eL):d.sync w=(0,w,{d with wait:=0,laid:=[],has:=eL}):=by unfold aY.sync;rw[g0 m5,lp h];rfl
theorem afd{ds:aF}{s:Int}{d:aY}(h:aU ds s=dB d):0<=s/\s<64:=by obtain⟨n,rfl,a⟩:=ko h;omega
def Ib(ds:aF)(P:List (Int×aP))(s:Int):Option aY:=
 (aU ds s).map λd=>{d with l:=d.l++(P.filter λx=>decide (x.1=s)).map zi,wait:=d.wait+ii (P.filter λx=>decide (x.1=s)),laid:=if(P.filter λx=>decide (x.1=s)).isEmpty then d.laid else[],has:=if(P.filter λx=>decide (x.1=s)).isEmpty then d.has else eL}
theorem DM{w:Pow}(h:w.calm){S:aB}:∀(P:List (Int×aP)) (ds:aF),Fit ds S (P.map qq)->(∀x∈P,x.1∈S/\x.2.length=64)->
  (kR P w ds).1=0/\Fit (kR P w ds).2.2 S []/\∀s,aU (kR P w ds).2.2 s=Ib ds P s
 |[],ds,F,_=>⟨i0,F,λs=>by unfold Ib;show aU ds s=_;cases aU ds s<;>simp⟩
 |x::P,ds,F,hP=>by
  obtain⟨d,g,q,m⟩:=F.at_ x.1 (hP x (qP ..)).1;rw[z6,List.count_cons_self]at m;have i:=(hP x (qP ..)).2;obtain⟨n,j,a⟩:=ko g;have f:=Qm (n:=(P.map qq).count x.1) h q i4 i;have e:fJ w ds x.1 x.2=(0,w,bM ds x.1 {d with l:=d.l++[x.2],wait:=d.wait+1,laid:=[],has:=eL}):=by unfold fJ;rw[g];(try dsimp only);rw[f]
  obtain⟨_,c⟩:=Lq w x.2 (x:=x.1) (Q:=P.map qq) F (hP x (qP ..)).1 i;rw[ta,e];rw[e]at c;dsimp only at c⊢;rw[f9 rfl];obtain⟨o,k,a3⟩:=DM h P _ c λy r=>hP y (qH _ r);refine⟨o,k,λs=>?_⟩;rw[a3 s];unfold Ib;rw[j,Az _ _ _ _ a F.len,<-j];by_cases b:s=x.1
  ·rw[f9 b,b,g];simp only[qQ,zq,decide_true,if_true,z6,zh,qn,List.singleton_append,List.isEmpty_cons,Bool.false_eq_true,if_false];congr 1;simp only[aY.mk.injEq,true_and,and_true];refine⟨i4,?_,?_⟩<;>split<;>rfl
  ·rw[g0 b];simp only[zq,decide_eq_true_eq,g0 (show¬x.1=s fromλp=>b p.symm)]
theorem Ic{w:Pow}(h:w.calm){S:aB}:∀(l:aB) (ds:aF),Fit ds S []->(∀x∈l,x∈S)->
  (fN l w ds).1=0/\Fit (fN l w ds).2.2 S []/\∀s,aU (fN l w ds).2.2 s=(aU ds s).map λd=>if s∈l then{d with wait:=0,laid:=[],has:=eL}else d
 |[],ds,F,_=>⟨i0,F,λs=>by show aU ds s=_;cases aU ds s<;>simp⟩
 |x::l,ds,F,hl=>by
  obtain⟨d,f,k,o⟩:=F.at_ x (hl x (qP ..));obtain⟨n,g,a⟩:=ko f;have e:fK w ds x=(0,w,bM ds x {d with wait:=0,laid:=[],has:=eL}):=by unfold fK;rw[f];(try dsimp only);rw[WW h k]
  obtain⟨_,b⟩:=Qh w F (hl x (qP ..));rw[oB,e];rw[e]at b;dsimp only at b⊢;rw[f9 rfl];obtain⟨j,i,a3⟩:=Ic h l _ b λy m=>hl y (qH _ m);refine⟨j,i,λs=>?_⟩;rw[a3 s,g,Az _ _ _ _ a F.len,<-g];by_cases c:s=x
  ·subst c;rw[f9 i0,f];simp only[qQ,qV,true_or,if_true];congr 1;split<;>rfl
  ·rw[g0 c];cases aU ds s with
   |none=>rfl
   |some d'=>simp[c]
section
variable {pw:eX}
end
section
variable {pw:eX}
end
def ua(p:Pm)(extra:Int)(l:aB):Int:=
 if(fl l).2&&(bS p&&fo extra 0 16)then
  if(bi l l.length).any λi=>decide (l.getD i.toNat 0<(ii (aO (cA p extra l)):Int))then 7 else 0
 else 1
theorem TU(p:Pm)(extra:Int)(w:Pow)(l:aB):fU p extra w l=if ua p extra l=0 then layAll (bF (cA p extra l) (bi l l.length)) w (ik l (bi l l.length).length)else(ua p extra l,w,[]):=by
 unfold fU ua;by_cases h:((fl l).2&&(bS p&&fo extra 0 16))=eH
 ·rw[f9 h,f9 h];by_cases a:((bi l l.length).any λi=>decide (l.getD i.toNat 0<(ii (aO (cA p extra l)):Int)))=eH
  ·rw[f9 a,f9 a];rfl
  ·rw[g0 a,g0 a];rfl
 ·rw[g0 h,g0 h];rfl
theorem Ie{p:Pm}{extra:Int}{l:aB}(h:ua p extra l=0):bS p=eH/\0<=extra/\extra<=16/\(fl l).2=eH/\((bi l l.length).any λi=>decide (l.getD i.toNat 0<(ii (aO (cA p extra l)):Int)))=eL:=by
 unfold ua at h;by_cases a:((fl l).2&&(bS p&&fo extra 0 16))=eH
 ·rw[f9 a]at h;by_cases b:((bi l l.length).any λi=>decide (l.getD i.toNat 0<(ii (aO (cA p extra l)):Int)))=eH
  ·rw[f9 b]at h;cases h
  ·unfold fo at a;simp only[qw,decide_eq_true_eq]at a;exact⟨a.2.1,a.2.2.1,a.2.2.2,a.1,k9⟩
 ·rw[g0 a]at h;cases h
def ub(m:aA)(l:bO):Bool:=bs m&&(aO m).all λp=>decide (p∈l)
theorem ZW{w:Pow}(h:w.calm){S:aB}(P:List (Int×aP))(ds:aF)(F:Fit ds S (P.map qq))(c:∀x∈P,x.1∈S/\x.2.length=64):
  (layAll P w ds).1=0/\Fit (layAll P w ds).2.2 S []/\∀s,aU (layAll P w ds).2.2 s=(Ib ds P s).map λd=>if s∈dw (P.map qq)then{d with wait:=0,laid:=[],has:=eL}else d:=by
 obtain⟨g,f,a3⟩:=DM h P ds F c;have e:=oV h P ds;unfold layAll
 try dsimp only
 rw[f9 g,e];obtain⟨j,i,k⟩:=Ic h (S:=S) (dw (P.map qq)) (kR P w ds).2.2 f λx b=>by
  unfold dw at b;have a:=(qI.1 b).2;obtain⟨y,l,rfl⟩:=qx.1 (hZ a);exact(c y l).1
 exact⟨j,i,λs=>by rw[k s,a3 s]⟩
theorem Cj(l:aB)(k:Nat):(bi l k).Pairwise (·<·):=by unfold bi;refine List.Pairwise.filter _ (yf.2 ?_);exact(List.pairwise_lt_range (n:=k)).imp λh=>i4
theorem acW{l:aB}{most:Int}(d:l.Pairwise (·<·))(c:∀x∈l,0<=x/\x<=most):oD l most=eH:=by
 unfold oD;refine rF λi a=>?_;unfold jD fo;have e:l.getD i 0=l[i]:=by rw[qd,qc a];rfl
 have:=c l[i] (qf a);rw[e,g9 this.1,g9 this.2,yd,yd];by_cases h0:i=0
 ·rw[g9 h0];rfl
 ·have b:l.getD (i-1) 0=l[i-1]:=by rw[qd,qc i4];rfl
  rw[b,g9 (List.pairwise_iff_getElem.1 d (i-1) i i4 a i4),Bool.or_true]
theorem Oc{p:Pm}{extra:Int}{l:aB}(h:ii l<=64)(e:ua p extra l=0):bs (cA p extra l)=eH:=by
 obtain⟨c,a,h3,_⟩:=Ie e;have b:kK (cA p extra l)=eH:=by unfold kK fo cA;simp[c,a,h3]
 have f:oD (cA p extra l).drives 63=eH:=acW (Cj l l.length) λx d=>by
  obtain⟨n,g,rfl,_⟩:=(tI l l.length x).1 d;omega
 unfold bs;rw[b,f];rfl
theorem Ck(p:Pm)(extra:Int)(l:aB)(b:ii l<=24):ii (aO (cA p extra l))<=1:=by
 unfold aO dg;rw[qu,zC];have a:=oR l l.length;have:ii (bJ (cA p extra l))<=19+24:=by
  unfold bJ;split
  ·simp only[qt,cD,zh,y5,qu,cA,z7];omega
  ·simp
 omega
theorem WX(l:List (Int×aP))(k:Int):(l.map qq).count k=ii (l.filter λy=>decide (y.1=k)):=by
 induction l with
 |nil=>rfl
 |cons y l ih=>
  rw[z6,List.count_cons,ih,zq];by_cases h:y.1=k
  ·rw[f9 (g9 h),f9 j7];rfl
  ·rw[g0 j7,g0 j7];rfl
theorem DN(n:aA)(k:Int):∀{live:aB},live.Nodup->k∈live->((bF n live).filter λy=>decide (y.1=k)).map zi=aO n
 |[],_,hk=>by cases hk
 |x::live,hnd,hk=>by
  have e:bF n (x::live)=(aO n).map (λc=>(x,c))++bF n live:=by unfold bF;rw[zj]
  obtain⟨j,b⟩:=yk.1 hnd;rw[e,zl,qM];by_cases a:x=k
  ·subst a;have g:((aO n).map λc=>(x,c)).filter (λy=>decide (y.1=x))=(aO n).map (λc=>(x,c)):=List.filter_eq_self.2 λy d=>by
    obtain⟨c,_,rfl⟩:=qx.1 d;exact g9 i0
   have i:(bF n live).filter (λy=>decide (y.1=x))=[]:=wU.2 λy d=>by
    have:=(kF d).1;have f:y.1≠x:=λh=>j (h▸this);simpa using f
   rw[g,i,vW,qF,w7];exact List.map_id _
  ·have g:((aO n).map λc=>(x,c)).filter (λy=>decide (y.1=k))=[]:=wU.2 λy d=>by
    obtain⟨c,_,rfl⟩:=qx.1 d;simpa using a
   rw[g,vW,List.nil_append];rcases qV.1 hk with h|h
   ·exact absurd h.symm a
   ·exact DN n k b h
theorem acX{p:Pm}{seed:Int}{d:Row}{K H w n:Nat}(B:dH p seed d K H w n)(id:Int):DK p seed d id=if ct id then kC w (gP p seed d) (eT n seed id)else[]:=by unfold DK;rw[B.EM,show p.2.2.toNat=w by have:=B.s;omega]
theorem ZX{m:aA}{o i seed:Int}{d:Row}{id:Int}{K H w n:Nat}(B:dH m.p seed d K H w n)(b:0<=o/\o<=16777215)(a:0<=i/\i<=7)(hid:0<=id/\id<=65535):jR (JC m o i seed d id)=eH:=by
 rw[nL];refine⟨b,a,hid,B.may,?_⟩;have c:ct id=eH:=by unfold ct;rw[g9 hid.1,g9 hid.2];rfl
 show(ii (DK m.p seed d id):Int)=m.p.2.2;rw[acX B id,f9 c,B.aeo id,B.s]
def ET(m:aA)(o:Int)(tries:aB)(a:bO)(live:aB)(k:Int)(i:Nat):List dG:=
 ((qz (m.p.1+m.extra).toNat).filter λid=>decide (jI (fY o i live) (id:Nat)=k)).map λid:Nat=>JC m o i (iG o i (tries.getD i 0)) (a.getD i []) id
def oh(m:aA)(o:Int)(tries:aB)(a:bO)(live:aB)(k:Int)(n:Nat):List dG:=(qz n).flatMap (ET m o tries a live k)
theorem Od(m:aA)(o:Int)(tries:aB)(a:bO)(live:aB)(k:Int)(n:Nat):oh m o tries a live k (n+1)=oh m o tries a live k n++ET m o tries a live k n:=by unfold oh;rw[zV,qZ,zj,z7,qF]
theorem Oe(m:aA)(o:Int)(tries:aB)(a:bO)(live:aB)(k:Int)(i:Nat):((mH m o tries a live i).filter λy=>decide (y.1=k)).map zi=(ET m o tries a live k i).map dl:=by unfold mH ET;rw[List.filter_map,w7,w7];rfl
theorem Cl(m:aA)(o:Int)(tries:aB)(a:bO)(live:aB)(k:Int):∀n,((fc m o tries a live n).filter λy=>decide (y.1=k)).map zi=(oh m o tries a live k n).map dl
 |0=>by simp[fc,oh]
 |n+1=>by rw[rN,Od,zl,qM,qM,Cl m o tries a live k n,Oe]
def dR(m:aA)(d:aY)(n:Int):aY:=if gG d d.l.length n then d else{d with l:=bH m d.l,wait:=0,laid:=[],has:=eL}
theorem TV{m:aA}{r:dG}(h:ij m r=eH):jR r=eH:=by unfold ij at h;simp only[qw]at h;exact h.1
theorem ZY{l:List dG}{r:dG}(h:r∈rG l):r∈l:=by unfold rG at h;obtain⟨i,a,rfl⟩:=qx.1 h;have a:=qC.1 (qI.1 a).1;rw[qd,qc a];exact qf a
theorem If{m:aA}{c:aP}{r:dG}(h:gY m c=dB r):dP c=dB r/\ij m r=eH:=by
 unfold gY at h;cases hc:dP c with
 |none=>rw[hc]at h;cases h
 |some x=>
  rw[hc]at h;dsimp only at h;by_cases a:ij m x=eH
  ·rw[f9 a]at h;injection h with h;subst h;exact⟨i0,a⟩
  ·rw[g0 a]at h;cases h
theorem BG{m:aA}{l:bO}{r:dG}(h:r∈fO m l):∃c∈l,dP c=dB r/\ij m r=eH:=by have h:=wM.1 (ZY h);obtain⟨c,a,b⟩:=List.mem_filterMap.1 h;exact⟨c,a,If b⟩
theorem BH(m:aA)(l:bO):∀c∈bH m l,ii c=64:=λc a=>by
 rcases qy.1 a with h|h
 ·exact sa h
 ·obtain⟨r,d,rfl⟩:=qx.1 h;obtain⟨_,_,_,b⟩:=BG d;exact MM (TV b)
theorem DO{w:Pow}(a:w.calm){d:aY}{l:bO}(g:∀c∈l,ii c=64)(e:d.lost=eL)(h:ii l<=d.room):d.rewrite w l=(0,w,{d with l:=l,wait:=0,laid:=[],has:=eL}):=by unfold aY.rewrite;have:l.all (λb=>decide (ii b=64))=eH:=qY.2 λc f=>g9 (g c f);rw[g0 (by simp[this]),g0 p8,g0 i4,g0 (by simp[a.1]),lp a];rfl
theorem TW{w:Pow}(e:w.calm){m:aA}{d:aY}{n:Int}(h:jk m d n=eH):fb m w d n=(0,w,dR m d n):=by
 have h0:=h;unfold jk at h;rw[qw,zU,wF]at h;obtain⟨c,a⟩:=h;unfold fb dR;rw[g0 n7,g0 (by simp[h0])];by_cases b:gG d d.l.length n=eH
 ·rw[f9 b,f9 b]
 ·rw[g0 b,g0 b];have h3:gG d (bH m d.l).length n=eH:=by
   rcases a with a|a
   ·exact absurd a b
   ·exact a
  unfold gG at h3;rw[decide_eq_true_eq]at h3;exact DO e (BH m d.l) c i4
theorem Of(m:aA)(ds:aF)(k:Int)(l:aB)(N:Int->Int):fV m ds (k::l) N=(np m ds k (N k)&&fV m ds l N):=List.all_cons
theorem pV{m:aA}{ds:aF}{k n:Int}(h:np m ds k n=eH):∃d,aU ds k=dB d/\jk m d n=eH:=by
 unfold np at h;cases hd:aU ds k with
 |none=>rw[hd]at h;cases h
 |some d=>rw[hd]at h;exact⟨d,i0,h⟩
theorem uc(ds:aF)(k:Int)(d:aY):ii (bM ds k d)=ii ds:=by unfold bM;simp
theorem jJ{ds:aF}{k:Int}{c d:aY}(a:ii ds=64)(e:aU ds k=dB c)(s:Int):aU (bM ds k d) s=if s=k then dB d else aU ds s:=by obtain⟨n,rfl,b⟩:=ko e;exact Az ds n d s b a
theorem Lt{m:aA}{ds a:aF}{l:aB}{N:Int->Int}(h:∀k∈l,aU ds k=aU a k):fV m ds l N=fV m a l N:=by unfold fV;rw[Bool.eq_iff_iff,qY,qY];refine forall_congr' λk=>forall_congr' λb=>?_;unfold np;rw[h k b]
theorem BI{w:Pow}(l:w.calm){m:aA}{N:Int->Int}:∀{live:aB} {ds:aF},live.Nodup->ii ds=64->fV m ds live N=eH->
  ∃a,makes m N live w ds=(0,w,a)/\a.length=64/\∀k,aU a k=(aU ds k).map λd=>if k∈live then dR m d (N k)else d
 |[],ds,_,h64,_=>⟨ds,i0,h64,λk=>by cases aU ds k<;>simp⟩
 |k::live,ds,hnd,h64,hf=>by
  rw[Of,qw]at hf;obtain⟨g,c⟩:=yk.1 hnd;obtain⟨d,j,i⟩:=pV hf.1;have e:iN m w ds k (N k)=(0,w,bM ds k (dR m d (N k))):=by unfold iN;rw[j];(try dsimp only);rw[TW l i]
  have b:=jJ (d:=dR m d (N k)) h64 j;have h:fV m (bM ds k (dR m d (N k))) live N=eH:=by
   rw[<-Lt (ds:=ds) λs f=>?_]
   ·exact hf.2
   ·rw[b,g0 λo:s=k=>g (o▸f)]
  obtain⟨a,p,n,h3⟩:=BI l c (by rw[uc];exact h64) h;refine⟨a,?_,n,λs=>?_⟩
  ·show(if(iN m w ds k (N k)).1=0 then makes m N live (iN m w ds k (N k)).2.1 (iN m w ds k (N k)).2.2 else iN m w ds k (N k))=_;rw[e];exact p
  ·rw[h3 s,b];by_cases f:s=k
   ·subst f;rw[f9 i0,j];simp[g]
   ·rw[g0 f];simp[f]
theorem Ig{m:aA}{d:aY}{n:Int}(h:jk m d n=eH):(dR m d n).lost=eL/\(dR m d n).room=d.room/\((dR m d n).l.length:Int)+max n 0<=d.room:=by
 unfold jk at h;rw[qw,zU,wF]at h;obtain⟨c,a⟩:=h;unfold dR;by_cases b:gG d d.l.length n=eH
 ·rw[f9 b];unfold gG at b;rw[decide_eq_true_eq]at b;exact⟨c,i0,i4⟩
 ·rw[g0 b];have h3:gG d (bH m d.l).length n=eH:=by
   rcases a with a|a
   ·exact absurd a b
   ·exact a
  unfold gG at h3;rw[decide_eq_true_eq]at h3;exact⟨c,i0,i6⟩
theorem Qn(a:ByteArray):fd a a=eL:=VF _
theorem WY{a b:ByteArray}(h:jE a b=eH)(c:a≠b):fd a b=eH:=by
 rcases(Hm a b).1 h with h|h
 ·exact h
 ·exact absurd (Ts h) c
theorem KJ{a b:ByteArray}(h:fd a b=eH):a≠b:=λe=>by subst e;rw[Qn]at h;cases h
theorem afe:Ord sf:=⟨λa b c e d=>CS _ _ _ e d,λa b=>CT _ _⟩
theorem Og{m:aA}{x e:dm}:e∈(oG m x).objs↔e∈m.objs∨e=x:=by show e∈(m.objs++[x]).mergeSort sf↔_;rw[wM];simp
theorem WZ{name:ByteArray}{l:List Qw.dm}(h:l.any (lP name)=eL):∀e∈l,e.name≠name:=λe b a=>by
 have:=wH.1 h e b;unfold lP at this;rw[a]at this;simp at this
theorem Xa{m:aA}{x:Qw.dm}(E:bs m=eH)(d:ly x.name=eH)(j:∀e∈m.objs,e.name≠x.name)(g:x.object=m.next)(M:m.objs.length<=11)(J:m.next<=16777215)(N:m.seq<=2147483646)
  (l:0<=x.length/\x.length<=m.p.1*m.p.2.2*8) (y:∀t∈x.tries,0<=t/\t<=15) (G:(x.tries.length:Int)=countP m.p x.length):bs (oG m x)=eH:=by
 obtain⟨F,z,h3,I,s,u,w⟩:=(cY m).1 E;obtain⟨L,K,a3,a4⟩:=(fp m).1 F;have c:(oG m x).objs.Perm (m.objs++[x]):=wX _ _;have i:∀e∈m.objs,e.object<m.next:=λe k=>((jF m e).1 (s e k)).2.1.2;refine(cY _).2 ⟨(fp _).2 ⟨⟨?_,?_⟩,⟨?_,?_⟩,a3,a4⟩,z,h3,?_,λe k=>?_,?_,?_⟩
 ·show 1<=m.seq+1;omega
 ·show m.seq+1<=_;omega
 ·show 0<=m.next+1;omega
 ·show m.next+1<=_;omega
 ·rw[c.length_eq];simp;omega
 ·rcases Og.1 k with k|rfl
  ·obtain⟨D,B,H,A,v⟩:=(jF m e).1 (s e k);exact(jF _ e).2 ⟨D,⟨B.1,by show _<m.next+1;omega⟩,H,A,v⟩
  ·exact(jF _ _).2 ⟨d,⟨i4,by show _<m.next+1;omega⟩,l,y,G⟩
 ·have f:(m.objs++[x]).Pairwise (λa b:Qw.dm=>a.name≠b.name):=ya.2 ⟨u.imp λh=>KJ h,List.pairwise_singleton _ _,λa o b q=>by rw[qp.1 q];exact j a o⟩;have n:=(c.pairwise_iff (R:=λa b:Qw.dm=>a.name≠b.name) λ{a b} h=>Ne.symm h).2 f;have r:(oG m x).objs.Pairwise (λa b=>sf a b=eH):=(CQ afe (m.objs++[x])).1;exact(r.and n).imp λh=>WY h.1 h.2
 ·have f:(m.objs++[x]).Pairwise (λa b:Qw.dm=>a.object≠b.object):=ya.2 ⟨w,List.pairwise_singleton _ _,λa o b q=>by rw[qp.1 q,g];have:=i a o;omega⟩;exact(c.pairwise_iff (R:=λa b:Qw.dm=>a.object≠b.object) λ{a b} h=>Ne.symm h).2 f
theorem Qp{p:Pm}{o:Int}{n:Nat}{t:aB}(h:dv p o n=dB t):∀x∈t,0<=x/\x<=15:=λx c=>by
 obtain⟨i,b,rfl⟩:=qD c;obtain⟨k,d,a⟩:=uO h i b;have:=(DB a).1;rw[d];omega
theorem Oh{p:Pm}(a:bS p=eH)(b:aP):(ii (splitB p b):Int)=countP p b.length:=by have:=(lO a b.length).1;unfold splitB;rw[qu,zC];omega
theorem ZZ{m:aA}{d:Bool}{ds:aF}{name:ByteArray}{b:aP}{t:aB}(g:bs m=eH)(l:fL m d ds name b.length=0)(f:dv m.p m.next (splitB m.p b).length=dB t):bs (oG m ⟨name,m.next,ii b,t⟩)=eH:=by
 obtain⟨n,j,z3,z4,z5⟩:=tZ l;have k:¬m.p.1*m.p.2.2*8<(ii b:Int):=λh=>z4 (.inl h);have c:ii m.objs<=11:=by have:¬12<=ii m.objs:=λh=>z4 (.inr h);omega
 have a:m.next<=16777215:=by have:¬16777215<m.next:=λh=>z5 (.inr (.inl h));omega
 have e:m.seq<=2147483646:=by have:¬2147483647<=m.seq:=λh=>z5 (.inr (.inr h));omega
 have i:=((fp m).1 ((cY m).1 g).1).2.2.1;refine Xa g j (WZ z3) i0 c a e ⟨by show 0<=(ii b:Int);omega,by show(ii b:Int)<=_;omega⟩ (Qp f) ?_;show(ii t:Int)=countP m.p b.length;rw[lE f,Oh i]
def eu(a:bO)(d:aY):aY:=if a.isEmpty then d else{d with l:=d.l++a,wait:=0,laid:=[],has:=eL}
def kZ(P:List (Int×aP))(s:Int):bO:=(P.filter λx=>decide (x.1=s)).map zi
theorem Oi{P:List (Int×aP)}{s:Int}(h:∀x∈P,x.1≠s):kZ P s=[]:=by unfold kZ;rw[wU.2 λx a=>by simpa using h x a];rfl
theorem Oj(P:List (Int×aP))(s:Int):ii (kZ P s)=(P.map qq).count s:=by unfold kZ;rw[qu];exact(Qw.WX P s).symm
theorem Fs{l:aB}{s:Int}(h:0<=s/\s<64):s∈dw l↔s∈l:=by unfold dw;rw[qI,decide_eq_true_eq];refine⟨λh=>h.2,λh'=>⟨?_,h'⟩⟩;exact qx.2 ⟨s.toNat,qC.2 i4,i4⟩
theorem Ih{w:Pow}(n:w.calm){ds:aF}{P:List (Int×aP)}(j:ii ds=64)
  (a:∀x∈P,ii x.2=64/\∃d,aU ds x.1=dB d/\d.lost=eL/\d.l.length+ii (kZ P x.1)<=d.room):
  ∃b,layAll P w ds=(0,w,b)/\b.length=64/\∀s,aU b s=(aU ds s).map (eu (kZ P s)):=by
 have F:Fit ds (P.map qq) (P.map qq):=⟨j,λk t=>by
  obtain⟨x,g,rfl⟩:=qx.1 t;obtain⟨_,d,m,i,h3⟩:=a x g;rw[Oj]at h3;exact⟨d,m,i,h3⟩⟩
 obtain⟨q,p,a3⟩:=Qw.ZW n P ds F λx g=>⟨qx.2 ⟨x,g,rfl⟩,(a x g).1⟩
 refine⟨(layAll P w ds).2.2,?_,p.len,λs=>?_⟩
 ·have i:=ZV n P ds;exact vi q (vi i i0)
 ·rw[a3 s];unfold Ib;cases hd:aU ds s with
  |none=>rfl
  |some d=>
   obtain⟨f,e⟩:=afd hd;rw[qQ,qQ,qQ];congr 1;unfold eu;have o:s∈P.map qq↔(kZ P s).isEmpty=eL:=by rw[<-List.count_pos_iff,<-Oj];cases hc:kZ P s<;>simp
   by_cases c:(kZ P s).isEmpty=eH
   ·have h0:kZ P s=[]:=List.isEmpty_iff.1 c;have m:(P.filter λx=>decide (x.1=s))=[]:=List.map_eq_nil_iff.1 h0;rw[g0 (λh=>by rw[Fs ⟨f,e⟩,o]at h;rw[h]at c;cases c),f9 c,m];simp
   ·have r:(kZ P s).isEmpty=eL:=l7
    rw[f9 ((Fs ⟨f,e⟩).2 (o.2 r)),g0 c];rfl
theorem ol{n:aA}{live:aB}(a:live.Nodup)(s:Int):kZ (bF n live) s=if s∈live then aO n else[]:=by
 by_cases h:s∈live
 ·rw[f9 h];exact DN n s a h
 ·rw[g0 h];exact Oi λx c b=>h (b▸(kF c).1)
theorem aaa(m:aA)(o:Int)(tries:aB)(a:bO)(live:aB)(k:Int)(n:Nat):kZ (fc m o tries a live n) k=(oh m o tries a live k n).map dl:=Cl m o tries a live k n
theorem Gm{m:aA}(h:bs m=eH):aO m≠[]:=by unfold aO dg bJ;rw[f9 h];intro e;have:=congrArg List.length e;simp[cD]at this;omega
theorem DP{ds:aF}{l:aB}(h:l.Nodup):(bu ds l).Nodup:=h.filter _
theorem mI{ds:aF}{l:aB}{k:Int}(h:k∈bu ds l):k∈l/\∃d,aU ds k=dB d/\d.lost=eL:=by
 obtain⟨b,a⟩:=qI.1 h;unfold isLive at a;cases hd:aU ds k with
 |none=>rw[hd]at a;cases a
 |some d=>rw[hd]at a;exact⟨b,d,i0,kt⟩
theorem Gn{ds:aF}{l:aB}{k:Int}:k∈bu ds l↔k∈l/\∃d,aU ds k=dB d/\d.lost=eL:=by refine⟨mI,λ⟨h1,d,h2,h3⟩=>qI.2 ⟨h1,?_⟩⟩;unfold isLive;rw[h2];simp[h3]
theorem Ol(a:bO)(d:aY):(eu a d).l=d.l++a:=by
 unfold eu;by_cases h:a.isEmpty=eH
 ·rw[f9 h,List.isEmpty_iff.1 h,qF]
 ·rw[g0 h]
theorem uS(a:bO)(d:aY):(eu a d).lost=d.lost/\(eu a d).room=d.room:=by unfold eu;split<;>exact⟨i0,i0⟩
theorem aab{a b:bO}(h:b≠[])(d:aY):eu b (eu a d)=eu (a++b) d:=by
 have e:∀c:bO,c≠[]->∀d,eu c d={d with l:=d.l++c,wait:=0,laid:=[],has:=eL}:=λc g d=>by
  unfold eu;rw[g0 l9]
 by_cases f:a=[]
 ·subst f;rfl
 ·rw[e a f,e b h,e (a++b) u9];simp
theorem KK(a:Nat)(l:List (Int×aP))(k:Int):mh a l k=a+ii (kZ l k):=by unfold mh kZ;rw[qu]
theorem acY{p:Pm}{o:Int}{b:aP}{t:aB}(c:bS p=eH)(d:dv p o (splitB p b).length=dB t){i:Nat}(h:i<ii (splitB p b)):∃K H w n,dH p (iG o i (t.getD i 0)) ((splitB p b).getD i []) K H w n:=by
 have m:=lE d;obtain⟨k,l,a⟩:=uO d i i4;have g:HL p o i k=eH:=(DB a).2.1;have e:t.getD i 0=(k:Int):=by rw[hJ 0];exact l
 rw[e];refine Tn c g ?_;have f:=(cg p).1 c;have q:0<=p.1*p.2.2:=vV i4 i4;have j:(splitB p b)[i]=BD (gm p) b i:=by simp[splitB]
 rw[hJ [] h,j,Kz];unfold gm;omega
theorem acZ{m:aA}{b:aP}{t:aB}(g:bs m=eH)(e:m.next<=16777215)(h8:ii (splitB m.p b)<=8)(f:dv m.p m.next (splitB m.p b).length=dB t){i id:Nat}(d:i<ii (splitB m.p b))(hid:id<(m.p.1+m.extra).toNat):
  jR (JC m m.next i (iG m.next i (t.getD i 0)) ((splitB m.p b).getD i []) id)=eH:=by
 have a:=((fp m).1 ((cY m).1 g).1)
 have c:=(cg m.p).1 a.2.2.1;obtain⟨K,H,w,n,B⟩:=acY a.2.2.1 f d;exact ZX B ⟨a.2.1.1,e⟩ i4 i4
theorem Xb{m:aA}{offs:Int}{w:Pow}{ds:aF}{name:ByteArray}{b:aP}(H:w.calm)(Q:ii ds=64)(D:bs m=eH):
  (fL m (fT w offs) ds name b.length≠0->iZ m offs w ds name b=(fL m (fT w offs) ds name b.length,m,w,ds))/\
  (fL m (fT w offs) ds name b.length=0->(dv m.p m.next (splitB m.p b).length=ez->iZ m offs w ds name b=(8,m,w,ds))/\∀t,dv m.p m.next (splitB m.p b).length=dB t->
   let live:=bu ds m.drives;let l:=fc m m.next t (splitB m.p b) live (splitB m.p b).length;let n:=oG m ⟨name,m.next,ii b,t⟩;let N:=mh (aO n).length l
   bs n=eH/\(fV m ds live N=eL->iZ m offs w ds name b=(7,m,w,ds))/\(fV m ds live N=eH->∃g,iZ m offs w ds name b=(0,n,w,g)/\g.length=64/\
    ∀k,aU g k=(aU ds k).map λd=>if k∈live then eu ((oh m m.next t (splitB m.p b) live k (splitB m.p b).length).map dl++aO n) (dR m d (N k))else d)):=by
 refine⟨λh=>by unfold iZ;rw[f9 h],λh=>⟨λr=>by unfold iZ;rw[g0 j7,r],λt r=>?_⟩⟩;intro live l n N;have q:bs n=eH:=ZZ D h r;obtain⟨z1,z2,z3,z4,z5⟩:=tZ h;have s:=((fp m).1 ((cY m).1 D).1)
 have M:¬m.p.1*m.p.2.2*8<(ii b:Int):=λh=>z4 (.inl h);have h8:=RZ s.2.2.1 M;have O:live≠[]:=λh=>z5 (.inl h);have u:0<=m.next/\m.next<=16777215:=⟨s.2.1.1,by have:¬16777215<m.next:=λh=>z5 (.inr (.inl h));omega⟩
 have f:live.Nodup:=DP (si D);have G:∀k∈live,0<=k/\k<64:=λk a=>js D k (mI a).1;have e:iZ m offs w ds name b=(if fV m ds live N=eL then(7,m,w,ds)else if(makes m N live w ds).1≠0 then((makes m N live w ds).1,m,(makes m N live w ds).2)else
   if(layAll l (makes m N live w ds).2.1 (makes m N live w ds).2.2).1≠0 then((layAll l (makes m N live w ds).2.1 (makes m N live w ds).2.2).1,m,(layAll l (makes m N live w ds).2.1 (makes m N live w ds).2.2).2)else
   ((layAll (bF n live) (layAll l (makes m N live w ds).2.1 (makes m N live w ds).2.2).2.1 (layAll l (makes m N live w ds).2.1 (makes m N live w ds).2.2).2.2).1,if(layAll (bF n live) (layAll l (makes m N live w ds).2.1 (makes m N live w ds).2.2).2.1 (layAll l (makes m N live w ds).2.1 (makes m N live w ds).2.2).2.2).1=0 then n else m,(layAll (bF n live) (layAll l (makes m N live w ds).2.1 (makes m N live w ds).2.2).2.1 (layAll l (makes m N live w ds).2.1 (makes m N live w ds).2.2).2.2).2)):=by
  unfold iZ;rw[g0 j7,r]
 refine⟨q,λB=>by rw[e,f9 B],λB=>?_⟩;rw[e,g0 (by rw[B];decide)];obtain⟨S,m1,m2,T⟩:=BI H (N:=N) f Q B;rw[m1]
 try dsimp only
 rw[g0 i9];have z:∀y∈l,y.1∈live:=λy o=>(Ob u O G h8 o).1;have v:∀y∈l,ii y.2=64:=λy o=>by
  obtain⟨i,hi,o⟩:=zM.1 o;obtain⟨id,hid,rfl⟩:=qx.1 o;exact MM (acZ D u.2 h8 r (qC.1 hi) (qC.1 hid))
 have c:∀k∈live,∃d,aU S k=dB d/\d.lost=eL/\(ii d.l:Int)+max (N k) 0<=d.room:=λk a=>by
  obtain⟨_,d,hd,Y⟩:=mI a;have F:=qY.1 B k a;obtain⟨Z,I,K⟩:=pV F;obtain⟨r1,r2,r3⟩:=Ig K;refine⟨dR m Z (N k),?_,r1,by rw[r2];exact r3⟩;rw[T k,I,qQ,f9 a]
 obtain⟨d2,l1,l2,U⟩:=Ih H (ds:=S) (P:=l) m2 λx j=>by
  obtain⟨d,R,J,f3⟩:=c x.1 (z x j);refine⟨v x j,d,R,J,?_⟩;have:N x.1=_:=KK _ _ _;omega
 rw[l1]
 try dsimp only
 rw[g0 i9];obtain⟨X,p1,W,V⟩:=Ih H (ds:=d2) (P:=bF n live) l2 λx j=>by
  obtain⟨E,A⟩:=kF j;obtain⟨d,R,J,f3⟩:=c x.1 E;refine⟨A,eu (kZ l x.1) d,by rw[U,R,qQ],by rw[(uS _ _).1];exact J,?_⟩;have:N x.1=_:=KK _ _ _;rw[(uS _ _).2,Ol,ol f,f9 E,qt];omega
 rw[p1];refine⟨X,i0,W,λk=>?_⟩;rw[V k,U k,T k,Option.map_map,Option.map_map];congr 1;funext d;show eu (kZ (bF n live) k) (eu (kZ l k) (if k∈live then dR m d (N k)else d))=_;rw[ol f];by_cases a:k∈live
 ·rw[f9 a,f9 a,f9 a];have L:kZ l k=(oh m m.next t (splitB m.p b) live k (splitB m.p b).length).map dl:=aaa _ _ _ _ _ _ _;rw[L,aab (Gm q)]
 ·rw[g0 a,g0 a,g0 a,Oi (P:=l) λx j (he:x.1=k)=>a (he▸z x j)];rfl
theorem Ii(l:aB)(c:ii l<=64)(s:Int):aU (ik l (bi l l.length).length) s=if s∈bi l l.length then dB (aY.new (l.getD s.toNat 0).toNat)else ez:=by
 by_cases a:0<=s/\s<64
 ·unfold aU ik;rw[f9 a,qL,zm i4,qQ,qg (qm _)];have e:((s.toNat:Nat):Int)=s:=i4
  rw[e];by_cases h:s∈bi l l.length
  ·rw[f9 h];rfl
  ·rw[g0 h];rfl
 ·rw[g0 λh=>?_]
  ·unfold aU;rw[g0 a]
  ·obtain⟨n,b,rfl,_⟩:=(tI l l.length s).1 h;omega
theorem Xc{p:Pm}{extra:Int}{l:aB}(d:ii l<=64)(f:ua p extra l=0):
  ∃D,fU p extra Pow.new l=(0,Pow.new,D)/\D.length=64/\∀s,aU D s=if s∈bi l l.length then dB ⟨(l.getD s.toNat 0).toNat,aO (cA p extra l),0,[],eL,eL⟩else ez:=by
 have k:=Oc d f;have b:(bi l l.length).Nodup:=(Cj l l.length).imp λh e=>i4
 have c:=(Ie f).2.2.2.2;rw[TU,f9 f];obtain⟨D,m,j,h3⟩:=Ih nP (ds:=ik l (bi l l.length).length) (P:=bF (cA p extra l) (bi l l.length)) (PY _ _) λx i=>by
  obtain⟨a,g⟩:=kF i;refine⟨g,aY.new (l.getD x.1.toNat 0).toNat,by rw[Ii l d,f9 a],i0,?_⟩;rw[ol b,f9 a];have:=wH.1 c x.1 a;simp only[decide_eq_true_eq]at this;show 0+_<=(l.getD x.1.toNat 0).toNat;omega
 refine⟨D,m,j,λs=>?_⟩;rw[h3,Ii l d,ol b];by_cases h:s∈bi l l.length
 ·rw[f9 h,f9 h,f9 h,qQ];unfold eu;rw[g0 (by simpa using Gm k)];rfl
 ·rw[g0 h,g0 h,g0 h];rfl
theorem Ij(m:aA):ii (aO m)=(ii (bJ m)+47)/48:=by unfold aO dg;rw[qu,zC]
theorem Xd(x:Qw.dm):(fI x).length=6+x.name.size+x.tries.length:=by unfold fI;simp[cD];omega
theorem KL{m:aA}(h:bs m=eH):ii (bJ m)=14+ii m.drives+ii (m.objs.flatMap fI):=by unfold bJ;rw[f9 h];simp only[qt,cD,zh,y5,qu];omega
theorem BJ{p:Pm}{n:Int}(h:n<=p.1*p.2.2*8):countP p n<=8:=by
 unfold countP;split
 ·rename_i a;rw[qw,decide_eq_true_eq]at a;have:=(cg p).1 a.1;have b:0<p.1*p.2.2:=Int.mul_pos i4 i4;have:(n-1)/(p.1*p.2.2)<8:=Int.ediv_lt_of_lt_mul b (by rw[Int.mul_comm 8];omega);omega
 ·decide
theorem ada{m:aA}{x:Qw.dm}(h:gC m x=eH):ii (fI x)<=26:=by
 obtain⟨a,c,h3,d,e⟩:=(jF m x).1 h;have:=BJ h3.2;have b:x.name.size<=12:=by unfold ly at a;simp at a;omega
 rw[Xd];omega
theorem JD{α β:Type}{f:α->List β}{c:Nat}:∀{l:List α},(∀x∈l,ii (f x)<=c)->ii (l.flatMap f)<=ii l*c
 |[],_=>i9
 |x::l,h=>by
  have d:=h x qP;have b:=JD (l:=l) λy a=>h y (qH _ a);rw[zj,qt,zh,wc];omega
theorem aac{m:aA}(h:bs m=eH):ii (aO m)*48<=61+ii m.drives+ii m.objs*26:=by have:=JD (f:=fI) (l:=m.objs) λx a=>ada (((cY m).1 h).2.2.2.2.1 x a);have b:=KL h;rw[Ij];omega
theorem aff{m:aA}(h:bs m=eH):ii (aO m)<=9:=by have b:=aac h;have a:=im h;have h3:=((cY m).1 h).2.2.2.1;omega
def cI(m:aA)(offs:Int)(w:Pow)(ds:aF)(n:aA):Int×aA×Pow×aF:=
 if fT w offs then(14,m,w,ds)else if !bs n||decide (n.seq≠m.seq+1)then(1,m,w,ds)else
 let live:=bu ds n.drives;let N:Int->Int:=λ_=>(ii (aO n):Int)
 if live=[]∨fV m ds live N=eL then(7,m,w,ds)else
 if(makes m N live w ds).1≠0 then((makes m N live w ds).1,m,(makes m N live w ds).2)else
 let a:=layAll (bF n live) (makes m N live w ds).2.1 (makes m N live w ds).2.2
 (a.1,if a.1=0 then n else m,a.2)
theorem il{m:aA}(h:bs m=eH):cw m:=by
 obtain⟨k,i,h3,j,c,l,p⟩:=(cY m).1 h;have o:=im h;refine⟨i4,i4,λe b=>?_⟩;obtain⟨a,f,d,q,n⟩:=(jF m e).1 (c e b);have:=BJ d.2;have g:e.name.size<=12:=by unfold ly at a;simp at a;omega
 omega
section
variable {pw:eX}
theorem Ft(x:bo)(m:aA)(z:bo)(n:aA)(hS:St B h0 As λh=>dh h z n)(hz:cw m)(l:cw n)(am:-1<=m.seq/\m.seq<=2^40)
  (H:aa B h0 h (ba bc a pw (az x) offs da w ds::aZ x m::As)):
  an xQ 77 #[xI (dB a),dq z] h λv h'=>v=xG xM (cI m offs w ds n).1/\
   ∃y,aa B h0 h' (ba bc a pw (az y) offs da (cI m offs w ds n).2.2.1 (cI m offs w ds n).2.2.2::aZ y (cI m offs w ds n).2.1::As):=by
 refine ts Tryz.func77 ?_ (.two .n (.two .n (.two (.join [] [(4,5),(11,25)] .n) (.two .n (.two .n (.two .n (.two (.join [] [(4,5),(34,44)] .n) .n))))))) (args:=[(dB a),z]);refine H.boxed λE J i=>(DG i).mono ?_;have i:=i.be;rintro _ J ⟨rfl,rfl⟩;have i:aa B h0 J (ac E 39 (az z)::ba bc a pw (az x) offs da w ds::aZ x m::As):=i;have D:dh J z n:=hS.at [_,_,_] i;have Z:dh J x m:=i.at 2 i0;refine⟨_,i0,bf (λe=>?_) λe1=>?_⟩
 ·have K:cI m offs w ds n=(14,m,w,ds):=by unfold cI;rw[f9 e]
  rw[K];exact⟨i0,x,i.aL 3 [1,2]⟩
 refine aT ?_;refine⟨z,(i.box 0 i0).aE _ i0,(Gg z n J D l).mono ?_⟩;rintro _ h3 ⟨rfl,R3⟩;have F:=i.up R3.af;have U:=D.up R3.af;have no:∀{h':f8},aa B h0 h' (ac E 39 (az z)::ba bc a pw (az x) offs da w ds::aZ x m::As)->(bs n=eL∨n.seq≠m.seq+1)->(Value.int .i64 1=xG xM (cI m offs w ds n).1/\∃y,aa B h0 h' (ba bc a pw (az y) offs da (cI m offs w ds n).2.2.1 (cI m offs w ds n).2.2.2::aZ y (cI m offs w ds n).2.1::As)):=λ{h'} d hc=>by
  have K:cI m offs w ds n=(1,m,w,ds):=by
   unfold cI;rw[g0 n5,f9];rcases hc with hc|hc
   ·rw[hc];rfl
   ·rw[g9 hc,Bool.or_true]
  rw[K];exact⟨i0,x,d.aL 3 [1,2]⟩
 refine⟨_,i0,trivial,aQ (λe=>no F (.inl e)) λe2=>?_⟩;have G:=F.box 0 i0;have Y:=(aa.cP (F.aL 2 [1,0])).2;refine⟨z.1,G.cell0 i0,a,i0,x.1,Y.cell0 i0,?_⟩
 try dsimp only
 rw[D.seq,Z.seq,ai (m.seq+1)];refine bx (λe=>no F (.inr e)) λe3=>?_;refine⟨_,G.cell i0,?_⟩;have S:=im e2;have ab:∀k∈n.drives,0<=k/\k<64:=js e2;refine(HD z.2.2.2.2.2.2.1 n.drives U.drives i4 (F.aL 2 [1,0])).mono ?_;rintro _ h5 ⟨r,rfl,R5⟩;obtain⟨live,b⟩:∃live,live=bu ds n.drives:=⟨_,rfl⟩
 rw[<-b]at R5;have ah:ii live<=64:=by rw[b];exact q9 (qR _ _) S
 have f:∀k∈live,0<=k/\k<64:=λk X=>by rw[b]at X;exact ab k (qI.1 X).1
 have H5:=(F.bN R5).aL 4 [2,3,0,1];refine⟨r,i0,z,(H5.box 3 i0).aE _ i0,(mT z n h5 (hS.at [_,_,_,_] H5) l).mono ?_⟩;rintro _ h6 ⟨pg,rfl,R6⟩;have s:=(aa.rE R6).1;have L:=ki n l;obtain⟨t,O⟩:∃t,t=ii (aO n):=⟨_,rfl⟩
 rw[<-O]at s L;have H6:=H5.up R6.af;refine⟨pg,i0,H6.alloc aj i0 λc h7 V=>?_⟩;have V:=V.be;refine V.storeAll aj 0 i0 i0 [xG xM (pg.len:Int)] i0 i0 i0 i0 λh8 o=>?_;rw[s]at o;have o:aa B h0 h8 (ba bc a pw (az x) offs da w ds::aZ x m::ac c 3 [xG xM (t:Int)]::ae 3 r 1 ak live::ac E 39 (az z)::As):=o.aL 5 [1,2,0,3,4];obtain⟨T,q⟩:∃T,T=aZ x m::ac c 3 [xG xM (t:Int)]::ae 3 r 1 ak live::ac E 39 (az z)::As:=⟨_,rfl⟩
 have tX:St B h0 T λh=>dh h x m:=by rw[q];exact St.dN 0 i0 λ_ p=>p
 have tN:St B h0 T λh=>bW h c 3 [xG xM (t:Int)]:=by rw[q];exact St.dN (A:=ac c 3 [xG xM (t:Int)]) 1 i0 λ_ p=>p.1
 have P:St B h0 T λh=>Rd h r 1 ak live:=by rw[q];exact St.dN (A:=ae 3 r 1 ak live) 2 i0 λ_ p=>p.1.seq (λ_=>rfl) p.2
 have tM:St B h0 T λh=>bW h E 39 (az z):=by rw[q];exact St.dN (A:=ac E 39 (az z)) 3 i0 λ_ p=>p.1
 have tY:St B h0 T λh=>dh h z n:=by rw[q];exact hS.cons.cons.cons.cons
 obtain⟨N,hN⟩:∃N:Int->Int,N=λ_=>(t:Int):=⟨_,rfl⟩
 have tT:St B h0 T λh=>LQ 127 #[] #[xI (dB c)] N live h:=λBs h' d k X=>by
  refine ts Tryz.func127 ?_ (args:=[(k:Int),c]);exact⟨(t:Int),(tN Bs h' d).cell0 i0,by rw[hN],Sp.refl h'⟩
 have fin:∀{h':f8} {w':Pow} {u:aF},aa B h0 h' (ba bc a pw (az x) offs da w' u::T)->aa B h0 h' (ba bc a pw (az x) offs da w' u::aZ x m::As):=λ{h' w' u} d=>by
  rw[q]at d;exact d.aL 5 [0,1]
 rw[<-q]at o;have K:cI m offs w ds n=(if live=[]∨fV m ds live N=eL then(7,m,w,ds)else
   if(makes m N live w ds).1≠0 then((makes m N live w ds).1,m,(makes m N live w ds).2)else
   ((layAll (bF n live) (makes m N live w ds).2.1 (makes m N live w ds).2.2).1,if(layAll (bF n live) (makes m N live w ds).2.1 (makes m N live w ds).2.2).1=0 then n else m,(layAll (bF n live) (makes m N live w ds).2.1 (makes m N live w ds).2.2).2)):=by
  rw[hN,O,b];unfold cI;rw[g0 n5,g0 (by rw[e2,hU (by simpa using e3)];decide)]
 rw[K];have M:=(P.at [_] o).len;refine aT (cv (λe=>?_) λe4=>?_)
 ·have:live=[]:=List.length_eq_zero_iff.1 i4;rw[f9 (.inl this)];exact⟨i0,x,fin o⟩
 have ad:live≠[]:=λh=>e4 (by rw[M,h];rfl);refine(HS 127 #[] #[xI (dB c)] N x m r live lx (λBs h' d=>⟨tX Bs h' d,tT Bs h' d⟩) hz (P.at [_] o) i4 f o).mono ?_;rintro _ h9 ⟨rfl,R9⟩;have H9:=o.up R9.af;refine⟨_,i0,aQ (λg=>?_) λg=>?_⟩
 ·rw[f9 (.inr g)];exact⟨i0,x,fin H9⟩
 rw[g0 (by rintro(h|h);exact ad h;rw[g]at h;cases h)];refine(HT 127 #[] #[xI (dB c)] N x m r live lx (λBs h' d=>⟨tX Bs h' d,tT Bs h' d,P Bs h' d⟩) hz i4 f H9).mono ?_;rintro _ al ⟨rfl,j⟩;obtain⟨Q,W⟩:∃Q,Q=makes m N live w ds:=⟨_,rfl⟩
 rw[<-W]at j⊢;refine⟨_,i0,bx (λg2=>?_) λg2=>?_⟩
 ·rw[f9 g2];exact⟨i0,x,fin j⟩
 rw[g0 (by simpa using g2)];refine⟨z,(tM.at [_] j).aE _ i0,(HV x z n r live (λBs h' d=>⟨tY Bs h' d,P Bs h' d⟩) l i4 f j).mono ?_⟩;rintro _ ao ⟨rfl,Q1,Q0⟩;refine⟨_,i0,i0,?_⟩;by_cases R:(layAll (bF n live) Q.2.1 Q.2.2).1=0
 ·obtain⟨y2,I⟩:=Q0 R;rw[f9 R];rw[q]at I;exact⟨y2,I.aL 6 [0,1]⟩
 ·rw[g0 R];exact⟨x,fin (Q1 R)⟩
end
def AF(a b c:Int):Int×Int×Int:=(1+a%6,1+b%3,1+c%9)
theorem TX(a b c:Int)(h:f8):an xQ 55 #[xG xM a,xG xM b,xG xM c] h λv h'=>v=jQ (AF a b c)/\Sp h h' []:=by
 refine tE a b c ?_;refine(Sp.refl h).alloc aj i0 λx f g=>?_;refine(cF a 6 f).mono ?_;rintro v e ⟨rfl,rfl⟩;refine⟨_,i0,(cF b 3 e).mono ?_⟩;rintro v h3 ⟨rfl,rfl⟩;refine⟨_,i0,(cF c 9 h3).mono ?_⟩;rintro v i ⟨rfl,rfl⟩;refine⟨_,i0,?_⟩
 try dsimp only
 rw[ai _,ai _,ai _];refine g.storeAll aj 0 i0 i0 [xG xM (1+a%6),xG xM (1+b%3),xG xM (1+c%9)] i0 i0 i0 i0 λj d=>?_;exact⟨AF a b c,(d.box 0 i0).aE _ i0,i0,.zip d.af⟩
theorem Xe(a b c:Int):bS (AF a b c)=eH:=by
 rw[cg];unfold AF
 try dsimp only
 omega
end Go.Qw
