/- Lemmas for the proof of the law; no condition. -/
import Derived.Test.YtplpfpidgljdhaaGreatDoorKA
import Derived.Test.YtplpfpidgljdhaaGreatDoorShelfB
import Derived.Test.YtplpfpidgljdhaaGreatDoorPlB
set_option maxHeartbeats 2000000
set_option linter.unusedVariables false
set_option maxHeartbeats 2000000
set_option linter.unusedSimpArgs false
open Go.Proofs.Tryz renaming prog -> xP
open Go.Value renaming agg -> xK, bool -> xJ, int -> xF, pointer -> xH, slice -> xG, string -> xI
open Go.IntKind renaming bits -> qH, i64 -> xL, signed -> va, u32 -> xN, u64 -> xO, u8 -> xM, wrap -> qe
open Nat renaming le_of_eq -> xr
open Int renaming tmod -> xA
open Bool renaming and_self -> xx
open List renaming all_cons -> xz, any_cons -> xj, any_nil -> xD, range -> qx, replicate -> qi, zipWith -> zf
open Option renaming some -> zW
open Go.Instr renaming storeAt -> qG
open Prod renaming fst -> qt, snd -> zh
set_option maxRecDepth 100000
open Option renaming some -> dB, none -> eH
open Bool renaming true -> eX, false -> fz
open Go renaming Addr -> f8
open Go.Qw renaming Heap -> g0
open List renaming length -> i0
namespace Go.Qw
open Go.Proofs
theorem aaG{α:Type}{h:g0}{e:TypeId}{s:Sl}{k:Nat}{f:α->aT}{l:List α}(a:Own h e s k f l)(c:l≠[]):s.ptr.isNone=fz:=by
 rcases a.head with⟨_,_,h3⟩|⟨b,rest,h1,_⟩
 ·exact absurd h3 c
 ·rw[h1];rfl
theorem Oy(p:Pm)(seed id:Int)(h:g0):an xP 230 #[jW p,xF xN seed,xF xL id] h λv h'=>∃r:Sl,v=r/\
  Sp h h' [af 5 r 1 az (if bJ p&&bW id then om (bN p).toNat seed id else[])]/\r.ptr.isNone=!(bJ p&&bW id):=by
 refine ts Tryz.func230 ?_ (.two .n (.two (.join [] [(6,7),(10,21)] .n) (.two .n (.two (.two .n (.inn (.loop [(29,aQ)] [(9,10),(29,37)] .n))) .n)))) (args:=[p,(xF xN (seed:Int)),(id:Int)]);refine(Sp.refl h).boxed λa N G=>?_;refine aW ?_;refine⟨p,(G.box 0 i4).aF _ i4,(dZ p N).mono ?_⟩;rintro v z ⟨rfl,S⟩;have m:=G.comp S;have s:(bJ p&&bW id)=fz->Sp h z [af 5 ⟨eH,0,0⟩ 1 az (if bJ p&&bW id then om (bN p).toNat seed id else[])]/\Option.isNone (eH:cj)=!(bJ p&&bW id):=λI=>by
  rw[I];exact⟨(m.nil 5 1 az).take 1 (λi A g=>by cases i with|zero=>exact g|succ i=>simp at g),i4⟩
 refine⟨_,i4,aR (λe=>⟨⟨eH,0,0⟩,i4,s o8⟩) λk=>?_⟩;refine ag (λe=>⟨⟨eH,0,0⟩,i4,s l7⟩) λW=>?_;refine ag (λe=>⟨⟨eH,0,0⟩,i4,s l7⟩) λE=>?_;have hid:bW id=eX:=l7
 refine⟨p,(m.box 0 i4).aF _ i4,(kp p z).mono ?_⟩;rintro v h3 ⟨rfl,M⟩;have J:=m.comp M;have R:=(bT p).1 k;have V:bN p=p.1+p.2.1:=by rw[bN,g9 k]
 obtain⟨n,H⟩:∃n:Nat,bN p=n:=⟨(bN p).toNat,i5⟩
 refine⟨_,i4,?_⟩
 try dsimp only
 rw[H];refine J.make aj az gz i6 0 i4 i4 n n i4 i4 (ql _) i5 λv Q U O B=>?_;refine⟨p,(B.box 0 i4).aF _ i4,(Ac p seed id Q).mono ?_⟩;rintro w T ⟨c,rfl,t⟩;rw[k,hid,H,qj]at t;rw[k,hid,qj];have u:=B.comp t;have j:=u.seq 2 i4 λ_=>rfl;have o:=j.len;obtain⟨b,d⟩:∃b,b=dD n seed id:=⟨_,rfl⟩
 have y:∀x∈b,0<=x/\x<(n:Int):=λx D=>mO i5 i5 (by rw[<-d];exact D);have F:i0 b<=n:=by rw[d];exact vU i5 i5 _ _
 simp only[xx,if_true,<-d]at u j o t;refine⟨c,i4,?_⟩;refine aq (λi:Nat=>(i:Int)) (λi h'=>i<=i0 b/\Sp h h' [ac a 36 [xF xL p.1,xF xL p.2.1,xF xL p.2.2],af 5 v 1 az (gx n (b.take i)),af 3 c 1 ak b]) (λi=>i0 b-i) 0 i4 ⟨i5,u⟩ ?_;rintro i L ⟨g,l⟩;refine ag (λe=>?_) (λe=>?_)
 ·have f:i<i0 b:=i5
  have D:=y _ (qf f);refine(l.seq 2 i4 λ_=>rfl).bt i i4 f _ i4 ?_;refine l.set aj 1 i4 (λ_=>rfl) i4 b[i].toNat i5 (by rw[pS];omega) 1 i4 i4 i4 λX K=>?_;refine⟨i+1,j1,⟨i5,?_⟩,i5⟩;have E:gx n (b.take (i+1))=(gx n (b.take i)).set b[i].toNat 1:=by rw[aD _ _ f,gx,z6];rfl
  rw[E];exact K
 ·rw[qg i5]at l;have q:Sp h L [af 5 v 1 az (gx n b)]:=(l.del 2).take 1 (λi A g=>by cases i with|zero=>exact g|succ i=>simp at g);refine⟨v,i4,?_,aaG (q.own 0 i4) λP=>?_⟩
  ·rw[d]at q;exact q
  ·have:=pS n b;rw[P]at this;simp at this;omega
theorem sC(p:Pm)(h:g0):an xP 208 #[jW p] h λv h'=>∃r:Sl,v=r/\Sp h h' [fP 58 r 1 az (if bJ p then bB p.1.toNat p.2.1.toNat else[])]:=by
 refine ts Tryz.func208 ?_ (.two .n (.two .n (.two .n (.two .n (.two (.two .n (.inn (.loop [(4,cL),(14,aQ)] [(4,8),(14,45)] (.two .n (.two .n (.two (.inn (.two .n (.two (.join [(6,cL)] [(6,7),(17,24)] .n) (.two (.two .n (.inn (.loop [(26,aQ)] [(7,8),(26,40)] .n))) .n)))) .n)))))) .n))))) [(8,(.l [0,2,3,4,5,1,6,7]))] (args:=[p]);refine(Sp.refl h).boxed λa R G=>?_;refine⟨p,(G.box 0 i4).aF _ i4,(dZ p R).mono ?_⟩;rintro v S ⟨rfl,R2⟩;have D:=G.comp R2;refine⟨_,i4,aR (λe=>⟨⟨eH,0,0⟩,i4,?_⟩) λx=>?_⟩
 ·rw[e];exact(D.HU 58 1 az).take 1 (λi A c=>by cases i with|zero=>exact c|succ i=>simp at c)
 have ab:=(bT p).1 x;have O:bN p=p.1+p.2.1:=by rw[bN,g9 x]
 obtain⟨K,hK⟩:∃K:Nat,p.1=K:=⟨p.1.toNat,i5⟩
 obtain⟨b,hH⟩:∃H:Nat,p.2.1=H:=⟨p.2.1.toNat,i5⟩
 refine(pB S).mono ?_;rintro v h3 ⟨f,rfl,P⟩;have B:=(D.comp P).HU 58 1 az;refine⟨dB f,i4,_,(B.box 0 i4).cell i4,?_⟩;refine aq (λt:Sl×Nat=>(t.1,(t.2:Int))) (λt h'=>t.2<=b/\Sp h h' [ac a 36 [xF xL p.1,xF xL p.2.1,xF xL p.2.2],ac f 308 cY,fP 58 t.1 1 az ((bB K b).take t.2)]) (λt=>b-t.2) (⟨eH,0,0⟩,0) i4 ⟨jj,B⟩ ?_;rintro⟨s,k⟩ X ⟨hk,m⟩;dsimp only at*;refine ag (λe=>?_) (λe=>?_)
 ·have ad:k<b:=i5
  refine aW ⟨p,(m.box 0 i4).aF _ i4,p.1,(m.box 0 i4).cell0 i4,?_⟩;refine(kp p X).mono ?_;rintro v I ⟨rfl,U⟩;have E:=m.comp U;refine⟨_,i4,⟨(E.box 0 i4).cell0 i4,trivial⟩,?_⟩
  try dsimp only
  rw[ai (p.1+k),O];refine(Xv _ _ I).mono ?_;rintro v h6 ⟨u,rfl,q⟩;rw[g9 i5]at q;have Q:(p.1+p.2.1).toNat=K+b:=i5
  have Y:(p.1+(k:Int)).toNat=K+k:=i5
  rw[Q,Y]at q;have z:=E.comp q;refine⟨u,i4,⟨(z.box 0 i4).cell0 i4,trivial⟩,p.1,(z.box 0 i4).cell0 i4,?_⟩;let rowAt:Nat->aL:=λj=>(qx j).map (λi=>Gf.pw ((k+1)*(i+1)%255))++((qi (K+b) (0:UInt8)).set (K+k) 1).drop j;refine aq (λj:Nat=>(j:Int)) (λj h'=>j<=K/\Sp h h' [ac a 36 [xF xL p.1,xF xL p.2.1,xF xL p.2.2],ac f 308 cY,fP 58 s 1 az ((bB K b).take k),af 5 u 1 az (rowAt j)]) (λj=>K-j) 0 i4 ⟨i5,z⟩ ?_;rintro j V ⟨hj,o⟩;refine ag (λW=>?_) (λW=>?_)
  ·have g:j<K:=i5
   have hm:(k+1)*(j+1)<=4*16:=wy i5 i5;have T:qe xL (qe xL ((k:Int)+1)*qe xL ((j:Int)+1))=(((k+1)*(j+1):Nat):Int):=by rw[ai ((k:Int)+1),ai ((j:Int)+1),show((k:Int)+1)*((j:Int)+1)=(((k+1)*(j+1):Nat):Int)by rw[wG];rfl];exact sS _
   rw[T];refine(aaF f _ V (o.box 1 i4)).mono ?_;rintro v h8 ⟨rfl,rfl⟩;refine⟨_,i4,?_⟩;have F:i0 (rowAt j)=K+b:=by simp[rowAt];omega
   refine o.set aj 3 i4 (λ_=>rfl) i4 j i4 i5 _ i4 i4 i4 λh9 w=>?_;refine⟨j+1,j1,⟨i5,?_⟩,i5⟩;have y:(rowAt j).set j (Gf.pw ((((k+1)*(j+1):Nat):Int)%255).toNat)=rowAt (j+1):=by
    have M:((((k+1)*(j+1):Nat):Int)%255).toNat=(k+1)*(j+1)%255:=i5
    rw[M];simp only[rowAt];rw[qV _ _ jj,qq,zt,qW,qK i9,zp,zB,qL,qn];rfl
   rw[<-y];exact w
  ·have g:j=K:=i5
   subst g;have y:rowAt j=lO j b k:=by
    simp only[rowAt,lO];congr 1;apply zq;intro i;rw[wP,qU,qP];by_cases c:i<b
    ·rw[zm c,qQ,zT];by_cases d:i=k
     ·subst d;simp[c]
     ·rw[hU i5,g9 i5,hU d]
    ·rw[qI (l:=qx b) i9,hU i5,zT,hU i5];rfl
   rw[y]at o;have J:=o.freeze 3 i4 λ_=>rfl;have Z:i0 ((bB j b).take k)=k:=by simp[bB];omega
   refine J.tz aj 2 3 i6 i4 i4 fv i5 λN h9 w=>?_;refine⟨(N,k+1),j0,⟨i7,?_⟩,i7⟩;have L:(bB j b).take (k+1)=(bB j b).take k++[lO j b k]:=by rw[aD _ _ (by simp[bB];omega)];simp[bB]
   try dsimp only
   rw[L];exact w.del 3
 ·refine⟨s,i4,?_⟩;rw[g9 x,hK,hH,qj,qj];rw[qg (by simp[bB];omega)]at m;exact m.take 2 (λi A c=>by cases i with|zero=>exact c|succ i=>simp at c)
theorem IA(p:Pm)(h:g0):an xP 165 #[jW p] h λv h'=>∃r:Sl,v=r/\Sp h h' [af 3 r 1 ak (upto (max 0 (min p.1 16)).toNat)]:=by
 refine ts Tryz.func165 ?_ (.two .n (.two .n (.two (.two .n (.inn (.loop [(3,cL),(9,aQ)] [(3,5),(9,17)] .n))) .n))) (args:=[p]);refine(Sp.refl h).boxed λa m d=>?_;refine⟨p.1,(d.box 0 i4).cell0 i4,?_⟩;have em:(if(if(16:Int)<p.1 then(16:Int)else p.1)>(0:Int)then(if(16:Int)<p.1 then(16:Int)else p.1)else(0:Int))=((max 0 (min p.1 16)).toNat:Int):=by split<;>split<;>omega
 try dsimp only
 rw[em];generalize q:(max 0 (min p.1 16)).toNat=N;have f:N<=16:=i5
 refine aq (λt:Sl×Nat=>(t.1,(t.2:Int))) (λt h'=>t.2<=N/\Sp h h' [emp,af 3 t.1 1 ak (upto t.2)]) (λt=>N-t.2) (⟨eH,0,0⟩,0) i4 ⟨jj,(d.eJ 0 i4 λ_ _=>trivial).nil 3 1 ak⟩ ?_;rintro⟨s,k⟩ o ⟨u,c⟩;dsimp only at*;refine ag (λe=>?_) (λe=>?_)
 ·refine c.push aj 1 i4 fN i4 i6 (λ_=>rfl) eS (k:Int) i4 i6 sz λj h3 g=>?_;refine⟨(j,k+1),j0,⟨i7,?_⟩,i7⟩;have l:upto (k+1)=upto k++[(k:Int)]:=by simp[upto,zB]
  dsimp only;rw[l];exact g
 ·have:k=N:=i5
  subst this;exact⟨s,i4,c.take 1 λi A b=>by cases i with|zero=>exact b|succ i=>simp at b⟩
theorem Gb(p:Pm)(seed:Int)(ids:Sl)(l:aB)(h:g0)(z:Rd h ids 1 ak l)(G:i0 l<=2^30):an xP 164 #[jW p,xF xN seed,ids] h λv h'=>∃r:Sl,v=r/\Sp h h' [fP 58 r 1 az (dV p seed l)]:=by
 refine ts Tryz.func164 ?_ (.two .n (.two .n (.two (.two .n (.inn (.loop [(7,cL),(15,aQ)] [(7,8),(9,11),(15,30)] .n))) .n))) (args:=[p,(xF xN (seed:Int)),ids]);refine(Sp.refl h).boxed λa B E=>?_;refine⟨p,(E.box 0 i4).aF _ i4,(sC p B).mono ?_⟩;rintro v I ⟨r,rfl,L⟩;have y:=E.comp L;refine⟨r,i4,?_⟩;have D:=z.len;let at_:Nat->bP:=λk=>dV p seed (l.take k);have h0:(if bJ p then bB p.1.toNat p.2.1.toNat else[])=at_ 0:=by simp[at_,dV]
 rw[h0]at y;refine aq (λt:Sl×Nat=>(t.1,(t.2:Int))) (λt h'=>t.2<=i0 l/\Sp h h' [ac a 36 [xF xL p.1,xF xL p.2.1,xF xL p.2.2],fP 58 t.1 1 az (at_ t.2)]) (λt=>i0 l-t.2) (r,0) i4 ⟨jj,y⟩ ?_;rintro⟨s,k⟩ h3 ⟨O,g⟩;dsimp only at*;refine ag (λe=>?_) (λe=>?_)
 ·have d:k<i0 l:=i5
  refine(Seq.up z g.ae).bt k i4 d _ i4 ?_;refine⟨p,(g.box 0 i4).aF _ i4,(Oy p seed l[k] h3).mono ?_⟩;rintro v N ⟨w,rfl,K,c⟩;have q:=(g.comp K).freeze 2 i4 λ_=>rfl;refine⟨w,i4,?_⟩;have o:i0 (at_ k)<=4+k∨at_ k=[]:=by
   by_cases u:bJ p
   ·left;have:=(bT p).1 u;have B:=qS bW (l.take k);have I:=List.length_take_le k l;simp only[at_,dV,u,if_true,qw,qq,bB,zt];omega
   ·right;simp[at_,dV,u]
  have j:i0 (at_ k)+1<=2^32:=by
   rcases o with h|h
   ·omega
   ·rw[h];simp
  try dsimp only
  refine aR (λf=>?_) (λf=>?_)
  ·rw[c]at f;have b:(bJ p&&bW l[k])=eX:=pb
   rw[b,g9 rfl]at q;refine q.tz aj 1 2 i6 i4 i4 fv j λH M J=>?_;refine⟨(H,k+1),j0,⟨i7,?_⟩,i7⟩;rw[qy]at b;have m:at_ (k+1)=at_ k++[om (bN p).toNat seed l[k]]:=by simp only[at_,dV,b.1,if_true];rw[oq d,g9 b.2,qL,qn];rfl
   try dsimp only
   rw[m];exact J.del 2
  ·rw[c]at f;have b:(bJ p&&bW l[k])=fz:=by
    cases hh:(bJ p&&bW l[k])with
    |false=>rfl
    |true=>rw[hh]at f;cases f
   refine⟨(s,k+1),j0,⟨i7,?_⟩,i7⟩;have m:at_ (k+1)=at_ k:=by
    simp only[at_,dV];rw[Bool.and_eq_false_iff]at b;rcases b with h|h
    ·simp[h]
    ·have F:(l.take (k+1)).filter bW=(l.take k).filter bW:=by rw[oq d,hU tr]
     rw[F]
   try dsimp only
   rw[m];exact q.del 2
 ·refine⟨s,i4,?_⟩;have m:at_ k=dV p seed l:=by simp only[at_];rw[qg i5]
  rw[m]at g;exact g.take 1 (λi A x=>by cases i with|zero=>exact x|succ i=>simp at x)
theorem mX(a:Sl)(m:aJ)(n:Nat)(h:g0)(b:eT h a 1 az m)(i:aS n m)(s:n<=64:=by omega)(q:i0 m<=2^30:=by omega):an xP 222 #[a] h λv h'=>v=xJ eX/\h'=h:=by
 refine ts Tryz.func222 ?_ (.two .n (.two (.two .n (.inn (.loop [(7,aQ)] [(2,3),(4,5),(7,24)] .n))) .n));have l:=b.len;refine aq (λk:Nat=>(k:Int)) (λk h'=>h'=h/\k<=i0 m) (λk=>i0 m-k) 0 i4 ⟨i4,i5⟩ ?_;rintro k h' ⟨rfl,p⟩;refine ag (λe=>?_) λe=>⟨i4,i4⟩;have d:k<i0 m:=i5
 refine b.get k i4 d λr j=>?_;refine b.get 0 i4 i5 λo c=>?_;have f:=j.len;have g:=c.len;rw[i _ (qf _)]at f g;refine bx (λe=>i5) λ_=>ag (λe=>i5) λ_=>?_;exact⟨k+1,j1,⟨i4,i5⟩,i5⟩
theorem uz(a:Sl)(m:aJ)(n:Nat)(h:g0)(d:eT h a 1 az m)(p:aS n m)(F:n<=64:=by omega)(E:i0 m<=2^30:=by omega):an xP 224 #[a] h λv h'=>∃(r:Sl) (rs:List Sl),v=r/\rs.length=i0 m/\Sp h h' (af 58 r 1 bg rs::bv 5 1 az rs m):=by
 refine ts Tryz.func224 ?_ (.two .n (.two .n (.two (.two .n (.inn (.loop [(3,cL),(11,aQ)] [(3,4),(5,6),(11,21)] .n))) .n)));have y:=d.len;refine(Sp.refl h).make aj bg fv i6 ⟨eH,0,0⟩ i4 i4 0 m.length i4 i5 i5 i5 λs A u z x=>?_;refine aq (λt:Sl×List Sl=>(t.1,(i0 t.2:Int))) (λt h'=>i0 t.2<=i0 m/\Sp h h' (af 58 t.1 1 bg t.2::bv 5 1 az t.2 (m.take t.2.length))) (λt=>i0 m-i0 t.2) (s,[]) i4 ⟨jj,by simpa[bv]using x⟩ ?_;rintro⟨s,rs⟩ j ⟨D,c⟩;dsimp only at*;refine ag (λe=>?_) (λe=>?_)
 ·have b:i0 rs<i0 m:=i5
  refine(d.up c.ae).get rs.length i4 b λr q=>?_;have o:m[i0 rs].length=n:=p _ (qf _);refine(fw r _ j q i5).mono ?_;rintro v h3 ⟨w,rfl,i⟩;have f:=c.comp i;refine⟨w,i4,?_⟩;refine f.push aj 0 i4 fv i4 i6 (λ_=>rfl) jQ w i4 i6 i5 λg B k=>?_;refine⟨(g,rs++[w]),by dsimp only;rw[ai _];simp,⟨i9,?_⟩,i9⟩
  try dsimp only
  rw[show(rs++[w]).length=i0 rs+1 by simp,aD _ _ b,tZ (by rw[List.length_take];omega)];exact k
 ·have l:m.take rs.length=m:=qg i5;rw[l]at c;exact⟨s,rs,i4,i5,c⟩
theorem rk(a:Sl)(m:aJ)(h:g0)(b:eT h a 1 az m):an xP 223 #[a] h λv h'=>v=xF xL (eU m)/\h'=h:=by
 refine ts Tryz.func223 ?_;have d:=b.len;refine cH (λe=>?_) (λe=>?_)
 ·have:m=[]:=q9 i5;subst this;exact⟨i4,i4⟩
 ·refine b.get 0 i4 i5 λr c=>⟨?_,i4⟩
  rw[c.len,eU,bw i5]
theorem Oz{r:Row}{c:Nat}(h:c<i0 r:=by omega):aK r c=r[c]:=by rw[aK,qd,qc h];rfl
theorem QL(a:Sl)(m:aJ)(n b bu:Nat)(h:g0)(q:eT h a 1 az m)(u:aS n m)(y:bu<n)(z:i0 m<=2^30):
  an xP 289 #[a,xF xL b,xF xL bu] h λv h'=>v=xF xL (match je m b bu with|some i=>(i:Int)|none=>-1)/\h'=h:=by
 refine ts Tryz.func289 ?_ (.two .n (.scope 0 [(7,aQ)] [(6,8),(9,24)] [.n] [.n] [(1,[.n])]));have x:=q.len;refine aq (λk:Nat=>(k:Int)) (λk h'=>h'=h/\b<=k/\k<=max b m.length/\∀j,j<k->(decide (b<=j)&&(aK (aC m j) bu !=0))=fz) (λk=>i0 m-k) b i4 ⟨i4,i5,i5,λj g=>by rw[hZ i5];rfl⟩ ?_;rintro k h' ⟨rfl,p,s,g⟩;refine ag (λe=>?_) (λe=>?_)
 ·rw[je,TR λj f=>g j i5];exact⟨i4,i4⟩
 ·have d:k<i0 m:=i5
  have t:m[k].length=n:=u _ (qf _);refine q.get k i4 d λr w=>?_;refine w.bt bu i4 i5 _ i4 ?_;have c:aK (aC m k) bu=m[k][bu]'(by omega):=by rw[bw d,Oz]
  refine bx (λl=>?_) (λl=>?_)
  ·have o:(decide (b<=k)&&(aK (aC m k) bu !=0))=eX:=by rw[hY p,c];simp;exactλh0=>l (by rw[h0];rfl)
   rw[je,TS d g o];exact⟨i4,i4⟩
  ·refine⟨k+1,j1,⟨i4,i5,i5,λj f=>?_⟩,i5⟩;rcases Nat.lt_succ_iff_lt_or_eq.1 f with h1|rfl
   ·exact g j h1
   ·rw[c,AD.1 l];simp
theorem IB(f:f8)(c:UInt8)(a:Sl)(l:Row)(h:g0)(i:fI h f)(j:Rd h a 1 az l)(B:i0 l<=2^30):an xP 290 #[xH (dB f),xF xM c.toNat,a] h λv h'=>∃r:Sl,v=r/\Sp h h' [af 5 r 1 az (scaleB c l)]:=by
 refine ts Tryz.func290 ?_ (.two .n (.two .n (.two .n (.two (.two .n (.inn (.loop [(17,aQ)] [(8,10),(17,30)] .n))) .n))));have w:=j.len;refine(Mf f h).mono ?_;rintro v m ⟨rfl,rfl⟩;refine⟨dB f,i4,?_⟩;refine(Sp.refl m).make aj az gz i6 0 i4 i4 l.length l.length i5 i5 (ql _) i5 λs y t x o=>?_;refine aq (λk:Nat=>(k:Int)) (λk h'=>k<=i0 l/\Sp m h' [af 5 s 1 az ((l.take k).map (Gf.mul c)++qi (i0 l-k) 0)]) (λk=>i0 l-k) 0 i4 ⟨i5,by simpa using o⟩ ?_;rintro k h3 ⟨A,b⟩;refine ag (λe=>?_) (λe=>?_)
 ·have d:k<i0 l:=i5
  refine(Seq.up j b.ae).bt k i4 d _ i4 ?_;refine(Hb f c l[k] h3 (i.ae b.ae i.lt)).mono ?_;rintro v z ⟨rfl,rfl⟩;refine⟨_,i4,?_⟩;refine b.set aj 0 i4 (λ_=>rfl) i4 k i4 i9 _ i4 i4 i4 λu p=>?_;refine⟨k+1,j1,⟨i5,?_⟩,i5⟩;have g:i0 ((l.take k).map (Gf.mul c))=k:=i9
  have q:((l.take k).map (Gf.mul c)++qi (i0 l-k) 0).set k (Gf.mul c l[k])=(l.take (k+1)).map (Gf.mul c)++qi (i0 l-(k+1)) 0:=by rw[qV _ _ i5,g,qW,show l.length-k=i0 l-(k+1)+1 by omega,List.replicate_succ,zp,aD _ _ d,qL,qn];rfl
  rw[<-q];exact p
 ·have:k=i0 l:=i5
  subst this;refine⟨s,i4,?_⟩;rw[qg (ql _),qW,List.replicate_zero,qE]at b;exact b
theorem uA{c:UInt8}{a t:Row}(d:i0 a=i0 t){k:Nat}(b:k<i0 t):(zf (λx y=>y^^^Gf.mul c x) (a.take k) (t.take k)++t.drop k).set k (t[k]^^^Gf.mul c (a[k]'(by omega)))=zf (λx y=>y^^^Gf.mul c x) (a.take (k+1)) (t.take (k+1))++t.drop (k+1):=by
 have e:i0 (zf (λx y=>y^^^Gf.mul c x) (a.take k) (t.take k))=k:=i9
 rw[qV _ _ i5,e,qW,qK b,zp,aD _ _ b,aD _ _ (show k<i0 a by omega),yM i9];simp
theorem aaH(f:f8)(c:UInt8)(a l:Sl)(d lt:Row)(h:g0)(E:fI h f)(s:¬l.on f.block)(B:Seq h (λb=>¬l.on b) a 1 az d)(t:Own h 5 l 1 az lt)(o:i0 d=i0 lt)(L:i0 d<=2^30):
  an xP 292 #[xH (dB f),xF xM c.toNat,a,l] h λv h'=>v=.tuple #[]/\Own h' 5 l 1 az (cV c d lt)/\aP (λb=>¬l.on b) h h':=by
 refine ts Tryz.func292 ?_ (.two .n (.two .n (.inn (.loop [(14,aQ)] [(8,10),(14,30)] .n))));have J:=B.len;have F:=t.len;refine cH (λe=>?_) (λ_=>?_)
 ·have G:c=0:=AD.1 e;subst G;have:cV 0 d lt=lt:=by apply List.ext_getElem (by rw[bZ o]);intro i D H;simp[cV,Gf.zero_mul]
  exact⟨i4,by rw[this];exact t,aP.refl _ _⟩
 ·refine aq (λk:Nat=>(k:Int)) (λk h'=>k<=i0 d/\Own h' 5 l 1 az (zf (λx y=>y^^^Gf.mul c x) (d.take k) (lt.take k)++lt.drop k)/\aP (λb=>¬l.on b) h h') (λk=>i0 d-k) 0 i4 ⟨i5,by simpa using t,aP.refl _ _⟩ ?_;rintro k D ⟨K,j,g⟩;refine ag (λe=>?_) (λe=>?_)
  ·have z:k<i0 d:=i5
   have A:k<i0 lt:=i5
   have q:i0 (zf (λx y=>y^^^Gf.mul c x) (d.take k) (lt.take k))=k:=i9
   have I:i0 (zf (λx y=>y^^^Gf.mul c x) (d.take k) (lt.take k)++lt.drop k)=i0 lt:=by rw[qw,q,List.length_drop];omega
   refine(B.ae g).bt k i4 z _ i4 ?_;have m:(zf (λx y=>y^^^Gf.mul c x) (d.take k) (lt.take k)++lt.drop k)[k]'(by omega)=lt[k]:=by rw[List.getElem_append_right i5];simp[q]
   refine(j.seq (p:=λ_=>True) (λ_=>rfl) λ_ _=>trivial).mE k i4 i5 _ i4 λax r=>?_;rw[m]at r⊢;refine(Hb f c d[k] D (E.ae g s)).mono ?_;rintro v H ⟨rfl,rfl⟩;refine⟨_,i4,⟨r,trivial⟩,?_⟩
   try dsimp only
   rw[nU];refine j.set aj (λ_=>rfl) i4 k i4 i5 _ i4 i4 i4 λh3 w u _=>⟨trivial,?_⟩
   refine⟨k+1,j1,⟨i5,?_,g.trans u⟩,i5⟩;rw[<-uA o A];exact w
  ·have:k=i0 d:=i5
   subst this;rw[qg (ql _),qg i5,zc i5,qE]at j;exact⟨i4,j,g⟩
abbrev nM(a:Sl)(rs:List Sl)(m:aJ):List HP:=af 58 a 1 bg rs::bv 5 1 az rs m
theorem oK{a:Sl}{rs:List Sl}{m:aJ}(c:i0 rs=i0 m)(i:Nat)(b:i<i0 m):(nM a rs m)[i+1]?=dB (af 5 (rs[i]'(by omega)) 1 az m[i]):=by rw[qp];exact ie c i b
theorem oL{h h':g0}{a:f8}{v:Value}(c:cellOf h a=dB v)(d:aP (λb=>b<h.size) h h'):cellOf h' a=dB v:=d.cell (dC c) c
theorem Xz{B:aw}{E:g0}{f:f8}(Q:fI E f)(A:B f.block){a:Sl}{n c bu:Nat}{rs:List Sl}{m:aJ}(V:i0 rs=i0 m)(hm:aS n m)(hc:bu<n)(hn:n<=64)(X:c<i0 m)(hs:i0 m<=2^30)
  {h:g0} (H:aa B E h (nM a rs m)) {K:g0->Prop} (hk:∀h',aa B E h' (nM a rs (fh c bu m m.length))->K h'):
 gK (σ:=Int) (λd W i=>
 Br (decide (d<((a.len:Nat):Int)))
 (Br (d !=(c:Int))
 (∃t:f8,(a.ptr=dB t/\0<=d/\d<((a.len:Nat):Int))/\
 ∃g:Sl,cellOf i (t.add (d.toNat*1))=dB (xG g.ptr g.len g.cap)/\
 ∃I:f8,(g.ptr=dB I/\0<=(bu:Int)/\(bu:Int)<((g.len:Nat):Int))/\
 ∃y:Int,cellOf i (I.add ((bu:Int).toNat*1))=dB (xF xM y)/\
 ∃a25:f8,(a.ptr=dB a25/\0<=(c:Int)/\(c:Int)<((a.len:Nat):Int))/\
 ∃l:Sl,cellOf i (a25.add ((c:Int).toNat*1))=dB (xG l.ptr l.len l.cap)/\
 ∃G:f8,(a.ptr=dB G/\0<=d/\d<((a.len:Nat):Int))/\
 ∃j:Sl,cellOf i (G.add (d.toNat*1))=dB (xG j.ptr j.len j.cap)/\
 oU xP 292 #[(xH (dB f)),(xF xM y),(xG l.ptr l.len l.cap),(xG j.ptr j.len j.cap)] (.many []) i λ_ D=>
 (bR.ok [(t.add (d.toNat*1),(xG g.ptr g.len g.cap))] D)/\
 W (qe xL (d+(1:Int))) D)
 (W (qe xL (d+(1:Int))) i))
 (K i)) (0:Int) h:=by
 have ab:a.len=i0 m:=by rw[(H.own 0 i4).len,V]
 refine aq (λk:Nat=>(k:Int)) (λk h'=>k<=i0 m/\aa B E h' (nM a rs (fh c bu m k))) (λk=>i0 m-k) 0 i4 ⟨i5,by rw[Wq];exact H⟩ ?_;rintro k Y ⟨ad,o⟩;have T:=ou c bu m k;have r:i0 rs=i0 (fh c bu m k):=by rw[T];exact V
 refine ag (λe=>?_) (λe=>?_)
 ·have w:k<i0 m:=i5
  refine bx (λZ=>?_) (λZ=>?_)
  ·have x:k≠c:=λhh=>Z (by rw[hh]);have O:aC (fh c bu m k) k=aC m k:=by rw[pT w,hU i5]
   have P:aC (fh c bu m k) c=aC m c:=by rw[pT X,hU i5]
   have e4:(fh c bu m k)[k]'(by omega)=aC m k:=by rw[<-O,bw]
   have e5:(fh c bu m k)[c]'(by omega)=aC m c:=by rw[<-P,bw]
   have s:=oK (a:=a) r k i5;have gt:=oK (a:=a) r c i5;rw[e4]at s;rw[e5]at gt;have lk:=cC hm w;have lt:=cC hm X;have q:=o.off (k+1) 0 i5 s i4;have u:=q.1.seq (λ_=>rfl) q.2;refine u.mB k i4 i5 λa1 N R=>?_;have L:=o.seq (k+1) s λ_=>rfl;refine L.bt bu i4 i5 _ i4 ?_;refine u.mB c i4 i5 λ_ _ _=>?_;refine u.mB k i4 i5 λ_ _ _=>?_;have J:(lm (rs[c]'(by omega)) 1 az (aC m c)).p Y (λb=>¬(rs[k]'(by omega)).on b):=by have:=o.off (k+1) (c+1) i5 s gt;exact(this.1.seq (λ_=>rfl) this.2).mono λb hb=>hb.2
   refine(aaH f _ _ _ (aC m c) (aC m k) Y (Q.ae o.ae A) (o.base (k+1) s A) J (o.own (k+1) s) i5 i5).mono ?_;rintro v h2 ⟨rfl,M,z⟩;have U:=o.nr (k+1) s z M;have S:=z.cell R.2 N;refine⟨(),i4,⟨S,trivial⟩,?_⟩;refine⟨k+1,j1,⟨i5,?_⟩,i5⟩;rw[Wr w x];show aa B E h2 (af 58 a 1 bg rs::bv 5 1 az rs ((fh c bu m k).set k _));rw[<-Nl r k i5];have F:(aC m k)[bu]'(by omega)=aK (aC m k) bu:=(Oz).symm;rw[F]at U;exact U
  ·have x:k=c:=i5
   subst x;exact⟨k+1,j1,⟨i5,by rw[Ws];exact o⟩,i5⟩
 ·have:k=i0 m:=i5
  subst this;exact hk _ o
theorem OA{rs:List Sl}{m:aJ}(a:i0 rs=i0 m)(i j:Nat)(b:i<i0 m)(c:j<i0 m):
  ((bv 5 1 az rs m).set i (af 5 (rs[j]'(by omega)) 1 az m[j])).set j (af 5 (rs[i]'(by omega)) 1 az m[i])=bv 5 1 az ((rs.set i (rs[j]'(by omega))).set j (rs[i]'(by omega))) (ju m i j):=by
 rw[kN a,kN k7,ju,bw b,bw c]
theorem AE{B:aw}{u:g0}{f:f8}(N:fI u f)(T:B f.block){a:Sl}{n cZ:Nat}{rs:List Sl}{m:aJ}(hl:i0 rs=i0 m)(hm:aS n m)(hc:cZ<=n)(hn:n<=64)(hs:i0 m<=2^30)
  {h:g0} (H:aa B u h (nM a rs m)):an xP 225 #[xH (dB f),a,xF xL cZ] h λv h'=>
   ∃S:List Sl,v=xF xL (bH m cZ).1/\S.length=i0 m/\aa B u h' (nM a S (bH m cZ).2):=by
 have ao:a.len=i0 m:=by rw[(H.own 0 i4).len,hl]
 refine ts Tryz.func225 ?_ (.two .n (.two .n (.two (.two .n (.inn (.loop [(7,aQ),(12,aQ)] [(7,11),(12,82)] (.two .n (.two .n (.two (.inn (.two .n (.two .n (.two .n (.two (.join [] [(21,35)] .n) (.two (.join [] [(35,53)] .n) (.two (.two .n (.inn (.loop [(55,aQ)] [(10,11),(55,79)] .n))) .n))))))) .n)))))) .n))) [(8,(.l [0,1,2,3,4,5,6,7,8,9,10,12,13,14,15,11,16,17,18]))];refine aq (λt:List Sl×Nat=>(((bH m t.2).1:Int),(t.2:Int))) (λt h'=>t.2<=cZ/\t.1.length=i0 m/\aa B u h' (nM a t.1 (bH m t.2).2)) (λt=>cZ-t.2) (rs,0) i4 ⟨jj,hl,H⟩ ?_;rintro⟨c,bu⟩ h1 ⟨hk,O,L⟩;dsimp only at*;have z:=ig hm bu;have G:=BG m bu;obtain⟨st,w⟩:∃st,st=bH m bu:=⟨_,rfl⟩
 rw[<-w]at z G L⊢;obtain⟨b,o⟩:=st;dsimp only at z G L⊢;have x:i0 c=i0 o:=i5
 have d:bH m (bu+1)=jv (b,o) bu:=by rw[bH,<-w]
 refine ag (λe=>?_) (λe=>?_)
 ·have P:bu<n:=i5
  have Q:eT h1 a 1 az o:=L.Nm x λ_=>rfl;refine(QL a o n b bu h1 Q z.1 P i5).mono ?_;rintro v h2 ⟨rfl,rfl⟩;refine⟨_,i4,?_⟩
  try dsimp only
  cases hb:je o b bu with
  |none=>
   refine ag (λ_=>?_) λZ=>absurd i6 Z;refine⟨(c,bu+1),?_,⟨i7,O,?_⟩,i7⟩
   ·(try dsimp only);rw[d,jv,hb,ai _];rfl
   ·(try dsimp only);rw[d,jv,hb];exact L
  |some i=>
   have hh:=rD hb;refine ag (λZ=>absurd (show((i:Nat):Int)<0 from Z) i5) (λ_=>?_)
   try dsimp only
   have J:b<i0 o:=i5
   have hi:=hh.2.1;have W:=L.seq 0 i4 λ_=>rfl;refine aW ?_;refine W.mB i i4 i5 λ_ _ _=>?_;refine W.mB b i4 i5 λ_ _ _=>?_;refine L.set aj 0 i4 (λ_=>rfl) i4 b i4 i5 (c[i]'(by omega)) i4 i4 i4 λh3 H3=>⟨trivial,?_⟩
   refine H3.set aj 0 i4 (λ_=>rfl) i4 i i4 i9 (c[b]'(by omega)) i4 i4 i4 λX H4=>⟨trivial,?_⟩
   have p:aa B u X (nM a ((c.set b (c[i]'(by omega))).set i (c[b]'(by omega))) (ju o b i)):=by have:=H4.aci (b+1) (i+1) (A:=af 5 (c[b]'(by omega)) 1 az o[b]) (A2:=af 5 (c[i]'(by omega)) 1 az o[i]) (ie x b J) (ie x i hi);show aa B u X (af 58 a 1 bg _::bv 5 1 az _ _);rw[<-OA x b i J hi];exact this
   obtain⟨k,E⟩:∃k,k=(c.set b (c[i]'(by omega))).set i (c[b]'(by omega)):=⟨_,rfl⟩
   rw[<-E]at p;have am:i0 k=i0 o:=by rw[E];simp;omega
   obtain⟨g,y⟩:∃g,g=ju o b i:=⟨_,rfl⟩
   have I:aS n g:=by rw[y];exact DA z.1 J hi
   have V:i0 g=i0 o:=by rw[y];exact lJ _ _ _
   rw[<-y]at p;have q:i0 k=i0 g:=i5
   have j:b<i0 g:=i5
   refine aW ?_;have gt:=oK (a:=a) q b j;have lt:g[b].length=n:=I _ (qf _);have R:=p.seq 0 i4 λ_=>rfl;refine R.mB b i4 i5 λal D _=>?_;have F:=p.seq (b+1) gt λ_=>rfl;refine F.bt bu i4 i5 _ i4 ?_;refine R.mB b i4 i5 λah M _=>?_;have U:fI X f:=N.ae p.ae T;refine(aaE f _ X U).mono ?_;rintro v h5 ⟨rfl,rfl⟩;refine⟨_,i4,⟨M,D,trivial⟩,?_⟩;refine(IB f _ _ _ h5 U F i5).mono ?_;rintro v h6 ⟨r,rfl,R6⟩;refine⟨r,i4,⟨oL D R6.ae,trivial⟩,?_⟩;have H6:=p.comp R6
   try dsimp only
   refine H6.set aj 0 i4 (λ_=>rfl) i4 b i4 i5 r i4 i4 i4 λh7 H7=>⟨trivial,?_⟩
   have Y:g[b]=aC g b:=(bw j).symm;have ad:(g[b])[bu]'(by omega)=aK (aC g b) bu:=by rw[Oz (by rw[bw j];omega)];simp only[bw j]
   have ab:aa B u h7 (nM a (k.set b r) (ke b bu g)):=by have h8:aa B u h7 ((af 58 a 1 bg (k.set b r)::bv 5 1 az k g)++[af 5 r 1 az (scaleB (Gf.inv ((g[b])[bu]'(by omega))) g[b])]):=H7;have h9:=h8.afa (b+1) (by simp[FU q];omega);rw[ad,Y]at h9;show aa B u h7 (af 58 a 1 bg _::bv 5 1 az _ (g.set b _));rw[<-kN q];exact h9
   have K:i0 (ke b bu g)=i0 g:=ot _ _ _;refine Xz N T i9 (vV I j) P hn i5 i5 ab λh8 H8=>?_;have s:jv (b,o) bu=(b+1,fh b bu (ke b bu g) o.length):=by rw[jv];(try dsimp only);rw[hb,y]
   refine⟨(k.set b r,bu+1),?_,⟨i7,i9,?_⟩,i7⟩
   ·(try dsimp only);rw[d,s,ai _,ai _];rfl
   ·(try dsimp only);rw[d,s];rw[K,V]at H8;exact H8
 ·have:bu=cZ:=i5
  subst this;exact⟨c,by rw[<-w],O,by rw[<-w];exact L⟩
theorem Gc(f:f8)(a:Sl)(m:aJ)(n:Nat)(h:g0)(s:fI h f)(w:eT h a 1 az m)(i:aS n m)(q:n<=64)(o:i0 m<=2^30):
  an xP 276 #[xH (dB f),a] h λv h'=>∃(r:Sl) (rs:List Sl),v=r/\r.len=ce m/\rs.length=i0 m/\r.len<=i0 m/\Sp h h' (nM ⟨r.ptr,i0 m,r.cap⟩ rs (bH m (eU m)).2):=by
 refine ts Tryz.func276 ?_;refine(mX a m n h w i q o).mono ?_;rintro v B ⟨rfl,rfl⟩;refine⟨_,i4,aR (λe=>j3) λ_=>?_⟩;refine(uz a m n B w i q o).mono ?_;rintro v D ⟨r,rs,rfl,u,z⟩;refine⟨r,i4,(sB f D).mono ?_⟩;rintro v h3 ⟨rfl,rfl⟩;refine⟨dB f,i4,(rk r m h3 (z.Nm u λ_=>rfl)).mono ?_⟩;rintro v F ⟨rfl,rfl⟩;have A:eU m<=n:=by
  cases m with
  |nil=>simp[eU,aC]
  |cons x t=>rw[eU,bw jj];exact xr (i _ jj)
 refine⟨_,i4,(AE s s.lt u i A q o z).mono ?_⟩;rintro v E ⟨j,rfl,g,k⟩;have b:=BG m (eU m);rw[(ig i _).2]at b;have y:=(k.own 0 i4).cap;have d:=(k.own 0 i4).len;refine⟨_,i4,⟨z8 _,yP.2 (show(bH m (eU m)).1<=r.cap by omega)⟩,⟨r.ptr,(bH m (eU m)).1,r.cap⟩,j,jj,i4,g,b,?_⟩;have:r=⟨r.ptr,i0 m,r.cap⟩:=by obtain⟨p,l,c⟩:=r;simp only at d⊢;rw[<-g,<-d]
 rw[<-this];exact k
theorem XA(f:f8)(a:Sl)(m:aJ)(n:Nat)(h:g0)(b:fI h f)(c:eT h a 1 az m)(e:aS n m)(j:n<=64)(i:i0 m<=2^30):
  an xP 250 #[xH (dB f),a] h λv h'=>v=xF xL (ce m)/\Sp h h' []:=by
 refine ts Tryz.func250 ?_;refine(Gc f a m n h b c e j i).mono ?_;rintro v k ⟨r,rs,rfl,g,_,_,d⟩;exact⟨r,i4,by rw[g],.zip d.ae⟩
theorem He(p:Pm)(seed:Int)(ids:Sl)(l:aB)(h:g0)(j:Rd h ids 1 ak l)(i:i0 l<=2^29):an xP 192 #[jW p,xF xN seed,ids] h λv h'=>v=xF xL (wX p seed l)/\Sp h h' []:=by
 refine ts Tryz.func192 ?_ .n [(1,(.l [1,2,3,0,4,5,6]))] (args:=[p,(xF xN (seed:Int)),ids]);refine(Sp.refl h).boxed λa m g=>?_;refine⟨p,(g.box 0 i4).aF _ i4,(pB m).mono ?_⟩;rintro v o ⟨f,rfl,u⟩;have c:=g.comp u;have e:=c.box 0 i4;refine⟨dB f,i4,⟨e.cell0 i4,e.cell i4,e.cell i4,trivial⟩,?_⟩;refine(Gb p seed ids l o (Seq.up j c.ae) i5).mono ?_;rintro v h3 ⟨r,rfl,k⟩;have b:=c.comp k;refine⟨r,i4,trivial,?_⟩;have t:=aaa p seed l;have d:(bN p).toNat<=64:=by
  unfold bN;split
  ·rename_i q;have:=(bT p).1 q;omega
  ·omega
 refine(XA f r _ _ h3 (b.box 1 i4) (b.Dt 2 i4) (mS p seed l) d i5).mono ?_;rintro v w ⟨rfl,s⟩;exact⟨_,i4,trivial,i4,.zip (b.comp s).ae⟩
theorem Lo(p:Pm)(seed:Int)(ids:Sl)(l:aB)(h:g0)(j:Rd h ids 1 ak l)(d:i0 l<=2^29):an xP 137 #[jW p,xF xN seed,ids] h λv h'=>v=xJ (fR p seed l)/\Sp h h' []:=by refine ts Tryz.func137 ?_ .n [(1,(.l [0,1,2,3,4,5,7,6,8,9,10,11]))] (args:=[p,(xF xN (seed:Int)),ids]);refine(Sp.refl h).boxed λa m i=>?_;refine⟨p,(i.box 0 i4).aF _ i4,(dZ p m).mono ?_⟩;rintro v o ⟨rfl,r⟩;have c:=i.comp r;refine⟨_,i4,trivial,bo (λe=>?_) λe=>⟨trivial,trivial,by rw[fR,e];rfl,.zip c.ae⟩⟩;have g:=c.box 0 i4;refine⟨p,g.aF _ i4,p,g.aF _ i4,(He p seed ids l o (Seq.up j c.ae) d).mono ?_⟩;rintro v h3 ⟨rfl,k⟩;have f:=c.comp k;have b:=f.box 0 i4;refine⟨_,i4,⟨b.cell0 i4,b.cell i4,b.cell i4,trivial⟩,(kp p h3).mono ?_⟩;rintro v s ⟨rfl,q⟩;exact⟨_,i4,trivial,by rw[fR,e];rfl,.zip (f.comp q).ae⟩
theorem IC(p:Pm)(seed:Int)(h:g0):an xP 161 #[jW p,xF xN seed] h λv h'=>v=xJ (fR p seed (fe p))/\Sp h h' []:=by refine ts Tryz.func161 ?_ (args:=[p,(xF xN (seed:Int))]);refine(Sp.refl h).boxed λa g e=>?_;have d:=e.box 0 i4;refine⟨p,d.aF _ i4,p,d.aF _ i4,(IA p g).mono ?_⟩;rintro v i ⟨r,rfl,j⟩;have c:=e.comp j;have b:=c.box 0 i4;refine⟨r,i4,⟨b.cell0 i4,b.cell i4,b.cell i4,trivial⟩,(Lo p seed r _ i (c.seq 1 i4 λ_=>rfl) sz).mono ?_⟩;rintro v h3 ⟨rfl,f⟩;exact⟨_,i4,trivial,i4,.zip (c.comp f).ae⟩
theorem aaI(p:Pm)(o b:Int)(h:g0):an xP 111 #[jW p,xF xL o,xF xL b] h λv h'=>
  v=.tuple #[xF xL (((pA p o b).getD 0:Nat):Int),xJ (pA p o b).isSome]/\Sp h h' []:=by
 refine ts Tryz.func111 ?_ (.two .n (.two (.two .n (.inn (.loop [(9,aQ)] [(6,20)] .n))) .n)) (args:=[p,(o:Int),(b:Int)]);refine(Sp.refl h).boxed λu A s=>?_;have s:Sp h A [ac u 36 [xF xL p.1,xF xL p.2.1,xF xL p.2.2]]:=s;refine aq (λi:Nat=>(i:Int)) (λi h'=>i<=16/\(∀k,k<i->Iy p o b k=fz)/\Sp h h' [ac u 36 [xF xL p.1,xF xL p.2.1,xF xL p.2.2]]) (λi=>16-i) 0 i4 ⟨i5,λk f=>absurd f (Nat.not_lt_zero k),s⟩ ?_;rintro i B ⟨E,c,l⟩;refine ag (λe=>?_) λe=>?_
 ·have z:i<16:=i5
  have a:=l.box 0 i4;refine⟨p,a.aF _ i4,(nC _ _ _ B).mono ?_⟩;rintro _ h3 ⟨rfl,rfl⟩;refine⟨_,i4,⟨a.cell0 i4,a.cell i4,a.cell i4,trivial⟩,(IC p _ h3).mono ?_⟩;rintro _ F ⟨rfl,D⟩;have x:=l.up D.ae;refine⟨_,i4,trivial,bo (λg=>?_) λg=>?_⟩
  ·have q:pA p o b=dB i:=by
    unfold pA;refine List.find?_eq_some_iff_append.2 ⟨g,qx i,(qx (15-i)).map (·+(i+1)),?_,λk f=>?_⟩
    ·apply zq;intro j;by_cases w:j<i
     ·rw[qm sb,zm i5,zm w]
     ·rw[qh i9,zt];by_cases m:j=i
      ·subst m;rw[qW,zm i5];rfl
      ·obtain⟨d,y⟩:∃d,j=i+(d+1):=⟨j-i-1,i5⟩
       subst y;rw[zn,qp,qP];by_cases r:d<15-i
       ·rw[zm r,zm i5];simp;omega
       ·rw[qI i9,qI i9];rfl
    ·rw[c k (qA.1 f)];rfl
   rw[q];exact⟨i4,.zip x.ae⟩
  ·refine⟨i+1,j1,⟨i5,λk f=>?_,x⟩,i5⟩;by_cases t:k<i
   ·exact c k t
   ·have:k=i:=i5
    subst this;exact g
 ·have q:pA p o b=eH:=by unfold pA;rw[List.find?_eq_none];intro k f;rw[c k (by have:=qA.1 f;omega)];simp
  rw[q];exact⟨i4,.zip l.ae⟩
theorem UB(p:Pm)(o:Int)(n:Nat)(h:g0)(J:n<=2^30):an xP 66 #[jW p,xF xL o,xF xL n] h λv h'=>
  (cT p o n=eH->v=.tuple #[xG eH 0 0,xJ fz]/\Sp h h' [])/\
  (∀l,cT p o n=dB l->∃r:Sl,v=.tuple #[r,xJ eX]/\Sp h h' [af 3 r 1 ak l]):=by
 refine ts Tryz.func66 ?_ (.two .n (.two .n (.two (.two .n (.inn (.loop [(8,cL),(13,aQ)] [(6,12),(13,30)] .n))) .n))) (args:=[p,(o:Int),(n:Int)]);refine(Sp.refl h).boxed λu A k=>?_;have k:Sp h A [af 3 ⟨eH,0,0⟩ 1 ak [],ac u 36 [xF xL p.1,xF xL p.2.1,xF xL p.2.2]]:=(k.nil 3 1 ak).bA [1,0];refine aq (λt:Sl×Nat×aB=>(t.1,(t.2.1:Int))) (λt h'=>t.2.1<=n/\cT p o t.2.1=dB t.2.2/\Sp h h' [af 3 t.1 1 ak t.2.2,ac u 36 [xF xL p.1,xF xL p.2.1,xF xL p.2.2]]) (λt=>n-t.2.1) (⟨eH,0,0⟩,0,[]) i4 ⟨jj,i4,k⟩ ?_;rintro⟨s,i,l⟩ B ⟨G,c,d⟩;dsimp only at*;have E:=jz c;have b:∀j,pA p o i=eH->j<=n-(i+1)->cT p o (i+1+j)=eH:=λj f=>by
  induction j with
  |zero=>intro _;show cT p o (i+1)=eH;unfold cT;rw[c,f];rfl
  |succ j ih=>intro H;show cT p o ((i+1+j)+1)=eH;unfold cT;rw[ih i5];rfl
 refine ag (λe=>?_) λe=>?_
 ·have x:i<n:=i5
  refine⟨p,(d.box 1 i4).aF _ i4,(aaI p o i B).mono ?_⟩;rintro _ h3 ⟨rfl,z⟩;have q:=d.up z.ae;refine⟨(_,_),i4,aR (λg=>?_) λg=>?_⟩
  ·have a:cT p o n=eH:=by have:=b (n-(i+1)) (Option.isSome_eq_false_iff.1 g|>Option.isNone_iff_eq_none.1) (ql _);rw[show i+1+(n-(i+1))=n by omega]at this;exact this
   rw[a];exact⟨λ_=>⟨i4,.zip q.ae⟩,λl h=>k9⟩
  ·obtain⟨t,w⟩:∃t,pA p o i=dB t:=Option.isSome_iff_exists.1 g;rw[w];refine q.push aj 0 i4 fN i4 i6 (λ_=>rfl) eS (t:Int) i4 i6 i5 λy F D=>?_;refine⟨(y,i+1,l++[(t:Int)]),j0,⟨i7,?_,D⟩,i7⟩;show cT p o (i+1)=_;unfold cT;rw[c,w];rfl
 ·have m:i=n:=i5
  subst m;rw[c];exact⟨λh=>k9,λI h=>(by injection h with h;subst h;exact⟨s,i4,d.bA [0]⟩)⟩
def jt(m:av)(l:bP):bP:=(ft m l).map cW
def bO(m:av)(l:bP):bP:=aM m++jt m l
def gY(d:aZ)(a:Nat)(n:Int):Bool:=decide (max n 0<=(d.room:Int)-a)
def jB(m:av)(d:aZ)(n:Int):Bool:=!d.lost&&(gY d d.l.length n||gY d (bO m d.l).length n)
def ge(m:av)(w:Pow)(d:aZ)(n:Int):Int×Pow×aZ:=
 if d.lost then(5,w,d)else if !jB m d n then(7,w,d)else if gY d d.l.length n then(0,w,d)else d.rewrite w (bO m d.l)
theorem OB(l:List dm):i0 (nK l)<=i0 l:=by unfold nK;rw[qq];exact qT (qS _ _) jj
theorem Ad(m:av)(l:bP):i0 (ft m l)<=i0 l:=by unfold ft;refine qT (OB _) ?_;rw[wv];exact List.length_filterMap_le _ _
theorem tj(m:av)(l:bP):i0 (jt m l)<=i0 l:=by unfold jt;rw[qq];exact Ad m l
variable {B:aw} {h0 h:g0} {As:List HP} {a:f8} {d:aZ} {w:Pow}
section
variable {pw:f8}
theorem uB(x:Sl)(l:bP)(H:aa B h0 h (jX pw a d::bV 104 pw w::As))(P:St B h0 As λh=>eT h x 1 az l)(N:i0 l<=2^20)(t:∀c∈l,i0 c<=2^20):
  an xP 47 #[xH (dB a),x] h λv h'=>v=xF xL (d.rewrite w l).1/\aa B h0 h' (jX pw a (d.rewrite w l).2.2::bV 104 pw (d.rewrite w l).2.1::As):=by
 refine ts Tryz.func47 ?_ (.two .n (.two (.two .n (.inn (.loop [(9,aQ)] [(4,5),(6,7),(9,17)] .n))) (.two (.join [] [(4,5),(17,41)] (.inn (.two (.join [(17,sM)] [(17,26)] .n) .n))) .n)));have O:=P.at [_,_] H;have U:=O.len;have o:=gA.rewrite (w:=w) (l:=l) (And.left (id H).rE);have same:∀(e:Int),d.rewrite w l=(e,w,d)->(Value.int .i64 e=xF xL (d.rewrite w l).1/\aa B h0 h (jX pw a (d.rewrite w l).2.2::bV 104 pw (d.rewrite w l).2.1::As)):=λe Y=>by
  rw[Y];exact⟨i4,H⟩
 refine aq (λi:Nat=>(i:Int)) (λi h'=>i<=i0 l/\(∀c∈l.take i,i0 c=64)/\h'=h) (λi=>i0 l-i) 0 i4 ⟨i5,jj,i4⟩ ?_;rintro i h1 ⟨hi,f,rfl⟩;refine ag (λe=>?_) λe=>?_
 ·have k:i<i0 l:=i5
  refine O.get i i4 k λr X=>?_;have W:=X.len;refine bx (λV=>same 1 ?_) λV=>?_
  ·unfold aZ.rewrite;rw[g9];rw[wK,yE];exact⟨l[i],qf k,i9⟩
  ·refine⟨i+1,j1,⟨i5,λc j=>?_,i4⟩,i5⟩;rw[aD _ _ k]at j;rcases qz.1 j with j|j
   ·exact f c j
   ·rw[qu.1 j];omega
 have f:∀c∈l,i0 c=64:=by rw[qg i5]at f;exact f
 have m:(!l.all λb=>decide (i0 b=64))=fz:=by rw[Bool.not_eq_false',qJ];exactλc j=>hY (f c j)
 have A:d.rewrite w l=(if d.lost then(5,w,d)else if d.room<i0 l then(7,w,d)else if w.off then(14,w,d)else if w.step.1 then(0,w.step.2,{d with l:=l,wait:=0,laid:=[],has:=fz})else(14,w.step.2,{d with laid:=l,has:=eX})):=by unfold aZ.rewrite;rw[m];rfl
 obtain⟨ok,s,b,K⟩:=H.rE;have z:=K.box 0 i4;refine aW (aW (bo (λe=>j3) λ_=>⟨a,i4,d.lost,z.cell i4,bo (λe=>same 5 (by rw[A,g9 e])) λg=>?_⟩));refine⟨a,i4,(d.room:Int),z.cell i4,ag (λe=>same 7 (by rw[A,hU n9,g9 i5])) λG=>?_⟩;obtain⟨Z,Q,J⟩:=(K.aO 4 [3,0,1,2]).tJ;refine⟨a,i4,dB pw,z.cell0 i4,(FD Z (J.box 0 i4)).mono ?_⟩;rintro _ h2 ⟨rfl,rfl⟩;refine⟨_,i4,aR (λe=>same 14 ?_) λq=>?_⟩
 ·rw[A,hU n9,hU i5,g9 lz]
 have p:w.off=fz:=nb
 have y:d.rewrite w l=(if w.step.1 then(0,w.step.2,{d with l:=l,wait:=0,laid:=[],has:=fz})else(14,w.step.2,{d with laid:=l,has:=eX})):=by rw[A,hU n9,hU i5,hU (by simp[p])]
 refine⟨a,i4,dB pw,z.cell0 i4,(Ec (K.aO 4 [3,0,1,2])).mono ?_⟩;rintro _ M ⟨rfl,I⟩;have u:=P.at [_,_,_,_] I;refine⟨_,i4,aR (λe=>?_) λe=>?_⟩
 ·rw[y,hU p8]at o⊢;refine(GX x l M u N t).mono ?_;rintro _ R ⟨r,rfl,F⟩;have L:=(I.cb F).aO 5 [2,3,0,1];refine⟨r,i4,a,i4,L.store aj 0 i4 i4 4 [r] i4 i4 i4 n7 λT E=>?_⟩;refine⟨a,i4,E.store aj 0 i4 i4 5 [xJ eX] i4 i4 i4 n7 λh8 D=>⟨i4,?_⟩⟩;exact aa.Ee (s:=s) (b:=r) o D
 ·rw[y,g9 e]at o⊢;refine(GX x l M u N t).mono ?_;rintro _ R ⟨r,rfl,F⟩;have L:=(I.cb F).aO 5 [2,0,4,1];refine⟨r,i4,a,i4,L.store aj 0 i4 i4 2 [r] i4 i4 i4 n7 λT E=>?_⟩;refine⟨a,i4,E.store aj 0 i4 i4 3 [xF xL 0] i4 i4 i4 n7 λh8 D=>?_⟩;refine(Ef (d:={d with l:=l,wait:=0}) r b _ D ⟨Nat.zero_le _,i7,ok.room,f,ok.laid,ok.cellL⟩ i4).mono ?_;rintro _ h9 ⟨rfl,S⟩;exact⟨0,i4,i4,S⟩
theorem AF(s b:Sl)(c:Nat)(n:Int)(e:bY h a 102 (gr pw d s b))(g:d.room<=512)(f:c<=2^40:=by omega):an xP 176 #[xH (dB a),xF xL c,xF xL n] h λv h'=>v=xJ (gY d c n)/\h'=h:=by refine ts Tryz.func176 ?_;refine(Eg s b e).mono ?_;rintro _ _ ⟨rfl,rfl⟩;refine⟨_,i4,?_,i4⟩;rw[ai ((d.room:Int)-c)];unfold gY;congr 1;rw[decide_eq_decide];split<;>omega
theorem ID(s b:Sl)(x:bm)(m:av)(F:bY h a 102 (gr pw d s b))(K:eT h s 1 az d.l)(ok:gA d)(P:dh h x m)(R:cF m):
  an xP 53 #[xH (dB a),dz x] h λv h'=>∃r:Sl,v=r/\Sp h h' [dI r (jt m d.l)]:=by
 refine ts Tryz.func53 ?_ (.two .n (.two .n (.two (.two .n (.inn (.loop [(5,cL),(12,aQ)] [(5,6),(7,8),(12,22)] .n))) .n))) (args:=[(dB a),x]);have E:=ok.len;have z:=ok.room;refine(Sp.refl h).boxed λW N j=>?_;refine⟨x,(j.box 0 i4).aF _ i4,(El a pw d s b x m N (F.ae j.ae F.lt) (K.up j.ae) ok (P.up j.ae) R).mono ?_⟩;rintro _ Y ⟨r,c,rfl,U⟩;have p:=(j.cb U).BE 58 5 1 az;refine⟨r,i4,?_⟩;have A:=Ad m d.l;obtain⟨L,D⟩:∃L,L=ft m d.l:=⟨_,rfl⟩
 have y:(jt m d.l)=L.map cW:=by unfold jt;rw[D]
 rw[<-D]at p A;rw[y];have G:=p.fa 1 i4;have H:=G.2.1;have w:=G.1.len;refine aq (λt:Sl×Nat=>(t.1,(t.2:Int))) (λt h'=>t.2<=i0 L/\Sp h h' [dI t.1 ((L.map cW).take t.2),cM fq 8 bS r c L]) (λt=>i0 L-t.2) (⟨eH,0,0⟩,0) i4 ⟨jj,p.bA [0,1]⟩ ?_;rintro⟨o,i⟩ h3 ⟨V,k⟩;dsimp only at*;have S:=k.fa 1 i4;refine ag (λe=>?_) (λe=>?_)
 ·have q:i<i0 L:=i5
  refine S.1.cU (g:=bS) i i4 i5 (c[i]'(by omega)) i4 ?_;refine k.alloc aj i4 λQ Z O=>?_;refine O.storeAll aj 2 i4 i4 (bS (c[i]'(by omega))) i4 i4 i4 i4 λB f=>?_;have f:Sp h B [dI o ((L.map cW).take i),cM fq 8 bS r c L,ac Q 167 (bS (c[i]'(by omega)))]:=f;refine⟨c[i]'(by omega),(f.box 2 i4).aF _ i4,(rG _ L[i] B (Fix.row (f.fa 1 i4) q)).mono ?_⟩;rintro _ X ⟨u,rfl,M⟩;have T:=(f.cb M).aO 3 [1,0,2];refine⟨u,i4,T.BF aj fv i9 λJ h8 I=>?_⟩;refine⟨(J,i+1),j0,⟨i7,?_⟩,i7⟩
  try dsimp only
  rw[aD _ _ (show i<i0 (L.map cW) by simp;omega),wh];exact I.bA [0,1]
 ·rw[qg i9]at k;exact⟨o,i4,k.bA [0]⟩
theorem Ge{m:av}{l:bP}{c:aL}(h:c∈jt m l):i0 c<=64:=by
 unfold jt at h;obtain⟨r,_,rfl⟩:=qo.1 h;unfold cW;split
 ·rename_i a;refine xr (mu i6 i6 ?_);have:=oE a;omega
 ·simp
theorem Ae(s b:Sl)(x:bm)(m:av)(o:bY h a 102 (gr pw d s b))(y:eT h s 1 az d.l)(ok:gA d)(p:dh h x m)(i:cF m):
  an xP 20 #[xH (dB a),dz x] h λv h'=>∃r:Sl,v=r/\Sp h h' [dI r (bO m d.l)]:=by
 refine ts Tryz.func20 ?_ .n [(1,(.l [0,2,3,1,4,5,6]))] (args:=[(dB a),x]);have k:=ok.len;have g:=ok.room;refine(Sp.refl h).boxed λt j e=>?_;have e:Sp h j [ac t 39 (aA x)]:=e;refine⟨x,(e.box 0 i4).aF _ i4,x,(e.box 0 i4).aF _ i4,(lT x m j (p.up e.ae) i).mono ?_⟩;rintro _ F ⟨r,rfl,E⟩;have f:=e.cb E;have c:=f.box 1 i4;refine⟨r,i4,⟨c.cell0 i4,c.cell i4,c.cell i4,c.cell i4,c.cell i4,c.cell i4,c.cell i4,c.cell i4,trivial⟩,(ID s b x m (o.ae f.ae o.lt) (y.up f.ae) ok (p.up f.ae) i).mono ?_⟩;rintro _ h3 ⟨u,rfl,A⟩;have q:=(f.cb A).aO 2 [1,0];have D:=jI m i;have w:=tj m d.l;refine⟨u,i4,trivial,q.adx aj fv ⟨_,_,i4,i4⟩ i5 λz G B=>?_⟩;exact⟨trivial,z,i4,B.bA [0]⟩
theorem Et(s b:Sl)(x:bm)(m:av)(n:Int)(t:bY h a 102 (gr pw d s b))(A:eT h s 1 az d.l)(k:s.len=i0 d.l)(ok:gA d)(D:dh h x m)(u:cF m):
  an xP 123 #[xH (dB a),dz x,xF xL n] h λv h'=>v=xJ (jB m d n)/\Sp h h' []:=by
 refine ts Tryz.func123 ?_ (.two .n (.two (.join [] [(6,13)] .n) .n)) (args:=[(dB a),x,(n:Int)]);have q:=ok.len;have g:=ok.room;refine(Sp.refl h).boxed λy B f=>?_;have f:Sp h B [ac y 39 (aA x)]:=f;have c:=t.ae f.ae t.lt;refine aW (bo (λe=>j3) λ_=>(rY s b c).mono ?_);rintro _ _ ⟨rfl,rfl⟩;refine⟨_,i4,bo (λe=>⟨by unfold jB;rw[e];rfl,.zip f.ae⟩) λe=>?_⟩;have p:jB m d n=(gY d d.l.length n||gY d (bO m d.l).length n):=by unfold jB;rw[e];rfl
 refine(Li s b c k).mono ?_;rintro _ _ ⟨rfl,rfl⟩;refine⟨_,i4,(AF s b d.l.length n c ok.room).mono ?_⟩;rintro _ _ ⟨rfl,rfl⟩;refine⟨_,i4,bo (λi=>⟨by rw[p,i];rfl,.zip f.ae⟩) λi=>?_⟩;refine⟨x,(f.box 0 i4).aF _ i4,(Ae s b x m c (A.up f.ae) ok (D.up f.ae) u).mono ?_⟩;rintro _ E ⟨r,rfl,o⟩;have j:=(aa.uc o).1;have z:i0 (bO m d.l)<=4000:=by have:=jI m u;have:=tj m d.l;unfold bO;rw[qw];omega
 have w:=f.cb o;refine⟨r,i4,(AF s b r.len n (c.ae o.ae c.lt) ok.room).mono ?_⟩;rintro _ _ ⟨rfl,rfl⟩;exact⟨_,i4,by rw[p,i,vn,j],.zip w.ae⟩
theorem OC(x:bm)(n:Int)(h:g0):an xP 123 #[xH eH,dz x,xF xL n] h λv h'=>v=xJ fz/\Sp h h' []:=by refine ts Tryz.func123 ?_ (.two .n (.two (.join [] [(6,13)] .n) .n)) (args:=[(eH:cj),x,(n:Int)]);refine(Sp.refl h).boxed λc b a=>?_;exact aW (bo (λ_=>⟨i4,.zip a.ae⟩) λe=>j3)
theorem Lp(x:bm)(m:av)(n:Int)(K:St B h0 As λh=>dh h x m)(E:cF m)(H:aa B h0 h (jX pw a d::bV 104 pw w::As)):
  an xP 124 #[xH (dB a),dz x,xF xL n] h λv h'=>v=xF xL (ge m w d n).1/\aa B h0 h' (jX pw a (ge m w d n).2.2::bV 104 pw (ge m w d n).2.1::As):=by
 refine ts Tryz.func124 ?_ (.two .n (.two (.join [] [(6,26)] (.inn (.two (.join [(7,sM)] [(7,14)] .n) .n))) .n)) (args:=[(dB a),x,(n:Int)]);refine(Sp.refl h).boxed λL p A=>?_;have A:Sp h p [ac L 39 (aA x)]:=A;have k:=(H.cb A).aO 3 [1,2,0];have same:∀(e:Int) {h':g0},aP (λb=>b<p.size) p h'->ge m w d n=(e,w,d)->(Value.int .i64 e=xF xL (ge m w d n).1/\aa B h0 h' (jX pw a (ge m w d n).2.2::bV 104 pw (ge m w d n).2.1::As)):=λe {h'} Q R=>by
  rw[R];exact⟨i4,((k.up Q).aO 3 [0,1])⟩
 obtain⟨ok,s,b,f⟩:=(id k).rE;have q:=f.box 0 i4;have N:eT p s 1 az d.l:=(f.aO 2 [1]).rP λ_=>rfl;have j:=(aa.uc (f.aO 2 [1])).1;have J:=ok.len;have z:=ok.room;refine aW (aW (bo (λe=>j3) λ_=>(rY s b q).mono ?_));rintro _ _ ⟨rfl,rfl⟩;refine⟨_,i4,bo (λe=>same 5 (aP.refl _ _) (by unfold ge;rw[g9 e])) λe=>?_⟩;refine⟨x,(k.box 2 i4).aF _ i4,(Et s b x m n q N j ok (K.at [_,_,_] k) E).mono ?_⟩;rintro _ S ⟨rfl,o⟩;have I:=f.up o.ae;have i:=q.ae o.ae q.lt;have y:=k.up o.ae;refine⟨_,i4,aR (λt=>same 7 o.ae (by unfold ge;rw[hU p8,g9 (by simp[t])])) λt=>?_⟩;refine(Li s b i j).mono ?_;rintro _ _ ⟨rfl,rfl⟩;refine⟨_,i4,(AF s b d.l.length n i ok.room).mono ?_⟩;rintro _ _ ⟨rfl,rfl⟩;refine⟨_,i4,bo (λD=>same 0 o.ae (by unfold ge;rw[hU p8,hU (by simp[t]),g9 D])) λD=>?_⟩;have em:ge m w d n=d.rewrite w (bO m d.l):=by unfold ge;rw[hU p8,hU (by simp[t]),hU (by simp[D])]
 rw[em];have M:i0 (bO m d.l)<=4000:=by have:=jI m E;have:=tj m d.l;unfold bO;rw[qw];omega
 have F:∀c∈bO m d.l,i0 c<=64:=λc g=>by
  unfold bO at g;rcases qz.1 g with g|g
  ·exact xr (sV g)
  ·exact Ge g
 refine⟨x,(y.box 2 i4).aF _ i4,(Ae s b x m i ((I.aO 2 [1]).rP λ_=>rfl) ok (K.at [_,_,_] y) E).mono ?_⟩;rintro _ h3 ⟨r,rfl,O⟩;obtain⟨rs,u⟩:=(y.cb O).Oq λ_=>rfl;have u:=u.aO 4 [1,2,0];refine⟨r,i4,(uB r (bO m d.l) u (St.eG 0 i4 λh' G=>?_) i5 λc g=>qT (F c g) i6).mono ?_⟩
 ·exact⟨rs,G.1,G.2.1,G.2.2⟩
 rintro _ T ⟨rfl,P⟩;exact⟨_,i4,i4,P.aO 3 [0,1]⟩
end
variable {b:f8} {x:bm} {offs:Int} {da:List cj} {ds:aE}
section
variable {pw:f8}
theorem aa.aaJ(n:Nat)(j:n<64)(g:ds[n]?=dB eH)(H:aa B h0 h (aY ba a pw (aA x) offs da w ds::jX pw b d::As)){K:Unit->g0->Prop}
  (i:∀h',aa B h0 h' (aY ba a pw (aA x) offs (da.set n (dB b)) w (ds.set n (dB d))::As)->K () h'):
  au xP (qG 44 (xH (dB ((a.add 10).add n))) (xH (dB b))) h K:=by
 obtain⟨ok,e⟩:=Qw.aa.oz H;have f:(a.add 10).add n=a.add (10+n):=by unfold Addr.add;simp[Nat.add_assoc]
 rw[f];refine e.storeAt aj 0 i4 i4 i4 i4 i4 (by simp[ok.la];omega) λh' c=>i h' ?_;rw[zp,Ln ok.l8]at c;exact aa.adO ok j g c
end
theorem Be(ds:aE)(n:Nat)(d:aZ)(s:Int)(c:n<64)(b:i0 ds=64):aV (ck ds (n:Int) d) s=if s=(n:Int)then dB d else aV ds s:=by
 unfold aV ck;rw[qj];by_cases h:0<=s/\s<64
 ·rw[g9 h,g9 h,qU];by_cases a:s=(n:Int)
  ·subst a;rw[g9 i4,qj,g9 i4,g9 i5];rfl
  ·rw[hU a,hU i5]
 ·rw[hU h,hU h,hU i5]
theorem lL{ds:aE}{s:Int}{d:aZ}(h:aV ds s=dB d):∃n:Nat,s=(n:Int)/\n<64:=by
 unfold aV at h;by_cases a:0<=s/\s<64
 ·exact⟨s.toNat,i5,i5⟩
 ·rw[hU a]at h;cases h
structure Fit (ds:aE) (S Q:aB):Prop where
 len:i0 ds=64
 at_:∀s∈S,∃d,aV ds s=dB d/\d.lost=fz/\d.l.length+Q.count s<=d.room
theorem QM{d:aZ}{n:Nat}(w:Pow)(b:aL)(a:d.lost=fz)(g:i0 d.l+(n+1)<=d.room)(f:i0 b=64):
  ((d.append w b).1=0∨(d.append w b).1=14)/\(d.append w b).2.2.lost=fz/\(d.append w b).2.2.l.length+n<=(d.append w b).2.2.room:=by
 unfold aZ.append;rw[hU i5,hU m6,hU i5];by_cases c:w.off
 ·rw[g9 c];exact⟨.inr i4,a,i7⟩
 ·rw[hU c];by_cases e:w.step.1
  ·rw[g9 e];exact⟨.inl i4,a,i9⟩
  ·rw[hU e];exact⟨.inr i4,a,i9⟩
theorem XB{d:aZ}(w:Pow)(a:d.lost=fz):((d.sync w).1=0∨(d.sync w).1=14)/\(d.sync w).2.2.lost=fz/\(d.sync w).2.2.l=d.l/\(d.sync w).2.2.room=d.room:=by
 unfold aZ.sync;rw[hU m6];by_cases b:w.step.1
 ·rw[g9 b];exact⟨.inl i4,a,i4,i4⟩
 ·rw[hU b];exact⟨.inr i4,a,i4,i4⟩
theorem Mh{ds:aE}{S Q:aB}{x:Int}(w:Pow)(b:aL)(F:Fit ds S (x::Q))(m:x∈S)(l:i0 b=64):
  ((fT w ds x b).1=0∨(fT w ds x b).1=14)/\Fit (fT w ds x b).2.2 S Q:=by
 obtain⟨d,c,i,j⟩:=F.at_ x m;rw[List.count_cons_self]at j;obtain⟨n,rfl,q⟩:=lL c;have A:=QM w b i (n:=Q.count (n:Int)) i5 l;have e:fT w ds (n:Int) b=((d.append w b).1,(d.append w b).2.1,ck ds (n:Int) (d.append w b).2.2):=by unfold fT;rw[c]
 rw[e];refine⟨A.1,by unfold ck;rw[zC];exact F.len,λs p=>?_⟩;rw[Be _ _ _ _ q F.len];by_cases a:s=(n:Int)
 ·subst a;rw[g9 rfl];exact⟨_,i4,A.2⟩
 ·rw[hU a];obtain⟨o,g,k,f⟩:=F.at_ s p;rw[List.count_cons_of_ne λh=>a h.symm]at f;exact⟨o,g,k,f⟩
theorem QN{ds:aE}{S:aB}{x:Int}(w:Pow)(F:Fit ds S [])(j:x∈S):((gW w ds x).1=0∨(gW w ds x).1=14)/\Fit (gW w ds x).2.2 S []:=by
 obtain⟨d,b,g,h⟩:=F.at_ x j;obtain⟨n,rfl,l⟩:=lL b;obtain⟨c,A2,i,f⟩:=XB w g;have e:gW w ds (n:Int)=((d.sync w).1,(d.sync w).2.1,ck ds (n:Int) (d.sync w).2.2):=by unfold gW;rw[b]
 rw[e];refine⟨c,by unfold ck;rw[zC];exact F.len,λs k=>?_⟩;rw[Be _ _ _ _ l F.len];by_cases a:s=(n:Int)
 ·subst a;rw[g9 rfl];exact⟨_,i4,A2,by rw[i,f];exact h⟩
 ·rw[hU a];exact F.at_ s k
theorem Kp(l:aB)(k:Nat):(bj l k).Nodup:=by unfold bj;refine List.Pairwise.filter _ (yj.2 ?_);exact(List.nodup_range (n:=k)).imp λh=>i5
theorem UC{l:aB}(h:(fx l).2=eX):(fx l).1=bj l l.length/\l.length<=64/\∀n:Nat,l.getD n 0<=512:=by
 unfold fx at h⊢;by_cases a:l.all (fy · 0 512)=eX
 ·rw[g9 a]at h⊢;refine⟨i4,by simp at h;exact h.1,λn=>?_⟩;rw[qd];by_cases b:n<i0 l
  ·rw[qc b];have:=qJ.1 a _ (qf b);unfold fy at this;simp at this⊢;omega
  ·rw[qI i5];simp
 ·rw[hU a]at h;cases h
theorem OF(l:aB)(i n:Nat)(f:i<i0 (bj l l.length))(g:(bj l l.length)[i]=(n:Int))(d:n<64):(iB l i)[n]?=dB eH:=by unfold iB;rw[qP,zm d,qQ,hU];intro e;obtain⟨j,h,c⟩:=List.mem_take_iff_getElem.1 e;have:=Dv (Kp l l.length) (a:=j) (b:=i) i5 f (by rw[c,g]);omega
theorem AG(m:av):∀S:aB,i0 (bI m S)=i0 S*i0 (aM m)
 |[]=>by simp[bI]
 |n::S=>by
  have e:bI m (n::S)=(aM m).map (λc=>(n,c))++bI m S:=by unfold bI;rw[za]
  rw[e,qw,qq,AG m S,ze,zP,Nat.add_comm]
theorem UD(p:Pm)(extra:Int)(l:aB)(a:i0 l<=64):cF (cx p extra l):=⟨by have:=pz l l.length;simp[cx];omega,by simp[cx],by simp[cx]⟩
section
variable {pw:f8}
theorem QO(p:Pm)(extra:Int)(s:Sl)(l:aB)(hS:St B h0 As λh=>Rd h s 1 ak l)(hl:i0 l<=2^20)(H:aa B h0 h (bV 104 pw w::As)):
  an xP 22 #[jW p,xF xL extra,xH (dB pw),s] h λv h'=>
   ((gc p extra w l).1≠0->v=.tuple #[xH eH,xF xL (gc p extra w l).1]/\aa B h0 h' As)/\
   ((gc p extra w l).1=0->∃(a:f8) (x:bm) (da:List cj),v=.tuple #[xH (dB a),xF xL 0]/\aa B h0 h' (aY ba a pw (aA x) w.offs da (gc p extra w l).2.1 (gc p extra w l).2.2::bh x (cx p extra l)::As)):=by
 refine ts Tryz.func22 ?_ (.two .n (.two .n (.two (.join [] [(8,10),(23,42)] .n) (.two (.join [(12,Oi)] [(12,13),(42,51)] .n) (.two (.two .n (.inn (.loop [(53,aQ)] [(8,10),(14,15),(53,69)] .n))) (.two (.two .n (.inn (.loop [(71,aQ)] [(16,17),(71,87)] .n))) .n)))))) [(14,(.l [0,1,2,3,4,5,6,8,9,7,10,11]))] (args:=[p,(extra:Int),(dB pw),s]);refine H.boxed λa1 h1 H1=>?_;have H1:=H1.be;refine(QD s l h1 (hS.at [_,_] H1) hl).mono ?_;rintro _ h2 ⟨r,rfl,R2⟩;have H2:=H1.cb R2;refine⟨(r,(fx l).2),i4,?_⟩;have j:∀{h':g0},aa B h0 h' As->((fx l).2&&(bJ p&&fy extra 0 16))=fz->
   ((gc p extra w l).1≠0->Value.tuple #[xH eH,xF xL 1]=.tuple #[xH eH,xF xL (gc p extra w l).1]/\aa B h0 h' As)/\
   ((gc p extra w l).1=0->∃(a:f8) (x:bm) (da:List cj),Value.tuple #[xH eH,xF xL 1]=.tuple #[xH (dB a),xF xL 0]/\aa B h0 h' (aY ba a pw (aA x) w.offs da (gc p extra w l).2.1 (gc p extra w l).2.2::bh x (cx p extra l)::As)):=λ{h'} H' hc=>by
  have e:gc p extra w l=(1,w,[]):=by unfold gc;rw[hc];rfl
  rw[e];exact⟨λ_=>⟨i4,H'⟩,λh=>absurd h (show¬(1:Int)=0 by decide)⟩
 refine aW (aR (λe=>j H2.rest.rest.rest o8) λe=>?_);have ep:(fx l).2=eX:=lz
 obtain⟨a3,z,J⟩:=UC ep;refine⟨p,(H2.box 1 i4).aF _ i4,(dZ p h2).mono ?_⟩;rintro _ h3 ⟨rfl,R3⟩;have E:aa B h0 h3 (af 3 r 1 ak (fx l).1::ac a1 36 [xF xL p.1,xF xL p.2.1,xF xL p.2.2]::bV 104 pw w::As):=by have:=H2.comp R3;rw[qE]at this;exact this
 refine⟨_,i4,aR (λe2=>j E.rest.rest.rest (by rw[e2];simp)) λe2=>?_⟩;have em:bJ p=eX:=oa
 refine ag (λe3=>j E.rest.rest.rest o4) λe3=>ag (λe4=>j E.rest.rest.rest o4) λe4=>bo (λe5=>by cases e5) λ_=>?_;rw[a3]at E;refine aW ⟨p,(E.box 1 i4).aF _ i4,?_⟩;obtain⟨lw,bd,ax⟩:=(E.aO 3 [2,1,0]).tJ;refine(Ea lw (ax.box 0 i4)).mono ?_;rintro _ h4 ⟨rfl,rfl⟩;have I:=E.box 1 i4;refine⟨_,i4,⟨I.cell0 i4,I.cell i4,I.cell i4,trivial⟩,?_⟩;obtain⟨m,M⟩:∃m,m=cx p extra l:=⟨_,rfl⟩
 refine⟨_,Lm (1,0,p.1,p.2.1,p.2.2,extra,r,⟨eH,0,0⟩) pw w.offs,?_⟩;refine E.boxed λa9 h6 g=>?_;obtain⟨x,hx⟩:∃x:bm,x=(1,0,p.1,p.2.1,p.2.2,extra,r,⟨eH,0,0⟩):=⟨_,rfl⟩
 rw[<-hx]at g;have K:(Value.agg (bQ (aA x) pw w.offs (qi 64 eH)).toArray).cells.toList=bQ (aA x) pw w.offs (qi 64 eH):=kt
 rw[K]at g;have g:=g.be;have G:=g.box 2 i4;refine⟨⟨G.cell0 i4,G.cell i4,G.cell i4,trivial⟩,?_⟩;have g:aa B h0 h6 (ac a9 92 (bQ (aA x) pw w.offs (qi 64 eH))::bV 104 pw w::af 3 r 1 ak (bj l l.length)::As):=g.aO 4 [0,3,1];have g:=aa.Xt (k:=ba) (h8:=by simp) g;obtain⟨P,o⟩:∃P,P=bj l l.length:=⟨_,rfl⟩
 rw[<-o]at g;have hz:cF m:=M▸UD p extra l z;have al:i0 P<=64:=by rw[o];exact qT (pz _ _) z
 have Q:∀{h':g0} {Bs:List HP} {X:HP},aa B h0 h' (X::af 3 r 1 ak P::Bs)->dh h' x m:=λ{h' Bs X} H'=>by
  have hs:=H'.seq 1 i4 λ_=>rfl;have hc:=(H'.own 1 i4).cap;subst hx;subst M;exact⟨i4,i4,i4,i4,by show Seq _ _ r 1 ak (bj l l.length);rw[<-o];exact hs,bC.nil _ _ _ _,hc,ql _⟩
 have W:((fx l).2&&(bJ p&&fy extra 0 16))=eX:=by rw[ep,em];unfold fy;simp;omega
 have ad:(P.any λi=>decide (l.getD i.toNat 0<(i0 (aM m):Int)))=eX->gc p extra w l=(7,w,[]):=λhh=>by
  unfold gc;rw[g9 W,<-o,<-M,g9 hh]
 have ah:(P.any λi=>decide (l.getD i.toNat 0<(i0 (aM m):Int)))=fz->gc p extra w l=layAll (bI m P) w (iB l P.length):=λhh=>by
  unfold gc;rw[g9 W,<-o,<-M,hh,hU i6]
 have L:∀i (N:i<i0 P),∃n:Nat,n<i0 l/\P[i]=(n:Int)/\0<l.getD n 0:=by subst o;exactλi N=>QF l l.length i N
 refine aq (λi:Nat=>(i:Int)) (λi h'=>i<=i0 P/\((P.take i).any λi=>decide (l.getD i.toNat 0<(i0 (aM m):Int)))=fz/\aa B h0 h' (aY ba a9 pw (aA x) w.offs (qi 64 eH) w (qi 64 eH)::af 3 r 1 ak P::As)) (λi=>i0 P-i) 0 i4 ⟨i5,jj,g⟩ ?_;rintro i h7 ⟨N,f,A⟩;dsimp only at*;obtain⟨bk,am⟩:=aa.cK A;have bs:r.len=i0 P:=(A.own 1 i4).len;refine ag (λe5=>?_) (λe5=>?_)
 ·have c:i<i0 P:=i5
  obtain⟨n,O,D,Y⟩:=L i c;refine(A.seq 1 i4 λ_=>rfl).bt i i4 c (n:Int) (by rw[D];rfl) ?_;refine(hS.at [_,_] A).mE n i4 O (l.getD n 0) (by rw[getD_lt O];rfl) λbl R=>?_;refine⟨a9,i4,x,am.aF _ lb,(lT x m h7 (Q A) hz).mono ?_⟩;rintro _ h9 ⟨u,rfl,R9⟩;have H9:=A.cb R9;have a7:=(aa.uc H9).1;refine⟨u,i4,lI R9.ae ⟨R,trivial⟩,?_⟩;refine ag (λe6=>?_) (λe6=>?_)
  ·rw[ad (wg.2 ⟨P[i],qf c,by rw[D,qj];exact hY i5⟩)];exact⟨λ_=>⟨i4,H9.rest.rest.rest⟩,λh=>absurd h (show¬(7:Int)=0 by decide)⟩
  ·refine⟨i+1,j1,⟨i5,?_,H9.rest⟩,i5⟩;rw[aD _ _ c,y0,f,vn,xj,xD,Bool.or_false,D,qj];exact hZ i5
 ·have F:i=i0 P:=i5
  subst F;rw[qN]at f;have a4:=ah f;rw[<-Ow l]at A;refine aq (λt:Nat×List cj=>(t.1:Int)) (λt h'=>t.1<=i0 P/\aa B h0 h' (aY ba a9 pw (aA x) w.offs t.2 w (iB l t.1)::af 3 r 1 ak P::As)) (λt=>i0 P-t.1) (0,qi 64 eH) i4 ⟨jj,A⟩ ?_;rintro⟨i,da⟩ ab ⟨N,d⟩;dsimp only at*;obtain⟨br,U⟩:=aa.cK d;refine ag (λe6=>?_) (λe6=>?_)
  ·have c:i<i0 P:=i5
   obtain⟨n,O,D,Y⟩:=L i c;have a6:=J n;refine(d.seq 1 i4 λ_=>rfl).bt i i4 c (n:Int) (by rw[D];rfl) ?_;refine(hS.at [_,_] d).bt n i4 O (l.getD n 0) (by rw[getD_lt O];rfl) ?_;refine⟨a9,i4,(Ip (l.getD n 0) pw ab).mono ?_⟩;rintro _ a8 ⟨Q1,_⟩;obtain⟨b,rfl,a0⟩:=Q1 i5;have a2:=(d.cb a0).aO 2 [1,0];refine⟨_,i4,trivial,⟨i5,i5⟩,?_⟩;rw[qj,wN];have V:i<i0 (bj l l.length):=by rw[<-o];exact c
   have Z:(bj l l.length)[i]=(n:Int):=by rw[<-D];simp only[o]
   refine Qw.aa.aaJ n i5 (OF l i n V Z i5) a2 λbb a5=>?_;refine⟨trivial,(i+1,da.set n (dB b)),j0,⟨i7,?_⟩,i7⟩
   try dsimp only
   rw[<-Ox l i n V Z i5];exact a5
  ·have F:i=i0 P:=i5
   subst F;refine⟨a9,i4,x,U.aF _ lb,(FZ x m r P ab (Q d) hz (d.seq 1 i4 λ_=>rfl) i5).mono ?_⟩;rintro _ b0 ⟨u,ys,rfl,ay⟩;have ap:=(d.cb ay).aO 2 [1,0];refine⟨u,i4,?_⟩;have S:=jI m hz;refine(Ek u ys (bI m P) (St.eG 0 i4 λ_ hq=>hq) ?_ ?_ ap).mono ?_
   ·rw[AG];have:=wy al S;omega
   ·intro y hy;obtain⟨ao,ar⟩:=kR hy;obtain⟨i,N,e⟩:=qB ao;obtain⟨n,O,D,_⟩:=L i N;rw[<-e,D,ar];exact⟨⟨i5,i5⟩,i6⟩
   rintro _ bq ⟨rfl,T⟩;rw[a4];refine⟨_,i4,bx (λe7=>⟨λ_=>⟨i4,T.rest.rest.rest⟩,λh=>absurd h e7⟩) λe7=>⟨λh=>absurd e7 h,λ_=>⟨a9,x,da,i4,?_⟩⟩⟩;rw[<-M];exact T.oV.eJ 1 i4 λq hq=>by
    subst hx;subst M;exact⟨i4,i4,i4,i4,by show Seq _ _ r 1 ak (bj l l.length);rw[<-o];exact hq.1.seq (λ_=>rfl) hq.2,bC.nil _ _ _ _,hq.1.cap,ql _⟩
end
def nV(m:av)(ds:aE)(k n:Int):Bool:=match aV ds k with|some d=>jB m d n|none=>fz
def dR(m:av)(ds:aE)(l:aB)(N:Int->Int):Bool:=l.all λk=>nV m ds k (N k)
def ja(m:av)(w:Pow)(ds:aE)(k n:Int):Int×Pow×aE:=
 match aV ds k with
 |none=>(5,w,ds)
 |some d=>((ge m w d n).1,(ge m w d n).2.1,ck ds k (ge m w d n).2.2)
def makes(m:av)(N:Int->Int):aB->Pow->aE->Int×Pow×aE
 |[],w,ds=>(0,w,ds)
 |k::l,w,ds=>if(ja m w ds k (N k)).1=0 then makes m N l (ja m w ds k (N k)).2.1 (ja m w ds k (N k)).2.2 else ja m w ds k (N k)
theorem Lq(f:FuncId)(pre post:Array Value)(P:Int->Bool)(s:Sl)(l:aB)(h:g0)(p:C.fns[f]?=dB eX)(o:Rd h s 1 ak l)(x:i0 l<=2^30)
  (q:∀k∈l,∀h',Sp h h' []->an xP f (pre.toList++[Value.int .i64 k]++post.toList).toArray h' λv d=>v=xJ (P k)/\Sp h' d []):
  an xP 121 #[s,.func (.func f) pre post] h λv h'=>v=xJ (l.any P)/\Sp h h' []:=by
 refine ts Tryz.func121 ?_ (args:=[s,(.func (.func f) pre post)]);refine(iN s (f,pre,post) (R:=λv h'=>(∃i:Int,v=xF xL i/\decide (i>=0)=l.any P)/\Sp h h' []) ?_).mono ?_
 ·skip
  have t:=o.len;refine aq (λi:Nat=>(i:Int)) (λi h'=>i<=i0 l/\(l.take i).any P=fz/\Sp h h' []) (λi=>i0 l-i) 0 i4 ⟨i5,jj,Sp.refl h⟩ ?_;rintro i n ⟨j,a,c⟩;refine ag (λe=>?_) (λe=>?_)
  ·have b:i<i0 l:=by have u:(i:Int)<(s.len:Int):=e;omega
   refine(Seq.up o c.ae).bt i i4 b l[i] i4 (dT p ?_);refine(q l[i] (qf b) n c).mono ?_;rintro _ y ⟨rfl,w⟩;have m:=c.up w.ae;refine⟨_,i4,bo (λg=>⟨⟨i,i4,?_⟩,m⟩) λg=>?_⟩
   ·rw[wg.2 ⟨_,qf b,g⟩];exact hY i5
   ·refine⟨i+1,j1,⟨i5,?_,m⟩,i5⟩;rw[aD _ _ b,y0,a,xj,xD,g];rfl
  ·have u:¬(i:Int)<(s.len:Int):=e;rw[qg i5]at a;exact⟨⟨-1,i4,by rw[a];rfl⟩,c⟩
 ·rintro _ n ⟨⟨i,rfl,j⟩,r⟩;exact⟨i,i4,by rw[j],r⟩
section
variable {pw:f8}
def MJ(f:FuncId)(pre post:Array Value)(N:Int->Int)(l:aB)(h:g0):Prop:=∀k∈l,an xP f (pre.toList++[Value.int .i64 k]++post.toList).toArray h λv h'=>v=xF xL (N k)/\Sp h h' []
theorem IE(f:FuncId)(pre post:Array Value)(N:Int->Int)(x:bm)(m:av)(s:Sl)(l:aB)(W:C.fns[f]?=dB eX)(R:St B h0 As λh=>dh h x m/\MJ f pre post N l h)(hz:cF m)(hs:Rd h s 1 ak l)(Y:i0 l<=2^30)(F:∀k∈l,0<=k/\k<64)(H:aa B h0 h (aY ba a pw (aA x) offs da w ds::As)):
  an xP 71 #[xH (dB a),s,.func (.func f) pre post] h λv h'=>v=xJ (dR m ds l N)/\Sp h h' []:=by
 refine ts Tryz.func71 ?_ (args:=[(dB a),s,(.func (.func f) pre post)]);refine(Sp.refl h).boxed λp h1 R1=>R1.boxed λT D t=>?_;have X:aa B h0 D (aY ba a pw (aA x) offs da w ds::As):=H.up t.ae;have g:bY D p 23 [xH (dB a)]:=t.box 0 i4;have U:=t.box 1 i4;refine(Lq 122 #[] #[xH (dB p),xH (dB T)] (λk=>!nV m ds k (N k)) s l D lb (hs.up t.ae) Y ?_).mono ?_
 ·intro k S h3 i;have y:=X.up i.ae;have O:=(g.ae i.ae g.lt).cell0 i4;have c2:=(U.ae i.ae U.lt).cell0 i4;obtain⟨ok,u⟩:=aa.cK y;have M:=F k S;refine ts Tryz.func122 ?_ (args:=[(k:Int),p,T]);obtain⟨n,rfl⟩:∃n:Nat,k=n:=⟨k.toNat,i5⟩
  have L:n<i0 da:=rb
  have cd:cellOf h3 ((a.add 10).add ((n:Int).toNat*1))=dB (.pointer da[n]):=by rw[qj,wN];refine u.uv 10 n ?_;rw[rZ ok.l8,qc L];rfl
  obtain⟨ab,z⟩:=R.at [_] y;refine⟨dB a,O,a,i4,⟨i5,i5⟩,da[n],cd,dB a,O,a,i4,x,u.aF _ i4,(f,pre,post),c2,dT W ?_⟩;refine(z n S).mono ?_;rintro _ E ⟨rfl,q⟩;have Q:=y.up q.ae;have r:=((g.ae i.ae g.lt).ae q.ae (g.ae i.ae g.lt).lt).cell0 i4;have c:=u.ae q.ae u.lt;have G:cellOf E ((a.add 10).add ((n:Int).toNat*1))=dB (.pointer da[n]):=by rw[qj,wN];refine c.uv 10 n ?_;rw[rZ ok.l8,qc L];rfl
  refine⟨_,i4,⟨c.cell0 i4,c.cell i4,c.cell i4,c.cell i4,c.cell i4,c.cell i4,c.cell i4,c.cell i4,r,G,r,trivial⟩,?_⟩;have K:iG da (n:Int)=da[n]:=by unfold iG;rw[g9 i5,qj,qc L];rfl
  rw[<-K];have fin:∀{I:Bool} {j:g0},I=nV m ds n (N n)->Sp E j []->bR.ok [(p,xH (dB a)),(p,xH (dB a))] j/\(Value.bool (!I)=xJ (!nV m ds n (N n))/\Sp h3 j []):=λ{I j} he o=>by
   have P:=(g.ae i.ae g.lt).ae q.ae (g.ae i.ae g.lt).lt;have:=(P.ae o.ae P.lt).cell0 i4;exact⟨⟨this,this,trivial⟩,by rw[he],.zip (aa.up q o.ae).ae⟩
  rcases oA ok (n:Int)with⟨e1,e2⟩|⟨n',d,b,e0,e1,e2,e3,e4,e5⟩
  ·rw[e2];refine(OC x _ E).mono ?_;rintro _ j ⟨rfl,o⟩;exact⟨_,i4,fin (by unfold nV;rw[e1]) o⟩
  ·rw[e5];obtain⟨b',e,H5⟩:=Qw.aa.kC Q e2;rw[e4]at e;injection e with e
   injection e with e
   subst e;obtain⟨A,Z,V,J⟩:=aa.rE H5;refine(Et Z V x m (N n) (J.box 0 i4) ((J.aO 2 [1]).rP λ_=>rfl) (aa.uc (J.aO 2 [1])).1 A (R.at [_] Q).1 hz).mono ?_;rintro _ j ⟨rfl,o⟩;exact⟨_,i4,fin (by unfold nV;rw[e3]) o⟩
 ·rintro _ h3 ⟨rfl,i⟩;refine⟨_,i4,?_,.zip (aa.up t i.ae).ae⟩;unfold dR;rw[List.not_any_eq_all_not];simp
theorem OG(x:bm)(n:Int)(h:g0):an xP 124 #[xH eH,dz x,xF xL n] h λv h'=>v=xF xL 5/\Sp h h' []:=by refine ts Tryz.func124 ?_ (.two .n (.two (.join [] [(6,26)] (.inn (.two (.join [(7,sM)] [(7,14)] .n) .n))) .n)) (args:=[(eH:cj),x,(n:Int)]);refine(Sp.refl h).boxed λc b a=>?_;exact aW (aW (bo (λ_=>bo (λ_=>⟨i4,.zip a.ae⟩) λe=>j3) λe=>j3))
theorem UE(m:av)(N:Int->Int)(l:aB)(w:Pow)(ds:aE)(i:Nat)(a:i<i0 l):makes m N (l.drop i) w ds=if(ja m w ds l[i] (N l[i])).1=0 then makes m N (l.drop (i+1)) (ja m w ds l[i] (N l[i])).2.1 (ja m w ds l[i] (N l[i])).2.2 else ja m w ds l[i] (N l[i]):=by rw[qK a];rfl
theorem IF(f:FuncId)(pre post:Array Value)(N:Int->Int)(x:bm)(m:av)(s:Sl)(l:aB)(T:C.fns[f]?=dB eX)(G:St B h0 As λh=>dh h x m/\MJ f pre post N l h/\Rd h s 1 ak l)(hz:cF m)(hl:i0 l<=2^30)(F:∀k∈l,0<=k/\k<64)(H:aa B h0 h (aY ba a pw (aA x) offs da w ds::As)):
  an xP 72 #[xH (dB a),s,.func (.func f) pre post] h λv h'=>v=xF xL (makes m N l w ds).1/\aa B h0 h' (aY ba a pw (aA x) offs da (makes m N l w ds).2.1 (makes m N l w ds).2.2::As):=by
 refine ts Tryz.func72 ?_ (.two .n (.two (.two .n (.inn (.loop [(12,aQ)] [(6,7),(8,10),(12,34)] (.two .n (.two .n (.two (.inn (.two .n (.two (.join [(9,aQ)] [(9,10),(16,30)] .n) .n))) .n)))))) .n)) (args:=[(dB a),s,(.func (.func f) pre post)]);have ad:=(G.at [_] H).2.2.len;obtain⟨Z,O⟩:∃Z,Z=makes m N l w ds:=⟨_,rfl⟩
 rw[<-O];refine aq (λt:Nat×Pow×aE=>(t.1:Int)) (λt h'=>t.1<=i0 l/\Z=makes m N (l.drop t.1) t.2.1 t.2.2/\aa B h0 h' (aY ba a pw (aA x) offs da t.2.1 t.2.2::As)) (λt=>i0 l-t.1) (0,w,ds) i4 ⟨jj,O,H⟩ ?_;rintro⟨i,D,ds1⟩ h1 ⟨hi,q,E⟩;dsimp only at*;refine ag (λe=>?_) λe=>?_
 ·have p:i<i0 l:=i5
  rw[UE _ _ _ _ _ _ p]at q;obtain⟨ab,J,L⟩:=G.at [_] E;refine L.bt i i4 p l[i] i4 (aW ?_);have z:=F l[i] (qf p);obtain⟨k,I⟩:∃k,k=l[i]:=⟨_,rfl⟩
  have K:k∈l:=by rw[I];exact qf p
  rw[<-I]at q z;rw[<-I];obtain⟨n,rfl⟩:∃n:Nat,k=n:=⟨k.toNat,i5⟩
  obtain⟨ok,y⟩:=aa.cK E;have S:n<i0 da:=rb
  have Q:∀{h':g0},bY h' a 92 (bQ (aA x) pw offs da)->cellOf h' ((a.add 10).add ((n:Int).toNat*1))=dB (.pointer da[n]):=λ{h'} y=>by
   rw[qj,wN];refine y.uv 10 n ?_;rw[rZ ok.l8,qc S];rfl
  refine⟨a,i4,⟨i5,i5⟩,da[n],Q y,a,i4,x,y.aF _ i4,dT T ?_⟩;refine(J n K).mono ?_;rintro _ W ⟨rfl,R⟩;have P:=E.up R.ae;have g:=y.ae R.ae y.lt;refine⟨_,i4,⟨g.cell0 i4,g.cell i4,g.cell i4,g.cell i4,g.cell i4,g.cell i4,g.cell i4,g.cell i4,Q g,trivial⟩,?_⟩;have M:iG da (n:Int)=da[n]:=by unfold iG;rw[g9 i5,qj,qc S];rfl
  rw[<-M];obtain⟨c,o⟩:∃c,c=ja m D ds1 n (N n):=⟨_,rfl⟩
  rw[<-o]at q;have fin:∀{h3:g0},aa B h0 h3 (aY ba a pw (aA x) offs da c.2.1 c.2.2::As)->bR.ok [] h3/\Br (c.1 !=(0:Int)) (Value.int .i64 c.1=xF xL Z.1/\aa B h0 h3 (aY ba a pw (aA x) offs da Z.2.1 Z.2.2::As))
    (∃r:Nat×Pow×aE,qe xL ((i:Int)+1)=(r.1:Int)/\(r.1<=i0 l/\Z=makes m N (l.drop r.1) r.2.1 r.2.2/\aa B h0 h3 (aY ba a pw (aA x) offs da r.2.1 r.2.2::As))/\l.length-r.1<i0 l-i):=λ{h3} H3=>by
   refine⟨trivial,bx (λu=>?_) λu=>?_⟩
   ·rw[hU u]at q;rw[q];exact⟨i4,H3⟩
   ·rw[g9 u]at q;exact⟨(i+1,c.2.1,c.2.2),j0,⟨i7,q,H3⟩,i7⟩
  rcases oA ok (n:Int)with⟨e1,u⟩|⟨n',d,b,e0,e1,u,e3,e4,e5⟩
  ·rw[u];have A:c=(5,D,ds1):=by rw[o];unfold ja;rw[e1]
   refine(OG x _ W).mono ?_;rintro _ h3 ⟨rfl,V⟩;exact⟨c.1,by rw[A],fin (h3:=h3) (by rw[A];exact P.up V.ae)⟩
  ·rw[e5];have en:n=n':=i5
   subst en;obtain⟨b',j,Y⟩:=Qw.aa.kC P u;rw[e4]at j;injection j with j
   injection j with j
   subst j;have A:c=((ge m D d (N n)).1,(ge m D d (N n)).2.1,ds1.set n (dB (ge m D d (N n)).2.2)):=by rw[o];unfold ja;rw[e3];simp only[ck,qj]
   refine(Lp x m (N n) (λBs h' X=>(G (Bs++[_]) h' (by rw[qn];exact X)).1) hz Y).mono ?_;rintro _ h3 ⟨rfl,H6⟩;have U:=Qw.aa.uw (k:=ba) (n:=n) e4 H6;exact⟨c.1,by rw[A],fin (h3:=h3) (by rw[A];exact U)⟩
 ·rw[zc i5]at q;rw[q];exact⟨i4,E⟩
end
def aaK(a b:dN):Int:=if fm a.1 b.1 then-1 else if jT a.1 b.1 then 0 else 1
def jJ(a b:dN):Bool:=jT a.1 b.1
theorem OH(a b:dN):aaK a b<0↔¬jJ b a=eX:=by unfold aaK jJ jT;cases h:fm a.1 b.1<;>simp;split<;>omega
theorem Eu:Ord jJ:=⟨λa b c=>DF a.1 b.1 c.1,λa b=>DG a.1 b.1⟩
abbrev OI(x:dN):Value:=xK #[xI x.1,xF xL x.2.1,xF xL x.2.2.1,x.2.2.2]
theorem Mi(x y:ByteArray)(h:g0):an xP 120 #[xI x,xI y] h λv h'=>v=xF xL (if fm x y then-1 else if jT x y then 0 else 1)/\h'=h:=by
 refine ts Tryz.func120 ?_;have a:∀z:ByteArray,an xP 174 #[xI z] h λv h'=>v=xJ fz/\h'=h:=λz=>by
  refine ts Tryz.func174 ?_;exact⟨jj,i4⟩
 refine(a x).mono ?_;rintro _ _ ⟨rfl,rfl⟩;refine⟨_,i4,(a y).mono ?_⟩;rintro _ _ ⟨rfl,rfl⟩;refine⟨_,i4,bo (λe=>j3) λ_=>bo (λe=>j3) λ_=>?_⟩;have d:Op.bytesLess x.toList y.toList=fm x y:=rfl;rw[MF,d];have c:(!Op.bytesLess y.toList x.toList)=jT x y:=rfl;rw[c];refine bo (λe=>⟨o8,i4⟩) λe=>aR (λb=>⟨by rw[e,b];rfl,i4⟩) λb=>⟨by rw[e,b];rfl,i4⟩
theorem UF(a b:dN)(h:g0):an xP 119 #[OI a,OI b] h λv h'=>v=xF xL (aaK a b)/\Sp h h' []:=by refine ts Tryz.func119 ?_ (args:=[a,b]);refine(Sp.refl h).boxed λg i f=>f.boxed λe d c=>?_;have c:Sp h d [ac g 88 (bc a),ac e 88 (bc b)]:=c;refine⟨a.1,(c.box 0 i4).cell0 i4,b.1,(c.box 1 i4).cell0 i4,(Mi a.1 b.1 d).mono ?_⟩;rintro _ _ ⟨rfl,rfl⟩;exact⟨_,i4,i4,.zip c.ae⟩
abbrev sD(s:Sl)(d:List dN):HP:=af 88 s 4 bc d
variable {h':g0} {s:Sl}
section
variable {d:List dN}
theorem QP{b d:List dN}{y:dN}(c:Sd jJ (b++d))(f:∀z∈b,jJ z y=eX)(g:∀z∈d,¬jJ z y=eX):Sd jJ (b++y::d):=
 Sd.app Eu c.left (zK.2 ⟨λz a=>Eu.AV (g z a),c.right⟩) λx e z a=>by
  rcases qX.1 a with rfl|a
  ·exact f x e
  ·exact c.wi x e z a
theorem IG(X M Y:List dN)(a b:Int)(ha:a=(i0 X:Int))(hb:b=(i0 X+i0 M:Nat))(ad:i0 X+i0 M+i0 Y<=2^40)(H:aa B h0 h (sD s (X++(M++Y))::As)):
  an xP 236 #[s,xF xL a,xF xL b,.func (.func 119) #[] #[]] h λv h'=>v=.tuple #[]/\∃M',Sd jJ M'/\co jJ M M'/\aa B h0 h' (sD s (X++(M'++Y))::As):=by
 refine ts Tryz.func236 ?_ (.two .n (.inn (.loop [(8,aQ)] [(8,10),(12,53)] (.two .n (.two (.inn (.two .n (.inn (.loop [(9,aQ)] [(9,10),(18,53)] (.two (.join [] [(18,35)] .n) .n))))) .n))))) (args:=[s,(a:Int),(b:Int),(.func (.func 119) #[] #[])]);subst ha;subst hb;rw[ai ((i0 X:Int)+1)];refine aq (λt:Nat×List dN=>((i0 X+1+t.1:Nat):Int)) (λt h'=>(t.1+1<=i0 M∨t.1=0)/\Sd jJ t.2/\co jJ (M.take (t.1+1)) t.2/\t.2.length=i0 (M.take (t.1+1))/\aa B h0 h' (sD s (X++(t.2++(M.drop (t.1+1)++Y)))::As)) (λt=>i0 M-t.1) (0,M.take 1) i4 ?_ ?_
 ·refine⟨.inr i4,?_,co.refl _,i4,?_⟩
  ·cases M with
   |nil=>exact List.Pairwise.nil
   |cons x M=>exact zK.2 ⟨λ_ h=>mn,jj⟩
  ·rw[<-qn (M.take (0+1)),List.take_append_drop];exact H
 rintro⟨t,P⟩ h1 ⟨ht,A,E,W,V⟩;dsimp only at*;refine ag (λe=>?_) (λe=>?_)
 ·have J:t+1<i0 M:=i5
  obtain⟨y,hy⟩:∃y,y=M[t+1]:=⟨_,rfl⟩
  have K:i0 P=t+1:=by rw[W];simp;omega
  have eD:M.drop (t+1)=y::M.drop (t+1+1):=by rw[qK J,hy]
  rw[eD]at V;refine aq (λu:List dN×List dN=>((i0 X+i0 u.1:Nat):Int)) (λu h'=>u.1++u.2=P/\(∀z∈u.2,¬jJ z y=eX)/\aa B h0 h' (sD s (X++(u.1++(y::(u.2++(M.drop (t+1+1)++Y)))))::As)) (λu=>i0 u.1) (P,[]) (by dsimp only;rw[K];congr 1;omega) ⟨jj,jj,by simpa using V⟩ ?_;rintro⟨c,d⟩ h2 ⟨L,k,I⟩;dsimp only at*;have ah:i0 c+i0 d=t+1:=by rw[<-K,<-L,qw]
  have f:∀{h':g0},(∀z∈c,jJ z y=eX)->aa B h0 h' (sD s (X++(c++(y::(d++(M.drop (t+1+1)++Y)))))::As)->
    ∃l:Nat×List dN,qe xL (((i0 X+1+t:Nat):Int)+1)=((i0 X+1+l.1:Nat):Int)/\((l.1+1<=i0 M∨l.1=0)/\Sd jJ l.2/\co jJ (M.take (l.1+1)) l.2/\l.2.length=i0 (M.take (l.1+1))/\aa B h0 h' (sD s (X++(l.2++(M.drop (l.1+1)++Y)))::As))/\M.length-l.1<i0 M-t:=λ{h'} hle H'=>by
   refine⟨(t+1,c++y::d),by dsimp only;rw[ai _];omega,⟨.inl i7,?_,?_,?_,?_⟩,i7⟩
   ·exact QP oj hle k
   ·try dsimp only
    rw[aD M (t+1) J,<-hy];have h1:co jJ (M.take (t+1)++[y]) (P++[y]):=E.app (co.refl _);refine h1.trans ?_;rw[<-L,qn];have h2:co jJ (d++[y]) ([y]++d):=co.Su Eu λx hx z R=>by rw[qu.1 R];exact k x hx
    exact(co.refl _).app h2
   ·(try dsimp only);simp;omega
   ·try dsimp only
    have:X++((c++y::d)++(M.drop (t+1+1)++Y))=X++(c++(y::(d++(M.drop (t+1+1)++Y)))):=jj
    rw[this];exact H'
  obtain⟨D,T⟩:∃D,D=X++(c++(y::(d++(M.drop (t+1+1)++Y)))):=⟨_,rfl⟩
  refine bL (λ_ h'=>∃(Q:List dN) (z:dN),c=Q++[z]/\¬jJ z y=eX/\aa B h0 h' (sD s D::As)) ?_ ?_
  ·rw[<-T]at I f;refine ag (λO=>?_) (λO=>⟨trivial,f (λz R=>?_) I⟩)
   ·have N:c≠[]:=λh=>by rw[h]at O;simp at O
    obtain⟨Q,z,p⟩:∃(Q:List dN) (z:dN),c=Q++[z]:=⟨c.dropLast,c.getLast N,(List.dropLast_concat_getLast N).symm⟩
    have ab:i0 c=i0 Q+1:=qs
    have g1:D[i0 X+i0 c]?=dB y:=by rw[T,qh i5,show X.length+i0 c-i0 X=i0 c by omega,qh i5,qW];rfl
    have g2:D[i0 X+i0 c-1]?=dB z:=by rw[T,qh i5,show X.length+i0 c-1-i0 X=i0 Q by omega,p,qn,qh (ql _),qW];rfl
    obtain⟨S,F⟩:=qk.1 g1;obtain⟨U,r⟩:=qk.1 g2;refine(I.seq 0 i4 λ_=>rfl).cU (g:=bc) _ i4 S y tp ?_;have ej:qe xL (((i0 X+i0 c:Nat):Int)-1)=((i0 X+i0 c-1:Nat):Int):=j6
    rw[ej];refine(I.seq 0 i4 λ_=>rfl).cU (g:=bc) _ i4 U z q6 (dT lb ?_);refine(UF y z h2).mono ?_;rintro _ h3 ⟨rfl,R3⟩;have G:=I.up R3.ae;refine⟨_,i4,trivial,ag (λZ=>⟨Q,z,p,(OH y z).1 Z,G⟩) λZ=>f (λw m=>?_) G⟩;have o:jJ z y=eX:=by
     by_cases hc:jJ z y=eX
     ·exact hc
     ·exact absurd ((OH y z).2 hc) Z
    rw[p]at m;rcases qz.1 m with m|m
    ·refine Eu.trans _ _ _ ?_ o;have:Sd jJ (Q++[z]):=by rw[<-p];exact Sd.left (v:=d) oj
     exact this.wi w m z jj
    ·rw[qu.1 m];exact o
   ·have:c=[]:=by
     cases c with
     |nil=>rfl
     |cons x P=>exfalso;simp only[ze]at O;omega
    rw[this]at R;cases R
  ·rintro _ h3 ⟨Q,z,p,o,G⟩;have ab:i0 c=i0 Q+1:=qs
   have q:D=(X++Q)++z::([]++y::(d++(M.drop (t+1+1)++Y))):=by rw[T,p];simp
   obtain⟨q1,q2,q3,q4⟩:=Kj (X++Q) [] (d++(M.drop (t+1+1)++Y)) z y (i:=i0 X+i0 c-1) (j:=i0 X+i0 c) i9 i9;rw[<-q]at q1 q2 q3 q4;obtain⟨U,r⟩:=qk.1 q1;obtain⟨S,F⟩:=qk.1 q2;have ej:qe xL (((i0 X+i0 c:Nat):Int)-1)=((i0 X+i0 c-1:Nat):Int):=j6
   rw[ej];refine(G.seq 0 i4 λ_=>rfl).cU (g:=bc) _ i4 U z q6 ?_;refine(G.seq 0 i4 λ_=>rfl).cU (g:=bc) _ i4 S y tp ?_;refine G.set aj 0 i4 (λ_=>rfl) i4 (i0 X+i0 c) i4 S z i4 i4 i4 λh4 H4=>⟨trivial,?_⟩
   refine H4.set aj 0 i4 (λ_=>rfl) i4 (i0 X+i0 c-1) i4 (by simpa using U) y i4 i4 i4 λh5 H5=>⟨trivial,?_⟩
   refine⟨(Q,z::d),l6,⟨by dsimp only;rw[<-L,p];simp,?_,?_⟩,i7⟩
   ·try dsimp only
    intro w m;rcases qX.1 m with rfl|m
    ·exact o
    ·exact k w m
   ·try dsimp only
    have:X++(Q++(y::(z::d++(M.drop (t+1+1)++Y))))=(X++Q)++y::([]++z::(d++(M.drop (t+1+1)++Y))):=jj
    rw[this,<-q4];exact H5
 ·refine⟨i4,P,A,?_,?_⟩
  ·rw[qg i5]at E;exact E
  ·rw[zc i5]at V;simpa using V
theorem OJ(r:Nat)(h:g0)(b:r<=2^32):an xP 130 #[xF xO r] h λv h'=>(∃k:Int,v=xF xL k)/\h'=h:=by intro w a;refine(Tryz.bits_Len (r:Int) w i5 i5).mono ?_;rintro e c ⟨rfl,rfl⟩;exact⟨_,i4,dg.refl _,⟨_,i4⟩,a⟩
theorem UG(d:List dN)(m:i0 d<=12)(H:aa B h0 h (sD s d::As)):
  an xP 118 #[s,.func (.func 119) #[] #[]] h λv h'=>v=.tuple #[]/\aa B h0 h' (sD s (d.mergeSort jJ)::As):=by
 refine ts Tryz.func118 ?_ (args:=[s,(.func (.func 119) #[] #[])]);have c:=(H.own 0 i4).len;have a:∀k:Int,an xP 173 #[s,xF xL 0,xF xL (s.len:Nat),xF xL k,.func (.func 119) #[] #[]] h λv h'=>v=.tuple #[]/\aa B h0 h' (sD s (d.mergeSort jJ)::As):=λk=>by
  refine ts Tryz.func173 ?_ (.two .n (.two .n (.inn (.loop [(1,aQ),(2,aQ),(3,aQ),(10,sM),(11,sM)] [(1,4),(10,148)] (.inn (.two .n (.two .n (.two .n (.two (.join [(3,aQ)] [(3,4),(38,47)] .n) (.two .n (.two (.join [(13,aQ),(14,aQ)] [(13,15),(55,68)] .n) (.two (.join [] [(68,81)] .n) (.two (.join [(1,aQ)] [(1,2),(15,16),(81,105)] (.two (.join [(97,sM)] [(81,98)] .n) .n)) .n))))))))))))) (args:=[s,(0:Int),((s.len:Nat):Int),(k:Int),(.func (.func 119) #[] #[])]);refine aq (λ_:Unit=>((0:Int),((s.len:Nat):Int),k,eX,eX)) (λ_ h'=>h'=h) (λ_=>0) () i4 i4 ?_;rintro _ f rfl;refine ag (λ_=>?_) λe=>absurd (show qe xL (((s.len:Nat):Int)-0)<=12 by rw[ai _];omega) e;refine(IG [] d [] 0 (s.len:Nat) i4 m7 i9 l0).mono ?_;rintro _ g ⟨rfl,M,l,j,b⟩;refine⟨(),i4,i4,?_⟩;rw[<-ME Eu l j];simpa using b
 have i:qe xO ((s.len:Nat):Int)=((s.len:Nat):Int):=by unfold qe;simp[qH,va];omega
 rw[i];refine(OJ s.len h i5).mono ?_;rintro _ f ⟨⟨k,rfl⟩,rfl⟩;refine⟨k,i4,(a k).mono ?_⟩;rintro _ g ⟨rfl,b⟩;exact⟨(),i4,i4,b⟩
end
def Bf:bm:=(0,0,0,0,0,0,⟨eH,0,0⟩,⟨eH,0,0⟩)
theorem QQ{m:av}{e:Qw.cu}{xe:dN}{L:List (dN×Qw.cu)}{pool:List (Sl×aB)}(k:L.map zh=m.objs)(l:∀p∈L,Ch pool p)(j:Ch pool (xe,e)):
  ∃g:List (dN×Qw.cu),g.map qt=(L.map qt++[xe]).mergeSort jJ/\g.map zh=(m.objs++[e]).mergeSort sX/\∀p∈g,Ch pool p:=by
 have c:∀p∈L++[(xe,e)],Ch pool p:=λp d=>by
  rcases qz.1 d with d|d
  ·exact l p d
  ·rw[qu.1 d];exact j
 refine⟨(L++[(xe,e)]).mergeSort λa b=>jJ a.1 b.1,?_,?_,λp d=>c p ((wV _ _).mem_iff.1 d)⟩
 ·rw[yV (r:=λa b=>jJ a.1 b.1) (s:=jJ) (f:=qt) λa _ b _=>rfl,qL];rfl
 ·rw[yV (r:=λa b=>jJ a.1 b.1) (s:=sX) (f:=zh) (λa h b i=>by unfold jJ sX;rw[(c a h).1.1,(c b i).1.1]),qL,k];rfl
theorem XC(x:bm)(m:av)(xe:dN)(e:Qw.cu)(S:dh h x m)(U:cF m)(hs:0<=m.seq/\m.seq<=2^40)(hn:0<=m.next/\m.next<=2^40)(ho:m.objs.length<=11)(X:xe.1=e.name/\xe.2.1=e.object/\xe.2.2.1=e.length)(H:aa B h0 h (lm xe.2.2.2 1 ak e.tries::As)):
  an xP 69 #[dz x,OI xe] h λv h'=>∃y:bm,v=dz y/\aa B h0 h' (bh y (fi m e)::As):=by
 refine ts Tryz.func69 ?_ (args:=[x,xe]);refine(Sp.refl h).boxed λG Z W=>W.boxed λg h2 F=>F.alloc aj i4 λa3 h3 j=>?_;have j:Sp h h3 [ac G 39 (aA x),ac g 88 (bc xe),ac a3 39 (aA Bf)]:=j;refine⟨x,(j.box 0 i4).aF _ i4,(nz x m h3 (S.up j.ae) U).mono ?_⟩;rintro _ h4 ⟨y,L,pool,rfl,n,E,A,V⟩;have P:=((j.bA [1,2]).comp V).front;refine⟨y,i4,P.alloc aj i4 λi Y u=>?_⟩;have u:=u.be;refine u.storeAll aj 0 i4 i4 (aA y) i4 i4 i4 i4 λJ s=>?_;have s:Sp h J [ac i 39 (aA y),cw 1 ak pool,af 3 y.2.2.2.2.2.2.1 1 ak m.drives,af 88 y.2.2.2.2.2.2.2 4 bc (L.map qt),ac g 88 (bc xe),ac a3 39 (aA Bf)]:=s;refine⟨y.1,(s.box 0 i4).cell0 i4,?_⟩;have M:qe xL (y.1+1)=m.seq+1:=by rw[n.1,ai _]
 have T:qe xL (y.2.1+1)=m.next+1:=by rw[n.2.1,ai _]
 try dsimp only
 rw[M];refine s.jr aj 0 i4 i4 [xF xL (m.seq+1)] i4 i4 i4 kt λQ q=>?_;have q:Sp h Q [ac i 39 (xF xL (m.seq+1)::(aA y).drop 1),cw 1 ak pool,af 3 y.2.2.2.2.2.2.1 1 ak m.drives,af 88 y.2.2.2.2.2.2.2 4 bc (L.map qt),ac g 88 (bc xe),ac a3 39 (aA Bf)]:=q;refine⟨y.2.1,(q.box 0 i4).cell i4,?_⟩
 try dsimp only
 rw[T];refine q.store aj 0 i4 i4 1 [xF xL (m.next+1)] i4 i4 i4 kt λh8 k=>?_;have k:Sp h h8 [ac i 39 (xF xL (m.seq+1)::xF xL (m.next+1)::(aA y).drop 2),cw 1 ak pool,af 3 y.2.2.2.2.2.2.1 1 ak m.drives,af 88 y.2.2.2.2.2.2.2 4 bc (L.map qt),ac g 88 (bc xe),ac a3 39 (aA Bf)]:=k;have N:L.length=m.objs.length:=by rw[<-E,qq]
 refine⟨y.2.2.2.2.2.2.2,(k.box 0 i4).cell i4,xe,(k.box 4 i4).aF _ i4,?_⟩;refine k.push aj 3 i4 Kg i4 i6 (λ_=>rfl) FE xe i4 i6 i9 λo I w=>?_;refine w.store aj 0 i4 i4 7 [o] i4 i4 i4 kt λt c=>?_;obtain⟨a,b⟩:∃a:bm,a=(m.seq+1,m.next+1,y.2.2.1,y.2.2.2.1,y.2.2.2.2.1,y.2.2.2.2.2.1,y.2.2.2.2.2.2.1,o):=⟨_,rfl⟩
 have R:a.2.2.2.2.2.2.1=y.2.2.2.2.2.2.1:=by rw[b]
 have O:a.2.2.2.2.2.2.2=o:=by rw[b]
 have c:Sp h t [ac i 39 (aA a),cw 1 ak pool,af 3 a.2.2.2.2.2.2.1 1 ak m.drives,af 88 a.2.2.2.2.2.2.2 4 bc (L.map qt++[xe]),ac g 88 (bc xe),ac a3 39 (aA Bf)]:=by rw[R,O,b];exact c
 refine⟨a.2.2.2.2.2.2.2,(c.box 0 i4).cell i4,?_⟩;have c:=c.aO 6 [3,0,1,2,4,5];refine(UG (L.map qt++[xe]) i9 c).mono ?_;rintro _ z ⟨rfl,f⟩;have f:Sp h z [sD a.2.2.2.2.2.2.2 ((L.map qt++[xe]).mergeSort jJ),ac i 39 (aA a),cw 1 ak pool,af 3 a.2.2.2.2.2.2.1 1 ak m.drives,ac g 88 (bc xe),ac a3 39 (aA Bf)]:=f;refine⟨(),i4,a,(f.box 1 i4).aF _ i4,?_⟩;refine f.storeAll aj 5 i4 i4 (aA a) i4 i4 i4 i4 λl d=>?_;have d:Sp h l [sD a.2.2.2.2.2.2.2 ((L.map qt++[xe]).mergeSort jJ),ac i 39 (aA a),cw 1 ak pool,af 3 a.2.2.2.2.2.2.1 1 ak m.drives,ac g 88 (bc xe),ac a3 39 (aA a)]:=d;refine⟨a,(d.box 5 i4).aF _ i4,a,i4,?_⟩;obtain⟨L',l1,l2,K⟩:=QQ (pool:=(xe.2.2.2,e.tries)::pool) (m:=m) (e:=e) (xe:=xe) E (λp D=>⟨(A p D).1,qD _ (A p D).2⟩) ⟨X,qM⟩;have r:=((H.comp (d.bA [2,3,0])).front).aO 4 [0,3,1,2];have r:aa B h0 l (cw 1 ak ((xe.2.2.2,e.tries)::pool)::af 3 a.2.2.2.2.2.2.1 1 ak m.drives::af 88 a.2.2.2.2.2.2.2 4 bc ((L.map qt++[xe]).mergeSort jJ)::As):=aa.Ki r;rw[<-l1]at r;refine aa.Ci (m:=fi m e) ⟨by rw[b];rfl,by rw[b];rfl,by rw[b];exact n.2.2.1,by rw[b];exact n.2.2.2⟩ l2 K r
section
variable {pw:f8}
theorem aa.XD{x y:bm}(H:aa B h0 h (aY ba a pw (aA x) offs da w ds::As)){K:Unit->g0->Prop}(d:∀h',aa B h0 h' (aY ba a pw (aA y) offs da w ds::As)->K () h'):
  au xP (qG 39 (xH (dB a)) (dz y)) h K:=by
 obtain⟨ok,b⟩:=Qw.aa.oz H;refine b.jr aj 0 i4 i4 (aA y) i4 i4 i4 jj λh' c=>d h' ?_;exact aa.oJ (k:=ba) ⟨i4,ok.la,ok.ls,ok.same⟩ c
theorem IH(x z:bm)(b:av)(s:Sl)(l:aB)(m:St B h0 As λh=>dh h z b/\Rd h s 1 ak l)(j:cF b)(p:i0 l<=2^10)(i:∀k∈l,0<=k/\k<64)(H:aa B h0 h (aY ba a pw (aA x) offs da w ds::As)):
  an xP 73 #[xH (dB a),dz z,s] h λv h'=>v=xF xL (layAll (bI b l) w ds).1/\
   ((layAll (bI b l) w ds).1≠0->aa B h0 h' (aY ba a pw (aA x) offs da (layAll (bI b l) w ds).2.1 (layAll (bI b l) w ds).2.2::As))/\
   ((layAll (bI b l) w ds).1=0->∃y,aa B h0 h' (aY ba a pw (aA y) offs da (layAll (bI b l) w ds).2.1 (layAll (bI b l) w ds).2.2::bh y b::As)):=by
 refine ts Tryz.func73 ?_ (args:=[(dB a),z,s]);refine H.boxed λD F d=>?_;have d:=d.be;refine⟨z,(d.box 0 i4).aF _ i4,(FZ z b s l F (m.at [_,_] d).1 j (m.at [_,_] d).2 p).mono ?_⟩;rintro _ M ⟨r,t,rfl,K⟩;have A:=(d.cb K).aO 3 [2,0,1];have f:=jI b j;have u:=wy p f;refine⟨r,i4,(Ek r t (bI b l) (St.eG 0 i4 λ_ o=>o) (by rw[AG];omega) (λq o=>?_) A).mono ?_⟩
 ·obtain⟨n,g⟩:=kR o;rw[g];exact⟨i _ n,i6⟩
 rintro _ h3 ⟨rfl,c⟩;obtain⟨R,E⟩:∃R,R=layAll (bI b l) w ds:=⟨_,rfl⟩
 rw[<-E]at c⊢;refine⟨_,i4,bx (λe=>⟨i4,λ_=>c.aO 3 [0],λh=>absurd h e⟩) λe=>?_⟩;have c:aa B h0 h3 (aY ba a pw (aA x) offs da R.2.1 R.2.2::cM jm 2 piv r t (bI b l)::ac D 39 (aA z)::As):=c;refine⟨z,(c.box 2 i4).aF _ i4,(Cj z b h3 (m.at [_,_,_] c).1 j).mono ?_⟩;rintro _ N ⟨y,rfl,J⟩;have G:=(c.cb J).aO 4 [1,0];refine⟨y,i4,a,i4,aa.XD G λL I=>?_⟩;exact⟨by rw[e],λh=>absurd e h,λ_=>⟨y,I⟩⟩
def gm(name:ByteArray)(e:Qw.cu):Bool:=e.name.toList==name.toList
theorem find_spec(x:bm)(m:av)(name:ByteArray)(s:dh h x m)(t:cF m)(H:aa B h0 h (aY ba a pw (aA x) offs da w ds::As)):
  an xP 75 #[xH (dB a),xI name] h λv h'=>(∃i:Int,v=xF xL i/\Uy (gm name) m.objs i)/\Sp h h' []:=by
 refine ts Tryz.func75 ?_;refine(Sp.refl h).boxed λc k b=>?_;have j:bY k c 9 [xI name]:=b.box 0 i4;obtain⟨ok,n⟩:=aa.cK H;have e:=n.ae b.ae n.lt;have f:=t.ob;refine⟨a,i4,x.2.2.2.2.2.2.2,e.cell i4,?_⟩;refine(Ga 126 #[] #[xH (dB c)] (gm name) x.2.2.2.2.2.2.2 m.objs k lb (s.up b.ae).objs f ?_).mono ?_
 ·intro u E l g p y;refine ts Tryz.func126 ?_ (args:=[u,c]);refine(Sp.refl l).boxed λz h3 d=>?_;have o:=(j.ae g.ae j.lt)
  have r:=o.ae d.ae o.lt;refine⟨u.1,(d.box 0 i4).cell0 i4,name,r.cell0 i4,?_,.zip d.ae⟩;unfold gm;rw[p.1.1]
 ·rintro _ l ⟨⟨i,rfl,q⟩,g⟩;exact⟨i,i4,⟨i,i4,q⟩,.zip (aa.up b g.ae).ae⟩
theorem sa{b:aT}(H:aa B h0 h (aY ba a pw b offs da w ds::As)):an xP 74 #[xH (dB a)] h λv h'=>v=xJ (fH w offs)/\h'=h:=by refine ts Tryz.func74 ?_;refine bo (λe=>j3) λ_=>(rh H).mono ?_;rintro _ _ ⟨rfl,rfl⟩;exact⟨_,i4,i4,i4⟩
def dW(m:av)(down:Bool)(ds:aE)(name:ByteArray)(n:Nat):Int:=
 if down then 14 else if !kW name then 3 else if m.objs.any (gm name)then 4
 else if m.p.1*m.p.2.2*8<(n:Int)∨12<=i0 m.objs then 6
 else if aU ds m.drives=[]∨16777215<m.next∨2147483647<=m.seq then 7 else 0
theorem OK(x:bm)(m:av)(name:ByteArray)(s:Sl)(n:Nat)(hn:s.len=n)(q:name.size<=2^40)(T:dh h x m)(K:cF m)(S:bJ m.p=eX)(H:aa B h0 h (aY ba a pw (aA x) offs da w ds::As)):
  an xP 65 #[xH (dB a),xI name,s] h λv h'=>v=xF xL (dW m (fH w offs) ds name n)/\Sp h h' []:=by
 refine ts Tryz.func65 ?_ (.two .n (.two (.inn (.two .n (.two .n (.two .n (.two .n (.two .n (.two .n (.two (.join [(19,sM)] [(19,46)] .n) .n)))))))) .n));have R:=(bT m.p).1 S;refine(sa H).mono ?_;rintro _ D ⟨rfl,rfl⟩;refine⟨_,i4,bo (λe=>⟨by unfold dW;rw[e];rfl,Sp.refl _⟩) λl=>?_⟩;refine(Lj name D q).mono ?_;rintro _ h2 ⟨rfl,o⟩;refine⟨_,i4,aR (λe=>⟨by unfold dW;rw[l,e];rfl,o⟩) λE=>?_⟩;have J:=H.up o.ae;have k:=T.up o.ae;refine(find_spec x m name k K J).mono ?_;rintro _ h3 ⟨⟨i,rfl,M⟩,A⟩;have z:Sp D h3 []:=.zip (aa.up o A.ae).ae;have d:=Ov M;refine⟨i,i4,bo (λe=>⟨by unfold dW;rw[l,E,<-d,e];rfl,z⟩) λU=>?_⟩;rw[U]at d;have I:=J.up A.ae;have b:=k.up A.ae;obtain⟨ok,f⟩:=aa.cK I;have W:=bC.len b.objs;have u:x.2.2.1=m.p.1:=congrArg (·.1) b.p;have y:x.2.2.2.2.1=m.p.2.2:=congrArg (·.2.2) b.p;have hk:m.p.1*m.p.2.2<=16*24:=Int.mul_le_mul i5 i5 i5 i5;have L:0<=m.p.1*m.p.2.2:=vT i5 i5;refine bL (λ(t:Bool) h'=>t=decide (m.p.1*m.p.2.2*8<(n:Int)∨12<=i0 m.objs)/\h'=h3) ?_ ?_
 ·refine⟨a,i4,x.2.2.1,f.cell i4,a,i4,x.2.2.2.2.1,by rw[addr_add];exact f.cell i4,?_⟩
  try dsimp only
  rw[u,y,ai (m.p.1*m.p.2.2),ai (m.p.1*m.p.2.2*8)];refine ag (λe=>⟨(hY (.inl i5)).symm,i4⟩) λe=>?_;refine⟨a,i4,x.2.2.2.2.2.2.2,f.cell i4,?_,i4⟩;rw[decide_eq_decide];omega
 rintro t _ ⟨rfl,rfl⟩;refine ag (λe=>⟨by unfold dW;rw[l,E,<-d,g9 e];rfl,z⟩) λP=>?_;have X:dW m (fH w offs) ds name n=if aU ds m.drives=[]∨16777215<m.next∨2147483647<=m.seq then 7 else 0:=by unfold dW;rw[l,E,<-d,hU P];rfl
 rw[X];refine(gb x m b K I).mono ?_;rintro _ V ⟨r,rfl,G⟩;have g:=(G.own 0 i4).len;have c:Sp D V []:=.zip (aa.up z G.ae).ae;have j:=f.ae G.ae f.lt;refine⟨r,i4,cH (λe=>⟨by rw[g9 (.inl (q9 i5))],c⟩) λe=>?_⟩;have F:aU ds m.drives≠[]:=λO=>by rw[O]at g;simp at g;omega
 refine⟨a,i4,x.2.1,j.cell i4,ag (λe=>⟨by rw[g9 (.inr (.inl (by rw[<-b.next];omega)))],c⟩) λZ=>?_⟩;have N:=b.next;have Q:=b.seq;refine⟨a,i4,x.1,j.cell0 i4,ag (λe=>⟨by rw[g9 (.inr (.inr i5))],c⟩) λY=>⟨?_,c⟩⟩;rw[hU];rintro(h|h|h)
 ·exact F h
 ·omega
 ·omega
end
theorem OL:∃i a,C.T.get 58=dB i/\i.cG=.slice a:=⟨_,_,i4,i4⟩
def oM(A B:aJ)(k:Nat):aJ:=fd (A.take k) (B.take k)++A.drop k
theorem se{A B:aJ}(h:i0 B=i0 A)(k:Nat):i0 (oM A B k)=i0 A:=by simp[oM,fd,h];omega
theorem XE{A B:aJ}(h:i0 B=i0 A){k:Nat}(a:k<i0 A):(oM A B k)[k]?=dB A[k]:=by
 have:i0 (fd (A.take k) (B.take k))=k:=by simp[fd];omega
 rw[oM,qh i5,this,qW,wP,w9,qc a]
theorem XF{A B:aJ}(h:i0 B=i0 A){k:Nat}(a:k<i0 A):(oM A B k).set k (A[k]++B[k]'(by omega))=oM A B (k+1):=by
 have b:i0 (fd (A.take k) (B.take k))=k:=by simp[fd];omega
 rw[oM,qV _ _ i5,b,qW,qK a,zp,oM,aD _ _ a,aD _ _ (show k<i0 B by omega),fd,fd,yM i9,qn];rfl
theorem XG{A B:aJ}(h:i0 B=i0 A):oM A B A.length=fd A B:=by rw[oM,qN,<-h,qN,h,List.drop_length,qE]
theorem UH(f:f8)(a b:Sl)(A B:aJ)(n w:Nat)(h:g0)(hf:fI h f)(L:eT h a 1 az A)(P:eT h b 1 az B)(hl:i0 A=n)(a0:i0 B=n)(i:aS n A)(J:aS w B)(a9:1<=n)(hn:n+w<=64)(hr:ce A=n):
  an xP 162 #[xH (dB f),a,b] h λv h'=>∃r:Sl,v=.tuple #[r,xF xL 0]/\Sp h h' [fP 58 r 1 az (gp n A B)]:=by
 have d:i0 B=i0 A:=i5
 have Y:=L.len;have q:=P.len;refine ts Tryz.func162 ?_ (.two .n (.two (.join [] [(6,8),(17,37)] .n) (.two .n (.two .n (.two (.two .n (.inn (.loop [(43,aQ)] [(10,11),(43,59)] .n))) (.two .n (.two .n (.two (.two .n (.inn (.loop [(71,aQ)] [(6,8),(13,14),(71,79)] .n))) (.two .n (.two (.two .n (.inn (.loop [(14,cL),(83,aQ)] [(14,15),(16,17),(83,95)] .n))) .n))))))))));refine aW ?_;refine(mX a A n h L i).mono ?_;rintro v h1 ⟨rfl,rfl⟩;refine⟨_,i4,aR (λe=>j3) λ_=>?_⟩;refine(mX b B w h1 P J).mono ?_;rintro v N ⟨rfl,rfl⟩;refine⟨_,i4,aR (λe=>j3) λ_=>?_⟩;refine bx (λe=>absurd (by rw[Y,q,d]) e) λ_=>?_;refine cH (λe=>i5) λ_=>?_;refine(rk a A N L).mono ?_;rintro v h3 ⟨rfl,rfl⟩;have O:eU A=n:=by
  cases A with
  |nil=>simp at hl;omega
  |cons x t=>rw[eU,bw jj];exact i _ jj
 refine⟨_,i4,?_⟩;rw[O];refine(uz a A n h3 L i).mono ?_;rintro v h4 ⟨r,rs,rfl,ay,R4⟩;refine⟨r,i4,?_⟩;have ap:=(R4.own 0 i4).len;refine aq (λt:Nat×List Sl=>(t.1:Int)) (λt h'=>t.1<=n/\t.2.length=n/\Sp h3 h' (nM r t.2 (oM A B t.1))) (λt=>n-t.1) (0,rs) i4 ⟨jj,i7,by simpa[oM,fd]using R4⟩ ?_;rintro⟨k,rs⟩ h5 ⟨hk,a6,z⟩;dsimp only at*;have l:i0 rs=i0 (oM A B k):=oi
 refine ag (λe=>?_) (λe=>?_)
 ·have u:k<n:=i5
  have p:k<i0 A:=i5
  have I:=oK (a:=r) l k oi;have eg:(oM A B k)[k]'(by rw[se d];omega)=A[k]:=by have:=XE d p;rw[qc oi]at this;exact zW.inj this
  rw[eg]at I;have l1:A[k].length=n:=i _ (qf _);have l2:i0 (B[k]'(by omega))=w:=J _ (qf _);refine(z.seq 0 i4 λ_=>rfl).mB k i4 i5 λa1 T Q=>?_;refine(P.up z.ae).get k i4 i5 λrb ab=>?_;refine z.append aj (k+1) I gz OL i4 i6 (λ_=>rfl) ab gU i5 λG h6 H6=>⟨trivial,?_⟩
  refine H6.set aj 0 i4 (λ_=>rfl) i4 k i4 i5 G i4 i4 i4 λX H7=>⟨trivial,?_⟩
  refine⟨(k+1,rs.set k G),j0,⟨i7,l5,?_⟩,i7⟩
  try dsimp only
  rw[<-XF d p];show Sp h3 X (af 58 r 1 bg (rs.set k G)::bv 5 1 az (rs.set k G) ((oM A B k).set k _));rw[<-kN l];exact H7
 ·have Z:k=i0 A:=i5
  subst Z;rw[XG d]at z;refine(sB f h5).mono ?_;rintro v h6 ⟨rfl,rfl⟩;refine⟨dB f,i4,?_⟩;have F:=mT d.symm i J;have a7:=mv d.symm;refine(AE (m:=fd A B) (n:=n+w) hf hf.lt i5 F i5 i5 i5 z).mono ?_;rintro v X ⟨g,rfl,al,o⟩;rw[GK d.symm i,hr];refine⟨_,i4,?_⟩
  try dsimp only
  have am:=(o.own 0 i4).cap;have a2:=(o.own 0 i4).len;have N:=ig F n;refine ag (λe=>absurd (show(n:Int)<(n:Int)from e) i5) λ_=>?_;refine⟨⟨z8 _,yP.2 (show n<=r.len by omega)⟩,?_⟩;refine aq (λ_:Unit=>(0:Int)) (λ_ h'=>h'=X) (λ_=>0) () i4 i4 ?_;rintro _ h8 rfl;rw[qj];refine ag (λe=>i5) λ_=>?_;refine⟨⟨z8 _,yP.2 (show n<=r.cap by omega)⟩,?_⟩;obtain⟨M,K⟩:∃M,M=(bH (fd A B) n).2:=⟨_,rfl⟩
  have a3:i0 M=n:=by have:=N.2;rw[<-K]at this;omega
  have U:aS (n+w) M:=by rw[K];exact N.1
  have D:∀k (hk:k<n),(gp n A B).take (k+1)=(gp n A B).take k++[(M[k]'(by omega)).drop n]:=λk hk=>by
   have e1:gp n A B=M.map (List.drop n):=by rw[gp,<-K,qg i5]
   rw[e1,aD _ _ i9,wh]
  have ax:i0 (gp n A B)=n:=(tG d.symm i J hr).1;rw[<-K]at o;refine aq (λt:Sl×Nat=>(t.1,(t.2:Int))) (λt h'=>t.2<=n/\Sp h8 h' [fP 58 t.1 1 az ((gp n A B).take t.2)]) (λt=>n-t.2) (⟨eH,0,0⟩,0) i4 ⟨jj,(Sp.refl h8).HU 58 1 az⟩ ?_;rintro⟨s,k⟩ h9 ⟨a4,H⟩;dsimp only at*;have R:=o.comp H;have S:i0 g=i0 M:=i5
  refine ag (λe=>?_) (λe=>?_)
  ·have u:k<n:=i5
   have I:=oK (a:=r) S k i5;have E:(nM r g M++[fP 58 s 1 az ((gp n A B).take k)])[k+1]?=dB (af 5 (g[k]'(by omega)) 1 az (M[k]'(by omega))):=by rw[qm (by simp[bv];omega)];exact I
   have a8:i0 (M[k]'(by omega))=n+w:=U _ (qf _);have j:=R.own (k+1) E;have W:=R.seq (k+1) E λ_=>rfl;have ao:=j.len;have y:=(R.seq 0 i4 λ_=>rfl).take n i5;rw[qg i5]at y;refine y.mB k i4 i5 λa1 T Q=>?_;refine⟨⟨z8 _,yP.2 i5⟩,?_⟩;refine(fw _ _ h9 (W.drop n j.cap) i9).mono ?_;rintro v a5 ⟨c,rfl,ad⟩;have ah:=(H.comp ad).freeze 1 i4 λ_=>rfl;refine⟨c,i4,?_⟩;refine ah.tz aj 0 1 i6 i4 i4 fv i9 λs' ar V=>?_;refine⟨(s',k+1),j0,⟨i7,?_⟩,i7⟩
   try dsimp only
   rw[D k u];exact V.del 1
  ·rw[qg i5]at H;refine⟨s,i4,?_⟩;have:=(Sp.zip o.ae).comp H;exact this
def jo(p:Pm)(seed:Int)(l:Nat):Int:=if bJ p&&decide ((l:Int)=p.1*p.2.2)then(if fR p seed (fe p)then 0 else 8)else 1
abbrev AH(p:Pm)(seed:Int)(m:Sl):aT:=[xF xL p.1,xF xL p.2.1,xF xL p.2.2,xF xN seed,m]
theorem OM(p:Pm)(seed:Int)(data:Sl)(d:Row)(h:g0)(hd:Rd h data 1 az d)(hc:data.len<=data.cap):
  an xP 114 #[jW p,xF xN seed,data] h λv h'=>
   (jo p seed d.length=0->∃(b:f8) (m:Sl),v=.tuple #[xH (dB b),xF xL 0]/\Sp h h' [fP 58 m 1 az (dw p seed d),ac b 225 (AH p seed m)])/\
   (jo p seed d.length≠0->v=.tuple #[xH eH,xF xL (jo p seed d.length)]/\Sp h h' []):=by
 have Y:=hd.len;refine ts Tryz.func114 ?_ (.two .n (.two (.join [] [(6,8),(12,25)] .n) (.two .n (.two .n (.two (.two .n (.inn (.loop [(8,cL),(31,aQ)] [(8,9),(31,40)] .n))) (.two (.two .n (.inn (.loop [(8,cL),(42,aQ)] [(8,10),(42,60)] .n))) (.two (.join [(10,cL),(11,aQ)] [(10,12),(60,71)] .n) .n))))))) [(15,(.l [1,2,3,6,0,4,5,7,8,9,10,11,12]))] (args:=[p,(xF xN (seed:Int)),data]);refine(Sp.refl h).boxed λa h1 H1=>?_;refine aW ?_;refine⟨p,(H1.box 0 i4).aF _ i4,(dZ p h1).mono ?_⟩;rintro v h2 ⟨rfl,R2⟩;have N:=H1.comp R2;have Z:∀{h3:g0} (x:Int),x≠0->jo p seed d.length=x->Sp h h3 [ac a 36 [xF xL p.1,xF xL p.2.1,xF xL p.2.2]]->
   (jo p seed d.length=0->∃(b:f8) (m:Sl),Value.tuple #[xH eH,xF xL x]=.tuple #[xH (dB b),xF xL 0]/\Sp h h3 [fP 58 m 1 az (dw p seed d),ac b 225 (AH p seed m)])/\
   (jo p seed d.length≠0->Value.tuple #[xH eH,xF xL x]=.tuple #[xH eH,xF xL (jo p seed d.length)]/\Sp h h3 []):=λx hx R H=>by
  refine⟨λe=>absurd (R.symm.trans e) hx,λ_=>⟨by rw[R],.zip H.ae⟩⟩
 refine⟨_,i4,aR (λe=>Z 1 i6 (by rw[jo,e];rfl) N) λT=>?_⟩;have al:=(bT p).1 T;obtain⟨K,hK⟩:∃K:Nat,p.1=K:=⟨p.1.toNat,i5⟩
 obtain⟨y,hH⟩:∃H:Nat,p.2.1=H:=⟨p.2.1.toNat,i5⟩
 obtain⟨w,O⟩:∃w:Nat,p.2.2=w:=⟨p.2.2.toNat,i5⟩
 have ax:K*w<=16*24:=wy i5 i5;have M:p.1*p.2.2=((K*w:Nat):Int):=by rw[hK,O,wG]
 refine⟨p.1,(N.box 0 i4).cell0 i4,p.2.2,(N.box 0 i4).cell i4,?_⟩
 try dsimp only
 rw[M,ai _];refine bx (λe=>Z 1 i6 (by rw[jo,T,hZ (by rw[M];intro W;exact e (by rw[Y];exact W))];rfl) N) λel=>?_;have G:i0 d=K*w:=i5
 refine⟨p,(N.box 0 i4).aF _ i4,(IC p seed h2).mono ?_⟩;rintro v h3 ⟨rfl,R3⟩;have H3:=N.comp R3;have D:jo p seed d.length=if fR p seed (fe p)then 0 else 8:=by rw[jo,T,hY (by rw[M,G])];rfl
 refine⟨_,i4,aR (λe=>Z 8 i6 (by rw[D,e];rfl) H3) λhf=>?_⟩;rw[hf,g9 rfl]at D;have B:cv p seed d K y w (K+y):=⟨T,hf,hK,hH,O,i4,i5,i5,i5,i5,i5,i5,G⟩
 refine⟨p.2.1,(H3.box 0 i4).cell i4,?_⟩;refine aq (λt:Sl×List Sl=>(t.1,(i0 t.2:Int))) (λt h'=>i0 t.2<=y/\Sp h h' (ac a 36 [xF xL p.1,xF xL p.2.1,xF xL p.2.2]::nM t.1 t.2 (qi t.2.length (aI w)))) (λt=>y-i0 t.2) (⟨eH,0,0⟩,[]) i4 ⟨jj,H3.nil 58 1 bg⟩ ?_;rintro⟨s,rs⟩ h4 ⟨hk,P⟩;dsimp only at*;refine ag (λe=>?_) (λe=>?_)
 ·refine⟨p.2.2,(P.box 0 i4).cell i4,?_⟩;refine P.make aj az gz i6 0 i4 i4 w w O O (ql _) i5 λz h5 ar ao E=>?_;refine E.push aj 1 i4 fv i4 i6 (λ_=>rfl) jQ z i4 i6 i5 λV X H6=>?_;refine⟨(V,rs++[z]),by dsimp only;rw[ai _];simp,⟨i9,?_⟩,i9⟩
  try dsimp only
  have e7:nM V (rs++[z]) (qi rs.length (aI w)++[aI w])=af 58 V 1 bg (rs++[z])::(bv 5 1 az rs (qi rs.length (aI w))++[af 5 z 1 az (aI w)]):=congrArg _ (tZ jj z (aI w));rw[show(rs++[z]).length=i0 rs+1 by simp,List.replicate_succ',e7];exact H6
 ·have L:i0 rs=y:=i5
  rw[L]at P;refine⟨p.1,(P.box 0 i4).cell0 i4,?_⟩;let own:=bv 5 1 az rs (qi y (aI w));refine aq (λt:Sl×Nat=>(t.1,(t.2:Int))) (λt h'=>t.2<=K/\Sp h h' (ac a 36 [xF xL p.1,xF xL p.2.1,xF xL p.2.2]::af 58 t.1 1 bg (rs++(qx t.2).map (JO data w))::own)) (λt=>K-t.2) (s,0) i4 ⟨jj,by simpa using P⟩ ?_;rintro⟨t,k⟩ h5 ⟨am,E⟩;dsimp only at*;refine ag (λW=>?_) (λW=>?_)
  ·have ad:k<K:=i5
   have m1:(k+1)*w<=K*w:=zD w ad;have m2:k*w<=(k+1)*w:=zD w i5;refine⟨p.2.2,(E.box 0 i4).cell i4,p.2.2,(E.box 0 i4).cell i4,?_⟩;rw[ai ((k:Int)+1)];have e5:(k:Int)*p.2.2=((k*w:Nat):Int):=by rw[O,wG]
   have e6:((k:Int)+1)*p.2.2=(((k+1)*w:Nat):Int):=by rw[O,wG];rfl
   try dsimp only
   rw[e5,e6,sS _,sS _,qj,qj];refine⟨⟨z8 _,yP.2 m2,yP.2 i5⟩,?_⟩;refine E.push aj 1 i4 fv i4 i6 (λ_=>rfl) jQ (JO data w k) i4 i6 i9 λt' X H6=>?_;refine⟨(t',k+1),i4,⟨i7,?_⟩,i7⟩
   try dsimp only
   rw[zB,qL,<-qn];exact H6
  ·have ab:k=K:=i5
   subst ab;refine aW ?_;have F:eT h5 t 1 az (kw k y w d):=by
    refine⟨rs++(qx k).map (JO data w),E.seq 1 i4 λ_=>rfl,by rw[DI];simp;omega,λi r l u o=>?_⟩;by_cases I:i<y
    ·rw[qm i5,qc i5]at u;rw[kw,qm (by simpa using I)]at o;have hz:l=aI w:=by simp[I]at o;exact o.symm
     have hr:rs[i]'(by omega)=r:=zW.inj u;have g:(ac a 36 [xF xL p.1,xF xL p.2.1,xF xL p.2.2]::af 58 t 1 bg (rs++(qx k).map (JO data w))::own)[i+2]?=dB (af 5 (rs[i]'(by omega)) 1 az ((qi y (aI w))[i]'(by simpa using I))):=ie (by simpa using L) i (by simpa using I);have:=E.seq (i+2) g λ_=>rfl;rw[List.getElem_replicate,hr]at this;rw[hz];exact this
    ·obtain⟨j,rfl⟩:∃j,i=y+j:=⟨i-y,i5⟩
     rw[qh i5,L,zn]at u;rw[kw,qh jj,List.length_replicate,zn]at o;have hj:j<k:=by have:=(qk.1 u).1;simpa using this
     simp[hj]at u o;have m1:(j+1)*w<=k*w:=zD w hj;rw[<-u,<-o];exact(Seq.up hd E.ae).piece hc w j i5
   have c:=E.box 0 i4;refine⟨p,c.aF _ i4,p,c.aF _ i4,(pB h5).mono ?_⟩;rintro v X ⟨f,rfl,R6⟩;have q:=c.ae R6.ae c.lt;refine⟨dB f,i4,⟨q.cell0 i4,q.cell i4,q.cell i4,q.cell0 i4,q.cell i4,q.cell i4,trivial⟩,(IA p X).mono ?_⟩;rintro v h7 ⟨r7,rfl,R7⟩;have Q7:=R6.comp R7;have J:=c.ae Q7.ae c.lt;refine⟨r7,i4,⟨J.cell0 i4,J.cell i4,J.cell i4,trivial⟩,?_⟩;refine(Gb p seed r7 (fe p) h7 (Q7.seq 1 i4 λ_=>rfl) (by rw[fe,ik];omega)).mono ?_;rintro v h8 ⟨r8,rfl,R8⟩;have S:=Q7.comp R8;refine⟨r8,i4,trivial,?_⟩;refine(UH f r8 t _ _ (k+y) w h8 (S.box 0 i4) (S.Dt 2 i4) (F.up S.ae) B.DH (by rw[DI]) B.Fz (sY B.len) i5 i5 B.JW).mono ?_;rintro v h9 ⟨r9,rfl,R9⟩;have Q9:=S.comp R9;refine⟨(r9,0),i4,trivial,?_⟩;refine bx (λe=>absurd i4 e) λ_=>?_;have U:=c.ae Q9.ae c.lt;refine⟨p,U.aF _ i4,?_⟩;refine Q9.boxed (t:=225) λb ap ah=>?_;refine⟨λ_=>⟨b,r9,i4,?_⟩,λe=>absurd D e⟩;have Q:=(Sp.zip E.ae).comp ah;rw[<-B.CO]at Q;exact Q.take 3 (λi A I=>by
    cases i with
    |zero=>exact I
    |succ i=>cases i with
     |zero=>exact I
     |succ i=>simp at I)
def uC(h:g0)(b:f8)(p:Pm)(seed:Int)(M:aJ):Prop:=∃m:Sl,bY h b 225 (AH p seed m)/\eT h m 1 az M
theorem uC.up{h h':g0}{b:f8}{p:Pm}{seed:Int}{M:aJ}(d:uC h b p seed M)(a:aP (λb=>b<h.size) h h'):uC h' b p seed M:=by obtain⟨m,c,e⟩:=d;exact⟨m,c.ae a c.lt,e.up a⟩
theorem QR{a t:Row}(b:i0 a=i0 t){k:Nat}(d:k<i0 t):(zf (λx y=>y^^^Gf.mul 1 x) (a.take k) (t.take k)++t.drop k).set k (t[k]^^^(a[k]'(by omega)))=zf (λx y=>y^^^Gf.mul 1 x) (a.take (k+1)) (t.take (k+1))++t.drop (k+1):=by have:=uA (c:=1) b d;rw[Gf.one_mul]at this;exact this
theorem afQ{a t:Row}(b:i0 a=i0 t){k:Nat}(c:k<i0 t):(zf (λx y=>y^^^Gf.mul 1 x) (a.take k) (t.take k)++t.drop k)[k]?=dB t[k]:=by
 have d:i0 (zf (λx y=>y^^^Gf.mul 1 x) (a.take k) (t.take k))=k:=i9
 rw[qh i5,d,qW,wP,w9,qc c]
theorem AI(b:f8)(p:Pm)(seed id:Int)(M:aJ)(n w:Nat)(h:g0)(hb:uC h b p seed M)(N:bJ p=eX)(R:p.2.2=w)(hn:(bN p).toNat=n)(T:aS w M)(hl:i0 M=n):
  an xP 116 #[xH (dB b),xF xL id] h λv h'=>∃r:Sl,v=r/\Sp h h' [af 5 r 1 az (if bW id then fV w M (dD n seed id)else[])]:=by
 obtain⟨m,f,P⟩:=hb;have a0:=P.len;have ah:=(bT p).1 N;have hc:bN p=p.1+p.2.1:=by rw[bN,g9 N]
 refine ts Tryz.func116 ?_ (.two .n (.two (.join [] [(4,5),(10,20)] .n) (.two .n (.two (.two .n (.inn (.loop [(37,aQ)] [(7,10),(37,63)] (.two .n (.two .n (.two (.inn (.two .n (.two .n (.inn (.loop [(49,aQ)] [(8,10),(49,62)] .n))))) .n)))))) .n)))) [(4,(.l [0,1,2,3,4,5,6,7,8,11,9,10]))];have Q:bW id=fz->∃r:Sl,Value.slice eH 0 0=xG r.ptr r.len r.cap/\Sp h h [af 5 r 1 az (if bW id then fV w M (dD n seed id)else[])]:=λe=>by
  rw[e];exact⟨⟨eH,0,0⟩,i4,(Sp.refl h).nil 5 1 az⟩
 refine aW (bo (λe=>j3) λ_=>ag (λe=>Q l7) λe1=>ag (λe=>Q l7) λO=>?_);have hid:bW id=eX:=l7
 refine⟨b,i4,p.2.2,f.cell i4,?_⟩;refine(Sp.refl h).make aj az gz i6 0 i4 i4 w w R R (ql _) i5 λo h1 ay ab Y=>?_;have u:=f.ae Y.ae f.lt;refine⟨b,i4,p,u.aF _ i4,b,i4,seed,u.cell i4,(Ac p seed id h1).mono ?_⟩;rintro v h2 ⟨c,rfl,Z⟩;rw[N,hid,xx,g9 rfl,hn]at Z;rw[hid,g9 rfl];have H:=Y.comp Z;obtain⟨d,q⟩:∃d,d=dD n seed id:=⟨_,rfl⟩
 have B:∀x∈d,0<=x/\x<(n:Int):=λx U=>mO i5 i5 (by rw[<-q];exact U);have W:i0 d<=n:=by rw[q];exact vU i5 i5 _ _
 rw[<-q]at H⊢;have ar:=(H.seq 1 i4 λ_=>rfl).len;refine⟨c,i4,trivial,?_⟩;refine aq (λi:Nat=>(i:Int)) (λi h'=>i<=i0 d/\Sp h h' [af 5 o 1 az (fV w M (d.take i)),af 3 c 1 ak d]) (λi=>i0 d-i) 0 i4 ⟨i5,H⟩ ?_;rintro i h3 ⟨F,s⟩;refine ag (λe=>?_) (λe=>?_)
 ·have j:i<i0 d:=i5
  have U:=B _ (qf j);refine(s.seq 1 i4 λ_=>rfl).bt i i4 j _ i4 ?_;have K:=f.ae s.ae f.lt;refine⟨b,i4,m,K.cell i4,?_⟩;obtain⟨ao,X⟩:=P;refine(X.ae s.ae).get d[i].toNat i5 i5 λr V I=>?_;have D:=X.row _ r _ I (qc (show d[i].toNat<i0 M by omega));obtain⟨row,g⟩:∃row,row=M[d[i].toNat]'(by omega):=⟨_,rfl⟩
  have am:i0 row=w:=by rw[g];exact T _ (qf _)
  rw[<-g]at V D;obtain⟨S,L⟩:∃S,S=fV w M (d.take i):=⟨_,rfl⟩
  have ad:i0 S=w:=by rw[L];exact pj T hl B i F
  have al:=V.len;have O:fV w M (d.take (i+1))=cV 1 row S:=by rw[aD _ _ j,BN,L,g,bw i5]
  rw[<-L]at s;refine aq (λk:Nat=>(k:Int)) (λk h'=>k<=w/\Sp h h' [af 5 o 1 az (zf (λx y=>y^^^Gf.mul 1 x) (row.take k) (S.take k)++S.drop k),af 3 c 1 ak d]) (λk=>w-k) 0 i4 ⟨i5,by simpa using s⟩ ?_;rintro k h4 ⟨hk,E⟩;have J:=D.ae E.ae;have ax:i0 (zf (λx y=>y^^^Gf.mul 1 x) (row.take k) (S.take k)++S.drop k)=w:=i9
  refine ag (λe3=>?_) (λe3=>?_)
  ·have ap:k<w:=i5
   have z:(zf (λx y=>y^^^Gf.mul 1 x) (row.take k) (S.take k)++S.drop k)[k]'(by omega)=S[k]'(by omega):=by have:=afQ (a:=row) (t:=S) i5 (show k<i0 S by omega);rw[qc i5]at this;exact zW.inj this
   refine J.bt k i4 i5 _ i4 ?_;refine(E.seq 0 i4 λ_=>rfl).bt k i4 i5 _ i4 ?_;rw[z,nU];refine E.set aj 0 i4 (λ_=>rfl) i4 k i4 i5 _ i4 i4 i4 λh5 H5=>?_;refine⟨k+1,j1,⟨i5,?_⟩,i5⟩;rw[<-QR i5 (show k<i0 S by omega)];exact H5
  ·have G:k=w:=i5
   subst G;rw[qg i5,qg i5,zc i5,qE]at E;refine⟨i+1,j1,⟨i5,?_⟩,i5⟩;rw[O];exact E
 ·rw[qg i5]at s;exact⟨o,i4,s.take 0 λi A F=>by cases i with|zero=>exact F|succ i=>simp at F⟩
theorem cv.jo{p:Pm}{seed:Int}{d:Row}{K H w n:Nat}(B:cv p seed d K H w n):jo p seed d.length=0:=by rw[Qw.jo,B.may,B.full,B.len,B.k,B.s,hY (by rw[wG])];rfl
theorem afR{p:Pm}{seed:Int}{d:Row}{K H w n:Nat}(B:cv p seed d K H w n)(data:Sl)(h:g0)(c:Rd h data 1 az d)(a:data.len<=data.cap):
  an xP 114 #[jW p,xF xN seed,data] h λv h'=>
   ∃(b:f8) (m:Sl),v=.tuple #[xH (dB b),xF xL 0]/\Sp h h' [fP 58 m 1 az (dw p seed d),ac b 225 (AH p seed m)]:=
 (OM p seed data d h c a).mono λ_ _ e=>e.1 B.jo
theorem cv.symbol{p:Pm}{seed:Int}{d:Row}{K H w n:Nat}(B:cv p seed d K H w n)(b:f8)(id:Int)(h:g0)(a:uC h b p seed (dw p seed d)):
  an xP 116 #[xH (dB b),xF xL id] h λv h'=>∃r:Sl,v=r/\Sp h h' [af 5 r 1 az (if bW id then fV w (dw p seed d) (dD n seed id)else[])]:=
 AI b p seed id _ n w h a B.may B.s B.pk B.nR.2 B.nR.1
def Bg(s:CQ):aT:=[.complex .f64 s.ax s.ay,.complex .f64 s.sx s.sy,xF xL s.left,xF xL s.leg,xJ s.second]
theorem oN{o:Option Nat}(h:o.isSome=eX):o=dB (o.getD 0):=by
 cases o with
 |none=>cases h
 |some x=>rfl
theorem UI(h:g0):an xP 231 #[] h λv h'=>∃a:f8,v=xH (dB a)/\Sp h h' [ac a 313 (Bg fs0)]:=by refine ts Tryz.func231 ?_;refine(Sp.refl h).boxed (t:=313) λa c b=>?_;exact⟨a,i4,b⟩
theorem XH(a b:Nat)(h:g0)(g:(im.mul a 0).isSome=eX)(j:(im.mul b pm).isSome=eX)(h3:(im.sub (sw a 0) (sw b pm)).isSome=eX)(d:(im.mul a pm).isSome=eX)(i:(im.mul b 0).isSome=eX)(c:(im.add (sw a pm) (sw b 0)).isSome=eX):
  an xP 296 #[.complex .f64 a b,xF xL 1] h λv h'=>v=.complex .f64 (tx a b) (ty a b)/\h'=h:=by
 refine ts Tryz.func296 ?_ (.two .n (.two (.two .n (.inn (.loop [(0,(.sc (.cpx .f64))),(9,aQ)] [(0,1),(9,14)] .n))) .n)) (args:=[(.complex .f64 (a,b).1 (a,b).2),(1:Int)]);refine⟨i6,i6,?_⟩;refine aq (λk:Nat=>(if k=0 then(a,b)else(tx a b,ty a b),(k:Int))) (λk h'=>k<=1/\h'=h) (λk=>1-k) 0 i4 ⟨i5,i4⟩ ?_;rintro k h' ⟨l,rfl⟩;have f:xA (qe xL (xA 1 4+4)) 4=1:=i6
 try dsimp only
 rw[f];refine ag (λe=>?_) (λe=>?_)
 ·have:k=0:=i5
  subst this;refine⟨(tx a b,ty a b),adA (oN g) (oN j) (oN h3) (oN d) (oN i) (oN c),?_⟩;exact⟨1,i4,⟨i5,i4⟩,i5⟩
 ·have:k=1:=i5
  subst this;exact⟨i4,i4⟩
theorem aaL(a:f8)(s:CQ)(h:g0)(g:bY h a 313 (Bg s))(c:s.ok=eX):an xP 232 #[xH (dB a)] h λv h'=>v=.tuple #[]/\bY h' a 313 (Bg s.on)/\aP (λb=>b≠a.block) h h':=by
 simp only[CQ.ok,qy,decide_eq_true_eq]at c;obtain⟨⟨⟨⟨⟨⟨⟨⟨⟨⟨⟨J,E⟩,B⟩,y⟩,A⟩,L⟩,x⟩,F⟩,N⟩,K⟩,I⟩,G⟩:=c;refine ts Tryz.func232 ?_ (.two .n (.two .n (.two .n (.two .n (.two (.join [] [(33,44)] .n) .n)))));have u:aa (λb=>b<h.size/\¬b=a.block) h h [ac a 313 (Bg s)]:=.Wj (λb=>b=a.block) (λb i=>by rw[i];exact g.lt) ⟨g,i4⟩;have fin:∀{h':g0},aa (λb=>b<h.size/\¬b=a.block) h h' [ac a 313 (Bg s.on)]->Value.tuple #[]=.tuple #[]/\bY h' a 313 (Bg s.on)/\aP (λb=>b≠a.block) h h':=λH=>
  ⟨i4,H.box 0 i4,H.ae.1,λk q o=>H.ae.2 k q ⟨q,o⟩⟩
 refine⟨a,i4,(s.ax,s.ay),g.cell0 i4,a,i4,(s.sx,s.sy),g.cell i4,(oy s.ax s.sx,oy s.ay s.sy),ady (oN J) (oN E),a,i4,?_⟩;refine u.jr aj 0 i4 i4 [.complex .f64 (oy s.ax s.sx) (oy s.ay s.sy)] i4 i4 i4 (by simp[Bg]) λP r=>⟨trivial,?_⟩
 refine⟨a,i4,s.left,(r.box 0 i4).cell (j:=2) i4,a,i4,?_⟩;rw[ai (s.left-1)];refine r.storeAt aj 0 i4 i4 (off:=2) i4 i4 i4 (by simp[Bg]) λz d=>?_;refine⟨a,i4,s.left-1,(d.box 0 i4).cell (j:=2) i4,?_⟩;refine ag (λe=>?_) (λe=>?_)
 ·have l:Bg s.on=[.complex .f64 (oy s.ax s.sx) (oy s.ay s.sy),.complex .f64 s.sx s.sy,xF xL (s.left-1),xF xL s.leg,xJ s.second]:=by rw[CQ.on,g9 e];rfl
  refine fin ?_;rw[l];exact d
 ·refine⟨a,i4,(s.sx,s.sy),(d.box 0 i4).cell (j:=1) i4,(XH s.sx s.sy z B y A L x F).mono ?_⟩;rintro v h3 ⟨rfl,rfl⟩;refine⟨(tx s.sx s.sy,ty s.sx s.sy),i4,a,i4,?_⟩;refine d.storeAt aj 0 i4 i4 (off:=1) i4 i4 i4 (by simp[Bg]) λR f=>?_;refine bL (λ_ h'=>aa (λb=>b<h.size/\¬b=a.block) h h' [ac a 313 [.complex .f64 (oy s.ax s.sx) (oy s.ay s.sy),.complex .f64 (tx s.sx s.sy) (ty s.sx s.sy),xF xL (s.left-1),xF xL (if s.second then s.leg+1 else s.leg),xJ s.second]]) ?_ ?_
  ·refine⟨a,i4,s.second,(f.box 0 i4).cell (j:=4) i4,bo (λm=>?_) λm=>?_⟩
   ·refine⟨a,i4,s.leg,(f.box 0 i4).cell (j:=3) i4,a,i4,?_⟩;rw[ai (s.leg+1)];refine f.storeAt aj 0 i4 i4 (off:=3) i4 i4 i4 (by simp[Bg]) λM D=>?_;rw[g9 m];exact D
   ·rw[hU (by rw[m];decide)];exact f
  ·rintro _ O t;refine⟨a,i4,s.second,(t.box 0 i4).cell (j:=4) i4,a,i4,?_⟩;refine t.storeAt aj 0 i4 i4 (off:=4) i4 i4 i4 jj λQ p=>?_;refine⟨a,i4,_,(p.box 0 i4).cell (j:=3) i4,a,i4,?_⟩;refine p.storeAt aj 0 i4 i4 (off:=2) i4 i4 i4 jj λh8 w=>?_;have l:Bg s.on=[.complex .f64 (oy s.ax s.sx) (oy s.ay s.sy),.complex .f64 (tx s.sx s.sy) (ty s.sx s.sy),xF xL (if s.second then s.leg+1 else s.leg),xF xL (if s.second then s.leg+1 else s.leg),xJ (!s.second)]:=by rw[CQ.on,hU e];rfl
   refine fin ?_;rw[l];exact w
theorem SL(n:Nat)(h:g0)(l:n<64):an xP 166 #[xF xL n] h λv h'=>v=.complex .f64 (jG n).ax (jG n).ay/\Sp h h' []:=by
 refine ts Tryz.func166 ?_ (.two .n (.scope 0 [(4,aQ)] [(2,3),(4,5),(12,23)] [.n,.n,.n] [.n] []));refine ag (λe=>i5) λ_=>ag (λe=>i5) λ_=>?_;refine(UI h).mono ?_;rintro v i ⟨a,rfl,g⟩;refine⟨dB a,i4,?_⟩;refine aq (λk:Nat=>(k:Int)) (λk h'=>k<=n/\Sp h h' [ac a 313 (Bg (jG k))]) (λk=>n-k) 0 i4 ⟨i5,g⟩ ?_;rintro k f ⟨j,b⟩;refine cH (λe=>?_) (λe=>?_)
 ·have:k=n:=i5
  subst this;exact⟨a,i4,((jG k).ax,(jG k).ay),(b.box 0 i4).cell0 i4,i4,.zip b.ae⟩
 ·refine(aaL a (jG k) f (b.box 0 i4) (agH k i5)).mono ?_;rintro v h3 ⟨rfl,c,d⟩;refine⟨(),i4,k+1,j1,⟨i5,b.tw 0 i4 d c⟩,i5⟩
theorem Lr{a b:Int}(d:-4<=a:=by omega)(e:a<=4:=by omega)(h3:-4<=b:=by omega)(c:b<=4:=by omega):im.sub (cX a) (cX b)=dB (cX (a-b)):=by have:=afl (a+4).toNat i5 (b+4).toNat i5;rw[show((a+4).toNat:Int)-4=a by omega,show((b+4).toNat:Int)-4=b by omega,show((a+4).toNat:Int)-((b+4).toNat:Int)=a-b by omega]at this;exact this
theorem Ls{a:Int}(b:-8<=a:=by omega)(c:a<=8:=by omega):im.mul (cX a) (cX a)=dB (cX (a*a)):=by have:=afm (a+8).toNat i5;rw[show((a+8).toNat:Int)-8=a by omega]at this;exact this
theorem ON(a:Int):((a.natAbs:Nat):Int)*(a.natAbs:Nat)=a*a:=Int.natAbs_mul_self
theorem XI{a b:Int}(d:-8<=a)(e:a<=8)(h3:-8<=b)(c:b<=8):im.add (cX (a*a)) (cX (b*b))=dB (cX (a*a+b*b)):=by have:=afn a.natAbs i5 b.natAbs i5;rw[ON,ON]at this;exact this
def Ew(i j:Nat):Int:=((gq i).x-(gq j).x)*((gq i).x-(gq j).x)+((gq i).y-(gq j).y)*((gq i).y-(gq j).y)
theorem acQ{a:Int}(b:-8<=a)(c:a<=8):0<=a*a/\a*a<=64:=by rw[<-ON,<-wG];have:a.natAbs*a.natAbs<=8*8:=wy i5 i5;omega
theorem Af{n:Nat}(h:n<64):(jG n).ax=cX (gq n).x/\(jG n).ay=cX (gq n).y/\-4<=(gq n).x/\(gq n).x<=4/\-4<=(gq n).y/\(gq n).y<=4:=by have:=afk n h;simp only[qy,decide_eq_true_eq,beq_iff_eq]at this;obtain⟨⟨⟨⟨⟨a,b⟩,c⟩,d⟩,e⟩,f⟩:=this;exact⟨a,b,c,d,e,f⟩
theorem XJ{i j:Nat}(c:i<64)(d:j<64):0<=Ew i j/\Ew i j<=128:=by have a:=Af c;have b:=Af d;have e:=acQ (a:=(gq i).x-(gq j).x) i5 i5;have f:=acQ (a:=(gq i).y-(gq j).y) i5 i5;unfold Ew;omega
theorem aaM(i j:Nat)(h:g0)(d:i<64)(f:j<64):an xP 167 #[.complex .f64 (jG i).ax (jG i).ay,.complex .f64 (jG j).ax (jG j).ay] h λv h'=>v=.float .f64 (cX (Ew i j))/\h'=h:=by
 have a:=Af d;have b:=Af f;refine ts Tryz.func167 ?_ (args:=[(.complex .f64 ((jG i).ax,(jG i).ay).1 ((jG i).ax,(jG i).ay).2),(.complex .f64 ((jG j).ax,(jG j).ay).1 ((jG j).ax,(jG j).ay).2)]);have c:im.sub (jG i).ax (jG j).ax=dB (cX ((gq i).x-(gq j).x)):=by rw[a.1,b.1];exact Lr
 have e:im.sub (jG i).ay (jG j).ay=dB (cX ((gq i).y-(gq j).y)):=by rw[a.2.1,b.2.1];exact Lr
 refine⟨(cX ((gq i).x-(gq j).x),cX ((gq i).y-(gq j).y)),adz c e,_,Ls,_,Ls,_,XI i5 i5 i5 i5,i4,i4⟩
abbrev acR:bG C.toAQ 22 3 1 [xF xL 0] 8:=⟨_,_,i4,i4,i4,i4,i4,i4⟩
def mY(a b:Int):Int:=if a<b then-1 else if a>b then 1 else 0
theorem OO(m:Nat)(h:g0)(a:m<129):an xP 234 #[.float .f64 (cX (m:Nat))] h λv h'=>v=xJ fz/\h'=h:=by refine ts Tryz.func234 ?_;have:=WO m a m a;rw[show(FloatKind.format .f64).order (cX (m:Nat)) (cX (m:Nat))=dB (compare m m)from this,Nat.compare_eq_eq.2 rfl];exact⟨i4,i4⟩
theorem XK(m n:Nat)(h:g0)(b:m<129)(c:n<129):an xP 171 #[.float .f64 (cX (m:Nat)),.float .f64 (cX (n:Nat))] h λv h'=>v=xF xL (mY m n)/\h'=h:=by
 refine ts Tryz.func171 ?_;refine(OO m h b).mono ?_;rintro v a ⟨rfl,rfl⟩;refine⟨_,i4,(OO n a c).mono ?_⟩;rintro v f ⟨rfl,rfl⟩;refine⟨_,i4,bo (λe=>j3) λ_=>bo (λe=>j3) λ_=>?_⟩;have d:(FloatKind.format .f64).order (cX (m:Nat)) (cX (n:Nat))=dB (compare m n):=WO m b n c;rw[d];rcases Nat.lt_trichotomy m n with a|a|a
 ·rw[Nat.compare_eq_lt.2 a];refine bo (λ_=>⟨by rw[mY,g9 i5],i4⟩) (λe=>j3)
 ·subst a;rw[Nat.compare_eq_eq.2 rfl];refine bo (λe=>j3) λ_=>bo (λe=>j3) λ_=>⟨by rw[mY,hU i5,hU i5],i4⟩
 ·rw[Nat.compare_eq_gt.2 a];refine bo (λe=>j3) λ_=>bo (λ_=>⟨by rw[mY,hU i5,g9 i5],i4⟩) (λe=>j3)
theorem Lt(m:Int)(h:g0):an xP 235 #[xF xL m] h λv h'=>v=xJ fz/\h'=h:=by refine ts Tryz.func235 ?_;exact⟨jj,i4⟩
theorem XL(m n:Int)(h:g0):an xP 172 #[xF xL m,xF xL n] h λv h'=>v=xF xL (mY m n)/\h'=h:=by refine ts Tryz.func172 ?_;refine(Lt m h).mono ?_;rintro v b ⟨rfl,rfl⟩;refine⟨_,i4,(Lt n b).mono ?_⟩;rintro v c ⟨rfl,rfl⟩;refine⟨_,i4,bo (λe=>j3) λ_=>bo (λe=>j3) λ_=>?_⟩;refine ag (λe=>⟨by rw[mY,g9 e],i4⟩) λe=>ag (λa=>⟨by rw[mY,hU e,g9 a],i4⟩) λa=>⟨by rw[mY,hU e,hU a],i4⟩
def SM(a b:Int):Int:=if a≠0 then a else b
theorem adP(s:Sl)(a b:Int)(h:g0)(f:Rd h s 1 ak [a,b]):an xP 170 #[s] h λv h'=>v=xF xL (SM a b)/\h'=h:=by
 refine AY s ?_;have l:s.len=2:=f.len;refine aq (λk:Nat=>(k:Int)) (λk h'=>h'=h/\k<=2/\(1<=k->a=0)/\(2<=k->b=0)) (λk=>2-k) 0 i4 ⟨i4,i5,i5,i5⟩ ?_;rintro k h' ⟨rfl,m,g,j⟩;refine ag (λe=>?_) (λe=>?_)
 ·rcases(show k=0∨k=1 by omega)with rfl|rfl
  ·refine f.bt 0 i4 jj a i4 ?_;refine bx (λc=>⟨by rw[SM,g9 c],i4⟩) λc=>?_;exact⟨1,i4,⟨i4,i5,λ_=>c,i5⟩,i5⟩
  ·refine f.bt 1 i4 jj b i4 ?_;have d:=g i5;refine bx (λc=>⟨by rw[SM,hU p6],i4⟩) λc=>?_;exact⟨2,i4,⟨i4,i5,λ_=>d,λ_=>c⟩,i5⟩
 ·have d:=g i5;have i:=j i5;exact⟨by rw[SM,hU p6,i],i4⟩
abbrev Fr:=Int×Fin 129
def uD(x:Fr):aT:=[xF xL x.1,.float .f64 (cX ((x.2:Nat):Int))]
def uE(x y:Fr):Int:=SM (mY (x.2:Nat) (y.2:Nat)) (mY x.1 y.1)
theorem OP(x y:Fr)(h:g0):an xP 169 #[xK (uD x).toArray,xK (uD y).toArray] h λv h'=>v=xF xL (uE x y)/\aP (λb=>b<h.size) h h':=by
 refine ts Tryz.func169 ?_ .n [(1,(.l [0,1,2,3,5,6,7,8,4,9,10,11,12]))] (args:=[(xK #[(x.1,cX ((x.2:Nat):Int)).1,(.float .f64 (x.1,cX ((x.2:Nat):Int)).2)]),(xK #[(y.1,cX ((y.2:Nat):Int)).1,(.float .f64 (y.1,cX ((y.2:Nat):Int)).2)])]);refine(Sp.refl h).boxed (t:=233) λa k g=>?_;refine g.boxed (t:=233) λb f c=>?_;refine⟨_,(c.box 0 i4).cell (j:=1) i4,_,(c.box 1 i4).cell (j:=1) i4,_,(c.box 0 i4).cell0 i4,_,(c.box 1 i4).cell0 i4,?_⟩;refine(XK x.2 y.2 f x.2.isLt y.2.isLt).mono ?_;rintro v h3 ⟨rfl,rfl⟩;refine⟨_,i4,⟨(c.box 1 i4).cell0 i4,(c.box 0 i4).cell0 i4,trivial⟩,(XL _ _ h3).mono ?_⟩;rintro v m ⟨rfl,rfl⟩;refine⟨_,i4,trivial,?_⟩;refine c.lit aj ak acR i4 [mY (x.2:Nat) (y.2:Nat),mY x.1 y.1] i4 (show 2*1<=2^20 by decide) i4 λs e d=>⟨trivial,?_⟩
 refine(adP s _ _ e (d.seq 2 i4 λ_=>rfl)).mono ?_;rintro v i ⟨rfl,rfl⟩;exact⟨_,i4,trivial,i4,d.ae⟩
theorem SN{a b:Int}:mY a b<0↔a<b:=by unfold mY;split<;>(try split)<;>omega
theorem Lu{a b:Int}:mY a b=0↔a=b:=by unfold mY;split<;>(try split)<;>omega
theorem acS{x y:Fr}:ltOf uE x y=eX↔((x.2:Nat):Int)<(y.2:Nat)∨(((x.2:Nat):Int)=(y.2:Nat)/\x.1<y.1):=by
 have h0:ltOf uE x y=eX↔uE x y<0:=by simp[ltOf]
 rw[h0,uE,SM];by_cases h:mY (x.2:Nat) (y.2:Nat)=0
 ·rw[hU tr,SN];have:=Lu.1 h;constructor
  ·exactλa=>.inr ⟨this,a⟩
  ·rintro(a|a)
   ·omega
   ·exact a.2
 ·rw[g9 h,SN];have b:((x.2:Nat):Int)≠(y.2:Nat):=λe=>h (Lu.2 e);constructor
  ·exact .inl
  ·rintro(a|a)
   ·exact a
   ·exact absurd a.1 b
theorem Ex{x y:Fr}:ltOf uE x y=fz↔¬(((x.2:Nat):Int)<(y.2:Nat)∨(((x.2:Nat):Int)=(y.2:Nat)/\x.1<y.1)):=by rw[<-acS];simp
theorem afS:Sort.SWO (ltOf uE) where
 irrefl x:=Ex.2 i5
 trans x y z h1 h2:=by rw[acS]at*;omega
 ntrans x y z h1 h2:=by rw[Ex]at*;omega
theorem afT(x y:Fr)(b:ltOf uE x y=fz)(a:ltOf uE y x=fz):x=y:=by rw[Ex]at b a;refine vd i5 (Fin.ext i5)
theorem OQ{e:TypeId}{s:Sl}{l:List Fr}{h:g0}(f:Own h e s 2 uD l)(a:i0 l<2^40):
  an xP 168 #[s,.func (.func 169) #[] #[]] h λv h'=>v=.tuple #[]/\Own h' e s 2 uD (l.mergeSort λx y=>!(ltOf uE) y x)/\aP (λb=>¬s.on b) h h':=by
 have m:∀x:Fr,i0 (uD x)=2:=λ_=>rfl;refine Mb (P:=xP) (id_:=168) (g:=169) (enc:=uD) (k:=2) (cf:=uE) m ?_ ?_ (λx y h=>OP x y h) f a
 ·intro ff cap l w d n i j;have:=AnyQ.slices_SortFunc_total Tryz.SH 2 Tryz.afw Tryz.adH uD (λ_=>rfl) (λx v c=>by simp[uD]at c;rcases c with rfl|rfl<;>rfl) uE afS 169 #[] ff 0 cap l.toArray w (enters_of Tryz.adI j4 i4) m8 n i tg afT;simp at this;exact this
 ·intro p cap w;exact AnyF.slices_SortFunc_none Tryz.SH p cap _ w
def uF(a:aB)(n:Int):aB:=if 0<=n/\n<64/\a.contains n=fz then a++[n]else a
def iw(l:aB):aB:=l.foldl uF []
theorem Ag(l:aB){k:Nat}(a:k<i0 l:=by omega):iw (l.take (k+1))=uF (iw (l.take k)) l[k]:=by rw[iw,aD _ _ a,z6];rfl
theorem OR(l:aB):∀k,k<=i0 l->∀x,x∈iw (l.take k)↔x∈l.take k/\0<=x/\x<64
 |0,_,x=>by simp[iw]
 |k+1,hk,x=>by
  have c:=OR l k i5;rw[Ag l,aD _ _ (show k<i0 l by omega),uF];by_cases h:0<=l[k]/\l[k]<64/\(iw (l.take k)).contains l[k]=fz
  ·rw[g9 h,qz,qz,qu,c x];constructor
   ·rintro(a|rfl)
    ·exact⟨.inl a.1,a.2⟩
    ·exact⟨.inr i4,h.1,h.2.1⟩
   ·rintro⟨a|a,b⟩
    ·exact .inl ⟨a,b⟩
    ·exact .inr a
  ·rw[hU h,qz,qu,c x];constructor
   ·rintro a;exact⟨.inl a.1,a.2⟩
   ·rintro⟨a|rfl,b⟩
    ·exact⟨a,b⟩
    ·have:(iw (l.take k)).contains l[k]=eX:=by
      cases hc:(iw (l.take k)).contains l[k]with
      |true=>rfl
      |false=>exact absurd ⟨b.1,b.2,hc⟩ h
     exact(c _).1 (by simpa using this)
theorem II(l:aB):∀k,k<=i0 l->(iw (l.take k)).Nodup
 |0,_=>by simp[iw]
 |k+1,hk=>by
  have c:=II l k i5;rw[Ag l,uF];split
  ·rename_i h;rw[List.nodup_append];refine⟨c,jj,λa d b e=>?_⟩;rw[qu.1 e];rintro rfl;have:=h.2.2;rw[List.contains_eq_mem]at this;simp[d]at this
  ·exact c
theorem OS(l:aB)(k:Nat):i0 (iw (l.take k))<=k:=by
 induction k with
 |zero=>simp[iw]
 |succ k ih=>
  by_cases a:k<i0 l
  ·rw[Ag l a,uF];split
   ·simp;omega
   ·omega
  ·rw[qg i5]at ih⊢;omega
def Cn(c:Nat)(n:Int):Fr:=(n,Fin.ofNat 129 (Ew n.toNat c).toNat)
theorem afU{c:Nat}{n:Int}(a:c<64)(b:0<=n)(d:n<64):(((Cn c n).2:Nat):Int)=Ew n.toNat c:=by have:=XJ (i:=n.toNat) (j:=c) i5 a;show(((Ew n.toNat c).toNat%129:Nat):Int)=_;omega
def sf(c:Nat)(l:aB):aB:=(((iw l).map (Cn c)).mergeSort λx y=>!(ltOf uE) y x).map (·.1)
def ey(a block:Int)(l:aB):aB:=if 0<=a/\a<=16777215/\0<=block/\block<8 then sf ((8*a+block)%64).toNat l else[]
def rI(a:aB):aT:=(qx 64).map λi:Nat=>xJ (a.contains (i:Int))
theorem adQ(a:aB){n:Int}(c:0<=n)(b:n<64):(rI a)[n.toNat]?=dB (xJ (a.contains n)):=by rw[rI,qP,zm i5,qQ,show((n.toNat:Nat):Int)=n by omega]
theorem aaN(a:aB){n:Int}(c:0<=n)(d:n<64):(rI a).set n.toNat (xJ eX)=rI (a++[n]):=by
 apply zq;intro i;rw[qU,rI,rI,qP,qP,qq,zt];by_cases b:i<64
 ·rw[zm b,qQ,qQ];by_cases h:n.toNat=i
  ·rw[g9 h,g9 i5,show((i:Nat):Int)=n by omega];simp
  ·rw[hU h];have:(a++[n]).contains (i:Int)=a.contains (i:Int):=by rw[List.contains_eq_mem,List.contains_eq_mem];simp;omega
   rw[this]
 ·rw[hU i5,qI i9];rfl
abbrev eFr:bG C.toAQ 228 233 2 [xF xL 0,.float .f64 0] 16:=⟨_,_,i4,i4,i4,i4,i4,i4⟩
theorem afV:∀x,∀c∈uD x,c.oneCell'=eX:=by intro x c a;simp[uD]at a;rcases a with rfl|rfl<;>rfl
theorem Gg(b block:Int)(live:Sl)(l:aB)(h:g0)(T:Rd h live 1 ak l)(W:i0 l<=2^30:=by omega):
  an xP 115 #[xF xL b,xF xL block,live] h λv h'=>∃r:Sl,v=r/\Sp h h' [af 3 r 1 ak (ey b block l)]:=by
 have ab:=T.len;refine ts Tryz.func115 ?_ (.two .n (.two (.join [] [(6,7),(15,29)] .n) (.two .n (.two .n (.two .n (.two (.two .n (.inn (.loop [(8,cL),(37,aQ)] [(8,9),(11,12),(37,65)] (.two .n (.two .n (.two (.inn (.two .n (.two (.join [(52,sM)] [(41,53)] .n) .n))) .n)))))) (.two .n (.two .n (.two (.two .n (.inn (.loop [(12,cL),(69,aQ)] [(12,13),(14,15),(69,79)] .n))) .n)))))))));have G:¬(0<=b/\b<=16777215/\0<=block/\block<8)->∃r:Sl,Value.slice eH 0 0=xG r.ptr r.len r.cap/\Sp h h [af 3 r 1 ak (ey b block l)]:=λQ=>by
  rw[ey,hU Q];exact⟨⟨eH,0,0⟩,i4,(Sp.refl h).nil 3 1 ak⟩
 refine aW (ag (λe=>G i5) λe1=>ag (λe=>G i5) λe2=>ag (λe=>G i5) λe3=>ag (λe=>G i5) λe4=>?_);have N:0<=b/\b<=16777215/\0<=block/\block<8:=i5
 rw[ey,g9 N];rw[ai (8*b),ai (8*b+block),yW i5];obtain⟨c,hc⟩:∃c:Nat,(8*b+block)%64=c:=⟨((8*b+block)%64).toNat,i5⟩
 have g:c<64:=i5
 rw[hc,qj];refine⟨i6,(SL c h g).mono ?_⟩;rintro v h2 ⟨rfl,R2⟩;refine⟨((jG c).ax,(jG c).ay),i4,?_⟩;refine R2.alloc aj i4 λa h3 H3=>?_;have R:Sp h h3 [ac a 229 (rI []),af 233 ⟨eH,0,0⟩ 2 uD []]:=H3.nil 233 2 uD;refine aq (λt:Sl×Nat=>(t.1,(t.2:Int))) (λt h'=>t.2<=i0 l/\Sp h h' [ac a 229 (rI (iw (l.take t.2))),af 233 t.1 2 uD ((iw (l.take t.2)).map (Cn c))]) (λt=>i0 l-t.2) (⟨eH,0,0⟩,0) i4 ⟨jj,R⟩ ?_;rintro⟨s,k⟩ h4 ⟨hk,q⟩;dsimp only at*;have D:=OS l k;refine ag (λe=>?_) (λe=>?_)
 ·have B:k<i0 l:=i5
  have F:=Ag l B;obtain⟨f,E⟩:∃f,f=iw (l.take k):=⟨_,rfl⟩
  rw[<-E]at q D F;refine(Seq.up T q.ae).bt k i4 B _ i4 ?_;obtain⟨x,hx⟩:∃x,x=l[k]:=⟨_,rfl⟩
  rw[<-hx]at F⊢;refine bL (λt h'=>(t=eX↔0<=x/\x<64/\f.contains x=fz)/\h'=h4) ?_ ?_
  ·refine ag (λm=>ag (λp=>?_) λp=>⟨⟨λe=>j3,λz=>absurd z.2.1 p⟩,i4⟩) λm=>⟨⟨λe=>j3,λz=>absurd z.1 m⟩,i4⟩;refine⟨⟨m,p⟩,f.contains x,?_,?_,i4⟩
   ·rw[wN];exact(q.box 0 i4).cell (adQ f m p)
   ·cases f.contains x<;>simp<;>omega
  ·rintro t h5 ⟨U,rfl⟩;refine bo (λe=>?_) (λe=>?_)
   ·obtain⟨m,p,x2⟩:=U.1 e;refine⟨⟨m,p⟩,?_⟩;rw[wN];refine q.storeAt aj 0 i4 i4 i4 i4 i4 (by simp[rI];omega) λK u=>?_;have M:Sp h K [ac a 229 (rI (f++[x])),af 233 s 2 uD (f.map (Cn c))]:=by rw[<-aaN f m p];exact u
    obtain⟨n,Q⟩:∃n:Nat,x=n:=⟨x.toNat,i5⟩
    subst Q;refine(SL n K i5).mono ?_;rintro v V ⟨rfl,Z⟩;refine⟨((jG n).ax,(jG n).ay),i4,(aaM n c V i5 g).mono ?_⟩;rintro v h8 ⟨rfl,rfl⟩;have H:=M.up Z.ae;have ev:cX (Ew n c)=cX (((Cn c (n:Int)).2:Nat):Int):=by rw[afU g i5 i5,qj]
    refine⟨_,i4,?_⟩;rw[ev];refine H.push aj 1 i4 eFr i4 i6 (λ_=>rfl) afV (Cn c (n:Int)) i4 i6 i9 λX h9 L=>?_;refine⟨(X,k+1),j0,⟨i7,?_⟩,i7⟩
    try dsimp only
    rw[F,uF,g9 ⟨m,p,x2⟩,qL];exact L
   ·refine⟨(s,k+1),j0,⟨i7,?_⟩,i7⟩
    try dsimp only
    rw[F,uF,hU λz=>by rw[U.2 z]at e;cases e];exact q
 have J:k=i0 l:=i5
 subst J;rw[qN]at q D;refine(OQ (q.own 1 i4) i9).mono ?_;rintro v h5 ⟨rfl,O,P⟩;have S:=q.nr 1 i4 P O;obtain⟨d,j⟩:∃d,d=((iw l).map (Cn c)).mergeSort λx y=>!(ltOf uE) y x:=⟨_,rfl⟩
 have ah:i0 d=i0 (iw l):=by rw[j,wv,qq]
 have Y:sf c l=d.map (·.1):=by rw[sf,<-j]
 rw[<-j]at S;have ad:=(S.own 1 i4).len;rw[Y];refine⟨(),i4,?_⟩;refine aq (λt:Sl×Nat=>(t.1,(t.2:Int))) (λt h'=>t.2<=i0 d/\Sp h h' [af 233 s 2 uD d,af 3 t.1 1 ak ((d.take t.2).map (·.1))]) (λt=>i0 d-t.2) (⟨eH,0,0⟩,0) i4 ⟨jj,(S.del 0).nil 3 1 ak⟩ ?_;rintro⟨o,i⟩ K ⟨I,u⟩;dsimp only at*;refine ag (λe=>?_) (λe=>?_)
 ·have w:i<i0 d:=i5
  refine(u.seq 0 i4 λ_=>rfl).cU i i4 w (d[i].1,cX ((d[i].2:Nat):Int)) i4 ?_;refine u.alloc aj i4 λy V H7=>?_;refine H7.storeAll aj 2 i4 i4 [xF xL d[i].1,.float .f64 (cX ((d[i].2:Nat):Int))] i4 i4 i4 i4 λh8 H=>?_;refine⟨d[i].1,(H.box 2 i4).cell0 i4,?_⟩;refine H.push aj 1 i4 acR i4 i6 (λ_=>rfl) eS d[i].1 i4 i6 i9 λo' h9 L=>?_;refine⟨(o',i+1),j0,⟨i7,?_⟩,i7⟩
  try dsimp only
  rw[aD _ _ w,qL];exact L.del 2
 ·rw[qg i5]at u;exact⟨o,i4,u.take 1 λi A I=>by cases i with|zero=>exact I|succ i=>simp at I⟩
theorem Bh{p q:aw}(a b:Sl)(c j:aB)(h:g0)(r:Seq h p a 1 ak c)(s:Seq h q b 1 ak j)(x:i0 c<=2^40):
  an xP 18 #[a,b] h λv h'=>v=xJ (decide (c=j))/\h'=h:=by
 refine ts Tryz.func18 ?_ (.two .n (.two .n (.two (.two .n (.inn (.loop [(13,aQ)] [(4,6),(13,26)] .n))) .n)));have m:=r.len;have o:=s.len;refine bx (λd=>⟨?_,i4⟩) (λg=>?_)
 ·rw[hZ λe=>d (by rw[m,o,e])]
 ·refine aq (λk:Nat=>(k:Int)) (λk h'=>h'=h/\k<=i0 c/\c.take k=j.take k) (λk=>i0 c-k) 0 i4 ⟨i4,i5,jj⟩ ?_;rintro k h' ⟨rfl,w,l⟩;refine ag (λu=>?_) (λt=>?_)
  ·have i:k<i0 c:=i5
   have f:k<i0 j:=i5
   refine r.bt k i4 i _ i4 ?_;refine s.bt k i4 f _ i4 ?_;refine bx (λd=>⟨?_,i4⟩) (λg=>?_)
   ·rw[hZ];intro e;subst e;exact d i4
   ·rw[ai _];exact⟨k+1,jj,⟨i4,i5,by rw[aD _ _ i,aD _ _ f,l,g]⟩,i5⟩
  ·have:k=i0 c:=i5
   subst this;rw[qg i5,qg i5]at l;exact⟨by rw[hY l],i4⟩
theorem aaO(l:aB)(x:Int):x∈iw l↔x∈l/\0<=x/\x<64:=by
 have:=OR l l.length (ql _) x
 rwa [qN]at this
theorem adR(l:aB):(iw l).Nodup:=by
 have:=II l l.length (ql _)
 rwa [qN]at this
theorem Co(c:Nat)(l:aB):(sf c l).Perm (iw l):=by have h:=(wV ((iw l).map (Cn c)) λx y=>!(ltOf uE) y x).map (·.1);rw[wL]at h;have e:((λx:Fr=>x.1)∘Cn c)=id:=rfl;rw[e,List.map_id]at h;exact h
theorem Ey(c:Nat)(l:aB)(x:Int):x∈sf c l↔x∈l/\0<=x/\x<64:=by rw[(Co c l).mem_iff,aaO]
theorem aaP(c:Nat)(l:aB):(sf c l).Nodup:=(Co c l).nodup_iff.2 (adR l)
def IJ(l:aB)(i:Nat):Int:=l.getD i 0
def jh(o:aB)(id:Int):Int:=if o=[]∨id<0 then-1 else IJ o (id%(i0 o:Int)).toNat
theorem SO(s:Sl)(o:aB)(id:Int)(h:g0)(g:Rd h s 1 ak o):an xP 117 #[s,xF xL id] h λv h'=>v=xF xL (jh o id)/\h'=h:=by
 have f:=g.len;refine ts Tryz.func117 ?_ (.two .n (.two (.join [] [(4,12)] .n) .n));refine aW (cH (λe=>⟨by rw[jh,g9 (.inl (q9 i5))],i4⟩) λe=>ag (λb=>⟨by rw[jh,g9 (.inr b)],i4⟩) λb=>?_);refine⟨e,?_⟩;have d:¬(o=[]∨id<0):=by
  rintro(rfl|h2)
  ·simp at f;omega
  ·exact b h2
 have c:xA id ((s.len:Nat):Int)=((id%(i0 o:Int)).toNat:Int):=by rw[yW i5,f];have:=ym id (show(i0 o:Int)≠0 by omega);omega
 have a:(id%(i0 o:Int)).toNat<i0 o:=by have:=wD id (show(0:Int)<i0 o by omega);omega
 rw[c];refine g.bt _ i4 a _ i4 ⟨?_,i4⟩;rw[jh,hU d,IJ,qd,qc a];rfl
def uG(p:Pm)(seed:Int)(d:Row)(id:Int):aL:=if bW id then fV p.2.2.toNat (dw p seed d) (dD (bN p).toNat seed id)else[]
def lV(m:av)(o b seed:Int)(d:Row)(id:Int):dm:=⟨o,b,id,m.p,seed,uG m.p seed d id⟩
def IK(m:av)(o b seed:Int)(d:Row)(a:aB)(id:Int):Int×aL:=(jh a id,cW (lV m o b seed d id))
def mZ(m:av)(o:Int)(tries:aB)(a:bP)(live:aB)(i:Nat):List (Int×aL):=
 (qx (m.p.1+m.extra).toNat).map λid:Nat=>IK m o i (ci o i (tries.getD i 0)) (a.getD i []) (ey o i live) id
def dX(m:av)(o:Int)(tries:aB)(a:bP)(live:aB)(n:Nat):List (Int×aL):=(qx n).flatMap (mZ m o tries a live)
theorem sE(m:av)(o:Int)(tries:aB)(a:bP)(live:aB)(n:Nat):dX m o tries a live (n+1)=dX m o tries a live n++mZ m o tries a live n:=by unfold dX;rw[zB,qY,za,zS,qE]
theorem IL(m:av)(o:Int)(tries:aB)(a:bP)(live:aB)(i:Nat):i0 (mZ m o tries a live i)=(m.p.1+m.extra).toNat:=by simp[mZ]
theorem uH(m:av)(o:Int)(tries:aB)(a:bP)(live:aB):∀n,i0 (dX m o tries a live n)=n*(m.p.1+m.extra).toNat
 |0=>by simp[dX]
 |n+1=>by rw[sE,qw,uH m o tries a live n,IL,zP]
theorem kS(o b t:Int):0<=ci o b t/\ci o b t<4294967296:=by unfold ci;omega
section
variable {pw:f8}
theorem Mj(x:bm)(m:av)(xe:dN)(e:Qw.cu)(s:Sl)(b:aL)(hS:St B h0 As λh=>dh h x m/\dQ fp h xe e/\Rd h s 1 az b)(cr:s.len<=s.cap)(hz:cF m)(U:bJ m.p=eX)(c4:0<=m.extra/\m.extra<=16)(c6:b.length<=2^20)
  (ht:cT m.p e.object (splitB m.p b).length=dB e.tries) (H:aa B h0 h (aY ba a pw (aA x) offs da w ds::As)):
  an xP 68 #[xH (dB a),OI xe,s] h λv h'=>∃(r:Sl) (ys:List (Int×Sl)),v=.tuple #[r,xJ eX]/\
   aa B h0 h' (aY ba a pw (aA x) offs da w ds::cM jm 2 piv r ys (dX m e.object e.tries (splitB m.p b) (aU ds m.drives) (splitB m.p b).length)::As):=by
 refine ts Tryz.func68 ?_ (.two .n (.two .n (.two .n (.two (.two .n (.inn (.loop [(9,cL),(28,aQ)] [(6,8),(9,18),(28,100)] (.two .n (.two .n (.two (.inn (.two .n (.two .n (.two .n (.two .n (.two .n (.two .n (.inn (.loop [(9,cL),(72,aQ)] [(9,10),(16,18),(72,99)] (.two .n (.two .n (.two (.inn (.two .n (.two (.join [(17,(.sc .adr))] [(17,18),(75,89)] .n) .n))) .n)))))))))))) .n)))))) .n)))) [(14,(.y [0,1,2,3,4,5,6,7,8,9,10,11] (.l [12,13,14,15]) (.l [14,12,13,15]))),(15,(.l [0,1,2,4,3,5,6,7,8,9]))] (args:=[(dB a),xe,s]);refine H.boxed λP h1 H1=>?_;have H1:=H1.be;have H1:aa B h0 h1 (aY ba a pw (aA x) offs da w ds::ac P 88 (bc xe)::As):=H1.aO 2 [1,0];refine(gb x m (hS.at [_,_] H1).1 hz H1).mono ?_;rintro _ h2 ⟨lv,rfl,R2⟩;have H2:=(H1.cb R2).aO 3 [1,0,2];obtain⟨ok,X⟩:=aa.cK H2;obtain⟨b6,dj,b9⟩:=hS.at [_,_,_] H2;have a0:(x.2.2.1,x.2.2.2.1,x.2.2.2.2.1)=m.p:=b6.p;have c9:=(bT m.p).1 U;obtain⟨s1,s2,s3⟩:=lC U;obtain⟨c1,c2,c3⟩:=mi U b.length;have bb:(aU ds m.drives).length<=m.drives.length:=qS _ _;have c0:=hz.dr;obtain⟨live,ab⟩:∃live,live=aU ds m.drives:=⟨_,rfl⟩
 rw[<-ab]at H2 bb⊢;obtain⟨g,L⟩:∃g,g=splitB m.p b:=⟨_,rfl⟩
 have cc:g.length<=2^20:=by rw[L];unfold splitB;simp;omega
 have a2:∀r∈g,r.length=dU m.p:=by rw[L];intro r hr;unfold splitB at hr;obtain⟨i,_,rfl⟩:=qo.1 hr;exact Em _ _ _
 refine⟨lv,i4,a,i4,(x.2.2.1,x.2.2.2.1,x.2.2.2.2.1),⟨by rw[addr_add];exact X.cell i4,by rw[addr_add];exact X.cell i4,by rw[addr_add];exact X.cell i4,trivial⟩,?_⟩;rw[a0];refine(QG m.p s b h2 U b9 cr i5).mono ?_;rintro _ h3 ⟨q,rfl,R3⟩;rw[<-L]at R3 ht⊢;obtain⟨rs,H3⟩:=Qw.aa.acP (H2.cb R3) λ_=>rfl;have H3:=(H3.ua 124 2 piv jm).be;have H3:aa B h0 h3 (aY ba a pw (aA x) offs da w ds::bp 124 ⟨eH,0,0⟩ 2 piv jm (dX m e.object e.tries g live 0)::cM (od 1 az) 1 bg q rs g::af 3 lv 1 ak live::ac P 88 (bc xe)::As):=H3.aO 5 [2,0,1,3,4];have dk:=(H3.fa 2 i4).1.len;have dp:=(H3.fa 2 i4).2.1;have dy:=jz ht;refine⟨q,i4,?_⟩;obtain⟨k,J⟩:∃k:Nat,k=(m.p.1+m.extra).toNat:=⟨_,rfl⟩
 have N:k<=32:=i5
 refine aq (λt:Sl×Nat=>(t.1,(t.2:Int))) (λt h'=>t.2<=g.length/\aa B h0 h' (aY ba a pw (aA x) offs da w ds::bp 124 t.1 2 piv jm (dX m e.object e.tries g live t.2)::cM (od 1 az) 1 bg q rs g::af 3 lv 1 ak live::ac P 88 (bc xe)::As)) (λt=>g.length-t.2) (⟨eH,0,0⟩,0) i4 ⟨jj,H3⟩ ?_;rintro⟨o,i⟩ h4 ⟨hi,H4⟩;dsimp only at*;refine ag (λe1=>?_) (λe1=>?_)
 ·have W:i<g.length:=i5
  have F4:=H4.fa 2 i4;have ap:=H4.box 4 i4;obtain⟨ca,a5,c8⟩:=hS.at [_,_,_,_,_] H4;obtain⟨_,b5⟩:=aa.cK H4;obtain⟨t,a8,bs⟩:=Ab ht i i5;have cl:e.tries.getD i 0=(t:Int):=by rw[qd,qc i5];exact a8
  have cn:g.getD i []=g[i]:=by rw[qd,qc W];rfl
  have O:∀{h':g0},bY h' P 88 (bc xe)->cellOf h' (P.add 1)=dB (xF xL e.object):=λ{h'} hb=>by rw[<-a5.1.2.1];exact hb.cell i4
  have cp:∀{h':g0},bY h' a 92 (bQ (aA x) pw offs da)->bn h' (a.add 2) 0 [xF xL m.p.1,xF xL m.p.2.1,xF xL m.p.2.2]:=λ{h'} hb=>by
   rw[<-a0];exact⟨j8,j8,j8,trivial⟩
  have a9:=Fix.row F4 W;refine F4.1.bt i i4 i5 (rs[i]'(by omega)) i4 ?_;refine⟨e.object,O ap,xe.2.2.2,ap.cell i4,?_⟩;refine Seq.bt (f:=ak) a5.2 i i4 i5 (t:Int) (by rw[a8];rfl) ?_;refine(nC _ _ _ h4).mono ?_;rintro _ _ ⟨rfl,rfl⟩;refine⟨_,i4,⟨ap.cell i4,trivial⟩,a,i4,m.p,cp b5,?_⟩;obtain⟨seed,A⟩:∃seed,seed=ci e.object i t:=⟨_,rfl⟩
  have hg:=(En bs).2.1;have ar:fR m.p seed (fe m.p)=eX:=by rw[A];exact hg
  obtain⟨K,Hh,w',n,BK⟩:=Ud (seed:=seed) (d:=g[i]) U ar (by rw[a2 _ (qf W),s3]);rw[<-A];refine(afR BK (rs[i]'(by omega)) _ a9.1 a9.2).mono ?_;rintro _ h6 ⟨bk,Z,rfl,R6⟩;have H6:=(H4.comp R6).front;have H6:aa B h0 h6 (aY ba a pw (aA x) offs da w ds::bp 124 o 2 piv jm (dX m e.object e.tries g live i)::cM (od 1 az) 1 bg q rs g::af 3 lv 1 ak live::ac P 88 (bc xe)::fP 58 Z 1 az (dw m.p seed g[i])::ac bk 225 (AH m.p seed Z)::As):=H6.aO 7 [2,3,4,5,6,0,1];refine⟨(dB bk,0),i4,bx (λe2=>absurd i4 e2) λ_=>?_⟩;have br:=H6.box 4 i4;refine⟨e.object,O br,(Gg e.object i lv live h6 (H6.seq 3 i4 λ_=>rfl)).mono ?_⟩;rintro _ h7 ⟨R,rfl,R7⟩;have H7:=(H6.cb R7).aO 8 [1,2,3,4,5,6,7,0];obtain⟨c,E⟩:∃c,c=ey e.object i live:=⟨_,rfl⟩
  rw[<-E]at H7;have a3:=(aa.cK H7).2;have cq:x.2.2.1=m.p.1:=congrArg (·.1) a0;refine⟨R,i4,a,i4,x.2.2.1,a3.cell i4,a,i4,x.2.2.2.2.2.1,a3.cell i4,?_⟩;have en:qe xL (x.2.2.1+x.2.2.2.2.2.1)=(k:Int):=by rw[cq,ca.extra,ai _];omega
  try dsimp only
  rw[en];have V:mZ m e.object e.tries g live i=(qx k).map λid:Nat=>IK m e.object i seed g[i] c id:=by unfold mZ;rw[cl,cn,<-A,<-E,<-J]
  have cd:(mZ m e.object e.tries g live i).length=k:=by rw[IL,<-J]
  obtain⟨G,I⟩:∃G,G=dX m e.object e.tries g live i:=⟨_,rfl⟩
  have d0:G.length<=2^26:=by rw[I,uH,<-J];have:=wy (show i<=2^20 by omega) N;omega
  obtain⟨Q,hQ⟩:∃Q,Q=mZ m e.object e.tries g live i:=⟨_,rfl⟩
  rw[<-hQ]at V cd;rw[<-I]at H7;refine aq (λt:Sl×Nat=>(t.1,(t.2:Int))) (λt h'=>t.2<=k/\aa B h0 h' (aY ba a pw (aA x) offs da w ds::bp 124 t.1 2 piv jm (G++Q.take t.2)::cM (od 1 az) 1 bg q rs g::af 3 lv 1 ak live::ac P 88 (bc xe)::fP 58 Z 1 az (dw m.p seed g[i])::ac bk 225 (AH m.p seed Z)::af 3 R 1 ak c::As)) (λt=>k-t.2) (o,0) i4 ⟨jj,by simpa using H7⟩ ?_;rintro⟨o2,id⟩ h8 ⟨hid,S⟩;dsimp only at*;refine ag (λe3=>?_) λe3=>?_
  ·have cs:id<k:=i5
   have ad:=S.box 4 i4;have ao:=(aa.cK S).2;have F:uC h8 bk m.p seed (dw m.p seed g[i]):=⟨Z,S.box 6 i4,S.Dt 5 i4⟩
   have T:uG m.p seed g[i] id=if bW id then fV w' (dw m.p seed g[i]) (dD n seed id)else[]:=by unfold uG;rw[BK.pk,show m.p.2.2.toNat=w' by have:=BK.s;omega]
   have held:∀{h':g0},aP (λb=>b<h8.size) h8 h'->bR.ok [((a.add 2),xF xL m.p.1),((a.add 2).add 1,xF xL m.p.2.1),((a.add 2).add 2,xF xL m.p.2.2),(P.add 1,xF xL e.object)] h':=λ{h'} U=>by
    obtain⟨q1,q2,q3,_⟩:=cp (ao.ae U ao.lt);exact⟨q1,q2,q3,O (ad.ae U ad.lt),trivial⟩
   refine bL (λ(a7:f8) h'=>∃r:Sl,aa B h0 h' (ac a7 167 (bS (e.object,(i:Int),(id:Int),m.p.1,m.p.2.1,m.p.2.2,seed,r))::af 5 r 1 az (uG m.p seed g[i] id)::aY ba a pw (aA x) offs da w ds::bp 124 o2 2 piv jm (G++Q.take id)::cM (od 1 az) 1 bg q rs g::af 3 lv 1 ak live::ac P 88 (bc xe)::fP 58 Z 1 az (dw m.p seed g[i])::ac bk 225 (AH m.p seed Z)::af 3 R 1 ak c::As)) ?_ ?_
   ·refine⟨e.object,O ad,a,i4,m.p,cp ao,?_,?_⟩
    ·refine(BK.symbol bk id h8 F).mono ?_;rintro _ h9 ⟨r,rfl,R9⟩;rw[<-T]at R9;have H9:=S.cb R9;refine⟨r,i4,held R9.ae,H9.Dw aj i4 λa28 dx b0 ay=>⟨held (aa.up R9 b0).ae,?_⟩⟩;have ay:=ay.be;refine ay.storeAll aj 0 i4 i4 (bS (e.object,(i:Int),(id:Int),m.p.1,m.p.2.1,m.p.2.2,seed,r)) i4 i4 i4 i4 λc5 b7=>⟨trivial,r,b7⟩
    ·refine S.Dw aj i4 λdu bq Y ax=>⟨held Y,?_⟩
     have ax:=ax.be;refine(BK.symbol bk id bq (F.up Y)).mono ?_;rintro _ d1 ⟨r,rfl,ah⟩;rw[<-T]at ah;have b2:=(ax.cb ah).aO 2 [1,0];refine⟨r,i4,held (aa.up (Sp.zip Y) ah.ae).ae,?_⟩;refine b2.storeAll aj 0 i4 i4 (bS (e.object,(i:Int),(id:Int),m.p.1,m.p.2.1,m.p.2.2,seed,r)) i4 i4 i4 i4 λdd b4=>⟨trivial,r,b4⟩
   ·rintro a7 cf ⟨r,M⟩;have j:=M.box 0 i4;have am:=kS e.object i t;rw[<-A]at am;refine⟨(e.object,(i:Int),(id:Int),m.p.1,m.p.2.1,m.p.2.2,seed,r),j.aF _ i4,(SO R c id cf (M.seq 9 i4 λ_=>rfl)).mono ?_⟩;rintro _ b3 ⟨rfl,rfl⟩;refine⟨_,i4,⟨j.cell0 i4,j.cell i4,j.cell i4,j.cell i4,j.cell i4,j.cell i4,j.cell i4,j.cell i4,trivial⟩,?_⟩;refine(rG (e.object,(i:Int),(id:Int),m.p.1,m.p.2.1,m.p.2.2,seed,r) (lV m e.object i seed g[i] id) b3 ⟨⟨i4,i4,i4,i4,i4,am.1,am.2⟩,M.seq 1 i4 λ_=>rfl⟩).mono ?_;rintro _ d2 ⟨u,rfl,b1⟩;have a6:=(M.cb b1).eJ 0 i4 (D:=EA jm (jh c id,u) (IK m e.object i seed g[i] c id)) λz hz=>⟨i4,hz.1.seq (λ_=>rfl) hz.2⟩
    have a4:Q[id]'(by omega)=IK m e.object i seed g[i] c id:=by simp[V]
    refine⟨u,i4,trivial,?_⟩;refine a6.nt aj piv Ot i4 [(jh c id,u)] i4 (show 1*2<=2^20 by decide) i4 trivial ?_;refine aa.nX aj a6 4 0 i6 (a:=(jh c id,u)) i4 i4 Ot i4 i6 (λ_=>rfl) Kk (parts:=#[(0,xK #[xF xL (jh c id),u])]) j4 i6 i9 λo3 c7 bd=>⟨trivial,?_⟩
    refine⟨(o3,id+1),j0,⟨i7,?_⟩,i7⟩
    try dsimp only
    rw[aD Q id,a4,<-qn];exact bd.rest.rest.rest
  ·have al:id=k:=i5
   subst al;rw[qg i5]at S;refine⟨(o2,i+1),j0,⟨i7,?_⟩,i7⟩
   try dsimp only
   rw[sE,<-I,<-hQ];exact S.aO 8 [0,1,2,3,4]
 ·have al:i=g.length:=i5
  subst al;obtain⟨ys,H5⟩:=H4.JQ 1 rfl λ_=>rfl;exact⟨o,ys,i4,H5.aO 5 [0,1]⟩
end
def kF(a:Nat)(l:List (Int×aL))(k:Int):Int:=(a:Int)+i0 (l.filter λy=>decide (y.1=k))
theorem XM(k:Int)(d c:f8)(a:Nat)(r:Sl)(p:List (Int×Sl))(l:List (Int×aL))(h:g0)(A:a<=2^30)(G:i0 l<=2^30)(t:bY h d 3 [xF xL a])(u:bY h c 114 [r])(q:nQ jm 2 piv h r p l):
  an xP 70 #[xF xL k,xH (dB d),xH (dB c)] h λv h'=>v=xF xL (kF a l k)/\Sp h h' []:=by
 refine ts Tryz.func70 ?_ (.two .n (.two .n (.two (.two .n (.inn (.loop [(5,aQ),(11,aQ)] [(5,6),(7,8),(11,22)] .n))) .n))) (args:=[(k:Int),d,c]);have D:=q.1.len;have z:=q.2.1;refine⟨(a:Int),t.cell0 i4,r,u.cell0 i4,?_⟩;refine aq (λi:Nat=>(kF a (l.take i) k,(i:Int))) (λi h'=>i<=i0 l/\Sp h h' []) (λi=>i0 l-i) 0 (by simp[kF]) ⟨i5,Sp.refl h⟩ ?_;rintro i H ⟨F,w⟩
 try dsimp only
 have x:(i0 ((l.take i).filter λy=>decide (y.1=k)):Int)<=i:=by have:=qS (λy:Int×aL=>decide (y.1=k)) (l.take i);simp at this;omega
 refine ag (λe=>?_) λe=>?_
 ·have j:i<i0 l:=i5
  have m:=nQ.up q w.ae;refine m.1.cU (g:=piv) i i4 i5 (p[i]'(by omega)) i4 ?_;refine w.alloc aj i4 λE I B=>?_;refine B.storeAll aj 0 i4 i4 (piv (p[i]'(by omega))) i4 i4 i4 i4 λh3 f=>?_;have f:Sp h h3 [ac E 124 (piv (p[i]'(by omega)))]:=f;have o:=Fix.row m j;have b:kF a (l.take (i+1)) k=kF a (l.take i) k+(if l[i].1=k then 1 else 0):=by
   unfold kF;rw[aD _ _ j,zl,qw,zo,vl];split
   ·rename_i s;rw[g9 (ii s)];simp;omega
   ·rename_i s;rw[hU (by simpa using s)];simp
  refine⟨l[i].1,by rw[<-o.1];exact(f.box 0 i4).cell0 i4,cH (λg=>?_) λg=>?_⟩
  ·refine⟨i+1,?_,⟨i5,.zip f.ae⟩,i5⟩;rw[b,g9 g,ai (kF a (l.take i) k+1) (by unfold kF;omega) (by unfold kF;omega),ai _];rfl
  ·refine⟨i+1,?_,⟨i5,.zip f.ae⟩,i5⟩;rw[b,hU g,Int.add_zero,ai _];rfl
 ·rw[qg i5];exact⟨i4,w⟩
def gH(m:av)(offs:Int)(w:Pow)(ds:aE)(name:ByteArray)(b:aL):Int×av×Pow×aE:=
 if dW m (fH w offs) ds name b.length≠0 then(dW m (fH w offs) ds name b.length,m,w,ds)else
 match cT m.p m.next (splitB m.p b).length with
 |none=>(8,m,w,ds)
 |some t=>
  let live:=aU ds m.drives;let l:=dX m m.next t (splitB m.p b) live (splitB m.p b).length;let n:=fi m ⟨name,m.next,i0 b,t⟩;let N:=kF (aM n).length l
  if dR m ds live N=fz then(7,m,w,ds)else
  if(makes m N live w ds).1≠0 then((makes m N live w ds).1,m,(makes m N live w ds).2)else
  let a:=layAll l (makes m N live w ds).2.1 (makes m N live w ds).2.2
  if a.1≠0 then(a.1,m,a.2)else
  ((layAll (bI n live) a.2.1 a.2.2).1,if(layAll (bI n live) a.2.1 a.2.2).1=0 then n else m,(layAll (bI n live) a.2.1 a.2.2).2)
theorem na{m:av}{d:Bool}{ds:aE}{name:ByteArray}{n:Nat}(h:dW m d ds name n=0):
  d=fz/\kW name=eX/\m.objs.any (gm name)=fz/\¬(m.p.1*m.p.2.2*8<(n:Int)∨12<=i0 m.objs)/\¬(aU ds m.drives=[]∨16777215<m.next∨2147483647<=m.seq):=by
 unfold dW at h;split at h
 ·cases h
 ·rename_i c;split at h
  ·cases h
  ·rename_i e;split at h
   ·cases h
   ·rename_i h3;split at h
    ·cases h
    ·rename_i a;split at h
     ·cases h
     ·rename_i b;exact⟨m4,lz,by simpa using h3,a,b⟩
theorem FH{m:av}{b:aL}(a:bJ m.p=eX)(h:¬m.p.1*m.p.2.2*8<(i0 b:Int)):i0 (splitB m.p b)<=8:=by obtain⟨g,f,c⟩:=lC a;obtain⟨e,d,c3⟩:=mi a b.length;unfold splitB;rw[qq,zt];refine Nat.le_of_not_lt λh8=>?_;have:=c3 8 i5;rw[<-c]at h;omega
theorem afW{o:aB}(b:o≠[])(id:Nat):jh o id∈o:=by
 unfold jh IJ;rw[hU (by rintro(h|h);exact b h;omega)];have c:0<i0 o:=by cases o with|nil=>exact absurd rfl b|cons=>simp
 have a:((id:Int)%(i0 o:Int)).toNat<i0 o:=by have:=wD (id:Int) (show(0:Int)<i0 o by omega);have:=ym (id:Int) (show(i0 o:Int)≠0 by omega);omega
 rw[qd,qc a];exact qf a
theorem OT{m:av}{o:Int}{tries:aB}{q:bP}{live:aB}(r:0<=o/\o<=16777215)(j:live≠[])(f:∀k∈live,0<=k/\k<64){n:Nat}(s:n<=8){y:Int×aL}(d:y∈dX m o tries q live n):y.1∈live/\y.2.length<=64:=by
 unfold dX at d;obtain⟨i,g,d⟩:=zE.1 d;have g:=qA.1 g;unfold mZ at d;obtain⟨id,_,rfl⟩:=qo.1 d;refine⟨?_,?_⟩
 ·show jh _ _∈live;have c:ey o i live=sf ((8*o+i)%64).toNat live:=by unfold ey;rw[g9 i5]
  have b:∀a,a∈ey o i live↔a∈live/\0<=a/\a<64:=λa=>by rw[c];exact Ey _ _ _
  have e:ey o i live≠[]:=λh=>by
   cases live with
   |nil=>exact j i4
   |cons a l=>
    have:=(b a).2 ⟨qM,f a qM⟩;rw[h]at this;cases this
  exact((b _).1 (afW e id)).1
 ·show(cW _).length<=64;unfold cW;split
  ·rename_i p;refine xr (mu i6 i6 ?_);have:=oE p;omega
  ·simp
theorem adS{m:av}{e:Qw.cu}(b:cF m)(g:m.objs.length<=11)(d:e.name.size<=2^30)(c:e.tries.length<=2^30):cF (fi m e):=by
 refine⟨b.dr,?_,λf a=>?_⟩
 ·show((m.objs++[e]).mergeSort sX).length<=2^30;rw[wv];simp;omega
 ·have a:f∈(m.objs++[e]).mergeSort sX:=a;rcases qz.1 ((wV _ _).mem_iff.1 a)with h|h
  ·exact b.nm f h
  ·rw[qu.1 h];exact⟨d,c⟩
section
variable {pw:f8}
theorem aaQ(x:bm)(m:av)(name:ByteArray)(s:Sl)(b:aL)(hS:St B h0 As λh=>Rd h s 1 az b)(c6:s.len<=s.cap)(hn:name.size<=2^40)(U:cF m)(hp:bJ m.p=eX)(b1:0<=m.extra/\m.extra<=16)(cs:∀k∈m.drives,0<=k/\k<64)(c0:m.drives.length<=64)(dd:0<=m.seq)(a3:0<=m.next)(b7:b.length<=2^20)
  (H:aa B h0 h (aY ba a pw (aA x) offs da w ds::bh x m::As)):
  an xP 25 #[xH (dB a),xI name,s] h λv h'=>v=xF xL (gH m offs w ds name b).1/\
   ∃y,aa B h0 h' (aY ba a pw (aA y) offs da (gH m offs w ds name b).2.2.1 (gH m offs w ds name b).2.2.2::bh y (gH m offs w ds name b).2.1::As):=by
 refine ts Tryz.func25 ?_ (.two .n (.two .n (.two .n (.two (.join [(9,cL),(10,sM)] [(9,11),(34,53)] .n) (.two .n (.two .n (.two .n (.two .n (.two (.join [(12,(.sc .adr)),(13,cL)] [(12,14),(66,74)] .n) .n))))))))) [(12,(.y [0,1,2,3,4,6] (.y [5] (.l [7,8,9,10]) (.l [8,7,9,10])) (.l [8,5,7,9,10])))];have ap:=(hS.at [_,_] H).len;refine(OK x m name s b.length ap hn (H.at 1 i4) U hp H).mono ?_;rintro _ h1 ⟨rfl,R1⟩;have H1:=H.up R1.ae;refine⟨_,i4,bx (λe=>?_) λe1=>?_⟩
 ·have ep:gH m offs w ds name b=(dW m (fH w offs) ds name b.length,m,w,ds):=by unfold gH;rw[g9 e]
  rw[ep];exact⟨i4,x,H1⟩
 obtain⟨z1,z2,z3,z4,z5⟩:=na e1;have b5:¬m.p.1*m.p.2.2*8<(b.length:Int):=λh=>z4 (.inl h);have br:m.objs.length<=11:=by have:¬12<=m.objs.length:=λh=>z4 (.inr h);omega
 have cr:aU ds m.drives≠[]:=λh=>z5 (.inl h);have b3:m.next<=16777215:=by have:¬16777215<m.next:=λh=>z5 (.inr (.inl h));omega
 have eg:m.seq<=2147483646:=by have:¬2147483647<=m.seq:=λh=>z5 (.inr (.inr h));omega
 have h8:=FH hp b5;have ed:name.size<=12:=by unfold kW at z2;simp at z2;omega
 have b6:=(aa.cK H1).2;have bq:dh h1 x m:=H1.at 1 i4;refine⟨a,i4,x.2.1,b6.cell i4,H1.alloc aj i4 λa4 h2 H2=>?_⟩;have H2:=H2.be;refine H2.storeAll aj 0 i4 i4 (bc (name,x.2.1,(s.len:Int),⟨eH,0,0⟩)) i4 i4 i4 i4 λh3 H3=>?_;have H3:aa B h0 h3 (ac a4 88 (bc (name,m.next,(b.length:Int),⟨eH,0,0⟩))::aY ba a pw (aA x) offs da w ds::bh x m::As):=by rw[<-bq.next,<-ap];exact H3
 have cp:∀{h':g0},bY h' a 92 (bQ (aA x) pw offs da)->bn h' (a.add 2) 0 [xF xL m.p.1,xF xL m.p.2.1,xF xL m.p.2.2]:=λ{h'} hb=>by
  rw[<-bq.p];exact⟨j8,j8,j8,trivial⟩
 obtain⟨L,P⟩:∃L,L=(splitB m.p b).length:=⟨_,rfl⟩
 have a7:countP m.p (s.len:Nat)=(L:Int):=by have:=(mi hp b.length).1;rw[P,ap];unfold splitB;rw[qq,zt];omega
 refine bL (λ(t:Sl×Bool) h'=>(cT m.p m.next L=eH->t.2=fz/\aa B h0 h' (aY ba a pw (aA x) offs da w ds::bh x m::As))/\(∀l,cT m.p m.next L=dB l->t.2=eX/\aa B h0 h' (af 3 t.1 1 ak l::ac a4 88 (bc (name,m.next,(b.length:Int),⟨eH,0,0⟩))::aY ba a pw (aA x) offs da w ds::bh x m::As))) ?_ ?_
 ·have c2:=H3.box 0 i4;have W:=(aa.cK (H3.aO 3 [1,0,2])).2;refine⟨a,i4,m.p,cp W,m.next,c2.cell i4,a,i4,m.p,cp W,(px m.p s.len h3).mono ?_⟩;rintro _ h4 ⟨rfl,R4⟩;have H4:=H3.up R4.ae;have cq:=W.ae R4.ae W.lt;obtain⟨q1,q2,q3,_⟩:=cp cq;refine⟨_,i4,⟨(H4.box 0 i4).cell i4,q1,q2,q3,trivial⟩,?_⟩;rw[a7];refine(UB m.p m.next L h4 i5).mono ?_;rintro _ h5 ⟨T0,T1⟩;cases ht:cT m.p m.next L with
  |none=>
   obtain⟨rfl,R5⟩:=T0 ht;exact⟨(⟨eH,0,0⟩,fz),i4,trivial,λ_=>⟨i4,(H4.up R5.ae).aO 3 [1,2]⟩,λl h=>k9⟩
  |some l=>
   obtain⟨r,rfl,R5⟩:=T1 l ht;exact⟨(r,eX),i4,trivial,λh=>k9,λl' h=>(by injection h with h;subst h;exact⟨i4,H4.cb R5⟩)⟩
 rintro⟨j,tb⟩ h6 ⟨T0,T1⟩;dsimp only at T0 T1⊢;cases ht:cT m.p m.next L with
 |none=>
  obtain⟨rfl,H6⟩:=T0 ht;have ep:gH m offs w ds name b=(8,m,w,ds):=by unfold gH;rw[hU mM,<-P,ht]
  rw[ep];exact aR (λ_=>⟨i4,x,H6⟩) λe=>j3
 |some t=>
  obtain⟨rfl,H6⟩:=T1 t ht;refine aR (λe=>j3) λ_=>?_;have ee:=jz ht;refine H6.store aj 1 i4 i4 3 [j] i4 i4 i4 jj λh7 H7=>?_;obtain⟨e,he⟩:∃e:Qw.cu,e=⟨name,m.next,b.length,t⟩:=⟨_,rfl⟩
  have H7:aa B h0 h7 (af 3 j 1 ak e.tries::ac a4 88 (bc (name,m.next,(b.length:Int),j))::aY ba a pw (aA x) offs da w ds::bh x m::As):=by rw[he];exact H7
  have H7:=H7.aO 4 [2,3,0,1];have c1:St B h0 (bh x m::af 3 j 1 ak e.tries::ac a4 88 (bc (name,m.next,(b.length:Int),j))::As) λh=>dh h x m/\dQ fp h (name,m.next,(b.length:Int),j) e/\Rd h s 1 az b:=λBs h' i=>
   ⟨(St.eG 0 i4 λ_ q=>q) Bs h' i,(St.eG (A:=af 3 j 1 ak e.tries) (Q:=λh=>dQ fp h (name,m.next,(b.length:Int),j) e) 1 i4 λh' q=>⟨by rw[he];exact⟨i4,i4,i4⟩,q.1.seq (λ_=>rfl) q.2⟩) Bs h' i,(hS.cons.cons.cons) Bs h' i⟩
  refine⟨(name,m.next,(b.length:Int),j),(H7.box 3 i4).aF _ i4,?_⟩;refine(Mj x m (name,m.next,(b.length:Int),j) e s b c1 c6 U hp b1 b7 (by rw[he,<-P];exact ht) H7).mono ?_;rintro _ du ⟨r,ys,rfl,H8⟩;obtain⟨live,c⟩:∃live,live=aU ds m.drives:=⟨_,rfl⟩
  obtain⟨l,hl⟩:∃l,l=dX m m.next t (splitB m.p b) live L:=⟨_,rfl⟩
  have b0:dX m e.object e.tries (splitB m.p b) (aU ds m.drives) (splitB m.p b).length=l:=by rw[hl,he,<-c,<-P]
  rw[b0]at H8;refine⟨(r,eX),i4,H8.alloc aj i4 λf h9 H9=>?_⟩;have H9:=H9.be;refine H9.storeAll aj 0 i4 i4 [r] i4 i4 i4 i4 λax o=>?_;refine aR (λe=>j3) λ_=>?_;obtain⟨n,S⟩:∃n,n=fi m e:=⟨_,rfl⟩
  have o:aa B h0 ax (ac f 114 [r]::aY ba a pw (aA x) offs da w ds::cM jm 2 piv r ys l::bh x m::af 3 j 1 ak e.tries::ac a4 88 (bc (name,m.next,(b.length:Int),j))::As):=o;have o:aa B h0 ax (lm j 1 ak e.tries::aY ba a pw (aA x) offs da w ds::bh x m::cM jm 2 piv r ys l::ac f 114 [r]::ac a4 88 (bc (name,m.next,(b.length:Int),j))::As):=(o.freeze 4 i4 λ_=>rfl).aO 6 [4,1,3,2,0,5];have bs:((name,m.next,(b.length:Int),j):dN).1=e.name/\((name,m.next,(b.length:Int),j):dN).2.1=e.object/\((name,m.next,(b.length:Int),j):dN).2.2.1=e.length:=by rw[he];exact⟨i4,i4,i4⟩
  have O:∀{h':g0} {Cs:List HP},aa B h0 h' (lm j 1 ak e.tries::Cs)->dh h' x m->an xP 69 #[dz x,OI (name,m.next,(b.length:Int),j)] h' λv c8=>∃y:bm,v=dz y/\aa B h0 c8 (bh y n::Cs):=λ{h' Cs} i hx'=>by
   rw[S];exact XC x m _ e hx' U ⟨dd,i5⟩ ⟨a3,i5⟩ br bs i
  have J:=(aa.cK (o.aO 2 [1,0])).2;have M:=o.box 5 i4;have a1:dh ax x m:=o.at 2 i4;refine bL (λ(t:f8×Sl) h'=>∃y,aa B h0 h' (aY ba a pw (aA x) offs da w ds::bh x m::cM jm 2 piv r ys l::ac f 114 [r]::ac t.1 39 (aA y)::bh y n::af 3 t.2 1 ak live::As)) ?_ ?_
  ·refine⟨a,i4,x,J.aF _ i4,(name,m.next,(b.length:Int),j),M.aF _ i4,?_,?_⟩
   ·refine(O o a1).mono ?_;rintro _ dr ⟨y,rfl,G⟩;have G:=G.aO 6 [1,2,3,4,0];refine⟨y,i4,trivial,?_,?_⟩
    ·refine(gb x m (G.at 1 i4) U G).mono ?_;rintro _ dy ⟨I,rfl,bd⟩;rw[<-c]at bd;have c9:=G.cb bd;refine⟨I,i4,trivial,c9.alloc aj i4 λd8 ef al=>⟨trivial,?_⟩⟩;have al:=al.be;refine al.storeAll aj 0 i4 i4 (aA y) i4 i4 i4 i4 λd3 cn=>⟨trivial,y,?_⟩
     exact cn.aO 7 [2,3,4,5,0,6,1]
    ·refine G.alloc aj i4 λa22 ea V=>⟨trivial,?_⟩
     have V:=V.be;have ad:=V.aO 6 [1,2,3,4,5,0];refine(gb x m (ad.at 1 i4) U ad).mono ?_;rintro _ d2 ⟨I,rfl,a0⟩;rw[<-c]at a0;have cf:=(V.cb a0).aO 2 [1,0];refine⟨I,i4,trivial,cf.storeAll aj 0 i4 i4 (aA y) i4 i4 i4 i4 λei c7=>⟨trivial,y,?_⟩⟩;exact c7.aO 7 [2,3,4,5,0,6,1]
   ·refine o.Dw aj i4 λec d7 a8 X=>?_;have d:=J.ae a8 J.lt;have F:=M.ae a8 M.lt;refine⟨⟨F.cell0 i4,F.cell i4,F.cell i4,F.cell i4,d.cell0 i4,d.cell i4,d.cell i4,d.cell i4,d.cell i4,d.cell i4,d.cell i4,d.cell i4,trivial⟩,?_⟩;have X:=(X.be).aO 7 [1,0,2,3,4,5];refine(O X (X.at 3 i4)).mono ?_;rintro _ d1 ⟨y,rfl,cc⟩;have K:=cc.aO 6 [2,3,4,5,0,1];refine⟨y,i4,trivial,(gb x m (K.at 1 i4) U K).mono ?_⟩;rintro _ eh ⟨I,rfl,bl⟩;rw[<-c]at bl;have cd:=(K.cb bl).aO 7 [6,0,1,2,3,4,5];refine⟨I,i4,trivial,cd.storeAll aj 0 i4 i4 (aA y) i4 i4 i4 i4 λd0 b4=>⟨trivial,y,?_⟩⟩;exact b4.aO 7 [2,3,4,5,0,6,1]
  rintro⟨am,I⟩ ca ⟨y,Z⟩;dsimp only at Z⊢;have ar:cF n:=by rw[S];exact adS U br (by rw[he];show name.size<=2^30;omega) (by rw[he];show t.length<=2^30;omega)
  have dk:n.drives=m.drives:=by rw[S];rfl
  have dx:live.length<=64:=by rw[c];exact qT (qS _ _) c0
  have D:∀k∈live,0<=k/\k<64:=λk hk=>by rw[c]at hk;exact cs k (qF.1 hk).1
  have a9:(m.p.1+m.extra).toNat<=32:=by have:=(bT m.p).1 hp;omega
  have d4:l.length<=256:=by rw[hl,uH];exact wy (show L<=8 by omega) a9
  have dj:∀z∈l,(0<=z.1/\z.1<64)/\z.2.length<=2^20:=λz a2=>by
   rw[hl]at a2;obtain⟨p1,p2⟩:=OT (m:=m) ⟨a3,b3⟩ (by rw[c];exact cr) D (show L<=8 by omega) a2;exact⟨D _ p1,qT p2 i6⟩
  refine⟨y,(Z.box 4 i4).aF _ i4,(lT y n ca (Z.at 5 i4) ar).mono ?_⟩;rintro _ d6 ⟨pg,rfl,a5⟩;have ah:=(aa.uc a5).1;have a6:=jI n ar;obtain⟨pn,bb⟩:∃pn,pn=(aM n).length:=⟨_,rfl⟩
  rw[<-bb]at ah a6;have b2:=Z.up a5.ae;refine⟨pg,i4,b2.alloc aj i4 λu ej ao=>?_⟩;have ao:=ao.be;refine ao.storeAll aj 0 i4 i4 [xF xL (pg.len:Int)] i4 i4 i4 i4 λcl E=>?_;rw[ah]at E;have E:aa B h0 cl (aY ba a pw (aA x) offs da w ds::bh x m::cM jm 2 piv r ys l::ac f 114 [r]::ac am 39 (aA y)::bh y n::af 3 I 1 ak live::ac u 3 [xF xL (pn:Int)]::As):=E.aO 8 [1,2,3,4,5,6,7,0];obtain⟨N,hN⟩:∃N,N=kF pn l:=⟨_,rfl⟩
  obtain⟨T,R⟩:∃T,T=bh x m::cM jm 2 piv r ys l::ac f 114 [r]::ac am 39 (aA y)::bh y n::af 3 I 1 ak live::ac u 3 [xF xL (pn:Int)]::As:=⟨_,rfl⟩
  have tX:St B h0 T λh=>dh h x m:=by rw[R];exact St.eG 0 i4 λ_ q=>q
  have tF:St B h0 T λh=>nQ jm 2 piv h r ys l:=by rw[R];exact St.eG 1 i4 λ_ q=>q
  have tB:St B h0 T λh=>bY h f 114 [r]:=by rw[R];exact St.eG (A:=ac f 114 [r]) 2 i4 λ_ q=>q.1
  have tM:St B h0 T λh=>bY h am 39 (aA y):=by rw[R];exact St.eG (A:=ac am 39 (aA y)) 3 i4 λ_ q=>q.1
  have tY:St B h0 T λh=>dh h y n:=by rw[R];exact St.eG 4 i4 λ_ q=>q
  have tL:St B h0 T λh=>Rd h I 1 ak live:=by rw[R];exact St.eG (A:=af 3 I 1 ak live) 5 i4 λ_ q=>q.1.seq (λ_=>rfl) q.2
  have tN:St B h0 T λh=>bY h u 3 [xF xL (pn:Int)]:=by rw[R];exact St.eG (A:=ac u 3 [xF xL (pn:Int)]) 6 i4 λ_ q=>q.1
  have tT:St B h0 T λh=>MJ 70 #[] #[xH (dB u),xH (dB f)] N live h:=λBs h' i k hk=>by
   rw[hN];exact XM k u f pn r ys l h' i5 i5 (tN Bs h' i) (tB Bs h' i) (tF Bs h' i)
  have fin:∀{h':g0} {z:bm} {w':Pow} {ds':aE},aa B h0 h' (aY ba a pw (aA x) offs da w' ds'::T)->aa B h0 h' (aY ba a pw (aA x) offs da w' ds'::bh x m::As):=λ{h' z w' ds'} i=>by
   rw[R]at i;exact i.aO 8 [0,1]
  rw[<-R]at E;have ep:gH m offs w ds name b=(if dR m ds live N=fz then(7,m,w,ds)else if(makes m N live w ds).1≠0 then((makes m N live w ds).1,m,(makes m N live w ds).2)else
    if(layAll l (makes m N live w ds).2.1 (makes m N live w ds).2.2).1≠0 then((layAll l (makes m N live w ds).2.1 (makes m N live w ds).2.2).1,m,(layAll l (makes m N live w ds).2.1 (makes m N live w ds).2.2).2)else
    ((layAll (bI n live) (layAll l (makes m N live w ds).2.1 (makes m N live w ds).2.2).2.1 (layAll l (makes m N live w ds).2.1 (makes m N live w ds).2.2).2.2).1,if(layAll (bI n live) (layAll l (makes m N live w ds).2.1 (makes m N live w ds).2.2).2.1 (layAll l (makes m N live w ds).2.1 (makes m N live w ds).2.2).2.2).1=0 then n else m,(layAll (bI n live) (layAll l (makes m N live w ds).2.1 (makes m N live w ds).2.2).2.1 (layAll l (makes m N live w ds).2.1 (makes m N live w ds).2.2).2.2).2)):=by
   rw[hN,bb,hl,S,he,c];unfold gH;rw[hU mM,<-P,ht]
  rw[ep];refine(IE 70 #[] #[xH (dB u),xH (dB f)] N x m I live lb (λBs h' i=>⟨tX Bs h' i,tT Bs h' i⟩) U (tL.at [_] E) i5 D E).mono ?_;rintro _ dp ⟨rfl,c5⟩;have ay:=E.up c5.ae;refine⟨_,i4,aR (λg=>?_) λg=>?_⟩
  ·rw[g9 g];exact⟨i4,x,fin (z:=x) ay⟩
  rw[hU (by rw[g];decide)];refine(IF 70 #[] #[xH (dB u),xH (dB f)] N x m I live lb (λBs h' i=>⟨tX Bs h' i,tT Bs h' i,tL Bs h' i⟩) U i5 D ay).mono ?_;rintro _ eb ⟨rfl,ab⟩;obtain⟨m1,c4⟩:∃m1,m1=makes m N live w ds:=⟨_,rfl⟩
  rw[<-c4]at ab⊢;refine⟨_,i4,bx (λg2=>?_) λg2=>?_⟩
  ·rw[g9 g2];exact⟨i4,x,fin (z:=x) ab⟩
  rw[hU (by simpa using g2)];refine⟨r,(tB.at [_] ab).cell0 i4,(Ek r ys l tF i5 dj ab).mono ?_⟩;rintro _ d9 ⟨rfl,Y⟩;obtain⟨r2,b9⟩:∃r2,r2=layAll l m1.2.1 m1.2.2:=⟨_,rfl⟩
  rw[<-b9]at Y⊢;refine⟨_,i4,bx (λg3=>?_) λg3=>?_⟩
  ·rw[g9 g3];exact⟨i4,x,fin (z:=x) Y⟩
  rw[hU (by simpa using g3)];refine⟨y,(tM.at [_] Y).aF _ i4,(IH x y n I live (λBs h' i=>⟨tY Bs h' i,tL Bs h' i⟩) ar i5 D Y).mono ?_⟩;rintro _ d5 ⟨rfl,Q1,Q0⟩;refine⟨_,i4,i4,?_⟩;by_cases g4:(layAll (bI n live) r2.2.1 r2.2.2).1=0
  ·obtain⟨y2,bk⟩:=Q0 g4;rw[g9 g4];rw[R]at bk;exact⟨y2,bk.aO 9 [0,1]⟩
  ·rw[hU g4];exact⟨x,fin (z:=x) (Q1 g4)⟩
end
theorem UJ(n:Nat)(x:Int)(h:g0)(p:n<=2^30):an xP 109 #[xF xL n,xF xL x] h λv h'=>∃(r:Sl) (l:aL),v=r/\l.length=n/\Sp h h' [af 5 r 1 az l]:=by
 refine ts Tryz.func109 ?_ (.two .n (.two .n (.two (.two .n (.inn (.loop [(5,cL),(6,aQ)] [(5,25)] .n))) .n)));refine aq (λt:Sl×Nat×aL=>(t.1,(t.2.1:Int))) (λt h'=>t.2.1<=n/\t.2.2.length=t.2.1/\Sp h h' [af 5 t.1 1 az t.2.2]) (λt=>n-t.2.1) (⟨eH,0,0⟩,0,[]) i4 ⟨jj,i4,(Sp.refl h).nil 5 1 az⟩ ?_;rintro⟨o,i,l⟩ k ⟨j,g,a⟩;dsimp only at*;refine ag (λe=>?_) λe=>?_
 ·have d:i<n:=i5
  refine⟨i6,Int.tmod_nonneg _ i5,?_⟩;rw[eV];generalize b8 (qe xL _)=c;refine a.push aj 0 i4 gz i4 i6 (λ_=>rfl) gU c i4 i6 i5 λf m b=>?_;refine⟨(f,i+1,l++[c]),j0,⟨i7,?_,b⟩,i7⟩;simp[g]
 ·exact⟨o,l,i4,i5,a⟩
variable {α:Type} {k:Nat} {f:α->aT} {L M:List (Sl×List α)}
theorem aa.aaR(H:aa B h0 h (cw k f L::cw k f M::As)):aa B h0 h (cw k f (L++M)::As):=by
 have g:aa B h0 h ((cw k f M).sep (cw k f L)::As):=H.jd;refine g.eJ 0 i4 λq ⟨j,i,_,b,c,d,e⟩ y a=>?_;rcases qz.1 a with a|a
 ·exact(e y a).mono c
 ·exact(d y a).mono b
def Cp(o b:Int)(a:List dm):List (Int×aL):=(a.filter λr=>decide (r.object=o)&&decide (r.block=b)).map λr=>(r.id,r.data)
def uI(m:av)(o b:Int)(l:bP):List (Int×aL):=((ft m l).filter λr=>decide (r.object=o)&&decide (r.block=b)).map λr=>(r.id,r.data)
def kG(m:av)(ds:aE)(o b:Int)(k:Int):List (Int×aL):=match aV ds k with|some d=>uI m o b d.l|none=>[]
def eC(m:av)(ds:aE)(cg:aB)(o b:Int):List (Int×aL):=cg.flatMap (kG m ds o b)
abbrev ahs:bG C.toAQ 138 145 2 [xF xL 0,xG eH 0 0] 32:=⟨_,_,i4,i4,i4,i4,i4,i4⟩
def UK(pool:List (Sl×aL))(p:(Int×Sl)×(Int×aL)):Prop:=p.1.1=p.2.1/\(p.1.2,p.2.2)∈pool
variable {mc:aT}
section
variable {pw:f8}
theorem uJ(x:bm)(m:av)(s:Sl)(cg:aB)(o b:Int)(hx:dh h x m)(hz:cF m)(hs:Rd h s 1 ak cg)(hl:cg.length<=2^10)(hd:∀k∈cg,∃d,aV ds k=dB d)(H:aa B h0 h (aY ba a pw mc offs da w ds::As)):
  an xP 85 #[.func (.func 13) #[xH (dB a)] #[],s,dz x,xF xL o,xF xL b] h λv h'=>∃(r:Sl) (ys:List (Int×Sl)),v=r/\Sp h h' [cM jm 2 piv r ys (eC m ds cg o b)]:=by
 refine ts Tryz.func85 ?_ (.two .n (.two .n (.two (.two .n (.inn (.loop [(11,cL),(18,aQ)] [(11,12),(13,14),(15,16),(18,52)] (.two .n (.two .n (.two (.inn (.two .n (.two (.join [(26,cL),(27,aQ),(28,aQ)] [(22,29)] .n) (.inn (.loop [(11,cL),(28,aQ)] [(11,12),(15,16),(28,51)] .n))))) .n)))))) .n))) [(5,(.l [0,1,3,6,2,4,5]))] (args:=[(.func (.func 13) #[xH (dB a)] #[]),s,x,(o:Int),(b:Int)]);have a7:=hs.len;refine(Sp.refl h).boxed λZ O H1=>?_;have H1:Sp h O [ac Z 39 (aA x)]:=H1;have H1:Sp h O [af 145 ⟨eH,0,0⟩ 2 piv (([]:List ((Int×Sl)×(Int×aL))).map qt),cw 1 az [],ac Z 39 (aA x)]:=((H1.Kh 1 az).nil 145 2 piv).bA [2,0,1];refine aq (λt:Sl×Nat×List ((Int×Sl)×(Int×aL))×List (Sl×aL)=>(t.1,(t.2.1:Int))) (λt h'=>t.2.1<=cg.length/\t.2.2.1.length<=t.2.1*512/\t.2.2.1.map zh=eC m ds (cg.take t.2.1) o b/\(∀p∈t.2.2.1,UK t.2.2.2 p)/\Sp h h' [af 145 t.1 2 piv (t.2.2.1.map qt),cw 1 az t.2.2.2,ac Z 39 (aA x)]) (λt=>cg.length-t.2.1) (⟨eH,0,0⟩,0,[],[]) i4 ⟨jj,jj,by simp[eC],jj,H1⟩ ?_;rintro⟨u,i,L,P⟩ h2 ⟨hi,bl,M,T,Y⟩;dsimp only at*;refine ag (λe=>?_) λe=>?_
 ·have S:i<cg.length:=i5
  refine(Seq.up hs Y.ae).bt i i4 S cg[i] i4 (aW ?_);obtain⟨d,A⟩:=hd cg[i] (qf S);have Hc:=H.up Y.ae;obtain⟨ok,hb⟩:=aa.cK Hc;have f:=Y.box 2 i4;refine⟨x,f.aF _ i4,dT lb ?_⟩;refine(my cg[i] ok hb).mono ?_;rintro _ h3 ⟨rfl,rfl⟩;refine⟨_,i4,⟨f.cell0 i4,f.cell i4,f.cell i4,f.cell i4,f.cell i4,f.cell i4,f.cell i4,f.cell i4,trivial⟩,?_⟩;rcases oA ok cg[i]with⟨c1,c2⟩|⟨n,d',bb,c0,c1,c2,c3,c4,c5⟩
  ·rw[A]at c1;cases c1
  have am:d=d':=by rw[c3]at A;injection A with A;exact A.symm
  subst am;rw[c5];obtain⟨a9,E,H3⟩:=Qw.aa.kC Hc c2;rw[c4]at E;injection E with E
  injection E with E
  subst E;obtain⟨W,sd,bd,ah⟩:=aa.rE H3;have a3:=W.len;have ao:=W.room;refine(El bb pw d sd bd x m h3 (ah.box 0 i4) ((ah.aO 2 [1]).rP λ_=>rfl) W (hx.up Y.ae) hz).mono ?_;rintro _ h4 ⟨r7,G,rfl,R4⟩;have a0:=Ad m d.l;obtain⟨c,F⟩:∃c,c=ft m d.l:=⟨_,rfl⟩
  rw[<-F]at R4 a0;have H4:=(Y.cb R4).aO 4 [1,2,0,3];have F4:=H4.fa 2 i4;have a6:=F4.2.1;have a8:=F4.1.len;refine⟨r7,i4,trivial,?_⟩;have al:kG m ds o b cg[i]=Cp o b c:=by unfold kG;rw[A];show uI m o b d.l=_;unfold uI Cp;rw[F]
  have X:eC m ds (cg.take (i+1)) o b=eC m ds (cg.take i) o b++Cp o b c:=by unfold eC;rw[aD _ _ S,qY,za,zS,qE,al]
  obtain⟨Q,hQ⟩:∃Q:List (Sl×aL),Q=(G.zip c).map λz=>(z.1.2.2.2.2.2.2.2,z.2.data):=⟨_,rfl⟩
  refine aq (λt:Sl×Nat×List ((Int×Sl)×(Int×aL))=>(t.1,(t.2.1:Int))) (λt h'=>t.2.1<=c.length/\t.2.2.length<=L.length+t.2.1/\t.2.2.map zh=eC m ds (cg.take i) o b++Cp o b (c.take t.2.1)/\(∀p∈t.2.2,UK (P++Q) p)/\Sp h h' [af 145 t.1 2 piv (t.2.2.map qt),cw 1 az P,cM fq 8 bS r7 G c,ac Z 39 (aA x)]) (λt=>c.length-t.2.1) (u,0,L) i4 ⟨jj,jj,by simp[Cp,M],λp R=>⟨(T p R).1,List.mem_append_left _ (T p R).2⟩,H4⟩ ?_;rintro⟨u2,j,L2⟩ h5 ⟨hj,a5,K,U,H5⟩;dsimp only at*;have F5:=H5.fa 2 i4;refine ag (λe2=>?_) λe2=>?_
  ·have ab:j<c.length:=i5
   have ad:=Fix.row F5 ab;obtain⟨⟨g1,g2,g3,g4,g5,g6,g7⟩,g8⟩:=ad;refine F5.1.cU (g:=bS) j i4 i5 (G[j]'(by omega)) i4 ?_;refine H5.alloc aj i4 λar h6 H6=>?_;refine H6.storeAll aj 4 i4 i4 (bS (G[j]'(by omega))) i4 i4 i4 i4 λh7 V=>?_;have V:Sp h h7 [af 145 u2 2 piv (L2.map qt),cw 1 az P,cM fq 8 bS r7 G c,ac Z 39 (aA x),ac ar 167 (bS (G[j]'(by omega)))]:=V;have J:=V.box 4 i4;have N:Cp o b (c.take (j+1))=Cp o b (c.take j)++(if(decide (c[j].object=o)&&decide (c[j].block=b))=eX then[(c[j].id,c[j].data)]else[]):=by unfold Cp;rw[aD _ _ ab,zl,qL,zo,vl];split<;>rfl
   have skip:(decide (c[j].object=o)&&decide (c[j].block=b))=fz->∃I:Sl×Nat×List ((Int×Sl)×(Int×aL)),((⟨u2.ptr,u2.len,u2.cap⟩:Sl),qe xL ((j:Int)+1))=(I.1,(I.2.1:Int))/\(I.2.1<=c.length/\I.2.2.length<=L.length+I.2.1/\I.2.2.map zh=eC m ds (cg.take i) o b++Cp o b (c.take I.2.1)/\(∀p∈I.2.2,UK (P++Q) p)/\Sp h h7 [af 145 I.1 2 piv (I.2.2.map qt),cw 1 az P,cM fq 8 bS r7 G c,ac Z 39 (aA x)])/\c.length-I.2.1<c.length-j:=λhc=>
    ⟨(u2,j+1,L2),j0,⟨i7,i7,by dsimp only;rw[N,hc];simpa using K,U,V.bA [0,1,2,3]⟩,i7⟩
   refine⟨c[j].object,by rw[<-g1];exact J.cell0 i4,cH (λq1=>?_) λq1=>skip (by rw[hZ q1];rfl)⟩;refine⟨c[j].block,by rw[<-g2];exact J.cell i4,cH (λq2=>?_) λq2=>skip (by rw[hZ q2,Bool.and_false])⟩;refine⟨c[j].id,by rw[<-g3];exact J.cell i4,(G[j]'(by omega)).2.2.2.2.2.2.2,J.cell i4,?_⟩;refine V.push aj 0 i4 ahs i4 i6 (λ_=>rfl) Kk (c[j].id,(G[j]'(by omega)).2.2.2.2.2.2.2) j4 i6 i9 λu3 bk a2=>?_;refine⟨(u3,j+1,L2++[((c[j].id,(G[j]'(by omega)).2.2.2.2.2.2.2),(c[j].id,c[j].data))]),j0,⟨i7,i9,?_,λp R=>?_,?_⟩,i7⟩
   ·try dsimp only
    rw[qL,K,N,g9 (by rw[hY q1,hY q2];rfl),qn];rfl
   ·rcases qz.1 R with R|R
    ·exact U p R
    ·rw[qu.1 R];refine⟨i4,List.mem_append_right _ ?_⟩;rw[hQ];refine qo.2 ⟨(G[j]'(by omega),c[j]),?_,i4⟩;rw[<-yS (h:=by simp;omega)];exact qf _
   ·try dsimp only
    rw[qL];exact a2.bA [0,1,2,3]
  ·have ay:j=c.length:=i5
   subst ay;rw[qN,<-X]at K;have a4:=F5.2.1;have H6:=(H5.eJ 2 i4 (D:=cw 1 az Q) λq hq y hy=>by
    rw[hQ]at hy;obtain⟨z,ax,rfl⟩:=qo.1 hy;obtain⟨k,hk,rfl⟩:=qB ax;have ap:k<c.length:=by simp at hk;omega
    have:=(Fix.row hq ap).2;rw[yS];exact this).bA [1,2,0,3]
   have V:=aa.aaR H6;refine⟨(u2,i+1,L2,P++Q),j0,⟨i7,i7,K,U,V.bA [1,0,2]⟩,i7⟩
 ·rw[qg i5]at M;refine⟨u,L.map qt,i4,?_⟩;have H3:=((Y.freeze 0 i4 λ_=>rfl).bA [1,0]).jd;refine H3.eJ 0 i4 λq ⟨q1,q2,_,bq,cq,z1,z2⟩=>?_;refine⟨z1.mono bq,by rw[<-M];simp,λj r e O h2=>?_⟩;rw[<-M]at h2;rw[qP]at O h2;cases hj:L[j]? with
  |none=>rw[hj]at O;cases O
  |some p=>
   rw[hj]at O h2;have e1:=zW.inj (show dB p.1=dB r from O);have e2:=zW.inj (show dB p.2=dB e from h2);subst e1;subst e2;obtain⟨k1,k2⟩:=T p (List.mem_of_getElem? hj);exact⟨k1,(z2 _ k2).mono cq⟩
end
def dF(m:av)(ds:aE)(o b:Int)(live:aB):ct:=live.map λk=>(eC m ds [k] o b).map qt
abbrev afX:bG C.toAQ 75 22 1 [xG eH 0 0] 24:=⟨_,_,i4,i4,i4,i4,i4,i4⟩
section
variable {pw:f8}
theorem adT{k:Int}{l:aB}(h:k∈aU ds l):∃d,aV ds k=dB d/\d.lost=fz:=by
 have h:=(qF.1 h).2;unfold isLive at h;cases hd:aV ds k with
 |none=>rw[hd]at h;cases h
 |some d=>rw[hd]at h;exact⟨d,i4,j9⟩
theorem Cq(m:av)(o b:Int)(l:bP):i0 (uI m o b l)<=i0 l:=by unfold uI;rw[qq];exact qT (qS _ _) (Ad m l)
theorem UL(x:bm)(m:av)(o b:Int)(W:dh h x m)(X:cF m)(ah:i0 m.drives<=64)(p:∀k d,aV ds k=dB d->i0 d.l<=512)(H:aa B h0 h (aY ba a pw (aA x) offs da w ds::As)):
  an xP 33 #[xH (dB a),xF xL o,xF xL b] h λv h'=>∃r:Sl,v=r/\Sp h h' [dH 22 r 3 1 ak (dF m ds o b (aU ds m.drives))]:=by
 refine ts Tryz.func33 ?_ (.two .n (.two .n (.two (.two .n (.inn (.loop [(7,cL),(16,aQ)] [(7,8),(9,11),(12,13),(16,47)] (.two .n (.two .n (.two (.inn (.two .n (.two .n (.two (.two .n (.inn (.loop [(10,cL),(32,aQ)] [(10,11),(12,13),(32,42)] .n))) .n)))) .n)))))) .n)));refine(gb x m W X H).mono ?_;rintro _ h1 ⟨f,rfl,Q⟩;have R:i0 (aU ds m.drives)<=i0 m.drives:=qS _ _;have E:∀k∈aU ds m.drives,∃d,aV ds k=dB d:=λk T=>by obtain⟨d,h,_⟩:=adT T;exact⟨d,h⟩
 obtain⟨live,c⟩:∃live,live=aU ds m.drives:=⟨_,rfl⟩
 rw[<-c]at Q R E⊢;have ad:=(Q.own 0 i4).len;refine⟨f,i4,?_⟩;have ap:i0 (dF m ds o b live)=i0 live:=by simp[dF]
 have H1:Sp h h1 [dH 22 ⟨eH,0,0⟩ 3 1 ak ((dF m ds o b live).take 0),af 3 f 1 ak live]:=Q.BE 22 3 1 ak;refine aq (λt:Sl×Nat=>(t.1,(t.2:Int))) (λt h'=>t.2<=i0 live/\Sp h h' [dH 22 t.1 3 1 ak ((dF m ds o b live).take t.2),af 3 f 1 ak live]) (λt=>i0 live-t.2) (⟨eH,0,0⟩,0) i4 ⟨jj,H1⟩ ?_;rintro⟨u,i⟩ h2 ⟨hi,F⟩;dsimp only at*;refine ag (λe=>?_) λe=>?_
 ·have A:i<i0 live:=i5
  refine(F.seq 1 i4 λ_=>rfl).bt i i4 A live[i] i4 ?_;refine F.lit aj ak fN i4 [live[i]] i4 (show 1*1<=2^20 by decide) i4 λq h3 y=>?_;have y:Sp h h3 [dH 22 u 3 1 ak ((dF m ds o b live).take i),af 3 f 1 ak live,af 3 q 1 ak [live[i]]]:=y;have V:=H.up y.ae;have O:=(aa.cK V).2;refine⟨a,i4,x,O.aF _ i4,?_⟩;obtain⟨d,M⟩:=E live[i] (qf A);refine(uJ x m q [live[i]] o b (W.up y.ae) X (y.seq 2 i4 λ_=>rfl) jj (λk T=>by rw[qu.1 T];exact⟨d,M⟩) V).mono ?_;rintro _ h4 ⟨K,z,rfl,Y⟩;obtain⟨S,s⟩:∃S,S=eC m ds [live[i]] o b:=⟨_,rfl⟩
  have al:i0 S<=512:=by rw[s];unfold eC kG;rw[za,zS,qE,M];exact qT (Cq _ _ _ _) (p _ _ M)
  rw[<-s]at Y;have I:=(y.cb Y).aO 4 [1,2,0];have Z:=I.fa 2 i4;have ab:=Z.2.1;have ao:=Z.1.len;refine⟨K,i4,?_⟩;have I:Sp h h4 [af 3 ⟨eH,0,0⟩ 1 ak ((S.map qt).take 0),dH 22 u 3 1 ak ((dF m ds o b live).take i),af 3 f 1 ak live,cM jm 2 piv K z S]:=(I.nil 3 1 ak).bA [3,0,1,2];refine aq (λt:Sl×Nat=>(t.1,(t.2:Int))) (λt h'=>t.2<=i0 S/\Sp h h' [af 3 t.1 1 ak ((S.map qt).take t.2),dH 22 u 3 1 ak ((dF m ds o b live).take i),af 3 f 1 ak live,cM jm 2 piv K z S]) (λt=>i0 S-t.2) (⟨eH,0,0⟩,0) i4 ⟨jj,I⟩ ?_;rintro⟨u2,j⟩ h5 ⟨hj,J⟩;dsimp only at*;have U:=J.fa 3 i4;refine ag (λe2=>?_) λe2=>?_
  ·have P:j<i0 S:=i5
   have D:=Fix.row U P;refine U.1.cU (g:=piv) j i4 i5 (z[j]'(by omega)) i4 ?_;refine J.alloc aj i4 λL h6 H6=>?_;refine H6.storeAll aj 4 i4 i4 (piv (z[j]'(by omega))) i4 i4 i4 i4 λh7 G=>?_;have G:Sp h h7 [af 3 u2 1 ak ((S.map qt).take j),dH 22 u 3 1 ak ((dF m ds o b live).take i),af 3 f 1 ak live,cM jm 2 piv K z S,ac L 145 (piv (z[j]'(by omega)))]:=G;refine⟨S[j].1,by rw[<-D.1];exact(G.box 4 i4).cell0 i4,?_⟩;refine G.push aj 0 i4 fN i4 i6 (λ_=>rfl) eS S[j].1 i4 i6 i9 λu3 h9 H9=>?_;refine⟨(u3,j+1),j0,⟨i7,?_⟩,i7⟩
   try dsimp only
   rw[aD _ _ (show j<i0 (S.map qt) by simp;omega),wh];exact H9.bA [0,1,2,3]
  ·rw[qg i9]at J;refine(J.aO 2 [1,0]).BF aj afX i9 λu3 am N=>?_;refine⟨(u3,i+1),j0,⟨i7,?_⟩,i7⟩
   try dsimp only
   rw[aD _ _ (show i<i0 (dF m ds o b live) by omega)];have ew:(dF m ds o b live)[i]'(by omega)=S.map qt:=by simp[dF,s]
   rw[ew];exact N.bA [0,1]
 ·rw[qg i5]at F;exact⟨u,i4,F.bA [0]⟩
end
def Pow.calm(w:Pow):Prop:=w.off=fz/\w.fuse=eH
theorem nc:Pow.new.calm:=⟨i4,i4⟩
theorem nf{w:Pow}(h:w.calm):w.step=(eX,w):=by unfold Pow.step;rw[hU (by simp[h.1]),h.2]
theorem Gh{w:Pow}(h:w.calm)(ds:aE)(x:Int)(b:aL):(fT w ds x b).2.1=w:=by
 unfold fT;cases aV ds x with
 |none=>rfl
 |some d=>
  try dsimp only
  unfold aZ.append;split
  ·rfl
  ·split
   ·rfl
   ·split
    ·rfl
    ·split
     ·rfl
     ·rw[nf h];rfl
theorem Lv{w:Pow}(h:w.calm)(ds:aE)(x:Int):(gW w ds x).2.1=w:=by
 unfold gW;cases aV ds x with
 |none=>rfl
 |some d=>
  try dsimp only
  unfold aZ.sync;split
  ·rfl
  ·rw[nf h];rfl
theorem pC{w:Pow}(h:w.calm):∀(l:List (Int×aL)) (ds:aE),(lq l w ds).2.1=w
 |[],_=>rfl
 |x::l,ds=>by
  rw[ue,Gh h];split
  ·exact pC h l _
  ·exact Gh h _ _ _
theorem IM{w:Pow}(h:w.calm):∀(l:aB) (ds:aE),(gM l w ds).2.1=w
 |[],_=>rfl
 |x::l,ds=>by
  rw[sT,Lv h];split
  ·exact IM h l _
  ·exact Lv h _ _
theorem aaS{w:Pow}(h:w.calm)(l:List (Int×aL))(ds:aE):(layAll l w ds).2.1=w:=by
 unfold layAll
 try dsimp only
 rw[pC h];split
 ·exact IM h _ _
 ·exact pC h _ _
theorem QS{w:Pow}{d:aZ}{n:Nat}{b:aL}(h:w.calm)(a:d.lost=fz)(e:i0 d.l+(n+1)<=d.room)(c:i0 b=64):d.append w b=(0,w,{d with l:=d.l++[b],wait:=d.wait+1,laid:=[],has:=fz}):=by unfold aZ.append;rw[hU i5,hU m6,hU i5,hU (by simp[h.1]),nf h];rfl
theorem XN{w:Pow}{d:aZ}(h:w.calm)(a:d.lost=fz):d.sync w=(0,w,{d with wait:=0,laid:=[],has:=fz}):=by unfold aZ.sync;rw[hU m6,nf h];rfl
theorem afY{ds:aE}{s:Int}{d:aZ}(h:aV ds s=dB d):0<=s/\s<64:=by obtain⟨n,rfl,a⟩:=lL h;omega
def IN(ds:aE)(P:List (Int×aL))(s:Int):Option aZ:=
 (aV ds s).map λd=>{d with l:=d.l++(P.filter λx=>decide (x.1=s)).map zh,wait:=d.wait+i0 (P.filter λx=>decide (x.1=s)),laid:=if(P.filter λx=>decide (x.1=s)).isEmpty then d.laid else[],has:=if(P.filter λx=>decide (x.1=s)).isEmpty then d.has else fz}
theorem Ez{w:Pow}(h:w.calm){S:aB}:∀(P:List (Int×aL)) (ds:aE),Fit ds S (P.map qt)->(∀x∈P,x.1∈S/\x.2.length=64)->
  (lq P w ds).1=0/\Fit (lq P w ds).2.2 S []/\∀s,aV (lq P w ds).2.2 s=IN ds P s
 |[],ds,F,_=>⟨i4,F,λs=>by unfold IN;show aV ds s=_;cases aV ds s<;>simp⟩
 |x::P,ds,F,hP=>by
  obtain⟨d,c,m,o⟩:=F.at_ x.1 (hP x (qM ..)).1;rw[zO,List.count_cons_self]at o;have i:=(hP x (qM ..)).2;obtain⟨n,j,a⟩:=lL c;have g:=QS (n:=(P.map qt).count x.1) h m i5 i;have e:fT w ds x.1 x.2=(0,w,ck ds x.1 {d with l:=d.l++[x.2],wait:=d.wait+1,laid:=[],has:=fz}):=by unfold fT;rw[c];(try dsimp only);rw[g]
  obtain⟨_,f⟩:=Mh w x.2 (x:=x.1) (Q:=P.map qt) F (hP x (qM ..)).1 i;rw[ue,e];rw[e]at f;dsimp only at f⊢;rw[g9 rfl];obtain⟨k,q,a3⟩:=Ez h P _ f λy r=>hP y (qD _ r);refine⟨k,q,λs=>?_⟩;rw[a3 s];unfold IN;rw[j,Be _ _ _ _ a F.len,<-j];by_cases b:s=x.1
  ·rw[g9 b,b,c];simp only[qQ,zo,decide_true,if_true,zO,ze,qn,List.singleton_append,List.isEmpty_cons,Bool.false_eq_true,if_false];congr 1;simp only[aZ.mk.injEq,true_and,and_true];refine⟨i5,?_,?_⟩<;>split<;>rfl
  ·rw[hU b];simp only[zo,decide_eq_true_eq,hU (show¬x.1=s fromλp=>b p.symm)]
theorem IP{w:Pow}(h:w.calm){S:aB}:∀(l:aB) (ds:aE),Fit ds S []->(∀x∈l,x∈S)->
  (gM l w ds).1=0/\Fit (gM l w ds).2.2 S []/\∀s,aV (gM l w ds).2.2 s=(aV ds s).map λd=>if s∈l then{d with wait:=0,laid:=[],has:=fz}else d
 |[],ds,F,_=>⟨i4,F,λs=>by show aV ds s=_;cases aV ds s<;>simp⟩
 |x::l,ds,F,hl=>by
  obtain⟨d,b,k,o⟩:=F.at_ x (hl x (qM ..));obtain⟨n,g,a⟩:=lL b;have e:gW w ds x=(0,w,ck ds x {d with wait:=0,laid:=[],has:=fz}):=by unfold gW;rw[b];(try dsimp only);rw[XN h k]
  obtain⟨_,c⟩:=QN w F (hl x (qM ..));rw[sT,e];rw[e]at c;dsimp only at c⊢;rw[g9 rfl];obtain⟨i,m,a3⟩:=IP h l _ c λy j=>hl y (qD _ j);refine⟨i,m,λs=>?_⟩;rw[a3 s,g,Be _ _ _ _ a F.len,<-g];by_cases f:s=x
  ·subst f;rw[g9 i4,b];simp only[qQ,qX,true_or,if_true];congr 1;split<;>rfl
  ·rw[hU f];cases aV ds s with
   |none=>rfl
   |some d'=>simp[f]
section
variable {pw:f8}
end
section
variable {pw:f8}
end
def sF(p:Pm)(extra:Int)(l:aB):Int:=
 if(fx l).2&&(bJ p&&fy extra 0 16)then
  if(bj l l.length).any λi=>decide (l.getD i.toNat 0<(i0 (aM (cx p extra l)):Int))then 7 else 0
 else 1
theorem UM(p:Pm)(extra:Int)(w:Pow)(l:aB):gc p extra w l=if sF p extra l=0 then layAll (bI (cx p extra l) (bj l l.length)) w (iB l (bj l l.length).length)else(sF p extra l,w,[]):=by
 unfold gc sF;by_cases h:((fx l).2&&(bJ p&&fy extra 0 16))=eX
 ·rw[g9 h,g9 h];by_cases a:((bj l l.length).any λi=>decide (l.getD i.toNat 0<(i0 (aM (cx p extra l)):Int)))=eX
  ·rw[g9 a,g9 a];rfl
  ·rw[hU a,hU a];rfl
 ·rw[hU h,hU h];rfl
theorem IQ{p:Pm}{extra:Int}{l:aB}(h:sF p extra l=0):bJ p=eX/\0<=extra/\extra<=16/\(fx l).2=eX/\((bj l l.length).any λi=>decide (l.getD i.toNat 0<(i0 (aM (cx p extra l)):Int)))=fz:=by
 unfold sF at h;by_cases a:((fx l).2&&(bJ p&&fy extra 0 16))=eX
 ·rw[g9 a]at h;by_cases b:((bj l l.length).any λi=>decide (l.getD i.toNat 0<(i0 (aM (cx p extra l)):Int)))=eX
  ·rw[g9 b]at h;cases h
  ·unfold fy at a;simp only[qy,decide_eq_true_eq]at a;exact⟨a.2.1,a.2.2.1,a.2.2.2,a.1,k8⟩
 ·rw[hU a]at h;cases h
def gI(m:av)(l:bP):Bool:=bf m&&(aM m).all λp=>decide (p∈l)
theorem XO(a:f8)(e:Sl)(p:aL)(l:Sl)(b:Cells)(h:g0)(o:bY h a 58 [e])(t:Rd h e 1 az p)(n:eT h l 1 az b)(w:i0 b<=2^30):
  an xP 189 #[l,.func (.func 190) #[] #[xH (dB a)]] h λv h'=>v=xJ (decide (p∈b))/\h'=h:=by
 refine ts Tryz.func189 ?_ (args:=[l,(.func (.func 190) #[] #[xH (dB a)])]);refine(nT l (190,#[],#[xH (dB a)]) (R:=λv h'=>(∃i:Int,v=xF xL i/\(decide (i>=0)=decide (p∈b)))/\h'=h) ?_).mono ?_
 ·skip
  have s:=n.len;refine aq (λi:Nat=>(i:Int)) (λi h'=>i<=i0 b/\p∉b.take i/\h'=h) (λi=>i0 b-i) 0 i4 ⟨i5,jj,i4⟩ ?_;rintro i j ⟨m,d,rfl⟩;refine ag (λg=>?_) (λg=>?_)
  ·have c:i<i0 b:=by have u:(i:Int)<(l.len:Int):=g;omega
   refine n.get i i4 c λr q=>dT lb ?_;refine(GU r a (R:=λv h'=>v=xJ (decide (b[i]=p))/\h'=j) ?_).mono ?_
   ·skip
    refine⟨e,o.cell0 i4,(jY r e b[i] p j q t).mono ?_⟩;rintro _ _ ⟨rfl,rfl⟩;exact⟨_,i4,i4,i4⟩
   ·rintro _ _ ⟨rfl,rfl⟩;refine⟨_,i4,ag (λk=>⟨⟨i,i4,?_⟩,i4⟩) λk=>?_⟩
    ·rw[hY (show(i:Int)>=0 by omega),hY (by rw[<-k];exact qf c)]
    ·refine⟨i+1,j1,⟨i5,λf=>?_,i4⟩,i5⟩;rw[aD _ _ c]at f;rcases qz.1 f with f|f
     ·exact d f
     ·exact k (qu.1 f).symm
  ·have u:¬(i:Int)<(l.len:Int):=g;rw[qg i5]at d;exact⟨⟨-1,i4,by rw[hZ d];rfl⟩,i4⟩
 ·rintro _ j ⟨⟨i,rfl,m⟩,rfl⟩;exact⟨i,i4,o5,i4⟩
theorem UN(a pw:f8)(d:aZ)(s b:Sl)(x:bm)(m:av)(h:g0)(N:bY h a 102 (gr pw d s b))(R:eT h s 1 az d.l)(ok:gA d)(O:dh h x m)(J:cF m):
  an xP 133 #[xH (dB a),dz x] h λv h'=>v=xJ (gI m d.l)/\Sp h h' []:=by
 refine ts Tryz.func133 ?_ (.two .n (.two .n (.two .n (.two (.two .n (.inn (.loop [(16,aQ)] [(4,5),(7,8),(16,25)] .n))) .n)))) (args:=[(dB a),x]);have M:=ok.len;have H:=ok.room;refine(Sp.refl h).boxed λB L y=>?_;have y:Sp h L [ac B 39 (aA x)]:=y;refine⟨x,(y.box 0 i4).aF _ i4,(Cg x m L (O.up y.ae) J).mono ?_⟩;rintro _ U ⟨rfl,Z⟩;have A:Sp h U [ac B 39 (aA x)]:=y.up Z.ae;refine⟨_,i4,aR (λg=>⟨by unfold gI;rw[g];rfl,.zip A.ae⟩) λg=>?_⟩;refine(uu s b (N.ae A.ae N.lt) (R.up A.ae) ok).mono ?_;rintro _ h3 ⟨q,rfl,S⟩;have E:Sp h h3 [ac B 39 (aA x),dI q d.l]:=A.comp S;refine⟨q,i4,x,(E.box 0 i4).aF _ i4,(lT x m h3 (O.up E.ae) J).mono ?_⟩;rintro _ V ⟨t,rfl,W⟩;have w:Sp h V [ac B 39 (aA x),dI q d.l,dI t (aM m)]:=E.comp W;have K:=jI m J;obtain⟨c,j⟩:∃c,c=aM m:=⟨_,rfl⟩
 rw[<-j]at w K;have T:=(aa.uc (w.aO 3 [2])).1;refine⟨t,i4,?_⟩;obtain⟨rs,w⟩:=(w.bA [2,1]).Oq λ_=>rfl;refine aq (λi:Nat=>(i:Int)) (λi h'=>i<=i0 c/\((c.take i).all λp=>decide (p∈d.l))=eX/\Sp h h' [cM (cm 1 az) 1 bg t rs c,dI q d.l]) (λi=>i0 c-i) 0 i4 ⟨i5,jj,w⟩ ?_;rintro i h5 ⟨hi,f,D⟩;have Q:=(D.fa 0 i4).2.1;refine ag (λe=>?_) (λe=>?_)
 ·have o:i<i0 c:=by have X:(i:Int)<(t.len:Int):=e;omega
  refine(D.fa 0 i4).1.mC i i4 i5 ?_;obtain⟨r,P⟩:∃r,r=rs[i]'(by omega):=⟨_,rfl⟩
  rw[<-P];refine D.alloc aj i4 λz h6 Y=>?_;refine Y.storeAll aj 2 i4 i4 [r] i4 i4 i4 i4 λI k=>?_;have k:Sp h I [cM (cm 1 az) 1 bg t rs c,dI q d.l,ac z 58 [r]]:=k;have u:Rd I r 1 az c[i]:=by rw[P];exact Fix.row (k.fa 0 i4) o
  have F:=aa.rP (k.aO 2 [1]) λ_=>rfl;refine(XO z r c[i] q d.l I (k.box 2 i4) u F i5).mono ?_;rintro _ h8 ⟨rfl,rfl⟩;refine⟨_,i4,aR (λG=>⟨?_,.zip k.ae⟩) λG=>?_⟩
  ·have:gI m d.l=fz:=by unfold gI;rw[g,zX,<-j];exact yE.2 ⟨c[i],qf o,by rw[G];simp⟩
   rw[this]
  ·refine⟨i+1,j1,⟨i5,?_,k.bA [0,1]⟩,i5⟩;rw[aD _ _ o,List.all_append,f,xz,List.all_nil,G];rfl
 ·have:i=i0 c:=by have X:¬(i:Int)<(t.len:Int):=e;omega
  subst this;rw[qN]at f;exact⟨by unfold gI;rw[g,<-j,f];rfl,.zip D.ae⟩
theorem aaT{w:Pow}(h:w.calm){S:aB}(P:List (Int×aL))(ds:aE)(F:Fit ds S (P.map qt))(b:∀x∈P,x.1∈S/\x.2.length=64):
  (layAll P w ds).1=0/\Fit (layAll P w ds).2.2 S []/\∀s,aV (layAll P w ds).2.2 s=(IN ds P s).map λd=>if s∈dK (P.map qt)then{d with wait:=0,laid:=[],has:=fz}else d:=by
 obtain⟨g,j,a3⟩:=Ez h P ds F b;have e:=pC h P ds;unfold layAll
 try dsimp only
 rw[g9 g,e];obtain⟨f,l,i⟩:=IP h (S:=S) (dK (P.map qt)) (lq P w ds).2.2 j λx c=>by
  unfold dK at c;have a:=(qF.1 c).2;obtain⟨y,k,rfl⟩:=qo.1 (ii a);exact(b y k).1
 exact⟨f,l,λs=>by rw[i s,a3 s]⟩
theorem Da(l:aB)(k:Nat):(bj l k).Pairwise (·<·):=by unfold bj;refine List.Pairwise.filter _ (yj.2 ?_);exact(List.pairwise_lt_range (n:=k)).imp λh=>i5
theorem adU{l:aB}{most:Int}(d:l.Pairwise (·<·))(e:∀x∈l,0<=x/\x<=most):oZ l most=eX:=by
 unfold oZ;refine sv λi a=>?_;unfold jS fy;have c:l.getD i 0=l[i]:=by rw[qd,qc a];rfl
 have:=e l[i] (qf a);rw[c,hY this.1,hY this.2,zX,zX];by_cases h0:i=0
 ·rw[hY h0];rfl
 ·have b:l.getD (i-1) 0=l[i-1]:=by rw[qd,qc i5];rfl
  rw[b,hY (List.pairwise_iff_getElem.1 d (i-1) i i5 a i5),Bool.or_true]
theorem Hg{p:Pm}{extra:Int}{l:aB}(g:i0 l<=64)(e:sF p extra l=0):bf (cx p extra l)=eX:=by
 obtain⟨c,d,h3,_⟩:=IQ e;have f:kX (cx p extra l)=eX:=by unfold kX fy cx;simp[c,d,h3]
 have b:oZ (cx p extra l).drives 63=eX:=adU (Da l l.length) λx a=>by
  obtain⟨n,h,rfl,_⟩:=(ux l l.length x).1 a;omega
 unfold bf;rw[f,b];rfl
theorem Db(p:Pm)(extra:Int)(l:aB)(b:i0 l<=24):i0 (aM (cx p extra l))<=1:=by
 unfold aM dE;rw[qq,zt];have a:=pz l l.length;have:i0 (bK (cx p extra l))<=19+24:=by
  unfold bK;split
  ·simp only[qw,cA,ze,yo,qq,cx,zS];omega
  ·simp
 omega
theorem XP(l:List (Int×aL))(k:Int):(l.map qt).count k=i0 (l.filter λy=>decide (y.1=k)):=by
 induction l with
 |nil=>rfl
 |cons y l ih=>
  rw[zO,List.count_cons,ih,zo];by_cases h:y.1=k
  ·rw[g9 (hY h),g9 j9];rfl
  ·rw[hU j9,hU j9];rfl
theorem EB(n:av)(k:Int):∀{live:aB},live.Nodup->k∈live->((bI n live).filter λy=>decide (y.1=k)).map zh=aM n
 |[],_,hk=>by cases hk
 |x::live,hnd,hk=>by
  have e:bI n (x::live)=(aM n).map (λc=>(x,c))++bI n live:=by unfold bI;rw[za]
  obtain⟨i,b⟩:=yn.1 hnd;rw[e,zl,qL];by_cases a:x=k
  ·subst a;have f:((aM n).map λc=>(x,c)).filter (λy=>decide (y.1=x))=(aM n).map (λc=>(x,c)):=List.filter_eq_self.2 λy d=>by
    obtain⟨c,_,rfl⟩:=qo.1 d;exact hY i4
   have j:(bI n live).filter (λy=>decide (y.1=x))=[]:=wT.2 λy d=>by
    have:=(kR d).1;have g:y.1≠x:=λh=>i (h▸this);simpa using g
   rw[f,j,vk,qE,wL];exact List.map_id _
  ·have f:((aM n).map λc=>(x,c)).filter (λy=>decide (y.1=k))=[]:=wT.2 λy d=>by
    obtain⟨c,_,rfl⟩:=qo.1 d;simpa using a
   rw[f,vk,List.nil_append];rcases qX.1 hk with h|h
   ·exact absurd h.symm a
   ·exact EB n k b h
theorem adV{p:Pm}{seed:Int}{d:Row}{K H w n:Nat}(B:cv p seed d K H w n)(id:Int):uG p seed d id=if bW id then fV w (dw p seed d) (dD n seed id)else[]:=by unfold uG;rw[B.pk,show p.2.2.toNat=w by have:=B.s;omega]
theorem OU{m:av}{o i seed:Int}{d:Row}{id:Int}{K H w n:Nat}(B:cv m.p seed d K H w n)(b:0<=o/\o<=16777215)(c:0<=i/\i<=7)(hid:0<=id/\id<=65535):iV (lV m o i seed d id)=eX:=by
 rw[kO];refine⟨b,c,hid,B.may,?_⟩;have a:bW id=eX:=by unfold bW;rw[hY hid.1,hY hid.2];rfl
 show(i0 (uG m.p seed d id):Int)=m.p.2.2;rw[adV B id,g9 a,B.WL id,B.s]
def rn(m:av)(o:Int)(tries:aB)(a:bP)(live:aB)(k:Int)(i:Nat):List dm:=
 ((qx (m.p.1+m.extra).toNat).filter λid=>decide (jh (ey o i live) (id:Nat)=k)).map λid:Nat=>lV m o i (ci o i (tries.getD i 0)) (a.getD i []) id
def jM(m:av)(o:Int)(tries:aB)(a:bP)(live:aB)(k:Int)(n:Nat):List dm:=(qx n).flatMap (rn m o tries a live k)
theorem OV(m:av)(o:Int)(tries:aB)(a:bP)(live:aB)(k:Int)(n:Nat):jM m o tries a live k (n+1)=jM m o tries a live k n++rn m o tries a live k n:=by unfold jM;rw[zB,qY,za,zS,qE]
theorem OW(m:av)(o:Int)(tries:aB)(a:bP)(live:aB)(k:Int)(i:Nat):((mZ m o tries a live i).filter λy=>decide (y.1=k)).map zh=(rn m o tries a live k i).map cW:=by unfold mZ rn;rw[List.filter_map,wL,wL];rfl
theorem Dc(m:av)(o:Int)(tries:aB)(a:bP)(live:aB)(k:Int):∀n,((dX m o tries a live n).filter λy=>decide (y.1=k)).map zh=(jM m o tries a live k n).map cW
 |0=>by simp[dX,jM]
 |n+1=>by rw[sE,OV,zl,qL,qL,Dc m o tries a live k n,OW]
theorem UO{m:av}{o:Int}{tries:aB}{a:bP}{live:aB}{k:Int}{i:Nat}{r:dm}(h:r∈rn m o tries a live k i):∃id:Nat,r=lV m o i (ci o i (tries.getD i 0)) (a.getD i []) id/\id<(m.p.1+m.extra).toNat:=by unfold rn at h;obtain⟨id,b,rfl⟩:=qo.1 h;exact⟨id,i4,qA.1 (qF.1 b).1⟩
theorem UP{m:av}{o:Int}{tries:aB}{a:bP}{live:aB}{k:Int}{n:Nat}{r:dm}(h:r∈jM m o tries a live k n):∃(i id:Nat),r=lV m o i (ci o i (tries.getD i 0)) (a.getD i []) id/\i<n/\id<(m.p.1+m.extra).toNat:=by unfold jM at h;obtain⟨i,b,c⟩:=zE.1 h;obtain⟨id,d,h3⟩:=UO c;exact⟨i,id,d,qA.1 b,h3⟩
def de(m:av)(d:aZ)(n:Int):aZ:=if gY d d.l.length n then d else{d with l:=bO m d.l,wait:=0,laid:=[],has:=fz}
theorem UQ{m:av}{r:dm}(h:eW m r=eX):iV r=eX:=by unfold eW at h;simp only[qy]at h;exact h.1
theorem aaU{l:List dm}{r:dm}(h:r∈nK l):r∈l:=by unfold nK at h;obtain⟨i,a,rfl⟩:=qo.1 h;have a:=qA.1 (qF.1 a).1;rw[qd,qc a];exact qf a
theorem IR{m:av}{c:aL}{r:dm}(h:gN m c=dB r):dO c=dB r/\eW m r=eX:=by
 unfold gN at h;cases hc:dO c with
 |none=>rw[hc]at h;cases h
 |some x=>
  rw[hc]at h;dsimp only at h;by_cases a:eW m x=eX
  ·rw[g9 a]at h;injection h with h;subst h;exact⟨i4,a⟩
  ·rw[hU a]at h;cases h
theorem tk{m:av}{l:bP}{r:dm}(h:r∈ft m l):∃c∈l,dO c=dB r/\eW m r=eX:=by have h:=wC.1 (aaU h);obtain⟨c,b,a⟩:=List.mem_filterMap.1 h;exact⟨c,b,IR a⟩
theorem Cr(m:av)(l:bP):∀c∈bO m l,i0 c=64:=λc a=>by
 rcases qz.1 a with h|h
 ·exact sV h
 ·obtain⟨r,d,rfl⟩:=qo.1 h;obtain⟨_,_,_,b⟩:=tk d;exact NA (UQ b)
theorem EC{w:Pow}(a:w.calm){d:aZ}{l:bP}(g:∀c∈l,i0 c=64)(f:d.lost=fz)(h:i0 l<=d.room):d.rewrite w l=(0,w,{d with l:=l,wait:=0,laid:=[],has:=fz}):=by unfold aZ.rewrite;have:l.all (λb=>decide (i0 b=64))=eX:=qJ.2 λc e=>hY (g c e);rw[hU (by simp[this]),hU p0,hU i5,hU (by simp[a.1]),nf a];rfl
theorem UR{w:Pow}(e:w.calm){m:av}{d:aZ}{n:Int}(h:jB m d n=eX):ge m w d n=(0,w,de m d n):=by
 have h0:=h;unfold jB at h;rw[qy,zZ,wK]at h;obtain⟨c,b⟩:=h;unfold ge de;rw[hU m7,hU (by simp[h0])];by_cases a:gY d d.l.length n=eX
 ·rw[g9 a,g9 a]
 ·rw[hU a,hU a];have h3:gY d (bO m d.l).length n=eX:=by
   rcases b with b|b
   ·exact absurd b a
   ·exact b
  unfold gY at h3;rw[decide_eq_true_eq]at h3;exact EC e (Cr m d.l) c i5
theorem OX(m:av)(ds:aE)(k:Int)(l:aB)(N:Int->Int):dR m ds (k::l) N=(nV m ds k (N k)&&dR m ds l N):=xz
theorem rJ{m:av}{ds:aE}{k n:Int}(h:nV m ds k n=eX):∃d,aV ds k=dB d/\jB m d n=eX:=by
 unfold nV at h;cases hd:aV ds k with
 |none=>rw[hd]at h;cases h
 |some d=>rw[hd]at h;exact⟨d,i4,h⟩
theorem Ct(ds:aE)(k:Int)(d:aZ):i0 (ck ds k d)=i0 ds:=by unfold ck;simp
theorem ng{ds:aE}{k:Int}{b d:aZ}(a:i0 ds=64)(c:aV ds k=dB b)(s:Int):aV (ck ds k d) s=if s=k then dB d else aV ds s:=by obtain⟨n,rfl,e⟩:=lL c;exact Be ds n d s e a
theorem Mk{m:av}{ds ds':aE}{l:aB}{N:Int->Int}(h:∀k∈l,aV ds k=aV ds' k):dR m ds l N=dR m ds' l N:=by unfold dR;rw[Bool.eq_iff_iff,qJ,qJ];refine forall_congr' λk=>forall_congr' λa=>?_;unfold nV;rw[h k a]
theorem Cu{w:Pow}(j:w.calm){m:av}{N:Int->Int}:∀{live:aB} {ds:aE},live.Nodup->i0 ds=64->dR m ds live N=eX->
  ∃ds',makes m N live w ds=(0,w,ds')/\ds'.length=64/\∀k,aV ds' k=(aV ds k).map λd=>if k∈live then de m d (N k)else d
 |[],ds,_,h64,_=>⟨ds,i4,h64,λk=>by cases aV ds k<;>simp⟩
 |k::live,ds,hnd,h64,hf=>by
  rw[OX,qy]at hf;obtain⟨b,c⟩:=yn.1 hnd;obtain⟨d,g,h⟩:=rJ hf.1;have e:ja m w ds k (N k)=(0,w,ck ds k (de m d (N k))):=by unfold ja;rw[g];(try dsimp only);rw[UR j h]
  have a:=ng (d:=de m d (N k)) h64 g;have i:dR m (ck ds k (de m d (N k))) live N=eX:=by
   rw[<-Mk (ds:=ds) λs f=>?_]
   ·exact hf.2
   ·rw[a,hU λo:s=k=>b (o▸f)]
  obtain⟨ds',l,n,h3⟩:=Cu j c (by rw[Ct];exact h64) i;refine⟨ds',?_,n,λs=>?_⟩
  ·show(if(ja m w ds k (N k)).1=0 then makes m N live (ja m w ds k (N k)).2.1 (ja m w ds k (N k)).2.2 else ja m w ds k (N k))=_;rw[e];exact l
  ·rw[h3 s,a];by_cases f:s=k
   ·subst f;rw[g9 i4,g];simp[b]
   ·rw[hU f];simp[f]
theorem IS{m:av}{d:aZ}{n:Int}(h:jB m d n=eX):(de m d n).lost=fz/\(de m d n).room=d.room/\((de m d n).l.length:Int)+max n 0<=d.room:=by
 unfold jB at h;rw[qy,zZ,wK]at h;obtain⟨c,b⟩:=h;unfold de;by_cases a:gY d d.l.length n=eX
 ·rw[g9 a];unfold gY at a;rw[decide_eq_true_eq]at a;exact⟨c,i4,i5⟩
 ·rw[hU a];have h3:gY d (bO m d.l).length n=eX:=by
   rcases b with b|b
   ·exact absurd b a
   ·exact b
  unfold gY at h3;rw[decide_eq_true_eq]at h3;exact⟨c,i4,i7⟩
theorem QU(a:ByteArray):fm a a=fz:=WB _
theorem XQ{a b:ByteArray}(h:jT a b=eX)(c:a≠b):fm a b=eX:=by
 rcases(Ie a b).1 h with h|h
 ·exact h
 ·exact absurd (BO h) c
theorem Ah{a b:ByteArray}(h:fm a b=eX):a≠b:=λe=>by subst e;rw[QU]at h;cases h
theorem afZ:Ord sX:=⟨λa b c d e=>DF _ _ _ d e,λa b=>DG _ _⟩
theorem uK{m:av}{x e:cu}:e∈(fi m x).objs↔e∈m.objs∨e=x:=by show e∈(m.objs++[x]).mergeSort sX↔_;rw[wC];simp
theorem XR{name:ByteArray}{l:List Qw.cu}(h:l.any (gm name)=fz):∀e∈l,e.name≠name:=λe a b=>by
 have:=wo.1 h e a;unfold gm at this;rw[b]at this;simp at this
theorem XS{m:av}{x:Qw.cu}(G:bf m=eX)(f:kW x.name=eX)(g:∀e∈m.objs,e.name≠x.name)(i:x.object=m.next)(J:m.objs.length<=11)(K:m.next<=16777215)(N:m.seq<=2147483646)
  (j:0<=x.length/\x.length<=m.p.1*m.p.2.2*8) (y:∀t∈x.tries,0<=t/\t<=15) (z:(x.tries.length:Int)=countP m.p x.length):bf (fi m x)=eX:=by
 obtain⟨A,B,h3,L,s,w,F⟩:=(bM m).1 G;obtain⟨I,M,a3,a4⟩:=(dn m).1 A;have c:(fi m x).objs.Perm (m.objs++[x]):=wV _ _;have k:∀e∈m.objs,e.object<m.next:=λe n=>((fB m e).1 (s e n)).2.1.2;refine(bM _).2 ⟨(dn _).2 ⟨⟨?_,?_⟩,⟨?_,?_⟩,a3,a4⟩,B,h3,?_,λe n=>?_,?_,?_⟩
 ·show 1<=m.seq+1;omega
 ·show m.seq+1<=_;omega
 ·show 0<=m.next+1;omega
 ·show m.next+1<=_;omega
 ·rw[c.length_eq];simp;omega
 ·rcases uK.1 n with n|rfl
  ·obtain⟨u,v,H,D,E⟩:=(fB m e).1 (s e n);exact(fB _ e).2 ⟨u,⟨v.1,by show _<m.next+1;omega⟩,H,D,E⟩
  ·exact(fB _ _).2 ⟨f,⟨i5,by show _<m.next+1;omega⟩,j,y,z⟩
 ·have d:(m.objs++[x]).Pairwise (λa b:Qw.cu=>a.name≠b.name):=yd.2 ⟨w.imp λh=>Ah h,List.pairwise_singleton _ _,λa q b r=>by rw[qu.1 r];exact g a q⟩;have l:=(c.pairwise_iff (R:=λa b:Qw.cu=>a.name≠b.name) λ{a b} h=>Ne.symm h).2 d;have o:(fi m x).objs.Pairwise (λa b=>sX a b=eX):=(DD afZ (m.objs++[x])).1;exact(o.and l).imp λh=>XQ h.1 h.2
 ·have d:(m.objs++[x]).Pairwise (λa b:Qw.cu=>a.object≠b.object):=yd.2 ⟨F,List.pairwise_singleton _ _,λa q b r=>by rw[qu.1 r,i];have:=k a q;omega⟩;exact(c.pairwise_iff (R:=λa b:Qw.cu=>a.object≠b.object) λ{a b} h=>Ne.symm h).2 d
theorem QV{p:Pm}{o:Int}{n:Nat}{t:aB}(h:cT p o n=dB t):∀x∈t,0<=x/\x<=15:=λx b=>by
 obtain⟨i,c,rfl⟩:=qB b;obtain⟨k,d,a⟩:=Ab h i c;have:=(En a).1;rw[d];omega
theorem ED{p:Pm}(a:bJ p=eX)(b:aL):(i0 (splitB p b):Int)=countP p b.length:=by have:=(mi a b.length).1;unfold splitB;rw[qq,zt];omega
theorem aaV{m:av}{d:Bool}{ds:aE}{name:ByteArray}{b:aL}{t:aB}(g:bf m=eX)(l:dW m d ds name b.length=0)(f:cT m.p m.next (splitB m.p b).length=dB t):bf (fi m ⟨name,m.next,i0 b,t⟩)=eX:=by
 obtain⟨n,i,z3,z4,z5⟩:=na l;have j:¬m.p.1*m.p.2.2*8<(i0 b:Int):=λh=>z4 (.inl h);have e:i0 m.objs<=11:=by have:¬12<=i0 m.objs:=λh=>z4 (.inr h);omega
 have a:m.next<=16777215:=by have:¬16777215<m.next:=λh=>z5 (.inr (.inl h));omega
 have c:m.seq<=2147483646:=by have:¬2147483647<=m.seq:=λh=>z5 (.inr (.inr h));omega
 have k:=((dn m).1 ((bM m).1 g).1).2.2.1;refine XS g i (XR z3) i4 e a c ⟨by show 0<=(i0 b:Int);omega,by show(i0 b:Int)<=_;omega⟩ (QV f) ?_;show(i0 t:Int)=countP m.p b.length;rw[jz f,ED k]
def dM(a:bP)(d:aZ):aZ:=if a.isEmpty then d else{d with l:=d.l++a,wait:=0,laid:=[],has:=fz}
def lD(P:List (Int×aL))(s:Int):bP:=(P.filter λx=>decide (x.1=s)).map zh
theorem OY{P:List (Int×aL)}{s:Int}(h:∀x∈P,x.1≠s):lD P s=[]:=by unfold lD;rw[wT.2 λx a=>by simpa using h x a];rfl
theorem OZ(P:List (Int×aL))(s:Int):i0 (lD P s)=(P.map qt).count s:=by unfold lD;rw[qq];exact(Qw.XP P s).symm
theorem Gi{l:aB}{s:Int}(h:0<=s/\s<64):s∈dK l↔s∈l:=by unfold dK;rw[qF,decide_eq_true_eq];refine⟨λh=>h.2,λh'=>⟨?_,h'⟩⟩;exact qo.2 ⟨s.toNat,qA.2 i5,i5⟩
theorem IT{w:Pow}(m:w.calm){ds:aE}{P:List (Int×aL)}(j:i0 ds=64)
  (a:∀x∈P,i0 x.2=64/\∃d,aV ds x.1=dB d/\d.lost=fz/\d.l.length+i0 (lD P x.1)<=d.room):
  ∃ds',layAll P w ds=(0,w,ds')/\ds'.length=64/\∀s,aV ds' s=(aV ds s).map (dM (lD P s)):=by
 have F:Fit ds (P.map qt) (P.map qt):=⟨j,λk q=>by
  obtain⟨x,f,rfl⟩:=qo.1 q;obtain⟨_,d,g,i,h3⟩:=a x f;rw[OZ]at h3;exact⟨d,g,i,h3⟩⟩
 obtain⟨p,r,a3⟩:=Qw.aaT m P ds F λx f=>⟨qo.2 ⟨x,f,rfl⟩,(a x f).1⟩
 refine⟨(layAll P w ds).2.2,?_,r.len,λs=>?_⟩
 ·have i:=aaS m P ds;exact vd p (vd i i4)
 ·rw[a3 s];unfold IN;cases hd:aV ds s with
  |none=>rfl
  |some d=>
   obtain⟨e,c⟩:=afY hd;rw[qQ,qQ,qQ];congr 1;unfold dM;have n:s∈P.map qt↔(lD P s).isEmpty=fz:=by rw[<-List.count_pos_iff,<-OZ];cases hc:lD P s<;>simp
   by_cases b:(lD P s).isEmpty=eX
   ·have h0:lD P s=[]:=List.isEmpty_iff.1 b;have g:(P.filter λx=>decide (x.1=s))=[]:=List.map_eq_nil_iff.1 h0;rw[hU (λh=>by rw[Gi ⟨e,c⟩,n]at h;rw[h]at b;cases b),g9 b,g];simp
   ·have o:(lD P s).isEmpty=fz:=k8
    rw[g9 ((Gi ⟨e,c⟩).2 (n.2 o)),hU b];rfl
theorem oO{n:av}{live:aB}(a:live.Nodup)(s:Int):lD (bI n live) s=if s∈live then aM n else[]:=by
 by_cases h:s∈live
 ·rw[g9 h];exact EB n s a h
 ·rw[hU h];exact OY λx b c=>h (c▸(kR b).1)
theorem aaW(m:av)(o:Int)(tries:aB)(a:bP)(live:aB)(k:Int)(n:Nat):lD (dX m o tries a live n) k=(jM m o tries a live k n).map cW:=Dc m o tries a live k n
theorem Hj{m:av}(h:bf m=eX):aM m≠[]:=by unfold aM dE bK;rw[g9 h];intro e;have:=congrArg List.length e;simp[cA]at this;omega
theorem EE{ds:aE}{l:aB}(h:l.Nodup):(aU ds l).Nodup:=h.filter _
theorem lW{ds:aE}{l:aB}{k:Int}(h:k∈aU ds l):k∈l/\∃d,aV ds k=dB d/\d.lost=fz:=by
 obtain⟨b,a⟩:=qF.1 h;unfold isLive at a;cases hd:aV ds k with
 |none=>rw[hd]at a;cases a
 |some d=>rw[hd]at a;exact⟨b,d,i4,k7⟩
theorem Cv{ds:aE}{l:aB}{k:Int}:k∈aU ds l↔k∈l/\∃d,aV ds k=dB d/\d.lost=fz:=by refine⟨lW,λ⟨h1,d,h2,h3⟩=>qF.2 ⟨h1,?_⟩⟩;unfold isLive;rw[h2];simp[h3]
theorem uL(a:bP)(d:aZ):(dM a d).l=d.l++a:=by
 unfold dM;by_cases h:a.isEmpty=eX
 ·rw[g9 h,List.isEmpty_iff.1 h,qE]
 ·rw[hU h]
theorem nh(a:bP)(d:aZ):(dM a d).lost=d.lost/\(dM a d).room=d.room:=by unfold dM;split<;>exact⟨i4,i4⟩
theorem aaX{b a:bP}(h:a≠[])(d:aZ):dM a (dM b d)=dM (b++a) d:=by
 have e:∀c:bP,c≠[]->∀d,dM c d={d with l:=d.l++c,wait:=0,laid:=[],has:=fz}:=λc g d=>by
  unfold dM;rw[hU l4]
 by_cases f:b=[]
 ·subst f;rfl
 ·rw[e b f,e a h,e (b++a) tr];simp
theorem Lw(a:Nat)(l:List (Int×aL))(k:Int):kF a l k=a+i0 (lD l k):=by unfold kF lD;rw[qq]
theorem SP{p:Pm}{o:Int}{b:aL}{t:aB}(d:bJ p=eX)(c:cT p o (splitB p b).length=dB t){i:Nat}(g:i<i0 (splitB p b)):∃K H w n,cv p (ci o i (t.getD i 0)) ((splitB p b).getD i []) K H w n:=by
 have m:=jz c;obtain⟨k,l,a⟩:=Ab c i i5;have f:Iy p o i k=eX:=(En a).2.1;have e:t.getD i 0=(k:Int):=by rw[gF 0];exact l
 rw[e];refine Ud d f ?_;have h:=(bT p).1 d;have q:0<=p.1*p.2.2:=vT i5 i5;have j:(splitB p b)[i]=th (dU p) b i:=by simp[splitB]
 rw[gF [] g,j,Em];unfold dU;omega
theorem SQ{m:av}{b:aL}{t:aB}(f:bf m=eX)(e:m.next<=16777215)(h8:i0 (splitB m.p b)<=8)(d:cT m.p m.next (splitB m.p b).length=dB t){i id:Nat}(g:i<i0 (splitB m.p b))(hid:id<(m.p.1+m.extra).toNat):
  iV (lV m m.next i (ci m.next i (t.getD i 0)) ((splitB m.p b).getD i []) id)=eX:=by
 have a:=((dn m).1 ((bM m).1 f).1)
 have c:=(bT m.p).1 a.2.2.1;obtain⟨K,H,w,n,B⟩:=SP a.2.2.1 d g;exact OU B ⟨a.2.1.1,e⟩ i5 i5
theorem Lx{m:av}{offs:Int}{w:Pow}{ds:aE}{name:ByteArray}{b:aL}(E:w.calm)(O:i0 ds=64)(z:bf m=eX):
  (dW m (fH w offs) ds name b.length≠0->gH m offs w ds name b=(dW m (fH w offs) ds name b.length,m,w,ds))/\
  (dW m (fH w offs) ds name b.length=0->(cT m.p m.next (splitB m.p b).length=eH->gH m offs w ds name b=(8,m,w,ds))/\∀t,cT m.p m.next (splitB m.p b).length=dB t->
   let live:=aU ds m.drives;let l:=dX m m.next t (splitB m.p b) live (splitB m.p b).length;let n:=fi m ⟨name,m.next,i0 b,t⟩;let N:=kF (aM n).length l
   bf n=eX/\(dR m ds live N=fz->gH m offs w ds name b=(7,m,w,ds))/\(dR m ds live N=eX->∃ds',gH m offs w ds name b=(0,n,w,ds')/\ds'.length=64/\
    ∀k,aV ds' k=(aV ds k).map λd=>if k∈live then dM ((jM m m.next t (splitB m.p b) live k (splitB m.p b).length).map cW++aM n) (de m d (N k))else d)):=by
 refine⟨λh=>by unfold gH;rw[g9 h],λh=>⟨λr=>by unfold gH;rw[hU j9,r],λt r=>?_⟩⟩;intro live l n N;have A:bf n=eX:=aaV z h r;obtain⟨z1,z2,z3,z4,z5⟩:=na h;have q:=((dn m).1 ((bM m).1 z).1)
 have J:¬m.p.1*m.p.2.2*8<(i0 b:Int):=λh=>z4 (.inl h);have h8:=FH q.2.2.1 J;have M:live≠[]:=λh=>z5 (.inl h);have o:0<=m.next/\m.next<=16777215:=⟨q.2.1.1,by have:¬16777215<m.next:=λh=>z5 (.inr (.inl h));omega⟩
 have f:live.Nodup:=EE (po z);have L:∀k∈live,0<=k/\k<64:=λk a=>iQ z k (lW a).1;have e:gH m offs w ds name b=(if dR m ds live N=fz then(7,m,w,ds)else if(makes m N live w ds).1≠0 then((makes m N live w ds).1,m,(makes m N live w ds).2)else
   if(layAll l (makes m N live w ds).2.1 (makes m N live w ds).2.2).1≠0 then((layAll l (makes m N live w ds).2.1 (makes m N live w ds).2.2).1,m,(layAll l (makes m N live w ds).2.1 (makes m N live w ds).2.2).2)else
   ((layAll (bI n live) (layAll l (makes m N live w ds).2.1 (makes m N live w ds).2.2).2.1 (layAll l (makes m N live w ds).2.1 (makes m N live w ds).2.2).2.2).1,if(layAll (bI n live) (layAll l (makes m N live w ds).2.1 (makes m N live w ds).2.2).2.1 (layAll l (makes m N live w ds).2.1 (makes m N live w ds).2.2).2.2).1=0 then n else m,(layAll (bI n live) (layAll l (makes m N live w ds).2.1 (makes m N live w ds).2.2).2.1 (layAll l (makes m N live w ds).2.1 (makes m N live w ds).2.2).2.2).2)):=by
  unfold gH;rw[hU j9,r]
 refine⟨A,λj=>by rw[e,g9 j],λj=>?_⟩;rw[e,hU (by rw[j];decide)];obtain⟨S,Z,m2,R⟩:=Cu E (N:=N) f O j;rw[Z]
 try dsimp only
 rw[hU jj];have v:∀y∈l,y.1∈live:=λy B=>(OT o M L h8 B).1;have D:∀y∈l,i0 y.2=64:=λy B=>by
  obtain⟨i,U,B⟩:=zE.1 B;obtain⟨id,hid,rfl⟩:=qo.1 B;exact NA (SQ z o.2 h8 r (qA.1 U) (qA.1 hid))
 have c:∀k∈live,∃d,aV S k=dB d/\d.lost=fz/\(i0 d.l:Int)+max (N k) 0<=d.room:=λk a=>by
  obtain⟨_,d,hd,V⟩:=lW a;have F:=qJ.1 j k a;obtain⟨d',Q,K⟩:=rJ F;obtain⟨r1,r2,r3⟩:=IS K;refine⟨de m d' (N k),?_,r1,by rw[r2];exact r3⟩;rw[R k,Q,qQ,g9 a]
 obtain⟨d2,l1,l2,T⟩:=IT E (ds:=S) (P:=l) m2 λx g=>by
  obtain⟨d,H,I,f3⟩:=c x.1 (v x g);refine⟨D x g,d,H,I,?_⟩;have:N x.1=_:=Lw _ _ _;omega
 rw[l1]
 try dsimp only
 rw[hU jj];obtain⟨X,Y,p2,W⟩:=IT E (ds:=d2) (P:=bI n live) l2 λx g=>by
  obtain⟨u,s⟩:=kR g;obtain⟨d,H,I,f3⟩:=c x.1 u;refine⟨s,dM (lD l x.1) d,by rw[T,H,qQ],by rw[(nh _ _).1];exact I,?_⟩;have:N x.1=_:=Lw _ _ _;rw[(nh _ _).2,uL,oO f,g9 u,qw];omega
 rw[Y];refine⟨X,i4,p2,λk=>?_⟩;rw[W k,T k,R k,Option.map_map,Option.map_map];congr 1;funext d;show dM (lD (bI n live) k) (dM (lD l k) (if k∈live then de m d (N k)else d))=_;rw[oO f];by_cases a:k∈live
 ·rw[g9 a,g9 a,g9 a];have G:lD l k=(jM m m.next t (splitB m.p b) live k (splitB m.p b).length).map cW:=aaW _ _ _ _ _ _ _;rw[G,aaX (Hj A)]
 ·rw[hU a,hU a,hU a,OY (P:=l) λx g (he:x.1=k)=>a (he▸v x g)];rfl
theorem IU(l:aB)(b:i0 l<=64)(s:Int):aV (iB l (bj l l.length).length) s=if s∈bj l l.length then dB (aZ.new (l.getD s.toNat 0).toNat)else eH:=by
 by_cases a:0<=s/\s<64
 ·unfold aV iB;rw[g9 a,qP,zm i5,qQ,qg (ql _)];have e:((s.toNat:Nat):Int)=s:=i5
  rw[e];by_cases h:s∈bj l l.length
  ·rw[g9 h];rfl
  ·rw[hU h];rfl
 ·rw[hU λh=>?_]
  ·unfold aV;rw[hU a]
  ·obtain⟨n,c,rfl,_⟩:=(ux l l.length s).1 h;omega
theorem XT{p:Pm}{extra:Int}{l:aB}(d:i0 l<=64)(f:sF p extra l=0):
  ∃D,gc p extra Pow.new l=(0,Pow.new,D)/\D.length=64/\∀s,aV D s=if s∈bj l l.length then dB ⟨(l.getD s.toNat 0).toNat,aM (cx p extra l),0,[],fz,fz⟩else eH:=by
 have m:=Hg d f;have b:(bj l l.length).Nodup:=(Da l l.length).imp λh e=>i5
 have c:=(IQ f).2.2.2.2;rw[UM,g9 f];obtain⟨D,i,j,h3⟩:=IT nc (ds:=iB l (bj l l.length).length) (P:=bI (cx p extra l) (bj l l.length)) (QE _ _) λx k=>by
  obtain⟨a,g⟩:=kR k;refine⟨g,aZ.new (l.getD x.1.toNat 0).toNat,by rw[IU l d,g9 a],i4,?_⟩;rw[oO b,g9 a];have:=wo.1 c x.1 a;simp only[decide_eq_true_eq]at this;show 0+_<=(l.getD x.1.toNat 0).toNat;omega
 refine⟨D,i,j,λs=>?_⟩;rw[h3,IU l d,oO b];by_cases h:s∈bj l l.length
 ·rw[g9 h,g9 h,g9 h,qQ];unfold dM;rw[hU (by simpa using Hj m)];rfl
 ·rw[hU h,hU h,hU h];rfl
theorem IV(m:av):i0 (aM m)=(i0 (bK m)+47)/48:=by unfold aM dE;rw[qq,zt]
theorem XU(x:Qw.cu):(fQ x).length=6+x.name.size+x.tries.length:=by unfold fQ;simp[cA];omega
theorem Ly{m:av}(h:bf m=eX):i0 (bK m)=14+i0 m.drives+i0 (m.objs.flatMap fQ):=by unfold bK;rw[g9 h];simp only[qw,cA,ze,yo,qq];omega
theorem lX{p:Pm}{n:Int}(h:n<=p.1*p.2.2*8):countP p n<=8:=by
 unfold countP;split
 ·rename_i a;rw[qy,decide_eq_true_eq]at a;have:=(bT p).1 a.1;have b:0<p.1*p.2.2:=Int.mul_pos i5 i5;have:(n-1)/(p.1*p.2.2)<8:=Int.ediv_lt_of_lt_mul b (by rw[Int.mul_comm 8];omega);omega
 ·decide
theorem adW{m:av}{x:Qw.cu}(h:gE m x=eX):i0 (fQ x)<=26:=by
 obtain⟨a,d,h3,b,c⟩:=(fB m x).1 h;have:=lX h3.2;have e:x.name.size<=12:=by unfold kW at a;simp at a;omega
 rw[XU];omega
theorem Bi{α β:Type}{f:α->List β}{c:Nat}:∀{l:List α},(∀x∈l,i0 (f x)<=c)->i0 (l.flatMap f)<=i0 l*c
 |[],_=>jj
 |x::l,h=>by
  have b:=h x qM;have d:=Bi (l:=l) λy a=>h y (qD _ a);rw[za,qw,ze,zP];omega
theorem aaY{m:av}(h:bf m=eX):i0 (aM m)*48<=61+i0 m.drives+i0 m.objs*26:=by have:=Bi (f:=fQ) (l:=m.objs) λx a=>adW (((bM m).1 h).2.2.2.2.1 x a);have b:=Ly h;rw[IV];omega
theorem aga{m:av}(h:bf m=eX):i0 (aM m)<=9:=by have a:=aaY h;have b:=gy h;have h3:=((bM m).1 h).2.2.2.1;omega
def cB(m:av)(offs:Int)(w:Pow)(ds:aE)(n:av):Int×av×Pow×aE:=
 if fH w offs then(14,m,w,ds)else if !bf n||decide (n.seq≠m.seq+1)then(1,m,w,ds)else
 let live:=aU ds n.drives;let N:Int->Int:=λ_=>(i0 (aM n):Int)
 if live=[]∨dR m ds live N=fz then(7,m,w,ds)else
 if(makes m N live w ds).1≠0 then((makes m N live w ds).1,m,(makes m N live w ds).2)else
 let a:=layAll (bI n live) (makes m N live w ds).2.1 (makes m N live w ds).2.2
 (a.1,if a.1=0 then n else m,a.2)
theorem iC{m:av}(h:bf m=eX):cF m:=by
 obtain⟨j,k,h3,i,c,g,f⟩:=(bM m).1 h;have n:=gy h;refine⟨i5,i5,λe b=>?_⟩;obtain⟨a,p,d,l,q⟩:=(fB m e).1 (c e b);have:=lX d.2;have o:e.name.size<=12:=by unfold kW at a;simp at a;omega
 omega
section
variable {pw:f8}
theorem Gj(x:bm)(m:av)(z:bm)(n:av)(hS:St B h0 As λh=>dh h z n)(hz:cF m)(j:cF n)(ar:-1<=m.seq/\m.seq<=2^40)
  (H:aa B h0 h (aY ba a pw (aA x) offs da w ds::bh x m::As)):
  an xP 77 #[xH (dB a),dz z] h λv h'=>v=xF xL (cB m offs w ds n).1/\
   ∃y,aa B h0 h' (aY ba a pw (aA y) offs da (cB m offs w ds n).2.2.1 (cB m offs w ds n).2.2.2::bh y (cB m offs w ds n).2.1::As):=by
 refine ts Tryz.func77 ?_ (.two .n (.two .n (.two (.join [] [(4,5),(11,25)] .n) (.two .n (.two .n (.two .n (.two (.join [] [(4,5),(34,44)] .n) .n))))))) (args:=[(dB a),z]);refine H.boxed λD L i=>(sa i).mono ?_;have i:=i.be;rintro _ L ⟨rfl,rfl⟩;have i:aa B h0 L (ac D 39 (aA z)::aY ba a pw (aA x) offs da w ds::bh x m::As):=i;have u:dh L z n:=hS.at [_,_,_] i;have ah:dh L x m:=i.at 2 i4;refine⟨_,i4,bo (λe=>?_) λe1=>?_⟩
 ·have G:cB m offs w ds n=(14,m,w,ds):=by unfold cB;rw[g9 e]
  rw[G];exact⟨i4,x,i.aO 3 [1,2]⟩
 refine aW ?_;refine⟨z,(i.box 0 i4).aF _ i4,(Cg z n L u j).mono ?_⟩;rintro _ h3 ⟨rfl,R3⟩;have E:=i.up R3.ae;have ab:=u.up R3.ae;have no:∀{h':g0},aa B h0 h' (ac D 39 (aA z)::aY ba a pw (aA x) offs da w ds::bh x m::As)->(bf n=fz∨n.seq≠m.seq+1)->(Value.int .i64 1=xF xL (cB m offs w ds n).1/\∃y,aa B h0 h' (aY ba a pw (aA y) offs da (cB m offs w ds n).2.2.1 (cB m offs w ds n).2.2.2::bh y (cB m offs w ds n).2.1::As)):=λ{h'} d hc=>by
  have G:cB m offs w ds n=(1,m,w,ds):=by
   unfold cB;rw[hU mM,g9];rcases hc with hc|hc
   ·rw[hc];rfl
   ·rw[hY hc,Bool.or_true]
  rw[G];exact⟨i4,x,d.aO 3 [1,2]⟩
 refine⟨_,i4,trivial,aR (λe=>no E (.inl e)) λS=>?_⟩;have I:=E.box 0 i4;have W:=(aa.cK (E.aO 2 [1,0])).2;refine⟨z.1,I.cell0 i4,a,i4,x.1,W.cell0 i4,?_⟩
 try dsimp only
 rw[u.seq,ah.seq,ai (m.seq+1)];refine bx (λe=>no E (.inr e)) λe3=>?_;refine⟨_,I.cell i4,?_⟩;have Z:=gy S;have X:∀k∈n.drives,0<=k/\k<64:=iQ S;refine(Is z.2.2.2.2.2.2.1 n.drives ab.drives i5 (E.aO 2 [1,0])).mono ?_;rintro _ h5 ⟨r,rfl,R5⟩;obtain⟨live,b⟩:∃live,live=aU ds n.drives:=⟨_,rfl⟩
 rw[<-b]at R5;have ao:i0 live<=64:=by rw[b];exact qT (qS _ _) Z
 have f:∀k∈live,0<=k/\k<64:=λk V=>by rw[b]at V;exact X k (qF.1 V).1
 have H5:=(E.cb R5).aO 4 [2,3,0,1];refine⟨r,i4,z,(H5.box 3 i4).aF _ i4,(lT z n h5 (hS.at [_,_,_,_] H5) j).mono ?_⟩;rintro _ h6 ⟨pg,rfl,R6⟩;have s:=(aa.uc R6).1;have F:=jI n j;obtain⟨p,K⟩:∃p,p=i0 (aM n):=⟨_,rfl⟩
 rw[<-K]at s F;have H6:=H5.up R6.ae;refine⟨pg,i4,H6.alloc aj i4 λc h7 Y=>?_⟩;have Y:=Y.be;refine Y.storeAll aj 0 i4 i4 [xF xL (pg.len:Int)] i4 i4 i4 i4 λh8 o=>?_;rw[s]at o;have o:aa B h0 h8 (aY ba a pw (aA x) offs da w ds::bh x m::ac c 3 [xF xL (p:Int)]::af 3 r 1 ak live::ac D 39 (aA z)::As):=o.aO 5 [1,2,0,3,4];obtain⟨T,q⟩:∃T,T=bh x m::ac c 3 [xF xL (p:Int)]::af 3 r 1 ak live::ac D 39 (aA z)::As:=⟨_,rfl⟩
 have tX:St B h0 T λh=>dh h x m:=by rw[q];exact St.eG 0 i4 λ_ t=>t
 have tN:St B h0 T λh=>bY h c 3 [xF xL (p:Int)]:=by rw[q];exact St.eG (A:=ac c 3 [xF xL (p:Int)]) 1 i4 λ_ t=>t.1
 have Q:St B h0 T λh=>Rd h r 1 ak live:=by rw[q];exact St.eG (A:=af 3 r 1 ak live) 2 i4 λ_ t=>t.1.seq (λ_=>rfl) t.2
 have tM:St B h0 T λh=>bY h D 39 (aA z):=by rw[q];exact St.eG (A:=ac D 39 (aA z)) 3 i4 λ_ t=>t.1
 have tY:St B h0 T λh=>dh h z n:=by rw[q];exact hS.cons.cons.cons.cons
 obtain⟨N,hN⟩:∃N:Int->Int,N=λ_=>(p:Int):=⟨_,rfl⟩
 have tT:St B h0 T λh=>MJ 127 #[] #[xH (dB c)] N live h:=λBs h' d k V=>by
  refine ts Tryz.func127 ?_ (args:=[(k:Int),c]);exact⟨(p:Int),(tN Bs h' d).cell0 i4,by rw[hN],Sp.refl h'⟩
 have fin:∀{h':g0} {U:Pow} {ds':aE},aa B h0 h' (aY ba a pw (aA x) offs da U ds'::T)->aa B h0 h' (aY ba a pw (aA x) offs da U ds'::bh x m::As):=λ{h' U ds'} d=>by
  rw[q]at d;exact d.aO 5 [0,1]
 rw[<-q]at o;have G:cB m offs w ds n=(if live=[]∨dR m ds live N=fz then(7,m,w,ds)else
   if(makes m N live w ds).1≠0 then((makes m N live w ds).1,m,(makes m N live w ds).2)else
   ((layAll (bI n live) (makes m N live w ds).2.1 (makes m N live w ds).2.2).1,if(layAll (bI n live) (makes m N live w ds).2.1 (makes m N live w ds).2.2).1=0 then n else m,(layAll (bI n live) (makes m N live w ds).2.1 (makes m N live w ds).2.2).2)):=by
  rw[hN,K,b];unfold cB;rw[hU mM,hU (by rw[S,hZ (by simpa using e3)];decide)]
 rw[G];have J:=(Q.at [_] o).len;refine aW (cH (λe=>?_) λe4=>?_)
 ·have:live=[]:=List.length_eq_zero_iff.1 i5;rw[g9 (.inl this)];exact⟨i4,x,fin o⟩
 have al:live≠[]:=λh=>e4 (by rw[J,h];rfl);refine(IE 127 #[] #[xH (dB c)] N x m r live lb (λBs h' d=>⟨tX Bs h' d,tT Bs h' d⟩) hz (Q.at [_] o) i5 f o).mono ?_;rintro _ h9 ⟨rfl,R9⟩;have H9:=o.up R9.ae;refine⟨_,i4,aR (λg=>?_) λg=>?_⟩
 ·rw[g9 (.inr g)];exact⟨i4,x,fin H9⟩
 rw[hU (by rintro(h|h);exact al h;rw[g]at h;cases h)];refine(IF 127 #[] #[xH (dB c)] N x m r live lb (λBs h' d=>⟨tX Bs h' d,tT Bs h' d,Q Bs h' d⟩) hz i5 f H9).mono ?_;rintro _ am ⟨rfl,l⟩;obtain⟨P,ad⟩:∃P,P=makes m N live w ds:=⟨_,rfl⟩
 rw[<-ad]at l⊢;refine⟨_,i4,bx (λR=>?_) λR=>?_⟩
 ·rw[g9 R];exact⟨i4,x,fin l⟩
 rw[hU (by simpa using R)];refine⟨z,(tM.at [_] l).aF _ i4,(IH x z n r live (λBs h' d=>⟨tY Bs h' d,Q Bs h' d⟩) j i5 f l).mono ?_⟩;rintro _ ap ⟨rfl,Q1,Q0⟩;refine⟨_,i4,i4,?_⟩;by_cases O:(layAll (bI n live) P.2.1 P.2.2).1=0
 ·obtain⟨y2,M⟩:=Q0 O;rw[g9 O];rw[q]at M;exact⟨y2,M.aO 6 [0,1]⟩
 ·rw[hU O];exact⟨x,fin (Q1 O)⟩
end
theorem agb{a:aB}(b:a≠[])(id:Nat):jh a id=a[id%i0 a]'(y7 _ (by cases a with|nil=>exact absurd rfl b|cons=>simp)):=by
 have d:0<i0 a:=by cases a with|nil=>exact absurd rfl b|cons=>simp
 have c:=y7 id d;unfold jh IJ;rw[hU (by rintro(h|h);exact b h;omega)];have e:((id:Int)%(i0 a:Int)).toNat=id%i0 a:=i5
 rw[e,qd,qc c];rfl
def Bj(a b c:Int):Int×Int×Int:=(1+a%6,1+b%3,1+c%9)
theorem US(a b c:Int)(h:g0):an xP 55 #[xF xL a,xF xL b,xF xL c] h λv h'=>v=jW (Bj a b c)/\Sp h h' []:=by
 refine ut a b c ?_;refine(Sp.refl h).alloc aj i4 λx f e=>?_;refine(cO a 6 f).mono ?_;rintro v g ⟨rfl,rfl⟩;refine⟨_,i4,(cO b 3 g).mono ?_⟩;rintro v h3 ⟨rfl,rfl⟩;refine⟨_,i4,(cO c 9 h3).mono ?_⟩;rintro v i ⟨rfl,rfl⟩;refine⟨_,i4,?_⟩
 try dsimp only
 rw[ai _,ai _,ai _];refine e.storeAll aj 0 i4 i4 [xF xL (1+a%6),xF xL (1+b%3),xF xL (1+c%9)] i4 i4 i4 i4 λj d=>?_;exact⟨Bj a b c,(d.box 0 i4).aF _ i4,i4,.zip d.ae⟩
theorem XV(a b c:Int):bJ (Bj a b c)=eX:=by
 rw[bT];unfold Bj
 try dsimp only
 omega
end Go.Qw
