/- Lemmas for the proof of the law; no condition. -/
import Derived.Test.YtcjnjifdphcijaaGreatDoorTKA
import Derived.Test.YtcjnjifdphcijaaGreatDoorTShelfB
import Derived.Test.YtcjnjifdphcijaaGreatDoorTPlB
set_option maxHeartbeats 2000000
set_option linter.unusedVariables false
set_option maxHeartbeats 2000000
set_option linter.unusedSimpArgs false
open Go.Proofs.Tryz renaming prog -> xJ
open Go.Value renaming agg -> xE, bool -> xD, int -> xz, pointer -> xB, slice -> xA, string -> xC
open Go.IntKind renaming bits -> qG, i64 -> xF, signed -> y9, u32 -> xH, u64 -> xI, u8 -> xG, wrap -> qe
open Nat renaming le_of_eq -> xi
open Int renaming tmod -> xq
open Bool renaming and_self -> xn
open List renaming all_cons -> xa, any_cons -> xp, any_nil -> xt, length -> vJ, pairwise_map -> vl, range -> qt, replicate -> qh, zipWith -> za
open Option renaming some -> zQ
open Go.Instr renaming storeAt -> qE
open Prod renaming fst -> qL, snd -> zH
set_option maxRecDepth 100000
open Option renaming some -> dB, none -> eH
open Bool renaming true -> eR, false -> eS
open Go renaming Addr -> f7
open Go.Qw renaming Heap -> f9
open List renaming length -> i0
namespace Go.Qw
open Go.Proofs
theorem YK{α:Type}{h:f9}{e:TypeId}{s:Sl}{k:Nat}{f:α->aR}{l:List α}(c:Own h e s k f l)(a:l≠[]):s.ptr.isNone=eS:=by
 rcases c.head with⟨_,_,h3⟩|⟨b,rest,h1,_⟩
 ·exact absurd h3 a
 ·rw[h1];rfl
theorem MX(p:Pm)(seed id:Int)(h:f9):ai xJ 253 #[jv p,xz xH seed,xz xF id] h λv h'=>∃r:Sl,v=r/\
  Sp h h' [an 5 r 1 aB (if bx p&&bJ id then mq (bu p).toNat seed id else[])]/\r.ptr.isNone=!(bx p&&bJ id):=by
 refine ts Tryz.func253 ?_ (.two .n (.two (.join [] [(6,7),(10,21)] .n) (.two .n (.two (.two .n (.inn (.loop [(29,aT)] [(9,10),(29,37)] .n))) .n)))) (args:=[p,(xz xH (seed:Int)),(id:Int)]);refine(Sp.refl h).boxed λa M F=>?_;refine aO ?_;refine⟨p,(F.box 0 i4).aE _ i4,(dO p M).mono ?_⟩;rintro v G ⟨rfl,Q⟩;have o:=F.comp Q;have u:(bx p&&bJ id)=eS->Sp h G [an 5 ⟨eH,0,0⟩ 1 aB (if bx p&&bJ id then mq (bu p).toNat seed id else[])]/\Option.isNone (eH:bK)=!(bx p&&bJ id):=λK=>by
  rw[K];exact⟨(o.nil 5 1 aB).take 1 (λi A g=>by cases i with|zero=>exact g|succ i=>simp at g),i4⟩
 refine⟨_,i4,aU (λe=>⟨⟨eH,0,0⟩,i4,u oi⟩) λl=>?_⟩;refine ae (λe=>⟨⟨eH,0,0⟩,i4,u l0⟩) λV=>?_;refine ae (λe=>⟨⟨eH,0,0⟩,i4,u l0⟩) λz=>?_;have hid:bJ id=eR:=l0
 refine⟨p,(o.box 0 i4).aE _ i4,(kb p G).mono ?_⟩;rintro v h3 ⟨rfl,I⟩;have R:=o.comp I;have L:=(bN p).1 l;have S:bu p=p.1+p.2.1:=by rw[bu,g0 l]
 obtain⟨n,D⟩:∃n:Nat,bu p=n:=⟨(bu p).toNat,i5⟩
 refine⟨_,i4,?_⟩
 try dsimp only
 rw[D];refine R.make ag aB gp i6 0 i4 i4 n n i4 i4 (qk _) i5 λv J X N H=>?_;refine⟨p,(H.box 0 i4).aE _ i4,(uM p seed id J).mono ?_⟩;rintro w T ⟨c,rfl,s⟩;rw[l,hid,D,qj]at s;rw[l,hid,qj];have t:=H.comp s;have j:=t.seq 2 i4 λ_=>rfl;have m:=j.len;obtain⟨d,b⟩:∃d,d=cW n seed id:=⟨_,rfl⟩
 have y:∀x∈d,0<=x/\x<(n:Int):=λx B=>mj i5 i5 (by rw[<-b];exact B);have E:i0 d<=n:=by rw[b];exact ux i5 i5 _ _
 simp only[xn,if_true,<-b]at t j m s;refine⟨c,i4,?_⟩;refine aq (λi:Nat=>(i:Int)) (λi h'=>i<=i0 d/\Sp h h' [av a 25 [xz xF p.1,xz xF p.2.1,xz xF p.2.2],an 5 v 1 aB (fW n (d.take i)),an 3 c 1 az d]) (λi=>i0 d-i) 0 i4 ⟨i5,t⟩ ?_;rintro i U ⟨g,k⟩;refine ae (λe=>?_) (λe=>?_)
 ·have f:i<i0 d:=i5
  have B:=y _ (qf f);refine(k.seq 2 i4 λ_=>rfl).bo i i4 f _ i4 ?_;refine k.set ag 1 i4 (λ_=>rfl) i4 d[i].toNat i5 (by rw[pq];omega) 1 i4 i4 i4 λW P=>?_;refine⟨i+1,j0,⟨i5,?_⟩,i5⟩;have z:fW n (d.take (i+1))=(fW n (d.take i)).set d[i].toNat 1:=by rw[aD _ _ f,fW,zK];rfl
  rw[z];exact P
 ·rw[qg i5]at k;have q:=(k.del 2).take 1 (λi A g=>by cases i with|zero=>exact g|succ i=>simp at g);refine⟨v,i4,?_,YK (q.own 0 i4) λO=>?_⟩
  ·rw[b]at q;exact q
  ·have:=pq n d;rw[O]at this;simp at this;omega
theorem rT(p:Pm)(h:f9):ai xJ 239 #[jv p] h λv h'=>∃r:Sl,v=r/\Sp h h' [gn 34 r 1 aB (if bx p then bn p.1.toNat p.2.1.toNat else[])]:=by
 refine ts Tryz.func239 ?_ (.two .n (.two .n (.two .n (.two .n (.two (.two .n (.inn (.loop [(4,cF),(14,aT)] [(4,8),(14,45)] (.two .n (.two .n (.two (.inn (.two .n (.two (.join [(6,cF)] [(6,7),(17,24)] .n) (.two (.two .n (.inn (.loop [(26,aT)] [(7,8),(26,40)] .n))) .n)))) .n)))))) .n))))) [(8,(.l [0,2,3,4,5,1,6,7]))] (args:=[p]);refine(Sp.refl h).boxed λa U F=>?_;refine⟨p,(F.box 0 i4).aE _ i4,(dO p U).mono ?_⟩;rintro v h2 ⟨rfl,R2⟩;have D:=F.comp R2;refine⟨_,i4,aU (λe=>⟨⟨eH,0,0⟩,i4,?_⟩) λx=>?_⟩
 ·rw[e];exact(D.GA 34 1 aB).take 1 (λi A c=>by cases i with|zero=>exact c|succ i=>simp at c)
 have R:=(bN p).1 x;have O:bu p=p.1+p.2.1:=by rw[bu,g0 x]
 obtain⟨K,S⟩:∃K:Nat,p.1=K:=⟨p.1.toNat,i5⟩
 obtain⟨b,hH⟩:∃H:Nat,p.2.1=H:=⟨p.2.1.toNat,i5⟩
 refine(oN h2).mono ?_;rintro v h3 ⟨f,rfl,I⟩;have E:=(D.comp I).GA 34 1 aB;refine⟨dB f,i4,_,(E.box 0 i4).cell i4,?_⟩;refine aq (λt:Sl×Nat=>(t.1,(t.2:Int))) (λt h'=>t.2<=b/\Sp h h' [av a 25 [xz xF p.1,xz xF p.2.1,xz xF p.2.2],av f 325 dG,gn 34 t.1 1 aB ((bn K b).take t.2)]) (λt=>b-t.2) (⟨eH,0,0⟩,0) i4 ⟨jj,E⟩ ?_;rintro⟨s,k⟩ N ⟨hk,m⟩;dsimp only at*;refine ae (λe=>?_) (λe=>?_)
 ·have X:k<b:=i5
  refine aO ⟨p,(m.box 0 i4).aE _ i4,p.1,(m.box 0 i4).cell0 i4,?_⟩;refine(kb p N).mono ?_;rintro v Q ⟨rfl,R5⟩;have G:=m.comp R5;refine⟨_,i4,⟨(G.box 0 i4).cell0 i4,trivial⟩,?_⟩
  try dsimp only
  rw[af (p.1+k),O];refine(VI _ _ Q).mono ?_;rintro v h6 ⟨u,rfl,y⟩;rw[g0 i5]at y;have T:(p.1+p.2.1).toNat=K+b:=i5
  have M:(p.1+(k:Int)).toNat=K+k:=i5
  rw[T,M]at y;have w:=G.comp y;refine⟨u,i4,⟨(w.box 0 i4).cell0 i4,trivial⟩,p.1,(w.box 0 i4).cell0 i4,?_⟩;let rowAt:Nat->aM:=λj=>(qt j).map (λi=>Gf.pw ((k+1)*(i+1)%255))++((qh (K+b) (0:UInt8)).set (K+k) 1).drop j;refine aq (λj:Nat=>(j:Int)) (λj h'=>j<=K/\Sp h h' [av a 25 [xz xF p.1,xz xF p.2.1,xz xF p.2.2],av f 325 dG,gn 34 s 1 aB ((bn K b).take k),an 5 u 1 aB (rowAt j)]) (λj=>K-j) 0 i4 ⟨i5,w⟩ ?_;rintro j V ⟨hj,o⟩;refine ae (λW=>?_) (λW=>?_)
  ·have d:j<K:=i5
   have hm:(k+1)*(j+1)<=4*16:=wi i5 i5;have Y:qe xF (qe xF ((k:Int)+1)*qe xF ((j:Int)+1))=(((k+1)*(j+1):Nat):Int):=by rw[af ((k:Int)+1),af ((j:Int)+1),show((k:Int)+1)*((j:Int)+1)=(((k+1)*(j+1):Nat):Int)by rw[wA];rfl];exact sh _
   rw[Y];refine(YJ f _ V (o.box 1 i4)).mono ?_;rintro v h8 ⟨rfl,rfl⟩;refine⟨_,i4,?_⟩;have B:i0 (rowAt j)=K+b:=by simp[rowAt];omega
   refine o.set ag 3 i4 (λ_=>rfl) i4 j i4 i5 _ i4 i4 i4 λP q=>?_;refine⟨j+1,j0,⟨i5,?_⟩,i5⟩;have z:(rowAt j).set j (Gf.pw ((((k+1)*(j+1):Nat):Int)%255).toNat)=rowAt (j+1):=by
    have Z:((((k+1)*(j+1):Nat):Int)%255).toNat=(k+1)*(j+1)%255:=i5
    rw[Z];simp only[rowAt];rw[qQ _ _ jj,qy,zA,qZ,qI i9,zh,zL,qT,qn];rfl
   rw[<-z];exact q
  ·have d:j=K:=i5
   subst d;have z:rowAt j=lx j b k:=by
    simp only[rowAt,lx];congr 1;apply zy;intro i;rw[wO,qV,qO];by_cases c:i<b
    ·rw[zn c,qS,wk];by_cases g:i=k
     ·subst g;simp[c]
     ·rw[g9 i5,g0 i5,g9 g]
    ·rw[qM (l:=qt b) i9,g9 i5,wk,g9 i5];rfl
   rw[z]at o;have J:=o.freeze 3 i4 λ_=>rfl;have ab:i0 ((bn j b).take k)=k:=by simp[bn];omega
   refine J.sK ag 2 3 i6 i4 i4 fu i5 λs' P q=>?_;refine⟨(s',k+1),js,⟨i7,?_⟩,i7⟩;have L:(bn j b).take (k+1)=(bn j b).take k++[lx j b k]:=by rw[aD _ _ (by simp[bn];omega)];simp[bn]
   try dsimp only
   rw[L];exact q.del 3
 ·refine⟨s,i4,?_⟩;rw[g0 x,S,hH,qj,qj];rw[qg (by simp[bn];omega)]at m;exact m.take 2 (λi A c=>by cases i with|zero=>exact c|succ i=>simp at c)
theorem Hm(p:Pm)(h:f9):ai xJ 197 #[jv p] h λv h'=>∃r:Sl,v=r/\Sp h h' [an 3 r 1 az (upto (max 0 (min p.1 16)).toNat)]:=by
 refine ts Tryz.func197 ?_ (.two .n (.two .n (.two (.two .n (.inn (.loop [(3,cF),(9,aT)] [(3,5),(9,17)] .n))) .n))) (args:=[p]);refine(Sp.refl h).boxed λa o f=>?_;refine⟨p.1,(f.box 0 i4).cell0 i4,?_⟩;have em:(if(if(16:Int)<p.1 then(16:Int)else p.1)>(0:Int)then(if(16:Int)<p.1 then(16:Int)else p.1)else(0:Int))=((max 0 (min p.1 16)).toNat:Int):=by split<;>split<;>omega
 try dsimp only
 rw[em];generalize m:(max 0 (min p.1 16)).toNat=N;have b:N<=16:=i5
 refine aq (λt:Sl×Nat=>(t.1,(t.2:Int))) (λt h'=>t.2<=N/\Sp h h' [emp,an 3 t.1 1 az (upto t.2)]) (λt=>N-t.2) (⟨eH,0,0⟩,0) i4 ⟨jj,(f.fM 0 i4 λ_ _=>trivial).nil 3 1 az⟩ ?_;rintro⟨s,k⟩ u ⟨q,c⟩;dsimp only at*;refine ae (λe=>?_) (λe=>?_)
 ·refine c.push ag 1 i4 gy i4 i6 (λ_=>rfl) fx (k:Int) i4 i6 rc λj h3 l=>?_;refine⟨(j,k+1),js,⟨i7,?_⟩,i7⟩;have g:upto (k+1)=upto k++[(k:Int)]:=by simp[upto,zL]
  dsimp only;rw[g];exact l
 ·have:k=N:=i5
  subst this;exact⟨s,i4,c.take 1 λi A d=>by cases i with|zero=>exact d|succ i=>simp at d⟩
theorem EU(p:Pm)(seed:Int)(ids:Sl)(l:au)(h:f9)(D:Rd h ids 1 az l)(F:i0 l<=2^30):ai xJ 196 #[jv p,xz xH seed,ids] h λv h'=>∃r:Sl,v=r/\Sp h h' [gn 34 r 1 aB (dE p seed l)]:=by
 refine ts Tryz.func196 ?_ (.two .n (.two .n (.two (.two .n (.inn (.loop [(7,cF),(15,aT)] [(7,8),(9,11),(15,30)] .n))) .n))) (args:=[p,(xz xH (seed:Int)),ids]);refine(Sp.refl h).boxed λa y E=>?_;refine⟨p,(E.box 0 i4).aE _ i4,(rT p y).mono ?_⟩;rintro v K ⟨r,rfl,I⟩;have z:=E.comp I;refine⟨r,i4,?_⟩;have x:=D.len;let at_:Nat->bY:=λk=>dE p seed (l.take k);have h0:(if bx p then bn p.1.toNat p.2.1.toNat else[])=at_ 0:=by simp[at_,dE]
 rw[h0]at z;refine aq (λt:Sl×Nat=>(t.1,(t.2:Int))) (λt h'=>t.2<=i0 l/\Sp h h' [av a 25 [xz xF p.1,xz xF p.2.1,xz xF p.2.2],gn 34 t.1 1 aB (at_ t.2)]) (λt=>i0 l-t.2) (r,0) i4 ⟨jj,z⟩ ?_;rintro⟨s,k⟩ h3 ⟨O,m⟩;dsimp only at*;refine ae (λe=>?_) (λe=>?_)
 ·have d:k<i0 l:=i5
  refine(Seq.up D m.ac).bo k i4 d _ i4 ?_;refine⟨p,(m.box 0 i4).aE _ i4,(MX p seed l[k] h3).mono ?_⟩;rintro v M ⟨w,rfl,H,c⟩;have u:=(m.comp H).freeze 2 i4 λ_=>rfl;refine⟨w,i4,?_⟩;have q:i0 (at_ k)<=4+k∨at_ k=[]:=by
   by_cases o:bx p
   ·left;have:=(bN p).1 o;have y:=qJ bJ (l.take k);have K:=List.length_take_le k l;simp only[at_,dE,o,if_true,qp,qy,bn,zA];omega
   ·right;simp[at_,dE,o]
  have j:i0 (at_ k)+1<=2^32:=by
   rcases q with h|h
   ·omega
   ·rw[h];simp
  try dsimp only
  refine aU (λf=>?_) (λf=>?_)
  ·rw[c]at f;have b:(bx p&&bJ l[k])=eR:=o7
   rw[b,g0 rfl]at u;refine u.sK ag 1 2 i6 i4 i4 fu j λJ N L=>?_;refine⟨(J,k+1),js,⟨i7,?_⟩,i7⟩;rw[qu]at b;have g:at_ (k+1)=at_ k++[mq (bu p).toNat seed l[k]]:=by simp only[at_,dE,b.1,if_true];rw[nC d,g0 b.2,qT,qn];rfl
   try dsimp only
   rw[g];exact L.del 2
  ·rw[c]at f;have b:(bx p&&bJ l[k])=eS:=by
    cases hh:(bx p&&bJ l[k])with
    |false=>rfl
    |true=>rw[hh]at f;cases f
   refine⟨(s,k+1),js,⟨i7,?_⟩,i7⟩;have g:at_ (k+1)=at_ k:=by
    simp only[at_,dE];rw[Bool.and_eq_false_iff]at b;rcases b with h|h
    ·simp[h]
    ·have G:(l.take (k+1)).filter bJ=(l.take k).filter bJ:=by rw[nC d,g9 sL]
     rw[G]
   try dsimp only
   rw[g];exact u.del 2
 ·refine⟨s,i4,?_⟩;have g:at_ k=dE p seed l:=by simp only[at_];rw[qg i5]
  rw[g]at m;exact m.take 1 (λi A B=>by cases i with|zero=>exact B|succ i=>simp at B)
theorem mA(a:Sl)(m:aI)(n:Nat)(h:f9)(d:fA h a 1 aB m)(i:aQ n m)(o:n<=64:=by omega)(q:i0 m<=2^30:=by omega):ai xJ 245 #[a] h λv h'=>v=xD eR/\h'=h:=by
 refine ts Tryz.func245 ?_ (.two .n (.two (.two .n (.inn (.loop [(7,aT)] [(2,3),(4,5),(7,24)] .n))) .n));have s:=d.len;refine aq (λk:Nat=>(k:Int)) (λk h'=>h'=h/\k<=i0 m) (λk=>i0 m-k) 0 i4 ⟨i4,i5⟩ ?_;rintro k h' ⟨rfl,p⟩;refine ae (λe=>?_) λe=>⟨i4,i4⟩;have b:k<i0 m:=i5
 refine d.get k i4 b λr f=>?_;refine d.get 0 i4 i5 λl c=>?_;have g:=f.len;have j:=c.len;rw[i _ (qf _)]at g j;refine bz (λe=>i5) λ_=>ae (λe=>i5) λ_=>?_;exact⟨k+1,j0,⟨i4,i5⟩,i5⟩
theorem tU(a:Sl)(m:aI)(n:Nat)(h:f9)(d:fA h a 1 aB m)(k:aQ n m)(A:n<=64:=by omega)(E:i0 m<=2^30:=by omega):ai xJ 247 #[a] h λv h'=>∃(r:Sl) (rs:List Sl),v=r/\rs.length=i0 m/\Sp h h' (an 34 r 1 bi rs::bt 5 1 aB rs m):=by
 refine ts Tryz.func247 ?_ (.two .n (.two .n (.two (.two .n (.inn (.loop [(3,cF),(11,aT)] [(3,4),(5,6),(11,21)] .n))) .n)));have F:=d.len;refine(Sp.refl h).make ag bi fu i6 ⟨eH,0,0⟩ i4 i4 0 m.length i4 i5 i5 i5 λs B o y q=>?_;refine aq (λt:Sl×List Sl=>(t.1,(i0 t.2:Int))) (λt h'=>i0 t.2<=i0 m/\Sp h h' (an 34 t.1 1 bi t.2::bt 5 1 aB t.2 (m.take t.2.length))) (λt=>i0 m-i0 t.2) (s,[]) i4 ⟨jj,by simpa[bt]using q⟩ ?_;rintro⟨s,rs⟩ u ⟨D,c⟩;dsimp only at*;refine ae (λe=>?_) (λe=>?_)
 ·have b:i0 rs<i0 m:=i5
  refine(d.up c.ac).get rs.length i4 b λr j=>?_;have i:m[i0 rs].length=n:=k _ (qf _);refine(eK r _ u j i5).mono ?_;rintro v h3 ⟨w,rfl,f⟩;have p:=c.comp f;refine⟨w,i4,?_⟩;refine p.push ag 0 i4 fu i4 i6 (λ_=>rfl) jG w i4 i6 i5 λl z x=>?_;refine⟨(l,rs++[w]),by dsimp only;rw[af _];simp,⟨i9,?_⟩,i9⟩
  try dsimp only
  rw[show(rs++[w]).length=i0 rs+1 by simp,aD _ _ b,ta (by rw[List.length_take];omega)];exact x
 ·have g:m.take rs.length=m:=qg i5;rw[g]at c;exact⟨s,rs,i4,i5,c⟩
theorem pG(a:Sl)(m:aI)(h:f9)(b:fA h a 1 aB m):ai xJ 246 #[a] h λv h'=>v=xz xF (eC m)/\h'=h:=by
 refine ts Tryz.func246 ?_;have d:=b.len;refine bf (λe=>?_) (λe=>?_)
 ·have:m=[]:=qW i5;subst this;exact⟨i4,i4⟩
 ·refine b.get 0 i4 i5 λr c=>⟨?_,i4⟩
  rw[c.len,eC,bm i5]
theorem MY{r:Row}{c:Nat}(h:c<i0 r:=by omega):aJ r c=r[c]:=by rw[aJ,qd,qc h];rfl
theorem OY(a:Sl)(m:aI)(n b bj:Nat)(h:f9)(q:fA h a 1 aB m)(w:aQ n m)(x:bj<n)(y:i0 m<=2^30):
  ai xJ 305 #[a,xz xF b,xz xF bj] h λv h'=>v=xz xF (match iM m b bj with|some i=>(i:Int)|none=>-1)/\h'=h:=by
 refine ts Tryz.func305 ?_ (.two .n (.scope 0 [(7,aT)] [(6,8),(9,24)] [.n] [.n] [(1,[.n])]));have z:=q.len;refine aq (λk:Nat=>(k:Int)) (λk h'=>h'=h/\b<=k/\k<=max b m.length/\∀j,j<k->(decide (b<=j)&&(aJ (aA m j) bj !=0))=eS) (λk=>i0 m-k) b i4 ⟨i4,i5,i5,λj g=>by rw[hZ i5];rfl⟩ ?_;rintro k h' ⟨rfl,p,u,g⟩;refine ae (λe=>?_) (λe=>?_)
 ·rw[iM,RU λj f=>g j i5];exact⟨i4,i4⟩
 ·have d:k<i0 m:=i5
  have s:m[k].length=n:=w _ (qf _);refine q.get k i4 d λr t=>?_;refine t.bo bj i4 i5 _ i4 ?_;have c:aJ (aA m k) bj=m[k][bj]'(by omega):=by rw[bm d,MY]
  refine bz (λl=>?_) (λl=>?_)
  ·have o:(decide (b<=k)&&(aJ (aA m k) bj !=0))=eR:=by rw[hU p,c];simp;exactλh0=>l (by rw[h0];rfl)
   rw[iM,RV d g o];exact⟨i4,i4⟩
  ·refine⟨k+1,j0,⟨i4,i5,i5,λj f=>?_⟩,i5⟩;rcases Nat.lt_succ_iff_lt_or_eq.1 f with h1|rfl
   ·exact g j h1
   ·rw[c,ww.1 l];simp
theorem Hn(f:f7)(c:UInt8)(a:Sl)(l:Row)(h:f9)(i:fG h f)(m:Rd h a 1 aB l)(z:i0 l<=2^30):ai xJ 306 #[xB (dB f),xz xG c.toNat,a] h λv h'=>∃r:Sl,v=r/\Sp h h' [an 5 r 1 aB (scaleB c l)]:=by
 refine ts Tryz.func306 ?_ (.two .n (.two .n (.two .n (.two (.two .n (.inn (.loop [(17,aT)] [(8,10),(17,30)] .n))) .n))));have A:=m.len;refine(KL f h).mono ?_;rintro v j ⟨rfl,rfl⟩;refine⟨dB f,i4,?_⟩;refine(Sp.refl j).make ag aB gp i6 0 i4 i4 l.length l.length i5 i5 (qk _) i5 λs B q u p=>?_;refine aq (λk:Nat=>(k:Int)) (λk h'=>k<=i0 l/\Sp j h' [an 5 s 1 aB ((l.take k).map (Gf.mul c)++qh (i0 l-k) 0)]) (λk=>i0 l-k) 0 i4 ⟨i5,sb⟩ ?_;rintro k h3 ⟨y,d⟩;refine ae (λe=>?_) (λe=>?_)
 ·have b:k<i0 l:=i5
  refine(Seq.up m d.ac).bo k i4 b _ i4 ?_;refine(FR f c l[k] h3 (i.ac d.ac i.lt)).mono ?_;rintro v w ⟨rfl,rfl⟩;refine⟨_,i4,?_⟩;refine d.set ag 0 i4 (λ_=>rfl) i4 k i4 i9 _ i4 i4 i4 λx t=>?_;refine⟨k+1,j0,⟨i5,?_⟩,i5⟩;have g:i0 ((l.take k).map (Gf.mul c))=k:=i9
  have o:((l.take k).map (Gf.mul c)++qh (i0 l-k) 0).set k (Gf.mul c l[k])=(l.take (k+1)).map (Gf.mul c)++qh (i0 l-(k+1)) 0:=by rw[qQ _ _ i5,g,qZ,show l.length-k=i0 l-(k+1)+1 by omega,List.replicate_succ,zh,aD _ _ b,qT,qn];rfl
  rw[<-o];exact t
 ·have:k=i0 l:=i5
  subst this;refine⟨s,i4,?_⟩;rw[qg (qk _),qZ,List.replicate_zero,qH]at d;exact d
theorem tV{c:UInt8}{a t:Row}(d:i0 a=i0 t){k:Nat}(b:k<i0 t):(za (λx y=>y^^^Gf.mul c x) (a.take k) (t.take k)++t.drop k).set k (t[k]^^^Gf.mul c (a[k]'(by omega)))=za (λx y=>y^^^Gf.mul c x) (a.take (k+1)) (t.take (k+1))++t.drop (k+1):=by
 have e:i0 (za (λx y=>y^^^Gf.mul c x) (a.take k) (t.take k))=k:=i9
 rw[qQ _ _ i5,e,qZ,qI b,zh,aD _ _ b,aD _ _ (show k<i0 a by omega),yF i9];simp
theorem YL(f:f7)(c:UInt8)(a l:Sl)(d lt:Row)(h:f9)(G:fG h f)(t:¬l.on f.block)(D:Seq h (λb=>¬l.on b) a 1 aB d)(s:Own h 5 l 1 aB lt)(o:i0 d=i0 lt)(K:i0 d<=2^30):
  ai xJ 308 #[xB (dB f),xz xG c.toNat,a,l] h λv h'=>v=.tuple #[]/\Own h' 5 l 1 aB (cK c d lt)/\aP (λb=>¬l.on b) h h':=by
 refine ts Tryz.func308 ?_ (.two .n (.two .n (.inn (.loop [(14,aT)] [(8,10),(14,30)] .n))));have L:=D.len;have E:=s.len;refine bf (λe=>?_) (λ_=>?_)
 ·have F:c=0:=ww.1 e;subst F;have:cK 0 d lt=lt:=by apply List.ext_getElem (by rw[bM o]);intro i B I;simp[cK,Gf.zero_mul]
  exact⟨i4,by rw[this];exact s,aP.refl _ _⟩
 ·refine aq (λk:Nat=>(k:Int)) (λk h'=>k<=i0 d/\Own h' 5 l 1 aB (za (λx y=>y^^^Gf.mul c x) (d.take k) (lt.take k)++lt.drop k)/\aP (λb=>¬l.on b) h h') (λk=>i0 d-k) 0 i4 ⟨i5,by simpa using s,aP.refl _ _⟩ ?_;rintro k B ⟨J,g,j⟩;refine ae (λe=>?_) (λe=>?_)
  ·have z:k<i0 d:=i5
   have u:k<i0 lt:=i5
   have r:i0 (za (λx y=>y^^^Gf.mul c x) (d.take k) (lt.take k))=k:=i9
   have H:i0 (za (λx y=>y^^^Gf.mul c x) (d.take k) (lt.take k)++lt.drop k)=i0 lt:=by rw[qp,r,List.length_drop];omega
   refine(D.ac j).bo k i4 z _ i4 ?_;have q:(za (λx y=>y^^^Gf.mul c x) (d.take k) (lt.take k)++lt.drop k)[k]'(by omega)=lt[k]:=by rw[List.getElem_append_right i5];simp[r]
   refine(g.seq (p:=λ_=>True) (λ_=>rfl) λ_ _=>trivial).Le k i4 i5 _ i4 λax m=>?_;rw[q]at m⊢;refine(FR f c d[k] B (G.ac j t)).mono ?_;rintro v I ⟨rfl,rfl⟩;refine⟨_,i4,⟨m,trivial⟩,?_⟩
   try dsimp only
   rw[mz];refine g.set ag (λ_=>rfl) i4 k i4 i5 _ i4 i4 i4 λh3 A w _=>⟨trivial,?_⟩
   refine⟨k+1,j0,⟨i5,?_,j.trans w⟩,i5⟩;rw[<-tV o u];exact A
  ·have:k=i0 d:=i5
   subst this;rw[qg (qk _),qg i5,q8 i5,qH]at g;exact⟨i4,g,j⟩
abbrev mZ(a:Sl)(rs:List Sl)(m:aI):List HP:=an 34 a 1 bi rs::bt 5 1 aB rs m
theorem nX{a:Sl}{rs:List Sl}{m:aI}(c:i0 rs=i0 m)(i:Nat)(b:i<i0 m):(mZ a rs m)[i+1]?=dB (an 5 (rs[i]'(by omega)) 1 aB m[i]):=by rw[qq];exact fU c i b
theorem nY{h h':f9}{a:f7}{v:Value}(c:cellOf h a=dB v)(d:aP (λb=>b<h.size) h h'):cellOf h' a=dB v:=d.cell (sf c) c
theorem VM{B:ak}{G:f9}{f:f7}(O:fG G f)(I:B f.block){a:Sl}{n c bj:Nat}{rs:List Sl}{m:aI}(hl:i0 rs=i0 m)(hm:aQ n m)(hc:bj<n)(hn:n<=64)(U:c<i0 m)(hs:i0 m<=2^30)
  {h:f9} (H:aa B G h (mZ a rs m)) {K:f9->Prop} (hk:∀h',aa B G h' (mZ a rs (eZ c bj m m.length))->K h'):
 gm (σ:=Int) (λd Y i=>
 Br (decide (d<((a.len:Nat):Int)))
 (Br (d !=(c:Int))
 (∃x:f7,(a.ptr=dB x/\0<=d/\d<((a.len:Nat):Int))/\
 ∃g:Sl,cellOf i (x.add (d.toNat*1))=dB (xA g.ptr g.len g.cap)/\
 ∃E:f7,(g.ptr=dB E/\0<=(bj:Int)/\(bj:Int)<((g.len:Nat):Int))/\
 ∃J:Int,cellOf i (E.add ((bj:Int).toNat*1))=dB (xz xG J)/\
 ∃a25:f7,(a.ptr=dB a25/\0<=(c:Int)/\(c:Int)<((a.len:Nat):Int))/\
 ∃l:Sl,cellOf i (a25.add ((c:Int).toNat*1))=dB (xA l.ptr l.len l.cap)/\
 ∃F:f7,(a.ptr=dB F/\0<=d/\d<((a.len:Nat):Int))/\
 ∃j:Sl,cellOf i (F.add (d.toNat*1))=dB (xA j.ptr j.len j.cap)/\
 ol xJ 308 #[(xB (dB f)),(xz xG J),(xA l.ptr l.len l.cap),(xA j.ptr j.len j.cap)] (.many []) i λ_ y=>
 (bH.ok [(x.add (d.toNat*1),(xA g.ptr g.len g.cap))] y)/\
 Y (qe xF (d+(1:Int))) y)
 (Y (qe xF (d+(1:Int))) i))
 (K i)) (0:Int) h:=by
 have ad:a.len=i0 m:=by rw[(H.own 0 i4).len,hl]
 refine aq (λk:Nat=>(k:Int)) (λk h'=>k<=i0 m/\aa B G h' (mZ a rs (eZ c bj m k))) (λk=>i0 m-k) 0 i4 ⟨i5,by rw[Uz];exact H⟩ ?_;rintro k X ⟨ab,o⟩;have M:=nE c bj m k;have s:i0 rs=i0 (eZ c bj m k):=by rw[M];exact hl
 refine ae (λe=>?_) (λe=>?_)
 ·have w:k<i0 m:=i5
  refine bz (λV=>?_) (λV=>?_)
  ·have t:k≠c:=λhh=>V (by rw[hh]);have L:aA (eZ c bj m k) k=aA m k:=by rw[pr w,g9 i5]
   have Q:aA (eZ c bj m k) c=aA m c:=by rw[pr U,g9 i5]
   have e4:(eZ c bj m k)[k]'(by omega)=aA m k:=by rw[<-L,bm]
   have e5:(eZ c bj m k)[c]'(by omega)=aA m c:=by rw[<-Q,bm]
   have u:=nX (a:=a) s k i5;have W:=nX (a:=a) s c i5;rw[e4]at u;rw[e5]at W;have lk:=ce hm w;have lt:=ce hm U;have q:=o.off (k+1) 0 i5 u i4;have r:=q.1.seq (λ_=>rfl) q.2;refine r.mY k i4 i5 λa1 S T=>?_;have P:=o.seq (k+1) u λ_=>rfl;refine P.bo bj i4 i5 _ i4 ?_;refine r.mY c i4 i5 λ_ _ _=>?_;refine r.mY k i4 i5 λ_ _ _=>?_;have z:(pm (rs[c]'(by omega)) 1 aB (aA m c)).p X (λb=>¬(rs[k]'(by omega)).on b):=by have:=o.off (k+1) (c+1) i5 u W;exact(this.1.seq (λ_=>rfl) this.2).mono λb hb=>hb.2
   refine(YL f _ _ _ (aA m c) (aA m k) X (O.ac o.ac I) (o.base (k+1) u I) z (o.own (k+1) u) i5 i5).mono ?_;rintro v h2 ⟨rfl,N,D⟩;have Z:=o.mK (k+1) u D N;have R:=D.cell T.2 S;refine⟨(),i4,⟨R,trivial⟩,?_⟩;refine⟨k+1,j0,⟨i5,?_⟩,i5⟩;rw[UA w t];show aa B G h2 (an 34 a 1 bi rs::bt 5 1 aB rs ((eZ c bj m k).set k _));rw[<-LP s k i5];have A:(aA m k)[bj]'(by omega)=aJ (aA m k) bj:=(MY).symm;rw[A]at Z;exact Z
  ·have t:k=c:=i5
   subst t;exact⟨k+1,j0,⟨i5,by rw[UB];exact o⟩,i5⟩
 ·have:k=i0 m:=i5
  subst this;exact hk _ o
theorem MZ{rs:List Sl}{m:aI}(a:i0 rs=i0 m)(i j:Nat)(b:i<i0 m)(c:j<i0 m):
  ((bt 5 1 aB rs m).set i (an 5 (rs[j]'(by omega)) 1 aB m[j])).set j (an 5 (rs[i]'(by omega)) 1 aB m[i])=bt 5 1 aB ((rs.set i (rs[j]'(by omega))).set j (rs[i]'(by omega))) (jc m i j):=by
 rw[kz a,kz j9,jc,bm b,bm c]
theorem wX{B:ak}{x:f9}{f:f7}(V:fG x f)(R:B f.block){a:Sl}{n cM:Nat}{rs:List Sl}{m:aI}(hl:i0 rs=i0 m)(hm:aQ n m)(hc:cM<=n)(hn:n<=64)(hs:i0 m<=2^30)
  {h:f9} (H:aa B x h (mZ a rs m)):ai xJ 248 #[xB (dB f),a,xz xF cM] h λv h'=>
   ∃S:List Sl,v=xz xF (bA m cM).1/\S.length=i0 m/\aa B x h' (mZ a S (bA m cM).2):=by
 have ao:a.len=i0 m:=by rw[(H.own 0 i4).len,hl]
 refine ts Tryz.func248 ?_ (.two .n (.two .n (.two (.two .n (.inn (.loop [(7,aT),(12,aT)] [(7,11),(12,82)] (.two .n (.two .n (.two (.inn (.two .n (.two .n (.two .n (.two (.join [] [(21,35)] .n) (.two (.join [] [(35,53)] .n) (.two (.two .n (.inn (.loop [(55,aT)] [(10,11),(55,79)] .n))) .n))))))) .n)))))) .n))) [(8,(.l [0,1,2,3,4,5,6,7,8,9,10,12,13,14,15,11,16,17,18]))];refine aq (λt:List Sl×Nat=>(((bA m t.2).1:Int),(t.2:Int))) (λt h'=>t.2<=cM/\t.1.length=i0 m/\aa B x h' (mZ a t.1 (bA m t.2).2)) (λt=>cM-t.2) (rs,0) i4 ⟨jj,hl,H⟩ ?_;rintro⟨c,bj⟩ h1 ⟨hk,U,L⟩;dsimp only at*;have w:=gI hm bj;have E:=AL m bj;obtain⟨st,u⟩:∃st,st=bA m bj:=⟨_,rfl⟩
 rw[<-u]at w E L⊢;obtain⟨b,o⟩:=st;dsimp only at w E L⊢;have z:i0 c=i0 o:=i5
 have d:bA m (bj+1)=jd (b,o) bj:=by rw[bA,<-u]
 refine ae (λe=>?_) (λe=>?_)
 ·have M:bj<n:=i5
  have Q:fA h1 a 1 aB o:=L.LQ z λ_=>rfl;refine(OY a o n b bj h1 Q w.1 M i5).mono ?_;rintro v h2 ⟨rfl,rfl⟩;refine⟨_,i4,?_⟩
  try dsimp only
  cases hb:iM o b bj with
  |none=>
   refine ae (λ_=>?_) λZ=>absurd i6 Z;refine⟨(c,bj+1),?_,⟨i7,U,?_⟩,i7⟩
   ·(try dsimp only);rw[d,jd,hb,af _];rfl
   ·(try dsimp only);rw[d,jd,hb];exact L
  |some i=>
   have hh:=pT hb;refine ae (λZ=>absurd (show((i:Nat):Int)<0 from Z) i5) (λ_=>?_)
   try dsimp only
   have K:b<i0 o:=i5
   have Y:=hh.2.1;have O:=L.seq 0 i4 λ_=>rfl;refine aO ?_;refine O.mY i i4 i5 λ_ _ _=>?_;refine O.mY b i4 i5 λ_ _ _=>?_;refine L.set ag 0 i4 (λ_=>rfl) i4 b i4 i5 (c[i]'(by omega)) i4 i4 i4 λh3 H3=>⟨trivial,?_⟩
   refine H3.set ag 0 i4 (λ_=>rfl) i4 i i4 i9 (c[b]'(by omega)) i4 i4 i4 λX H4=>⟨trivial,?_⟩
   have p:aa B x X (mZ a ((c.set b (c[i]'(by omega))).set i (c[b]'(by omega))) (jc o b i)):=by have:=H4.aai (b+1) (i+1) (A:=an 5 (c[b]'(by omega)) 1 aB o[b]) (A2:=an 5 (c[i]'(by omega)) 1 aB o[i]) (fU z b K) (fU z i Y);show aa B x X (an 34 a 1 bi _::bt 5 1 aB _ _);rw[<-MZ z b i K Y];exact this
   obtain⟨j,G⟩:∃j,j=(c.set b (c[i]'(by omega))).set i (c[b]'(by omega)):=⟨_,rfl⟩
   rw[<-G]at p;have ap:i0 j=i0 o:=by rw[G];simp;omega
   obtain⟨g,y⟩:∃g,g=jc o b i:=⟨_,rfl⟩
   have I:aQ n g:=by rw[y];exact Cw w.1 K Y
   have P:i0 g=i0 o:=by rw[y];exact li _ _ _
   rw[<-y]at p;have q:i0 j=i0 g:=i5
   have k:b<i0 g:=i5
   refine aO ?_;have gt:=nX (a:=a) q b k;have lt:g[b].length=n:=I _ (qf _);have T:=p.seq 0 i4 λ_=>rfl;refine T.mY b i4 i5 λam D _=>?_;have F:=p.seq (b+1) gt λ_=>rfl;refine F.bo bj i4 i5 _ i4 ?_;refine T.mY b i4 i5 λal N _=>?_;have W:fG X f:=V.ac p.ac R;refine(YI f _ X W).mono ?_;rintro v h5 ⟨rfl,rfl⟩;refine⟨_,i4,⟨N,D,trivial⟩,?_⟩;refine(Hn f _ _ _ h5 W F i5).mono ?_;rintro v h6 ⟨r,rfl,R6⟩;refine⟨r,i4,⟨nY D R6.ac,trivial⟩,?_⟩;have H6:=p.comp R6
   try dsimp only
   refine H6.set ag 0 i4 (λ_=>rfl) i4 b i4 i5 r i4 i4 i4 λh7 H7=>⟨trivial,?_⟩
   have ad:g[b]=aA g b:=(bm k).symm;have ah:(g[b])[bj]'(by omega)=aJ (aA g b) bj:=by rw[MY (by rw[bm k];omega)];simp only[bm k]
   have ab:aa B x h7 (mZ a (j.set b r) (jR b bj g)):=by have h8:aa B x h7 ((an 34 a 1 bi (j.set b r)::bt 5 1 aB j g)++[an 5 r 1 aB (scaleB (Gf.inv ((g[b])[bj]'(by omega))) g[b])]):=H7;have h9:=h8.acW (b+1) (by simp[lQ q];omega);rw[ah,ad]at h9;show aa B x h7 (an 34 a 1 bi _::bt 5 1 aB _ (g.set b _));rw[<-kz q];exact h9
   have J:i0 (jR b bj g)=i0 g:=nD _ _ _;refine VM V R i9 (uy I k) M hn i5 i5 ab λh8 H8=>?_;have s:jd (b,o) bj=(b+1,eZ b bj (jR b bj g) o.length):=by rw[jd];(try dsimp only);rw[hb,y]
   refine⟨(j.set b r,bj+1),?_,⟨i7,i9,?_⟩,i7⟩
   ·(try dsimp only);rw[d,s,af _,af _];rfl
   ·(try dsimp only);rw[d,s];rw[J,P]at H8;exact H8
 ·have:bj=cM:=i5
  subst this;exact⟨c,by rw[<-u],U,by rw[<-u];exact L⟩
theorem EV(f:f7)(a:Sl)(m:aI)(n:Nat)(h:f9)(u:fG h f)(z:fA h a 1 aB m)(i:aQ n m)(j:n<=64)(k:i0 m<=2^30):
  ai xJ 295 #[xB (dB f),a] h λv h'=>∃(r:Sl) (rs:List Sl),v=r/\r.len=bL m/\rs.length=i0 m/\r.len<=i0 m/\Sp h h' (mZ ⟨r.ptr,i0 m,r.cap⟩ rs (bA m (eC m)).2):=by
 refine ts Tryz.func295 ?_;refine(mA a m n h z i j k).mono ?_;rintro v B ⟨rfl,rfl⟩;refine⟨_,i4,aU (λe=>j1) λ_=>?_⟩;refine(tU a m n B z i j k).mono ?_;rintro v D ⟨r,rs,rfl,y,w⟩;refine⟨r,i4,(rS f D).mono ?_⟩;rintro v h3 ⟨rfl,rfl⟩;refine⟨dB f,i4,(pG r m h3 (w.LQ y λ_=>rfl)).mono ?_⟩;rintro v E ⟨rfl,rfl⟩;have A:eC m<=n:=by
  cases m with
  |nil=>simp[eC,aA]
  |cons x t=>rw[eC,bm jj];exact xi (i _ jj)
 refine⟨_,i4,(wX u u.lt y i A j k w).mono ?_⟩;rintro v F ⟨q,rfl,g,o⟩;have d:=AL m (eC m);rw[(gI i _).2]at d;have s:=(o.own 0 i4).cap;have b:=(o.own 0 i4).len;refine⟨_,i4,⟨z8 _,yY.2 (show(bA m (eC m)).1<=r.cap by omega)⟩,⟨r.ptr,(bA m (eC m)).1,r.cap⟩,q,jj,i4,g,d,?_⟩;have:r=⟨r.ptr,i0 m,r.cap⟩:=by obtain⟨p,l,c⟩:=r;simp only at b⊢;rw[<-g,<-b]
 rw[<-this];exact o
theorem VN(f:f7)(a:Sl)(m:aI)(n:Nat)(h:f9)(c:fG h f)(j:fA h a 1 aB m)(g:aQ n m)(e:n<=64)(i:i0 m<=2^30):
  ai xJ 267 #[xB (dB f),a] h λv h'=>v=xz xF (bL m)/\Sp h h' []:=by
 refine ts Tryz.func267 ?_;refine(EV f a m n h c j g e i).mono ?_;rintro v k ⟨r,rs,rfl,d,_,_,b⟩;exact⟨r,i4,by rw[d],.zip b.ac⟩
theorem FS(p:Pm)(seed:Int)(ids:Sl)(l:au)(h:f9)(t:Rd h ids 1 az l)(k:i0 l<=2^29):ai xJ 212 #[jv p,xz xH seed,ids] h λv h'=>v=xz xF (mM p seed l)/\Sp h h' []:=by
 refine ts Tryz.func212 ?_ .n [(1,(.l [1,2,3,0,4,5,6]))] (args:=[p,(xz xH (seed:Int)),ids]);refine(Sp.refl h).boxed λa q g=>?_;refine⟨p,(g.box 0 i4).aE _ i4,(oN q).mono ?_⟩;rintro v u ⟨f,rfl,s⟩;have d:=g.comp s;have b:=d.box 0 i4;refine⟨dB f,i4,⟨b.cell0 i4,b.cell i4,b.cell i4,trivial⟩,?_⟩;refine(EU p seed ids l u (Seq.up t d.ac) i5).mono ?_;rintro v h3 ⟨r,rfl,i⟩;have e:=d.comp i;refine⟨r,i4,trivial,?_⟩;have j:=Yc p seed l;have c:(bu p).toNat<=64:=by
  unfold bu;split
  ·rename_i m;have:=(bN p).1 m;omega
  ·omega
 refine(VN f r _ _ h3 (e.box 1 i4) (e.Cm 2 i4) (jr p seed l) c i5).mono ?_;rintro v w ⟨rfl,o⟩;exact⟨_,i4,trivial,i4,.zip (e.comp o).ac⟩
theorem JY(p:Pm)(seed:Int)(ids:Sl)(l:au)(h:f9)(q:Rd h ids 1 az l)(d:i0 l<=2^29):ai xJ 149 #[jv p,xz xH seed,ids] h λv h'=>v=xD (fq p seed l)/\Sp h h' []:=by refine ts Tryz.func149 ?_ .n [(1,(.l [0,1,2,3,4,5,7,6,8,9,10,11]))] (args:=[p,(xz xH (seed:Int)),ids]);refine(Sp.refl h).boxed λa m i=>?_;refine⟨p,(i.box 0 i4).aE _ i4,(dO p m).mono ?_⟩;rintro v r ⟨rfl,o⟩;have c:=i.comp o;refine⟨_,i4,trivial,bc (λe=>?_) λe=>⟨trivial,trivial,by rw[fq,e];rfl,.zip c.ac⟩⟩;have f:=c.box 0 i4;refine⟨p,f.aE _ i4,p,f.aE _ i4,(FS p seed ids l r (Seq.up q c.ac) d).mono ?_⟩;rintro v h3 ⟨rfl,j⟩;have g:=c.comp j;have b:=g.box 0 i4;refine⟨_,i4,⟨b.cell0 i4,b.cell i4,b.cell i4,trivial⟩,(kb p h3).mono ?_⟩;rintro v s ⟨rfl,k⟩;exact⟨_,i4,trivial,by rw[fq,e];rfl,.zip (g.comp k).ac⟩
theorem Ho(p:Pm)(seed:Int)(h:f9):ai xJ 193 #[jv p,xz xH seed] h λv h'=>v=xD (fq p seed (eF p))/\Sp h h' []:=by refine ts Tryz.func193 ?_ (args:=[p,(xz xH (seed:Int))]);refine(Sp.refl h).boxed λa j d=>?_;have e:=d.box 0 i4;refine⟨p,e.aE _ i4,p,e.aE _ i4,(Hm p j).mono ?_⟩;rintro v g ⟨r,rfl,i⟩;have c:=d.comp i;have b:=c.box 0 i4;refine⟨r,i4,⟨b.cell0 i4,b.cell i4,b.cell i4,trivial⟩,(JY p seed r _ g (c.seq 1 i4 λ_=>rfl) rc).mono ?_⟩;rintro v h3 ⟨rfl,f⟩;exact⟨_,i4,trivial,i4,.zip (c.comp f).ac⟩
theorem YM(p:Pm)(o b:Int)(h:f9):ai xJ 130 #[jv p,xz xF o,xz xF b] h λv h'=>
  v=.tuple #[xz xF (((ma p o b).getD 0:Nat):Int),xD (ma p o b).isSome]/\Sp h h' []:=by
 refine ts Tryz.func130 ?_ (.two .n (.two (.two .n (.inn (.loop [(9,aT)] [(6,20)] .n))) .n)) (args:=[p,(o:Int),(b:Int)]);refine(Sp.refl h).boxed λy E A=>?_;refine aq (λi:Nat=>(i:Int)) (λi h'=>i<=16/\(∀k,k<i->Bh p o b k=eS)/\Sp h h' [av y 25 [xz xF p.1,xz xF p.2.1,xz xF p.2.2]]) (λi=>16-i) 0 i4 ⟨i5,λk f=>absurd f (Nat.not_lt_zero k),A⟩ ?_;rintro i B ⟨F,c,s⟩;refine ae (λe=>?_) λe=>?_
 ·have z:i<16:=i5
  have a:=s.box 0 i4;refine⟨p,a.aE _ i4,(oL _ _ _ B).mono ?_⟩;rintro _ h3 ⟨rfl,rfl⟩;refine⟨_,i4,⟨a.cell0 i4,a.cell i4,a.cell i4,trivial⟩,(Ho p _ h3).mono ?_⟩;rintro _ D ⟨rfl,w⟩;have u:=s.up w.ac;refine⟨_,i4,trivial,bc (λg=>?_) λg=>?_⟩
  ·have l:ma p o b=dB i:=by
    unfold ma;refine List.find?_eq_some_iff_append.2 ⟨g,qt i,(qt (15-i)).map (·+(i+1)),?_,λk f=>?_⟩
    ·apply zy;intro j;by_cases t:j<i
     ·rw[qm (by simpa using t),zn i5,zn t]
     ·rw[qi i9,zA];by_cases q:j=i
      ·subst q;rw[qZ,zn i5];rfl
      ·obtain⟨d,x⟩:∃d,j=i+(d+1):=⟨j-i-1,i5⟩
       subst x;rw[zk,qq,qO];by_cases r:d<15-i
       ·rw[zn r,zn i5];simp;omega
       ·rw[qM i9,qM i9];rfl
    ·rw[c k (qA.1 f)];rfl
   rw[l];exact⟨i4,.zip u.ac⟩
  ·refine⟨i+1,j0,⟨i5,λk f=>?_,u⟩,i5⟩;by_cases m:k<i
   ·exact c k m
   ·have:k=i:=i5
    subst this;exact g
 ·have l:ma p o b=eH:=by unfold ma;rw[List.find?_eq_none];intro k f;rw[c k (by have:=qA.1 f;omega)];simp
  rw[l];exact⟨i4,.zip s.ac⟩
theorem SP(p:Pm)(o:Int)(n:Nat)(h:f9)(F:n<=2^30):ai xJ 76 #[jv p,xz xF o,xz xF n] h λv h'=>
  (cA p o n=eH->v=.tuple #[xA eH 0 0,xD eS]/\Sp h h' [])/\
  (∀l,cA p o n=dB l->∃r:Sl,v=.tuple #[r,xD eR]/\Sp h h' [an 3 r 1 az l]):=by
 refine ts Tryz.func76 ?_ (.two .n (.two .n (.two (.two .n (.inn (.loop [(8,cF),(13,aT)] [(6,12),(13,30)] .n))) .n))) (args:=[p,(o:Int),(n:Int)]);refine(Sp.refl h).boxed λx G k=>?_;have k:=(k.nil 3 1 az).bX [1,0];refine aq (λt:Sl×Nat×au=>(t.1,(t.2.1:Int))) (λt h'=>t.2.1<=n/\cA p o t.2.1=dB t.2.2/\Sp h h' [an 3 t.1 1 az t.2.2,av x 25 [xz xF p.1,xz xF p.2.1,xz xF p.2.2]]) (λt=>n-t.2.1) (⟨eH,0,0⟩,0,[]) i4 ⟨jj,i4,k⟩ ?_;rintro⟨s,i,l⟩ B ⟨I,c,f⟩;dsimp only at*;have z:=jk c;have b:∀j,ma p o i=eH->j<=n-(i+1)->cA p o (i+1+j)=eH:=λj d=>by
  induction j with
  |zero=>intro _;show cA p o (i+1)=eH;unfold cA;rw[c,d];rfl
  |succ j ih=>intro H;show cA p o ((i+1+j)+1)=eH;unfold cA;rw[ih i5];rfl
 refine ae (λe=>?_) λe=>?_
 ·have y:i<n:=i5
  refine⟨p,(f.box 1 i4).aE _ i4,(YM p o i B).mono ?_⟩;rintro _ h3 ⟨rfl,w⟩;have u:=f.up w.ac;refine⟨(_,_),i4,aU (λg=>?_) λg=>?_⟩
  ·have a:cA p o n=eH:=by have:=b (n-(i+1)) (Option.isSome_eq_false_iff.1 g|>Option.isNone_iff_eq_none.1) (qk _);rw[show i+1+(n-(i+1))=n by omega]at this;exact this
   rw[a];exact⟨λ_=>⟨i4,.zip u.ac⟩,λl h=>j7⟩
  ·obtain⟨t,q⟩:∃t,ma p o i=dB t:=Option.isSome_iff_exists.1 g;rw[q];refine u.push ag 0 i4 gy i4 i6 (λ_=>rfl) fx (t:Int) i4 i6 i5 λA E D=>?_;refine⟨(A,i+1,l++[(t:Int)]),js,⟨i7,?_,D⟩,i7⟩;show cA p o (i+1)=_;unfold cA;rw[c,q];rfl
 ·have m:i=n:=i5
  subst m;rw[c];exact⟨λh=>j7,λl' h=>(by injection h with h;subst h;exact⟨s,i4,f.bX [0]⟩)⟩
def oO(m:aw)(l:bY):bY:=(fp m l).map cT
def bW(m:aw)(l:bY):bY:=aX m++oO m l
def hJ(d:aW)(a:Nat)(n:Int):Bool:=decide (max n 0<=(d.room:Int)-a)
def gu(m:aw)(d:aW)(n:Int):Bool:=!d.lost&&(hJ d d.l.length n||hJ d (bW m d.l).length n)
def fH(m:aw)(w:Pow)(d:aW)(n:Int):Int×Pow×aW:=
 if d.lost then(5,w,d)else if !gu m d n then(7,w,d)else if hJ d d.l.length n then(0,w,d)else d.rewrite w (bW m d.l)
theorem YN(l:List cP):i0 (pu l)<=i0 l:=by unfold pu;rw[qy];exact qY (qJ _ _) jj
theorem uN(m:aw)(l:bY):i0 (fp m l)<=i0 l:=by unfold fp;refine qY (YN _) ?_;rw[wF];exact List.length_filterMap_le _ _
theorem sD(m:aw)(l:bY):i0 (oO m l)<=i0 l:=by unfold oO;rw[qy];exact uN m l
variable {B:ak} {h0 h:f9} {As:List HP} {a:f7} {d:aW} {w:Pow}
section
variable {pw:f7}
theorem Dn(x:Sl)(l:bY)(H:aa B h0 h (iT pw a d::dc 118 pw w::As))(P:St B h0 As λh=>fA h x 1 aB l)(Q:i0 l<=2^20)(u:∀c∈l,i0 c<=2^20):
  ai xJ 114 #[xB (dB a),x] h λv h'=>v=xz xF (d.rewrite w l).1/\aa B h0 h' (iT pw a (d.rewrite w l).2.2::dc 118 pw (d.rewrite w l).2.1::As):=by
 refine ts Tryz.func114 ?_ (.two .n (.two (.two .n (.inn (.loop [(9,aT)] [(4,5),(6,7),(9,17)] .n))) (.two (.join [] [(4,5),(17,41)] (.inn (.two (.join [(17,nV)] [(17,26)] .n) .n))) .n)));have O:=P.at [_,_] H;have ab:=O.len;have m:=im.rewrite (w:=w) (l:=l) (And.left (id H).oI);have j:∀(e:Int),d.rewrite w l=(e,w,d)->(Value.int .i64 e=xz xF (d.rewrite w l).1/\aa B h0 h (iT pw a (d.rewrite w l).2.2::dc 118 pw (d.rewrite w l).2.1::As)):=λe S=>by
  rw[S];exact⟨i4,H⟩
 refine aq (λi:Nat=>(i:Int)) (λi h'=>i<=i0 l/\(∀c∈l.take i,i0 c=64)/\h'=h) (λi=>i0 l-i) 0 i4 ⟨i5,jj,i4⟩ ?_;rintro i h1 ⟨hi,f,rfl⟩;refine ae (λe=>?_) λe=>?_
 ·have p:i<i0 l:=i5
  refine O.get i i4 p λr Y=>?_;have X:=Y.len;refine bz (λU=>j 1 ?_) λU=>?_
  ·unfold aW.rewrite;rw[g0];rw[wW,yz];exact⟨l[i],qf p,i9⟩
  ·refine⟨i+1,j0,⟨i5,λc k=>?_,i4⟩,i5⟩;rw[aD _ _ p]at k;rcases qw.1 k with k|k
   ·exact f c k
   ·rw[qx.1 k];omega
 have f:∀c∈l,i0 c=64:=by rw[qg i5]at f;exact f
 have q:(!l.all λb=>decide (i0 b=64))=eS:=by rw[Bool.not_eq_false',qK];exactλc k=>hU (f c k)
 have D:d.rewrite w l=(if d.lost then(5,w,d)else if d.room<i0 l then(7,w,d)else if w.off then(14,w,d)else if w.step.1 then(0,w.step.2,{d with l:=l,wait:=0,laid:=[],has:=eS})else(14,w.step.2,{d with laid:=l,has:=eR})):=by unfold aW.rewrite;rw[q];rfl
 obtain⟨ok,s,b,L⟩:=H.oI;have A:=L.box 0 i4;refine aO (aO (bc (λe=>j1) λ_=>⟨a,i4,d.lost,A.cell i4,bc (λe=>j 5 (by rw[D,g0 e])) λg=>?_⟩));refine⟨a,i4,(d.room:Int),A.cell i4,ae (λe=>j 7 (by rw[D,g9 o1,g0 i5])) λG=>?_⟩;obtain⟨T,V,J⟩:=(L.aK 4 [3,0,1,2]).Ag;refine⟨a,i4,dB pw,A.cell0 i4,(Ew T (J.box 0 i4)).mono ?_⟩;rintro _ h2 ⟨rfl,rfl⟩;refine⟨_,i4,aU (λe=>j 14 ?_) λy=>?_⟩
 ·rw[D,g9 o1,g9 i5,g0 mn]
 have o:w.off=eS:=by simpa using y
 have t:d.rewrite w l=(if w.step.1 then(0,w.step.2,{d with l:=l,wait:=0,laid:=[],has:=eS})else(14,w.step.2,{d with laid:=l,has:=eR})):=by rw[D,g9 o1,g9 i5,g9 (by simp[o])]
 refine⟨a,i4,dB pw,A.cell0 i4,(CZ (L.aK 4 [3,0,1,2])).mono ?_⟩;rintro _ N ⟨rfl,M⟩;have z:=P.at [_,_,_,_] M;refine⟨_,i4,aU (λe=>?_) λe=>?_⟩
 ·rw[t,g9 p5]at m⊢;refine(FK x l N z Q u).mono ?_;rintro _ W ⟨r,rfl,I⟩;have E:=(M.bR I).aK 5 [2,3,0,1];refine⟨r,i4,a,i4,E.store ag 0 i4 i4 4 [r] i4 i4 i4 ln λZ K=>?_⟩;refine⟨a,i4,K.store ag 0 i4 i4 5 [xD eR] i4 i4 i4 ln λh8 F=>⟨i4,?_⟩⟩;exact aa.tK (s:=s) (b:=r) m F
 ·rw[t,g0 e]at m⊢;refine(FK x l N z Q u).mono ?_;rintro _ W ⟨r,rfl,I⟩;have E:=(M.bR I).aK 5 [2,0,4,1];refine⟨r,i4,a,i4,E.store ag 0 i4 i4 2 [r] i4 i4 i4 ln λZ K=>?_⟩;refine⟨a,i4,K.store ag 0 i4 i4 3 [xz xF 0] i4 i4 i4 ln λh8 F=>?_⟩;refine(Db (d:={d with l:=l,wait:=0}) r b _ F ⟨Nat.zero_le _,i7,ok.room,f,ok.laid,ok.cellL⟩ i4).mono ?_;rintro _ h9 ⟨rfl,R⟩;exact⟨0,i4,i4,R⟩
theorem xK(s b:Sl)(c:Nat)(n:Int)(e:bT h a 155 (fk pw d s b))(g:d.room<=512)(f:c<=2^40:=by omega):ai xJ 112 #[xB (dB a),xz xF c,xz xF n] h λv h'=>v=xD (hJ d c n)/\h'=h:=by refine ts Tryz.func112 ?_;refine(Vs s b e).mono ?_;rintro _ _ ⟨rfl,rfl⟩;refine⟨_,i4,?_,i4⟩;rw[af ((d.room:Int)-c)];unfold hJ;congr 1;rw[decide_eq_decide];split<;>omega
theorem SQ(s b:Sl)(x:bF)(m:aw)(D:bT h a 155 (fk pw d s b))(S:fA h s 1 aB d.l)(ok:im d)(K:df h x m)(J:cI m):
  ai xJ 185 #[xB (dB a),fN x] h λv h'=>∃r:Sl,v=r/\Sp h h' [fP r (oO m d.l)]:=by
 refine ts Tryz.func185 ?_ (.two .n (.two .n (.two (.two .n (.inn (.loop [(5,cF),(12,aT)] [(5,6),(7,8),(12,22)] .n))) .n))) (args:=[(dB a),x]);have B:=ok.len;have k:=ok.room;refine(Sp.refl h).boxed λX O c=>?_;refine⟨x,(c.box 0 i4).aE _ i4,(Dh a pw d s b x m O (D.ac c.ac D.lt) (S.up c.ac) ok (K.up c.ac) J).mono ?_⟩;rintro _ Z ⟨r,f,rfl,Q⟩;have w:=(c.bR Q).te 34 5 1 aB;refine⟨r,i4,?_⟩;have p:=uN m d.l;obtain⟨L,F⟩:∃L,L=fp m d.l:=⟨_,rfl⟩
 have q:(oO m d.l)=L.map cT:=by unfold oO;rw[F]
 rw[<-F]at w p;rw[q];have E:=w.eu 1 i4;have R:=E.2.1;have y:=E.1.len;refine aq (λt:Sl×Nat=>(t.1,(t.2:Int))) (λt h'=>t.2<=i0 L/\Sp h h' [fP t.1 ((L.map cT).take t.2),cJ gq 8 cQ r f L]) (λt=>i0 L-t.2) (⟨eH,0,0⟩,0) i4 ⟨jj,w.bX [0,1]⟩ ?_;rintro⟨o,i⟩ h3 ⟨Y,j⟩;dsimp only at*;have P:=j.eu 1 i4;refine ae (λe=>?_) (λe=>?_)
 ·have z:i<i0 L:=i5
  refine P.1.dY (g:=cQ) i i4 i5 (f[i]'(by omega)) i4 ?_;refine j.alloc ag i4 λV U T=>?_;refine T.storeAll ag 2 i4 i4 (cQ (f[i]'(by omega))) i4 i4 i4 i4 λI A=>?_;refine⟨f[i]'(by omega),(A.box 2 i4).aE _ i4,(pY _ L[i] I (Fix.row (A.eu 1 i4) z)).mono ?_⟩;rintro _ W ⟨u,rfl,N⟩;have G:=(A.bR N).aK 3 [1,0,2];refine⟨u,i4,G.AJ ag fu i9 λM h8 H=>?_⟩;refine⟨(M,i+1),js,⟨i7,?_⟩,i7⟩
  try dsimp only
  rw[aD _ _ (show i<i0 (L.map cT) by simp;omega),wV];exact H.bX [0,1]
 ·rw[qg i9]at j;exact⟨o,i4,j.bX [0]⟩
theorem EW{m:aw}{l:bY}{c:aM}(h:c∈oO m l):i0 c<=64:=by
 unfold oO at h;obtain⟨r,_,rfl⟩:=qo.1 h;unfold cT;split
 ·rename_i a;refine xi (lS i6 i6 ?_);have:=nQ a;omega
 ·simp
theorem Do(s b:Sl)(x:bF)(m:aw)(k:bT h a 155 (fk pw d s b))(B:fA h s 1 aB d.l)(ok:im d)(o:df h x m)(i:cI m):
  ai xJ 115 #[xB (dB a),fN x] h λv h'=>∃r:Sl,v=r/\Sp h h' [fP r (bW m d.l)]:=by
 refine ts Tryz.func115 ?_ .n [(1,(.l [0,2,3,1,4,5,6]))] (args:=[(dB a),x]);have j:=ok.len;have g:=ok.room;refine(Sp.refl h).boxed λF t f=>?_;refine⟨x,(f.box 0 i4).aE _ i4,x,(f.box 0 i4).aE _ i4,(mQ x m t (o.up f.ac) i).mono ?_⟩;rintro _ G ⟨r,rfl,w⟩;have e:=f.bR w;have c:=e.box 1 i4;refine⟨r,i4,⟨c.cell0 i4,c.cell i4,c.cell i4,c.cell i4,c.cell i4,c.cell i4,c.cell i4,c.cell i4,trivial⟩,(SQ s b x m (k.ac e.ac k.lt) (B.up e.ac) ok (o.up e.ac) i).mono ?_⟩;rintro _ h3 ⟨u,rfl,p⟩;have A:=(e.bR p).aK 2 [1,0];have z:=jw m i;have q:=sD m d.l;refine⟨u,i4,trivial,A.abr ag fu ⟨_,_,i4,i4⟩ i5 λy E D=>?_⟩;exact⟨trivial,y,i4,D.bX [0]⟩
theorem Dp(s b:Sl)(x:bF)(m:aw)(n:Int)(q:bT h a 155 (fk pw d s b))(z:fA h s 1 aB d.l)(o:s.len=i0 d.l)(ok:im d)(w:df h x m)(t:cI m):
  ai xJ 111 #[xB (dB a),fN x,xz xF n] h λv h'=>v=xD (gu m d n)/\Sp h h' []:=by
 refine ts Tryz.func111 ?_ (.two .n (.two (.join [] [(6,13)] .n) .n)) (args:=[(dB a),x,(n:Int)]);have p:=ok.len;have i:=ok.room;refine(Sp.refl h).boxed λD B f=>?_;have c:=q.ac f.ac q.lt;refine aO (bc (λe=>j1) λ_=>(Dc s b c).mono ?_);rintro _ _ ⟨rfl,rfl⟩;refine⟨_,i4,bc (λe=>⟨by unfold gu;rw[e];rfl,.zip f.ac⟩) λe=>?_⟩;have u:gu m d n=(hJ d d.l.length n||hJ d (bW m d.l).length n):=by unfold gu;rw[e];rfl
 refine(JU s b c o).mono ?_;rintro _ _ ⟨rfl,rfl⟩;refine⟨_,i4,(xK s b d.l.length n c ok.room).mono ?_⟩;rintro _ _ ⟨rfl,rfl⟩;refine⟨_,i4,bc (λg=>⟨by rw[u,g];rfl,.zip f.ac⟩) λg=>?_⟩;refine⟨x,(f.box 0 i4).aE _ i4,(Do s b x m c (z.up f.ac) ok (w.up f.ac) t).mono ?_⟩;rintro _ E ⟨r,rfl,k⟩;have j:=(aa.th k).1;have A:i0 (bW m d.l)<=4000:=by have:=jw m t;have:=sD m d.l;unfold bW;rw[qp];omega
 have y:=f.bR k;refine⟨r,i4,(xK s b r.len n (c.ac k.ac c.lt) ok.room).mono ?_⟩;rintro _ _ ⟨rfl,rfl⟩;exact⟨_,i4,by rw[u,g,vB,j],.zip y.ac⟩
theorem Na(x:bF)(n:Int)(h:f9):ai xJ 111 #[xB eH,fN x,xz xF n] h λv h'=>v=xD eS/\Sp h h' []:=by refine ts Tryz.func111 ?_ (.two .n (.two (.join [] [(6,13)] .n) .n)) (args:=[(eH:bK),x,(n:Int)]);refine(Sp.refl h).boxed λb c a=>?_;exact aO (bc (λ_=>⟨i4,.zip a.ac⟩) λe=>j1)
theorem JZ(x:bF)(m:aw)(n:Int)(K:St B h0 As λh=>df h x m)(z:cI m)(H:aa B h0 h (iT pw a d::dc 118 pw w::As)):
  ai xJ 55 #[xB (dB a),fN x,xz xF n] h λv h'=>v=xz xF (fH m w d n).1/\aa B h0 h' (iT pw a (fH m w d n).2.2::dc 118 pw (fH m w d n).2.1::As):=by
 refine ts Tryz.func55 ?_ (.two .n (.two (.join [] [(6,26)] (.inn (.two (.join [(7,nV)] [(7,14)] .n) .n))) .n)) (args:=[(dB a),x,(n:Int)]);refine(Sp.refl h).boxed λT D N=>?_;have p:=(H.bR N).aK 3 [1,2,0];have f:∀(e:Int) {h':f9},aP (λb=>b<D.size) D h'->fH m w d n=(e,w,d)->(Value.int .i64 e=xz xF (fH m w d n).1/\aa B h0 h' (iT pw a (fH m w d n).2.2::dc 118 pw (fH m w d n).2.1::As)):=λe {h'} O M=>by
  rw[M];exact⟨i4,((p.up O).aK 3 [0,1])⟩
 obtain⟨ok,s,b,g⟩:=(id p).oI;have t:=g.box 0 i4;have Q:fA D s 1 aB d.l:=(g.aK 2 [1]).BJ λ_=>rfl;have o:=(aa.th (g.aK 2 [1])).1;have J:=ok.len;have y:=ok.room;refine aO (aO (bc (λe=>j1) λ_=>(Dc s b t).mono ?_));rintro _ _ ⟨rfl,rfl⟩;refine⟨_,i4,bc (λe=>f 5 (aP.refl _ _) (by unfold fH;rw[g0 e])) λe=>?_⟩;refine⟨x,(p.box 2 i4).aE _ i4,(Dp s b x m n t Q o ok (K.at [_,_,_] p) z).mono ?_⟩;rintro _ U ⟨rfl,k⟩;have G:=g.up k.ac;have j:=t.ac k.ac t.lt;have E:=p.up k.ac;refine⟨_,i4,aU (λq=>f 7 k.ac (by unfold fH;rw[g9 p5,g0 (by simp[q])])) λq=>?_⟩;refine(JU s b j o).mono ?_;rintro _ _ ⟨rfl,rfl⟩;refine⟨_,i4,(xK s b d.l.length n j ok.room).mono ?_⟩;rintro _ _ ⟨rfl,rfl⟩;refine⟨_,i4,bc (λF=>f 0 k.ac (by unfold fH;rw[g9 p5,g9 (by simp[q]),g0 F])) λF=>?_⟩;have em:fH m w d n=d.rewrite w (bW m d.l):=by unfold fH;rw[g9 p5,g9 (by simp[q]),g9 (by simp[F])]
 rw[em];have P:i0 (bW m d.l)<=4000:=by have:=jw m z;have:=sD m d.l;unfold bW;rw[qp];omega
 have A:∀c∈bW m d.l,i0 c<=64:=λc i=>by
  unfold bW at i;rcases qw.1 i with i|i
  ·exact xi (sj i)
  ·exact EW i
 refine⟨x,(E.box 2 i4).aE _ i4,(Do s b x m j ((G.aK 2 [1]).BJ λ_=>rfl) ok (K.at [_,_,_] E) z).mono ?_⟩;rintro _ h3 ⟨r,rfl,L⟩;obtain⟨rs,I⟩:=(E.bR L).SK λ_=>rfl;have I:=I.aK 4 [1,2,0];refine⟨r,i4,(Dn r (bW m d.l) I (St.ee 0 i4 λh' u=>?_) i5 λc i=>qY (A c i) i6).mono ?_⟩
 ·exact⟨rs,u.1,u.2.1,u.2.2⟩
 rintro _ S ⟨rfl,R⟩;exact⟨_,i4,i4,R.aK 3 [0,1]⟩
end
variable {b:f7} {x:bF} {offs:Int} {da:List bK} {ds:aC}
section
variable {pw:f7}
theorem aa.YO(n:Nat)(i:n<64)(j:ds[n]?=dB eH)(H:aa B h0 h (bg bB a pw (bh x) offs da w ds::iT pw b d::As)){K:Unit->f9->Prop}
  (g:∀h',aa B h0 h' (bg bB a pw (bh x) offs (da.set n (dB b)) w (ds.set n (dB d))::As)->K () h'):
  aj xJ (qE 57 (xB (dB ((a.add 10).add n))) (xB (dB b))) h K:=by
 obtain⟨ok,f⟩:=Qw.aa.nI H;have e:(a.add 10).add n=a.add (10+n):=by unfold Addr.add;simp[Nat.add_assoc]
 rw[e];refine f.storeAt ag 0 i4 i4 i4 i4 i4 (by simp[ok.la];omega) λh' c=>g h' ?_;rw[zh,JX ok.l8]at c;exact aa.abJ ok i j c
end
theorem An(ds:aC)(n:Nat)(d:aW)(s:Int)(c:n<64)(b:i0 ds=64):aS (bV ds (n:Int) d) s=if s=(n:Int)then dB d else aS ds s:=by
 unfold aS bV;rw[qj];by_cases h:0<=s/\s<64
 ·rw[g0 h,g0 h,qV];by_cases a:s=(n:Int)
  ·subst a;rw[g0 i4,qj,g0 i4,g0 i5];rfl
  ·rw[g9 a,g9 i5]
 ·rw[g9 h,g9 h,g9 i5]
theorem jx{ds:aC}{s:Int}{d:aW}(h:aS ds s=dB d):∃n:Nat,s=(n:Int)/\n<64:=by
 unfold aS at h;by_cases a:0<=s/\s<64
 ·exact⟨s.toNat,i5,i5⟩
 ·rw[g9 a]at h;cases h
structure Fit (ds:aC) (S Q:au):Prop where
 len:i0 ds=64
 at_:∀s∈S,∃d,aS ds s=dB d/\d.lost=eS/\d.l.length+Q.count s<=d.room
theorem OZ{d:aW}{n:Nat}(w:Pow)(b:aM)(a:d.lost=eS)(f:i0 d.l+(n+1)<=d.room)(g:i0 b=64):
  ((d.append w b).1=0∨(d.append w b).1=14)/\(d.append w b).2.2.lost=eS/\(d.append w b).2.2.l.length+n<=(d.append w b).2.2.room:=by
 unfold aW.append;rw[g9 i5,g9 m6,g9 i5];by_cases e:w.off
 ·rw[g0 e];exact⟨.inr i4,a,i7⟩
 ·rw[g9 e];by_cases c:w.step.1
  ·rw[g0 c];exact⟨.inl i4,a,i9⟩
  ·rw[g9 c];exact⟨.inr i4,a,i9⟩
theorem VO{d:aW}(w:Pow)(a:d.lost=eS):((d.sync w).1=0∨(d.sync w).1=14)/\(d.sync w).2.2.lost=eS/\(d.sync w).2.2.l=d.l/\(d.sync w).2.2.room=d.room:=by
 unfold aW.sync;rw[g9 m6];by_cases b:w.step.1
 ·rw[g0 b];exact⟨.inl i4,a,i4,i4⟩
 ·rw[g9 b];exact⟨.inr i4,a,i4,i4⟩
theorem KN{ds:aC}{S Q:au}{x:Int}(w:Pow)(b:aM)(F:Fit ds S (x::Q))(j:x∈S)(i:i0 b=64):
  ((fQ w ds x b).1=0∨(fQ w ds x b).1=14)/\Fit (fQ w ds x b).2.2 S Q:=by
 obtain⟨d,f,m,q⟩:=F.at_ x j;rw[List.count_cons_self]at q;obtain⟨n,rfl,k⟩:=jx f;have A:=OZ w b m (n:=Q.count (n:Int)) i5 i;have e:fQ w ds (n:Int) b=((d.append w b).1,(d.append w b).2.1,bV ds (n:Int) (d.append w b).2.2):=by unfold fQ;rw[f]
 rw[e];refine⟨A.1,by unfold bV;rw[q9];exact F.len,λs p=>?_⟩;rw[An _ _ _ _ k F.len];by_cases a:s=(n:Int)
 ·subst a;rw[g0 rfl];exact⟨_,i4,A.2⟩
 ·rw[g9 a];obtain⟨o,g,l,c⟩:=F.at_ s p;rw[List.count_cons_of_ne λh=>a h.symm]at c;exact⟨o,g,l,c⟩
theorem Pa{ds:aC}{S:au}{x:Int}(w:Pow)(F:Fit ds S [])(c:x∈S):((gB w ds x).1=0∨(gB w ds x).1=14)/\Fit (gB w ds x).2.2 S []:=by
 obtain⟨d,b,h,k⟩:=F.at_ x c;obtain⟨n,rfl,g⟩:=jx b;obtain⟨i,A2,l,f⟩:=VO w h;have e:gB w ds (n:Int)=((d.sync w).1,(d.sync w).2.1,bV ds (n:Int) (d.sync w).2.2):=by unfold gB;rw[b]
 rw[e];refine⟨i,by unfold bV;rw[q9];exact F.len,λs j=>?_⟩;rw[An _ _ _ _ g F.len];by_cases a:s=(n:Int)
 ·subst a;rw[g0 rfl];exact⟨_,i4,A2,by rw[l,f];exact k⟩
 ·rw[g9 a];exact F.at_ s j
theorem IW(l:au)(k:Nat):(be l k).Nodup:=by unfold be;refine List.Pairwise.filter _ (vl.2 ?_);exact(List.nodup_range (n:=k)).imp λh=>i5
theorem SS{l:au}(h:(fy l).2=eR):(fy l).1=be l l.length/\l.length<=64/\∀n:Nat,l.getD n 0<=512:=by
 unfold fy at h⊢;by_cases a:l.all (fz · 0 512)=eR
 ·rw[g0 a]at h⊢;refine⟨i4,by simp at h;exact h.1,λn=>?_⟩;rw[qd];by_cases b:n<i0 l
  ·rw[qc b];have:=qK.1 a _ (qf b);unfold fz at this;simp at this⊢;omega
  ·rw[qM i5];simp
 ·rw[g9 a]at h;cases h
theorem Nb(l:au)(i n:Nat)(e:i<i0 (be l l.length))(g:(be l l.length)[i]=(n:Int))(c:n<64):(gZ l i)[n]?=dB eH:=by unfold gZ;rw[qO,zn c,qS,g9];intro f;obtain⟨j,h,d⟩:=List.mem_take_iff_getElem.1 f;have:=Cp (IW l l.length) (a:=j) (b:=i) i5 e (by rw[d,g]);omega
theorem xL(m:aw):∀S:au,i0 (bC m S)=i0 S*i0 (aX m)
 |[]=>by simp[bC]
 |n::S=>by
  have e:bC m (n::S)=(aX m).map (λc=>(n,c))++bC m S:=by unfold bC;rw[zd]
  rw[e,qp,qy,xL m S,zc,zI,Nat.add_comm]
theorem SU(p:Pm)(extra:Int)(l:au)(a:i0 l<=64):cI (cC p extra l):=⟨by have:=oM l l.length;simp[cC];omega,by simp[cC],by simp[cC]⟩
section
variable {pw:f7}
theorem Pb(p:Pm)(extra:Int)(s:Sl)(l:au)(hS:St B h0 As λh=>Rd h s 1 az l)(hl:i0 l<=2^20)(H:aa B h0 h (dc 118 pw w::As)):
  ai xJ 30 #[jv p,xz xF extra,xB (dB pw),s] h λv h'=>
   ((dH p extra w l).1≠0->v=.tuple #[xB eH,xz xF (dH p extra w l).1]/\aa B h0 h' As)/\
   ((dH p extra w l).1=0->∃(a:f7) (x:bF) (da:List bK),v=.tuple #[xB (dB a),xz xF 0]/\aa B h0 h' (bg bB a pw (bh x) w.offs da (dH p extra w l).2.1 (dH p extra w l).2.2::cU x (cC p extra l)::As)):=by
 refine ts Tryz.func30 ?_ (.two .n (.two .n (.two (.join [] [(8,10),(23,42)] .n) (.two (.join [(12,MJ)] [(12,13),(42,51)] .n) (.two (.two .n (.inn (.loop [(53,aT)] [(8,10),(14,15),(53,69)] .n))) (.two (.two .n (.inn (.loop [(71,aT)] [(16,17),(71,87)] .n))) .n)))))) [(14,(.l [0,1,2,3,4,5,6,8,9,7,10,11]))] (args:=[p,(extra:Int),(dB pw),s]);refine H.boxed λa1 h1 H1=>?_;have H1:=H1.aY;refine(OQ s l h1 (hS.at [_,_] H1) hl).mono ?_;rintro _ h2 ⟨r,rfl,R2⟩;have H2:=H1.bR R2;refine⟨(r,(fy l).2),i4,?_⟩;have j:∀{h':f9},aa B h0 h' As->((fy l).2&&(bx p&&fz extra 0 16))=eS->
   ((dH p extra w l).1≠0->Value.tuple #[xB eH,xz xF 1]=.tuple #[xB eH,xz xF (dH p extra w l).1]/\aa B h0 h' As)/\
   ((dH p extra w l).1=0->∃(a:f7) (x:bF) (da:List bK),Value.tuple #[xB eH,xz xF 1]=.tuple #[xB (dB a),xz xF 0]/\aa B h0 h' (bg bB a pw (bh x) w.offs da (dH p extra w l).2.1 (dH p extra w l).2.2::cU x (cC p extra l)::As)):=λ{h'} H' hc=>by
  have e:dH p extra w l=(1,w,[]):=by unfold dH;rw[hc];rfl
  rw[e];exact⟨λ_=>⟨i4,H'⟩,λh=>absurd h (show¬(1:Int)=0 by decide)⟩
 refine aO (aU (λe=>j H2.rest.rest.rest oi) λe=>?_);have ep:(fy l).2=eR:=mn
 obtain⟨a5,D,G⟩:=SS ep;refine⟨p,(H2.box 1 i4).aE _ i4,(dO p h2).mono ?_⟩;rintro _ h3 ⟨rfl,R3⟩;have A:aa B h0 h3 (an 3 r 1 az (fy l).1::av a1 25 [xz xF p.1,xz xF p.2.1,xz xF p.2.2]::dc 118 pw w::As):=by have:=H2.comp R3;rw[qH]at this;exact this
 refine⟨_,i4,aU (λe2=>j A.rest.rest.rest (by rw[e2];simp)) λe2=>?_⟩;have em:bx p=eR:=n3
 refine ae (λe3=>j A.rest.rest.rest n8) λe3=>ae (λe4=>j A.rest.rest.rest n8) λe4=>bc (λe5=>by cases e5) λ_=>?_;rw[a5]at A;refine aO ⟨p,(A.box 1 i4).aE _ i4,?_⟩;obtain⟨lw,a8,ap⟩:=(A.aK 3 [2,1,0]).Ag;refine(JT lw (ap.box 0 i4)).mono ?_;rintro _ h4 ⟨rfl,rfl⟩;have I:=A.box 1 i4;refine⟨_,i4,⟨I.cell0 i4,I.cell i4,I.cell i4,trivial⟩,?_⟩;obtain⟨m,O⟩:∃m,m=cC p extra l:=⟨_,rfl⟩
 refine⟨_,VG (1,0,p.1,p.2.1,p.2.2,extra,r,⟨eH,0,0⟩) pw w.offs,?_⟩;refine A.boxed λa9 h6 g=>?_;obtain⟨x,hx⟩:∃x:bF,x=(1,0,p.1,p.2.1,p.2.2,extra,r,⟨eH,0,0⟩):=⟨_,rfl⟩
 rw[<-hx]at g;have F:(Value.agg (cB (bh x) pw w.offs (qh 64 eH)).toArray).cells.toList=cB (bh x) pw w.offs (qh 64 eH):=k7
 rw[F]at g;have g:=g.aY;have K:=g.box 2 i4;refine⟨⟨K.cell0 i4,K.cell i4,K.cell i4,trivial⟩,?_⟩;have g:=g.aK 4 [0,3,1];have g:=aa.VF (k:=bB) (h8:=by simp) g;obtain⟨P,o⟩:∃P,P=be l l.length:=⟨_,rfl⟩
 rw[<-o]at g;have hz:cI m:=O▸SU p extra l D;have ao:i0 P<=64:=by rw[o];exact qY (oM _ _) D
 have al:∀{h':f9} {Bs:List HP} {X:HP},aa B h0 h' (X::an 3 r 1 az P::Bs)->df h' x m:=λ{h' Bs X} H'=>by
  have hs:=H'.seq 1 i4 λ_=>rfl;have hc:=(H'.own 1 i4).cap;subst hx;subst O;exact⟨i4,i4,i4,i4,by show Seq _ _ r 1 az (be l l.length);rw[<-o];exact hs,bD.nil _ _ _ _,hc,qk _⟩
 have U:((fy l).2&&(bx p&&fz extra 0 16))=eR:=by rw[ep,em];unfold fz;simp;omega
 have T:(P.any λi=>decide (l.getD i.toNat 0<(i0 (aX m):Int)))=eR->dH p extra w l=(7,w,[]):=λhh=>by
  unfold dH;rw[g0 U,<-o,<-O,g0 hh]
 have ab:(P.any λi=>decide (l.getD i.toNat 0<(i0 (aX m):Int)))=eS->dH p extra w l=layAll (bC m P) w (gZ l P.length):=λhh=>by
  unfold dH;rw[g0 U,<-o,<-O,hh,g9 i6]
 have J:∀i (M:i<i0 P),∃n:Nat,n<i0 l/\P[i]=(n:Int)/\0<l.getD n 0:=by subst o;exactλi M=>OS l l.length i M
 refine aq (λi:Nat=>(i:Int)) (λi h'=>i<=i0 P/\((P.take i).any λi=>decide (l.getD i.toNat 0<(i0 (aX m):Int)))=eS/\aa B h0 h' (bg bB a9 pw (bh x) w.offs (qh 64 eH) w (qh 64 eH)::an 3 r 1 az P::As)) (λi=>i0 P-i) 0 i4 ⟨i5,jj,g⟩ ?_;rintro i h7 ⟨M,f,z⟩;dsimp only at*;obtain⟨b1,ar⟩:=aa.cz z;have br:r.len=i0 P:=(z.own 1 i4).len;refine ae (λe5=>?_) (λe5=>?_)
 ·have c:i<i0 P:=i5
  obtain⟨n,N,E,Y⟩:=J i c;refine(z.seq 1 i4 λ_=>rfl).bo i i4 c (n:Int) (by rw[E];rfl) ?_;refine(hS.at [_,_] z).Le n i4 N (l.getD n 0) (by rw[getD_lt N];rfl) λbd Z=>?_;refine⟨a9,i4,x,ar.aE _ lb,(mQ x m h7 (al z) hz).mono ?_⟩;rintro _ h9 ⟨u,rfl,R9⟩;have H9:=z.bR R9;have bl:=(aa.th H9).1;refine⟨u,i4,lh R9.ac ⟨Z,trivial⟩,?_⟩;refine ae (λe6=>?_) (λe6=>?_)
  ·rw[T (zY.2 ⟨P[i],qf c,by rw[E,qj];exact hU i5⟩)];exact⟨λ_=>⟨i4,H9.rest.rest.rest⟩,λh=>absurd h (show¬(7:Int)=0 by decide)⟩
  ·refine⟨i+1,j0,⟨i5,?_,H9.rest⟩,i5⟩;rw[aD _ _ c,yU,f,vB,xp,xt,Bool.or_false,E,qj];exact hZ i5
 ·have L:i=i0 P:=i5
  subst L;rw[qU]at f;have am:=ab f;rw[<-MV l]at z;refine aq (λt:Nat×List bK=>(t.1:Int)) (λt h'=>t.1<=i0 P/\aa B h0 h' (bg bB a9 pw (bh x) w.offs t.2 w (gZ l t.1)::an 3 r 1 az P::As)) (λt=>i0 P-t.1) (0,qh 64 eH) i4 ⟨jj,z⟩ ?_;rintro⟨i,da⟩ ah ⟨M,d⟩;dsimp only at*;obtain⟨bq,ad⟩:=aa.cz d;refine ae (λe6=>?_) (λe6=>?_)
  ·have c:i<i0 P:=i5
   obtain⟨n,N,E,Y⟩:=J i c;have a7:=G n;refine(d.seq 1 i4 λ_=>rfl).bo i i4 c (n:Int) (by rw[E];rfl) ?_;refine(hS.at [_,_] d).bo n i4 N (l.getD n 0) (by rw[getD_lt N];rfl) ?_;refine⟨a9,i4,(GW (l.getD n 0) pw ah).mono ?_⟩;rintro _ bk ⟨Q1,_⟩;obtain⟨b,rfl,a4⟩:=Q1 i5;have a3:=(d.bR a4).aK 2 [1,0];refine⟨_,i4,trivial,⟨i5,i5⟩,?_⟩;rw[qj,zV];have W:i<i0 (be l l.length):=by rw[<-o];exact c
   have R:(be l l.length)[i]=(n:Int):=by rw[<-E];simp only[o]
   refine Qw.aa.YO n i5 (Nb l i n W R i5) a3 λbb a0=>?_;refine⟨trivial,(i+1,da.set n (dB b)),js,⟨i7,?_⟩,i7⟩
   try dsimp only
   rw[<-MW l i n W R i5];exact a0
  ·have L:i=i0 P:=i5
   subst L;refine⟨a9,i4,x,ad.aE _ lb,(ES x m r P ah (al d) hz (d.seq 1 i4 λ_=>rfl) i5).mono ?_⟩;rintro _ bs ⟨u,ys,rfl,ay⟩;have ax:=(d.bR ay).aK 2 [1,0];refine⟨u,i4,?_⟩;have V:=jw m hz;refine(Df u ys (bC m P) (St.ee 0 i4 λ_ S=>S) ?_ ?_ ax).mono ?_
   ·rw[xL];have:=wi ao V;omega
   ·intro y hy;obtain⟨a6,a2⟩:=kD hy;obtain⟨i,M,e⟩:=qD a6;obtain⟨n,N,E,_⟩:=J i M;rw[<-e,E,a2];exact⟨⟨i5,i5⟩,i6⟩
   rintro _ b0 ⟨rfl,Q⟩;rw[am];refine⟨_,i4,bz (λe7=>⟨λ_=>⟨i4,Q.rest.rest.rest⟩,λh=>absurd h e7⟩) λe7=>⟨λh=>absurd e7 h,λ_=>⟨a9,x,da,i4,?_⟩⟩⟩;rw[<-O];exact Q.om.fM 1 i4 λq S=>by
    subst hx;subst O;exact⟨i4,i4,i4,i4,by show Seq _ _ r 1 az (be l l.length);rw[<-o];exact S.1.seq (λ_=>rfl) S.2,bD.nil _ _ _ _,S.1.cap,qk _⟩
end
def mB(m:aw)(ds:aC)(k n:Int):Bool:=match aS ds k with|some d=>gu m d n|none=>eS
def dm(m:aw)(ds:aC)(l:au)(N:Int->Int):Bool:=l.all λk=>mB m ds k (N k)
def fT(m:aw)(w:Pow)(ds:aC)(k n:Int):Int×Pow×aC:=
 match aS ds k with
 |none=>(5,w,ds)
 |some d=>((fH m w d n).1,(fH m w d n).2.1,bV ds k (fH m w d n).2.2)
def makes(m:aw)(N:Int->Int):au->Pow->aC->Int×Pow×aC
 |[],w,ds=>(0,w,ds)
 |k::l,w,ds=>if(fT m w ds k (N k)).1=0 then makes m N l (fT m w ds k (N k)).2.1 (fT m w ds k (N k)).2.2 else fT m w ds k (N k)
theorem Ka(f:FuncId)(pre post:Array Value)(P:Int->Bool)(s:Sl)(l:au)(h:f9)(r:C.fns[f]?=dB eR)(o:Rd h s 1 az l)(x:i0 l<=2^30)
  (p:∀k∈l,∀h',Sp h h' []->ai xJ f (pre.toList++[Value.int .i64 k]++post.toList).toArray h' λv g=>v=xD (P k)/\Sp h' g []):
  ai xJ 105 #[s,.func (.func f) pre post] h λv h'=>v=xD (l.any P)/\Sp h h' []:=by
 refine ts Tryz.func105 ?_ (args:=[s,(.func (.func f) pre post)]);refine(iu s (f,pre,post) (R:=λv h'=>(∃i:Int,v=xz xF i/\decide (i>=0)=l.any P)/\Sp h h' []) ?_).mono ?_
 ·skip
  have w:=o.len;refine aq (λi:Nat=>(i:Int)) (λi h'=>i<=i0 l/\(l.take i).any P=eS/\Sp h h' []) (λi=>i0 l-i) 0 i4 ⟨i5,jj,Sp.refl h⟩ ?_;rintro i j ⟨n,a,c⟩;refine ae (λe=>?_) (λe=>?_)
  ·have b:i<i0 l:=by have t:(i:Int)<(s.len:Int):=e;omega
   refine(Seq.up o c.ac).bo i i4 b l[i] i4 (eU r ?_);refine(p l[i] (qf b) j c).mono ?_;rintro _ y ⟨rfl,u⟩;have m:=c.up u.ac;refine⟨_,i4,bc (λd=>⟨⟨i,i4,?_⟩,m⟩) λd=>?_⟩
   ·rw[zY.2 ⟨_,qf b,d⟩];exact hU i5
   ·refine⟨i+1,j0,⟨i5,?_,m⟩,i5⟩;rw[aD _ _ b,yU,a,xp,xt,d];rfl
  ·have t:¬(i:Int)<(s.len:Int):=e;rw[qg i5]at a;exact⟨⟨-1,i4,q6⟩,c⟩
 ·rintro _ j ⟨⟨i,rfl,n⟩,q⟩;exact⟨i,i4,by rw[n],q⟩
section
variable {pw:f7}
def Ll(f:FuncId)(pre post:Array Value)(N:Int->Int)(l:au)(h:f9):Prop:=∀k∈l,ai xJ f (pre.toList++[Value.int .i64 k]++post.toList).toArray h λv h'=>v=xz xF (N k)/\Sp h h' []
theorem Hp(f:FuncId)(pre post:Array Value)(N:Int->Int)(x:bF)(m:aw)(s:Sl)(l:au)(X:C.fns[f]?=dB eR)(S:St B h0 As λh=>df h x m/\Ll f pre post N l h)(Y:cI m)(hs:Rd h s 1 az l)(hl:i0 l<=2^30)(I:∀k∈l,0<=k/\k<64)(H:aa B h0 h (bg bB a pw (bh x) offs da w ds::As)):
  ai xJ 81 #[xB (dB a),s,.func (.func f) pre post] h λv h'=>v=xD (dm m ds l N)/\Sp h h' []:=by
 refine ts Tryz.func81 ?_ (args:=[(dB a),s,(.func (.func f) pre post)]);refine(Sp.refl h).boxed λr h1 V=>V.boxed λQ T t=>?_;have H2:=H.up t.ac;have g:bT T r 28 [xB (dB a)]:=t.box 0 i4;have P:=t.box 1 i4;refine(Ka 141 #[] #[xB (dB r),xB (dB Q)] (λk=>!mB m ds k (N k)) s l T lb (hs.up t.ac) hl ?_).mono ?_
 ·intro k R h3 i;have K:=H2.up i.ac;have M:=(g.ac i.ac g.lt).cell0 i4;have Z:=(P.ac i.ac P.lt).cell0 i4;obtain⟨ok,u⟩:=aa.cz K;have O:=I k R;refine ts Tryz.func141 ?_ (args:=[(k:Int),r,Q]);obtain⟨n,rfl⟩:∃n:Nat,k=n:=⟨k.toNat,i5⟩
  have G:n<i0 da:=qa
  have cd:cellOf h3 ((a.add 10).add ((n:Int).toNat*1))=dB (.pointer da[n]):=by rw[qj,zV];refine u.tO 10 n ?_;rw[ry ok.l8,qc G];rfl
  obtain⟨ab,E⟩:=S.at [_] K;refine⟨dB a,M,a,i4,⟨i5,i5⟩,da[n],cd,dB a,M,a,i4,x,u.aE _ i4,(f,pre,post),Z,eU X ?_⟩;refine(E n R).mono ?_;rintro _ z ⟨rfl,q⟩;have U:=K.up q.ac;have p:=((g.ac i.ac g.lt).ac q.ac (g.ac i.ac g.lt).lt).cell0 i4;have c:=u.ac q.ac u.lt;have F:cellOf z ((a.add 10).add ((n:Int).toNat*1))=dB (.pointer da[n]):=by rw[qj,zV];refine c.tO 10 n ?_;rw[ry ok.l8,qc G];rfl
  refine⟨_,i4,⟨c.cell0 i4,c.cell i4,c.cell i4,c.cell i4,c.cell i4,c.cell i4,c.cell i4,c.cell i4,p,F,p,trivial⟩,?_⟩;have J:gH da (n:Int)=da[n]:=by unfold gH;rw[g0 i5,qj,qc G];rfl
  rw[<-J];have fin:∀{D:Bool} {j:f9},D=mB m ds n (N n)->Sp z j []->bH.ok [(r,xB (dB a)),(r,xB (dB a))] j/\(Value.bool (!D)=xD (!mB m ds n (N n))/\Sp h3 j []):=λ{D j} he o=>by
   have L:=(g.ac i.ac g.lt).ac q.ac (g.ac i.ac g.lt).lt;have:=(L.ac o.ac L.lt).cell0 i4;exact⟨⟨this,this,trivial⟩,by rw[he],.zip (aa.up q o.ac).ac⟩
  rcases nK ok (n:Int)with⟨e1,e2⟩|⟨n',d,b,e0,e1,e2,e3,e4,e5⟩
  ·rw[e2];refine(Na x _ z).mono ?_;rintro _ j ⟨rfl,o⟩;exact⟨_,i4,fin (by unfold mB;rw[e1]) o⟩
  ·rw[e5];obtain⟨b',e,H5⟩:=Qw.aa.iJ U e2;rw[e4]at e;injection e with e
   injection e with e
   subst e;obtain⟨A,sd,W,y⟩:=aa.oI H5;refine(Dp sd W x m (N n) (y.box 0 i4) ((y.aK 2 [1]).BJ λ_=>rfl) (aa.th (y.aK 2 [1])).1 A (S.at [_] U).1 Y).mono ?_;rintro _ j ⟨rfl,o⟩;exact⟨_,i4,fin (by unfold mB;rw[e3]) o⟩
 ·rintro _ h3 ⟨rfl,i⟩;refine⟨_,i4,?_,.zip (aa.up t i.ac).ac⟩;unfold dm;rw[List.not_any_eq_all_not];simp
theorem Nc(x:bF)(n:Int)(h:f9):ai xJ 55 #[xB eH,fN x,xz xF n] h λv h'=>v=xz xF 5/\Sp h h' []:=by refine ts Tryz.func55 ?_ (.two .n (.two (.join [] [(6,26)] (.inn (.two (.join [(7,nV)] [(7,14)] .n) .n))) .n)) (args:=[(eH:bK),x,(n:Int)]);refine(Sp.refl h).boxed λb c a=>?_;exact aO (aO (bc (λ_=>bc (λ_=>⟨i4,.zip a.ac⟩) λe=>j1) λe=>j1))
theorem SV(m:aw)(N:Int->Int)(l:au)(w:Pow)(ds:aC)(i:Nat)(a:i<i0 l):makes m N (l.drop i) w ds=if(fT m w ds l[i] (N l[i])).1=0 then makes m N (l.drop (i+1)) (fT m w ds l[i] (N l[i])).2.1 (fT m w ds l[i] (N l[i])).2.2 else fT m w ds l[i] (N l[i]):=by rw[qI a];rfl
theorem Hq(f:FuncId)(pre post:Array Value)(N:Int->Int)(x:bF)(m:aw)(s:Sl)(l:au)(X:C.fns[f]?=dB eR)(M:St B h0 As λh=>df h x m/\Ll f pre post N l h/\Rd h s 1 az l)(Y:cI m)(hl:i0 l<=2^30)(K:∀k∈l,0<=k/\k<64)(H:aa B h0 h (bg bB a pw (bh x) offs da w ds::As)):
  ai xJ 82 #[xB (dB a),s,.func (.func f) pre post] h λv h'=>v=xz xF (makes m N l w ds).1/\aa B h0 h' (bg bB a pw (bh x) offs da (makes m N l w ds).2.1 (makes m N l w ds).2.2::As):=by
 refine ts Tryz.func82 ?_ (.two .n (.two (.two .n (.inn (.loop [(12,aT)] [(6,7),(8,10),(12,34)] (.two .n (.two .n (.two (.inn (.two .n (.two (.join [(9,aT)] [(9,10),(16,30)] .n) .n))) .n)))))) .n)) (args:=[(dB a),s,(.func (.func f) pre post)]);have ad:=(M.at [_] H).2.2.len;obtain⟨Z,T⟩:∃Z,Z=makes m N l w ds:=⟨_,rfl⟩
 rw[<-T];refine aq (λt:Nat×Pow×aC=>(t.1:Int)) (λt h'=>t.1<=i0 l/\Z=makes m N (l.drop t.1) t.2.1 t.2.2/\aa B h0 h' (bg bB a pw (bh x) offs da t.2.1 t.2.2::As)) (λt=>i0 l-t.1) (0,w,ds) i4 ⟨jj,T,H⟩ ?_;rintro⟨i,A,u⟩ h1 ⟨hi,p,F⟩;dsimp only at*;refine ae (λe=>?_) λe=>?_
 ·have q:i<i0 l:=i5
  rw[SV _ _ _ _ _ _ q]at p;obtain⟨ab,I,G⟩:=M.at [_] F;refine G.bo i i4 q l[i] i4 (aO ?_);have D:=K l[i] (qf q);obtain⟨k,L⟩:∃k,k=l[i]:=⟨_,rfl⟩
  have J:k∈l:=by rw[L];exact qf q
  rw[<-L]at p D;rw[<-L];obtain⟨n,rfl⟩:∃n:Nat,k=n:=⟨k.toNat,i5⟩
  obtain⟨ok,z⟩:=aa.cz F;have P:n<i0 da:=qa
  have S:∀{h':f9},bT h' a 127 (cB (bh x) pw offs da)->cellOf h' ((a.add 10).add ((n:Int).toNat*1))=dB (.pointer da[n]):=λ{h'} z=>by
   rw[qj,zV];refine z.tO 10 n ?_;rw[ry ok.l8,qc P];rfl
  refine⟨a,i4,⟨i5,i5⟩,da[n],S z,a,i4,x,z.aE _ i4,eU X ?_⟩;refine(I n J).mono ?_;rintro _ h2 ⟨rfl,R⟩;have Q:=F.up R.ac;have g:=z.ac R.ac z.lt;refine⟨_,i4,⟨g.cell0 i4,g.cell i4,g.cell i4,g.cell i4,g.cell i4,g.cell i4,g.cell i4,g.cell i4,S g,trivial⟩,?_⟩;have O:gH da (n:Int)=da[n]:=by unfold gH;rw[g0 i5,qj,qc P];rfl
  rw[<-O];obtain⟨c,o⟩:∃c,c=fT m A u n (N n):=⟨_,rfl⟩
  rw[<-o]at p;have fin:∀{h3:f9},aa B h0 h3 (bg bB a pw (bh x) offs da c.2.1 c.2.2::As)->bH.ok [] h3/\Br (c.1 !=(0:Int)) (Value.int .i64 c.1=xz xF Z.1/\aa B h0 h3 (bg bB a pw (bh x) offs da Z.2.1 Z.2.2::As))
    (∃r:Nat×Pow×aC,qe xF ((i:Int)+1)=(r.1:Int)/\(r.1<=i0 l/\Z=makes m N (l.drop r.1) r.2.1 r.2.2/\aa B h0 h3 (bg bB a pw (bh x) offs da r.2.1 r.2.2::As))/\l.length-r.1<i0 l-i):=λ{h3} H3=>by
   refine⟨trivial,bz (λy=>?_) λy=>?_⟩
   ·rw[g9 y]at p;rw[p];exact⟨i4,H3⟩
   ·rw[g0 y]at p;exact⟨(i+1,c.2.1,c.2.2),js,⟨i7,p,H3⟩,i7⟩
  rcases nK ok (n:Int)with⟨e1,y⟩|⟨n',d,b,e0,e1,y,e3,e4,e5⟩
  ·rw[y];have E:c=(5,A,u):=by rw[o];unfold fT;rw[e1]
   refine(Nc x _ h2).mono ?_;rintro _ h3 ⟨rfl,W⟩;exact⟨c.1,by rw[E],fin (h3:=h3) (by rw[E];exact Q.up W.ac)⟩
  ·rw[e5];have U:n=n':=i5
   subst U;obtain⟨b',j,H5⟩:=Qw.aa.iJ Q y;rw[e4]at j;injection j with j
   injection j with j
   subst j;have E:c=((fH m A d (N n)).1,(fH m A d (N n)).2.1,u.set n (dB (fH m A d (N n)).2.2)):=by rw[o];unfold fT;rw[e3];simp only[bV,qj]
   refine(JZ x m (N n) (λBs h' hh=>(M (Bs++[_]) h' (by rw[qn];exact hh)).1) Y H5).mono ?_;rintro _ h3 ⟨rfl,V⟩;have H7:=Qw.aa.nJ (k:=bB) (n:=n) e4 V;exact⟨c.1,by rw[E],fin (h3:=h3) (by rw[E];exact H7)⟩
 ·rw[q8 i5]at p;rw[p];exact⟨i4,F⟩
end
def YP(a b:dP):Int:=if fg a.1 b.1 then-1 else if jK a.1 b.1 then 0 else 1
def kr(a b:dP):Bool:=jK a.1 b.1
theorem Nd(a b:dP):YP a b<0↔¬kr b a=eR:=by unfold YP kr jK;cases h:fg a.1 b.1<;>simp;split<;>omega
theorem Dq:Ord kr:=⟨λa b c=>CC a.1 b.1 c.1,λa b=>CD a.1 b.1⟩
abbrev Nf(x:dP):Value:=xE #[xC x.1,xz xF x.2.1,xz xF x.2.2.1,x.2.2.2]
theorem KO(x y:ByteArray)(h:f9):ai xJ 140 #[xC x,xC y] h λv h'=>v=xz xF (if fg x y then-1 else if jK x y then 0 else 1)/\h'=h:=by
 refine ts Tryz.func140 ?_;have a:∀z:ByteArray,ai xJ 208 #[xC z] h λv h'=>v=xD eS/\h'=h:=λz=>by
  refine ts Tryz.func208 ?_;exact⟨jj,i4⟩
 refine(a x).mono ?_;rintro _ _ ⟨rfl,rfl⟩;refine⟨_,i4,(a y).mono ?_⟩;rintro _ _ ⟨rfl,rfl⟩;refine⟨_,i4,bc (λe=>j1) λ_=>bc (λe=>j1) λ_=>?_⟩;have c:Op.bytesLess x.toList y.toList=fg x y:=rfl;rw[Lh,c];have d:(!Op.bytesLess y.toList x.toList)=jK x y:=rfl;rw[d];refine bc (λe=>⟨oi,i4⟩) λe=>aU (λb=>⟨by rw[e,b];rfl,i4⟩) λb=>⟨by rw[e,b];rfl,i4⟩
theorem SX(a b:dP)(h:f9):ai xJ 139 #[Nf a,Nf b] h λv h'=>v=xz xF (YP a b)/\Sp h h' []:=by refine ts Tryz.func139 ?_ (args:=[a,b]);refine(Sp.refl h).boxed λf i d=>d.boxed λg e c=>?_;refine⟨a.1,(c.box 0 i4).cell0 i4,b.1,(c.box 1 i4).cell0 i4,(KO a.1 b.1 e).mono ?_⟩;rintro _ _ ⟨rfl,rfl⟩;exact⟨_,i4,i4,.zip c.ac⟩
abbrev xM(s:Sl)(d:List dP):HP:=an 111 s 4 cD d
variable {h':f9} {s:Sl}
section
variable {d:List dP}
theorem Pc{c d:List dP}{y:dP}(b:Sd kr (c++d))(f:∀z∈c,kr z y=eR)(g:∀z∈d,¬kr z y=eR):Sd kr (c++y::d):=
 Sd.app Dq b.left (zu.2 ⟨λz a=>Dq.Cy (g z a),b.right⟩) λx e z a=>by
  rcases qX.1 a with rfl|a
  ·exact f x e
  ·exact b.Ei x e z a
theorem Hr(X M Y:List dP)(a b:Int)(ha:a=(i0 X:Int))(hb:b=(i0 X+i0 M:Nat))(ad:i0 X+i0 M+i0 Y<=2^40)(H:aa B h0 h (xM s (X++(M++Y))::As)):
  ai xJ 258 #[s,xz xF a,xz xF b,.func (.func 139) #[] #[]] h λv h'=>v=.tuple #[]/\∃M',Sd kr M'/\co kr M M'/\aa B h0 h' (xM s (X++(M'++Y))::As):=by
 refine ts Tryz.func258 ?_ (.two .n (.inn (.loop [(8,aT)] [(8,10),(12,53)] (.two .n (.two (.inn (.two .n (.inn (.loop [(9,aT)] [(9,10),(18,53)] (.two (.join [] [(18,35)] .n) .n))))) .n))))) (args:=[s,(a:Int),(b:Int),(.func (.func 139) #[] #[])]);subst ha;subst hb;rw[af ((i0 X:Int)+1)];refine aq (λt:Nat×List dP=>((i0 X+1+t.1:Nat):Int)) (λt h'=>(t.1+1<=i0 M∨t.1=0)/\Sd kr t.2/\co kr (M.take (t.1+1)) t.2/\t.2.length=i0 (M.take (t.1+1))/\aa B h0 h' (xM s (X++(t.2++(M.drop (t.1+1)++Y)))::As)) (λt=>i0 M-t.1) (0,M.take 1) i4 ?_ ?_
 ·refine⟨.inr i4,?_,co.refl _,i4,?_⟩
  ·cases M with
   |nil=>exact List.Pairwise.nil
   |cons x M=>exact zu.2 ⟨λ_ h=>m0,jj⟩
  ·rw[<-qn (M.take (0+1)),List.take_append_drop];exact H
 rintro⟨t,P⟩ h1 ⟨ht,E,r,Z,U⟩;dsimp only at*;refine ae (λe=>?_) (λe=>?_)
 ·have I:t+1<i0 M:=i5
  obtain⟨y,hy⟩:∃y,y=M[t+1]:=⟨_,rfl⟩
  have L:i0 P=t+1:=by rw[Z];simp;omega
  have eD:M.drop (t+1)=y::M.drop (t+1+1):=by rw[qI I,hy]
  rw[eD]at U;refine aq (λu:List dP×List dP=>((i0 X+i0 u.1:Nat):Int)) (λu h'=>u.1++u.2=P/\(∀z∈u.2,¬kr z y=eR)/\aa B h0 h' (xM s (X++(u.1++(y::(u.2++(M.drop (t+1+1)++Y)))))::As)) (λu=>i0 u.1) (P,[]) (by dsimp only;rw[L];congr 1;omega) ⟨jj,jj,by simpa using U⟩ ?_;rintro⟨c,d⟩ h2 ⟨J,f,N⟩;dsimp only at*;have ah:i0 c+i0 d=t+1:=by rw[<-L,<-J,qp]
  have k:∀{h':f9},(∀z∈c,kr z y=eR)->aa B h0 h' (xM s (X++(c++(y::(d++(M.drop (t+1+1)++Y)))))::As)->
    ∃l:Nat×List dP,qe xF (((i0 X+1+t:Nat):Int)+1)=((i0 X+1+l.1:Nat):Int)/\((l.1+1<=i0 M∨l.1=0)/\Sd kr l.2/\co kr (M.take (l.1+1)) l.2/\l.2.length=i0 (M.take (l.1+1))/\aa B h0 h' (xM s (X++(l.2++(M.drop (l.1+1)++Y)))::As))/\M.length-l.1<i0 M-t:=λ{h'} hle H'=>by
   refine⟨(t+1,c++y::d),by dsimp only;rw[af _];omega,⟨.inl i7,?_,?_,?_,?_⟩,i7⟩
   ·exact Pc qb hle f
   ·try dsimp only
    rw[aD M (t+1) I,<-hy];have h1:co kr (M.take (t+1)++[y]) (P++[y]):=r.app (co.refl _);refine h1.trans ?_;rw[<-J,qn];have h2:co kr (d++[y]) ([y]++d):=co.UH Dq λx hx z O=>by rw[qx.1 O];exact f x hx
    exact(co.refl _).app h2
   ·(try dsimp only);simp;omega
   ·try dsimp only
    have:X++((c++y::d)++(M.drop (t+1+1)++Y))=X++(c++(y::(d++(M.drop (t+1+1)++Y)))):=jj
    rw[this];exact H'
  obtain⟨D,R⟩:∃D,D=X++(c++(y::(d++(M.drop (t+1+1)++Y)))):=⟨_,rfl⟩
  refine bE (λ_ h'=>∃(Q:List dP) (z:dP),c=Q++[z]/\¬kr z y=eR/\aa B h0 h' (xM s D::As)) ?_ ?_
  ·rw[<-R]at N k;refine ae (λS=>?_) (λS=>⟨trivial,k (λz O=>?_) N⟩)
   ·have K:c≠[]:=λh=>by rw[h]at S;simp at S
    obtain⟨Q,z,p⟩:∃(Q:List dP) (z:dP),c=Q++[z]:=⟨c.dropLast,c.getLast K,(List.dropLast_concat_getLast K).symm⟩
    have ab:i0 c=i0 Q+1:=by rw[p];simp
    have g1:D[i0 X+i0 c]?=dB y:=by rw[R,qi i5,show X.length+i0 c-i0 X=i0 c by omega,qi i5,qZ];rfl
    have g2:D[i0 X+i0 c-1]?=dB z:=by rw[R,qi i5,show X.length+i0 c-1-i0 X=i0 Q by omega,p,qn,qi (qk _),qZ];rfl
    obtain⟨V,q⟩:=ql.1 g1;obtain⟨T,F⟩:=ql.1 g2;refine(N.seq 0 i4 λ_=>rfl).dY (g:=cD) _ i4 V y (by rw[q]) ?_;have ej:qe xF (((i0 X+i0 c:Nat):Int)-1)=((i0 X+i0 c-1:Nat):Int):=j5
    rw[ej];refine(N.seq 0 i4 λ_=>rfl).dY (g:=cD) _ i4 T z (by rw[F]) (eU lb ?_);refine(SX y z h2).mono ?_;rintro _ h3 ⟨rfl,R3⟩;have G:=N.up R3.ac;refine⟨_,i4,trivial,ae (λW=>⟨Q,z,p,(Nd y z).1 W,G⟩) λW=>k (λw m=>?_) G⟩;have o:kr z y=eR:=by
     by_cases hc:kr z y=eR
     ·exact hc
     ·exact absurd ((Nd y z).2 hc) W
    rw[p]at m;rcases qw.1 m with m|m
    ·refine Dq.trans _ _ _ ?_ o;have:Sd kr (Q++[z]):=by rw[<-p];exact Sd.left (v:=d) qb
     exact this.Ei w m z jj
    ·rw[qx.1 m];exact o
   ·have:c=[]:=by
     cases c with
     |nil=>rfl
     |cons x P=>exfalso;simp only[zc]at S;omega
    rw[this]at O;cases O
  ·rintro _ h3 ⟨Q,z,p,o,G⟩;have ab:i0 c=i0 Q+1:=by rw[p];simp
   have A:D=(X++Q)++z::([]++y::(d++(M.drop (t+1+1)++Y))):=by rw[R,p];simp
   obtain⟨q1,q2,q3,q4⟩:=MM (X++Q) [] (d++(M.drop (t+1+1)++Y)) z y (i:=i0 X+i0 c-1) (j:=i0 X+i0 c) i9 i9;rw[<-A]at q1 q2 q3 q4;obtain⟨T,F⟩:=ql.1 q1;obtain⟨V,q⟩:=ql.1 q2;have ej:qe xF (((i0 X+i0 c:Nat):Int)-1)=((i0 X+i0 c-1:Nat):Int):=j5
   rw[ej];refine(G.seq 0 i4 λ_=>rfl).dY (g:=cD) _ i4 T z (by rw[F]) ?_;refine(G.seq 0 i4 λ_=>rfl).dY (g:=cD) _ i4 V y (by rw[q]) ?_;refine G.set ag 0 i4 (λ_=>rfl) i4 (i0 X+i0 c) i4 V z i4 i4 i4 λh4 H4=>⟨trivial,?_⟩
   refine H4.set ag 0 i4 (λ_=>rfl) i4 (i0 X+i0 c-1) i4 (by simpa using T) y i4 i4 i4 λh5 H5=>⟨trivial,?_⟩
   refine⟨(Q,z::d),by dsimp only;congr 1;omega,⟨by dsimp only;rw[<-J,p];simp,?_,?_⟩,i7⟩
   ·try dsimp only
    intro w m;rcases qX.1 m with rfl|m
    ·exact o
    ·exact f w m
   ·try dsimp only
    have:X++(Q++(y::(z::d++(M.drop (t+1+1)++Y))))=(X++Q)++y::([]++z::(d++(M.drop (t+1+1)++Y))):=jj
    rw[this,<-q4];exact H5
 ·refine⟨i4,P,E,?_,?_⟩
  ·rw[qg i5]at r;exact r
  ·rw[q8 i5]at U;simpa using U
theorem Ng(r:Nat)(h:f9)(c:r<=2^32):ai xJ 98 #[xz xI r] h λv h'=>(∃k:Int,v=xz xF k)/\h'=h:=by intro w a;refine(Tryz.bits_Len (r:Int) w i5 i5).mono ?_;rintro e b ⟨rfl,rfl⟩;exact⟨_,i4,cX.refl _,⟨_,i4⟩,a⟩
theorem SY(d:List dP)(m:i0 d<=12)(H:aa B h0 h (xM s d::As)):
  ai xJ 138 #[s,.func (.func 139) #[] #[]] h λv h'=>v=.tuple #[]/\aa B h0 h' (xM s (d.mergeSort kr)::As):=by
 refine ts Tryz.func138 ?_ (args:=[s,(.func (.func 139) #[] #[])]);have j:=(H.own 0 i4).len;have a:∀k:Int,ai xJ 207 #[s,xz xF 0,xz xF (s.len:Nat),xz xF k,.func (.func 139) #[] #[]] h λv h'=>v=.tuple #[]/\aa B h0 h' (xM s (d.mergeSort kr)::As):=λk=>by
  refine ts Tryz.func207 ?_ (.two .n (.two .n (.inn (.loop [(1,aT),(2,aT),(3,aT),(10,nV),(11,nV)] [(1,4),(10,148)] (.inn (.two .n (.two .n (.two .n (.two (.join [(3,aT)] [(3,4),(38,47)] .n) (.two .n (.two (.join [(13,aT),(14,aT)] [(13,15),(55,68)] .n) (.two (.join [] [(68,81)] .n) (.two (.join [(1,aT)] [(1,2),(15,16),(81,105)] (.two (.join [(97,nV)] [(81,98)] .n) .n)) .n))))))))))))) (args:=[s,(0:Int),((s.len:Nat):Int),(k:Int),(.func (.func 139) #[] #[])]);refine aq (λ_:Unit=>((0:Int),((s.len:Nat):Int),k,eR,eR)) (λ_ h'=>h'=h) (λ_=>0) () i4 i4 ?_;rintro _ g rfl;refine ae (λ_=>?_) λe=>absurd (show qe xF (((s.len:Nat):Int)-0)<=12 by rw[af _];omega) e;refine(Hr [] d [] 0 (s.len:Nat) i4 (by simp[j]) i9 l4).mono ?_;rintro _ l ⟨rfl,M,i,f,b⟩;refine⟨(),i4,i4,?_⟩;rw[<-aal Dq i f];simpa using b
 have c:qe xI ((s.len:Nat):Int)=((s.len:Nat):Int):=by unfold qe;simp[qG,y9];omega
 rw[c];refine(Ng s.len h i5).mono ?_;rintro _ g ⟨⟨k,rfl⟩,rfl⟩;refine⟨k,i4,(a k).mono ?_⟩;rintro _ l ⟨rfl,b⟩;exact⟨(),i4,i4,b⟩
end
def adT:bF:=(0,0,0,0,0,0,⟨eH,0,0⟩,⟨eH,0,0⟩)
theorem Pd{m:aw}{e:Qw.ci}{xe:dP}{L:List (dP×Qw.ci)}{pool:List (Sl×au)}(i:L.map zH=m.objs)(j:∀p∈L,Bf pool p)(h:Bf pool (xe,e)):
  ∃g:List (dP×Qw.ci),g.map qL=(L.map qL++[xe]).mergeSort kr/\g.map zH=(m.objs++[e]).mergeSort pV/\∀p∈g,Bf pool p:=by
 have c:∀p∈L++[(xe,e)],Bf pool p:=λp d=>by
  rcases qw.1 d with d|d
  ·exact j p d
  ·rw[qx.1 d];exact h
 refine⟨(L++[(xe,e)]).mergeSort λa b=>kr a.1 b.1,?_,?_,λp d=>c p ((yi _ _).mem_iff.1 d)⟩
 ·rw[vI (r:=λa b=>kr a.1 b.1) (s:=kr) (f:=qL) λa _ b _=>rfl,qT];rfl
 ·rw[vI (r:=λa b=>kr a.1 b.1) (s:=pV) (f:=zH) (λa l b k=>by unfold kr pV;rw[(c a l).1.1,(c b k).1.1]),qT,i];rfl
theorem VP(x:bF)(m:aw)(xe:dP)(e:Qw.ci)(F:df h x m)(G:cI m)(hs:0<=m.seq/\m.seq<=2^40)(Z:0<=m.next/\m.next<=2^40)(V:m.objs.length<=11)(z:xe.1=e.name/\xe.2.1=e.object/\xe.2.2.1=e.length)(H:aa B h0 h (pm xe.2.2.2 1 az e.tries::As)):
  ai xJ 79 #[fN x,Nf xe] h λv h'=>∃y:bF,v=fN y/\aa B h0 h' (cU y (dh m e)::As):=by
 refine ts Tryz.func79 ?_ (args:=[x,xe]);refine(Sp.refl h).boxed λa1 h1 Q=>Q.boxed λM h2 O=>O.alloc ag i4 λa3 h3 n=>?_;refine⟨x,(n.box 0 i4).aE _ i4,(pA x m h3 (F.up n.ac) G).mono ?_⟩;rintro _ W ⟨y,L,pool,rfl,g,t,w,K⟩;have S:=((n.bX [1,2]).comp K).front;refine⟨y,i4,S.alloc ag i4 λD X q=>?_⟩;have q:=q.aY;refine q.storeAll ag 0 i4 i4 (bh y) i4 i4 i4 i4 λY r=>?_;refine⟨y.1,(r.box 0 i4).cell0 i4,?_⟩;have N:qe xF (y.1+1)=m.seq+1:=by rw[g.1,af _]
 have A:qe xF (y.2.1+1)=m.next+1:=by rw[g.2.1,af _]
 try dsimp only
 rw[N];refine r.gA ag 0 i4 i4 [xz xF (m.seq+1)] i4 i4 i4 k7 λh7 u=>?_;refine⟨y.2.1,(u.box 0 i4).cell i4,?_⟩
 try dsimp only
 rw[A];refine u.store ag 0 i4 i4 1 [xz xF (m.next+1)] i4 i4 i4 k7 λh8 k=>?_;have U:L.length=m.objs.length:=by rw[<-t,qy]
 refine⟨y.2.2.2.2.2.2.2,(k.box 0 i4).cell i4,xe,(k.box 4 i4).aE _ i4,?_⟩;refine k.push ag 3 i4 YD i4 i6 (λ_=>rfl) QF xe i4 i6 i9 λo R j=>?_;refine j.store ag 0 i4 i4 7 [o] i4 i4 i4 k7 λl b=>?_;obtain⟨c,a⟩:∃c:bF,c=(m.seq+1,m.next+1,y.2.2.1,y.2.2.2.1,y.2.2.2.2.1,y.2.2.2.2.2.1,y.2.2.2.2.2.2.1,o):=⟨_,rfl⟩
 have J:c.2.2.2.2.2.2.1=y.2.2.2.2.2.2.1:=by rw[a]
 have T:c.2.2.2.2.2.2.2=o:=by rw[a]
 have b:Sp h l [av D 85 (bh c),kp 1 az pool,an 3 c.2.2.2.2.2.2.1 1 az m.drives,an 111 c.2.2.2.2.2.2.2 4 cD (L.map qL++[xe]),av M 111 (cD xe),av a3 85 (bh adT)]:=by rw[J,T,a];exact b
 refine⟨c.2.2.2.2.2.2.2,(b.box 0 i4).cell i4,?_⟩;have b:=b.aK 6 [3,0,1,2,4,5];refine(SY (L.map qL++[xe]) i9 b).mono ?_;rintro _ E ⟨rfl,f⟩;refine⟨(),i4,c,(f.box 1 i4).aE _ i4,?_⟩;refine f.storeAll ag 5 i4 i4 (bh c) i4 i4 i4 i4 λP d=>?_;refine⟨c,(d.box 5 i4).aE _ i4,c,i4,?_⟩;obtain⟨L',l1,l2,I⟩:=Pd (pool:=(xe.2.2.2,e.tries)::pool) (m:=m) (e:=e) (xe:=xe) t (λp s=>⟨(w p s).1,qz _ (w p s).2⟩) ⟨z,qF⟩;have i:=((H.comp (d.bX [2,3,0])).front).aK 4 [0,3,1,2];have i:=aa.QH i;rw[<-l1]at i;refine aa.FP (m:=dh m e) ⟨q6,q6,by rw[a];exact g.2.2.1,by rw[a];exact g.2.2.2⟩ l2 I i
section
variable {pw:f7}
theorem aa.VQ{x y:bF}(H:aa B h0 h (bg bB a pw (bh x) offs da w ds::As)){K:Unit->f9->Prop}(d:∀h',aa B h0 h' (bg bB a pw (bh y) offs da w ds::As)->K () h'):
  aj xJ (qE 85 (xB (dB a)) (fN y)) h K:=by
 obtain⟨ok,c⟩:=Qw.aa.nI H;refine c.gA ag 0 i4 i4 (bh y) i4 i4 i4 jj λh' b=>d h' ?_;exact aa.nW (k:=bB) ⟨i4,ok.la,ok.ls,ok.same⟩ b
theorem Hs(x z:bF)(b:aw)(s:Sl)(l:au)(m:St B h0 As λh=>df h z b/\Rd h s 1 az l)(j:cI b)(t:i0 l<=2^10)(o:∀k∈l,0<=k/\k<64)(H:aa B h0 h (bg bB a pw (bh x) offs da w ds::As)):
  ai xJ 83 #[xB (dB a),fN z,s] h λv h'=>v=xz xF (layAll (bC b l) w ds).1/\
   ((layAll (bC b l) w ds).1≠0->aa B h0 h' (bg bB a pw (bh x) offs da (layAll (bC b l) w ds).2.1 (layAll (bC b l) w ds).2.2::As))/\
   ((layAll (bC b l) w ds).1=0->∃y,aa B h0 h' (bg bB a pw (bh y) offs da (layAll (bC b l) w ds).2.1 (layAll (bC b l) w ds).2.2::cU y b::As)):=by
 refine ts Tryz.func83 ?_ (args:=[(dB a),z,s]);refine H.boxed λM A c=>?_;have c:=c.aY;refine⟨z,(c.box 0 i4).aE _ i4,(ES z b s l A (m.at [_,_] c).1 j (m.at [_,_] c).2 t).mono ?_⟩;rintro _ N ⟨r,F,rfl,E⟩;have D:=(c.bR E).aK 3 [2,0,1];have d:=jw b j;have p:=wi t d;refine⟨r,i4,(Df r F (bC b l) (St.ee 0 i4 λ_ g=>g) (by rw[xL];omega) (λq g=>?_) D).mono ?_⟩
 ·obtain⟨n,i⟩:=kD g;rw[i];exact⟨o _ n,i6⟩
 rintro _ h3 ⟨rfl,f⟩;obtain⟨R,G⟩:∃R,R=layAll (bC b l) w ds:=⟨_,rfl⟩
 rw[<-G]at f⊢;refine⟨_,i4,bz (λe=>⟨i4,λ_=>f.aK 3 [0],λh=>absurd h e⟩) λe=>?_⟩;refine⟨z,(f.box 2 i4).aE _ i4,(GY z b h3 (m.at [_,_,_] f).1 j).mono ?_⟩;rintro _ K ⟨y,rfl,u⟩;have I:=(f.bR u).aK 4 [1,0];refine⟨y,i4,a,i4,aa.VQ I λL J=>?_⟩;exact⟨by rw[e],λh=>absurd e h,λ_=>⟨y,J⟩⟩
def gf(name:ByteArray)(e:Qw.ci):Bool:=e.name.toList==name.toList
theorem find_spec(x:bF)(m:aw)(name:ByteArray)(s:df h x m)(r:cI m)(H:aa B h0 h (bg bB a pw (bh x) offs da w ds::As)):
  ai xJ 85 #[xB (dB a),xC name] h λv h'=>(∃i:Int,v=xz xF i/\SM (gf name) m.objs i)/\Sp h h' []:=by
 refine ts Tryz.func85 ?_;refine(Sp.refl h).boxed λe l b=>?_;have k:bT l e 9 [xC name]:=b.box 0 i4;obtain⟨ok,j⟩:=aa.cz H;have f:=j.ac b.ac j.lt;have d:=r.ob;refine⟨a,i4,x.2.2.2.2.2.2.2,f.cell i4,?_⟩;refine(ET 143 #[] #[xB (dB e)] (gf name) x.2.2.2.2.2.2.2 m.objs l lb (s.up b.ac).objs d ?_).mono ?_
 ·intro u E o g q y;refine ts Tryz.func143 ?_ (args:=[u,e]);refine(Sp.refl o).boxed λz h3 c=>?_;have n:=(k.ac g.ac k.lt)
  have p:=n.ac c.ac n.lt;refine⟨u.1,(c.box 0 i4).cell0 i4,name,p.cell0 i4,?_,.zip c.ac⟩;unfold gf;rw[q.1.1]
 ·rintro _ o ⟨⟨i,rfl,t⟩,g⟩;exact⟨i,i4,⟨i,i4,t⟩,.zip (aa.up b g.ac).ac⟩
theorem Dr{b:aR}(H:aa B h0 h (bg bB a pw b offs da w ds::As)):ai xJ 84 #[xB (dB a)] h λv h'=>v=xD (dn w offs)/\h'=h:=by refine ts Tryz.func84 ?_;refine bc (λe=>j1) λ_=>(pD H).mono ?_;rintro _ _ ⟨rfl,rfl⟩;exact⟨_,i4,i4,i4⟩
def de(m:aw)(down:Bool)(ds:aC)(name:ByteArray)(n:Nat):Int:=
 if down then 14 else if !mb name then 3 else if m.objs.any (gf name)then 4
 else if m.p.1*m.p.2.2*8<(n:Int)∨12<=i0 m.objs then 6
 else if aN ds m.drives=[]∨16777215<m.next∨2147483647<=m.seq then 7 else 0
theorem Nh(x:bF)(m:aw)(name:ByteArray)(s:Sl)(n:Nat)(Z:s.len=n)(F:name.size<=2^40)(O:df h x m)(I:cI m)(M:bx m.p=eR)(H:aa B h0 h (bg bB a pw (bh x) offs da w ds::As)):
  ai xJ 75 #[xB (dB a),xC name,s] h λv h'=>v=xz xF (de m (dn w offs) ds name n)/\Sp h h' []:=by
 refine ts Tryz.func75 ?_ (.two .n (.two (.inn (.two .n (.two .n (.two .n (.two .n (.two .n (.two .n (.two (.join [(19,nV)] [(19,46)] .n) .n)))))))) .n));have U:=(bN m.p).1 M;refine(Dr H).mono ?_;rintro _ E ⟨rfl,rfl⟩;refine⟨_,i4,bc (λe=>⟨by unfold de;rw[e];rfl,Sp.refl _⟩) λl=>?_⟩;refine(JV name E F).mono ?_;rintro _ h2 ⟨rfl,o⟩;refine⟨_,i4,aU (λe=>⟨by unfold de;rw[l,e];rfl,o⟩) λu=>?_⟩;have J:=H.up o.ac;have k:=O.up o.ac;refine(find_spec x m name k I J).mono ?_;rintro _ h3 ⟨⟨i,rfl,S⟩,q⟩;have D:Sp E h3 []:=.zip (aa.up o q.ac).ac;have d:=MT S;refine⟨i,i4,bc (λe=>⟨by unfold de;rw[l,u,<-d,e];rfl,D⟩) λR=>?_⟩;rw[R]at d;have K:=J.up q.ac;have b:=k.up q.ac;obtain⟨ok,g⟩:=aa.cz K;have V:=bD.len b.objs;have G:x.2.2.1=m.p.1:=congrArg (·.1) b.p;have y:x.2.2.2.2.1=m.p.2.2:=congrArg (·.2.2) b.p;have hk:m.p.1*m.p.2.2<=16*24:=Int.mul_le_mul i5 i5 i5 i5;have Q:0<=m.p.1*m.p.2.2:=vQ i5 i5;refine bE (λ(t:Bool) h'=>t=decide (m.p.1*m.p.2.2*8<(n:Int)∨12<=i0 m.objs)/\h'=h3) ?_ ?_
 ·refine⟨a,i4,x.2.2.1,g.cell i4,a,i4,x.2.2.2.2.1,by rw[addr_add];exact g.cell i4,?_⟩
  try dsimp only
  rw[G,y,af (m.p.1*m.p.2.2),af (m.p.1*m.p.2.2*8)];refine ae (λe=>⟨(hU (.inl i5)).symm,i4⟩) λe=>?_;refine⟨a,i4,x.2.2.2.2.2.2.2,g.cell i4,?_,i4⟩;rw[decide_eq_decide];omega
 rintro t _ ⟨rfl,rfl⟩;refine ae (λe=>⟨by unfold de;rw[l,u,<-d,g0 e];rfl,D⟩) λT=>?_;have P:de m (dn w offs) ds name n=if aN ds m.drives=[]∨16777215<m.next∨2147483647<=m.seq then 7 else 0:=by unfold de;rw[l,u,<-d,g9 T];rfl
 rw[P];refine(dM x m b I K).mono ?_;rintro _ L ⟨r,rfl,A⟩;have j:=(A.own 0 i4).len;have c:Sp E L []:=.zip (aa.up D A.ac).ac;have f:=g.ac A.ac g.lt;refine⟨r,i4,bf (λe=>⟨by rw[g0 (.inl (qW i5))],c⟩) λe=>?_⟩;have z:aN ds m.drives≠[]:=λX=>by rw[X]at j;simp at j;omega
 refine⟨a,i4,x.2.1,f.cell i4,ae (λe=>⟨by rw[g0 (.inr (.inl (by rw[<-b.next];omega)))],c⟩) λe6=>?_⟩;have N:=b.next;have W:=b.seq;refine⟨a,i4,x.1,f.cell0 i4,ae (λe=>⟨by rw[g0 (.inr (.inr i5))],c⟩) λY=>⟨?_,c⟩⟩;rw[g9];rintro(h|h|h)
 ·exact z h
 ·omega
 ·omega
end
theorem Ni:∃i a,C.T.get 34=dB i/\i.cj=.slice a:=⟨_,_,i4,i4⟩
def nZ(A B:aI)(k:Nat):aI:=eT (A.take k) (B.take k)++A.drop k
theorem rz{A B:aI}(h:i0 B=i0 A)(k:Nat):i0 (nZ A B k)=i0 A:=by simp[nZ,eT,h];omega
theorem VR{A B:aI}(h:i0 B=i0 A){k:Nat}(a:k<i0 A):(nZ A B k)[k]?=dB A[k]:=by
 have:i0 (eT (A.take k) (B.take k))=k:=by simp[eT];omega
 rw[nZ,qi i5,this,qZ,wO,wJ,qc a]
theorem VS{A B:aI}(h:i0 B=i0 A){k:Nat}(a:k<i0 A):(nZ A B k).set k (A[k]++B[k]'(by omega))=nZ A B (k+1):=by
 have b:i0 (eT (A.take k) (B.take k))=k:=by simp[eT];omega
 rw[nZ,qQ _ _ i5,b,qZ,qI a,zh,nZ,aD _ _ a,aD _ _ (show k<i0 B by omega),eT,eT,yF i9,qn];rfl
theorem VT{A B:aI}(h:i0 B=i0 A):nZ A B A.length=eT A B:=by rw[nZ,qU,<-h,qU,h,List.drop_length,qH]
theorem SZ(f:f7)(a b:Sl)(A B:aI)(n w:Nat)(h:f9)(hf:fG h f)(L:fA h a 1 aB A)(S:fA h b 1 aB B)(hl:i0 A=n)(ay:i0 B=n)(g:aQ n A)(I:aQ w B)(a0:1<=n)(hn:n+w<=64)(hr:bL A=n):
  ai xJ 194 #[xB (dB f),a,b] h λv h'=>∃r:Sl,v=.tuple #[r,xz xF 0]/\Sp h h' [gn 34 r 1 aB (gg n A B)]:=by
 have d:i0 B=i0 A:=i5
 have Q:=L.len;have z:=S.len;refine ts Tryz.func194 ?_ (.two .n (.two (.join [] [(6,8),(17,37)] .n) (.two .n (.two .n (.two (.two .n (.inn (.loop [(43,aT)] [(10,11),(43,59)] .n))) (.two .n (.two .n (.two (.two .n (.inn (.loop [(71,aT)] [(6,8),(13,14),(71,79)] .n))) (.two .n (.two (.two .n (.inn (.loop [(14,cF),(83,aT)] [(14,15),(16,17),(83,95)] .n))) .n))))))))));refine aO ?_;refine(mA a A n h L g).mono ?_;rintro v h1 ⟨rfl,rfl⟩;refine⟨_,i4,aU (λe=>j1) λ_=>?_⟩;refine(mA b B w h1 S I).mono ?_;rintro v N ⟨rfl,rfl⟩;refine⟨_,i4,aU (λe=>j1) λ_=>?_⟩;refine bz (λe=>absurd (by rw[Q,z,d]) e) λ_=>?_;refine bf (λe=>i5) λ_=>?_;refine(pG a A N L).mono ?_;rintro v h3 ⟨rfl,rfl⟩;have Z:eC A=n:=by
  cases A with
  |nil=>simp at hl;omega
  |cons x t=>rw[eC,bm jj];exact g _ jj
 refine⟨_,i4,?_⟩;rw[Z];refine(tU a A n h3 L g).mono ?_;rintro v h4 ⟨r,rs,rfl,a2,R4⟩;refine⟨r,i4,?_⟩;have am:=(R4.own 0 i4).len;refine aq (λt:Nat×List Sl=>(t.1:Int)) (λt h'=>t.1<=n/\t.2.length=n/\Sp h3 h' (mZ r t.2 (nZ A B t.1))) (λt=>n-t.1) (0,rs) i4 ⟨jj,i7,by simpa[nZ,eT]using R4⟩ ?_;rintro⟨k,rs⟩ h5 ⟨hk,a4,F⟩;dsimp only at*;have j:i0 rs=i0 (nZ A B k):=n4
 refine ae (λe=>?_) (λe=>?_)
 ·have E:k<n:=i5
  have q:k<i0 A:=i5
  have K:=nX (a:=r) j k n4;have eg:(nZ A B k)[k]'(by rw[rz d];omega)=A[k]:=by have:=VR d q;rw[qc n4]at this;exact zQ.inj this
  rw[eg]at K;have l1:A[k].length=n:=g _ (qf _);have l2:i0 (B[k]'(by omega))=w:=I _ (qf _);refine(F.seq 0 i4 λ_=>rfl).mY k i4 i5 λa1 ad X=>?_;refine(S.up F.ac).get k i4 i5 λrb ab=>?_;refine F.append ag (k+1) K gp Ni i4 i6 (λ_=>rfl) ab gJ i5 λJ h6 H6=>⟨trivial,?_⟩
  refine H6.set ag 0 i4 (λ_=>rfl) i4 k i4 i5 J i4 i4 i4 λV H7=>⟨trivial,?_⟩
  refine⟨(k+1,rs.set k J),js,⟨i7,lz,?_⟩,i7⟩
  try dsimp only
  rw[<-VS d q];show Sp h3 V (an 34 r 1 bi (rs.set k J)::bt 5 1 aB (rs.set k J) ((nZ A B k).set k _));rw[<-kz j];exact H7
 ·have W:k=i0 A:=i5
  subst W;rw[VT d]at F;refine(rS f h5).mono ?_;rintro v h6 ⟨rfl,rfl⟩;refine⟨dB f,i4,?_⟩;have p:=mv d.symm g I;have a3:=lT d.symm;refine(wX (m:=eT A B) (n:=n+w) hf hf.lt i5 p i5 i5 i5 F).mono ?_;rintro v V ⟨i,rfl,ao,y⟩;rw[Fx d.symm g,hr];refine⟨_,i4,?_⟩
  try dsimp only
  have ah:=(y.own 0 i4).cap;have a5:=(y.own 0 i4).len;have N:=gI p n;refine ae (λe=>absurd (show(n:Int)<(n:Int)from e) i5) λ_=>?_;refine⟨⟨z8 _,yY.2 (show n<=r.len by omega)⟩,?_⟩;refine aq (λ_:Unit=>(0:Int)) (λ_ h'=>h'=V) (λ_=>0) () i4 i4 ?_;rintro _ h8 rfl;rw[qj];refine ae (λe=>i5) λ_=>?_;refine⟨⟨z8 _,yY.2 (show n<=r.cap by omega)⟩,?_⟩;obtain⟨M,H⟩:∃M,M=(bA (eT A B) n).2:=⟨_,rfl⟩
  have a8:i0 M=n:=by have:=N.2;rw[<-H]at this;omega
  have T:aQ (n+w) M:=by rw[H];exact N.1
  have D:∀k (hk:k<n),(gg n A B).take (k+1)=(gg n A B).take k++[(M[k]'(by omega)).drop n]:=λk hk=>by
   have e1:gg n A B=M.map (List.drop n):=by rw[gg,<-H,qg i5]
   rw[e1,aD _ _ i9,wV]
  have ap:i0 (gg n A B)=n:=(sO d.symm g I hr).1;rw[<-H]at y;refine aq (λt:Sl×Nat=>(t.1,(t.2:Int))) (λt h'=>t.2<=n/\Sp h8 h' [gn 34 t.1 1 aB ((gg n A B).take t.2)]) (λt=>n-t.2) (⟨eH,0,0⟩,0) i4 ⟨jj,(Sp.refl h8).GA 34 1 aB⟩ ?_;rintro⟨s,k⟩ h9 ⟨a6,G⟩;dsimp only at*;have HH:=y.comp G;have Y:i0 i=i0 M:=i5
  refine ae (λe=>?_) (λe=>?_)
  ·have E:k<n:=i5
   have K:=nX (a:=r) Y k i5;have u:(mZ r i M++[gn 34 s 1 aB ((gg n A B).take k)])[k+1]?=dB (an 5 (i[k]'(by omega)) 1 aB (M[k]'(by omega))):=by rw[qm (by simp[bt];omega)];exact K
   have ax:i0 (M[k]'(by omega))=n+w:=T _ (qf _);have l:=HH.own (k+1) u;have P:=HH.seq (k+1) u λ_=>rfl;have al:=l.len;have o:=(HH.seq 0 i4 λ_=>rfl).take n i5;rw[qg i5]at o;refine o.mY k i4 i5 λa1 ad X=>?_;refine⟨⟨z8 _,yY.2 i5⟩,?_⟩;refine(eK _ _ h9 (P.drop n l.cap) i9).mono ?_;rintro v a7 ⟨c,rfl,R⟩;have O:=(G.comp R).freeze 1 i4 λ_=>rfl;refine⟨c,i4,?_⟩;refine O.sK ag 0 1 i6 i4 i4 fu i9 λs' ar U=>?_;refine⟨(s',k+1),js,⟨i7,?_⟩,i7⟩
   try dsimp only
   rw[D k E];exact U.del 1
  ·rw[qg i5]at G;refine⟨s,i4,?_⟩;have:=(Sp.zip y.ac).comp G;exact this
def iv(p:Pm)(seed:Int)(l:Nat):Int:=if bx p&&decide ((l:Int)=p.1*p.2.2)then(if fq p seed (eF p)then 0 else 8)else 1
abbrev Ds(p:Pm)(seed:Int)(m:Sl):aR:=[xz xF p.1,xz xF p.2.1,xz xF p.2.2,xz xH seed,m]
theorem Nj(p:Pm)(seed:Int)(data:Sl)(d:Row)(h:f9)(hd:Rd h data 1 aB d)(hc:data.len<=data.cap):
  ai xJ 133 #[jv p,xz xH seed,data] h λv h'=>
   (iv p seed d.length=0->∃(b:f7) (m:Sl),v=.tuple #[xB (dB b),xz xF 0]/\Sp h h' [gn 34 m 1 aB (dj p seed d),av b 256 (Ds p seed m)])/\
   (iv p seed d.length≠0->v=.tuple #[xB eH,xz xF (iv p seed d.length)]/\Sp h h' []):=by
 have U:=hd.len;refine ts Tryz.func133 ?_ (.two .n (.two (.join [] [(6,8),(12,25)] .n) (.two .n (.two .n (.two (.two .n (.inn (.loop [(8,cF),(31,aT)] [(8,9),(31,40)] .n))) (.two (.two .n (.inn (.loop [(8,cF),(42,aT)] [(8,10),(42,60)] .n))) (.two (.join [(10,cF),(11,aT)] [(10,12),(60,71)] .n) .n))))))) [(15,(.l [1,2,3,6,0,4,5,7,8,9,10,11,12]))] (args:=[p,(xz xH (seed:Int)),data]);refine(Sp.refl h).boxed λa h1 H1=>?_;refine aO ?_;refine⟨p,(H1.box 0 i4).aE _ i4,(dO p h1).mono ?_⟩;rintro v h2 ⟨rfl,R2⟩;have O:=H1.comp R2;have W:∀{h3:f9} (x:Int),x≠0->iv p seed d.length=x->Sp h h3 [av a 25 [xz xF p.1,xz xF p.2.1,xz xF p.2.2]]->
   (iv p seed d.length=0->∃(b:f7) (m:Sl),Value.tuple #[xB eH,xz xF x]=.tuple #[xB (dB b),xz xF 0]/\Sp h h3 [gn 34 m 1 aB (dj p seed d),av b 256 (Ds p seed m)])/\
   (iv p seed d.length≠0->Value.tuple #[xB eH,xz xF x]=.tuple #[xB eH,xz xF (iv p seed d.length)]/\Sp h h3 []):=λx hx R H=>by
  refine⟨λe=>absurd (R.symm.trans e) hx,λ_=>⟨by rw[R],.zip H.ac⟩⟩
 refine⟨_,i4,aU (λe=>W 1 i6 (by rw[iv,e];rfl) O) λS=>?_⟩;have ao:=(bN p).1 S;obtain⟨K,hK⟩:∃K:Nat,p.1=K:=⟨p.1.toNat,i5⟩
 obtain⟨y,hH⟩:∃H:Nat,p.2.1=H:=⟨p.2.1.toNat,i5⟩
 obtain⟨w,N⟩:∃w:Nat,p.2.2=w:=⟨p.2.2.toNat,i5⟩
 have al:K*w<=16*24:=wi i5 i5;have M:p.1*p.2.2=((K*w:Nat):Int):=by rw[hK,N,wA]
 refine⟨p.1,(O.box 0 i4).cell0 i4,p.2.2,(O.box 0 i4).cell i4,?_⟩
 try dsimp only
 rw[M,af _];refine bz (λe=>W 1 i6 (by rw[iv,S,hZ (by rw[M];intro e2;exact e (by rw[U];exact e2))];rfl) O) λel=>?_;have G:i0 d=K*w:=i5
 refine⟨p,(O.box 0 i4).aE _ i4,(Ho p seed h2).mono ?_⟩;rintro v h3 ⟨rfl,R3⟩;have Y:=O.comp R3;have D:iv p seed d.length=if fq p seed (eF p)then 0 else 8:=by rw[iv,S,hU (by rw[M,G])];rfl
 refine⟨_,i4,aU (λe=>W 8 i6 (by rw[D,e];rfl) Y) λhf=>?_⟩;rw[hf,g0 rfl]at D;have B:bU p seed d K y w (K+y):=⟨S,hf,hK,hH,N,i4,i5,i5,i5,i5,i5,i5,G⟩
 refine⟨p.2.1,(Y.box 0 i4).cell i4,?_⟩;refine aq (λt:Sl×List Sl=>(t.1,(i0 t.2:Int))) (λt h'=>i0 t.2<=y/\Sp h h' (av a 25 [xz xF p.1,xz xF p.2.1,xz xF p.2.2]::mZ t.1 t.2 (qh t.2.length (aG w)))) (λt=>y-i0 t.2) (⟨eH,0,0⟩,[]) i4 ⟨jj,Y.nil 34 1 bi⟩ ?_;rintro⟨s,rs⟩ h4 ⟨hk,P⟩;dsimp only at*;refine ae (λe=>?_) (λe=>?_)
 ·refine⟨p.2.2,(P.box 0 i4).cell i4,?_⟩;refine P.make ag aB gp i6 0 i4 i4 w w N N (qk _) i5 λz h5 ar ap E=>?_;refine E.push ag 1 i4 fu i4 i6 (λ_=>rfl) jG z i4 i6 i5 λs' h6 X=>?_;refine⟨(s',rs++[z]),by dsimp only;rw[af _];simp,⟨i9,?_⟩,i9⟩
  try dsimp only
  have e7:mZ s' (rs++[z]) (qh rs.length (aG w)++[aG w])=an 34 s' 1 bi (rs++[z])::(bt 5 1 aB rs (qh rs.length (aG w))++[an 5 z 1 aB (aG w)]):=congrArg _ (ta jj z (aG w));rw[show(rs++[z]).length=i0 rs+1 by simp,List.replicate_succ',e7];exact X
 ·have L:i0 rs=y:=i5
  rw[L]at P;refine⟨p.1,(P.box 0 i4).cell0 i4,?_⟩;let own:=bt 5 1 aB rs (qh y (aG w));refine aq (λt:Sl×Nat=>(t.1,(t.2:Int))) (λt h'=>t.2<=K/\Sp h h' (av a 25 [xz xF p.1,xz xF p.2.1,xz xF p.2.2]::an 34 t.1 1 bi (rs++(qt t.2).map (IA data w))::own)) (λt=>K-t.2) (s,0) i4 ⟨jj,by simpa using P⟩ ?_;rintro⟨t,k⟩ h5 ⟨am,E⟩;dsimp only at*;refine ae (λe2=>?_) (λe2=>?_)
  ·have ah:k<K:=i5
   have m1:(k+1)*w<=K*w:=zq w ah;have m2:k*w<=(k+1)*w:=zq w i5;refine⟨p.2.2,(E.box 0 i4).cell i4,p.2.2,(E.box 0 i4).cell i4,?_⟩;rw[af ((k:Int)+1)];have e5:(k:Int)*p.2.2=((k*w:Nat):Int):=by rw[N,wA]
   have e6:((k:Int)+1)*p.2.2=(((k+1)*w:Nat):Int):=by rw[N,wA];rfl
   try dsimp only
   rw[e5,e6,sh _,sh _,qj,qj];refine⟨⟨z8 _,yY.2 m2,yY.2 i5⟩,?_⟩;refine E.push ag 1 i4 fu i4 i6 (λ_=>rfl) jG (IA data w k) i4 i6 i9 λt' h6 X=>?_;refine⟨(t',k+1),i4,⟨i7,?_⟩,i7⟩
   try dsimp only
   rw[zL,qT,<-qn];exact X
  ·have ad:k=K:=i5
   subst ad;refine aO ?_;have F:fA h5 t 1 aB (ki k y w d):=by
    refine⟨rs++(qt k).map (IA data w),E.seq 1 i4 λ_=>rfl,by rw[CG];simp;omega,λi r l u q=>?_⟩;by_cases I:i<y
    ·rw[qm i5,qc i5]at u;rw[ki,qm (by simpa using I)]at q;have hz:l=aG w:=by simp[I]at q;exact q.symm
     have hr:rs[i]'(by omega)=r:=zQ.inj u;have g:(av a 25 [xz xF p.1,xz xF p.2.1,xz xF p.2.2]::an 34 t 1 bi (rs++(qt k).map (IA data w))::own)[i+2]?=dB (an 5 (rs[i]'(by omega)) 1 aB ((qh y (aG w))[i]'(by simpa using I))):=fU (by simpa using L) i (by simpa using I);have:=E.seq (i+2) g λ_=>rfl;rw[List.getElem_replicate,hr]at this;rw[hz];exact this
    ·obtain⟨j,rfl⟩:∃j,i=y+j:=⟨i-y,i5⟩
     rw[qi i5,L,zk]at u;rw[ki,qi jj,List.length_replicate,zk]at q;have hj:j<k:=by have:=(ql.1 u).1;simpa using this
     simp[hj]at u q;have m1:(j+1)*w<=k*w:=zq w hj;rw[<-u,<-q];exact(Seq.up hd E.ac).piece hc w j i5
   have c:=E.box 0 i4;refine⟨p,c.aE _ i4,p,c.aE _ i4,(oN h5).mono ?_⟩;rintro v h6 ⟨f,rfl,R6⟩;have o:=c.ac R6.ac c.lt;refine⟨dB f,i4,⟨o.cell0 i4,o.cell i4,o.cell i4,o.cell0 i4,o.cell i4,o.cell i4,trivial⟩,(Hm p h6).mono ?_⟩;rintro v h7 ⟨r7,rfl,R7⟩;have Z:=R6.comp R7;have J:=c.ac Z.ac c.lt;refine⟨r7,i4,⟨J.cell0 i4,J.cell i4,J.cell i4,trivial⟩,?_⟩;refine(EU p seed r7 (eF p) h7 (Z.seq 1 i4 λ_=>rfl) (by rw[eF,gK];omega)).mono ?_;rintro v h8 ⟨r8,rfl,R8⟩;have T:=Z.comp R8;refine⟨r8,i4,trivial,?_⟩;refine(SZ f r8 t _ _ (k+y) w h8 (T.box 0 i4) (T.Cm 2 i4) (F.up T.ac) B.CF (by rw[CG]) B.Ep (sn B.len) i5 i5 B.II).mono ?_;rintro v h9 ⟨r9,rfl,R9⟩;have Q9:=T.comp R9;refine⟨(r9,0),i4,trivial,?_⟩;refine bz (λe=>absurd i4 e) λ_=>?_;have ab:=c.ac Q9.ac c.lt;refine⟨p,ab.aE _ i4,?_⟩;refine Q9.boxed (t:=256) λb ax V=>?_;refine⟨λ_=>⟨b,r9,i4,?_⟩,λe=>absurd D e⟩;have Q:=(Sp.zip E.ac).comp V;rw[<-B.BM]at Q;exact Q.take 3 (λi A I=>by
    cases i with
    |zero=>exact I
    |succ i=>cases i with
     |zero=>exact I
     |succ i=>simp at I)
def tW(h:f9)(b:f7)(p:Pm)(seed:Int)(M:aI):Prop:=∃m:Sl,bT h b 256 (Ds p seed m)/\fA h m 1 aB M
theorem tW.up{h h':f9}{b:f7}{p:Pm}{seed:Int}{M:aI}(e:tW h b p seed M)(a:aP (λb=>b<h.size) h h'):tW h' b p seed M:=by obtain⟨m,c,d⟩:=e;exact⟨m,c.ac a c.lt,d.up a⟩
theorem Pe{a t:Row}(b:i0 a=i0 t){k:Nat}(d:k<i0 t):(za (λx y=>y^^^Gf.mul 1 x) (a.take k) (t.take k)++t.drop k).set k (t[k]^^^(a[k]'(by omega)))=za (λx y=>y^^^Gf.mul 1 x) (a.take (k+1)) (t.take (k+1))++t.drop (k+1):=by have:=tV (c:=1) b d;rw[Gf.one_mul]at this;exact this
theorem adU{a t:Row}(b:i0 a=i0 t){k:Nat}(d:k<i0 t):(za (λx y=>y^^^Gf.mul 1 x) (a.take k) (t.take k)++t.drop k)[k]?=dB t[k]:=by
 have c:i0 (za (λx y=>y^^^Gf.mul 1 x) (a.take k) (t.take k))=k:=i9
 rw[qi i5,c,qZ,wO,wJ,qc d]
theorem xN(b:f7)(p:Pm)(seed id:Int)(M:aI)(n w:Nat)(h:f9)(hb:tW h b p seed M)(G:bx p=eR)(Y:p.2.2=w)(hn:(bu p).toNat=n)(P:aQ w M)(hl:i0 M=n):
  ai xJ 135 #[xB (dB b),xz xF id] h λv h'=>∃r:Sl,v=r/\Sp h h' [an 5 r 1 aB (if bJ id then fS w M (cW n seed id)else[])]:=by
 obtain⟨m,g,Z⟩:=hb;have ah:=Z.len;have ao:=(bN p).1 G;have hc:bu p=p.1+p.2.1:=by rw[bu,g0 G]
 refine ts Tryz.func135 ?_ (.two .n (.two (.join [] [(4,5),(10,20)] .n) (.two .n (.two (.two .n (.inn (.loop [(37,aT)] [(7,10),(37,63)] (.two .n (.two .n (.two (.inn (.two .n (.two .n (.inn (.loop [(49,aT)] [(8,10),(49,62)] .n))))) .n)))))) .n)))) [(4,(.l [0,1,2,3,4,5,6,7,8,11,9,10]))];have Q:bJ id=eS->∃r:Sl,Value.slice eH 0 0=xA r.ptr r.len r.cap/\Sp h h [an 5 r 1 aB (if bJ id then fS w M (cW n seed id)else[])]:=λe=>by
  rw[e];exact⟨⟨eH,0,0⟩,i4,(Sp.refl h).nil 5 1 aB⟩
 refine aO (bc (λe=>j1) λ_=>ae (λe=>Q l0) λe1=>ae (λe=>Q l0) λU=>?_);have hid:bJ id=eR:=l0
 refine⟨b,i4,p.2.2,g.cell i4,?_⟩;refine(Sp.refl h).make ag aB gp i6 0 i4 i4 w w Y Y (qk _) i5 λo h1 ap ad X=>?_;have z:=g.ac X.ac g.lt;refine⟨b,i4,p,z.aE _ i4,b,i4,seed,z.cell i4,(uM p seed id h1).mono ?_⟩;rintro v h2 ⟨c,rfl,W⟩;rw[G,hid,xn,g0 rfl,hn]at W;rw[hid,g0 rfl];have N:=X.comp W;obtain⟨d,q⟩:∃d,d=cW n seed id:=⟨_,rfl⟩
 have u:∀x∈d,0<=x/\x<(n:Int):=λx V=>mj i5 i5 (by rw[<-q];exact V);have T:i0 d<=n:=by rw[q];exact ux i5 i5 _ _
 rw[<-q]at N⊢;have ab:=(N.seq 1 i4 λ_=>rfl).len;refine⟨c,i4,trivial,?_⟩;refine aq (λi:Nat=>(i:Int)) (λi h'=>i<=i0 d/\Sp h h' [an 5 o 1 aB (fS w M (d.take i)),an 3 c 1 az d]) (λi=>i0 d-i) 0 i4 ⟨i5,N⟩ ?_;rintro i h3 ⟨F,s⟩;refine ae (λe=>?_) (λe=>?_)
 ·have j:i<i0 d:=i5
  have V:=u _ (qf j);refine(s.seq 1 i4 λ_=>rfl).bo i i4 j _ i4 ?_;have H:=g.ac s.ac g.lt;refine⟨b,i4,m,H.cell i4,?_⟩;obtain⟨am,O⟩:=Z;refine(O.ac s.ac).get d[i].toNat i5 i5 λr R K=>?_;have E:=O.row _ r _ K (qc (show d[i].toNat<i0 M by omega));obtain⟨row,f⟩:∃row,row=M[d[i].toNat]'(by omega):=⟨_,rfl⟩
  have ar:i0 row=w:=by rw[f];exact P _ (qf _)
  rw[<-f]at R E;obtain⟨S,J⟩:∃S,S=fS w M (d.take i):=⟨_,rfl⟩
  have ax:i0 S=w:=by rw[J];exact oz P hl u i F
  have al:=R.len;have U:fS w M (d.take (i+1))=cK 1 row S:=by rw[aD _ _ j,AS,J,f,bm i5]
  rw[<-J]at s;refine aq (λk:Nat=>(k:Int)) (λk h'=>k<=w/\Sp h h' [an 5 o 1 aB (za (λx y=>y^^^Gf.mul 1 x) (row.take k) (S.take k)++S.drop k),an 3 c 1 az d]) (λk=>w-k) 0 i4 ⟨i5,by simpa using s⟩ ?_;rintro k h4 ⟨hk,D⟩;have L:=E.ac D.ac;have ay:i0 (za (λx y=>y^^^Gf.mul 1 x) (row.take k) (S.take k)++S.drop k)=w:=i9
  refine ae (λe3=>?_) (λe3=>?_)
  ·have a0:k<w:=i5
   have B:(za (λx y=>y^^^Gf.mul 1 x) (row.take k) (S.take k)++S.drop k)[k]'(by omega)=S[k]'(by omega):=by have:=adU (a:=row) (t:=S) i5 (show k<i0 S by omega);rw[qc i5]at this;exact zQ.inj this
   refine L.bo k i4 i5 _ i4 ?_;refine(D.seq 0 i4 λ_=>rfl).bo k i4 i5 _ i4 ?_;rw[B,mz];refine D.set ag 0 i4 (λ_=>rfl) i4 k i4 i5 _ i4 i4 i4 λh5 H5=>?_;refine⟨k+1,j0,⟨i5,?_⟩,i5⟩;rw[<-Pe i5 (show k<i0 S by omega)];exact H5
  ·have I:k=w:=i5
   subst I;rw[qg i5,qg i5,q8 i5,qH]at D;refine⟨i+1,j0,⟨i5,?_⟩,i5⟩;rw[U];exact D
 ·rw[qg i5]at s;exact⟨o,i4,s.take 0 λi A F=>by cases i with|zero=>exact F|succ i=>simp at F⟩
theorem bU.iv{p:Pm}{seed:Int}{d:Row}{K H w n:Nat}(B:bU p seed d K H w n):iv p seed d.length=0:=by rw[Qw.iv,B.may,B.full,B.len,B.k,B.s,hU (by rw[wA])];rfl
theorem adV{p:Pm}{seed:Int}{d:Row}{K H w n:Nat}(B:bU p seed d K H w n)(data:Sl)(h:f9)(e:Rd h data 1 aB d)(a:data.len<=data.cap):
  ai xJ 133 #[jv p,xz xH seed,data] h λv h'=>
   ∃(b:f7) (m:Sl),v=.tuple #[xB (dB b),xz xF 0]/\Sp h h' [gn 34 m 1 aB (dj p seed d),av b 256 (Ds p seed m)]:=
 (Nj p seed data d h e a).mono λ_ _ c=>c.1 B.iv
theorem bU.symbol{p:Pm}{seed:Int}{d:Row}{K H w n:Nat}(B:bU p seed d K H w n)(b:f7)(id:Int)(h:f9)(a:tW h b p seed (dj p seed d)):
  ai xJ 135 #[xB (dB b),xz xF id] h λv h'=>∃r:Sl,v=r/\Sp h h' [an 5 r 1 aB (if bJ id then fS w (dj p seed d) (cW n seed id)else[])]:=
 xN b p seed id _ n w h a B.may B.s B.oA B.nh.2 B.nh.1
def Ao(s:BN):aR:=[.complex .f64 s.ax s.ay,.complex .f64 s.sx s.sy,xz xF s.left,xz xF s.leg,xD s.second]
theorem oa{o:Option Nat}(h:o.isSome=eR):o=dB (o.getD 0):=by
 cases o with
 |none=>cases h
 |some x=>rfl
theorem Ta(h:f9):ai xJ 254 #[] h λv h'=>∃a:f7,v=xB (dB a)/\Sp h h' [av a 330 (Ao fs0)]:=by refine ts Tryz.func254 ?_;refine(Sp.refl h).boxed (t:=330) λa c b=>?_;exact⟨a,i4,b⟩
theorem VU(a b:Nat)(h:f9)(j:(gO.mul a 0).isSome=eR)(g:(gO.mul b oB).isSome=eR)(h3:(gO.sub (rL a 0) (rL b oB)).isSome=eR)(i:(gO.mul a oB).isSome=eR)(c:(gO.mul b 0).isSome=eR)(f:(gO.add (rL a oB) (rL b 0)).isSome=eR):
  ai xJ 312 #[.complex .f64 a b,xz xF 1] h λv h'=>v=.complex .f64 (tx a b) (ty a b)/\h'=h:=by
 refine ts Tryz.func312 ?_ (.two .n (.two (.two .n (.inn (.loop [(0,(.sc (.cpx .f64))),(9,aT)] [(0,1),(9,14)] .n))) .n)) (args:=[(.complex .f64 (a,b).1 (a,b).2),(1:Int)]);refine⟨i6,i6,?_⟩;refine aq (λk:Nat=>(if k=0 then(a,b)else(tx a b,ty a b),(k:Int))) (λk h'=>k<=1/\h'=h) (λk=>1-k) 0 i4 ⟨i5,i4⟩ ?_;rintro k h' ⟨l,rfl⟩;have d:xq (qe xF (xq 1 4+4)) 4=1:=i6
 try dsimp only
 rw[d];refine ae (λe=>?_) (λe=>?_)
 ·have:k=0:=i5
  subst this;refine⟨(tx a b,ty a b),abu (oa j) (oa g) (oa h3) (oa i) (oa c) (oa f),?_⟩;exact⟨1,i4,⟨i5,i4⟩,i5⟩
 ·have:k=1:=i5
  subst this;exact⟨i4,i4⟩
theorem YQ(a:f7)(s:BN)(h:f9)(d:bT h a 330 (Ao s))(c:s.ok=eR):ai xJ 255 #[xB (dB a)] h λv h'=>v=.tuple #[]/\bT h' a 330 (Ao s.on)/\aP (λb=>b≠a.block) h h':=by
 simp only[BN.ok,qu,decide_eq_true_eq]at c;obtain⟨⟨⟨⟨⟨⟨⟨⟨⟨⟨⟨G,y⟩,x⟩,K⟩,z⟩,A⟩,D⟩,u⟩,R⟩,E⟩,F⟩,L⟩:=c;refine ts Tryz.func255 ?_ (.two .n (.two .n (.two .n (.two .n (.two (.join [] [(33,44)] .n) .n)))));have B:aa (λb=>b<h.size/\¬b=a.block) h h [av a 330 (Ao s)]:=.Uu (λb=>b=a.block) (λb m=>by rw[m];exact d.lt) ⟨d,i4⟩;have fin:∀{h':f9},aa (λb=>b<h.size/\¬b=a.block) h h' [av a 330 (Ao s.on)]->Value.tuple #[]=.tuple #[]/\bT h' a 330 (Ao s.on)/\aP (λb=>b≠a.block) h h':=λH=>
  ⟨i4,H.box 0 i4,H.ac.1,λk r l=>H.ac.2 k r ⟨r,l⟩⟩
 refine⟨a,i4,(s.ax,s.ay),d.cell0 i4,a,i4,(s.sx,s.sy),d.cell i4,(nH s.ax s.sx,nH s.ay s.sy),abs (oa G) (oa y),a,i4,?_⟩;refine B.gA ag 0 i4 i4 [.complex .f64 (nH s.ax s.sx) (nH s.ay s.sy)] i4 i4 i4 (by simp[Ao]) λP t=>⟨trivial,?_⟩
 refine⟨a,i4,s.left,(t.box 0 i4).cell (j:=2) i4,a,i4,?_⟩;rw[af (s.left-1)];refine t.storeAt ag 0 i4 i4 (off:=2) i4 i4 i4 (by simp[Ao]) λI f=>?_;refine⟨a,i4,s.left-1,(f.box 0 i4).cell (j:=2) i4,?_⟩;refine ae (λe=>?_) (λe=>?_)
 ·have o:Ao s.on=[.complex .f64 (nH s.ax s.sx) (nH s.ay s.sy),.complex .f64 s.sx s.sy,xz xF (s.left-1),xz xF s.leg,xD s.second]:=by rw[BN.on,g0 e];rfl
  refine fin ?_;rw[o];exact f
 ·refine⟨a,i4,(s.sx,s.sy),(f.box 0 i4).cell (j:=1) i4,(VU s.sx s.sy I x K z A D u).mono ?_⟩;rintro v h3 ⟨rfl,rfl⟩;refine⟨(tx s.sx s.sy,ty s.sx s.sy),i4,a,i4,?_⟩;refine f.storeAt ag 0 i4 i4 (off:=1) i4 i4 i4 (by simp[Ao]) λM g=>?_;refine bE (λ_ h'=>aa (λb=>b<h.size/\¬b=a.block) h h' [av a 330 [.complex .f64 (nH s.ax s.sx) (nH s.ay s.sy),.complex .f64 (tx s.sx s.sy) (ty s.sx s.sy),xz xF (s.left-1),xz xF (if s.second then s.leg+1 else s.leg),xD s.second]]) ?_ ?_
  ·refine⟨a,i4,s.second,(g.box 0 i4).cell (j:=4) i4,bc (λi=>?_) λi=>?_⟩
   ·refine⟨a,i4,s.leg,(g.box 0 i4).cell (j:=3) i4,a,i4,?_⟩;rw[af (s.leg+1)];refine g.storeAt ag 0 i4 i4 (off:=3) i4 i4 i4 (by simp[Ao]) λN J=>?_;rw[g0 i];exact J
   ·rw[g9 (by rw[i];decide)];exact g
  ·rintro _ O p;refine⟨a,i4,s.second,(p.box 0 i4).cell (j:=4) i4,a,i4,?_⟩;refine p.storeAt ag 0 i4 i4 (off:=4) i4 i4 i4 jj λQ q=>?_;refine⟨a,i4,_,(q.box 0 i4).cell (j:=3) i4,a,i4,?_⟩;refine q.storeAt ag 0 i4 i4 (off:=2) i4 i4 i4 jj λh8 w=>?_;have o:Ao s.on=[.complex .f64 (nH s.ax s.sx) (nH s.ay s.sy),.complex .f64 (tx s.sx s.sy) (ty s.sx s.sy),xz xF (if s.second then s.leg+1 else s.leg),xz xF (if s.second then s.leg+1 else s.leg),xD (!s.second)]:=by rw[BN.on,g9 e];rfl
   refine fin ?_;rw[o];exact w
theorem QK(n:Nat)(h:f9)(i:n<64):ai xJ 198 #[xz xF n] h λv h'=>v=.complex .f64 (jt n).ax (jt n).ay/\Sp h h' []:=by
 refine ts Tryz.func198 ?_ (.two .n (.scope 0 [(4,aT)] [(2,3),(4,5),(12,23)] [.n,.n,.n] [.n] []));refine ae (λe=>i5) λ_=>ae (λe=>i5) λ_=>?_;refine(Ta h).mono ?_;rintro v j ⟨a,rfl,f⟩;refine⟨dB a,i4,?_⟩;refine aq (λk:Nat=>(k:Int)) (λk h'=>k<=n/\Sp h h' [av a 330 (Ao (jt k))]) (λk=>n-k) 0 i4 ⟨i5,f⟩ ?_;rintro k g ⟨l,b⟩;refine bf (λe=>?_) (λe=>?_)
 ·have:k=n:=i5
  subst this;exact⟨a,i4,((jt k).ax,(jt k).ay),(b.box 0 i4).cell0 i4,i4,.zip b.ac⟩
 ·refine(YQ a (jt k) g (b.box 0 i4) (aeP k i5)).mono ?_;rintro v h3 ⟨rfl,d,c⟩;refine⟨(),i4,k+1,j0,⟨i5,b.Aa 0 i4 c d⟩,i5⟩
theorem Kb{a b:Int}(e:-4<=a:=by omega)(c:a<=4:=by omega)(h3:-4<=b:=by omega)(d:b<=4:=by omega):gO.sub (cL a) (cL b)=dB (cL (a-b)):=by have:=adj (a+4).toNat i5 (b+4).toNat i5;rw[show((a+4).toNat:Int)-4=a by omega,show((b+4).toNat:Int)-4=b by omega,show((a+4).toNat:Int)-((b+4).toNat:Int)=a-b by omega]at this;exact this
theorem Kc{a:Int}(c:-8<=a:=by omega)(b:a<=8:=by omega):gO.mul (cL a) (cL a)=dB (cL (a*a)):=by have:=adk (a+8).toNat i5;rw[show((a+8).toNat:Int)-8=a by omega]at this;exact this
theorem Nk(a:Int):((a.natAbs:Nat):Int)*(a.natAbs:Nat)=a*a:=Int.natAbs_mul_self
theorem VV{a b:Int}(e:-8<=a)(c:a<=8)(h3:-8<=b)(d:b<=8):gO.add (cL (a*a)) (cL (b*b))=dB (cL (a*a+b*b)):=by have:=adl a.natAbs i5 b.natAbs i5;rw[Nk,Nk]at this;exact this
def Dt(i j:Nat):Int:=((gh i).x-(gh j).x)*((gh i).x-(gh j).x)+((gh i).y-(gh j).y)*((gh i).y-(gh j).y)
theorem aaT{a:Int}(c:-8<=a)(b:a<=8):0<=a*a/\a*a<=64:=by rw[<-Nk,<-wA];have:a.natAbs*a.natAbs<=8*8:=wi i5 i5;omega
theorem uO{n:Nat}(h:n<64):(jt n).ax=cL (gh n).x/\(jt n).ay=cL (gh n).y/\-4<=(gh n).x/\(gh n).x<=4/\-4<=(gh n).y/\(gh n).y<=4:=by have:=adi n h;simp only[qu,decide_eq_true_eq,beq_iff_eq]at this;obtain⟨⟨⟨⟨⟨a,b⟩,c⟩,d⟩,e⟩,f⟩:=this;exact⟨a,b,c,d,e,f⟩
theorem VW{i j:Nat}(c:i<64)(d:j<64):0<=Dt i j/\Dt i j<=128:=by have a:=uO c;have b:=uO d;have f:=aaT (a:=(gh i).x-(gh j).x) i5 i5;have e:=aaT (a:=(gh i).y-(gh j).y) i5 i5;unfold Dt;omega
theorem YR(i j:Nat)(h:f9)(e:i<64)(f:j<64):ai xJ 199 #[.complex .f64 (jt i).ax (jt i).ay,.complex .f64 (jt j).ax (jt j).ay] h λv h'=>v=.float .f64 (cL (Dt i j))/\h'=h:=by
 have a:=uO e;have b:=uO f;refine ts Tryz.func199 ?_ (args:=[(.complex .f64 ((jt i).ax,(jt i).ay).1 ((jt i).ax,(jt i).ay).2),(.complex .f64 ((jt j).ax,(jt j).ay).1 ((jt j).ax,(jt j).ay).2)]);have d:gO.sub (jt i).ax (jt j).ax=dB (cL ((gh i).x-(gh j).x)):=by rw[a.1,b.1];exact Kb
 have c:gO.sub (jt i).ay (jt j).ay=dB (cL ((gh i).y-(gh j).y)):=by rw[a.2.1,b.2.1];exact Kb
 refine⟨(cL ((gh i).x-(gh j).x),cL ((gh i).y-(gh j).y)),abt d c,_,Kc,_,Kc,_,VV i5 i5 i5 i5,i4,i4⟩
abbrev aaU:bO C.toxZ 22 3 1 [xz xF 0] 8:=⟨_,_,i4,i4,i4,i4,i4,i4⟩
def mC(a b:Int):Int:=if a<b then-1 else if a>b then 1 else 0
theorem Nl(m:Nat)(h:f9)(a:m<129):ai xJ 257 #[.float .f64 (cL (m:Nat))] h λv h'=>v=xD eS/\h'=h:=by refine ts Tryz.func257 ?_;have:=UW m a m a;rw[show(FloatKind.format .f64).order (cL (m:Nat)) (cL (m:Nat))=dB (compare m m)from this,Nat.compare_eq_eq.2 rfl];exact⟨i4,i4⟩
theorem VX(m n:Nat)(h:f9)(b:m<129)(c:n<129):ai xJ 203 #[.float .f64 (cL (m:Nat)),.float .f64 (cL (n:Nat))] h λv h'=>v=xz xF (mC m n)/\h'=h:=by
 refine ts Tryz.func203 ?_;refine(Nl m h b).mono ?_;rintro v a ⟨rfl,rfl⟩;refine⟨_,i4,(Nl n a c).mono ?_⟩;rintro v f ⟨rfl,rfl⟩;refine⟨_,i4,bc (λe=>j1) λ_=>bc (λe=>j1) λ_=>?_⟩;have d:(FloatKind.format .f64).order (cL (m:Nat)) (cL (n:Nat))=dB (compare m n):=UW m b n c;rw[d];rcases Nat.lt_trichotomy m n with a|a|a
 ·rw[Nat.compare_eq_lt.2 a];refine bc (λ_=>⟨by rw[mC,g0 i5],i4⟩) (λe=>j1)
 ·subst a;rw[Nat.compare_eq_eq.2 rfl];refine bc (λe=>j1) λ_=>bc (λe=>j1) λ_=>⟨by rw[mC,g9 i5,g9 i5],i4⟩
 ·rw[Nat.compare_eq_gt.2 a];refine bc (λe=>j1) λ_=>bc (λ_=>⟨by rw[mC,g9 i5,g0 i5],i4⟩) (λe=>j1)
theorem Kd(m:Int)(h:f9):ai xJ 234 #[xz xF m] h λv h'=>v=xD eS/\h'=h:=by refine ts Tryz.func234 ?_;exact⟨jj,i4⟩
theorem VY(m n:Int)(h:f9):ai xJ 204 #[xz xF m,xz xF n] h λv h'=>v=xz xF (mC m n)/\h'=h:=by refine ts Tryz.func204 ?_;refine(Kd m h).mono ?_;rintro v b ⟨rfl,rfl⟩;refine⟨_,i4,(Kd n b).mono ?_⟩;rintro v c ⟨rfl,rfl⟩;refine⟨_,i4,bc (λe=>j1) λ_=>bc (λe=>j1) λ_=>?_⟩;refine ae (λe=>⟨by rw[mC,g0 e],i4⟩) λe=>ae (λa=>⟨by rw[mC,g9 e,g0 a],i4⟩) λa=>⟨by rw[mC,g9 e,g9 a],i4⟩
def QL(a b:Int):Int:=if a≠0 then a else b
theorem abK(s:Sl)(a b:Int)(h:f9)(f:Rd h s 1 az [a,b]):ai xJ 202 #[s] h λv h'=>v=xz xF (QL a b)/\h'=h:=by
 refine Af s ?_;have m:s.len=2:=f.len;refine aq (λk:Nat=>(k:Int)) (λk h'=>h'=h/\k<=2/\(1<=k->a=0)/\(2<=k->b=0)) (λk=>2-k) 0 i4 ⟨i4,i5,i5,i5⟩ ?_;rintro k h' ⟨rfl,l,g,j⟩;refine ae (λe=>?_) (λe=>?_)
 ·rcases(show k=0∨k=1 by omega)with rfl|rfl
  ·refine f.bo 0 i4 jj a i4 ?_;refine bz (λc=>⟨by rw[QL,g0 c],i4⟩) λc=>?_;exact⟨1,i4,⟨i4,i5,λ_=>c,i5⟩,i5⟩
  ·refine f.bo 1 i4 jj b i4 ?_;have d:=g i5;refine bz (λc=>⟨by rw[QL,g9 (by simp[d])],i4⟩) λc=>?_;exact⟨2,i4,⟨i4,i5,λ_=>d,λ_=>c⟩,i5⟩
 ·have d:=g i5;have i:=j i5;exact⟨by rw[QL,g9 (by simp[d]),i],i4⟩
abbrev Fr:=Int×Fin 129
def tZ(x:Fr):aR:=[xz xF x.1,.float .f64 (cL ((x.2:Nat):Int))]
def ua(x y:Fr):Int:=QL (mC (x.2:Nat) (y.2:Nat)) (mC x.1 y.1)
theorem Nm(x y:Fr)(h:f9):ai xJ 201 #[xE (tZ x).toArray,xE (tZ y).toArray] h λv h'=>v=xz xF (ua x y)/\aP (λb=>b<h.size) h h':=by
 refine ts Tryz.func201 ?_ .n [(1,(.l [0,1,2,3,5,6,7,8,4,9,10,11,12]))] (args:=[(xE #[(x.1,cL ((x.2:Nat):Int)).1,(.float .f64 (x.1,cL ((x.2:Nat):Int)).2)]),(xE #[(y.1,cL ((y.2:Nat):Int)).1,(.float .f64 (y.1,cL ((y.2:Nat):Int)).2)])]);refine(Sp.refl h).boxed (t:=264) λa m f=>?_;refine f.boxed (t:=264) λb g c=>?_;refine⟨_,(c.box 0 i4).cell (j:=1) i4,_,(c.box 1 i4).cell (j:=1) i4,_,(c.box 0 i4).cell0 i4,_,(c.box 1 i4).cell0 i4,?_⟩;refine(VX x.2 y.2 g x.2.isLt y.2.isLt).mono ?_;rintro v h3 ⟨rfl,rfl⟩;refine⟨_,i4,⟨(c.box 1 i4).cell0 i4,(c.box 0 i4).cell0 i4,trivial⟩,(VY _ _ h3).mono ?_⟩;rintro v i ⟨rfl,rfl⟩;refine⟨_,i4,trivial,?_⟩;refine c.lit ag az aaU i4 [mC (x.2:Nat) (y.2:Nat),mC x.1 y.1] i4 (show 2*1<=2^20 by decide) i4 λs e d=>⟨trivial,?_⟩
 refine(abK s _ _ e (d.seq 2 i4 λ_=>rfl)).mono ?_;rintro v k ⟨rfl,rfl⟩;exact⟨_,i4,trivial,i4,d.ac⟩
theorem QM{a b:Int}:mC a b<0↔a<b:=by unfold mC;split<;>(try split)<;>omega
theorem Ke{a b:Int}:mC a b=0↔a=b:=by unfold mC;split<;>(try split)<;>omega
theorem aaV{x y:Fr}:ltOf ua x y=eR↔((x.2:Nat):Int)<(y.2:Nat)∨(((x.2:Nat):Int)=(y.2:Nat)/\x.1<y.1):=by
 have h0:ltOf ua x y=eR↔ua x y<0:=by simp[ltOf]
 rw[h0,ua,QL];by_cases h:mC (x.2:Nat) (y.2:Nat)=0
 ·rw[g9 sL,QM];have:=Ke.1 h;constructor
  ·exactλa=>.inr ⟨this,a⟩
  ·rintro(a|a)
   ·omega
   ·exact a.2
 ·rw[g0 h,QM];have b:((x.2:Nat):Int)≠(y.2:Nat):=λe=>h (Ke.2 e);constructor
  ·exact .inl
  ·rintro(a|a)
   ·exact a
   ·exact absurd a.1 b
theorem Du{x y:Fr}:ltOf ua x y=eS↔¬(((x.2:Nat):Int)<(y.2:Nat)∨(((x.2:Nat):Int)=(y.2:Nat)/\x.1<y.1)):=by rw[<-aaV];simp
theorem adW:Sort.SWO (ltOf ua) where
 irrefl x:=Du.2 i5
 trans x y z h1 h2:=by rw[aaV]at*;omega
 ntrans x y z h1 h2:=by rw[Du]at*;omega
theorem adX(x y:Fr)(b:ltOf ua x y=eS)(a:ltOf ua y x=eS):x=y:=by rw[Du]at b a;refine vd i5 (Fin.ext i5)
theorem Nn{e:TypeId}{s:Sl}{l:List Fr}{h:f9}(d:Own h e s 2 tZ l)(a:i0 l<2^40):
  ai xJ 200 #[s,.func (.func 201) #[] #[]] h λv h'=>v=.tuple #[]/\Own h' e s 2 tZ (l.mergeSort λx y=>!(ltOf ua) y x)/\aP (λb=>¬s.on b) h h':=by
 have m:∀x:Fr,i0 (tZ x)=2:=λ_=>rfl;refine KH (P:=xJ) (id_:=200) (g:=201) (enc:=tZ) (k:=2) (cf:=ua) m ?_ ?_ (λx y h=>Nm x y h) d a
 ·intro eV cap l w f n i j;have:=AnyQ.slices_SortFunc_total Tryz.QD 2 Tryz.adx Tryz.abD tZ (λ_=>rfl) (λx v c=>by simp[tZ]at c;rcases c with rfl|rfl<;>rfl) ua adW 201 #[] eV 0 cap l.toArray w (enters_of Tryz.abE j3 i4) o7 n i o5 adX;simp at this;exact this
 ·intro p cap w;exact AnyF.slices_SortFunc_none Tryz.QD p cap _ w
def ub(a:au)(n:Int):au:=if 0<=n/\n<64/\a.contains n=eS then a++[n]else a
def gV(l:au):au:=l.foldl ub []
theorem uP(l:au){k:Nat}(a:k<i0 l:=by omega):gV (l.take (k+1))=ub (gV (l.take k)) l[k]:=by rw[gV,aD _ _ a,zK];rfl
theorem No(l:au):∀k,k<=i0 l->∀x,x∈gV (l.take k)↔x∈l.take k/\0<=x/\x<64
 |0,_,x=>by simp[gV]
 |k+1,hk,x=>by
  have c:=No l k i5;rw[uP l,aD _ _ (show k<i0 l by omega),ub];by_cases h:0<=l[k]/\l[k]<64/\(gV (l.take k)).contains l[k]=eS
  ·rw[g0 h,qw,qw,qx,c x];constructor
   ·rintro(a|rfl)
    ·exact⟨.inl a.1,a.2⟩
    ·exact⟨.inr i4,h.1,h.2.1⟩
   ·rintro⟨a|a,b⟩
    ·exact .inl ⟨a,b⟩
    ·exact .inr a
  ·rw[g9 h,qw,qx,c x];constructor
   ·rintro a;exact⟨.inl a.1,a.2⟩
   ·rintro⟨a|rfl,b⟩
    ·exact⟨a,b⟩
    ·have:(gV (l.take k)).contains l[k]=eR:=by
      cases hc:(gV (l.take k)).contains l[k]with
      |true=>rfl
      |false=>exact absurd ⟨b.1,b.2,hc⟩ h
     exact(c _).1 (by simpa using this)
theorem Ht(l:au):∀k,k<=i0 l->(gV (l.take k)).Nodup
 |0,_=>by simp[gV]
 |k+1,hk=>by
  have c:=Ht l k i5;rw[uP l,ub];split
  ·rename_i h;rw[List.nodup_append];refine⟨c,jj,λa e b d=>?_⟩;rw[qx.1 d];rintro rfl;have:=h.2.2;rw[List.contains_eq_mem]at this;simp[e]at this
  ·exact c
theorem Np(l:au)(k:Nat):i0 (gV (l.take k))<=k:=by
 induction k with
 |zero=>simp[gV]
 |succ k ih=>
  by_cases a:k<i0 l
  ·rw[uP l a,ub];split
   ·simp;omega
   ·omega
  ·rw[qg i5]at ih⊢;omega
def Bi(c:Nat)(n:Int):Fr:=(n,Fin.ofNat 129 (Dt n.toNat c).toNat)
theorem adY{c:Nat}{n:Int}(a:c<64)(d:0<=n)(b:n<64):(((Bi c n).2:Nat):Int)=Dt n.toNat c:=by have:=VW (i:=n.toNat) (j:=c) i5 a;show(((Dt n.toNat c).toNat%129:Nat):Int)=_;omega
def rC(c:Nat)(l:au):au:=(((gV l).map (Bi c)).mergeSort λx y=>!(ltOf ua) y x).map (·.1)
def dt(a block:Int)(l:au):au:=if 0<=a/\a<=16777215/\0<=block/\block<8 then rC ((8*a+block)%64).toNat l else[]
def pZ(a:au):aR:=(qt 64).map λi:Nat=>xD (a.contains (i:Int))
theorem abL(a:au){n:Int}(c:0<=n)(b:n<64):(pZ a)[n.toNat]?=dB (xD (a.contains n)):=by rw[pZ,qO,zn i5,qS,show((n.toNat:Nat):Int)=n by omega]
theorem YS(a:au){n:Int}(d:0<=n)(c:n<64):(pZ a).set n.toNat (xD eR)=pZ (a++[n]):=by
 apply zy;intro i;rw[qV,pZ,pZ,qO,qO,qy,zA];by_cases b:i<64
 ·rw[zn b,qS,qS];by_cases h:n.toNat=i
  ·rw[g0 h,g0 i5,show((i:Nat):Int)=n by omega];simp
  ·rw[g9 h];have:(a++[n]).contains (i:Int)=a.contains (i:Int):=by rw[List.contains_eq_mem,List.contains_eq_mem];simp;omega
   rw[this]
 ·rw[g9 i5,qM i9];rfl
abbrev eFr:bO C.toxZ 259 264 2 [xz xF 0,.float .f64 0] 16:=⟨_,_,i4,i4,i4,i4,i4,i4⟩
theorem adZ:∀x,∀c∈tZ x,c.oneCell'=eR:=by intro x c a;simp[tZ]at a;rcases a with rfl|rfl<;>rfl
theorem EX(b block:Int)(live:Sl)(l:au)(h:f9)(U:Rd h live 1 az l)(W:i0 l<=2^30:=by omega):
  ai xJ 134 #[xz xF b,xz xF block,live] h λv h'=>∃r:Sl,v=r/\Sp h h' [an 3 r 1 az (dt b block l)]:=by
 have ad:=U.len;refine ts Tryz.func134 ?_ (.two .n (.two (.join [] [(6,7),(15,29)] .n) (.two .n (.two .n (.two .n (.two (.two .n (.inn (.loop [(8,cF),(37,aT)] [(8,9),(11,12),(37,65)] (.two .n (.two .n (.two (.inn (.two .n (.two (.join [(52,nV)] [(41,53)] .n) .n))) .n)))))) (.two .n (.two .n (.two (.two .n (.inn (.loop [(12,cF),(69,aT)] [(12,13),(14,15),(69,79)] .n))) .n)))))))));have G:¬(0<=b/\b<=16777215/\0<=block/\block<8)->∃r:Sl,Value.slice eH 0 0=xA r.ptr r.len r.cap/\Sp h h [an 3 r 1 az (dt b block l)]:=λL=>by
  rw[dt,g9 L];exact⟨⟨eH,0,0⟩,i4,(Sp.refl h).nil 3 1 az⟩
 refine aO (ae (λe=>G i5) λe1=>ae (λe=>G i5) λe2=>ae (λe=>G i5) λe3=>ae (λe=>G i5) λe4=>?_);have K:0<=b/\b<=16777215/\0<=block/\block<8:=i5
 rw[dt,g0 K];rw[af (8*b),af (8*b+block),yN i5];obtain⟨c,hc⟩:∃c:Nat,(8*b+block)%64=c:=⟨((8*b+block)%64).toNat,i5⟩
 have j:c<64:=i5
 rw[hc,qj];refine⟨i6,(QK c h j).mono ?_⟩;rintro v h2 ⟨rfl,R2⟩;refine⟨((jt c).ax,(jt c).ay),i4,?_⟩;refine R2.alloc ag i4 λa h3 H3=>?_;have O:Sp h h3 [av a 260 (pZ []),an 264 ⟨eH,0,0⟩ 2 tZ []]:=H3.nil 264 2 tZ;refine aq (λt:Sl×Nat=>(t.1,(t.2:Int))) (λt h'=>t.2<=i0 l/\Sp h h' [av a 260 (pZ (gV (l.take t.2))),an 264 t.1 2 tZ ((gV (l.take t.2)).map (Bi c))]) (λt=>i0 l-t.2) (⟨eH,0,0⟩,0) i4 ⟨jj,O⟩ ?_;rintro⟨s,k⟩ h4 ⟨hk,p⟩;dsimp only at*;have D:=Np l k;refine ae (λe=>?_) (λe=>?_)
 ·have E:k<i0 l:=i5
  have F:=uP l E;obtain⟨f,w⟩:∃f,f=gV (l.take k):=⟨_,rfl⟩
  rw[<-w]at p D F;refine(Seq.up U p.ac).bo k i4 E _ i4 ?_;obtain⟨x,hx⟩:∃x,x=l[k]:=⟨_,rfl⟩
  rw[<-hx]at F⊢;refine bE (λt h'=>(t=eR↔0<=x/\x<64/\f.contains x=eS)/\h'=h4) ?_ ?_
  ·refine ae (λq=>ae (λm=>?_) λm=>⟨⟨λe=>j1,λB=>absurd B.2.1 m⟩,i4⟩) λq=>⟨⟨λe=>j1,λB=>absurd B.1 q⟩,i4⟩;refine⟨⟨q,m⟩,f.contains x,?_,?_,i4⟩
   ·rw[zV];exact(p.box 0 i4).cell (abL f q m)
   ·cases f.contains x<;>simp<;>omega
  ·rintro t h5 ⟨T,rfl⟩;refine bc (λe=>?_) (λe=>?_)
   ·obtain⟨q,m,x2⟩:=T.1 e;refine⟨⟨q,m⟩,?_⟩;rw[zV];refine p.storeAt ag 0 i4 i4 i4 i4 i4 (by simp[pZ];omega) λN u=>?_;have M:Sp h N [av a 260 (pZ (f++[x])),an 264 s 2 tZ (f.map (Bi c))]:=by rw[<-YS f q m];exact u
    obtain⟨n,L⟩:∃n:Nat,x=n:=⟨x.toNat,i5⟩
    subst L;refine(QK n N i5).mono ?_;rintro v V ⟨rfl,R7⟩;refine⟨((jt n).ax,(jt n).ay),i4,(YR n c V i5 j).mono ?_⟩;rintro v h8 ⟨rfl,rfl⟩;have H:=M.up R7.ac;have ev:cL (Dt n c)=cL (((Bi c (n:Int)).2:Nat):Int):=by rw[adY j i5 i5,qj]
    refine⟨_,i4,?_⟩;rw[ev];refine H.push ag 1 i4 eFr i4 i6 (λ_=>rfl) adZ (Bi c (n:Int)) i4 i6 i9 λs' X I=>?_;refine⟨(s',k+1),js,⟨i7,?_⟩,i7⟩
    try dsimp only
    rw[F,ub,g0 ⟨q,m,x2⟩,qT];exact I
   ·refine⟨(s,k+1),js,⟨i7,?_⟩,i7⟩
    try dsimp only
    rw[F,ub,g9 λB=>by rw[T.2 B]at e;cases e];exact p
 have S:k=i0 l:=i5
 subst S;rw[qU]at p D;refine(Nn (p.own 1 i4) i9).mono ?_;rintro v h5 ⟨rfl,Q,P⟩;have R:=p.mK 1 i4 P Q;obtain⟨d,g⟩:∃d,d=((gV l).map (Bi c)).mergeSort λx y=>!(ltOf ua) y x:=⟨_,rfl⟩
 have ab:i0 d=i0 (gV l):=by rw[g,wF,qy]
 have eo:rC c l=d.map (·.1):=by rw[rC,<-g]
 rw[<-g]at R;have Z:=(R.own 1 i4).len;rw[eo];refine⟨(),i4,?_⟩;refine aq (λt:Sl×Nat=>(t.1,(t.2:Int))) (λt h'=>t.2<=i0 d/\Sp h h' [an 264 s 2 tZ d,an 3 t.1 1 az ((d.take t.2).map (·.1))]) (λt=>i0 d-t.2) (⟨eH,0,0⟩,0) i4 ⟨jj,(R.del 0).nil 3 1 az⟩ ?_;rintro⟨o,i⟩ N ⟨J,u⟩;dsimp only at*;refine ae (λe=>?_) (λe=>?_)
 ·have z:i<i0 d:=i5
  refine(u.seq 0 i4 λ_=>rfl).dY i i4 z (d[i].1,cL ((d[i].2:Nat):Int)) i4 ?_;refine u.alloc ag i4 λy V H7=>?_;refine H7.storeAll ag 2 i4 i4 [xz xF d[i].1,.float .f64 (cL ((d[i].2:Nat):Int))] i4 i4 i4 i4 λh8 H=>?_;refine⟨d[i].1,(H.box 2 i4).cell0 i4,?_⟩;refine H.push ag 1 i4 aaU i4 i6 (λ_=>rfl) fx d[i].1 i4 i6 i9 λY X I=>?_;refine⟨(Y,i+1),js,⟨i7,?_⟩,i7⟩
  try dsimp only
  rw[aD _ _ z,qT];exact I.del 2
 ·rw[qg i5]at u;exact⟨o,i4,u.take 1 λi A J=>by cases i with|zero=>exact J|succ i=>simp at J⟩
theorem YT(l:au)(x:Int):x∈gV l↔x∈l/\0<=x/\x<64:=by
 have:=No l l.length (qk _) x
 rwa [qU]at this
theorem abM(l:au):(gV l).Nodup:=by
 have:=Ht l l.length (qk _)
 rwa [qU]at this
theorem Bj(c:Nat)(l:au):(rC c l).Perm (gV l):=by have h:=(yi ((gV l).map (Bi c)) λx y=>!(ltOf ua) y x).map (·.1);rw[w5]at h;have e:((λx:Fr=>x.1)∘Bi c)=id:=rfl;rw[e,List.map_id]at h;exact h
theorem Dv(c:Nat)(l:au)(x:Int):x∈rC c l↔x∈l/\0<=x/\x<64:=by rw[(Bj c l).mem_iff,YT]
theorem YU(c:Nat)(l:au):(rC c l).Nodup:=(Bj c l).nodup_iff.2 (abM l)
def Hu(l:au)(i:Nat):Int:=l.getD i 0
def fI(o:au)(id:Int):Int:=if o=[]∨id<0 then-1 else Hu o (id%(i0 o:Int)).toNat
theorem QN(s:Sl)(o:au)(id:Int)(h:f9)(f:Rd h s 1 az o):ai xJ 136 #[s,xz xF id] h λv h'=>v=xz xF (fI o id)/\h'=h:=by
 have g:=f.len;refine ts Tryz.func136 ?_ (.two .n (.two (.join [] [(4,12)] .n) .n));refine aO (bf (λe=>⟨by rw[fI,g0 (.inl (qW i5))],i4⟩) λe=>ae (λb=>⟨by rw[fI,g0 (.inr b)],i4⟩) λb=>?_);refine⟨e,?_⟩;have d:¬(o=[]∨id<0):=by
  rintro(rfl|h2)
  ·simp at g;omega
  ·exact b h2
 have c:xq id ((s.len:Nat):Int)=((id%(i0 o:Int)).toNat:Int):=by rw[yN i5,g];have:=yk id (show(i0 o:Int)≠0 by omega);omega
 have a:(id%(i0 o:Int)).toNat<i0 o:=by have:=wq id (show(0:Int)<i0 o by omega);omega
 rw[c];refine f.bo _ i4 a _ i4 ⟨?_,i4⟩;rw[fI,g9 d,Hu,qd,qc a];rfl
def rU(p:Pm)(seed:Int)(d:Row)(id:Int):aM:=if bJ id then fS p.2.2.toNat (dj p seed d) (cW (bu p).toNat seed id)else[]
def kW(m:aw)(o b seed:Int)(d:Row)(id:Int):cP:=⟨o,b,id,m.p,seed,rU m.p seed d id⟩
def Hv(m:aw)(o b seed:Int)(d:Row)(order:au)(id:Int):Int×aM:=(fI order id,cT (kW m o b seed d id))
def mD(m:aw)(o:Int)(tries:au)(a:bY)(live:au)(i:Nat):List (Int×aM):=
 (qt (m.p.1+m.extra).toNat).map λid:Nat=>Hv m o i (cb o i (tries.getD i 0)) (a.getD i []) (dt o i live) id
def dF(m:aw)(o:Int)(tries:au)(a:bY)(live:au)(n:Nat):List (Int×aM):=(qt n).flatMap (mD m o tries a live)
theorem rV(m:aw)(o:Int)(tries:au)(a:bY)(live:au)(n:Nat):dF m o tries a live (n+1)=dF m o tries a live n++mD m o tries a live n:=by unfold dF;rw[zL,zf,zd,wj,qH]
theorem Bl(m:aw)(o:Int)(tries:au)(a:bY)(live:au)(i:Nat):i0 (mD m o tries a live i)=(m.p.1+m.extra).toNat:=by simp[mD]
theorem uc(m:aw)(o:Int)(tries:au)(a:bY)(live:au):∀n,i0 (dF m o tries a live n)=n*(m.p.1+m.extra).toNat
 |0=>by simp[dF]
 |n+1=>by rw[rV,qp,uc m o tries a live n,Bl,zI]
theorem jy(o b t:Int):0<=cb o b t/\cb o b t<4294967296:=by unfold cb;omega
section
variable {pw:f7}
theorem KP(x:bF)(m:aw)(xe:dP)(e:Qw.ci)(s:Sl)(b:aM)(hS:St B h0 As λh=>df h x m/\dN jN h xe e/\Rd h s 1 aB b)(bq:s.len<=s.cap)(hz:cI m)(P:bx m.p=eR)(c7:0<=m.extra/\m.extra<=16)(cs:b.length<=2^20)
  (ht:cA m.p e.object (splitB m.p b).length=dB e.tries) (H:aa B h0 h (bg bB a pw (bh x) offs da w ds::As)):
  ai xJ 78 #[xB (dB a),Nf xe,s] h λv h'=>∃(r:Sl) (ys:List (Int×Sl)),v=.tuple #[r,xD eR]/\
   aa B h0 h' (bg bB a pw (bh x) offs da w ds::cJ lZ 2 piv r ys (dF m e.object e.tries (splitB m.p b) (aN ds m.drives) (splitB m.p b).length)::As):=by
 refine ts Tryz.func78 ?_ (.two .n (.two .n (.two .n (.two (.two .n (.inn (.loop [(9,cF),(28,aT)] [(6,8),(9,18),(28,100)] (.two .n (.two .n (.two (.inn (.two .n (.two .n (.two .n (.two .n (.two .n (.two .n (.inn (.loop [(9,cF),(72,aT)] [(9,10),(16,18),(72,99)] (.two .n (.two .n (.two (.inn (.two .n (.two (.join [(17,(.sc .adr))] [(17,18),(75,89)] .n) .n))) .n)))))))))))) .n)))))) .n)))) [(14,(.y [0,1,2,3,4,5,6,7,8,9,10,11] (.l [12,13,14,15]) (.l [14,12,13,15]))),(15,(.l [0,1,2,4,3,5,6,7,8,9]))] (args:=[(dB a),xe,s]);refine H.boxed λa1 h1 H1=>?_;have H1:=H1.aY;have H1:=H1.aK 2 [1,0];refine(dM x m (hS.at [_,_] H1).1 hz H1).mono ?_;rintro _ h2 ⟨lv,rfl,R2⟩;have H2:=(H1.bR R2).aK 3 [1,0,2];obtain⟨ok,ad⟩:=aa.cz H2;obtain⟨b7,c4,br⟩:=hS.at [_,_,_] H2;have al:(x.2.2.1,x.2.2.2.1,x.2.2.2.2.1)=m.p:=b7.p;have cr:=(bN m.p).1 P;obtain⟨s1,s2,s3⟩:=kV P;obtain⟨c1,c2,c3⟩:=lN P b.length;have ca:(aN ds m.drives).length<=m.drives.length:=qJ _ _;have cq:=hz.dr;obtain⟨live,ao⟩:∃live,live=aN ds m.drives:=⟨_,rfl⟩
 rw[<-ao]at H2 ca⊢;obtain⟨c,E⟩:∃c,c=splitB m.p b:=⟨_,rfl⟩
 have cd:c.length<=2^20:=by rw[E];unfold splitB;simp;omega
 have ah:∀r∈c,r.length=dJ m.p:=by rw[E];intro r hr;unfold splitB at hr;obtain⟨i,_,rfl⟩:=qo.1 hr;exact Di _ _ _
 refine⟨lv,i4,a,i4,(x.2.2.1,x.2.2.2.1,x.2.2.2.2.1),⟨by rw[addr_add];exact ad.cell i4,by rw[addr_add];exact ad.cell i4,by rw[addr_add];exact ad.cell i4,trivial⟩,?_⟩;rw[al];refine(OT m.p s b h2 P br bq i5).mono ?_;rintro _ h3 ⟨q,rfl,R3⟩;rw[<-E]at R3 ht⊢;obtain⟨rs,H3⟩:=Qw.aa.aaS (H2.bR R3) λ_=>rfl;have H3:=(H3.Co 134 2 piv lZ).aY;have H3:=H3.aK 5 [2,0,1,3,4];have dd:=(H3.eu 2 i4).1.len;have dk:=(H3.eu 2 i4).2.1;have c8:=jk ht;refine⟨q,i4,?_⟩;obtain⟨j,F⟩:∃j:Nat,j=(m.p.1+m.extra).toNat:=⟨_,rfl⟩
 have M:j<=32:=i5
 refine aq (λt:Sl×Nat=>(t.1,(t.2:Int))) (λt h'=>t.2<=c.length/\aa B h0 h' (bg bB a pw (bh x) offs da w ds::ck 134 t.1 2 piv lZ (dF m e.object e.tries c live t.2)::cJ (uK 1 aB) 1 bi q rs c::an 3 lv 1 az live::av a1 111 (cD xe)::As)) (λt=>c.length-t.2) (⟨eH,0,0⟩,0) i4 ⟨jj,H3⟩ ?_;rintro⟨o,i⟩ h4 ⟨hi,H4⟩;dsimp only at*;refine ae (λe1=>?_) (λe1=>?_)
 ·have Y:i<c.length:=i5
  have F4:=H4.eu 2 i4;have W:=H4.box 4 i4;obtain⟨cc,a6,c5⟩:=hS.at [_,_,_,_,_] H4;obtain⟨_,bb⟩:=aa.cz H4;obtain⟨t,a4,b4⟩:=uL ht i i5;have b2:e.tries.getD i 0=(t:Int):=by rw[qd,qc i5];exact a4
  have b0:c.getD i []=c[i]:=by rw[qd,qc Y];rfl
  have O:∀{h':f9},bT h' a1 111 (cD xe)->cellOf h' (a1.add 1)=dB (xz xF e.object):=λ{h'} hb=>by rw[<-a6.1.2.1];exact hb.cell i4
  have cp:∀{h':f9},bT h' a 127 (cB (bh x) pw offs da)->ba h' (a.add 2) 0 [xz xF m.p.1,xz xF m.p.2.1,xz xF m.p.2.2]:=λ{h'} hb=>by
   rw[<-al];exact⟨j8,j8,j8,trivial⟩
  have ay:=Fix.row F4 Y;refine F4.1.bo i i4 i5 (rs[i]'(by omega)) i4 ?_;refine⟨e.object,O W,xe.2.2.2,W.cell i4,?_⟩;refine Seq.bo (f:=az) a6.2 i i4 i5 (t:Int) (by rw[a4];rfl) ?_;refine(oL _ _ _ h4).mono ?_;rintro _ _ ⟨rfl,rfl⟩;refine⟨_,i4,⟨W.cell i4,trivial⟩,a,i4,m.p,cp bb,?_⟩;obtain⟨seed,k⟩:∃seed,seed=cb e.object i t:=⟨_,rfl⟩
  have hg:=(Dj b4).2.1;have Z:fq m.p seed (eF m.p)=eR:=by rw[k];exact hg
  obtain⟨K,Hh,w',n,BK⟩:=Si (seed:=seed) (d:=c[i]) P Z (by rw[ah _ (qf Y),s3]);rw[<-k];refine(adV BK (rs[i]'(by omega)) _ ay.1 ay.2).mono ?_;rintro _ h6 ⟨bk,mm,rfl,R6⟩;have H6:=(H4.comp R6).front;have H6:=H6.aK 7 [2,3,4,5,6,0,1];refine⟨(dB bk,0),i4,bz (λe2=>absurd i4 e2) λ_=>?_⟩;have b3:=H6.box 4 i4;refine⟨e.object,O b3,(EX e.object i lv live h6 (H6.seq 3 i4 λ_=>rfl)).mono ?_⟩;rintro _ h7 ⟨N,rfl,R7⟩;have H7:=(H6.bR R7).aK 8 [1,2,3,4,5,6,7,0];obtain⟨order,A⟩:∃order,order=dt e.object i live:=⟨_,rfl⟩
  rw[<-A]at H7;have a2:=(aa.cz H7).2;have cf:x.2.2.1=m.p.1:=congrArg (·.1) al;refine⟨N,i4,a,i4,x.2.2.1,a2.cell i4,a,i4,x.2.2.2.2.2.1,a2.cell i4,?_⟩;have en:qe xF (x.2.2.1+x.2.2.2.2.2.1)=(j:Int):=by rw[cf,cc.extra,af _];omega
  try dsimp only
  rw[en];have R:mD m e.object e.tries c live i=(qt j).map λid:Nat=>Hv m e.object i seed c[i] order id:=by unfold mD;rw[b2,b0,<-k,<-A,<-F]
  have b1:(mD m e.object e.tries c live i).length=j:=by rw[Bl,<-F]
  obtain⟨J,G⟩:∃J,J=dF m e.object e.tries c live i:=⟨_,rfl⟩
  have c9:J.length<=2^26:=by rw[G,uc,<-F];have:=wi (show i<=2^20 by omega) M;omega
  obtain⟨Q,hQ⟩:∃Q,Q=mD m e.object e.tries c live i:=⟨_,rfl⟩
  rw[<-hQ]at R b1;rw[<-G]at H7;refine aq (λt:Sl×Nat=>(t.1,(t.2:Int))) (λt h'=>t.2<=j/\aa B h0 h' (bg bB a pw (bh x) offs da w ds::ck 134 t.1 2 piv lZ (J++Q.take t.2)::cJ (uK 1 aB) 1 bi q rs c::an 3 lv 1 az live::av a1 111 (cD xe)::gn 34 mm 1 aB (dj m.p seed c[i])::av bk 256 (Ds m.p seed mm)::an 3 N 1 az order::As)) (λt=>j-t.2) (o,0) i4 ⟨jj,by simpa using H7⟩ ?_;rintro⟨o2,id⟩ h8 ⟨hid,T⟩;dsimp only at*;refine ae (λe3=>?_) λe3=>?_
  ·have cn:id<j:=i5
   have ax:=T.box 4 i4;have V:=(aa.cz T).2;have I:tW h8 bk m.p seed (dj m.p seed c[i]):=⟨mm,T.box 6 i4,T.Cm 5 i4⟩
   have S:rU m.p seed c[i] id=if bJ id then fS w' (dj m.p seed c[i]) (cW n seed id)else[]:=by unfold rU;rw[BK.oA,show m.p.2.2.toNat=w' by have:=BK.s;omega]
   have held:∀{h':f9},aP (λb=>b<h8.size) h8 h'->bH.ok [((a.add 2),xz xF m.p.1),((a.add 2).add 1,xz xF m.p.2.1),((a.add 2).add 2,xz xF m.p.2.2),(a1.add 1,xz xF e.object)] h':=λ{h'} P=>by
    obtain⟨q1,q2,q3,_⟩:=cp (V.ac P V.lt);exact⟨q1,q2,q3,O (ax.ac P ax.lt),trivial⟩
   refine bE (λ(a0:f7) h'=>∃r:Sl,aa B h0 h' (av a0 153 (cQ (e.object,(i:Int),(id:Int),m.p.1,m.p.2.1,m.p.2.2,seed,r))::an 5 r 1 aB (rU m.p seed c[i] id)::bg bB a pw (bh x) offs da w ds::ck 134 o2 2 piv lZ (J++Q.take id)::cJ (uK 1 aB) 1 bi q rs c::an 3 lv 1 az live::av a1 111 (cD xe)::gn 34 mm 1 aB (dj m.p seed c[i])::av bk 256 (Ds m.p seed mm)::an 3 N 1 az order::As)) ?_ ?_
   ·refine⟨e.object,O ax,a,i4,m.p,cp V,?_,?_⟩
    ·refine(BK.symbol bk id h8 I).mono ?_;rintro _ h9 ⟨r,rfl,R9⟩;rw[<-S]at R9;have H9:=T.bR R9;refine⟨r,i4,held R9.ac,H9.Cq ag i4 λa28 d0 b5 U=>⟨held (aa.up R9 b5).ac,?_⟩⟩;have U:=U.aY;refine U.storeAll ag 0 i4 i4 (cQ (e.object,(i:Int),(id:Int),m.p.1,m.p.2.1,m.p.2.2,seed,r)) i4 i4 i4 i4 λc0 b6=>⟨trivial,r,b6⟩
    ·refine T.Cq ag i4 λc6 a9 am ar=>⟨held am,?_⟩
     have ar:=ar.aY;refine(BK.symbol bk id a9 (I.up am)).mono ?_;rintro _ du ⟨r,rfl,ap⟩;rw[<-S]at ap;have bd:=(ar.bR ap).aK 2 [1,0];refine⟨r,i4,held (aa.up (Sp.zip am) ap.ac).ac,?_⟩;refine bd.storeAll ag 0 i4 i4 (cQ (e.object,(i:Int),(id:Int),m.p.1,m.p.2.1,m.p.2.2,seed,r)) i4 i4 i4 i4 λdx a7=>⟨trivial,r,a7⟩
   ·rintro a0 cl ⟨r,L⟩;have g:=L.box 0 i4;have X:=jy e.object i t;rw[<-k]at X;refine⟨(e.object,(i:Int),(id:Int),m.p.1,m.p.2.1,m.p.2.2,seed,r),g.aE _ i4,(QN N order id cl (L.seq 9 i4 λ_=>rfl)).mono ?_⟩;rintro _ a8 ⟨rfl,rfl⟩;refine⟨_,i4,⟨g.cell0 i4,g.cell i4,g.cell i4,g.cell i4,g.cell i4,g.cell i4,g.cell i4,g.cell i4,trivial⟩,?_⟩;refine(pY (e.object,(i:Int),(id:Int),m.p.1,m.p.2.1,m.p.2.2,seed,r) (kW m e.object i seed c[i] id) a8 ⟨⟨i4,i4,i4,i4,i4,X.1,X.2⟩,L.seq 1 i4 λ_=>rfl⟩).mono ?_;rintro _ dp ⟨u,rfl,bs⟩;have a3:=(L.bR bs).fM 0 i4 (D:=EA lZ (fI order id,u) (Hv m e.object i seed c[i] order id)) λz hz=>⟨i4,hz.1.seq (λ_=>rfl) hz.2⟩
    have a5:Q[id]'(by omega)=Hv m e.object i seed c[i] order id:=by simp[R]
    refine⟨u,i4,trivial,?_⟩;refine a3.nN ag piv MR i4 [(fI order id,u)] i4 (show 1*2<=2^20 by decide) i4 trivial ?_;refine aa.pQ ag a3 4 0 i6 (a:=(fI order id,u)) i4 i4 MR i4 i6 (λ_=>rfl) IS (parts:=#[(0,xE #[xz xF (fI order id),u])]) j3 i6 i9 λo3 dy b9=>⟨trivial,?_⟩
    refine⟨(o3,id+1),js,⟨i7,?_⟩,i7⟩
    try dsimp only
    rw[aD Q id,a5,<-qn];exact b9.rest.rest.rest
  ·have ab:id=j:=i5
   subst ab;rw[qg i5]at T;refine⟨(o2,i+1),js,⟨i7,?_⟩,i7⟩
   try dsimp only
   rw[rV,<-G,<-hQ];exact T.aK 8 [0,1,2,3,4]
 ·have ab:i=c.length:=i5
  subst ab;obtain⟨ys,H5⟩:=H4.IB 1 rfl λ_=>rfl;exact⟨o,ys,i4,H5.aK 5 [0,1]⟩
end
def jm(a:Nat)(l:List (Int×aM))(k:Int):Int:=(a:Int)+i0 (l.filter λy=>decide (y.1=k))
theorem VZ(k:Int)(d c:f7)(a:Nat)(r:Sl)(s:List (Int×Sl))(l:List (Int×aM))(h:f9)(z:a<=2^30)(H:i0 l<=2^30)(p:bT h d 3 [xz xF a])(t:bT h c 96 [r])(o:ng lZ 2 piv h r s l):
  ai xJ 80 #[xz xF k,xB (dB d),xB (dB c)] h λv h'=>v=xz xF (jm a l k)/\Sp h h' []:=by
 refine ts Tryz.func80 ?_ (.two .n (.two .n (.two (.two .n (.inn (.loop [(5,aT),(11,aT)] [(5,6),(7,8),(11,22)] .n))) .n))) (args:=[(k:Int),d,c]);have A:=o.1.len;have D:=o.2.1;refine⟨(a:Int),p.cell0 i4,r,t.cell0 i4,?_⟩;refine aq (λi:Nat=>(jm a (l.take i) k,(i:Int))) (λi h'=>i<=i0 l/\Sp h h' []) (λi=>i0 l-i) 0 (by simp[jm]) ⟨i5,Sp.refl h⟩ ?_;rintro i F ⟨G,w⟩
 try dsimp only
 have x:(i0 ((l.take i).filter λy=>decide (y.1=k)):Int)<=i:=by have:=qJ (λy:Int×aM=>decide (y.1=k)) (l.take i);simp at this;omega
 refine ae (λe=>?_) λe=>?_
 ·have j:i<i0 l:=i5
  have f:=ng.up o w.ac;refine f.1.dY (g:=piv) i i4 i5 (s[i]'(by omega)) i4 ?_;refine w.alloc ag i4 λE I B=>?_;refine B.storeAll ag 0 i4 i4 (piv (s[i]'(by omega))) i4 i4 i4 i4 λh3 u=>?_;have m:=Fix.row f j;have b:jm a (l.take (i+1)) k=jm a (l.take i) k+(if l[i].1=k then 1 else 0):=by
   unfold jm;rw[aD _ _ j,zg,qp,zl,vi];split
   ·rename_i q;rw[g0 (ii q)];simp;omega
   ·rename_i q;rw[g9 pb];simp
  refine⟨l[i].1,by rw[<-m.1];exact(u.box 0 i4).cell0 i4,bf (λg=>?_) λg=>?_⟩
  ·refine⟨i+1,?_,⟨i5,.zip u.ac⟩,i5⟩;rw[b,g0 g,af (jm a (l.take i) k+1) (by unfold jm;omega) (by unfold jm;omega),af _];rfl
  ·refine⟨i+1,?_,⟨i5,.zip u.ac⟩,i5⟩;rw[b,g9 g,Int.add_zero,af _];rfl
 ·rw[qg i5];exact⟨i4,w⟩
def cY(m:aw)(offs:Int)(w:Pow)(ds:aC)(name:ByteArray)(b:aM):Int×aw×Pow×aC:=
 if de m (dn w offs) ds name b.length≠0 then(de m (dn w offs) ds name b.length,m,w,ds)else
 match cA m.p m.next (splitB m.p b).length with
 |none=>(8,m,w,ds)
 |some t=>
  let live:=aN ds m.drives;let l:=dF m m.next t (splitB m.p b) live (splitB m.p b).length;let n:=dh m ⟨name,m.next,i0 b,t⟩;let N:=jm (aX n).length l
  if dm m ds live N=eS then(7,m,w,ds)else
  if(makes m N live w ds).1≠0 then((makes m N live w ds).1,m,(makes m N live w ds).2)else
  let a:=layAll l (makes m N live w ds).2.1 (makes m N live w ds).2.2
  if a.1≠0 then(a.1,m,a.2)else
  ((layAll (bC n live) a.2.1 a.2.2).1,if(layAll (bC n live) a.2.1 a.2.2).1=0 then n else m,(layAll (bC n live) a.2.1 a.2.2).2)
theorem jO{m:aw}{d:Bool}{ds:aC}{name:ByteArray}{n:Nat}(h:de m d ds name n=0):
  d=eS/\mb name=eR/\m.objs.any (gf name)=eS/\¬(m.p.1*m.p.2.2*8<(n:Int)∨12<=i0 m.objs)/\¬(aN ds m.drives=[]∨16777215<m.next∨2147483647<=m.seq):=by
 unfold de at h;split at h
 ·cases h
 ·rename_i e;split at h
  ·cases h
  ·rename_i b;split at h
   ·cases h
   ·rename_i h3;split at h
    ·cases h
    ·rename_i c;split at h
     ·cases h
     ·rename_i a;exact⟨mn,kt,by simpa using h3,c,a⟩
theorem Ap{m:aw}{b:aM}(a:bx m.p=eR)(h:¬m.p.1*m.p.2.2*8<(i0 b:Int)):i0 (splitB m.p b)<=8:=by obtain⟨d,e,c⟩:=kV a;obtain⟨f,g,c3⟩:=lN a b.length;unfold splitB;rw[qy,zA];refine Nat.le_of_not_lt λh8=>?_;have:=c3 8 i5;rw[<-c]at h;omega
theorem aea{o:au}(b:o≠[])(id:Nat):fI o id∈o:=by
 unfold fI Hu;rw[g9 (by rintro(h|h);exact b h;omega)];have c:0<i0 o:=by cases o with|nil=>exact absurd rfl b|cons=>simp
 have a:((id:Int)%(i0 o:Int)).toNat<i0 o:=by have:=wq (id:Int) (show(0:Int)<i0 o by omega);have:=yk (id:Int) (show(i0 o:Int)≠0 by omega);omega
 rw[qd,qc a];exact qf a
theorem Nq{m:aw}{o:Int}{tries:au}{p:bY}{live:au}(r:0<=o/\o<=16777215)(q:live≠[])(f:∀k∈live,0<=k/\k<64){n:Nat}(s:n<=8){y:Int×aM}(d:y∈dF m o tries p live n):y.1∈live/\y.2.length<=64:=by
 unfold dF at d;obtain⟨i,g,d⟩:=zO.1 d;have g:=qA.1 g;unfold mD at d;obtain⟨id,_,rfl⟩:=qo.1 d;refine⟨?_,?_⟩
 ·show fI _ _∈live;have c:dt o i live=rC ((8*o+i)%64).toNat live:=by unfold dt;rw[g0 i5]
  have b:∀a,a∈dt o i live↔a∈live/\0<=a/\a<64:=λa=>by rw[c];exact Dv _ _ _
  have e:dt o i live≠[]:=λh=>by
   cases live with
   |nil=>exact q i4
   |cons a l=>
    have:=(b a).2 ⟨qF,f a qF⟩;rw[h]at this;cases this
  exact((b _).1 (aea e id)).1
 ·show(cT _).length<=64;unfold cT;split
  ·rename_i j;refine xi (lS i6 i6 ?_);have:=nQ j;omega
  ·simp
theorem abN{m:aw}{e:Qw.ci}(b:cI m)(g:m.objs.length<=11)(d:e.name.size<=2^30)(c:e.tries.length<=2^30):cI (dh m e):=by
 refine⟨b.dr,?_,λf a=>?_⟩
 ·show((m.objs++[e]).mergeSort pV).length<=2^30;rw[wF];simp;omega
 ·have a:f∈(m.objs++[e]).mergeSort pV:=a;rcases qw.1 ((yi _ _).mem_iff.1 a)with h|h
  ·exact b.nm f h
  ·rw[qx.1 h];exact⟨d,c⟩
section
variable {pw:f7}
theorem YV(x:bF)(m:aw)(name:ByteArray)(s:Sl)(b:aM)(hS:St B h0 As λh=>Rd h s 1 aB b)(ca:s.len<=s.cap)(hn:name.size<=2^40)(V:cI m)(hp:bx m.p=eR)(c4:0<=m.extra/\m.extra<=16)(b6:∀k∈m.drives,0<=k/\k<64)(b0:m.drives.length<=64)(b4:0<=m.seq)(bd:0<=m.next)(b7:b.length<=2^20)
  (H:aa B h0 h (bg bB a pw (bh x) offs da w ds::cU x m::As)):
  ai xJ 33 #[xB (dB a),xC name,s] h λv h'=>v=xz xF (cY m offs w ds name b).1/\
   ∃y,aa B h0 h' (bg bB a pw (bh y) offs da (cY m offs w ds name b).2.2.1 (cY m offs w ds name b).2.2.2::cU y (cY m offs w ds name b).2.1::As):=by
 refine ts Tryz.func33 ?_ (.two .n (.two .n (.two .n (.two (.join [(9,cF),(10,nV)] [(9,11),(34,53)] .n) (.two .n (.two .n (.two .n (.two .n (.two (.join [(12,(.sc .adr)),(13,cF)] [(12,14),(66,74)] .n) .n))))))))) [(12,(.y [0,1,2,3,4,6] (.y [5] (.l [7,8,9,10]) (.l [8,7,9,10])) (.l [8,5,7,9,10])))];have ah:=(hS.at [_,_] H).len;refine(Nh x m name s b.length ah hn (H.at 1 i4) V hp H).mono ?_;rintro _ h1 ⟨rfl,R1⟩;have H1:=H.up R1.ac;refine⟨_,i4,bz (λe=>?_) λe1=>?_⟩
 ·have ep:cY m offs w ds name b=(de m (dn w offs) ds name b.length,m,w,ds):=by unfold cY;rw[g0 e]
  rw[ep];exact⟨i4,x,H1⟩
 obtain⟨z1,z2,z3,z4,z5⟩:=jO e1;have cr:¬m.p.1*m.p.2.2*8<(b.length:Int):=λh=>z4 (.inl h);have a9:m.objs.length<=11:=by have:¬12<=m.objs.length:=λh=>z4 (.inr h);omega
 have br:aN ds m.drives≠[]:=λh=>z5 (.inl h);have b5:m.next<=16777215:=by have:¬16777215<m.next:=λh=>z5 (.inr (.inl h));omega
 have d3:m.seq<=2147483646:=by have:¬2147483647<=m.seq:=λh=>z5 (.inr (.inr h));omega
 have h8:=Ap hp cr;have d8:name.size<=12:=by unfold mb at z2;simp at z2;omega
 have dd:=(aa.cz H1).2;have bl:df h1 x m:=H1.at 1 i4;refine⟨a,i4,x.2.1,dd.cell i4,H1.alloc ag i4 λa4 h2 H2=>?_⟩;have H2:=H2.aY;refine H2.storeAll ag 0 i4 i4 (cD (name,x.2.1,(s.len:Int),⟨eH,0,0⟩)) i4 i4 i4 i4 λh3 H3=>?_;have H3:aa B h0 h3 (av a4 111 (cD (name,m.next,(b.length:Int),⟨eH,0,0⟩))::bg bB a pw (bh x) offs da w ds::cU x m::As):=by rw[<-bl.next,<-ah];exact H3
 have cp:∀{h':f9},bT h' a 127 (cB (bh x) pw offs da)->ba h' (a.add 2) 0 [xz xF m.p.1,xz xF m.p.2.1,xz xF m.p.2.2]:=λ{h'} hb=>by
  rw[<-bl.p];exact⟨j8,j8,j8,trivial⟩
 obtain⟨nb,L⟩:∃nb,nb=(splitB m.p b).length:=⟨_,rfl⟩
 have a5:countP m.p (s.len:Nat)=(nb:Int):=by have:=(lN hp b.length).1;rw[L,ah];unfold splitB;rw[qy,zA];omega
 refine bE (λ(t:Sl×Bool) h'=>(cA m.p m.next nb=eH->t.2=eS/\aa B h0 h' (bg bB a pw (bh x) offs da w ds::cU x m::As))/\(∀l,cA m.p m.next nb=dB l->t.2=eR/\aa B h0 h' (an 3 t.1 1 az l::av a4 111 (cD (name,m.next,(b.length:Int),⟨eH,0,0⟩))::bg bB a pw (bh x) offs da w ds::cU x m::As))) ?_ ?_
 ·have b2:=H3.box 0 i4;have W:=(aa.cz (H3.aK 3 [1,0,2])).2;refine⟨a,i4,m.p,cp W,m.next,b2.cell i4,a,i4,m.p,cp W,(sB m.p s.len h3).mono ?_⟩;rintro _ h4 ⟨rfl,R4⟩;have H4:=H3.up R4.ac;have b1:=W.ac R4.ac W.lt;obtain⟨q1,q2,q3,_⟩:=cp b1;refine⟨_,i4,⟨(H4.box 0 i4).cell i4,q1,q2,q3,trivial⟩,?_⟩;rw[a5];refine(SP m.p m.next nb h4 i5).mono ?_;rintro _ h5 ⟨T0,T1⟩;cases ht:cA m.p m.next nb with
  |none=>
   obtain⟨rfl,R5⟩:=T0 ht;exact⟨(⟨eH,0,0⟩,eS),i4,trivial,λ_=>⟨i4,(H4.up R5.ac).aK 3 [1,2]⟩,λl h=>j7⟩
  |some l=>
   obtain⟨r,rfl,R5⟩:=T1 l ht;exact⟨(r,eR),i4,trivial,λh=>j7,λl' h=>(by injection h with h;subst h;exact⟨i4,H4.bR R5⟩)⟩
 rintro⟨u,tb⟩ h6 ⟨T0,T1⟩;dsimp only at T0 T1⊢;cases ht:cA m.p m.next nb with
 |none=>
  obtain⟨rfl,H6⟩:=T0 ht;have ep:cY m offs w ds name b=(8,m,w,ds):=by unfold cY;rw[g9 m4,<-L,ht]
  rw[ep];exact aU (λ_=>⟨i4,x,H6⟩) λe=>j1
 |some t=>
  obtain⟨rfl,H6⟩:=T1 t ht;refine aU (λe=>j1) λ_=>?_;have eb:=jk ht;refine H6.store ag 1 i4 i4 3 [u] i4 i4 i4 jj λh7 H7=>?_;obtain⟨e,he⟩:∃e:Qw.ci,e=⟨name,m.next,b.length,t⟩:=⟨_,rfl⟩
  have H7:aa B h0 h7 (an 3 u 1 az e.tries::av a4 111 (cD (name,m.next,(b.length:Int),u))::bg bB a pw (bh x) offs da w ds::cU x m::As):=by rw[he];exact H7
  have H7:=H7.aK 4 [2,3,0,1];have c6:St B h0 (cU x m::an 3 u 1 az e.tries::av a4 111 (cD (name,m.next,(b.length:Int),u))::As) λh=>df h x m/\dN jN h (name,m.next,(b.length:Int),u) e/\Rd h s 1 aB b:=λBs h' f=>
   ⟨(St.ee 0 i4 λ_ i=>i) Bs h' f,(St.ee (A:=an 3 u 1 az e.tries) (Q:=λh=>dN jN h (name,m.next,(b.length:Int),u) e) 1 i4 λh' i=>⟨by rw[he];exact⟨i4,i4,i4⟩,i.1.seq (λ_=>rfl) i.2⟩) Bs h' f,(hS.cons.cons.cons) Bs h' f⟩
  refine⟨(name,m.next,(b.length:Int),u),(H7.box 3 i4).aE _ i4,?_⟩;refine(KP x m (name,m.next,(b.length:Int),u) e s b c6 ca V hp c4 b7 (by rw[he,<-L];exact ht) H7).mono ?_;rintro _ d1 ⟨r,ys,rfl,H8⟩;obtain⟨live,c⟩:∃live,live=aN ds m.drives:=⟨_,rfl⟩
  obtain⟨l,hl⟩:∃l,l=dF m m.next t (splitB m.p b) live nb:=⟨_,rfl⟩
  have cf:dF m e.object e.tries (splitB m.p b) (aN ds m.drives) (splitB m.p b).length=l:=by rw[hl,he,<-c,<-L]
  rw[cf]at H8;refine⟨(r,eR),i4,H8.alloc ag i4 λj h9 H9=>?_⟩;have H9:=H9.aY;refine H9.storeAll ag 0 i4 i4 [r] i4 i4 i4 i4 λc9 D=>?_;refine aU (λe=>j1) λ_=>?_;obtain⟨n,R⟩:∃n,n=dh m e:=⟨_,rfl⟩
  have D:=(D.freeze 4 i4 λ_=>rfl).aK 6 [4,1,3,2,0,5];have c0:((name,m.next,(b.length:Int),u):dP).1=e.name/\((name,m.next,(b.length:Int),u):dP).2.1=e.object/\((name,m.next,(b.length:Int),u):dP).2.2.1=e.length:=by rw[he];exact⟨i4,i4,i4⟩
  have K:∀{h':f9} {Cs:List HP},aa B h0 h' (pm u 1 az e.tries::Cs)->df h' x m->ai xJ 79 #[fN x,Nf (name,m.next,(b.length:Int),u)] h' λv c5=>∃y:bF,v=fN y/\aa B h0 c5 (cU y n::Cs):=λ{h' Cs} f hx'=>by
   rw[R];exact VP x m _ e hx' V ⟨b4,i5⟩ ⟨bd,i5⟩ a9 c0 f
  have M:=(aa.cz (D.aK 2 [1,0])).2;have O:=D.box 5 i4;have a7:df c9 x m:=D.at 2 i4;refine bE (λ(t:f7×Sl) h'=>∃y,aa B h0 h' (bg bB a pw (bh x) offs da w ds::cU x m::cJ lZ 2 piv r ys l::av j 96 [r]::av t.1 85 (bh y)::cU y n::an 3 t.2 1 az live::As)) ?_ ?_
  ·refine⟨a,i4,x,M.aE _ i4,(name,m.next,(b.length:Int),u),O.aE _ i4,?_,?_⟩
   ·refine(K D a7).mono ?_;rintro _ d2 ⟨y,rfl,I⟩;have I:=I.aK 6 [1,2,3,4,0];refine⟨y,i4,trivial,?_,?_⟩
    ·refine(dM x m (I.at 1 i4) V I).mono ?_;rintro _ dy ⟨G,rfl,a8⟩;rw[<-c]at a8;have cq:=I.bR a8;refine⟨G,i4,trivial,cq.alloc ag i4 λei eh al=>⟨trivial,?_⟩⟩;have al:=al.aY;refine al.storeAll ag 0 i4 i4 (bh y) i4 i4 i4 i4 λej bs=>⟨trivial,y,?_⟩
     exact bs.aK 7 [2,3,4,5,0,6,1]
    ·refine I.alloc ag i4 λa22 el S=>⟨trivial,?_⟩
     have S:=S.aY;have ab:=S.aK 6 [1,2,3,4,5,0];refine(dM x m (ab.at 1 i4) V ab).mono ?_;rintro _ dx ⟨G,rfl,a2⟩;rw[<-c]at a2;have c7:=(S.bR a2).aK 2 [1,0];refine⟨G,i4,trivial,c7.storeAll ag 0 i4 i4 (bh y) i4 i4 i4 i4 λeg cc=>⟨trivial,y,?_⟩⟩;exact cc.aK 7 [2,3,4,5,0,6,1]
   ·refine D.Cq ag i4 λec ed bq X=>?_;have d:=M.ac bq M.lt;have F:=O.ac bq O.lt;refine⟨⟨F.cell0 i4,F.cell i4,F.cell i4,F.cell i4,d.cell0 i4,d.cell i4,d.cell i4,d.cell i4,d.cell i4,d.cell i4,d.cell i4,d.cell i4,trivial⟩,?_⟩;have X:=(X.aY).aK 7 [1,0,2,3,4,5];refine(K X (X.at 3 i4)).mono ?_;rintro _ ek ⟨y,rfl,cs⟩;have J:=cs.aK 6 [2,3,4,5,0,1];refine⟨y,i4,trivial,(dM x m (J.at 1 i4) V J).mono ?_⟩;rintro _ d6 ⟨G,rfl,ay⟩;rw[<-c]at ay;have cn:=(J.bR ay).aK 7 [6,0,1,2,3,4,5];refine⟨G,i4,trivial,cn.storeAll ag 0 i4 i4 (bh y) i4 i4 i4 i4 λd5 b9=>⟨trivial,y,?_⟩⟩;exact b9.aK 7 [2,3,4,5,0,6,1]
  rintro⟨am,G⟩ c1 ⟨y,Z⟩;dsimp only at Z⊢;have ap:cI n:=by rw[R];exact abN V a9 (by rw[he];show name.size<=2^30;omega) (by rw[he];show t.length<=2^30;omega)
  have dp:n.drives=m.drives:=by rw[R];rfl
  have d9:live.length<=64:=by rw[c];exact qY (qJ _ _) b0
  have q:∀k∈live,0<=k/\k<64:=λk hk=>by rw[c]at hk;exact b6 k (qC.1 hk).1
  have ax:(m.p.1+m.extra).toNat<=32:=by have:=(bN m.p).1 hp;omega
  have d7:l.length<=256:=by rw[hl,uc];exact wi (show nb<=8 by omega) ax
  have b3:∀z∈l,(0<=z.1/\z.1<64)/\z.2.length<=2^20:=λz a6=>by
   rw[hl]at a6;obtain⟨p1,p2⟩:=Nq (m:=m) ⟨bd,b5⟩ (by rw[c];exact br) q (show nb<=8 by omega) a6;exact⟨q _ p1,qY p2 i6⟩
  refine⟨y,(Z.box 4 i4).aE _ i4,(mQ y n c1 (Z.at 5 i4) ap).mono ?_⟩;rintro _ d0 ⟨pg,rfl,a1⟩;have ad:=(aa.th a1).1;have a3:=jw n ap;obtain⟨pn,bk⟩:∃pn,pn=(aX n).length:=⟨_,rfl⟩
  rw[<-bk]at ad a3;have c8:=Z.up a1.ac;refine⟨pg,i4,c8.alloc ag i4 λo dr ao=>?_⟩;have ao:=ao.aY;refine ao.storeAll ag 0 i4 i4 [xz xF (pg.len:Int)] i4 i4 i4 i4 λdk E=>?_;rw[ad]at E;have E:aa B h0 dk (bg bB a pw (bh x) offs da w ds::cU x m::cJ lZ 2 piv r ys l::av j 96 [r]::av am 85 (bh y)::cU y n::an 3 G 1 az live::av o 3 [xz xF (pn:Int)]::As):=E.aK 8 [1,2,3,4,5,6,7,0];obtain⟨N,hN⟩:∃N,N=jm pn l:=⟨_,rfl⟩
  obtain⟨T,P⟩:∃T,T=cU x m::cJ lZ 2 piv r ys l::av j 96 [r]::av am 85 (bh y)::cU y n::an 3 G 1 az live::av o 3 [xz xF (pn:Int)]::As:=⟨_,rfl⟩
  have tX:St B h0 T λh=>df h x m:=by rw[P];exact St.ee 0 i4 λ_ i=>i
  have tF:St B h0 T λh=>ng lZ 2 piv h r ys l:=by rw[P];exact St.ee 1 i4 λ_ i=>i
  have tB:St B h0 T λh=>bT h j 96 [r]:=by rw[P];exact St.ee (A:=av j 96 [r]) 2 i4 λ_ i=>i.1
  have tM:St B h0 T λh=>bT h am 85 (bh y):=by rw[P];exact St.ee (A:=av am 85 (bh y)) 3 i4 λ_ i=>i.1
  have tY:St B h0 T λh=>df h y n:=by rw[P];exact St.ee 4 i4 λ_ i=>i
  have tL:St B h0 T λh=>Rd h G 1 az live:=by rw[P];exact St.ee (A:=an 3 G 1 az live) 5 i4 λ_ i=>i.1.seq (λ_=>rfl) i.2
  have tN:St B h0 T λh=>bT h o 3 [xz xF (pn:Int)]:=by rw[P];exact St.ee (A:=av o 3 [xz xF (pn:Int)]) 6 i4 λ_ i=>i.1
  have tT:St B h0 T λh=>Ll 80 #[] #[xB (dB o),xB (dB j)] N live h:=λBs h' f k hk=>by
   rw[hN];exact VZ k o j pn r ys l h' i5 i5 (tN Bs h' f) (tB Bs h' f) (tF Bs h' f)
  have fin:∀{h':f9} {z:bF} {w':Pow} {ar:aC},aa B h0 h' (bg bB a pw (bh x) offs da w' ar::T)->aa B h0 h' (bg bB a pw (bh x) offs da w' ar::cU x m::As):=λ{h' z w' ar} f=>by
   rw[P]at f;exact f.aK 8 [0,1]
  rw[<-P]at E;have ep:cY m offs w ds name b=(if dm m ds live N=eS then(7,m,w,ds)else if(makes m N live w ds).1≠0 then((makes m N live w ds).1,m,(makes m N live w ds).2)else
    if(layAll l (makes m N live w ds).2.1 (makes m N live w ds).2.2).1≠0 then((layAll l (makes m N live w ds).2.1 (makes m N live w ds).2.2).1,m,(layAll l (makes m N live w ds).2.1 (makes m N live w ds).2.2).2)else
    ((layAll (bC n live) (layAll l (makes m N live w ds).2.1 (makes m N live w ds).2.2).2.1 (layAll l (makes m N live w ds).2.1 (makes m N live w ds).2.2).2.2).1,if(layAll (bC n live) (layAll l (makes m N live w ds).2.1 (makes m N live w ds).2.2).2.1 (layAll l (makes m N live w ds).2.1 (makes m N live w ds).2.2).2.2).1=0 then n else m,(layAll (bC n live) (layAll l (makes m N live w ds).2.1 (makes m N live w ds).2.2).2.1 (layAll l (makes m N live w ds).2.1 (makes m N live w ds).2.2).2.2).2)):=by
   rw[hN,bk,hl,R,he,c];unfold cY;rw[g9 m4,<-L,ht]
  rw[ep];refine(Hp 80 #[] #[xB (dB o),xB (dB j)] N x m G live lb (λBs h' f=>⟨tX Bs h' f,tT Bs h' f⟩) V (tL.at [_] E) i5 q E).mono ?_;rintro _ ef ⟨rfl,cd⟩;have bb:=E.up cd.ac;refine⟨_,i4,aU (λg=>?_) λg=>?_⟩
  ·rw[g0 g];exact⟨i4,x,fin (z:=x) bb⟩
  rw[g9 (by rw[g];decide)];refine(Hq 80 #[] #[xB (dB o),xB (dB j)] N x m G live lb (λBs h' f=>⟨tX Bs h' f,tT Bs h' f,tL Bs h' f⟩) V i5 q bb).mono ?_;rintro _ ea ⟨rfl,U⟩;obtain⟨m1,c2⟩:∃m1,m1=makes m N live w ds:=⟨_,rfl⟩
  rw[<-c2]at U⊢;refine⟨_,i4,bz (λg2=>?_) λg2=>?_⟩
  ·rw[g0 g2];exact⟨i4,x,fin (z:=x) U⟩
  rw[g9 (by simpa using g2)];refine⟨r,(tB.at [_] U).cell0 i4,(Df r ys l tF i5 b3 U).mono ?_⟩;rintro _ du ⟨rfl,Y⟩;obtain⟨r2,cl⟩:∃r2,r2=layAll l m1.2.1 m1.2.2:=⟨_,rfl⟩
  rw[<-cl]at Y⊢;refine⟨_,i4,bz (λg3=>?_) λg3=>?_⟩
  ·rw[g0 g3];exact⟨i4,x,fin (z:=x) Y⟩
  rw[g9 (by simpa using g3)];refine⟨y,(tM.at [_] Y).aE _ i4,(Hs x y n G live (λBs h' f=>⟨tY Bs h' f,tL Bs h' f⟩) ap i5 q Y).mono ?_⟩;rintro _ d4 ⟨rfl,Q1,Q0⟩;refine⟨_,i4,i4,?_⟩;by_cases g4:(layAll (bC n live) r2.2.1 r2.2.2).1=0
  ·obtain⟨y2,a0⟩:=Q0 g4;rw[g0 g4];rw[P]at a0;exact⟨y2,a0.aK 9 [0,1]⟩
  ·rw[g9 g4];exact⟨x,fin (z:=x) (Q1 g4)⟩
end
theorem Tb(n:Nat)(x:Int)(h:f9)(j:n<=2^30):ai xJ 32 #[xz xF n,xz xF x] h λv h'=>∃(r:Sl) (l:aM),v=r/\l.length=n/\Sp h h' [an 5 r 1 aB l]:=by
 refine ts Tryz.func32 ?_ (.two .n (.two .n (.two (.two .n (.inn (.loop [(5,cF),(6,aT)] [(5,25)] .n))) .n)));refine aq (λt:Sl×Nat×aM=>(t.1,(t.2.1:Int))) (λt h'=>t.2.1<=n/\t.2.2.length=t.2.1/\Sp h h' [an 5 t.1 1 aB t.2.2]) (λt=>n-t.2.1) (⟨eH,0,0⟩,0,[]) i4 ⟨jj,i4,(Sp.refl h).nil 5 1 aB⟩ ?_;rintro⟨o,i,l⟩ k ⟨m,g,a⟩;dsimp only at*;refine ae (λe=>?_) λe=>?_
 ·have f:i<n:=i5
  refine⟨i6,Int.tmod_nonneg _ i5,?_⟩;rw[dU];generalize b8 (qe xF _)=c;refine a.push ag 0 i4 gp i4 i6 (λ_=>rfl) gJ c i4 i6 i5 λb p d=>?_;refine⟨(b,i+1,l++[c]),js,⟨i7,?_,d⟩,i7⟩;simp[g]
 ·exact⟨o,l,i4,i5,a⟩
variable {α:Type} {k:Nat} {f:α->aR} {L M:List (Sl×List α)}
theorem aa.YW(H:aa B h0 h (kp k f L::kp k f M::As)):aa B h0 h (kp k f (L++M)::As):=by
 have g:=H.lq;refine g.fM 0 i4 λq ⟨j,i,_,b,c,d,e⟩ y a=>?_;rcases qw.1 a with a|a
 ·exact(e y a).mono c
 ·exact(d y a).mono b
def Bn(o b:Int)(a:List cP):List (Int×aM):=(a.filter λr=>decide (r.object=o)&&decide (r.block=b)).map λr=>(r.id,r.data)
def ud(m:aw)(o b:Int)(l:bY):List (Int×aM):=((fp m l).filter λr=>decide (r.object=o)&&decide (r.block=b)).map λr=>(r.id,r.data)
def gD(m:aw)(ds:aC)(o b:Int)(k:Int):List (Int×aM):=match aS ds k with|some d=>ud m o b d.l|none=>[]
def dR(m:aw)(ds:aC)(a:au)(o b:Int):List (Int×aM):=a.flatMap (gD m ds o b)
abbrev afw:bO C.toxZ 140 205 2 [xz xF 0,xA eH 0 0] 32:=⟨_,_,i4,i4,i4,i4,i4,i4⟩
def Tc(pool:List (Sl×aM))(p:(Int×Sl)×(Int×aM)):Prop:=p.1.1=p.2.1/\(p.1.2,p.2.2)∈pool
variable {mc:aR}
section
variable {pw:f7}
theorem ue(x:bF)(m:aw)(s:Sl)(f:au)(o b:Int)(hx:df h x m)(hz:cI m)(hs:Rd h s 1 az f)(hl:f.length<=2^10)(hd:∀k∈f,∃d,aS ds k=dB d)(H:aa B h0 h (bg bB a pw mc offs da w ds::As)):
  ai xJ 87 #[.func (.func 56) #[xB (dB a)] #[],s,fN x,xz xF o,xz xF b] h λv h'=>∃(r:Sl) (ys:List (Int×Sl)),v=r/\Sp h h' [cJ lZ 2 piv r ys (dR m ds f o b)]:=by
 refine ts Tryz.func87 ?_ (.two .n (.two .n (.two (.two .n (.inn (.loop [(11,cF),(18,aT)] [(11,12),(13,14),(15,16),(18,52)] (.two .n (.two .n (.two (.inn (.two .n (.two (.join [(26,cF),(27,aT),(28,aT)] [(22,29)] .n) (.inn (.loop [(11,cF),(28,aT)] [(11,12),(15,16),(28,51)] .n))))) .n)))))) .n))) [(5,(.l [0,1,3,6,2,4,5]))] (args:=[(.func (.func 56) #[xB (dB a)] #[]),s,x,(o:Int),(b:Int)]);have a5:=hs.len;refine(Sp.refl h).boxed λa1 X H1=>?_;have H1:=((H1.QG 1 aB).nil 205 2 piv).bX [2,0,1];refine aq (λt:Sl×Nat×List ((Int×Sl)×(Int×aM))×List (Sl×aM)=>(t.1,(t.2.1:Int))) (λt h'=>t.2.1<=f.length/\t.2.2.1.length<=t.2.1*512/\t.2.2.1.map zH=dR m ds (f.take t.2.1) o b/\(∀p∈t.2.2.1,Tc t.2.2.2 p)/\Sp h h' [an 205 t.1 2 piv (t.2.2.1.map qL),kp 1 aB t.2.2.2,av a1 85 (bh x)]) (λt=>f.length-t.2.1) (⟨eH,0,0⟩,0,[],[]) i4 ⟨jj,jj,by simp[dR],jj,H1⟩ ?_;rintro⟨u,i,L,P⟩ h2 ⟨hi,a8,K,S,Y⟩;dsimp only at*;refine ae (λe=>?_) λe=>?_
 ·have T:i<f.length:=i5
  refine(Seq.up hs Y.ac).bo i i4 T f[i] i4 (aO ?_);obtain⟨d,E⟩:=hd f[i] (qf T);have Hc:=H.up Y.ac;obtain⟨ok,hb⟩:=aa.cz Hc;have A:=Y.box 2 i4;refine⟨x,A.aE _ i4,eU lb ?_⟩;refine(lV f[i] ok hb).mono ?_;rintro _ h3 ⟨rfl,rfl⟩;refine⟨_,i4,⟨A.cell0 i4,A.cell i4,A.cell i4,A.cell i4,A.cell i4,A.cell i4,A.cell i4,A.cell i4,trivial⟩,?_⟩;rcases nK ok f[i]with⟨c1,c2⟩|⟨n,d',bb,c0,c1,c2,c3,c4,c5⟩
  ·rw[E]at c1;cases c1
  have Z:d=d':=by rw[c3]at E;injection E with E;exact E.symm
  subst Z;rw[c5];obtain⟨a7,F,H3⟩:=Qw.aa.iJ Hc c2;rw[c4]at F;injection F with F
  injection F with F
  subst F;obtain⟨V,sd,bd,ah⟩:=aa.oI H3;have a0:=V.len;have ax:=V.room;refine(Dh bb pw d sd bd x m h3 (ah.box 0 i4) ((ah.aK 2 [1]).BJ λ_=>rfl) V (hx.up Y.ac) hz).mono ?_;rintro _ h4 ⟨r7,J,rfl,R4⟩;have ay:=uN m d.l;obtain⟨c,I⟩:∃c,c=fp m d.l:=⟨_,rfl⟩
  rw[<-I]at R4 ay;have H4:=(Y.bR R4).aK 4 [1,2,0,3];have F4:=H4.eu 2 i4;have a6:=F4.2.1;have a4:=F4.1.len;refine⟨r7,i4,trivial,?_⟩;have ad:gD m ds o b f[i]=Bn o b c:=by unfold gD;rw[E];show ud m o b d.l=_;unfold ud Bn;rw[I]
  have W:dR m ds (f.take (i+1)) o b=dR m ds (f.take i) o b++Bn o b c:=by unfold dR;rw[aD _ _ T,zf,zd,wj,qH,ad]
  obtain⟨Q,hQ⟩:∃Q:List (Sl×aM),Q=(J.zip c).map λz=>(z.1.2.2.2.2.2.2.2,z.2.data):=⟨_,rfl⟩
  refine aq (λt:Sl×Nat×List ((Int×Sl)×(Int×aM))=>(t.1,(t.2.1:Int))) (λt h'=>t.2.1<=c.length/\t.2.2.length<=L.length+t.2.1/\t.2.2.map zH=dR m ds (f.take i) o b++Bn o b (c.take t.2.1)/\(∀p∈t.2.2,Tc (P++Q) p)/\Sp h h' [an 205 t.1 2 piv (t.2.2.map qL),kp 1 aB P,cJ gq 8 cQ r7 J c,av a1 85 (bh x)]) (λt=>c.length-t.2.1) (u,0,L) i4 ⟨jj,jj,by simp[Bn,K],λp O=>⟨(S p O).1,List.mem_append_left _ (S p O).2⟩,H4⟩ ?_;rintro⟨u2,j,L2⟩ h5 ⟨hj,a3,N,U,H5⟩;dsimp only at*;have F5:=H5.eu 2 i4;refine ae (λe2=>?_) λe2=>?_
  ·have ab:j<c.length:=i5
   have al:=Fix.row F5 ab;obtain⟨⟨g1,g2,g3,g4,g5,g6,g7⟩,g8⟩:=al;refine F5.1.dY (g:=cQ) j i4 i5 (J[j]'(by omega)) i4 ?_;refine H5.alloc ag i4 λa9 h6 H6=>?_;refine H6.storeAll ag 4 i4 i4 (cQ (J[j]'(by omega))) i4 i4 i4 i4 λh7 H7=>?_;have M:=H7.box 4 i4;have R:Bn o b (c.take (j+1))=Bn o b (c.take j)++(if(decide (c[j].object=o)&&decide (c[j].block=b))=eR then[(c[j].id,c[j].data)]else[]):=by unfold Bn;rw[aD _ _ ab,zg,qT,zl,vi];split<;>rfl
   have skip:(decide (c[j].object=o)&&decide (c[j].block=b))=eS->∃G:Sl×Nat×List ((Int×Sl)×(Int×aM)),((⟨u2.ptr,u2.len,u2.cap⟩:Sl),qe xF ((j:Int)+1))=(G.1,(G.2.1:Int))/\(G.2.1<=c.length/\G.2.2.length<=L.length+G.2.1/\G.2.2.map zH=dR m ds (f.take i) o b++Bn o b (c.take G.2.1)/\(∀p∈G.2.2,Tc (P++Q) p)/\Sp h h7 [an 205 G.1 2 piv (G.2.2.map qL),kp 1 aB P,cJ gq 8 cQ r7 J c,av a1 85 (bh x)])/\c.length-G.2.1<c.length-j:=λhc=>
    ⟨(u2,j+1,L2),js,⟨i7,i7,by dsimp only;rw[R,hc];simpa using N,U,H7.bX [0,1,2,3]⟩,i7⟩
   refine⟨c[j].object,by rw[<-g1];exact M.cell0 i4,bf (λq1=>?_) λq1=>skip (by rw[hZ q1];rfl)⟩;refine⟨c[j].block,by rw[<-g2];exact M.cell i4,bf (λq2=>?_) λq2=>skip (by rw[hZ q2,Bool.and_false])⟩;refine⟨c[j].id,by rw[<-g3];exact M.cell i4,(J[j]'(by omega)).2.2.2.2.2.2.2,M.cell i4,?_⟩;refine H7.push ag 0 i4 afw i4 i6 (λ_=>rfl) IS (c[j].id,(J[j]'(by omega)).2.2.2.2.2.2.2) j3 i6 i9 λu3 bk am=>?_;refine⟨(u3,j+1,L2++[((c[j].id,(J[j]'(by omega)).2.2.2.2.2.2.2),(c[j].id,c[j].data))]),js,⟨i7,i9,?_,λp O=>?_,?_⟩,i7⟩
   ·try dsimp only
    rw[qT,N,R,g0 (by rw[hU q1,hU q2];rfl),qn];rfl
   ·rcases qw.1 O with O|O
    ·exact U p O
    ·rw[qx.1 O];refine⟨i4,List.mem_append_right _ ?_⟩;rw[hQ];refine qo.2 ⟨(J[j]'(by omega),c[j]),?_,i4⟩;rw[<-vb (h:=by simp;omega)];exact qf _
   ·try dsimp only
    rw[qT];exact am.bX [0,1,2,3]
  ·have ar:j=c.length:=i5
   subst ar;rw[qU,<-W]at N;have a2:=F5.2.1;have H6:=(H5.fM 2 i4 (D:=kp 1 aB Q) λq hq y hy=>by
    rw[hQ]at hy;obtain⟨z,ap,rfl⟩:=qo.1 hy;obtain⟨k,hk,rfl⟩:=qD ap;have ao:k<c.length:=by simp at hk;omega
    have:=(Fix.row hq ao).2;rw[vb];exact this).bX [1,2,0,3]
   have H7:=aa.YW H6;refine⟨(u2,i+1,L2,P++Q),js,⟨i7,i7,N,U,H7.bX [1,0,2]⟩,i7⟩
 ·rw[qg i5]at K;refine⟨u,L.map qL,i4,?_⟩;have H3:=((Y.freeze 0 i4 λ_=>rfl).bX [1,0]).lq;refine H3.fM 0 i4 λq ⟨q1,q2,_,bq,cq,z1,z2⟩=>?_;refine⟨z1.mono bq,by rw[<-K];simp,λj r e X h2=>?_⟩;rw[<-K]at h2;rw[qO]at X h2;cases hj:L[j]? with
  |none=>rw[hj]at X;cases X
  |some p=>
   rw[hj]at X h2;have e1:=zQ.inj (show dB p.1=dB r from X);have e2:=zQ.inj (show dB p.2=dB e from h2);subst e1;subst e2;obtain⟨k1,k2⟩:=S p (List.mem_of_getElem? hj);exact⟨k1,(z2 _ k2).mono cq⟩
end
def dS(m:aw)(ds:aC)(o b:Int)(live:au):bP:=live.map λk=>(dR m ds [k] o b).map qL
abbrev aeb:bO C.toxZ 181 22 1 [xA eH 0 0] 24:=⟨_,_,i4,i4,i4,i4,i4,i4⟩
section
variable {pw:f7}
theorem abO{k:Int}{l:au}(h:k∈aN ds l):∃d,aS ds k=dB d/\d.lost=eS:=by
 have h:=(qC.1 h).2;unfold isLive at h;cases hd:aS ds k with
 |none=>rw[hd]at h;cases h
 |some d=>rw[hd]at h;exact⟨d,i4,j6⟩
theorem Bo(m:aw)(o b:Int)(l:bY):i0 (ud m o b l)<=i0 l:=by unfold ud;rw[qy];exact qY (qJ _ _) (uN m l)
theorem Td(x:bF)(m:aw)(o b:Int)(T:df h x m)(R:cI m)(ad:i0 m.drives<=64)(c:∀k d,aS ds k=dB d->i0 d.l<=512)(H:aa B h0 h (bg bB a pw (bh x) offs da w ds::As)):
  ai xJ 188 #[xB (dB a),xz xF o,xz xF b] h λv h'=>∃r:Sl,v=r/\Sp h h' [fo 22 r 3 1 az (dS m ds o b (aN ds m.drives))]:=by
 refine ts Tryz.func188 ?_ (.two .n (.two .n (.two (.two .n (.inn (.loop [(7,cF),(16,aT)] [(7,8),(9,11),(12,13),(16,47)] (.two .n (.two .n (.two (.inn (.two .n (.two .n (.two (.two .n (.inn (.loop [(10,cF),(32,aT)] [(10,11),(12,13),(32,42)] .n))) .n)))) .n)))))) .n)));refine(dM x m T R H).mono ?_;rintro _ h1 ⟨P,rfl,G⟩;have N:i0 (aN ds m.drives)<=i0 m.drives:=qJ _ _;have y:∀k∈aN ds m.drives,∃d,aS ds k=dB d:=λk M=>by obtain⟨d,h,_⟩:=abO M;exact⟨d,h⟩
 obtain⟨live,p⟩:∃live,live=aN ds m.drives:=⟨_,rfl⟩
 rw[<-p]at G N y⊢;have ah:=(G.own 0 i4).len;refine⟨P,i4,?_⟩;have ap:i0 (dS m ds o b live)=i0 live:=by simp[dS]
 have H1:=G.te 22 3 1 az;refine aq (λt:Sl×Nat=>(t.1,(t.2:Int))) (λt h'=>t.2<=i0 live/\Sp h h' [fo 22 t.1 3 1 az ((dS m ds o b live).take t.2),an 3 P 1 az live]) (λt=>i0 live-t.2) (⟨eH,0,0⟩,0) i4 ⟨jj,H1⟩ ?_;rintro⟨u,i⟩ h2 ⟨hi,A⟩;dsimp only at*;refine ae (λe=>?_) λe=>?_
 ·have s:i<i0 live:=i5
  refine(A.seq 1 i4 λ_=>rfl).bo i i4 s live[i] i4 ?_;refine A.lit ag az gy i4 [live[i]] i4 (show 1*1<=2^20 by decide) i4 λq h3 D=>?_;have W:=H.up D.ac;have L:=(aa.cz W).2;refine⟨a,i4,x,L.aE _ i4,?_⟩;obtain⟨d,K⟩:=y live[i] (qf s);refine(ue x m q [live[i]] o b (T.up D.ac) R (D.seq 2 i4 λ_=>rfl) jj (λk M=>by rw[qx.1 M];exact⟨d,K⟩) W).mono ?_;rintro _ h4 ⟨X,O,rfl,U⟩;obtain⟨S,f⟩:∃S,S=dR m ds [live[i]] o b:=⟨_,rfl⟩
  have al:i0 S<=512:=by rw[f];unfold dR gD;rw[zd,wj,qH,K];exact qY (Bo _ _ _ _) (c _ _ K)
  rw[<-f]at U;have E:=(D.bR U).aK 4 [1,2,0];have Q:=E.eu 2 i4;have ar:=Q.2.1;have am:=Q.1.len;refine⟨X,i4,?_⟩;have E:=(E.nil 3 1 az).bX [3,0,1,2];refine aq (λt:Sl×Nat=>(t.1,(t.2:Int))) (λt h'=>t.2<=i0 S/\Sp h h' [an 3 t.1 1 az ((S.map qL).take t.2),fo 22 u 3 1 az ((dS m ds o b live).take i),an 3 P 1 az live,cJ lZ 2 piv X O S]) (λt=>i0 S-t.2) (⟨eH,0,0⟩,0) i4 ⟨jj,E⟩ ?_;rintro⟨u2,j⟩ h5 ⟨hj,F⟩;dsimp only at*;have Y:=F.eu 3 i4;refine ae (λe2=>?_) λe2=>?_
  ·have I:j<i0 S:=i5
   have z:=Fix.row Y I;refine Y.1.dY (g:=piv) j i4 i5 (O[j]'(by omega)) i4 ?_;refine F.alloc ag i4 λao h6 Z=>?_;refine Z.storeAll ag 4 i4 i4 (piv (O[j]'(by omega))) i4 i4 i4 i4 λh7 V=>?_;refine⟨S[j].1,by rw[<-z.1];exact(V.box 4 i4).cell0 i4,?_⟩;refine V.push ag 0 i4 gy i4 i6 (λ_=>rfl) fx S[j].1 i4 i6 i9 λu3 h9 H9=>?_;refine⟨(u3,j+1),js,⟨i7,?_⟩,i7⟩
   try dsimp only
   rw[aD _ _ (show j<i0 (S.map qL) by simp;omega),wV];exact H9.bX [0,1,2,3]
  ·rw[qg i9]at F;refine(F.aK 2 [1,0]).AJ ag aeb i9 λu3 ab J=>?_;refine⟨(u3,i+1),js,⟨i7,?_⟩,i7⟩
   try dsimp only
   rw[aD _ _ (show i<i0 (dS m ds o b live) by omega)];have ew:(dS m ds o b live)[i]'(by omega)=S.map qL:=by simp[dS,f]
   rw[ew];exact J.bX [0,1]
 ·rw[qg i5]at A;exact⟨u,i4,A.bX [0]⟩
end
def Pow.calm(w:Pow):Prop:=w.off=eS/\w.fuse=eH
theorem jP:Pow.new.calm:=⟨i4,i4⟩
theorem rD{w:Pow}(h:w.calm):w.step=(eR,w):=by unfold Pow.step;rw[g9 (by simp[h.1]),h.2]
theorem EY{w:Pow}(h:w.calm)(ds:aC)(x:Int)(b:aM):(fQ w ds x b).2.1=w:=by
 unfold fQ;cases aS ds x with
 |none=>rfl
 |some d=>
  try dsimp only
  unfold aW.append;split
  ·rfl
  ·split
   ·rfl
   ·split
    ·rfl
    ·split
     ·rfl
     ·rw[rD h];rfl
theorem Kf{w:Pow}(h:w.calm)(ds:aC)(x:Int):(gB w ds x).2.1=w:=by
 unfold gB;cases aS ds x with
 |none=>rfl
 |some d=>
  try dsimp only
  unfold aW.sync;split
  ·rfl
  ·rw[rD h];rfl
theorem oP{w:Pow}(h:w.calm):∀(l:List (Int×aM)) (ds:aC),(kN l w ds).2.1=w
 |[],_=>rfl
 |x::l,ds=>by
  rw[tk,EY h];split
  ·exact oP h l _
  ·exact EY h _ _ _
theorem Bp{w:Pow}(h:w.calm):∀(l:au) (ds:aC),(eI l w ds).2.1=w
 |[],_=>rfl
 |x::l,ds=>by
  rw[si,Kf h];split
  ·exact Bp h l _
  ·exact Kf h _ _
theorem YX{w:Pow}(h:w.calm)(l:List (Int×aM))(ds:aC):(layAll l w ds).2.1=w:=by
 unfold layAll
 try dsimp only
 rw[oP h];split
 ·exact Bp h _ _
 ·exact oP h _ _
theorem EZ{w:Pow}{d:aW}{n:Nat}{b:aM}(h:w.calm)(a:d.lost=eS)(c:i0 d.l+(n+1)<=d.room)(e:i0 b=64):d.append w b=(0,w,{d with l:=d.l++[b],wait:=d.wait+1,laid:=[],has:=eS}):=by unfold aW.append;rw[g9 i5,g9 m6,g9 i5,g9 (by simp[h.1]),rD h];rfl
theorem Wa{w:Pow}{d:aW}(h:w.calm)(a:d.lost=eS):d.sync w=(0,w,{d with wait:=0,laid:=[],has:=eS}):=by unfold aW.sync;rw[g9 m6,rD h];rfl
theorem aec{ds:aC}{s:Int}{d:aW}(h:aS ds s=dB d):0<=s/\s<64:=by obtain⟨n,rfl,a⟩:=jx h;omega
def Hw(ds:aC)(P:List (Int×aM))(s:Int):Option aW:=
 (aS ds s).map λd=>{d with l:=d.l++(P.filter λx=>decide (x.1=s)).map zH,wait:=d.wait+i0 (P.filter λx=>decide (x.1=s)),laid:=if(P.filter λx=>decide (x.1=s)).isEmpty then d.laid else[],has:=if(P.filter λx=>decide (x.1=s)).isEmpty then d.has else eS}
theorem Dw{w:Pow}(h:w.calm){S:au}:∀(P:List (Int×aM)) (ds:aC),Fit ds S (P.map qL)->(∀x∈P,x.1∈S/\x.2.length=64)->
  (kN P w ds).1=0/\Fit (kN P w ds).2.2 S []/\∀s,aS (kN P w ds).2.2 s=Hw ds P s
 |[],ds,F,_=>⟨i4,F,λs=>by unfold Hw;show aS ds s=_;cases aS ds s<;>simp⟩
 |x::P,ds,F,hP=>by
  obtain⟨d,f,m,q⟩:=F.at_ x.1 (hP x (qF ..)).1;rw[wm,List.count_cons_self]at q;have i:=(hP x (qF ..)).2;obtain⟨n,j,a⟩:=jx f;have c:=EZ (n:=(P.map qL).count x.1) h m i5 i;have e:fQ w ds x.1 x.2=(0,w,bV ds x.1 {d with l:=d.l++[x.2],wait:=d.wait+1,laid:=[],has:=eS}):=by unfold fQ;rw[f];(try dsimp only);rw[c]
  obtain⟨_,g⟩:=KN w x.2 (x:=x.1) (Q:=P.map qL) F (hP x (qF ..)).1 i;rw[tk,e];rw[e]at g;dsimp only at g⊢;rw[g0 rfl];obtain⟨o,k,a3⟩:=Dw h P _ g λy p=>hP y (qz _ p);refine⟨o,k,λs=>?_⟩;rw[a3 s];unfold Hw;rw[j,An _ _ _ _ a F.len,<-j];by_cases b:s=x.1
  ·rw[g0 b,b,f];simp only[qS,zl,decide_true,if_true,wm,zc,qn,List.singleton_append,List.isEmpty_cons,Bool.false_eq_true,if_false];congr 1;simp only[aW.mk.injEq,true_and,and_true];refine⟨i5,?_,?_⟩<;>split<;>rfl
  ·rw[g9 b];simp only[zl,decide_eq_true_eq,g9 (show¬x.1=s fromλr=>b r.symm)]
theorem Bq{w:Pow}(h:w.calm){S:au}:∀(l:au) (ds:aC),Fit ds S []->(∀x∈l,x∈S)->
  (eI l w ds).1=0/\Fit (eI l w ds).2.2 S []/\∀s,aS (eI l w ds).2.2 s=(aS ds s).map λd=>if s∈l then{d with wait:=0,laid:=[],has:=eS}else d
 |[],ds,F,_=>⟨i4,F,λs=>by show aS ds s=_;cases aS ds s<;>simp⟩
 |x::l,ds,F,hl=>by
  obtain⟨d,b,j,o⟩:=F.at_ x (hl x (qF ..));obtain⟨n,g,a⟩:=jx b;have e:gB w ds x=(0,w,bV ds x {d with wait:=0,laid:=[],has:=eS}):=by unfold gB;rw[b];(try dsimp only);rw[Wa h j]
  obtain⟨_,c⟩:=Pa w F (hl x (qF ..));rw[si,e];rw[e]at c;dsimp only at c⊢;rw[g0 rfl];obtain⟨k,i,a3⟩:=Bq h l _ c λy m=>hl y (qz _ m);refine⟨k,i,λs=>?_⟩;rw[a3 s,g,An _ _ _ _ a F.len,<-g];by_cases f:s=x
  ·subst f;rw[g0 i4,b];simp only[qS,qX,true_or,if_true];congr 1;split<;>rfl
  ·rw[g9 f];cases aS ds s with
   |none=>rfl
   |some d'=>simp[f]
section
variable {pw:f7}
end
section
variable {pw:f7}
end
def pH(p:Pm)(extra:Int)(l:au):Int:=
 if(fy l).2&&(bx p&&fz extra 0 16)then
  if(be l l.length).any λi=>decide (l.getD i.toNat 0<(i0 (aX (cC p extra l)):Int))then 7 else 0
 else 1
theorem Te(p:Pm)(extra:Int)(w:Pow)(l:au):dH p extra w l=if pH p extra l=0 then layAll (bC (cC p extra l) (be l l.length)) w (gZ l (be l l.length).length)else(pH p extra l,w,[]):=by
 unfold dH pH;by_cases h:((fy l).2&&(bx p&&fz extra 0 16))=eR
 ·rw[g0 h,g0 h];by_cases a:((be l l.length).any λi=>decide (l.getD i.toNat 0<(i0 (aX (cC p extra l)):Int)))=eR
  ·rw[g0 a,g0 a];rfl
  ·rw[g9 a,g9 a];rfl
 ·rw[g9 h,g9 h];rfl
theorem Hx{p:Pm}{extra:Int}{l:au}(h:pH p extra l=0):bx p=eR/\0<=extra/\extra<=16/\(fy l).2=eR/\((be l l.length).any λi=>decide (l.getD i.toNat 0<(i0 (aX (cC p extra l)):Int)))=eS:=by
 unfold pH at h;by_cases a:((fy l).2&&(bx p&&fz extra 0 16))=eR
 ·rw[g0 a]at h;by_cases b:((be l l.length).any λi=>decide (l.getD i.toNat 0<(i0 (aX (cC p extra l)):Int)))=eR
  ·rw[g0 b]at h;cases h
  ·unfold fz at a;simp only[qu,decide_eq_true_eq]at a;exact⟨a.2.1,a.2.2.1,a.2.2.2,a.1,kt⟩
 ·rw[g9 a]at h;cases h
def iY(m:aw)(l:bY):Bool:=bp m&&(aX m).all λp=>decide (p∈l)
theorem Wb(a:f7)(e:Sl)(p:aM)(l:Sl)(b:Cells)(h:f9)(q:bT h a 34 [e])(o:Rd h e 1 aB p)(n:fA h l 1 aB b)(w:i0 b<=2^30):
  ai xJ 209 #[l,.func (.func 210) #[] #[xB (dB a)]] h λv h'=>v=xD (decide (p∈b))/\h'=h:=by
 refine ts Tryz.func209 ?_ (args:=[l,(.func (.func 210) #[] #[xB (dB a)])]);refine(nj l (210,#[],#[xB (dB a)]) (R:=λv h'=>(∃i:Int,v=xz xF i/\(decide (i>=0)=decide (p∈b)))/\h'=h) ?_).mono ?_
 ·skip
  have u:=n.len;refine aq (λi:Nat=>(i:Int)) (λi h'=>i<=i0 b/\p∉b.take i/\h'=h) (λi=>i0 b-i) 0 i4 ⟨i5,jj,i4⟩ ?_;rintro i k ⟨m,c,rfl⟩;refine ae (λj=>?_) (λj=>?_)
  ·have d:i<i0 b:=by have t:(i:Int)<(l.len:Int):=j;omega
   refine n.get i i4 d λr s=>eU lb ?_;refine(FH r a (R:=λv h'=>v=xD (decide (b[i]=p))/\h'=k) ?_).mono ?_
   ·skip
    refine⟨e,q.cell0 i4,(oK r e b[i] p k s o).mono ?_⟩;rintro _ _ ⟨rfl,rfl⟩;exact⟨_,i4,i4,i4⟩
   ·rintro _ _ ⟨rfl,rfl⟩;refine⟨_,i4,ae (λg=>⟨⟨i,i4,?_⟩,i4⟩) λg=>?_⟩
    ·rw[hU (show(i:Int)>=0 by omega),hU (by rw[<-g];exact qf d)]
    ·refine⟨i+1,j0,⟨i5,λf=>?_,i4⟩,i5⟩;rw[aD _ _ d]at f;rcases qw.1 f with f|f
     ·exact c f
     ·exact g (qx.1 f).symm
  ·have t:¬(i:Int)<(l.len:Int):=j;rw[qg i5]at c;exact⟨⟨-1,i4,by rw[hZ c];rfl⟩,i4⟩
 ·rintro _ k ⟨⟨i,rfl,m⟩,rfl⟩;exact⟨i,i4,by rw[m],i4⟩
theorem Tf(a pw:f7)(d:aW)(s b:Sl)(x:bF)(m:aw)(h:f9)(K:bT h a 155 (fk pw d s b))(W:fA h s 1 aB d.l)(ok:im d)(L:df h x m)(A:cI m):
  ai xJ 145 #[xB (dB a),fN x] h λv h'=>v=xD (iY m d.l)/\Sp h h' []:=by
 refine ts Tryz.func145 ?_ (.two .n (.two .n (.two .n (.two (.two .n (.inn (.loop [(16,aT)] [(4,5),(7,8),(16,25)] .n))) .n)))) (args:=[(dB a),x]);have J:=ok.len;have z:=ok.room;refine(Sp.refl h).boxed λa1 S I=>?_;refine⟨x,(I.box 0 i4).aE _ i4,(FM x m S (L.up I.ac) A).mono ?_⟩;rintro _ h2 ⟨rfl,U⟩;have w:=I.up U.ac;refine⟨_,i4,aU (λg=>⟨by unfold iY;rw[g];rfl,.zip w.ac⟩) λg=>?_⟩;refine(FL s b (K.ac w.ac K.lt) (W.up w.ac) ok).mono ?_;rintro _ h3 ⟨F,rfl,P⟩;have H:=w.comp P;refine⟨F,i4,x,(H.box 0 i4).aE _ i4,(mQ x m h3 (L.up H.ac) A).mono ?_⟩;rintro _ X ⟨u,rfl,Q⟩;have q:=H.comp Q;have G:=jw m A;obtain⟨c,j⟩:∃c,c=aX m:=⟨_,rfl⟩
 rw[<-j]at q G;have R:=(aa.th (q.aK 3 [2])).1;refine⟨u,i4,?_⟩;obtain⟨rs,q⟩:=(q.bX [2,1]).SK λ_=>rfl;refine aq (λi:Nat=>(i:Int)) (λi h'=>i<=i0 c/\((c.take i).all λp=>decide (p∈d.l))=eR/\Sp h h' [cJ (cw 1 aB) 1 bi u rs c,fP F d.l]) (λi=>i0 c-i) 0 i4 ⟨i5,jj,q⟩ ?_;rintro i Y ⟨hi,f,y⟩;have V:=(y.eu 0 i4).2.1;refine ae (λe=>?_) (λe=>?_)
 ·have k:i<i0 c:=by have T:(i:Int)<(u.len:Int):=e;omega
  refine(y.eu 0 i4).1.lr i i4 i5 ?_;obtain⟨r,M⟩:∃r,r=rs[i]'(by omega):=⟨_,rfl⟩
  rw[<-M];refine y.alloc ag i4 λD Z O=>?_;refine O.storeAll ag 2 i4 i4 [r] i4 i4 i4 i4 λN o=>?_;have t:Rd N r 1 aB c[i]:=by rw[M];exact Fix.row (o.eu 0 i4) k
  have E:=aa.BJ (o.aK 2 [1]) λ_=>rfl;refine(Wb D r c[i] F d.l N (o.box 2 i4) t E i5).mono ?_;rintro _ h8 ⟨rfl,rfl⟩;refine⟨_,i4,aU (λB=>⟨?_,.zip o.ac⟩) λB=>?_⟩
  ·have:iY m d.l=eS:=by unfold iY;rw[g,zS,<-j];exact yz.2 ⟨c[i],qf k,by rw[B];simp⟩
   rw[this]
  ·refine⟨i+1,j0,⟨i5,?_,o.bX [0,1]⟩,i5⟩;rw[aD _ _ k,List.all_append,f,xa,List.all_nil,B];rfl
 ·have:i=i0 c:=by have T:¬(i:Int)<(u.len:Int):=e;omega
  subst this;rw[qU]at f;exact⟨by unfold iY;rw[g,<-j,f];rfl,.zip y.ac⟩
theorem YY{w:Pow}(h:w.calm){S:au}(P:List (Int×aM))(ds:aC)(F:Fit ds S (P.map qL))(c:∀x∈P,x.1∈S/\x.2.length=64):
  (layAll P w ds).1=0/\Fit (layAll P w ds).2.2 S []/\∀s,aS (layAll P w ds).2.2 s=(Hw ds P s).map λd=>if s∈cx (P.map qL)then{d with wait:=0,laid:=[],has:=eS}else d:=by
 obtain⟨j,g,a3⟩:=Dw h P ds F c;have i:=oP h P ds;unfold layAll
 try dsimp only
 rw[g0 j,i];obtain⟨f,e,l⟩:=Bq h (S:=S) (cx (P.map qL)) (kN P w ds).2.2 g λx b=>by
  unfold cx at b;have a:=(qC.1 b).2;obtain⟨y,k,rfl⟩:=qo.1 (ii a);exact(c y k).1
 exact⟨f,e,λs=>by rw[l s,a3 s]⟩
theorem BU(l:au)(k:Nat):(be l k).Pairwise (·<·):=by unfold be;refine List.Pairwise.filter _ (vl.2 ?_);exact(List.pairwise_lt_range (n:=k)).imp λh=>i5
theorem abP{l:au}{most:Int}(e:l.Pairwise (·<·))(d:∀x∈l,0<=x/\x<=most):ot l most=eR:=by
 unfold ot;refine rK λi b=>?_;unfold jJ fz;have c:l.getD i 0=l[i]:=by rw[qd,qc b];rfl
 have:=d l[i] (qf b);rw[c,hU this.1,hU this.2,zS,zS];by_cases h0:i=0
 ·rw[hU h0];rfl
 ·have a:l.getD (i-1) 0=l[i-1]:=by rw[qd,qc i5];rfl
  rw[a,hU (List.pairwise_iff_getElem.1 e (i-1) i i5 b i5),Bool.or_true]
theorem Nr{p:Pm}{extra:Int}{l:au}(g:i0 l<=64)(c:pH p extra l=0):bp (cC p extra l)=eR:=by
 obtain⟨f,d,h3,_⟩:=Hx c;have e:kJ (cC p extra l)=eR:=by unfold kJ fz cC;simp[f,d,h3]
 have b:ot (cC p extra l).drives 63=eR:=abP (BU l l.length) λx a=>by
  obtain⟨n,h,rfl,_⟩:=(tQ l l.length x).1 a;omega
 unfold bp;rw[e,b];rfl
theorem KQ(p:Pm)(extra:Int)(l:au)(b:i0 l<=24):i0 (aX (cC p extra l))<=1:=by
 unfold aX ik;rw[qy,zA];have a:=oM l l.length;have:i0 (fX (cC p extra l))<=19+24:=by
  unfold fX;split
  ·simp only[qp,cm,zc,yE,qy,cC,wj];omega
  ·simp
 omega
theorem Kg{ds:aC}{k:Int}{d:aW}(h:aS ds k=dB d):bV ds k d=ds:=by
 unfold aS at h;split at h
 ·rename_i b;unfold bV;cases hx:ds[k.toNat]? with
  |none=>rw[hx]at h;cases h
  |some o=>
   rw[hx]at h;have h:o=dB d:=h;subst h;obtain⟨c,a⟩:=ql.1 hx;rw[<-a,List.set_getElem_self]
 ·cases h
theorem roomy{m:aw}{w:Pow}{N:Int->Int}:∀{live:au} {ds:aC},(∀k∈live,∃d,aS ds k=dB d/\d.lost=eS/\0<=N k/\(i0 d.l:Int)+N k<=d.room)->dm m ds live N=eR/\makes m N live w ds=(0,w,ds)
 |[],ds,_=>⟨i4,i4⟩
 |k::live,ds,h=>by
  obtain⟨d,a,c,h3,n⟩:=h k qF;obtain⟨b,g⟩:=roomy (m:=m) (w:=w) (N:=N) (live:=live) (ds:=ds) λk j=>h k (qz _ j);have e:hJ d d.l.length (N k)=eR:=hU i5;have f:gu m d (N k)=eR:=by unfold gu;rw[c,e];rfl
  have i:fT m w ds k (N k)=(0,w,ds):=by
   unfold fT;rw[a];have:fH m w d (N k)=(0,w,d):=by unfold fH;rw[g9 l5,g9 p0,g0 e]
   try dsimp only
   rw[this]
   try dsimp only
   rw[Kg a]
  refine⟨?_,?_⟩
  ·unfold dm at b⊢;rw[xa,b,Bool.and_true];unfold mB;rw[a];exact f
  ·show(if(fT m w ds k (N k)).1=0 then makes m N live (fT m w ds k (N k)).2.1 (fT m w ds k (N k)).2.2 else fT m w ds k (N k))=_;rw[i];exact g
theorem Wc(l:List (Int×aM))(k:Int):(l.map qL).count k=i0 (l.filter λy=>decide (y.1=k)):=by
 induction l with
 |nil=>rfl
 |cons y l ih=>
  rw[wm,List.count_cons,ih,zl];by_cases h:y.1=k
  ·rw[g0 (hU h),g0 j6];rfl
  ·rw[g9 j6,g9 j6];rfl
theorem Dx(n:aw)(k:Int):∀{live:au},live.Nodup->k∈live->((bC n live).filter λy=>decide (y.1=k)).map zH=aX n
 |[],_,hk=>by cases hk
 |x::live,hnd,hk=>by
  have e:bC n (x::live)=(aX n).map (λc=>(x,c))++bC n live:=by unfold bC;rw[zd]
  obtain⟨i,d⟩:=yl.1 hnd;rw[e,zg,qT];by_cases a:x=k
  ·subst a;have g:((aX n).map λc=>(x,c)).filter (λy=>decide (y.1=x))=(aX n).map (λc=>(x,c)):=List.filter_eq_self.2 λy b=>by
    obtain⟨c,_,rfl⟩:=qo.1 b;exact hU i4
   have j:(bC n live).filter (λy=>decide (y.1=x))=[]:=wT.2 λy b=>by
    have:=(kD b).1;have f:y.1≠x:=λh=>i (h▸this);simpa using f
   rw[g,j,vR,qH,w5];exact List.map_id _
  ·have g:((aX n).map λc=>(x,c)).filter (λy=>decide (y.1=k))=[]:=wT.2 λy b=>by
    obtain⟨c,_,rfl⟩:=qo.1 b;simpa using a
   rw[g,vR,List.nil_append];rcases qX.1 hk with h|h
   ·exact absurd h.symm a
   ·exact Dx n k d h
theorem abQ{p:Pm}{seed:Int}{d:Row}{K H w n:Nat}(B:bU p seed d K H w n)(id:Int):rU p seed d id=if bJ id then fS w (dj p seed d) (cW n seed id)else[]:=by unfold rU;rw[B.oA,show p.2.2.toNat=w by have:=B.s;omega]
theorem Ns{m:aw}{o i seed:Int}{d:Row}{id:Int}{K H w n:Nat}(B:bU m.p seed d K H w n)(c:0<=o/\o<=16777215)(a:0<=i/\i<=7)(hid:0<=id/\id<=65535):iR (kW m o i seed d id)=eR:=by
 rw[kA];refine⟨c,a,hid,B.may,?_⟩;have b:bJ id=eR:=by unfold bJ;rw[hU hid.1,hU hid.2];rfl
 show(i0 (rU m.p seed d id):Int)=m.p.2.2;rw[abQ B id,g0 b,B.UT id,B.s]
def pI(m:aw)(o:Int)(tries:au)(a:bY)(live:au)(k:Int)(i:Nat):List cP:=
 ((qt (m.p.1+m.extra).toNat).filter λid=>decide (fI (dt o i live) (id:Nat)=k)).map λid:Nat=>kW m o i (cb o i (tries.getD i 0)) (a.getD i []) id
def iw(m:aw)(o:Int)(tries:au)(a:bY)(live:au)(k:Int)(n:Nat):List cP:=(qt n).flatMap (pI m o tries a live k)
theorem Nt(m:aw)(o:Int)(tries:au)(a:bY)(live:au)(k:Int)(n:Nat):iw m o tries a live k (n+1)=iw m o tries a live k n++pI m o tries a live k n:=by unfold iw;rw[zL,zf,zd,wj,qH]
theorem Dy(m:aw)(o:Int)(tries:au)(a:bY)(live:au)(k:Int)(i:Nat):((mD m o tries a live i).filter λy=>decide (y.1=k)).map zH=(pI m o tries a live k i).map cT:=by unfold mD pI;rw[List.filter_map,w5,w5];rfl
theorem BV(m:aw)(o:Int)(tries:au)(a:bY)(live:au)(k:Int):∀n,((dF m o tries a live n).filter λy=>decide (y.1=k)).map zH=(iw m o tries a live k n).map cT
 |0=>by simp[dF,iw]
 |n+1=>by rw[rV,Nt,zg,qT,qT,BV m o tries a live k n,Dy]
theorem Tg{m:aw}{o:Int}{tries:au}{a:bY}{live:au}{k:Int}{i:Nat}{r:cP}(h:r∈pI m o tries a live k i):∃id:Nat,r=kW m o i (cb o i (tries.getD i 0)) (a.getD i []) id/\id<(m.p.1+m.extra).toNat:=by unfold pI at h;obtain⟨id,b,rfl⟩:=qo.1 h;exact⟨id,i4,qA.1 (qC.1 b).1⟩
theorem Hy{m:aw}{o:Int}{tries:au}{a:bY}{live:au}{k:Int}{n:Nat}{r:cP}(h:r∈iw m o tries a live k n):∃(i id:Nat),r=kW m o i (cb o i (tries.getD i 0)) (a.getD i []) id/\i<n/\id<(m.p.1+m.extra).toNat:=by unfold iw at h;obtain⟨i,b,d⟩:=zO.1 h;obtain⟨id,c,h3⟩:=Tg d;exact⟨i,id,c,qA.1 b,h3⟩
def cN(m:aw)(d:aW)(n:Int):aW:=if hJ d d.l.length n then d else{d with l:=bW m d.l,wait:=0,laid:=[],has:=eS}
theorem Th{m:aw}{r:cP}(h:dz m r=eR):iR r=eR:=by unfold dz at h;simp only[qu]at h;exact h.1
theorem YZ{l:List cP}{r:cP}(h:r∈pu l):r∈l:=by unfold pu at h;obtain⟨i,a,rfl⟩:=qo.1 h;have a:=qA.1 (qC.1 a).1;rw[qd,qc a];exact qf a
theorem Ti{m:aw}{c:aM}{r:cP}(h:jg m c=dB r):dg c=dB r/\dz m r=eR:=by
 unfold jg at h;cases hc:dg c with
 |none=>rw[hc]at h;cases h
 |some x=>
  rw[hc]at h;dsimp only at h;by_cases a:dz m x=eR
  ·rw[g0 a]at h;injection h with h;subst h;exact⟨i4,a⟩
  ·rw[g9 a]at h;cases h
theorem sE{m:aw}{l:bY}{r:cP}(h:r∈fp m l):∃c∈l,dg c=dB r/\dz m r=eR:=by have h:=yL.1 (YZ h);obtain⟨c,b,a⟩:=List.mem_filterMap.1 h;exact⟨c,b,Ti a⟩
theorem Bt(m:aw)(l:bY):∀c∈bW m l,i0 c=64:=λc b=>by
 rcases qw.1 b with h|h
 ·exact sj h
 ·obtain⟨r,d,rfl⟩:=qo.1 h;obtain⟨_,_,_,a⟩:=sE d;exact Fv (Th a)
theorem Dz{w:Pow}(a:w.calm){d:aW}{l:bY}(e:∀c∈l,i0 c=64)(g:d.lost=eS)(h:i0 l<=d.room):d.rewrite w l=(0,w,{d with l:=l,wait:=0,laid:=[],has:=eS}):=by unfold aW.rewrite;have:l.all (λb=>decide (i0 b=64))=eR:=qK.2 λc f=>hU (e c f);rw[g9 (by simp[this]),g9 o1,g9 i5,g9 (by simp[a.1]),rD a];rfl
theorem Hz{w:Pow}(e:w.calm){m:aw}{d:aW}{n:Int}(h:gu m d n=eR):fH m w d n=(0,w,cN m d n):=by
 have h0:=h;unfold gu at h;rw[qu,wv,wW]at h;obtain⟨c,a⟩:=h;unfold fH cN;rw[g9 l5,g9 (by simp[h0])];by_cases b:hJ d d.l.length n=eR
 ·rw[g0 b,g0 b]
 ·rw[g9 b,g9 b];have h3:hJ d (bW m d.l).length n=eR:=by
   rcases a with a|a
   ·exact absurd a b
   ·exact a
  unfold hJ at h3;rw[decide_eq_true_eq]at h3;exact Dz e (Bt m d.l) c i5
theorem Nu(m:aw)(ds:aC)(k:Int)(l:au)(N:Int->Int):dm m ds (k::l) N=(mB m ds k (N k)&&dm m ds l N):=xa
theorem xO{m:aw}{ds:aC}{k n:Int}(h:mB m ds k n=eR):∃d,aS ds k=dB d/\gu m d n=eR:=by
 unfold mB at h;cases hd:aS ds k with
 |none=>rw[hd]at h;cases h
 |some d=>rw[hd]at h;exact⟨d,i4,h⟩
theorem uf(ds:aC)(k:Int)(d:aW):i0 (bV ds k d)=i0 ds:=by unfold bV;simp
theorem iU{ds:aC}{k:Int}{b d:aW}(a:i0 ds=64)(c:aS ds k=dB b)(s:Int):aS (bV ds k d) s=if s=k then dB d else aS ds s:=by obtain⟨n,rfl,e⟩:=jx c;exact An ds n d s e a
theorem KR{m:aw}{ds a:aC}{l:au}{N:Int->Int}(h:∀k∈l,aS ds k=aS a k):dm m ds l N=dm m a l N:=by unfold dm;rw[Bool.eq_iff_iff,qK,qK];refine forall_congr' λk=>forall_congr' λb=>?_;unfold mB;rw[h k b]
theorem Bu{w:Pow}(l:w.calm){m:aw}{N:Int->Int}:∀{live:au} {ds:aC},live.Nodup->i0 ds=64->dm m ds live N=eR->
  ∃a,makes m N live w ds=(0,w,a)/\a.length=64/\∀k,aS a k=(aS ds k).map λd=>if k∈live then cN m d (N k)else d
 |[],ds,_,h64,_=>⟨ds,i4,h64,λk=>by cases aS ds k<;>simp⟩
 |k::live,ds,hnd,h64,hf=>by
  rw[Nu,qu]at hf;obtain⟨g,c⟩:=yl.1 hnd;obtain⟨d,j,h⟩:=xO hf.1;have e:fT m w ds k (N k)=(0,w,bV ds k (cN m d (N k))):=by unfold fT;rw[j];(try dsimp only);rw[Hz l h]
  have b:=iU (d:=cN m d (N k)) h64 j;have i:dm m (bV ds k (cN m d (N k))) live N=eR:=by
   rw[<-KR (ds:=ds) λs f=>?_]
   ·exact hf.2
   ·rw[b,g9 λp:s=k=>g (p▸f)]
  obtain⟨a,n,o,h3⟩:=Bu l c (by rw[uf];exact h64) i;refine⟨a,?_,o,λs=>?_⟩
  ·show(if(fT m w ds k (N k)).1=0 then makes m N live (fT m w ds k (N k)).2.1 (fT m w ds k (N k)).2.2 else fT m w ds k (N k))=_;rw[e];exact n
  ·rw[h3 s,b];by_cases f:s=k
   ·subst f;rw[g0 i4,j];simp[g]
   ·rw[g9 f];simp[f]
theorem Bv{m:aw}{d:aW}{n:Int}(h:gu m d n=eR):(cN m d n).lost=eS/\(cN m d n).room=d.room/\((cN m d n).l.length:Int)+max n 0<=d.room:=by
 unfold gu at h;rw[qu,wv,wW]at h;obtain⟨c,a⟩:=h;unfold cN;by_cases b:hJ d d.l.length n=eR
 ·rw[g0 b];unfold hJ at b;rw[decide_eq_true_eq]at b;exact⟨c,i4,i5⟩
 ·rw[g9 b];have h3:hJ d (bW m d.l).length n=eR:=by
   rcases a with a|a
   ·exact absurd a b
   ·exact a
  unfold hJ at h3;rw[decide_eq_true_eq]at h3;exact⟨c,i4,i7⟩
theorem Pf(a:ByteArray):fg a a=eS:=UJ _
theorem Wd{a b:ByteArray}(h:jK a b=eR)(c:a≠b):fg a b=eR:=by
 rcases(GJ a b).1 h with h|h
 ·exact h
 ·exact absurd (oD h) c
theorem DA{a b:ByteArray}(h:fg a b=eR):a≠b:=λe=>by subst e;rw[Pf]at h;cases h
theorem aed:Ord pV:=⟨λa b c e d=>CC _ _ _ e d,λa b=>CD _ _⟩
theorem kE{m:aw}{x e:ci}:e∈(dh m x).objs↔e∈m.objs∨e=x:=by show e∈(m.objs++[x]).mergeSort pV↔_;rw[yL];simp
theorem We{name:ByteArray}{l:List Qw.ci}(h:l.any (gf name)=eS):∀e∈l,e.name≠name:=λe a b=>by
 have:=wL.1 h e a;unfold gf at this;rw[b]at this;simp at this
theorem Wf{m:aw}{x:Qw.ci}(E:bp m=eR)(f:mb x.name=eR)(n:∀e∈m.objs,e.name≠x.name)(j:x.object=m.next)(I:m.objs.length<=11)(K:m.next<=16777215)(N:m.seq<=2147483646)
  (i:0<=x.length/\x.length<=m.p.1*m.p.2.2*8) (u:∀t∈x.tries,0<=t/\t<=15) (w:(x.tries.length:Int)=countP m.p x.length):bp (dh m x)=eR:=by
 obtain⟨B,H,h3,J,s,y,D⟩:=(cv m).1 E;obtain⟨M,L,a3,a4⟩:=(dZ m).1 B;have c:(dh m x).objs.Perm (m.objs++[x]):=yi _ _;have l:∀e∈m.objs,e.object<m.next:=λe g=>((iS m e).1 (s e g)).2.1.2;refine(cv _).2 ⟨(dZ _).2 ⟨⟨?_,?_⟩,⟨?_,?_⟩,a3,a4⟩,H,h3,?_,λe g=>?_,?_,?_⟩
 ·show 1<=m.seq+1;omega
 ·show m.seq+1<=_;omega
 ·show 0<=m.next+1;omega
 ·show m.next+1<=_;omega
 ·rw[c.length_eq];simp;omega
 ·rcases kE.1 g with g|rfl
  ·obtain⟨A,z,G,v,F⟩:=(iS m e).1 (s e g);exact(iS _ e).2 ⟨A,⟨z.1,by show _<m.next+1;omega⟩,G,v,F⟩
  ·exact(iS _ _).2 ⟨f,⟨i5,by show _<m.next+1;omega⟩,i,u,w⟩
 ·have d:(m.objs++[x]).Pairwise (λa b:Qw.ci=>a.name≠b.name):=wP.2 ⟨y.imp λh=>DA h,List.pairwise_singleton _ _,λa r b o=>by rw[qx.1 o];exact n a r⟩;have k:=(c.pairwise_iff (R:=λa b:Qw.ci=>a.name≠b.name) λ{a b} h=>Ne.symm h).2 d;have q:(dh m x).objs.Pairwise (λa b=>pV a b=eR):=(Cz aed (m.objs++[x])).1;exact(q.and k).imp λh=>Wd h.1 h.2
 ·have d:(m.objs++[x]).Pairwise (λa b:Qw.ci=>a.object≠b.object):=wP.2 ⟨D,List.pairwise_singleton _ _,λa r b o=>by rw[qx.1 o,j];have:=l a r;omega⟩;exact(c.pairwise_iff (R:=λa b:Qw.ci=>a.object≠b.object) λ{a b} h=>Ne.symm h).2 d
theorem Ph{p:Pm}{o:Int}{n:Nat}{t:au}(h:cA p o n=dB t):∀x∈t,0<=x/\x<=15:=λx b=>by
 obtain⟨i,c,rfl⟩:=qD b;obtain⟨k,d,a⟩:=uL h i c;have:=(Dj a).1;rw[d];omega
theorem DB{p:Pm}(a:bx p=eR)(b:aM):(i0 (splitB p b):Int)=countP p b.length:=by have:=(lN a b.length).1;unfold splitB;rw[qy,zA];omega
theorem Za{m:aw}{d:Bool}{ds:aC}{name:ByteArray}{b:aM}{t:au}(g:bp m=eR)(j:de m d ds name b.length=0)(f:cA m.p m.next (splitB m.p b).length=dB t):bp (dh m ⟨name,m.next,i0 b,t⟩)=eR:=by
 obtain⟨n,l,z3,z4,z5⟩:=jO j;have k:¬m.p.1*m.p.2.2*8<(i0 b:Int):=λh=>z4 (.inl h);have a:i0 m.objs<=11:=by have:¬12<=i0 m.objs:=λh=>z4 (.inr h);omega
 have e:m.next<=16777215:=by have:¬16777215<m.next:=λh=>z5 (.inr (.inl h));omega
 have c:m.seq<=2147483646:=by have:¬2147483647<=m.seq:=λh=>z5 (.inr (.inr h));omega
 have i:=((dZ m).1 ((cv m).1 g).1).2.2.1;refine Wf g l (We z3) i4 a e c ⟨by show 0<=(i0 b:Int);omega,by show(i0 b:Int)<=_;omega⟩ (Ph f) ?_;show(i0 t:Int)=countP m.p b.length;rw[jk f,DB i]
def fd(a:bY)(d:aW):aW:=if a.isEmpty then d else{d with l:=d.l++a,wait:=0,laid:=[],has:=eS}
def kF(P:List (Int×aM))(s:Int):bY:=(P.filter λx=>decide (x.1=s)).map zH
theorem Nv{P:List (Int×aM)}{s:Int}(h:∀x∈P,x.1≠s):kF P s=[]:=by unfold kF;rw[wT.2 λx a=>by simpa using h x a];rfl
theorem Nw(P:List (Int×aM))(s:Int):i0 (kF P s)=(P.map qL).count s:=by unfold kF;rw[qy];exact(Qw.Wc P s).symm
theorem xP{l:au}{s:Int}(h:0<=s/\s<64):s∈cx l↔s∈l:=by unfold cx;rw[qC,decide_eq_true_eq];refine⟨λh=>h.2,λh'=>⟨?_,h'⟩⟩;exact qo.2 ⟨s.toNat,qA.2 i5,i5⟩
theorem HB{w:Pow}(n:w.calm){ds:aC}{P:List (Int×aM)}(i:i0 ds=64)
  (a:∀x∈P,i0 x.2=64/\∃d,aS ds x.1=dB d/\d.lost=eS/\d.l.length+i0 (kF P x.1)<=d.room):
  ∃b,layAll P w ds=(0,w,b)/\b.length=64/\∀s,aS b s=(aS ds s).map (fd (kF P s)):=by
 have F:Fit ds (P.map qL) (P.map qL):=⟨i,λk t=>by
  obtain⟨x,g,rfl⟩:=qo.1 t;obtain⟨_,d,j,m,h3⟩:=a x g;rw[Nw]at h3;exact⟨d,j,m,h3⟩⟩
 obtain⟨r,q,a3⟩:=Qw.YY n P ds F λx g=>⟨qo.2 ⟨x,g,rfl⟩,(a x g).1⟩
 refine⟨(layAll P w ds).2.2,?_,q.len,λs=>?_⟩
 ·have m:=YX n P ds;exact vd r (vd m i4)
 ·rw[a3 s];unfold Hw;cases hd:aS ds s with
  |none=>rfl
  |some d=>
   obtain⟨f,e⟩:=aec hd;rw[qS,qS,qS];congr 1;unfold fd;have o:s∈P.map qL↔(kF P s).isEmpty=eS:=by rw[<-List.count_pos_iff,<-Nw];cases hc:kF P s<;>simp
   by_cases c:(kF P s).isEmpty=eR
   ·have h0:kF P s=[]:=List.isEmpty_iff.1 c;have j:(P.filter λx=>decide (x.1=s))=[]:=List.map_eq_nil_iff.1 h0;rw[g9 (λh=>by rw[xP ⟨f,e⟩,o]at h;rw[h]at c;cases c),g0 c,j];simp
   ·have p:(kF P s).isEmpty=eS:=pa
    rw[g0 ((xP ⟨f,e⟩).2 (o.2 p)),g9 c];rfl
theorem oc{n:aw}{live:au}(a:live.Nodup)(s:Int):kF (bC n live) s=if s∈live then aX n else[]:=by
 by_cases h:s∈live
 ·rw[g0 h];exact Dx n s a h
 ·rw[g9 h];exact Nv λx b c=>h (c▸(kD b).1)
theorem Nx(m:aw)(o:Int)(tries:au)(a:bY)(live:au)(k:Int)(n:Nat):kF (dF m o tries a live n) k=(iw m o tries a live k n).map cT:=BV m o tries a live k n
theorem Ny{m:aw}(h:bp m=eR):aX m≠[]:=by unfold aX ik fX;rw[g0 h];intro e;have:=congrArg vJ e;simp[cm]at this;omega
theorem oQ{ds:aC}{l:au}(h:l.Nodup):(aN ds l).Nodup:=h.filter _
theorem iy{ds:aC}{l:au}{k:Int}(h:k∈aN ds l):k∈l/\∃d,aS ds k=dB d/\d.lost=eS:=by
 obtain⟨b,a⟩:=qC.1 h;unfold isLive at a;cases hd:aS ds k with
 |none=>rw[hd]at a;cases a
 |some d=>rw[hd]at a;exact⟨b,d,i4,j9⟩
theorem FT{ds:aC}{l:au}{k:Int}:k∈aN ds l↔k∈l/\∃d,aS ds k=dB d/\d.lost=eS:=by refine⟨iy,λ⟨h1,d,h2,h3⟩=>qC.2 ⟨h1,?_⟩⟩;unfold isLive;rw[h2];simp[h3]
theorem Nz(a:bY)(d:aW):(fd a d).l=d.l++a:=by
 unfold fd;by_cases h:a.isEmpty=eR
 ·rw[g0 h,List.isEmpty_iff.1 h,qH]
 ·rw[g9 h]
theorem uQ(a:bY)(d:aW):(fd a d).lost=d.lost/\(fd a d).room=d.room:=by unfold fd;split<;>exact⟨i4,i4⟩
theorem Zb{a b:bY}(h:b≠[])(d:aW):fd b (fd a d)=fd (a++b) d:=by
 have e:∀c:bY,c≠[]->∀d,fd c d={d with l:=d.l++c,wait:=0,laid:=[],has:=eS}:=λc g d=>by
  unfold fd;rw[g9 l7]
 by_cases f:a=[]
 ·subst f;rfl
 ·rw[e a f,e b h,e (a++b) sL];simp
theorem DC(a:Nat)(l:List (Int×aM))(k:Int):jm a l k=a+i0 (kF l k):=by unfold jm kF;rw[qy]
theorem QO{p:Pm}{o:Int}{b:aM}{t:au}(d:bx p=eR)(c:cA p o (splitB p b).length=dB t){i:Nat}(j:i<i0 (splitB p b)):∃K H w n,bU p (cb o i (t.getD i 0)) ((splitB p b).getD i []) K H w n:=by
 have q:=jk c;obtain⟨k,l,a⟩:=uL c i i5;have h:Bh p o i k=eR:=(Dj a).2.1;have e:t.getD i 0=(k:Int):=by rw[fh 0];exact l
 rw[e];refine Si d h ?_;have f:=(bN p).1 d;have m:0<=p.1*p.2.2:=vQ i5 i5;have g:(splitB p b)[i]=sC (dJ p) b i:=by simp[splitB]
 rw[fh [] j,g,Di];unfold dJ;omega
theorem IX{m:aw}{b:aM}{t:au}(f:bp m=eR)(d:m.next<=16777215)(h8:i0 (splitB m.p b)<=8)(c:cA m.p m.next (splitB m.p b).length=dB t){i id:Nat}(e:i<i0 (splitB m.p b))(hid:id<(m.p.1+m.extra).toNat):
  iR (kW m m.next i (cb m.next i (t.getD i 0)) ((splitB m.p b).getD i []) id)=eR:=by
 have a:=((dZ m).1 ((cv m).1 f).1)
 have g:=(bN m.p).1 a.2.2.1;obtain⟨K,H,w,n,B⟩:=QO a.2.2.1 c e;exact Ns B ⟨a.2.1.1,d⟩ i5 i5
theorem Kh{m:aw}{offs:Int}{w:Pow}{ds:aC}{name:ByteArray}{b:aM}(K:w.calm)(J:i0 ds=64)(z:bp m=eR):
  (de m (dn w offs) ds name b.length≠0->cY m offs w ds name b=(de m (dn w offs) ds name b.length,m,w,ds))/\
  (de m (dn w offs) ds name b.length=0->(cA m.p m.next (splitB m.p b).length=eH->cY m offs w ds name b=(8,m,w,ds))/\∀t,cA m.p m.next (splitB m.p b).length=dB t->
   let live:=aN ds m.drives;let l:=dF m m.next t (splitB m.p b) live (splitB m.p b).length;let n:=dh m ⟨name,m.next,i0 b,t⟩;let N:=jm (aX n).length l
   bp n=eR/\(dm m ds live N=eS->cY m offs w ds name b=(7,m,w,ds))/\(dm m ds live N=eR->∃g,cY m offs w ds name b=(0,n,w,g)/\g.length=64/\
    ∀k,aS g k=(aS ds k).map λd=>if k∈live then fd ((iw m m.next t (splitB m.p b) live k (splitB m.p b).length).map cT++aX n) (cN m d (N k))else d)):=by
 refine⟨λh=>by unfold cY;rw[g0 h],λh=>⟨λo=>by unfold cY;rw[g9 j6,o],λt o=>?_⟩⟩;intro live l n N;have v:bp n=eR:=Za z h o;obtain⟨z1,z2,z3,z4,z5⟩:=jO h;have q:=((dZ m).1 ((cv m).1 z).1)
 have M:¬m.p.1*m.p.2.2*8<(i0 b:Int):=λh=>z4 (.inl h);have h8:=Ap q.2.2.1 M;have I:live≠[]:=λh=>z5 (.inl h);have s:0<=m.next/\m.next<=16777215:=⟨q.2.1.1,by have:¬16777215<m.next:=λh=>z5 (.inr (.inl h));omega⟩
 have f:live.Nodup:=oQ (oC z);have R:∀k∈live,0<=k/\k<64:=λk a=>iB z k (iy a).1;have e:cY m offs w ds name b=(if dm m ds live N=eS then(7,m,w,ds)else if(makes m N live w ds).1≠0 then((makes m N live w ds).1,m,(makes m N live w ds).2)else
   if(layAll l (makes m N live w ds).2.1 (makes m N live w ds).2.2).1≠0 then((layAll l (makes m N live w ds).2.1 (makes m N live w ds).2.2).1,m,(layAll l (makes m N live w ds).2.1 (makes m N live w ds).2.2).2)else
   ((layAll (bC n live) (layAll l (makes m N live w ds).2.1 (makes m N live w ds).2.2).2.1 (layAll l (makes m N live w ds).2.1 (makes m N live w ds).2.2).2.2).1,if(layAll (bC n live) (layAll l (makes m N live w ds).2.1 (makes m N live w ds).2.2).2.1 (layAll l (makes m N live w ds).2.1 (makes m N live w ds).2.2).2.2).1=0 then n else m,(layAll (bC n live) (layAll l (makes m N live w ds).2.1 (makes m N live w ds).2.2).2.1 (layAll l (makes m N live w ds).2.1 (makes m N live w ds).2.2).2.2).2)):=by
  unfold cY;rw[g9 j6,o]
 refine⟨v,λr=>by rw[e,g0 r],λr=>?_⟩;rw[e,g9 (by rw[r];decide)];obtain⟨U,W,m2,S⟩:=Bu K (N:=N) f J r;rw[W]
 try dsimp only
 rw[g9 jj];have E:∀y∈l,y.1∈live:=λy B=>(Nq s I R h8 B).1;have u:∀y∈l,i0 y.2=64:=λy B=>by
  obtain⟨i,hi,B⟩:=zO.1 B;obtain⟨id,hid,rfl⟩:=qo.1 B;exact Fv (IX z s.2 h8 o (qA.1 hi) (qA.1 hid))
 have c:∀k∈live,∃d,aS U k=dB d/\d.lost=eS/\(i0 d.l:Int)+max (N k) 0<=d.room:=λk a=>by
  obtain⟨_,d,hd,X⟩:=iy a;have O:=qK.1 r k a;obtain⟨d',H,G⟩:=xO O;obtain⟨r1,r2,r3⟩:=Bv G;refine⟨cN m d' (N k),?_,r1,by rw[r2];exact r3⟩;rw[S k,H,qS,g0 a]
 obtain⟨d2,l1,l2,T⟩:=HB K (ds:=U) (P:=l) m2 λx j=>by
  obtain⟨d,F,Q,f3⟩:=c x.1 (E x j);refine⟨u x j,d,F,Q,?_⟩;have:N x.1=_:=DC _ _ _;omega
 rw[l1]
 try dsimp only
 rw[g9 jj];obtain⟨d3,Y,p2,Z⟩:=HB K (ds:=d2) (P:=bC n live) l2 λx j=>by
  obtain⟨A,D⟩:=kD j;obtain⟨d,F,Q,f3⟩:=c x.1 A;refine⟨D,fd (kF l x.1) d,by rw[T,F,qS],by rw[(uQ _ _).1];exact Q,?_⟩;have:N x.1=_:=DC _ _ _;rw[(uQ _ _).2,Nz,oc f,g0 A,qp];omega
 rw[Y];refine⟨d3,i4,p2,λk=>?_⟩;rw[Z k,T k,S k,Option.map_map,Option.map_map];congr 1;funext d;show fd (kF (bC n live) k) (fd (kF l k) (if k∈live then cN m d (N k)else d))=_;rw[oc f];by_cases a:k∈live
 ·rw[g0 a,g0 a,g0 a];have L:kF l k=(iw m m.next t (splitB m.p b) live k (splitB m.p b).length).map cT:=Nx _ _ _ _ _ _ _;rw[L,Zb (Ny v)]
 ·rw[g9 a,g9 a,g9 a,Nv (P:=l) λx j (V:x.1=k)=>a (V▸E x j)];rfl
theorem HC(l:au)(b:i0 l<=64)(s:Int):aS (gZ l (be l l.length).length) s=if s∈be l l.length then dB (aW.new (l.getD s.toNat 0).toNat)else eH:=by
 by_cases a:0<=s/\s<64
 ·unfold aS gZ;rw[g0 a,qO,zn i5,qS,qg (qk _)];have e:((s.toNat:Nat):Int)=s:=i5
  rw[e];by_cases h:s∈be l l.length
  ·rw[g0 h];rfl
  ·rw[g9 h];rfl
 ·rw[g9 λh=>?_]
  ·unfold aS;rw[g9 a]
  ·obtain⟨n,c,rfl,_⟩:=(tQ l l.length s).1 h;omega
theorem Wg{p:Pm}{extra:Int}{l:au}(g:i0 l<=64)(f:pH p extra l=0):
  ∃D,dH p extra Pow.new l=(0,Pow.new,D)/\D.length=64/\∀s,aS D s=if s∈be l l.length then dB ⟨(l.getD s.toNat 0).toNat,aX (cC p extra l),0,[],eS,eS⟩else eH:=by
 have k:=Nr g f;have b:(be l l.length).Nodup:=(BU l l.length).imp λh e=>i5
 have c:=(Hx f).2.2.2.2;rw[Te,g0 f];obtain⟨D,j,m,h3⟩:=HB jP (ds:=gZ l (be l l.length).length) (P:=bC (cC p extra l) (be l l.length)) (OR _ _) λx i=>by
  obtain⟨a,d⟩:=kD i;refine⟨d,aW.new (l.getD x.1.toNat 0).toNat,by rw[HC l g,g0 a],i4,?_⟩;rw[oc b,g0 a];have:=wL.1 c x.1 a;simp only[decide_eq_true_eq]at this;show 0+_<=(l.getD x.1.toNat 0).toNat;omega
 refine⟨D,j,m,λs=>?_⟩;rw[h3,HC l g,oc b];by_cases h:s∈be l l.length
 ·rw[g0 h,g0 h,g0 h,qS];unfold fd;rw[g9 (by simpa using Ny k)];rfl
 ·rw[g9 h,g9 h,g9 h];rfl
theorem Tj(m:aw):i0 (aX m)=(i0 (fX m)+47)/48:=by unfold aX ik;rw[qy,zA]
theorem aee(x:Qw.ci):(jf x).length=6+x.name.size+x.tries.length:=by unfold jf;simp[cm];omega
theorem Wh{m:aw}(h:bp m=eR):i0 (fX m)=14+i0 m.drives+i0 (m.objs.flatMap jf):=by unfold fX;rw[g0 h];simp only[qp,cm,zc,yE,qy];omega
theorem oR{p:Pm}{n:Int}(h:n<=p.1*p.2.2*8):countP p n<=8:=by
 unfold countP;split
 ·rename_i a;rw[qu,decide_eq_true_eq]at a;have:=(bN p).1 a.1;have b:0<p.1*p.2.2:=Int.mul_pos i5 i5;have:(n-1)/(p.1*p.2.2)<8:=Int.ediv_lt_of_lt_mul b (by rw[Int.mul_comm 8];omega);omega
 ·decide
theorem abR{m:aw}{x:Qw.ci}(h:gM m x=eR):i0 (jf x)<=26:=by
 obtain⟨a,c,h3,d,b⟩:=(iS m x).1 h;have:=oR h3.2;have e:x.name.size<=12:=by unfold mb at a;simp at a;omega
 rw[aee];omega
theorem Aq{α β:Type}{f:α->List β}{c:Nat}:∀{l:List α},(∀x∈l,i0 (f x)<=c)->i0 (l.flatMap f)<=i0 l*c
 |[],_=>jj
 |x::l,h=>by
  have d:=h x qF;have b:=Aq (l:=l) λy a=>h y (qz _ a);rw[zd,qp,zc,zI];omega
theorem Zc{m:aw}(h:bp m=eR):i0 (aX m)*48<=61+i0 m.drives+i0 m.objs*26:=by have:=Aq (f:=jf) (l:=m.objs) λx a=>abR (((cv m).1 h).2.2.2.2.1 x a);have b:=Wh h;rw[Tj];omega
theorem Wi{m:aw}(h:bp m=eR):i0 (aX m)<=9:=by have b:=Zc h;have a:=iH h;have h3:=((cv m).1 h).2.2.2.1;omega
theorem Pj{α β:Type}(f:α->List β)(c:Nat)(n:Nat)(l:List α)(h:∀x∈l,i0 (f x)<=c)(a:i0 l<=n):i0 (l.flatMap f)<=n*c:=qY (Aq h) (zq c a)
theorem Pk(m:aw)(o:Int)(tries:au)(a:bY)(live:au)(k:Int)(n:Nat):i0 (iw m o tries a live k n)<=n*(m.p.1+m.extra).toNat:=by unfold iw;refine Pj _ _ n _ (λi _=>?_) jj;have:=congrArg vJ (Dy m o tries a live k i);rw[qy,qy]at this;rw[<-this];refine qY (qJ _ _) ?_;rw[Bl];exact qk _
def cR(m:aw)(offs:Int)(w:Pow)(ds:aC)(n:aw):Int×aw×Pow×aC:=
 if dn w offs then(14,m,w,ds)else if !bp n||decide (n.seq≠m.seq+1)then(1,m,w,ds)else
 let live:=aN ds n.drives;let N:Int->Int:=λ_=>(i0 (aX n):Int)
 if live=[]∨dm m ds live N=eS then(7,m,w,ds)else
 if(makes m N live w ds).1≠0 then((makes m N live w ds).1,m,(makes m N live w ds).2)else
 let a:=layAll (bC n live) (makes m N live w ds).2.1 (makes m N live w ds).2.2
 (a.1,if a.1=0 then n else m,a.2)
theorem jD{m:aw}(h:bp m=eR):cI m:=by
 obtain⟨p,j,h3,n,b,g,f⟩:=(cv m).1 h;have k:=iH h;refine⟨i5,i5,λe c=>?_⟩;obtain⟨a,l,d,i,q⟩:=(iS m e).1 (b e c);have:=oR d.2;have o:e.name.size<=12:=by unfold mb at a;simp at a;omega
 omega
section
variable {pw:f7}
theorem Pn(x:bF)(m:aw)(z:bF)(n:aw)(hS:St B h0 As λh=>df h z n)(hz:cI m)(l:cI n)(am:-1<=m.seq/\m.seq<=2^40)
  (H:aa B h0 h (bg bB a pw (bh x) offs da w ds::cU x m::As)):
  ai xJ 47 #[xB (dB a),fN z] h λv h'=>v=xz xF (cR m offs w ds n).1/\
   ∃y,aa B h0 h' (bg bB a pw (bh y) offs da (cR m offs w ds n).2.2.1 (cR m offs w ds n).2.2.2::cU y (cR m offs w ds n).2.1::As):=by
 refine ts Tryz.func47 ?_ (.two .n (.two .n (.two (.join [] [(4,5),(11,25)] .n) (.two .n (.two .n (.two .n (.two (.join [] [(4,5),(34,44)] .n) .n))))))) (args:=[(dB a),z]);refine H.boxed λF O r=>(Dr r).mono ?_;have r:=r.aY;rintro _ O ⟨rfl,rfl⟩;have u:df O z n:=hS.at [_,_,_] r;have ah:df O x m:=r.at 2 i4;refine⟨_,i4,bc (λe=>?_) λe1=>?_⟩
 ·have L:cR m offs w ds n=(14,m,w,ds):=by unfold cR;rw[g0 e]
  rw[L];exact⟨i4,x,r.aK 3 [1,2]⟩
 refine aO ?_;refine⟨z,(r.box 0 i4).aE _ i4,(FM z n O u l).mono ?_⟩;rintro _ h3 ⟨rfl,R3⟩;have E:=r.up R3.ac;have S:=u.up R3.ac;have no:∀{h':f9},aa B h0 h' (av F 85 (bh z)::bg bB a pw (bh x) offs da w ds::cU x m::As)->(bp n=eS∨n.seq≠m.seq+1)->(Value.int .i64 1=xz xF (cR m offs w ds n).1/\∃y,aa B h0 h' (bg bB a pw (bh y) offs da (cR m offs w ds n).2.2.1 (cR m offs w ds n).2.2.2::cU y (cR m offs w ds n).2.1::As)):=λ{h'} d hc=>by
  have L:cR m offs w ds n=(1,m,w,ds):=by
   unfold cR;rw[g9 m4,g0];rcases hc with hc|hc
   ·rw[hc];rfl
   ·rw[hU hc,Bool.or_true]
  rw[L];exact⟨i4,x,d.aK 3 [1,2]⟩
 refine⟨_,i4,trivial,aU (λe=>no E (.inl e)) λe2=>?_⟩;have I:=E.box 0 i4;have X:=(aa.cz (E.aK 2 [1,0])).2;refine⟨z.1,I.cell0 i4,a,i4,x.1,X.cell0 i4,?_⟩
 try dsimp only
 rw[u.seq,ah.seq,af (m.seq+1)];refine bz (λe=>no E (.inr e)) λe3=>?_;refine⟨_,I.cell i4,?_⟩;have U:=iH e2;have W:∀k∈n.drives,0<=k/\k<64:=iB e2;refine(Ha z.2.2.2.2.2.2.1 n.drives S.drives i5 (E.aK 2 [1,0])).mono ?_;rintro _ h5 ⟨p,rfl,R5⟩;obtain⟨live,b⟩:∃live,live=aN ds n.drives:=⟨_,rfl⟩
 rw[<-b]at R5;have ap:i0 live<=64:=by rw[b];exact qY (qJ _ _) U
 have f:∀k∈live,0<=k/\k<64:=λk Z=>by rw[b]at Z;exact W k (qC.1 Z).1
 have H5:=(E.bR R5).aK 4 [2,3,0,1];refine⟨p,i4,z,(H5.box 3 i4).aE _ i4,(mQ z n h5 (hS.at [_,_,_,_] H5) l).mono ?_⟩;rintro _ h6 ⟨pg,rfl,R6⟩;have s:=(aa.th R6).1;have J:=jw n l;obtain⟨t,M⟩:∃t,t=i0 (aX n):=⟨_,rfl⟩
 rw[<-M]at s J;have H6:=H5.up R6.ac;refine⟨pg,i4,H6.alloc ag i4 λc h7 Y=>?_⟩;have Y:=Y.aY;refine Y.storeAll ag 0 i4 i4 [xz xF (pg.len:Int)] i4 i4 i4 i4 λh8 i=>?_;rw[s]at i;have i:aa B h0 h8 (bg bB a pw (bh x) offs da w ds::cU x m::av c 3 [xz xF (t:Int)]::an 3 p 1 az live::av F 85 (bh z)::As):=i.aK 5 [1,2,0,3,4];obtain⟨T,q⟩:∃T,T=cU x m::av c 3 [xz xF (t:Int)]::an 3 p 1 az live::av F 85 (bh z)::As:=⟨_,rfl⟩
 have tX:St B h0 T λh=>df h x m:=by rw[q];exact St.ee 0 i4 λ_ o=>o
 have tN:St B h0 T λh=>bT h c 3 [xz xF (t:Int)]:=by rw[q];exact St.ee (A:=av c 3 [xz xF (t:Int)]) 1 i4 λ_ o=>o.1
 have Q:St B h0 T λh=>Rd h p 1 az live:=by rw[q];exact St.ee (A:=an 3 p 1 az live) 2 i4 λ_ o=>o.1.seq (λ_=>rfl) o.2
 have tM:St B h0 T λh=>bT h F 85 (bh z):=by rw[q];exact St.ee (A:=av F 85 (bh z)) 3 i4 λ_ o=>o.1
 have tY:St B h0 T λh=>df h z n:=by rw[q];exact hS.cons.cons.cons.cons
 obtain⟨N,hN⟩:∃N:Int->Int,N=λ_=>(t:Int):=⟨_,rfl⟩
 have tT:St B h0 T λh=>Ll 101 #[] #[xB (dB c)] N live h:=λBs h' d k Z=>by
  refine ts Tryz.func101 ?_ (args:=[(k:Int),c]);exact⟨(t:Int),(tN Bs h' d).cell0 i4,by rw[hN],Sp.refl h'⟩
 have fin:∀{h':f9} {w':Pow} {D:aC},aa B h0 h' (bg bB a pw (bh x) offs da w' D::T)->aa B h0 h' (bg bB a pw (bh x) offs da w' D::cU x m::As):=λ{h' w' D} d=>by
  rw[q]at d;exact d.aK 5 [0,1]
 rw[<-q]at i;have L:cR m offs w ds n=(if live=[]∨dm m ds live N=eS then(7,m,w,ds)else
   if(makes m N live w ds).1≠0 then((makes m N live w ds).1,m,(makes m N live w ds).2)else
   ((layAll (bC n live) (makes m N live w ds).2.1 (makes m N live w ds).2.2).1,if(layAll (bC n live) (makes m N live w ds).2.1 (makes m N live w ds).2.2).1=0 then n else m,(layAll (bC n live) (makes m N live w ds).2.1 (makes m N live w ds).2.2).2)):=by
  rw[hN,M,b];unfold cR;rw[g9 m4,g9 (by rw[e2,hZ (by simpa using e3)];decide)]
 rw[L];have G:=(Q.at [_] i).len;refine aO (bf (λe=>?_) λe4=>?_)
 ·have:live=[]:=List.length_eq_zero_iff.1 i5;rw[g0 (.inl this)];exact⟨i4,x,fin i⟩
 have ad:live≠[]:=λh=>e4 (by rw[G,h];rfl);refine(Hp 101 #[] #[xB (dB c)] N x m p live lb (λBs h' d=>⟨tX Bs h' d,tT Bs h' d⟩) hz (Q.at [_] i) i5 f i).mono ?_;rintro _ h9 ⟨rfl,R9⟩;have H9:=i.up R9.ac;refine⟨_,i4,aU (λg=>?_) λg=>?_⟩
 ·rw[g0 (.inr g)];exact⟨i4,x,fin H9⟩
 rw[g9 (by rintro(h|h);exact ad h;rw[g]at h;cases h)];refine(Hq 101 #[] #[xB (dB c)] N x m p live lb (λBs h' d=>⟨tX Bs h' d,tT Bs h' d,Q Bs h' d⟩) hz i5 f H9).mono ?_;rintro _ ao ⟨rfl,j⟩;obtain⟨P,ab⟩:∃P,P=makes m N live w ds:=⟨_,rfl⟩
 rw[<-ab]at j⊢;refine⟨_,i4,bz (λV=>?_) λV=>?_⟩
 ·rw[g0 V];exact⟨i4,x,fin j⟩
 rw[g9 (by simpa using V)];refine⟨z,(tM.at [_] j).aE _ i4,(Hs x z n p live (λBs h' d=>⟨tY Bs h' d,Q Bs h' d⟩) l i5 f j).mono ?_⟩;rintro _ al ⟨rfl,Q1,Q0⟩;refine⟨_,i4,i4,?_⟩;by_cases R:(layAll (bC n live) P.2.1 P.2.2).1=0
 ·obtain⟨y2,K⟩:=Q0 R;rw[g0 R];rw[q]at K;exact⟨y2,K.aK 6 [0,1]⟩
 ·rw[g9 R];exact⟨x,fin (Q1 R)⟩
end
variable {n:Nat}
section
variable {k:Kit} {pw:f7}
theorem aa.Zd(ok:ge mc da ds)(F:n<64)(H:aa B h0 h (av a k.tS (cB mc pw offs (da.set n (dB b)))::dc k.tP pw w::(gb k pw da ds++(ie k.tD (k.f pw) b d::As)))):aa B h0 h (bg k a pw mc offs (da.set n (dB b)) w (ds.set n (dB d))::As):=by
 have s:=ok.la;have p:=ok.ls;have r:ge mc (da.set n (dB b)) (ds.set n (dB d)):=⟨ok.l8,by simp[s],by simp[p],λi=>by
  by_cases g:n=i
  ·subst g;rw[qd,qd,ze i5,ze i5];rfl
  ·have:=ok.same i;rw[qd,qd]at this⊢;rw[zw g,zw g];exact this⟩
 have t:=Bg (k:=k) (pw:=pw) ok;have m:gb k pw (da.set n (dB b)) (ds.set n (dB d))=(gb k pw da ds).set n (ie k.tD (k.f pw) b d):=by
  apply zy;intro j;simp only[gb,qV,List.getElem?_zipWith,List.length_zipWith];by_cases o:n=j
  ·subst o;rw[g0 i4,g0 i5,g0 i4,g0 i5,g0 i4,g0 i5];rfl
  ·simp[o]
 refine aa.nW r ?_;rw[m];obtain⟨L,q⟩:∃L,L=gb k pw da ds:=⟨_,rfl⟩
 rw[<-q]at H t⊢;have c:n<i0 L:=i5
 have H:=H.fM (n+2) (A:=L[n]) (D:=emp) (by rw[qq,qq,qm c,qc c]) λ_ _=>trivial;have x:(av a k.tS (cB mc pw offs (da.set n (dB b)))::dc k.tP pw w::(L++(ie k.tD (k.f pw) b d::As))).set (n+2) emp=av a k.tS (cB mc pw offs (da.set n (dB b)))::dc k.tP pw w::(L.set n emp++(ie k.tD (k.f pw) b d::As)):=by rw[zo,zo,List.set_append_left _ _ c]
 rw[x]at H;have l:i0 (L.set n emp)=i0 L:=q9;have u:=H.cons (i0 L+2) (A:=ie k.tD (k.f pw) b d) (by
  rw[qq,qq,qi i5,l,qZ];rfl)
 have e:(av a k.tS (cB mc pw offs (da.set n (dB b)))::dc k.tP pw w::(L.set n emp++(ie k.tD (k.f pw) b d::As))).set (i0 L+2) emp=av a k.tS (cB mc pw offs (da.set n (dB b)))::dc k.tP pw w::(L.set n emp++(emp::As)):=by rw[zo,zo,qQ _ _ i5,l,qZ];rfl
 rw[e]at u;have v:=u.aK 3 [0,2,1];have y:aa B h0 h (ie k.tD (k.f pw) b d::dc k.tP pw w::av a k.tS (cB mc pw offs (da.set n (dB b)))::(L.set n emp++(emp::As))):=v;have z:=aa.Ey n c y;have E:=aa.closeAll (av a k.tS (cB mc pw offs (da.set n (dB b)))::dc k.tP pw w::L.set n (ie k.tD (k.f pw) b d)) z;exact aa.nO (L:=av a k.tS (cB mc pw offs (da.set n (dB b)))::dc k.tP pw w::L.set n (ie k.tD (k.f pw) b d)) E.om
end
end Go.Qw
