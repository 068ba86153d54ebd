/- Lemmas for the proof of the law; no condition. -/
import Derived.Test.YtdibhfbogjngkaaGreatDoorKA
import Derived.Test.YtdibhfbogjngkaaGreatDoorShelfB
import Derived.Test.YtdibhfbogjngkaaGreatDoorPlB
set_option linter.unusedVariables false
set_option maxHeartbeats 2000000
set_option linter.unusedSimpArgs false
open Go.Proofs.Tryz renaming prog -> xm
open Go.Value renaming agg -> xh, bool -> xg, int -> xb, pointer -> xd, slice -> xc, string -> xf
open Go.IntKind renaming bits -> qk, i64 -> xi, signed -> yV, u32 -> xk, u64 -> xl, u8 -> xj, wrap -> qc
open Nat renaming le_of_eq -> vQ
open Int renaming tmod -> wg
open Bool renaming and_self -> vW
open List renaming any_cons -> vX, any_nil -> vZ, length -> vd, range -> qx, replicate -> qg, zipWith -> zh
open Option renaming some -> zS
open Go.Instr renaming storeAt -> qf
open Prod renaming fst -> qM, snd -> zH
set_option maxRecDepth 100000
open Option renaming some -> dB, none -> eH
open Bool renaming true -> eR, false -> eS
open Go renaming Addr -> hU
open Go.Vc renaming Heap -> hZ
open List renaming length -> j9
namespace Go.Qw
open Go Go.Vc Go.Proofs Wl
theorem adz{α:Type}{h:hZ}{e:TypeId}{s:Sl}{k:Nat}{f:α->ba}{l:List α}(a:Own h e s k f l)(c:l≠[]):s.ptr.isNone=eS:=by
 rcases a.head with⟨_,_,h3⟩|⟨b,rest,h1,_⟩
 ·exact absurd h3 c
 ·rw[h1];rfl
theorem Tv(p:Pm)(seed id:Int)(h:hZ):ab xm 134 #[lN p,xb xk seed,xb xi id] h λv h'=>∃r:Sl,v=r/\
  Sp h h' [al 5 r 1 aD (if bH p&&bW id then oH (bD p).toNat seed id else[])]/\r.ptr.isNone=!(bH p&&bW id):=by
 refine XW p seed id ?_;unfold SY;refine(Sp.refl h).boxed λa O F=>?_;refine bi ?_;refine⟨p,(F.box 0 k0).aS _ k0,(fa p O).mono ?_⟩;rintro v G ⟨rfl,L⟩;have o:=F.comp L;have q:(bH p&&bW id)=eS->Sp h G [al 5 ⟨eH,0,0⟩ 1 aD (if bH p&&bW id then oH (bD p).toNat seed id else[])]/\Option.isNone (eH:aQ)=!(bH p&&bW id):=λI=>by
  rw[I];exact⟨(o.nil 5 1 aD).take 1 (λi A g=>by cases i with|zero=>exact g|succ i=>simp at g),k0⟩
 refine⟨_,k0,bj (λe=>⟨⟨eH,0,0⟩,k0,q A3⟩) λl=>?_⟩;refine ai (λe=>⟨⟨eH,0,0⟩,k0,q m9⟩) λT=>?_;refine ai (λe=>⟨⟨eH,0,0⟩,k0,q m9⟩) λB=>?_;have hid:bW id=eR:=m9
 refine⟨p,(o.box 0 k0).aS _ k0,(ju p G).mono ?_⟩;rintro v h3 ⟨rfl,N⟩;have P:=o.comp N;have K:=(bZ p).1 l;have U:bD p=p.1+p.2.1:=by rw[bD,j1 l]
 obtain⟨n,z⟩:∃n:Nat,bD p=n:=⟨(bD p).toNat,k4⟩
 refine⟨_,k0,?_⟩;dsimp only;rw[z];refine P.make ac aD gM k6 0 k0 k0 n n k0 k0 (ql _) k4 λv R V Q H=>?_;refine⟨p,(H.box 0 k0).aS _ k0,(BL p seed id R).mono ?_⟩;rintro w X ⟨c,rfl,t⟩;rw[l,hid,z,qn]at t;rw[l,hid,qn];have u:=H.comp t;have j:=u.seq 2 k0 λ_=>rfl;have y:=j.len;obtain⟨b,d⟩:∃b,b=dt n seed id:=⟨_,rfl⟩
 have m:∀x∈b,0<=x/\x<(n:Int):=λx D=>nc k4 k4 (by rw[<-d];exact D);have E:j9 b<=n:=by rw[d];exact Bh k4 k4 _ _
 simp only[vW,if_true,<-d]at u j y t;refine⟨c,k0,?_⟩;refine aw (λi:Nat=>(i:Int)) (λi h'=>i<=j9 b/\Sp h h' [ao a 24 [xb xi p.1,xb xi p.2.1,xb xi p.2.2],al 5 v 1 aD (gh n (b.take i)),al 3 c 1 aq b]) (λi=>j9 b-i) 0 k0 ⟨k4,u⟩ ?_;rintro i J ⟨g,k⟩;refine ai (λe=>?_) (λe=>?_)
 ·have f:i<j9 b:=k4
  have D:=m _ (qh f);refine(k.seq 2 k0 λ_=>rfl).bC i k0 f _ k0 ?_;refine k.set ac 1 k0 (λ_=>rfl) k0 b[i].toNat k4 (by rw[si];omega) 1 k0 k0 k0 λW S=>?_;refine⟨i+1,ld,⟨k4,?_⟩,k4⟩;have B:gh n (b.take (i+1))=(gh n (b.take i)).set b[i].toNat 1:=by rw[aH _ _ f,gh,wv];rfl
  rw[B];exact S
 ·rw[qi k4]at k;have s:Sp h J [al 5 v 1 aD (gh n b)]:=(k.del 2).take 1 (λi A g=>by cases i with|zero=>exact g|succ i=>simp at g);refine⟨v,k0,?_,adz (s.own 0 k0) λM=>?_⟩
  ·rw[d]at s;exact s
  ·have:=si n b;rw[M]at this;simp at this;omega
theorem ut(p:Pm)(h:hZ):ab xm 70 #[lN p] h λv h'=>∃r:Sl,v=r/\Sp h h' [fP 34 r 1 aD (if bH p then bw p.1.toNat p.2.1.toNat else[])]:=by
 refine SP p ?_;unfold LZ;refine(Sp.refl h).boxed λa Y E=>?_;refine⟨p,(E.box 0 k0).aS _ k0,(fa p Y).mono ?_⟩;rintro v T ⟨rfl,P⟩;have z:=E.comp P;refine⟨_,k0,bj (λe=>⟨⟨eH,0,0⟩,k0,?_⟩) λy=>?_⟩
 ·rw[e];exact(z.Lt 34 1 aD).take 1 (λi A c=>by cases i with|zero=>exact c|succ i=>simp at c)
 have I:=(bZ p).1 y;have L:bD p=p.1+p.2.1:=by rw[bD,j1 y]
 obtain⟨K,X⟩:∃K:Nat,p.1=K:=⟨p.1.toNat,k4⟩
 obtain⟨b,Q⟩:∃H:Nat,p.2.1=H:=⟨p.2.1.toNat,k4⟩
 refine(rq T).mono ?_;rintro v h3 ⟨f,rfl,U⟩;have F:=(z.comp U).Lt 34 1 aD;refine⟨dB f,k0,_,(F.box 0 k0).cell k0,?_⟩;refine aw (λt:Sl×Nat=>(t.1,(t.2:Int))) (λt h'=>t.2<=b/\Sp h h' [ao a 24 [xb xi p.1,xb xi p.2.1,xb xi p.2.2],ao f 197 db,fP 34 t.1 1 aD ((bw K b).take t.2)]) (λt=>b-t.2) (⟨eH,0,0⟩,0) k0 ⟨k9,F⟩ ?_;rintro⟨s,k⟩ h4 ⟨hk,g⟩;dsimp only at*;refine ai (λe=>?_) (λe=>?_)
 ·have O:k<b:=k4
  refine bi ⟨p,(g.box 0 k0).aS _ k0,p.1,(g.box 0 k0).cell0 k0,?_⟩;refine(ju p h4).mono ?_;rintro v h5 ⟨rfl,R⟩;have D:=g.comp R;refine⟨_,k0,⟨(D.box 0 k0).cell0 k0,trivial⟩,?_⟩;dsimp only;rw[ag (p.1+k),L];refine(aaD _ _ h5).mono ?_;rintro v h6 ⟨u,rfl,w⟩;rw[j1 k4]at w;have G:(p.1+p.2.1).toNat=K+b:=k4
  have J:(p.1+(k:Int)).toNat=K+k:=k4
  rw[G,J]at w;have x:=D.comp w;refine⟨u,k0,⟨(x.box 0 k0).cell0 k0,trivial⟩,p.1,(x.box 0 k0).cell0 k0,?_⟩;let rowAt:Nat->aY:=λj=>(qx j).map (λi=>Gf.pw ((k+1)*(i+1)%255))++((qg (K+b) (0:UInt8)).set (K+k) 1).drop j;refine aw (λj:Nat=>(j:Int)) (λj h'=>j<=K/\Sp h h' [ao a 24 [xb xi p.1,xb xi p.2.1,xb xi p.2.2],ao f 197 db,fP 34 s 1 aD ((bw K b).take k),al 5 u 1 aD (rowAt j)]) (λj=>K-j) 0 k0 ⟨k4,x⟩ ?_;rintro j Z ⟨hj,n⟩;refine ai (λV=>?_) (λV=>?_)
  ·have d:j<K:=k4
   have hm:(k+1)*(j+1)<=4*16:=wk k4 k4;have S:qc xi (qc xi ((k:Int)+1)*qc xi ((j:Int)+1))=(((k+1)*(j+1):Nat):Int):=by rw[ag ((k:Int)+1),ag ((j:Int)+1),show((k:Int)+1)*((j:Int)+1)=(((k+1)*(j+1):Nat):Int)by rw[wA];rfl];exact uM _
   rw[S];refine(ady f _ Z (n.box 1 k0)).mono ?_;rintro v h8 ⟨rfl,rfl⟩;refine⟨_,k0,?_⟩;have B:j9 (rowAt j)=K+b:=by simp[rowAt];omega
   refine n.set ac 3 k0 (λ_=>rfl) k0 j k0 k4 _ k0 k0 k0 λh9 q=>?_;refine⟨j+1,ld,⟨k4,?_⟩,k4⟩;have o:(rowAt j).set j (Gf.pw ((((k+1)*(j+1):Nat):Int)%255).toNat)=rowAt (j+1):=by
    have e6:((((k+1)*(j+1):Nat):Int)%255).toNat=(k+1)*(j+1)%255:=k4
    rw[e6];simp only[rowAt];rw[qX _ _ k9,qw,zt,zc,qP k8,zx,zR,qW,qt];rfl
   rw[<-o];exact q
  ·have d:j=K:=k4
   subst d;have o:rowAt j=mf j b k:=by
    simp only[rowAt,mf];congr 1;apply zP;intro i;rw[wz,zb,qR];by_cases c:i<b
    ·rw[zw c,qY,wb];by_cases m:i=k
     ·subst m;simp[c]
     ·rw[j3 k4,j1 k4,j3 m]
    ·rw[qQ (l:=qx b) k8,j3 k4,wb,j3 k4];rfl
   rw[o]at n;have H8:=n.freeze 3 k0 λ_=>rfl;have N:j9 ((bw j b).take k)=k:=by simp[bw];omega
   refine H8.xw ac 2 3 k6 k0 k0 fH k4 λW h9 q=>?_;refine⟨(W,k+1),lb,⟨k7,?_⟩,k7⟩;have M:(bw j b).take (k+1)=(bw j b).take k++[mf j b k]:=by rw[aH _ _ (by simp[bw];omega)];simp[bw]
   dsimp only;rw[M];exact q.del 3
 ·refine⟨s,k0,?_⟩;rw[j1 y,X,Q,qn,qn];rw[qi (by simp[bw];omega)]at g;exact g.take 2 (λi A c=>by cases i with|zero=>exact c|succ i=>simp at c)
theorem MR(p:Pm)(h:hZ):ab xm 176 #[lN p] h λv h'=>∃r:Sl,v=r/\Sp h h' [al 3 r 1 aq (upto (max 0 (min p.1 16)).toNat)]:=by
 refine KJ p ?_;unfold Db;refine(Sp.refl h).boxed λa o d=>?_;refine⟨p.1,(d.box 0 k0).cell0 k0,?_⟩;have em:(if(if(16:Int)<p.1 then(16:Int)else p.1)>(0:Int)then(if(16:Int)<p.1 then(16:Int)else p.1)else(0:Int))=((max 0 (min p.1 16)).toNat:Int):=by split<;>split<;>omega
 dsimp only;rw[em];generalize m:(max 0 (min p.1 16)).toNat=N;have c:N<=16:=k4
 refine aw (λt:Sl×Nat=>(t.1,(t.2:Int))) (λt h'=>t.2<=N/\Sp h h' [emp,al 3 t.1 1 aq (upto t.2)]) (λt=>N-t.2) (⟨eH,0,0⟩,0) k0 ⟨k9,(d.gF 0 k0 λ_ _=>trivial).nil 3 1 aq⟩ ?_;rintro⟨s,k⟩ n ⟨q,b⟩;dsimp only at*;refine ai (λe=>?_) (λe=>?_)
 ·refine b.push ac 1 k0 fN k0 k6 (λ_=>rfl) eT (k:Int) k0 k6 A0 λj h3 l=>?_;refine⟨(j,k+1),lb,⟨k7,?_⟩,k7⟩;have g:upto (k+1)=upto k++[(k:Int)]:=by simp[upto,zR]
  dsimp only;rw[g];exact l
 ·have:k=N:=k4
  subst this;exact⟨s,k0,b.take 1 λi A f=>by cases i with|zero=>exact f|succ i=>simp at f⟩
theorem JQ(p:Pm)(seed:Int)(ids:Sl)(l:au)(h:hZ)(y:Rd h ids 1 aq l)(J:j9 l<=2^30):ab xm 66 #[lN p,xb xk seed,ids] h λv h'=>∃r:Sl,v=r/\Sp h h' [fP 34 r 1 aD (dR p seed l)]:=by
 refine Je p seed ids ?_;unfold BA;refine(Sp.refl h).boxed λa B z=>?_;refine⟨p,(z.box 0 k0).aS _ k0,(ut p B).mono ?_⟩;rintro v H ⟨r,rfl,F⟩;have u:=z.comp F;refine⟨r,k0,?_⟩;have x:=y.len;let at_:Nat->cC:=λk=>dR p seed (l.take k);have h0:(if bH p then bw p.1.toNat p.2.1.toNat else[])=at_ 0:=by simp[at_,dR]
 rw[h0]at u;refine aw (λt:Sl×Nat=>(t.1,(t.2:Int))) (λt h'=>t.2<=j9 l/\Sp h h' [ao a 24 [xb xi p.1,xb xi p.2.1,xb xi p.2.2],fP 34 t.1 1 aD (at_ t.2)]) (λt=>j9 l-t.2) (r,0) k0 ⟨k9,u⟩ ?_;rintro⟨s,k⟩ h3 ⟨L,m⟩;dsimp only at*;refine ai (λe=>?_) (λe=>?_)
 ·have d:k<j9 l:=k4
  refine(Seq.up y m.aj).bC k k0 d _ k0 ?_;refine⟨p,(m.box 0 k0).aS _ k0,(Tv p seed l[k] h3).mono ?_⟩;rintro v M ⟨w,rfl,K,c⟩;have o:=(m.comp K).freeze 2 k0 λ_=>rfl;refine⟨w,k0,?_⟩;have q:j9 (at_ k)<=4+k∨at_ k=[]:=by
   by_cases n:bH p
   ·left;have:=(bZ p).1 n;have B:=qT bW (l.take k);have H:=List.length_take_le k l;simp only[at_,dR,n,if_true,qy,qw,bw,zt];omega
   ·right;simp[at_,dR,n]
  have g:j9 (at_ k)+1<=2^32:=by
   rcases q with h|h
   ·omega
   ·rw[h];simp
  dsimp only;refine bj (λf=>?_) (λf=>?_)
  ·rw[c]at f;have b:(bH p&&bW l[k])=eR:=by simpa using f
   rw[b,j1 rfl]at o;refine o.xw ac 1 2 k6 k0 k0 fH g λI N G=>?_;refine⟨(I,k+1),lb,⟨k7,?_⟩,k7⟩;rw[qz]at b;have j:at_ (k+1)=at_ k++[oH (bD p).toNat seed l[k]]:=by simp only[at_,dR,b.1,if_true];rw[oI d,j1 b.2,qW,qt];rfl
   dsimp only;rw[j];exact G.del 2
  ·rw[c]at f;have b:(bH p&&bW l[k])=eS:=by
    cases hh:(bH p&&bW l[k])with
    |false=>rfl
    |true=>rw[hh]at f;cases f
   refine⟨(s,k+1),lb,⟨k7,?_⟩,k7⟩;have j:at_ (k+1)=at_ k:=by
    simp only[at_,dR];rw[Bool.and_eq_false_iff]at b;rcases b with h|h
    ·simp[h]
    ·have E:(l.take (k+1)).filter bW=(l.take k).filter bW:=by rw[oI d,j3 rb]
     rw[E]
   dsimp only;rw[j];exact o.del 2
 ·refine⟨s,k0,?_⟩;have j:at_ k=dR p seed l:=by simp only[at_];rw[qi k4]
  rw[j]at m;exact m.take 1 (λi A D=>by cases i with|zero=>exact D|succ i=>simp at D)
theorem nr(a:Sl)(m:aM)(n:Nat)(h:hZ)(b:fZ h a 1 aD m)(f:aT n m)(l:n<=64:=by omega)(s:j9 m<=2^30:=by omega):ab xm 200 #[a] h λv h'=>v=xg eR/\h'=h:=by
 refine Va a ?_;unfold Py;have o:=b.len;refine aw (λk:Nat=>(k:Int)) (λk h'=>h'=h/\k<=j9 m) (λk=>j9 m-k) 0 k0 ⟨k0,k4⟩ ?_;rintro k h' ⟨rfl,q⟩;refine ai (λe=>?_) λe=>⟨k0,k0⟩;have d:k<j9 m:=k4
 refine b.get k k0 d λr j=>?_;refine b.get 0 k0 k4 λp c=>?_;have i:=j.len;have g:=c.len;rw[f _ (qh _)]at i g;refine bR (λe=>k4) λ_=>ai (λe=>k4) λ_=>?_;exact⟨k+1,ld,⟨k0,k4⟩,k4⟩
theorem Ar(a:Sl)(m:aM)(n:Nat)(h:hZ)(d:fZ h a 1 aD m)(i:aT n m)(y:n<=64:=by omega)(F:j9 m<=2^30:=by omega):ab xm 201 #[a] h λv h'=>∃(r:Sl) (rs:List Sl),v=r/\rs.length=j9 m/\Sp h h' (al 34 r 1 bo rs::bA 5 1 aD rs m):=by
 refine Vb a ?_;unfold Pz;have A:=d.len;refine(Sp.refl h).make ac bo fH k6 ⟨eH,0,0⟩ k0 k0 0 m.length k0 k4 k4 k4 λs B j z k=>?_;refine aw (λt:Sl×List Sl=>(t.1,(j9 t.2:Int))) (λt h'=>j9 t.2<=j9 m/\Sp h h' (al 34 t.1 1 bo t.2::bA 5 1 aD t.2 (m.take t.2.length))) (λt=>j9 m-j9 t.2) (s,[]) k0 ⟨k9,by simpa[bA]using k⟩ ?_;rintro⟨s,rs⟩ l ⟨D,c⟩;dsimp only at*;refine ai (λe=>?_) (λe=>?_)
 ·have b:j9 rs<j9 m:=k4
  refine(d.up c.aj).get rs.length k0 b λr x=>?_;have g:m[j9 rs].length=n:=i _ (qh _);refine(fA r _ l x k4).mono ?_;rintro v h3 ⟨w,rfl,o⟩;have q:=c.comp o;refine⟨w,k0,?_⟩;refine q.push ac 0 k0 fH k0 k6 (λ_=>rfl) jx w k0 k6 k4 λp E u=>?_;refine⟨(p,rs++[w]),by dsimp only;rw[ag _];simp,⟨k8,?_⟩,k8⟩;dsimp only;rw[show(rs++[w]).length=j9 rs+1 by simp,aH _ _ b,pG (by rw[List.length_take];omega)];exact u
 ·have f:m.take rs.length=m:=qi k4;rw[f]at c;exact⟨s,rs,k0,k4,c⟩
theorem sA(a:Sl)(m:aM)(h:hZ)(b:fZ h a 1 aD m):ab xm 204 #[a] h λv h'=>v=xb xi (eU m)/\h'=h:=by
 refine QM a ?_;unfold JJ;have d:=b.len;refine dD (λe=>?_) (λe=>?_)
 ·have:m=[]:=q8 k4;subst this;exact⟨k0,k0⟩
 ·refine b.get 0 k0 k4 λr c=>⟨?_,k0⟩
  rw[c.len,eU,bv k4]
theorem Tw{r:Row}{c:Nat}(h:c<j9 r:=by omega):aN r c=r[c]:=by rw[aN,qe,qd h];rfl
theorem Vt(a:Sl)(m:aM)(n b bt:Nat)(h:hZ)(q:fZ h a 1 aD m)(u:aT n m)(x:bt<n)(z:j9 m<=2^30):
  ab xm 249 #[a,xb xi b,xb xi bt] h λv h'=>v=xb xi (match ji m b bt with|some i=>(i:Int)|none=>-1)/\h'=h:=by
 refine Ow a b bt ?_;unfold Ho;have y:=q.len;refine aw (λk:Nat=>(k:Int)) (λk h'=>h'=h/\b<=k/\k<=max b m.length/\∀j,j<k->(decide (b<=j)&&(aN (aC m j) bt !=0))=eS) (λk=>j9 m-k) b k0 ⟨k0,k4,k4,λj g=>by rw[j7 k4];rfl⟩ ?_;rintro k h' ⟨rfl,o,s,g⟩;refine ai (λe=>?_) (λe=>?_)
 ·rw[ji,Xu λj f=>g j k4];exact⟨k0,k0⟩
 ·have d:k<j9 m:=k4
  have t:m[k].length=n:=u _ (qh _);refine q.get k k0 d λr w=>?_;refine w.bC bt k0 k4 _ k0 ?_;have c:aN (aC m k) bt=m[k][bt]'(by omega):=by rw[bv d,Tw]
  refine bR (λl=>?_) (λl=>?_)
  ·have p:(decide (b<=k)&&(aN (aC m k) bt !=0))=eR:=by rw[j6 o,c];simp;exactλh0=>l (by rw[h0];rfl)
   rw[ji,Xv d g p];exact⟨k0,k0⟩
  ·refine⟨k+1,ld,⟨k0,k4,k4,λj f=>?_⟩,k4⟩;rcases Nat.lt_succ_iff_lt_or_eq.1 f with h1|rfl
   ·exact g j h1
   ·rw[c,Cr.1 l];simp
theorem MS(f:hU)(c:UInt8)(a:Sl)(l:Row)(h:hZ)(i:fI h f)(j:Rd h a 1 aD l)(A:j9 l<=2^30):ab xm 250 #[xd (dB f),xb xj c.toNat,a] h λv h'=>∃r:Sl,v=r/\Sp h h' [al 5 r 1 aD (scaleB c l)]:=by
 refine QO (dB f) _ a ?_;unfold JL;have u:=j.len;refine(QQ f h).mono ?_;rintro v m ⟨rfl,rfl⟩;refine⟨dB f,k0,?_⟩;refine(Sp.refl m).make ac aD gM k6 0 k0 k0 l.length l.length k4 k4 (ql _) k4 λs w q t n=>?_;refine aw (λk:Nat=>(k:Int)) (λk h'=>k<=j9 l/\Sp m h' [al 5 s 1 aD ((l.take k).map (Gf.mul c)++qg (j9 l-k) 0)]) (λk=>j9 l-k) 0 k0 ⟨k4,tg⟩ ?_;rintro k h3 ⟨x,d⟩;refine ai (λe=>?_) (λe=>?_)
 ·have b:k<j9 l:=k4
  refine(Seq.up j d.aj).bC k k0 b _ k0 ?_;refine(KV f c l[k] h3 (i.aj d.aj i.lt)).mono ?_;rintro v y ⟨rfl,rfl⟩;refine⟨_,k0,?_⟩;refine d.set ac 0 k0 (λ_=>rfl) k0 k k0 k8 _ k0 k0 k0 λz p=>?_;refine⟨k+1,ld,⟨k4,?_⟩,k4⟩;have g:j9 ((l.take k).map (Gf.mul c))=k:=k8
  have o:((l.take k).map (Gf.mul c)++qg (j9 l-k) 0).set k (Gf.mul c l[k])=(l.take (k+1)).map (Gf.mul c)++qg (j9 l-(k+1)) 0:=by rw[qX _ _ k4,g,zc,show l.length-k=j9 l-(k+1)+1 by omega,List.replicate_succ,zx,aH _ _ b,qW,qt];rfl
  rw[<-o];exact p
 ·have:k=j9 l:=k4
  subst this;refine⟨s,k0,?_⟩;rw[qi (ql _),zc,List.replicate_zero,qL]at d;exact d
theorem Au{c:UInt8}{a t:Row}(d:j9 a=j9 t){k:Nat}(b:k<j9 t):(zh (λx y=>y^^^Gf.mul c x) (a.take k) (t.take k)++t.drop k).set k (t[k]^^^Gf.mul c (a[k]'(by omega)))=zh (λx y=>y^^^Gf.mul c x) (a.take (k+1)) (t.take (k+1))++t.drop (k+1):=by
 have e:j9 (zh (λx y=>y^^^Gf.mul c x) (a.take k) (t.take k))=k:=k8
 rw[qX _ _ k4,e,zc,qP b,zx,aH _ _ b,aH _ _ (show k<j9 a by omega),yx k8];simp
theorem adA(f:hU)(c:UInt8)(a j:Sl)(d lt:Row)(h:hZ)(D:fI h f)(w:¬j.on f.block)(A:Seq h (λb=>¬j.on b) a 1 aD d)(z:Own h 5 j 1 aD lt)(q:j9 d=j9 lt)(K:j9 d<=2^30):
  ab xm 252 #[xd (dB f),xb xj c.toNat,a,j] h λv h'=>v=.tuple #[]/\Own h' 5 j 1 aD (cY c d lt)/\aX (λb=>¬j.on b) h h':=by
 refine Ve (dB f) _ a j ?_;unfold PB;have I:=A.len;have H:=z.len;refine dD (λe=>?_) (λ_=>?_)
 ·have E:c=0:=Cr.1 e;subst E;have:cY 0 d lt=lt:=by apply List.ext_getElem (by rw[bX q]);intro i B G;simp[cY,Gf.zero_mul]
  exact⟨k0,by rw[this];exact z,aX.refl _ _⟩
 ·refine aw (λk:Nat=>(k:Int)) (λk h'=>k<=j9 d/\Own h' 5 j 1 aD (zh (λx y=>y^^^Gf.mul c x) (d.take k) (lt.take k)++lt.drop k)/\aX (λb=>¬j.on b) h h') (λk=>j9 d-k) 0 k0 ⟨k4,p8,aX.refl _ _⟩ ?_;rintro k B ⟨J,g,l⟩;refine ai (λe=>?_) (λe=>?_)
  ·have r:k<j9 d:=k4
   have s:k<j9 lt:=k4
   have o:j9 (zh (λx y=>y^^^Gf.mul c x) (d.take k) (lt.take k))=k:=k8
   have F:j9 (zh (λx y=>y^^^Gf.mul c x) (d.take k) (lt.take k)++lt.drop k)=j9 lt:=by rw[qy,o,List.length_drop];omega
   refine(A.aj l).bC k k0 r _ k0 ?_;have n:(zh (λx y=>y^^^Gf.mul c x) (d.take k) (lt.take k)++lt.drop k)[k]'(by omega)=lt[k]:=by rw[List.getElem_append_right k4];simp[o]
   refine(g.seq (p:=λ_=>True) (λ_=>rfl) λ_ _=>trivial).Rn k k0 k4 _ k0 λax m=>?_;rw[n]at m⊢;refine(KV f c d[k] B (D.aj l w)).mono ?_;rintro v G ⟨rfl,rfl⟩;refine⟨_,k0,⟨m,trivial⟩,?_⟩;dsimp only;rw[ow];refine g.set ac (λ_=>rfl) k0 k k0 k4 _ k0 k0 k0 λh3 u t _=>⟨trivial,?_⟩
   refine⟨k+1,ld,⟨k4,?_,l.trans t⟩,k4⟩;rw[<-Au q s];exact u
  ·have:k=j9 d:=k4
   subst this;rw[qi (ql _),qi k4,zi k4,qL]at g;exact⟨k0,g,l⟩
abbrev nU(a:Sl)(rs:List Sl)(m:aM):List HP:=al 34 a 1 bo rs::bA 5 1 aD rs m
theorem px{a:Sl}{rs:List Sl}{m:aM}(c:j9 rs=j9 m)(i:Nat)(b:i<j9 m):(nU a rs m)[i+1]?=dB (al 5 (rs[i]'(by omega)) 1 aD m[i]):=by rw[qE];exact iW c i b
theorem py{h h':hZ}{a:hU}{v:Value}(c:cellOf h a=dB v)(d:aX (λb=>b<h.size) h h'):cellOf h' a=dB v:=d.cell (uK c) c
theorem aaH{B:aB}{y:hZ}{f:hU}(O:fI y f)(I:B f.block){a:Sl}{n c bt:Nat}{rs:List Sl}{m:aM}(W:j9 rs=j9 m)(X:aT n m)(hc:bt<n)(hn:n<=64)(ht:c<j9 m)(hs:j9 m<=2^30)
  {h:hZ} (H:aa B y h (nU a rs m)) {K:hZ->Prop} (hk:∀h',aa B y h' (nU a rs (fj c bt m m.length))->K h'):
 aJ (σ:=Int) (λd Z i=>
 Br (decide (d<((a.len:Nat):Int)))
 (Br (d !=(c:Int))
 (∃r:hU,(a.ptr=dB r/\0<=d/\d<((a.len:Nat):Int))/\
 ∃g:Sl,cellOf i (r.add (d.toNat*1))=dB (xc g.ptr g.len g.cap)/\
 ∃J:hU,(g.ptr=dB J/\0<=(bt:Int)/\(bt:Int)<((g.len:Nat):Int))/\
 ∃A:Int,cellOf i (J.add ((bt:Int).toNat*1))=dB (xb xj A)/\
 ∃a25:hU,(a.ptr=dB a25/\0<=(c:Int)/\(c:Int)<((a.len:Nat):Int))/\
 ∃l:Sl,cellOf i (a25.add ((c:Int).toNat*1))=dB (xc l.ptr l.len l.cap)/\
 ∃z:hU,(a.ptr=dB z/\0<=d/\d<((a.len:Nat):Int))/\
 ∃j:Sl,cellOf i (z.add (d.toNat*1))=dB (xc j.ptr j.len j.cap)/\
 ae xm 252 #[(xd (dB f)),(xb xj A),(xc l.ptr l.len l.cap),(xc j.ptr j.len j.cap)] (.many []) i λ_ D=>
 (av.ok [(r.add (d.toNat*1),(xc g.ptr g.len g.cap))] D)/\
 Z (qc xi (d+(1:Int))) D)
 (Z (qc xi (d+(1:Int))) i))
 (K i)) (0:Int) h:=by
 have ah:a.len=j9 m:=by rw[(H.own 0 k0).len,W]
 refine aw (λk:Nat=>(k:Int)) (λk h'=>k<=j9 m/\aa B y h' (nU a rs (fj c bt m k))) (λk=>j9 m-k) 0 k0 ⟨k4,by rw[Zv];exact H⟩ ?_;rintro k h1 ⟨ad,o⟩;have Q:=oK c bt m k;have x:j9 rs=j9 (fj c bt m k):=by rw[Q];exact W
 refine ai (λe=>?_) (λe=>?_)
 ·have w:k<j9 m:=k4
  refine bR (λU=>?_) (λU=>?_)
  ·have u:k≠c:=λhh=>U (by rw[hh]);have P:aC (fj c bt m k) k=aC m k:=by rw[sj w,j3 k4]
   have L:aC (fj c bt m k) c=aC m c:=by rw[sj ht,j3 k4]
   have e4:(fj c bt m k)[k]'(by omega)=aC m k:=by rw[<-P,bv]
   have e5:(fj c bt m k)[c]'(by omega)=aC m c:=by rw[<-L,bv]
   have t:=px (a:=a) x k k4;have Y:=px (a:=a) x c k4;rw[e4]at t;rw[e5]at Y;have lk:=cy X w;have lt:=cy X ht;have q:=o.off (k+1) 0 k4 t k0;have s:=q.1.seq (λ_=>rfl) q.2;refine s.mZ k k0 k4 λa1 S T=>?_;have R:=o.seq (k+1) t λ_=>rfl;refine R.bC bt k0 k4 _ k0 ?_;refine s.mZ c k0 k4 λ_ _ _=>?_;refine s.mZ k k0 k4 λ_ _ _=>?_;have G:(uh (rs[c]'(by omega)) 1 aD (aC m c)).p h1 (λb=>¬(rs[k]'(by omega)).on b):=by have:=o.off (k+1) (c+1) k4 t Y;exact(this.1.seq (λ_=>rfl) this.2).mono λb hb=>hb.2
   refine(adA f _ _ _ (aC m c) (aC m k) h1 (O.aj o.aj I) (o.base (k+1) t I) G (o.own (k+1) t) k4 k4).mono ?_;rintro v h2 ⟨rfl,M,E⟩;have V:=o.oS (k+1) t E M;have N:=E.cell T.2 S;refine⟨(),k0,⟨N,trivial⟩,?_⟩;refine⟨k+1,ld,⟨k4,?_⟩,k4⟩;rw[Zw w u];show aa B y h2 (al 34 a 1 bo rs::bA 5 1 aD rs ((fj c bt m k).set k _));rw[<-RN x k k4];have F:(aC m k)[bt]'(by omega)=aN (aC m k) bt:=(Tw).symm;rw[F]at V;exact V
  ·have u:k=c:=k4
   subst u;exact⟨k+1,ld,⟨k4,by rw[Zx];exact o⟩,k4⟩
 ·have:k=j9 m:=k4
  subst this;exact hk _ o
theorem Tx{rs:List Sl}{m:aM}(a:j9 rs=j9 m)(i j:Nat)(b:i<j9 m)(c:j<j9 m):
  ((bA 5 1 aD rs m).set i (al 5 (rs[j]'(by omega)) 1 aD m[j])).set j (al 5 (rs[i]'(by omega)) 1 aD m[i])=bA 5 1 aD ((rs.set i (rs[j]'(by omega))).set j (rs[i]'(by omega))) (jB m i j):=by
 rw[kZ a,kZ l7,jB,bv b,bv c]
theorem Ct{B:aB}{w:hZ}{f:hU}(P:fI w f)(Q:B f.block){a:Sl}{n cZ:Nat}{rs:List Sl}{m:aM}(hl:j9 rs=j9 m)(hm:aT n m)(hc:cZ<=n)(hn:n<=64)(hs:j9 m<=2^30)
  {h:hZ} (H:aa B w h (nU a rs m)):ab xm 202 #[xd (dB f),a,xb xi cZ] h λv h'=>
   ∃U:List Sl,v=xb xi (bG m cZ).1/\U.length=j9 m/\aa B w h' (nU a U (bG m cZ).2):=by
 have ap:a.len=j9 m:=by rw[(H.own 0 k0).len,hl]
 refine Ot (dB f) a cZ ?_;unfold Hj;refine aw (λt:List Sl×Nat=>(((bG m t.2).1:Int),(t.2:Int))) (λt h'=>t.2<=cZ/\t.1.length=j9 m/\aa B w h' (nU a t.1 (bG m t.2).2)) (λt=>cZ-t.2) (rs,0) k0 ⟨k9,hl,H⟩ ?_;rintro⟨c,bt⟩ h1 ⟨hk,S,K⟩;dsimp only at*;have s:=gZ hm bt;have D:=DP m bt;obtain⟨st,u⟩:∃st,st=bG m bt:=⟨_,rfl⟩
 rw[<-u]at s D K⊢;obtain⟨b,l⟩:=st;dsimp only at s D K⊢;have y:j9 c=j9 l:=k4
 have g:bG m (bt+1)=jC (b,l) bt:=by rw[bG,<-u]
 refine ai (λe=>?_) (λe=>?_)
 ·have M:bt<n:=k4
  have N:fZ h1 a 1 aD l:=K.RO y λ_=>rfl;refine(Vt a l n b bt h1 N s.1 M k4).mono ?_;rintro v h2 ⟨rfl,rfl⟩;refine⟨_,k0,?_⟩;dsimp only;cases hb:ji l b bt with
  |none=>
   refine ai (λ_=>?_) λX=>absurd k6 X;refine⟨(c,bt+1),?_,⟨k7,S,?_⟩,k7⟩
   ·dsimp only;rw[g,jC,hb,ag _];rfl
   ·dsimp only;rw[g,jC,hb];exact K
  |some i=>
   have hh:=sN hb;refine ai (λX=>absurd (show((i:Nat):Int)<0 from X) k4) λ_=>?_;dsimp only;have J:b<j9 l:=k4
   have hi:=hh.2.1;have V:=K.seq 0 k0 λ_=>rfl;refine bi ?_;refine V.mZ i k0 k4 λ_ _ _=>?_;refine V.mZ b k0 k4 λ_ _ _=>?_;refine K.set ac 0 k0 (λ_=>rfl) k0 b k0 k4 (c[i]'(by omega)) k0 k0 k0 λh3 H3=>⟨trivial,?_⟩
   refine H3.set ac 0 k0 (λ_=>rfl) k0 i k0 k8 (c[b]'(by omega)) k0 k0 k0 λW H4=>⟨trivial,?_⟩
   have o:aa B w W (nU a ((c.set b (c[i]'(by omega))).set i (c[b]'(by omega))) (jB l b i)):=by have:=H4.aeI (b+1) (i+1) (A:=al 5 (c[b]'(by omega)) 1 aD l[b]) (A2:=al 5 (c[i]'(by omega)) 1 aD l[i]) (iW y b J) (iW y i hi);show aa B w W (al 34 a 1 bo _::bA 5 1 aD _ _);rw[<-Tx y b i J hi];exact this
   obtain⟨k,z⟩:∃k,k=(c.set b (c[i]'(by omega))).set i (c[b]'(by omega)):=⟨_,rfl⟩
   rw[<-z]at o;have ar:j9 k=j9 l:=by rw[z];simp;omega
   obtain⟨d,x⟩:∃d,d=jB l b i:=⟨_,rfl⟩
   have E:aT n d:=by rw[x];exact Gl s.1 J hi
   have O:j9 d=j9 l:=by rw[x];exact lT _ _ _
   rw[<-x]at o;have q:j9 k=j9 d:=k4
   have j:b<j9 d:=k4
   refine bi ?_;have gt:=px (a:=a) q b j;have lt:d[b].length=n:=E _ (qh _);have L:=o.seq 0 k0 λ_=>rfl;refine L.mZ b k0 k4 λam G _=>?_;have F:=o.seq (b+1) gt λ_=>rfl;refine F.bC bt k0 k4 _ k0 ?_;refine L.mZ b k0 k4 λax R _=>?_;have T:fI W f:=P.aj o.aj Q;refine(adx f _ W T).mono ?_;rintro v h5 ⟨rfl,rfl⟩;refine⟨_,k0,⟨R,G,trivial⟩,?_⟩;refine(MS f _ _ _ h5 T F k4).mono ?_;rintro v h6 ⟨r,rfl,R6⟩;refine⟨r,k0,⟨py G R6.aj,trivial⟩,?_⟩;have H6:=o.comp R6;dsimp only;refine H6.set ac 0 k0 (λ_=>rfl) k0 b k0 k4 r k0 k0 k0 λZ H7=>⟨trivial,?_⟩
   have ad:d[b]=aC d b:=(bv j).symm;have Y:(d[b])[bt]'(by omega)=aN (aC d b) bt:=by rw[Tw (by rw[bv j];omega)];simp only[bv j]
   have ah:aa B w Z (nU a (k.set b r) (ki b bt d)):=by have h8:aa B w Z ((al 34 a 1 bo (k.set b r)::bA 5 1 aD k d)++[al 5 r 1 aD (scaleB (Gf.inv ((d[b])[bt]'(by omega))) d[b])]):=H7;have h9:=h8.agM (b+1) (by simp[UG q];omega);rw[Y,ad]at h9;show aa B w Z (al 34 a 1 bo _::bA 5 1 aD _ (d.set b _));rw[<-kZ q];exact h9
   have I:j9 (ki b bt d)=j9 d:=oJ _ _ _;refine aaH P Q k8 (Bi E j) M hn k4 k4 ah λh8 H8=>?_;have p:jC (b,l) bt=(b+1,fj b bt (ki b bt d) l.length):=by rw[jC];dsimp only;rw[hb,x]
   refine⟨(k.set b r,bt+1),?_,⟨k7,k8,?_⟩,k7⟩
   ·dsimp only;rw[g,p,ag _,ag _];rfl
   ·dsimp only;rw[g,p];rw[I,O]at H8;exact H8
 ·have:bt=cZ:=k4
  subst this;exact⟨c,by rw[<-u],S,by rw[<-u];exact K⟩
theorem JR(f:hU)(a:Sl)(m:aM)(n:Nat)(h:hZ)(s:fI h f)(u:fZ h a 1 aD m)(g:aT n m)(j:n<=64)(q:j9 m<=2^30):
  ab xm 131 #[xd (dB f),a] h λv h'=>∃(r:Sl) (rs:List Sl),v=r/\r.len=ca m/\rs.length=j9 m/\r.len<=j9 m/\Sp h h' (nU ⟨r.ptr,j9 m,r.cap⟩ rs (bG m (eU m)).2):=by
 refine Oh (dB f) a ?_;unfold GU;refine(nr a m n h u g j q).mono ?_;rintro v D ⟨rfl,rfl⟩;refine⟨_,k0,bj (λe=>ln) λ_=>?_⟩;refine(Ar a m n D u g j q).mono ?_;rintro v B ⟨r,rs,rfl,y,w⟩;refine⟨r,k0,(ur f B).mono ?_⟩;rintro v h3 ⟨rfl,rfl⟩;refine⟨dB f,k0,(sA r m h3 (w.RO y λ_=>rfl)).mono ?_⟩;rintro v E ⟨rfl,rfl⟩;have A:eU m<=n:=by
  cases m with
  |nil=>simp[eU,aC]
  |cons x t=>rw[eU,bv k9];exact vQ (g _ k9)
 refine⟨_,k0,(Ct s s.lt y g A j q w).mono ?_⟩;rintro v F ⟨o,rfl,i,k⟩;have d:=DP m (eU m);rw[(gZ g _).2]at d;have z:=(k.own 0 k0).cap;have b:=(k.own 0 k0).len;refine⟨_,k0,⟨wj _,yR.2 (show(bG m (eU m)).1<=r.cap by omega)⟩,⟨r.ptr,(bG m (eU m)).1,r.cap⟩,o,k9,k0,i,d,?_⟩;have:r=⟨r.ptr,j9 m,r.cap⟩:=by obtain⟨p,l,c⟩:=r;simp only at b⊢;rw[<-i,<-b]
 rw[<-this];exact k
theorem aaI(f:hU)(a:Sl)(m:aM)(n:Nat)(h:hZ)(c:fI h f)(d:fZ h a 1 aD m)(e:aT n m)(b:n<=64)(i:j9 m<=2^30):
  ab xm 64 #[xd (dB f),a] h λv h'=>v=xb xi (ca m)/\Sp h h' []:=by
 refine SL (dB f) a ?_;unfold LW;refine(JR f a m n h c d e b i).mono ?_;rintro v k ⟨r,rs,rfl,g,_,_,j⟩;exact⟨r,k0,by rw[g],.zip j.aj⟩
theorem Av(p:Pm)(seed:Int)(ids:Sl)(l:au)(h:hZ)(j:Rd h ids 1 aq l)(s:j9 l<=2^29):ab xm 20 #[lN p,xb xk seed,ids] h λv h'=>v=xb xi (nC p seed l)/\Sp h h' []:=by
 refine LN p seed ids ?_;unfold EY;refine(Sp.refl h).boxed λa o g=>?_;refine⟨p,(g.box 0 k0).aS _ k0,(rq o).mono ?_⟩;rintro v k ⟨f,rfl,i⟩;have b:=g.comp i;have c:=b.box 0 k0;refine⟨dB f,k0,⟨c.cell0 k0,c.cell k0,c.cell k0,trivial⟩,?_⟩;refine(JQ p seed ids l k (Seq.up j b.aj) k4).mono ?_;rintro v h3 ⟨r,rfl,m⟩;have d:=b.comp m;refine⟨r,k0,trivial,?_⟩;have n:=acO p seed l;have e:(bD p).toNat<=64:=by
  unfold bD;split
  ·rename_i q;have:=(bZ p).1 q;omega
  ·omega
 refine(aaI f r _ _ h3 (d.box 1 k0) (d.Gb 2 k0) (jL p seed l) e k4).mono ?_;rintro v u ⟨rfl,t⟩;exact⟨_,k0,trivial,k0,.zip (d.comp t).aj⟩
theorem PL(p:Pm)(seed:Int)(ids:Sl)(l:au)(h:hZ)(k:Rd h ids 1 aq l)(d:j9 l<=2^29):ab xm 158 #[lN p,xb xk seed,ids] h λv h'=>v=xg (eI p seed l)/\Sp h h' []:=by refine Mo p seed ids ?_;unfold Fm;refine(Sp.refl h).boxed λa o f=>?_;refine⟨p,(f.box 0 k0).aS _ k0,(fa p o).mono ?_⟩;rintro v m ⟨rfl,j⟩;have c:=f.comp j;refine⟨_,k0,trivial,bQ (λe=>?_) λe=>⟨trivial,trivial,by rw[eI,e];rfl,.zip c.aj⟩⟩;have g:=c.box 0 k0;refine⟨p,g.aS _ k0,p,g.aS _ k0,(Av p seed ids l m (Seq.up k c.aj) d).mono ?_⟩;rintro v h3 ⟨rfl,n⟩;have i:=c.comp n;have b:=i.box 0 k0;refine⟨_,k0,⟨b.cell0 k0,b.cell k0,b.cell k0,trivial⟩,(ju p h3).mono ?_⟩;rintro v r ⟨rfl,q⟩;exact⟨_,k0,trivial,by rw[eI,e];rfl,.zip (i.comp q).aj⟩
theorem MT(p:Pm)(seed:Int)(h:hZ):ab xm 174 #[lN p,xb xk seed] h λv h'=>v=xg (eI p seed (fg p))/\Sp h h' []:=by refine KI p seed ?_;unfold Da;refine(Sp.refl h).boxed λa j d=>?_;have e:=d.box 0 k0;refine⟨p,e.aS _ k0,p,e.aS _ k0,(MR p j).mono ?_⟩;rintro v f ⟨r,rfl,i⟩;have c:=d.comp i;have b:=c.box 0 k0;refine⟨r,k0,⟨b.cell0 k0,b.cell k0,b.cell k0,trivial⟩,(PL p seed r _ f (c.seq 1 k0 λ_=>rfl) A0).mono ?_⟩;rintro v h3 ⟨rfl,g⟩;exact⟨_,k0,trivial,k0,.zip (c.comp g).aj⟩
theorem adB(p:Pm)(o b:Int)(h:hZ):ab xm 105 #[lN p,xb xi o,xb xi b] h λv h'=>
  v=.tuple #[xb xi (((ro p o b).getD 0:Nat):Int),xg (ro p o b).isSome]/\Sp h h' []:=by
 refine QF p o b ?_;unfold JC;refine(Sp.refl h).boxed λu z r=>?_;have r:Sp h z [ao u 24 [xb xi p.1,xb xi p.2.1,xb xi p.2.2]]:=r;refine aw (λi:Nat=>(i:Int)) (λi h'=>i<=16/\(∀k,k<i->MP p o b k=eS)/\Sp h h' [ao u 24 [xb xi p.1,xb xi p.2.1,xb xi p.2.2]]) (λi=>16-i) 0 k0 ⟨k4,λk f=>absurd f (Nat.not_lt_zero k),r⟩ ?_;rintro i y ⟨E,c,m⟩;refine ai (λe=>?_) λe=>?_
 ·have x:i<16:=k4
  have a:=m.box 0 k0;refine⟨p,a.aS _ k0,(rk _ _ _ y).mono ?_⟩;rintro _ h3 ⟨rfl,rfl⟩;refine⟨_,k0,⟨a.cell0 k0,a.cell k0,a.cell k0,trivial⟩,(MT p _ h3).mono ?_⟩;rintro _ D ⟨rfl,B⟩;have w:=m.up B.aj;refine⟨_,k0,trivial,bQ (λg=>?_) λg=>?_⟩
  ·have s:ro p o b=dB i:=by
    unfold ro;refine List.find?_eq_some_iff_append.2 ⟨g,qx i,(qx (15-i)).map (·+(i+1)),?_,λk f=>?_⟩
    ·apply zP;intro j;by_cases t:j<i
     ·rw[qp yr,zw k4,zw t]
     ·rw[qj k8,zt];by_cases l:j=i
      ·subst l;rw[zc,zw k4];rfl
      ·obtain⟨d,A⟩:∃d,j=i+(d+1):=⟨j-i-1,k4⟩
       subst A;rw[zr,qE,qR];by_cases q:d<15-i
       ·rw[zw q,zw k4];simp;omega
       ·rw[qQ k8,qQ k8];rfl
    ·rw[c k (qD.1 f)];rfl
   rw[s];exact⟨k0,.zip w.aj⟩
  ·refine⟨i+1,ld,⟨k4,λk f=>?_,w⟩,k4⟩;by_cases n:k<i
   ·exact c k n
   ·have:k=i:=k4
    subst this;exact g
 ·have s:ro p o b=eH:=by unfold ro;rw[List.find?_eq_none];intro k f;rw[c k (by have:=qD.1 f;omega)];simp
  rw[s];exact⟨k0,.zip m.aj⟩
theorem Yg(p:Pm)(o:Int)(n:Nat)(h:hZ)(F:n<=2^30):ab xm 47 #[lN p,xb xi o,xb xi n] h λv h'=>
  (cR p o n=eH->v=.tuple #[xc eH 0 0,xg eS]/\Sp h h' [])/\
  (∀l,cR p o n=dB l->∃r:Sl,v=.tuple #[r,xg eR]/\Sp h h' [al 3 r 1 aq l]):=by
 refine LQ p o n ?_;unfold Fa;refine(Sp.refl h).boxed λq E k=>?_;have k:Sp h E [al 3 ⟨eH,0,0⟩ 1 aq [],ao q 24 [xb xi p.1,xb xi p.2.1,xb xi p.2.2]]:=(k.nil 3 1 aq).cD [1,0];refine aw (λt:Sl×Nat×au=>(t.1,(t.2.1:Int))) (λt h'=>t.2.1<=n/\cR p o t.2.1=dB t.2.2/\Sp h h' [al 3 t.1 1 aq t.2.2,ao q 24 [xb xi p.1,xb xi p.2.1,xb xi p.2.2]]) (λt=>n-t.2.1) (⟨eH,0,0⟩,0,[]) k0 ⟨k9,k0,k⟩ ?_;rintro⟨s,i,l⟩ A ⟨I,c,f⟩;dsimp only at*;have y:=iZ c;have b:∀j,ro p o i=eH->j<=n-(i+1)->cR p o (i+1+j)=eH:=λj m=>by
  induction j with
  |zero=>intro _;show cR p o (i+1)=eH;unfold cR;rw[c,m];rfl
  |succ j ih=>intro G;show cR p o ((i+1+j)+1)=eH;unfold cR;rw[ih k4];rfl
 refine ai (λe=>?_) λe=>?_
 ·have x:i<n:=k4
  refine⟨p,(f.box 1 k0).aS _ k0,(adB p o i A).mono ?_⟩;rintro _ h3 ⟨rfl,B⟩;have w:=f.up B.aj;refine⟨(_,_),k0,bj (λg=>?_) λg=>?_⟩
  ·have a:cR p o n=eH:=by have:=b (n-(i+1)) (Option.isSome_eq_false_iff.1 g|>Option.isNone_iff_eq_none.1) (ql _);rw[show i+1+(n-(i+1))=n by omega]at this;exact this
   rw[a];exact⟨λ_=>⟨k0,.zip w.aj⟩,λl h=>l9⟩
  ·obtain⟨t,u⟩:∃t,ro p o i=dB t:=Option.isSome_iff_exists.1 g;rw[u];refine w.push ac 0 k0 fN k0 k6 (λ_=>rfl) eT (t:Int) k0 k6 k4 λD H z=>?_;refine⟨(D,i+1,l++[(t:Int)]),lb,⟨k7,?_,z⟩,k7⟩;show cR p o (i+1)=_;unfold cR;rw[c,u];rfl
 ·have d:i=n:=k4
  subst d;rw[c];exact⟨λh=>l9,λl' h=>(by injection h with h;subst h;exact⟨s,k0,f.cD [0]⟩)⟩
end Go.Qw
namespace Wl
open Go
def ox(m:aE)(l:cC):cC:=(cS m l).map cL
def bM(m:aE)(l:cC):cC:=bs m++ox m l
def iw(d:bp)(a:Nat)(n:Int):Bool:=decide (max n 0<=(d.room:Int)-a)
def fy(m:aE)(d:bp)(n:Int):Bool:=!d.lost&&(iw d d.l.length n||iw d (bM m d.l).length n)
def fY(m:aE)(w:Pow)(d:bp)(n:Int):Int×Pow×bp:=
 if d.lost then(5,w,d)else if !fy m d n then(7,w,d)else if iw d d.l.length n then(0,w,d)else d.rewrite w (bM m d.l)
theorem adC(l:List cX):j9 (pL l)<=j9 l:=by unfold pL;rw[qw];exact zf (qT _ _) k9
theorem nt(m:aE)(l:cC):j9 (cS m l)<=j9 l:=by unfold cS;refine zf (adC _) ?_;rw[wJ];exact List.length_filterMap_le _ _
theorem wf(m:aE)(l:cC):j9 (ox m l)<=j9 l:=by unfold ox;rw[qw];exact nt m l
end Wl
namespace Go.Qw
open Go Go.Vc Go.Proofs Wl
section
variable {B:aB} {h0 h:hZ} {As:List HP} {a pw:hU} {d:bp} {w:Pow}
theorem gQ.rewrite{l:cC}(h:gQ d):gQ (d.rewrite w l).2.2:=by
 unfold bp.rewrite;split
 ·exact h
 ·rename_i b;split
  ·exact h
  ·split
   ·exact h
   ·rename_i e;have a:∀c∈l,j9 c=64:=m5
    split
    ·exact h
    ·split
     ·exact⟨zy _,k7,h.room,a,zy _,k9⟩
     ·exact⟨h.wait,h.len,h.room,h.cell,k7,a⟩
theorem HJ(x:Sl)(l:cC)(H:aa B h0 h (mu pw a d::eE 92 pw w::As))(L:St B h0 As λh=>fZ h x 1 aD l)(N:j9 l<=2^20)(q:∀c∈l,j9 c<=2^20):
  ab xm 125 #[xd (dB a),x] h λv h'=>v=xb xi (d.rewrite w l).1/\aa B h0 h' (mu pw a (d.rewrite w l).2.2::eE 92 pw (d.rewrite w l).2.1::As):=by
 refine AS (dB a) x ?_;unfold ph;have M:=L.at [_,_] H;have R:=M.len;have n:=gQ.rewrite (w:=w) (l:=l) (And.left (id H).vE);have same:∀(e:Int),d.rewrite w l=(e,w,d)->(Value.int .i64 e=xb xi (d.rewrite w l).1/\aa B h0 h (mu pw a (d.rewrite w l).2.2::eE 92 pw (d.rewrite w l).2.1::As)):=λe T=>by
  rw[T];exact⟨k0,H⟩
 refine aw (λi:Nat=>(i:Int)) (λi h'=>i<=j9 l/\(∀c∈l.take i,j9 c=64)/\h'=h) (λi=>j9 l-i) 0 k0 ⟨k4,k9,k0⟩ ?_;rintro i h1 ⟨hi,f,rfl⟩;refine ai (λe=>?_) λe=>?_
 ·have k:i<j9 l:=k4
  refine M.get i k0 k λr X=>?_;have V:=X.len;refine bR (λP=>same 1 ?_) λP=>?_
  ·unfold bp.rewrite;rw[j1];rw[wE,List.all_eq_false];exact⟨l[i],qh k,k8⟩
  ·refine⟨i+1,ld,⟨k4,λc j=>?_,k0⟩,k4⟩;rw[aH _ _ k]at j;rcases qA.1 j with j|j
   ·exact f c j
   ·rw[qB.1 j];omega
 have f:∀c∈l,j9 c=64:=by rw[qi k4]at f;exact f
 have m:(!l.all λb=>decide (j9 b=64))=eS:=by rw[Bool.not_eq_false',qU];exactλc j=>j6 (f c j)
 have y:d.rewrite w l=(if d.lost then(5,w,d)else if d.room<j9 l then(7,w,d)else if w.off then(14,w,d)else if w.step.1 then(0,w.step.2,{d with l:=l,wait:=0,laid:=[],has:=eS})else(14,w.step.2,{d with laid:=l,has:=eR})):=by unfold bp.rewrite;rw[m];rfl
 obtain⟨ok,s,b,G⟩:=H.vE;have z:=G.box 0 k0;refine bi (bi (bQ (λe=>ln) λ_=>⟨a,k0,d.lost,z.cell k0,bQ (λe=>same 5 (by rw[y,j1 e])) λg=>?_⟩));refine⟨a,k0,(d.room:Int),z.cell k0,ai (λe=>same 7 (by rw[y,j3 qs,j1 k4])) λA=>?_⟩;obtain⟨Y,S,F⟩:=(G.bc 4 [3,0,1,2]).Dn;refine⟨a,k0,dB pw,z.cell0 k0,(IR Y (F.box 0 k0)).mono ?_⟩;rintro _ Z ⟨rfl,rfl⟩;refine⟨_,k0,bj (λe=>same 14 ?_) λt=>?_⟩
 ·rw[y,j3 qs,j3 k4,j1 n3]
 have o:w.off=eS:=yr
 have u:d.rewrite w l=(if w.step.1 then(0,w.step.2,{d with l:=l,wait:=0,laid:=[],has:=eS})else(14,w.step.2,{d with laid:=l,has:=eR})):=by rw[y,j3 qs,j3 k4,j3 (by simp[o])]
 refine⟨a,k0,dB pw,z.cell0 k0,(Hv (G.bc 4 [3,0,1,2])).mono ?_⟩;rintro _ O ⟨rfl,E⟩;have p:=L.at [_,_,_,_] E;refine⟨_,k0,bj (λe=>?_) λe=>?_⟩
 ·rw[u,j3 t8]at n⊢;refine(KR x l O p N q).mono ?_;rintro _ Q ⟨r,rfl,D⟩;have I:=(E.ck D).bc 5 [2,3,0,1];refine⟨r,k0,a,k0,I.store ac 0 k0 k0 4 [r] k0 k0 k0 o9 λW J=>?_⟩;refine⟨a,k0,J.store ac 0 k0 k0 5 [xg eR] k0 k0 k0 o9 λh8 K=>⟨k0,?_⟩⟩;exact aa.Hw (s:=s) (b:=r) n K
 ·rw[u,j1 e]at n⊢;refine(KR x l O p N q).mono ?_;rintro _ Q ⟨r,rfl,D⟩;have I:=(E.ck D).bc 5 [2,0,4,1];refine⟨r,k0,a,k0,I.store ac 0 k0 k0 2 [r] k0 k0 k0 o9 λW J=>?_⟩;refine⟨a,k0,J.store ac 0 k0 k0 3 [xb xi 0] k0 k0 k0 o9 λh8 K=>?_⟩;refine(Hx (d:={d with l:=l,wait:=0}) r b _ K ⟨zy _,k7,ok.room,f,ok.laid,ok.cellL⟩ k0).mono ?_;rintro _ h9 ⟨rfl,U⟩;exact⟨0,k0,k0,U⟩
theorem Cu(s b:Sl)(c:Nat)(n:Int)(e:cA h a 156 (iF pw d s b))(f:d.room<=512)(g:c<=2^40:=by omega):ab xm 190 #[xd (dB a),xb xi c,xb xi n] h λv h'=>v=xg (iw d c n)/\h'=h:=by refine Ms (dB a) c n ?_;unfold Fs;refine(aan s b e).mono ?_;rintro _ _ ⟨rfl,rfl⟩;refine⟨_,k0,?_,k0⟩;rw[ag ((d.room:Int)-c)];unfold iw;congr 1;rw[decide_eq_decide];split<;>omega
theorem Yh(s b:Sl)(x:cw)(m:aE)(D:cA h a 156 (iF pw d s b))(M:fZ h s 1 aD d.l)(ok:gQ d)(K:dV h x m)(Q:dO m):
  ab xm 192 #[xd (dB a),ge x] h λv h'=>∃r:Sl,v=r/\Sp h h' [gn r (ox m d.l)]:=by
 refine Oo (dB a) x ?_;unfold He;have A:=ok.len;have q:=ok.room;refine(Sp.refl h).boxed λV P j=>?_;refine⟨x,(j.box 0 k0).aS _ k0,(HD a pw d s b x m P (D.aj j.aj D.lt) (M.up j.aj) ok (K.up j.aj) Q).mono ?_⟩;rintro _ W ⟨r,c,rfl,J⟩;have n:=(j.ck J).Gi 34 5 1 aD;refine⟨r,k0,?_⟩;have w:=nt m d.l;obtain⟨L,E⟩:∃L,L=cS m d.l:=⟨_,rfl⟩
 have y:(ox m d.l)=L.map cL:=by unfold ox;rw[E]
 rw[<-E]at n w;rw[y];have B:=n.gy 1 k0;have S:=B.2.1;have z:=B.1.len;refine aw (λt:Sl×Nat=>(t.1,(t.2:Int))) (λt h'=>t.2<=j9 L/\Sp h h' [gn t.1 ((L.map cL).take t.2),dg fv 8 bP r c L]) (λt=>j9 L-t.2) (⟨eH,0,0⟩,0) k0 ⟨k9,n.cD [0,1]⟩ ?_;rintro⟨o,i⟩ h3 ⟨Y,k⟩;dsimp only at*;have I:=k.gy 1 k0;refine ai (λe=>?_) (λe=>?_)
 ·have p:i<j9 L:=k4
  refine I.1.ey (g:=bP) i k0 k4 (c[i]'(by omega)) k0 ?_;refine k.alloc ac k0 λG X R=>?_;refine R.storeAll ac 2 k0 k0 (bP (c[i]'(by omega))) k0 k0 k0 k0 λF f=>?_;have f:Sp h F [gn o ((L.map cL).take i),dg fv 8 bP r c L,ao G 170 (bP (c[i]'(by omega)))]:=f;refine⟨c[i]'(by omega),(f.box 2 k0).aS _ k0,(sS _ L[i] F (Fix.row (f.gy 1 k0) p)).mono ?_⟩;rintro _ U ⟨u,rfl,N⟩;have O:=(f.ck N).bc 3 [1,0,2];refine⟨u,k0,O.IA ac fH k8 λH h8 T=>?_⟩;refine⟨(H,i+1),lb,⟨k7,?_⟩,k7⟩;dsimp only;rw[aH _ _ (show i<j9 (L.map cL) by simp;omega),wo];exact T.cD [0,1]
 ·rw[qi k8]at k;exact⟨o,k0,k.cD [0]⟩
end
section
variable {B:aB} {h0 h:hZ} {As:List HP} {a pw:hU} {d:bp} {w:Pow}
theorem JS{m:aE}{l:cC}{c:aY}(h:c∈ox m l):j9 c<=64:=by
 unfold ox at h;obtain⟨r,_,rfl⟩:=qo.1 h;unfold cL;split
 ·rename_i a;refine vQ (mI k6 k6 ?_);have:=oV a;omega
 ·simp
theorem HK(s b:Sl)(x:cw)(m:aE)(o:cA h a 156 (iF pw d s b))(t:fZ h s 1 aD d.l)(ok:gQ d)(k:dV h x m)(i:dO m):
  ab xm 123 #[xd (dB a),ge x] h λv h'=>∃r:Sl,v=r/\Sp h h' [gn r (bM m d.l)]:=by
 refine QG (dB a) x ?_;unfold JD;have j:=ok.len;have g:=ok.room;refine(Sp.refl h).boxed λp n e=>?_;have e:Sp h n [ao p 44 (bn x)]:=e;refine⟨x,(e.box 0 k0).aS _ k0,x,(e.box 0 k0).aS _ k0,(wd x m n (k.up e.aj) i).mono ?_⟩;rintro _ E ⟨r,rfl,q⟩;have f:=e.ck q;have c:=f.box 1 k0;refine⟨r,k0,⟨c.cell0 k0,c.cell k0,c.cell k0,c.cell k0,c.cell k0,c.cell k0,c.cell k0,c.cell k0,trivial⟩,(Yh s b x m (o.aj f.aj o.lt) (t.up f.aj) ok (k.up f.aj) i).mono ?_⟩;rintro _ h3 ⟨u,rfl,y⟩;have A:=(f.ck y).bc 2 [1,0];have w:=lZ m i;have D:=wf m d.l;refine⟨u,k0,trivial,A.afM ac fH ⟨_,_,k0,k0⟩ k4 λz F B=>?_⟩;exact⟨trivial,z,k0,B.cD [0]⟩
theorem HL(s b:Sl)(x:cw)(m:aE)(n:Int)(q:cA h a 156 (iF pw d s b))(A:fZ h s 1 aD d.l)(o:s.len=j9 d.l)(ok:gQ d)(z:dV h x m)(t:dO m):
  ab xm 118 #[xd (dB a),ge x,xb xi n] h λv h'=>v=xg (fy m d n)/\Sp h h' []:=by
 refine Fj (dB a) x n ?_;unfold Ci;have p:=ok.len;have j:=ok.room;refine(Sp.refl h).boxed λy D f=>?_;have f:Sp h D [ao y 44 (bn x)]:=f;have c:=q.aj f.aj q.lt;refine bi (bQ (λe=>ln) λ_=>(Hy s b c).mono ?_);rintro _ _ ⟨rfl,rfl⟩;refine⟨_,k0,bQ (λe=>⟨by unfold fy;rw[e];rfl,.zip f.aj⟩) λe=>?_⟩;have u:fy m d n=(iw d d.l.length n||iw d (bM m d.l).length n):=by unfold fy;rw[e];rfl
 refine(PF s b c o).mono ?_;rintro _ _ ⟨rfl,rfl⟩;refine⟨_,k0,(Cu s b d.l.length n c ok.room).mono ?_⟩;rintro _ _ ⟨rfl,rfl⟩;refine⟨_,k0,bQ (λg=>⟨by rw[u,g];rfl,.zip f.aj⟩) λg=>?_⟩;refine⟨x,(f.box 0 k0).aS _ k0,(HK s b x m c (A.up f.aj) ok (z.up f.aj) t).mono ?_⟩;rintro _ E ⟨r,rfl,i⟩;have k:=(aa.DO i).1;have B:j9 (bM m d.l)<=4000:=by have:=lZ m t;have:=wf m d.l;unfold bM;rw[qy];omega
 have w:=f.ck i;refine⟨r,k0,(Cu s b r.len n (c.aj i.aj c.lt) ok.room).mono ?_⟩;rintro _ _ ⟨rfl,rfl⟩;exact⟨_,k0,by rw[u,g,vm,k],.zip w.aj⟩
theorem Tz(x:cw)(n:Int)(h:hZ):ab xm 118 #[xd eH,ge x,xb xi n] h λv h'=>v=xg eS/\Sp h h' []:=by refine Fj eH x n ?_;unfold Ci;refine(Sp.refl h).boxed λb c a=>?_;exact bi (bQ (λ_=>⟨k0,.zip a.aj⟩) λe=>ln)
theorem PM(x:cw)(m:aE)(n:Int)(K:St B h0 As λh=>dV h x m)(F:dO m)(H:aa B h0 h (mu pw a d::eE 92 pw w::As)):
  ab xm 119 #[xd (dB a),ge x,xb xi n] h λv h'=>v=xb xi (fY m w d n).1/\aa B h0 h' (mu pw a (fY m w d n).2.2::eE 92 pw (fY m w d n).2.1::As):=by
 refine Fk (dB a) x n ?_;unfold Cj;refine(Sp.refl h).boxed λL t G=>?_;have G:Sp h t [ao L 44 (bn x)]:=G;have o:=(H.ck G).bc 3 [1,2,0];have same:∀(e:Int) {h':hZ},aX (λb=>b<t.size) t h'->fY m w d n=(e,w,d)->(Value.int .i64 e=xb xi (fY m w d n).1/\aa B h0 h' (mu pw a (fY m w d n).2.2::eE 92 pw (fY m w d n).2.1::As)):=λe {h'} Q N=>by
  rw[N];exact⟨k0,((o.up Q).bc 3 [0,1])⟩
 obtain⟨ok,s,b,f⟩:=(id o).vE;have q:=f.box 0 k0;have M:fZ t s 1 aD d.l:=(f.bc 2 [1]).Gj λ_=>rfl;have k:=(aa.DO (f.bc 2 [1])).1;have J:=ok.len;have y:=ok.room;refine bi (bi (bQ (λe=>ln) λ_=>(Hy s b q).mono ?_));rintro _ _ ⟨rfl,rfl⟩;refine⟨_,k0,bQ (λe=>same 5 (aX.refl _ _) (by unfold fY;rw[j1 e])) λe=>?_⟩;refine⟨x,(o.box 2 k0).aS _ k0,(HL s b x m n q M k ok (K.at [_,_,_] o) F).mono ?_⟩;rintro _ S ⟨rfl,j⟩;have I:=f.up j.aj;have i:=q.aj j.aj q.lt;have u:=o.up j.aj;refine⟨_,k0,bj (λp=>same 7 j.aj (by unfold fY;rw[j3 t8,j1 (by simp[p])])) λp=>?_⟩;refine(PF s b i k).mono ?_;rintro _ _ ⟨rfl,rfl⟩;refine⟨_,k0,(Cu s b d.l.length n i ok.room).mono ?_⟩;rintro _ _ ⟨rfl,rfl⟩;refine⟨_,k0,bQ (λz=>same 0 j.aj (by unfold fY;rw[j3 t8,j3 (by simp[p]),j1 z])) λz=>?_⟩;have em:fY m w d n=d.rewrite w (bM m d.l):=by unfold fY;rw[j3 t8,j3 (by simp[p]),j3 (by simp[z])]
 rw[em];have O:j9 (bM m d.l)<=4000:=by have:=lZ m F;have:=wf m d.l;unfold bM;rw[qy];omega
 have E:∀c∈bM m d.l,j9 c<=64:=λc g=>by
  unfold bM at g;rcases qA.1 g with g|g
  ·exact vQ (uQ g)
  ·exact JS g
 refine⟨x,(u.box 2 k0).aS _ k0,(HK s b x m i ((I.bc 2 [1]).Gj λ_=>rfl) ok (K.at [_,_,_] u) F).mono ?_⟩;rintro _ h3 ⟨r,rfl,P⟩;obtain⟨rs,D⟩:=(u.ck P).ads λ_=>rfl;have D:=D.bc 4 [1,2,0];refine⟨r,k0,(HJ r (bM m d.l) D (St.fw 0 k0 λh' A=>?_) k4 λc g=>zf (E c g) k6).mono ?_⟩
 ·exact⟨rs,A.1,A.2.1,A.2.2⟩
 rintro _ T ⟨rfl,R⟩;exact⟨_,k0,k0,R.bc 3 [0,1]⟩
end
section
variable {B:aB} {h0 h:hZ} {As:List HP} {a pw b:hU} {x:cw} {offs:Int} {da:List aQ} {w:Pow} {ds:aF} {d:bp}
theorem aa.adD(n:Nat)(f:n<64)(e:ds[n]?=dB eH)(H:aa B h0 h (bJ cm a pw (bn x) offs da w ds::mu pw b d::As)){K:Unit->hZ->Prop}
  (j:∀h',aa B h0 h' (bJ cm a pw (bn x) offs (da.set n (dB b)) w (ds.set n (dB d))::As)->K () h'):
  af xm (qf 74 (xd (dB ((a.add 10).add n))) (xd (dB b))) h K:=by
 obtain⟨ok,g⟩:=Go.Vc.aa.An H;have i:(a.add 10).add n=a.add (10+n):=by unfold Addr.add;simp[Nat.add_assoc]
 rw[i];refine g.storeAt ac 0 k0 k0 k0 k0 k0 (by simp[ok.la];omega) λh' c=>j h' ?_;rw[zx,aaB ok.l8]at c;exact aa.agc ok f e c
end
end Go.Qw
namespace Wl
open Go
theorem Du(ds:aF)(n:Nat)(d:bp)(s:Int)(b:n<64)(c:j9 ds=64):aW (bT ds (n:Int) d) s=if s=(n:Int)then dB d else aW ds s:=by
 unfold aW bT;rw[qn];by_cases h:0<=s/\s<64
 ·rw[j1 h,j1 h,zb];by_cases a:s=(n:Int)
  ·subst a;rw[j1 k0,qn,j1 k0,j1 k4];rfl
  ·rw[j3 a,j3 k4]
 ·rw[j3 h,j3 h,j3 k4]
theorem ma{ds:aF}{s:Int}{d:bp}(h:aW ds s=dB d):∃n:Nat,s=(n:Int)/\n<64:=by
 unfold aW at h;by_cases a:0<=s/\s<64
 ·exact⟨s.toNat,k4,k4⟩
 ·rw[j3 a]at h;cases h
structure Fit (ds:aF) (S Q:au):Prop where
 len:j9 ds=64
 at_:∀s∈S,∃d,aW ds s=dB d/\d.lost=eS/\d.l.length+Q.count s<=d.room
theorem Vu{d:bp}{n:Nat}(w:Pow)(b:aY)(a:d.lost=eS)(f:j9 d.l+(n+1)<=d.room)(g:j9 b=64):
  ((d.append w b).1=0∨(d.append w b).1=14)/\(d.append w b).2.2.lost=eS/\(d.append w b).2.2.l.length+n<=(d.append w b).2.2.room:=by
 unfold bp.append;rw[j3 k4,j3 o7,j3 k4];by_cases c:w.off
 ·rw[j1 c];exact⟨.inr k0,a,k7⟩
 ·rw[j3 c];by_cases e:w.step.1
  ·rw[j1 e];exact⟨.inl k0,a,k8⟩
  ·rw[j3 e];exact⟨.inr k0,a,k8⟩
theorem aaJ{d:bp}(w:Pow)(a:d.lost=eS):((d.sync w).1=0∨(d.sync w).1=14)/\(d.sync w).2.2.lost=eS/\(d.sync w).2.2.l=d.l/\(d.sync w).2.2.room=d.room:=by
 unfold bp.sync;rw[j3 o7];by_cases b:w.step.1
 ·rw[j1 b];exact⟨.inl k0,a,k0,k0⟩
 ·rw[j3 b];exact⟨.inr k0,a,k0,k0⟩
theorem QS{ds:aF}{S Q:au}{x:Int}(w:Pow)(b:aY)(F:Fit ds S (x::Q))(l:x∈S)(o:j9 b=64):
  ((fQ w ds x b).1=0∨(fQ w ds x b).1=14)/\Fit (fQ w ds x b).2.2 S Q:=by
 obtain⟨d,f,p,m⟩:=F.at_ x l;rw[List.count_cons_self]at m;obtain⟨n,rfl,j⟩:=ma f;have A:=Vu w b p (n:=Q.count (n:Int)) k4 o;have e:fQ w ds (n:Int) b=((d.append w b).1,(d.append w b).2.1,bT ds (n:Int) (d.append w b).2.2):=by unfold fQ;rw[f]
 rw[e];refine⟨A.1,by unfold bT;rw[zF];exact F.len,λs q=>?_⟩;rw[Du _ _ _ _ j F.len];by_cases a:s=(n:Int)
 ·subst a;rw[j1 rfl];exact⟨_,k0,A.2⟩
 ·rw[j3 a];obtain⟨k,g,i,c⟩:=F.at_ s q;rw[List.count_cons_of_ne λh=>a h.symm]at c;exact⟨k,g,i,c⟩
theorem Vv{ds:aF}{S:au}{x:Int}(w:Pow)(F:Fit ds S [])(g:x∈S):((gI w ds x).1=0∨(gI w ds x).1=14)/\Fit (gI w ds x).2.2 S []:=by
 obtain⟨d,b,j,i⟩:=F.at_ x g;obtain⟨n,rfl,c⟩:=ma b;obtain⟨h,A2,k,f⟩:=aaJ w j;have e:gI w ds (n:Int)=((d.sync w).1,(d.sync w).2.1,bT ds (n:Int) (d.sync w).2.2):=by unfold gI;rw[b]
 rw[e];refine⟨h,by unfold bT;rw[zF];exact F.len,λs l=>?_⟩;rw[Du _ _ _ _ c F.len];by_cases a:s=(n:Int)
 ·subst a;rw[j1 rfl];exact⟨_,k0,A2,by rw[k,f];exact i⟩
 ·rw[j3 a];exact F.at_ s l
end Wl
namespace Go.Vc
open Go Wl Go.Qw
theorem OH(l:au)(k:Nat):(bm l k).Nodup:=by unfold bm;refine List.Pairwise.filter _ (wF.2 ?_);exact(List.nodup_range (n:=k)).imp λh=>k4
theorem Yi{l:au}(h:(fb l).2=eR):(fb l).1=bm l l.length/\l.length<=64/\∀n:Nat,l.getD n 0<=512:=by
 unfold fb at h⊢;by_cases a:l.all (fp · 0 512)=eR
 ·rw[j1 a]at h⊢;refine⟨k0,by simp at h;exact h.1,λn=>?_⟩;rw[qe];by_cases b:n<j9 l
  ·rw[qd b];have:=qU.1 a _ (qh b);unfold fp at this;simp at this⊢;omega
  ·rw[qQ k4];simp
 ·rw[j3 a]at h;cases h
theorem TA(l:au)(i n:Nat)(g:i<j9 (bm l l.length))(e:(bm l l.length)[i]=(n:Int))(d:n<64):(iv l i)[n]?=dB eH:=by unfold iv;rw[qR,zw d,qY,j3];intro f;obtain⟨j,h,c⟩:=List.mem_take_iff_getElem.1 f;have:=Gd (OH l l.length) (a:=j) (b:=i) k4 g (by rw[c,e]);omega
theorem Cv(m:aE):∀S:au,j9 (cg m S)=j9 S*j9 (bs m)
 |[]=>by simp[cg]
 |n::S=>by
  have e:cg m (n::S)=(bs m).map (λc=>(n,c))++cg m S:=by unfold cg;rw[zg]
  rw[e,qy,qw,Cv m S,zm,zO,Nat.add_comm]
theorem Yj(p:Pm)(extra:Int)(l:au)(a:j9 l<=64):dO (co p extra l):=⟨by have:=rn l l.length;simp[co];omega,by simp[co],by simp[co]⟩
end Go.Vc
namespace Go.Qw
open Go Go.Vc Go.Proofs Wl
section
variable {B:aB} {h0 h:hZ} {As:List HP} {pw:hU} {w:Pow}
theorem Vw(p:Pm)(extra:Int)(s:Sl)(l:au)(hS:St B h0 As λh=>Rd h s 1 aq l)(hl:j9 l<=2^20)(H:aa B h0 h (eE 92 pw w::As)):
  ab xm 8 #[lN p,xb xi extra,xd (dB pw),s] h λv h'=>
   ((fX p extra w l).1≠0->v=.tuple #[xd eH,xb xi (fX p extra w l).1]/\aa B h0 h' As)/\
   ((fX p extra w l).1=0->∃(a:hU) (x:cw) (da:List aQ),v=.tuple #[xd (dB a),xb xi 0]/\aa B h0 h' (bJ cm a pw (bn x) w.offs da (fX p extra w l).2.1 (fX p extra w l).2.2::dC x (co p extra l)::As)):=by
 refine KB p extra (dB pw) s ?_;unfold CO;refine H.boxed λa1 h1 H1=>?_;have H1:=H1.bu;refine(nW s l h1 (hS.at [_,_] H1) hl).mono ?_;rintro _ h2 ⟨r,rfl,R2⟩;have H2:=H1.ck R2;refine⟨(r,(fb l).2),k0,?_⟩;have j:∀{h':hZ},aa B h0 h' As->((fb l).2&&(bH p&&fp extra 0 16))=eS->
   ((fX p extra w l).1≠0->Value.tuple #[xd eH,xb xi 1]=.tuple #[xd eH,xb xi (fX p extra w l).1]/\aa B h0 h' As)/\
   ((fX p extra w l).1=0->∃(a:hU) (x:cw) (da:List aQ),Value.tuple #[xd eH,xb xi 1]=.tuple #[xd (dB a),xb xi 0]/\aa B h0 h' (bJ cm a pw (bn x) w.offs da (fX p extra w l).2.1 (fX p extra w l).2.2::dC x (co p extra l)::As)):=λ{h'} H' hc=>by
  have e:fX p extra w l=(1,w,[]):=by unfold fX;rw[hc];rfl
  rw[e];exact⟨λ_=>⟨k0,H'⟩,λh=>absurd h (show¬(1:Int)=0 by decide)⟩
 refine bi (bj (λe=>j H2.rest.rest.rest A3) λe=>?_);have ep:(fb l).2=eR:=n3
 obtain⟨a0,A,K⟩:=Yi ep;refine⟨p,(H2.box 1 k0).aS _ k0,(fa p h2).mono ?_⟩;rintro _ h3 ⟨rfl,R3⟩;have D:aa B h0 h3 (al 3 r 1 aq (fb l).1::ao a1 24 [xb xi p.1,xb xi p.2.1,xb xi p.2.2]::eE 92 pw w::As):=by have:=H2.comp R3;rw[qL]at this;exact this
 refine⟨_,k0,bj (λe2=>j D.rest.rest.rest (by rw[e2];simp)) λe2=>?_⟩;have em:bH p=eR:=pb
 refine ai (λe3=>j D.rest.rest.rest p7) λe3=>ai (λe4=>j D.rest.rest.rest p7) λe4=>bQ (λe5=>by cases e5) λ_=>?_;rw[a0]at D;refine bi ⟨p,(D.box 1 k0).aS _ k0,?_⟩;obtain⟨lw,bd,ap⟩:=(D.bc 3 [2,1,0]).Dn;refine(PD lw (ap.box 0 k0)).mono ?_;rintro _ h4 ⟨rfl,rfl⟩;have I:=D.box 1 k0;refine⟨_,k0,⟨I.cell0 k0,I.cell k0,I.cell k0,trivial⟩,?_⟩;obtain⟨m,M⟩:∃m,m=co p extra l:=⟨_,rfl⟩
 refine⟨_,aaA (1,0,p.1,p.2.1,p.2.2,extra,r,⟨eH,0,0⟩) pw w.offs,?_⟩;refine D.boxed λa9 h6 g=>?_;obtain⟨x,hx⟩:∃x:cw,x=(1,0,p.1,p.2.1,p.2.2,extra,r,⟨eH,0,0⟩):=⟨_,rfl⟩
 rw[<-hx]at g;have F:(Value.agg (eJ (bn x) pw w.offs (qg 64 eH)).toArray).cells.toList=eJ (bn x) pw w.offs (qg 64 eH):=nq
 rw[F]at g;have g:=g.bu;have G:=g.box 2 k0;refine⟨⟨G.cell0 k0,G.cell k0,G.cell k0,trivial⟩,?_⟩;have g:aa B h0 h6 (ao a9 84 (eJ (bn x) pw w.offs (qg 64 eH))::eE 92 pw w::al 3 r 1 aq (bm l l.length)::As):=g.bc 4 [0,3,1];have g:=aa.aaz (k:=cm) (h8:=by simp) g;obtain⟨P,o⟩:∃P,P=bm l l.length:=⟨_,rfl⟩
 rw[<-o]at g;have hz:dO m:=M▸Yj p extra l A;have a3:j9 P<=64:=by rw[o];exact zf (rn _ _) A
 have R:∀{h':hZ} {Bs:List HP} {X:HP},aa B h0 h' (X::al 3 r 1 aq P::Bs)->dV h' x m:=λ{h' Bs X} H'=>by
  have hs:=H'.seq 1 k0 λ_=>rfl;have hc:=(H'.own 1 k0).cap;subst hx;subst M;exact⟨k0,k0,k0,k0,by show Seq _ _ r 1 aq (bm l l.length);rw[<-o];exact hs,bF.nil _ _ _ _,hc,ql _⟩
 have T:((fb l).2&&(bH p&&fp extra 0 16))=eR:=by rw[ep,em];unfold fp;simp;omega
 have Y:(P.any λi=>decide (l.getD i.toNat 0<(j9 (bs m):Int)))=eR->fX p extra w l=(7,w,[]):=λhh=>by
  unfold fX;rw[j1 T,<-o,<-M,j1 hh]
 have ah:(P.any λi=>decide (l.getD i.toNat 0<(j9 (bs m):Int)))=eS->fX p extra w l=layAll (cg m P) w (iv l P.length):=λhh=>by
  unfold fX;rw[j1 T,<-o,<-M,hh,j3 k6]
 have L:∀i (N:i<j9 P),∃n:Nat,n<j9 l/\P[i]=(n:Int)/\0<l.getD n 0:=by subst o;exactλi N=>Vn l l.length i N
 refine aw (λi:Nat=>(i:Int)) (λi h'=>i<=j9 P/\((P.take i).any λi=>decide (l.getD i.toNat 0<(j9 (bs m):Int)))=eS/\aa B h0 h' (bJ cm a9 pw (bn x) w.offs (qg 64 eH) w (qg 64 eH)::al 3 r 1 aq P::As)) (λi=>j9 P-i) 0 k0 ⟨k4,k9,g⟩ ?_;rintro i h7 ⟨N,f,z⟩;dsimp only at*;obtain⟨br,ar⟩:=aa.dP z;have b0:r.len=j9 P:=(z.own 1 k0).len;refine ai (λe5=>?_) (λe5=>?_)
 ·have c:i<j9 P:=k4
  obtain⟨n,O,E,U⟩:=L i c;refine(z.seq 1 k0 λ_=>rfl).bC i k0 c (n:Int) (by rw[E];rfl) ?_;refine(hS.at [_,_] z).Rn n k0 O (l.getD n 0) (by rw[getD_lt O];rfl) λb1 am=>?_;refine⟨a9,k0,x,ar.aS _ m7,(wd x m h7 (R z) hz).mono ?_⟩;rintro _ h9 ⟨u,rfl,R9⟩;have H9:=z.ck R9;have b2:=(aa.DO H9).1;refine⟨u,k0,lS R9.aj ⟨am,trivial⟩,?_⟩;refine ai (λe6=>?_) (λe6=>?_)
  ·rw[Y (wc.2 ⟨P[i],qh c,by rw[E,qn];exact j6 k4⟩)];exact⟨λ_=>⟨k0,H9.rest.rest.rest⟩,λh=>absurd h (show¬(7:Int)=0 by decide)⟩
  ·refine⟨i+1,ld,⟨k4,?_,H9.rest⟩,k4⟩;rw[aH _ _ c,yK,f,vm,vX,vZ,Bool.or_false,E,qn];exact j7 k4
 ·have J:i=j9 P:=k4
  subst J;rw[qS]at f;have ax:=ah f;rw[<-Tt l]at z;refine aw (λt:Nat×List aQ=>(t.1:Int)) (λt h'=>t.1<=j9 P/\aa B h0 h' (bJ cm a9 pw (bn x) w.offs t.2 w (iv l t.1)::al 3 r 1 aq P::As)) (λt=>j9 P-t.1) (0,qg 64 eH) k0 ⟨k9,z⟩ ?_;rintro⟨i,da⟩ V ⟨N,d⟩;dsimp only at*;obtain⟨bx,Q⟩:=aa.dP d;refine ai (λe6=>?_) (λe6=>?_)
  ·have c:i<j9 P:=k4
   obtain⟨n,O,E,U⟩:=L i c;have bb:=K n;refine(d.seq 1 k0 λ_=>rfl).bC i k0 c (n:Int) (by rw[E];rfl) ?_;refine(hS.at [_,_] d).bC n k0 O (l.getD n 0) (by rw[getD_lt O];rfl) ?_;refine⟨a9,k0,(XX (l.getD n 0) pw V).mono ?_⟩;rintro _ bq ⟨Q1,_⟩;obtain⟨b,rfl,a6⟩:=Q1 k4;have a5:=(d.ck a6).bc 2 [1,0];refine⟨_,k0,trivial,⟨k4,k4⟩,?_⟩;rw[qn,wU];have W:i<j9 (bm l l.length):=by rw[<-o];exact c
   have ad:(bm l l.length)[i]=(n:Int):=by rw[<-E];simp only[o]
   refine Go.Qw.aa.adD n k4 (TA l i n W ad k4) a5 λb3 a4=>?_;refine⟨trivial,(i+1,da.set n (dB b)),lb,⟨k7,?_⟩,k7⟩;dsimp only;rw[<-Tu l i n W ad k4];exact a4
  ·have J:i=j9 P:=k4
   subst J;refine⟨a9,k0,x,Q.aS _ m7,(JO x m r P V (R d) hz (d.seq 1 k0 λ_=>rfl) k4).mono ?_⟩;rintro _ bk ⟨u,ys,rfl,a7⟩;have a2:=(d.ck a7).bc 2 [1,0];refine⟨u,k0,?_⟩;have S:=lZ m hz;refine(HC u ys (cg m P) (St.fw 0 k0 λ_ hq=>hq) ?_ ?_ a2).mono ?_
   ·rw[Cv];have:=wk a3 S;omega
   ·intro y hy;obtain⟨ay,a8⟩:=mK hy;obtain⟨i,N,e⟩:=qK ay;obtain⟨n,O,E,_⟩:=L i N;rw[<-e,E,a8];exact⟨⟨k4,k4⟩,k6⟩
   rintro _ bl ⟨rfl,Z⟩;rw[ax];refine⟨_,k0,bR (λe7=>⟨λ_=>⟨k0,Z.rest.rest.rest⟩,λh=>absurd h e7⟩) λe7=>⟨λh=>absurd e7 h,λ_=>⟨a9,x,da,k0,?_⟩⟩⟩;rw[<-M];exact Z.sJ.gF 1 k0 λq hq=>by
    subst hx;subst M;exact⟨k0,k0,k0,k0,by show Seq _ _ r 1 aq (bm l l.length);rw[<-o];exact hq.1.seq (λ_=>rfl) hq.2,bF.nil _ _ _ _,hq.1.cap,ql _⟩
end
end Go.Qw
namespace Wl
open Go
def oy(m:aE)(ds:aF)(k n:Int):Bool:=match aW ds k with|some d=>fy m d n|none=>eS
def iy(m:aE)(ds:aF)(l:au)(N:Int->Int):Bool:=l.all λk=>oy m ds k (N k)
def jf(m:aE)(w:Pow)(ds:aF)(k n:Int):Int×Pow×aF:=
 match aW ds k with
 |none=>(5,w,ds)
 |some d=>((fY m w d n).1,(fY m w d n).2.1,bT ds k (fY m w d n).2.2)
def makes(m:aE)(N:Int->Int):au->Pow->aF->Int×Pow×aF
 |[],w,ds=>(0,w,ds)
 |k::l,w,ds=>if(jf m w ds k (N k)).1=0 then makes m N l (jf m w ds k (N k)).2.1 (jf m w ds k (N k)).2.2 else jf m w ds k (N k)
end Wl
namespace Go.Qw
open Go Go.Vc Go.Proofs Wl
theorem aaK(f:FuncId)(pre post:Array Value)(P:Int->Bool)(s:Sl)(l:au)(h:hZ)(p:C.fns[f]?=dB eR)(o:Rd h s 1 aq l)(x:j9 l<=2^30)
  (q:∀k∈l,∀h',Sp h h' []->ab xm f (pre.toList++[Value.int .i64 k]++post.toList).toArray h' λv g=>v=xg (P k)/\Sp h' g []):
  ab xm 116 #[s,.func (.func f) pre post] h λv h'=>v=xg (l.any P)/\Sp h h' []:=by
 refine kp s (f,pre,post) ?_;unfold iE;refine(iQ s (f,pre,post) (R:=λv h'=>(∃i:Int,v=xb xi i/\decide (i>=0)=l.any P)/\Sp h h' []) ?_).mono ?_
 ·unfold gz;have u:=o.len;refine aw (λi:Nat=>(i:Int)) (λi h'=>i<=j9 l/\(l.take i).any P=eS/\Sp h h' []) (λi=>j9 l-i) 0 k0 ⟨k4,k9,Sp.refl h⟩ ?_;rintro i m ⟨n,a,c⟩;refine ai (λd=>?_) (λd=>?_)
  ·have b:i<j9 l:=by have r:(i:Int)<(s.len:Int):=d;omega
   refine(Seq.up o c.aj).bC i k0 b l[i] k0 (fq p ?_);refine(q l[i] (qh b) m c).mono ?_;rintro _ y ⟨rfl,t⟩;have j:=c.up t.aj;refine⟨_,k0,bQ (λe=>⟨⟨i,k0,?_⟩,j⟩) λe=>?_⟩
   ·rw[wc.2 ⟨_,qh b,e⟩];exact j6 k4
   ·refine⟨i+1,ld,⟨k4,?_,j⟩,k4⟩;rw[aH _ _ b,yK,a,vX,vZ,e];rfl
  ·have r:¬(i:Int)<(s.len:Int):=d;rw[qi k4]at a;exact⟨⟨-1,k0,by rw[a];rfl⟩,c⟩
 ·rintro _ m ⟨⟨i,rfl,n⟩,w⟩;exact⟨i,k0,by rw[n],w⟩
section
variable {B:aB} {h0 h:hZ} {As:List HP} {a pw:hU} {offs:Int} {da:List aQ} {w:Pow} {ds:aF}
def Yk(f:FuncId)(pre post:Array Value)(N:Int->Int)(l:au)(h:hZ):Prop:=∀k∈l,ab xm f (pre.toList++[Value.int .i64 k]++post.toList).toArray h λv h'=>v=xb xi (N k)/\Sp h h' []
theorem Yl(f:FuncId)(pre post:Array Value)(N:Int->Int)(x:cw)(m:aE)(s:Sl)(l:au)(W:C.fns[f]?=dB eR)(M:St B h0 As λh=>dV h x m/\Yk f pre post N l h)(hz:dO m)(hs:Rd h s 1 aq l)(hl:j9 l<=2^30)(y:∀k∈l,0<=k/\k<64)(H:aa B h0 h (bJ cm a pw (bn x) offs da w ds::As)):
  ab xm 52 #[xd (dB a),s,.func (.func f) pre post] h λv h'=>v=xg (iy m ds l N)/\Sp h h' []:=by
 refine Ej (dB a) s (f,pre,post) ?_;unfold tu;refine(Sp.refl h).boxed λq h1 R1=>R1.boxed λP F r=>?_;have V:aa B h0 F (bJ cm a pw (bn x) offs da w ds::As):=H.up r.aj;have g:cA F q 27 [xd (dB a)]:=r.box 0 k0;have Q:=r.box 1 k0;refine(aaK 117 #[] #[xd (dB q),xd (dB P)] (λk=>!oy m ds k (N k)) s l F m7 (hs.up r.aj) hl ?_).mono ?_
 ·intro k S h3 i;have I:=V.up i.aj;have O:=(g.aj i.aj g.lt).cell0 k0;have Y:=(Q.aj i.aj Q.lt).cell0 k0;obtain⟨ok,u⟩:=aa.dP I;have U:=y k S;refine Ch k q P ?_;unfold pX;obtain⟨n,rfl⟩:∃n:Nat,k=n:=⟨k.toNat,k4⟩
  have z:n<j9 da:=by rw[ok.la];omega
  have cd:cellOf h3 ((a.add 10).add ((n:Int).toNat*1))=dB (.pointer da[n]):=by rw[qn,wU];refine u.BG 10 n ?_;rw[BI ok.l8,qd z];rfl
  obtain⟨ad,J⟩:=M.at [_] I;refine⟨dB a,O,a,k0,⟨k4,k4⟩,da[n],cd,dB a,O,a,k0,x,u.aS _ k0,(f,pre,post),Y,fq W ?_⟩;refine(J n S).mono ?_;rintro _ K ⟨rfl,t⟩;have T:=I.up t.aj;have p:=((g.aj i.aj g.lt).aj t.aj (g.aj i.aj g.lt).lt).cell0 k0;have c:=u.aj t.aj u.lt;have D:cellOf K ((a.add 10).add ((n:Int).toNat*1))=dB (.pointer da[n]):=by rw[qn,wU];refine c.BG 10 n ?_;rw[BI ok.l8,qd z];rfl
  refine⟨_,k0,⟨c.cell0 k0,c.cell k0,c.cell k0,c.cell k0,c.cell k0,c.cell k0,c.cell k0,c.cell k0,p,D,p,trivial⟩,?_⟩;have L:kd da (n:Int)=da[n]:=by unfold kd;rw[j1 k4,qn,qd z];rfl
  rw[<-L];have fin:∀{A:Bool} {o:hZ},A=oy m ds n (N n)->Sp K o []->av.ok [(q,xd (dB a)),(q,xd (dB a))] o/\(Value.bool (!A)=xg (!oy m ds n (N n))/\Sp h3 o []):=λ{A o} he j=>by
   have R:=(g.aj i.aj g.lt).aj t.aj (g.aj i.aj g.lt).lt;have:=(R.aj j.aj R.lt).cell0 k0;exact⟨⟨this,this,trivial⟩,by rw[he],.zip (aa.up t j.aj).aj⟩
  rcases oP ok (n:Int)with⟨e1,e2⟩|⟨n',d,b,e0,e1,e2,e3,e4,e5⟩
  ·rw[e2];refine(Tz x _ K).mono ?_;rintro _ o ⟨rfl,j⟩;exact⟨_,k0,fin (by unfold oy;rw[e1]) j⟩
  ·rw[e5];obtain⟨b',e,H5⟩:=Go.Vc.aa.kP T e2;rw[e4]at e;injection e with e
   injection e with e
   subst e;obtain⟨E,Z,X,G⟩:=aa.vE H5;refine(HL Z X x m (N n) (G.box 0 k0) ((G.bc 2 [1]).Gj λ_=>rfl) (aa.DO (G.bc 2 [1])).1 E (M.at [_] T).1 hz).mono ?_;rintro _ o ⟨rfl,j⟩;exact⟨_,k0,fin (by unfold oy;rw[e3]) j⟩
 ·rintro _ h3 ⟨rfl,i⟩;refine⟨_,k0,?_,.zip (aa.up r i.aj).aj⟩;unfold iy;rw[List.not_any_eq_all_not];simp
theorem TB(x:cw)(n:Int)(h:hZ):ab xm 119 #[xd eH,ge x,xb xi n] h λv h'=>v=xb xi 5/\Sp h h' []:=by refine Fk eH x n ?_;unfold Cj;refine(Sp.refl h).boxed λb c a=>?_;exact bi (bi (bQ (λ_=>bQ (λ_=>⟨k0,.zip a.aj⟩) λe=>ln) λe=>ln))
theorem Ym(m:aE)(N:Int->Int)(l:au)(w:Pow)(ds:aF)(i:Nat)(a:i<j9 l):makes m N (l.drop i) w ds=if(jf m w ds l[i] (N l[i])).1=0 then makes m N (l.drop (i+1)) (jf m w ds l[i] (N l[i])).2.1 (jf m w ds l[i] (N l[i])).2.2 else jf m w ds l[i] (N l[i]):=by rw[qP a];rfl
theorem Yn(f:FuncId)(pre post:Array Value)(N:Int->Int)(x:cw)(m:aE)(s:Sl)(l:au)(U:C.fns[f]?=dB eR)(J:St B h0 As λh=>dV h x m/\Yk f pre post N l h/\Rd h s 1 aq l)(hz:dO m)(hl:j9 l<=2^30)(G:∀k∈l,0<=k/\k<64)(H:aa B h0 h (bJ cm a pw (bn x) offs da w ds::As)):
  ab xm 53 #[xd (dB a),s,.func (.func f) pre post] h λv h'=>v=xb xi (makes m N l w ds).1/\aa B h0 h' (bJ cm a pw (bn x) offs da (makes m N l w ds).2.1 (makes m N l w ds).2.2::As):=by
 refine CT (dB a) s (f,pre,post) ?_;unfold rR;have ad:=(J.at [_] H).2.2.len;obtain⟨Z,S⟩:∃Z,Z=makes m N l w ds:=⟨_,rfl⟩
 rw[<-S];refine aw (λt:Nat×Pow×aF=>(t.1:Int)) (λt h'=>t.1<=j9 l/\Z=makes m N (l.drop t.1) t.2.1 t.2.2/\aa B h0 h' (bJ cm a pw (bn x) offs da t.2.1 t.2.2::As)) (λt=>j9 l-t.1) (0,w,ds) k0 ⟨k9,S,H⟩ ?_;rintro⟨i,E,y⟩ h1 ⟨hi,q,F⟩;dsimp only at*;refine ai (λe=>?_) λe=>?_
 ·have p:i<j9 l:=k4
  rw[Ym _ _ _ _ _ _ p]at q;obtain⟨ah,L,I⟩:=J.at [_] F;refine I.bC i k0 p l[i] k0 (bi ?_);have D:=G l[i] (qh p);obtain⟨k,M⟩:∃k,k=l[i]:=⟨_,rfl⟩
  have K:k∈l:=by rw[M];exact qh p
  rw[<-M]at q D;rw[<-M];obtain⟨n,rfl⟩:∃n:Nat,k=n:=⟨k.toNat,k4⟩
  obtain⟨ok,z⟩:=aa.dP F;have P:n<j9 da:=by rw[ok.la];omega
  have T:∀{h':hZ},cA h' a 84 (eJ (bn x) pw offs da)->cellOf h' ((a.add 10).add ((n:Int).toNat*1))=dB (.pointer da[n]):=λ{h'} z=>by
   rw[qn,wU];refine z.BG 10 n ?_;rw[BI ok.l8,qd P];rfl
  refine⟨a,k0,⟨k4,k4⟩,da[n],T z,a,k0,x,z.aS _ k0,fq U ?_⟩;refine(L n K).mono ?_;rintro _ Y ⟨rfl,R⟩;have Q:=F.up R.aj;have g:=z.aj R.aj z.lt;refine⟨_,k0,⟨g.cell0 k0,g.cell k0,g.cell k0,g.cell k0,g.cell k0,g.cell k0,g.cell k0,g.cell k0,T g,trivial⟩,?_⟩;have O:kd da (n:Int)=da[n]:=by unfold kd;rw[j1 k4,qn,qd P];rfl
  rw[<-O];obtain⟨c,o⟩:∃c,c=jf m E y n (N n):=⟨_,rfl⟩
  rw[<-o]at q;have fin:∀{h3:hZ},aa B h0 h3 (bJ cm a pw (bn x) offs da c.2.1 c.2.2::As)->av.ok [] h3/\Br (c.1 !=(0:Int)) (Value.int .i64 c.1=xb xi Z.1/\aa B h0 h3 (bJ cm a pw (bn x) offs da Z.2.1 Z.2.2::As))
    (∃r:Nat×Pow×aF,qc xi ((i:Int)+1)=(r.1:Int)/\(r.1<=j9 l/\Z=makes m N (l.drop r.1) r.2.1 r.2.2/\aa B h0 h3 (bJ cm a pw (bn x) offs da r.2.1 r.2.2::As))/\l.length-r.1<j9 l-i):=λ{h3} H3=>by
   refine⟨trivial,bR (λu=>?_) λu=>?_⟩
   ·rw[j3 u]at q;rw[q];exact⟨k0,H3⟩
   ·rw[j1 u]at q;exact⟨(i+1,c.2.1,c.2.2),lb,⟨k7,q,H3⟩,k7⟩
  rcases oP ok (n:Int)with⟨e1,u⟩|⟨n',d,b,e0,e1,u,e3,e4,e5⟩
  ·rw[u];have A:c=(5,E,y):=by rw[o];unfold jf;rw[e1]
   refine(TB x _ Y).mono ?_;rintro _ h3 ⟨rfl,R3⟩;exact⟨c.1,by rw[A],fin (h3:=h3) (by rw[A];exact Q.up R3.aj)⟩
  ·rw[e5];have V:n=n':=k4
   subst V;obtain⟨b',j,W⟩:=Go.Vc.aa.kP Q u;rw[e4]at j;injection j with j
   injection j with j
   subst j;have A:c=((fY m E d (N n)).1,(fY m E d (N n)).2.1,y.set n (dB (fY m E d (N n)).2.2)):=by rw[o];unfold jf;rw[e3];simp only[bT,qn]
   refine(PM x m (N n) (λBs h' X=>(J (Bs++[_]) h' (by rw[qt];exact X)).1) hz W).mono ?_;rintro _ h3 ⟨rfl,H6⟩;have H7:=Go.Vc.aa.Ao (k:=cm) (n:=n) e4 H6;exact⟨c.1,by rw[A],fin (h3:=h3) (by rw[A];exact H7)⟩
 ·rw[zi k4]at q;rw[q];exact⟨k0,F⟩
end
def adE(a b:eF):Int:=if ft a.1 b.1 then-1 else if jY a.1 b.1 then 0 else 1
def jQ(a b:eF):Bool:=jY a.1 b.1
theorem TC(a b:eF):adE a b<0↔¬jQ b a=eR:=by unfold adE jQ jY;cases h:ft a.1 b.1<;>simp;split<;>omega
theorem HM:Ord jQ:=⟨λa b c=>Gs a.1 b.1 c.1,λa b=>Gt a.1 b.1⟩
abbrev TD(x:eF):Value:=xh #[xf x.1,xb xi x.2.1,xb xi x.2.2.1,x.2.2.2]
theorem QU(x y:ByteArray)(h:hZ):ab xm 115 #[xf x,xf y] h λv h'=>v=xb xi (if ft x y then-1 else if jY x y then 0 else 1)/\h'=h:=by
 refine Cg x y ?_;unfold pW;have a:∀z:ByteArray,ab xm 188 #[xf z] h λv h'=>v=xg eS/\h'=h:=λz=>by
  refine Er z ?_;unfold tJ;exact⟨k9,k0⟩
 refine(a x).mono ?_;rintro _ _ ⟨rfl,rfl⟩;refine⟨_,k0,(a y).mono ?_⟩;rintro _ _ ⟨rfl,rfl⟩;refine⟨_,k0,bQ (λe=>ln) λ_=>bQ (λe=>ln) λ_=>?_⟩;have d:Op.bytesLess x.toList y.toList=ft x y:=rfl;rw[Rp,d];have c:(!Op.bytesLess y.toList x.toList)=jY x y:=rfl;rw[c];refine bQ (λe=>⟨A3,k0⟩) λe=>bj (λb=>⟨by rw[e,b];rfl,k0⟩) λb=>⟨by rw[e,b];rfl,k0⟩
theorem Yo(a b:eF)(h:hZ):ab xm 114 #[TD a,TD b] h λv h'=>v=xb xi (adE a b)/\Sp h h' []:=by refine KE a b ?_;unfold CW;refine(Sp.refl h).boxed λe i g=>g.boxed λf d c=>?_;have c:Sp h d [ao e 94 (bN a),ao f 94 (bN b)]:=c;refine⟨a.1,(c.box 0 k0).cell0 k0,b.1,(c.box 1 k0).cell0 k0,(QU a.1 b.1 d).mono ?_⟩;rintro _ _ ⟨rfl,rfl⟩;exact⟨_,k0,k0,.zip c.aj⟩
abbrev uu(s:Sl)(d:List eF):HP:=al 94 s 4 bN d
section
variable {B:aB} {h0 h h':hZ} {As:List HP} {s:Sl} {d:List eF}
theorem Vx{b c:List eF}{y:eF}(d:Sd jQ (b++c))(g:∀z∈b,jQ z y=eR)(f:∀z∈c,¬jQ z y=eR):Sd jQ (b++y::c):=
 Sd.app HM d.left (zD.2 ⟨λz a=>HM.Gp (f z a),d.right⟩) λx e z a=>by
  rcases qV.1 a with rfl|a
  ·exact g x e
  ·exact d.IF x e z a
theorem MU(X M Y:List eF)(a b:Int)(ha:a=(j9 X:Int))(hb:b=(j9 X+j9 M:Nat))(am:j9 X+j9 M+j9 Y<=2^40)(H:aa B h0 h (uu s (X++(M++Y))::As)):
  ab xm 234 #[s,xb xi a,xb xi b,.func (.func 114) #[] #[]] h λv h'=>v=.tuple #[]/\∃V,Sd jQ V/\cH jQ M V/\aa B h0 h' (uu s (X++(V++Y))::As):=by
 refine lR s a b (114,#[],#[]) ?_;unfold iB;subst ha;subst hb;rw[ag ((j9 X:Int)+1)];refine aw (λt:Nat×List eF=>((j9 X+1+t.1:Nat):Int)) (λt h'=>(t.1+1<=j9 M∨t.1=0)/\Sd jQ t.2/\cH jQ (M.take (t.1+1)) t.2/\t.2.length=j9 (M.take (t.1+1))/\aa B h0 h' (uu s (X++(t.2++(M.drop (t.1+1)++Y)))::As)) (λt=>j9 M-t.1) (0,M.take 1) k0 ?_ ?_
 ·refine⟨.inr k0,?_,cH.refl _,k0,?_⟩
  ·cases M with
   |nil=>exact List.Pairwise.nil
   |cons x M=>exact zD.2 ⟨λ_ h=>o5,k9⟩
  ·rw[<-qt (M.take (0+1)),List.take_append_drop];exact H
 rintro⟨t,P⟩ h1 ⟨ht,E,p,ad,T⟩;dsimp only at*;refine ai (λe=>?_) (λe=>?_)
 ·have J:t+1<j9 M:=k4
  obtain⟨y,hy⟩:∃y,y=M[t+1]:=⟨_,rfl⟩
  have G:j9 P=t+1:=by rw[ad];simp;omega
  have eD:M.drop (t+1)=y::M.drop (t+1+1):=by rw[qP J,hy]
  rw[eD]at T;refine aw (λu:List eF×List eF=>((j9 X+j9 u.1:Nat):Int)) (λu h'=>u.1++u.2=P/\(∀z∈u.2,¬jQ z y=eR)/\aa B h0 h' (uu s (X++(u.1++(y::(u.2++(M.drop (t+1+1)++Y)))))::As)) (λu=>j9 u.1) (P,[]) (by dsimp only;rw[G];congr 1;omega) ⟨k9,k9,by simpa using T⟩ ?_;rintro⟨c,d⟩ Z ⟨L,f,I⟩;dsimp only at*;have ap:j9 c+j9 d=t+1:=by rw[<-G,<-L,qy]
  have l:∀{h':hZ},(∀z∈c,jQ z y=eR)->aa B h0 h' (uu s (X++(c++(y::(d++(M.drop (t+1+1)++Y)))))::As)->
    ∃k:Nat×List eF,qc xi (((j9 X+1+t:Nat):Int)+1)=((j9 X+1+k.1:Nat):Int)/\((k.1+1<=j9 M∨k.1=0)/\Sd jQ k.2/\cH jQ (M.take (k.1+1)) k.2/\k.2.length=j9 (M.take (k.1+1))/\aa B h0 h' (uu s (X++(k.2++(M.drop (k.1+1)++Y)))::As))/\M.length-k.1<j9 M-t:=λ{h'} hle H'=>by
   refine⟨(t+1,c++y::d),by dsimp only;rw[ag _];omega,⟨.inl k7,?_,?_,?_,?_⟩,k7⟩
   ·exact Vx u7 hle f
   ·dsimp only;rw[aH M (t+1) J,<-hy];have h1:cH jQ (M.take (t+1)++[y]) (P++[y]):=p.app (cH.refl _);refine h1.trans ?_;rw[<-L,qt];have Z:cH jQ (d++[y]) ([y]++d):=cH.ZF HM λx hx z U=>by rw[qB.1 U];exact f x hx
    exact(cH.refl _).app Z
   ·dsimp only;simp;omega
   ·dsimp only;have:X++((c++y::d)++(M.drop (t+1+1)++Y))=X++(c++(y::(d++(M.drop (t+1+1)++Y)))):=k9
    rw[this];exact H'
  obtain⟨D,S⟩:∃D,D=X++(c++(y::(d++(M.drop (t+1+1)++Y)))):=⟨_,rfl⟩
  refine bO (λ_ h'=>∃(Q:List eF) (z:eF),c=Q++[z]/\¬jQ z y=eR/\aa B h0 h' (uu s D::As)) ?_ ?_
  ·rw[<-S]at I l;refine ai (λO=>?_) (λO=>⟨trivial,l (λz U=>?_) I⟩)
   ·have K:c≠[]:=λh=>by rw[h]at O;simp at O
    obtain⟨Q,z,n⟩:∃(Q:List eF) (z:eF),c=Q++[z]:=⟨c.dropLast,c.getLast K,(List.dropLast_concat_getLast K).symm⟩
    have ah:j9 c=j9 Q+1:=by rw[n];simp
    have g1:D[j9 X+j9 c]?=dB y:=by rw[S,qj k4,show X.length+j9 c-j9 X=j9 c by omega,qj k4,zc];rfl
    have g2:D[j9 X+j9 c-1]?=dB z:=by rw[S,qj k4,show X.length+j9 c-1-j9 X=j9 Q by omega,n,qt,qj (ql _),zc];rfl
    obtain⟨R,q⟩:=qm.1 g1;obtain⟨N,r⟩:=qm.1 g2;refine(I.seq 0 k0 λ_=>rfl).ey (g:=bN) _ k0 R y (by rw[q]) ?_;have W:qc xi (((j9 X+j9 c:Nat):Int)-1)=((j9 X+j9 c-1:Nat):Int):=l5
    rw[W];refine(I.seq 0 k0 λ_=>rfl).ey (g:=bN) _ k0 N z tp (fq m7 ?_);refine(Yo y z Z).mono ?_;rintro _ h3 ⟨rfl,R3⟩;have F:=I.up R3.aj;refine⟨_,k0,trivial,ai (λe3=>⟨Q,z,n,(TC y z).1 e3,F⟩) λe3=>l (λw m=>?_) F⟩;have o:jQ z y=eR:=by
     by_cases hc:jQ z y=eR
     ·exact hc
     ·exact absurd ((TC y z).2 hc) e3
    rw[n]at m;rcases qA.1 m with m|m
    ·refine HM.trans _ _ _ ?_ o;have:Sd jQ (Q++[z]):=by rw[<-n];exact Sd.left (v:=d) u7
     exact this.IF w m z k9
    ·rw[qB.1 m];exact o
   ·have:c=[]:=by
     cases c with
     |nil=>rfl
     |cons x P=>exfalso;simp only[zm]at O;omega
    rw[this]at U;cases U
  ·rintro _ h3 ⟨Q,z,n,o,F⟩;have ah:j9 c=j9 Q+1:=by rw[n];simp
   have A:D=(X++Q)++z::([]++y::(d++(M.drop (t+1+1)++Y))):=by rw[S,n];simp
   obtain⟨q1,q2,q3,q4⟩:=Tl (X++Q) [] (d++(M.drop (t+1+1)++Y)) z y (i:=j9 X+j9 c-1) (j:=j9 X+j9 c) k8 k8;rw[<-A]at q1 q2 q3 q4;obtain⟨N,r⟩:=qm.1 q1;obtain⟨R,q⟩:=qm.1 q2;have W:qc xi (((j9 X+j9 c:Nat):Int)-1)=((j9 X+j9 c-1:Nat):Int):=l5
   rw[W];refine(F.seq 0 k0 λ_=>rfl).ey (g:=bN) _ k0 N z tp ?_;refine(F.seq 0 k0 λ_=>rfl).ey (g:=bN) _ k0 R y (by rw[q]) ?_;refine F.set ac 0 k0 (λ_=>rfl) k0 (j9 X+j9 c) k0 R z k0 k0 k0 λh4 H4=>⟨trivial,?_⟩
   refine H4.set ac 0 k0 (λ_=>rfl) k0 (j9 X+j9 c-1) k0 (by simpa using N) y k0 k0 k0 λh5 H5=>⟨trivial,?_⟩
   refine⟨(Q,z::d),by dsimp only;congr 1;omega,⟨by dsimp only;rw[<-L,n];simp,?_,?_⟩,k7⟩
   ·dsimp only;intro w m;rcases qV.1 m with rfl|m
    ·exact o
    ·exact f w m
   ·dsimp only;have:X++(Q++(y::(z::d++(M.drop (t+1+1)++Y))))=(X++Q)++y::([]++z::(d++(M.drop (t+1+1)++Y))):=k9
    rw[this,<-q4];exact H5
 ·refine⟨k0,P,E,?_,?_⟩
  ·rw[qi k4]at p;exact p
  ·rw[zi k4]at T;simpa using T
theorem TE(r:Nat)(h:hZ)(b:r<=2^32):ab xm 187 #[xb xl r] h λv h'=>(∃k:Int,v=xb xi k)/\h'=h:=by intro w a;refine(Tryz.bits_Len (r:Int) w k4 k4).mono ?_;rintro e c ⟨rfl,rfl⟩;exact⟨_,k0,dl.refl _,⟨_,k0⟩,a⟩
theorem Yp(d:List eF)(m:j9 d<=12)(H:aa B h0 h (uu s d::As)):
  ab xm 113 #[s,.func (.func 114) #[] #[]] h λv h'=>v=.tuple #[]/\aa B h0 h' (uu s (d.mergeSort jQ)::As):=by
 refine mD s (114,#[],#[]) ?_;unfold iU;have c:=(H.own 0 k0).len;have a:∀k:Int,ab xm 186 #[s,xb xi 0,xb xi (s.len:Nat),xb xi k,.func (.func 114) #[] #[]] h λv h'=>v=.tuple #[]/\aa B h0 h' (uu s (d.mergeSort jQ)::As):=λk=>by
  refine nG s 0 (s.len:Nat) k (114,#[],#[]) ?_;unfold jN;refine aw (λ_:Unit=>((0:Int),((s.len:Nat):Int),k,eR,eR)) (λ_ h'=>h'=h) (λ_=>0) () k0 k0 ?_;rintro _ i rfl;refine ai (λ_=>?_) λe=>absurd (show qc xi (((s.len:Nat):Int)-0)<=12 by rw[ag _];omega) e;refine(MU [] d [] 0 (s.len:Nat) k0 oj k8 n4).mono ?_;rintro _ g ⟨rfl,M,l,f,b⟩;refine⟨(),k0,k0,?_⟩;rw[<-aeL HM l f];simpa using b
 have j:qc xl ((s.len:Nat):Int)=((s.len:Nat):Int):=by unfold qc;simp[qk,yV];omega
 rw[j];refine(TE s.len h k4).mono ?_;rintro _ i ⟨⟨k,rfl⟩,rfl⟩;refine⟨k,k0,(a k).mono ?_⟩;rintro _ g ⟨rfl,b⟩;exact⟨(),k0,k0,b⟩
end
section
variable {B:aB} {h0 h:hZ} {As:List HP}
def Dv:cw:=(0,0,0,0,0,0,⟨eH,0,0⟩,⟨eH,0,0⟩)
theorem Vy{m:aE}{e:Wl.bK}{xe:eF}{L:List (eF×Wl.bK)}{pool:List (Sl×au)}(l:L.map zH=m.aG)(h:∀p∈L,IT pool p)(i:IT pool (xe,e)):
  ∃g:List (eF×Wl.bK),g.map qM=(L.map qM++[xe]).mergeSort jQ/\g.map zH=(m.aG++[e]).mergeSort sO/\∀p∈g,IT pool p:=by
 have c:∀p∈L++[(xe,e)],IT pool p:=λp d=>by
  rcases qA.1 d with d|d
  ·exact h p d
  ·rw[qB.1 d];exact i
 refine⟨(L++[(xe,e)]).mergeSort λa b=>jQ a.1 b.1,?_,?_,λp d=>c p ((ye _ _).mem_iff.1 d)⟩
 ·rw[vy (r:=λa b=>jQ a.1 b.1) (s:=jQ) (f:=qM) λa _ b _=>rfl,qW];rfl
 ·rw[vy (r:=λa b=>jQ a.1 b.1) (s:=sO) (f:=zH) (λa j b k=>by unfold jQ sO;rw[(c a j).1.1,(c b k).1.1]),qW,l];rfl
theorem aaL(x:cw)(m:aE)(xe:eF)(e:Wl.bK)(O:dV h x m)(T:dO m)(hs:0<=m.seq/\m.seq<=2^40)(Y:0<=m.next/\m.next<=2^40)(ho:m.aG.length<=11)(P:xe.1=e.name/\xe.2.1=e.object/\xe.2.2.1=e.length)(H:aa B h0 h (uh xe.2.2.2 1 aq e.tries::As)):
  ab xm 50 #[ge x,TD xe] h λv h'=>∃y:cw,v=ge y/\aa B h0 h' (dC y (dw m e)::As):=by
 refine Oc x xe ?_;unfold GN;refine(Sp.refl h).boxed λN h1 Q=>Q.boxed λg h2 I=>I.alloc ac k0 λa3 h3 k=>?_;have k:Sp h h3 [ao N 44 (bn x),ao g 94 (bN xe),ao a3 44 (bn Dv)]:=k;refine⟨x,(k.box 0 k0).aS _ k0,(Do x m h3 (O.up k.aj) T).mono ?_⟩;rintro _ h4 ⟨y,L,pool,rfl,q,A,E,W⟩;have U:=((k.cD [1,2]).comp W).front;refine⟨y,k0,U.alloc ac k0 λi h5 w=>?_⟩;have w:=w.bu;refine w.storeAll ac 0 k0 k0 (bn y) k0 k0 k0 k0 λJ r=>?_;have r:Sp h J [ao i 44 (bn y),go 1 aq pool,al 3 y.2.2.2.2.2.2.1 1 aq m.drives,al 94 y.2.2.2.2.2.2.2 4 bN (L.map qM),ao g 94 (bN xe),ao a3 44 (bn Dv)]:=r;refine⟨y.1,(r.box 0 k0).cell0 k0,?_⟩;have G:qc xi (y.1+1)=m.seq+1:=by rw[q.1,ag _]
 have K:qc xi (y.2.1+1)=m.next+1:=by rw[q.2.1,ag _]
 dsimp only;rw[G];refine r.lC ac 0 k0 k0 [xb xi (m.seq+1)] k0 k0 k0 nq λS s=>?_;have s:Sp h S [ao i 44 (xb xi (m.seq+1)::(bn y).drop 1),go 1 aq pool,al 3 y.2.2.2.2.2.2.1 1 aq m.drives,al 94 y.2.2.2.2.2.2.2 4 bN (L.map qM),ao g 94 (bN xe),ao a3 44 (bn Dv)]:=s;refine⟨y.2.1,(s.box 0 k0).cell k0,?_⟩;dsimp only;rw[K];refine s.store ac 0 k0 k0 1 [xb xi (m.next+1)] k0 k0 k0 nq λh8 l=>?_;have l:Sp h h8 [ao i 44 (xb xi (m.seq+1)::xb xi (m.next+1)::(bn y).drop 2),go 1 aq pool,al 3 y.2.2.2.2.2.2.1 1 aq m.drives,al 94 y.2.2.2.2.2.2.2 4 bN (L.map qM),ao g 94 (bN xe),ao a3 44 (bn Dv)]:=l;have V:L.length=m.aG.length:=by rw[<-A,qw]
 refine⟨y.2.2.2.2.2.2.2,(l.box 0 k0).cell k0,xe,(l.box 4 k0).aS _ k0,?_⟩;refine l.push ac 3 k0 adn k0 k6 (λ_=>rfl) WL xe k0 k6 k8 λo X t=>?_;refine t.store ac 0 k0 k0 7 [o] k0 k0 k0 nq λu c=>?_;obtain⟨a,b⟩:∃a:cw,a=(m.seq+1,m.next+1,y.2.2.1,y.2.2.2.1,y.2.2.2.2.1,y.2.2.2.2.2.1,y.2.2.2.2.2.2.1,o):=⟨_,rfl⟩
 have M:a.2.2.2.2.2.2.1=y.2.2.2.2.2.2.1:=by rw[b]
 have R:a.2.2.2.2.2.2.2=o:=by rw[b]
 have c:Sp h u [ao i 44 (bn a),go 1 aq pool,al 3 a.2.2.2.2.2.2.1 1 aq m.drives,al 94 a.2.2.2.2.2.2.2 4 bN (L.map qM++[xe]),ao g 94 (bN xe),ao a3 44 (bn Dv)]:=by rw[M,R,b];exact c
 refine⟨a.2.2.2.2.2.2.2,(c.box 0 k0).cell k0,?_⟩;have c:=c.bc 6 [3,0,1,2,4,5];refine(Yp (L.map qM++[xe]) k8 c).mono ?_;rintro _ z ⟨rfl,f⟩;have f:Sp h z [uu a.2.2.2.2.2.2.2 ((L.map qM++[xe]).mergeSort jQ),ao i 44 (bn a),go 1 aq pool,al 3 a.2.2.2.2.2.2.1 1 aq m.drives,ao g 94 (bN xe),ao a3 44 (bn Dv)]:=f;refine⟨(),k0,a,(f.box 1 k0).aS _ k0,?_⟩;refine f.storeAll ac 5 k0 k0 (bn a) k0 k0 k0 k0 λj d=>?_;have d:Sp h j [uu a.2.2.2.2.2.2.2 ((L.map qM++[xe]).mergeSort jQ),ao i 44 (bn a),go 1 aq pool,al 3 a.2.2.2.2.2.2.1 1 aq m.drives,ao g 94 (bN xe),ao a3 44 (bn a)]:=d;refine⟨a,(d.box 5 k0).aS _ k0,a,k0,?_⟩;obtain⟨Z,l1,l2,F⟩:=Vy (pool:=(xe.2.2.2,e.tries)::pool) (m:=m) (e:=e) (xe:=xe) A (λp D=>⟨(E p D).1,qC _ (E p D).2⟩) ⟨P,qI⟩;have n:=((H.comp (d.cD [2,3,0])).front).bc 4 [0,3,1,2];have n:aa B h0 j (go 1 aq ((xe.2.2.2,e.tries)::pool)::al 3 a.2.2.2.2.2.2.1 1 aq m.drives::al 94 a.2.2.2.2.2.2.2 4 bN ((L.map qM++[xe]).mergeSort jQ)::As):=aa.WN n;rw[<-l1]at n;refine aa.Tk (m:=dw m e) ⟨by rw[b];rfl,by rw[b];rfl,by rw[b];exact q.2.2.1,by rw[b];exact q.2.2.2⟩ l2 F n
end
section
variable {B:aB} {h0 h:hZ} {As:List HP} {a pw:hU} {offs:Int} {da:List aQ} {w:Pow} {ds:aF}
theorem aa.aaM{x y:cw}(H:aa B h0 h (bJ cm a pw (bn x) offs da w ds::As)){K:Unit->hZ->Prop}(d:∀h',aa B h0 h' (bJ cm a pw (bn y) offs da w ds::As)->K () h'):
  af xm (qf 44 (xd (dB a)) (ge y)) h K:=by
 obtain⟨ok,c⟩:=Go.Vc.aa.An H;refine c.lC ac 0 k0 k0 (bn y) k0 k0 k0 k9 λh' b=>d h' ?_;exact aa.BH (k:=cm) ⟨k0,ok.la,ok.ls,ok.same⟩ b
theorem Yq(x z:cw)(b:aE)(s:Sl)(l:au)(i:St B h0 As λh=>dV h z b/\Rd h s 1 aq l)(n:dO b)(t:j9 l<=2^10)(g:∀k∈l,0<=k/\k<64)(H:aa B h0 h (bJ cm a pw (bn x) offs da w ds::As)):
  ab xm 54 #[xd (dB a),ge z,s] h λv h'=>v=xb xi (layAll (cg b l) w ds).1/\
   ((layAll (cg b l) w ds).1≠0->aa B h0 h' (bJ cm a pw (bn x) offs da (layAll (cg b l) w ds).2.1 (layAll (cg b l) w ds).2.2::As))/\
   ((layAll (cg b l) w ds).1=0->∃y,aa B h0 h' (bJ cm a pw (bn y) offs da (layAll (cg b l) w ds).2.1 (layAll (cg b l) w ds).2.2::dC y b::As)):=by
 refine Ek (dB a) z s ?_;unfold tv;refine H.boxed λD I d=>?_;have d:=d.bu;refine⟨z,(d.box 0 k0).aS _ k0,(JO z b s l I (i.at [_,_] d).1 n (i.at [_,_] d).2 t).mono ?_⟩;rintro _ L ⟨r,p,rfl,E⟩;have A:=(d.ck E).bc 3 [2,0,1];have f:=lZ b n;have u:=wk t f;refine⟨r,k0,(HC r p (cg b l) (St.fw 0 k0 λ_ m=>m) (by rw[Cv];omega) (λq m=>?_) A).mono ?_⟩
 ·obtain⟨o,j⟩:=mK m;rw[j];exact⟨g _ o,k6⟩
 rintro _ h3 ⟨rfl,c⟩;obtain⟨R,F⟩:∃R,R=layAll (cg b l) w ds:=⟨_,rfl⟩
 rw[<-F]at c⊢;refine⟨_,k0,bR (λe=>⟨k0,λ_=>c.bc 3 [0],λh=>absurd h e⟩) λe=>?_⟩;have c:aa B h0 h3 (bJ cm a pw (bn x) offs da R.2.1 R.2.2::dg jG 2 piv r p (cg b l)::ao D 44 (bn z)::As):=c;refine⟨z,(c.box 2 k0).aS _ k0,(MJ z b h3 (i.at [_,_,_] c).1 n).mono ?_⟩;rintro _ M ⟨y,rfl,K⟩;have J:=(c.ck K).bc 4 [1,0];refine⟨y,k0,a,k0,aa.aaM J λN G=>?_⟩;exact⟨by rw[e],λh=>absurd e h,λ_=>⟨y,G⟩⟩
def Aw(name:ByteArray)(e:Wl.bK):Bool:=e.name.toList==name.toList
theorem find_spec(x:cw)(m:aE)(name:ByteArray)(q:dV h x m)(s:dO m)(H:aa B h0 h (bJ cm a pw (bn x) offs da w ds::As)):
  ab xm 91 #[xd (dB a),xf name] h λv h'=>(∃i:Int,v=xb xi i/\adv (Aw name) m.aG i)/\Sp h h' []:=by
 refine Em (dB a) name ?_;unfold tE;refine(Sp.refl h).boxed λd n b=>?_;have j:cA n d 9 [xf name]:=b.box 0 k0;obtain⟨ok,o⟩:=aa.dP H;have g:=o.aj b.aj o.lt;have c:=s.ob;refine⟨a,k0,x.2.2.2.2.2.2.2,g.cell k0,?_⟩;refine(JP 153 #[] #[xd (dB d)] (Aw name) x.2.2.2.2.2.2.2 m.aG n m7 (q.up b.aj).aG c ?_).mono ?_
 ·intro u E l e p y;refine Ck u d ?_;unfold pZ;refine(Sp.refl l).boxed λz h3 f=>?_;have k:=(j.aj e.aj j.lt)
  have r:=k.aj f.aj k.lt;refine⟨u.1,(f.box 0 k0).cell0 k0,name,r.cell0 k0,?_,.zip f.aj⟩;unfold Aw;rw[p.1.1]
 ·rintro _ l ⟨⟨i,rfl,t⟩,e⟩;exact⟨i,k0,⟨i,k0,t⟩,.zip (aa.up b e.aj).aj⟩
theorem PN{b:ba}(H:aa B h0 h (bJ cm a pw b offs da w ds::As)):ab xm 55 #[xd (dB a)] h λv h'=>v=xg (gT w offs)/\h'=h:=by refine FH (dB a) ?_;unfold uB;refine bQ (λe=>ln) λ_=>(Ds H).mono ?_;rintro _ _ ⟨rfl,rfl⟩;exact⟨_,k0,k0,k0⟩
def dE(m:aE)(down:Bool)(ds:aF)(name:ByteArray)(n:Nat):Int:=
 if down then 14 else if !mg name then 3 else if m.aG.any (Aw name)then 4
 else if m.p.1*m.p.2.2*8<(n:Int)∨12<=j9 m.aG then 6
 else if be ds m.drives=[]∨16777215<m.next∨2147483647<=m.seq then 7 else 0
theorem TF(x:cw)(m:aE)(name:ByteArray)(s:Sl)(n:Nat)(Y:s.len=n)(E:name.size<=2^40)(N:dV h x m)(K:dO m)(V:bH m.p=eR)(H:aa B h0 h (bJ cm a pw (bn x) offs da w ds::As)):
  ab xm 46 #[xd (dB a),xf name,s] h λv h'=>v=xb xi (dE m (gT w offs) ds name n)/\Sp h h' []:=by
 refine AP (dB a) name s ?_;unfold pc;have T:=(bZ m.p).1 V;refine(PN H).mono ?_;rintro _ A ⟨rfl,rfl⟩;refine⟨_,k0,bQ (λe=>⟨by unfold dE;rw[e];rfl,Sp.refl _⟩) λl=>?_⟩;refine(PG name A E).mono ?_;rintro _ h2 ⟨rfl,o⟩;refine⟨_,k0,bj (λe=>⟨by unfold dE;rw[l,e];rfl,o⟩) λq=>?_⟩;have I:=H.up o.aj;have g:=N.up o.aj;refine(find_spec x m name g K I).mono ?_;rintro _ h3 ⟨⟨i,rfl,X⟩,y⟩;have D:Sp A h3 []:=.zip (aa.up o y.aj).aj;have d:=Ts X;refine⟨i,k0,bQ (λe=>⟨by unfold dE;rw[l,q,<-d,e];rfl,D⟩) λS=>?_⟩;rw[S]at d;have J:=I.up y.aj;have b:=g.up y.aj;obtain⟨ok,j⟩:=aa.dP J;have M:=bF.len b.aG;have u:x.2.2.1=m.p.1:=congrArg (·.1) b.p;have G:x.2.2.2.2.1=m.p.2.2:=congrArg (·.2.2) b.p;have hk:m.p.1*m.p.2.2<=16*24:=Int.mul_le_mul k4 k4 k4 k4;have Q:0<=m.p.1*m.p.2.2:=vB k4 k4;refine bO (λ(t:Bool) h'=>t=decide (m.p.1*m.p.2.2*8<(n:Int)∨12<=j9 m.aG)/\h'=h3) ?_ ?_
 ·refine⟨a,k0,x.2.2.1,j.cell k0,a,k0,x.2.2.2.2.1,by rw[addr_add];exact j.cell k0,?_⟩;dsimp only;rw[u,G,ag (m.p.1*m.p.2.2),ag (m.p.1*m.p.2.2*8)];refine ai (λe=>⟨(j6 (.inl k4)).symm,k0⟩) λe=>?_;refine⟨a,k0,x.2.2.2.2.2.2.2,j.cell k0,?_,k0⟩;rw[decide_eq_decide];omega
 rintro t _ ⟨rfl,rfl⟩;refine ai (λe=>⟨by unfold dE;rw[l,q,<-d,j1 e];rfl,D⟩) λP=>?_;have L:dE m (gT w offs) ds name n=if be ds m.drives=[]∨16777215<m.next∨2147483647<=m.seq then 7 else 0:=by unfold dE;rw[l,q,<-d,j3 P];rfl
 rw[L];refine(iS x m b K J).mono ?_;rintro _ U ⟨r,rfl,F⟩;have f:=(F.own 0 k0).len;have c:Sp A U []:=.zip (aa.up D F.aj).aj;have k:=j.aj F.aj j.lt;refine⟨r,k0,dD (λe=>⟨by rw[j1 (.inl (q8 k4))],c⟩) λe=>?_⟩;have z:be ds m.drives≠[]:=λR=>by rw[R]at f;simp at f;omega
 refine⟨a,k0,x.2.1,k.cell k0,ai (λe=>⟨by rw[j1 (.inr (.inl (by rw[<-b.next];omega)))],c⟩) λe6=>?_⟩;have O:=b.next;have W:=b.seq;refine⟨a,k0,x.1,k.cell0 k0,ai (λe=>⟨by rw[j1 (.inr (.inr k4))],c⟩) λZ=>⟨?_,c⟩⟩;rw[j3];rintro(h|h|h)
 ·exact z h
 ·omega
 ·omega
end
theorem TG:∃i a,C.T.get 34=dB i/\i.df=.slice a:=⟨_,_,k0,k0⟩
def pz(A B:aM)(k:Nat):aM:=fe (A.take k) (B.take k)++A.drop k
theorem tR{A B:aM}(h:j9 B=j9 A)(k:Nat):j9 (pz A B k)=j9 A:=by simp[pz,fe,h];omega
theorem aaN{A B:aM}(h:j9 B=j9 A){k:Nat}(a:k<j9 A):(pz A B k)[k]?=dB A[k]:=by
 have:j9 (fe (A.take k) (B.take k))=k:=by simp[fe];omega
 rw[pz,qj k4,this,zc,wz,wO,qd a]
theorem aaO{A B:aM}(h:j9 B=j9 A){k:Nat}(a:k<j9 A):(pz A B k).set k (A[k]++B[k]'(by omega))=pz A B (k+1):=by
 have b:j9 (fe (A.take k) (B.take k))=k:=by simp[fe];omega
 rw[pz,qX _ _ k4,b,zc,qP a,zx,pz,aH _ _ a,aH _ _ (show k<j9 B by omega),fe,fe,yx k8,qt];rfl
theorem aaP{A B:aM}(h:j9 B=j9 A):pz A B A.length=fe A B:=by rw[pz,qS,<-h,qS,h,List.drop_length,qL]
theorem Yr(f:hU)(a b:Sl)(A B:aM)(n w:Nat)(h:hZ)(hf:fI h f)(K:fZ h a 1 aD A)(O:fZ h b 1 aD B)(hl:j9 A=n)(a5:j9 B=n)(g:aT n A)(G:aT w B)(a0:1<=n)(hn:n+w<=64)(hr:ca A=n):
  ab xm 175 #[xd (dB f),a,b] h λv h'=>∃r:Sl,v=.tuple #[r,xb xi 0]/\Sp h h' [fP 34 r 1 aD (gc n A B)]:=by
 have d:j9 B=j9 A:=k4
 have Y:=K.len;have q:=O.len;refine Fq (dB f) a b ?_;unfold Cl;refine bi ?_;refine(nr a A n h K g).mono ?_;rintro v h1 ⟨rfl,rfl⟩;refine⟨_,k0,bj (λe=>ln) λ_=>?_⟩;refine(nr b B w h1 O G).mono ?_;rintro v J ⟨rfl,rfl⟩;refine⟨_,k0,bj (λe=>ln) λ_=>?_⟩;refine bR (λe=>absurd (by rw[Y,q,d]) e) λ_=>?_;refine dD (λe=>k4) λ_=>?_;refine(sA a A J K).mono ?_;rintro v h3 ⟨rfl,rfl⟩;have ah:eU A=n:=by
  cases A with
  |nil=>simp at hl;omega
  |cons x t=>rw[eU,bv k9];exact g _ k9
 refine⟨_,k0,?_⟩;rw[ah];refine(Ar a A n h3 K g).mono ?_;rintro v h4 ⟨r,rs,rfl,a7,R4⟩;refine⟨r,k0,?_⟩;have ax:=(R4.own 0 k0).len;refine aw (λt:Nat×List Sl=>(t.1:Int)) (λt h'=>t.1<=n/\t.2.length=n/\Sp h3 h' (nU r t.2 (pz A B t.1))) (λt=>n-t.1) (0,rs) k0 ⟨k9,k7,by simpa[pz,fe]using R4⟩ ?_;rintro⟨k,rs⟩ h5 ⟨hk,a3,p⟩;dsimp only at*;have u:j9 rs=j9 (pz A B k):=pt
 refine ai (λe=>?_) (λe=>?_)
 ·have o:k<n:=k4
  have y:k<j9 A:=k4
  have H:=px (a:=r) u k pt;have eg:(pz A B k)[k]'(by rw[tR d];omega)=A[k]:=by have:=aaN d y;rw[qd pt]at this;exact zS.inj this
  rw[eg]at H;have l1:A[k].length=n:=g _ (qh _);have l2:j9 (B[k]'(by omega))=w:=G _ (qh _);refine(p.seq 0 k0 λ_=>rfl).mZ k k0 k4 λa1 P am=>?_;refine(O.up p.aj).get k k0 k4 λrb U=>?_;refine p.append ac (k+1) H gM TG k0 k6 (λ_=>rfl) U iK k4 λI h6 H6=>⟨trivial,?_⟩
  refine H6.set ac 0 k0 (λ_=>rfl) k0 k k0 k4 I k0 k0 k0 λT H7=>⟨trivial,?_⟩
  refine⟨(k+1,rs.set k I),lb,⟨k7,n8,?_⟩,k7⟩;dsimp only;rw[<-aaO d y];show Sp h3 T (al 34 r 1 bo (rs.set k I)::bA 5 1 aD (rs.set k I) ((pz A B k).set k _));rw[<-kZ u];exact H7
 ·have V:k=j9 A:=k4
  subst V;rw[aaP d]at p;refine(ur f h5).mono ?_;rintro v h6 ⟨rfl,rfl⟩;refine⟨dB f,k0,?_⟩;have j:=ng d.symm g G;have a9:=mJ d.symm;refine(Ct (m:=fe A B) (n:=n+w) hf hf.lt k4 j k4 k4 k4 p).mono ?_;rintro v T ⟨i,rfl,ar,F⟩;rw[Ks d.symm g,hr];refine⟨_,k0,?_⟩;dsimp only;have ay:=(F.own 0 k0).cap;have bd:=(F.own 0 k0).len;have J:=gZ j n;refine ai (λe=>absurd (show(n:Int)<(n:Int)from e) k4) λ_=>?_;refine⟨⟨wj _,yR.2 (show n<=r.len by omega)⟩,?_⟩;refine aw (λ_:Unit=>(0:Int)) (λ_ h'=>h'=T) (λ_=>0) () k0 k0 ?_;rintro _ h8 rfl;rw[qn];refine ai (λe=>k4) λ_=>?_;refine⟨⟨wj _,yR.2 (show n<=r.cap by omega)⟩,?_⟩;obtain⟨M,L⟩:∃M,M=(bG (fe A B) n).2:=⟨_,rfl⟩
  have a8:j9 M=n:=by have:=J.2;rw[<-L]at this;omega
  have W:aT (n+w) M:=by rw[L];exact J.1
  have l:∀k (hk:k<n),(gc n A B).take (k+1)=(gc n A B).take k++[(M[k]'(by omega)).drop n]:=λk hk=>by
   have e1:gc n A B=M.map (List.drop n):=by rw[gc,<-L,qi k4]
   rw[e1,aH _ _ k8,wo]
  have a2:j9 (gc n A B)=n:=(xz d.symm g G hr).1;rw[<-L]at F;refine aw (λt:Sl×Nat=>(t.1,(t.2:Int))) (λt h'=>t.2<=n/\Sp h8 h' [fP 34 t.1 1 aD ((gc n A B).take t.2)]) (λt=>n-t.2) (⟨eH,0,0⟩,0) k0 ⟨k9,(Sp.refl h8).Lt 34 1 aD⟩ ?_;rintro⟨s,k⟩ h9 ⟨bk,N⟩;dsimp only at*;have Q:=F.comp N;have S:j9 i=j9 M:=k4
  refine ai (λe=>?_) (λe=>?_)
  ·have o:k<n:=k4
   have H:=px (a:=r) S k k4;have z:(nU r i M++[fP 34 s 1 aD ((gc n A B).take k)])[k+1]?=dB (al 5 (i[k]'(by omega)) 1 aD (M[k]'(by omega))):=by rw[qp (by simp[bA];omega)];exact H
   have a4:j9 (M[k]'(by omega))=n+w:=W _ (qh _);have D:=Q.own (k+1) z;have X:=Q.seq (k+1) z λ_=>rfl;have ap:=D.len;have E:=(Q.seq 0 k0 λ_=>rfl).take n k4;rw[qi k4]at E;refine E.mZ k k0 k4 λa1 P am=>?_;refine⟨⟨wj _,yR.2 k4⟩,?_⟩;refine(fA _ _ h9 (X.drop n D.cap) k8).mono ?_;rintro v a6 ⟨c,rfl,R⟩;have ad:=(N.comp R).freeze 1 k0 λ_=>rfl;refine⟨c,k0,?_⟩;refine ad.xw ac 0 1 k6 k0 k0 fH k8 λs' bb Z=>?_;refine⟨(s',k+1),lb,⟨k7,?_⟩,k7⟩;dsimp only;rw[l k o];exact Z.del 1
  ·rw[qi k4]at N;refine⟨s,k0,?_⟩;have:=(Sp.zip F.aj).comp N;exact this
def im(p:Pm)(seed:Int)(l:Nat):Int:=if bH p&&decide ((l:Int)=p.1*p.2.2)then(if eI p seed (fg p)then 0 else 8)else 1
abbrev Cw(p:Pm)(seed:Int)(m:Sl):ba:=[xb xi p.1,xb xi p.2.1,xb xi p.2.2,xb xk seed,m]
theorem TH(p:Pm)(seed:Int)(data:Sl)(d:Row)(h:hZ)(hd:Rd h data 1 aD d)(hc:data.len<=data.cap):
  ab xm 108 #[lN p,xb xk seed,data] h λv h'=>
   (im p seed d.length=0->∃(b:hU) (m:Sl),v=.tuple #[xd (dB b),xb xi 0]/\Sp h h' [fP 34 m 1 aD (dn p seed d),ao b 234 (Cw p seed m)])/\
   (im p seed d.length≠0->v=.tuple #[xd eH,xb xi (im p seed d.length)]/\Sp h h' []):=by
 have ah:=hd.len;refine Oe p seed data ?_;unfold GP;refine(Sp.refl h).boxed λa h1 H1=>?_;refine bi ?_;refine⟨p,(H1.box 0 k0).aS _ k0,(fa p h1).mono ?_⟩;rintro v h2 ⟨rfl,R2⟩;have M:=H1.comp R2;have Z:∀{h3:hZ} (x:Int),x≠0->im p seed d.length=x->Sp h h3 [ao a 24 [xb xi p.1,xb xi p.2.1,xb xi p.2.2]]->
   (im p seed d.length=0->∃(b:hU) (m:Sl),Value.tuple #[xd eH,xb xi x]=.tuple #[xd (dB b),xb xi 0]/\Sp h h3 [fP 34 m 1 aD (dn p seed d),ao b 234 (Cw p seed m)])/\
   (im p seed d.length≠0->Value.tuple #[xd eH,xb xi x]=.tuple #[xd eH,xb xi (im p seed d.length)]/\Sp h h3 []):=λx hx O H=>by
  refine⟨λe=>absurd (O.symm.trans e) hx,λ_=>⟨by rw[O],.zip H.aj⟩⟩
 refine⟨_,k0,bj (λe=>Z 1 k6 (by rw[im,e];rfl) M) λS=>?_⟩;have ar:=(bZ p).1 S;obtain⟨K,hK⟩:∃K:Nat,p.1=K:=⟨p.1.toNat,k4⟩
 obtain⟨u,hH⟩:∃H:Nat,p.2.1=H:=⟨p.2.1.toNat,k4⟩
 obtain⟨w,N⟩:∃w:Nat,p.2.2=w:=⟨p.2.2.toNat,k4⟩
 have a0:K*w<=16*24:=wk k4 k4;have J:p.1*p.2.2=((K*w:Nat):Int):=by rw[hK,N,wA]
 refine⟨p.1,(M.box 0 k0).cell0 k0,p.2.2,(M.box 0 k0).cell k0,?_⟩;dsimp only;rw[J,ag _];refine bR (λe=>Z 1 k6 (by rw[im,S,j7 (by rw[J];intro Y;exact e (by rw[ah];exact Y))];rfl) M) λel=>?_;have G:j9 d=K*w:=k4
 refine⟨p,(M.box 0 k0).aS _ k0,(MT p seed h2).mono ?_⟩;rintro v h3 ⟨rfl,R3⟩;have H3:=M.comp R3;have y:im p seed d.length=if eI p seed (fg p)then 0 else 8:=by rw[im,S,j6 (by rw[J,G])];rfl
 refine⟨_,k0,bj (λe=>Z 8 k6 (by rw[y,e];rfl) H3) λhf=>?_⟩;rw[hf,j1 rfl]at y;have B:cu p seed d K u w (K+u):=⟨S,hf,hK,hH,N,k0,k4,k4,k4,k4,k4,k4,G⟩
 refine⟨p.2.1,(H3.box 0 k0).cell k0,?_⟩;refine aw (λt:Sl×List Sl=>(t.1,(j9 t.2:Int))) (λt h'=>j9 t.2<=u/\Sp h h' (ao a 24 [xb xi p.1,xb xi p.2.1,xb xi p.2.2]::nU t.1 t.2 (qg t.2.length (aK w)))) (λt=>u-j9 t.2) (⟨eH,0,0⟩,[]) k0 ⟨k9,H3.nil 34 1 bo⟩ ?_;rintro⟨s,rs⟩ h4 ⟨hk,P⟩;dsimp only at*;refine ai (λe=>?_) (λe=>?_)
 ·refine⟨p.2.2,(P.box 0 k0).cell k0,?_⟩;refine P.make ac aD gM k6 0 k0 k0 w w N N (ql _) k4 λz X a2 a1 D=>?_;refine D.push ac 1 k0 fH k0 k6 (λ_=>rfl) jx z k0 k6 k4 λV h6 W=>?_;refine⟨(V,rs++[z]),by dsimp only;rw[ag _];simp,⟨k8,?_⟩,k8⟩;dsimp only;have e7:nU V (rs++[z]) (qg rs.length (aK w)++[aK w])=al 34 V 1 bo (rs++[z])::(bA 5 1 aD rs (qg rs.length (aK w))++[al 5 z 1 aD (aK w)]):=congrArg _ (pG k9 z (aK w));rw[show(rs++[z]).length=j9 rs+1 by simp,List.replicate_succ',e7];exact W
 ·have L:j9 rs=u:=k4
  rw[L]at P;refine⟨p.1,(P.box 0 k0).cell0 k0,?_⟩;let own:=bA 5 1 aD rs (qg u (aK w));refine aw (λt:Sl×Nat=>(t.1,(t.2:Int))) (λt h'=>t.2<=K/\Sp h h' (ao a 24 [xb xi p.1,xb xi p.2.1,xb xi p.2.2]::al 34 t.1 1 bo (rs++(qx t.2).map (NO data w))::own)) (λt=>K-t.2) (s,0) k0 ⟨k9,by simpa using P⟩ ?_;rintro⟨t,k⟩ X ⟨ax,D⟩;dsimp only at*;refine ai (λY=>?_) (λY=>?_)
  ·have T:k<K:=k4
   have m1:(k+1)*w<=K*w:=zo w T;have m2:k*w<=(k+1)*w:=zo w k4;refine⟨p.2.2,(D.box 0 k0).cell k0,p.2.2,(D.box 0 k0).cell k0,?_⟩;rw[ag ((k:Int)+1)];have e5:(k:Int)*p.2.2=((k*w:Nat):Int):=by rw[N,wA]
   have e6:((k:Int)+1)*p.2.2=(((k+1)*w:Nat):Int):=by rw[N,wA];rfl
   dsimp only;rw[e5,e6,uM _,uM _,qn,qn];refine⟨⟨wj _,yR.2 m2,yR.2 k4⟩,?_⟩;refine D.push ac 1 k0 fH k0 k6 (λ_=>rfl) jx (NO data w k) k0 k6 k8 λt' h6 W=>?_;refine⟨(t',k+1),k0,⟨k7,?_⟩,k7⟩;dsimp only;rw[zR,qW,<-qt];exact W
  ·have ap:k=K:=k4
   subst ap;refine bi ?_;have E:fZ X t 1 aD (jZ k u w d):=by
    refine⟨rs++(qx k).map (NO data w),D.seq 1 k0 λ_=>rfl,by rw[Gw];simp;omega,λi r l q o=>?_⟩;by_cases F:i<u
    ·rw[qp k4,qd k4]at q;rw[jZ,qp (by simpa using F)]at o;have hz:l=aK w:=by simp[F]at o;exact o.symm
     have hr:rs[i]'(by omega)=r:=zS.inj q;have g:(ao a 24 [xb xi p.1,xb xi p.2.1,xb xi p.2.2]::al 34 t 1 bo (rs++(qx k).map (NO data w))::own)[i+2]?=dB (al 5 (rs[i]'(by omega)) 1 aD ((qg u (aK w))[i]'(by simpa using F))):=iW (by simpa using L) i (by simpa using F);have:=D.seq (i+2) g λ_=>rfl;rw[List.getElem_replicate,hr]at this;rw[hz];exact this
    ·obtain⟨j,rfl⟩:∃j,i=u+j:=⟨i-u,k4⟩
     rw[qj k4,L,zr]at q;rw[jZ,qj k9,List.length_replicate,zr]at o;have hj:j<k:=by have:=(qm.1 q).1;simpa using this
     simp[hj]at q o;have m1:(j+1)*w<=k*w:=zo w hj;rw[<-q,<-o];exact(Seq.up hd D.aj).piece hc w j k4
   have c:=D.box 0 k0;refine⟨p,c.aS _ k0,p,c.aS _ k0,(rq X).mono ?_⟩;rintro v h6 ⟨f,rfl,R6⟩;have n:=c.aj R6.aj c.lt;refine⟨dB f,k0,⟨n.cell0 k0,n.cell k0,n.cell k0,n.cell0 k0,n.cell k0,n.cell k0,trivial⟩,(MR p h6).mono ?_⟩;rintro v h7 ⟨r7,rfl,R7⟩;have U:=R6.comp R7;have I:=c.aj U.aj c.lt;refine⟨r7,k0,⟨I.cell0 k0,I.cell k0,I.cell k0,trivial⟩,?_⟩;refine(JQ p seed r7 (fg p) h7 (U.seq 1 k0 λ_=>rfl) (by rw[fg,hJ];omega)).mono ?_;rintro v h8 ⟨r8,rfl,R8⟩;have R:=U.comp R8;refine⟨r8,k0,trivial,?_⟩;refine(Yr f r8 t _ _ (k+u) w h8 (R.box 0 k0) (R.Gb 2 k0) (E.up R.aj) B.Gv (by rw[Gw]) B.IM (uS B.len) k4 k4 B.NU).mono ?_;rintro v h9 ⟨r9,rfl,R9⟩;have Q9:=R.comp R9;refine⟨(r9,0),k0,trivial,?_⟩;refine bR (λe=>absurd k0 e) λ_=>?_;have am:=c.aj Q9.aj c.lt;refine⟨p,am.aS _ k0,?_⟩;refine Q9.boxed (t:=234) λb ay ad=>?_;refine⟨λ_=>⟨b,r9,k0,?_⟩,λe=>absurd y e⟩;have Q:=(Sp.zip D.aj).comp ad;rw[<-B.ET]at Q;exact Q.take 3 (λi A F=>by
    cases i with
    |zero=>exact F
    |succ i=>cases i with
     |zero=>exact F
     |succ i=>simp at F)
def Ax(h:hZ)(b:hU)(p:Pm)(seed:Int)(M:aM):Prop:=∃m:Sl,cA h b 234 (Cw p seed m)/\fZ h m 1 aD M
theorem Ax.up{h h':hZ}{b:hU}{p:Pm}{seed:Int}{M:aM}(e:Ax h b p seed M)(a:aX (λb=>b<h.size) h h'):Ax h' b p seed M:=by obtain⟨m,c,d⟩:=e;exact⟨m,c.aj a c.lt,d.up a⟩
theorem Vz{a t:Row}(b:j9 a=j9 t){k:Nat}(d:k<j9 t):(zh (λx y=>y^^^Gf.mul 1 x) (a.take k) (t.take k)++t.drop k).set k (t[k]^^^(a[k]'(by omega)))=zh (λx y=>y^^^Gf.mul 1 x) (a.take (k+1)) (t.take (k+1))++t.drop (k+1):=by have:=Au (c:=1) b d;rw[Gf.one_mul]at this;exact this
theorem ahG{a t:Row}(b:j9 a=j9 t){k:Nat}(d:k<j9 t):(zh (λx y=>y^^^Gf.mul 1 x) (a.take k) (t.take k)++t.drop k)[k]?=dB t[k]:=by
 have c:j9 (zh (λx y=>y^^^Gf.mul 1 x) (a.take k) (t.take k))=k:=k8
 rw[qj k4,c,zc,wz,wO,qd d]
theorem Cx(b:hU)(p:Pm)(seed id:Int)(M:aM)(n w:Nat)(h:hZ)(hb:Ax h b p seed M)(L:bH p=eR)(W:p.2.2=w)(hn:(bD p).toNat=n)(V:aT w M)(hl:j9 M=n):
  ab xm 110 #[xd (dB b),xb xi id] h λv h'=>∃r:Sl,v=r/\Sp h h' [al 5 r 1 aD (if bW id then fS w M (dt n seed id)else[])]:=by
 obtain⟨m,g,T⟩:=hb;have am:=T.len;have Z:=(bZ p).1 L;have hc:bD p=p.1+p.2.1:=by rw[bD,j1 L]
 refine AR (dB b) id ?_;unfold pf;have R:bW id=eS->∃r:Sl,Value.slice eH 0 0=xc r.ptr r.len r.cap/\Sp h h [al 5 r 1 aD (if bW id then fS w M (dt n seed id)else[])]:=λe=>by
  rw[e];exact⟨⟨eH,0,0⟩,k0,(Sp.refl h).nil 5 1 aD⟩
 refine bi (bQ (λe=>ln) λ_=>ai (λe=>R m9) λe1=>ai (λe=>R m9) λQ=>?_);have hid:bW id=eR:=m9
 refine⟨b,k0,p.2.2,g.cell k0,?_⟩;refine(Sp.refl h).make ac aD gM k6 0 k0 k0 w w W W (ql _) k4 λo h1 ax ap X=>?_;have B:=g.aj X.aj g.lt;refine⟨b,k0,p,B.aS _ k0,b,k0,seed,B.cell k0,(BL p seed id h1).mono ?_⟩;rintro v h2 ⟨c,rfl,U⟩;rw[L,hid,vW,j1 rfl,hn]at U;rw[hid,j1 rfl];have J:=X.comp U;obtain⟨d,q⟩:∃d,d=dt n seed id:=⟨_,rfl⟩
 have u:∀x∈d,0<=x/\x<(n:Int):=λx N=>nc k4 k4 (by rw[<-q];exact N);have O:j9 d<=n:=by rw[q];exact Bh k4 k4 _ _
 rw[<-q]at J⊢;have a2:=(J.seq 1 k0 λ_=>rfl).len;refine⟨c,k0,trivial,?_⟩;refine aw (λi:Nat=>(i:Int)) (λi h'=>i<=j9 d/\Sp h h' [al 5 o 1 aD (fS w M (d.take i)),al 3 c 1 aq d]) (λi=>j9 d-i) 0 k0 ⟨k4,J⟩ ?_;rintro i h3 ⟨E,l⟩;refine ai (λe=>?_) (λe=>?_)
 ·have j:i<j9 d:=k4
  have N:=u _ (qh j);refine(l.seq 1 k0 λ_=>rfl).bC i k0 j _ k0 ?_;have K:=g.aj l.aj g.lt;refine⟨b,k0,m,K.cell k0,?_⟩;obtain⟨ay,Y⟩:=T;refine(Y.aj l.aj).get d[i].toNat k4 k4 λr P I=>?_;have s:=Y.row _ r _ I (qd (show d[i].toNat<j9 M by omega));obtain⟨row,f⟩:∃row,row=M[d[i].toNat]'(by omega):=⟨_,rfl⟩
  have a0:j9 row=w:=by rw[f];exact V _ (qh _)
  rw[<-f]at P s;obtain⟨S,G⟩:∃S,S=fS w M (d.take i):=⟨_,rfl⟩
  have ar:j9 S=w:=by rw[G];exact pP V hl u i E
  have ah:=P.len;have Q:fS w M (d.take (i+1))=cY 1 row S:=by rw[aH _ _ j,DV,G,f,bv k4]
  rw[<-G]at l;refine aw (λk:Nat=>(k:Int)) (λk h'=>k<=w/\Sp h h' [al 5 o 1 aD (zh (λx y=>y^^^Gf.mul 1 x) (row.take k) (S.take k)++S.drop k),al 3 c 1 aq d]) (λk=>w-k) 0 k0 ⟨k4,by simpa using l⟩ ?_;rintro k h4 ⟨hk,D⟩;have F:=s.aj D.aj;have a1:j9 (zh (λx y=>y^^^Gf.mul 1 x) (row.take k) (S.take k)++S.drop k)=w:=k8
  refine ai (λe3=>?_) (λe3=>?_)
  ·have ad:k<w:=k4
   have z:(zh (λx y=>y^^^Gf.mul 1 x) (row.take k) (S.take k)++S.drop k)[k]'(by omega)=S[k]'(by omega):=by have:=ahG (a:=row) (t:=S) k4 (show k<j9 S by omega);rw[qd k4]at this;exact zS.inj this
   refine F.bC k k0 k4 _ k0 ?_;refine(D.seq 0 k0 λ_=>rfl).bC k k0 k4 _ k0 ?_;rw[z,ow];refine D.set ac 0 k0 (λ_=>rfl) k0 k k0 k4 _ k0 k0 k0 λh5 H5=>?_;refine⟨k+1,ld,⟨k4,?_⟩,k4⟩;rw[<-Vz k4 (show k<j9 S by omega)];exact H5
  ·have H:k=w:=k4
   subst H;rw[qi k4,qi k4,zi k4,qL]at D;refine⟨i+1,ld,⟨k4,?_⟩,k4⟩;rw[Q];exact D
 ·rw[qi k4]at l;exact⟨o,k0,l.take 0 λi A E=>by cases i with|zero=>exact E|succ i=>simp at E⟩
theorem _root_.Wl.cu.im{p:Pm}{seed:Int}{d:Row}{K H w n:Nat}(B:cu p seed d K H w n):im p seed d.length=0:=by rw[Go.Qw.im,B.may,B.full,B.len,B.k,B.s,j6 (by rw[wA])];rfl
theorem ahH{p:Pm}{seed:Int}{d:Row}{K H w n:Nat}(B:cu p seed d K H w n)(data:Sl)(h:hZ)(a:Rd h data 1 aD d)(e:data.len<=data.cap):
  ab xm 108 #[lN p,xb xk seed,data] h λv h'=>
   ∃(b:hU) (m:Sl),v=.tuple #[xd (dB b),xb xi 0]/\Sp h h' [fP 34 m 1 aD (dn p seed d),ao b 234 (Cw p seed m)]:=
 (TH p seed data d h a e).mono λ_ _ c=>c.1 B.im
theorem _root_.Wl.cu.symbol{p:Pm}{seed:Int}{d:Row}{K H w n:Nat}(B:cu p seed d K H w n)(b:hU)(id:Int)(h:hZ)(a:Ax h b p seed (dn p seed d)):
  ab xm 110 #[xd (dB b),xb xi id] h λv h'=>∃r:Sl,v=r/\Sp h h' [al 5 r 1 aD (if bW id then fS w (dn p seed d) (dt n seed id)else[])]:=
 Cx b p seed id _ n w h a B.may B.s B.pQ B.oc.2 B.oc.1
def Dw(s:EU):ba:=[.complex .f64 s.ax s.ay,.complex .f64 s.sx s.sy,xb xi s.left,xb xi s.leg,xg s.second]
theorem pA{o:Option Nat}(h:o.isSome=eR):o=dB (o.getD 0):=by
 cases o with
 |none=>cases h
 |some x=>rfl
theorem Ys(h:hZ):ab xm 229 #[] h λv h'=>∃a:hU,v=xd (dB a)/\Sp h h' [ao a 299 (Dw fs0)]:=by refine MC ?_;unfold Fw;refine(Sp.refl h).boxed (t:=299) λa c b=>?_;exact⟨a,k0,b⟩
theorem aaQ(a b:Nat)(h:hZ)(j:(ib.mul a 0).isSome=eR)(f:(ib.mul b pR).isSome=eR)(h3:(ib.sub (uk a 0) (uk b pR)).isSome=eR)(c:(ib.mul a pR).isSome=eR)(g:(ib.mul b 0).isSome=eR)(i:(ib.add (uk a pR) (uk b 0)).isSome=eR):
  ab xm 284 #[.complex .f64 a b,xb xi 1] h λv h'=>v=.complex .f64 (tx a b) (ty a b)/\h'=h:=by
 refine Oz (a,b) 1 ?_;unfold Ht;refine⟨k6,k6,?_⟩;refine aw (λk:Nat=>(if k=0 then(a,b)else(tx a b,ty a b),(k:Int))) (λk h'=>k<=1/\h'=h) (λk=>1-k) 0 k0 ⟨k4,k0⟩ ?_;rintro k h' ⟨l,rfl⟩;have d:wg (qc xi (wg 1 4+4)) 4=1:=k6
 dsimp only;rw[d];refine ai (λe=>?_) (λe=>?_)
 ·have:k=0:=k4
  subst this;refine⟨(tx a b,ty a b),afP (pA j) (pA f) (pA h3) (pA c) (pA g) (pA i),?_⟩;exact⟨1,k0,⟨k4,k0⟩,k4⟩
 ·have:k=1:=k4
  subst this;exact⟨k0,k0⟩
theorem adF(a:hU)(s:EU)(h:hZ)(f:cA h a 299 (Dw s))(c:s.ok=eR):ab xm 230 #[xd (dB a)] h λv h'=>v=.tuple #[]/\cA h' a 299 (Dw s.on)/\aX (λb=>b≠a.block) h h':=by
 simp only[EU.ok,qz,decide_eq_true_eq]at c;obtain⟨⟨⟨⟨⟨⟨⟨⟨⟨⟨⟨A,t⟩,J⟩,K⟩,F⟩,B⟩,w⟩,D⟩,M⟩,x⟩,E⟩,u⟩:=c;refine FL (dB a) ?_;unfold uF;have I:aa (λb=>b<h.size/\¬b=a.block) h h [ao a 299 (Dw s)]:=.Zq (λb=>b=a.block) (λb l=>by rw[l];exact f.lt) ⟨f,k0⟩;have fin:∀{h':hZ},aa (λb=>b<h.size/\¬b=a.block) h h' [ao a 299 (Dw s.on)]->Value.tuple #[]=.tuple #[]/\cA h' a 299 (Dw s.on)/\aX (λb=>b≠a.block) h h':=λH=>
  ⟨k0,H.box 0 k0,H.aj.1,λk q m=>H.aj.2 k q ⟨q,m⟩⟩
 refine⟨a,k0,(s.ax,s.ay),f.cell0 k0,a,k0,(s.sx,s.sy),f.cell k0,(oO s.ax s.sx,oO s.ay s.sy),afN (pA A) (pA t),a,k0,?_⟩;refine I.lC ac 0 k0 k0 [.complex .f64 (oO s.ax s.sx) (oO s.ay s.sy)] k0 k0 k0 (by simp[Dw]) λN o=>⟨trivial,?_⟩
 refine⟨a,k0,s.left,(o.box 0 k0).cell (j:=2) k0,a,k0,?_⟩;rw[ag (s.left-1)];refine o.storeAt ac 0 k0 k0 (off:=2) k0 k0 k0 (by simp[Dw]) λz d=>?_;refine⟨a,k0,s.left-1,(d.box 0 k0).cell (j:=2) k0,?_⟩;refine ai (λe=>?_) (λe=>?_)
 ·have n:Dw s.on=[.complex .f64 (oO s.ax s.sx) (oO s.ay s.sy),.complex .f64 s.sx s.sy,xb xi (s.left-1),xb xi s.leg,xg s.second]:=by rw[EU.on,j1 e];rfl
  refine fin ?_;rw[n];exact d
 ·refine⟨a,k0,(s.sx,s.sy),(d.box 0 k0).cell (j:=1) k0,(aaQ s.sx s.sy z J K F B w D).mono ?_⟩;rintro v h3 ⟨rfl,rfl⟩;refine⟨(tx s.sx s.sy,ty s.sx s.sy),k0,a,k0,?_⟩;refine d.storeAt ac 0 k0 k0 (off:=1) k0 k0 k0 (by simp[Dw]) λP g=>?_;refine bO (λ_ h'=>aa (λb=>b<h.size/\¬b=a.block) h h' [ao a 299 [.complex .f64 (oO s.ax s.sx) (oO s.ay s.sy),.complex .f64 (tx s.sx s.sy) (ty s.sx s.sy),xb xi (s.left-1),xb xi (if s.second then s.leg+1 else s.leg),xg s.second]]) ?_ ?_
  ·refine⟨a,k0,s.second,(g.box 0 k0).cell (j:=4) k0,bQ (λi=>?_) λi=>?_⟩
   ·refine⟨a,k0,s.leg,(g.box 0 k0).cell (j:=3) k0,a,k0,?_⟩;rw[ag (s.leg+1)];refine g.storeAt ac 0 k0 k0 (off:=3) k0 k0 k0 (by simp[Dw]) λQ y=>?_;rw[j1 i];exact y
   ·rw[j3 (by rw[i];decide)];exact g
  ·rintro _ L p;refine⟨a,k0,s.second,(p.box 0 k0).cell (j:=4) k0,a,k0,?_⟩;refine p.storeAt ac 0 k0 k0 (off:=4) k0 k0 k0 k9 λO r=>?_;refine⟨a,k0,_,(r.box 0 k0).cell (j:=3) k0,a,k0,?_⟩;refine r.storeAt ac 0 k0 k0 (off:=2) k0 k0 k0 k9 λh8 G=>?_;have n:Dw s.on=[.complex .f64 (oO s.ax s.sx) (oO s.ay s.sy),.complex .f64 (tx s.sx s.sy) (ty s.sx s.sy),xb xi (if s.second then s.leg+1 else s.leg),xb xi (if s.second then s.leg+1 else s.leg),xg (!s.second)]:=by rw[EU.on,j3 e];rfl
   refine fin ?_;rw[n];exact G
theorem WQ(n:Nat)(h:hZ)(i:n<64):ab xm 177 #[xb xi n] h λv h'=>v=.complex .f64 (lp n).ax (lp n).ay/\Sp h h' []:=by
 refine Tc n ?_;unfold Mr;refine ai (λe=>k4) λ_=>ai (λe=>k4) λ_=>?_;refine(Ys h).mono ?_;rintro v j ⟨a,rfl,g⟩;refine⟨dB a,k0,?_⟩;refine aw (λk:Nat=>(k:Int)) (λk h'=>k<=n/\Sp h h' [ao a 299 (Dw (lp k))]) (λk=>n-k) 0 k0 ⟨k4,g⟩ ?_;rintro k f ⟨l,b⟩;refine dD (λe=>?_) (λe=>?_)
 ·have:k=n:=k4
  subst this;exact⟨a,k0,((lp k).ax,(lp k).ay),(b.box 0 k0).cell0 k0,k0,.zip b.aj⟩
 ·refine(adF a (lp k) f (b.box 0 k0) (aik k k4)).mono ?_;rintro v h3 ⟨rfl,d,c⟩;refine⟨(),k0,k+1,ld,⟨k4,b.CI 0 k0 c d⟩,k4⟩
theorem PO{a b:Int}(e:-4<=a:=by omega)(d:a<=4:=by omega)(h3:-4<=b:=by omega)(c:b<=4:=by omega):ib.sub (di a) (di b)=dB (di (a-b)):=by have:=agY (a+4).toNat k4 (b+4).toNat k4;rw[show((a+4).toNat:Int)-4=a by omega,show((b+4).toNat:Int)-4=b by omega,show((a+4).toNat:Int)-((b+4).toNat:Int)=a-b by omega]at this;exact this
theorem PP{a:Int}(b:-8<=a:=by omega)(c:a<=8:=by omega):ib.mul (di a) (di a)=dB (di (a*a)):=by have:=agZ (a+8).toNat k4;rw[show((a+8).toNat:Int)-8=a by omega]at this;exact this
theorem TJ(a:Int):((a.natAbs:Nat):Int)*(a.natAbs:Nat)=a*a:=Int.natAbs_mul_self
theorem aaR{a b:Int}(e:-8<=a)(d:a<=8)(h3:-8<=b)(c:b<=8):ib.add (di (a*a)) (di (b*b))=dB (di (a*a+b*b)):=by have:=aha a.natAbs k4 b.natAbs k4;rw[TJ,TJ]at this;exact this
def HN(i j:Nat):Int:=((gd i).x-(gd j).x)*((gd i).x-(gd j).x)+((gd i).y-(gd j).y)*((gd i).y-(gd j).y)
theorem afn{a:Int}(b:-8<=a)(c:a<=8):0<=a*a/\a*a<=64:=by rw[<-TJ,<-wA];have:a.natAbs*a.natAbs<=8*8:=wk k4 k4;omega
theorem BM{n:Nat}(h:n<64):(lp n).ax=di (gd n).x/\(lp n).ay=di (gd n).y/\-4<=(gd n).x/\(gd n).x<=4/\-4<=(gd n).y/\(gd n).y<=4:=by have:=agX n h;simp only[qz,decide_eq_true_eq,beq_iff_eq]at this;obtain⟨⟨⟨⟨⟨a,b⟩,c⟩,d⟩,e⟩,f⟩:=this;exact⟨a,b,c,d,e,f⟩
theorem aaS{i j:Nat}(c:i<64)(d:j<64):0<=HN i j/\HN i j<=128:=by have a:=BM c;have b:=BM d;have f:=afn (a:=(gd i).x-(gd j).x) k4 k4;have e:=afn (a:=(gd i).y-(gd j).y) k4 k4;unfold HN;omega
theorem adG(i j:Nat)(h:hZ)(e:i<64)(f:j<64):ab xm 178 #[.complex .f64 (lp i).ax (lp i).ay,.complex .f64 (lp j).ax (lp j).ay] h λv h'=>v=.float .f64 (di (HN i j))/\h'=h:=by
 have a:=BM e;have b:=BM f;refine QL ((lp i).ax,(lp i).ay) ((lp j).ax,(lp j).ay) ?_;unfold JI;have d:ib.sub (lp i).ax (lp j).ax=dB (di ((gd i).x-(gd j).x)):=by rw[a.1,b.1];exact PO
 have c:ib.sub (lp i).ay (lp j).ay=dB (di ((gd i).y-(gd j).y)):=by rw[a.2.1,b.2.1];exact PO
 refine⟨(di ((gd i).x-(gd j).x),di ((gd i).y-(gd j).y)),afO d c,_,PP,_,PP,_,aaR k4 k4 k4 k4,k0,k0⟩
abbrev afo:ce C.toCG 22 3 1 [xb xi 0] 8:=⟨_,_,k0,k0,k0,k0,k0,k0⟩
def nu(a b:Int):Int:=if a<b then-1 else if a>b then 1 else 0
theorem TK(m:Nat)(h:hZ)(a:m<129):ab xm 232 #[.float .f64 (di (m:Nat))] h λv h'=>v=xg eS/\h'=h:=by refine Dh _ ?_;unfold rU;have:=ZT m a m a;rw[show(FloatKind.format .f64).order (di (m:Nat)) (di (m:Nat))=dB (compare m m)from this,Nat.compare_eq_eq.2 rfl];exact⟨k0,k0⟩
theorem aaT(m n:Nat)(h:hZ)(c:m<129)(b:n<129):ab xm 182 #[.float .f64 (di (m:Nat)),.float .f64 (di (n:Nat))] h λv h'=>v=xb xi (nu m n)/\h'=h:=by
 refine AV _ _ ?_;unfold pk;refine(TK m h c).mono ?_;rintro v a ⟨rfl,rfl⟩;refine⟨_,k0,(TK n a b).mono ?_⟩;rintro v f ⟨rfl,rfl⟩;refine⟨_,k0,bQ (λe=>ln) λ_=>bQ (λe=>ln) λ_=>?_⟩;have d:(FloatKind.format .f64).order (di (m:Nat)) (di (n:Nat))=dB (compare m n):=ZT m c n b;rw[d];rcases Nat.lt_trichotomy m n with a|a|a
 ·rw[Nat.compare_eq_lt.2 a];refine bQ (λ_=>⟨by rw[nu,j1 k4],k0⟩) (λe=>ln)
 ·subst a;rw[Nat.compare_eq_eq.2 rfl];refine bQ (λe=>ln) λ_=>bQ (λe=>ln) λ_=>⟨by rw[nu,j3 k4,j3 k4],k0⟩
 ·rw[Nat.compare_eq_gt.2 a];refine bQ (λe=>ln) λ_=>bQ (λ_=>⟨by rw[nu,j3 k4,j1 k4],k0⟩) (λe=>ln)
theorem PQ(m:Int)(h:hZ):ab xm 233 #[xb xi m] h λv h'=>v=xg eS/\h'=h:=by refine uG _ ?_;unfold rf;exact⟨k9,k0⟩
theorem aaU(m n:Int)(h:hZ):ab xm 183 #[xb xi m,xb xi n] h λv h'=>v=xb xi (nu m n)/\h'=h:=by refine rS _ _ ?_;unfold nS;refine(PQ m h).mono ?_;rintro v b ⟨rfl,rfl⟩;refine⟨_,k0,(PQ n b).mono ?_⟩;rintro v c ⟨rfl,rfl⟩;refine⟨_,k0,bQ (λe=>ln) λ_=>bQ (λe=>ln) λ_=>?_⟩;refine ai (λe=>⟨by rw[nu,j1 e],k0⟩) λe=>ai (λa=>⟨by rw[nu,j3 e,j1 a],k0⟩) λa=>⟨by rw[nu,j3 e,j3 a],k0⟩
def WR(a b:Int):Int:=if a≠0 then a else b
theorem agd(s:Sl)(a b:Int)(h:hZ)(f:Rd h s 1 aq [a,b]):ab xm 181 #[s] h λv h'=>v=xb xi (WR a b)/\h'=h:=by
 refine Dc s ?_;unfold Af;have l:s.len=2:=f.len;refine aw (λk:Nat=>(k:Int)) (λk h'=>h'=h/\k<=2/\(1<=k->a=0)/\(2<=k->b=0)) (λk=>2-k) 0 k0 ⟨k0,k4,k4,k4⟩ ?_;rintro k h' ⟨rfl,m,g,i⟩;refine ai (λe=>?_) (λe=>?_)
 ·rcases(show k=0∨k=1 by omega)with rfl|rfl
  ·refine f.bC 0 k0 k9 a k0 ?_;refine bR (λc=>⟨by rw[WR,j1 c],k0⟩) λc=>?_;exact⟨1,k0,⟨k0,k4,λ_=>c,k4⟩,k4⟩
  ·refine f.bC 1 k0 k9 b k0 ?_;have d:=g k4;refine bR (λc=>⟨by rw[WR,j3 u6],k0⟩) λc=>?_;exact⟨2,k0,⟨k0,k4,λ_=>d,λ_=>c⟩,k4⟩
 ·have d:=g k4;have j:=i k4;exact⟨by rw[WR,j3 u6,j],k0⟩
abbrev Fr:=Int×Fin 129
def Ay(x:Fr):ba:=[xb xi x.1,.float .f64 (di ((x.2:Nat):Int))]
def Az(x y:Fr):Int:=WR (nu (x.2:Nat) (y.2:Nat)) (nu x.1 y.1)
theorem TL(x y:Fr)(h:hZ):ab xm 180 #[xh (Ay x).toArray,xh (Ay y).toArray] h λv h'=>v=xb xi (Az x y)/\aX (λb=>b<h.size) h h':=by
 refine Jg (x.1,di ((x.2:Nat):Int)) (y.1,di ((y.2:Nat):Int)) ?_;unfold BC;refine(Sp.refl h).boxed (t:=242) λa k e=>?_;refine e.boxed (t:=242) λb f c=>?_;refine⟨_,(c.box 0 k0).cell (j:=1) k0,_,(c.box 1 k0).cell (j:=1) k0,_,(c.box 0 k0).cell0 k0,_,(c.box 1 k0).cell0 k0,?_⟩;refine(aaT x.2 y.2 f x.2.isLt y.2.isLt).mono ?_;rintro v h3 ⟨rfl,rfl⟩;refine⟨_,k0,⟨(c.box 1 k0).cell0 k0,(c.box 0 k0).cell0 k0,trivial⟩,(aaU _ _ h3).mono ?_⟩;rintro v l ⟨rfl,rfl⟩;refine⟨_,k0,trivial,?_⟩;refine c.lit ac aq afo k0 [nu (x.2:Nat) (y.2:Nat),nu x.1 y.1] k0 (show 2*1<=2^20 by decide) k0 λs g d=>⟨trivial,?_⟩
 refine(agd s _ _ g (d.seq 2 k0 λ_=>rfl)).mono ?_;rintro v i ⟨rfl,rfl⟩;exact⟨_,k0,trivial,k0,d.aj⟩
theorem WS{a b:Int}:nu a b<0↔a<b:=by unfold nu;split<;>(try split)<;>omega
theorem PR{a b:Int}:nu a b=0↔a=b:=by unfold nu;split<;>(try split)<;>omega
theorem afp{x y:Fr}:ltOf Az x y=eR↔((x.2:Nat):Int)<(y.2:Nat)∨(((x.2:Nat):Int)=(y.2:Nat)/\x.1<y.1):=by
 have h0:ltOf Az x y=eR↔Az x y<0:=by simp[ltOf]
 rw[h0,Az,WR];by_cases h:nu (x.2:Nat) (y.2:Nat)=0
 ·rw[j3 rb,WS];have:=PR.1 h;constructor
  ·exactλa=>.inr ⟨this,a⟩
  ·rintro(a|a)
   ·omega
   ·exact a.2
 ·rw[j1 h,WS];have b:((x.2:Nat):Int)≠(y.2:Nat):=λe=>h (PR.2 e);constructor
  ·exact .inl
  ·rintro(a|a)
   ·exact a
   ·exact absurd a.1 b
theorem HO{x y:Fr}:ltOf Az x y=eS↔¬(((x.2:Nat):Int)<(y.2:Nat)∨(((x.2:Nat):Int)=(y.2:Nat)/\x.1<y.1)):=by rw[<-afp];simp
theorem ahI:Sort.SWO (ltOf Az) where
 irrefl x:=HO.2 k4
 trans x y z h1 h2:=by rw[afp]at*;omega
 ntrans x y z h1 h2:=by rw[HO]at*;omega
theorem ahJ(x y:Fr)(a:ltOf Az x y=eS)(b:ltOf Az y x=eS):x=y:=by rw[HO]at a b;refine yY k4 (Fin.ext k4)
theorem TM{e:TypeId}{s:Sl}{l:List Fr}{h:hZ}(f:Own h e s 2 Ay l)(a:j9 l<2^40):
  ab xm 179 #[s,.func (.func 180) #[] #[]] h λv h'=>v=.tuple #[]/\Own h' e s 2 Ay (l.mergeSort λx y=>!(ltOf Az) y x)/\aX (λb=>¬s.on b) h h':=by
 have m:∀x:Fr,j9 (Ay x)=2:=λ_=>rfl;refine Qu (P:=xm) (id_:=179) (g:=180) (enc:=Ay) (k:=2) (cf:=Az) m ?_ ?_ (λx y h=>TL x y h) f a
 ·intro fO cap l w d i j n;have:=AnyQ.slices_SortFunc_total Tryz.WK 2 Tryz.ahi Tryz.afW Ay (λ_=>rfl) (λx v c=>by simp[Ay]at c;rcases c with rfl|rfl<;>rfl) Az ahI 180 #[] fO 0 cap l.toArray w (enters_of Tryz.afX l0 k0) p6 i j tg ahJ;simp at this;exact this
 ·intro p cap w;exact AnyF.slices_SortFunc_none Tryz.WK p cap _ w
def AA(a:au)(n:Int):au:=if 0<=n/\n<64/\a.contains n=eS then a++[n]else a
def io(l:au):au:=l.foldl AA []
theorem BN(l:au){k:Nat}(a:k<j9 l:=by omega):io (l.take (k+1))=AA (io (l.take k)) l[k]:=by rw[io,aH _ _ a,wv];rfl
theorem TN(l:au):∀k,k<=j9 l->∀x,x∈io (l.take k)↔x∈l.take k/\0<=x/\x<64
 |0,_,x=>by simp[io]
 |k+1,hk,x=>by
  have c:=TN l k k4;rw[BN l,aH _ _ (show k<j9 l by omega),AA];by_cases h:0<=l[k]/\l[k]<64/\(io (l.take k)).contains l[k]=eS
  ·rw[j1 h,qA,qA,qB,c x];constructor
   ·rintro(a|rfl)
    ·exact⟨.inl a.1,a.2⟩
    ·exact⟨.inr k0,h.1,h.2.1⟩
   ·rintro⟨a|a,b⟩
    ·exact .inl ⟨a,b⟩
    ·exact .inr a
  ·rw[j3 h,qA,qB,c x];constructor
   ·rintro a;exact⟨.inl a.1,a.2⟩
   ·rintro⟨a|rfl,b⟩
    ·exact⟨a,b⟩
    ·have:(io (l.take k)).contains l[k]=eR:=by
      cases hc:(io (l.take k)).contains l[k]with
      |true=>rfl
      |false=>exact absurd ⟨b.1,b.2,hc⟩ h
     exact(c _).1 (by simpa using this)
theorem MV(l:au):∀k,k<=j9 l->(io (l.take k)).Nodup
 |0,_=>by simp[io]
 |k+1,hk=>by
  have c:=MV l k k4;rw[BN l,AA];split
  ·rename_i h;rw[List.nodup_append];refine⟨c,k9,λa d b e=>?_⟩;rw[qB.1 e];rintro rfl;have:=h.2.2;rw[List.contains_eq_mem]at this;simp[d]at this
  ·exact c
theorem TO(l:au)(k:Nat):j9 (io (l.take k))<=k:=by
 induction k with
 |zero=>simp[io]
 |succ k ih=>
  by_cases a:k<j9 l
  ·rw[BN l a,AA];split
   ·simp;omega
   ·omega
  ·rw[qi k4]at ih⊢;omega
def Ey(c:Nat)(n:Int):Fr:=(n,Fin.ofNat 129 (HN n.toNat c).toNat)
theorem ahK{c:Nat}{n:Int}(a:c<64)(d:0<=n)(b:n<64):(((Ey c n).2:Nat):Int)=HN n.toNat c:=by have:=aaS (i:=n.toNat) (j:=c) k4 a;show(((HN n.toNat c).toNat%129:Nat):Int)=_;omega
def tU(c:Nat)(l:au):au:=(((io l).map (Ey c)).mergeSort λx y=>!(ltOf Az) y x).map (·.1)
def cK(a block:Int)(l:au):au:=if 0<=a/\a<=16777215/\0<=block/\block<8 then tU ((8*a+block)%64).toNat l else[]
def sU(a:au):ba:=(qx 64).map λi:Nat=>xg (a.contains (i:Int))
theorem age(a:au){n:Int}(b:0<=n)(c:n<64):(sU a)[n.toNat]?=dB (xg (a.contains n)):=by rw[sU,qR,zw k4,qY,show((n.toNat:Nat):Int)=n by omega]
theorem adH(a:au){n:Int}(d:0<=n)(c:n<64):(sU a).set n.toNat (xg eR)=sU (a++[n]):=by
 apply zP;intro i;rw[zb,sU,sU,qR,qR,qw,zt];by_cases b:i<64
 ·rw[zw b,qY,qY];by_cases h:n.toNat=i
  ·rw[j1 h,j1 k4,show((i:Nat):Int)=n by omega];simp
  ·rw[j3 h];have:(a++[n]).contains (i:Int)=a.contains (i:Int):=by rw[List.contains_eq_mem,List.contains_eq_mem];simp;omega
   rw[this]
 ·rw[j3 k4,qQ k8];rfl
abbrev eFr:ce C.toCG 237 242 2 [xb xi 0,.float .f64 0] 16:=⟨_,_,k0,k0,k0,k0,k0,k0⟩
theorem ahL:∀x,∀c∈Ay x,c.oneCell'=eR:=by intro x c a;simp[Ay]at a;rcases a with rfl|rfl<;>rfl
theorem JT(b block:Int)(live:Sl)(l:au)(h:hZ)(V:Rd h live 1 aq l)(Z:j9 l<=2^30:=by omega):
  ab xm 109 #[xb xi b,xb xi block,live] h λv h'=>∃r:Sl,v=r/\Sp h h' [al 3 r 1 aq (cK b block l)]:=by
 have ad:=V.len;refine Mi b block live ?_;unfold Fi;have F:¬(0<=b/\b<=16777215/\0<=block/\block<8)->∃r:Sl,Value.slice eH 0 0=xc r.ptr r.len r.cap/\Sp h h [al 3 r 1 aq (cK b block l)]:=λM=>by
  rw[cK,j3 M];exact⟨⟨eH,0,0⟩,k0,(Sp.refl h).nil 3 1 aq⟩
 refine bi (ai (λe=>F k4) λe1=>ai (λe=>F k4) λe2=>ai (λe=>F k4) λe3=>ai (λe=>F k4) λe4=>?_);have R:0<=b/\b<=16777215/\0<=block/\block<8:=k4
 rw[cK,j1 R];rw[ag (8*b),ag (8*b+block),yD k4];obtain⟨c,hc⟩:∃c:Nat,(8*b+block)%64=c:=⟨((8*b+block)%64).toNat,k4⟩
 have j:c<64:=k4
 rw[hc,qn];refine⟨k6,(WQ c h j).mono ?_⟩;rintro v h2 ⟨rfl,R2⟩;refine⟨((lp c).ax,(lp c).ay),k0,?_⟩;refine R2.alloc ac k0 λa h3 H3=>?_;have J:Sp h h3 [ao a 238 (sU []),al 242 ⟨eH,0,0⟩ 2 Ay []]:=H3.nil 242 2 Ay;refine aw (λt:Sl×Nat=>(t.1,(t.2:Int))) (λt h'=>t.2<=j9 l/\Sp h h' [ao a 238 (sU (io (l.take t.2))),al 242 t.1 2 Ay ((io (l.take t.2)).map (Ey c))]) (λt=>j9 l-t.2) (⟨eH,0,0⟩,0) k0 ⟨k9,J⟩ ?_;rintro⟨s,k⟩ h4 ⟨hk,p⟩;dsimp only at*;have w:=TO l k;refine ai (λe=>?_) (λe=>?_)
 ·have z:k<j9 l:=k4
  have H:=BN l z;obtain⟨f,D⟩:∃f,f=io (l.take k):=⟨_,rfl⟩
  rw[<-D]at p w H;refine(Seq.up V p.aj).bC k k0 z _ k0 ?_;obtain⟨x,W⟩:∃x,x=l[k]:=⟨_,rfl⟩
  rw[<-W]at H⊢;refine bO (λt h'=>(t=eR↔0<=x/\x<64/\f.contains x=eS)/\h'=h4) ?_ ?_
  ·refine ai (λq=>ai (λm=>?_) λm=>⟨⟨λe=>ln,λE=>absurd E.2.1 m⟩,k0⟩) λq=>⟨⟨λe=>ln,λE=>absurd E.1 q⟩,k0⟩;refine⟨⟨q,m⟩,f.contains x,?_,?_,k0⟩
   ·rw[wU];exact(p.box 0 k0).cell (age f q m)
   ·cases f.contains x<;>simp<;>omega
  ·rintro t h5 ⟨U,rfl⟩;refine bQ (λe=>?_) (λe=>?_)
   ·obtain⟨q,m,x2⟩:=U.1 e;refine⟨⟨q,m⟩,?_⟩;rw[wU];refine p.storeAt ac 0 k0 k0 k0 k0 k0 (by simp[sU];omega) λN u=>?_;have Q:Sp h N [ao a 238 (sU (f++[x])),al 242 s 2 Ay (f.map (Ey c))]:=by rw[<-adH f q m];exact u
    obtain⟨n,M⟩:∃n:Nat,x=n:=⟨x.toNat,k4⟩
    subst M;refine(WQ n N k4).mono ?_;rintro v T ⟨rfl,R7⟩;refine⟨((lp n).ax,(lp n).ay),k0,(adG n c T k4 j).mono ?_⟩;rintro v h8 ⟨rfl,rfl⟩;have G:=Q.up R7.aj;have ev:di (HN n c)=di (((Ey c (n:Int)).2:Nat):Int):=by rw[ahK j k4 k4,qn]
    refine⟨_,k0,?_⟩;rw[ev];refine G.push ac 1 k0 eFr k0 k6 (λ_=>rfl) ahL (Ey c (n:Int)) k0 k6 k8 λY h9 S=>?_;refine⟨(Y,k+1),lb,⟨k7,?_⟩,k7⟩;dsimp only;rw[H,AA,j1 ⟨q,m,x2⟩,qW];exact S
   ·refine⟨(s,k+1),lb,⟨k7,?_⟩,k7⟩;dsimp only;rw[H,AA,j3 λE=>by rw[U.2 E]at e;cases e];exact p
 have P:k=j9 l:=k4
 subst P;rw[qS]at p w;refine(TM (p.own 1 k0) k8).mono ?_;rintro v h5 ⟨rfl,O,K⟩;have I:=p.oS 1 k0 K O;obtain⟨d,g⟩:∃d,d=((io l).map (Ey c)).mergeSort λx y=>!(ltOf Az) y x:=⟨_,rfl⟩
 have X:j9 d=j9 (io l):=by rw[g,wJ,qw]
 have eo:tU c l=d.map (·.1):=by rw[tU,<-g]
 rw[<-g]at I;have ah:=(I.own 1 k0).len;rw[eo];refine⟨(),k0,?_⟩;refine aw (λt:Sl×Nat=>(t.1,(t.2:Int))) (λt h'=>t.2<=j9 d/\Sp h h' [al 242 s 2 Ay d,al 3 t.1 1 aq ((d.take t.2).map (·.1))]) (λt=>j9 d-t.2) (⟨eH,0,0⟩,0) k0 ⟨k9,(I.del 0).nil 3 1 aq⟩ ?_;rintro⟨o,i⟩ N ⟨L,u⟩;dsimp only at*;refine ai (λe=>?_) (λe=>?_)
 ·have B:i<j9 d:=k4
  refine(u.seq 0 k0 λ_=>rfl).ey i k0 B (d[i].1,di ((d[i].2:Nat):Int)) k0 ?_;refine u.alloc ac k0 λy T H7=>?_;refine H7.storeAll ac 2 k0 k0 [xb xi d[i].1,.float .f64 (di ((d[i].2:Nat):Int))] k0 k0 k0 k0 λh8 G=>?_;refine⟨d[i].1,(G.box 2 k0).cell0 k0,?_⟩;refine G.push ac 1 k0 afo k0 k6 (λ_=>rfl) eT d[i].1 k0 k6 k8 λo' h9 S=>?_;refine⟨(o',i+1),lb,⟨k7,?_⟩,k7⟩;dsimp only;rw[aH _ _ B,qW];exact S.del 2
 ·rw[qi k4]at u;exact⟨o,k0,u.take 1 λi A L=>by cases i with|zero=>exact L|succ i=>simp at L⟩
theorem adI(l:au)(x:Int):x∈io l↔x∈l/\0<=x/\x<64:=by
 have:=TN l l.length (ql _) x
 rwa [qS]at this
theorem agf(l:au):(io l).Nodup:=by
 have:=MV l l.length (ql _)
 rwa [qS]at this
theorem Ez(c:Nat)(l:au):(tU c l).Perm (io l):=by have h:=(ye ((io l).map (Ey c)) λx y=>!(ltOf Az) y x).map (·.1);rw[wQ]at h;have e:((λx:Fr=>x.1)∘Ey c)=id:=rfl;rw[e,List.map_id]at h;exact h
theorem HQ(c:Nat)(l:au)(x:Int):x∈tU c l↔x∈l/\0<=x/\x<64:=by rw[(Ez c l).mem_iff,adI]
theorem adJ(c:Nat)(l:au):(tU c l).Nodup:=(Ez c l).nodup_iff.2 (agf l)
def IV(l:au)(i:Nat):Int:=l.getD i 0
def dK(o:au)(id:Int):Int:=if o=[]∨id<0 then-1 else IV o (id%(j9 o:Int)).toNat
theorem WT(s:Sl)(o:au)(id:Int)(h:hZ)(g:Rd h s 1 aq o):ab xm 111 #[s,xb xi id] h λv h'=>v=xb xi (dK o id)/\h'=h:=by
 have f:=g.len;refine SX s id ?_;unfold Mj;refine bi (dD (λe=>⟨by rw[dK,j1 (.inl (q8 k4))],k0⟩) λe=>ai (λb=>⟨by rw[dK,j1 (.inr b)],k0⟩) λb=>?_);refine⟨e,?_⟩;have c:¬(o=[]∨id<0):=by
  rintro(rfl|h2)
  ·simp at f;omega
  ·exact b h2
 have d:wg id ((s.len:Nat):Int)=((id%(j9 o:Int)).toNat:Int):=by rw[yD k4,f];have:=yH id (show(j9 o:Int)≠0 by omega);omega
 have a:(id%(j9 o:Int)).toNat<j9 o:=by have:=yi id (show(0:Int)<j9 o by omega);omega
 rw[d];refine g.bC _ k0 a _ k0 ⟨?_,k0⟩;rw[dK,j3 c,IV,qe,qd a];rfl
def uv(p:Pm)(seed:Int)(d:Row)(id:Int):aY:=if bW id then fS p.2.2.toNat (dn p seed d) (dt (bD p).toNat seed id)else[]
def ke(m:aE)(o b seed:Int)(d:Row)(id:Int):cX:=⟨o,b,id,m.p,seed,uv m.p seed d id⟩
def MW(m:aE)(o b seed:Int)(d:Row)(order:au)(id:Int):Int×aY:=(dK order id,cL (ke m o b seed d id))
def nv(m:aE)(o:Int)(tries:au)(a:cC)(live:au)(i:Nat):List (Int×aY):=
 (qx (m.p.1+m.extra).toNat).map λid:Nat=>MW m o i (bI o i (tries.getD i 0)) (a.getD i []) (cK o i live) id
def dL(m:aE)(o:Int)(tries:au)(a:cC)(live:au)(n:Nat):List (Int×aY):=(qx n).flatMap (nv m o tries a live)
theorem uw(m:aE)(o:Int)(tries:au)(a:cC)(live:au)(n:Nat):dL m o tries a live (n+1)=dL m o tries a live n++nv m o tries a live n:=by unfold dL;rw[zR,zj,zg,zT,qL]
theorem EB(m:aE)(o:Int)(tries:au)(a:cC)(live:au)(i:Nat):j9 (nv m o tries a live i)=(m.p.1+m.extra).toNat:=by simp[nv]
theorem AB(m:aE)(o:Int)(tries:au)(a:cC)(live:au):∀n,j9 (dL m o tries a live n)=n*(m.p.1+m.extra).toNat
 |0=>by simp[dL]
 |n+1=>by rw[uw,qy,AB m o tries a live n,EB,zO]
theorem gx(o b t:Int):0<=bI o b t/\bI o b t<4294967296:=by unfold bI;omega
section
variable {B:aB} {h0 h:hZ} {As:List HP} {a pw:hU} {offs:Int} {da:List aQ} {w:Pow} {ds:aF}
theorem QV(x:cw)(m:aE)(xe:eF)(e:Wl.bK)(s:Sl)(b:aY)(hS:St B h0 As λh=>dV h x m/\dS jA h xe e/\Rd h s 1 aD b)(cc:s.len<=s.cap)(hz:dO m)(S:bH m.p=eR)(d4:0<=m.extra/\m.extra<=16)(c7:b.length<=2^20)
  (ht:cR m.p e.object (splitB m.p b).length=dB e.tries) (H:aa B h0 h (bJ cm a pw (bn x) offs da w ds::As)):
  ab xm 49 #[xd (dB a),TD xe,s] h λv h'=>∃(r:Sl) (ys:List (Int×Sl)),v=.tuple #[r,xg eR]/\
   aa B h0 h' (bJ cm a pw (bn x) offs da w ds::dg jG 2 piv r ys (dL m e.object e.tries (splitB m.p b) (be ds m.drives) (splitB m.p b).length)::As):=by
 refine AQ (dB a) xe s ?_;unfold pd;refine H.boxed λL h1 H1=>?_;have H1:=H1.bu;have H1:aa B h0 h1 (bJ cm a pw (bn x) offs da w ds::ao L 94 (bN xe)::As):=H1.bc 2 [1,0];refine(iS x m (hS.at [_,_] H1).1 hz H1).mono ?_;rintro _ h2 ⟨Z,rfl,R2⟩;have H2:=(H1.ck R2).bc 3 [1,0,2];obtain⟨ok,a3⟩:=aa.dP H2;obtain⟨c0,d6,b7⟩:=hS.at [_,_,_] H2;have ax:(x.2.2.1,x.2.2.2.1,x.2.2.2.2.1)=m.p:=c0.p;have c8:=(bZ m.p).1 S;obtain⟨s1,s2,s3⟩:=rp S;obtain⟨c1,c2,c3⟩:=mF S b.length;have b1:(be ds m.drives).length<=m.drives.length:=qT _ _;have dx:=hz.dr;obtain⟨live,X⟩:∃live,live=be ds m.drives:=⟨_,rfl⟩
 rw[<-X]at H2 b1⊢;obtain⟨c,y⟩:∃c,c=splitB m.p b:=⟨_,rfl⟩
 have b5:c.length<=2^20:=by rw[y];unfold splitB;simp;omega
 have ad:∀r∈c,r.length=gp m.p:=by rw[y];intro r hr;unfold splitB at hr;obtain⟨i,_,rfl⟩:=qo.1 hr;exact PJ _ _ _
 refine⟨Z,k0,a,k0,(x.2.2.1,x.2.2.2.1,x.2.2.2.2.1),⟨n5,n5,n5,trivial⟩,?_⟩;rw[ax];refine(Vo m.p s b h2 S b7 cc k4).mono ?_;rintro _ h3 ⟨q,rfl,R3⟩;rw[<-y]at R3 ht⊢;obtain⟨rs,Y⟩:=Go.Qw.aa.afm (H2.ck R3) λ_=>rfl;have Y:=(Y.Kl 101 2 piv jG).bu;have Y:aa B h0 h3 (bJ cm a pw (bn x) offs da w ds::ct 101 ⟨eH,0,0⟩ 2 piv jG (dL m e.object e.tries c live 0)::dg (oE 1 aD) 1 bo q rs c::al 3 Z 1 aq live::ao L 94 (bN xe)::As):=Y.bc 5 [2,0,1,3,4];have dp:=(Y.gy 2 k0).1.len;have d5:=(Y.gy 2 k0).2.1;have dy:=iZ ht;refine⟨q,k0,?_⟩;obtain⟨j,A⟩:∃j:Nat,j=(m.p.1+m.extra).toNat:=⟨_,rfl⟩
 have M:j<=32:=k4
 refine aw (λt:Sl×Nat=>(t.1,(t.2:Int))) (λt h'=>t.2<=c.length/\aa B h0 h' (bJ cm a pw (bn x) offs da w ds::ct 101 t.1 2 piv jG (dL m e.object e.tries c live t.2)::dg (oE 1 aD) 1 bo q rs c::al 3 Z 1 aq live::ao L 94 (bN xe)::As)) (λt=>c.length-t.2) (⟨eH,0,0⟩,0) k0 ⟨k9,Y⟩ ?_;rintro⟨o,i⟩ h4 ⟨hi,H4⟩;dsimp only at*;refine ai (λe1=>?_) (λe1=>?_)
 ·have W:i<c.length:=k4
  have F4:=H4.gy 2 k0;have ar:=H4.box 4 k0;obtain⟨b9,a5,c9⟩:=hS.at [_,_,_,_,_] H4;obtain⟨_,b6⟩:=aa.dP H4;obtain⟨t,bd,b0⟩:=BJ ht i k4;have cf:e.tries.getD i 0=(t:Int):=by rw[qe,qd k4];exact bd
  have cq:c.getD i []=c[i]:=by rw[qe,qd W];rfl
  have J:∀{h':hZ},cA h' L 94 (bN xe)->cellOf h' (L.add 1)=dB (xb xi e.object):=λ{h'} hb=>by rw[<-a5.1.2.1];exact hb.cell k0
  have cp:∀{h':hZ},cA h' a 84 (eJ (bn x) pw offs da)->an h' (a.add 2) 0 [xb xi m.p.1,xb xi m.p.2.1,xb xi m.p.2.2]:=λ{h'} hb=>by
   rw[<-ax];exact⟨m6,m6,m6,trivial⟩
  have a7:=Fix.row F4 W;refine F4.1.bC i k0 k4 (rs[i]'(by omega)) k0 ?_;refine⟨e.object,J ar,xe.2.2.2,ar.cell k0,?_⟩;refine Seq.bC (f:=aq) a5.2 i k0 k4 (t:Int) (by rw[bd];rfl) ?_;refine(rk _ _ _ h4).mono ?_;rintro _ _ ⟨rfl,rfl⟩;refine⟨_,k0,⟨ar.cell k0,trivial⟩,a,k0,m.p,cp b6,?_⟩;obtain⟨seed,k⟩:∃seed,seed=bI e.object i t:=⟨_,rfl⟩
  have hg:=(HE b0).2.1;have T:eI m.p seed (fg m.p)=eR:=by rw[k];exact hg
  obtain⟨K,Hh,w',n,BK⟩:=XG (seed:=seed) (d:=c[i]) S T (by rw[ad _ (qh W),s3]);rw[<-k];refine(ahH BK (rs[i]'(by omega)) _ a7.1 a7.2).mono ?_;rintro _ h6 ⟨U,mm,rfl,R6⟩;have H6:=(H4.comp R6).front;have H6:aa B h0 h6 (bJ cm a pw (bn x) offs da w ds::ct 101 o 2 piv jG (dL m e.object e.tries c live i)::dg (oE 1 aD) 1 bo q rs c::al 3 Z 1 aq live::ao L 94 (bN xe)::fP 34 mm 1 aD (dn m.p seed c[i])::ao U 234 (Cw m.p seed mm)::As):=H6.bc 7 [2,3,4,5,6,0,1];refine⟨(dB U,0),k0,bR (λe2=>absurd k0 e2) λ_=>?_⟩;have bx:=H6.box 4 k0;refine⟨e.object,J bx,(JT e.object i Z live h6 (H6.seq 3 k0 λ_=>rfl)).mono ?_⟩;rintro _ h7 ⟨I,rfl,R7⟩;have H7:=(H6.ck R7).bc 8 [1,2,3,4,5,6,7,0];obtain⟨order,l⟩:∃order,order=cK e.object i live:=⟨_,rfl⟩
  rw[<-l]at H7;have a6:=(aa.dP H7).2;have cl:x.2.2.1=m.p.1:=congrArg (·.1) ax;refine⟨I,k0,a,k0,x.2.2.1,a6.cell k0,a,k0,x.2.2.2.2.2.1,a6.cell k0,?_⟩;have en:qc xi (x.2.2.1+x.2.2.2.2.2.1)=(j:Int):=by rw[cl,b9.extra,ag _];omega
  dsimp only;rw[en];have P:nv m e.object e.tries c live i=(qx j).map λid:Nat=>MW m e.object i seed c[i] order id:=by unfold nv;rw[cf,cq,<-k,<-l,<-A]
  have cn:(nv m e.object e.tries c live i).length=j:=by rw[EB,<-A]
  obtain⟨G,F⟩:∃G,G=dL m e.object e.tries c live i:=⟨_,rfl⟩
  have c6:G.length<=2^26:=by rw[F,AB,<-A];have:=wk (show i<=2^20 by omega) M;omega
  obtain⟨Q,hQ⟩:∃Q,Q=nv m e.object e.tries c live i:=⟨_,rfl⟩
  rw[<-hQ]at P cn;rw[<-F]at H7;refine aw (λt:Sl×Nat=>(t.1,(t.2:Int))) (λt h'=>t.2<=j/\aa B h0 h' (bJ cm a pw (bn x) offs da w ds::ct 101 t.1 2 piv jG (G++Q.take t.2)::dg (oE 1 aD) 1 bo q rs c::al 3 Z 1 aq live::ao L 94 (bN xe)::fP 34 mm 1 aD (dn m.p seed c[i])::ao U 234 (Cw m.p seed mm)::al 3 I 1 aq order::As)) (λt=>j-t.2) (o,0) k0 ⟨k9,by simpa using H7⟩ ?_;rintro⟨o2,id⟩ h8 ⟨hid,R⟩;dsimp only at*;refine ai (λe3=>?_) λe3=>?_
  ·have c5:id<j:=k4
   have am:=R.box 4 k0;have V:=(aa.dP R).2;have E:Ax h8 U m.p seed (dn m.p seed c[i]):=⟨mm,R.box 6 k0,R.Gb 5 k0⟩
   have O:uv m.p seed c[i] id=if bW id then fS w' (dn m.p seed c[i]) (dt n seed id)else[]:=by unfold uv;rw[BK.pQ,show m.p.2.2.toNat=w' by have:=BK.s;omega]
   have held:∀{h':hZ},aX (λb=>b<h8.size) h8 h'->av.ok [((a.add 2),xb xi m.p.1),((a.add 2).add 1,xb xi m.p.2.1),((a.add 2).add 2,xb xi m.p.2.2),(L.add 1,xb xi e.object)] h':=λ{h'} S=>by
    obtain⟨q1,q2,q3,_⟩:=cp (V.aj S V.lt);exact⟨q1,q2,q3,J (am.aj S am.lt),trivial⟩
   refine bO (λ(a8:hU) h'=>∃r:Sl,aa B h0 h' (ao a8 170 (bP (e.object,(i:Int),(id:Int),m.p.1,m.p.2.1,m.p.2.2,seed,r))::al 5 r 1 aD (uv m.p seed c[i] id)::bJ cm a pw (bn x) offs da w ds::ct 101 o2 2 piv jG (G++Q.take id)::dg (oE 1 aD) 1 bo q rs c::al 3 Z 1 aq live::ao L 94 (bN xe)::fP 34 mm 1 aD (dn m.p seed c[i])::ao U 234 (Cw m.p seed mm)::al 3 I 1 aq order::As)) ?_ ?_
   ·refine⟨e.object,J am,a,k0,m.p,cp V,?_,?_⟩
    ·refine(BK.symbol U id h8 E).mono ?_;rintro _ h9 ⟨r,rfl,R9⟩;rw[<-O]at R9;have H9:=R.ck R9;refine⟨r,k0,held R9.aj,H9.Ge ac k0 λa28 d0 b2 a0=>⟨held (aa.up R9 b2).aj,?_⟩⟩;have a0:=a0.bu;refine a0.storeAll ac 0 k0 k0 (bP (e.object,(i:Int),(id:Int),m.p.1,m.p.2.1,m.p.2.2,seed,r)) k0 k0 k0 k0 λd2 cr=>⟨trivial,r,cr⟩
    ·refine R.Ge ac k0 λdd c4 a4 ah=>⟨held a4,?_⟩
     have ah:=ah.bu;refine(BK.symbol U id c4 (E.up a4)).mono ?_;rintro _ dk ⟨r,rfl,a2⟩;rw[<-O]at a2;have b4:=(ah.ck a2).bc 2 [1,0];refine⟨r,k0,held (aa.up (Sp.zip a4) a2.aj).aj,?_⟩;refine b4.storeAll ac 0 k0 k0 (bP (e.object,(i:Int),(id:Int),m.p.1,m.p.2.1,m.p.2.2,seed,r)) k0 k0 k0 k0 λd1 cs=>⟨trivial,r,cs⟩
   ·rintro a8 br ⟨r,N⟩;have g:=N.box 0 k0;have ap:=gx e.object i t;rw[<-k]at ap;refine⟨(e.object,(i:Int),(id:Int),m.p.1,m.p.2.1,m.p.2.2,seed,r),g.aS _ k0,(WT I order id br (N.seq 9 k0 λ_=>rfl)).mono ?_⟩;rintro _ cd ⟨rfl,rfl⟩;refine⟨_,k0,⟨g.cell0 k0,g.cell k0,g.cell k0,g.cell k0,g.cell k0,g.cell k0,g.cell k0,g.cell k0,trivial⟩,?_⟩;refine(sS (e.object,(i:Int),(id:Int),m.p.1,m.p.2.1,m.p.2.2,seed,r) (ke m e.object i seed c[i] id) cd ⟨⟨k0,k0,k0,k0,k0,ap.1,ap.2⟩,N.seq 1 k0 λ_=>rfl⟩).mono ?_;rintro _ du ⟨u,rfl,bq⟩;have bb:=(N.ck bq).gF 0 k0 (D:=EA jG (dK order id,u) (MW m e.object i seed c[i] order id)) λz hz=>⟨k0,hz.1.seq (λ_=>rfl) hz.2⟩
    have a9:Q[id]'(by omega)=MW m e.object i seed c[i] order id:=by simp[P]
    refine⟨u,k0,trivial,?_⟩;refine bb.oT ac piv Tq k0 [(dK order id,u)] k0 (show 1*2<=2^20 by decide) k0 trivial ?_;refine aa.uN ac bb 4 0 k6 (a:=(dK order id,u)) k0 k0 Tq k0 k6 (λ_=>rfl) OC (parts:=#[(0,xh #[xb xi (dK order id),u])]) l0 k6 k8 λo3 d3 b3=>⟨trivial,?_⟩
    refine⟨(o3,id+1),lb,⟨k7,?_⟩,k7⟩;dsimp only;rw[aH Q id,a9,<-qt];exact b3.rest.rest.rest
  ·have ay:id=j:=k4
   subst ay;rw[qi k4]at R;refine⟨(o2,i+1),lb,⟨k7,?_⟩,k7⟩;dsimp only;rw[uw,<-F,<-hQ];exact R.bc 8 [0,1,2,3,4]
 ·have ay:i=c.length:=k4
  subst ay;obtain⟨ys,H5⟩:=H4.RP 1 rfl λ_=>rfl;exact⟨o,ys,k0,H5.bc 5 [0,1]⟩
end
end Go.Qw
namespace Wl
open Go
def kS(a:Nat)(l:List (Int×aY))(k:Int):Int:=(a:Int)+j9 (l.filter λy=>decide (y.1=k))
end Wl
namespace Go.Qw
open Go Go.Vc Go.Proofs Wl
theorem aaV(k:Int)(d c:hU)(a:Nat)(r:Sl)(o:List (Int×Sl))(l:List (Int×aY))(h:hZ)(z:a<=2^30)(E:j9 l<=2^30)(u:cA h d 3 [xb xi a])(s:cA h c 89 [r])(p:oa jG 2 piv h r o l):
  ab xm 51 #[xb xi k,xd (dB d),xd (dB c)] h λv h'=>v=xb xi (kS a l k)/\Sp h h' []:=by
 refine CS k d c ?_;unfold rQ;have B:=p.1.len;have D:=p.2.1;refine⟨(a:Int),u.cell0 k0,r,s.cell0 k0,?_⟩;refine aw (λi:Nat=>(kS a (l.take i) k,(i:Int))) (λi h'=>i<=j9 l/\Sp h h' []) (λi=>j9 l-i) 0 (by simp[kS]) ⟨k4,Sp.refl h⟩ ?_;rintro i G ⟨H,q⟩;dsimp only;have w:(j9 ((l.take i).filter λy=>decide (y.1=k)):Int)<=i:=by have:=qT (λy:Int×aY=>decide (y.1=k)) (l.take i);simp at this;omega
 refine ai (λe=>?_) λe=>?_
 ·have f:i<j9 l:=k4
  have n:=oa.up p q.aj;refine n.1.ey (g:=piv) i k0 k4 (o[i]'(by omega)) k0 ?_;refine q.alloc ac k0 λx F A=>?_;refine A.storeAll ac 0 k0 k0 (piv (o[i]'(by omega))) k0 k0 k0 k0 λh3 m=>?_;have m:Sp h h3 [ao x 101 (piv (o[i]'(by omega)))]:=m;have j:=Fix.row n f;have b:kS a (l.take (i+1)) k=kS a (l.take i) k+(if l[i].1=k then 1 else 0):=by
   unfold kS;rw[aH _ _ f,zl,qy,zp,yJ];split
   ·rename_i t;rw[j1 (j8 t)];simp;omega
   ·rename_i t;rw[j3 yr];simp
  refine⟨l[i].1,by rw[<-j.1];exact(m.box 0 k0).cell0 k0,dD (λg=>?_) λg=>?_⟩
  ·refine⟨i+1,?_,⟨k4,.zip m.aj⟩,k4⟩;rw[b,j1 g,ag (kS a (l.take i) k+1) (by unfold kS;omega) (by unfold kS;omega),ag _];rfl
  ·refine⟨i+1,?_,⟨k4,.zip m.aj⟩,k4⟩;rw[b,j3 g,Int.add_zero,ag _];rfl
 ·rw[qi k4];exact⟨k0,q⟩
def gW(m:aE)(offs:Int)(w:Pow)(ds:aF)(name:ByteArray)(b:aY):Int×aE×Pow×aF:=
 if dE m (gT w offs) ds name b.length≠0 then(dE m (gT w offs) ds name b.length,m,w,ds)else
 match cR m.p m.next (splitB m.p b).length with
 |none=>(8,m,w,ds)
 |some t=>
  let live:=be ds m.drives;let l:=dL m m.next t (splitB m.p b) live (splitB m.p b).length;let n:=dw m ⟨name,m.next,j9 b,t⟩;let N:=kS (bs n).length l
  if iy m ds live N=eS then(7,m,w,ds)else
  if(makes m N live w ds).1≠0 then((makes m N live w ds).1,m,(makes m N live w ds).2)else
  let a:=layAll l (makes m N live w ds).2.1 (makes m N live w ds).2.2
  if a.1≠0 then(a.1,m,a.2)else
  ((layAll (cg n live) a.2.1 a.2.2).1,if(layAll (cg n live) a.2.1 a.2.2).1=0 then n else m,(layAll (cg n live) a.2.1 a.2.2).2)
theorem kf{m:aE}{d:Bool}{ds:aF}{name:ByteArray}{n:Nat}(h:dE m d ds name n=0):
  d=eS/\mg name=eR/\m.aG.any (Aw name)=eS/\¬(m.p.1*m.p.2.2*8<(n:Int)∨12<=j9 m.aG)/\¬(be ds m.drives=[]∨16777215<m.next∨2147483647<=m.seq):=by
 unfold dE at h;split at h
 ·cases h
 ·rename_i e;split at h
  ·cases h
  ·rename_i c;split at h
   ·cases h
   ·rename_i h3;split at h
    ·cases h
    ·rename_i a;split at h
     ·cases h
     ·rename_i b;exact⟨n3,oo,by simpa using h3,a,b⟩
theorem xD{m:aE}{b:aY}(a:bH m.p=eR)(h:¬m.p.1*m.p.2.2*8<(j9 b:Int)):j9 (splitB m.p b)<=8:=by obtain⟨g,f,c⟩:=rp a;obtain⟨e,d,c3⟩:=mF a b.length;unfold splitB;rw[qw,zt];refine Nat.le_of_not_lt λh8=>?_;have:=c3 8 k4;rw[<-c]at h;omega
theorem ahM{o:au}(b:o≠[])(id:Nat):dK o id∈o:=by
 unfold dK IV;rw[j3 (by rintro(h|h);exact b h;omega)];have c:0<j9 o:=by cases o with|nil=>exact absurd rfl b|cons=>simp
 have a:((id:Int)%(j9 o:Int)).toNat<j9 o:=by have:=yi (id:Int) (show(0:Int)<j9 o by omega);have:=yH (id:Int) (show(j9 o:Int)≠0 by omega);omega
 rw[qe,qd a];exact qh a
theorem TP{m:aE}{o:Int}{tries:au}{j:cC}{live:au}(s:0<=o/\o<=16777215)(p:live≠[])(e:∀k∈live,0<=k/\k<64){n:Nat}(r:n<=8){y:Int×aY}(c:y∈dL m o tries j live n):y.1∈live/\y.2.length<=64:=by
 unfold dL at c;obtain⟨i,g,c⟩:=zB.1 c;have g:=qD.1 g;unfold nv at c;obtain⟨id,_,rfl⟩:=qo.1 c;refine⟨?_,?_⟩
 ·show dK _ _∈live;have d:cK o i live=tU ((8*o+i)%64).toNat live:=by unfold cK;rw[j1 k4]
  have b:∀a,a∈cK o i live↔a∈live/\0<=a/\a<64:=λa=>by rw[d];exact HQ _ _ _
  have f:cK o i live≠[]:=λh=>by
   cases live with
   |nil=>exact p k0
   |cons a l=>
    have:=(b a).2 ⟨qI,e a qI⟩;rw[h]at this;cases this
  exact((b _).1 (ahM f id)).1
 ·show(cL _).length<=64;unfold cL;split
  ·rename_i q;refine vQ (mI k6 k6 ?_);have:=oV q;omega
  ·simp
theorem agh{m:aE}{e:Wl.bK}(b:dO m)(g:m.aG.length<=11)(c:e.name.size<=2^30)(d:e.tries.length<=2^30):dO (dw m e):=by
 refine⟨b.dr,?_,λf a=>?_⟩
 ·show((m.aG++[e]).mergeSort sO).length<=2^30;rw[wJ];simp;omega
 ·have a:f∈(m.aG++[e]).mergeSort sO:=a;rcases qA.1 ((ye _ _).mem_iff.1 a)with h|h
  ·exact b.nm f h
  ·rw[qB.1 h];exact⟨c,d⟩
section
variable {B:aB} {h0 h:hZ} {As:List HP} {a pw:hU} {offs:Int} {da:List aQ} {w:Pow} {ds:aF}
theorem adK(x:cw)(m:aE)(name:ByteArray)(s:Sl)(b:aY)(hS:St B h0 As λh=>Rd h s 1 aD b)(cr:s.len<=s.cap)(hn:name.size<=2^40)(Y:dO m)(hp:bH m.p=eR)(c7:0<=m.extra/\m.extra<=16)(c5:∀k∈m.drives,0<=k/\k<64)(cq:m.drives.length<=64)(dp:0<=m.seq)(a1:0<=m.next)(b3:b.length<=2^20)
  (H:aa B h0 h (bJ cm a pw (bn x) offs da w ds::dC x m::As)):
  ab xm 10 #[xd (dB a),xf name,s] h λv h'=>v=xb xi (gW m offs w ds name b).1/\
   ∃y,aa B h0 h' (bJ cm a pw (bn y) offs da (gW m offs w ds name b).2.2.1 (gW m offs w ds name b).2.2.2::dC y (gW m offs w ds name b).2.1::As):=by
 refine FG (dB a) name s ?_;unfold uA;have ap:=(hS.at [_,_] H).len;refine(TF x m name s b.length ap hn (H.at 1 k0) Y hp H).mono ?_;rintro _ h1 ⟨rfl,R1⟩;have H1:=H.up R1.aj;refine⟨_,k0,bR (λe=>?_) λe1=>?_⟩
 ·have ep:gW m offs w ds name b=(dE m (gT w offs) ds name b.length,m,w,ds):=by unfold gW;rw[j1 e]
  rw[ep];exact⟨k0,x,H1⟩
 obtain⟨z1,z2,z3,z4,z5⟩:=kf e1;have c0:¬m.p.1*m.p.2.2*8<(b.length:Int):=λh=>z4 (.inl h);have a2:m.aG.length<=11:=by have:¬12<=m.aG.length:=λh=>z4 (.inr h);omega
 have cs:be ds m.drives≠[]:=λh=>z5 (.inl h);have c2:m.next<=16777215:=by have:¬16777215<m.next:=λh=>z5 (.inr (.inl h));omega
 have eh:m.seq<=2147483646:=by have:¬2147483647<=m.seq:=λh=>z5 (.inr (.inr h));omega
 have h8:=xD hp c0;have d4:name.size<=12:=by unfold mg at z2;simp at z2;omega
 have cl:=(aa.dP H1).2;have a8:dV h1 x m:=H1.at 1 k0;refine⟨a,k0,x.2.1,cl.cell k0,H1.alloc ac k0 λa4 h2 H2=>?_⟩;have H2:=H2.bu;refine H2.storeAll ac 0 k0 k0 (bN (name,x.2.1,(s.len:Int),⟨eH,0,0⟩)) k0 k0 k0 k0 λh3 H3=>?_;have H3:aa B h0 h3 (ao a4 94 (bN (name,m.next,(b.length:Int),⟨eH,0,0⟩))::bJ cm a pw (bn x) offs da w ds::dC x m::As):=by rw[<-a8.next,<-ap];exact H3
 have cp:∀{h':hZ},cA h' a 84 (eJ (bn x) pw offs da)->an h' (a.add 2) 0 [xb xi m.p.1,xb xi m.p.2.1,xb xi m.p.2.2]:=λ{h'} hb=>by
  rw[<-a8.p];exact⟨m6,m6,m6,trivial⟩
 obtain⟨nb,M⟩:∃nb,nb=(splitB m.p b).length:=⟨_,rfl⟩
 have bq:countP m.p (s.len:Nat)=(nb:Int):=by have:=(mF hp b.length).1;rw[M,ap];unfold splitB;rw[qw,zt];omega
 refine bO (λ(t:Sl×Bool) h'=>(cR m.p m.next nb=eH->t.2=eS/\aa B h0 h' (bJ cm a pw (bn x) offs da w ds::dC x m::As))/\(∀l,cR m.p m.next nb=dB l->t.2=eR/\aa B h0 h' (al 3 t.1 1 aq l::ao a4 94 (bN (name,m.next,(b.length:Int),⟨eH,0,0⟩))::bJ cm a pw (bn x) offs da w ds::dC x m::As))) ?_ ?_
 ·have c1:=H3.box 0 k0;have S:=(aa.dP (H3.bc 3 [1,0,2])).2;refine⟨a,k0,m.p,cp S,m.next,c1.cell k0,a,k0,m.p,cp S,(Ev m.p s.len h3).mono ?_⟩;rintro _ h4 ⟨rfl,R4⟩;have H4:=H3.up R4.aj;have cd:=S.aj R4.aj S.lt;obtain⟨q1,q2,q3,_⟩:=cp cd;refine⟨_,k0,⟨(H4.box 0 k0).cell k0,q1,q2,q3,trivial⟩,?_⟩;rw[bq];refine(Yg m.p m.next nb h4 k4).mono ?_;rintro _ h5 ⟨T0,T1⟩;cases ht:cR m.p m.next nb with
  |none=>
   obtain⟨rfl,R5⟩:=T0 ht;exact⟨(⟨eH,0,0⟩,eS),k0,trivial,λ_=>⟨k0,(H4.up R5.aj).bc 3 [1,2]⟩,λl h=>l9⟩
  |some l=>
   obtain⟨r,rfl,R5⟩:=T1 l ht;exact⟨(r,eR),k0,trivial,λh=>l9,λl' h=>(by injection h with h;subst h;exact⟨k0,H4.ck R5⟩)⟩
 rintro⟨j,tb⟩ h6 ⟨T0,T1⟩;dsimp only at T0 T1⊢;cases ht:cR m.p m.next nb with
 |none=>
  obtain⟨rfl,H6⟩:=T0 ht;have ep:gW m offs w ds name b=(8,m,w,ds):=by unfold gW;rw[j3 u9,<-M,ht]
  rw[ep];exact bj (λ_=>⟨k0,x,H6⟩) λe=>ln
 |some t=>
  obtain⟨rfl,H6⟩:=T1 t ht;refine bj (λe=>ln) λ_=>?_;have eb:=iZ ht;refine H6.store ac 1 k0 k0 3 [j] k0 k0 k0 k9 λh7 H7=>?_;obtain⟨e,he⟩:∃e:Wl.bK,e=⟨name,m.next,b.length,t⟩:=⟨_,rfl⟩
  have H7:aa B h0 h7 (al 3 j 1 aq e.tries::ao a4 94 (bN (name,m.next,(b.length:Int),j))::bJ cm a pw (bn x) offs da w ds::dC x m::As):=by rw[he];exact H7
  have H7:=H7.bc 4 [2,3,0,1];have dd:St B h0 (dC x m::al 3 j 1 aq e.tries::ao a4 94 (bN (name,m.next,(b.length:Int),j))::As) λh=>dV h x m/\dS jA h (name,m.next,(b.length:Int),j) e/\Rd h s 1 aD b:=λBs h' i=>
   ⟨(St.fw 0 k0 λ_ q=>q) Bs h' i,(St.fw (A:=al 3 j 1 aq e.tries) (Q:=λh=>dS jA h (name,m.next,(b.length:Int),j) e) 1 k0 λh' q=>⟨by rw[he];exact⟨k0,k0,k0⟩,q.1.seq (λ_=>rfl) q.2⟩) Bs h' i,(hS.cons.cons.cons) Bs h' i⟩
  refine⟨(name,m.next,(b.length:Int),j),(H7.box 3 k0).aS _ k0,?_⟩;refine(QV x m (name,m.next,(b.length:Int),j) e s b dd cr Y hp c7 b3 (by rw[he,<-M];exact ht) H7).mono ?_;rintro _ eo ⟨r,ys,rfl,H8⟩;obtain⟨live,c⟩:∃live,live=be ds m.drives:=⟨_,rfl⟩
  obtain⟨l,hl⟩:∃l,l=dL m m.next t (splitB m.p b) live nb:=⟨_,rfl⟩
  have b4:dL m e.object e.tries (splitB m.p b) (be ds m.drives) (splitB m.p b).length=l:=by rw[hl,he,<-c,<-M]
  rw[b4]at H8;refine⟨(r,eR),k0,H8.alloc ac k0 λf h9 H9=>?_⟩;have H9:=H9.bu;refine H9.storeAll ac 0 k0 k0 [r] k0 k0 k0 k0 λay o=>?_;refine bj (λe=>ln) λ_=>?_;obtain⟨n,R⟩:∃n,n=dw m e:=⟨_,rfl⟩
  have o:aa B h0 ay (ao f 89 [r]::bJ cm a pw (bn x) offs da w ds::dg jG 2 piv r ys l::dC x m::al 3 j 1 aq e.tries::ao a4 94 (bN (name,m.next,(b.length:Int),j))::As):=o;have o:aa B h0 ay (uh j 1 aq e.tries::bJ cm a pw (bn x) offs da w ds::dC x m::dg jG 2 piv r ys l::ao f 89 [r]::ao a4 94 (bN (name,m.next,(b.length:Int),j))::As):=(o.freeze 4 k0 λ_=>rfl).bc 6 [4,1,3,2,0,5];have b6:((name,m.next,(b.length:Int),j):eF).1=e.name/\((name,m.next,(b.length:Int),j):eF).2.1=e.object/\((name,m.next,(b.length:Int),j):eF).2.2.1=e.length:=by rw[he];exact⟨k0,k0,k0⟩
  have O:∀{h':hZ} {Cs:List HP},aa B h0 h' (uh j 1 aq e.tries::Cs)->dV h' x m->ab xm 50 #[ge x,TD (name,m.next,(b.length:Int),j)] h' λv b5=>∃y:cw,v=ge y/\aa B h0 b5 (dC y n::Cs):=λ{h' Cs} i hx'=>by
   rw[R];exact aaL x m _ e hx' Y ⟨dp,k4⟩ ⟨a1,k4⟩ a2 b6 i
  have K:=(aa.dP (o.bc 2 [1,0])).2;have J:=o.box 5 k0;have bb:dV ay x m:=o.at 2 k0;refine bO (λ(t:hU×Sl) h'=>∃y,aa B h0 h' (bJ cm a pw (bn x) offs da w ds::dC x m::dg jG 2 piv r ys l::ao f 89 [r]::ao t.1 44 (bn y)::dC y n::al 3 t.2 1 aq live::As)) ?_ ?_
  ·refine⟨a,k0,x,K.aS _ k0,(name,m.next,(b.length:Int),j),J.aS _ k0,?_,?_⟩
   ·refine(O o bb).mono ?_;rintro _ ei ⟨y,rfl,I⟩;have I:=I.bc 6 [1,2,3,4,0];refine⟨y,k0,trivial,?_,?_⟩
    ·refine(iS x m (I.at 1 k0) Y I).mono ?_;rintro _ eq ⟨G,rfl,bk⟩;rw[<-c]at bk;have cn:=I.ck bk;refine⟨G,k0,trivial,cn.alloc ac k0 λdy d7 ar=>⟨trivial,?_⟩⟩;have ar:=ar.bu;refine ar.storeAll ac 0 k0 k0 (bn y) k0 k0 k0 k0 λed c6=>⟨trivial,y,?_⟩
     exact c6.bc 7 [2,3,4,5,0,6,1]
    ·refine I.alloc ac k0 λa22 d5 X=>⟨trivial,?_⟩
     have X:=X.bu;have ad:=X.bc 6 [1,2,3,4,5,0];refine(iS x m (ad.at 1 k0) Y ad).mono ?_;rintro _ ef ⟨G,rfl,a9⟩;rw[<-c]at a9;have b1:=(X.ck a9).bc 2 [1,0];refine⟨G,k0,trivial,b1.storeAll ac 0 k0 k0 (bn y) k0 k0 k0 k0 λd9 dr=>⟨trivial,y,?_⟩⟩;exact dr.bc 7 [2,3,4,5,0,6,1]
   ·refine o.Ge ac k0 λea ec bd V=>?_;have d:=K.aj bd K.lt;have F:=J.aj bd J.lt;refine⟨⟨F.cell0 k0,F.cell k0,F.cell k0,F.cell k0,d.cell0 k0,d.cell k0,d.cell k0,d.cell k0,d.cell k0,d.cell k0,d.cell k0,d.cell k0,trivial⟩,?_⟩;have V:=(V.bu).bc 7 [1,0,2,3,4,5];refine(O V (V.at 3 k0)).mono ?_;rintro _ ej ⟨y,rfl,b9⟩;have L:=b9.bc 6 [2,3,4,5,0,1];refine⟨y,k0,trivial,(iS x m (L.at 1 k0) Y L).mono ?_⟩;rintro _ d1 ⟨G,rfl,b0⟩;rw[<-c]at b0;have cc:=(L.ck b0).bc 7 [6,0,1,2,3,4,5];refine⟨G,k0,trivial,cc.storeAll ac 0 k0 k0 (bn y) k0 k0 k0 k0 λd6 b2=>⟨trivial,y,?_⟩⟩;exact b2.bc 7 [2,3,4,5,0,6,1]
  rintro⟨am,G⟩ c4 ⟨y,W⟩;dsimp only at W⊢;have a0:dO n:=by rw[R];exact agh Y a2 (by rw[he];show name.size<=2^30;omega) (by rw[he];show t.length<=2^30;omega)
  have dx:n.drives=m.drives:=by rw[R];rfl
  have d8:live.length<=64:=by rw[c];exact zf (qT _ _) cq
  have u:∀k∈live,0<=k/\k<64:=λk hk=>by rw[c]at hk;exact c5 k (qH.1 hk).1
  have a5:(m.p.1+m.extra).toNat<=32:=by have:=(bZ m.p).1 hp;omega
  have eg:l.length<=256:=by rw[hl,AB];exact wk (show nb<=8 by omega) a5
  have du:∀z∈l,(0<=z.1/\z.1<64)/\z.2.length<=2^20:=λz br=>by
   rw[hl]at br;obtain⟨p1,p2⟩:=TP (m:=m) ⟨a1,c2⟩ (by rw[c];exact cs) u (show nb<=8 by omega) br;exact⟨u _ p1,zf p2 k6⟩
  refine⟨y,(W.box 4 k0).aS _ k0,(wd y n c4 (W.at 5 k0) a0).mono ?_⟩;rintro _ en ⟨pg,rfl,a7⟩;have ah:=(aa.DO a7).1;have a6:=lZ n a0;obtain⟨pn,bx⟩:∃pn,pn=(bs n).length:=⟨_,rfl⟩
  rw[<-bx]at ah a6;have b7:=W.up a7.aj;refine⟨pg,k0,b7.alloc ac k0 λD d3 ax=>?_⟩;have ax:=ax.bu;refine ax.storeAll ac 0 k0 k0 [xb xi (pg.len:Int)] k0 k0 k0 k0 λdk E=>?_;rw[ah]at E;have E:aa B h0 dk (bJ cm a pw (bn x) offs da w ds::dC x m::dg jG 2 piv r ys l::ao f 89 [r]::ao am 44 (bn y)::dC y n::al 3 G 1 aq live::ao D 3 [xb xi (pn:Int)]::As):=E.bc 8 [1,2,3,4,5,6,7,0];obtain⟨N,hN⟩:∃N,N=kS pn l:=⟨_,rfl⟩
  obtain⟨T,P⟩:∃T,T=dC x m::dg jG 2 piv r ys l::ao f 89 [r]::ao am 44 (bn y)::dC y n::al 3 G 1 aq live::ao D 3 [xb xi (pn:Int)]::As:=⟨_,rfl⟩
  have tX:St B h0 T λh=>dV h x m:=by rw[P];exact St.fw 0 k0 λ_ q=>q
  have tF:St B h0 T λh=>oa jG 2 piv h r ys l:=by rw[P];exact St.fw 1 k0 λ_ q=>q
  have tB:St B h0 T λh=>cA h f 89 [r]:=by rw[P];exact St.fw (A:=ao f 89 [r]) 2 k0 λ_ q=>q.1
  have tM:St B h0 T λh=>cA h am 44 (bn y):=by rw[P];exact St.fw (A:=ao am 44 (bn y)) 3 k0 λ_ q=>q.1
  have tY:St B h0 T λh=>dV h y n:=by rw[P];exact St.fw 4 k0 λ_ q=>q
  have tL:St B h0 T λh=>Rd h G 1 aq live:=by rw[P];exact St.fw (A:=al 3 G 1 aq live) 5 k0 λ_ q=>q.1.seq (λ_=>rfl) q.2
  have tN:St B h0 T λh=>cA h D 3 [xb xi (pn:Int)]:=by rw[P];exact St.fw (A:=ao D 3 [xb xi (pn:Int)]) 6 k0 λ_ q=>q.1
  have tT:St B h0 T λh=>Yk 51 #[] #[xd (dB D),xd (dB f)] N live h:=λBs h' i k hk=>by
   rw[hN];exact aaV k D f pn r ys l h' k4 k4 (tN Bs h' i) (tB Bs h' i) (tF Bs h' i)
  have fin:∀{h':hZ} {z:cw} {w':Pow} {ds':aF},aa B h0 h' (bJ cm a pw (bn x) offs da w' ds'::T)->aa B h0 h' (bJ cm a pw (bn x) offs da w' ds'::dC x m::As):=λ{h' z w' ds'} i=>by
   rw[P]at i;exact i.bc 8 [0,1]
  rw[<-P]at E;have ep:gW m offs w ds name b=(if iy m ds live N=eS then(7,m,w,ds)else if(makes m N live w ds).1≠0 then((makes m N live w ds).1,m,(makes m N live w ds).2)else
    if(layAll l (makes m N live w ds).2.1 (makes m N live w ds).2.2).1≠0 then((layAll l (makes m N live w ds).2.1 (makes m N live w ds).2.2).1,m,(layAll l (makes m N live w ds).2.1 (makes m N live w ds).2.2).2)else
    ((layAll (cg n live) (layAll l (makes m N live w ds).2.1 (makes m N live w ds).2.2).2.1 (layAll l (makes m N live w ds).2.1 (makes m N live w ds).2.2).2.2).1,if(layAll (cg n live) (layAll l (makes m N live w ds).2.1 (makes m N live w ds).2.2).2.1 (layAll l (makes m N live w ds).2.1 (makes m N live w ds).2.2).2.2).1=0 then n else m,(layAll (cg n live) (layAll l (makes m N live w ds).2.1 (makes m N live w ds).2.2).2.1 (layAll l (makes m N live w ds).2.1 (makes m N live w ds).2.2).2.2).2)):=by
   rw[hN,bx,hl,R,he,c];unfold gW;rw[j3 u9,<-M,ht]
  rw[ep];refine(Yl 51 #[] #[xd (dB D),xd (dB f)] N x m G live m7 (λBs h' i=>⟨tX Bs h' i,tT Bs h' i⟩) Y (tL.at [_] E) k4 u E).mono ?_;rintro _ ek ⟨rfl,c8⟩;have a3:=E.up c8.aj;refine⟨_,k0,bj (λg=>?_) λg=>?_⟩
  ·rw[j1 g];exact⟨k0,x,fin (z:=x) a3⟩
  rw[j3 (by rw[g];decide)];refine(Yn 51 #[] #[xd (dB D),xd (dB f)] N x m G live m7 (λBs h' i=>⟨tX Bs h' i,tT Bs h' i,tL Bs h' i⟩) Y k4 u a3).mono ?_;rintro _ d0 ⟨rfl,Z⟩;obtain⟨m1,cf⟩:∃m1,m1=makes m N live w ds:=⟨_,rfl⟩
  rw[<-cf]at Z⊢;refine⟨_,k0,bR (λg2=>?_) λg2=>?_⟩
  ·rw[j1 g2];exact⟨k0,x,fin (z:=x) Z⟩
  rw[j3 (by simpa using g2)];refine⟨r,(tB.at [_] Z).cell0 k0,(HC r ys l tF k4 du Z).mono ?_⟩;rintro _ el ⟨rfl,U⟩;obtain⟨r2,c9⟩:∃r2,r2=layAll l m1.2.1 m1.2.2:=⟨_,rfl⟩
  rw[<-c9]at U⊢;refine⟨_,k0,bR (λg3=>?_) λg3=>?_⟩
  ·rw[j1 g3];exact⟨k0,x,fin (z:=x) U⟩
  rw[j3 (by simpa using g3)];refine⟨y,(tM.at [_] U).aS _ k0,(Yq x y n G live (λBs h' i=>⟨tY Bs h' i,tL Bs h' i⟩) a0 k4 u U).mono ?_⟩;rintro _ d2 ⟨rfl,Q1,Q0⟩;refine⟨_,k0,k0,?_⟩;by_cases g4:(layAll (cg n live) r2.2.1 r2.2.2).1=0
  ·obtain⟨y2,bl⟩:=Q0 g4;rw[j1 g4];rw[P]at bl;exact⟨y2,bl.bc 9 [0,1]⟩
  ·rw[j3 g4];exact⟨x,fin (z:=x) (Q1 g4)⟩
end
theorem Yt(n:Nat)(x:Int)(h:hZ)(j:n<=2^30):ab xm 11 #[xb xi n,xb xi x] h λv h'=>∃(r:Sl) (l:aY),v=r/\l.length=n/\Sp h h' [al 5 r 1 aD l]:=by
 refine AO n x ?_;unfold oZ;refine aw (λt:Sl×Nat×aY=>(t.1,(t.2.1:Int))) (λt h'=>t.2.1<=n/\t.2.2.length=t.2.1/\Sp h h' [al 5 t.1 1 aD t.2.2]) (λt=>n-t.2.1) (⟨eH,0,0⟩,0,[]) k0 ⟨k9,k0,(Sp.refl h).nil 5 1 aD⟩ ?_;rintro⟨o,i,l⟩ m ⟨p,g,a⟩;dsimp only at*;refine ai (λe=>?_) λe=>?_
 ·have d:i<n:=k4
  refine⟨k6,Int.tmod_nonneg _ k4,?_⟩;rw[eV];generalize b8 (qc xi _)=c;refine a.push ac 0 k0 gM k0 k6 (λ_=>rfl) iK c k0 k6 k4 λf k b=>?_;refine⟨(f,i+1,l++[c]),lb,⟨k7,?_,b⟩,k7⟩;simp[g]
 ·exact⟨o,l,k0,k4,a⟩
end Go.Qw
namespace Go.Vc
open Go Wl Go.Qw
section
variable {α:Type} {B:aB} {h0 h:hZ} {As:List HP} {k:Nat} {f:α->ba} {L M:List (Sl×List α)}
theorem aa.adL(H:aa B h0 h (go k f L::go k f M::As)):aa B h0 h (go k f (L++M)::As):=by
 have g:aa B h0 h ((go k f M).sep (go k f L)::As):=H.mb;refine g.gF 0 k0 λq ⟨j,i,_,b,c,d,e⟩ y a=>?_;rcases qA.1 a with a|a
 ·exact(e y a).mono c
 ·exact(d y a).mono b
end
end Go.Vc
namespace Wl
open Go
def EC(o b:Int)(a:List cX):List (Int×aY):=(a.filter λr=>decide (r.object=o)&&decide (r.block=b)).map λr=>(r.id,r.data)
def Dx(m:aE)(o b:Int)(l:cC):List (Int×aY):=((cS m l).filter λr=>decide (r.object=o)&&decide (r.block=b)).map λr=>(r.id,r.data)
def dM(m:aE)(ds:aF)(o b:Int)(k:Int):List (Int×aY):=match aW ds k with|some d=>Dx m o b d.l|none=>[]
def fc(m:aE)(ds:aF)(a:au)(o b:Int):List (Int×aY):=a.flatMap (dM m ds o b)
end Wl
namespace Go.Qw
open Go Go.Vc Go.Proofs Wl
abbrev aiJ:ce C.toCG 114 117 2 [xb xi 0,xc eH 0 0] 32:=⟨_,_,k0,k0,k0,k0,k0,k0⟩
def Yu(pool:List (Sl×aY))(p:(Int×Sl)×(Int×aY)):Prop:=p.1.1=p.2.1/\(p.1.2,p.2.2)∈pool
section
variable {B:aB} {h0 h:hZ} {As:List HP} {a pw:hU} {offs:Int} {da:List aQ} {w:Pow} {ds:aF} {mc:ba}
theorem HR(x:cw)(m:aE)(s:Sl)(f:au)(o b:Int)(hx:dV h x m)(hz:dO m)(hs:Rd h s 1 aq f)(hl:f.length<=2^10)(hd:∀k∈f,∃d,aW ds k=dB d)(H:aa B h0 h (bJ cm a pw mc offs da w ds::As)):
  ab xm 63 #[.func (.func 35) #[xd (dB a)] #[],s,ge x,xb xi o,xb xi b] h λv h'=>∃(r:Sl) (ys:List (Int×Sl)),v=r/\Sp h h' [dg jG 2 piv r ys (fc m ds f o b)]:=by
 refine LV (35,#[xd (dB a)],#[]) s x o b ?_;unfold Fc;have a8:=hs.len;refine(Sp.refl h).boxed λa1 R H1=>?_;have H1:Sp h R [ao a1 44 (bn x)]:=H1;have H1:Sp h R [al 117 ⟨eH,0,0⟩ 2 piv (([]:List ((Int×Sl)×(Int×aY))).map qM),go 1 aD [],ao a1 44 (bn x)]:=((H1.WM 1 aD).nil 117 2 piv).cD [2,0,1];refine aw (λt:Sl×Nat×List ((Int×Sl)×(Int×aY))×List (Sl×aY)=>(t.1,(t.2.1:Int))) (λt h'=>t.2.1<=f.length/\t.2.2.1.length<=t.2.1*512/\t.2.2.1.map zH=fc m ds (f.take t.2.1) o b/\(∀p∈t.2.2.1,Yu t.2.2.2 p)/\Sp h h' [al 117 t.1 2 piv (t.2.2.1.map qM),go 1 aD t.2.2.2,ao a1 44 (bn x)]) (λt=>f.length-t.2.1) (⟨eH,0,0⟩,0,[],[]) k0 ⟨k9,k9,by simp[fc],k9,H1⟩ ?_;rintro⟨u,i,L,P⟩ h2 ⟨hi,bk,N,W,H2⟩;dsimp only at*;refine ai (λe=>?_) λe=>?_
 ·have U:i<f.length:=k4
  refine(Seq.up hs H2.aj).bC i k0 U f[i] k0 (bi ?_);obtain⟨d,E⟩:=hd f[i] (qh U);have Hc:=H.up H2.aj;obtain⟨ok,hb⟩:=aa.dP Hc;have A:=H2.box 2 k0;refine⟨x,A.aS _ k0,fq m7 ?_⟩;refine(ov f[i] ok hb).mono ?_;rintro _ h3 ⟨rfl,rfl⟩;refine⟨_,k0,⟨A.cell0 k0,A.cell k0,A.cell k0,A.cell k0,A.cell k0,A.cell k0,A.cell k0,A.cell k0,trivial⟩,?_⟩;rcases oP ok f[i]with⟨c1,c2⟩|⟨n,d',bb,c0,c1,c2,c3,c4,c5⟩
  ·rw[E]at c1;cases c1
  have ad:d=d':=by rw[c3]at E;injection E with E;exact E.symm
  subst ad;rw[c5];obtain⟨b0,F,H3⟩:=Go.Vc.aa.kP Hc c2;rw[c4]at F;injection F with F
  injection F with F
  subst F;obtain⟨X,sd,bd,ah⟩:=aa.vE H3;have a6:=X.len;have ay:=X.room;refine(HD bb pw d sd bd x m h3 (ah.box 0 k0) ((ah.bc 2 [1]).Gj λ_=>rfl) X (hx.up H2.aj) hz).mono ?_;rintro _ h4 ⟨r7,I,rfl,R4⟩;have a3:=nt m d.l;obtain⟨c,J⟩:∃c,c=cS m d.l:=⟨_,rfl⟩
  rw[<-J]at R4 a3;have H4:=(H2.ck R4).bc 4 [1,2,0,3];have F4:=H4.gy 2 k0;have a9:=F4.2.1;have bx:=F4.1.len;refine⟨r7,k0,trivial,?_⟩;have ar:dM m ds o b f[i]=EC o b c:=by unfold dM;rw[E];show Dx m o b d.l=_;unfold Dx EC;rw[J]
  have V:fc m ds (f.take (i+1)) o b=fc m ds (f.take i) o b++EC o b c:=by unfold fc;rw[aH _ _ U,zj,zg,zT,qL,ar]
  obtain⟨Q,hQ⟩:∃Q:List (Sl×aY),Q=(I.zip c).map λz=>(z.1.2.2.2.2.2.2.2,z.2.data):=⟨_,rfl⟩
  refine aw (λt:Sl×Nat×List ((Int×Sl)×(Int×aY))=>(t.1,(t.2.1:Int))) (λt h'=>t.2.1<=c.length/\t.2.2.length<=L.length+t.2.1/\t.2.2.map zH=fc m ds (f.take i) o b++EC o b (c.take t.2.1)/\(∀p∈t.2.2,Yu (P++Q) p)/\Sp h h' [al 117 t.1 2 piv (t.2.2.map qM),go 1 aD P,dg fv 8 bP r7 I c,ao a1 44 (bn x)]) (λt=>c.length-t.2.1) (u,0,L) k0 ⟨k9,k9,by simp[EC,N],λp S=>⟨(W p S).1,List.mem_append_left _ (W p S).2⟩,H4⟩ ?_;rintro⟨Z,j,L2⟩ h5 ⟨hj,br,M,Y,H5⟩;dsimp only at*;have F5:=H5.gy 2 k0;refine ai (λe2=>?_) λe2=>?_
  ·have am:j<c.length:=k4
   have ap:=Fix.row F5 am;obtain⟨⟨g1,g2,g3,g4,g5,g6,g7⟩,g8⟩:=ap;refine F5.1.ey (g:=bP) j k0 k4 (I[j]'(by omega)) k0 ?_;refine H5.alloc ac k0 λa2 h6 H6=>?_;refine H6.storeAll ac 4 k0 k0 (bP (I[j]'(by omega))) k0 k0 k0 k0 λh7 T=>?_;have T:Sp h h7 [al 117 Z 2 piv (L2.map qM),go 1 aD P,dg fv 8 bP r7 I c,ao a1 44 (bn x),ao a2 170 (bP (I[j]'(by omega)))]:=T;have K:=T.box 4 k0;have O:EC o b (c.take (j+1))=EC o b (c.take j)++(if(decide (c[j].object=o)&&decide (c[j].block=b))=eR then[(c[j].id,c[j].data)]else[]):=by unfold EC;rw[aH _ _ am,zl,qW,zp,yJ];split<;>rfl
   have skip:(decide (c[j].object=o)&&decide (c[j].block=b))=eS->∃G:Sl×Nat×List ((Int×Sl)×(Int×aY)),((⟨Z.ptr,Z.len,Z.cap⟩:Sl),qc xi ((j:Int)+1))=(G.1,(G.2.1:Int))/\(G.2.1<=c.length/\G.2.2.length<=L.length+G.2.1/\G.2.2.map zH=fc m ds (f.take i) o b++EC o b (c.take G.2.1)/\(∀p∈G.2.2,Yu (P++Q) p)/\Sp h h7 [al 117 G.1 2 piv (G.2.2.map qM),go 1 aD P,dg fv 8 bP r7 I c,ao a1 44 (bn x)])/\c.length-G.2.1<c.length-j:=λhc=>
    ⟨(Z,j+1,L2),lb,⟨k7,k7,by dsimp only;rw[O,hc];simpa using M,Y,T.cD [0,1,2,3]⟩,k7⟩
   refine⟨c[j].object,by rw[<-g1];exact K.cell0 k0,dD (λq1=>?_) λq1=>skip (by rw[j7 q1];rfl)⟩;refine⟨c[j].block,by rw[<-g2];exact K.cell k0,dD (λq2=>?_) λq2=>skip (by rw[j7 q2,Bool.and_false])⟩;refine⟨c[j].id,by rw[<-g3];exact K.cell k0,(I[j]'(by omega)).2.2.2.2.2.2.2,K.cell k0,?_⟩;refine T.push ac 0 k0 aiJ k0 k6 (λ_=>rfl) OC (c[j].id,(I[j]'(by omega)).2.2.2.2.2.2.2) l0 k6 k8 λu3 bl a0=>?_;refine⟨(u3,j+1,L2++[((c[j].id,(I[j]'(by omega)).2.2.2.2.2.2.2),(c[j].id,c[j].data))]),lb,⟨k7,k8,?_,λp S=>?_,?_⟩,k7⟩
   ·dsimp only;rw[qW,M,O,j1 (by rw[j6 q1,j6 q2];rfl),qt];rfl
   ·rcases qA.1 S with S|S
    ·exact Y p S
    ·rw[qB.1 S];refine⟨k0,List.mem_append_right _ ?_⟩;rw[hQ];refine qo.2 ⟨(I[j]'(by omega),c[j]),?_,k0⟩;rw[<-yX (h:=by simp;omega)];exact qh _
   ·dsimp only;rw[qW];exact a0.cD [0,1,2,3]
  ·have a4:j=c.length:=k4
   subst a4;rw[qS,<-V]at M;have a7:=F5.2.1;have H6:=(H5.gF 2 k0 (D:=go 1 aD Q) λq hq y hy=>by
    rw[hQ]at hy;obtain⟨z,ax,rfl⟩:=qo.1 hy;obtain⟨k,hk,rfl⟩:=qK ax;have a5:k<c.length:=by simp at hk;omega
    have:=(Fix.row hq a5).2;rw[yX];exact this).cD [1,2,0,3]
   have T:=aa.adL H6;refine⟨(Z,i+1,L2,P++Q),lb,⟨k7,k7,M,Y,T.cD [1,0,2]⟩,k7⟩
 ·rw[qi k4]at N;refine⟨u,L.map qM,k0,?_⟩;have H3:=((H2.freeze 0 k0 λ_=>rfl).cD [1,0]).mb;refine H3.gF 0 k0 λq ⟨q1,q2,_,bq,cq,z1,z2⟩=>?_;refine⟨z1.mono bq,by rw[<-N];simp,λj r e R h2=>?_⟩;rw[<-N]at h2;rw[qR]at R h2;cases hj:L[j]? with
  |none=>rw[hj]at R;cases R
  |some p=>
   rw[hj]at R h2;have e1:=zS.inj (show dB p.1=dB r from R);have e2:=zS.inj (show dB p.2=dB e from h2);subst e1;subst e2;obtain⟨k1,k2⟩:=W p (List.mem_of_getElem? hj);exact⟨k1,(z2 _ k2).mono cq⟩
end
end Go.Qw
namespace Wl
open Go
def cv(m:aE)(ds:aF)(o b:Int)(live:au):bz:=live.map λk=>(fc m ds [k] o b).map qM
end Wl
namespace Go.Qw
open Go Go.Vc Go.Proofs Wl
abbrev aaW:ce C.toCG 51 22 1 [xc eH 0 0] 24:=⟨_,_,k0,k0,k0,k0,k0,k0⟩
section
variable {B:aB} {h0 h:hZ} {As:List HP} {a pw:hU} {offs:Int} {da:List aQ} {w:Pow} {ds:aF}
theorem agi{k:Int}{l:au}(h:k∈be ds l):∃d,aW ds k=dB d/\d.lost=eS:=by
 have h:=(qH.1 h).2;unfold isLive at h;cases hd:aW ds k with
 |none=>rw[hd]at h;cases h
 |some d=>rw[hd]at h;exact⟨d,k0,l6⟩
theorem MX(m:aE)(o b:Int)(l:cC):j9 (Dx m o b l)<=j9 l:=by unfold Dx;rw[qw];exact zf (qT _ _) (nt m l)
theorem Yv(x:cw)(m:aE)(o b:Int)(T:dV h x m)(W:dO m)(ap:j9 m.drives<=64)(c:∀k d,aW ds k=dB d->j9 d.l<=512)(H:aa B h0 h (bJ cm a pw (bn x) offs da w ds::As)):
  ab xm 18 #[xd (dB a),xb xi o,xb xi b] h λv h'=>∃r:Sl,v=r/\Sp h h' [dh 22 r 3 1 aq (cv m ds o b (be ds m.drives))]:=by
 refine CP (dB a) o b ?_;unfold rO;refine(iS x m T W H).mono ?_;rintro _ h1 ⟨p,rfl,R⟩;have L:j9 (be ds m.drives)<=j9 m.drives:=qT _ _;have D:∀k∈be ds m.drives,∃d,aW ds k=dB d:=λk N=>by obtain⟨d,h,_⟩:=agi N;exact⟨d,h⟩
 obtain⟨live,f⟩:∃live,live=be ds m.drives:=⟨_,rfl⟩
 rw[<-f]at R L D⊢;have ay:=(R.own 0 k0).len;refine⟨p,k0,?_⟩;have ah:j9 (cv m ds o b live)=j9 live:=by simp[cv]
 have H1:Sp h h1 [dh 22 ⟨eH,0,0⟩ 3 1 aq ((cv m ds o b live).take 0),al 3 p 1 aq live]:=R.Gi 22 3 1 aq;refine aw (λt:Sl×Nat=>(t.1,(t.2:Int))) (λt h'=>t.2<=j9 live/\Sp h h' [dh 22 t.1 3 1 aq ((cv m ds o b live).take t.2),al 3 p 1 aq live]) (λt=>j9 live-t.2) (⟨eH,0,0⟩,0) k0 ⟨k9,H1⟩ ?_;rintro⟨u,i⟩ h2 ⟨hi,E⟩;dsimp only at*;refine ai (λe=>?_) λe=>?_
 ·have z:i<j9 live:=k4
  refine(E.seq 1 k0 λ_=>rfl).bC i k0 z live[i] k0 ?_;refine E.lit ac aq fN k0 [live[i]] k0 (show 1*1<=2^20 by decide) k0 λq h3 y=>?_;have y:Sp h h3 [dh 22 u 3 1 aq ((cv m ds o b live).take i),al 3 p 1 aq live,al 3 q 1 aq [live[i]]]:=y;have U:=H.up y.aj;have P:=(aa.dP U).2;refine⟨a,k0,x,P.aS _ k0,?_⟩;obtain⟨d,O⟩:=D live[i] (qh z);refine(HR x m q [live[i]] o b (T.up y.aj) W (y.seq 2 k0 λ_=>rfl) k9 (λk N=>by rw[qB.1 N];exact⟨d,O⟩) U).mono ?_;rintro _ h4 ⟨G,s,rfl,X⟩;obtain⟨S,n⟩:∃S,S=fc m ds [live[i]] o b:=⟨_,rfl⟩
  have ar:j9 S<=512:=by rw[n];unfold fc dM;rw[zg,zT,qL,O];exact zf (MX _ _ _ _) (c _ _ O)
  rw[<-n]at X;have I:=(y.ck X).bc 4 [1,2,0];have V:=I.gy 2 k0;have ax:=V.2.1;have am:=V.1.len;refine⟨G,k0,?_⟩;have I:Sp h h4 [al 3 ⟨eH,0,0⟩ 1 aq ((S.map qM).take 0),dh 22 u 3 1 aq ((cv m ds o b live).take i),al 3 p 1 aq live,dg jG 2 piv G s S]:=(I.nil 3 1 aq).cD [3,0,1,2];refine aw (λt:Sl×Nat=>(t.1,(t.2:Int))) (λt h'=>t.2<=j9 S/\Sp h h' [al 3 t.1 1 aq ((S.map qM).take t.2),dh 22 u 3 1 aq ((cv m ds o b live).take i),al 3 p 1 aq live,dg jG 2 piv G s S]) (λt=>j9 S-t.2) (⟨eH,0,0⟩,0) k0 ⟨k9,I⟩ ?_;rintro⟨u2,j⟩ h5 ⟨hj,F⟩;dsimp only at*;have Y:=F.gy 3 k0;refine ai (λZ=>?_) λZ=>?_
  ·have M:j<j9 S:=k4
   have A:=Fix.row Y M;refine Y.1.ey (g:=piv) j k0 k4 (s[j]'(by omega)) k0 ?_;refine F.alloc ac k0 λK h6 H6=>?_;refine H6.storeAll ac 4 k0 k0 (piv (s[j]'(by omega))) k0 k0 k0 k0 λh7 J=>?_;have J:Sp h h7 [al 3 u2 1 aq ((S.map qM).take j),dh 22 u 3 1 aq ((cv m ds o b live).take i),al 3 p 1 aq live,dg jG 2 piv G s S,ao K 117 (piv (s[j]'(by omega)))]:=J;refine⟨S[j].1,by rw[<-A.1];exact(J.box 4 k0).cell0 k0,?_⟩;refine J.push ac 0 k0 fN k0 k6 (λ_=>rfl) eT S[j].1 k0 k6 k8 λu3 h9 H9=>?_;refine⟨(u3,j+1),lb,⟨k7,?_⟩,k7⟩;dsimp only;rw[aH _ _ (show j<j9 (S.map qM) by simp;omega),wo];exact H9.cD [0,1,2,3]
  ·rw[qi k8]at F;refine(F.bc 2 [1,0]).IA ac aaW k8 λu3 ad Q=>?_;refine⟨(u3,i+1),lb,⟨k7,?_⟩,k7⟩;dsimp only;rw[aH _ _ (show i<j9 (cv m ds o b live) by omega)];have ew:(cv m ds o b live)[i]'(by omega)=S.map qM:=by simp[cv,n]
   rw[ew];exact Q.cD [0,1]
 ·rw[qi k4]at E;exact⟨u,k0,E.cD [0]⟩
end
end Go.Qw
namespace Wl
open Go
def Pow.calm(w:Pow):Prop:=w.off=eS/\w.fuse=eH
theorem kg:Pow.new.calm:=⟨k0,k0⟩
theorem tV{w:Pow}(h:w.calm):w.step=(eR,w):=by unfold Pow.step;rw[j3 (by simp[h.1]),h.2]
theorem JU{w:Pow}(h:w.calm)(ds:aF)(x:Int)(b:aY):(fQ w ds x b).2.1=w:=by
 unfold fQ;cases aW ds x with
 |none=>rfl
 |some d=>
  dsimp only;unfold bp.append;split
  ·rfl
  ·split
   ·rfl
   ·split
    ·rfl
    ·split
     ·rfl
     ·rw[tV h];rfl
theorem PS{w:Pow}(h:w.calm)(ds:aF)(x:Int):(gI w ds x).2.1=w:=by
 unfold gI;cases aW ds x with
 |none=>rfl
 |some d=>
  dsimp only;unfold bp.sync;split
  ·rfl
  ·rw[tV h];rfl
theorem ru{w:Pow}(h:w.calm):∀(l:List (Int×aY)) (ds:aF),(lD l w ds).2.1=w
 |[],_=>rfl
 |x::l,ds=>by
  rw[xK,JU h];split
  ·exact ru h l _
  ·exact JU h _ _ _
theorem ED{w:Pow}(h:w.calm):∀(l:au) (ds:aF),(eN l w ds).2.1=w
 |[],_=>rfl
 |x::l,ds=>by
  rw[uO,PS h];split
  ·exact ED h l _
  ·exact PS h _ _
theorem adM{w:Pow}(h:w.calm)(l:List (Int×aY))(ds:aF):(layAll l w ds).2.1=w:=by
 unfold layAll;dsimp only;rw[ru h];split
 ·exact ED h _ _
 ·exact ru h _ _
theorem Cy{w:Pow}{d:bp}{n:Nat}{b:aY}(h:w.calm)(a:d.lost=eS)(c:j9 d.l+(n+1)<=d.room)(e:j9 b=64):d.append w b=(0,w,{d with l:=d.l++[b],wait:=d.wait+1,laid:=[],has:=eS}):=by unfold bp.append;rw[j3 k4,j3 o7,j3 k4,j3 (by simp[h.1]),tV h];rfl
theorem aaX{w:Pow}{d:bp}(h:w.calm)(a:d.lost=eS):d.sync w=(0,w,{d with wait:=0,laid:=[],has:=eS}):=by unfold bp.sync;rw[j3 o7,tV h];rfl
theorem ahN{ds:aF}{s:Int}{d:bp}(h:aW ds s=dB d):0<=s/\s<64:=by obtain⟨n,rfl,a⟩:=ma h;omega
def MY(ds:aF)(P:List (Int×aY))(s:Int):Option bp:=
 (aW ds s).map λd=>{d with l:=d.l++(P.filter λx=>decide (x.1=s)).map zH,wait:=d.wait+j9 (P.filter λx=>decide (x.1=s)),laid:=if(P.filter λx=>decide (x.1=s)).isEmpty then d.laid else[],has:=if(P.filter λx=>decide (x.1=s)).isEmpty then d.has else eS}
theorem HS{w:Pow}(h:w.calm){S:au}:∀(P:List (Int×aY)) (ds:aF),Fit ds S (P.map qM)->(∀x∈P,x.1∈S/\x.2.length=64)->
  (lD P w ds).1=0/\Fit (lD P w ds).2.2 S []/\∀s,aW (lD P w ds).2.2 s=MY ds P s
 |[],ds,F,_=>⟨k0,F,λs=>by unfold MY;show aW ds s=_;cases aW ds s<;>simp⟩
 |x::P,ds,F,hP=>by
  obtain⟨d,f,r,q⟩:=F.at_ x.1 (hP x (qI ..)).1;rw[yj,List.count_cons_self]at q;have j:=(hP x (qI ..)).2;obtain⟨n,i,a⟩:=ma f;have c:=Cy (n:=(P.map qM).count x.1) h r k4 j;have e:fQ w ds x.1 x.2=(0,w,bT ds x.1 {d with l:=d.l++[x.2],wait:=d.wait+1,laid:=[],has:=eS}):=by unfold fQ;rw[f];dsimp only;rw[c]
  obtain⟨_,g⟩:=QS w x.2 (x:=x.1) (Q:=P.map qM) F (hP x (qI ..)).1 j;rw[xK,e];rw[e]at g;dsimp only at g⊢;rw[j1 rfl];obtain⟨m,o,a3⟩:=HS h P _ g λy k=>hP y (qC _ k);refine⟨m,o,λs=>?_⟩;rw[a3 s];unfold MY;rw[i,Du _ _ _ _ a F.len,<-i];by_cases b:s=x.1
  ·rw[j1 b,b,f];simp only[qY,zp,decide_true,if_true,yj,zm,qt,List.singleton_append,List.isEmpty_cons,Bool.false_eq_true,if_false];congr 1;simp only[bp.mk.injEq,true_and,and_true];refine⟨k4,?_,?_⟩<;>split<;>rfl
  ·rw[j3 b];simp only[zp,decide_eq_true_eq,j3 (show¬x.1=s fromλp=>b p.symm)]
theorem EE{w:Pow}(h:w.calm){S:au}:∀(l:au) (ds:aF),Fit ds S []->(∀x∈l,x∈S)->
  (eN l w ds).1=0/\Fit (eN l w ds).2.2 S []/\∀s,aW (eN l w ds).2.2 s=(aW ds s).map λd=>if s∈l then{d with wait:=0,laid:=[],has:=eS}else d
 |[],ds,F,_=>⟨k0,F,λs=>by show aW ds s=_;cases aW ds s<;>simp⟩
 |x::l,ds,F,hl=>by
  obtain⟨d,b,m,o⟩:=F.at_ x (hl x (qI ..));obtain⟨n,g,a⟩:=ma b;have e:gI w ds x=(0,w,bT ds x {d with wait:=0,laid:=[],has:=eS}):=by unfold gI;rw[b];dsimp only;rw[aaX h m]
  obtain⟨_,f⟩:=Vv w F (hl x (qI ..));rw[uO,e];rw[e]at f;dsimp only at f⊢;rw[j1 rfl];obtain⟨j,k,a3⟩:=EE h l _ f λy i=>hl y (qC _ i);refine⟨j,k,λs=>?_⟩;rw[a3 s,g,Du _ _ _ _ a F.len,<-g];by_cases c:s=x
  ·subst c;rw[j1 k0,b];simp only[qY,qV,true_or,if_true];congr 1;split<;>rfl
  ·rw[j3 c];cases aW ds s with
   |none=>rfl
   |some d'=>simp[c]
end Wl
namespace Go.Qw
open Go Go.Vc Go.Proofs Wl
section
variable {B:aB} {h0 h h':hZ} {As:List HP} {a:hU} {w:Pow}
end
section
variable {B:aB} {h0 h h':hZ} {As:List HP} {a pw:hU} {d:bp} {w:Pow}
end
section
variable {B:aB} {h0 h h':hZ} {As:List HP}
end
end Go.Qw
namespace Wl
open Go
end Wl
namespace Go.Qw
open Go Go.Vc Go.Proofs Wl
end Go.Qw
namespace Wl
open Go
end Wl
namespace Go.Qw
open Go Go.Vc Go.Proofs Wl
end Go.Qw
namespace Wl
open Go
end Wl
namespace Go.Vc
open Go Wl
end Go.Vc
namespace Go.Qw
open Go Go.Vc Go.Proofs Wl
section
variable {B:aB} {h0 h h':hZ} {As:List HP} {a pw:hU} {mc:ba} {offs:Int} {da:List aQ} {w:Pow} {ds:aF}
end
section
variable {B:aB} {h0 h h':hZ} {As:List HP} {a pw:hU} {mc:ba} {offs:Int} {da:List aQ} {w:Pow} {ds:aF}
end
end Go.Qw
namespace Go.Vc
open Go Wl Go.Qw
def sB(p:Pm)(extra:Int)(l:au):Int:=
 if(fb l).2&&(bH p&&fp extra 0 16)then
  if(bm l l.length).any λi=>decide (l.getD i.toNat 0<(j9 (bs (co p extra l)):Int))then 7 else 0
 else 1
theorem Yw(p:Pm)(extra:Int)(w:Pow)(l:au):fX p extra w l=if sB p extra l=0 then layAll (cg (co p extra l) (bm l l.length)) w (iv l (bm l l.length).length)else(sB p extra l,w,[]):=by
 unfold fX sB;by_cases h:((fb l).2&&(bH p&&fp extra 0 16))=eR
 ·rw[j1 h,j1 h];by_cases a:((bm l l.length).any λi=>decide (l.getD i.toNat 0<(j9 (bs (co p extra l)):Int)))=eR
  ·rw[j1 a,j1 a];rfl
  ·rw[j3 a,j3 a];rfl
 ·rw[j3 h,j3 h];rfl
theorem MZ{p:Pm}{extra:Int}{l:au}(h:sB p extra l=0):bH p=eR/\0<=extra/\extra<=16/\(fb l).2=eR/\((bm l l.length).any λi=>decide (l.getD i.toNat 0<(j9 (bs (co p extra l)):Int)))=eS:=by
 unfold sB at h;by_cases a:((fb l).2&&(bH p&&fp extra 0 16))=eR
 ·rw[j1 a]at h;by_cases b:((bm l l.length).any λi=>decide (l.getD i.toNat 0<(j9 (bs (co p extra l)):Int)))=eR
  ·rw[j1 b]at h;cases h
  ·unfold fp at a;simp only[qz,decide_eq_true_eq]at a;exact⟨a.2.1,a.2.2.1,a.2.2.2,a.1,m5⟩
 ·rw[j3 a]at h;cases h
end Go.Vc
namespace Go.Qw
open Go Go.Vc Go.Proofs Wl
end Go.Qw
namespace Wl
def oz(m:aE)(l:cC):Bool:=bV m&&(bs m).all λp=>decide (p∈l)
end Wl
namespace Go.Qw
open Go Go.Vc Go.Proofs Wl
end Go.Qw
namespace Go.Vc
open Go Wl Go.Qw
theorem adN{w:Pow}(h:w.calm){S:au}(P:List (Int×aY))(ds:aF)(F:Fit ds S (P.map qM))(c:∀x∈P,x.1∈S/\x.2.length=64):
  (layAll P w ds).1=0/\Fit (layAll P w ds).2.2 S []/\∀s,aW (layAll P w ds).2.2 s=(MY ds P s).map λd=>if s∈cI (P.map qM)then{d with wait:=0,laid:=[],has:=eS}else d:=by
 obtain⟨i,k,a3⟩:=HS h P ds F c;have j:=ru h P ds;unfold layAll;dsimp only;rw[j1 i,j];obtain⟨e,l,g⟩:=EE h (S:=S) (cI (P.map qM)) (lD P w ds).2.2 k λx b=>by
  unfold cI at b;have a:=(qH.1 b).2;obtain⟨y,f,rfl⟩:=qo.1 (j8 a);exact(c y f).1
 exact⟨e,l,λs=>by rw[g s,a3 s]⟩
theorem FC(l:au)(k:Nat):(bm l k).Pairwise (·<·):=by unfold bm;refine List.Pairwise.filter _ (wF.2 ?_);exact(List.pairwise_lt_range (n:=k)).imp λh=>k4
theorem agj{l:au}{most:Int}(d:l.Pairwise (·<·))(c:∀x∈l,0<=x/\x<=most):pI l most=eR:=by
 unfold pI;refine uj λi b=>?_;unfold jW fp;have e:l.getD i 0=l[i]:=by rw[qe,qd b];rfl
 have:=c l[i] (qh b);rw[e,j6 this.1,j6 this.2,zQ,zQ];by_cases h0:i=0
 ·rw[j6 h0];rfl
 ·have a:l.getD (i-1) 0=l[i-1]:=by rw[qe,qd k4];rfl
  rw[a,j6 (List.pairwise_iff_getElem.1 d (i-1) i k4 b k4),Bool.or_true]
theorem KW{p:Pm}{extra:Int}{l:au}(h:j9 l<=64)(e:sB p extra l=0):bV (co p extra l)=eR:=by
 obtain⟨f,b,h3,_⟩:=MZ e;have c:lx (co p extra l)=eR:=by unfold lx fp co;simp[f,b,h3]
 have a:pI (co p extra l).drives 63=eR:=agj (FC l l.length) λx d=>by
  obtain⟨n,g,rfl,_⟩:=(Ap l l.length x).1 d;omega
 unfold bV;rw[c,a];rfl
theorem FD(p:Pm)(extra:Int)(l:au)(b:j9 l<=24):j9 (bs (co p extra l))<=1:=by
 unfold bs iH;rw[qw,zt];have a:=rn l l.length;have:j9 (gO (co p extra l))<=19+24:=by
  unfold gO;split
  ·simp only[qy,cG,zm,yw,qw,co,zT];omega
  ·simp
 omega
end Go.Vc
namespace Wl
open Go
theorem PT{ds:aF}{k:Int}{d:bp}(h:aW ds k=dB d):bT ds k d=ds:=by
 unfold aW at h;split at h
 ·rename_i c;unfold bT;cases hx:ds[k.toNat]? with
  |none=>rw[hx]at h;cases h
  |some o=>
   rw[hx]at h;have h:o=dB d:=h;subst h;obtain⟨b,a⟩:=qm.1 hx;rw[<-a,List.set_getElem_self]
 ·cases h
end Wl
namespace Go.Vc
open Go Wl Go.Qw
theorem aaY(l:List (Int×aY))(k:Int):(l.map qM).count k=j9 (l.filter λy=>decide (y.1=k)):=by
 induction l with
 |nil=>rfl
 |cons y l ih=>
  rw[yj,List.count_cons,ih,zp];by_cases h:y.1=k
  ·rw[j1 (j6 h),j1 l6];rfl
  ·rw[j3 l6,j3 l6];rfl
theorem HT(n:aE)(k:Int):∀{live:au},live.Nodup->k∈live->((cg n live).filter λy=>decide (y.1=k)).map zH=bs n
 |[],_,hk=>by cases hk
 |x::live,hnd,hk=>by
  have e:cg n (x::live)=(bs n).map (λc=>(x,c))++cg n live:=by unfold cg;rw[zg]
  obtain⟨j,d⟩:=wP.1 hnd;rw[e,zl,qW];by_cases a:x=k
  ·subst a;have g:((bs n).map λc=>(x,c)).filter (λy=>decide (y.1=x))=(bs n).map (λc=>(x,c)):=List.filter_eq_self.2 λy b=>by
    obtain⟨c,_,rfl⟩:=qo.1 b;exact j6 k0
   have i:(cg n live).filter (λy=>decide (y.1=x))=[]:=wB.2 λy b=>by
    have:=(mK b).1;have f:y.1≠x:=λh=>j (h▸this);simpa using f
   rw[g,i,vC,qL,wQ];exact List.map_id _
  ·have g:((bs n).map λc=>(x,c)).filter (λy=>decide (y.1=k))=[]:=wB.2 λy b=>by
    obtain⟨c,_,rfl⟩:=qo.1 b;simpa using a
   rw[g,vC,List.nil_append];rcases qV.1 hk with h|h
   ·exact absurd h.symm a
   ·exact HT n k d h
end Go.Vc
namespace Go.Qw
open Go Go.Vc Go.Proofs Wl
theorem agk{p:Pm}{seed:Int}{d:Row}{K H w n:Nat}(B:cu p seed d K H w n)(id:Int):uv p seed d id=if bW id then fS w (dn p seed d) (dt n seed id)else[]:=by unfold uv;rw[B.pQ,show p.2.2.toNat=w by have:=B.s;omega]
theorem TQ{m:aE}{o i seed:Int}{d:Row}{id:Int}{K H w n:Nat}(B:cu m.p seed d K H w n)(a:0<=o/\o<=16777215)(b:0<=i/\i<=7)(hid:0<=id/\id<=65535):jt (ke m o i seed d id)=eR:=by
 rw[jX];refine⟨a,b,hid,B.may,?_⟩;have c:bW id=eR:=by unfold bW;rw[j6 hid.1,j6 hid.2];rfl
 show(j9 (uv m.p seed d id):Int)=m.p.2.2;rw[agk B id,j1 c,B.ZQ id,B.s]
def pB(m:aE)(o:Int)(tries:au)(a:cC)(live:au)(k:Int)(i:Nat):List cX:=
 ((qx (m.p.1+m.extra).toNat).filter λid=>decide (dK (cK o i live) (id:Nat)=k)).map λid:Nat=>ke m o i (bI o i (tries.getD i 0)) (a.getD i []) id
def gN(m:aE)(o:Int)(tries:au)(a:cC)(live:au)(k:Int)(n:Nat):List cX:=(qx n).flatMap (pB m o tries a live k)
theorem TR(m:aE)(o:Int)(tries:au)(a:cC)(live:au)(k:Int)(n:Nat):gN m o tries a live k (n+1)=gN m o tries a live k n++pB m o tries a live k n:=by unfold gN;rw[zR,zj,zg,zT,qL]
theorem HU(m:aE)(o:Int)(tries:au)(a:cC)(live:au)(k:Int)(i:Nat):((nv m o tries a live i).filter λy=>decide (y.1=k)).map zH=(pB m o tries a live k i).map cL:=by unfold nv pB;rw[List.filter_map,wQ,wQ];rfl
theorem FE(m:aE)(o:Int)(tries:au)(a:cC)(live:au)(k:Int):∀n,((dL m o tries a live n).filter λy=>decide (y.1=k)).map zH=(gN m o tries a live k n).map cL
 |0=>by simp[dL,gN]
 |n+1=>by rw[uw,TR,zl,qW,qW,FE m o tries a live k n,HU]
theorem Yx{m:aE}{o:Int}{tries:au}{a:cC}{live:au}{k:Int}{i:Nat}{r:cX}(h:r∈pB m o tries a live k i):∃id:Nat,r=ke m o i (bI o i (tries.getD i 0)) (a.getD i []) id/\id<(m.p.1+m.extra).toNat:=by unfold pB at h;obtain⟨id,b,rfl⟩:=qo.1 h;exact⟨id,k0,qD.1 (qH.1 b).1⟩
theorem Na{m:aE}{o:Int}{tries:au}{a:cC}{live:au}{k:Int}{n:Nat}{r:cX}(h:r∈gN m o tries a live k n):∃(i id:Nat),r=ke m o i (bI o i (tries.getD i 0)) (a.getD i []) id/\i<n/\id<(m.p.1+m.extra).toNat:=by unfold gN at h;obtain⟨i,c,d⟩:=zB.1 h;obtain⟨id,b,h3⟩:=Yx d;exact⟨i,id,b,qD.1 c,h3⟩
end Go.Qw
namespace Wl
open Go
def cE(m:aE)(d:bp)(n:Int):bp:=if iw d d.l.length n then d else{d with l:=bM m d.l,wait:=0,laid:=[],has:=eS}
theorem Yy{m:aE}{r:cX}(h:dH m r=eR):jt r=eR:=by unfold dH at h;simp only[qz]at h;exact h.1
theorem adO{l:List cX}{r:cX}(h:r∈pL l):r∈l:=by unfold pL at h;obtain⟨i,a,rfl⟩:=qo.1 h;have a:=qD.1 (qH.1 a).1;rw[qe,qd a];exact qh a
theorem Yz{m:aE}{c:aY}{r:cX}(h:jl m c=dB r):dJ c=dB r/\dH m r=eR:=by
 unfold jl at h;cases hc:dJ c with
 |none=>rw[hc]at h;cases h
 |some x=>
  rw[hc]at h;dsimp only at h;by_cases a:dH m x=eR
  ·rw[j1 a]at h;injection h with h;subst h;exact⟨k0,a⟩
  ·rw[j3 a]at h;cases h
theorem wn{m:aE}{l:cC}{r:cX}(h:r∈cS m l):∃c∈l,dJ c=dB r/\dH m r=eR:=by have h:=yB.1 (adO h);obtain⟨c,a,b⟩:=List.mem_filterMap.1 h;exact⟨c,a,Yz b⟩
theorem rv(m:aE)(l:cC):∀c∈bM m l,j9 c=64:=λc b=>by
 rcases qA.1 b with h|h
 ·exact uQ h
 ·obtain⟨r,a,rfl⟩:=qo.1 h;obtain⟨_,_,_,d⟩:=wn a;exact xP (Yy d)
theorem AC{w:Pow}(a:w.calm){d:bp}{l:cC}(f:∀c∈l,j9 c=64)(g:d.lost=eS)(h:j9 l<=d.room):d.rewrite w l=(0,w,{d with l:=l,wait:=0,laid:=[],has:=eS}):=by unfold bp.rewrite;have:l.all (λb=>decide (j9 b=64))=eR:=qU.2 λc e=>j6 (f c e);rw[j3 (by simp[this]),j3 qs,j3 k4,j3 (by simp[a.1]),tV a];rfl
theorem EF{w:Pow}(e:w.calm){m:aE}{d:bp}{n:Int}(h:fy m d n=eR):fY m w d n=(0,w,cE m d n):=by
 have h0:=h;unfold fy at h;rw[qz,z7,wE]at h;obtain⟨c,a⟩:=h;unfold fY cE;rw[j3 oj,j3 (by simp[h0])];by_cases b:iw d d.l.length n=eR
 ·rw[j1 b,j1 b]
 ·rw[j3 b,j3 b];have h3:iw d (bM m d.l).length n=eR:=by
   rcases a with a|a
   ·exact absurd a b
   ·exact a
  unfold iw at h3;rw[decide_eq_true_eq]at h3;exact AC e (rv m d.l) c k4
theorem TS(m:aE)(ds:aF)(k:Int)(l:au)(N:Int->Int):iy m ds (k::l) N=(oy m ds k (N k)&&iy m ds l N):=List.all_cons
theorem JV{m:aE}{ds:aF}{k n:Int}(h:oy m ds k n=eR):∃d,aW ds k=dB d/\fy m d n=eR:=by
 unfold oy at h;cases hd:aW ds k with
 |none=>rw[hd]at h;cases h
 |some d=>rw[hd]at h;exact⟨d,k0,h⟩
theorem AD(ds:aF)(k:Int)(d:bp):j9 (bT ds k d)=j9 ds:=by unfold bT;simp
theorem gH{ds:aF}{k:Int}{c d:bp}(a:j9 ds=64)(e:aW ds k=dB c)(s:Int):aW (bT ds k d) s=if s=k then dB d else aW ds s:=by obtain⟨n,rfl,b⟩:=ma e;exact Du ds n d s b a
theorem QW{m:aE}{ds ds':aF}{l:au}{N:Int->Int}(h:∀k∈l,aW ds k=aW ds' k):iy m ds l N=iy m ds' l N:=by unfold iy;rw[Bool.eq_iff_iff,qU,qU];refine forall_congr' λk=>forall_congr' λa=>?_;unfold oy;rw[h k a]
theorem Nb{w:Pow}(j:w.calm){m:aE}{N:Int->Int}:∀{live:au} {ds:aF},live.Nodup->j9 ds=64->iy m ds live N=eR->
  ∃ds',makes m N live w ds=(0,w,ds')/\ds'.length=64/\∀k,aW ds' k=(aW ds k).map λd=>if k∈live then cE m d (N k)else d
 |[],ds,_,h64,_=>⟨ds,k0,h64,λk=>by cases aW ds k<;>simp⟩
 |k::live,ds,hnd,h64,hf=>by
  rw[TS,qz]at hf;obtain⟨a,b⟩:=wP.1 hnd;obtain⟨d,i,g⟩:=JV hf.1;have e:jf m w ds k (N k)=(0,w,bT ds k (cE m d (N k))):=by unfold jf;rw[i];dsimp only;rw[EF j g]
  have c:=gH (d:=cE m d (N k)) h64 i;have h:iy m (bT ds k (cE m d (N k))) live N=eR:=by
   rw[<-QW (ds:=ds) λs f=>?_]
   ·exact hf.2
   ·rw[c,j3 λl:s=k=>a (l▸f)]
  obtain⟨ds',o,n,h3⟩:=Nb j b (by rw[AD];exact h64) h;refine⟨ds',?_,n,λs=>?_⟩
  ·show(if(jf m w ds k (N k)).1=0 then makes m N live (jf m w ds k (N k)).2.1 (jf m w ds k (N k)).2.2 else jf m w ds k (N k))=_;rw[e];exact o
  ·rw[h3 s,c];by_cases f:s=k
   ·subst f;rw[j1 k0,i];simp[a]
   ·rw[j3 f];simp[f]
theorem ww{m:aE}{d:bp}{n:Int}(h:fy m d n=eR):(cE m d n).lost=eS/\(cE m d n).room=d.room/\((cE m d n).l.length:Int)+max n 0<=d.room:=by
 unfold fy at h;rw[qz,z7,wE]at h;obtain⟨c,a⟩:=h;unfold cE;by_cases b:iw d d.l.length n=eR
 ·rw[j1 b];unfold iw at b;rw[decide_eq_true_eq]at b;exact⟨c,k0,k4⟩
 ·rw[j3 b];have h3:iw d (bM m d.l).length n=eR:=by
   rcases a with a|a
   ·exact absurd a b
   ·exact a
  unfold iw at h3;rw[decide_eq_true_eq]at h3;exact⟨c,k0,k7⟩
theorem VA(a:ByteArray):ft a a=eS:=ZH _
theorem aaZ{a b:ByteArray}(h:jY a b=eR)(c:a≠b):ft a b=eR:=by
 rcases(LF a b).1 h with h|h
 ·exact h
 ·exact absurd (XM h) c
theorem aba{a b:ByteArray}(h:ft a b=eR):a≠b:=λe=>by subst e;rw[VA]at h;cases h
theorem ahO:Ord sO:=⟨λa b c e d=>Gs _ _ _ e d,λa b=>Gt _ _⟩
theorem sC{m:aE}{x e:bK}:e∈(dw m x).aG↔e∈m.aG∨e=x:=by show e∈(m.aG++[x]).mergeSort sO↔_;rw[yB];simp
end Wl
namespace Go.Qw
open Go Go.Vc Go.Proofs Wl
theorem abb{name:ByteArray}{l:List Wl.bK}(h:l.any (Aw name)=eS):∀e∈l,e.name≠name:=λe b a=>by
 have:=wG.1 h e b;unfold Aw at this;rw[a]at this;simp at this
theorem abc{m:aE}{x:Wl.bK}(z:bV m=eR)(f:mg x.name=eR)(l:∀e∈m.aG,e.name≠x.name)(n:x.object=m.next)(J:m.aG.length<=11)(K:m.next<=16777215)(N:m.seq<=2147483646)
  (i:0<=x.length/\x.length<=m.p.1*m.p.2.2*8) (H:∀t∈x.tries,0<=t/\t<=15) (w:(x.tries.length:Int)=countP m.p x.length):bV (dw m x)=eR:=by
 obtain⟨E,B,h3,M,s,v,F⟩:=(cM m).1 z;obtain⟨I,L,a3,a4⟩:=(fB m).1 E;have c:(dw m x).aG.Perm (m.aG++[x]):=ye _ _;have g:∀e∈m.aG,e.object<m.next:=λe j=>((iP m e).1 (s e j)).2.1.2;refine(cM _).2 ⟨(fB _).2 ⟨⟨?_,?_⟩,⟨?_,?_⟩,a3,a4⟩,B,h3,?_,λe j=>?_,?_,?_⟩
 ·show 1<=m.seq+1;omega
 ·show m.seq+1<=_;omega
 ·show 0<=m.next+1;omega
 ·show m.next+1<=_;omega
 ·rw[c.length_eq];simp;omega
 ·rcases sC.1 j with j|rfl
  ·obtain⟨u,D,y,G,A⟩:=(iP m e).1 (s e j);exact(iP _ e).2 ⟨u,⟨D.1,by show _<m.next+1;omega⟩,y,G,A⟩
  ·exact(iP _ _).2 ⟨f,⟨k4,by show _<m.next+1;omega⟩,i,H,w⟩
 ·have d:(m.aG++[x]).Pairwise (λa b:Wl.bK=>a.name≠b.name):=wW.2 ⟨v.imp λh=>aba h,List.pairwise_singleton _ _,λa q b r=>by rw[qB.1 r];exact l a q⟩;have k:=(c.pairwise_iff (R:=λa b:Wl.bK=>a.name≠b.name) λ{a b} h=>Ne.symm h).2 d;have o:(dw m x).aG.Pairwise (λa b=>sO a b=eR):=(Gq ahO (m.aG++[x])).1;exact(o.and k).imp λh=>aaZ h.1 h.2
 ·have d:(m.aG++[x]).Pairwise (λa b:Wl.bK=>a.object≠b.object):=wW.2 ⟨F,List.pairwise_singleton _ _,λa q b r=>by rw[qB.1 r,n];have:=g a q;omega⟩;exact(c.pairwise_iff (R:=λa b:Wl.bK=>a.object≠b.object) λ{a b} h=>Ne.symm h).2 d
theorem VB{p:Pm}{o:Int}{n:Nat}{t:au}(h:cR p o n=dB t):∀x∈t,0<=x/\x<=15:=λx c=>by
 obtain⟨i,b,rfl⟩:=qK c;obtain⟨k,d,a⟩:=BJ h i b;have:=(HE a).1;rw[d];omega
theorem TT{p:Pm}(a:bH p=eR)(b:aY):(j9 (splitB p b):Int)=countP p b.length:=by have:=(mF a b.length).1;unfold splitB;rw[qw,zt];omega
theorem adP{m:aE}{d:Bool}{ds:aF}{name:ByteArray}{b:aY}{t:au}(f:bV m=eR)(l:dE m d ds name b.length=0)(g:cR m.p m.next (splitB m.p b).length=dB t):bV (dw m ⟨name,m.next,j9 b,t⟩)=eR:=by
 obtain⟨n,i,z3,z4,z5⟩:=kf l;have j:¬m.p.1*m.p.2.2*8<(j9 b:Int):=λh=>z4 (.inl h);have c:j9 m.aG<=11:=by have:¬12<=j9 m.aG:=λh=>z4 (.inr h);omega
 have e:m.next<=16777215:=by have:¬16777215<m.next:=λh=>z5 (.inr (.inl h));omega
 have a:m.seq<=2147483646:=by have:¬2147483647<=m.seq:=λh=>z5 (.inr (.inr h));omega
 have k:=((fB m).1 ((cM m).1 f).1).2.2.1;refine abc f i (abb z3) k0 c e a ⟨by show 0<=(j9 b:Int);omega,by show(j9 b:Int)<=_;omega⟩ (VB g) ?_;show(j9 t:Int)=countP m.p b.length;rw[iZ g,TT k]
end Go.Qw
namespace Wl
open Go
def gq(a:cC)(d:bp):bp:=if a.isEmpty then d else{d with l:=d.l++a,wait:=0,laid:=[],has:=eS}
def lO(P:List (Int×aY))(s:Int):cC:=(P.filter λx=>decide (x.1=s)).map zH
theorem TU{P:List (Int×aY)}{s:Int}(h:∀x∈P,x.1≠s):lO P s=[]:=by unfold lO;rw[wB.2 λx a=>by simpa using h x a];rfl
theorem TV(P:List (Int×aY))(s:Int):j9 (lO P s)=(P.map qM).count s:=by unfold lO;rw[qw];exact(Go.Vc.aaY P s).symm
theorem Cz{l:au}{s:Int}(h:0<=s/\s<64):s∈cI l↔s∈l:=by unfold cI;rw[qH,decide_eq_true_eq];refine⟨λh=>h.2,λh'=>⟨?_,h'⟩⟩;exact qo.2 ⟨s.toNat,qD.2 k4,k4⟩
theorem TW{w:Pow}(m:w.calm){ds:aF}{P:List (Int×aY)}(g:j9 ds=64)
  (a:∀x∈P,j9 x.2=64/\∃d,aW ds x.1=dB d/\d.lost=eS/\d.l.length+j9 (lO P x.1)<=d.room):
  ∃ds',layAll P w ds=(0,w,ds')/\ds'.length=64/\∀s,aW ds' s=(aW ds s).map (gq (lO P s)):=by
 have F:Fit ds (P.map qM) (P.map qM):=⟨g,λk r=>by
  obtain⟨x,f,rfl⟩:=qo.1 r;obtain⟨_,d,j,i,h3⟩:=a x f;rw[TV]at h3;exact⟨d,j,i,h3⟩⟩
 obtain⟨p,q,a3⟩:=Go.Vc.adN m P ds F λx f=>⟨qo.2 ⟨x,f,rfl⟩,(a x f).1⟩
 refine⟨(layAll P w ds).2.2,?_,q.len,λs=>?_⟩
 ·have i:=adM m P ds;exact yY p (yY i k0)
 ·rw[a3 s];unfold MY;cases hd:aW ds s with
  |none=>rfl
  |some d=>
   obtain⟨e,c⟩:=ahN hd;rw[qY,qY,qY];congr 1;unfold gq;have n:s∈P.map qM↔(lO P s).isEmpty=eS:=by rw[<-List.count_pos_iff,<-TV];cases hc:lO P s<;>simp
   by_cases b:(lO P s).isEmpty=eR
   ·have h0:lO P s=[]:=List.isEmpty_iff.1 b;have j:(P.filter λx=>decide (x.1=s))=[]:=List.map_eq_nil_iff.1 h0;rw[j3 (λh=>by rw[Cz ⟨e,c⟩,n]at h;rw[h]at b;cases b),j1 b,j];simp
   ·have o:(lO P s).isEmpty=eS:=m5
    rw[j1 ((Cz ⟨e,c⟩).2 (n.2 o)),j3 b];rfl
end Wl
namespace Go.Qw
open Go Go.Vc Go.Proofs Wl
theorem BO{n:aE}{live:au}(a:live.Nodup)(s:Int):lO (cg n live) s=if s∈live then bs n else[]:=by
 by_cases h:s∈live
 ·rw[j1 h];exact HT n s a h
 ·rw[j3 h];exact TU λx b c=>h (c▸(mK b).1)
theorem KX(m:aE)(o:Int)(tries:au)(a:cC)(live:au)(k:Int)(n:Nat):lO (dL m o tries a live n) k=(gN m o tries a live k n).map cL:=FE m o tries a live k n
theorem TX{m:aE}(h:bV m=eR):bs m≠[]:=by unfold bs iH gO;rw[j1 h];intro e;have:=congrArg vd e;simp[cG]at this;omega
theorem lP{ds:aF}{l:au}(h:l.Nodup):(be ds l).Nodup:=h.filter _
theorem mw{ds:aF}{l:au}{k:Int}(h:k∈be ds l):k∈l/\∃d,aW ds k=dB d/\d.lost=eS:=by
 obtain⟨b,a⟩:=qH.1 h;unfold isLive at a;cases hd:aW ds k with
 |none=>rw[hd]at a;cases a
 |some d=>rw[hd]at a;exact⟨b,d,k0,l7⟩
theorem Nc(a:cC)(d:bp):(gq a d).l=d.l++a:=by
 unfold gq;by_cases h:a.isEmpty=eR
 ·rw[j1 h,List.isEmpty_iff.1 h,qL]
 ·rw[j3 h]
theorem tW(a:cC)(d:bp):(gq a d).lost=d.lost/\(gq a d).room=d.room:=by unfold gq;split<;>exact⟨k0,k0⟩
theorem adQ{b a:cC}(h:a≠[])(d:bp):gq a (gq b d)=gq (b++a) d:=by
 have e:∀c:cC,c≠[]->∀d,gq c d={d with l:=d.l++c,wait:=0,laid:=[],has:=eS}:=λc g d=>by
  unfold gq;rw[j3 nn]
 by_cases f:b=[]
 ·subst f;rfl
 ·rw[e b f,e a h,e (b++a) rb];simp
theorem PU(a:Nat)(l:List (Int×aY))(k:Int):kS a l k=a+j9 (lO l k):=by unfold kS lO;rw[qw]
theorem WU{p:Pm}{o:Int}{b:aY}{t:au}(c:bH p=eR)(d:cR p o (splitB p b).length=dB t){i:Nat}(l:i<j9 (splitB p b)):∃K H w n,cu p (bI o i (t.getD i 0)) ((splitB p b).getD i []) K H w n:=by
 have m:=iZ d;obtain⟨k,j,a⟩:=BJ d i k4;have h:MP p o i k=eR:=(HE a).2.1;have e:t.getD i 0=(k:Int):=by rw[dT 0];exact j
 rw[e];refine XG c h ?_;have f:=(bZ p).1 c;have q:0<=p.1*p.2.2:=vB k4 k4;have g:(splitB p b)[i]=Ex (gp p) b i:=by simp[splitB]
 rw[dT [] l,g,PJ];unfold gp;omega
theorem IW{m:aE}{b:aY}{t:au}(g:bV m=eR)(d:m.next<=16777215)(h8:j9 (splitB m.p b)<=8)(e:cR m.p m.next (splitB m.p b).length=dB t){i id:Nat}(f:i<j9 (splitB m.p b))(hid:id<(m.p.1+m.extra).toNat):
  jt (ke m m.next i (bI m.next i (t.getD i 0)) ((splitB m.p b).getD i []) id)=eR:=by
 have a:=((fB m).1 ((cM m).1 g).1)
 have c:=(bZ m.p).1 a.2.2.1;obtain⟨K,H,w,n,B⟩:=WU a.2.2.1 e f;exact TQ B ⟨a.2.1.1,d⟩ k4 k4
theorem abd{m:aE}{offs:Int}{w:Pow}{ds:aF}{name:ByteArray}{b:aY}(I:w.calm)(J:j9 ds=64)(u:bV m=eR):
  (dE m (gT w offs) ds name b.length≠0->gW m offs w ds name b=(dE m (gT w offs) ds name b.length,m,w,ds))/\
  (dE m (gT w offs) ds name b.length=0->(cR m.p m.next (splitB m.p b).length=eH->gW m offs w ds name b=(8,m,w,ds))/\∀t,cR m.p m.next (splitB m.p b).length=dB t->
   let live:=be ds m.drives;let l:=dL m m.next t (splitB m.p b) live (splitB m.p b).length;let n:=dw m ⟨name,m.next,j9 b,t⟩;let N:=kS (bs n).length l
   bV n=eR/\(iy m ds live N=eS->gW m offs w ds name b=(7,m,w,ds))/\(iy m ds live N=eR->∃ds',gW m offs w ds name b=(0,n,w,ds')/\ds'.length=64/\
    ∀k,aW ds' k=(aW ds k).map λd=>if k∈live then gq ((gN m m.next t (splitB m.p b) live k (splitB m.p b).length).map cL++bs n) (cE m d (N k))else d)):=by
 refine⟨λh=>by unfold gW;rw[j1 h],λh=>⟨λD=>by unfold gW;rw[j3 l6,D],λt D=>?_⟩⟩;intro live l n N;have s:bV n=eR:=adP u h D;obtain⟨z1,z2,z3,z4,z5⟩:=kf h;have j:=((fB m).1 ((cM m).1 u).1)
 have M:¬m.p.1*m.p.2.2*8<(j9 b:Int):=λh=>z4 (.inl h);have h8:=xD j.2.2.1 M;have L:live≠[]:=λh=>z5 (.inl h);have v:0<=m.next/\m.next<=16777215:=⟨j.2.1.1,by have:¬16777215<m.next:=λh=>z5 (.inr (.inl h));omega⟩
 have f:live.Nodup:=lP (kG u);have E:∀k∈live,0<=k/\k<64:=λk a=>od u k (mw a).1;have e:gW m offs w ds name b=(if iy m ds live N=eS then(7,m,w,ds)else if(makes m N live w ds).1≠0 then((makes m N live w ds).1,m,(makes m N live w ds).2)else
   if(layAll l (makes m N live w ds).2.1 (makes m N live w ds).2.2).1≠0 then((layAll l (makes m N live w ds).2.1 (makes m N live w ds).2.2).1,m,(layAll l (makes m N live w ds).2.1 (makes m N live w ds).2.2).2)else
   ((layAll (cg n live) (layAll l (makes m N live w ds).2.1 (makes m N live w ds).2.2).2.1 (layAll l (makes m N live w ds).2.1 (makes m N live w ds).2.2).2.2).1,if(layAll (cg n live) (layAll l (makes m N live w ds).2.1 (makes m N live w ds).2.2).2.1 (layAll l (makes m N live w ds).2.1 (makes m N live w ds).2.2).2.2).1=0 then n else m,(layAll (cg n live) (layAll l (makes m N live w ds).2.1 (makes m N live w ds).2.2).2.1 (layAll l (makes m N live w ds).2.1 (makes m N live w ds).2.2).2.2).2)):=by
  unfold gW;rw[j3 l6,D]
 refine⟨s,λq=>by rw[e,j1 q],λq=>?_⟩;rw[e,j3 (by rw[q];decide)];obtain⟨T,m1,m2,S⟩:=Nb I (N:=N) f J q;rw[m1];dsimp only;rw[j3 k9];have z:∀y∈l,y.1∈live:=λy o=>(TP v L E h8 o).1;have A:∀y∈l,j9 y.2=64:=λy o=>by
  obtain⟨i,hi,o⟩:=zB.1 o;obtain⟨id,hid,rfl⟩:=qo.1 o;exact xP (IW u v.2 h8 D (qD.1 hi) (qD.1 hid))
 have c:∀k∈live,∃d,aW T k=dB d/\d.lost=eS/\(j9 d.l:Int)+max (N k) 0<=d.room:=λk a=>by
  obtain⟨_,d,hd,ad⟩:=mw a;have H:=qU.1 q k a;obtain⟨Y,F,G⟩:=JV H;obtain⟨U,r2,X⟩:=ww G;refine⟨cE m Y (N k),?_,U,by rw[r2];exact X⟩;rw[S k,F,qY,j1 a]
 obtain⟨W,l1,l2,R⟩:=TW I (ds:=T) (P:=l) m2 λx g=>by
  obtain⟨d,O,K,f3⟩:=c x.1 (z x g);refine⟨A x g,d,O,K,?_⟩;have:N x.1=_:=PU _ _ _;omega
 rw[l1];dsimp only;rw[j3 k9];obtain⟨d3,Z,p2,V⟩:=TW I (ds:=W) (P:=cg n live) l2 λx g=>by
  obtain⟨r,B⟩:=mK g;obtain⟨d,O,K,f3⟩:=c x.1 r;refine⟨B,gq (lO l x.1) d,by rw[R,O,qY],by rw[(tW _ _).1];exact K,?_⟩;have:N x.1=_:=PU _ _ _;rw[(tW _ _).2,Nc,BO f,j1 r,qy];omega
 rw[Z];refine⟨d3,k0,p2,λk=>?_⟩;rw[V k,R k,S k,Option.map_map,Option.map_map];congr 1;funext d;show gq (lO (cg n live) k) (gq (lO l k) (if k∈live then cE m d (N k)else d))=_;rw[BO f];by_cases a:k∈live
 ·rw[j1 a,j1 a,j1 a];have Q:lO l k=(gN m m.next t (splitB m.p b) live k (splitB m.p b).length).map cL:=KX _ _ _ _ _ _ _;rw[Q,adQ (TX s)]
 ·rw[j3 a,j3 a,j3 a,TU (P:=l) λx g (he:x.1=k)=>a (he▸z x g)];rfl
theorem Nd(l:au)(c:j9 l<=64)(s:Int):aW (iv l (bm l l.length).length) s=if s∈bm l l.length then dB (bp.new (l.getD s.toNat 0).toNat)else eH:=by
 by_cases a:0<=s/\s<64
 ·unfold aW iv;rw[j1 a,qR,zw k4,qY,qi (ql _)];have e:((s.toNat:Nat):Int)=s:=k4
  rw[e];by_cases h:s∈bm l l.length
  ·rw[j1 h];rfl
  ·rw[j3 h];rfl
 ·rw[j3 λh=>?_]
  ·unfold aW;rw[j3 a]
  ·obtain⟨n,b,rfl,_⟩:=(Ap l l.length s).1 h;omega
theorem abe{p:Pm}{extra:Int}{l:au}(f:j9 l<=64)(d:sB p extra l=0):
  ∃D,fX p extra Pow.new l=(0,Pow.new,D)/\D.length=64/\∀s,aW D s=if s∈bm l l.length then dB ⟨(l.getD s.toNat 0).toNat,bs (co p extra l),0,[],eS,eS⟩else eH:=by
 have j:=KW f d;have c:(bm l l.length).Nodup:=(FC l l.length).imp λh e=>k4
 have b:=(MZ d).2.2.2.2;rw[Yw,j1 d];obtain⟨D,m,k,h3⟩:=TW kg (ds:=iv l (bm l l.length).length) (P:=cg (co p extra l) (bm l l.length)) (Vm _ _) λx i=>by
  obtain⟨a,g⟩:=mK i;refine⟨g,bp.new (l.getD x.1.toNat 0).toNat,by rw[Nd l f,j1 a],k0,?_⟩;rw[BO c,j1 a];have:=wG.1 b x.1 a;simp only[decide_eq_true_eq]at this;show 0+_<=(l.getD x.1.toNat 0).toNat;omega
 refine⟨D,m,k,λs=>?_⟩;rw[h3,Nd l f,BO c];by_cases h:s∈bm l l.length
 ·rw[j1 h,j1 h,j1 h,qY];unfold gq;rw[j3 (by simpa using TX j)];rfl
 ·rw[j3 h,j3 h,j3 h];rfl
theorem YA(m:aE):j9 (bs m)=(j9 (gO m)+47)/48:=by unfold bs iH;rw[qw,zt]
theorem ahP(x:Wl.bK):(jD x).length=6+x.name.size+x.tries.length:=by unfold jD;simp[cG];omega
theorem abf{m:aE}(h:bV m=eR):j9 (gO m)=14+j9 m.drives+j9 (m.aG.flatMap jD):=by unfold gO;rw[j1 h];simp only[qy,cG,zm,yw,qw];omega
theorem rx{p:Pm}{n:Int}(h:n<=p.1*p.2.2*8):countP p n<=8:=by
 unfold countP;split
 ·rename_i a;rw[qz,decide_eq_true_eq]at a;have:=(bZ p).1 a.1;have b:0<p.1*p.2.2:=Int.mul_pos k4 k4;have:(n-1)/(p.1*p.2.2)<8:=Int.ediv_lt_of_lt_mul b (by rw[Int.mul_comm 8];omega);omega
 ·decide
theorem agl{m:aE}{x:Wl.bK}(h:hO m x=eR):j9 (jD x)<=26:=by
 obtain⟨a,e,h3,b,d⟩:=(iP m x).1 h;have:=rx h3.2;have c:x.name.size<=12:=by unfold mg at a;simp at a;omega
 rw[ahP];omega
theorem Dy{α β:Type}{f:α->List β}{c:Nat}:∀{l:List α},(∀x∈l,j9 (f x)<=c)->j9 (l.flatMap f)<=j9 l*c
 |[],_=>k9
 |x::l,h=>by
  have d:=h x qI;have b:=Dy (l:=l) λy a=>h y (qC _ a);rw[zg,qy,zm,zO];omega
theorem adR{m:aE}(h:bV m=eR):j9 (bs m)*48<=61+j9 m.drives+j9 m.aG*26:=by have:=Dy (f:=jD) (l:=m.aG) λx a=>agl (((cM m).1 h).2.2.2.2.1 x a);have b:=abf h;rw[YA];omega
theorem HV{m:aE}(h:bV m=eR):j9 (bs m)<=9:=by have b:=adR h;have a:=nh h;have h3:=((cM m).1 h).2.2.2.1;omega
theorem VC{α β:Type}(f:α->List β)(c:Nat)(n:Nat)(l:List α)(h:∀x∈l,j9 (f x)<=c)(a:j9 l<=n):j9 (l.flatMap f)<=n*c:=zf (Dy h) (zo c a)
theorem VD(m:aE)(o:Int)(tries:au)(a:cC)(live:au)(k:Int)(n:Nat):j9 (gN m o tries a live k n)<=n*(m.p.1+m.extra).toNat:=by unfold gN;refine VC _ _ n _ (λi _=>?_) k9;have:=congrArg vd (HU m o tries a live k i);rw[qw,qw]at this;rw[<-this];refine zf (qT _ _) ?_;rw[EB];exact ql _
theorem pC{m:aE}(h:bV m=eR):dO m:=by
 obtain⟨n,j,h3,f,b,k,o⟩:=(cM m).1 h;have g:=nh h;refine⟨k4,k4,λe d=>?_⟩;obtain⟨a,l,c,p,q⟩:=(iP m e).1 (b e d);have:=rx c.2;have i:e.name.size<=12:=by unfold mg at a;simp at a;omega
 omega
section
variable {B:aB} {h0 h:hZ} {As:List HP} {a pw:hU} {offs:Int} {da:List aQ} {w:Pow} {ds:aF}
end
end Go.Qw
namespace Go.Vc
open Go Wl
section
variable {k:Kit} {B:aB} {h0 h:hZ} {As:List HP} {a pw b:hU} {mc:ba} {offs:Int} {da:List aQ} {w:Pow} {ds:aF} {d:bp} {n:Nat}
end
end Go.Vc
