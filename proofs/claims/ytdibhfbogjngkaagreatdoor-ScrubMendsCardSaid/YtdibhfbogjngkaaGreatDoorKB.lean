/- Lemmas for the proof of the law; no condition. -/
import Derived.Test.YtdibhfbogjngkaaGreatDoorKA
import Derived.Test.YtdibhfbogjngkaaGreatDoorShelfB
import Derived.Test.YtdibhfbogjngkaaGreatDoorPlB
set_option linter.unusedVariables false
set_option maxHeartbeats 2000000
set_option linter.unusedSimpArgs false
open Go.Proofs.Tryz renaming prog -> xt
open Go.Value renaming agg -> xn, bool -> xm, int -> xi, pointer -> xk, slice -> xj, string -> xl
open Go.IntKind renaming bits -> ql, i64 -> xo, signed -> yY, u32 -> xq, u64 -> xr, u8 -> xp, wrap -> qc
open Nat renaming le_of_eq -> vT
open Int renaming tmod -> wj
open Bool renaming and_self -> vY
open List renaming all_cons -> xb, any_cons -> xa, any_nil -> xf, length -> vA, range -> qw, replicate -> qg, zipWith -> zh
open Option renaming some -> zT
open Go.Instr renaming storeAt -> qf
open Prod renaming fst -> qM, snd -> zF
set_option maxRecDepth 100000
open Option renaming some -> dB, none -> eH
open Bool renaming true -> eR, false -> eS
open Go renaming Addr -> fz
open Go.Vc renaming Heap -> f8
open List renaming length -> i0
namespace Go.Qw
open Go Go.Vc Go.Proofs Wl
theorem adY{α:Type}{h:f8}{e:TypeId}{s:Sl}{k:Nat}{f:α->bc}{l:List α}(c:Own h e s k f l)(a:l≠[]):s.ptr.isNone=eS:=by
 rcases c.head with⟨_,_,h3⟩|⟨b,rest,h1,_⟩
 ·exact absurd h3 a
 ·rw[h1];rfl
theorem Ud(p:Pm)(seed id:Int)(h:f8):ab xt 134 #[lu p,xi xq seed,xi xo id] h λv h'=>∃r:Sl,v=r/\
  Sp h h' [al 5 r 1 aD (if bB p&&bW id then oO (bE p).toNat seed id else[])]/\r.ptr.isNone=!(bB p&&bW id):=by
 refine YB p seed id ?_;unfold TF;refine(Sp.refl h).boxed λa L G=>?_;refine bj ?_;refine⟨p,(G.box 0 i4).aS _ i4,(dW p L).mono ?_⟩;rintro v H ⟨rfl,I⟩;have t:=G.comp I;have u:(bB p&&bW id)=eS->Sp h H [al 5 ⟨eH,0,0⟩ 1 aD (if bB p&&bW id then oO (bE p).toNat seed id else[])]/\Option.isNone (eH:aO)=!(bB p&&bW id):=λJ=>by
  rw[J];exact⟨(t.nil 5 1 aD).take 1 (λi A g=>by cases i with|zero=>exact g|succ i=>simp at g),i4⟩
 refine⟨_,i4,bh (λe=>⟨⟨eH,0,0⟩,i4,u n9⟩) λk=>?_⟩;refine ai (λe=>⟨⟨eH,0,0⟩,i4,u ld⟩) λU=>?_;refine ai (λe=>⟨⟨eH,0,0⟩,i4,u ld⟩) λF=>?_;have hid:bW id=eR:=ld
 refine⟨p,(t.box 0 i4).aS _ i4,(kz p H).mono ?_⟩;rintro v h3 ⟨rfl,K⟩;have O:=t.comp K;have R:=(bZ p).1 k;have V:bE p=p.1+p.2.1:=by rw[bE,f9 k]
 obtain⟨n,B⟩:∃n:Nat,bE p=n:=⟨(bE p).toNat,i5⟩
 refine⟨_,i4,?_⟩;dsimp only;rw[B];refine O.make ac aD gz i6 0 i4 i4 n n i4 i4 (qk _) i5 λv Q T N z=>?_;refine⟨p,(z.box 0 i4).aS _ i4,(BZ p seed id Q).mono ?_⟩;rintro w X ⟨c,rfl,y⟩;rw[k,hid,B,qm]at y;rw[k,hid,qm];have s:=z.comp y;have j:=s.seq 2 i4 λ_=>rfl;have m:=j.len;obtain⟨b,d⟩:∃b,b=dw n seed id:=⟨_,rfl⟩
 have q:∀x∈b,0<=x/\x<(n:Int):=λx E=>nf i5 i5 (by rw[<-d];exact E);have D:i0 b<=n:=by rw[d];exact BA i5 i5 _ _
 simp only[vY,if_true,<-d]at s j m y;refine⟨c,i4,?_⟩;refine aw (λi:Nat=>(i:Int)) (λi h'=>i<=i0 b/\Sp h h' [ao a 24 [xi xo p.1,xi xo p.2.1,xi xo p.2.2],al 5 v 1 aD (gp n (b.take i)),al 3 c 1 aq b]) (λi=>i0 b-i) 0 i4 ⟨i5,s⟩ ?_;rintro i P ⟨g,l⟩;refine ai (λe=>?_) (λe=>?_)
 ·have f:i<i0 b:=i5
  have E:=q _ (qh f);refine(l.seq 2 i4 λ_=>rfl).bC i i4 f _ i4 ?_;refine l.set ac 1 i4 (λ_=>rfl) i4 b[i].toNat i5 (by rw[sv];omega) 1 i4 i4 i4 λW M=>?_;refine⟨i+1,j1,⟨i5,?_⟩,i5⟩;have F:gp n (b.take (i+1))=(gp n (b.take i)).set b[i].toNat 1:=by rw[aG _ _ f,gp,wC];rfl
  rw[F];exact M
 ·rw[qi i5]at l;have o:Sp h P [al 5 v 1 aD (gp n b)]:=(l.del 2).take 1 (λi A g=>by cases i with|zero=>exact g|succ i=>simp at g);refine⟨v,i4,?_,adY (o.own 0 i4) λS=>?_⟩
  ·rw[d]at o;exact o
  ·have:=sv n b;rw[S]at this;simp at this;omega
theorem uG(p:Pm)(h:f8):ab xt 70 #[lu p] h λv h'=>∃r:Sl,v=r/\Sp h h' [fQ 34 r 1 aD (if bB p then bz p.1.toNat p.2.1.toNat else[])]:=by
 refine Tz p ?_;unfold MC;refine(Sp.refl h).boxed λa P D=>?_;refine⟨p,(D.box 0 i4).aS _ i4,(dW p P).mono ?_⟩;rintro v V ⟨rfl,I⟩;have F:=D.comp I;refine⟨_,i4,bh (λe=>⟨⟨eH,0,0⟩,i4,?_⟩) λo=>?_⟩
 ·rw[e];exact(F.LX 34 1 aD).take 1 (λi A c=>by cases i with|zero=>exact c|succ i=>simp at c)
 have Z:=(bZ p).1 o;have M:bE p=p.1+p.2.1:=by rw[bE,f9 o]
 obtain⟨K,R⟩:∃K:Nat,p.1=K:=⟨p.1.toNat,i5⟩
 obtain⟨b,Q⟩:∃H:Nat,p.2.1=H:=⟨p.2.1.toNat,i5⟩
 refine(rF V).mono ?_;rintro v h3 ⟨f,rfl,O⟩;have z:=(F.comp O).LX 34 1 aD;refine⟨dB f,i4,_,(z.box 0 i4).cell i4,?_⟩;refine aw (λt:Sl×Nat=>(t.1,(t.2:Int))) (λt h'=>t.2<=b/\Sp h h' [ao a 24 [xi xo p.1,xi xo p.2.1,xi xo p.2.2],ao f 197 cV,fQ 34 t.1 1 aD ((bz K b).take t.2)]) (λt=>b-t.2) (⟨eH,0,0⟩,0) i4 ⟨jj,z⟩ ?_;rintro⟨s,k⟩ W ⟨hk,d⟩;dsimp only at*;refine ai (λe=>?_) (λe=>?_)
 ·have X:k<b:=i5
  refine bj ⟨p,(d.box 0 i4).aS _ i4,p.1,(d.box 0 i4).cell0 i4,?_⟩;refine(kz p W).mono ?_;rintro v h5 ⟨rfl,R5⟩;have B:=d.comp R5;refine⟨_,i4,⟨(B.box 0 i4).cell0 i4,trivial⟩,?_⟩;dsimp only;rw[ak (p.1+k),M];refine(abh _ _ h5).mono ?_;rintro v h6 ⟨u,rfl,w⟩;rw[f9 i5]at w;have L:(p.1+p.2.1).toNat=K+b:=i5
  have S:(p.1+(k:Int)).toNat=K+k:=i5
  rw[L,S]at w;have q:=B.comp w;refine⟨u,i4,⟨(q.box 0 i4).cell0 i4,trivial⟩,p.1,(q.box 0 i4).cell0 i4,?_⟩;let rowAt:Nat->ba:=λj=>(qw j).map (λi=>Gf.pw ((k+1)*(i+1)%255))++((qg (K+b) (0:UInt8)).set (K+k) 1).drop j;refine aw (λj:Nat=>(j:Int)) (λj h'=>j<=K/\Sp h h' [ao a 24 [xi xo p.1,xi xo p.2.1,xi xo p.2.2],ao f 197 cV,fQ 34 s 1 aD ((bz K b).take k),al 5 u 1 aD (rowAt j)]) (λj=>K-j) 0 i4 ⟨i5,q⟩ ?_;rintro j N ⟨hj,n⟩;refine ai (λG=>?_) (λG=>?_)
  ·have m:j<K:=i5
   have hm:(k+1)*(j+1)<=4*16:=z7 i5 i5;have e4:qc xo (qc xo ((k:Int)+1)*qc xo ((j:Int)+1))=(((k+1)*(j+1):Nat):Int):=by rw[ak ((k:Int)+1),ak ((j:Int)+1),show((k:Int)+1)*((j:Int)+1)=(((k+1)*(j+1):Nat):Int)by rw[wu];rfl];exact wb _
   rw[e4];refine(adX f _ N (n.box 1 i4)).mono ?_;rintro v h8 ⟨rfl,rfl⟩;refine⟨_,i4,?_⟩;have E:i0 (rowAt j)=K+b:=by simp[rowAt];omega
   refine n.set ac 3 i4 (λ_=>rfl) i4 j i4 i5 _ i4 i4 i4 λh9 x=>?_;refine⟨j+1,j1,⟨i5,?_⟩,i5⟩;have y:(rowAt j).set j (Gf.pw ((((k+1)*(j+1):Nat):Int)%255).toNat)=rowAt (j+1):=by
    have U:((((k+1)*(j+1):Nat):Int)%255).toNat=(k+1)*(j+1)%255:=i5
    rw[U];simp only[rowAt];rw[qZ _ _ jj,qA,zx,zc,qQ i9,zw,zQ,qU,qq];rfl
   rw[<-y];exact x
  ·have m:j=K:=i5
   subst m;have y:rowAt j=mq j b k:=by
    simp only[rowAt,mq];congr 1;apply zO;intro i;rw[wH,zd,qS];by_cases c:i<b
    ·rw[zu c,qT,wg];by_cases g:i=k
     ·subst g;simp[c]
     ·rw[g0 i5,f9 i5,g0 g]
    ·rw[qV (l:=qw b) i9,g0 i5,wg,g0 i5];rfl
   rw[y]at n;have J:=n.freeze 3 i4 λ_=>rfl;have Y:i0 ((bz j b).take k)=k:=by simp[bz];omega
   refine J.xN ac 2 3 i6 i4 i4 fx i5 λs' h9 x=>?_;refine⟨(s',k+1),js,⟨i7,?_⟩,i7⟩;have T:(bz j b).take (k+1)=(bz j b).take k++[mq j b k]:=by rw[aG _ _ (by simp[bz];omega)];simp[bz]
   dsimp only;rw[T];exact x.del 3
 ·refine⟨s,i4,?_⟩;rw[f9 o,R,Q,qm,qm];rw[qi (by simp[bz];omega)]at d;exact d.take 2 (λi A c=>by cases i with|zero=>exact c|succ i=>simp at c)
theorem Nw(p:Pm)(h:f8):ab xt 176 #[lu p] h λv h'=>∃r:Sl,v=r/\Sp h h' [al 3 r 1 aq (upto (max 0 (min p.1 16)).toNat)]:=by
 refine Ll p ?_;unfold Dt;refine(Sp.refl h).boxed λa m b=>?_;refine⟨p.1,(b.box 0 i4).cell0 i4,?_⟩;have em:(if(if(16:Int)<p.1 then(16:Int)else p.1)>(0:Int)then(if(16:Int)<p.1 then(16:Int)else p.1)else(0:Int))=((max 0 (min p.1 16)).toNat:Int):=by split<;>split<;>omega
 dsimp only;rw[em];generalize o:(max 0 (min p.1 16)).toNat=N;have d:N<=16:=i5
 refine aw (λt:Sl×Nat=>(t.1,(t.2:Int))) (λt h'=>t.2<=N/\Sp h h' [emp,al 3 t.1 1 aq (upto t.2)]) (λt=>N-t.2) (⟨eH,0,0⟩,0) i4 ⟨jj,(b.gg 0 i4 λ_ _=>trivial).nil 3 1 aq⟩ ?_;rintro⟨s,k⟩ q ⟨n,c⟩;dsimp only at*;refine ai (λe=>?_) (λe=>?_)
 ·refine c.push ac 1 i4 gm i4 i6 (λ_=>rfl) fN (k:Int) i4 i6 sb λl h3 j=>?_;refine⟨(l,k+1),js,⟨i7,?_⟩,i7⟩;have g:upto (k+1)=upto k++[(k:Int)]:=by simp[upto,zQ]
  dsimp only;rw[g];exact j
 ·have:k=N:=i5
  subst this;exact⟨s,i4,c.take 1 λi A f=>by cases i with|zero=>exact f|succ i=>simp at f⟩
theorem Kq(p:Pm)(seed:Int)(ids:Sl)(l:az)(h:f8)(u:Rd h ids 1 aq l)(J:i0 l<=2^30):ab xt 66 #[lu p,xi xq seed,ids] h λv h'=>∃r:Sl,v=r/\Sp h h' [fQ 34 r 1 aD (dP p seed l)]:=by
 refine JE p seed ids ?_;unfold BQ;refine(Sp.refl h).boxed λa x y=>?_;refine⟨p,(y.box 0 i4).aS _ i4,(uG p x).mono ?_⟩;rintro v I ⟨r,rfl,E⟩;have B:=y.comp E;refine⟨r,i4,?_⟩;have z:=u.len;let at_:Nat->cw:=λk=>dP p seed (l.take k);have h0:(if bB p then bz p.1.toNat p.2.1.toNat else[])=at_ 0:=by simp[at_,dP]
 rw[h0]at B;refine aw (λt:Sl×Nat=>(t.1,(t.2:Int))) (λt h'=>t.2<=i0 l/\Sp h h' [ao a 24 [xi xo p.1,xi xo p.2.1,xi xo p.2.2],fQ 34 t.1 1 aD (at_ t.2)]) (λt=>i0 l-t.2) (r,0) i4 ⟨jj,B⟩ ?_;rintro⟨s,k⟩ h3 ⟨L,j⟩;dsimp only at*;refine ai (λe=>?_) (λe=>?_)
 ·have d:k<i0 l:=i5
  refine(Seq.up u j.ag).bC k i4 d _ i4 ?_;refine⟨p,(j.box 0 i4).aS _ i4,(Ud p seed l[k] h3).mono ?_⟩;rintro v M ⟨w,rfl,G,c⟩;have q:=(j.comp G).freeze 2 i4 λ_=>rfl;refine⟨w,i4,?_⟩;have o:i0 (at_ k)<=4+k∨at_ k=[]:=by
   by_cases n:bB p
   ·left;have:=(bZ p).1 n;have x:=qR bW (l.take k);have I:=List.length_take_le k l;simp only[at_,dP,n,if_true,qy,qA,bz,zx];omega
   ·right;simp[at_,dP,n]
  have g:i0 (at_ k)+1<=2^32:=by
   rcases o with h|h
   ·omega
   ·rw[h];simp
  dsimp only;refine bh (λf=>?_) (λf=>?_)
  ·rw[c]at f;have b:(bB p&&bW l[k])=eR:=o5
   rw[b,f9 rfl]at q;refine q.xN ac 1 2 i6 i4 i4 fx g λK N H=>?_;refine⟨(K,k+1),js,⟨i7,?_⟩,i7⟩;rw[qz]at b;have m:at_ (k+1)=at_ k++[oO (bE p).toNat seed l[k]]:=by simp only[at_,dP,b.1,if_true];rw[oP d,f9 b.2,qU,qq];rfl
   dsimp only;rw[m];exact H.del 2
  ·rw[c]at f;have b:(bB p&&bW l[k])=eS:=by
    cases hh:(bB p&&bW l[k])with
    |false=>rfl
    |true=>rw[hh]at f;cases f
   refine⟨(s,k+1),js,⟨i7,?_⟩,i7⟩;have m:at_ (k+1)=at_ k:=by
    simp only[at_,dP];rw[Bool.and_eq_false_iff]at b;rcases b with h|h
    ·simp[h]
    ·have F:(l.take (k+1)).filter bW=(l.take k).filter bW:=by rw[oP d,g0 sr]
     rw[F]
   dsimp only;rw[m];exact q.del 2
 ·refine⟨s,i4,?_⟩;have m:at_ k=dP p seed l:=by simp only[at_];rw[qi i5]
  rw[m]at j;exact j.take 1 (λi A D=>by cases i with|zero=>exact D|succ i=>simp at D)
theorem nu(a:Sl)(m:aM)(n:Nat)(h:f8)(b:fO h a 1 aD m)(j:aV n m)(q:n<=64:=by omega)(p:i0 m<=2^30:=by omega):ab xt 200 #[a] h λv h'=>v=xm eR/\h'=h:=by
 refine VG a ?_;unfold Qf;have l:=b.len;refine aw (λk:Nat=>(k:Int)) (λk h'=>h'=h/\k<=i0 m) (λk=>i0 m-k) 0 i4 ⟨i4,i5⟩ ?_;rintro k h' ⟨rfl,s⟩;refine ai (λe=>?_) λe=>⟨i4,i4⟩;have c:k<i0 m:=i5
 refine b.get k i4 c λr f=>?_;refine b.get 0 i4 i5 λo d=>?_;have g:=f.len;have i:=d.len;rw[j _ (qh _)]at g i;refine bQ (λe=>i5) λ_=>ai (λe=>i5) λ_=>?_;exact⟨k+1,j1,⟨i4,i5⟩,i5⟩
theorem AL(a:Sl)(m:aM)(n:Nat)(h:f8)(d:fO h a 1 aD m)(x:aV n m)(B:n<=64:=by omega)(z:i0 m<=2^30:=by omega):ab xt 201 #[a] h λv h'=>∃(r:Sl) (rs:List Sl),v=r/\rs.length=i0 m/\Sp h h' (al 34 r 1 bs rs::bG 5 1 aD rs m):=by
 refine VH a ?_;unfold Qg;have y:=d.len;refine(Sp.refl h).make ac bs fx i6 ⟨eH,0,0⟩ i4 i4 0 m.length i4 i5 i5 i5 λs D o A p=>?_;refine aw (λt:Sl×List Sl=>(t.1,(i0 t.2:Int))) (λt h'=>i0 t.2<=i0 m/\Sp h h' (al 34 t.1 1 bs t.2::bG 5 1 aD t.2 (m.take t.2.length))) (λt=>i0 m-i0 t.2) (s,[]) i4 ⟨jj,by simpa[bG]using p⟩ ?_;rintro⟨s,rs⟩ q ⟨E,c⟩;dsimp only at*;refine ai (λe=>?_) (λe=>?_)
 ·have b:i0 rs<i0 m:=i5
  refine(d.up c.ag).get rs.length i4 b λr f=>?_;have i:m[i0 rs].length=n:=x _ (qh _);refine(fC r _ q f i5).mono ?_;rintro v h3 ⟨w,rfl,j⟩;have l:=c.comp j;refine⟨w,i4,?_⟩;refine l.push ac 0 i4 fx i4 i6 (λ_=>rfl) kb w i4 i6 i5 λu F g=>?_;refine⟨(u,rs++[w]),by dsimp only;rw[ak _];simp,⟨i9,?_⟩,i9⟩;dsimp only;rw[show(rs++[w]).length=i0 rs+1 by simp,aG _ _ b,xZ (by rw[List.length_take];omega)];exact g
 ·have k:m.take rs.length=m:=qi i5;rw[k]at c;exact⟨s,rs,i4,i5,c⟩
theorem sO(a:Sl)(m:aM)(h:f8)(b:fO h a 1 aD m):ab xt 204 #[a] h λv h'=>v=xi xo (eN m)/\h'=h:=by
 refine Rx a ?_;unfold Kk;have d:=b.len;refine de (λe=>?_) (λe=>?_)
 ·have:m=[]:=q8 i5;subst this;exact⟨i4,i4⟩
 ·refine b.get 0 i4 i5 λr c=>⟨?_,i4⟩
  rw[c.len,eN,bx i5]
theorem Ue{r:Row}{c:Nat}(h:c<i0 r:=by omega):aN r c=r[c]:=by rw[aN,qe,qd h];rfl
theorem VY(a:Sl)(m:aM)(n b bv:Nat)(h:f8)(q:fO h a 1 aD m)(w:aV n m)(z:bv<n)(y:i0 m<=2^30):
  ab xt 249 #[a,xi xo b,xi xo bv] h λv h'=>v=xi xo (match jm m b bv with|some i=>(i:Int)|none=>-1)/\h'=h:=by
 refine Pc a b bv ?_;unfold HU;have x:=q.len;refine aw (λk:Nat=>(k:Int)) (λk h'=>h'=h/\b<=k/\k<=max b m.length/\∀j,j<k->(decide (b<=j)&&(aN (aC m j) bv !=0))=eS) (λk=>i0 m-k) b i4 ⟨i4,i5,i5,λj g=>by rw[hZ i5];rfl⟩ ?_;rintro k h' ⟨rfl,p,u,g⟩;refine ai (λe=>?_) (λe=>?_)
 ·rw[jm,XZ λj f=>g j i5];exact⟨i4,i4⟩
 ·have d:k<i0 m:=i5
  have t:m[k].length=n:=w _ (qh _);refine q.get k i4 d λr s=>?_;refine s.bC bv i4 i5 _ i4 ?_;have c:aN (aC m k) bv=m[k][bv]'(by omega):=by rw[bx d,Ue]
  refine bQ (λo=>?_) (λo=>?_)
  ·have l:(decide (b<=k)&&(aN (aC m k) bv !=0))=eR:=by rw[g9 p,c];simp;exactλh0=>o (by rw[h0];rfl)
   rw[jm,Ya d g l];exact⟨i4,i4⟩
  ·refine⟨k+1,j1,⟨i4,i5,i5,λj f=>?_⟩,i5⟩;rcases Nat.lt_succ_iff_lt_or_eq.1 f with h1|rfl
   ·exact g j h1
   ·rw[c,CH.1 o];simp
theorem Nx(f:fz)(c:UInt8)(a:Sl)(l:Row)(h:f8)(i:fI h f)(m:Rd h a 1 aD l)(u:i0 l<=2^30):ab xt 250 #[xk (dB f),xi xp c.toNat,a] h λv h'=>∃r:Sl,v=r/\Sp h h' [al 5 r 1 aD (scaleB c l)]:=by
 refine Rz (dB f) _ a ?_;unfold Km;have t:=m.len;refine(RD f h).mono ?_;rintro v j ⟨rfl,rfl⟩;refine⟨dB f,i4,?_⟩;refine(Sp.refl j).make ac aD gz i6 0 i4 i4 l.length l.length i5 i5 (qk _) i5 λs y o w q=>?_;refine aw (λk:Nat=>(k:Int)) (λk h'=>k<=i0 l/\Sp j h' [al 5 s 1 aD ((l.take k).map (Gf.mul c)++qg (i0 l-k) 0)]) (λk=>i0 l-k) 0 i4 ⟨i5,o9⟩ ?_;rintro k h3 ⟨x,b⟩;refine ai (λe=>?_) (λe=>?_)
 ·have d:k<i0 l:=i5
  refine(Seq.up m b.ag).bC k i4 d _ i4 ?_;refine(Lz f c l[k] h3 (i.ag b.ag i.lt)).mono ?_;rintro v z ⟨rfl,rfl⟩;refine⟨_,i4,?_⟩;refine b.set ac 0 i4 (λ_=>rfl) i4 k i4 i9 _ i4 i4 i4 λA p=>?_;refine⟨k+1,j1,⟨i5,?_⟩,i5⟩;have g:i0 ((l.take k).map (Gf.mul c))=k:=i9
  have n:((l.take k).map (Gf.mul c)++qg (i0 l-k) 0).set k (Gf.mul c l[k])=(l.take (k+1)).map (Gf.mul c)++qg (i0 l-(k+1)) 0:=by rw[qZ _ _ i5,g,zc,show l.length-k=i0 l-(k+1)+1 by omega,List.replicate_succ,zw,aG _ _ d,qU,qq];rfl
  rw[<-n];exact p
 ·have:k=i0 l:=i5
  subst this;refine⟨s,i4,?_⟩;rw[qi (qk _),zc,List.replicate_zero,qN]at b;exact b
theorem AM{c:UInt8}{a t:Row}(d:i0 a=i0 t){k:Nat}(b:k<i0 t):(zh (λx y=>y^^^Gf.mul c x) (a.take k) (t.take k)++t.drop k).set k (t[k]^^^Gf.mul c (a[k]'(by omega)))=zh (λx y=>y^^^Gf.mul c x) (a.take (k+1)) (t.take (k+1))++t.drop (k+1):=by
 have e:i0 (zh (λx y=>y^^^Gf.mul c x) (a.take k) (t.take k))=k:=i9
 rw[qZ _ _ i5,e,zc,qQ b,zw,aG _ _ b,aG _ _ (show k<i0 a by omega),yz i9];simp
theorem adZ(f:fz)(c:UInt8)(a g:Sl)(d lt:Row)(h:f8)(D:fI h f)(z:¬g.on f.block)(B:Seq h (λb=>¬g.on b) a 1 aD d)(t:Own h 5 g 1 aD lt)(n:i0 d=i0 lt)(J:i0 d<=2^30):
  ab xt 252 #[xk (dB f),xi xp c.toNat,a,g] h λv h'=>v=.tuple #[]/\Own h' 5 g 1 aD (cR c d lt)/\aY (λb=>¬g.on b) h h':=by
 refine VJ (dB f) _ a g ?_;unfold Qi;have I:=B.len;have F:=t.len;refine de (λe=>?_) (λ_=>?_)
 ·have E:c=0:=CH.1 e;subst E;have:cR 0 d lt=lt:=by apply List.ext_getElem (by rw[bX n]);intro i A G;simp[cR,Gf.zero_mul]
  exact⟨i4,by rw[this];exact t,aY.refl _ _⟩
 ·refine aw (λk:Nat=>(k:Int)) (λk h'=>k<=i0 d/\Own h' 5 g 1 aD (zh (λx y=>y^^^Gf.mul c x) (d.take k) (lt.take k)++lt.drop k)/\aY (λb=>¬g.on b) h h') (λk=>i0 d-k) 0 i4 ⟨i5,by simpa using t,aY.refl _ _⟩ ?_;rintro k A ⟨K,j,l⟩;refine ai (λe=>?_) (λe=>?_)
  ·have w:k<i0 d:=i5
   have r:k<i0 lt:=i5
   have m:i0 (zh (λx y=>y^^^Gf.mul c x) (d.take k) (lt.take k))=k:=i9
   have H:i0 (zh (λx y=>y^^^Gf.mul c x) (d.take k) (lt.take k)++lt.drop k)=i0 lt:=by rw[qy,m,List.length_drop];omega
   refine(B.ag l).bC k i4 w _ i4 ?_;have q:(zh (λx y=>y^^^Gf.mul c x) (d.take k) (lt.take k)++lt.drop k)[k]'(by omega)=lt[k]:=by rw[List.getElem_append_right i5];simp[m]
   refine(j.seq (p:=λ_=>True) (λ_=>rfl) λ_ _=>trivial).RW k i4 i5 _ i4 λax o=>?_;rw[q]at o⊢;refine(Lz f c d[k] A (D.ag l z)).mono ?_;rintro v G ⟨rfl,rfl⟩;refine⟨_,i4,⟨o,trivial⟩,?_⟩;dsimp only;rw[oA];refine j.set ac (λ_=>rfl) i4 k i4 i5 _ i4 i4 i4 λh3 u s _=>⟨trivial,?_⟩
   refine⟨k+1,j1,⟨i5,?_,l.trans s⟩,i5⟩;rw[<-AM n r];exact u
  ·have:k=i0 d:=i5
   subst this;rw[qi (qk _),qi i5,zf i5,qN]at j;exact⟨i4,j,l⟩
abbrev oa(a:Sl)(rs:List Sl)(m:aM):List HP:=al 34 a 1 bs rs::bG 5 1 aD rs m
theorem pH{a:Sl}{rs:List Sl}{m:aM}(b:i0 rs=i0 m)(i:Nat)(c:i<i0 m):(oa a rs m)[i+1]?=dB (al 5 (rs[i]'(by omega)) 1 aD m[i]):=by rw[qB];exact iZ b i c
theorem pI{h h':f8}{a:fz}{v:Value}(c:cellOf h a=dB v)(d:aY (λb=>b<h.size) h h'):cellOf h' a=dB v:=d.cell (vH c) c
theorem abl{B:aB}{G:f8}{f:fz}(N:fI G f)(J:B f.block){a:Sl}{n c bv:Nat}{rs:List Sl}{m:aM}(V:i0 rs=i0 m)(hm:aV n m)(hc:bv<n)(hn:n<=64)(Z:c<i0 m)(hs:i0 m<=2^30)
  {h:f8} (H:aa B G h (oa a rs m)) {K:f8->Prop} (hk:∀h',aa B G h' (oa a rs (fk c bv m m.length))->K h'):
 aJ (σ:=Int) (λd Y i=>
 Br (decide (d<((a.len:Nat):Int)))
 (Br (d !=(c:Int))
 (∃x:fz,(a.ptr=dB x/\0<=d/\d<((a.len:Nat):Int))/\
 ∃g:Sl,cellOf i (x.add (d.toNat*1))=dB (xj g.ptr g.len g.cap)/\
 ∃z:fz,(g.ptr=dB z/\0<=(bv:Int)/\(bv:Int)<((g.len:Nat):Int))/\
 ∃D:Int,cellOf i (z.add ((bv:Int).toNat*1))=dB (xi xp D)/\
 ∃a25:fz,(a.ptr=dB a25/\0<=(c:Int)/\(c:Int)<((a.len:Nat):Int))/\
 ∃l:Sl,cellOf i (a25.add ((c:Int).toNat*1))=dB (xj l.ptr l.len l.cap)/\
 ∃y:fz,(a.ptr=dB y/\0<=d/\d<((a.len:Nat):Int))/\
 ∃j:Sl,cellOf i (y.add (d.toNat*1))=dB (xj j.ptr j.len j.cap)/\
 ae xt 252 #[(xk (dB f)),(xi xp D),(xj l.ptr l.len l.cap),(xj j.ptr j.len j.cap)] (.many []) i λ_ F=>
 (av.ok [(x.add (d.toNat*1),(xj g.ptr g.len g.cap))] F)/\
 Y (qc xo (d+(1:Int))) F)
 (Y (qc xo (d+(1:Int))) i))
 (K i)) (0:Int) h:=by
 have ad:a.len=i0 m:=by rw[(H.own 0 i4).len,V]
 refine aw (λk:Nat=>(k:Int)) (λk h'=>k<=i0 m/\aa B G h' (oa a rs (fk c bv m k))) (λk=>i0 m-k) 0 i4 ⟨i5,by rw[aaa];exact H⟩ ?_;rintro k W ⟨ah,o⟩;have P:=oR c bv m k;have u:i0 rs=i0 (fk c bv m k):=by rw[P];exact V
 refine ai (λe=>?_) (λe=>?_)
 ·have t:k<i0 m:=i5
  refine bQ (λX=>?_) (λX=>?_)
  ·have r:k≠c:=λhh=>X (by rw[hh]);have S:aC (fk c bv m k) k=aC m k:=by rw[sw t,g0 i5]
   have R:aC (fk c bv m k) c=aC m c:=by rw[sw Z,g0 i5]
   have e4:(fk c bv m k)[k]'(by omega)=aC m k:=by rw[<-S,bx]
   have e5:(fk c bv m k)[c]'(by omega)=aC m c:=by rw[<-R,bx]
   have s:=pH (a:=a) u k i5;have U:=pH (a:=a) u c i5;rw[e4]at s;rw[e5]at U;have lk:=cx hm t;have lt:=cx hm Z;have q:=o.off (k+1) 0 i5 s i4;have w:=q.1.seq (λ_=>rfl) q.2;refine w.nX k i4 i5 λa1 O T=>?_;have Q:=o.seq (k+1) s λ_=>rfl;refine Q.bC bv i4 i5 _ i4 ?_;refine w.nX c i4 i5 λ_ _ _=>?_;refine w.nX k i4 i5 λ_ _ _=>?_;have E:(ux (rs[c]'(by omega)) 1 aD (aC m c)).p W (λb=>¬(rs[k]'(by omega)).on b):=by have:=o.off (k+1) (c+1) i5 s U;exact(this.1.seq (λ_=>rfl) this.2).mono λb hb=>hb.2
   refine(adZ f _ _ _ (aC m c) (aC m k) W (N.ag o.ag J) (o.base (k+1) s J) E (o.own (k+1) s) i5 i5).mono ?_;rintro v h2 ⟨rfl,M,A⟩;have H2:=o.pd (k+1) s A M;have L:=A.cell T.2 O;refine⟨(),i4,⟨L,trivial⟩,?_⟩;refine⟨k+1,j1,⟨i5,?_⟩,i5⟩;rw[aab t r];show aa B G h2 (al 34 a 1 bs rs::bG 5 1 aD rs ((fk c bv m k).set k _));rw[<-Sz u k i5];have I:(aC m k)[bv]'(by omega)=aN (aC m k) bv:=(Ue).symm;rw[I]at H2;exact H2
  ·have r:k=c:=i5
   subst r;exact⟨k+1,j1,⟨i5,by rw[aac];exact o⟩,i5⟩
 ·have:k=i0 m:=i5
  subst this;exact hk _ o
theorem Uf{rs:List Sl}{m:aM}(a:i0 rs=i0 m)(i j:Nat)(c:i<i0 m)(b:j<i0 m):
  ((bG 5 1 aD rs m).set i (al 5 (rs[j]'(by omega)) 1 aD m[j])).set j (al 5 (rs[i]'(by omega)) 1 aD m[i])=bG 5 1 aD ((rs.set i (rs[j]'(by omega))).set j (rs[i]'(by omega))) (jE m i j):=by
 rw[kW a,kW j9,jE,bx c,bx b]
theorem CI{B:aB}{x:f8}{f:fz}(V:fI x f)(S:B f.block){a:Sl}{n cS:Nat}{rs:List Sl}{m:aM}(hl:i0 rs=i0 m)(hm:aV n m)(hc:cS<=n)(hn:n<=64)(hs:i0 m<=2^30)
  {h:f8} (H:aa B x h (oa a rs m)):ab xt 202 #[xk (dB f),a,xi xo cS] h λv h'=>
   ∃L:List Sl,v=xi xo (bH m cS).1/\L.length=i0 m/\aa B x h' (oa a L (bH m cS).2):=by
 have ar:a.len=i0 m:=by rw[(H.own 0 i4).len,hl]
 refine OZ (dB f) a cS ?_;unfold HO;refine aw (λt:List Sl×Nat=>(((bH m t.2).1:Int),(t.2:Int))) (λt h'=>t.2<=cS/\t.1.length=i0 m/\aa B x h' (oa a t.1 (bH m t.2).2)) (λt=>cS-t.2) (rs,0) i4 ⟨jj,hl,H⟩ ?_;rintro⟨c,bv⟩ h1 ⟨hk,R,J⟩;dsimp only at*;have y:=gU hm bv;have D:=Eh m bv;obtain⟨st,s⟩:∃st,st=bH m bv:=⟨_,rfl⟩
 rw[<-s]at y D J⊢;obtain⟨b,l⟩:=st;dsimp only at y D J⊢;have w:i0 c=i0 l:=i5
 have g:bH m (bv+1)=jF (b,l) bv:=by rw[bH,<-s]
 refine ai (λe=>?_) (λe=>?_)
 ·have M:bv<n:=i5
  have O:fO h1 a 1 aD l:=J.SB w λ_=>rfl;refine(VY a l n b bv h1 O y.1 M i5).mono ?_;rintro v h2 ⟨rfl,rfl⟩;refine⟨_,i4,?_⟩;dsimp only;cases hb:jm l b bv with
  |none=>
   refine ai (λ_=>?_) λe2=>absurd i6 e2;refine⟨(c,bv+1),?_,⟨i7,R,?_⟩,i7⟩
   ·dsimp only;rw[g,jF,hb,ak _];rfl
   ·dsimp only;rw[g,jF,hb];exact J
  |some i=>
   have hh:=te hb;refine ai (λe2=>absurd (show((i:Nat):Int)<0 from e2) i5) λ_=>?_;dsimp only;have I:b<i0 l:=i5
   have Y:=hh.2.1;have T:=J.seq 0 i4 λ_=>rfl;refine bj ?_;refine T.nX i i4 i5 λ_ _ _=>?_;refine T.nX b i4 i5 λ_ _ _=>?_;refine J.set ac 0 i4 (λ_=>rfl) i4 b i4 i5 (c[i]'(by omega)) i4 i4 i4 λh3 H3=>⟨trivial,?_⟩
   refine H3.set ac 0 i4 (λ_=>rfl) i4 i i4 i9 (c[b]'(by omega)) i4 i4 i4 λW H4=>⟨trivial,?_⟩
   have o:aa B x W (oa a ((c.set b (c[i]'(by omega))).set i (c[b]'(by omega))) (jE l b i)):=by have:=H4.aff (b+1) (i+1) (A:=al 5 (c[b]'(by omega)) 1 aD l[b]) (A2:=al 5 (c[i]'(by omega)) 1 aD l[i]) (iZ w b I) (iZ w i Y);show aa B x W (al 34 a 1 bs _::bG 5 1 aD _ _);rw[<-Uf w b i I Y];exact this
   obtain⟨j,E⟩:∃j,j=(c.set b (c[i]'(by omega))).set i (c[b]'(by omega)):=⟨_,rfl⟩
   rw[<-E]at o;have am:i0 j=i0 l:=by rw[E];simp;omega
   obtain⟨d,u⟩:∃d,d=jE l b i:=⟨_,rfl⟩
   have z:aV n d:=by rw[u];exact GN y.1 I Y
   have N:i0 d=i0 l:=by rw[u];exact lY _ _ _
   rw[<-u]at o;have p:i0 j=i0 d:=i5
   have k:b<i0 d:=i5
   refine bj ?_;have gt:=pH (a:=a) p b k;have lt:d[b].length=n:=z _ (qh _);have U:=o.seq 0 i4 λ_=>rfl;refine U.nX b i4 i5 λax G _=>?_;have F:=o.seq (b+1) gt λ_=>rfl;refine F.bC bv i4 i5 _ i4 ?_;refine U.nX b i4 i5 λap P _=>?_;have Q:fI W f:=V.ag o.ag S;refine(adW f _ W Q).mono ?_;rintro v h5 ⟨rfl,rfl⟩;refine⟨_,i4,⟨P,G,trivial⟩,?_⟩;refine(Nx f _ _ _ h5 Q F i5).mono ?_;rintro v h6 ⟨r,rfl,R6⟩;refine⟨r,i4,⟨pI G R6.ag,trivial⟩,?_⟩;have H6:=o.comp R6;dsimp only;refine H6.set ac 0 i4 (λ_=>rfl) i4 b i4 i5 r i4 i4 i4 λZ H7=>⟨trivial,?_⟩
   have ad:d[b]=aC d b:=(bx k).symm;have ah:(d[b])[bv]'(by omega)=aN (aC d b) bv:=by rw[Ue (by rw[bx k];omega)];simp only[bx k]
   have X:aa B x Z (oa a (j.set b r) (kj b bv d)):=by have h8:aa B x Z ((al 34 a 1 bs (j.set b r)::bG 5 1 aD j d)++[al 5 r 1 aD (scaleB (Gf.inv ((d[b])[bv]'(by omega))) d[b])]):=H7;have h9:=h8.ahl (b+1) (by simp[Vm p];omega);rw[ah,ad]at h9;show aa B x Z (al 34 a 1 bs _::bG 5 1 aD _ (d.set b _));rw[<-kW p];exact h9
   have K:i0 (kj b bv d)=i0 d:=oQ _ _ _;refine abl V S i9 (BB z k) M hn i5 i5 X λh8 H8=>?_;have q:jF (b,l) bv=(b+1,fk b bv (kj b bv d) l.length):=by rw[jF];dsimp only;rw[hb,u]
   refine⟨(j.set b r,bv+1),?_,⟨i7,i9,?_⟩,i7⟩
   ·dsimp only;rw[g,q,ak _,ak _];rfl
   ·dsimp only;rw[g,q];rw[K,N]at H8;exact H8
 ·have:bv=cS:=i5
  subst this;exact⟨c,by rw[<-s],R,by rw[<-s];exact J⟩
theorem Kr(f:fz)(a:Sl)(m:aM)(n:Nat)(h:f8)(u:fI h f)(y:fO h a 1 aD m)(i:aV n m)(k:n<=64)(j:i0 m<=2^30):
  ab xt 131 #[xk (dB f),a] h λv h'=>∃(r:Sl) (rs:List Sl),v=r/\r.len=cb m/\rs.length=i0 m/\r.len<=i0 m/\Sp h h' (oa ⟨r.ptr,i0 m,r.cap⟩ rs (bH m (eN m)).2):=by
 refine OR (dB f) a ?_;unfold Hz;refine(nu a m n h y i k j).mono ?_;rintro v A ⟨rfl,rfl⟩;refine⟨_,i4,bh (λe=>j3) λ_=>?_⟩;refine(AL a m n A y i k j).mono ?_;rintro v D ⟨r,rs,rfl,w,s⟩;refine⟨r,i4,(uF f D).mono ?_⟩;rintro v h3 ⟨rfl,rfl⟩;refine⟨dB f,i4,(sO r m h3 (s.SB w λ_=>rfl)).mono ?_⟩;rintro v E ⟨rfl,rfl⟩;have B:eN m<=n:=by
  cases m with
  |nil=>simp[eN,aC]
  |cons x t=>rw[eN,bx jj];exact vT (i _ jj)
 refine⟨_,i4,(CI u u.lt w i B k j s).mono ?_⟩;rintro v F ⟨o,rfl,g,q⟩;have b:=Eh m (eN m);rw[(gU i _).2]at b;have z:=(q.own 0 i4).cap;have d:=(q.own 0 i4).len;refine⟨_,i4,⟨zX _,yS.2 (show(bH m (eN m)).1<=r.cap by omega)⟩,⟨r.ptr,(bH m (eN m)).1,r.cap⟩,o,jj,i4,g,b,?_⟩;have:r=⟨r.ptr,i0 m,r.cap⟩:=by obtain⟨p,l,c⟩:=r;simp only at d⊢;rw[<-g,<-d]
 rw[<-this];exact q
theorem abm(f:fz)(a:Sl)(m:aM)(n:Nat)(h:f8)(b:fI h f)(i:fO h a 1 aD m)(j:aV n m)(e:n<=64)(d:i0 m<=2^30):
  ab xt 64 #[xk (dB f),a] h λv h'=>v=xi xo (cb m)/\Sp h h' []:=by
 refine Tu (dB f) a ?_;unfold My;refine(Kr f a m n h b i j e d).mono ?_;rintro v k ⟨r,rs,rfl,c,_,_,g⟩;exact⟨r,i4,by rw[c],.zip g.ag⟩
theorem LA(p:Pm)(seed:Int)(ids:Sl)(l:az)(h:f8)(m:Rd h ids 1 aq l)(t:i0 l<=2^29):ab xt 20 #[lu p,xi xq seed,ids] h λv h'=>v=xi xo (oH p seed l)/\Sp h h' []:=by
 refine Mq p seed ids ?_;unfold FA;refine(Sp.refl h).boxed λa q g=>?_;refine⟨p,(g.box 0 i4).aS _ i4,(rF q).mono ?_⟩;rintro v s ⟨f,rfl,j⟩;have e:=g.comp j;have d:=e.box 0 i4;refine⟨dB f,i4,⟨d.cell0 i4,d.cell i4,d.cell i4,trivial⟩,?_⟩;refine(Kq p seed ids l s (Seq.up m e.ag) i5).mono ?_;rintro v h3 ⟨r,rfl,o⟩;have c:=e.comp o;refine⟨r,i4,trivial,?_⟩;have n:=adt p seed l;have b:(bE p).toNat<=64:=by
  unfold bE;split
  ·rename_i i;have:=(bZ p).1 i;omega
  ·omega
 refine(abm f r _ _ h3 (c.box 1 i4) (c.GH 2 i4) (jN p seed l) b i5).mono ?_;rintro v u ⟨rfl,k⟩;exact⟨_,i4,trivial,i4,.zip (c.comp k).ag⟩
theorem Qs(p:Pm)(seed:Int)(ids:Sl)(l:az)(h:f8)(m:Rd h ids 1 aq l)(d:i0 l<=2^29):ab xt 158 #[lu p,xi xq seed,ids] h λv h'=>v=xm (dK p seed l)/\Sp h h' []:=by refine MS p seed ids ?_;unfold FO;refine(Sp.refl h).boxed λa o i=>?_;refine⟨p,(i.box 0 i4).aS _ i4,(dW p o).mono ?_⟩;rintro v q ⟨rfl,j⟩;have c:=i.comp j;refine⟨_,i4,trivial,bD (λe=>?_) λe=>⟨trivial,trivial,by rw[dK,e];rfl,.zip c.ag⟩⟩;have g:=c.box 0 i4;refine⟨p,g.aS _ i4,p,g.aS _ i4,(LA p seed ids l q (Seq.up m c.ag) d).mono ?_⟩;rintro v h3 ⟨rfl,n⟩;have f:=c.comp n;have b:=f.box 0 i4;refine⟨_,i4,⟨b.cell0 i4,b.cell i4,b.cell i4,trivial⟩,(kz p h3).mono ?_⟩;rintro v r ⟨rfl,k⟩;exact⟨_,i4,trivial,by rw[dK,e];rfl,.zip (f.comp k).ag⟩
theorem Ny(p:Pm)(seed:Int)(h:f8):ab xt 174 #[lu p,xi xq seed] h λv h'=>v=xm (dK p seed (ff p))/\Sp h h' []:=by refine Lk p seed ?_;unfold Ds;refine(Sp.refl h).boxed λa i e=>?_;have d:=e.box 0 i4;refine⟨p,d.aS _ i4,p,d.aS _ i4,(Nw p i).mono ?_⟩;rintro v j ⟨r,rfl,g⟩;have c:=e.comp g;have b:=c.box 0 i4;refine⟨r,i4,⟨b.cell0 i4,b.cell i4,b.cell i4,trivial⟩,(Qs p seed r _ j (c.seq 1 i4 λ_=>rfl) sb).mono ?_⟩;rintro v h3 ⟨rfl,f⟩;exact⟨_,i4,trivial,i4,.zip (c.comp f).ag⟩
theorem aea(p:Pm)(o b:Int)(h:f8):ab xt 105 #[lu p,xi xo o,xi xo b] h λv h'=>
  v=.tuple #[xi xo (((rE p o b).getD 0:Nat):Int),xm (rE p o b).isSome]/\Sp h h' []:=by
 refine Rp p o b ?_;unfold Kd;refine(Sp.refl h).boxed λw z n=>?_;have n:Sp h z [ao w 24 [xi xo p.1,xi xo p.2.1,xi xo p.2.2]]:=n;refine aw (λi:Nat=>(i:Int)) (λi h'=>i<=16/\(∀k,k<i->Nu p o b k=eS)/\Sp h h' [ao w 24 [xi xo p.1,xi xo p.2.1,xi xo p.2.2]]) (λi=>16-i) 0 i4 ⟨i5,λk f=>absurd f (Nat.not_lt_zero k),n⟩ ?_;rintro i B ⟨E,c,r⟩;refine ai (λe=>?_) λe=>?_
 ·have A:i<16:=i5
  have a:=r.box 0 i4;refine⟨p,a.aS _ i4,(rC _ _ _ B).mono ?_⟩;rintro _ h3 ⟨rfl,rfl⟩;refine⟨_,i4,⟨a.cell0 i4,a.cell i4,a.cell i4,trivial⟩,(Ny p _ h3).mono ?_⟩;rintro _ D ⟨rfl,x⟩;have u:=r.up x.ag;refine⟨_,i4,trivial,bD (λg=>?_) λg=>?_⟩
  ·have q:rE p o b=dB i:=by
    unfold rE;refine List.find?_eq_some_iff_append.2 ⟨g,qw i,(qw (15-i)).map (·+(i+1)),?_,λk f=>?_⟩
    ·apply zO;intro j;by_cases t:j<i
     ·rw[qo (by simpa using t),zu i5,zu t]
     ·rw[qj i9,zx];by_cases l:j=i
      ·subst l;rw[zc,zu i5];rfl
      ·obtain⟨d,y⟩:∃d,j=i+(d+1):=⟨j-i-1,i5⟩
       subst y;rw[zq,qB,qS];by_cases s:d<15-i
       ·rw[zu s,zu i5];simp;omega
       ·rw[qV i9,qV i9];rfl
    ·rw[c k (qE.1 f)];rfl
   rw[q];exact⟨i4,.zip u.ag⟩
  ·refine⟨i+1,j1,⟨i5,λk f=>?_,u⟩,i5⟩;by_cases m:k<i
   ·exact c k m
   ·have:k=i:=i5
    subst this;exact g
 ·have q:rE p o b=eH:=by unfold rE;rw[List.find?_eq_none];intro k f;rw[c k (by have:=qE.1 f;omega)];simp
  rw[q];exact⟨i4,.zip r.ag⟩
theorem YM(p:Pm)(o:Int)(n:Nat)(h:f8)(G:n<=2^30):ab xt 47 #[lu p,xi xo o,xi xo n] h λv h'=>
  (cX p o n=eH->v=.tuple #[xj eH 0 0,xm eS]/\Sp h h' [])/\
  (∀l,cX p o n=dB l->∃r:Sl,v=.tuple #[r,xm eR]/\Sp h h' [al 3 r 1 aq l]):=by
 refine Mt p o n ?_;unfold FC;refine(Sp.refl h).boxed λw y f=>?_;have f:Sp h y [al 3 ⟨eH,0,0⟩ 1 aq [],ao w 24 [xi xo p.1,xi xo p.2.1,xi xo p.2.2]]:=(f.nil 3 1 aq).cE [1,0];refine aw (λt:Sl×Nat×az=>(t.1,(t.2.1:Int))) (λt h'=>t.2.1<=n/\cX p o t.2.1=dB t.2.2/\Sp h h' [al 3 t.1 1 aq t.2.2,ao w 24 [xi xo p.1,xi xo p.2.1,xi xo p.2.2]]) (λt=>n-t.2.1) (⟨eH,0,0⟩,0,[]) i4 ⟨jj,i4,f⟩ ?_;rintro⟨s,i,l⟩ B ⟨H,c,k⟩;dsimp only at*;have D:=jc c;have b:∀j,rE p o i=eH->j<=n-(i+1)->cX p o (i+1+j)=eH:=λj m=>by
  induction j with
  |zero=>intro _;show cX p o (i+1)=eH;unfold cX;rw[c,m];rfl
  |succ j ih=>intro F;show cX p o ((i+1+j)+1)=eH;unfold cX;rw[ih i5];rfl
 refine ai (λe=>?_) λe=>?_
 ·have z:i<n:=i5
  refine⟨p,(k.box 1 i4).aS _ i4,(aea p o i B).mono ?_⟩;rintro _ h3 ⟨rfl,x⟩;have q:=k.up x.ag;refine⟨(_,_),i4,bh (λg=>?_) λg=>?_⟩
  ·have a:cX p o n=eH:=by have:=b (n-(i+1)) (Option.isSome_eq_false_iff.1 g|>Option.isNone_iff_eq_none.1) (qk _);rw[show i+1+(n-(i+1))=n by omega]at this;exact this
   rw[a];exact⟨λ_=>⟨i4,.zip q.ag⟩,λl h=>k5⟩
  ·obtain⟨t,u⟩:∃t,rE p o i=dB t:=Option.isSome_iff_exists.1 g;rw[u];refine q.push ac 0 i4 gm i4 i6 (λ_=>rfl) fN (t:Int) i4 i6 i5 λE I A=>?_;refine⟨(E,i+1,l++[(t:Int)]),js,⟨i7,?_,A⟩,i7⟩;show cX p o (i+1)=_;unfold cX;rw[c,u];rfl
 ·have d:i=n:=i5
  subst d;rw[c];exact⟨λh=>k5,λl' h=>(by injection h with h;subst h;exact⟨s,i4,k.cE [0]⟩)⟩
end Go.Qw
namespace Wl
open Go
def oB(m:aE)(l:cw):cw:=(cU m l).map cL
def bO(m:aE)(l:cw):cw:=bm m++oB m l
def iB(d:bo)(a:Nat)(n:Int):Bool:=decide (max n 0<=(d.room:Int)-a)
def fy(m:aE)(d:bo)(n:Int):Bool:=!d.lost&&(iB d d.l.length n||iB d (bO m d.l).length n)
def gd(m:aE)(w:Pow)(d:bo)(n:Int):Int×Pow×bo:=
 if d.lost then(5,w,d)else if !fy m d n then(7,w,d)else if iB d d.l.length n then(0,w,d)else d.rewrite w (bO m d.l)
theorem aeb(l:List di):i0 (pT l)<=i0 l:=by unfold pT;rw[qA];exact za (qR _ _) jj
theorem me(m:aE)(l:cw):i0 (cU m l)<=i0 l:=by unfold cU;refine za (aeb _) ?_;rw[wO];exact List.length_filterMap_le _ _
theorem xF(m:aE)(l:cw):i0 (oB m l)<=i0 l:=by unfold oB;rw[qA];exact me m l
end Wl
namespace Go.Qw
open Go Go.Vc Go.Proofs Wl
section
variable {B:aB} {h0 h:f8} {As:List HP} {a pw:fz} {d:bo} {w:Pow}
theorem gB.rewrite{l:cw}(h:gB d):gB (d.rewrite w l).2.2:=by
 unfold bo.rewrite;split
 ·exact h
 ·rename_i b;split
  ·exact h
  ·split
   ·exact h
   ·rename_i e;have a:∀c∈l,i0 c=64:=k0
    split
    ·exact h
    ·split
     ·exact⟨zE _,i7,h.room,a,zE _,jj⟩
     ·exact⟨h.wait,h.len,h.room,h.cell,i7,a⟩
theorem Io(x:Sl)(l:cw)(H:aa B h0 h (ki pw a d::dE 92 pw w::As))(O:St B h0 As λh=>fO h x 1 aD l)(M:i0 l<=2^20)(t:∀c∈l,i0 c<=2^20):
  ab xt 125 #[xk (dB a),x] h λv h'=>v=xi xo (d.rewrite w l).1/\aa B h0 h' (ki pw a (d.rewrite w l).2.2::dE 92 pw (d.rewrite w l).2.1::As):=by
 refine Bf (dB a) x ?_;unfold pv;have N:=O.at [_,_] H;have X:=N.len;have p:=gB.rewrite (w:=w) (l:=l) (And.left (id H).tj);have j:∀(e:Int),d.rewrite w l=(e,w,d)->(Value.int .i64 e=xi xo (d.rewrite w l).1/\aa B h0 h (ki pw a (d.rewrite w l).2.2::dE 92 pw (d.rewrite w l).2.1::As)):=λe Y=>by
  rw[Y];exact⟨i4,H⟩
 refine aw (λi:Nat=>(i:Int)) (λi h'=>i<=i0 l/\(∀c∈l.take i,i0 c=64)/\h'=h) (λi=>i0 l-i) 0 i4 ⟨i5,jj,i4⟩ ?_;rintro i h1 ⟨hi,f,rfl⟩;refine ai (λe=>?_) λe=>?_
 ·have o:i<i0 l:=i5
  refine N.get i i4 o λr Q=>?_;have T:=Q.len;refine bQ (λU=>j 1 ?_) λU=>?_
  ·unfold bo.rewrite;rw[f9];rw[wL,yp];exact⟨l[i],qh o,i9⟩
  ·refine⟨i+1,j1,⟨i5,λc k=>?_,i4⟩,i5⟩;rw[aG _ _ o]at k;rcases qD.1 k with k|k
   ·exact f c k
   ·rw[qx.1 k];omega
 have f:∀c∈l,i0 c=64:=by rw[qi i5]at f;exact f
 have n:(!l.all λb=>decide (i0 b=64))=eS:=by rw[Bool.not_eq_false',qL];exactλc k=>g9 (f c k)
 have A:d.rewrite w l=(if d.lost then(5,w,d)else if d.room<i0 l then(7,w,d)else if w.off then(14,w,d)else if w.step.1 then(0,w.step.2,{d with l:=l,wait:=0,laid:=[],has:=eS})else(14,w.step.2,{d with laid:=l,has:=eR})):=by unfold bo.rewrite;rw[n];rfl
 obtain⟨ok,s,b,L⟩:=H.tj;have z:=L.box 0 i4;refine bj (bj (bD (λe=>j3) λ_=>⟨a,i4,d.lost,z.cell i4,bD (λe=>j 5 (by rw[A,f9 e])) λg=>?_⟩));refine⟨a,i4,(d.room:Int),z.cell i4,ai (λe=>j 7 (by rw[A,g0 pa,f9 i5])) λJ=>?_⟩;obtain⟨W,R,G⟩:=(L.aZ 4 [3,0,1,2]).DF;refine⟨a,i4,dB pw,z.cell0 i4,(Jp W (G.box 0 i4)).mono ?_⟩;rintro _ h2 ⟨rfl,rfl⟩;refine⟨_,i4,bh (λe=>j 14 ?_) λq=>?_⟩
 ·rw[A,g0 pa,g0 i5,f9 l5]
 have m:w.off=eS:=o9
 have u:d.rewrite w l=(if w.step.1 then(0,w.step.2,{d with l:=l,wait:=0,laid:=[],has:=eS})else(14,w.step.2,{d with laid:=l,has:=eR})):=by rw[A,g0 pa,g0 i5,g0 (by simp[m])]
 refine⟨a,i4,dB pw,z.cell0 i4,(Ib (L.aZ 4 [3,0,1,2])).mono ?_⟩;rintro _ P ⟨rfl,K⟩;have y:=O.at [_,_,_,_] K;refine⟨_,i4,bh (λe=>?_) λe=>?_⟩
 ·rw[u,g0 pt]at p⊢;refine(Lt x l P y M t).mono ?_;rintro _ Z ⟨r,rfl,F⟩;have E:=(K.ca F).aZ 5 [2,3,0,1];refine⟨r,i4,a,i4,E.store ac 0 i4 i4 4 [r] i4 i4 i4 lb λS I=>?_⟩;refine⟨a,i4,I.store ac 0 i4 i4 5 [xm eR] i4 i4 i4 lb λh8 D=>⟨i4,?_⟩⟩;exact aa.DG (s:=s) (b:=r) p D
 ·rw[u,f9 e]at p⊢;refine(Lt x l P y M t).mono ?_;rintro _ Z ⟨r,rfl,F⟩;have E:=(K.ca F).aZ 5 [2,0,4,1];refine⟨r,i4,a,i4,E.store ac 0 i4 i4 2 [r] i4 i4 i4 lb λS I=>?_⟩;refine⟨a,i4,I.store ac 0 i4 i4 3 [xi xo 0] i4 i4 i4 lb λh8 D=>?_⟩;refine(Ic (d:={d with l:=l,wait:=0}) r b _ D ⟨zE _,i7,ok.room,f,ok.laid,ok.cellL⟩ i4).mono ?_;rintro _ h9 ⟨rfl,V⟩;exact⟨0,i4,i4,V⟩
theorem CJ(s b:Sl)(c:Nat)(n:Int)(e:cv h a 156 (ga pw d s b))(g:d.room<=512)(f:c<=2^40:=by omega):ab xt 190 #[xk (dB a),xi xo c,xi xo n] h λv h'=>v=xm (iB d c n)/\h'=h:=by refine MW (dB a) c n ?_;unfold FS;refine(aaS s b e).mono ?_;rintro _ _ ⟨rfl,rfl⟩;refine⟨_,i4,?_,i4⟩;rw[ak ((d.room:Int)-c)];unfold iB;congr 1;rw[decide_eq_decide];split<;>omega
theorem YN(s b:Sl)(x:ci)(m:aE)(B:cv h a 156 (ga pw d s b))(K:fO h s 1 aD d.l)(ok:gB d)(R:dG h x m)(N:dg m):
  ab xt 192 #[xk (dB a),gb x] h λv h'=>∃r:Sl,v=r/\Sp h h' [fa r (oB m d.l)]:=by
 refine OX (dB a) x ?_;unfold HL;have D:=ok.len;have z:=ok.room;refine(Sp.refl h).boxed λW O j=>?_;refine⟨x,(j.box 0 i4).aS _ i4,(Ih a pw d s b x m O (B.ag j.ag B.lt) (K.up j.ag) ok (R.up j.ag) N).mono ?_⟩;rintro _ U ⟨r,c,rfl,H⟩;have y:=(j.ca H).Aa 34 5 1 aD;refine⟨r,i4,?_⟩;have n:=me m d.l;obtain⟨L,A⟩:∃L,L=cU m d.l:=⟨_,rfl⟩
 have q:(oB m d.l)=L.map cL:=by unfold oB;rw[A]
 rw[<-A]at y n;rw[q];have E:=y.fR 1 i4;have Q:=E.2.1;have w:=E.1.len;refine aw (λt:Sl×Nat=>(t.1,(t.2:Int))) (λt h'=>t.2<=i0 L/\Sp h h' [fa t.1 ((L.map cL).take t.2),cW fv 8 bT r c L]) (λt=>i0 L-t.2) (⟨eH,0,0⟩,0) i4 ⟨jj,y.cE [0,1]⟩ ?_;rintro⟨o,i⟩ h3 ⟨X,k⟩;dsimp only at*;have S:=k.fR 1 i4;refine ai (λe=>?_) (λe=>?_)
 ·have p:i<i0 L:=i5
  refine S.1.eJ (g:=bT) i i4 i5 (c[i]'(by omega)) i4 ?_;refine k.alloc ac i4 λT V J=>?_;refine J.storeAll ac 2 i4 i4 (bT (c[i]'(by omega))) i4 i4 i4 i4 λF f=>?_;have f:Sp h F [fa o ((L.map cL).take i),cW fv 8 bT r c L,ao T 170 (bT (c[i]'(by omega)))]:=f;refine⟨c[i]'(by omega),(f.box 2 i4).aS _ i4,(tq _ L[i] F (Fix.row (f.fR 1 i4) p)).mono ?_⟩;rintro _ Y ⟨u,rfl,P⟩;have M:=(f.ca P).aZ 3 [1,0,2];refine⟨u,i4,M.Eg ac fx i9 λI h8 G=>?_⟩;refine⟨(I,i+1),js,⟨i7,?_⟩,i7⟩;dsimp only;rw[aG _ _ (show i<i0 (L.map cL) by simp;omega),wx];exact G.cE [0,1]
 ·rw[qi i9]at k;exact⟨o,i4,k.cE [0]⟩
end
section
variable {B:aB} {h0 h:f8} {As:List HP} {a pw:fz} {d:bo} {w:Pow}
theorem Ks{m:aE}{l:cw}{c:ba}(h:c∈oB m l):i0 c<=64:=by
 unfold oB at h;obtain⟨r,_,rfl⟩:=qt.1 h;unfold cL;split
 ·rename_i a;refine vT (mM i6 i6 ?_);have:=pi a;omega
 ·simp
theorem Ip(s b:Sl)(x:ci)(m:aE)(n:cv h a 156 (ga pw d s b))(w:fO h s 1 aD d.l)(ok:gB d)(k:dG h x m)(g:dg m):
  ab xt 123 #[xk (dB a),gb x] h λv h'=>∃r:Sl,v=r/\Sp h h' [fa r (bO m d.l)]:=by
 refine Rq (dB a) x ?_;unfold Ke;have o:=ok.len;have i:=ok.room;refine(Sp.refl h).boxed λB j e=>?_;have e:Sp h j [ao B 44 (bn x)]:=e;refine⟨x,(e.box 0 i4).aS _ i4,x,(e.box 0 i4).aS _ i4,(nL x m j (k.up e.ag) g).mono ?_⟩;rintro _ E ⟨r,rfl,p⟩;have f:=e.ca p;have c:=f.box 1 i4;refine⟨r,i4,⟨c.cell0 i4,c.cell i4,c.cell i4,c.cell i4,c.cell i4,c.cell i4,c.cell i4,c.cell i4,trivial⟩,(YN s b x m (n.ag f.ag n.lt) (w.up f.ag) ok (k.up f.ag) g).mono ?_⟩;rintro _ h3 ⟨u,rfl,y⟩;have z:=(f.ca y).aZ 2 [1,0];have A:=jU m g;have q:=xF m d.l;refine⟨u,i4,trivial,z.agi ac fx ⟨_,_,i4,i4⟩ i5 λD F t=>?_⟩;exact⟨trivial,D,i4,t.cE [0]⟩
theorem Iq(s b:Sl)(x:ci)(m:aE)(n:Int)(t:cv h a 156 (ga pw d s b))(y:fO h s 1 aD d.l)(k:s.len=i0 d.l)(ok:gB d)(A:dG h x m)(q:dg m):
  ab xt 118 #[xk (dB a),gb x,xi xo n] h λv h'=>v=xm (fy m d n)/\Sp h h' []:=by
 refine FL (dB a) x n ?_;unfold Cw;have u:=ok.len;have o:=ok.room;refine(Sp.refl h).boxed λD z f=>?_;have f:Sp h z [ao D 44 (bn x)]:=f;have c:=t.ag f.ag t.lt;refine bj (bD (λe=>j3) λ_=>(Ie s b c).mono ?_);rintro _ _ ⟨rfl,rfl⟩;refine⟨_,i4,bD (λe=>⟨by unfold fy;rw[e];rfl,.zip f.ag⟩) λe=>?_⟩;have p:fy m d n=(iB d d.l.length n||iB d (bO m d.l).length n):=by unfold fy;rw[e];rfl
 refine(Qm s b c k).mono ?_;rintro _ _ ⟨rfl,rfl⟩;refine⟨_,i4,(CJ s b d.l.length n c ok.room).mono ?_⟩;rintro _ _ ⟨rfl,rfl⟩;refine⟨_,i4,bD (λj=>⟨by rw[p,j];rfl,.zip f.ag⟩) λj=>?_⟩;refine⟨x,(f.box 0 i4).aS _ i4,(Ip s b x m c (y.up f.ag) ok (A.up f.ag) q).mono ?_⟩;rintro _ E ⟨r,rfl,g⟩;have i:=(aa.Ef g).1;have w:i0 (bO m d.l)<=4000:=by have:=jU m q;have:=xF m d.l;unfold bO;rw[qy];omega
 have B:=f.ca g;refine⟨r,i4,(CJ s b r.len n (c.ag g.ag c.lt) ok.room).mono ?_⟩;rintro _ _ ⟨rfl,rfl⟩;exact⟨_,i4,by rw[p,j,vp,i],.zip B.ag⟩
theorem Ug(x:ci)(n:Int)(h:f8):ab xt 118 #[xk eH,gb x,xi xo n] h λv h'=>v=xm eS/\Sp h h' []:=by refine FL eH x n ?_;unfold Cw;refine(Sp.refl h).boxed λc b a=>?_;exact bj (bD (λ_=>⟨i4,.zip a.ag⟩) λe=>j3)
theorem Qt(x:ci)(m:aE)(n:Int)(L:St B h0 As λh=>dG h x m)(z:dg m)(H:aa B h0 h (ki pw a d::dE 92 pw w::As)):
  ab xt 119 #[xk (dB a),gb x,xi xo n] h λv h'=>v=xi xo (gd m w d n).1/\aa B h0 h' (ki pw a (gd m w d n).2.2::dE 92 pw (gd m w d n).2.1::As):=by
 refine FM (dB a) x n ?_;unfold Cx;refine(Sp.refl h).boxed λR q D=>?_;have D:Sp h q [ao R 44 (bn x)]:=D;have p:=(H.ca D).aZ 3 [1,2,0];have f:∀(e:Int) {h':f8},aY (λb=>b<q.size) q h'->gd m w d n=(e,w,d)->(Value.int .i64 e=xi xo (gd m w d n).1/\aa B h0 h' (ki pw a (gd m w d n).2.2::dE 92 pw (gd m w d n).2.1::As)):=λe {h'} M S=>by
  rw[S];exact⟨i4,((p.up M).aZ 3 [0,1])⟩
 obtain⟨ok,s,b,g⟩:=(id p).tj;have u:=g.box 0 i4;have P:fO q s 1 aD d.l:=(g.aZ 2 [1]).Fs λ_=>rfl;have o:=(aa.Ef (g.aZ 2 [1])).1;have K:=ok.len;have J:=ok.room;refine bj (bj (bD (λe=>j3) λ_=>(Ie s b u).mono ?_));rintro _ _ ⟨rfl,rfl⟩;refine⟨_,i4,bD (λe=>f 5 (aY.refl _ _) (by unfold gd;rw[f9 e])) λe=>?_⟩;refine⟨x,(p.box 2 i4).aS _ i4,(Iq s b x m n u P o ok (L.at [_,_,_] p) z).mono ?_⟩;rintro _ T ⟨rfl,k⟩;have F:=g.up k.ag;have j:=u.ag k.ag u.lt;have G:=p.up k.ag;refine⟨_,i4,bh (λt=>f 7 k.ag (by unfold gd;rw[g0 pt,f9 (by simp[t])])) λt=>?_⟩;refine(Qm s b j o).mono ?_;rintro _ _ ⟨rfl,rfl⟩;refine⟨_,i4,(CJ s b d.l.length n j ok.room).mono ?_⟩;rintro _ _ ⟨rfl,rfl⟩;refine⟨_,i4,bD (λy=>f 0 k.ag (by unfold gd;rw[g0 pt,g0 (by simp[t]),f9 y])) λy=>?_⟩;have em:gd m w d n=d.rewrite w (bO m d.l):=by unfold gd;rw[g0 pt,g0 (by simp[t]),g0 (by simp[y])]
 rw[em];have N:i0 (bO m d.l)<=4000:=by have:=jU m z;have:=xF m d.l;unfold bO;rw[qy];omega
 have A:∀c∈bO m d.l,i0 c<=64:=λc i=>by
  unfold bO at i;rcases qD.1 i with i|i
  ·exact vT (ww i)
  ·exact Ks i
 refine⟨x,(G.box 2 i4).aS _ i4,(Ip s b x m j ((F.aZ 2 [1]).Fs λ_=>rfl) ok (L.at [_,_,_] G) z).mono ?_⟩;rintro _ h3 ⟨r,rfl,Q⟩;obtain⟨rs,E⟩:=(G.ca Q).YH λ_=>rfl;have E:=E.aZ 4 [1,2,0];refine⟨r,i4,(Io r (bO m d.l) E (St.fj 0 i4 λh' I=>?_) i5 λc i=>za (A c i) i6).mono ?_⟩
 ·exact⟨rs,I.1,I.2.1,I.2.2⟩
 rintro _ U ⟨rfl,O⟩;exact⟨_,i4,i4,O.aZ 3 [0,1]⟩
end
section
variable {B:aB} {h0 h:f8} {As:List HP} {a pw b:fz} {x:ci} {offs:Int} {da:List aO} {w:Pow} {ds:aF} {d:bo}
theorem aa.aec(n:Nat)(e:n<64)(f:ds[n]?=dB eH)(H:aa B h0 h (bu bJ a pw (bn x) offs da w ds::ki pw b d::As)){K:Unit->f8->Prop}
  (i:∀h',aa B h0 h' (bu bJ a pw (bn x) offs (da.set n (dB b)) w (ds.set n (dB d))::As)->K () h'):
  af xt (qf 74 (xk (dB ((a.add 10).add n))) (xk (dB b))) h K:=by
 obtain⟨ok,g⟩:=Go.Vc.aa.sH H;have j:(a.add 10).add n=a.add (10+n):=by unfold Addr.add;simp[Nat.add_assoc]
 rw[j];refine g.storeAt ac 0 i4 i4 i4 i4 i4 (by simp[ok.la];omega) λh' c=>i h' ?_;rw[zw,Qr ok.l8]at c;exact aa.agy ok e f c
end
end Go.Qw
namespace Wl
open Go
theorem xU(ds:aF)(n:Nat)(d:bo)(s:Int)(b:n<64)(c:i0 ds=64):aX (bS ds (n:Int) d) s=if s=(n:Int)then dB d else aX ds s:=by
 unfold aX bS;rw[qm];by_cases h:0<=s/\s<64
 ·rw[f9 h,f9 h,zd];by_cases a:s=(n:Int)
  ·subst a;rw[f9 i4,qm,f9 i4,f9 i5];rfl
  ·rw[g0 a,g0 i5]
 ·rw[g0 h,g0 h,g0 i5]
theorem kO{ds:aF}{s:Int}{d:bo}(h:aX ds s=dB d):∃n:Nat,s=(n:Int)/\n<64:=by
 unfold aX at h;by_cases a:0<=s/\s<64
 ·exact⟨s.toNat,i5,i5⟩
 ·rw[g0 a]at h;cases h
structure Fit (ds:aF) (S Q:az):Prop where
 len:i0 ds=64
 at_:∀s∈S,∃d,aX ds s=dB d/\d.lost=eS/\d.l.length+Q.count s<=d.room
theorem VZ{d:bo}{n:Nat}(w:Pow)(b:ba)(a:d.lost=eS)(g:i0 d.l+(n+1)<=d.room)(f:i0 b=64):
  ((d.append w b).1=0∨(d.append w b).1=14)/\(d.append w b).2.2.lost=eS/\(d.append w b).2.2.l.length+n<=(d.append w b).2.2.room:=by
 unfold bo.append;rw[g0 i5,g0 l7,g0 i5];by_cases c:w.off
 ·rw[f9 c];exact⟨.inr i4,a,i7⟩
 ·rw[g0 c];by_cases e:w.step.1
  ·rw[f9 e];exact⟨.inl i4,a,i9⟩
  ·rw[g0 e];exact⟨.inr i4,a,i9⟩
theorem abn{d:bo}(w:Pow)(a:d.lost=eS):((d.sync w).1=0∨(d.sync w).1=14)/\(d.sync w).2.2.lost=eS/\(d.sync w).2.2.l=d.l/\(d.sync w).2.2.room=d.room:=by
 unfold bo.sync;rw[g0 l7];by_cases b:w.step.1
 ·rw[f9 b];exact⟨.inl i4,a,i4,i4⟩
 ·rw[g0 b];exact⟨.inr i4,a,i4,i4⟩
theorem RF{ds:aF}{S Q:az}{x:Int}(w:Pow)(b:ba)(F:Fit ds S (x::Q))(m:x∈S)(o:i0 b=64):
  ((fT w ds x b).1=0∨(fT w ds x b).1=14)/\Fit (fT w ds x b).2.2 S Q:=by
 obtain⟨d,c,l,p⟩:=F.at_ x m;rw[List.count_cons_self]at p;obtain⟨n,rfl,k⟩:=kO c;have A:=VZ w b l (n:=Q.count (n:Int)) i5 o;have e:fT w ds (n:Int) b=((d.append w b).1,(d.append w b).2.1,bS ds (n:Int) (d.append w b).2.2):=by unfold fT;rw[c]
 rw[e];refine⟨A.1,by unfold bS;rw[zA];exact F.len,λs j=>?_⟩;rw[xU _ _ _ _ k F.len];by_cases a:s=(n:Int)
 ·subst a;rw[f9 rfl];exact⟨_,i4,A.2⟩
 ·rw[g0 a];obtain⟨i,g,q,f⟩:=F.at_ s j;rw[List.count_cons_of_ne λh=>a h.symm]at f;exact⟨i,g,q,f⟩
theorem Wa{ds:aF}{S:az}{x:Int}(w:Pow)(F:Fit ds S [])(h:x∈S):((gI w ds x).1=0∨(gI w ds x).1=14)/\Fit (gI w ds x).2.2 S []:=by
 obtain⟨d,b,g,j⟩:=F.at_ x h;obtain⟨n,rfl,f⟩:=kO b;obtain⟨i,A2,l,k⟩:=abn w g;have e:gI w ds (n:Int)=((d.sync w).1,(d.sync w).2.1,bS ds (n:Int) (d.sync w).2.2):=by unfold gI;rw[b]
 rw[e];refine⟨i,by unfold bS;rw[zA];exact F.len,λs c=>?_⟩;rw[xU _ _ _ _ f F.len];by_cases a:s=(n:Int)
 ·subst a;rw[f9 rfl];exact⟨_,i4,A2,by rw[l,k];exact j⟩
 ·rw[g0 a];exact F.at_ s c
theorem Gc(m:aE)(s:Int):∀S:az,((bt m S).map qM).count s=S.count s*i0 (bm m)
 |[]=>by simp[bt]
 |n::S=>by
  have e:bt m (n::S)=(bm m).map (λc=>(n,c))++bt m S:=by unfold bt;rw[zg]
  rw[e,qU,List.count_append,Gc m s S,wD];have f:(bm m).map (qM∘λc=>(n,c))=qg (bm m).length n:=by rw[List.eq_replicate_iff];exact⟨jj,λb d=>by simpa using(λ⟨a,_,h⟩=>h.symm:(∃a,a∈bm m/\n=b)->b=n) n5⟩
  rw[f,List.count_replicate,vP];by_cases h:n=s
  ·subst h;simp[Nat.add_mul];omega
  ·simp[h]
end Wl
namespace Go.Vc
open Go Wl Go.Qw
theorem Pp(l:az)(k:Nat):(bp l k).Nodup:=by unfold bp;refine List.Pairwise.filter _ (yQ.2 ?_);exact(List.nodup_range (n:=k)).imp λh=>i5
theorem YO{l:az}(h:(eU l).2=eR):(eU l).1=bp l l.length/\l.length<=64/\∀n:Nat,l.getD n 0<=512:=by
 unfold eU at h⊢;by_cases a:l.all (fq · 0 512)=eR
 ·rw[f9 a]at h⊢;refine⟨i4,by simp at h;exact h.1,λn=>?_⟩;rw[qe];by_cases b:n<i0 l
  ·rw[qd b];have:=qL.1 a _ (qh b);unfold fq at this;simp at this⊢;omega
  ·rw[qV i5];simp
 ·rw[g0 a]at h;cases h
theorem Uh(l:az)(i n:Nat)(f:i<i0 (bp l l.length))(e:(bp l l.length)[i]=(n:Int))(c:n<64):(iA l i)[n]?=dB eH:=by unfold iA;rw[qS,zu c,qT,g0];intro g;obtain⟨j,h,d⟩:=List.mem_take_iff_getElem.1 g;have:=GJ (Pp l l.length) (a:=j) (b:=i) i5 f (by rw[d,e]);omega
theorem tv(m:aE):∀S:az,i0 (bt m S)=i0 S*i0 (bm m)
 |[]=>by simp[bt]
 |n::S=>by
  have e:bt m (n::S)=(bm m).map (λc=>(n,c))++bt m S:=by unfold bt;rw[zg]
  rw[e,qy,qA,tv m S,zi,zG,Nat.add_comm]
theorem YP(p:Pm)(extra:Int)(l:az)(a:i0 l<=64):dg (ck p extra l):=⟨by have:=rD l l.length;simp[ck];omega,by simp[ck],by simp[ck]⟩
end Go.Vc
namespace Go.Qw
open Go Go.Vc Go.Proofs Wl
section
variable {B:aB} {h0 h:f8} {As:List HP} {pw:fz} {w:Pow}
theorem Wb(p:Pm)(extra:Int)(s:Sl)(l:az)(hS:St B h0 As λh=>Rd h s 1 aq l)(hl:i0 l<=2^20)(H:aa B h0 h (dE 92 pw w::As)):
  ab xt 8 #[lu p,xi xo extra,xk (dB pw),s] h λv h'=>
   ((gc p extra w l).1≠0->v=.tuple #[xk eH,xi xo (gc p extra w l).1]/\aa B h0 h' As)/\
   ((gc p extra w l).1=0->∃(a:fz) (x:ci) (da:List aO),v=.tuple #[xk (dB a),xi xo 0]/\aa B h0 h' (bu bJ a pw (bn x) w.offs da (gc p extra w l).2.1 (gc p extra w l).2.2::dF x (ck p extra l)::As)):=by
 refine Lc p extra (dB pw) s ?_;unfold Dc;refine H.boxed λa1 h1 H1=>?_;have H1:=H1.bw;refine(od s l h1 (hS.at [_,_] H1) hl).mono ?_;rintro _ h2 ⟨r,rfl,R2⟩;have H2:=H1.ca R2;refine⟨(r,(eU l).2),i4,?_⟩;have j:∀{h':f8},aa B h0 h' As->((eU l).2&&(bB p&&fq extra 0 16))=eS->
   ((gc p extra w l).1≠0->Value.tuple #[xk eH,xi xo 1]=.tuple #[xk eH,xi xo (gc p extra w l).1]/\aa B h0 h' As)/\
   ((gc p extra w l).1=0->∃(a:fz) (x:ci) (da:List aO),Value.tuple #[xk eH,xi xo 1]=.tuple #[xk (dB a),xi xo 0]/\aa B h0 h' (bu bJ a pw (bn x) w.offs da (gc p extra w l).2.1 (gc p extra w l).2.2::dF x (ck p extra l)::As)):=λ{h'} H' hc=>by
  have e:gc p extra w l=(1,w,[]):=by unfold gc;rw[hc];rfl
  rw[e];exact⟨λ_=>⟨i4,H'⟩,λh=>absurd h (show¬(1:Int)=0 by decide)⟩
 refine bj (bh (λe=>j H2.rest.rest.rest n9) λe=>?_);have ep:(eU l).2=eR:=l5
 obtain⟨a0,A,I⟩:=YO ep;refine⟨p,(H2.box 1 i4).aS _ i4,(dW p h2).mono ?_⟩;rintro _ h3 ⟨rfl,R3⟩;have E:aa B h0 h3 (al 3 r 1 aq (eU l).1::ao a1 24 [xi xo p.1,xi xo p.2.1,xi xo p.2.2]::dE 92 pw w::As):=by have:=H2.comp R3;rw[qN]at this;exact this
 refine⟨_,i4,bh (λe2=>j E.rest.rest.rest (by rw[e2];simp)) λe2=>?_⟩;have em:bB p=eR:=nq
 refine ai (λe3=>j E.rest.rest.rest n7) λe3=>ai (λe4=>j E.rest.rest.rest n7) λe4=>bD (λe5=>by cases e5) λ_=>?_;rw[a0]at E;refine bj ⟨p,(E.box 1 i4).aS _ i4,?_⟩;obtain⟨lw,b3,a4⟩:=(E.aZ 3 [2,1,0]).DF;refine(Qk lw (a4.box 0 i4)).mono ?_;rintro _ h4 ⟨rfl,rfl⟩;have L:=E.box 1 i4;refine⟨_,i4,⟨L.cell0 i4,L.cell i4,L.cell i4,trivial⟩,?_⟩;obtain⟨m,O⟩:∃m,m=ck p extra l:=⟨_,rfl⟩
 refine⟨_,abf (1,0,p.1,p.2.1,p.2.2,extra,r,⟨eH,0,0⟩) pw w.offs,?_⟩;refine E.boxed λa9 h6 g=>?_;obtain⟨x,hx⟩:∃x:ci,x=(1,0,p.1,p.2.1,p.2.2,extra,r,⟨eH,0,0⟩):=⟨_,rfl⟩
 rw[<-hx]at g;have G:(Value.agg (dh (bn x) pw w.offs (qg 64 eH)).toArray).cells.toList=dh (bn x) pw w.offs (qg 64 eH):=l0
 rw[G]at g;have g:=g.bw;have J:=g.box 2 i4;refine⟨⟨J.cell0 i4,J.cell i4,J.cell i4,trivial⟩,?_⟩;have g:aa B h0 h6 (ao a9 84 (dh (bn x) pw w.offs (qg 64 eH))::dE 92 pw w::al 3 r 1 aq (bp l l.length)::As):=g.aZ 4 [0,3,1];have g:=aa.abe (k:=bJ) (h8:=by simp) g;obtain⟨P,o⟩:∃P,P=bp l l.length:=⟨_,rfl⟩
 rw[<-o]at g;have hz:dg m:=O▸YP p extra l A;have a2:i0 P<=64:=by rw[o];exact za (rD _ _) A
 have R:∀{h':f8} {Bs:List HP} {X:HP},aa B h0 h' (X::al 3 r 1 aq P::Bs)->dG h' x m:=λ{h' Bs X} H'=>by
  have hs:=H'.seq 1 i4 λ_=>rfl;have hc:=(H'.own 1 i4).cap;subst hx;subst O;exact⟨i4,i4,i4,i4,by show Seq _ _ r 1 aq (bp l l.length);rw[<-o];exact hs,bL.nil _ _ _ _,hc,qk _⟩
 have Y:((eU l).2&&(bB p&&fq extra 0 16))=eR:=by rw[ep,em];unfold fq;simp;omega
 have V:(P.any λi=>decide (l.getD i.toNat 0<(i0 (bm m):Int)))=eR->gc p extra w l=(7,w,[]):=λhh=>by
  unfold gc;rw[f9 Y,<-o,<-O,f9 hh]
 have Q:(P.any λi=>decide (l.getD i.toNat 0<(i0 (bm m):Int)))=eS->gc p extra w l=layAll (bt m P) w (iA l P.length):=λhh=>by
  unfold gc;rw[f9 Y,<-o,<-O,hh,g0 i6]
 have K:∀i (M:i<i0 P),∃n:Nat,n<i0 l/\P[i]=(n:Int)/\0<l.getD n 0:=by subst o;exactλi M=>VS l l.length i M
 refine aw (λi:Nat=>(i:Int)) (λi h'=>i<=i0 P/\((P.take i).any λi=>decide (l.getD i.toNat 0<(i0 (bm m):Int)))=eS/\aa B h0 h' (bu bJ a9 pw (bn x) w.offs (qg 64 eH) w (qg 64 eH)::al 3 r 1 aq P::As)) (λi=>i0 P-i) 0 i4 ⟨i5,jj,g⟩ ?_;rintro i h7 ⟨M,f,z⟩;dsimp only at*;obtain⟨b5,bb⟩:=aa.cN z;have b4:r.len=i0 P:=(z.own 1 i4).len;refine ai (λe5=>?_) (λe5=>?_)
 ·have c:i<i0 P:=i5
  obtain⟨n,N,D,W⟩:=K i c;refine(z.seq 1 i4 λ_=>rfl).bC i i4 c (n:Int) (by rw[D];rfl) ?_;refine(hS.at [_,_] z).RW n i4 N (l.getD n 0) (by rw[getD_lt N];rfl) λbl U=>?_;refine⟨a9,i4,x,bb.aS _ k8,(nL x m h7 (R z) hz).mono ?_⟩;rintro _ h9 ⟨u,rfl,R9⟩;have H9:=z.ca R9;have bk:=(aa.Ef H9).1;refine⟨u,i4,lX R9.ag ⟨U,trivial⟩,?_⟩;refine ai (λe6=>?_) (λe6=>?_)
  ·rw[V (zV.2 ⟨P[i],qh c,by rw[D,qm];exact g9 i5⟩)];exact⟨λ_=>⟨i4,H9.rest.rest.rest⟩,λh=>absurd h (show¬(7:Int)=0 by decide)⟩
  ·refine⟨i+1,j1,⟨i5,?_,H9.rest⟩,i5⟩;rw[aG _ _ c,yM,f,vp,xa,xf,Bool.or_false,D,qm];exact hZ i5
 ·have F:i=i0 P:=i5
  subst F;rw[qW]at f;have ax:=Q f;rw[<-Ub l]at z;refine aw (λt:Nat×List aO=>(t.1:Int)) (λt h'=>t.1<=i0 P/\aa B h0 h' (bu bJ a9 pw (bn x) w.offs t.2 w (iA l t.1)::al 3 r 1 aq P::As)) (λt=>i0 P-t.1) (0,qg 64 eH) i4 ⟨jj,z⟩ ?_;rintro⟨i,da⟩ am ⟨M,d⟩;dsimp only at*;obtain⟨b2,ad⟩:=aa.cN d;refine ai (λe6=>?_) (λe6=>?_)
  ·have c:i<i0 P:=i5
   obtain⟨n,N,D,W⟩:=K i c;have bd:=I n;refine(d.seq 1 i4 λ_=>rfl).bC i i4 c (n:Int) (by rw[D];rfl) ?_;refine(hS.at [_,_] d).bC n i4 N (l.getD n 0) (by rw[getD_lt N];rfl) ?_;refine⟨a9,i4,(Nm (l.getD n 0) pw am).mono ?_⟩;rintro _ br ⟨Q1,_⟩;obtain⟨b,rfl,a8⟩:=Q1 i5;have a7:=(d.ca a8).aZ 2 [1,0];refine⟨_,i4,trivial,⟨i5,i5⟩,?_⟩;rw[qm,wF];have S:i<i0 (bp l l.length):=by rw[<-o];exact c
   have ah:(bp l l.length)[i]=(n:Int):=by rw[<-D];simp only[o]
   refine Go.Qw.aa.aec n i5 (Uh l i n S ah i5) a7 λb0 a6=>?_;refine⟨trivial,(i+1,da.set n (dB b)),js,⟨i7,?_⟩,i7⟩;dsimp only;rw[<-Uc l i n S ah i5];exact a6
  ·have F:i=i0 P:=i5
   subst F;refine⟨a9,i4,x,ad.aS _ k8,(CF x m r P am (R d) hz (d.seq 1 i4 λ_=>rfl) i5).mono ?_⟩;rintro _ bq ⟨u,ys,rfl,a5⟩;have ar:=(d.ca a5).aZ 2 [1,0];refine⟨u,i4,?_⟩;have T:=jU m hz;refine(BX u ys (bt m P) (St.fj 0 i4 λ_ Z=>Z) ?_ ?_ ar).mono ?_
   ·rw[tv];have:=z7 a2 T;omega
   ·intro y hy;obtain⟨a3,ay⟩:=jb hy;obtain⟨i,M,e⟩:=qJ a3;obtain⟨n,N,D,_⟩:=K i M;rw[<-e,D,ay];exact⟨⟨i5,i5⟩,i6⟩
   rintro _ b1 ⟨rfl,ap⟩;rw[ax];refine⟨_,i4,bQ (λe7=>⟨λ_=>⟨i4,ap.rest.rest.rest⟩,λh=>absurd h e7⟩) λe7=>⟨λh=>absurd e7 h,λ_=>⟨a9,x,da,i4,?_⟩⟩⟩;rw[<-O];exact ap.pO.gg 1 i4 λq Z=>by
    subst hx;subst O;exact⟨i4,i4,i4,i4,by show Seq _ _ r 1 aq (bp l l.length);rw[<-o];exact Z.1.seq (λ_=>rfl) Z.2,bL.nil _ _ _ _,Z.1.cap,qk _⟩
end
end Go.Qw
namespace Wl
open Go
def oC(m:aE)(ds:aF)(k n:Int):Bool:=match aX ds k with|some d=>fy m d n|none=>eS
def iC(m:aE)(ds:aF)(l:az)(N:Int->Int):Bool:=l.all λk=>oC m ds k (N k)
def ji(m:aE)(w:Pow)(ds:aF)(k n:Int):Int×Pow×aF:=
 match aX ds k with
 |none=>(5,w,ds)
 |some d=>((gd m w d n).1,(gd m w d n).2.1,bS ds k (gd m w d n).2.2)
def makes(m:aE)(N:Int->Int):az->Pow->aF->Int×Pow×aF
 |[],w,ds=>(0,w,ds)
 |k::l,w,ds=>if(ji m w ds k (N k)).1=0 then makes m N l (ji m w ds k (N k)).2.1 (ji m w ds k (N k)).2.2 else ji m w ds k (N k)
end Wl
namespace Go.Qw
open Go Go.Vc Go.Proofs Wl
theorem Qu(f:FuncId)(pre post:Array Value)(P:Int->Bool)(s:Sl)(l:az)(h:f8)(q:C.fns[f]?=dB eR)(j:Rd h s 1 aq l)(x:i0 l<=2^30)
  (r:∀k∈l,∀h',Sp h h' []->ab xt f (pre.toList++[Value.int .i64 k]++post.toList).toArray h' λv e=>v=xm (P k)/\Sp h' e []):
  ab xt 116 #[s,.func (.func f) pre post] h λv h'=>v=xm (l.any P)/\Sp h h' []:=by
 refine kq s (f,pre,post) ?_;unfold iJ;refine(iS s (f,pre,post) (R:=λv h'=>(∃i:Int,v=xi xo i/\decide (i>=0)=l.any P)/\Sp h h' []) ?_).mono ?_
 ·unfold gA;have u:=j.len;refine aw (λi:Nat=>(i:Int)) (λi h'=>i<=i0 l/\(l.take i).any P=eS/\Sp h h' []) (λi=>i0 l-i) 0 i4 ⟨i5,jj,Sp.refl h⟩ ?_;rintro i m ⟨o,a,c⟩;refine ai (λd=>?_) (λd=>?_)
  ·have b:i<i0 l:=by have w:(i:Int)<(s.len:Int):=d;omega
   refine(Seq.up j c.ag).bC i i4 b l[i] i4 (fe q ?_);refine(r l[i] (qh b) m c).mono ?_;rintro _ y ⟨rfl,p⟩;have n:=c.up p.ag;refine⟨_,i4,bD (λg=>⟨⟨i,i4,?_⟩,n⟩) λg=>?_⟩
   ·rw[zV.2 ⟨_,qh b,g⟩];exact g9 i5
   ·refine⟨i+1,j1,⟨i5,?_,n⟩,i5⟩;rw[aG _ _ b,yM,a,xa,xf,g];rfl
  ·have w:¬(i:Int)<(s.len:Int):=d;rw[qi i5]at a;exact⟨⟨-1,i4,by rw[a];rfl⟩,c⟩
 ·rintro _ m ⟨⟨i,rfl,o⟩,t⟩;exact⟨i,i4,by rw[o],t⟩
section
variable {B:aB} {h0 h:f8} {As:List HP} {a pw:fz} {offs:Int} {da:List aO} {w:Pow} {ds:aF}
def YQ(f:FuncId)(pre post:Array Value)(N:Int->Int)(l:az)(h:f8):Prop:=∀k∈l,ab xt f (pre.toList++[Value.int .i64 k]++post.toList).toArray h λv h'=>v=xi xo (N k)/\Sp h h' []
theorem YR(f:FuncId)(pre post:Array Value)(N:Int->Int)(x:ci)(m:aE)(s:Sl)(l:az)(Y:C.fns[f]?=dB eR)(T:St B h0 As λh=>dG h x m/\YQ f pre post N l h)(Z:dg m)(X:Rd h s 1 aq l)(W:i0 l<=2^30)(G:∀k∈l,0<=k/\k<64)(H:aa B h0 h (bu bJ a pw (bn x) offs da w ds::As)):
  ab xt 52 #[xk (dB a),s,.func (.func f) pre post] h λv h'=>v=xm (iC m ds l N)/\Sp h h' []:=by
 refine EE (dB a) s (f,pre,post) ?_;unfold ua;refine(Sp.refl h).boxed λt h1 R1=>R1.boxed λU K p=>?_;have H2:aa B h0 K (bu bJ a pw (bn x) offs da w ds::As):=H.up p.ag;have g:cv K t 27 [xk (dB a)]:=p.box 0 i4;have O:=p.box 1 i4;refine(Qu 117 #[] #[xk (dB t),xk (dB U)] (λk=>!oC m ds k (N k)) s l K k8 (X.up p.ag) W ?_).mono ?_
 ·intro k R h3 i;have I:=H2.up i.ag;have S:=(g.ag i.ag g.lt).cell0 i4;have c2:=(O.ag i.ag O.lt).cell0 i4;obtain⟨ok,u⟩:=aa.cN I;have Q:=G k R;refine Cv k t U ?_;unfold ri;obtain⟨n,rfl⟩:∃n:Nat,k=n:=⟨k.toNat,i5⟩
  have D:n<i0 da:=qa
  have V:cellOf h3 ((a.add 10).add ((n:Int).toNat*1))=dB (.pointer da[n]):=by rw[qm,wF];refine u.AI 10 n ?_;rw[un ok.l8,qd D];rfl
  obtain⟨ad,y⟩:=T.at [_] I;refine⟨dB a,S,a,i4,⟨i5,i5⟩,da[n],V,dB a,S,a,i4,x,u.aS _ i4,(f,pre,post),c2,fe Y ?_⟩;refine(y n R).mono ?_;rintro _ L ⟨rfl,q⟩;have P:=I.up q.ag;have r:=((g.ag i.ag g.lt).ag q.ag (g.ag i.ag g.lt).lt).cell0 i4;have c:=u.ag q.ag u.lt;have z:cellOf L ((a.add 10).add ((n:Int).toNat*1))=dB (.pointer da[n]):=by rw[qm,wF];refine c.AI 10 n ?_;rw[un ok.l8,qd D];rfl
  refine⟨_,i4,⟨c.cell0 i4,c.cell i4,c.cell i4,c.cell i4,c.cell i4,c.cell i4,c.cell i4,c.cell i4,r,z,r,trivial⟩,?_⟩;have E:iL da (n:Int)=da[n]:=by unfold iL;rw[f9 i5,qm,qd D];rfl
  rw[<-E];have fin:∀{F:Bool} {j:f8},F=oC m ds n (N n)->Sp L j []->av.ok [(t,xk (dB a)),(t,xk (dB a))] j/\(Value.bool (!F)=xm (!oC m ds n (N n))/\Sp h3 j []):=λ{F j} he o=>by
   have M:=(g.ag i.ag g.lt).ag q.ag (g.ag i.ag g.lt).lt;have:=(M.ag o.ag M.lt).cell0 i4;exact⟨⟨this,this,trivial⟩,by rw[he],.zip (aa.up q o.ag).ag⟩
  rcases oW ok (n:Int)with⟨e1,e2⟩|⟨n',d,b,e0,e1,e2,e3,e4,e5⟩
  ·rw[e2];refine(Ug x _ L).mono ?_;rintro _ j ⟨rfl,o⟩;exact⟨_,i4,fin (by unfold oC;rw[e1]) o⟩
  ·rw[e5];obtain⟨b',e,H5⟩:=Go.Vc.aa.jT P e2;rw[e4]at e;injection e with e
   injection e with e
   subst e;obtain⟨J,sd,bd,A⟩:=aa.tj H5;refine(Iq sd bd x m (N n) (A.box 0 i4) ((A.aZ 2 [1]).Fs λ_=>rfl) (aa.Ef (A.aZ 2 [1])).1 J (T.at [_] P).1 Z).mono ?_;rintro _ j ⟨rfl,o⟩;exact⟨_,i4,fin (by unfold oC;rw[e3]) o⟩
 ·rintro _ h3 ⟨rfl,i⟩;refine⟨_,i4,?_,.zip (aa.up p i.ag).ag⟩;unfold iC;rw[List.not_any_eq_all_not];simp
theorem Ui(x:ci)(n:Int)(h:f8):ab xt 119 #[xk eH,gb x,xi xo n] h λv h'=>v=xi xo 5/\Sp h h' []:=by refine FM eH x n ?_;unfold Cx;refine(Sp.refl h).boxed λc b a=>?_;exact bj (bj (bD (λ_=>bD (λ_=>⟨i4,.zip a.ag⟩) λe=>j3) λe=>j3))
theorem YS(m:aE)(N:Int->Int)(l:az)(w:Pow)(ds:aF)(i:Nat)(a:i<i0 l):makes m N (l.drop i) w ds=if(ji m w ds l[i] (N l[i])).1=0 then makes m N (l.drop (i+1)) (ji m w ds l[i] (N l[i])).2.1 (ji m w ds l[i] (N l[i])).2.2 else ji m w ds l[i] (N l[i]):=by rw[qQ a];rfl
theorem YT(f:FuncId)(pre post:Array Value)(N:Int->Int)(x:ci)(m:aE)(s:Sl)(l:az)(W:C.fns[f]?=dB eR)(O:St B h0 As λh=>dG h x m/\YQ f pre post N l h/\Rd h s 1 aq l)(Y:dg m)(hl:i0 l<=2^30)(K:∀k∈l,0<=k/\k<64)(H:aa B h0 h (bu bJ a pw (bn x) offs da w ds::As)):
  ab xt 53 #[xk (dB a),s,.func (.func f) pre post] h λv h'=>v=xi xo (makes m N l w ds).1/\aa B h0 h' (bu bJ a pw (bn x) offs da (makes m N l w ds).2.1 (makes m N l w ds).2.2::As):=by
 refine Di (dB a) s (f,pre,post) ?_;unfold rY;have ad:=(O.at [_] H).2.2.len;obtain⟨Z,T⟩:∃Z,Z=makes m N l w ds:=⟨_,rfl⟩
 rw[<-T];refine aw (λt:Nat×Pow×aF=>(t.1:Int)) (λt h'=>t.1<=i0 l/\Z=makes m N (l.drop t.1) t.2.1 t.2.2/\aa B h0 h' (bu bJ a pw (bn x) offs da t.2.1 t.2.2::As)) (λt=>i0 l-t.1) (0,w,ds) i4 ⟨jj,T,H⟩ ?_;rintro⟨i,E,u⟩ h1 ⟨hi,q,F⟩;dsimp only at*;refine ai (λe=>?_) λe=>?_
 ·have p:i<i0 l:=i5
  rw[YS _ _ _ _ _ _ p]at q;obtain⟨ah,G,M⟩:=O.at [_] F;refine M.bC i i4 p l[i] i4 (bj ?_);have A:=K l[i] (qh p);obtain⟨k,I⟩:∃k,k=l[i]:=⟨_,rfl⟩
  have L:k∈l:=by rw[I];exact qh p
  rw[<-I]at q A;rw[<-I];obtain⟨n,rfl⟩:∃n:Nat,k=n:=⟨k.toNat,i5⟩
  obtain⟨ok,z⟩:=aa.cN F;have R:n<i0 da:=qa
  have P:∀{h':f8},cv h' a 84 (dh (bn x) pw offs da)->cellOf h' ((a.add 10).add ((n:Int).toNat*1))=dB (.pointer da[n]):=λ{h'} z=>by
   rw[qm,wF];refine z.AI 10 n ?_;rw[un ok.l8,qd R];rfl
  refine⟨a,i4,⟨i5,i5⟩,da[n],P z,a,i4,x,z.aS _ i4,fe W ?_⟩;refine(G n L).mono ?_;rintro _ h2 ⟨rfl,Q⟩;have S:=F.up Q.ag;have g:=z.ag Q.ag z.lt;refine⟨_,i4,⟨g.cell0 i4,g.cell i4,g.cell i4,g.cell i4,g.cell i4,g.cell i4,g.cell i4,g.cell i4,P g,trivial⟩,?_⟩;have J:iL da (n:Int)=da[n]:=by unfold iL;rw[f9 i5,qm,qd R];rfl
  rw[<-J];obtain⟨c,o⟩:∃c,c=ji m E u n (N n):=⟨_,rfl⟩
  rw[<-o]at q;have fin:∀{h3:f8},aa B h0 h3 (bu bJ a pw (bn x) offs da c.2.1 c.2.2::As)->av.ok [] h3/\Br (c.1 !=(0:Int)) (Value.int .i64 c.1=xi xo Z.1/\aa B h0 h3 (bu bJ a pw (bn x) offs da Z.2.1 Z.2.2::As))
    (∃r:Nat×Pow×aF,qc xo ((i:Int)+1)=(r.1:Int)/\(r.1<=i0 l/\Z=makes m N (l.drop r.1) r.2.1 r.2.2/\aa B h0 h3 (bu bJ a pw (bn x) offs da r.2.1 r.2.2::As))/\l.length-r.1<i0 l-i):=λ{h3} H3=>by
   refine⟨trivial,bQ (λy=>?_) λy=>?_⟩
   ·rw[g0 y]at q;rw[q];exact⟨i4,H3⟩
   ·rw[f9 y]at q;exact⟨(i+1,c.2.1,c.2.2),js,⟨i7,q,H3⟩,i7⟩
  rcases oW ok (n:Int)with⟨e1,y⟩|⟨n',d,b,e0,e1,y,e3,e4,e5⟩
  ·rw[y];have D:c=(5,E,u):=by rw[o];unfold ji;rw[e1]
   refine(Ui x _ h2).mono ?_;rintro _ h3 ⟨rfl,X⟩;exact⟨c.1,by rw[D],fin (h3:=h3) (by rw[D];exact S.up X.ag)⟩
  ·rw[e5];have V:n=n':=i5
   subst V;obtain⟨b',j,H5⟩:=Go.Vc.aa.jT S y;rw[e4]at j;injection j with j
   injection j with j
   subst j;have D:c=((gd m E d (N n)).1,(gd m E d (N n)).2.1,u.set n (dB (gd m E d (N n)).2.2)):=by rw[o];unfold ji;rw[e3];simp only[bS,qm]
   refine(Qt x m (N n) (λBs h' hh=>(O (Bs++[_]) h' (by rw[qq];exact hh)).1) Y H5).mono ?_;rintro _ h3 ⟨rfl,U⟩;have H7:=Go.Vc.aa.sI (k:=bJ) (n:=n) e4 U;exact⟨c.1,by rw[D],fin (h3:=h3) (by rw[D];exact H7)⟩
 ·rw[zf i5]at q;rw[q];exact⟨i4,F⟩
end
def aed(a b:ez):Int:=if ft a.1 b.1 then-1 else if ke a.1 b.1 then 0 else 1
def jV(a b:ez):Bool:=ke a.1 b.1
theorem Uj(a b:ez):aed a b<0↔¬jV b a=eR:=by unfold aed jV ke;cases h:ft a.1 b.1<;>simp;split<;>omega
theorem Ir:Ord jV:=⟨λa b c=>GU a.1 b.1 c.1,λa b=>GV a.1 b.1⟩
abbrev Uk(x:ez):Value:=xn #[xl x.1,xi xo x.2.1,xi xo x.2.2.1,x.2.2.2]
theorem RG(x y:ByteArray)(h:f8):ab xt 115 #[xl x,xl y] h λv h'=>v=xi xo (if ft x y then-1 else if ke x y then 0 else 1)/\h'=h:=by
 refine Cu x y ?_;unfold rh;have a:∀z:ByteArray,ab xt 188 #[xl z] h λv h'=>v=xm eS/\h'=h:=λz=>by
  refine EM z ?_;unfold ui;exact⟨jj,i4⟩
 refine(a x).mono ?_;rintro _ _ ⟨rfl,rfl⟩;refine⟨_,i4,(a y).mono ?_⟩;rintro _ _ ⟨rfl,rfl⟩;refine⟨_,i4,bD (λe=>j3) λ_=>bD (λe=>j3) λ_=>?_⟩;have c:Op.bytesLess x.toList y.toList=ft x y:=rfl;rw[RY,c];have d:(!Op.bytesLess y.toList x.toList)=ke x y:=rfl;rw[d];refine bD (λe=>⟨n9,i4⟩) λe=>bh (λb=>⟨by rw[e,b];rfl,i4⟩) λb=>⟨by rw[e,b];rfl,i4⟩
theorem YU(a b:ez)(h:f8):ab xt 114 #[Uk a,Uk b] h λv h'=>v=xi xo (aed a b)/\Sp h h' []:=by refine Lg a b ?_;unfold Do;refine(Sp.refl h).boxed λg i e=>e.boxed λf d c=>?_;have c:Sp h d [ao g 94 (bP a),ao f 94 (bP b)]:=c;refine⟨a.1,(c.box 0 i4).cell0 i4,b.1,(c.box 1 i4).cell0 i4,(RG a.1 b.1 d).mono ?_⟩;rintro _ _ ⟨rfl,rfl⟩;exact⟨_,i4,i4,.zip c.ag⟩
abbrev uH(s:Sl)(d:List ez):HP:=al 94 s 4 bP d
section
variable {B:aB} {h0 h h':f8} {As:List HP} {s:Sl} {d:List ez}
theorem Wc{d c:List ez}{y:ez}(b:Sd jV (d++c))(f:∀z∈d,jV z y=eR)(g:∀z∈c,¬jV z y=eR):Sd jV (d++y::c):=
 Sd.app Ir b.left (zC.2 ⟨λz a=>Ir.GQ (g z a),b.right⟩) λx e z a=>by
  rcases qX.1 a with rfl|a
  ·exact f x e
  ·exact b.Je x e z a
theorem Nz(X M Y:List ez)(a b:Int)(ha:a=(i0 X:Int))(hb:b=(i0 X+i0 M:Nat))(ah:i0 X+i0 M+i0 Y<=2^40)(H:aa B h0 h (uH s (X++(M++Y))::As)):
  ab xt 234 #[s,xi xo a,xi xo b,.func (.func 114) #[] #[]] h λv h'=>v=.tuple #[]/\∃M',Sd jV M'/\cC jV M M'/\aa B h0 h' (uH s (X++(M'++Y))::As):=by
 refine lW s a b (114,#[],#[]) ?_;unfold iF;subst ha;subst hb;rw[ak ((i0 X:Int)+1)];refine aw (λt:Nat×List ez=>((i0 X+1+t.1:Nat):Int)) (λt h'=>(t.1+1<=i0 M∨t.1=0)/\Sd jV t.2/\cC jV (M.take (t.1+1)) t.2/\t.2.length=i0 (M.take (t.1+1))/\aa B h0 h' (uH s (X++(t.2++(M.drop (t.1+1)++Y)))::As)) (λt=>i0 M-t.1) (0,M.take 1) i4 ?_ ?_
 ·refine⟨.inr i4,?_,cC.refl _,i4,?_⟩
  ·cases M with
   |nil=>exact List.Pairwise.nil
   |cons x M=>exact zC.2 ⟨λ_ h=>m6,jj⟩
  ·rw[<-qq (M.take (0+1)),List.take_append_drop];exact H
 rintro⟨t,P⟩ h1 ⟨ht,E,r,Z,S⟩;dsimp only at*;refine ai (λe=>?_) (λe=>?_)
 ·have K:t+1<i0 M:=i5
  obtain⟨y,hy⟩:∃y,y=M[t+1]:=⟨_,rfl⟩
  have I:i0 P=t+1:=by rw[Z];simp;omega
  have eD:M.drop (t+1)=y::M.drop (t+1+1):=by rw[qQ K,hy]
  rw[eD]at S;refine aw (λu:List ez×List ez=>((i0 X+i0 u.1:Nat):Int)) (λu h'=>u.1++u.2=P/\(∀z∈u.2,¬jV z y=eR)/\aa B h0 h' (uH s (X++(u.1++(y::(u.2++(M.drop (t+1+1)++Y)))))::As)) (λu=>i0 u.1) (P,[]) (by dsimp only;rw[I];congr 1;omega) ⟨jj,jj,by simpa using S⟩ ?_;rintro⟨c,d⟩ W ⟨L,l,J⟩;dsimp only at*;have am:i0 c+i0 d=t+1:=by rw[<-I,<-L,qy]
  have k:∀{h':f8},(∀z∈c,jV z y=eR)->aa B h0 h' (uH s (X++(c++(y::(d++(M.drop (t+1+1)++Y)))))::As)->
    ∃f:Nat×List ez,qc xo (((i0 X+1+t:Nat):Int)+1)=((i0 X+1+f.1:Nat):Int)/\((f.1+1<=i0 M∨f.1=0)/\Sd jV f.2/\cC jV (M.take (f.1+1)) f.2/\f.2.length=i0 (M.take (f.1+1))/\aa B h0 h' (uH s (X++(f.2++(M.drop (f.1+1)++Y)))::As))/\M.length-f.1<i0 M-t:=λ{h'} hle H'=>by
   refine⟨(t+1,c++y::d),by dsimp only;rw[ak _];omega,⟨.inl i7,?_,?_,?_,?_⟩,i7⟩
   ·exact Wc qb hle l
   ·dsimp only;rw[aG M (t+1) K,<-hy];have h1:cC jV (M.take (t+1)++[y]) (P++[y]):=r.app (cC.refl _);refine h1.trans ?_;rw[<-L,qq];have W:cC jV (d++[y]) ([y]++d):=cC.rot Ir λx hx z N=>by rw[qx.1 N];exact l x hx
    exact(cC.refl _).app W
   ·dsimp only;simp;omega
   ·dsimp only;have:X++((c++y::d)++(M.drop (t+1+1)++Y))=X++(c++(y::(d++(M.drop (t+1+1)++Y)))):=jj
    rw[this];exact H'
  obtain⟨D,R⟩:∃D,D=X++(c++(y::(d++(M.drop (t+1+1)++Y)))):=⟨_,rfl⟩
  refine bY (λ_ h'=>∃(Q:List ez) (z:ez),c=Q++[z]/\¬jV z y=eR/\aa B h0 h' (uH s D::As)) ?_ ?_
  ·rw[<-R]at J k;refine ai (λO=>?_) (λO=>⟨trivial,k (λz N=>?_) J⟩)
   ·have G:c≠[]:=λh=>by rw[h]at O;simp at O
    obtain⟨Q,z,n⟩:∃(Q:List ez) (z:ez),c=Q++[z]:=⟨c.dropLast,c.getLast G,(List.dropLast_concat_getLast G).symm⟩
    have ad:i0 c=i0 Q+1:=by rw[n];simp
    have g1:D[i0 X+i0 c]?=dB y:=by rw[R,qj i5,show X.length+i0 c-i0 X=i0 c by omega,qj i5,zc];rfl
    have g2:D[i0 X+i0 c-1]?=dB z:=by rw[R,qj i5,show X.length+i0 c-1-i0 X=i0 Q by omega,n,qq,qj (qk _),zc];rfl
    obtain⟨U,A⟩:=qn.1 g1;obtain⟨T,q⟩:=qn.1 g2;refine(J.seq 0 i4 λ_=>rfl).eJ (g:=bP) _ i4 U y (by rw[A]) ?_;have ej:qc xo (((i0 X+i0 c:Nat):Int)-1)=((i0 X+i0 c-1:Nat):Int):=j5
    rw[ej];refine(J.seq 0 i4 λ_=>rfl).eJ (g:=bP) _ i4 T z (by rw[q]) (fe k8 ?_);refine(YU y z W).mono ?_;rintro _ h3 ⟨rfl,R3⟩;have F:=J.up R3.ag;refine⟨_,i4,trivial,ai (λV=>⟨Q,z,n,(Uj y z).1 V,F⟩) λV=>k (λw m=>?_) F⟩;have o:jV z y=eR:=by
     by_cases hc:jV z y=eR
     ·exact hc
     ·exact absurd ((Uj y z).2 hc) V
    rw[n]at m;rcases qD.1 m with m|m
    ·refine Ir.trans _ _ _ ?_ o;have:Sd jV (Q++[z]):=by rw[<-n];exact Sd.left (v:=d) qb
     exact this.Je w m z jj
    ·rw[qx.1 m];exact o
   ·have:c=[]:=by
     cases c with
     |nil=>rfl
     |cons x P=>exfalso;simp only[zi]at O;omega
    rw[this]at N;cases N
  ·rintro _ h3 ⟨Q,z,n,o,F⟩;have ad:i0 c=i0 Q+1:=by rw[n];simp
   have p:D=(X++Q)++z::([]++y::(d++(M.drop (t+1+1)++Y))):=by rw[R,n];simp
   obtain⟨q1,q2,q3,q4⟩:=TT (X++Q) [] (d++(M.drop (t+1+1)++Y)) z y (i:=i0 X+i0 c-1) (j:=i0 X+i0 c) i9 i9;rw[<-p]at q1 q2 q3 q4;obtain⟨T,q⟩:=qn.1 q1;obtain⟨U,A⟩:=qn.1 q2;have ej:qc xo (((i0 X+i0 c:Nat):Int)-1)=((i0 X+i0 c-1:Nat):Int):=j5
   rw[ej];refine(F.seq 0 i4 λ_=>rfl).eJ (g:=bP) _ i4 T z (by rw[q]) ?_;refine(F.seq 0 i4 λ_=>rfl).eJ (g:=bP) _ i4 U y (by rw[A]) ?_;refine F.set ac 0 i4 (λ_=>rfl) i4 (i0 X+i0 c) i4 U z i4 i4 i4 λh4 H4=>⟨trivial,?_⟩
   refine H4.set ac 0 i4 (λ_=>rfl) i4 (i0 X+i0 c-1) i4 (by simpa using T) y i4 i4 i4 λh5 H5=>⟨trivial,?_⟩
   refine⟨(Q,z::d),by dsimp only;congr 1;omega,⟨by dsimp only;rw[<-L,n];simp,?_,?_⟩,i7⟩
   ·dsimp only;intro w m;rcases qX.1 m with rfl|m
    ·exact o
    ·exact l w m
   ·dsimp only;have:X++(Q++(y::(z::d++(M.drop (t+1+1)++Y))))=(X++Q)++y::([]++z::(d++(M.drop (t+1+1)++Y))):=jj
    rw[this,<-q4];exact H5
 ·refine⟨i4,P,E,?_,?_⟩
  ·rw[qi i5]at r;exact r
  ·rw[zf i5]at S;simpa using S
theorem Ul(r:Nat)(h:f8)(b:r<=2^32):ab xt 187 #[xi xr r] h λv h'=>(∃k:Int,v=xi xo k)/\h'=h:=by intro w a;refine(Tryz.bits_Len (r:Int) w i5 i5).mono ?_;rintro e c ⟨rfl,rfl⟩;exact⟨_,i4,dm.refl _,⟨_,i4⟩,a⟩
theorem YV(d:List ez)(m:i0 d<=12)(H:aa B h0 h (uH s d::As)):
  ab xt 113 #[s,.func (.func 114) #[] #[]] h λv h'=>v=.tuple #[]/\aa B h0 h' (uH s (d.mergeSort jV)::As):=by
 refine mH s (114,#[],#[]) ?_;unfold iW;have f:=(H.own 0 i4).len;have a:∀k:Int,ab xt 186 #[s,xi xo 0,xi xo (s.len:Nat),xi xo k,.func (.func 114) #[] #[]] h λv h'=>v=.tuple #[]/\aa B h0 h' (uH s (d.mergeSort jV)::As):=λk=>by
  refine nI s 0 (s.len:Nat) k (114,#[],#[]) ?_;unfold jQ;refine aw (λ_:Unit=>((0:Int),((s.len:Nat):Int),k,eR,eR)) (λ_ h'=>h'=h) (λ_=>0) () i4 i4 ?_;rintro _ i rfl;refine ai (λ_=>?_) λe=>absurd (show qc xo (((s.len:Nat):Int)-0)<=12 by rw[ak _];omega) e;refine(Nz [] d [] 0 (s.len:Nat) i4 nn i9 ln).mono ?_;rintro _ j ⟨rfl,M,g,l,b⟩;refine⟨(),i4,i4,?_⟩;rw[<-afi Ir g l];simpa using b
 have c:qc xr ((s.len:Nat):Int)=((s.len:Nat):Int):=by unfold qc;simp[ql,yY];omega
 rw[c];refine(Ul s.len h i5).mono ?_;rintro _ i ⟨⟨k,rfl⟩,rfl⟩;refine⟨k,i4,(a k).mono ?_⟩;rintro _ j ⟨rfl,b⟩;exact⟨(),i4,i4,b⟩
end
section
variable {B:aB} {h0 h:f8} {As:List HP}
def DN:ci:=(0,0,0,0,0,0,⟨eH,0,0⟩,⟨eH,0,0⟩)
theorem Wd{m:aE}{e:Wl.bM}{xe:ez}{L:List (ez×Wl.bM)}{pool:List (Sl×az)}(k:L.map zF=m.aH)(i:∀p∈L,Jr pool p)(l:Jr pool (xe,e)):
  ∃g:List (ez×Wl.bM),g.map qM=(L.map qM++[xe]).mergeSort jV/\g.map zF=(m.aH++[e]).mergeSort tf/\∀p∈g,Jr pool p:=by
 have c:∀p∈L++[(xe,e)],Jr pool p:=λp d=>by
  rcases qD.1 d with d|d
  ·exact i p d
  ·rw[qx.1 d];exact l
 refine⟨(L++[(xe,e)]).mergeSort λa b=>jV a.1 b.1,?_,?_,λp d=>c p ((yf _ _).mem_iff.1 d)⟩
 ·rw[vz (r:=λa b=>jV a.1 b.1) (s:=jV) (f:=qM) λa _ b _=>rfl,qU];rfl
 ·rw[vz (r:=λa b=>jV a.1 b.1) (s:=tf) (f:=zF) (λa j b h=>by unfold jV tf;rw[(c a j).1.1,(c b h).1.1]),qU,k];rfl
theorem abo(x:ci)(m:aE)(xe:ez)(e:Wl.bM)(P:dG h x m)(K:dg m)(Y:0<=m.seq/\m.seq<=2^40)(Z:0<=m.next/\m.next<=2^40)(ho:m.aH.length<=11)(W:xe.1=e.name/\xe.2.1=e.object/\xe.2.2.1=e.length)(H:aa B h0 h (ux xe.2.2.2 1 aq e.tries::As)):
  ab xt 50 #[gb x,Uk xe] h λv h'=>∃y:ci,v=gb y/\aa B h0 h' (dF y (eZ m e)::As):=by
 refine OL x xe ?_;unfold Hs;refine(Sp.refl h).boxed λV h1 R=>R.boxed λg h2 T=>T.alloc ac i4 λa3 h3 k=>?_;have k:Sp h h3 [ao V 44 (bn x),ao g 94 (bP xe),ao a3 44 (bn DN)]:=k;refine⟨x,(k.box 0 i4).aS _ i4,(DH x m h3 (P.up k.ag) K).mono ?_⟩;rintro _ h4 ⟨y,L,pool,rfl,n,E,D,F⟩;have G:=((k.cE [1,2]).comp F).front;refine⟨y,i4,G.alloc ac i4 λi h5 u=>?_⟩;have u:=u.bw;refine u.storeAll ac 0 i4 i4 (bn y) i4 i4 i4 i4 λX q=>?_;have q:Sp h X [ao i 44 (bn y),gu 1 aq pool,al 3 y.2.2.2.2.2.2.1 1 aq m.drives,al 94 y.2.2.2.2.2.2.2 4 bP (L.map qM),ao g 94 (bP xe),ao a3 44 (bn DN)]:=q;refine⟨y.1,(q.box 0 i4).cell0 i4,?_⟩;have I:qc xo (y.1+1)=m.seq+1:=by rw[n.1,ak _]
 have Q:qc xo (y.2.1+1)=m.next+1:=by rw[n.2.1,ak _]
 dsimp only;rw[I];refine q.lE ac 0 i4 i4 [xi xo (m.seq+1)] i4 i4 i4 l0 λJ r=>?_;have r:Sp h J [ao i 44 (xi xo (m.seq+1)::(bn y).drop 1),gu 1 aq pool,al 3 y.2.2.2.2.2.2.1 1 aq m.drives,al 94 y.2.2.2.2.2.2.2 4 bP (L.map qM),ao g 94 (bP xe),ao a3 44 (bn DN)]:=r;refine⟨y.2.1,(r.box 0 i4).cell i4,?_⟩;dsimp only;rw[Q];refine r.store ac 0 i4 i4 1 [xi xo (m.next+1)] i4 i4 i4 l0 λh8 j=>?_;have j:Sp h h8 [ao i 44 (xi xo (m.seq+1)::xi xo (m.next+1)::(bn y).drop 2),gu 1 aq pool,al 3 y.2.2.2.2.2.2.1 1 aq m.drives,al 94 y.2.2.2.2.2.2.2 4 bP (L.map qM),ao g 94 (bP xe),ao a3 44 (bn DN)]:=j;have S:L.length=m.aH.length:=by rw[<-E,qA]
 refine⟨y.2.2.2.2.2.2.2,(j.box 0 i4).cell i4,xe,(j.box 4 i4).aS _ i4,?_⟩;refine j.push ac 3 i4 adR i4 i6 (λ_=>rfl) Xq xe i4 i6 i9 λo U t=>?_;refine t.store ac 0 i4 i4 7 [o] i4 i4 i4 l0 λw c=>?_;obtain⟨a,b⟩:∃a:ci,a=(m.seq+1,m.next+1,y.2.2.1,y.2.2.2.1,y.2.2.2.2.1,y.2.2.2.2.2.1,y.2.2.2.2.2.2.1,o):=⟨_,rfl⟩
 have M:a.2.2.2.2.2.2.1=y.2.2.2.2.2.2.1:=by rw[b]
 have N:a.2.2.2.2.2.2.2=o:=by rw[b]
 have c:Sp h w [ao i 44 (bn a),gu 1 aq pool,al 3 a.2.2.2.2.2.2.1 1 aq m.drives,al 94 a.2.2.2.2.2.2.2 4 bP (L.map qM++[xe]),ao g 94 (bP xe),ao a3 44 (bn DN)]:=by rw[M,N,b];exact c
 refine⟨a.2.2.2.2.2.2.2,(c.box 0 i4).cell i4,?_⟩;have c:=c.aZ 6 [3,0,1,2,4,5];refine(YV (L.map qM++[xe]) i9 c).mono ?_;rintro _ z ⟨rfl,f⟩;have f:Sp h z [uH a.2.2.2.2.2.2.2 ((L.map qM++[xe]).mergeSort jV),ao i 44 (bn a),gu 1 aq pool,al 3 a.2.2.2.2.2.2.1 1 aq m.drives,ao g 94 (bP xe),ao a3 44 (bn DN)]:=f;refine⟨(),i4,a,(f.box 1 i4).aS _ i4,?_⟩;refine f.storeAll ac 5 i4 i4 (bn a) i4 i4 i4 i4 λl d=>?_;have d:Sp h l [uH a.2.2.2.2.2.2.2 ((L.map qM++[xe]).mergeSort jV),ao i 44 (bn a),gu 1 aq pool,al 3 a.2.2.2.2.2.2.1 1 aq m.drives,ao g 94 (bP xe),ao a3 44 (bn a)]:=d;refine⟨a,(d.box 5 i4).aS _ i4,a,i4,?_⟩;obtain⟨L',l1,l2,O⟩:=Wd (pool:=(xe.2.2.2,e.tries)::pool) (m:=m) (e:=e) (xe:=xe) E (λp A=>⟨(D p A).1,qC _ (D p A).2⟩) ⟨W,qH⟩;have s:=((H.comp (d.cE [2,3,0])).front).aZ 4 [0,3,1,2];have s:aa B h0 l (gu 1 aq ((xe.2.2.2,e.tries)::pool)::al 3 a.2.2.2.2.2.2.1 1 aq m.drives::al 94 a.2.2.2.2.2.2.2 4 bP ((L.map qM++[xe]).mergeSort jV)::As):=aa.Xs s;rw[<-l1]at s;refine aa.TS (m:=eZ m e) ⟨by rw[b];rfl,by rw[b];rfl,by rw[b];exact n.2.2.1,by rw[b];exact n.2.2.2⟩ l2 O s
end
section
variable {B:aB} {h0 h:f8} {As:List HP} {a pw:fz} {offs:Int} {da:List aO} {w:Pow} {ds:aF}
theorem aa.abp{x y:ci}(H:aa B h0 h (bu bJ a pw (bn x) offs da w ds::As)){K:Unit->f8->Prop}(c:∀h',aa B h0 h' (bu bJ a pw (bn y) offs da w ds::As)->K () h'):
  af xt (qf 44 (xk (dB a)) (gb y)) h K:=by
 obtain⟨ok,b⟩:=Go.Vc.aa.sH H;refine b.lE ac 0 i4 i4 (bn y) i4 i4 i4 jj λh' d=>c h' ?_;exact aa.um (k:=bJ) ⟨i4,ok.la,ok.ls,ok.same⟩ d
theorem YW(x z:ci)(b:aE)(s:Sl)(l:az)(m:St B h0 As λh=>dG h z b/\Rd h s 1 aq l)(g:dg b)(p:i0 l<=2^10)(j:∀k∈l,0<=k/\k<64)(H:aa B h0 h (bu bJ a pw (bn x) offs da w ds::As)):
  ab xt 54 #[xk (dB a),gb z,s] h λv h'=>v=xi xo (layAll (bt b l) w ds).1/\
   ((layAll (bt b l) w ds).1≠0->aa B h0 h' (bu bJ a pw (bn x) offs da (layAll (bt b l) w ds).2.1 (layAll (bt b l) w ds).2.2::As))/\
   ((layAll (bt b l) w ds).1=0->∃y,aa B h0 h' (bu bJ a pw (bn y) offs da (layAll (bt b l) w ds).2.1 (layAll (bt b l) w ds).2.2::dF y b::As)):=by
 refine EF (dB a) z s ?_;unfold ub;refine H.boxed λK G d=>?_;have d:=d.bw;refine⟨z,(d.box 0 i4).aS _ i4,(CF z b s l G (m.at [_,_] d).1 g (m.at [_,_] d).2 p).mono ?_⟩;rintro _ L ⟨r,t,rfl,D⟩;have J:=(d.ca D).aZ 3 [2,0,1];have f:=jU b g;have u:=z7 p f;refine⟨r,i4,(BX r t (bt b l) (St.fj 0 i4 λ_ n=>n) (by rw[tv];omega) (λq n=>?_) J).mono ?_⟩
 ·obtain⟨o,i⟩:=jb n;rw[i];exact⟨j _ o,i6⟩
 rintro _ h3 ⟨rfl,c⟩;obtain⟨R,A⟩:∃R,R=layAll (bt b l) w ds:=⟨_,rfl⟩
 rw[<-A]at c⊢;refine⟨_,i4,bQ (λe=>⟨i4,λ_=>c.aZ 3 [0],λh=>absurd h e⟩) λe=>?_⟩;have c:aa B h0 h3 (bu bJ a pw (bn x) offs da R.2.1 R.2.2::cW jw 2 piv r t (bt b l)::ao K 44 (bn z)::As):=c;refine⟨z,(c.box 2 i4).aS _ i4,(No z b h3 (m.at [_,_,_] c).1 g).mono ?_⟩;rintro _ M ⟨y,rfl,E⟩;have F:=(c.ca E).aZ 4 [1,0];refine⟨y,i4,a,i4,aa.abp F λN I=>?_⟩;exact⟨by rw[e],λh=>absurd e h,λ_=>⟨y,I⟩⟩
def jk(name:ByteArray)(e:Wl.bM):Bool:=e.name.toList==name.toList
theorem find_spec(x:ci)(m:aE)(name:ByteArray)(r:dG h x m)(q:dg m)(H:aa B h0 h (bu bJ a pw (bn x) offs da w ds::As)):
  ab xt 91 #[xk (dB a),xl name] h λv h'=>(∃i:Int,v=xi xo i/\YJ (jk name) m.aH i)/\Sp h h' []:=by
 refine EI (dB a) name ?_;unfold ue;refine(Sp.refl h).boxed λf j b=>?_;have n:cv j f 9 [xl name]:=b.box 0 i4;obtain⟨ok,l⟩:=aa.cN H;have g:=l.ag b.ag l.lt;have d:=q.ob;refine⟨a,i4,x.2.2.2.2.2.2.2,g.cell i4,?_⟩;refine(Kp 153 #[] #[xk (dB f)] (jk name) x.2.2.2.2.2.2.2 m.aH j k8 (r.up b.ag).aH d ?_).mono ?_
 ·intro u E o c t y;refine Cy u f ?_;unfold rk;refine(Sp.refl o).boxed λz h3 e=>?_;have k:=(n.ag c.ag n.lt)
  have p:=k.ag e.ag k.lt;refine⟨u.1,(e.box 0 i4).cell0 i4,name,p.cell0 i4,?_,.zip e.ag⟩;unfold jk;rw[t.1.1]
 ·rintro _ o ⟨⟨i,rfl,s⟩,c⟩;exact⟨i,i4,⟨i,i4,s⟩,.zip (aa.up b c.ag).ag⟩
theorem Is{b:bc}(H:aa B h0 h (bu bJ a pw b offs da w ds::As)):ab xt 55 #[xk (dB a)] h λv h'=>v=xm (dY w offs)/\h'=h:=by refine Gk (dB a) ?_;unfold uS;refine bD (λe=>j3) λ_=>(sK H).mono ?_;rintro _ _ ⟨rfl,rfl⟩;exact⟨_,i4,i4,i4⟩
def eC(m:aE)(down:Bool)(ds:aF)(name:ByteArray)(n:Nat):Int:=
 if down then 14 else if !ms name then 3 else if m.aH.any (jk name)then 4
 else if m.p.1*m.p.2.2*8<(n:Int)∨12<=i0 m.aH then 6
 else if aR ds m.drives=[]∨16777215<m.next∨2147483647<=m.seq then 7 else 0
theorem Um(x:ci)(m:aE)(name:ByteArray)(s:Sl)(n:Nat)(Y:s.len=n)(G:name.size<=2^40)(P:dG h x m)(I:dg m)(M:bB m.p=eR)(H:aa B h0 h (bu bJ a pw (bn x) offs da w ds::As)):
  ab xt 46 #[xk (dB a),xl name,s] h λv h'=>v=xi xo (eC m (dY w offs) ds name n)/\Sp h h' []:=by
 refine Bc (dB a) name s ?_;unfold pq;have R:=(bZ m.p).1 M;refine(Is H).mono ?_;rintro _ z ⟨rfl,rfl⟩;refine⟨_,i4,bD (λe=>⟨by unfold eC;rw[e];rfl,Sp.refl _⟩) λo=>?_⟩;refine(Qn name z G).mono ?_;rintro _ h2 ⟨rfl,l⟩;refine⟨_,i4,bh (λe=>⟨by unfold eC;rw[o,e];rfl,l⟩) λD=>?_⟩;have K:=H.up l.ag;have k:=P.up l.ag;refine(find_spec x m name k I K).mono ?_;rintro _ h3 ⟨⟨i,rfl,W⟩,y⟩;have F:Sp z h3 []:=.zip (aa.up l y.ag).ag;have d:=Ua W;refine⟨i,i4,bD (λe=>⟨by unfold eC;rw[o,D,<-d,e];rfl,F⟩) λL=>?_⟩;rw[L]at d;have J:=K.up y.ag;have b:=k.up y.ag;obtain⟨ok,j⟩:=aa.cN J;have T:=bL.len b.aH;have E:x.2.2.1=m.p.1:=congrArg (·.1) b.p;have q:x.2.2.2.2.1=m.p.2.2:=congrArg (·.2.2) b.p;have Z:m.p.1*m.p.2.2<=16*24:=Int.mul_le_mul i5 i5 i5 i5;have O:0<=m.p.1*m.p.2.2:=vD i5 i5;refine bY (λ(t:Bool) h'=>t=decide (m.p.1*m.p.2.2*8<(n:Int)∨12<=i0 m.aH)/\h'=h3) ?_ ?_
 ·refine⟨a,i4,x.2.2.1,j.cell i4,a,i4,x.2.2.2.2.1,by rw[addr_add];exact j.cell i4,?_⟩;dsimp only;rw[E,q,ak (m.p.1*m.p.2.2),ak (m.p.1*m.p.2.2*8)];refine ai (λe=>⟨(g9 (.inl i5)).symm,i4⟩) λe=>?_;refine⟨a,i4,x.2.2.2.2.2.2.2,j.cell i4,?_,i4⟩;rw[decide_eq_decide];omega
 rintro t _ ⟨rfl,rfl⟩;refine ai (λe=>⟨by unfold eC;rw[o,D,<-d,f9 e];rfl,F⟩) λN=>?_;have U:eC m (dY w offs) ds name n=if aR ds m.drives=[]∨16777215<m.next∨2147483647<=m.seq then 7 else 0:=by unfold eC;rw[o,D,<-d,g0 N];rfl
 rw[U];refine(dJ x m b I J).mono ?_;rintro _ S ⟨r,rfl,u⟩;have g:=(u.own 0 i4).len;have c:Sp z S []:=.zip (aa.up F u.ag).ag;have f:=j.ag u.ag j.lt;refine⟨r,i4,de (λe=>⟨by rw[f9 (.inl (q8 i5))],c⟩) λe=>?_⟩;have A:aR ds m.drives≠[]:=λV=>by rw[V]at g;simp at g;omega
 refine⟨a,i4,x.2.1,f.cell i4,ai (λe=>⟨by rw[f9 (.inr (.inl (by rw[<-b.next];omega)))],c⟩) λe6=>?_⟩;have Q:=b.next;have X:=b.seq;refine⟨a,i4,x.1,f.cell0 i4,ai (λe=>⟨by rw[f9 (.inr (.inr i5))],c⟩) λe7=>⟨?_,c⟩⟩;rw[g0];rintro(h|h|h)
 ·exact A h
 ·omega
 ·omega
end
theorem Un:∃i a,C.T.get 34=dB i/\i.dc=.slice a:=⟨_,_,i4,i4⟩
def pJ(A B:aM)(k:Nat):aM:=fc (A.take k) (B.take k)++A.drop k
theorem uo{A B:aM}(h:i0 B=i0 A)(k:Nat):i0 (pJ A B k)=i0 A:=by simp[pJ,fc,h];omega
theorem abq{A B:aM}(h:i0 B=i0 A){k:Nat}(a:k<i0 A):(pJ A B k)[k]?=dB A[k]:=by
 have:i0 (fc (A.take k) (B.take k))=k:=by simp[fc];omega
 rw[pJ,qj i5,this,zc,wH,wV,qd a]
theorem abr{A B:aM}(h:i0 B=i0 A){k:Nat}(a:k<i0 A):(pJ A B k).set k (A[k]++B[k]'(by omega))=pJ A B (k+1):=by
 have b:i0 (fc (A.take k) (B.take k))=k:=by simp[fc];omega
 rw[pJ,qZ _ _ i5,b,zc,qQ a,zw,pJ,aG _ _ a,aG _ _ (show k<i0 B by omega),fc,fc,yz i9,qq];rfl
theorem abs{A B:aM}(h:i0 B=i0 A):pJ A B A.length=fc A B:=by rw[pJ,qW,<-h,qW,h,List.drop_length,qN]
theorem YX(f:fz)(a b:Sl)(A B:aM)(n w:Nat)(h:f8)(hf:fI h f)(L:fO h a 1 aD A)(Z:fO h b 1 aD B)(hl:i0 A=n)(a4:i0 B=n)(i:aV n A)(N:aV w B)(bb:1<=n)(hn:n+w<=64)(hr:cb A=n):
  ab xt 175 #[xk (dB f),a,b] h λv h'=>∃r:Sl,v=.tuple #[r,xi xo 0]/\Sp h h' [fQ 34 r 1 aD (gh n A B)]:=by
 have d:i0 B=i0 A:=i5
 have U:=L.len;have D:=Z.len;refine FR (dB f) a b ?_;unfold Cz;refine bj ?_;refine(nu a A n h L i).mono ?_;rintro v h1 ⟨rfl,rfl⟩;refine⟨_,i4,bh (λe=>j3) λ_=>?_⟩;refine(nu b B w h1 Z N).mono ?_;rintro v J ⟨rfl,rfl⟩;refine⟨_,i4,bh (λe=>j3) λ_=>?_⟩;refine bQ (λe=>absurd (by rw[U,D,d]) e) λ_=>?_;refine de (λe=>i5) λ_=>?_;refine(sO a A J L).mono ?_;rintro v h3 ⟨rfl,rfl⟩;have W:eN A=n:=by
  cases A with
  |nil=>simp at hl;omega
  |cons x t=>rw[eN,bx jj];exact i _ jj
 refine⟨_,i4,?_⟩;rw[W];refine(AL a A n h3 L i).mono ?_;rintro v h4 ⟨r,rs,rfl,ay,R4⟩;refine⟨r,i4,?_⟩;have ax:=(R4.own 0 i4).len;refine aw (λt:Nat×List Sl=>(t.1:Int)) (λt h'=>t.1<=n/\t.2.length=n/\Sp h3 h' (oa r t.2 (pJ A B t.1))) (λt=>n-t.1) (0,rs) i4 ⟨jj,i7,by simpa[pJ,fc]using R4⟩ ?_;rintro⟨k,rs⟩ h5 ⟨hk,a6,F⟩;dsimp only at*;have o:i0 rs=i0 (pJ A B k):=ns
 refine ai (λe=>?_) (λe=>?_)
 ·have l:k<n:=i5
  have y:k<i0 A:=i5
  have H:=pH (a:=r) o k ns;have eg:(pJ A B k)[k]'(by rw[uo d];omega)=A[k]:=by have:=abq d y;rw[qd ns]at this;exact zT.inj this
  rw[eg]at H;have l1:A[k].length=n:=i _ (qh _);have l2:i0 (B[k]'(by omega))=w:=N _ (qh _);refine(F.seq 0 i4 λ_=>rfl).nX k i4 i5 λa1 Q R=>?_;refine(Z.up F.ag).get k i4 i5 λrb O=>?_;refine F.append ac (k+1) H gz Un i4 i6 (λ_=>rfl) O gV i5 λK h6 H6=>⟨trivial,?_⟩
  refine H6.set ac 0 i4 (λ_=>rfl) i4 k i4 i5 K i4 i4 i4 λV H7=>⟨trivial,?_⟩
  refine⟨(k+1,rs.set k K),js,⟨i7,l9,?_⟩,i7⟩;dsimp only;rw[<-abr d y];show Sp h3 V (al 34 r 1 bs (rs.set k K)::bG 5 1 aD (rs.set k K) ((pJ A B k).set k _));rw[<-kW o];exact H7
 ·have X:k=i0 A:=i5
  subst X;rw[abs d]at F;refine(uF f h5).mono ?_;rintro v h6 ⟨rfl,rfl⟩;refine⟨dB f,i4,?_⟩;have E:=ni d.symm i N;have a7:=mN d.symm;refine(CI (m:=fc A B) (n:=n+w) hf hf.lt i5 E i5 i5 i5 F).mono ?_;rintro v V ⟨g,rfl,ap,j⟩;rw[KS d.symm i,hr];refine⟨_,i4,?_⟩;dsimp only;have ar:=(j.own 0 i4).cap;have a9:=(j.own 0 i4).len;have J:=gU E n;refine ai (λe=>absurd (show(n:Int)<(n:Int)from e) i5) λ_=>?_;refine⟨⟨zX _,yS.2 (show n<=r.len by omega)⟩,?_⟩;refine aw (λ_:Unit=>(0:Int)) (λ_ h'=>h'=V) (λ_=>0) () i4 i4 ?_;rintro _ h8 rfl;rw[qm];refine ai (λe=>i5) λ_=>?_;refine⟨⟨zX _,yS.2 (show n<=r.cap by omega)⟩,?_⟩;obtain⟨M,G⟩:∃M,M=(bH (fc A B) n).2:=⟨_,rfl⟩
  have a8:i0 M=n:=by have:=J.2;rw[<-G]at this;omega
  have P:aV (n+w) M:=by rw[G];exact J.1
  have q:∀k (hk:k<n),(gh n A B).take (k+1)=(gh n A B).take k++[(M[k]'(by omega)).drop n]:=λk hk=>by
   have e1:gh n A B=M.map (List.drop n):=by rw[gh,<-G,qi i5]
   rw[e1,aG _ _ i9,wx]
  have a0:i0 (gh n A B)=n:=(xQ d.symm i N hr).1;rw[<-G]at j;refine aw (λt:Sl×Nat=>(t.1,(t.2:Int))) (λt h'=>t.2<=n/\Sp h8 h' [fQ 34 t.1 1 aD ((gh n A B).take t.2)]) (λt=>n-t.2) (⟨eH,0,0⟩,0) i4 ⟨jj,(Sp.refl h8).LX 34 1 aD⟩ ?_;rintro⟨s,k⟩ h9 ⟨a2,I⟩;dsimp only at*;have HH:=j.comp I;have ah:i0 g=i0 M:=i5
  refine ai (λe=>?_) (λe=>?_)
  ·have l:k<n:=i5
   have H:=pH (a:=r) ah k i5;have p:(oa r g M++[fQ 34 s 1 aD ((gh n A B).take k)])[k+1]?=dB (al 5 (g[k]'(by omega)) 1 aD (M[k]'(by omega))):=by rw[qo (by simp[bG];omega)];exact H
   have a3:i0 (M[k]'(by omega))=n+w:=P _ (qh _);have u:=HH.own (k+1) p;have S:=HH.seq (k+1) p λ_=>rfl;have am:=u.len;have z:=(HH.seq 0 i4 λ_=>rfl).take n i5;rw[qi i5]at z;refine z.nX k i4 i5 λa1 Q R=>?_;refine⟨⟨zX _,yS.2 i5⟩,?_⟩;refine(fC _ _ h9 (S.drop n u.cap) i9).mono ?_;rintro v bd ⟨c,rfl,ad⟩;have T:=(I.comp ad).freeze 1 i4 λ_=>rfl;refine⟨c,i4,?_⟩;refine T.xN ac 0 1 i6 i4 i4 fx i9 λs' a5 Y=>?_;refine⟨(s',k+1),js,⟨i7,?_⟩,i7⟩;dsimp only;rw[q k l];exact Y.del 1
  ·rw[qi i5]at I;refine⟨s,i4,?_⟩;have:=(Sp.zip j.ag).comp I;exact this
def ik(p:Pm)(seed:Int)(l:Nat):Int:=if bB p&&decide ((l:Int)=p.1*p.2.2)then(if dK p seed (ff p)then 0 else 8)else 1
abbrev CK(p:Pm)(seed:Int)(m:Sl):bc:=[xi xo p.1,xi xo p.2.1,xi xo p.2.2,xi xq seed,m]
theorem Uo(p:Pm)(seed:Int)(data:Sl)(d:Row)(h:f8)(hd:Rd h data 1 aD d)(hc:data.len<=data.cap):
  ab xt 108 #[lu p,xi xq seed,data] h λv h'=>
   (ik p seed d.length=0->∃(b:fz) (m:Sl),v=.tuple #[xk (dB b),xi xo 0]/\Sp h h' [fQ 34 m 1 aD (dt p seed d),ao b 234 (CK p seed m)])/\
   (ik p seed d.length≠0->v=.tuple #[xk eH,xi xo (ik p seed d.length)]/\Sp h h' []):=by
 have X:=hd.len;refine OO p seed data ?_;unfold Hv;refine(Sp.refl h).boxed λa h1 H1=>?_;refine bj ?_;refine⟨p,(H1.box 0 i4).aS _ i4,(dW p h1).mono ?_⟩;rintro v h2 ⟨rfl,R2⟩;have N:=H1.comp R2;have U:∀{h3:f8} (x:Int),x≠0->ik p seed d.length=x->Sp h h3 [ao a 24 [xi xo p.1,xi xo p.2.1,xi xo p.2.2]]->
   (ik p seed d.length=0->∃(b:fz) (m:Sl),Value.tuple #[xk eH,xi xo x]=.tuple #[xk (dB b),xi xo 0]/\Sp h h3 [fQ 34 m 1 aD (dt p seed d),ao b 234 (CK p seed m)])/\
   (ik p seed d.length≠0->Value.tuple #[xk eH,xi xo x]=.tuple #[xk eH,xi xo (ik p seed d.length)]/\Sp h h3 []):=λx hx O H=>by
  refine⟨λe=>absurd (O.symm.trans e) hx,λ_=>⟨by rw[O],.zip H.ag⟩⟩
 refine⟨_,i4,bh (λe=>U 1 i6 (by rw[ik,e];rfl) N) λR=>?_⟩;have a0:=(bZ p).1 R;obtain⟨K,hK⟩:∃K:Nat,p.1=K:=⟨p.1.toNat,i5⟩
 obtain⟨u,hH⟩:∃H:Nat,p.2.1=H:=⟨p.2.1.toNat,i5⟩
 obtain⟨w,M⟩:∃w:Nat,p.2.2=w:=⟨p.2.2.toNat,i5⟩
 have ap:K*w<=16*24:=z7 i5 i5;have L:p.1*p.2.2=((K*w:Nat):Int):=by rw[hK,M,wu]
 refine⟨p.1,(N.box 0 i4).cell0 i4,p.2.2,(N.box 0 i4).cell i4,?_⟩;dsimp only;rw[L,ak _];refine bQ (λe=>U 1 i6 (by rw[ik,R,hZ (by rw[L];intro Z;exact e (by rw[X];exact Z))];rfl) N) λel=>?_;have G:i0 d=K*w:=i5
 refine⟨p,(N.box 0 i4).aS _ i4,(Ny p seed h2).mono ?_⟩;rintro v h3 ⟨rfl,R3⟩;have H3:=N.comp R3;have y:ik p seed d.length=if dK p seed (ff p)then 0 else 8:=by rw[ik,R,g9 (by rw[L,G])];rfl
 refine⟨_,i4,bh (λe=>U 8 i6 (by rw[y,e];rfl) H3) λhf=>?_⟩;rw[hf,f9 rfl]at y;have B:co p seed d K u w (K+u):=⟨R,hf,hK,hH,M,i4,i5,i5,i5,i5,i5,i5,G⟩
 refine⟨p.2.1,(H3.box 0 i4).cell i4,?_⟩;refine aw (λt:Sl×List Sl=>(t.1,(i0 t.2:Int))) (λt h'=>i0 t.2<=u/\Sp h h' (ao a 24 [xi xo p.1,xi xo p.2.1,xi xo p.2.2]::oa t.1 t.2 (qg t.2.length (aK w)))) (λt=>u-i0 t.2) (⟨eH,0,0⟩,[]) i4 ⟨jj,H3.nil 34 1 bs⟩ ?_;rintro⟨s,rs⟩ h4 ⟨hk,P⟩;dsimp only at*;refine ai (λe=>?_) (λe=>?_)
 ·refine⟨p.2.2,(P.box 0 i4).cell i4,?_⟩;refine P.make ac aD gz i6 0 i4 i4 w w M M (qk _) i5 λz h5 ax am D=>?_;refine D.push ac 1 i4 fx i4 i6 (λ_=>rfl) kb z i4 i6 i5 λs' h6 Y=>?_;refine⟨(s',rs++[z]),by dsimp only;rw[ak _];simp,⟨i9,?_⟩,i9⟩;dsimp only;have e7:oa s' (rs++[z]) (qg rs.length (aK w)++[aK w])=al 34 s' 1 bs (rs++[z])::(bG 5 1 aD rs (qg rs.length (aK w))++[al 5 z 1 aD (aK w)]):=congrArg _ (xZ jj z (aK w));rw[show(rs++[z]).length=i0 rs+1 by simp,List.replicate_succ',e7];exact Y
 ·have I:i0 rs=u:=i5
  rw[I]at P;refine⟨p.1,(P.box 0 i4).cell0 i4,?_⟩;let own:=bG 5 1 aD rs (qg u (aK w));refine aw (λt:Sl×Nat=>(t.1,(t.2:Int))) (λt h'=>t.2<=K/\Sp h h' (ao a 24 [xi xo p.1,xi xo p.2.1,xi xo p.2.2]::al 34 t.1 1 bs (rs++(qw t.2).map (Ow data w))::own)) (λt=>K-t.2) (s,0) i4 ⟨jj,by simpa using P⟩ ?_;rintro⟨t,k⟩ h5 ⟨ar,D⟩;dsimp only at*;refine ai (λZ=>?_) (λZ=>?_)
  ·have T:k<K:=i5
   have m1:(k+1)*w<=K*w:=zt w T;have m2:k*w<=(k+1)*w:=zt w i5;refine⟨p.2.2,(D.box 0 i4).cell i4,p.2.2,(D.box 0 i4).cell i4,?_⟩;rw[ak ((k:Int)+1)];have e5:(k:Int)*p.2.2=((k*w:Nat):Int):=by rw[M,wu]
   have e6:((k:Int)+1)*p.2.2=(((k+1)*w:Nat):Int):=by rw[M,wu];rfl
   dsimp only;rw[e5,e6,wb _,wb _,qm,qm];refine⟨⟨zX _,yS.2 m2,yS.2 i5⟩,?_⟩;refine D.push ac 1 i4 fx i4 i6 (λ_=>rfl) kb (Ow data w k) i4 i6 i9 λt' h6 Y=>?_;refine⟨(t',k+1),i4,⟨i7,?_⟩,i7⟩;dsimp only;rw[zQ,qU,<-qq];exact Y
  ·have ad:k=K:=i5
   subst ad;refine bj ?_;have E:fO h5 t 1 aD (gy k u w d):=by
    refine⟨rs++(qw k).map (Ow data w),D.seq 1 i4 λ_=>rfl,by rw[GY];simp;omega,λi r l o q=>?_⟩;by_cases F:i<u
    ·rw[qo i5,qd i5]at o;rw[gy,qo (by simpa using F)]at q;have hz:l=aK w:=by simp[F]at q;exact q.symm
     have hr:rs[i]'(by omega)=r:=zT.inj o;have g:(ao a 24 [xi xo p.1,xi xo p.2.1,xi xo p.2.2]::al 34 t 1 bs (rs++(qw k).map (Ow data w))::own)[i+2]?=dB (al 5 (rs[i]'(by omega)) 1 aD ((qg u (aK w))[i]'(by simpa using F))):=iZ (by simpa using I) i (by simpa using F);have:=D.seq (i+2) g λ_=>rfl;rw[List.getElem_replicate,hr]at this;rw[hz];exact this
    ·obtain⟨j,rfl⟩:∃j,i=u+j:=⟨i-u,i5⟩
     rw[qj i5,I,zq]at o;rw[gy,qj jj,List.length_replicate,zq]at q;have hj:j<k:=by have:=(qn.1 o).1;simpa using this
     simp[hj]at o q;have m1:(j+1)*w<=k*w:=zt w hj;rw[<-o,<-q];exact(Seq.up hd D.ag).piece hc w j i5
   have c:=D.box 0 i4;refine⟨p,c.aS _ i4,p,c.aS _ i4,(rF h5).mono ?_⟩;rintro v h6 ⟨f,rfl,R6⟩;have n:=c.ag R6.ag c.lt;refine⟨dB f,i4,⟨n.cell0 i4,n.cell i4,n.cell i4,n.cell0 i4,n.cell i4,n.cell i4,trivial⟩,(Nw p h6).mono ?_⟩;rintro v h7 ⟨r7,rfl,R7⟩;have W:=R6.comp R7;have J:=c.ag W.ag c.lt;refine⟨r7,i4,⟨J.cell0 i4,J.cell i4,J.cell i4,trivial⟩,?_⟩;refine(Kq p seed r7 (ff p) h7 (W.seq 1 i4 λ_=>rfl) (by rw[ff,gW];omega)).mono ?_;rintro v h8 ⟨r8,rfl,R8⟩;have S:=W.comp R8;refine⟨r8,i4,trivial,?_⟩;refine(YX f r8 t _ _ (k+u) w h8 (S.box 0 i4) (S.GH 2 i4) (E.up S.ag) B.GX (by rw[GY]) B.Jl (xu B.len) i5 i5 B.OC).mono ?_;rintro v h9 ⟨r9,rfl,R9⟩;have Q9:=S.comp R9;refine⟨(r9,0),i4,trivial,?_⟩;refine bQ (λe=>absurd i4 e) λ_=>?_;have V:=c.ag Q9.ag c.lt;refine⟨p,V.aS _ i4,?_⟩;refine Q9.boxed (t:=234) λb ay ah=>?_;refine⟨λ_=>⟨b,r9,i4,?_⟩,λe=>absurd y e⟩;have Q:=(Sp.zip D.ag).comp ah;rw[<-B.Fv]at Q;exact Q.take 3 (λi A F=>by
    cases i with
    |zero=>exact F
    |succ i=>cases i with
     |zero=>exact F
     |succ i=>simp at F)
def AN(h:f8)(b:fz)(p:Pm)(seed:Int)(M:aM):Prop:=∃m:Sl,cv h b 234 (CK p seed m)/\fO h m 1 aD M
theorem AN.up{h h':f8}{b:fz}{p:Pm}{seed:Int}{M:aM}(d:AN h b p seed M)(a:aY (λb=>b<h.size) h h'):AN h' b p seed M:=by obtain⟨m,c,e⟩:=d;exact⟨m,c.ag a c.lt,e.up a⟩
theorem We{a t:Row}(b:i0 a=i0 t){k:Nat}(d:k<i0 t):(zh (λx y=>y^^^Gf.mul 1 x) (a.take k) (t.take k)++t.drop k).set k (t[k]^^^(a[k]'(by omega)))=zh (λx y=>y^^^Gf.mul 1 x) (a.take (k+1)) (t.take (k+1))++t.drop (k+1):=by have:=AM (c:=1) b d;rw[Gf.one_mul]at this;exact this
theorem aie{a t:Row}(c:i0 a=i0 t){k:Nat}(b:k<i0 t):(zh (λx y=>y^^^Gf.mul 1 x) (a.take k) (t.take k)++t.drop k)[k]?=dB t[k]:=by
 have d:i0 (zh (λx y=>y^^^Gf.mul 1 x) (a.take k) (t.take k))=k:=i9
 rw[qj i5,d,zc,wH,wV,qd b]
theorem CL(b:fz)(p:Pm)(seed id:Int)(M:aM)(n w:Nat)(h:f8)(hb:AN h b p seed M)(F:bB p=eR)(P:p.2.2=w)(hn:(bE p).toNat=n)(O:aV w M)(Z:i0 M=n):
  ab xt 110 #[xk (dB b),xi xo id] h λv h'=>∃r:Sl,v=r/\Sp h h' [al 5 r 1 aD (if bW id then fV w M (dw n seed id)else[])]:=by
 obtain⟨m,f,T⟩:=hb;have ar:=T.len;have a3:=(bZ p).1 F;have hc:bE p=p.1+p.2.1:=by rw[bE,f9 F]
 refine Be (dB b) id ?_;unfold pu;have Q:bW id=eS->∃r:Sl,Value.slice eH 0 0=xj r.ptr r.len r.cap/\Sp h h [al 5 r 1 aD (if bW id then fV w M (dw n seed id)else[])]:=λe=>by
  rw[e];exact⟨⟨eH,0,0⟩,i4,(Sp.refl h).nil 5 1 aD⟩
 refine bj (bD (λe=>j3) λ_=>ai (λe=>Q ld) λe1=>ai (λe=>Q ld) λR=>?_);have hid:bW id=eR:=ld
 refine⟨b,i4,p.2.2,f.cell i4,?_⟩;refine(Sp.refl h).make ac aD gz i6 0 i4 i4 w w P P (qk _) i5 λo h1 ax ah U=>?_;have z:=f.ag U.ag f.lt;refine⟨b,i4,p,z.aS _ i4,b,i4,seed,z.cell i4,(BZ p seed id h1).mono ?_⟩;rintro v h2 ⟨c,rfl,W⟩;rw[F,hid,vY,f9 rfl,hn]at W;rw[hid,f9 rfl];have I:=U.comp W;obtain⟨d,q⟩:∃d,d=dw n seed id:=⟨_,rfl⟩
 have D:∀x∈d,0<=x/\x<(n:Int):=λx Y=>nf i5 i5 (by rw[<-q];exact Y);have N:i0 d<=n:=by rw[q];exact BA i5 i5 _ _
 rw[<-q]at I⊢;have a0:=(I.seq 1 i4 λ_=>rfl).len;refine⟨c,i4,trivial,?_⟩;refine aw (λi:Nat=>(i:Int)) (λi h'=>i<=i0 d/\Sp h h' [al 5 o 1 aD (fV w M (d.take i)),al 3 c 1 aq d]) (λi=>i0 d-i) 0 i4 ⟨i5,I⟩ ?_;rintro i h3 ⟨E,l⟩;refine ai (λe=>?_) (λe=>?_)
 ·have j:i<i0 d:=i5
  have Y:=D _ (qh j);refine(l.seq 1 i4 λ_=>rfl).bC i i4 j _ i4 ?_;have L:=f.ag l.ag f.lt;refine⟨b,i4,m,L.cell i4,?_⟩;obtain⟨ad,V⟩:=T;refine(V.ag l.ag).get d[i].toNat i5 i5 λr X G=>?_;have s:=V.row _ r _ G (qd (show d[i].toNat<i0 M by omega));obtain⟨row,g⟩:∃row,row=M[d[i].toNat]'(by omega):=⟨_,rfl⟩
  have a1:i0 row=w:=by rw[g];exact O _ (qh _)
  rw[<-g]at X s;obtain⟨S,K⟩:∃S,S=fV w M (d.take i):=⟨_,rfl⟩
  have ap:i0 S=w:=by rw[K];exact pX O Z D i E
  have a2:=X.len;have R:fV w M (d.take (i+1))=cR 1 row S:=by rw[aG _ _ j,Eo,K,g,bx i5]
  rw[<-K]at l;refine aw (λk:Nat=>(k:Int)) (λk h'=>k<=w/\Sp h h' [al 5 o 1 aD (zh (λx y=>y^^^Gf.mul 1 x) (row.take k) (S.take k)++S.drop k),al 3 c 1 aq d]) (λk=>w-k) 0 i4 ⟨i5,by simpa using l⟩ ?_;rintro k h4 ⟨hk,B⟩;have H:=s.ag B.ag;have ay:i0 (zh (λx y=>y^^^Gf.mul 1 x) (row.take k) (S.take k)++S.drop k)=w:=i9
  refine ai (λe3=>?_) (λe3=>?_)
  ·have am:k<w:=i5
   have u:(zh (λx y=>y^^^Gf.mul 1 x) (row.take k) (S.take k)++S.drop k)[k]'(by omega)=S[k]'(by omega):=by have:=aie (a:=row) (t:=S) i5 (show k<i0 S by omega);rw[qd i5]at this;exact zT.inj this
   refine H.bC k i4 i5 _ i4 ?_;refine(B.seq 0 i4 λ_=>rfl).bC k i4 i5 _ i4 ?_;rw[u,oA];refine B.set ac 0 i4 (λ_=>rfl) i4 k i4 i5 _ i4 i4 i4 λh5 H5=>?_;refine⟨k+1,j1,⟨i5,?_⟩,i5⟩;rw[<-We i5 (show k<i0 S by omega)];exact H5
  ·have J:k=w:=i5
   subst J;rw[qi i5,qi i5,zf i5,qN]at B;refine⟨i+1,j1,⟨i5,?_⟩,i5⟩;rw[R];exact B
 ·rw[qi i5]at l;exact⟨o,i4,l.take 0 λi A E=>by cases i with|zero=>exact E|succ i=>simp at E⟩
theorem _root_.Wl.co.ik{p:Pm}{seed:Int}{d:Row}{K H w n:Nat}(B:co p seed d K H w n):ik p seed d.length=0:=by rw[Go.Qw.ik,B.may,B.full,B.len,B.k,B.s,g9 (by rw[wu])];rfl
theorem aif{p:Pm}{seed:Int}{d:Row}{K H w n:Nat}(B:co p seed d K H w n)(data:Sl)(h:f8)(a:Rd h data 1 aD d)(e:data.len<=data.cap):
  ab xt 108 #[lu p,xi xq seed,data] h λv h'=>
   ∃(b:fz) (m:Sl),v=.tuple #[xk (dB b),xi xo 0]/\Sp h h' [fQ 34 m 1 aD (dt p seed d),ao b 234 (CK p seed m)]:=
 (Uo p seed data d h a e).mono λ_ _ c=>c.1 B.ik
theorem _root_.Wl.co.symbol{p:Pm}{seed:Int}{d:Row}{K H w n:Nat}(B:co p seed d K H w n)(b:fz)(id:Int)(h:f8)(a:AN h b p seed (dt p seed d)):
  ab xt 110 #[xk (dB b),xi xo id] h λv h'=>∃r:Sl,v=r/\Sp h h' [al 5 r 1 aD (if bW id then fV w (dt p seed d) (dw n seed id)else[])]:=
 CL b p seed id _ n w h a B.may B.s B.pY B.om.2 B.om.1
def DO(s:Fw):bc:=[.complex .f64 s.ax s.ay,.complex .f64 s.sx s.sy,xi xo s.left,xi xo s.leg,xm s.second]
theorem pK{o:Option Nat}(h:o.isSome=eR):o=dB (o.getD 0):=by
 cases o with
 |none=>cases h
 |some x=>rfl
theorem YY(h:f8):ab xt 229 #[] h λv h'=>∃a:fz,v=xk (dB a)/\Sp h h' [ao a 299 (DO fs0)]:=by refine Nf ?_;unfold FW;refine(Sp.refl h).boxed (t:=299) λa c b=>?_;exact⟨a,i4,b⟩
theorem abt(a b:Nat)(h:f8)(d:(gZ.mul a 0).isSome=eR)(f:(gZ.mul b pZ).isSome=eR)(h3:(gZ.sub (uA a 0) (uA b pZ)).isSome=eR)(i:(gZ.mul a pZ).isSome=eR)(j:(gZ.mul b 0).isSome=eR)(c:(gZ.add (uA a pZ) (uA b 0)).isSome=eR):
  ab xt 284 #[.complex .f64 a b,xi xo 1] h λv h'=>v=.complex .f64 (tx a b) (ty a b)/\h'=h:=by
 refine Pf (a,b) 1 ?_;unfold HZ;refine⟨i6,i6,?_⟩;refine aw (λk:Nat=>(if k=0 then(a,b)else(tx a b,ty a b),(k:Int))) (λk h'=>k<=1/\h'=h) (λk=>1-k) 0 i4 ⟨i5,i4⟩ ?_;rintro k h' ⟨l,rfl⟩;have g:wj (qc xo (wj 1 4+4)) 4=1:=i6
 dsimp only;rw[g];refine ai (λe=>?_) (λe=>?_)
 ·have:k=0:=i5
  subst this;refine⟨(tx a b,ty a b),agl (pK d) (pK f) (pK h3) (pK i) (pK j) (pK c),?_⟩;exact⟨1,i4,⟨i5,i4⟩,i5⟩
 ·have:k=1:=i5
  subst this;exact⟨i4,i4⟩
theorem aee(a:fz)(s:Fw)(h:f8)(f:cv h a 299 (DO s))(c:s.ok=eR):ab xt 230 #[xk (dB a)] h λv h'=>v=.tuple #[]/\cv h' a 299 (DO s.on)/\aY (λb=>b≠a.block) h h':=by
 simp only[Fw.ok,qz,decide_eq_true_eq]at c;obtain⟨⟨⟨⟨⟨⟨⟨⟨⟨⟨⟨B,I⟩,F⟩,J⟩,z⟩,x⟩,G⟩,K⟩,N⟩,w⟩,t⟩,D⟩:=c;refine Gq (dB a) ?_;unfold uX;have E:aa (λb=>b<h.size/\¬b=a.block) h h [ao a 299 (DO s)]:=.ZV (λb=>b=a.block) (λb i=>by rw[i];exact f.lt) ⟨f,i4⟩;have fin:∀{h':f8},aa (λb=>b<h.size/\¬b=a.block) h h' [ao a 299 (DO s.on)]->Value.tuple #[]=.tuple #[]/\cv h' a 299 (DO s.on)/\aY (λb=>b≠a.block) h h':=λH=>
  ⟨i4,H.box 0 i4,H.ag.1,λk p l=>H.ag.2 k p ⟨p,l⟩⟩
 refine⟨a,i4,(s.ax,s.ay),f.cell0 i4,a,i4,(s.sx,s.sy),f.cell i4,(oV s.ax s.sx,oV s.ay s.sy),agj (pK B) (pK I),a,i4,?_⟩;refine E.lE ac 0 i4 i4 [.complex .f64 (oV s.ax s.sx) (oV s.ay s.sy)] i4 i4 i4 (by simp[DO]) λM r=>⟨trivial,?_⟩
 refine⟨a,i4,s.left,(r.box 0 i4).cell (j:=2) i4,a,i4,?_⟩;rw[ak (s.left-1)];refine r.storeAt ac 0 i4 i4 (off:=2) i4 i4 i4 (by simp[DO]) λA g=>?_;refine⟨a,i4,s.left-1,(g.box 0 i4).cell (j:=2) i4,?_⟩;refine ai (λe=>?_) (λe=>?_)
 ·have m:DO s.on=[.complex .f64 (oV s.ax s.sx) (oV s.ay s.sy),.complex .f64 s.sx s.sy,xi xo (s.left-1),xi xo s.leg,xm s.second]:=by rw[Fw.on,f9 e];rfl
  refine fin ?_;rw[m];exact g
 ·refine⟨a,i4,(s.sx,s.sy),(g.box 0 i4).cell (j:=1) i4,(abt s.sx s.sy A F J z x G K).mono ?_⟩;rintro v h3 ⟨rfl,rfl⟩;refine⟨(tx s.sx s.sy,ty s.sx s.sy),i4,a,i4,?_⟩;refine g.storeAt ac 0 i4 i4 (off:=1) i4 i4 i4 (by simp[DO]) λO d=>?_;refine bY (λ_ h'=>aa (λb=>b<h.size/\¬b=a.block) h h' [ao a 299 [.complex .f64 (oV s.ax s.sx) (oV s.ay s.sy),.complex .f64 (tx s.sx s.sy) (ty s.sx s.sy),xi xo (s.left-1),xi xo (if s.second then s.leg+1 else s.leg),xm s.second]]) ?_ ?_
  ·refine⟨a,i4,s.second,(d.box 0 i4).cell (j:=4) i4,bD (λn=>?_) λn=>?_⟩
   ·refine⟨a,i4,s.leg,(d.box 0 i4).cell (j:=3) i4,a,i4,?_⟩;rw[ak (s.leg+1)];refine d.storeAt ac 0 i4 i4 (off:=3) i4 i4 i4 (by simp[DO]) λP y=>?_;rw[f9 n];exact y
   ·rw[g0 (by rw[n];decide)];exact d
  ·rintro _ Q o;refine⟨a,i4,s.second,(o.box 0 i4).cell (j:=4) i4,a,i4,?_⟩;refine o.storeAt ac 0 i4 i4 (off:=4) i4 i4 i4 jj λL q=>?_;refine⟨a,i4,_,(q.box 0 i4).cell (j:=3) i4,a,i4,?_⟩;refine q.storeAt ac 0 i4 i4 (off:=2) i4 i4 i4 jj λh8 u=>?_;have m:DO s.on=[.complex .f64 (oV s.ax s.sx) (oV s.ay s.sy),.complex .f64 (tx s.sx s.sy) (ty s.sx s.sy),xi xo (if s.second then s.leg+1 else s.leg),xi xo (if s.second then s.leg+1 else s.leg),xm (!s.second)]:=by rw[Fw.on,g0 e];rfl
   refine fin ?_;rw[m];exact u
theorem Xv(n:Nat)(h:f8)(i:n<64):ab xt 177 #[xi xo n] h λv h'=>v=.complex .f64 (lq n).ax (lq n).ay/\Sp h h' []:=by
 refine TK n ?_;unfold MV;refine ai (λe=>i5) λ_=>ai (λe=>i5) λ_=>?_;refine(YY h).mono ?_;rintro v j ⟨a,rfl,f⟩;refine⟨dB a,i4,?_⟩;refine aw (λk:Nat=>(k:Int)) (λk h'=>k<=n/\Sp h h' [ao a 299 (DO (lq k))]) (λk=>n-k) 0 i4 ⟨i5,f⟩ ?_;rintro k g ⟨l,b⟩;refine de (λe=>?_) (λe=>?_)
 ·have:k=n:=i5
  subst this;exact⟨a,i4,((lq k).ax,(lq k).ay),(b.box 0 i4).cell0 i4,i4,.zip b.ag⟩
 ·refine(aee a (lq k) g (b.box 0 i4) (aiK k i5)).mono ?_;rintro v h3 ⟨rfl,d,c⟩;refine⟨(),i4,k+1,j1,⟨i5,b.CW 0 i4 c d⟩,i5⟩
theorem Qv{a b:Int}(c:-4<=a:=by omega)(d:a<=4:=by omega)(h3:-4<=b:=by omega)(e:b<=4:=by omega):gZ.sub (df a) (df b)=dB (df (a-b)):=by have:=ahx (a+4).toNat i5 (b+4).toNat i5;rw[show((a+4).toNat:Int)-4=a by omega,show((b+4).toNat:Int)-4=b by omega,show((a+4).toNat:Int)-((b+4).toNat:Int)=a-b by omega]at this;exact this
theorem Qx{a:Int}(b:-8<=a:=by omega)(c:a<=8:=by omega):gZ.mul (df a) (df a)=dB (df (a*a)):=by have:=ahy (a+8).toNat i5;rw[show((a+8).toNat:Int)-8=a by omega]at this;exact this
theorem Up(a:Int):((a.natAbs:Nat):Int)*(a.natAbs:Nat)=a*a:=Int.natAbs_mul_self
theorem abu{a b:Int}(c:-8<=a)(d:a<=8)(h3:-8<=b)(e:b<=8):gZ.add (df (a*a)) (df (b*b))=dB (df (a*a+b*b)):=by have:=ahz a.natAbs i5 b.natAbs i5;rw[Up,Up]at this;exact this
def It(i j:Nat):Int:=((gj i).x-(gj j).x)*((gj i).x-(gj j).x)+((gj i).y-(gj j).y)*((gj i).y-(gj j).y)
theorem afK{a:Int}(b:-8<=a)(c:a<=8):0<=a*a/\a*a<=64:=by rw[<-Up,<-wu];have:a.natAbs*a.natAbs<=8*8:=z7 i5 i5;omega
theorem Ca{n:Nat}(h:n<64):(lq n).ax=df (gj n).x/\(lq n).ay=df (gj n).y/\-4<=(gj n).x/\(gj n).x<=4/\-4<=(gj n).y/\(gj n).y<=4:=by have:=ahw n h;simp only[qz,decide_eq_true_eq,beq_iff_eq]at this;obtain⟨⟨⟨⟨⟨a,b⟩,c⟩,d⟩,e⟩,f⟩:=this;exact⟨a,b,c,d,e,f⟩
theorem abv{i j:Nat}(d:i<64)(c:j<64):0<=It i j/\It i j<=128:=by have a:=Ca d;have b:=Ca c;have e:=afK (a:=(gj i).x-(gj j).x) i5 i5;have f:=afK (a:=(gj i).y-(gj j).y) i5 i5;unfold It;omega
theorem aef(i j:Nat)(h:f8)(f:i<64)(c:j<64):ab xt 178 #[.complex .f64 (lq i).ax (lq i).ay,.complex .f64 (lq j).ax (lq j).ay] h λv h'=>v=.float .f64 (df (It i j))/\h'=h:=by
 have a:=Ca f;have b:=Ca c;refine Rw ((lq i).ax,(lq i).ay) ((lq j).ax,(lq j).ay) ?_;unfold Kj;have e:gZ.sub (lq i).ax (lq j).ax=dB (df ((gj i).x-(gj j).x)):=by rw[a.1,b.1];exact Qv
 have d:gZ.sub (lq i).ay (lq j).ay=dB (df ((gj i).y-(gj j).y)):=by rw[a.2.1,b.2.1];exact Qv
 refine⟨(df ((gj i).x-(gj j).x),df ((gj i).y-(gj j).y)),agk e d,_,Qx,_,Qx,_,abu i5 i5 i5 i5,i4,i4⟩
abbrev afL:cj C.toCU 22 3 1 [xi xo 0] 8:=⟨_,_,i4,i4,i4,i4,i4,i4⟩
def nv(a b:Int):Int:=if a<b then-1 else if a>b then 1 else 0
theorem Uq(m:Nat)(h:f8)(a:m<129):ab xt 232 #[.float .f64 (df (m:Nat))] h λv h'=>v=xm eS/\h'=h:=by refine Dz _ ?_;unfold sg;have:=aay m a m a;rw[show(FloatKind.format .f64).order (df (m:Nat)) (df (m:Nat))=dB (compare m m)from this,Nat.compare_eq_eq.2 rfl];exact⟨i4,i4⟩
theorem abw(m n:Nat)(h:f8)(c:m<129)(b:n<129):ab xt 182 #[.float .f64 (df (m:Nat)),.float .f64 (df (n:Nat))] h λv h'=>v=xi xo (nv m n)/\h'=h:=by
 refine Bj _ _ ?_;unfold pA;refine(Uq m h c).mono ?_;rintro v a ⟨rfl,rfl⟩;refine⟨_,i4,(Uq n a b).mono ?_⟩;rintro v f ⟨rfl,rfl⟩;refine⟨_,i4,bD (λe=>j3) λ_=>bD (λe=>j3) λ_=>?_⟩;have d:(FloatKind.format .f64).order (df (m:Nat)) (df (n:Nat))=dB (compare m n):=aay m c n b;rw[d];rcases Nat.lt_trichotomy m n with a|a|a
 ·rw[Nat.compare_eq_lt.2 a];refine bD (λ_=>⟨by rw[nv,f9 i5],i4⟩) (λe=>j3)
 ·subst a;rw[Nat.compare_eq_eq.2 rfl];refine bD (λe=>j3) λ_=>bD (λe=>j3) λ_=>⟨by rw[nv,g0 i5,g0 i5],i4⟩
 ·rw[Nat.compare_eq_gt.2 a];refine bD (λe=>j3) λ_=>bD (λ_=>⟨by rw[nv,g0 i5,f9 i5],i4⟩) (λe=>j3)
theorem Qy(m:Int)(h:f8):ab xt 233 #[xi xo m] h λv h'=>v=xm eS/\h'=h:=by refine uY _ ?_;unfold rq;exact⟨jj,i4⟩
theorem abx(m n:Int)(h:f8):ab xt 183 #[xi xo m,xi xo n] h λv h'=>v=xi xo (nv m n)/\h'=h:=by refine se _ _ ?_;unfold nY;refine(Qy m h).mono ?_;rintro v b ⟨rfl,rfl⟩;refine⟨_,i4,(Qy n b).mono ?_⟩;rintro v c ⟨rfl,rfl⟩;refine⟨_,i4,bD (λe=>j3) λ_=>bD (λe=>j3) λ_=>?_⟩;refine ai (λe=>⟨by rw[nv,f9 e],i4⟩) λe=>ai (λa=>⟨by rw[nv,g0 e,f9 a],i4⟩) λa=>⟨by rw[nv,g0 e,g0 a],i4⟩
def Xw(a b:Int):Int:=if a≠0 then a else b
theorem agz(s:Sl)(a b:Int)(h:f8)(f:Rd h s 1 aq [a,b]):ab xt 181 #[s] h λv h'=>v=xi xo (Xw a b)/\h'=h:=by
 refine Du s ?_;unfold AB;have l:s.len=2:=f.len;refine aw (λk:Nat=>(k:Int)) (λk h'=>h'=h/\k<=2/\(1<=k->a=0)/\(2<=k->b=0)) (λk=>2-k) 0 i4 ⟨i4,i5,i5,i5⟩ ?_;rintro k h' ⟨rfl,m,g,j⟩;refine ai (λe=>?_) (λe=>?_)
 ·rcases(show k=0∨k=1 by omega)with rfl|rfl
  ·refine f.bC 0 i4 jj a i4 ?_;refine bQ (λc=>⟨by rw[Xw,f9 c],i4⟩) λc=>?_;exact⟨1,i4,⟨i4,i5,λ_=>c,i5⟩,i5⟩
  ·refine f.bC 1 i4 jj b i4 ?_;have d:=g i5;refine bQ (λc=>⟨by rw[Xw,g0 pb],i4⟩) λc=>?_;exact⟨2,i4,⟨i4,i5,λ_=>d,λ_=>c⟩,i5⟩
 ·have d:=g i5;have i:=j i5;exact⟨by rw[Xw,g0 pb,i],i4⟩
abbrev Fr:=Int×Fin 129
def AO(x:Fr):bc:=[xi xo x.1,.float .f64 (df ((x.2:Nat):Int))]
def AP(x y:Fr):Int:=Xw (nv (x.2:Nat) (y.2:Nat)) (nv x.1 y.1)
theorem Ur(x y:Fr)(h:f8):ab xt 180 #[xn (AO x).toArray,xn (AO y).toArray] h λv h'=>v=xi xo (AP x y)/\aY (λb=>b<h.size) h h':=by
 refine JG (x.1,df ((x.2:Nat):Int)) (y.1,df ((y.2:Nat):Int)) ?_;unfold BS;refine(Sp.refl h).boxed (t:=242) λa i e=>?_;refine e.boxed (t:=242) λb f c=>?_;refine⟨_,(c.box 0 i4).cell (j:=1) i4,_,(c.box 1 i4).cell (j:=1) i4,_,(c.box 0 i4).cell0 i4,_,(c.box 1 i4).cell0 i4,?_⟩;refine(abw x.2 y.2 f x.2.isLt y.2.isLt).mono ?_;rintro v h3 ⟨rfl,rfl⟩;refine⟨_,i4,⟨(c.box 1 i4).cell0 i4,(c.box 0 i4).cell0 i4,trivial⟩,(abx _ _ h3).mono ?_⟩;rintro v k ⟨rfl,rfl⟩;refine⟨_,i4,trivial,?_⟩;refine c.lit ac aq afL i4 [nv (x.2:Nat) (y.2:Nat),nv x.1 y.1] i4 (show 2*1<=2^20 by decide) i4 λs g d=>⟨trivial,?_⟩
 refine(agz s _ _ g (d.seq 2 i4 λ_=>rfl)).mono ?_;rintro v l ⟨rfl,rfl⟩;exact⟨_,i4,trivial,i4,d.ag⟩
theorem Xx{a b:Int}:nv a b<0↔a<b:=by unfold nv;split<;>(try split)<;>omega
theorem Qz{a b:Int}:nv a b=0↔a=b:=by unfold nv;split<;>(try split)<;>omega
theorem afM{x y:Fr}:ltOf AP x y=eR↔((x.2:Nat):Int)<(y.2:Nat)∨(((x.2:Nat):Int)=(y.2:Nat)/\x.1<y.1):=by
 have h0:ltOf AP x y=eR↔AP x y<0:=by simp[ltOf]
 rw[h0,AP,Xw];by_cases h:nv (x.2:Nat) (y.2:Nat)=0
 ·rw[g0 sr,Xx];have:=Qz.1 h;constructor
  ·exactλa=>.inr ⟨this,a⟩
  ·rintro(a|a)
   ·omega
   ·exact a.2
 ·rw[f9 h,Xx];have b:((x.2:Nat):Int)≠(y.2:Nat):=λe=>h (Qz.2 e);constructor
  ·exact .inl
  ·rintro(a|a)
   ·exact a
   ·exact absurd a.1 b
theorem Iu{x y:Fr}:ltOf AP x y=eS↔¬(((x.2:Nat):Int)<(y.2:Nat)∨(((x.2:Nat):Int)=(y.2:Nat)/\x.1<y.1)):=by rw[<-afM];simp
theorem aig:Sort.SWO (ltOf AP) where
 irrefl x:=Iu.2 i5
 trans x y z h1 h2:=by rw[afM]at*;omega
 ntrans x y z h1 h2:=by rw[Iu]at*;omega
theorem aih(x y:Fr)(a:ltOf AP x y=eS)(b:ltOf AP y x=eS):x=y:=by rw[Iu]at a b;refine y5 i5 (Fin.ext i5)
theorem Us{e:TypeId}{s:Sl}{l:List Fr}{h:f8}(m:Own h e s 2 AO l)(a:i0 l<2^40):
  ab xt 179 #[s,.func (.func 180) #[] #[]] h λv h'=>v=.tuple #[]/\Own h' e s 2 AO (l.mergeSort λx y=>!(ltOf AP) y x)/\aY (λb=>¬s.on b) h h':=by
 have i:∀x:Fr,i0 (AO x)=2:=λ_=>rfl;refine Re (P:=xt) (id_:=179) (g:=180) (enc:=AO) (k:=2) (cf:=AP) i ?_ ?_ (λx y h=>Ur x y h) m a
 ·intro fP cap l w d n j f;have:=AnyQ.slices_SortFunc_total Tryz.Xp 2 Tryz.ahG Tryz.ags AO (λ_=>rfl) (λx v c=>by simp[AO]at c;rcases c with rfl|rfl<;>rfl) AP aig 180 #[] fP 0 cap l.toArray w (enters_of Tryz.agt j4 i4) n5 n j o5 aih;simp at this;exact this
 ·intro p cap w;exact AnyF.slices_SortFunc_none Tryz.Xp p cap _ w
def AQ(a:az)(n:Int):az:=if 0<=n/\n<64/\a.contains n=eS then a++[n]else a
def il(l:az):az:=l.foldl AQ []
theorem Cb(l:az){k:Nat}(a:k<i0 l:=by omega):il (l.take (k+1))=AQ (il (l.take k)) l[k]:=by rw[il,aG _ _ a,wC];rfl
theorem Ut(l:az):∀k,k<=i0 l->∀x,x∈il (l.take k)↔x∈l.take k/\0<=x/\x<64
 |0,_,x=>by simp[il]
 |k+1,hk,x=>by
  have c:=Ut l k i5;rw[Cb l,aG _ _ (show k<i0 l by omega),AQ];by_cases h:0<=l[k]/\l[k]<64/\(il (l.take k)).contains l[k]=eS
  ·rw[f9 h,qD,qD,qx,c x];constructor
   ·rintro(a|rfl)
    ·exact⟨.inl a.1,a.2⟩
    ·exact⟨.inr i4,h.1,h.2.1⟩
   ·rintro⟨a|a,b⟩
    ·exact .inl ⟨a,b⟩
    ·exact .inr a
  ·rw[g0 h,qD,qx,c x];constructor
   ·rintro a;exact⟨.inl a.1,a.2⟩
   ·rintro⟨a|rfl,b⟩
    ·exact⟨a,b⟩
    ·have:(il (l.take k)).contains l[k]=eR:=by
      cases hc:(il (l.take k)).contains l[k]with
      |true=>rfl
      |false=>exact absurd ⟨b.1,b.2,hc⟩ h
     exact(c _).1 (by simpa using this)
theorem NA(l:az):∀k,k<=i0 l->(il (l.take k)).Nodup
 |0,_=>by simp[il]
 |k+1,hk=>by
  have c:=NA l k i5;rw[Cb l,AQ];split
  ·rename_i h;rw[List.nodup_append];refine⟨c,jj,λa e b d=>?_⟩;rw[qx.1 d];rintro rfl;have:=h.2.2;rw[List.contains_eq_mem]at this;simp[e]at this
  ·exact c
theorem Uu(l:az)(k:Nat):i0 (il (l.take k))<=k:=by
 induction k with
 |zero=>simp[il]
 |succ k ih=>
  by_cases a:k<i0 l
  ·rw[Cb l a,AQ];split
   ·simp;omega
   ·omega
  ·rw[qi i5]at ih⊢;omega
def ER(c:Nat)(n:Int):Fr:=(n,Fin.ofNat 129 (It n.toNat c).toNat)
theorem aii{c:Nat}{n:Int}(a:c<64)(b:0<=n)(d:n<64):(((ER c n).2:Nat):Int)=It n.toNat c:=by have:=abv (i:=n.toNat) (j:=c) i5 a;show(((It n.toNat c).toNat%129:Nat):Int)=_;omega
def uq(c:Nat)(l:az):az:=(((il l).map (ER c)).mergeSort λx y=>!(ltOf AP) y x).map (·.1)
def cQ(a block:Int)(l:az):az:=if 0<=a/\a<=16777215/\0<=block/\block<8 then uq ((8*a+block)%64).toNat l else[]
def tw(a:az):bc:=(qw 64).map λi:Nat=>xm (a.contains (i:Int))
theorem agA(a:az){n:Int}(b:0<=n)(c:n<64):(tw a)[n.toNat]?=dB (xm (a.contains n)):=by rw[tw,qS,zu i5,qT,show((n.toNat:Nat):Int)=n by omega]
theorem aeg(a:az){n:Int}(c:0<=n)(d:n<64):(tw a).set n.toNat (xm eR)=tw (a++[n]):=by
 apply zO;intro i;rw[zd,tw,tw,qS,qS,qA,zx];by_cases b:i<64
 ·rw[zu b,qT,qT];by_cases h:n.toNat=i
  ·rw[f9 h,f9 i5,show((i:Nat):Int)=n by omega];simp
  ·rw[g0 h];have:(a++[n]).contains (i:Int)=a.contains (i:Int):=by rw[List.contains_eq_mem,List.contains_eq_mem];simp;omega
   rw[this]
 ·rw[g0 i5,qV i9];rfl
abbrev eFr:cj C.toCU 237 242 2 [xi xo 0,.float .f64 0] 16:=⟨_,_,i4,i4,i4,i4,i4,i4⟩
theorem aij:∀x,∀c∈AO x,c.oneCell'=eR:=by intro x c a;simp[AO]at a;rcases a with rfl|rfl<;>rfl
theorem Kt(b block:Int)(live:Sl)(l:az)(h:f8)(T:Rd h live 1 aq l)(ah:i0 l<=2^30:=by omega):
  ab xt 109 #[xi xo b,xi xo block,live] h λv h'=>∃r:Sl,v=r/\Sp h h' [al 3 r 1 aq (cQ b block l)]:=by
 have ad:=T.len;refine MM b block live ?_;unfold FK;have F:¬(0<=b/\b<=16777215/\0<=block/\block<8)->∃r:Sl,Value.slice eH 0 0=xj r.ptr r.len r.cap/\Sp h h [al 3 r 1 aq (cQ b block l)]:=λK=>by
  rw[cQ,g0 K];exact⟨⟨eH,0,0⟩,i4,(Sp.refl h).nil 3 1 aq⟩
 refine bj (ai (λe=>F i5) λe1=>ai (λe=>F i5) λe2=>ai (λe=>F i5) λe3=>ai (λe=>F i5) λe4=>?_);have R:0<=b/\b<=16777215/\0<=block/\block<8:=i5
 rw[cQ,f9 R];rw[ak (8*b),ak (8*b+block),yG i5];obtain⟨c,hc⟩:∃c:Nat,(8*b+block)%64=c:=⟨((8*b+block)%64).toNat,i5⟩
 have j:c<64:=i5
 rw[hc,qm];refine⟨i6,(Xv c h j).mono ?_⟩;rintro v h2 ⟨rfl,R2⟩;refine⟨((lq c).ax,(lq c).ay),i4,?_⟩;refine R2.alloc ac i4 λa h3 H3=>?_;have I:Sp h h3 [ao a 238 (tw []),al 242 ⟨eH,0,0⟩ 2 AO []]:=H3.nil 242 2 AO;refine aw (λt:Sl×Nat=>(t.1,(t.2:Int))) (λt h'=>t.2<=i0 l/\Sp h h' [ao a 238 (tw (il (l.take t.2))),al 242 t.1 2 AO ((il (l.take t.2)).map (ER c))]) (λt=>i0 l-t.2) (⟨eH,0,0⟩,0) i4 ⟨jj,I⟩ ?_;rintro⟨s,k⟩ h4 ⟨hk,q⟩;dsimp only at*;have B:=Uu l k;refine ai (λe=>?_) (λe=>?_)
 ·have w:k<i0 l:=i5
  have G:=Cb l w;obtain⟨f,z⟩:∃f,f=il (l.take k):=⟨_,rfl⟩
  rw[<-z]at q B G;refine(Seq.up T q.ag).bC k i4 w _ i4 ?_;obtain⟨x,hx⟩:∃x,x=l[k]:=⟨_,rfl⟩
  rw[<-hx]at G⊢;refine bY (λt h'=>(t=eR↔0<=x/\x<64/\f.contains x=eS)/\h'=h4) ?_ ?_
  ·refine ai (λm=>ai (λp=>?_) λp=>⟨⟨λe=>j3,λE=>absurd E.2.1 p⟩,i4⟩) λm=>⟨⟨λe=>j3,λE=>absurd E.1 m⟩,i4⟩;refine⟨⟨m,p⟩,f.contains x,?_,?_,i4⟩
   ·rw[wF];exact(q.box 0 i4).cell (agA f m p)
   ·cases f.contains x<;>simp<;>omega
  ·rintro t h5 ⟨U,rfl⟩;refine bD (λe=>?_) (λe=>?_)
   ·obtain⟨m,p,x2⟩:=U.1 e;refine⟨⟨m,p⟩,?_⟩;rw[wF];refine q.storeAt ac 0 i4 i4 i4 i4 i4 (by simp[tw];omega) λO u=>?_;have Q:Sp h O [ao a 238 (tw (f++[x])),al 242 s 2 AO (f.map (ER c))]:=by rw[<-aeg f m p];exact u
    obtain⟨n,K⟩:∃n:Nat,x=n:=⟨x.toNat,i5⟩
    subst K;refine(Xv n O i5).mono ?_;rintro v V ⟨rfl,W⟩;refine⟨((lq n).ax,(lq n).ay),i4,(aef n c V i5 j).mono ?_⟩;rintro v h8 ⟨rfl,rfl⟩;have H:=Q.up W.ag;have ev:df (It n c)=df (((ER c (n:Int)).2:Nat):Int):=by rw[aii j i5 i5,qm]
    refine⟨_,i4,?_⟩;rw[ev];refine H.push ac 1 i4 eFr i4 i6 (λ_=>rfl) aij (ER c (n:Int)) i4 i6 i9 λs' h9 M=>?_;refine⟨(s',k+1),js,⟨i7,?_⟩,i7⟩;dsimp only;rw[G,AQ,f9 ⟨m,p,x2⟩,qU];exact M
   ·refine⟨(s,k+1),js,⟨i7,?_⟩,i7⟩;dsimp only;rw[G,AQ,g0 λE=>by rw[U.2 E]at e;cases e];exact q
 have N:k=i0 l:=i5
 subst N;rw[qW]at q B;refine(Us (q.own 1 i4) i9).mono ?_;rintro v h5 ⟨rfl,P,L⟩;have S:=q.pd 1 i4 L P;obtain⟨d,g⟩:∃d,d=((il l).map (ER c)).mergeSort λx y=>!(ltOf AP) y x:=⟨_,rfl⟩
 have Z:i0 d=i0 (il l):=by rw[g,wO,qA]
 have X:uq c l=d.map (·.1):=by rw[uq,<-g]
 rw[<-g]at S;have Y:=(S.own 1 i4).len;rw[X];refine⟨(),i4,?_⟩;refine aw (λt:Sl×Nat=>(t.1,(t.2:Int))) (λt h'=>t.2<=i0 d/\Sp h h' [al 242 s 2 AO d,al 3 t.1 1 aq ((d.take t.2).map (·.1))]) (λt=>i0 d-t.2) (⟨eH,0,0⟩,0) i4 ⟨jj,(S.del 0).nil 3 1 aq⟩ ?_;rintro⟨o,i⟩ O ⟨J,u⟩;dsimp only at*;refine ai (λe=>?_) (λe=>?_)
 ·have D:i<i0 d:=i5
  refine(u.seq 0 i4 λ_=>rfl).eJ i i4 D (d[i].1,df ((d[i].2:Nat):Int)) i4 ?_;refine u.alloc ac i4 λy V H7=>?_;refine H7.storeAll ac 2 i4 i4 [xi xo d[i].1,.float .f64 (df ((d[i].2:Nat):Int))] i4 i4 i4 i4 λh8 H=>?_;refine⟨d[i].1,(H.box 2 i4).cell0 i4,?_⟩;refine H.push ac 1 i4 afL i4 i6 (λ_=>rfl) fN d[i].1 i4 i6 i9 λo' h9 M=>?_;refine⟨(o',i+1),js,⟨i7,?_⟩,i7⟩;dsimp only;rw[aG _ _ D,qU];exact M.del 2
 ·rw[qi i5]at u;exact⟨o,i4,u.take 1 λi A J=>by cases i with|zero=>exact J|succ i=>simp at J⟩
theorem aeh(l:az)(x:Int):x∈il l↔x∈l/\0<=x/\x<64:=by
 have:=Ut l l.length (qk _) x
 rwa [qW]at this
theorem agB(l:az):(il l).Nodup:=by
 have:=NA l l.length (qk _)
 rwa [qW]at this
theorem ES(c:Nat)(l:az):(uq c l).Perm (il l):=by have h:=(yf ((il l).map (ER c)) λx y=>!(ltOf AP) y x).map (·.1);rw[wD]at h;have e:((λx:Fr=>x.1)∘ER c)=id:=rfl;rw[e,List.map_id]at h;exact h
theorem Iv(c:Nat)(l:az)(x:Int):x∈uq c l↔x∈l/\0<=x/\x<64:=by rw[(ES c l).mem_iff,aeh]
theorem aei(c:Nat)(l:az):(uq c l).Nodup:=(ES c l).nodup_iff.2 (agB l)
def Ju(l:az)(i:Nat):Int:=l.getD i 0
def dU(o:az)(id:Int):Int:=if o=[]∨id<0 then-1 else Ju o (id%(i0 o:Int)).toNat
theorem Xy(s:Sl)(o:az)(id:Int)(h:f8)(g:Rd h s 1 aq o):ab xt 111 #[s,xi xo id] h λv h'=>v=xi xo (dU o id)/\h'=h:=by
 have f:=g.len;refine TE s id ?_;unfold MN;refine bj (de (λe=>⟨by rw[dU,f9 (.inl (q8 i5))],i4⟩) λe=>ai (λd=>⟨by rw[dU,f9 (.inr d)],i4⟩) λd=>?_);refine⟨e,?_⟩;have b:¬(o=[]∨id<0):=by
  rintro(rfl|h2)
  ·simp at f;omega
  ·exact d h2
 have c:wj id ((s.len:Nat):Int)=((id%(i0 o:Int)).toNat:Int):=by rw[yG i5,f];have:=yK id (show(i0 o:Int)≠0 by omega);omega
 have a:(id%(i0 o:Int)).toNat<i0 o:=by have:=wW id (show(0:Int)<i0 o by omega);omega
 rw[c];refine g.bC _ i4 a _ i4 ⟨?_,i4⟩;rw[dU,g0 b,Ju,qe,qd a];rfl
def uI(p:Pm)(seed:Int)(d:Row)(id:Int):ba:=if bW id then fV p.2.2.toNat (dt p seed d) (dw (bE p).toNat seed id)else[]
def lj(m:aE)(o b seed:Int)(d:Row)(id:Int):di:=⟨o,b,id,m.p,seed,uI m.p seed d id⟩
def NB(m:aE)(o b seed:Int)(d:Row)(order:az)(id:Int):Int×ba:=(dU order id,cL (lj m o b seed d id))
def nw(m:aE)(o:Int)(tries:az)(a:cw)(live:az)(i:Nat):List (Int×ba):=
 (qw (m.p.1+m.extra).toNat).map λid:Nat=>NB m o i (ce o i (tries.getD i 0)) (a.getD i []) (cQ o i live) id
def dL(m:aE)(o:Int)(tries:az)(a:cw)(live:az)(n:Nat):List (Int×ba):=(qw n).flatMap (nw m o tries a live)
theorem uJ(m:aE)(o:Int)(tries:az)(a:cw)(live:az)(n:Nat):dL m o tries a live (n+1)=dL m o tries a live n++nw m o tries a live n:=by unfold dL;rw[zQ,zk,zg,zZ,qN]
theorem ET(m:aE)(o:Int)(tries:az)(a:cw)(live:az)(i:Nat):i0 (nw m o tries a live i)=(m.p.1+m.extra).toNat:=by simp[nw]
theorem AR(m:aE)(o:Int)(tries:az)(a:cw)(live:az):∀n,i0 (dL m o tries a live n)=n*(m.p.1+m.extra).toNat
 |0=>by simp[dL]
 |n+1=>by rw[uJ,qy,AR m o tries a live n,ET,zG]
theorem lm(o b t:Int):0<=ce o b t/\ce o b t<4294967296:=by unfold ce;omega
section
variable {B:aB} {h0 h:f8} {As:List HP} {a pw:fz} {offs:Int} {da:List aO} {w:Pow} {ds:aF}
theorem RH(x:ci)(m:aE)(xe:ez)(e:Wl.bM)(s:Sl)(b:ba)(hS:St B h0 As λh=>dG h x m/\dT jC h xe e/\Rd h s 1 aD b)(b7:s.len<=s.cap)(hz:dg m)(P:bB m.p=eR)(d3:0<=m.extra/\m.extra<=16)(d2:b.length<=2^20)
  (ht:cX m.p e.object (splitB m.p b).length=dB e.tries) (H:aa B h0 h (bu bJ a pw (bn x) offs da w ds::As)):
  ab xt 49 #[xk (dB a),Uk xe,s] h λv h'=>∃(r:Sl) (ys:List (Int×Sl)),v=.tuple #[r,xm eR]/\
   aa B h0 h' (bu bJ a pw (bn x) offs da w ds::cW jw 2 piv r ys (dL m e.object e.tries (splitB m.p b) (aR ds m.drives) (splitB m.p b).length)::As):=by
 refine Bd (dB a) xe s ?_;unfold pr;refine H.boxed λM h1 H1=>?_;have H1:=H1.bw;have H1:aa B h0 h1 (bu bJ a pw (bn x) offs da w ds::ao M 94 (bP xe)::As):=H1.aZ 2 [1,0];refine(dJ x m (hS.at [_,_] H1).1 hz H1).mono ?_;rintro _ h2 ⟨lv,rfl,R2⟩;have H2:=(H1.ca R2).aZ 3 [1,0,2];obtain⟨ok,am⟩:=aa.cN H2;obtain⟨cc,d0,cq⟩:=hS.at [_,_,_] H2;have X:(x.2.2.1,x.2.2.2.1,x.2.2.2.2.1)=m.p:=cc.p;have dp:=(bZ m.p).1 P;obtain⟨s1,s2,s3⟩:=lQ P;obtain⟨c1,c2,c3⟩:=mJ P b.length;have br:(aR ds m.drives).length<=m.drives.length:=qR _ _;have c8:=hz.dr;obtain⟨live,a2⟩:∃live,live=aR ds m.drives:=⟨_,rfl⟩
 rw[<-a2]at H2 br⊢;obtain⟨c,G⟩:∃c,c=splitB m.p b:=⟨_,rfl⟩
 have cf:c.length<=2^20:=by rw[G];unfold splitB;simp;omega
 have V:∀r∈c,r.length=dR m.p:=by rw[G];intro r hr;unfold splitB at hr;obtain⟨i,_,rfl⟩:=qt.1 hr;exact Ii _ _ _
 refine⟨lv,i4,a,i4,(x.2.2.1,x.2.2.2.1,x.2.2.2.2.1),⟨by rw[addr_add];exact am.cell i4,by rw[addr_add];exact am.cell i4,by rw[addr_add];exact am.cell i4,trivial⟩,?_⟩;rw[X];refine(VT m.p s b h2 P cq b7 i5).mono ?_;rintro _ h3 ⟨q,rfl,R3⟩;rw[<-G]at R3 ht⊢;obtain⟨rs,H3⟩:=Go.Qw.aa.afJ (H2.ca R3) λ_=>rfl;have H3:=(H3.KL 101 2 piv jw).bw;have H3:aa B h0 h3 (bu bJ a pw (bn x) offs da w ds::cm 101 ⟨eH,0,0⟩ 2 piv jw (dL m e.object e.tries c live 0)::cW (oJ 1 aD) 1 bs q rs c::al 3 lv 1 aq live::ao M 94 (bP xe)::As):=H3.aZ 5 [2,0,1,3,4];have dx:=(H3.fR 2 i4).1.len;have d1:=(H3.fR 2 i4).2.1;have c5:=jc ht;refine⟨q,i4,?_⟩;obtain⟨j,F⟩:∃j:Nat,j=(m.p.1+m.extra).toNat:=⟨_,rfl⟩
 have L:j<=32:=i5
 refine aw (λt:Sl×Nat=>(t.1,(t.2:Int))) (λt h'=>t.2<=c.length/\aa B h0 h' (bu bJ a pw (bn x) offs da w ds::cm 101 t.1 2 piv jw (dL m e.object e.tries c live t.2)::cW (oJ 1 aD) 1 bs q rs c::al 3 lv 1 aq live::ao M 94 (bP xe)::As)) (λt=>c.length-t.2) (⟨eH,0,0⟩,0) i4 ⟨jj,H3⟩ ?_;rintro⟨o,i⟩ h4 ⟨hi,H4⟩;dsimp only at*;refine ai (λe1=>?_) (λe1=>?_)
 ·have ad:i<c.length:=i5
  have F4:=H4.fR 2 i4;have T:=H4.box 4 i4;obtain⟨cs,a9,dy⟩:=hS.at [_,_,_,_,_] H4;obtain⟨_,cl⟩:=aa.cN H4;obtain⟨t,a4,cd⟩:=BY ht i i5;have b5:e.tries.getD i 0=(t:Int):=by rw[qe,qd i5];exact a4
  have bq:c.getD i []=c[i]:=by rw[qe,qd ad];rfl
  have I:∀{h':f8},cv h' M 94 (bP xe)->cellOf h' (M.add 1)=dB (xi xo e.object):=λ{h'} hb=>by rw[<-a9.1.2.1];exact hb.cell i4
  have cp:∀{h':f8},cv h' a 84 (dh (bn x) pw offs da)->an h' (a.add 2) 0 [xi xo m.p.1,xi xo m.p.2.1,xi xo m.p.2.2]:=λ{h'} hb=>by
   rw[<-X];exact⟨j8,j8,j8,trivial⟩
  have a8:=Fix.row F4 ad;refine F4.1.bC i i4 i5 (rs[i]'(by omega)) i4 ?_;refine⟨e.object,I T,xe.2.2.2,T.cell i4,?_⟩;refine Seq.bC (f:=aq) a9.2 i i4 i5 (t:Int) (by rw[a4];rfl) ?_;refine(rC _ _ _ h4).mono ?_;rintro _ _ ⟨rfl,rfl⟩;refine⟨_,i4,⟨T.cell i4,trivial⟩,a,i4,m.p,cp cl,?_⟩;obtain⟨seed,k⟩:∃seed,seed=ce e.object i t:=⟨_,rfl⟩
  have hg:=(Ij cd).2.1;have ap:dK m.p seed (ff m.p)=eR:=by rw[k];exact hg
  obtain⟨K,Hh,w',n,BK⟩:=Yl (seed:=seed) (d:=c[i]) P ap (by rw[V _ (qh ad),s3]);rw[<-k];refine(aif BK (rs[i]'(by omega)) _ a8.1 a8.2).mono ?_;rintro _ h6 ⟨bk,Y,rfl,R6⟩;have H6:=(H4.comp R6).front;have H6:aa B h0 h6 (bu bJ a pw (bn x) offs da w ds::cm 101 o 2 piv jw (dL m e.object e.tries c live i)::cW (oJ 1 aD) 1 bs q rs c::al 3 lv 1 aq live::ao M 94 (bP xe)::fQ 34 Y 1 aD (dt m.p seed c[i])::ao bk 234 (CK m.p seed Y)::As):=H6.aZ 7 [2,3,4,5,6,0,1];refine⟨(dB bk,0),i4,bQ (λe2=>absurd i4 e2) λ_=>?_⟩;have b2:=H6.box 4 i4;refine⟨e.object,I b2,(Kt e.object i lv live h6 (H6.seq 3 i4 λ_=>rfl)).mono ?_⟩;rintro _ h7 ⟨J,rfl,R7⟩;have H7:=(H6.ca R7).aZ 8 [1,2,3,4,5,6,7,0];obtain⟨order,l⟩:∃order,order=cQ e.object i live:=⟨_,rfl⟩
  rw[<-l]at H7;have a7:=(aa.cN H7).2;have b1:x.2.2.1=m.p.1:=congrArg (·.1) X;refine⟨J,i4,a,i4,x.2.2.1,a7.cell i4,a,i4,x.2.2.2.2.2.1,a7.cell i4,?_⟩;have en:qc xo (x.2.2.1+x.2.2.2.2.2.1)=(j:Int):=by rw[b1,cs.extra,ak _];omega
  dsimp only;rw[en];have S:nw m e.object e.tries c live i=(qw j).map λid:Nat=>NB m e.object i seed c[i] order id:=by unfold nw;rw[b5,bq,<-k,<-l,<-F]
  have b4:(nw m e.object e.tries c live i).length=j:=by rw[ET,<-F]
  obtain⟨E,A⟩:∃E,E=dL m e.object e.tries c live i:=⟨_,rfl⟩
  have c7:E.length<=2^26:=by rw[A,AR,<-F];have:=z7 (show i<=2^20 by omega) L;omega
  obtain⟨Q,hQ⟩:∃Q,Q=nw m e.object e.tries c live i:=⟨_,rfl⟩
  rw[<-hQ]at S b4;rw[<-A]at H7;refine aw (λt:Sl×Nat=>(t.1,(t.2:Int))) (λt h'=>t.2<=j/\aa B h0 h' (bu bJ a pw (bn x) offs da w ds::cm 101 t.1 2 piv jw (E++Q.take t.2)::cW (oJ 1 aD) 1 bs q rs c::al 3 lv 1 aq live::ao M 94 (bP xe)::fQ 34 Y 1 aD (dt m.p seed c[i])::ao bk 234 (CK m.p seed Y)::al 3 J 1 aq order::As)) (λt=>j-t.2) (o,0) i4 ⟨jj,by simpa using H7⟩ ?_;rintro⟨o2,id⟩ h8 ⟨hid,R⟩;dsimp only at*;refine ai (λe3=>?_) λe3=>?_
  ·have c4:id<j:=i5
   have ax:=R.box 4 i4;have ay:=(aa.cN R).2;have y:AN h8 bk m.p seed (dt m.p seed c[i]):=⟨Y,R.box 6 i4,R.GH 5 i4⟩
   have O:uI m.p seed c[i] id=if bW id then fV w' (dt m.p seed c[i]) (dw n seed id)else[]:=by unfold uI;rw[BK.pY,show m.p.2.2.toNat=w' by have:=BK.s;omega]
   have held:∀{h':f8},aY (λb=>b<h8.size) h8 h'->av.ok [((a.add 2),xi xo m.p.1),((a.add 2).add 1,xi xo m.p.2.1),((a.add 2).add 2,xi xo m.p.2.2),(M.add 1,xi xo e.object)] h':=λ{h'} P=>by
    obtain⟨q1,q2,q3,_⟩:=cp (ay.ag P ay.lt);exact⟨q1,q2,q3,I (ax.ag P ax.lt),trivial⟩
   refine bY (λ(a6:fz) h'=>∃r:Sl,aa B h0 h' (ao a6 170 (bT (e.object,(i:Int),(id:Int),m.p.1,m.p.2.1,m.p.2.2,seed,r))::al 5 r 1 aD (uI m.p seed c[i] id)::bu bJ a pw (bn x) offs da w ds::cm 101 o2 2 piv jw (E++Q.take id)::cW (oJ 1 aD) 1 bs q rs c::al 3 lv 1 aq live::ao M 94 (bP xe)::fQ 34 Y 1 aD (dt m.p seed c[i])::ao bk 234 (CK m.p seed Y)::al 3 J 1 aq order::As)) ?_ ?_
   ·refine⟨e.object,I ax,a,i4,m.p,cp ay,?_,?_⟩
    ·refine(BK.symbol bk id h8 y).mono ?_;rintro _ h9 ⟨r,rfl,R9⟩;rw[<-O]at R9;have H9:=R.ca R9;refine⟨r,i4,held R9.ag,H9.GK ac i4 λa28 d4 b0 W=>⟨held (aa.up R9 b0).ag,?_⟩⟩;have W:=W.bw;refine W.storeAll ac 0 i4 i4 (bT (e.object,(i:Int),(id:Int),m.p.1,m.p.2.1,m.p.2.2,seed,r)) i4 i4 i4 i4 λdd cn=>⟨trivial,r,cn⟩
    ·refine R.GK ac i4 λdk b6 Z ar=>⟨held Z,?_⟩
     have ar:=ar.bw;refine(BK.symbol bk id b6 (y.up Z)).mono ?_;rintro _ c6 ⟨r,rfl,ah⟩;rw[<-O]at ah;have bb:=(ar.ca ah).aZ 2 [1,0];refine⟨r,i4,held (aa.up (Sp.zip Z) ah.ag).ag,?_⟩;refine bb.storeAll ac 0 i4 i4 (bT (e.object,(i:Int),(id:Int),m.p.1,m.p.2.1,m.p.2.2,seed,r)) i4 i4 i4 i4 λdn cr=>⟨trivial,r,cr⟩
   ·rintro a6 b9 ⟨r,N⟩;have g:=N.box 0 i4;have U:=lm e.object i t;rw[<-k]at U;refine⟨(e.object,(i:Int),(id:Int),m.p.1,m.p.2.1,m.p.2.2,seed,r),g.aS _ i4,(Xy J order id b9 (N.seq 9 i4 λ_=>rfl)).mono ?_⟩;rintro _ c0 ⟨rfl,rfl⟩;refine⟨_,i4,⟨g.cell0 i4,g.cell i4,g.cell i4,g.cell i4,g.cell i4,g.cell i4,g.cell i4,g.cell i4,trivial⟩,?_⟩;refine(tq (e.object,(i:Int),(id:Int),m.p.1,m.p.2.1,m.p.2.2,seed,r) (lj m e.object i seed c[i] id) c0 ⟨⟨i4,i4,i4,i4,i4,U.1,U.2⟩,N.seq 1 i4 λ_=>rfl⟩).mono ?_;rintro _ du ⟨u,rfl,b3⟩;have a5:=(N.ca b3).gg 0 i4 (D:=EA jw (dU order id,u) (NB m e.object i seed c[i] order id)) λz hz=>⟨i4,hz.1.seq (λ_=>rfl) hz.2⟩
    have a3:Q[id]'(by omega)=NB m e.object i seed c[i] order id:=by simp[S]
    refine⟨u,i4,trivial,?_⟩;refine a5.sq ac piv TY i4 [(dU order id,u)] i4 (show 1*2<=2^20 by decide) i4 trivial ?_;refine aa.wd ac a5 4 0 i6 (a:=(dU order id,u)) i4 i4 TY i4 i6 (λ_=>rfl) Pj (parts:=#[(0,xn #[xi xo (dU order id),u])]) j4 i6 i9 λo3 c9 bd=>⟨trivial,?_⟩
    refine⟨(o3,id+1),js,⟨i7,?_⟩,i7⟩;dsimp only;rw[aG Q id,a3,<-qq];exact bd.rest.rest.rest
  ·have a0:id=j:=i5
   subst a0;rw[qi i5]at R;refine⟨(o2,i+1),js,⟨i7,?_⟩,i7⟩;dsimp only;rw[uJ,<-A,<-hQ];exact R.aZ 8 [0,1,2,3,4]
 ·have a0:i=c.length:=i5
  subst a0;obtain⟨ys,H5⟩:=H4.SC 1 rfl λ_=>rfl;exact⟨o,ys,i4,H5.aZ 5 [0,1]⟩
end
end Go.Qw
namespace Wl
open Go
def kP(a:Nat)(l:List (Int×ba))(k:Int):Int:=(a:Int)+i0 (l.filter λy=>decide (y.1=k))
end Wl
namespace Go.Qw
open Go Go.Vc Go.Proofs Wl
theorem aby(k:Int)(d c:fz)(a:Nat)(r:Sl)(o:List (Int×Sl))(l:List (Int×ba))(h:f8)(D:a<=2^30)(E:i0 l<=2^30)(s:cv h d 3 [xi xo a])(u:cv h c 89 [r])(p:ol jw 2 piv h r o l):
  ab xt 51 #[xi xo k,xk (dB d),xk (dB c)] h λv h'=>v=xi xo (kP a l k)/\Sp h h' []:=by
 refine Dh k d c ?_;unfold rX;have z:=p.1.len;have A:=p.2.1;refine⟨(a:Int),s.cell0 i4,r,u.cell0 i4,?_⟩;refine aw (λi:Nat=>(kP a (l.take i) k,(i:Int))) (λi h'=>i<=i0 l/\Sp h h' []) (λi=>i0 l-i) 0 (by simp[kP]) ⟨i5,Sp.refl h⟩ ?_;rintro i F ⟨H,t⟩;dsimp only;have w:(i0 ((l.take i).filter λy=>decide (y.1=k)):Int)<=i:=by have:=qR (λy:Int×ba=>decide (y.1=k)) (l.take i);simp at this;omega
 refine ai (λe=>?_) λe=>?_
 ·have j:i<i0 l:=i5
  have f:=ol.up p t.ag;refine f.1.eJ (g:=piv) i i4 i5 (o[i]'(by omega)) i4 ?_;refine t.alloc ac i4 λx G B=>?_;refine B.storeAll ac 0 i4 i4 (piv (o[i]'(by omega))) i4 i4 i4 i4 λh3 m=>?_;have m:Sp h h3 [ao x 101 (piv (o[i]'(by omega)))]:=m;have n:=Fix.row f j;have b:kP a (l.take (i+1)) k=kP a (l.take i) k+(if l[i].1=k then 1 else 0):=by
   unfold kP;rw[aG _ _ j,zl,qy,zr,va];split
   ·rename_i q;rw[f9 (ii q)];simp;omega
   ·rename_i q;rw[g0 o9];simp
  refine⟨l[i].1,by rw[<-n.1];exact(m.box 0 i4).cell0 i4,de (λg=>?_) λg=>?_⟩
  ·refine⟨i+1,?_,⟨i5,.zip m.ag⟩,i5⟩;rw[b,f9 g,ak (kP a (l.take i) k+1) (by unfold kP;omega) (by unfold kP;omega),ak _];rfl
  ·refine⟨i+1,?_,⟨i5,.zip m.ag⟩,i5⟩;rw[b,g0 g,Int.add_zero,ak _];rfl
 ·rw[qi i5];exact⟨i4,t⟩
def im(m:aE)(offs:Int)(w:Pow)(ds:aF)(name:ByteArray)(b:ba):Int×aE×Pow×aF:=
 if eC m (dY w offs) ds name b.length≠0 then(eC m (dY w offs) ds name b.length,m,w,ds)else
 match cX m.p m.next (splitB m.p b).length with
 |none=>(8,m,w,ds)
 |some t=>
  let live:=aR ds m.drives;let l:=dL m m.next t (splitB m.p b) live (splitB m.p b).length;let n:=eZ m ⟨name,m.next,i0 b,t⟩;let N:=kP (bm n).length l
  if iC m ds live N=eS then(7,m,w,ds)else
  if(makes m N live w ds).1≠0 then((makes m N live w ds).1,m,(makes m N live w ds).2)else
  let a:=layAll l (makes m N live w ds).2.1 (makes m N live w ds).2.2
  if a.1≠0 then(a.1,m,a.2)else
  ((layAll (bt n live) a.2.1 a.2.2).1,if(layAll (bt n live) a.2.1 a.2.2).1=0 then n else m,(layAll (bt n live) a.2.1 a.2.2).2)
theorem ny{m:aE}{d:Bool}{ds:aF}{name:ByteArray}{n:Nat}(h:eC m d ds name n=0):
  d=eS/\ms name=eR/\m.aH.any (jk name)=eS/\¬(m.p.1*m.p.2.2*8<(n:Int)∨12<=i0 m.aH)/\¬(aR ds m.drives=[]∨16777215<m.next∨2147483647<=m.seq):=by
 unfold eC at h;split at h
 ·cases h
 ·rename_i a;split at h
  ·cases h
  ·rename_i b;split at h
   ·cases h
   ·rename_i h3;split at h
    ·cases h
    ·rename_i c;split at h
     ·cases h
     ·rename_i e;exact⟨j9,k0,by simpa using h3,c,e⟩
theorem Jv{m:aE}{b:ba}(a:bB m.p=eR)(h:¬m.p.1*m.p.2.2*8<(i0 b:Int)):i0 (splitB m.p b)<=8:=by obtain⟨d,g,c⟩:=lQ a;obtain⟨f,e,c3⟩:=mJ a b.length;unfold splitB;rw[qA,zx];refine Nat.le_of_not_lt λh8=>?_;have:=c3 8 i5;rw[<-c]at h;omega
theorem aik{o:az}(b:o≠[])(id:Nat):dU o id∈o:=by
 unfold dU Ju;rw[g0 (by rintro(h|h);exact b h;omega)];have c:0<i0 o:=by cases o with|nil=>exact absurd rfl b|cons=>simp
 have a:((id:Int)%(i0 o:Int)).toNat<i0 o:=by have:=wW (id:Int) (show(0:Int)<i0 o by omega);have:=yK (id:Int) (show(i0 o:Int)≠0 by omega);omega
 rw[qe,qd a];exact qh a
theorem Uv{m:aE}{o:Int}{tries:az}{p:cw}{live:az}(s:0<=o/\o<=16777215)(j:live≠[])(f:∀k∈live,0<=k/\k<64){n:Nat}(r:n<=8){y:Int×ba}(c:y∈dL m o tries p live n):y.1∈live/\y.2.length<=64:=by
 unfold dL at c;obtain⟨i,g,c⟩:=zD.1 c;have g:=qE.1 g;unfold nw at c;obtain⟨id,_,rfl⟩:=qt.1 c;refine⟨?_,?_⟩
 ·show dU _ _∈live;have d:cQ o i live=uq ((8*o+i)%64).toNat live:=by unfold cQ;rw[f9 i5]
  have b:∀a,a∈cQ o i live↔a∈live/\0<=a/\a<64:=λa=>by rw[d];exact Iv _ _ _
  have e:cQ o i live≠[]:=λh=>by
   cases live with
   |nil=>exact j i4
   |cons a l=>
    have:=(b a).2 ⟨qH,f a qH⟩;rw[h]at this;cases this
  exact((b _).1 (aik e id)).1
 ·show(cL _).length<=64;unfold cL;split
  ·rename_i q;refine vT (mM i6 i6 ?_);have:=pi q;omega
  ·simp
theorem agC{m:aE}{e:Wl.bM}(b:dg m)(g:m.aH.length<=11)(c:e.name.size<=2^30)(d:e.tries.length<=2^30):dg (eZ m e):=by
 refine⟨b.dr,?_,λf a=>?_⟩
 ·show((m.aH++[e]).mergeSort tf).length<=2^30;rw[wO];simp;omega
 ·have a:f∈(m.aH++[e]).mergeSort tf:=a;rcases qD.1 ((yf _ _).mem_iff.1 a)with h|h
  ·exact b.nm f h
  ·rw[qx.1 h];exact⟨c,d⟩
section
variable {B:aB} {h0 h:f8} {As:List HP} {a pw:fz} {offs:Int} {da:List aO} {w:Pow} {ds:aF}
theorem aej(x:ci)(m:aE)(name:ByteArray)(s:Sl)(b:ba)(hS:St B h0 As λh=>Rd h s 1 aD b)(cq:s.len<=s.cap)(hn:name.size<=2^40)(U:dg m)(hp:bB m.p=eR)(dd:0<=m.extra/\m.extra<=16)(c9:∀k∈m.drives,0<=k/\k<64)(cc:m.drives.length<=64)(c0:0<=m.seq)(a7:0<=m.next)(c7:b.length<=2^20)
  (H:aa B h0 h (bu bJ a pw (bn x) offs da w ds::dF x m::As)):
  ab xt 10 #[xk (dB a),xl name,s] h λv h'=>v=xi xo (im m offs w ds name b).1/\
   ∃y,aa B h0 h' (bu bJ a pw (bn y) offs da (im m offs w ds name b).2.2.1 (im m offs w ds name b).2.2.2::dF y (im m offs w ds name b).2.1::As):=by
 refine Gi (dB a) name s ?_;unfold uP;have ax:=(hS.at [_,_] H).len;refine(Um x m name s b.length ax hn (H.at 1 i4) U hp H).mono ?_;rintro _ h1 ⟨rfl,R1⟩;have H1:=H.up R1.ag;refine⟨_,i4,bQ (λe=>?_) λe1=>?_⟩
 ·have ep:im m offs w ds name b=(eC m (dY w offs) ds name b.length,m,w,ds):=by unfold im;rw[f9 e]
  rw[ep];exact⟨i4,x,H1⟩
 obtain⟨z1,z2,z3,z4,z5⟩:=ny e1;have c1:¬m.p.1*m.p.2.2*8<(b.length:Int):=λh=>z4 (.inl h);have bk:m.aH.length<=11:=by have:¬12<=m.aH.length:=λh=>z4 (.inr h);omega
 have b2:aR ds m.drives≠[]:=λh=>z5 (.inl h);have cn:m.next<=16777215:=by have:¬16777215<m.next:=λh=>z5 (.inr (.inl h));omega
 have ec:m.seq<=2147483646:=by have:¬2147483647<=m.seq:=λh=>z5 (.inr (.inr h));omega
 have h8:=Jv hp c1;have d9:name.size<=12:=by unfold ms at z2;simp at z2;omega
 have dn:=(aa.cN H1).2;have a3:dG h1 x m:=H1.at 1 i4;refine⟨a,i4,x.2.1,dn.cell i4,H1.alloc ac i4 λa4 h2 H2=>?_⟩;have H2:=H2.bw;refine H2.storeAll ac 0 i4 i4 (bP (name,x.2.1,(s.len:Int),⟨eH,0,0⟩)) i4 i4 i4 i4 λh3 H3=>?_;have H3:aa B h0 h3 (ao a4 94 (bP (name,m.next,(b.length:Int),⟨eH,0,0⟩))::bu bJ a pw (bn x) offs da w ds::dF x m::As):=by rw[<-a3.next,<-ax];exact H3
 have cp:∀{h':f8},cv h' a 84 (dh (bn x) pw offs da)->an h' (a.add 2) 0 [xi xo m.p.1,xi xo m.p.2.1,xi xo m.p.2.2]:=λ{h'} hb=>by
  rw[<-a3.p];exact⟨j8,j8,j8,trivial⟩
 obtain⟨nb,M⟩:∃nb,nb=(splitB m.p b).length:=⟨_,rfl⟩
 have b1:countP m.p (s.len:Nat)=(nb:Int):=by have:=(mJ hp b.length).1;rw[M,ax];unfold splitB;rw[qA,zx];omega
 refine bY (λ(t:Sl×Bool) h'=>(cX m.p m.next nb=eH->t.2=eS/\aa B h0 h' (bu bJ a pw (bn x) offs da w ds::dF x m::As))/\(∀l,cX m.p m.next nb=dB l->t.2=eR/\aa B h0 h' (al 3 t.1 1 aq l::ao a4 94 (bP (name,m.next,(b.length:Int),⟨eH,0,0⟩))::bu bJ a pw (bn x) offs da w ds::dF x m::As))) ?_ ?_
 ·have c8:=H3.box 0 i4;have R:=(aa.cN (H3.aZ 3 [1,0,2])).2;refine⟨a,i4,m.p,cp R,m.next,c8.cell i4,a,i4,m.p,cp R,(xD m.p s.len h3).mono ?_⟩;rintro _ h4 ⟨rfl,R4⟩;have H4:=H3.up R4.ag;have c4:=R.ag R4.ag R.lt;obtain⟨q1,q2,q3,_⟩:=cp c4;refine⟨_,i4,⟨(H4.box 0 i4).cell i4,q1,q2,q3,trivial⟩,?_⟩;rw[b1];refine(YM m.p m.next nb h4 i5).mono ?_;rintro _ h5 ⟨T0,T1⟩;cases ht:cX m.p m.next nb with
  |none=>
   obtain⟨rfl,R5⟩:=T0 ht;exact⟨(⟨eH,0,0⟩,eS),i4,trivial,λ_=>⟨i4,(H4.up R5.ag).aZ 3 [1,2]⟩,λl h=>k5⟩
  |some l=>
   obtain⟨r,rfl,R5⟩:=T1 l ht;exact⟨(r,eR),i4,trivial,λh=>k5,λl' h=>(by injection h with h;subst h;exact⟨i4,H4.ca R5⟩)⟩
 rintro⟨j,tb⟩ h6 ⟨T0,T1⟩;dsimp only at T0 T1⊢;cases ht:cX m.p m.next nb with
 |none=>
  obtain⟨rfl,H6⟩:=T0 ht;have ep:im m offs w ds name b=(8,m,w,ds):=by unfold im;rw[g0 n4,<-M,ht]
  rw[ep];exact bh (λ_=>⟨i4,x,H6⟩) λe=>j3
 |some t=>
  obtain⟨rfl,H6⟩:=T1 t ht;refine bh (λe=>j3) λ_=>?_;have d1:=jc ht;refine H6.store ac 1 i4 i4 3 [j] i4 i4 i4 jj λh7 H7=>?_;obtain⟨e,he⟩:∃e:Wl.bM,e=⟨name,m.next,b.length,t⟩:=⟨_,rfl⟩
  have H7:aa B h0 h7 (al 3 j 1 aq e.tries::ao a4 94 (bP (name,m.next,(b.length:Int),j))::bu bJ a pw (bn x) offs da w ds::dF x m::As):=by rw[he];exact H7
  have H7:=H7.aZ 4 [2,3,0,1];have b4:St B h0 (dF x m::al 3 j 1 aq e.tries::ao a4 94 (bP (name,m.next,(b.length:Int),j))::As) λh=>dG h x m/\dT jC h (name,m.next,(b.length:Int),j) e/\Rd h s 1 aD b:=λBs h' i=>
   ⟨(St.fj 0 i4 λ_ q=>q) Bs h' i,(St.fj (A:=al 3 j 1 aq e.tries) (Q:=λh=>dT jC h (name,m.next,(b.length:Int),j) e) 1 i4 λh' q=>⟨by rw[he];exact⟨i4,i4,i4⟩,q.1.seq (λ_=>rfl) q.2⟩) Bs h' i,(hS.cons.cons.cons) Bs h' i⟩
  refine⟨(name,m.next,(b.length:Int),j),(H7.box 3 i4).aS _ i4,?_⟩;refine(RH x m (name,m.next,(b.length:Int),j) e s b b4 cq U hp dd c7 (by rw[he,<-M];exact ht) H7).mono ?_;rintro _ ej ⟨r,ys,rfl,H8⟩;obtain⟨live,c⟩:∃live,live=aR ds m.drives:=⟨_,rfl⟩
  obtain⟨l,hl⟩:∃l,l=dL m m.next t (splitB m.p b) live nb:=⟨_,rfl⟩
  have dr:dL m e.object e.tries (splitB m.p b) (aR ds m.drives) (splitB m.p b).length=l:=by rw[hl,he,<-c,<-M]
  rw[dr]at H8;refine⟨(r,eR),i4,H8.alloc ac i4 λf h9 H9=>?_⟩;have H9:=H9.bw;refine H9.storeAll ac 0 i4 i4 [r] i4 i4 i4 i4 λa0 o=>?_;refine bh (λe=>j3) λ_=>?_;obtain⟨n,V⟩:∃n,n=eZ m e:=⟨_,rfl⟩
  have o:aa B h0 a0 (ao f 89 [r]::bu bJ a pw (bn x) offs da w ds::cW jw 2 piv r ys l::dF x m::al 3 j 1 aq e.tries::ao a4 94 (bP (name,m.next,(b.length:Int),j))::As):=o;have o:aa B h0 a0 (ux j 1 aq e.tries::bu bJ a pw (bn x) offs da w ds::dF x m::cW jw 2 piv r ys l::ao f 89 [r]::ao a4 94 (bP (name,m.next,(b.length:Int),j))::As):=(o.freeze 4 i4 λ_=>rfl).aZ 6 [4,1,3,2,0,5];have c6:((name,m.next,(b.length:Int),j):ez).1=e.name/\((name,m.next,(b.length:Int),j):ez).2.1=e.object/\((name,m.next,(b.length:Int),j):ez).2.2.1=e.length:=by rw[he];exact⟨i4,i4,i4⟩
  have L:∀{h':f8} {Cs:List HP},aa B h0 h' (ux j 1 aq e.tries::Cs)->dG h' x m->ab xt 50 #[gb x,Uk (name,m.next,(b.length:Int),j)] h' λv b5=>∃y:ci,v=gb y/\aa B h0 b5 (dF y n::Cs):=λ{h' Cs} i hx'=>by
   rw[V];exact abo x m _ e hx' U ⟨c0,i5⟩ ⟨a7,i5⟩ bk c6 i
  have K:=(aa.cN (o.aZ 2 [1,0])).2;have O:=o.box 5 i4;have bd:dG a0 x m:=o.at 2 i4;refine bY (λ(t:fz×Sl) h'=>∃y,aa B h0 h' (bu bJ a pw (bn x) offs da w ds::dF x m::cW jw 2 piv r ys l::ao f 89 [r]::ao t.1 44 (bn y)::dF y n::al 3 t.2 1 aq live::As)) ?_ ?_
  ·refine⟨a,i4,x,K.aS _ i4,(name,m.next,(b.length:Int),j),O.aS _ i4,?_,?_⟩
   ·refine(L o bd).mono ?_;rintro _ d7 ⟨y,rfl,G⟩;have G:=G.aZ 6 [1,2,3,4,0];refine⟨y,i4,trivial,?_,?_⟩
    ·refine(dJ x m (G.at 1 i4) U G).mono ?_;rintro _ d8 ⟨I,rfl,a8⟩;rw[<-c]at a8;have cs:=G.ca a8;refine⟨I,i4,trivial,cs.alloc ac i4 λd4 d2 ap=>⟨trivial,?_⟩⟩;have ap:=ap.bw;refine ap.storeAll ac 0 i4 i4 (bn y) i4 i4 i4 i4 λeb du=>⟨trivial,y,?_⟩
     exact du.aZ 7 [2,3,4,5,0,6,1]
    ·refine G.alloc ac i4 λa22 ef Z=>⟨trivial,?_⟩
     have Z:=Z.bw;have ad:=Z.aZ 6 [1,2,3,4,5,0];refine(dJ x m (ad.at 1 i4) U ad).mono ?_;rintro _ eq ⟨I,rfl,bb⟩;rw[<-c]at bb;have c5:=(Z.ca bb).aZ 2 [1,0];refine⟨I,i4,trivial,c5.storeAll ac 0 i4 i4 (bn y) i4 i4 i4 i4 λeg b9=>⟨trivial,y,?_⟩⟩;exact b9.aZ 7 [2,3,4,5,0,6,1]
   ·refine o.GK ac i4 λel ei bl W=>?_;have d:=K.ag bl K.lt;have F:=O.ag bl O.lt;refine⟨⟨F.cell0 i4,F.cell i4,F.cell i4,F.cell i4,d.cell0 i4,d.cell i4,d.cell i4,d.cell i4,d.cell i4,d.cell i4,d.cell i4,d.cell i4,trivial⟩,?_⟩;have W:=(W.bw).aZ 7 [1,0,2,3,4,5];refine(L W (W.at 3 i4)).mono ?_;rintro _ d6 ⟨y,rfl,b3⟩;have J:=b3.aZ 6 [2,3,4,5,0,1];refine⟨y,i4,trivial,(dJ x m (J.at 1 i4) U J).mono ?_⟩;rintro _ d5 ⟨I,rfl,bq⟩;rw[<-c]at bq;have cd:=(J.ca bq).aZ 7 [6,0,1,2,3,4,5];refine⟨I,i4,trivial,cd.storeAll ac 0 i4 i4 (bn y) i4 i4 i4 i4 λeh b7=>⟨trivial,y,?_⟩⟩;exact b7.aZ 7 [2,3,4,5,0,6,1]
  rintro⟨am,I⟩ cr ⟨y,S⟩;dsimp only at S⊢;have ay:dg n:=by rw[V];exact agC U bk (by rw[he];show name.size<=2^30;omega) (by rw[he];show t.length<=2^30;omega)
  have dx:n.drives=m.drives:=by rw[V];rfl
  have d3:live.length<=64:=by rw[c];exact za (qR _ _) cc
  have u:∀k∈live,0<=k/\k<64:=λk hk=>by rw[c]at hk;exact c9 k (qI.1 hk).1
  have b0:(m.p.1+m.extra).toNat<=32:=by have:=(bZ m.p).1 hp;omega
  have d0:l.length<=256:=by rw[hl,AR];exact z7 (show nb<=8 by omega) b0
  have dp:∀z∈l,(0<=z.1/\z.1<64)/\z.2.length<=2^20:=λz a1=>by
   rw[hl]at a1;obtain⟨p1,p2⟩:=Uv (m:=m) ⟨a7,cn⟩ (by rw[c];exact b2) u (show nb<=8 by omega) a1;exact⟨u _ p1,za p2 i6⟩
  refine⟨y,(S.box 4 i4).aS _ i4,(nL y n cr (S.at 5 i4) ay).mono ?_⟩;rintro _ en ⟨pg,rfl,a9⟩;have ah:=(aa.Ef a9).1;have a5:=jU n ay;obtain⟨pn,a6⟩:∃pn,pn=(bm n).length:=⟨_,rfl⟩
  rw[<-a6]at ah a5;have b6:=S.up a9.ag;refine⟨pg,i4,b6.alloc ac i4 λD dy ar=>?_⟩;have ar:=ar.bw;refine ar.storeAll ac 0 i4 i4 [xi xo (pg.len:Int)] i4 i4 i4 i4 λc2 E=>?_;rw[ah]at E;have E:aa B h0 c2 (bu bJ a pw (bn x) offs da w ds::dF x m::cW jw 2 piv r ys l::ao f 89 [r]::ao am 44 (bn y)::dF y n::al 3 I 1 aq live::ao D 3 [xi xo (pn:Int)]::As):=E.aZ 8 [1,2,3,4,5,6,7,0];obtain⟨N,hN⟩:∃N,N=kP pn l:=⟨_,rfl⟩
  obtain⟨T,P⟩:∃T,T=dF x m::cW jw 2 piv r ys l::ao f 89 [r]::ao am 44 (bn y)::dF y n::al 3 I 1 aq live::ao D 3 [xi xo (pn:Int)]::As:=⟨_,rfl⟩
  have tX:St B h0 T λh=>dG h x m:=by rw[P];exact St.fj 0 i4 λ_ q=>q
  have tF:St B h0 T λh=>ol jw 2 piv h r ys l:=by rw[P];exact St.fj 1 i4 λ_ q=>q
  have tB:St B h0 T λh=>cv h f 89 [r]:=by rw[P];exact St.fj (A:=ao f 89 [r]) 2 i4 λ_ q=>q.1
  have tM:St B h0 T λh=>cv h am 44 (bn y):=by rw[P];exact St.fj (A:=ao am 44 (bn y)) 3 i4 λ_ q=>q.1
  have tY:St B h0 T λh=>dG h y n:=by rw[P];exact St.fj 4 i4 λ_ q=>q
  have tL:St B h0 T λh=>Rd h I 1 aq live:=by rw[P];exact St.fj (A:=al 3 I 1 aq live) 5 i4 λ_ q=>q.1.seq (λ_=>rfl) q.2
  have tN:St B h0 T λh=>cv h D 3 [xi xo (pn:Int)]:=by rw[P];exact St.fj (A:=ao D 3 [xi xo (pn:Int)]) 6 i4 λ_ q=>q.1
  have tT:St B h0 T λh=>YQ 51 #[] #[xk (dB D),xk (dB f)] N live h:=λBs h' i k hk=>by
   rw[hN];exact aby k D f pn r ys l h' i5 i5 (tN Bs h' i) (tB Bs h' i) (tF Bs h' i)
  have fin:∀{h':f8} {z:ci} {w':Pow} {ds':aF},aa B h0 h' (bu bJ a pw (bn x) offs da w' ds'::T)->aa B h0 h' (bu bJ a pw (bn x) offs da w' ds'::dF x m::As):=λ{h' z w' ds'} i=>by
   rw[P]at i;exact i.aZ 8 [0,1]
  rw[<-P]at E;have ep:im m offs w ds name b=(if iC m ds live N=eS then(7,m,w,ds)else if(makes m N live w ds).1≠0 then((makes m N live w ds).1,m,(makes m N live w ds).2)else
    if(layAll l (makes m N live w ds).2.1 (makes m N live w ds).2.2).1≠0 then((layAll l (makes m N live w ds).2.1 (makes m N live w ds).2.2).1,m,(layAll l (makes m N live w ds).2.1 (makes m N live w ds).2.2).2)else
    ((layAll (bt n live) (layAll l (makes m N live w ds).2.1 (makes m N live w ds).2.2).2.1 (layAll l (makes m N live w ds).2.1 (makes m N live w ds).2.2).2.2).1,if(layAll (bt n live) (layAll l (makes m N live w ds).2.1 (makes m N live w ds).2.2).2.1 (layAll l (makes m N live w ds).2.1 (makes m N live w ds).2.2).2.2).1=0 then n else m,(layAll (bt n live) (layAll l (makes m N live w ds).2.1 (makes m N live w ds).2.2).2.1 (layAll l (makes m N live w ds).2.1 (makes m N live w ds).2.2).2.2).2)):=by
   rw[hN,a6,hl,V,he,c];unfold im;rw[g0 n4,<-M,ht]
  rw[ep];refine(YR 51 #[] #[xk (dB D),xk (dB f)] N x m I live k8 (λBs h' i=>⟨tX Bs h' i,tT Bs h' i⟩) U (tL.at [_] E) i5 u E).mono ?_;rintro _ ek ⟨rfl,cf⟩;have a2:=E.up cf.ag;refine⟨_,i4,bh (λg=>?_) λg=>?_⟩
  ·rw[f9 g];exact⟨i4,x,fin (z:=x) a2⟩
  rw[g0 (by rw[g];decide)];refine(YT 51 #[] #[xk (dB D),xk (dB f)] N x m I live k8 (λBs h' i=>⟨tX Bs h' i,tT Bs h' i,tL Bs h' i⟩) U i5 u a2).mono ?_;rintro _ ea ⟨rfl,Y⟩;obtain⟨m1,dk⟩:∃m1,m1=makes m N live w ds:=⟨_,rfl⟩
  rw[<-dk]at Y⊢;refine⟨_,i4,bQ (λg2=>?_) λg2=>?_⟩
  ·rw[f9 g2];exact⟨i4,x,fin (z:=x) Y⟩
  rw[g0 (by simpa using g2)];refine⟨r,(tB.at [_] Y).cell0 i4,(BX r ys l tF i5 dp Y).mono ?_⟩;rintro _ eo ⟨rfl,X⟩;obtain⟨r2,cl⟩:∃r2,r2=layAll l m1.2.1 m1.2.2:=⟨_,rfl⟩
  rw[<-cl]at X⊢;refine⟨_,i4,bQ (λg3=>?_) λg3=>?_⟩
  ·rw[f9 g3];exact⟨i4,x,fin (z:=x) X⟩
  rw[g0 (by simpa using g3)];refine⟨y,(tM.at [_] X).aS _ i4,(YW x y n I live (λBs h' i=>⟨tY Bs h' i,tL Bs h' i⟩) ay i5 u X).mono ?_⟩;rintro _ ed ⟨rfl,Q1,Q0⟩;refine⟨_,i4,i4,?_⟩;by_cases g4:(layAll (bt n live) r2.2.1 r2.2.2).1=0
  ·obtain⟨y2,br⟩:=Q0 g4;rw[f9 g4];rw[P]at br;exact⟨y2,br.aZ 9 [0,1]⟩
  ·rw[g0 g4];exact⟨x,fin (z:=x) (Q1 g4)⟩
end
theorem YZ(n:Nat)(x:Int)(h:f8)(j:n<=2^30):ab xt 11 #[xi xo n,xi xo x] h λv h'=>∃(r:Sl) (l:ba),v=r/\l.length=n/\Sp h h' [al 5 r 1 aD l]:=by
 refine Bb n x ?_;unfold po;refine aw (λt:Sl×Nat×ba=>(t.1,(t.2.1:Int))) (λt h'=>t.2.1<=n/\t.2.2.length=t.2.1/\Sp h h' [al 5 t.1 1 aD t.2.2]) (λt=>n-t.2.1) (⟨eH,0,0⟩,0,[]) i4 ⟨jj,i4,(Sp.refl h).nil 5 1 aD⟩ ?_;rintro⟨o,i,l⟩ k ⟨p,d,a⟩;dsimp only at*;refine ai (λe=>?_) λe=>?_
 ·have f:i<n:=i5
  refine⟨i6,Int.tmod_nonneg _ i5,?_⟩;rw[eO];generalize b8 (qc xo _)=c;refine a.push ac 0 i4 gz i4 i6 (λ_=>rfl) gV c i4 i6 i5 λb m g=>?_;refine⟨(b,i+1,l++[c]),js,⟨i7,?_,g⟩,i7⟩;simp[d]
 ·exact⟨o,l,i4,i5,a⟩
end Go.Qw
namespace Go.Vc
open Go Wl Go.Qw
section
variable {α:Type} {B:aB} {h0 h:f8} {As:List HP} {k:Nat} {f:α->bc} {L M:List (Sl×List α)}
theorem aa.aek(H:aa B h0 h (gu k f L::gu k f M::As)):aa B h0 h (gu k f (L++M)::As):=by
 have g:aa B h0 h ((gu k f M).sep (gu k f L)::As):=H.mi;refine g.gg 0 i4 λq ⟨i,j,_,b,c,d,e⟩ y a=>?_;rcases qD.1 a with a|a
 ·exact(e y a).mono c
 ·exact(d y a).mono b
end
end Go.Vc
namespace Wl
open Go
def EU(o b:Int)(a:List di):List (Int×ba):=(a.filter λr=>decide (r.object=o)&&decide (r.block=b)).map λr=>(r.id,r.data)
def AS(m:aE)(o b:Int)(l:cw):List (Int×ba):=((cU m l).filter λr=>decide (r.object=o)&&decide (r.block=b)).map λr=>(r.id,r.data)
def fW(m:aE)(ds:aF)(o b:Int)(k:Int):List (Int×ba):=match aX ds k with|some d=>AS m o b d.l|none=>[]
def dN(m:aE)(ds:aF)(a:az)(o b:Int):List (Int×ba):=a.flatMap (fW m ds o b)
end Wl
namespace Go.Qw
open Go Go.Vc Go.Proofs Wl
abbrev ajj:cj C.toCU 114 117 2 [xi xo 0,xj eH 0 0] 32:=⟨_,_,i4,i4,i4,i4,i4,i4⟩
def Za(pool:List (Sl×ba))(p:(Int×Sl)×(Int×ba)):Prop:=p.1.1=p.2.1/\(p.1.2,p.2.2)∈pool
section
variable {B:aB} {h0 h:f8} {As:List HP} {a pw:fz} {offs:Int} {da:List aO} {w:Pow} {ds:aF} {mc:bc}
theorem AT(x:ci)(m:aE)(s:Sl)(f:az)(o b:Int)(hx:dG h x m)(hz:dg m)(hs:Rd h s 1 aq f)(hl:f.length<=2^10)(hd:∀k∈f,∃d,aX ds k=dB d)(H:aa B h0 h (bu bJ a pw mc offs da w ds::As)):
  ab xt 63 #[.func (.func 35) #[xk (dB a)] #[],s,gb x,xi xo o,xi xo b] h λv h'=>∃(r:Sl) (ys:List (Int×Sl)),v=r/\Sp h h' [cW jw 2 piv r ys (dN m ds f o b)]:=by
 refine Mx (35,#[xk (dB a)],#[]) s x o b ?_;unfold FE;have a9:=hs.len;refine(Sp.refl h).boxed λa1 R H1=>?_;have H1:Sp h R [ao a1 44 (bn x)]:=H1;have H1:Sp h R [al 117 ⟨eH,0,0⟩ 2 piv (([]:List ((Int×Sl)×(Int×ba))).map qM),gu 1 aD [],ao a1 44 (bn x)]:=((H1.Xr 1 aD).nil 117 2 piv).cE [2,0,1];refine aw (λt:Sl×Nat×List ((Int×Sl)×(Int×ba))×List (Sl×ba)=>(t.1,(t.2.1:Int))) (λt h'=>t.2.1<=f.length/\t.2.2.1.length<=t.2.1*512/\t.2.2.1.map zF=dN m ds (f.take t.2.1) o b/\(∀p∈t.2.2.1,Za t.2.2.2 p)/\Sp h h' [al 117 t.1 2 piv (t.2.2.1.map qM),gu 1 aD t.2.2.2,ao a1 44 (bn x)]) (λt=>f.length-t.2.1) (⟨eH,0,0⟩,0,[],[]) i4 ⟨jj,jj,by simp[dN],jj,H1⟩ ?_;rintro⟨u,i,L,P⟩ h2 ⟨hi,b0,M,U,H2⟩;dsimp only at*;refine ai (λe=>?_) λe=>?_
 ·have W:i<f.length:=i5
  refine(Seq.up hs H2.ag).bC i i4 W f[i] i4 (bj ?_);obtain⟨d,F⟩:=hd f[i] (qh W);have Hc:=H.up H2.ag;obtain⟨ok,hb⟩:=aa.cN Hc;have A:=H2.box 2 i4;refine⟨x,A.aS _ i4,fe k8 ?_⟩;refine(mP f[i] ok hb).mono ?_;rintro _ h3 ⟨rfl,rfl⟩;refine⟨_,i4,⟨A.cell0 i4,A.cell i4,A.cell i4,A.cell i4,A.cell i4,A.cell i4,A.cell i4,A.cell i4,trivial⟩,?_⟩;rcases oW ok f[i]with⟨c1,c2⟩|⟨n,d',bb,c0,c1,c2,c3,c4,c5⟩
  ·rw[F]at c1;cases c1
  have ar:d=d':=by rw[c3]at F;injection F with F;exact F.symm
  subst ar;rw[c5];obtain⟨bl,E,H3⟩:=Go.Vc.aa.jT Hc c2;rw[c4]at E;injection E with E
  injection E with E
  subst E;obtain⟨X,sd,bd,am⟩:=aa.tj H3;have a7:=X.len;have a3:=X.room;refine(Ih bb pw d sd bd x m h3 (am.box 0 i4) ((am.aZ 2 [1]).Fs λ_=>rfl) X (hx.up H2.ag) hz).mono ?_;rintro _ h4 ⟨r7,G,rfl,R4⟩;have a5:=me m d.l;obtain⟨c,J⟩:∃c,c=cU m d.l:=⟨_,rfl⟩
  rw[<-J]at R4 a5;have H4:=(H2.ca R4).aZ 4 [1,2,0,3];have F4:=H4.fR 2 i4;have br:=F4.2.1;have a8:=F4.1.len;refine⟨r7,i4,trivial,?_⟩;have ad:fW m ds o b f[i]=EU o b c:=by unfold fW;rw[F];show AS m o b d.l=_;unfold AS EU;rw[J]
  have T:dN m ds (f.take (i+1)) o b=dN m ds (f.take i) o b++EU o b c:=by unfold dN;rw[aG _ _ W,zk,zg,zZ,qN,ad]
  obtain⟨Q,hQ⟩:∃Q:List (Sl×ba),Q=(G.zip c).map λz=>(z.1.2.2.2.2.2.2.2,z.2.data):=⟨_,rfl⟩
  refine aw (λt:Sl×Nat×List ((Int×Sl)×(Int×ba))=>(t.1,(t.2.1:Int))) (λt h'=>t.2.1<=c.length/\t.2.2.length<=L.length+t.2.1/\t.2.2.map zF=dN m ds (f.take i) o b++EU o b (c.take t.2.1)/\(∀p∈t.2.2,Za (P++Q) p)/\Sp h h' [al 117 t.1 2 piv (t.2.2.map qM),gu 1 aD P,cW fv 8 bT r7 G c,ao a1 44 (bn x)]) (λt=>c.length-t.2.1) (u,0,L) i4 ⟨jj,jj,by simp[EU,M],λp O=>⟨(U p O).1,List.mem_append_left _ (U p O).2⟩,H4⟩ ?_;rintro⟨Z,j,L2⟩ h5 ⟨hj,bk,N,Y,H5⟩;dsimp only at*;have F5:=H5.fR 2 i4;refine ai (λe2=>?_) λe2=>?_
  ·have ah:j<c.length:=i5
   have ap:=Fix.row F5 ah;obtain⟨⟨g1,g2,g3,g4,g5,g6,g7⟩,g8⟩:=ap;refine F5.1.eJ (g:=bT) j i4 i5 (G[j]'(by omega)) i4 ?_;refine H5.alloc ac i4 λa4 h6 H6=>?_;refine H6.storeAll ac 4 i4 i4 (bT (G[j]'(by omega))) i4 i4 i4 i4 λh7 V=>?_;have V:Sp h h7 [al 117 Z 2 piv (L2.map qM),gu 1 aD P,cW fv 8 bT r7 G c,ao a1 44 (bn x),ao a4 170 (bT (G[j]'(by omega)))]:=V;have K:=V.box 4 i4;have S:EU o b (c.take (j+1))=EU o b (c.take j)++(if(decide (c[j].object=o)&&decide (c[j].block=b))=eR then[(c[j].id,c[j].data)]else[]):=by unfold EU;rw[aG _ _ ah,zl,qU,zr,va];split<;>rfl
   have skip:(decide (c[j].object=o)&&decide (c[j].block=b))=eS->∃I:Sl×Nat×List ((Int×Sl)×(Int×ba)),((⟨Z.ptr,Z.len,Z.cap⟩:Sl),qc xo ((j:Int)+1))=(I.1,(I.2.1:Int))/\(I.2.1<=c.length/\I.2.2.length<=L.length+I.2.1/\I.2.2.map zF=dN m ds (f.take i) o b++EU o b (c.take I.2.1)/\(∀p∈I.2.2,Za (P++Q) p)/\Sp h h7 [al 117 I.1 2 piv (I.2.2.map qM),gu 1 aD P,cW fv 8 bT r7 G c,ao a1 44 (bn x)])/\c.length-I.2.1<c.length-j:=λhc=>
    ⟨(Z,j+1,L2),js,⟨i7,i7,by dsimp only;rw[S,hc];simpa using N,Y,V.cE [0,1,2,3]⟩,i7⟩
   refine⟨c[j].object,by rw[<-g1];exact K.cell0 i4,de (λq1=>?_) λq1=>skip (by rw[hZ q1];rfl)⟩;refine⟨c[j].block,by rw[<-g2];exact K.cell i4,de (λq2=>?_) λq2=>skip (by rw[hZ q2,Bool.and_false])⟩;refine⟨c[j].id,by rw[<-g3];exact K.cell i4,(G[j]'(by omega)).2.2.2.2.2.2.2,K.cell i4,?_⟩;refine V.push ac 0 i4 ajj i4 i6 (λ_=>rfl) Pj (c[j].id,(G[j]'(by omega)).2.2.2.2.2.2.2) j4 i6 i9 λu3 b1 ay=>?_;refine⟨(u3,j+1,L2++[((c[j].id,(G[j]'(by omega)).2.2.2.2.2.2.2),(c[j].id,c[j].data))]),js,⟨i7,i9,?_,λp O=>?_,?_⟩,i7⟩
   ·dsimp only;rw[qU,N,S,f9 (by rw[g9 q1,g9 q2];rfl),qq];rfl
   ·rcases qD.1 O with O|O
    ·exact Y p O
    ·rw[qx.1 O];refine⟨i4,List.mem_append_right _ ?_⟩;rw[hQ];refine qt.2 ⟨(G[j]'(by omega),c[j]),?_,i4⟩;rw[<-y0 (h:=by simp;omega)];exact qh _
   ·dsimp only;rw[qU];exact ay.cE [0,1,2,3]
  ·have a0:j=c.length:=i5
   subst a0;rw[qW,<-T]at N;have a6:=F5.2.1;have H6:=(H5.gg 2 i4 (D:=gu 1 aD Q) λq hq y hy=>by
    rw[hQ]at hy;obtain⟨z,ax,rfl⟩:=qt.1 hy;obtain⟨k,hk,rfl⟩:=qJ ax;have a2:k<c.length:=by simp at hk;omega
    have:=(Fix.row hq a2).2;rw[y0];exact this).cE [1,2,0,3]
   have V:=aa.aek H6;refine⟨(Z,i+1,L2,P++Q),js,⟨i7,i7,N,Y,V.cE [1,0,2]⟩,i7⟩
 ·rw[qi i5]at M;refine⟨u,L.map qM,i4,?_⟩;have H3:=((H2.freeze 0 i4 λ_=>rfl).cE [1,0]).mi;refine H3.gg 0 i4 λq ⟨q1,q2,_,bq,cq,z1,z2⟩=>?_;refine⟨z1.mono bq,by rw[<-M];simp,λj r e R h2=>?_⟩;rw[<-M]at h2;rw[qS]at R h2;cases hj:L[j]? with
  |none=>rw[hj]at R;cases R
  |some p=>
   rw[hj]at R h2;have e1:=zT.inj (show dB p.1=dB r from R);have e2:=zT.inj (show dB p.2=dB e from h2);subst e1;subst e2;obtain⟨k1,k2⟩:=U p (List.mem_of_getElem? hj);exact⟨k1,(z2 _ k2).mono cq⟩
end
end Go.Qw
namespace Wl
open Go
def cJ(m:aE)(ds:aF)(o b:Int)(live:az):bV:=live.map λk=>(dN m ds [k] o b).map qM
end Wl
namespace Go.Qw
open Go Go.Vc Go.Proofs Wl
abbrev ail:cj C.toCU 51 22 1 [xj eH 0 0] 24:=⟨_,_,i4,i4,i4,i4,i4,i4⟩
section
variable {B:aB} {h0 h:f8} {As:List HP} {a pw:fz} {offs:Int} {da:List aO} {w:Pow} {ds:aF}
theorem agD{k:Int}{l:az}(h:k∈aR ds l):∃d,aX ds k=dB d/\d.lost=eS:=by
 have h:=(qI.1 h).2;unfold isLive at h;cases hd:aX ds k with
 |none=>rw[hd]at h;cases h
 |some d=>rw[hd]at h;exact⟨d,i4,j7⟩
theorem EV(m:aE)(o b:Int)(l:cw):i0 (AS m o b l)<=i0 l:=by unfold AS;rw[qA];exact za (qR _ _) (me m l)
theorem Zb(x:ci)(m:aE)(o b:Int)(X:dG h x m)(V:dg m)(ah:i0 m.drives<=64)(p:∀k d,aX ds k=dB d->i0 d.l<=512)(H:aa B h0 h (bu bJ a pw (bn x) offs da w ds::As)):
  ab xt 18 #[xk (dB a),xi xo o,xi xo b] h λv h'=>∃r:Sl,v=r/\Sp h h' [dQ 22 r 3 1 aq (cJ m ds o b (aR ds m.drives))]:=by
 refine Dd (dB a) o b ?_;unfold rU;refine(dJ x m X V H).mono ?_;rintro _ h1 ⟨n,rfl,O⟩;have R:i0 (aR ds m.drives)<=i0 m.drives:=qR _ _;have z:∀k∈aR ds m.drives,∃d,aX ds k=dB d:=λk N=>by obtain⟨d,h,_⟩:=agD N;exact⟨d,h⟩
 obtain⟨live,f⟩:∃live,live=aR ds m.drives:=⟨_,rfl⟩
 rw[<-f]at O R z⊢;have ad:=(O.own 0 i4).len;refine⟨n,i4,?_⟩;have ax:i0 (cJ m ds o b live)=i0 live:=by simp[cJ]
 have H1:Sp h h1 [dQ 22 ⟨eH,0,0⟩ 3 1 aq ((cJ m ds o b live).take 0),al 3 n 1 aq live]:=O.Aa 22 3 1 aq;refine aw (λt:Sl×Nat=>(t.1,(t.2:Int))) (λt h'=>t.2<=i0 live/\Sp h h' [dQ 22 t.1 3 1 aq ((cJ m ds o b live).take t.2),al 3 n 1 aq live]) (λt=>i0 live-t.2) (⟨eH,0,0⟩,0) i4 ⟨jj,H1⟩ ?_;rintro⟨u,i⟩ h2 ⟨hi,J⟩;dsimp only at*;refine ai (λe=>?_) λe=>?_
 ·have A:i<i0 live:=i5
  refine(J.seq 1 i4 λ_=>rfl).bC i i4 A live[i] i4 ?_;refine J.lit ac aq gm i4 [live[i]] i4 (show 1*1<=2^20 by decide) i4 λq h3 y=>?_;have y:Sp h h3 [dQ 22 u 3 1 aq ((cJ m ds o b live).take i),al 3 n 1 aq live,al 3 q 1 aq [live[i]]]:=y;have Y:=H.up y.ag;have P:=(aa.cN Y).2;refine⟨a,i4,x,P.aS _ i4,?_⟩;obtain⟨d,M⟩:=z live[i] (qh A);refine(AT x m q [live[i]] o b (X.up y.ag) V (y.seq 2 i4 λ_=>rfl) jj (λk N=>by rw[qx.1 N];exact⟨d,M⟩) Y).mono ?_;rintro _ h4 ⟨F,s,rfl,T⟩;obtain⟨S,c⟩:∃S,S=dN m ds [live[i]] o b:=⟨_,rfl⟩
  have Z:i0 S<=512:=by rw[c];unfold dN fW;rw[zg,zZ,qN,M];exact za (EV _ _ _ _) (p _ _ M)
  rw[<-c]at T;have E:=(y.ca T).aZ 4 [1,2,0];have U:=E.fR 2 i4;have ap:=U.2.1;have am:=U.1.len;refine⟨F,i4,?_⟩;have E:Sp h h4 [al 3 ⟨eH,0,0⟩ 1 aq ((S.map qM).take 0),dQ 22 u 3 1 aq ((cJ m ds o b live).take i),al 3 n 1 aq live,cW jw 2 piv F s S]:=(E.nil 3 1 aq).cE [3,0,1,2];refine aw (λt:Sl×Nat=>(t.1,(t.2:Int))) (λt h'=>t.2<=i0 S/\Sp h h' [al 3 t.1 1 aq ((S.map qM).take t.2),dQ 22 u 3 1 aq ((cJ m ds o b live).take i),al 3 n 1 aq live,cW jw 2 piv F s S]) (λt=>i0 S-t.2) (⟨eH,0,0⟩,0) i4 ⟨jj,E⟩ ?_;rintro⟨u2,j⟩ h5 ⟨hj,I⟩;dsimp only at*;have W:=I.fR 3 i4;refine ai (λe2=>?_) λe2=>?_
  ·have Q:j<i0 S:=i5
   have D:=Fix.row W Q;refine W.1.eJ (g:=piv) j i4 i5 (s[j]'(by omega)) i4 ?_;refine I.alloc ac i4 λK h6 H6=>?_;refine H6.storeAll ac 4 i4 i4 (piv (s[j]'(by omega))) i4 i4 i4 i4 λh7 G=>?_;have G:Sp h h7 [al 3 u2 1 aq ((S.map qM).take j),dQ 22 u 3 1 aq ((cJ m ds o b live).take i),al 3 n 1 aq live,cW jw 2 piv F s S,ao K 117 (piv (s[j]'(by omega)))]:=G;refine⟨S[j].1,by rw[<-D.1];exact(G.box 4 i4).cell0 i4,?_⟩;refine G.push ac 0 i4 gm i4 i6 (λ_=>rfl) fN S[j].1 i4 i6 i9 λu3 h9 H9=>?_;refine⟨(u3,j+1),js,⟨i7,?_⟩,i7⟩;dsimp only;rw[aG _ _ (show j<i0 (S.map qM) by simp;omega),wx];exact H9.cE [0,1,2,3]
  ·rw[qi i9]at I;refine(I.aZ 2 [1,0]).Eg ac ail i9 λu3 ar L=>?_;refine⟨(u3,i+1),js,⟨i7,?_⟩,i7⟩;dsimp only;rw[aG _ _ (show i<i0 (cJ m ds o b live) by omega)];have ew:(cJ m ds o b live)[i]'(by omega)=S.map qM:=by simp[cJ,c]
   rw[ew];exact L.cE [0,1]
 ·rw[qi i5]at J;exact⟨u,i4,J.cE [0]⟩
end
end Go.Qw
namespace Wl
open Go
def Pow.calm(w:Pow):Prop:=w.off=eS/\w.fuse=eH
theorem jx:Pow.new.calm:=⟨i4,i4⟩
theorem ur{w:Pow}(h:w.calm):w.step=(eR,w):=by unfold Pow.step;rw[g0 (by simp[h.1]),h.2]
theorem Ku{w:Pow}(h:w.calm)(ds:aF)(x:Int)(b:ba):(fT w ds x b).2.1=w:=by
 unfold fT;cases aX ds x with
 |none=>rfl
 |some d=>
  dsimp only;unfold bo.append;split
  ·rfl
  ·split
   ·rfl
   ·split
    ·rfl
    ·split
     ·rfl
     ·rw[ur h];rfl
theorem QA{w:Pow}(h:w.calm)(ds:aF)(x:Int):(gI w ds x).2.1=w:=by
 unfold gI;cases aX ds x with
 |none=>rfl
 |some d=>
  dsimp only;unfold bo.sync;split
  ·rfl
  ·rw[ur h];rfl
theorem rG{w:Pow}(h:w.calm):∀(l:List (Int×ba)) (ds:aF),(lF l w ds).2.1=w
 |[],_=>rfl
 |x::l,ds=>by
  rw[Ac,Ku h];split
  ·exact rG h l _
  ·exact Ku h _ _ _
theorem EW{w:Pow}(h:w.calm):∀(l:az) (ds:aF),(eW l w ds).2.1=w
 |[],_=>rfl
 |x::l,ds=>by
  rw[wf,QA h];split
  ·exact EW h l _
  ·exact QA h _ _
theorem Uw{w:Pow}(h:w.calm)(l:List (Int×ba))(ds:aF):(layAll l w ds).2.1=w:=by
 unfold layAll;dsimp only;rw[rG h];split
 ·exact EW h _ _
 ·exact rG h _ _
theorem CM{w:Pow}{d:bo}{n:Nat}{b:ba}(h:w.calm)(a:d.lost=eS)(e:i0 d.l+(n+1)<=d.room)(c:i0 b=64):d.append w b=(0,w,{d with l:=d.l++[b],wait:=d.wait+1,laid:=[],has:=eS}):=by unfold bo.append;rw[g0 i5,g0 l7,g0 i5,g0 (by simp[h.1]),ur h];rfl
theorem abz{w:Pow}{d:bo}(h:w.calm)(a:d.lost=eS):d.sync w=(0,w,{d with wait:=0,laid:=[],has:=eS}):=by unfold bo.sync;rw[g0 l7,ur h];rfl
theorem aim{ds:aF}{s:Int}{d:bo}(h:aX ds s=dB d):0<=s/\s<64:=by obtain⟨n,rfl,a⟩:=kO h;omega
def Jw(ds:aF)(P:List (Int×ba))(s:Int):Option bo:=
 (aX ds s).map λd=>{d with l:=d.l++(P.filter λx=>decide (x.1=s)).map zF,wait:=d.wait+i0 (P.filter λx=>decide (x.1=s)),laid:=if(P.filter λx=>decide (x.1=s)).isEmpty then d.laid else[],has:=if(P.filter λx=>decide (x.1=s)).isEmpty then d.has else eS}
theorem Iw{w:Pow}(h:w.calm){S:az}:∀(P:List (Int×ba)) (ds:aF),Fit ds S (P.map qM)->(∀x∈P,x.1∈S/\x.2.length=64)->
  (lF P w ds).1=0/\Fit (lF P w ds).2.2 S []/\∀s,aX (lF P w ds).2.2 s=Jw ds P s
 |[],ds,F,_=>⟨i4,F,λs=>by unfold Jw;show aX ds s=_;cases aX ds s<;>simp⟩
 |x::P,ds,F,hP=>by
  obtain⟨d,f,k,o⟩:=F.at_ x.1 (hP x (qH ..)).1;rw[w7,List.count_cons_self]at o;have j:=(hP x (qH ..)).2;obtain⟨n,i,a⟩:=kO f;have c:=CM (n:=(P.map qM).count x.1) h k i5 j;have e:fT w ds x.1 x.2=(0,w,bS ds x.1 {d with l:=d.l++[x.2],wait:=d.wait+1,laid:=[],has:=eS}):=by unfold fT;rw[f];dsimp only;rw[c]
  obtain⟨_,g⟩:=RF w x.2 (x:=x.1) (Q:=P.map qM) F (hP x (qH ..)).1 j;rw[Ac,e];rw[e]at g;dsimp only at g⊢;rw[f9 rfl];obtain⟨p,q,a3⟩:=Iw h P _ g λy m=>hP y (qC _ m);refine⟨p,q,λs=>?_⟩;rw[a3 s];unfold Jw;rw[i,xU _ _ _ _ a F.len,<-i];by_cases b:s=x.1
  ·rw[f9 b,b,f];simp only[qT,zr,decide_true,if_true,w7,zi,qq,List.singleton_append,List.isEmpty_cons,Bool.false_eq_true,if_false];congr 1;simp only[bo.mk.injEq,true_and,and_true];refine⟨i5,?_,?_⟩<;>split<;>rfl
  ·rw[g0 b];simp only[zr,decide_eq_true_eq,g0 (show¬x.1=s fromλr=>b r.symm)]
theorem EX{w:Pow}(h:w.calm){S:az}:∀(l:az) (ds:aF),Fit ds S []->(∀x∈l,x∈S)->
  (eW l w ds).1=0/\Fit (eW l w ds).2.2 S []/\∀s,aX (eW l w ds).2.2 s=(aX ds s).map λd=>if s∈l then{d with wait:=0,laid:=[],has:=eS}else d
 |[],ds,F,_=>⟨i4,F,λs=>by show aX ds s=_;cases aX ds s<;>simp⟩
 |x::l,ds,F,hl=>by
  obtain⟨d,c,i,o⟩:=F.at_ x (hl x (qH ..));obtain⟨n,g,a⟩:=kO c;have e:gI w ds x=(0,w,bS ds x {d with wait:=0,laid:=[],has:=eS}):=by unfold gI;rw[c];dsimp only;rw[abz h i]
  obtain⟨_,f⟩:=Wa w F (hl x (qH ..));rw[wf,e];rw[e]at f;dsimp only at f⊢;rw[f9 rfl];obtain⟨k,m,a3⟩:=EX h l _ f λy j=>hl y (qC _ j);refine⟨k,m,λs=>?_⟩;rw[a3 s,g,xU _ _ _ _ a F.len,<-g];by_cases b:s=x
  ·subst b;rw[f9 i4,c];simp only[qT,qX,true_or,if_true];congr 1;split<;>rfl
  ·rw[g0 b];cases aX ds s with
   |none=>rfl
   |some d'=>simp[b]
end Wl
namespace Go.Qw
open Go Go.Vc Go.Proofs Wl
section
variable {B:aB} {h0 h h':f8} {As:List HP} {a:fz} {w:Pow}
end
section
variable {B:aB} {h0 h h':f8} {As:List HP} {a pw:fz} {d:bo} {w:Pow}
end
section
variable {B:aB} {h0 h h':f8} {As:List HP}
end
end Go.Qw
namespace Wl
open Go
end Wl
namespace Go.Qw
open Go Go.Vc Go.Proofs Wl
end Go.Qw
namespace Wl
open Go
end Wl
namespace Go.Qw
open Go Go.Vc Go.Proofs Wl
end Go.Qw
namespace Wl
open Go
end Wl
namespace Go.Vc
open Go Wl
end Go.Vc
namespace Go.Qw
open Go Go.Vc Go.Proofs Wl
section
variable {B:aB} {h0 h h':f8} {As:List HP} {a pw:fz} {mc:bc} {offs:Int} {da:List aO} {w:Pow} {ds:aF}
end
section
variable {B:aB} {h0 h h':f8} {As:List HP} {a pw:fz} {mc:bc} {offs:Int} {da:List aO} {w:Pow} {ds:aF}
end
end Go.Qw
namespace Go.Vc
open Go Wl Go.Qw
def sP(p:Pm)(extra:Int)(l:az):Int:=
 if(eU l).2&&(bB p&&fq extra 0 16)then
  if(bp l l.length).any λi=>decide (l.getD i.toNat 0<(i0 (bm (ck p extra l)):Int))then 7 else 0
 else 1
theorem Zc(p:Pm)(extra:Int)(w:Pow)(l:az):gc p extra w l=if sP p extra l=0 then layAll (bt (ck p extra l) (bp l l.length)) w (iA l (bp l l.length).length)else(sP p extra l,w,[]):=by
 unfold gc sP;by_cases h:((eU l).2&&(bB p&&fq extra 0 16))=eR
 ·rw[f9 h,f9 h];by_cases a:((bp l l.length).any λi=>decide (l.getD i.toNat 0<(i0 (bm (ck p extra l)):Int)))=eR
  ·rw[f9 a,f9 a];rfl
  ·rw[g0 a,g0 a];rfl
 ·rw[g0 h,g0 h];rfl
theorem NC{p:Pm}{extra:Int}{l:az}(h:sP p extra l=0):bB p=eR/\0<=extra/\extra<=16/\(eU l).2=eR/\((bp l l.length).any λi=>decide (l.getD i.toNat 0<(i0 (bm (ck p extra l)):Int)))=eS:=by
 unfold sP at h;by_cases a:((eU l).2&&(bB p&&fq extra 0 16))=eR
 ·rw[f9 a]at h;by_cases b:((bp l l.length).any λi=>decide (l.getD i.toNat 0<(i0 (bm (ck p extra l)):Int)))=eR
  ·rw[f9 b]at h;cases h
  ·unfold fq at a;simp only[qz,decide_eq_true_eq]at a;exact⟨a.2.1,a.2.2.1,a.2.2.2,a.1,k0⟩
 ·rw[g0 a]at h;cases h
end Go.Vc
namespace Go.Qw
open Go Go.Vc Go.Proofs Wl
end Go.Qw
namespace Wl
def jD(m:aE)(l:cw):Bool:=bN m&&(bm m).all λp=>decide (p∈l)
end Wl
namespace Go.Qw
open Go Go.Vc Go.Proofs Wl
theorem abA(a:fz)(e:Sl)(p:ba)(l:Sl)(b:Cells)(h:f8)(q:cv h a 34 [e])(u:Rd h e 1 aD p)(m:fO h l 1 aD b)(w:i0 b<=2^30):
  ab xt 97 #[l,.func (.func 98) #[] #[xk (dB a)]] h λv h'=>v=xm (decide (p∈b))/\h'=h:=by
 refine nk l (98,#[],#[xk (dB a)]) ?_;unfold jA;refine(oy l (98,#[],#[xk (dB a)]) (R:=λv h'=>(∃i:Int,v=xi xo i/\(decide (i>=0)=decide (p∈b)))/\h'=h) ?_).mono ?_
 ·unfold kr;have s:=m.len;refine aw (λi:Nat=>(i:Int)) (λi h'=>i<=i0 b/\p∉b.take i/\h'=h) (λi=>i0 b-i) 0 i4 ⟨i5,jj,i4⟩ ?_;rintro i j ⟨n,d,rfl⟩;refine ai (λg=>?_) (λg=>?_)
  ·have c:i<i0 b:=by have t:(i:Int)<(l.len:Int):=g;omega
   refine m.get i i4 c λr o=>fe k8 ?_;refine(Lf r a (R:=λv h'=>v=xm (decide (b[i]=p))/\h'=j) ?_).mono ?_
   ·unfold Dm;refine⟨e,q.cell0 i4,(rz r e b[i] p j o u).mono ?_⟩;rintro _ _ ⟨rfl,rfl⟩;exact⟨_,i4,i4,i4⟩
   ·rintro _ _ ⟨rfl,rfl⟩;refine⟨_,i4,ai (λk=>⟨⟨i,i4,?_⟩,i4⟩) λk=>?_⟩
    ·rw[g9 (show(i:Int)>=0 by omega),g9 (by rw[<-k];exact qh c)]
    ·refine⟨i+1,j1,⟨i5,λf=>?_,i4⟩,i5⟩;rw[aG _ _ c]at f;rcases qD.1 f with f|f
     ·exact d f
     ·exact k (qx.1 f).symm
  ·have t:¬(i:Int)<(l.len:Int):=g;rw[qi i5]at d;exact⟨⟨-1,i4,by rw[hZ d];rfl⟩,i4⟩
 ·rintro _ j ⟨⟨i,rfl,n⟩,rfl⟩;exact⟨i,i4,by rw[n],i4⟩
theorem Zd(a pw:fz)(d:bo)(s b:Sl)(x:ci)(m:aE)(h:f8)(N:cv h a 156 (ga pw d s b))(S:fO h s 1 aD d.l)(ok:gB d)(M:dG h x m)(F:dg m):
  ab xt 34 #[xk (dB a),gb x] h λv h'=>v=xm (jD m d.l)/\Sp h h' []:=by
 refine OJ (dB a) x ?_;unfold Hq;have O:=ok.len;have J:=ok.room;refine(Sp.refl h).boxed λB L w=>?_;have w:Sp h L [ao B 44 (bn x)]:=w;refine⟨x,(w.box 0 i4).aS _ i4,(TR x m L (M.up w.ag) F).mono ?_⟩;rintro _ W ⟨rfl,P⟩;have A:Sp h W [ao B 44 (bn x)]:=w.up P.ag;refine⟨_,i4,bh (λg=>⟨by unfold jD;rw[g];rfl,.zip A.ag⟩) λg=>?_⟩;refine(Lu s b (N.ag A.ag N.lt) (S.up A.ag) ok).mono ?_;rintro _ h3 ⟨q,rfl,V⟩;have G:Sp h h3 [ao B 44 (bn x),fa q d.l]:=A.comp V;refine⟨q,i4,x,(G.box 0 i4).aS _ i4,(nL x m h3 (M.up G.ag) F).mono ?_⟩;rintro _ X ⟨o,rfl,Q⟩;have t:Sp h X [ao B 44 (bn x),fa q d.l,fa o (bm m)]:=G.comp Q;have H:=jU m F;obtain⟨c,n⟩:∃c,c=bm m:=⟨_,rfl⟩
 rw[<-n]at t H;have R:=(aa.Ef (t.aZ 3 [2])).1;refine⟨o,i4,?_⟩;obtain⟨rs,t⟩:=(t.cE [2,1]).YH λ_=>rfl;refine aw (λi:Nat=>(i:Int)) (λi h'=>i<=i0 c/\((c.take i).all λp=>decide (p∈d.l))=eR/\Sp h h' [cW (cu 1 aD) 1 bs o rs c,fa q d.l]) (λi=>i0 c-i) 0 i4 ⟨i5,jj,t⟩ ?_;rintro i h5 ⟨Z,f,z⟩;have U:=(z.fR 0 i4).2.1;refine ai (λe=>?_) (λe=>?_)
 ·have k:i<i0 c:=by have Y:(i:Int)<(o.len:Int):=e;omega
  refine(z.fR 0 i4).1.mS i i4 i5 ?_;obtain⟨r,K⟩:∃r,r=rs[i]'(by omega):=⟨_,rfl⟩
  rw[<-K];refine z.alloc ac i4 λu h6 T=>?_;refine T.storeAll ac 2 i4 i4 [r] i4 i4 i4 i4 λE j=>?_;have j:Sp h E [cW (cu 1 aD) 1 bs o rs c,fa q d.l,ao u 34 [r]]:=j;have y:Rd E r 1 aD c[i]:=by rw[K];exact Fix.row (j.fR 0 i4) k
  have D:=aa.Fs (j.aZ 2 [1]) λ_=>rfl;refine(abA u r c[i] q d.l E (j.box 2 i4) y D i5).mono ?_;rintro _ h8 ⟨rfl,rfl⟩;refine⟨_,i4,bh (λI=>⟨?_,.zip j.ag⟩) λI=>?_⟩
  ·have:jD m d.l=eS:=by unfold jD;rw[g,zJ,<-n];exact yp.2 ⟨c[i],qh k,by rw[I];simp⟩
   rw[this]
  ·refine⟨i+1,j1,⟨i5,?_,j.cE [0,1]⟩,i5⟩;rw[aG _ _ k,List.all_append,f,xb,List.all_nil,I];rfl
 ·have:i=i0 c:=by have Y:¬(i:Int)<(o.len:Int):=e;omega
  subst this;rw[qW]at f;exact⟨by unfold jD;rw[g,<-n,f];rfl,.zip z.ag⟩
end Go.Qw
namespace Go.Vc
open Go Wl Go.Qw
theorem Ux{w:Pow}(h:w.calm){S:az}(P:List (Int×ba))(ds:aF)(F:Fit ds S (P.map qM))(c:∀x∈P,x.1∈S/\x.2.length=64):
  (layAll P w ds).1=0/\Fit (layAll P w ds).2.2 S []/\∀s,aX (layAll P w ds).2.2 s=(Jw ds P s).map λd=>if s∈cA (P.map qM)then{d with wait:=0,laid:=[],has:=eS}else d:=by
 obtain⟨k,l,a3⟩:=Iw h P ds F c;have i:=rG h P ds;unfold layAll;dsimp only;rw[f9 k,i];obtain⟨j,e,f⟩:=EX h (S:=S) (cA (P.map qM)) (lF P w ds).2.2 l λx b=>by
  unfold cA at b;have a:=(qI.1 b).2;obtain⟨y,g,rfl⟩:=qt.1 (ii a);exact(c y g).1
 exact⟨j,e,λs=>by rw[f s,a3 s]⟩
theorem Gd(l:az)(k:Nat):(bp l k).Pairwise (·<·):=by unfold bp;refine List.Pairwise.filter _ (yQ.2 ?_);exact(List.pairwise_lt_range (n:=k)).imp λh=>i5
theorem agE{l:az}{most:Int}(c:l.Pairwise (·<·))(d:∀x∈l,0<=x/\x<=most):pQ l most=eR:=by
 unfold pQ;refine uz λi a=>?_;unfold kd fq;have e:l.getD i 0=l[i]:=by rw[qe,qd a];rfl
 have:=d l[i] (qh a);rw[e,g9 this.1,g9 this.2,zJ,zJ];by_cases h0:i=0
 ·rw[g9 h0];rfl
 ·have b:l.getD (i-1) 0=l[i-1]:=by rw[qe,qd i5];rfl
  rw[b,g9 (List.pairwise_iff_getElem.1 c (i-1) i i5 a i5),Bool.or_true]
theorem LB{p:Pm}{extra:Int}{l:az}(h:i0 l<=64)(c:sP p extra l=0):bN (ck p extra l)=eR:=by
 obtain⟨a,e,h3,_⟩:=NC c;have d:lA (ck p extra l)=eR:=by unfold lA fq ck;simp[a,e,h3]
 have b:pQ (ck p extra l).drives 63=eR:=agE (Gd l l.length) λx f=>by
  obtain⟨n,g,rfl,_⟩:=(AJ l l.length x).1 f;omega
 unfold bN;rw[d,b];rfl
theorem Ge(p:Pm)(extra:Int)(l:az)(b:i0 l<=24):i0 (bm (ck p extra l))<=1:=by
 unfold bm iM;rw[qA,zx];have a:=rD l l.length;have:i0 (gO (ck p extra l))<=19+24:=by
  unfold gO;split
  ·simp only[qy,cB,zi,yh,qA,ck,zZ];omega
  ·simp
 omega
end Go.Vc
namespace Wl
open Go
theorem QB{ds:aF}{k:Int}{d:bo}(h:aX ds k=dB d):bS ds k d=ds:=by
 unfold aX at h;split at h
 ·rename_i c;unfold bS;cases hx:ds[k.toNat]? with
  |none=>rw[hx]at h;cases h
  |some o=>
   rw[hx]at h;have h:o=dB d:=h;subst h;obtain⟨b,a⟩:=qn.1 hx;rw[<-a,List.set_getElem_self]
 ·cases h
end Wl
namespace Go.Vc
open Go Wl Go.Qw
theorem abB(l:List (Int×ba))(k:Int):(l.map qM).count k=i0 (l.filter λy=>decide (y.1=k)):=by
 induction l with
 |nil=>rfl
 |cons y l ih=>
  rw[w7,vP,ih,zr];by_cases h:y.1=k
  ·rw[f9 (g9 h),f9 j7];rfl
  ·rw[g0 j7,g0 j7];rfl
theorem Ix(n:aE)(k:Int):∀{live:az},live.Nodup->k∈live->((bt n live).filter λy=>decide (y.1=k)).map zF=bm n
 |[],_,hk=>by cases hk
 |x::live,hnd,hk=>by
  have e:bt n (x::live)=(bm n).map (λc=>(x,c))++bt n live:=by unfold bt;rw[zg]
  obtain⟨j,b⟩:=yg.1 hnd;rw[e,zl,qU];by_cases a:x=k
  ·subst a;have f:((bm n).map λc=>(x,c)).filter (λy=>decide (y.1=x))=(bm n).map (λc=>(x,c)):=List.filter_eq_self.2 λy d=>by
    obtain⟨c,_,rfl⟩:=qt.1 d;exact g9 i4
   have i:(bt n live).filter (λy=>decide (y.1=x))=[]:=wo.2 λy d=>by
    have:=(jb d).1;have g:y.1≠x:=λh=>j (h▸this);simpa using g
   rw[f,i,vF,qN,wD];exact List.map_id _
  ·have f:((bm n).map λc=>(x,c)).filter (λy=>decide (y.1=k))=[]:=wo.2 λy d=>by
    obtain⟨c,_,rfl⟩:=qt.1 d;simpa using a
   rw[f,vF,List.nil_append];rcases qX.1 hk with h|h
   ·exact absurd h.symm a
   ·exact Ix n k b h
end Go.Vc
namespace Go.Qw
open Go Go.Vc Go.Proofs Wl
theorem agF{p:Pm}{seed:Int}{d:Row}{K H w n:Nat}(B:co p seed d K H w n)(id:Int):uI p seed d id=if bW id then fV w (dt p seed d) (dw n seed id)else[]:=by unfold uI;rw[B.pY,show p.2.2.toNat=w by have:=B.s;omega]
theorem Uy{m:aE}{o i seed:Int}{d:Row}{id:Int}{K H w n:Nat}(B:co m.p seed d K H w n)(b:0<=o/\o<=16777215)(c:0<=i/\i<=7)(hid:0<=id/\id<=65535):jv (lj m o i seed d id)=eR:=by
 rw[kX];refine⟨b,c,hid,B.may,?_⟩;have a:bW id=eR:=by unfold bW;rw[g9 hid.1,g9 hid.2];rfl
 show(i0 (uI m.p seed d id):Int)=m.p.2.2;rw[agF B id,f9 a,B.aav id,B.s]
def sQ(m:aE)(o:Int)(tries:az)(a:cw)(live:az)(k:Int)(i:Nat):List di:=
 ((qw (m.p.1+m.extra).toNat).filter λid=>decide (dU (cQ o i live) (id:Nat)=k)).map λid:Nat=>lj m o i (ce o i (tries.getD i 0)) (a.getD i []) id
def iU(m:aE)(o:Int)(tries:az)(a:cw)(live:az)(k:Int)(n:Nat):List di:=(qw n).flatMap (sQ m o tries a live k)
theorem Uz(m:aE)(o:Int)(tries:az)(a:cw)(live:az)(k:Int)(n:Nat):iU m o tries a live k (n+1)=iU m o tries a live k n++sQ m o tries a live k n:=by unfold iU;rw[zQ,zk,zg,zZ,qN]
theorem Iy(m:aE)(o:Int)(tries:az)(a:cw)(live:az)(k:Int)(i:Nat):((nw m o tries a live i).filter λy=>decide (y.1=k)).map zF=(sQ m o tries a live k i).map cL:=by unfold nw sQ;rw[List.filter_map,wD,wD];rfl
theorem Gg(m:aE)(o:Int)(tries:az)(a:cw)(live:az)(k:Int):∀n,((dL m o tries a live n).filter λy=>decide (y.1=k)).map zF=(iU m o tries a live k n).map cL
 |0=>by simp[dL,iU]
 |n+1=>by rw[uJ,Uz,zl,qU,qU,Gg m o tries a live k n,Iy]
theorem Ze{m:aE}{o:Int}{tries:az}{a:cw}{live:az}{k:Int}{i:Nat}{r:di}(h:r∈sQ m o tries a live k i):∃id:Nat,r=lj m o i (ce o i (tries.getD i 0)) (a.getD i []) id/\id<(m.p.1+m.extra).toNat:=by unfold sQ at h;obtain⟨id,b,rfl⟩:=qt.1 h;exact⟨id,i4,qE.1 (qI.1 b).1⟩
theorem Zf{m:aE}{o:Int}{tries:az}{a:cw}{live:az}{k:Int}{n:Nat}{r:di}(h:r∈iU m o tries a live k n):∃(i id:Nat),r=lj m o i (ce o i (tries.getD i 0)) (a.getD i []) id/\i<n/\id<(m.p.1+m.extra).toNat:=by unfold iU at h;obtain⟨i,d,b⟩:=zD.1 h;obtain⟨id,c,h3⟩:=Ze b;exact⟨i,id,c,qE.1 d,h3⟩
end Go.Qw
namespace Wl
open Go
def cZ(m:aE)(d:bo)(n:Int):bo:=if iB d d.l.length n then d else{d with l:=bO m d.l,wait:=0,laid:=[],has:=eS}
theorem Zg{m:aE}{r:di}(h:fB m r=eR):jv r=eR:=by unfold fB at h;simp only[qz]at h;exact h.1
theorem ael{l:List di}{r:di}(h:r∈pT l):r∈l:=by unfold pT at h;obtain⟨i,a,rfl⟩:=qt.1 h;have a:=qE.1 (qI.1 a).1;rw[qe,qd a];exact qh a
theorem Zh{m:aE}{c:ba}{r:di}(h:jo m c=dB r):eF c=dB r/\fB m r=eR:=by
 unfold jo at h;cases hc:eF c with
 |none=>rw[hc]at h;cases h
 |some x=>
  rw[hc]at h;dsimp only at h;by_cases a:fB m x=eR
  ·rw[f9 a]at h;injection h with h;subst h;exact⟨i4,a⟩
  ·rw[g0 a]at h;cases h
theorem xG{m:aE}{l:cw}{r:di}(h:r∈cU m l):∃c∈l,eF c=dB r/\fB m r=eR:=by have h:=yF.1 (ael h);obtain⟨c,a,b⟩:=List.mem_filterMap.1 h;exact⟨c,a,Zh b⟩
theorem rH(m:aE)(l:cw):∀c∈bO m l,i0 c=64:=λc d=>by
 rcases qD.1 d with h|h
 ·exact ww h
 ·obtain⟨r,a,rfl⟩:=qt.1 h;obtain⟨_,_,_,b⟩:=xG a;exact Ek (Zg b)
theorem AU{w:Pow}(a:w.calm){d:bo}{l:cw}(f:∀c∈l,i0 c=64)(e:d.lost=eS)(h:i0 l<=d.room):d.rewrite w l=(0,w,{d with l:=l,wait:=0,laid:=[],has:=eS}):=by unfold bo.rewrite;have:l.all (λb=>decide (i0 b=64))=eR:=qL.2 λc g=>g9 (f c g);rw[g0 (by simp[this]),g0 pt,g0 i5,g0 (by simp[a.1]),ur a];rfl
theorem EY{w:Pow}(e:w.calm){m:aE}{d:bo}{n:Int}(h:fy m d n=eR):gd m w d n=(0,w,cZ m d n):=by
 have h0:=h;unfold fy at h;rw[qz,we,wL]at h;obtain⟨c,b⟩:=h;unfold gd cZ;rw[g0 mn,g0 (by simp[h0])];by_cases a:iB d d.l.length n=eR
 ·rw[f9 a,f9 a]
 ·rw[g0 a,g0 a];have h3:iB d (bO m d.l).length n=eR:=by
   rcases b with b|b
   ·exact absurd b a
   ·exact b
  unfold iB at h3;rw[decide_eq_true_eq]at h3;exact AU e (rH m d.l) c i5
theorem UA(m:aE)(ds:aF)(k:Int)(l:az)(N:Int->Int):iC m ds (k::l) N=(oC m ds k (N k)&&iC m ds l N):=xb
theorem Kv{m:aE}{ds:aF}{k n:Int}(h:oC m ds k n=eR):∃d,aX ds k=dB d/\fy m d n=eR:=by
 unfold oC at h;cases hd:aX ds k with
 |none=>rw[hd]at h;cases h
 |some d=>rw[hd]at h;exact⟨d,i4,h⟩
theorem sS(ds:aF)(k:Int)(d:bo):i0 (bS ds k d)=i0 ds:=by unfold bS;simp
theorem io{ds:aF}{k:Int}{e d:bo}(a:i0 ds=64)(c:aX ds k=dB e)(s:Int):aX (bS ds k d) s=if s=k then dB d else aX ds s:=by obtain⟨n,rfl,b⟩:=kO c;exact xU ds n d s b a
theorem RI{m:aE}{ds ds':aF}{l:az}{N:Int->Int}(h:∀k∈l,aX ds k=aX ds' k):iC m ds l N=iC m ds' l N:=by unfold iC;rw[Bool.eq_iff_iff,qL,qL];refine forall_congr' λk=>forall_congr' λa=>?_;unfold oC;rw[h k a]
theorem ND{w:Pow}(j:w.calm){m:aE}{N:Int->Int}:∀{live:az} {ds:aF},live.Nodup->i0 ds=64->iC m ds live N=eR->
  ∃ds',makes m N live w ds=(0,w,ds')/\ds'.length=64/\∀k,aX ds' k=(aX ds k).map λd=>if k∈live then cZ m d (N k)else d
 |[],ds,_,h64,_=>⟨ds,i4,h64,λk=>by cases aX ds k<;>simp⟩
 |k::live,ds,hnd,h64,hf=>by
  rw[UA,qz]at hf;obtain⟨a,f⟩:=yg.1 hnd;obtain⟨d,g,i⟩:=Kv hf.1;have e:ji m w ds k (N k)=(0,w,bS ds k (cZ m d (N k))):=by unfold ji;rw[g];dsimp only;rw[EY j i]
  have b:=io (d:=cZ m d (N k)) h64 g;have h:iC m (bS ds k (cZ m d (N k))) live N=eR:=by
   rw[<-RI (ds:=ds) λs c=>?_]
   ·exact hf.2
   ·rw[b,g0 λo:s=k=>a (o▸c)]
  obtain⟨ds',l,n,h3⟩:=ND j f (by rw[sS];exact h64) h;refine⟨ds',?_,n,λs=>?_⟩
  ·show(if(ji m w ds k (N k)).1=0 then makes m N live (ji m w ds k (N k)).2.1 (ji m w ds k (N k)).2.2 else ji m w ds k (N k))=_;rw[e];exact l
  ·rw[h3 s,b];by_cases c:s=k
   ·subst c;rw[f9 i4,g];simp[a]
   ·rw[g0 c];simp[c]
theorem xH{m:aE}{d:bo}{n:Int}(h:fy m d n=eR):(cZ m d n).lost=eS/\(cZ m d n).room=d.room/\((cZ m d n).l.length:Int)+max n 0<=d.room:=by
 unfold fy at h;rw[qz,we,wL]at h;obtain⟨c,b⟩:=h;unfold cZ;by_cases a:iB d d.l.length n=eR
 ·rw[f9 a];unfold iB at a;rw[decide_eq_true_eq]at a;exact⟨c,i4,i5⟩
 ·rw[g0 a];have h3:iB d (bO m d.l).length n=eR:=by
   rcases b with b|b
   ·exact absurd b a
   ·exact b
  unfold iB at h3;rw[decide_eq_true_eq]at h3;exact⟨c,i4,i7⟩
theorem Wf(a:ByteArray):ft a a=eS:=aam _
theorem abC{a b:ByteArray}(h:ke a b=eR)(c:a≠b):ft a b=eR:=by
 rcases(Mi a b).1 h with h|h
 ·exact h
 ·exact absurd (Ep h) c
theorem Iz{a b:ByteArray}(h:ft a b=eR):a≠b:=λe=>by subst e;rw[Wf]at h;cases h
theorem ain:Ord tf:=⟨λa b c d e=>GU _ _ _ d e,λa b=>GV _ _⟩
theorem EZ{m:aE}{x e:bM}:e∈(eZ m x).aH↔e∈m.aH∨e=x:=by show e∈(m.aH++[x]).mergeSort tf↔_;rw[yF];simp
end Wl
namespace Go.Qw
open Go Go.Vc Go.Proofs Wl
theorem abD{name:ByteArray}{l:List Wl.bM}(h:l.any (jk name)=eS):∀e∈l,e.name≠name:=λe b a=>by
 have:=wi.1 h e b;unfold jk at this;rw[a]at this;simp at this
theorem abE{m:aE}{x:Wl.bM}(G:bN m=eR)(d:ms x.name=eR)(j:∀e∈m.aH,e.name≠x.name)(l:x.object=m.next)(N:m.aH.length<=11)(J:m.next<=16777215)(I:m.seq<=2147483646)
  (i:0<=x.length/\x.length<=m.p.1*m.p.2.2*8) (E:∀t∈x.tries,0<=t/\t<=15) (w:(x.tries.length:Int)=countP m.p x.length):bN (eZ m x)=eR:=by
 obtain⟨z,F,h3,K,s,H,y⟩:=(cF m).1 G;obtain⟨L,M,a3,a4⟩:=(fg m).1 z;have c:(eZ m x).aH.Perm (m.aH++[x]):=yf _ _;have k:∀e∈m.aH,e.object<m.next:=λe n=>((iR m e).1 (s e n)).2.1.2;refine(cF _).2 ⟨(fg _).2 ⟨⟨?_,?_⟩,⟨?_,?_⟩,a3,a4⟩,F,h3,?_,λe n=>?_,?_,?_⟩
 ·show 1<=m.seq+1;omega
 ·show m.seq+1<=_;omega
 ·show 0<=m.next+1;omega
 ·show m.next+1<=_;omega
 ·rw[c.length_eq];simp;omega
 ·rcases EZ.1 n with n|rfl
  ·obtain⟨D,v,A,u,B⟩:=(iR m e).1 (s e n);exact(iR _ e).2 ⟨D,⟨v.1,by show _<m.next+1;omega⟩,A,u,B⟩
  ·exact(iR _ _).2 ⟨d,⟨i5,by show _<m.next+1;omega⟩,i,E,w⟩
 ·have f:(m.aH++[x]).Pairwise (λa b:Wl.bM=>a.name≠b.name):=wZ.2 ⟨H.imp λh=>Iz h,List.pairwise_singleton _ _,λa q b r=>by rw[qx.1 r];exact j a q⟩;have g:=(c.pairwise_iff (R:=λa b:Wl.bM=>a.name≠b.name) λ{a b} h=>Ne.symm h).2 f;have o:(eZ m x).aH.Pairwise (λa b=>tf a b=eR):=(GR ain (m.aH++[x])).1;exact(o.and g).imp λh=>abC h.1 h.2
 ·have f:(m.aH++[x]).Pairwise (λa b:Wl.bM=>a.object≠b.object):=wZ.2 ⟨y,List.pairwise_singleton _ _,λa q b r=>by rw[qx.1 r,l];have:=k a q;omega⟩;exact(c.pairwise_iff (R:=λa b:Wl.bM=>a.object≠b.object) λ{a b} h=>Ne.symm h).2 f
theorem Wg{p:Pm}{o:Int}{n:Nat}{t:az}(h:cX p o n=dB t):∀x∈t,0<=x/\x<=15:=λx c=>by
 obtain⟨i,d,rfl⟩:=qJ c;obtain⟨k,b,a⟩:=BY h i d;have:=(Ij a).1;rw[b];omega
theorem IA{p:Pm}(a:bB p=eR)(b:ba):(i0 (splitB p b):Int)=countP p b.length:=by have:=(mJ a b.length).1;unfold splitB;rw[qA,zx];omega
theorem aem{m:aE}{d:Bool}{ds:aF}{name:ByteArray}{b:ba}{t:az}(g:bN m=eR)(j:eC m d ds name b.length=0)(f:cX m.p m.next (splitB m.p b).length=dB t):bN (eZ m ⟨name,m.next,i0 b,t⟩)=eR:=by
 obtain⟨n,l,z3,z4,z5⟩:=ny j;have k:¬m.p.1*m.p.2.2*8<(i0 b:Int):=λh=>z4 (.inl h);have a:i0 m.aH<=11:=by have:¬12<=i0 m.aH:=λh=>z4 (.inr h);omega
 have c:m.next<=16777215:=by have:¬16777215<m.next:=λh=>z5 (.inr (.inl h));omega
 have e:m.seq<=2147483646:=by have:¬2147483647<=m.seq:=λh=>z5 (.inr (.inr h));omega
 have i:=((fg m).1 ((cF m).1 g).1).2.2.1;refine abE g l (abD z3) i4 a c e ⟨by show 0<=(i0 b:Int);omega,by show(i0 b:Int)<=_;omega⟩ (Wg f) ?_;show(i0 t:Int)=countP m.p b.length;rw[jc f,IA i]
end Go.Qw
namespace Wl
open Go
def gv(a:cw)(d:bo):bo:=if a.isEmpty then d else{d with l:=d.l++a,wait:=0,laid:=[],has:=eS}
def lR(P:List (Int×ba))(s:Int):cw:=(P.filter λx=>decide (x.1=s)).map zF
theorem UB{P:List (Int×ba)}{s:Int}(h:∀x∈P,x.1≠s):lR P s=[]:=by unfold lR;rw[wo.2 λx a=>by simpa using h x a];rfl
theorem UC(P:List (Int×ba))(s:Int):i0 (lR P s)=(P.map qM).count s:=by unfold lR;rw[qA];exact(Go.Vc.abB P s).symm
theorem tz{l:az}{s:Int}(h:0<=s/\s<64):s∈cA l↔s∈l:=by unfold cA;rw[qI,decide_eq_true_eq];refine⟨λh=>h.2,λh'=>⟨?_,h'⟩⟩;exact qt.2 ⟨s.toNat,qE.2 i5,i5⟩
theorem UD{w:Pow}(m:w.calm){ds:aF}{P:List (Int×ba)}(g:i0 ds=64)
  (a:∀x∈P,i0 x.2=64/\∃d,aX ds x.1=dB d/\d.lost=eS/\d.l.length+i0 (lR P x.1)<=d.room):
  ∃ds',layAll P w ds=(0,w,ds')/\ds'.length=64/\∀s,aX ds' s=(aX ds s).map (gv (lR P s)):=by
 have F:Fit ds (P.map qM) (P.map qM):=⟨g,λk p=>by
  obtain⟨x,f,rfl⟩:=qt.1 p;obtain⟨_,d,i,j,h3⟩:=a x f;rw[UC]at h3;exact⟨d,i,j,h3⟩⟩
 obtain⟨q,r,a3⟩:=Go.Vc.Ux m P ds F λx f=>⟨qt.2 ⟨x,f,rfl⟩,(a x f).1⟩
 refine⟨(layAll P w ds).2.2,?_,r.len,λs=>?_⟩
 ·have j:=Uw m P ds;exact y5 q (y5 j i4)
 ·rw[a3 s];unfold Jw;cases hd:aX ds s with
  |none=>rfl
  |some d=>
   obtain⟨c,e⟩:=aim hd;rw[qT,qT,qT];congr 1;unfold gv;have n:s∈P.map qM↔(lR P s).isEmpty=eS:=by rw[<-List.count_pos_iff,<-UC];cases hc:lR P s<;>simp
   by_cases b:(lR P s).isEmpty=eR
   ·have h0:lR P s=[]:=List.isEmpty_iff.1 b;have i:(P.filter λx=>decide (x.1=s))=[]:=List.map_eq_nil_iff.1 h0;rw[g0 (λh=>by rw[tz ⟨c,e⟩,n]at h;rw[h]at b;cases b),f9 b,i];simp
   ·have o:(lR P s).isEmpty=eS:=k0
    rw[f9 ((tz ⟨c,e⟩).2 (n.2 o)),g0 b];rfl
end Wl
namespace Go.Qw
open Go Go.Vc Go.Proofs Wl
theorem Cc{n:aE}{live:az}(a:live.Nodup)(s:Int):lR (bt n live) s=if s∈live then bm n else[]:=by
 by_cases h:s∈live
 ·rw[f9 h];exact Ix n s a h
 ·rw[g0 h];exact UB λx c b=>h (b▸(jb c).1)
theorem LC(m:aE)(o:Int)(tries:az)(a:cw)(live:az)(k:Int)(n:Nat):lR (dL m o tries a live n) k=(iU m o tries a live k n).map cL:=Gg m o tries a live k n
theorem UE{m:aE}(h:bN m=eR):bm m≠[]:=by unfold bm iM gO;rw[f9 h];intro e;have:=congrArg vA e;simp[cB]at this;omega
theorem nz{ds:aF}{l:az}(h:l.Nodup):(aR ds l).Nodup:=h.filter _
theorem gH{ds:aF}{l:az}{k:Int}(h:k∈aR ds l):k∈l/\∃d,aX ds k=dB d/\d.lost=eS:=by
 obtain⟨b,a⟩:=qI.1 h;unfold isLive at a;cases hd:aX ds k with
 |none=>rw[hd]at a;cases a
 |some d=>rw[hd]at a;exact⟨b,d,i4,j9⟩
theorem UF{ds:aF}{l:az}{k:Int}:k∈aR ds l↔k∈l/\∃d,aX ds k=dB d/\d.lost=eS:=by refine⟨gH,λ⟨h1,d,h2,h3⟩=>qI.2 ⟨h1,?_⟩⟩;unfold isLive;rw[h2];simp[h3]
theorem NE(a:cw)(d:bo):(gv a d).l=d.l++a:=by
 unfold gv;by_cases h:a.isEmpty=eR
 ·rw[f9 h,List.isEmpty_iff.1 h,qN]
 ·rw[g0 h]
theorem ut(a:cw)(d:bo):(gv a d).lost=d.lost/\(gv a d).room=d.room:=by unfold gv;split<;>exact⟨i4,i4⟩
theorem aen{b a:cw}(h:a≠[])(d:bo):gv a (gv b d)=gv (b++a) d:=by
 have e:∀c:cw,c≠[]->∀d,gv c d={d with l:=d.l++c,wait:=0,laid:=[],has:=eS}:=λc g d=>by
  unfold gv;rw[g0 k9]
 by_cases f:b=[]
 ·subst f;rfl
 ·rw[e b f,e a h,e (b++a) sr];simp
theorem QC(a:Nat)(l:List (Int×ba))(k:Int):kP a l k=a+i0 (lR l k):=by unfold kP lR;rw[qA]
theorem Xz{p:Pm}{o:Int}{b:ba}{t:az}(c:bB p=eR)(d:cX p o (splitB p b).length=dB t){i:Nat}(l:i<i0 (splitB p b)):∃K H w n,co p (ce o i (t.getD i 0)) ((splitB p b).getD i []) K H w n:=by
 have m:=jc d;obtain⟨k,h,a⟩:=BY d i i5;have g:Nu p o i k=eR:=(Ij a).2.1;have e:t.getD i 0=(k:Int):=by rw[ge 0];exact h
 rw[e];refine Yl c g ?_;have f:=(bZ p).1 c;have q:0<=p.1*p.2.2:=vD i5 i5;have j:(splitB p b)[i]=xE (dR p) b i:=by simp[splitB]
 rw[ge [] l,j,Ii];unfold dR;omega
theorem XA{m:aE}{b:ba}{t:az}(d:bN m=eR)(f:m.next<=16777215)(h8:i0 (splitB m.p b)<=8)(c:cX m.p m.next (splitB m.p b).length=dB t){i id:Nat}(g:i<i0 (splitB m.p b))(hid:id<(m.p.1+m.extra).toNat):
  jv (lj m m.next i (ce m.next i (t.getD i 0)) ((splitB m.p b).getD i []) id)=eR:=by
 have a:=((fg m).1 ((cF m).1 d).1)
 have e:=(bZ m.p).1 a.2.2.1;obtain⟨K,H,w,n,B⟩:=Xz a.2.2.1 c g;exact Uy B ⟨a.2.1.1,f⟩ i5 i5
theorem abF{m:aE}{offs:Int}{w:Pow}{ds:aF}{name:ByteArray}{b:ba}(L:w.calm)(E:i0 ds=64)(B:bN m=eR):
  (eC m (dY w offs) ds name b.length≠0->im m offs w ds name b=(eC m (dY w offs) ds name b.length,m,w,ds))/\
  (eC m (dY w offs) ds name b.length=0->(cX m.p m.next (splitB m.p b).length=eH->im m offs w ds name b=(8,m,w,ds))/\∀t,cX m.p m.next (splitB m.p b).length=dB t->
   let live:=aR ds m.drives;let l:=dL m m.next t (splitB m.p b) live (splitB m.p b).length;let n:=eZ m ⟨name,m.next,i0 b,t⟩;let N:=kP (bm n).length l
   bN n=eR/\(iC m ds live N=eS->im m offs w ds name b=(7,m,w,ds))/\(iC m ds live N=eR->∃ds',im m offs w ds name b=(0,n,w,ds')/\ds'.length=64/\
    ∀k,aX ds' k=(aX ds k).map λd=>if k∈live then gv ((iU m m.next t (splitB m.p b) live k (splitB m.p b).length).map cL++bm n) (cZ m d (N k))else d)):=by
 refine⟨λh=>by unfold im;rw[f9 h],λh=>⟨λv=>by unfold im;rw[g0 j7,v],λt v=>?_⟩⟩;intro live l n N;have q:bN n=eR:=aem B h v;obtain⟨z1,z2,z3,z4,z5⟩:=ny h;have o:=((fg m).1 ((cF m).1 B).1)
 have F:¬m.p.1*m.p.2.2*8<(i0 b:Int):=λh=>z4 (.inl h);have h8:=Jv o.2.2.1 F;have J:live≠[]:=λh=>z5 (.inl h);have u:0<=m.next/\m.next<=16777215:=⟨o.2.1.1,by have:¬16777215<m.next:=λh=>z5 (.inr (.inl h));omega⟩
 have f:live.Nodup:=nz (nE B);have M:∀k∈live,0<=k/\k<64:=λk a=>mO B k (gH a).1;have e:im m offs w ds name b=(if iC m ds live N=eS then(7,m,w,ds)else if(makes m N live w ds).1≠0 then((makes m N live w ds).1,m,(makes m N live w ds).2)else
   if(layAll l (makes m N live w ds).2.1 (makes m N live w ds).2.2).1≠0 then((layAll l (makes m N live w ds).2.1 (makes m N live w ds).2.2).1,m,(layAll l (makes m N live w ds).2.1 (makes m N live w ds).2.2).2)else
   ((layAll (bt n live) (layAll l (makes m N live w ds).2.1 (makes m N live w ds).2.2).2.1 (layAll l (makes m N live w ds).2.1 (makes m N live w ds).2.2).2.2).1,if(layAll (bt n live) (layAll l (makes m N live w ds).2.1 (makes m N live w ds).2.2).2.1 (layAll l (makes m N live w ds).2.1 (makes m N live w ds).2.2).2.2).1=0 then n else m,(layAll (bt n live) (layAll l (makes m N live w ds).2.1 (makes m N live w ds).2.2).2.1 (layAll l (makes m N live w ds).2.1 (makes m N live w ds).2.2).2.2).2)):=by
  unfold im;rw[g0 j7,v]
 refine⟨q,λj=>by rw[e,f9 j],λj=>?_⟩;rw[e,g0 (by rw[j];decide)];obtain⟨R,m1,m2,S⟩:=ND L (N:=N) f E j;rw[m1];dsimp only;rw[g0 jj];have A:∀y∈l,y.1∈live:=λy s=>(Uv u J M h8 s).1;have r:∀y∈l,i0 y.2=64:=λy s=>by
  obtain⟨i,hi,s⟩:=zD.1 s;obtain⟨id,hid,rfl⟩:=qt.1 s;exact Ek (XA B u.2 h8 v (qE.1 hi) (qE.1 hid))
 have c:∀k∈live,∃d,aX R k=dB d/\d.lost=eS/\(i0 d.l:Int)+max (N k) 0<=d.room:=λk a=>by
  obtain⟨_,d,hd,U⟩:=gH a;have G:=qL.1 j k a;obtain⟨V,H,Q⟩:=Kv G;obtain⟨Y,W,r3⟩:=xH Q;refine⟨cZ m V (N k),?_,Y,by rw[W];exact r3⟩;rw[S k,H,qT,f9 a]
 obtain⟨d2,l1,l2,T⟩:=UD L (ds:=R) (P:=l) m2 λx g=>by
  obtain⟨d,O,I,f3⟩:=c x.1 (A x g);refine⟨r x g,d,O,I,?_⟩;have:N x.1=_:=QC _ _ _;omega
 rw[l1];dsimp only;rw[g0 jj];obtain⟨d3,p1,X,Z⟩:=UD L (ds:=d2) (P:=bt n live) l2 λx g=>by
  obtain⟨z,D⟩:=jb g;obtain⟨d,O,I,f3⟩:=c x.1 z;refine⟨D,gv (lR l x.1) d,by rw[T,O,qT],by rw[(ut _ _).1];exact I,?_⟩;have:N x.1=_:=QC _ _ _;rw[(ut _ _).2,NE,Cc f,f9 z,qy];omega
 rw[p1];refine⟨d3,i4,X,λk=>?_⟩;rw[Z k,T k,S k,Option.map_map,Option.map_map];congr 1;funext d;show gv (lR (bt n live) k) (gv (lR l k) (if k∈live then cZ m d (N k)else d))=_;rw[Cc f];by_cases a:k∈live
 ·rw[f9 a,f9 a,f9 a];have K:lR l k=(iU m m.next t (splitB m.p b) live k (splitB m.p b).length).map cL:=LC _ _ _ _ _ _ _;rw[K,aen (UE q)]
 ·rw[g0 a,g0 a,g0 a,UB (P:=l) λx g (he:x.1=k)=>a (he▸A x g)];rfl
theorem NF(l:az)(c:i0 l<=64)(s:Int):aX (iA l (bp l l.length).length) s=if s∈bp l l.length then dB (bo.new (l.getD s.toNat 0).toNat)else eH:=by
 by_cases a:0<=s/\s<64
 ·unfold aX iA;rw[f9 a,qS,zu i5,qT,qi (qk _)];have e:((s.toNat:Nat):Int)=s:=i5
  rw[e];by_cases h:s∈bp l l.length
  ·rw[f9 h];rfl
  ·rw[g0 h];rfl
 ·rw[g0 λh=>?_]
  ·unfold aX;rw[g0 a]
  ·obtain⟨n,b,rfl,_⟩:=(AJ l l.length s).1 h;omega
theorem abG{p:Pm}{extra:Int}{l:az}(d:i0 l<=64)(f:sP p extra l=0):
  ∃D,gc p extra Pow.new l=(0,Pow.new,D)/\D.length=64/\∀s,aX D s=if s∈bp l l.length then dB ⟨(l.getD s.toNat 0).toNat,bm (ck p extra l),0,[],eS,eS⟩else eH:=by
 have m:=LB d f;have b:(bp l l.length).Nodup:=(Gd l l.length).imp λh e=>i5
 have c:=(NC f).2.2.2.2;rw[Zc,f9 f];obtain⟨D,i,k,h3⟩:=UD jx (ds:=iA l (bp l l.length).length) (P:=bt (ck p extra l) (bp l l.length)) (VR _ _) λx j=>by
  obtain⟨a,g⟩:=jb j;refine⟨g,bo.new (l.getD x.1.toNat 0).toNat,by rw[NF l d,f9 a],i4,?_⟩;rw[Cc b,f9 a];have:=wi.1 c x.1 a;simp only[decide_eq_true_eq]at this;show 0+_<=(l.getD x.1.toNat 0).toNat;omega
 refine⟨D,i,k,λs=>?_⟩;rw[h3,NF l d,Cc b];by_cases h:s∈bp l l.length
 ·rw[f9 h,f9 h,f9 h,qT];unfold gv;rw[g0 (by simpa using UE m)];rfl
 ·rw[g0 h,g0 h,g0 h];rfl
theorem Zi(m:aE):i0 (bm m)=(i0 (gO m)+47)/48:=by unfold bm iM;rw[qA,zx]
theorem aio(x:Wl.bM):(jG x).length=6+x.name.size+x.tries.length:=by unfold jG;simp[cB];omega
theorem abH{m:aE}(h:bN m=eR):i0 (gO m)=14+i0 m.drives+i0 (m.aH.flatMap jG):=by unfold gO;rw[f9 h];simp only[qy,cB,zi,yh,qA];omega
theorem rI{p:Pm}{n:Int}(h:n<=p.1*p.2.2*8):countP p n<=8:=by
 unfold countP;split
 ·rename_i a;rw[qz,decide_eq_true_eq]at a;have:=(bZ p).1 a.1;have b:0<p.1*p.2.2:=Int.mul_pos i5 i5;have:(n-1)/(p.1*p.2.2)<8:=Int.ediv_lt_of_lt_mul b (by rw[Int.mul_comm 8];omega);omega
 ·decide
theorem agG{m:aE}{x:Wl.bM}(h:gX m x=eR):i0 (jG x)<=26:=by
 obtain⟨a,c,h3,d,e⟩:=(iR m x).1 h;have:=rI h3.2;have b:x.name.size<=12:=by unfold ms at a;simp at a;omega
 rw[aio];omega
theorem DP{α β:Type}{f:α->List β}{c:Nat}:∀{l:List α},(∀x∈l,i0 (f x)<=c)->i0 (l.flatMap f)<=i0 l*c
 |[],_=>jj
 |x::l,h=>by
  have b:=h x qH;have d:=DP (l:=l) λy a=>h y (qC _ a);rw[zg,qy,zi,zG];omega
theorem aeo{m:aE}(h:bN m=eR):i0 (bm m)*48<=61+i0 m.drives+i0 m.aH*26:=by have:=DP (f:=jG) (l:=m.aH) λx a=>agG (((cF m).1 h).2.2.2.2.1 x a);have b:=abH h;rw[Zi];omega
theorem IB{m:aE}(h:bN m=eR):i0 (bm m)<=9:=by have a:=aeo h;have b:=kG h;have h3:=((cF m).1 h).2.2.2.1;omega
theorem Wh{α β:Type}(f:α->List β)(c:Nat)(n:Nat)(l:List α)(h:∀x∈l,i0 (f x)<=c)(a:i0 l<=n):i0 (l.flatMap f)<=n*c:=za (DP h) (zt c a)
theorem Wi(m:aE)(o:Int)(tries:az)(a:cw)(live:az)(k:Int)(n:Nat):i0 (iU m o tries a live k n)<=n*(m.p.1+m.extra).toNat:=by unfold iU;refine Wh _ _ n _ (λi _=>?_) jj;have:=congrArg vA (Iy m o tries a live k i);rw[qA,qA]at this;rw[<-this];refine za (qR _ _) ?_;rw[ET];exact qk _
theorem jY{m:aE}(h:bN m=eR):dg m:=by
 obtain⟨k,n,h3,p,d,q,o⟩:=(cF m).1 h;have j:=kG h;refine⟨i5,i5,λe c=>?_⟩;obtain⟨a,l,b,g,i⟩:=(iR m e).1 (d e c);have:=rI b.2;have f:e.name.size<=12:=by unfold ms at a;simp at a;omega
 omega
section
variable {B:aB} {h0 h:f8} {As:List HP} {a pw:fz} {offs:Int} {da:List aO} {w:Pow} {ds:aF}
end
end Go.Qw
namespace Go.Vc
open Go Wl
section
variable {k:Kit} {B:aB} {h0 h:f8} {As:List HP} {a pw b:fz} {mc:bc} {offs:Int} {da:List aO} {w:Pow} {ds:aF} {d:bo} {n:Nat}
theorem aa.aep(ok:gM mc da ds)(F:n<64)(H:aa B h0 h (ao a k.tS (dh mc pw offs (da.set n (dB b)))::dE k.tP pw w::(ig k pw da ds++(iK k.tD (k.f pw) b d::As)))):aa B h0 h (bu k a pw mc offs (da.set n (dB b)) w (ds.set n (dB d))::As):=by
 have q:=ok.la;have p:=ok.ls;have s:gM mc (da.set n (dB b)) (ds.set n (dB d)):=⟨ok.l8,by simp[q],by simp[p],λi=>by
  by_cases g:n=i
  ·subst g;rw[qe,qe,zp i5,zp i5];rfl
  ·have:=ok.same i;rw[qe,qe]at this⊢;rw[zI g,zI g];exact this⟩
 have t:=Lx (k:=k) (pw:=pw) ok;have m:ig k pw (da.set n (dB b)) (ds.set n (dB d))=(ig k pw da ds).set n (iK k.tD (k.f pw) b d):=by
  apply zO;intro j;simp only[ig,zd,List.getElem?_zipWith,List.length_zipWith];by_cases o:n=j
  ·subst o;rw[f9 i4,f9 i5,f9 i4,f9 i5,f9 i4,f9 i5];rfl
  ·simp[o]
 refine aa.um s ?_;rw[m];obtain⟨L,r⟩:∃L,L=ig k pw da ds:=⟨_,rfl⟩
 rw[<-r]at H t⊢;have c:n<i0 L:=i5
 have H:=H.gg (n+2) (A:=L[n]) (D:=emp) (by rw[qB,qB,qo c,qd c]) λ_ _=>trivial;have x:(ao a k.tS (dh mc pw offs (da.set n (dB b)))::dE k.tP pw w::(L++(iK k.tD (k.f pw) b d::As))).set (n+2) emp=ao a k.tS (dh mc pw offs (da.set n (dB b)))::dE k.tP pw w::(L.set n emp++(iK k.tD (k.f pw) b d::As)):=by rw[zP,zP,List.set_append_left _ _ c]
 rw[x]at H;have l:i0 (L.set n emp)=i0 L:=zA;have u:=H.cons (i0 L+2) (A:=iK k.tD (k.f pw) b d) (by
  rw[qB,qB,qj i5,l,zc];rfl)
 have e:(ao a k.tS (dh mc pw offs (da.set n (dB b)))::dE k.tP pw w::(L.set n emp++(iK k.tD (k.f pw) b d::As))).set (i0 L+2) emp=ao a k.tS (dh mc pw offs (da.set n (dB b)))::dE k.tP pw w::(L.set n emp++(emp::As)):=by rw[zP,zP,qZ _ _ i5,l,zc];rfl
 rw[e]at u;have E:=u.aZ 3 [0,2,1];have y:aa B h0 h (iK k.tD (k.f pw) b d::dE k.tP pw w::ao a k.tS (dh mc pw offs (da.set n (dB b)))::(L.set n emp++(emp::As))):=E;have v:=aa.Js n c y;have z:=aa.closeAll (ao a k.tS (dh mc pw offs (da.set n (dB b)))::dE k.tP pw w::L.set n (iK k.tD (k.f pw) b d)) v;exact aa.pf (L:=ao a k.tS (dh mc pw offs (da.set n (dB b)))::dE k.tP pw w::L.set n (iK k.tD (k.f pw) b d)) z.pO
end
end Go.Vc
