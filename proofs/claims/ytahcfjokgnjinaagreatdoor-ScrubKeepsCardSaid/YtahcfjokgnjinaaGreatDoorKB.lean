/- Lemmas for the proof of the law; no condition. -/
import Derived.Test.YtahcfjokgnjinaaGreatDoorKA
import Derived.Test.YtahcfjokgnjinaaGreatDoorShelfB
import Derived.Test.YtahcfjokgnjinaaGreatDoorPlB
set_option linter.unusedVariables false
set_option maxHeartbeats 2000000
set_option linter.unusedSimpArgs false
open Go.Proofs.Tryz renaming prog -> xD
open Go.Value renaming agg -> xy, bool -> xx, int -> xt, pointer -> xv, slice -> xu, string -> xw
open Go.IntKind renaming bits -> qk, i64 -> xz, signed -> va, u32 -> xB, u64 -> xC, u8 -> xA, wrap -> qc
open Nat renaming le_of_eq -> xg
open Int renaming tmod -> wo
open Bool renaming and_self -> xm
open List renaming any_cons -> xn, any_nil -> xo, range -> qz, replicate -> qh, zipWith -> zm
open Option renaming some -> zP
open Go.Instr renaming storeAt -> qf
open Prod renaming fst -> qK, snd -> zL
set_option maxRecDepth 100000
open Option renaming some -> dB, none -> eH
open Bool renaming true -> eR, false -> eS
open Go renaming Addr -> eY
open Go.Vc renaming Heap -> f8
open List renaming length -> ii
namespace Go.Qw
open Go Go.Vc Go.Proofs Wl
theorem aaS{α:Type}{h:f8}{e:TypeId}{s:Sl}{k:Nat}{f:α->ba}{l:List α}(c:Own h e s k f l)(a:l≠[]):s.ptr.isNone=eS:=by
 rcases c.head with⟨_,_,h3⟩|⟨b,rest,h1,_⟩
 ·exact absurd h3 a
 ·rw[h1];rfl
theorem Qe(p:Pm)(seed id:Int)(h:f8):aq xD 175 #[kb p,xt xB seed,xt xz id] h λv h'=>∃r:Sl,v=r/\
  Sp h h' [ae 5 r 1 aD (if bM p&&bW id then nU (bG p).toNat seed id else[])]/\r.ptr.isNone=!(bM p&&bW id):=by
 refine Vn p seed id ?_;refine(Sp.refl h).boxed λa R z=>?_;refine bc ?_;refine⟨p,(z.box 0 i0).aP _ i0,(eT p R).mono ?_⟩;rintro v E ⟨rfl,Q⟩;have m:=z.comp Q;have u:(bM p&&bW id)=eS->Sp h E [ae 5 ⟨eH,0,0⟩ 1 aD (if bM p&&bW id then nU (bG p).toNat seed id else[])]/\Option.isNone (eH:bm)=!(bM p&&bW id):=λO=>by
  rw[O];exact⟨(m.nil 5 1 aD).take 1 (λi A g=>by cases i with|zero=>exact g|succ i=>simp at g),i0⟩
 refine⟨_,i0,bi (λe=>⟨⟨eH,0,0⟩,i0,u o1⟩) λl=>?_⟩;refine ac (λe=>⟨⟨eH,0,0⟩,i0,u l0⟩) λU=>?_;refine ac (λe=>⟨⟨eH,0,0⟩,i0,u l0⟩) λD=>?_;have hid:bW id=eR:=l0
 refine⟨p,(m.box 0 i0).aP _ i0,(kj p E).mono ?_⟩;rintro v h3 ⟨rfl,L⟩;have J:=m.comp L;have I:=(cm p).1 l;have W:bG p=p.1+p.2.1:=by rw[bG,f9 l]
 obtain⟨n,F⟩:∃n:Nat,bG p=n:=⟨(bG p).toNat,i4⟩
 refine⟨_,i0,?_⟩;dsimp only;rw[F];refine J.make an aD gU i5 0 i0 i0 n n i0 i0 (qm _) i4 λv P X M G=>?_;refine⟨p,(G.box 0 i0).aP _ i0,(xV p seed id P).mono ?_⟩;rintro w T ⟨c,rfl,q⟩;rw[l,hid,F,ql]at q;rw[l,hid,ql];have o:=G.comp q;have j:=o.seq 2 i0 λ_=>rfl;have y:=j.len;obtain⟨b,d⟩:∃b,b=dE n seed id:=⟨_,rfl⟩
 have t:∀x∈b,0<=x/\x<(n:Int):=λx H=>mM i4 i4 (by rw[<-d];exact H);have B:ii b<=n:=by rw[d];exact ww i4 i4 _ _
 simp only[xm,if_true,<-d]at o j y q;refine⟨c,i0,?_⟩;refine av (λi:Nat=>(i:Int)) (λi h'=>i<=ii b/\Sp h h' [al a 26 [xt xz p.1,xt xz p.2.1,xt xz p.2.2],ae 5 v 1 aD (gv n (b.take i)),ae 3 c 1 ak b]) (λi=>ii b-i) 0 i0 ⟨i4,o⟩ ?_;rintro i S ⟨g,k⟩;refine ac (λe=>?_) (λe=>?_)
 ·have f:i<ii b:=i4
  have H:=t _ (qg f);refine(k.seq 2 i0 λ_=>rfl).bD i i0 f _ i0 ?_;refine k.set an 1 i0 (λ_=>rfl) i0 b[i].toNat i4 (by rw[pM];omega) 1 i0 i0 i0 λV K=>?_;refine⟨i+1,js,⟨i4,?_⟩,i4⟩;have D:gv n (b.take (i+1))=(gv n (b.take i)).set b[i].toNat 1:=by rw[aH _ _ f,gv,zQ];rfl
  rw[D];exact K
 ·rw[qi i4]at k;have s:Sp h S [ae 5 v 1 aD (gv n b)]:=(k.del 2).take 1 (λi A g=>by cases i with|zero=>exact g|succ i=>simp at g);refine⟨v,i0,?_,aaS (s.own 0 i0) λN=>?_⟩
  ·rw[d]at s;exact s
  ·have:=pM n b;rw[N]at this;simp at this;omega
theorem sl(p:Pm)(h:f8):aq xD 118 #[kb p] h λv h'=>∃r:Sl,v=r/\Sp h h' [fN 71 r 1 aD (if bM p then bC p.1.toNat p.2.1.toNat else[])]:=by
 refine PE p ?_;refine(Sp.refl h).boxed λa h1 B=>?_;refine⟨p,(B.box 0 i0).aP _ i0,(eT p h1).mono ?_⟩;rintro v S ⟨rfl,R2⟩;have z:=B.comp R2;refine⟨_,i0,bi (λe=>⟨⟨eH,0,0⟩,i0,?_⟩) λy=>?_⟩
 ·rw[e];exact(z.ID 71 1 aD).take 1 (λi A c=>by cases i with|zero=>exact c|succ i=>simp at c)
 have L:=(cm p).1 y;have W:bG p=p.1+p.2.1:=by rw[bG,f9 y]
 obtain⟨K,hK⟩:∃K:Nat,p.1=K:=⟨p.1.toNat,i4⟩
 obtain⟨b,J⟩:∃H:Nat,p.2.1=H:=⟨p.2.1.toNat,i4⟩
 refine(pi S).mono ?_;rintro v h3 ⟨f,rfl,O⟩;have E:=(z.comp O).ID 71 1 aD;refine⟨dB f,i0,_,(E.box 0 i0).cell i0,?_⟩;refine av (λt:Sl×Nat=>(t.1,(t.2:Int))) (λt h'=>t.2<=b/\Sp h h' [al a 26 [xt xz p.1,xt xz p.2.1,xt xz p.2.2],al f 238 df,fN 71 t.1 1 aD ((bC K b).take t.2)]) (λt=>b-t.2) (⟨eH,0,0⟩,0) i0 ⟨i9,E⟩ ?_;rintro⟨s,k⟩ V ⟨hk,m⟩;dsimp only at*;refine ac (λe=>?_) (λe=>?_)
 ·have Z:k<b:=i4
  refine bc ⟨p,(m.box 0 i0).aP _ i0,p.1,(m.box 0 i0).cell0 i0,?_⟩;refine(kj p V).mono ?_;rintro v M ⟨rfl,N⟩;have D:=m.comp N;refine⟨_,i0,⟨(D.box 0 i0).cell0 i0,trivial⟩,?_⟩;dsimp only;rw[af (p.1+k),W];refine(Yg _ _ M).mono ?_;rintro v h6 ⟨u,rfl,o⟩;rw[f9 i4]at o;have P:(p.1+p.2.1).toNat=K+b:=i4
  have R:(p.1+(k:Int)).toNat=K+k:=i4
  rw[P,R]at o;have x:=D.comp o;refine⟨u,i0,⟨(x.box 0 i0).cell0 i0,trivial⟩,p.1,(x.box 0 i0).cell0 i0,?_⟩;let rowAt:Nat->aV:=λj=>(qz j).map (λi=>Gf.pw ((k+1)*(i+1)%255))++((qh (K+b) (0:UInt8)).set (K+k) 1).drop j;refine av (λj:Nat=>(j:Int)) (λj h'=>j<=K/\Sp h h' [al a 26 [xt xz p.1,xt xz p.2.1,xt xz p.2.2],al f 238 df,fN 71 s 1 aD ((bC K b).take k),ae 5 u 1 aD (rowAt j)]) (λj=>K-j) 0 i0 ⟨i4,x⟩ ?_;rintro j Q ⟨hj,n⟩;refine ac (λG=>?_) (λG=>?_)
  ·have d:j<K:=i4
   have hm:(k+1)*(j+1)<=4*16:=wb i4 i4;have T:qc xz (qc xz ((k:Int)+1)*qc xz ((j:Int)+1))=(((k+1)*(j+1):Nat):Int):=by rw[af ((k:Int)+1),af ((j:Int)+1),show((k:Int)+1)*((j:Int)+1)=(((k+1)*(j+1):Nat):Int)by rw[wV];rfl];exact sE _
   rw[T];refine(aaR f _ Q (n.box 1 i0)).mono ?_;rintro v h8 ⟨rfl,rfl⟩;refine⟨_,i0,?_⟩;have F:ii (rowAt j)=K+b:=by simp[rowAt];omega
   refine n.set an 3 i0 (λ_=>rfl) i0 j i0 i4 _ i0 i0 i0 λX q=>?_;refine⟨j+1,js,⟨i4,?_⟩,i4⟩;have w:(rowAt j).set j (Gf.pw ((((k+1)*(j+1):Nat):Int)%255).toNat)=rowAt (j+1):=by
    have Y:((((k+1)*(j+1):Nat):Int)%255).toNat=(k+1)*(j+1)%255:=i4
    rw[Y];simp only[rowAt];rw[qX _ _ i9,qx,zF,ze,qQ i7,zw,zT,qS,qp];rfl
   rw[<-w];exact q
  ·have d:j=K:=i4
   subst d;have w:rowAt j=lM j b k:=by
    simp only[rowAt,lM];congr 1;apply zI;intro i;rw[wO,zb,qR];by_cases c:i<b
    ·rw[zt c,q9,wj];by_cases g:i=k
     ·subst g;simp[c]
     ·rw[g0 i4,f9 i4,g0 g]
    ·rw[qP (l:=qz b) i7,g0 i4,wj,g0 i4];rfl
   rw[w]at n;have I:=n.freeze 3 i0 λ_=>rfl;have ab:ii ((bC j b).take k)=k:=by simp[bC];omega
   refine I.tk an 2 3 i5 i0 i0 fF i4 λU X q=>?_;refine⟨(U,k+1),jj,⟨i6,?_⟩,i6⟩;have e7:(bC j b).take (k+1)=(bC j b).take k++[lM j b k]:=by rw[aH _ _ (by simp[bC];omega)];simp[bC]
   dsimp only;rw[e7];exact q.del 3
 ·refine⟨s,i0,?_⟩;rw[f9 y,hK,J,ql,ql];rw[qi (by simp[bC];omega)]at m;exact m.take 2 (λi A c=>by cases i with|zero=>exact c|succ i=>simp at c)
theorem JF(p:Pm)(h:f8):aq xD 200 #[kb p] h λv h'=>∃r:Sl,v=r/\Sp h h' [ae 3 r 1 ak (upto (max 0 (min p.1 16)).toNat)]:=by
 refine HN p ?_;refine(Sp.refl h).boxed λa q c=>?_;refine⟨p.1,(c.box 0 i0).cell0 i0,?_⟩;have em:(if(if(16:Int)<p.1 then(16:Int)else p.1)>(0:Int)then(if(16:Int)<p.1 then(16:Int)else p.1)else(0:Int))=((max 0 (min p.1 16)).toNat:Int):=by split<;>split<;>omega
 dsimp only;rw[em];generalize o:(max 0 (min p.1 16)).toNat=N;have d:N<=16:=i4
 refine av (λt:Sl×Nat=>(t.1,(t.2:Int))) (λt h'=>t.2<=N/\Sp h h' [emp,ae 3 t.1 1 ak (upto t.2)]) (λt=>N-t.2) (⟨eH,0,0⟩,0) i0 ⟨i9,(c.gb 0 i0 λ_ _=>trivial).nil 3 1 ak⟩ ?_;rintro⟨s,k⟩ n ⟨m,b⟩;dsimp only at*;refine ac (λe=>?_) (λe=>?_)
 ·refine b.push an 1 i0 fS i0 i5 (λ_=>rfl) eJ (k:Int) i0 i5 sz λj h3 g=>?_;refine⟨(j,k+1),jj,⟨i6,?_⟩,i6⟩;have l:upto (k+1)=upto k++[(k:Int)]:=by simp[upto,zT]
  dsimp only;rw[l];exact g
 ·have:k=N:=i4
  subst this;exact⟨s,i0,b.take 1 λi A f=>by cases i with|zero=>exact f|succ i=>simp at f⟩
theorem GN(p:Pm)(seed:Int)(d:Sl)(l:aw)(h:f8)(B:Rd h d 1 ak l)(K:ii l<=2^30):aq xD 110 #[kb p,xt xB seed,d] h λv h'=>∃r:Sl,v=r/\Sp h h' [fN 71 r 1 aD (dP p seed l)]:=by
 refine Gs p seed d ?_;refine(Sp.refl h).boxed λa E y=>?_;refine⟨p,(y.box 0 i0).aP _ i0,(sl p E).mono ?_⟩;rintro v H ⟨r,rfl,L⟩;have x:=y.comp L;refine⟨r,i0,?_⟩;have z:=B.len;let at_:Nat->cI:=λk=>dP p seed (l.take k);have h0:(if bM p then bC p.1.toNat p.2.1.toNat else[])=at_ 0:=by simp[at_,dP]
 rw[h0]at x;refine av (λt:Sl×Nat=>(t.1,(t.2:Int))) (λt h'=>t.2<=ii l/\Sp h h' [al a 26 [xt xz p.1,xt xz p.2.1,xt xz p.2.2],fN 71 t.1 1 aD (at_ t.2)]) (λt=>ii l-t.2) (r,0) i0 ⟨i9,x⟩ ?_;rintro⟨s,k⟩ h3 ⟨N,j⟩;dsimp only at*;refine ac (λe=>?_) (λe=>?_)
 ·have f:k<ii l:=i4
  refine(Seq.up B j.ag).bD k i0 f _ i0 ?_;refine⟨p,(j.box 0 i0).aP _ i0,(Qe p seed l[k] h3).mono ?_⟩;rintro v O ⟨w,rfl,G,c⟩;have o:=(j.comp G).freeze 2 i0 λ_=>rfl;refine⟨w,i0,?_⟩;have q:ii (at_ k)<=4+k∨at_ k=[]:=by
   by_cases u:bM p
   ·left;have:=(cm p).1 u;have E:=qT bW (l.take k);have H:=List.length_take_le k l;simp only[at_,dP,u,if_true,qw,qx,bC,zF];omega
   ·right;simp[at_,dP,u]
  have m:ii (at_ k)+1<=2^32:=by
   rcases q with h|h
   ·omega
   ·rw[h];simp
  dsimp only;refine bi (λg=>?_) (λg=>?_)
  ·rw[c]at g;have b:(bM p&&bW l[k])=eR:=m4
   rw[b,f9 rfl]at o;refine o.tk an 1 2 i5 i0 i0 fF m λI M F=>?_;refine⟨(I,k+1),jj,⟨i6,?_⟩,i6⟩;rw[qC]at b;have n:at_ (k+1)=at_ k++[nU (bG p).toNat seed l[k]]:=by simp only[at_,dP,b.1,if_true];rw[nV f,f9 b.2,qS,qp];rfl
   dsimp only;rw[n];exact F.del 2
  ·rw[c]at g;have b:(bM p&&bW l[k])=eS:=by
    cases hh:(bM p&&bW l[k])with
    |false=>rfl
    |true=>rw[hh]at g;cases g
   refine⟨(s,k+1),jj,⟨i6,?_⟩,i6⟩;have n:at_ (k+1)=at_ k:=by
    simp only[at_,dP];rw[Bool.and_eq_false_iff]at b;rcases b with h|h
    ·simp[h]
    ·have J:(l.take (k+1)).filter bW=(l.take k).filter bW:=by rw[nV f,g0 tg]
     rw[J]
   dsimp only;rw[n];exact o.del 2
 ·refine⟨s,i0,?_⟩;have n:at_ k=dP p seed l:=by simp only[at_];rw[qi i4]
  rw[n]at j;exact j.take 1 (λi A D=>by cases i with|zero=>exact D|succ i=>simp at D)
theorem mW(a:Sl)(m:aL)(n:Nat)(h:f8)(b:fW h a 1 aD m)(f:aY n m)(s:n<=64:=by omega)(p:ii m<=2^30:=by omega):aq xD 240 #[a] h λv h'=>v=xx eR/\h'=h:=by
 refine Sf a ?_;have q:=b.len;refine av (λk:Nat=>(k:Int)) (λk h'=>h'=h/\k<=ii m) (λk=>ii m-k) 0 i0 ⟨i0,i4⟩ ?_;rintro k h' ⟨rfl,l⟩;refine ac (λe=>?_) λe=>⟨i0,i0⟩;have d:k<ii m:=i4
 refine b.get k i0 d λr i=>?_;refine b.get 0 i0 i4 λo c=>?_;have j:=i.len;have g:=c.len;rw[f _ (qg _)]at j g;refine ci (λe=>i4) λ_=>ac (λe=>i4) λ_=>?_;exact⟨k+1,js,⟨i0,i4⟩,i4⟩
theorem ux(a:Sl)(m:aL)(n:Nat)(h:f8)(d:fW h a 1 aD m)(l:aY n m)(E:n<=64:=by omega)(z:ii m<=2^30:=by omega):aq xD 241 #[a] h λv h'=>∃(r:Sl) (rs:List Sl),v=r/\rs.length=ii m/\Sp h h' (ae 71 r 1 bp rs::bB 5 1 aD rs m):=by
 refine Sg a ?_;have D:=d.len;refine(Sp.refl h).make an bp fF i5 ⟨eH,0,0⟩ i0 i0 0 m.length i0 i4 i4 i4 λs F i B f=>?_;refine av (λt:Sl×List Sl=>(t.1,(ii t.2:Int))) (λt h'=>ii t.2<=ii m/\Sp h h' (ae 71 t.1 1 bp t.2::bB 5 1 aD t.2 (m.take t.2.length))) (λt=>ii m-ii t.2) (s,[]) i0 ⟨i9,by simpa[bB]using f⟩ ?_;rintro⟨s,rs⟩ p ⟨y,c⟩;dsimp only at*;refine ac (λe=>?_) (λe=>?_)
 ·have b:ii rs<ii m:=i4
  refine(d.up c.ag).get rs.length i0 b λr q=>?_;have k:m[ii rs].length=n:=l _ (qg _);refine(fc r _ p q i4).mono ?_;rintro v h3 ⟨w,rfl,j⟩;have g:=c.comp j;refine⟨w,i0,?_⟩;refine g.push an 0 i0 fF i0 i5 (λ_=>rfl) jK w i0 i5 i4 λu A x=>?_;refine⟨(u,rs++[w]),by dsimp only;rw[af _];simp,⟨i7,?_⟩,i7⟩;dsimp only;rw[show(rs++[w]).length=ii rs+1 by simp,aH _ _ b,tO (by rw[List.length_take];omega)];exact x
 ·have o:m.take rs.length=m:=qi i4;rw[o]at c;exact⟨s,rs,i0,i4,c⟩
theorem pY(a:Sl)(m:aL)(h:f8)(b:fW h a 1 aD m):aq xD 244 #[a] h λv h'=>v=xt xz (eK m)/\h'=h:=by
 refine NA a ?_;have d:=b.len;refine cy (λe=>?_) (λe=>?_)
 ·have:m=[]:=zc i4;subst this;exact⟨i0,i0⟩
 ·refine b.get 0 i0 i4 λr c=>⟨?_,i0⟩
  rw[c.len,eK,bz i4]
theorem Qf{r:Row}{c:Nat}(h:c<ii r:=by omega):aN r c=r[c]:=by rw[aN,qe,qd h];rfl
theorem SB(a:Sl)(m:aL)(n b bx:Nat)(h:f8)(q:fW h a 1 aD m)(t:aY n m)(y:bx<n)(x:ii m<=2^30):
  aq xD 300 #[a,xt xz b,xt xz bx] h λv h'=>v=xt xz (match jb m b bx with|some i=>(i:Int)|none=>-1)/\h'=h:=by
 refine Ln a b bx ?_;have z:=q.len;refine av (λk:Nat=>(k:Int)) (λk h'=>h'=h/\b<=k/\k<=max b m.length/\∀j,j<k->(decide (b<=j)&&(aN (aB m j) bx !=0))=eS) (λk=>ii m-k) b i0 ⟨i0,i4,i4,λj g=>by rw[hU i4];rfl⟩ ?_;rintro k h' ⟨rfl,o,w,g⟩;refine ac (λe=>?_) (λe=>?_)
 ·rw[jb,UJ λj f=>g j i4];exact⟨i0,i0⟩
 ·have d:k<ii m:=i4
  have s:m[k].length=n:=t _ (qg _);refine q.get k i0 d λr u=>?_;refine u.bD bx i0 i4 _ i0 ?_;have c:aN (aB m k) bx=m[k][bx]'(by omega):=by rw[bz d,Qf]
  refine ci (λp=>?_) (λp=>?_)
  ·have l:(decide (b<=k)&&(aN (aB m k) bx !=0))=eR:=by rw[g9 o,c];simp;exactλh0=>p (by rw[h0];rfl)
   rw[jb,UK d g l];exact⟨i0,i0⟩
  ·refine⟨k+1,js,⟨i0,i4,i4,λj f=>?_⟩,i4⟩;rcases Nat.lt_succ_iff_lt_or_eq.1 f with h1|rfl
   ·exact g j h1
   ·rw[c,AB.1 p];simp
theorem JG(f:eY)(c:UInt8)(a:Sl)(l:Row)(h:f8)(j:fH h f)(i:Rd h a 1 aD l)(x:ii l<=2^30):aq xD 301 #[xv (dB f),xt xA c.toNat,a] h λv h'=>∃r:Sl,v=r/\Sp h h' [ae 5 r 1 aD (scaleB c l)]:=by
 refine NB (dB f) _ a ?_;have A:=i.len;refine(NE f h).mono ?_;rintro v m ⟨rfl,rfl⟩;refine⟨dB f,i0,?_⟩;refine(Sp.refl m).make an aD gU i5 0 i0 i0 l.length l.length i4 i4 (qm _) i4 λs w p z n=>?_;refine av (λk:Nat=>(k:Int)) (λk h'=>k<=ii l/\Sp m h' [ae 5 s 1 aD ((l.take k).map (Gf.mul c)++qh (ii l-k) 0)]) (λk=>ii l-k) 0 i0 ⟨i4,l6⟩ ?_;rintro k h3 ⟨u,b⟩;refine ac (λe=>?_) (λe=>?_)
 ·have d:k<ii l:=i4
  refine(Seq.up i b.ag).bD k i0 d _ i0 ?_;refine(Ia f c l[k] h3 (j.ag b.ag j.lt)).mono ?_;rintro v y ⟨rfl,rfl⟩;refine⟨_,i0,?_⟩;refine b.set an 0 i0 (λ_=>rfl) i0 k i0 i7 _ i0 i0 i0 λt o=>?_;refine⟨k+1,js,⟨i4,?_⟩,i4⟩;have g:ii ((l.take k).map (Gf.mul c))=k:=i7
  have q:((l.take k).map (Gf.mul c)++qh (ii l-k) 0).set k (Gf.mul c l[k])=(l.take (k+1)).map (Gf.mul c)++qh (ii l-(k+1)) 0:=by rw[qX _ _ i4,g,ze,show l.length-k=ii l-(k+1)+1 by omega,List.replicate_succ,zw,aH _ _ d,qS,qp];rfl
  rw[<-q];exact o
 ·have:k=ii l:=i4
  subst this;refine⟨s,i0,?_⟩;rw[qi (qm _),ze,List.replicate_zero,qM]at b;exact b
theorem uy{c:UInt8}{a t:Row}(e:ii a=ii t){k:Nat}(b:k<ii t):(zm (λx y=>y^^^Gf.mul c x) (a.take k) (t.take k)++t.drop k).set k (t[k]^^^Gf.mul c (a[k]'(by omega)))=zm (λx y=>y^^^Gf.mul c x) (a.take (k+1)) (t.take (k+1))++t.drop (k+1):=by
 have d:ii (zm (λx y=>y^^^Gf.mul c x) (a.take k) (t.take k))=k:=i7
 rw[qX _ _ i4,d,ze,qQ b,zw,aH _ _ b,aH _ _ (show k<ii a by omega),yH i7];simp
theorem aaT(f:eY)(c:UInt8)(a l:Sl)(d lt:Row)(h:f8)(F:fH h f)(s:¬l.on f.block)(A:Seq h (λb=>¬l.on b) a 1 aD d)(w:Own h 5 l 1 aD lt)(o:ii d=ii lt)(J:ii d<=2^30):
  aq xD 303 #[xv (dB f),xt xA c.toNat,a,l] h λv h'=>v=.tuple #[]/\Own h' 5 l 1 aD (cY c d lt)/\aZ (λb=>¬l.on b) h h':=by
 refine Sh (dB f) _ a l ?_;have K:=A.len;have D:=w.len;refine cy (λe=>?_) (λ_=>?_)
 ·have G:c=0:=AB.1 e;subst G;have:cY 0 d lt=lt:=by apply List.ext_getElem (by rw[bZ o]);intro i B E;simp[cY,Gf.zero_mul]
  exact⟨i0,by rw[this];exact w,aZ.refl _ _⟩
 ·refine av (λk:Nat=>(k:Int)) (λk h'=>k<=ii d/\Own h' 5 l 1 aD (zm (λx y=>y^^^Gf.mul c x) (d.take k) (lt.take k)++lt.drop k)/\aZ (λb=>¬l.on b) h h') (λk=>ii d-k) 0 i0 ⟨i4,by simpa using w,aZ.refl _ _⟩ ?_;rintro k B ⟨I,j,g⟩;refine ac (λe=>?_) (λe=>?_)
  ·have z:k<ii d:=i4
   have t:k<ii lt:=i4
   have n:ii (zm (λx y=>y^^^Gf.mul c x) (d.take k) (lt.take k))=k:=i7
   have H:ii (zm (λx y=>y^^^Gf.mul c x) (d.take k) (lt.take k)++lt.drop k)=ii lt:=by rw[qw,n,List.length_drop];omega
   refine(A.ag g).bD k i0 z _ i0 ?_;have q:(zm (λx y=>y^^^Gf.mul c x) (d.take k) (lt.take k)++lt.drop k)[k]'(by omega)=lt[k]:=by rw[List.getElem_append_right i4];simp[n]
   refine(j.seq (p:=λ_=>True) (λ_=>rfl) λ_ _=>trivial).NY k i0 i4 _ i0 λax m=>?_;rw[q]at m⊢;refine(Ia f c d[k] B (F.ag g s)).mono ?_;rintro v E ⟨rfl,rfl⟩;refine⟨_,i0,⟨m,trivial⟩,?_⟩;dsimp only;rw[mV];refine j.set an (λ_=>rfl) i0 k i0 i4 _ i0 i0 i0 λh3 u r _=>⟨trivial,?_⟩
   refine⟨k+1,js,⟨i4,?_,g.trans r⟩,i4⟩;rw[<-uy o t];exact u
  ·have:k=ii d:=i4
   subst this;rw[qi (qm _),qi i4,zk i4,qM]at j;exact⟨i0,j,g⟩
abbrev nz(a:Sl)(rs:List Sl)(m:aL):List HP:=ae 71 a 1 bp rs::bB 5 1 aD rs m
theorem ov{a:Sl}{rs:List Sl}{m:aL}(b:ii rs=ii m)(i:Nat)(c:i<ii m):(nz a rs m)[i+1]?=dB (ae 5 (rs[i]'(by omega)) 1 aD m[i]):=by rw[qy];exact fV b i c
theorem ow{h h':f8}{a:eY}{v:Value}(c:cellOf h a=dB v)(d:aZ (λb=>b<h.size) h h'):cellOf h' a=dB v:=d.cell (sC c) c
theorem Yk{B:aA}{z:f8}{f:eY}(P:fH z f)(F:B f.block){a:Sl}{n c bx:Nat}{rs:List Sl}{m:aL}(Z:ii rs=ii m)(V:aY n m)(hc:bx<n)(hn:n<=64)(X:c<ii m)(hs:ii m<=2^30)
  {h:f8} (H:aa B z h (nz a rs m)) {K:f8->Prop} (hk:∀h',aa B z h' (nz a rs (fi c bx m m.length))->K h'):
 aI (σ:=Int) (λd Y i=>
 Br (decide (d<((a.len:Nat):Int)))
 (Br (d !=(c:Int))
 (∃w:eY,(a.ptr=dB w/\0<=d/\d<((a.len:Nat):Int))/\
 ∃g:Sl,cellOf i (w.add (d.toNat*1))=dB (xu g.ptr g.len g.cap)/\
 ∃y:eY,(g.ptr=dB y/\0<=(bx:Int)/\(bx:Int)<((g.len:Nat):Int))/\
 ∃G:Int,cellOf i (y.add ((bx:Int).toNat*1))=dB (xt xA G)/\
 ∃a25:eY,(a.ptr=dB a25/\0<=(c:Int)/\(c:Int)<((a.len:Nat):Int))/\
 ∃j:Sl,cellOf i (a25.add ((c:Int).toNat*1))=dB (xu j.ptr j.len j.cap)/\
 ∃I:eY,(a.ptr=dB I/\0<=d/\d<((a.len:Nat):Int))/\
 ∃l:Sl,cellOf i (I.add (d.toNat*1))=dB (xu l.ptr l.len l.cap)/\
 ru xD 303 #[(xv (dB f)),(xt xA G),(xu j.ptr j.len j.cap),(xu l.ptr l.len l.cap)] (.many []) i λ_ E=>
 (au.ok [(w.add (d.toNat*1),(xu g.ptr g.len g.cap))] E)/\
 Y (qc xz (d+(1:Int))) E)
 (Y (qc xz (d+(1:Int))) i))
 (K i)) (0:Int) h:=by
 have ab:a.len=ii m:=by rw[(H.own 0 i0).len,Z]
 refine av (λk:Nat=>(k:Int)) (λk h'=>k<=ii m/\aa B z h' (nz a rs (fi c bx m k))) (λk=>ii m-k) 0 i0 ⟨i4,by rw[Xa];exact H⟩ ?_;rintro k h1 ⟨ad,o⟩;have M:=nX c bx m k;have t:ii rs=ii (fi c bx m k):=by rw[M];exact Z
 refine ac (λe=>?_) (λe=>?_)
 ·have x:k<ii m:=i4
  refine ci (λe2=>?_) (λe2=>?_)
  ·have u:k≠c:=λhh=>e2 (by rw[hh]);have O:aB (fi c bx m k) k=aB m k:=by rw[pN x,g0 i4]
   have S:aB (fi c bx m k) c=aB m c:=by rw[pN X,g0 i4]
   have e4:(fi c bx m k)[k]'(by omega)=aB m k:=by rw[<-O,bz]
   have e5:(fi c bx m k)[c]'(by omega)=aB m c:=by rw[<-S,bz]
   have r:=ov (a:=a) t k i4;have W:=ov (a:=a) t c i4;rw[e4]at r;rw[e5]at W;have lk:=cA V x;have lt:=cA V X;have q:=o.off (k+1) 0 i4 r i0;have s:=q.1.seq (λ_=>rfl) q.2;refine s.mv k i0 i4 λa1 N R=>?_;have Q:=o.seq (k+1) r λ_=>rfl;refine Q.bD bx i0 i4 _ i0 ?_;refine s.mv c i0 i4 λ_ _ _=>?_;refine s.mv k i0 i4 λ_ _ _=>?_;have J:(rY (rs[c]'(by omega)) 1 aD (aB m c)).p h1 (λb=>¬(rs[k]'(by omega)).on b):=by have:=o.off (k+1) (c+1) i4 r W;exact(this.1.seq (λ_=>rfl) this.2).mono λb hb=>hb.2
   refine(aaT f _ _ _ (aB m c) (aB m k) h1 (P.ag o.ag F) (o.base (k+1) r F) J (o.own (k+1) r) i4 i4).mono ?_;rintro v h2 ⟨rfl,L,A⟩;have U:=o.nc (k+1) r A L;have T:=A.cell R.2 N;refine⟨(),i0,⟨T,trivial⟩,?_⟩;refine⟨k+1,js,⟨i4,?_⟩,i4⟩;rw[Xb x u];show aa B z h2 (ae 71 a 1 bp rs::bB 5 1 aD rs ((fi c bx m k).set k _));rw[<-OE t k i4];have D:(aB m k)[bx]'(by omega)=aN (aB m k) bx:=(Qf).symm;rw[D]at U;exact U
  ·have u:k=c:=i4
   subst u;exact⟨k+1,js,⟨i4,by rw[Xc];exact o⟩,i4⟩
 ·have:k=ii m:=i4
  subst this;exact hk _ o
theorem Qg{rs:List Sl}{m:aL}(a:ii rs=ii m)(i j:Nat)(c:i<ii m)(b:j<ii m):
  ((bB 5 1 aD rs m).set i (ae 5 (rs[j]'(by omega)) 1 aD m[j])).set j (ae 5 (rs[i]'(by omega)) 1 aD m[i])=bB 5 1 aD ((rs.set i (rs[j]'(by omega))).set j (rs[i]'(by omega))) (jm m i j):=by
 rw[kJ a,kJ j9,jm,bz c,bz b]
theorem AC{B:aA}{w:f8}{f:eY}(S:fH w f)(U:B f.block){a:Sl}{n cZ:Nat}{rs:List Sl}{m:aL}(hl:ii rs=ii m)(hm:aY n m)(hc:cZ<=n)(hn:n<=64)(hs:ii m<=2^30)
  {h:f8} (H:aa B w h (nz a rs m)):aq xD 242 #[xv (dB f),a,xt xz cZ] h λv h'=>
   ∃M:List Sl,v=xt xz (bI m cZ).1/\M.length=ii m/\aa B w h' (nz a M (bI m cZ).2):=by
 have ad:a.len=ii m:=by rw[(H.own 0 i0).len,hl]
 refine Lj (dB f) a cZ ?_;refine av (λt:List Sl×Nat=>(((bI m t.2).1:Int),(t.2:Int))) (λt h'=>t.2<=cZ/\t.1.length=ii m/\aa B w h' (nz a t.1 (bI m t.2).2)) (λt=>cZ-t.2) (rs,0) i0 ⟨i9,hl,H⟩ ?_;rintro⟨c,bx⟩ h1 ⟨hk,T,K⟩;dsimp only at*;have x:=gV hm bx;have G:=BN m bx;obtain⟨st,u⟩:∃st,st=bI m bx:=⟨_,rfl⟩
 rw[<-u]at x G K⊢;obtain⟨b,l⟩:=st;dsimp only at x G K⊢;have y:ii c=ii l:=i4
 have d:bI m (bx+1)=jn (b,l) bx:=by rw[bI,<-u]
 refine ac (λe=>?_) (λe=>?_)
 ·have O:bx<n:=i4
  have L:fW h1 a 1 aD l:=K.OF y λ_=>rfl;refine(SB a l n b bx h1 L x.1 O i4).mono ?_;rintro v h2 ⟨rfl,rfl⟩;refine⟨_,i0,?_⟩;dsimp only;cases hb:jb l b bx with
  |none=>
   refine ac (λ_=>?_) λe2=>absurd i5 e2;refine⟨(c,bx+1),?_,⟨i6,T,?_⟩,i6⟩
   ·dsimp only;rw[d,jn,hb,af _];rfl
   ·dsimp only;rw[d,jn,hb];exact K
  |some i=>
   have hh:=rz hb;refine ac (λe2=>absurd (show((i:Nat):Int)<0 from e2) i4) λ_=>?_;dsimp only;have I:b<ii l:=i4
   have hi:=hh.2.1;have R:=K.seq 0 i0 λ_=>rfl;refine bc ?_;refine R.mv i i0 i4 λ_ _ _=>?_;refine R.mv b i0 i4 λ_ _ _=>?_;refine K.set an 0 i0 (λ_=>rfl) i0 b i0 i4 (c[i]'(by omega)) i0 i0 i0 λh3 H3=>⟨trivial,?_⟩
   refine H3.set an 0 i0 (λ_=>rfl) i0 i i0 i7 (c[b]'(by omega)) i0 i0 i0 λW H4=>⟨trivial,?_⟩
   have o:aa B w W (nz a ((c.set b (c[i]'(by omega))).set i (c[b]'(by omega))) (jm l b i)):=by have:=H4.ach (b+1) (i+1) (A:=ae 5 (c[b]'(by omega)) 1 aD l[b]) (A2:=ae 5 (c[i]'(by omega)) 1 aD l[i]) (fV y b I) (fV y i hi);show aa B w W (ae 71 a 1 bp _::bB 5 1 aD _ _);rw[<-Qg y b i I hi];exact this
   obtain⟨j,F⟩:∃j,j=(c.set b (c[i]'(by omega))).set i (c[b]'(by omega)):=⟨_,rfl⟩
   rw[<-F]at o;have ah:ii j=ii l:=by rw[F];simp;omega
   obtain⟨g,s⟩:∃g,g=jm l b i:=⟨_,rfl⟩
   have z:aY n g:=by rw[s];exact Ea x.1 I hi
   have V:ii g=ii l:=by rw[s];exact lE _ _ _
   rw[<-s]at o;have q:ii j=ii g:=i4
   have k:b<ii g:=i4
   refine bc ?_;have gt:=ov (a:=a) q b k;have lt:g[b].length=n:=z _ (qg _);have N:=o.seq 0 i0 λ_=>rfl;refine N.mv b i0 i4 λam D _=>?_;have E:=o.seq (b+1) gt λ_=>rfl;refine E.bD bx i0 i4 _ i0 ?_;refine N.mv b i0 i4 λao P _=>?_;have Q:fH W f:=S.ag o.ag U;refine(aaQ f _ W Q).mono ?_;rintro v h5 ⟨rfl,rfl⟩;refine⟨_,i0,⟨P,D,trivial⟩,?_⟩;refine(JG f _ _ _ h5 Q E i4).mono ?_;rintro v h6 ⟨r,rfl,R6⟩;refine⟨r,i0,⟨ow D R6.ag,trivial⟩,?_⟩;have H6:=o.comp R6;dsimp only;refine H6.set an 0 i0 (λ_=>rfl) i0 b i0 i4 r i0 i0 i0 λY H7=>⟨trivial,?_⟩
   have ab:g[b]=aB g b:=(bz k).symm;have Z:(g[b])[bx]'(by omega)=aN (aB g b) bx:=by rw[Qf (by rw[bz k];omega)];simp only[bz k]
   have X:aa B w Y (nz a (j.set b r) (jT b bx g)):=by have h8:aa B w Y ((ae 71 a 1 bp (j.set b r)::bB 5 1 aD j g)++[ae 5 r 1 aD (scaleB (Gf.inv ((g[b])[bx]'(by omega))) g[b])]):=H7;have h9:=h8.aes (b+1) (by simp[mf q];omega);rw[Z,ab]at h9;show aa B w Y (ae 71 a 1 bp _::bB 5 1 aD _ (g.set b _));rw[<-kJ q];exact h9
   have J:ii (jT b bx g)=ii g:=nW _ _ _;refine Yk S U i7 (xE z k) O hn i4 i4 X λh8 H8=>?_;have p:jn (b,l) bx=(b+1,fi b bx (jT b bx g) l.length):=by rw[jn];dsimp only;rw[hb,s]
   refine⟨(j.set b r,bx+1),?_,⟨i6,i7,?_⟩,i6⟩
   ·dsimp only;rw[d,p,af _,af _];rfl
   ·dsimp only;rw[d,p];rw[J,V]at H8;exact H8
 ·have:bx=cZ:=i4
  subst this;exact⟨c,by rw[<-u],T,by rw[<-u];exact K⟩
theorem GO(f:eY)(a:Sl)(m:aL)(n:Nat)(h:f8)(u:fH h f)(s:fW h a 1 aD m)(g:aY n m)(q:n<=64)(o:ii m<=2^30):
  aq xD 172 #[xv (dB f),a] h λv h'=>∃(r:Sl) (rs:List Sl),v=r/\r.len=ca m/\rs.length=ii m/\r.len<=ii m/\Sp h h' (nz ⟨r.ptr,ii m,r.cap⟩ rs (bI m (eK m)).2):=by
 refine Le (dB f) a ?_;refine(mW a m n h s g q o).mono ?_;rintro v D ⟨rfl,rfl⟩;refine⟨_,i0,bi (λe=>j0) λ_=>?_⟩;refine(ux a m n D s g q o).mono ?_;rintro v A ⟨r,rs,rfl,y,z⟩;refine⟨r,i0,(sk f A).mono ?_⟩;rintro v h3 ⟨rfl,rfl⟩;refine⟨dB f,i0,(pY r m h3 (z.OF y λ_=>rfl)).mono ?_⟩;rintro v F ⟨rfl,rfl⟩;have B:eK m<=n:=by
  cases m with
  |nil=>simp[eK,aB]
  |cons x t=>rw[eK,bz i9];exact xg (g _ i9)
 refine⟨_,i0,(AC u u.lt y g B q o z).mono ?_⟩;rintro v E ⟨j,rfl,i,k⟩;have b:=BN m (eK m);rw[(gV g _).2]at b;have w:=(k.own 0 i0).cap;have d:=(k.own 0 i0).len;refine⟨_,i0,⟨wc _,y7.2 (show(bI m (eK m)).1<=r.cap by omega)⟩,⟨r.ptr,(bI m (eK m)).1,r.cap⟩,j,i9,i0,i,b,?_⟩;have:r=⟨r.ptr,ii m,r.cap⟩:=by obtain⟨p,l,c⟩:=r;simp only at d⊢;rw[<-i,<-d]
 rw[<-this];exact k
theorem Yl(f:eY)(a:Sl)(m:aL)(n:Nat)(h:f8)(i:fH h f)(b:fW h a 1 aD m)(d:aY n m)(j:n<=64)(g:ii m<=2^30):
  aq xD 108 #[xv (dB f),a] h λv h'=>v=xt xz (ca m)/\Sp h h' []:=by
 refine Pz (dB f) a ?_;refine(GO f a m n h i b d j g).mono ?_;rintro v k ⟨r,rs,rfl,e,_,_,c⟩;exact⟨r,i0,by rw[e],.zip c.ag⟩
theorem uz(p:Pm)(seed:Int)(b:Sl)(l:aw)(h:f8)(s:Rd h b 1 ak l)(q:ii l<=2^29):aq xD 51 #[kb p,xt xB seed,b] h λv h'=>v=xt xz (nO p seed l)/\Sp h h' []:=by
 refine IX p seed b ?_;refine(Sp.refl h).boxed λa u i=>?_;refine⟨p,(i.box 0 i0).aP _ i0,(pi u).mono ?_⟩;rintro v n ⟨f,rfl,t⟩;have c:=i.comp t;have d:=c.box 0 i0;refine⟨dB f,i0,⟨d.cell0 i0,d.cell i0,d.cell i0,trivial⟩,?_⟩;refine(GN p seed b l n (Seq.up s c.ag) i4).mono ?_;rintro v h3 ⟨r,rfl,k⟩;have e:=c.comp k;refine⟨r,i0,trivial,?_⟩;have j:=aan p seed l;have g:(bG p).toNat<=64:=by
  unfold bG;split
  ·rename_i o;have:=(cm p).1 o;omega
  ·omega
 refine(Yl f r _ _ h3 (e.box 1 i0) (e.DQ 2 i0) (jx p seed l) g i4).mono ?_;rintro v w ⟨rfl,m⟩;exact⟨_,i0,trivial,i0,.zip (e.comp m).ag⟩
theorem Mu(p:Pm)(seed:Int)(b:Sl)(l:aw)(h:f8)(o:Rd h b 1 ak l)(f:ii l<=2^29):aq xD 161 #[kb p,xt xB seed,b] h λv h'=>v=xx (gc p seed l)/\Sp h h' []:=by refine Ji p seed b ?_;refine(Sp.refl h).boxed λa r i=>?_;refine⟨p,(i.box 0 i0).aP _ i0,(eT p r).mono ?_⟩;rintro v n ⟨rfl,q⟩;have d:=i.comp q;refine⟨_,i0,trivial,bA (λe=>?_) λe=>⟨trivial,trivial,by rw[gc,e];rfl,.zip d.ag⟩⟩;have g:=d.box 0 i0;refine⟨p,g.aP _ i0,p,g.aP _ i0,(uz p seed b l n (Seq.up o d.ag) f).mono ?_⟩;rintro v h3 ⟨rfl,k⟩;have j:=d.comp k;have c:=j.box 0 i0;refine⟨_,i0,⟨c.cell0 i0,c.cell i0,c.cell i0,trivial⟩,(kj p h3).mono ?_⟩;rintro v s ⟨rfl,m⟩;exact⟨_,i0,trivial,by rw[gc,e];rfl,.zip (j.comp m).ag⟩
theorem JH(p:Pm)(seed:Int)(h:f8):aq xD 198 #[kb p,xt xB seed] h λv h'=>v=xx (gc p seed (fQ p))/\Sp h h' []:=by refine HM p seed ?_;refine(Sp.refl h).boxed λa i e=>?_;have d:=e.box 0 i0;refine⟨p,d.aP _ i0,p,d.aP _ i0,(JF p i).mono ?_⟩;rintro v j ⟨r,rfl,g⟩;have c:=e.comp g;have b:=c.box 0 i0;refine⟨r,i0,⟨b.cell0 i0,b.cell i0,b.cell i0,trivial⟩,(Mu p seed r _ j (c.seq 1 i0 λ_=>rfl) sz).mono ?_⟩;rintro v h3 ⟨rfl,f⟩;exact⟨_,i0,trivial,i0,.zip (c.comp f).ag⟩
theorem aaU(p:Pm)(o b:Int)(h:f8):aq xD 137 #[kb p,xt xz o,xt xz b] h λv h'=>
  v=.tuple #[xt xz (((pf p o b).getD 0:Nat):Int),xx (pf p o b).isSome]/\Sp h h' []:=by
 refine Nu p o b ?_;refine(Sp.refl h).boxed λu B m=>?_;have m:Sp h B [al u 26 [xt xz p.1,xt xz p.2.1,xt xz p.2.2]]:=m;refine av (λi:Nat=>(i:Int)) (λi h'=>i<=16/\(∀k,k<i->JD p o b k=eS)/\Sp h h' [al u 26 [xt xz p.1,xt xz p.2.1,xt xz p.2.2]]) (λi=>16-i) 0 i0 ⟨i4,λk f=>absurd f (Nat.not_lt_zero k),m⟩ ?_;rintro i A ⟨E,c,l⟩;refine ac (λe=>?_) λe=>?_
 ·have x:i<16:=i4
  have a:=l.box 0 i0;refine⟨p,a.aP _ i0,(pc _ _ _ A).mono ?_⟩;rintro _ h3 ⟨rfl,rfl⟩;refine⟨_,i0,⟨a.cell0 i0,a.cell i0,a.cell i0,trivial⟩,(JH p _ h3).mono ?_⟩;rintro _ D ⟨rfl,y⟩;have w:=l.up y.ag;refine⟨_,i0,trivial,bA (λg=>?_) λg=>?_⟩
  ·have r:pf p o b=dB i:=by
    unfold pf;refine List.find?_eq_some_iff_append.2 ⟨g,qz i,(qz (15-i)).map (·+(i+1)),?_,λk f=>?_⟩
    ·apply zI;intro j;by_cases t:j<i
     ·rw[qo sb,zt i4,zt t]
     ·rw[qj i7,zF];by_cases n:j=i
      ·subst n;rw[ze,zt i4];rfl
      ·obtain⟨d,z⟩:∃d,j=i+(d+1):=⟨j-i-1,i4⟩
       subst z;rw[zx,qy,qR];by_cases q:d<15-i
       ·rw[zt q,zt i4];simp;omega
       ·rw[qP i7,qP i7];rfl
    ·rw[c k (qJ.1 f)];rfl
   rw[r];exact⟨i0,.zip w.ag⟩
  ·refine⟨i+1,js,⟨i4,λk f=>?_,w⟩,i4⟩;by_cases s:k<i
   ·exact c k s
   ·have:k=i:=i4
    subst this;exact g
 ·have r:pf p o b=eH:=by unfold pf;rw[List.find?_eq_none];intro k f;rw[c k (by have:=qJ.1 f;omega)];simp
  rw[r];exact⟨i0,.zip l.ag⟩
theorem Vu(p:Pm)(o:Int)(n:Nat)(h:f8)(I:n<=2^30):aq xD 81 #[kb p,xt xz o,xt xz n] h λv h'=>
  (dm p o n=eH->v=.tuple #[xu eH 0 0,xx eS]/\Sp h h' [])/\
  (∀l,dm p o n=dB l->∃r:Sl,v=.tuple #[r,xx eR]/\Sp h h' [ae 3 r 1 ak l]):=by
 refine Ja p o n ?_;refine(Sp.refl h).boxed λw E f=>?_;have f:Sp h E [ae 3 ⟨eH,0,0⟩ 1 ak [],al w 26 [xt xz p.1,xt xz p.2.1,xt xz p.2.2]]:=(f.nil 3 1 ak).cu [1,0];refine av (λt:Sl×Nat×aw=>(t.1,(t.2.1:Int))) (λt h'=>t.2.1<=n/\dm p o t.2.1=dB t.2.2/\Sp h h' [ae 3 t.1 1 ak t.2.2,al w 26 [xt xz p.1,xt xz p.2.1,xt xz p.2.2]]) (λt=>n-t.2.1) (⟨eH,0,0⟩,0,[]) i0 ⟨i9,i0,f⟩ ?_;rintro⟨s,i,l⟩ A ⟨H,c,d⟩;dsimp only at*;have D:=kC c;have b:∀j,pf p o i=eH->j<=n-(i+1)->dm p o (i+1+j)=eH:=λj k=>by
  induction j with
  |zero=>intro _;show dm p o (i+1)=eH;unfold dm;rw[c,k];rfl
  |succ j ih=>intro F;show dm p o ((i+1+j)+1)=eH;unfold dm;rw[ih i4];rfl
 refine ac (λe=>?_) λe=>?_
 ·have y:i<n:=i4
  refine⟨p,(d.box 1 i0).aP _ i0,(aaU p o i A).mono ?_⟩;rintro _ h3 ⟨rfl,z⟩;have q:=d.up z.ag;refine⟨(_,_),i0,bi (λg=>?_) λg=>?_⟩
  ·have a:dm p o n=eH:=by have:=b (n-(i+1)) (Option.isSome_eq_false_iff.1 g|>Option.isNone_iff_eq_none.1) (qm _);rw[show i+1+(n-(i+1))=n by omega]at this;exact this
   rw[a];exact⟨λ_=>⟨i0,.zip q.ag⟩,λl h=>j8⟩
  ·obtain⟨t,u⟩:∃t,pf p o i=dB t:=Option.isSome_iff_exists.1 g;rw[u];refine q.push an 0 i0 fS i0 i5 (λ_=>rfl) eJ (t:Int) i0 i5 i4 λB G x=>?_;refine⟨(B,i+1,l++[(t:Int)]),jj,⟨i6,?_,x⟩,i6⟩;show dm p o (i+1)=_;unfold dm;rw[c,u];rfl
 ·have m:i=n:=i4
  subst m;rw[c];exact⟨λh=>j8,λl' h=>(by injection h with h;subst h;exact⟨s,i0,d.cu [0]⟩)⟩
end Go.Qw
namespace Wl
open Go
def nG(m:aC)(l:cI):cI:=(cM m l).map dn
def bN(m:aC)(l:cI):cI:=bn m++nG m l
def iM(d:bj)(a:Nat)(n:Int):Bool:=decide (max n 0<=(d.room:Int)-a)
def gP(m:aC)(d:bj)(n:Int):Bool:=!d.lost&&(iM d d.l.length n||iM d (bN m d.l).length n)
def gj(m:aC)(w:Pow)(d:bj)(n:Int):Int×Pow×bj:=
 if d.lost then(5,w,d)else if !gP m d n then(7,w,d)else if iM d d.l.length n then(0,w,d)else d.rewrite w (bN m d.l)
theorem aaV(l:List cW):ii (oJ l)<=ii l:=by unfold oJ;rw[qx];exact zd (qT _ _) i9
theorem xW(m:aC)(l:cI):ii (cM m l)<=ii l:=by unfold cM;refine zd (aaV _) ?_;rw[w4];exact List.length_filterMap_le _ _
theorem sU(m:aC)(l:cI):ii (nG m l)<=ii l:=by unfold nG;rw[qx];exact xW m l
end Wl
namespace Go.Qw
open Go Go.Vc Go.Proofs Wl
variable {B:aA} {h0 h:f8} {As:List HP} {a pw:eY} {d:bj} {w:Pow}
theorem EV(x:Sl)(l:cI)(H:aa B h0 h (iU pw a d::dv 121 pw w::As))(N:St B h0 As λh=>fW h x 1 aD l)(O:ii l<=2^20)(y:∀c∈l,ii c<=2^20):
  aq xD 65 #[xv (dB a),x] h λv h'=>v=xt xz (d.rewrite w l).1/\aa B h0 h' (iU pw a (d.rewrite w l).2.2::dv 121 pw (d.rewrite w l).2.1::As):=by
 refine uM (dB a) x ?_;have P:=N.at [_,_] H;have R:=P.len;have o:=iP.rewrite (w:=w) (l:=l) (And.left (id H).oX);have j:∀(e:Int),d.rewrite w l=(e,w,d)->(Value.int .i64 e=xt xz (d.rewrite w l).1/\aa B h0 h (iU pw a (d.rewrite w l).2.2::dv 121 pw (d.rewrite w l).2.1::As)):=λe Q=>by
  rw[Q];exact⟨i0,H⟩
 refine av (λi:Nat=>(i:Int)) (λi h'=>i<=ii l/\(∀c∈l.take i,ii c=64)/\h'=h) (λi=>ii l-i) 0 i0 ⟨i4,i9,i0⟩ ?_;rintro i h1 ⟨hi,f,rfl⟩;refine ac (λe=>?_) λe=>?_
 ·have m:i<ii l:=i4
  refine P.get i i0 m λr W=>?_;have U:=W.len;refine ci (λY=>j 1 ?_) λY=>?_
  ·unfold bj.rewrite;rw[f9];rw[wZ,List.all_eq_false];exact⟨l[i],qg m,i7⟩
  ·refine⟨i+1,js,⟨i4,λc k=>?_,i0⟩,i4⟩;rw[aH _ _ m]at k;rcases qA.1 k with k|k
   ·exact f c k
   ·rw[qB.1 k];omega
 have f:∀c∈l,ii c=64:=by rw[qi i4]at f;exact f
 have p:(!l.all λb=>decide (ii b=64))=eS:=by rw[Bool.not_eq_false',q7];exactλc k=>g9 (f c k)
 have A:d.rewrite w l=(if d.lost then(5,w,d)else if d.room<ii l then(7,w,d)else if w.off then(14,w,d)else if w.step.1 then(0,w.step.2,{d with l:=l,wait:=0,laid:=[],has:=eS})else(14,w.step.2,{d with laid:=l,has:=eR})):=by unfold bj.rewrite;rw[p];rfl
 obtain⟨ok,s,b,E⟩:=H.oX;have z:=E.box 0 i0;refine bc (bc (bA (λe=>j0) λ_=>⟨a,i0,d.lost,z.cell i0,bA (λe=>j 5 (by rw[A,f9 e])) λg=>?_⟩));refine⟨a,i0,(d.room:Int),z.cell i0,ac (λe=>j 7 (by rw[A,g0 mn,f9 i4])) λL=>?_⟩;obtain⟨X,V,K⟩:=(E.aT 4 [3,0,1,2]).Bh;refine⟨a,i0,dB pw,z.cell0 i0,(Gd X (K.box 0 i0)).mono ?_⟩;rintro _ h2 ⟨rfl,rfl⟩;refine⟨_,i0,bi (λe=>j 14 ?_) λt=>?_⟩
 ·rw[A,g0 mn,g0 i4,f9 l7]
 have n:w.off=eS:=sb
 have q:d.rewrite w l=(if w.step.1 then(0,w.step.2,{d with l:=l,wait:=0,laid:=[],has:=eS})else(14,w.step.2,{d with laid:=l,has:=eR})):=by rw[A,g0 mn,g0 i4,g0 (by simp[n])]
 refine⟨a,i0,dB pw,z.cell0 i0,(EK (E.aT 4 [3,0,1,2])).mono ?_⟩;rintro _ M ⟨rfl,F⟩;have u:=N.at [_,_,_,_] F;refine⟨_,i0,bi (λe=>?_) λe=>?_⟩
 ·rw[q,g0 q6]at o⊢;refine(HW x l M u O y).mono ?_;rintro _ Z ⟨r,rfl,G⟩;have J:=(F.cj G).aT 5 [2,3,0,1];refine⟨r,i0,a,i0,J.store an 0 i0 i0 4 [r] i0 i0 i0 ln λT I=>?_⟩;refine⟨a,i0,I.store an 0 i0 i0 5 [xx eR] i0 i0 i0 ln λh8 D=>⟨i0,?_⟩⟩;exact aa.ut (s:=s) (b:=r) o D
 ·rw[q,f9 e]at o⊢;refine(HW x l M u O y).mono ?_;rintro _ Z ⟨r,rfl,G⟩;have J:=(F.cj G).aT 5 [2,0,4,1];refine⟨r,i0,a,i0,J.store an 0 i0 i0 2 [r] i0 i0 i0 ln λT I=>?_⟩;refine⟨a,i0,I.store an 0 i0 i0 3 [xt xz 0] i0 i0 i0 ln λh8 D=>?_⟩;refine(EM (d:={d with l:=l,wait:=0}) r b _ D ⟨Nat.zero_le _,i6,ok.room,f,ok.laid,ok.cellL⟩ i0).mono ?_;rintro _ h9 ⟨rfl,S⟩;exact⟨0,i0,i0,S⟩
theorem AD(s b:Sl)(c:Nat)(n:Int)(e:cw h a 119 (fz pw d s b))(f:d.room<=512)(g:c<=2^40:=by omega):aq xD 211 #[xv (dB a),xt xz c,xt xz n] h λv h'=>v=xx (iM d c n)/\h'=h:=by refine Jn (dB a) c n ?_;refine(XQ s b e).mono ?_;rintro _ _ ⟨rfl,rfl⟩;refine⟨_,i0,?_,i0⟩;rw[af ((d.room:Int)-c)];unfold iM;congr 1;rw[decide_eq_decide];split<;>omega
theorem Vv(s b:Sl)(x:bX)(m:aC)(A:cw h a 119 (fz pw d s b))(P:fW h s 1 aD d.l)(ok:iP d)(T:dH h x m)(N:dh m):
  aq xD 69 #[xv (dB a),fT x] h λv h'=>∃r:Sl,v=r/\Sp h h' [fG r (nG m d.l)]:=by
 refine KW (dB a) x ?_;have E:=ok.len;have q:=ok.room;refine(Sp.refl h).boxed λW S f=>?_;refine⟨x,(f.box 0 i0).aP _ i0,(ER a pw d s b x m S (A.ag f.ag A.lt) (P.up f.ag) ok (T.up f.ag) N).mono ?_⟩;rintro _ U ⟨r,c,rfl,Q⟩;have p:=(f.cj Q).Aj 71 5 1 aD;refine⟨r,i0,?_⟩;have y:=xW m d.l;obtain⟨L,B⟩:∃L,L=cM m d.l:=⟨_,rfl⟩
 have z:(nG m d.l)=L.map dn:=by unfold nG;rw[B]
 rw[<-B]at p y;rw[z];have F:=p.fA 1 i0;have O:=F.2.1;have n:=F.1.len;refine av (λt:Sl×Nat=>(t.1,(t.2:Int))) (λt h'=>t.2<=ii L/\Sp h h' [fG t.1 ((L.map dn).take t.2),cO ft 8 bO r c L]) (λt=>ii L-t.2) (⟨eH,0,0⟩,0) i0 ⟨i9,p.cu [0,1]⟩ ?_;rintro⟨o,i⟩ h3 ⟨X,k⟩;dsimp only at*;have M:=k.fA 1 i0;refine ac (λe=>?_) (λe=>?_)
 ·have w:i<ii L:=i4
  refine M.1.dZ (g:=bO) i i0 i4 (c[i]'(by omega)) i0 ?_;refine k.alloc an i0 λI V R=>?_;refine R.storeAll an 2 i0 i0 (bO (c[i]'(by omega))) i0 i0 i0 i0 λD j=>?_;have j:Sp h D [fG o ((L.map dn).take i),cO ft 8 bO r c L,al I 164 (bO (c[i]'(by omega)))]:=j;refine⟨c[i]'(by omega),(j.box 2 i0).aP _ i0,(rF _ L[i] D (Fix.row (j.fA 1 i0) w)).mono ?_⟩;rintro _ Y ⟨u,rfl,H⟩;have K:=(j.cj H).aT 3 [1,0,2];refine⟨u,i0,K.FN an fF i7 λJ h8 G=>?_⟩;refine⟨(J,i+1),jj,⟨i6,?_⟩,i6⟩;dsimp only;rw[aH _ _ (show i<ii (L.map dn) by simp;omega),wC];exact G.cu [0,1]
 ·rw[qi i7]at k;exact⟨o,i0,k.cu [0]⟩
theorem GP{m:aC}{l:cI}{c:aV}(h:c∈nG m l):ii c<=64:=by
 unfold nG at h;obtain⟨r,_,rfl⟩:=qu.1 h;unfold dn;split
 ·rename_i a;refine xg (mh i5 i5 ?_);have:=ol a;omega
 ·simp
theorem EW(s b:Sl)(x:bX)(m:aC)(j:cw h a 119 (fz pw d s b))(A:fW h s 1 aD d.l)(ok:iP d)(o:dH h x m)(i:dh m):
  aq xD 30 #[xv (dB a),fT x] h λv h'=>∃r:Sl,v=r/\Sp h h' [fG r (bN m d.l)]:=by
 refine Nj (dB a) x ?_;have k:=ok.len;have g:=ok.room;refine(Sp.refl h).boxed λz n e=>?_;have e:Sp h n [al z 29 (aS x)]:=e;refine⟨x,(e.box 0 i0).aP _ i0,x,(e.box 0 i0).aP _ i0,(oY x m n (o.up e.ag) i).mono ?_⟩;rintro _ E ⟨r,rfl,B⟩;have f:=e.cj B;have c:=f.box 1 i0;refine⟨r,i0,⟨c.cell0 i0,c.cell i0,c.cell i0,c.cell i0,c.cell i0,c.cell i0,c.cell i0,c.cell i0,trivial⟩,(Vv s b x m (j.ag f.ag j.lt) (A.up f.ag) ok (o.up f.ag) i).mono ?_⟩;rintro _ h3 ⟨u,rfl,t⟩;have p:=(f.cj t).aT 2 [1,0];have q:=kz m i;have y:=sU m d.l;refine⟨u,i0,trivial,p.adq an fF ⟨_,_,i0,i0⟩ i4 λw F D=>?_⟩;exact⟨trivial,w,i0,D.cu [0]⟩
theorem EX(s b:Sl)(x:bX)(m:aC)(n:Int)(p:cw h a 119 (fz pw d s b))(A:fW h s 1 aD d.l)(i:s.len=ii d.l)(ok:iP d)(D:dH h x m)(q:dh m):
  aq xD 149 #[xv (dB a),fT x,xt xz n] h λv h'=>v=xx (gP m d n)/\Sp h h' []:=by
 refine Dk (dB a) x n ?_;have t:=ok.len;have g:=ok.room;refine(Sp.refl h).boxed λz B f=>?_;have f:Sp h B [al z 29 (aS x)]:=f;have c:=p.ag f.ag p.lt;refine bc (bA (λe=>j0) λ_=>(EN s b c).mono ?_);rintro _ _ ⟨rfl,rfl⟩;refine⟨_,i0,bA (λe=>⟨by unfold gP;rw[e];rfl,.zip f.ag⟩) λe=>?_⟩;have u:gP m d n=(iM d d.l.length n||iM d (bN m d.l).length n):=by unfold gP;rw[e];rfl
 refine(Mn s b c i).mono ?_;rintro _ _ ⟨rfl,rfl⟩;refine⟨_,i0,(AD s b d.l.length n c ok.room).mono ?_⟩;rintro _ _ ⟨rfl,rfl⟩;refine⟨_,i0,bA (λo=>⟨by rw[u,o];rfl,.zip f.ag⟩) λo=>?_⟩;refine⟨x,(f.box 0 i0).aP _ i0,(EW s b x m c (A.up f.ag) ok (D.up f.ag) q).mono ?_⟩;rintro _ E ⟨r,rfl,k⟩;have j:=(aa.sa k).1;have y:ii (bN m d.l)<=4000:=by have:=kz m q;have:=sU m d.l;unfold bN;rw[qw];omega
 have w:=f.cj k;refine⟨r,i0,(AD s b r.len n (c.ag k.ag c.lt) ok.room).mono ?_⟩;rintro _ _ ⟨rfl,rfl⟩;exact⟨_,i0,by rw[u,o,vB,j],.zip w.ag⟩
theorem Qh(x:bX)(n:Int)(h:f8):aq xD 149 #[xv eH,fT x,xt xz n] h λv h'=>v=xx eS/\Sp h h' []:=by refine Dk eH x n ?_;refine(Sp.refl h).boxed λb c a=>?_;exact bc (bA (λ_=>⟨i0,.zip a.ag⟩) λe=>j0)
theorem Mw(x:bX)(m:aC)(n:Int)(L:St B h0 As λh=>dH h x m)(I:dh m)(H:aa B h0 h (iU pw a d::dv 121 pw w::As)):
  aq xD 150 #[xv (dB a),fT x,xt xz n] h λv h'=>v=xt xz (gj m w d n).1/\aa B h0 h' (iU pw a (gj m w d n).2.2::dv 121 pw (gj m w d n).2.1::As):=by
 refine Dl (dB a) x n ?_;refine(Sp.refl h).boxed λR u G=>?_;have G:Sp h u [al R 29 (aS x)]:=G;have k:=(H.cj G).aT 3 [1,2,0];have f:∀(e:Int) {h':f8},aZ (λb=>b<u.size) u h'->gj m w d n=(e,w,d)->(Value.int .i64 e=xt xz (gj m w d n).1/\aa B h0 h' (iU pw a (gj m w d n).2.2::dv 121 pw (gj m w d n).2.1::As)):=λe {h'} Q N=>by
  rw[N];exact⟨i0,((k.up Q).aT 3 [0,1])⟩
 obtain⟨ok,s,b,g⟩:=(id k).oX;have q:=g.box 0 i0;have S:fW u s 1 aD d.l:=(g.aT 2 [1]).DX λ_=>rfl;have o:=(aa.sa (g.aT 2 [1])).1;have K:=ok.len;have A:=ok.room;refine bc (bc (bA (λe=>j0) λ_=>(EN s b q).mono ?_));rintro _ _ ⟨rfl,rfl⟩;refine⟨_,i0,bA (λe=>f 5 (aZ.refl _ _) (by unfold gj;rw[f9 e])) λe=>?_⟩;refine⟨x,(k.box 2 i0).aP _ i0,(EX s b x m n q S o ok (L.at [_,_,_] k) I).mono ?_⟩;rintro _ T ⟨rfl,p⟩;have E:=g.up p.ag;have j:=q.ag p.ag q.lt;have y:=k.up p.ag;refine⟨_,i0,bi (λt=>f 7 p.ag (by unfold gj;rw[g0 q6,f9 (by simp[t])])) λt=>?_⟩;refine(Mn s b j o).mono ?_;rintro _ _ ⟨rfl,rfl⟩;refine⟨_,i0,(AD s b d.l.length n j ok.room).mono ?_⟩;rintro _ _ ⟨rfl,rfl⟩;refine⟨_,i0,bA (λz=>f 0 p.ag (by unfold gj;rw[g0 q6,g0 (by simp[t]),f9 z])) λz=>?_⟩;have em:gj m w d n=d.rewrite w (bN m d.l):=by unfold gj;rw[g0 q6,g0 (by simp[t]),g0 (by simp[z])]
 rw[em];have O:ii (bN m d.l)<=4000:=by have:=kz m I;have:=sU m d.l;unfold bN;rw[qw];omega
 have F:∀c∈bN m d.l,ii c<=64:=λc i=>by
  unfold bN at i;rcases qA.1 i with i|i
  ·exact xg (sG i)
  ·exact GP i
 refine⟨x,(y.box 2 i0).aP _ i0,(EW s b x m j ((E.aT 2 [1]).DX λ_=>rfl) ok (L.at [_,_,_] y) I).mono ?_⟩;rintro _ h3 ⟨r,rfl,P⟩;obtain⟨rs,D⟩:=(y.cj P).aaL λ_=>rfl;have D:=D.aT 4 [1,2,0];refine⟨r,i0,(EV r (bN m d.l) D (St.dS 0 i0 λh' J=>?_) i4 λc i=>zd (F c i) i5).mono ?_⟩
 ·exact⟨rs,J.1,J.2.1,J.2.2⟩
 rintro _ U ⟨rfl,M⟩;exact⟨_,i0,i0,M.aT 3 [0,1]⟩
variable {b:eY} {x:bX} {offs:Int} {da:List bm} {ds:aE}
theorem aa.aaW(n:Nat)(f:n<64)(g:ds[n]?=dB eH)(H:aa B h0 h (bh bw a pw (aS x) offs da w ds::iU pw b d::As)){K:Unit->f8->Prop}
  (j:∀h',aa B h0 h' (bh bw a pw (aS x) offs (da.set n (dB b)) w (ds.set n (dB d))::As)->K () h'):
  az xD (qf 57 (xv (dB ((a.add 10).add n))) (xv (dB b))) h K:=by
 obtain⟨ok,e⟩:=Go.Vc.aa.oc H;have i:(a.add 10).add n=a.add (10+n):=by unfold Addr.add;simp[Nat.add_assoc]
 rw[i];refine e.storeAt an 0 i0 i0 i0 i0 i0 (by simp[ok.la];omega) λh' c=>j h' ?_;rw[zw,Mr ok.l8]at c;exact aa.adK ok f g c
end Go.Qw
namespace Wl
open Go
theorem Bo(ds:aE)(n:Nat)(d:bj)(s:Int)(c:n<64)(b:ii ds=64):aX (bK ds (n:Int) d) s=if s=(n:Int)then dB d else aX ds s:=by
 unfold aX bK;rw[ql];by_cases h:0<=s/\s<64
 ·rw[f9 h,f9 h,zb];by_cases a:s=(n:Int)
  ·subst a;rw[f9 i0,ql,f9 i0,f9 i4];rfl
  ·rw[g0 a,g0 i4]
 ·rw[g0 h,g0 h,g0 i4]
theorem kD{ds:aE}{s:Int}{d:bj}(h:aX ds s=dB d):∃n:Nat,s=(n:Int)/\n<64:=by
 unfold aX at h;by_cases a:0<=s/\s<64
 ·exact⟨s.toNat,i4,i4⟩
 ·rw[g0 a]at h;cases h
structure Fit (ds:aE) (S Q:aw):Prop where
 len:ii ds=64
 at_:∀s∈S,∃d,aX ds s=dB d/\d.lost=eS/\d.l.length+Q.count s<=d.room
theorem SC{d:bj}{n:Nat}(w:Pow)(b:aV)(a:d.lost=eS)(f:ii d.l+(n+1)<=d.room)(g:ii b=64):
  ((d.append w b).1=0∨(d.append w b).1=14)/\(d.append w b).2.2.lost=eS/\(d.append w b).2.2.l.length+n<=(d.append w b).2.2.room:=by
 unfold bj.append;rw[g0 i4,g0 oi,g0 i4];by_cases e:w.off
 ·rw[f9 e];exact⟨.inr i0,a,i6⟩
 ·rw[g0 e];by_cases c:w.step.1
  ·rw[f9 c];exact⟨.inl i0,a,i7⟩
  ·rw[g0 c];exact⟨.inr i0,a,i7⟩
theorem Ym{d:bj}(w:Pow)(a:d.lost=eS):((d.sync w).1=0∨(d.sync w).1=14)/\(d.sync w).2.2.lost=eS/\(d.sync w).2.2.l=d.l/\(d.sync w).2.2.room=d.room:=by
 unfold bj.sync;rw[g0 oi];by_cases b:w.step.1
 ·rw[f9 b];exact⟨.inl i0,a,i0,i0⟩
 ·rw[g0 b];exact⟨.inr i0,a,i0,i0⟩
theorem NG{ds:aE}{S Q:aw}{x:Int}(w:Pow)(b:aV)(F:Fit ds S (x::Q))(p:x∈S)(i:ii b=64):
  ((fO w ds x b).1=0∨(fO w ds x b).1=14)/\Fit (fO w ds x b).2.2 S Q:=by
 obtain⟨d,f,q,j⟩:=F.at_ x p;rw[List.count_cons_self]at j;obtain⟨n,rfl,o⟩:=kD f;have A:=SC w b q (n:=Q.count (n:Int)) i4 i;have e:fO w ds (n:Int) b=((d.append w b).1,(d.append w b).2.1,bK ds (n:Int) (d.append w b).2.2):=by unfold fO;rw[f]
 rw[e];refine⟨A.1,by unfold bK;rw[zl];exact F.len,λs k=>?_⟩;rw[Bo _ _ _ _ o F.len];by_cases a:s=(n:Int)
 ·subst a;rw[f9 rfl];exact⟨_,i0,A.2⟩
 ·rw[g0 a];obtain⟨m,g,l,c⟩:=F.at_ s k;rw[List.count_cons_of_ne λh=>a h.symm]at c;exact⟨m,g,l,c⟩
theorem SD{ds:aE}{S:aw}{x:Int}(w:Pow)(F:Fit ds S [])(k:x∈S):((gH w ds x).1=0∨(gH w ds x).1=14)/\Fit (gH w ds x).2.2 S []:=by
 obtain⟨d,b,l,f⟩:=F.at_ x k;obtain⟨n,rfl,i⟩:=kD b;obtain⟨c,A2,j,g⟩:=Ym w l;have e:gH w ds (n:Int)=((d.sync w).1,(d.sync w).2.1,bK ds (n:Int) (d.sync w).2.2):=by unfold gH;rw[b]
 rw[e];refine⟨c,by unfold bK;rw[zl];exact F.len,λs h=>?_⟩;rw[Bo _ _ _ _ i F.len];by_cases a:s=(n:Int)
 ·subst a;rw[f9 rfl];exact⟨_,i0,A2,by rw[j,g];exact f⟩
 ·rw[g0 a];exact F.at_ s h
end Wl
namespace Go.Vc
open Go Wl Go.Qw
theorem Lx(l:aw)(k:Nat):(bo l k).Nodup:=by unfold bo;refine List.Pairwise.filter _ (y0.2 ?_);exact(List.nodup_range (n:=k)).imp λh=>i4
theorem Vw{l:aw}(h:(eU l).2=eR):(eU l).1=bo l l.length/\l.length<=64/\∀n:Nat,l.getD n 0<=512:=by
 unfold eU at h⊢;by_cases a:l.all (fm · 0 512)=eR
 ·rw[f9 a]at h⊢;refine⟨i0,by simp at h;exact h.1,λn=>?_⟩;rw[qe];by_cases b:n<ii l
  ·rw[qd b];have:=q7.1 a _ (qg b);unfold fm at this;simp at this⊢;omega
  ·rw[qP i4];simp
 ·rw[g0 a]at h;cases h
theorem Qi(l:aw)(i n:Nat)(e:i<ii (bo l l.length))(f:(bo l l.length)[i]=(n:Int))(c:n<64):(im l i)[n]?=dB eH:=by unfold im;rw[qR,zt c,q9,g0];intro g;obtain⟨j,h,d⟩:=List.mem_take_iff_getElem.1 g;have:=DT (Lx l l.length) (a:=j) (b:=i) i4 e (by rw[d,f]);omega
theorem AE(m:aC):∀S:aw,ii (bJ m S)=ii S*ii (bn m)
 |[]=>by simp[bJ]
 |n::S=>by
  have e:bJ m (n::S)=(bn m).map (λc=>(n,c))++bJ m S:=by unfold bJ;rw[zf]
  rw[e,qw,qx,AE m S,zh,zH,Nat.add_comm]
theorem Vx(p:Pm)(extra:Int)(l:aw)(a:ii l<=64):dh (cE p extra l):=⟨by have:=pd l l.length;simp[cE];omega,by simp[cE],by simp[cE]⟩
end Go.Vc
namespace Go.Qw
open Go Go.Vc Go.Proofs Wl
variable {B:aA} {h0 h:f8} {As:List HP} {pw:eY} {w:Pow}
theorem SE(p:Pm)(extra:Int)(s:Sl)(l:aw)(hS:St B h0 As λh=>Rd h s 1 ak l)(hl:ii l<=2^20)(H:aa B h0 h (dv 121 pw w::As)):
  aq xD 32 #[kb p,xt xz extra,xv (dB pw),s] h λv h'=>
   ((gh p extra w l).1≠0->v=.tuple #[xv eH,xt xz (gh p extra w l).1]/\aa B h0 h' As)/\
   ((gh p extra w l).1=0->∃(a:eY) (x:bX) (da:List bm),v=.tuple #[xv (dB a),xt xz 0]/\aa B h0 h' (bh bw a pw (aS x) w.offs da (gh p extra w l).2.1 (gh p extra w l).2.2::bS x (cE p extra l)::As)):=by
 refine HD p extra (dB pw) s ?_;refine H.boxed λa1 h1 H1=>?_;have H1:=H1.bv;refine(Sr s l h1 (hS.at [_,_] H1) hl).mono ?_;rintro _ h2 ⟨r,rfl,R2⟩;have H2:=H1.cj R2;refine⟨(r,(eU l).2),i0,?_⟩;have j:∀{h':f8},aa B h0 h' As->((eU l).2&&(bM p&&fm extra 0 16))=eS->
   ((gh p extra w l).1≠0->Value.tuple #[xv eH,xt xz 1]=.tuple #[xv eH,xt xz (gh p extra w l).1]/\aa B h0 h' As)/\
   ((gh p extra w l).1=0->∃(a:eY) (x:bX) (da:List bm),Value.tuple #[xv eH,xt xz 1]=.tuple #[xv (dB a),xt xz 0]/\aa B h0 h' (bh bw a pw (aS x) w.offs da (gh p extra w l).2.1 (gh p extra w l).2.2::bS x (cE p extra l)::As)):=λ{h'} H' hc=>by
  have e:gh p extra w l=(1,w,[]):=by unfold gh;rw[hc];rfl
  rw[e];exact⟨λ_=>⟨i0,H'⟩,λh=>absurd h (show¬(1:Int)=0 by decide)⟩
 refine bc (bi (λe=>j H2.rest.rest.rest o1) λe=>?_);have ep:(eU l).2=eR:=l7
 obtain⟨ax,A,J⟩:=Vw ep;refine⟨p,(H2.box 1 i0).aP _ i0,(eT p h2).mono ?_⟩;rintro _ h3 ⟨rfl,R3⟩;have D:aa B h0 h3 (ae 3 r 1 ak (eU l).1::al a1 26 [xt xz p.1,xt xz p.2.1,xt xz p.2.2]::dv 121 pw w::As):=by have:=H2.comp R3;rw[qM]at this;exact this
 refine⟨_,i0,bi (λe2=>j D.rest.rest.rest (by rw[e2];simp)) λe2=>?_⟩;have em:bM p=eR:=n3
 refine ac (λe3=>j D.rest.rest.rest n8) λe3=>ac (λe4=>j D.rest.rest.rest n8) λe4=>bA (λe5=>by cases e5) λ_=>?_;rw[ax]at D;refine bc ⟨p,(D.box 1 i0).aP _ i0,?_⟩;obtain⟨lw,bd,a0⟩:=(D.aT 3 [2,1,0]).Bh;refine(Ml lw (a0.box 0 i0)).mono ?_;rintro _ h4 ⟨rfl,rfl⟩;have K:=D.box 1 i0;refine⟨_,i0,⟨K.cell0 i0,K.cell i0,K.cell i0,trivial⟩,?_⟩;obtain⟨m,M⟩:∃m,m=cE p extra l:=⟨_,rfl⟩
 refine⟨_,Ye (1,0,p.1,p.2.1,p.2.2,extra,r,⟨eH,0,0⟩) pw w.offs,?_⟩;refine D.boxed λa9 h6 f=>?_;obtain⟨x,hx⟩:∃x:bX,x=(1,0,p.1,p.2.1,p.2.2,extra,r,⟨eH,0,0⟩):=⟨_,rfl⟩
 rw[<-hx]at f;have F:(Value.agg (cQ (aS x) pw w.offs (qh 64 eH)).toArray).cells.toList=cQ (aS x) pw w.offs (qh 64 eH):=j7
 rw[F]at f;have f:=f.bv;have I:=f.box 2 i0;refine⟨⟨I.cell0 i0,I.cell i0,I.cell i0,trivial⟩,?_⟩;have f:aa B h0 h6 (al a9 91 (cQ (aS x) pw w.offs (qh 64 eH))::dv 121 pw w::ae 3 r 1 ak (bo l l.length)::As):=f.aT 4 [0,3,1];have f:=aa.Yd (k:=bw) (h8:=by simp) f;obtain⟨P,o⟩:∃P,P=bo l l.length:=⟨_,rfl⟩
 rw[<-o]at f;have hz:dh m:=M▸Vx p extra l A;have a7:ii P<=64:=by rw[o];exact zd (pd _ _) A
 have Y:∀{h':f8} {Bs:List HP} {X:HP},aa B h0 h' (X::ae 3 r 1 ak P::Bs)->dH h' x m:=λ{h' Bs X} H'=>by
  have hs:=H'.seq 1 i0 λ_=>rfl;have hc:=(H'.own 1 i0).cap;subst hx;subst M;exact⟨i0,i0,i0,i0,by show Seq _ _ r 1 ak (bo l l.length);rw[<-o];exact hs,bH.nil _ _ _ _,hc,qm _⟩
 have S:((eU l).2&&(bM p&&fm extra 0 16))=eR:=by rw[ep,em];unfold fm;simp;omega
 have R:(P.any λi=>decide (l.getD i.toNat 0<(ii (bn m):Int)))=eR->gh p extra w l=(7,w,[]):=λhh=>by
  unfold gh;rw[f9 S,<-o,<-M,f9 hh]
 have ad:(P.any λi=>decide (l.getD i.toNat 0<(ii (bn m):Int)))=eS->gh p extra w l=layAll (bJ m P) w (im l P.length):=λhh=>by
  unfold gh;rw[f9 S,<-o,<-M,hh,g0 i5]
 have G:∀i (N:i<ii P),∃n:Nat,n<ii l/\P[i]=(n:Int)/\0<l.getD n 0:=by subst o;exactλi N=>Su l l.length i N
 refine av (λi:Nat=>(i:Int)) (λi h'=>i<=ii P/\((P.take i).any λi=>decide (l.getD i.toNat 0<(ii (bn m):Int)))=eS/\aa B h0 h' (bh bw a9 pw (aS x) w.offs (qh 64 eH) w (qh 64 eH)::ae 3 r 1 ak P::As)) (λi=>ii P-i) 0 i0 ⟨i4,i9,f⟩ ?_;rintro i h7 ⟨N,g,E⟩;dsimp only at*;obtain⟨bk,ay⟩:=aa.dl E;have bb:r.len=ii P:=(E.own 1 i0).len;refine ac (λe5=>?_) (λe5=>?_)
 ·have c:i<ii P:=i4
  obtain⟨n,O,z,Q⟩:=G i c;refine(E.seq 1 i0 λ_=>rfl).bD i i0 c (n:Int) (by rw[z];rfl) ?_;refine(hS.at [_,_] E).NY n i0 O (l.getD n 0) (by rw[getD_lt O];rfl) λb2 Z=>?_;refine⟨a9,i0,x,ay.aP _ ld,(oY x m h7 (Y E) hz).mono ?_⟩;rintro _ h9 ⟨u,rfl,R9⟩;have H9:=E.cj R9;have b1:=(aa.sa H9).1;refine⟨u,i0,kp R9.ag ⟨Z,trivial⟩,?_⟩;refine ac (λe6=>?_) (λe6=>?_)
  ·rw[R (wk.2 ⟨P[i],qg c,by rw[z,ql];exact g9 i4⟩)];exact⟨λ_=>⟨i0,H9.rest.rest.rest⟩,λh=>absurd h (show¬(7:Int)=0 by decide)⟩
  ·refine⟨i+1,js,⟨i4,?_,H9.rest⟩,i4⟩;rw[aH _ _ c,yU,g,vB,xn,xo,Bool.or_false,z,ql];exact hU i4
 ·have L:i=ii P:=i4
  subst L;rw[qV]at g;have a6:=ad g;rw[<-Qc l]at E;refine av (λt:Nat×List bm=>(t.1:Int)) (λt h'=>t.1<=ii P/\aa B h0 h' (bh bw a9 pw (aS x) w.offs t.2 w (im l t.1)::ae 3 r 1 ak P::As)) (λt=>ii P-t.1) (0,qh 64 eH) i0 ⟨i9,E⟩ ?_;rintro⟨i,da⟩ W ⟨N,d⟩;dsimp only at*;obtain⟨bs,U⟩:=aa.dl d;refine ac (λe6=>?_) (λe6=>?_)
  ·have c:i<ii P:=i4
   obtain⟨n,O,z,Q⟩:=G i c;have a8:=J n;refine(d.seq 1 i0 λ_=>rfl).bD i i0 c (n:Int) (by rw[z];rfl) ?_;refine(hS.at [_,_] d).bD n i0 O (l.getD n 0) (by rw[getD_lt O];rfl) ?_;refine⟨a9,i0,(Ju (l.getD n 0) pw W).mono ?_⟩;rintro _ bl ⟨Q1,_⟩;obtain⟨b,rfl,a5⟩:=Q1 i4;have a4:=(d.cj a5).aT 2 [1,0];refine⟨_,i0,trivial,⟨i4,i4⟩,?_⟩;rw[ql,z8];have ab:i<ii (bo l l.length):=by rw[<-o];exact c
   have T:(bo l l.length)[i]=(n:Int):=by rw[<-z];simp only[o]
   refine Go.Qw.aa.aaW n i4 (Qi l i n ab T i4) a4 λbq a3=>?_;refine⟨trivial,(i+1,da.set n (dB b)),jj,⟨i6,?_⟩,i6⟩;dsimp only;rw[<-Qd l i n ab T i4];exact a3
  ·have L:i=ii P:=i4
   subst L;refine⟨a9,i0,x,U.aP _ ld,(GL x m r P W (Y d) hz (d.seq 1 i0 λ_=>rfl) i4).mono ?_⟩;rintro _ br ⟨u,ys,rfl,ar⟩;have a2:=(d.cj ar).aT 2 [1,0];refine⟨u,i0,?_⟩;have ah:=kz m hz;refine(EQ u ys (bJ m P) (St.dS 0 i0 λ_ V=>V) ?_ ?_ a2).mono ?_
   ·rw[AE];have:=wb a7 ah;omega
   ·intro y hy;obtain⟨ao,ap⟩:=kO hy;obtain⟨i,N,e⟩:=qL ao;obtain⟨n,O,z,_⟩:=G i N;rw[<-e,z,ap];exact⟨⟨i4,i4⟩,i5⟩
   rintro _ b0 ⟨rfl,am⟩;rw[a6];refine⟨_,i0,ci (λe7=>⟨λ_=>⟨i0,am.rest.rest.rest⟩,λh=>absurd h e7⟩) λe7=>⟨λh=>absurd e7 h,λ_=>⟨a9,x,da,i0,?_⟩⟩⟩;rw[<-M];exact am.oD.gb 1 i0 λq V=>by
    subst hx;subst M;exact⟨i0,i0,i0,i0,by show Seq _ _ r 1 ak (bo l l.length);rw[<-o];exact V.1.seq (λ_=>rfl) V.2,bH.nil _ _ _ _,V.1.cap,qm _⟩
end Go.Qw
namespace Wl
open Go
def nH(m:aC)(ds:aE)(k n:Int):Bool:=match aX ds k with|some d=>gP m d n|none=>eS
def dN(m:aC)(ds:aE)(l:aw)(N:Int->Int):Bool:=l.all λk=>nH m ds k (N k)
def iV(m:aC)(w:Pow)(ds:aE)(k n:Int):Int×Pow×aE:=
 match aX ds k with
 |none=>(5,w,ds)
 |some d=>((gj m w d n).1,(gj m w d n).2.1,bK ds k (gj m w d n).2.2)
def makes(m:aC)(N:Int->Int):aw->Pow->aE->Int×Pow×aE
 |[],w,ds=>(0,w,ds)
 |k::l,w,ds=>if(iV m w ds k (N k)).1=0 then makes m N l (iV m w ds k (N k)).2.1 (iV m w ds k (N k)).2.2 else iV m w ds k (N k)
end Wl
namespace Go.Qw
open Go Go.Vc Go.Proofs Wl
theorem Yn(f:FuncId)(pre post:Array Value)(P:Int->Bool)(s:Sl)(l:aw)(h:f8)(t:C.fns[f]?=dB eR)(m:Rd h s 1 ak l)(y:ii l<=2^30)
  (u:∀k∈l,∀h',Sp h h' []->aq xD f (pre.toList++[Value.int .i64 k]++post.toList).toArray h' λv e=>v=xx (P k)/\Sp h' e []):
  aq xD 147 #[s,.func (.func f) pre post] h λv h'=>v=xx (l.any P)/\Sp h h' []:=by
 refine ka s (f,pre,post) ?_;refine(iK s (f,pre,post) (R:=λv h'=>(∃i:Int,v=xt xz i/\decide (i>=0)=l.any P)/\Sp h h' []) ?_).mono ?_
 ·skip
  have p:=m.len;refine av (λi:Nat=>(i:Int)) (λi h'=>i<=ii l/\(l.take i).any P=eS/\Sp h h' []) (λi=>ii l-i) 0 i0 ⟨i4,i9,Sp.refl h⟩ ?_;rintro i o ⟨n,a,c⟩;refine ac (λd=>?_) (λd=>?_)
  ·have b:i<ii l:=by have r:(i:Int)<(s.len:Int):=d;omega
   refine(Seq.up m c.ag).bD i i0 b l[i] i0 (fo t ?_);refine(u l[i] (qg b) o c).mono ?_;rintro _ x ⟨rfl,w⟩;have j:=c.up w.ag;refine⟨_,i0,bA (λg=>⟨⟨i,i0,?_⟩,j⟩) λg=>?_⟩
   ·rw[wk.2 ⟨_,qg b,g⟩];exact g9 i4
   ·refine⟨i+1,js,⟨i4,?_,j⟩,i4⟩;rw[aH _ _ b,yU,a,xn,xo,g];rfl
  ·have r:¬(i:Int)<(s.len:Int):=d;rw[qi i4]at a;exact⟨⟨-1,i0,by rw[a];rfl⟩,c⟩
 ·rintro _ o ⟨⟨i,rfl,n⟩,q⟩;exact⟨i,i0,by rw[n],q⟩
variable {B:aA} {h0 h:f8} {As:List HP} {a pw:eY} {offs:Int} {da:List bm} {w:Pow} {ds:aE}
def Oe(f:FuncId)(pre post:Array Value)(N:Int->Int)(l:aw)(h:f8):Prop:=∀k∈l,aq xD f (pre.toList++[Value.int .i64 k]++post.toList).toArray h λv h'=>v=xt xz (N k)/\Sp h h' []
theorem JI(f:FuncId)(pre post:Array Value)(N:Int->Int)(x:bX)(m:aC)(s:Sl)(l:aw)(hf:C.fns[f]?=dB eR)(T:St B h0 As λh=>dH h x m/\Oe f pre post N l h)(hz:dh m)(hs:Rd h s 1 ak l)(hl:ii l<=2^30)(I:∀k∈l,0<=k/\k<64)(H:aa B h0 h (bh bw a pw (aS x) offs da w ds::As)):
  aq xD 86 #[xv (dB a),s,.func (.func f) pre post] h λv h'=>v=xx (dN m ds l N)/\Sp h h' []:=by
 refine Cm (dB a) s (f,pre,post) ?_;refine(Sp.refl h).boxed λr h1 Y=>Y.boxed λR D t=>?_;have V:aa B h0 D (bh bw a pw (aS x) offs da w ds::As):=H.up t.ag;have g:cw D r 23 [xv (dB a)]:=t.box 0 i0;have O:=t.box 1 i0;refine(Yn 148 #[] #[xv (dB r),xv (dB R)] (λk=>!nH m ds k (N k)) s l D ld (hs.up t.ag) hl ?_).mono ?_
 ·intro k M h3 i;have z:=V.up i.ag;have P:=(g.ag i.ag g.lt).cell0 i0;have Z:=(O.ag i.ag O.lt).cell0 i0;obtain⟨ok,u⟩:=aa.dl z;have Q:=I k M;refine Au k r R ?_;obtain⟨n,rfl⟩:∃n:Nat,k=n:=⟨k.toNat,i4⟩
  have K:n<ii da:=by rw[ok.la];omega
  have X:cellOf h3 ((a.add 10).add ((n:Int).toNat*1))=dB (.pointer da[n]):=by rw[ql,z8];refine u.xS 10 n ?_;rw[xT ok.l8,qd K];rfl
  obtain⟨ab,y⟩:=T.at [_] z;refine⟨dB a,P,a,i0,⟨i4,i4⟩,da[n],X,dB a,P,a,i0,x,u.aP _ i0,(f,pre,post),Z,fo hf ?_⟩;refine(y n M).mono ?_;rintro _ G ⟨rfl,p⟩;have U:=z.up p.ag;have q:=((g.ag i.ag g.lt).ag p.ag (g.ag i.ag g.lt).lt).cell0 i0;have c:=u.ag p.ag u.lt;have L:cellOf G ((a.add 10).add ((n:Int).toNat*1))=dB (.pointer da[n]):=by rw[ql,z8];refine c.xS 10 n ?_;rw[xT ok.l8,qd K];rfl
  refine⟨_,i0,⟨c.cell0 i0,c.cell i0,c.cell i0,c.cell i0,c.cell i0,c.cell i0,c.cell i0,c.cell i0,q,L,q,trivial⟩,?_⟩;have J:ib da (n:Int)=da[n]:=by unfold ib;rw[f9 i4,ql,qd K];rfl
  rw[<-J];have fin:∀{F:Bool} {j:f8},F=nH m ds n (N n)->Sp G j []->au.ok [(r,xv (dB a)),(r,xv (dB a))] j/\(Value.bool (!F)=xx (!nH m ds n (N n))/\Sp h3 j []):=λ{F j} he o=>by
   have S:=(g.ag i.ag g.lt).ag p.ag (g.ag i.ag g.lt).lt;have:=(S.ag o.ag S.lt).cell0 i0;exact⟨⟨this,this,trivial⟩,by rw[he],.zip (aa.up p o.ag).ag⟩
  rcases mU ok (n:Int)with⟨e1,e2⟩|⟨n',d,b,e0,e1,e2,e3,e4,e5⟩
  ·rw[e2];refine(Qh x _ G).mono ?_;rintro _ j ⟨rfl,o⟩;exact⟨_,i0,fin (by unfold nH;rw[e1]) o⟩
  ·rw[e5];obtain⟨b',e,W⟩:=Go.Vc.aa.jA U e2;rw[e4]at e;injection e with e
   injection e with e
   subst e;obtain⟨E,sd,bd,A⟩:=aa.oX W;refine(EX sd bd x m (N n) (A.box 0 i0) ((A.aT 2 [1]).DX λ_=>rfl) (aa.sa (A.aT 2 [1])).1 E (T.at [_] U).1 hz).mono ?_;rintro _ j ⟨rfl,o⟩;exact⟨_,i0,fin (by unfold nH;rw[e3]) o⟩
 ·rintro _ h3 ⟨rfl,i⟩;refine⟨_,i0,?_,.zip (aa.up t i.ag).ag⟩;unfold dN;rw[List.not_any_eq_all_not];simp
theorem Qj(x:bX)(n:Int)(h:f8):aq xD 150 #[xv eH,fT x,xt xz n] h λv h'=>v=xt xz 5/\Sp h h' []:=by refine Dl eH x n ?_;refine(Sp.refl h).boxed λb c a=>?_;exact bc (bc (bA (λ_=>bA (λ_=>⟨i0,.zip a.ag⟩) λe=>j0) λe=>j0))
theorem Vy(m:aC)(N:Int->Int)(l:aw)(w:Pow)(ds:aE)(i:Nat)(a:i<ii l):makes m N (l.drop i) w ds=if(iV m w ds l[i] (N l[i])).1=0 then makes m N (l.drop (i+1)) (iV m w ds l[i] (N l[i])).2.1 (iV m w ds l[i] (N l[i])).2.2 else iV m w ds l[i] (N l[i]):=by rw[qQ a];rfl
theorem JJ(f:FuncId)(pre post:Array Value)(N:Int->Int)(x:bX)(m:aC)(s:Sl)(l:aw)(hf:C.fns[f]?=dB eR)(M:St B h0 As λh=>dH h x m/\Oe f pre post N l h/\Rd h s 1 ak l)(hz:dh m)(hl:ii l<=2^30)(K:∀k∈l,0<=k/\k<64)(H:aa B h0 h (bh bw a pw (aS x) offs da w ds::As)):
  aq xD 87 #[xv (dB a),s,.func (.func f) pre post] h λv h'=>v=xt xz (makes m N l w ds).1/\aa B h0 h' (bh bw a pw (aS x) offs da (makes m N l w ds).2.1 (makes m N l w ds).2.2::As):=by
 refine Ba (dB a) s (f,pre,post) ?_;have W:=(M.at [_] H).2.2.len;obtain⟨Z,Q⟩:∃Z,Z=makes m N l w ds:=⟨_,rfl⟩
 rw[<-Q];refine av (λt:Nat×Pow×aE=>(t.1:Int)) (λt h'=>t.1<=ii l/\Z=makes m N (l.drop t.1) t.2.1 t.2.2/\aa B h0 h' (bh bw a pw (aS x) offs da t.2.1 t.2.2::As)) (λt=>ii l-t.1) (0,w,ds) i0 ⟨i9,Q,H⟩ ?_;rintro⟨i,A,u⟩ h1 ⟨hi,q,F⟩;dsimp only at*;refine ac (λe=>?_) λe=>?_
 ·have p:i<ii l:=i4
  rw[Vy _ _ _ _ _ _ p]at q;obtain⟨U,I,G⟩:=M.at [_] F;refine G.bD i i0 p l[i] i0 (bc ?_);have E:=K l[i] (qg p);obtain⟨k,J⟩:∃k,k=l[i]:=⟨_,rfl⟩
  have O:k∈l:=by rw[J];exact qg p
  rw[<-J]at q E;rw[<-J];obtain⟨n,rfl⟩:∃n:Nat,k=n:=⟨k.toNat,i4⟩
  obtain⟨ok,z⟩:=aa.dl F;have T:n<ii da:=by rw[ok.la];omega
  have R:∀{h':f8},cw h' a 91 (cQ (aS x) pw offs da)->cellOf h' ((a.add 10).add ((n:Int).toNat*1))=dB (.pointer da[n]):=λ{h'} z=>by
   rw[ql,z8];refine z.xS 10 n ?_;rw[xT ok.l8,qd T];rfl
  refine⟨a,i0,⟨i4,i4⟩,da[n],R z,a,i0,x,z.aP _ i0,fo hf ?_⟩;refine(I n O).mono ?_;rintro _ h2 ⟨rfl,S⟩;have P:=F.up S.ag;have g:=z.ag S.ag z.lt;refine⟨_,i0,⟨g.cell0 i0,g.cell i0,g.cell i0,g.cell i0,g.cell i0,g.cell i0,g.cell i0,g.cell i0,R g,trivial⟩,?_⟩;have L:ib da (n:Int)=da[n]:=by unfold ib;rw[f9 i4,ql,qd T];rfl
  rw[<-L];obtain⟨c,o⟩:∃c,c=iV m A u n (N n):=⟨_,rfl⟩
  rw[<-o]at q;have fin:∀{h3:f8},aa B h0 h3 (bh bw a pw (aS x) offs da c.2.1 c.2.2::As)->au.ok [] h3/\Br (c.1 !=(0:Int)) (Value.int .i64 c.1=xt xz Z.1/\aa B h0 h3 (bh bw a pw (aS x) offs da Z.2.1 Z.2.2::As))
    (∃r:Nat×Pow×aE,qc xz ((i:Int)+1)=(r.1:Int)/\(r.1<=ii l/\Z=makes m N (l.drop r.1) r.2.1 r.2.2/\aa B h0 h3 (bh bw a pw (aS x) offs da r.2.1 r.2.2::As))/\l.length-r.1<ii l-i):=λ{h3} H3=>by
   refine⟨trivial,ci (λy=>?_) λy=>?_⟩
   ·rw[g0 y]at q;rw[q];exact⟨i0,H3⟩
   ·rw[f9 y]at q;exact⟨(i+1,c.2.1,c.2.2),jj,⟨i6,q,H3⟩,i6⟩
  rcases mU ok (n:Int)with⟨e1,y⟩|⟨n',d,b,e0,e1,y,e3,e4,e5⟩
  ·rw[y];have D:c=(5,A,u):=by rw[o];unfold iV;rw[e1]
   refine(Qj x _ h2).mono ?_;rintro _ h3 ⟨rfl,X⟩;exact⟨c.1,by rw[D],fin (h3:=h3) (by rw[D];exact P.up X.ag)⟩
  ·rw[e5];have en:n=n':=i4
   subst en;obtain⟨b',j,V⟩:=Go.Vc.aa.jA P y;rw[e4]at j;injection j with j
   injection j with j
   subst j;have D:c=((gj m A d (N n)).1,(gj m A d (N n)).2.1,u.set n (dB (gj m A d (N n)).2.2)):=by rw[o];unfold iV;rw[e3];simp only[bK,ql]
   refine(Mw x m (N n) (λBs h' hh=>(M (Bs++[_]) h' (by rw[qp];exact hh)).1) hz V).mono ?_;rintro _ h3 ⟨rfl,H6⟩;have Y:=Go.Vc.aa.pU (k:=bw) (n:=n) e4 H6;exact⟨c.1,by rw[D],fin (h3:=h3) (by rw[D];exact Y)⟩
 ·rw[zk i4]at q;rw[q];exact⟨i0,F⟩
def aaX(a b:dV):Int:=if fp a.1 b.1 then-1 else if jP a.1 b.1 then 0 else 1
def jB(a b:dV):Bool:=jP a.1 b.1
theorem Qk(a b:dV):aaX a b<0↔¬jB b a=eR:=by unfold aaX jB jP;cases h:fp a.1 b.1<;>simp;split<;>omega
theorem EY:Ord jB:=⟨λa b c=>Ef a.1 b.1 c.1,λa b=>Eg a.1 b.1⟩
abbrev Ql(x:dV):Value:=xy #[xw x.1,xt xz x.2.1,xt xz x.2.2.1,x.2.2.2]
theorem NH(x y:ByteArray)(h:f8):aq xD 146 #[xw x,xw y] h λv h'=>v=xt xz (if fp x y then-1 else if jP x y then 0 else 1)/\h'=h:=by
 refine Ar x y ?_;have a:∀z:ByteArray,aq xD 209 #[xw z] h λv h'=>v=xx eS/\h'=h:=λz=>by
  refine Cu z ?_;exact⟨i9,i0⟩
 refine(a x).mono ?_;rintro _ _ ⟨rfl,rfl⟩;refine⟨_,i0,(a y).mono ?_⟩;rintro _ _ ⟨rfl,rfl⟩;refine⟨_,i0,bA (λe=>j0) λ_=>bA (λe=>j0) λ_=>?_⟩;have d:Op.bytesLess x.toList y.toList=fp x y:=rfl;rw[Ob,d];have c:(!Op.bytesLess y.toList x.toList)=jP x y:=rfl;rw[c];refine bA (λe=>⟨o1,i0⟩) λe=>bi (λb=>⟨by rw[e,b];rfl,i0⟩) λb=>⟨by rw[e,b];rfl,i0⟩
theorem Vz(a b:dV)(h:f8):aq xD 145 #[Ql a,Ql b] h λv h'=>v=xt xz (aaX a b)/\Sp h h' []:=by refine HJ a b ?_;refine(Sp.refl h).boxed λe i f=>f.boxed λg d c=>?_;have c:Sp h d [al e 94 (bE a),al g 94 (bE b)]:=c;refine⟨a.1,(c.box 0 i0).cell0 i0,b.1,(c.box 1 i0).cell0 i0,(NH a.1 b.1 d).mono ?_⟩;rintro _ _ ⟨rfl,rfl⟩;exact⟨_,i0,i0,.zip c.ag⟩
abbrev sn(s:Sl)(d:List dV):HP:=ae 94 s 4 bE d
variable {h':f8} {s:Sl} {d:List dV}
theorem SF{d c:List dV}{y:dV}(b:Sd jB (d++c))(f:∀z∈d,jB z y=eR)(g:∀z∈c,¬jB z y=eR):Sd jB (d++y::c):=
 Sd.app EY b.left (zG.2 ⟨λz a=>EY.Ec (g z a),b.right⟩) λx e z a=>by
  rcases q8.1 a with rfl|a
  ·exact f x e
  ·exact b.FS x e z a
theorem JK(X M Y:List dV)(a b:Int)(ha:a=(ii X:Int))(hb:b=(ii X+ii M:Nat))(ah:ii X+ii M+ii Y<=2^40)(H:aa B h0 h (sn s (X++(M++Y))::As)):
  aq xD 264 #[s,xt xz a,xt xz b,.func (.func 145) #[] #[]] h λv h'=>v=.tuple #[]/\∃M',Sd jB M'/\cH jB M M'/\aa B h0 h' (sn s (X++(M'++Y))::As):=by
 refine lD s a b (145,#[],#[]) ?_;subst ha;subst hb;rw[af ((ii X:Int)+1)];refine av (λt:Nat×List dV=>((ii X+1+t.1:Nat):Int)) (λt h'=>(t.1+1<=ii M∨t.1=0)/\Sd jB t.2/\cH jB (M.take (t.1+1)) t.2/\t.2.length=ii (M.take (t.1+1))/\aa B h0 h' (sn s (X++(t.2++(M.drop (t.1+1)++Y)))::As)) (λt=>ii M-t.1) (0,M.take 1) i0 ?_ ?_
 ·refine⟨.inr i0,?_,cH.refl _,i0,?_⟩
  ·cases M with
   |nil=>exact List.Pairwise.nil
   |cons x M=>exact zG.2 ⟨λ_ h=>m9,i9⟩
  ·rw[<-qp (M.take (0+1)),List.take_append_drop];exact H
 rintro⟨t,P⟩ h1 ⟨ht,p,E,ab,U⟩;dsimp only at*;refine ac (λe=>?_) (λe=>?_)
 ·have K:t+1<ii M:=i4
  obtain⟨y,hy⟩:∃y,y=M[t+1]:=⟨_,rfl⟩
  have I:ii P=t+1:=by rw[ab];simp;omega
  have eD:M.drop (t+1)=y::M.drop (t+1+1):=by rw[qQ K,hy]
  rw[eD]at U;refine av (λu:List dV×List dV=>((ii X+ii u.1:Nat):Int)) (λu h'=>u.1++u.2=P/\(∀z∈u.2,¬jB z y=eR)/\aa B h0 h' (sn s (X++(u.1++(y::(u.2++(M.drop (t+1+1)++Y)))))::As)) (λu=>ii u.1) (P,[]) (by dsimp only;rw[I];congr 1;omega) ⟨i9,i9,by simpa using U⟩ ?_;rintro⟨c,d⟩ h2 ⟨L,f,J⟩;dsimp only at*;have ad:ii c+ii d=t+1:=by rw[<-I,<-L,qw]
  have l:∀{h':f8},(∀z∈c,jB z y=eR)->aa B h0 h' (sn s (X++(c++(y::(d++(M.drop (t+1+1)++Y)))))::As)->
    ∃k:Nat×List dV,qc xz (((ii X+1+t:Nat):Int)+1)=((ii X+1+k.1:Nat):Int)/\((k.1+1<=ii M∨k.1=0)/\Sd jB k.2/\cH jB (M.take (k.1+1)) k.2/\k.2.length=ii (M.take (k.1+1))/\aa B h0 h' (sn s (X++(k.2++(M.drop (k.1+1)++Y)))::As))/\M.length-k.1<ii M-t:=λ{h'} hle H'=>by
   refine⟨(t+1,c++y::d),by dsimp only;rw[af _];omega,⟨.inl i6,?_,?_,?_,?_⟩,i6⟩
   ·exact SF qs hle f
   ·dsimp only;rw[aH M (t+1) K,<-hy];have h1:cH jB (M.take (t+1)++[y]) (P++[y]):=E.app (cH.refl _);refine h1.trans ?_;rw[<-L,qp];have h2:cH jB (d++[y]) ([y]++d):=cH.Xj EY λx hx z S=>by rw[qB.1 S];exact f x hx
    exact(cH.refl _).app h2
   ·dsimp only;simp;omega
   ·dsimp only;have:X++((c++y::d)++(M.drop (t+1+1)++Y))=X++(c++(y::(d++(M.drop (t+1+1)++Y)))):=i9
    rw[this];exact H'
  obtain⟨D,N⟩:∃D,D=X++(c++(y::(d++(M.drop (t+1+1)++Y)))):=⟨_,rfl⟩
  refine bT (λ_ h'=>∃(Q:List dV) (z:dV),c=Q++[z]/\¬jB z y=eR/\aa B h0 h' (sn s D::As)) ?_ ?_
  ·rw[<-N]at J l;refine ac (λO=>?_) (λO=>⟨trivial,l (λz S=>?_) J⟩)
   ·have G:c≠[]:=λh=>by rw[h]at O;simp at O
    obtain⟨Q,z,n⟩:∃(Q:List dV) (z:dV),c=Q++[z]:=⟨c.dropLast,c.getLast G,(List.dropLast_concat_getLast G).symm⟩
    have W:ii c=ii Q+1:=by rw[n];simp
    have g1:D[ii X+ii c]?=dB y:=by rw[N,qj i4,show X.length+ii c-ii X=ii c by omega,qj i4,ze];rfl
    have g2:D[ii X+ii c-1]?=dB z:=by rw[N,qj i4,show X.length+ii c-1-ii X=ii Q by omega,n,qp,qj (qm _),ze];rfl
    obtain⟨R,r⟩:=qn.1 g1;obtain⟨T,q⟩:=qn.1 g2;refine(J.seq 0 i0 λ_=>rfl).dZ (g:=bE) _ i0 R y q0 ?_;have V:qc xz (((ii X+ii c:Nat):Int)-1)=((ii X+ii c-1:Nat):Int):=j3
    rw[V];refine(J.seq 0 i0 λ_=>rfl).dZ (g:=bE) _ i0 T z (by rw[q]) (fo ld ?_);refine(Vz y z h2).mono ?_;rintro _ h3 ⟨rfl,R3⟩;have F:=J.up R3.ag;refine⟨_,i0,trivial,ac (λZ=>⟨Q,z,n,(Qk y z).1 Z,F⟩) λZ=>l (λw m=>?_) F⟩;have o:jB z y=eR:=by
     by_cases hc:jB z y=eR
     ·exact hc
     ·exact absurd ((Qk y z).2 hc) Z
    rw[n]at m;rcases qA.1 m with m|m
    ·refine EY.trans _ _ _ ?_ o;have:Sd jB (Q++[z]):=by rw[<-n];exact Sd.left (v:=d) qs
     exact this.FS w m z i9
    ·rw[qB.1 m];exact o
   ·have:c=[]:=by
     cases c with
     |nil=>rfl
     |cons x P=>exfalso;simp only[zh]at O;omega
    rw[this]at S;cases S
  ·rintro _ h3 ⟨Q,z,n,o,F⟩;have W:ii c=ii Q+1:=by rw[n];simp
   have A:D=(X++Q)++z::([]++y::(d++(M.drop (t+1+1)++Y))):=by rw[N,n];simp
   obtain⟨q1,q2,q3,q4⟩:=PT (X++Q) [] (d++(M.drop (t+1+1)++Y)) z y (i:=ii X+ii c-1) (j:=ii X+ii c) i7 i7;rw[<-A]at q1 q2 q3 q4;obtain⟨T,q⟩:=qn.1 q1;obtain⟨R,r⟩:=qn.1 q2;have V:qc xz (((ii X+ii c:Nat):Int)-1)=((ii X+ii c-1:Nat):Int):=j3
   rw[V];refine(F.seq 0 i0 λ_=>rfl).dZ (g:=bE) _ i0 T z (by rw[q]) ?_;refine(F.seq 0 i0 λ_=>rfl).dZ (g:=bE) _ i0 R y q0 ?_;refine F.set an 0 i0 (λ_=>rfl) i0 (ii X+ii c) i0 R z i0 i0 i0 λh4 H4=>⟨trivial,?_⟩
   refine H4.set an 0 i0 (λ_=>rfl) i0 (ii X+ii c-1) i0 (by simpa using T) y i0 i0 i0 λh5 H5=>⟨trivial,?_⟩
   refine⟨(Q,z::d),by dsimp only;congr 1;omega,⟨by dsimp only;rw[<-L,n];simp,?_,?_⟩,i6⟩
   ·dsimp only;intro w m;rcases q8.1 m with rfl|m
    ·exact o
    ·exact f w m
   ·dsimp only;have:X++(Q++(y::(z::d++(M.drop (t+1+1)++Y))))=(X++Q)++y::([]++z::(d++(M.drop (t+1+1)++Y))):=i9
    rw[this,<-q4];exact H5
 ·refine⟨i0,P,p,?_,?_⟩
  ·rw[qi i4]at E;exact E
  ·rw[zk i4]at U;simpa using U
theorem Qm(r:Nat)(h:f8)(c:r<=2^32):aq xD 155 #[xt xC r] h λv h'=>(∃k:Int,v=xt xz k)/\h'=h:=by intro w a;refine(Tryz.bits_Len (r:Int) w i4 i4).mono ?_;rintro e b ⟨rfl,rfl⟩;exact⟨_,i0,dG.refl _,⟨_,i0⟩,a⟩
theorem VA(d:List dV)(m:ii d<=12)(H:aa B h0 h (sn s d::As)):
  aq xD 144 #[s,.func (.func 145) #[] #[]] h λv h'=>v=.tuple #[]/\aa B h0 h' (sn s (d.mergeSort jB)::As):=by
 refine lY s (145,#[],#[]) ?_;have j:=(H.own 0 i0).len;have a:∀k:Int,aq xD 208 #[s,xt xz 0,xt xz (s.len:Nat),xt xz k,.func (.func 145) #[] #[]] h λv h'=>v=.tuple #[]/\aa B h0 h' (sn s (d.mergeSort jB)::As):=λk=>by
  refine nj s 0 (s.len:Nat) k (145,#[],#[]) ?_;refine av (λ_:Unit=>((0:Int),((s.len:Nat):Int),k,eR,eR)) (λ_ h'=>h'=h) (λ_=>0) () i0 i0 ?_;rintro _ l rfl;refine ac (λ_=>?_) λe=>absurd (show qc xz (((s.len:Nat):Int)-0)<=12 by rw[af _];omega) e;refine(JK [] d [] 0 (s.len:Nat) i0 (by simp[j]) i7 lb).mono ?_;rintro _ g ⟨rfl,M,i,c,b⟩;refine⟨(),i0,i0,?_⟩;rw[<-ack EY i c];simpa using b
 have f:qc xC ((s.len:Nat):Int)=((s.len:Nat):Int):=by unfold qc;simp[qk,va];omega
 rw[f];refine(Qm s.len h i4).mono ?_;rintro _ l ⟨⟨k,rfl⟩,rfl⟩;refine⟨k,i0,(a k).mono ?_⟩;rintro _ g ⟨rfl,b⟩;exact⟨(),i0,i0,b⟩
def Bp:bX:=(0,0,0,0,0,0,⟨eH,0,0⟩,⟨eH,0,0⟩)
theorem SG{m:aC}{e:Wl.cz}{xe:dV}{L:List (dV×Wl.cz)}{pool:List (Sl×aw)}(j:L.map zL=m.aF)(k:∀p∈L,Cy pool p)(l:Cy pool (xe,e)):
  ∃g:List (dV×Wl.cz),g.map qK=(L.map qK++[xe]).mergeSort jB/\g.map zL=(m.aF++[e]).mergeSort sI/\∀p∈g,Cy pool p:=by
 have c:∀p∈L++[(xe,e)],Cy pool p:=λp d=>by
  rcases qA.1 d with d|d
  ·exact k p d
  ·rw[qB.1 d];exact l
 refine⟨(L++[(xe,e)]).mergeSort λa b=>jB a.1 b.1,?_,?_,λp d=>c p ((ym _ _).mem_iff.1 d)⟩
 ·rw[vK (r:=λa b=>jB a.1 b.1) (s:=jB) (f:=qK) λa _ b _=>rfl,qS];rfl
 ·rw[vK (r:=λa b=>jB a.1 b.1) (s:=sI) (f:=zL) (λa h b i=>by unfold jB sI;rw[(c a h).1.1,(c b i).1.1]),qS,j];rfl
theorem Yo(x:bX)(m:aC)(xe:dV)(e:Wl.cz)(W:dH h x m)(Q:dh m)(hs:0<=m.seq/\m.seq<=2^40)(hn:0<=m.next/\m.next<=2^40)(Z:m.aF.length<=11)(K:xe.1=e.name/\xe.2.1=e.object/\xe.2.2.1=e.length)(H:aa B h0 h (rY xe.2.2.2 1 ak e.tries::As)):
  aq xD 84 #[fT x,Ql xe] h λv h'=>∃y:bX,v=fT y/\aa B h0 h' (bS y (iC m e)::As):=by
 refine KX x xe ?_;refine(Sp.refl h).boxed λU h1 G=>G.boxed λg h2 F=>F.alloc an i0 λa3 h3 k=>?_;have k:Sp h h3 [al U 29 (aS x),al g 94 (bE xe),al a3 29 (aS Bp)]:=k;refine⟨x,(k.box 0 i0).aP _ i0,(np x m h3 (W.up k.ag) Q).mono ?_⟩;rintro _ h4 ⟨y,L,pool,rfl,r,D,A,O⟩;have V:=((k.cu [1,2]).comp O).front;refine⟨y,i0,V.alloc an i0 λi Y u=>?_⟩;have u:=u.bv;refine u.storeAll an 0 i0 i0 (aS y) i0 i0 i0 i0 λX q=>?_;have q:Sp h X [al i 29 (aS y),dM 1 ak pool,ae 3 y.2.2.2.2.2.2.1 1 ak m.drives,ae 94 y.2.2.2.2.2.2.2 4 bE (L.map qK),al g 94 (bE xe),al a3 29 (aS Bp)]:=q;refine⟨y.1,(q.box 0 i0).cell0 i0,?_⟩;have M:qc xz (y.1+1)=m.seq+1:=by rw[r.1,af _]
 have P:qc xz (y.2.1+1)=m.next+1:=by rw[r.2.1,af _]
 dsimp only;rw[M];refine q.jJ an 0 i0 i0 [xt xz (m.seq+1)] i0 i0 i0 j7 λN n=>?_;have n:Sp h N [al i 29 (xt xz (m.seq+1)::(aS y).drop 1),dM 1 ak pool,ae 3 y.2.2.2.2.2.2.1 1 ak m.drives,ae 94 y.2.2.2.2.2.2.2 4 bE (L.map qK),al g 94 (bE xe),al a3 29 (aS Bp)]:=n;refine⟨y.2.1,(n.box 0 i0).cell i0,?_⟩;dsimp only;rw[P];refine n.store an 0 i0 i0 1 [xt xz (m.next+1)] i0 i0 i0 j7 λh8 j=>?_;have j:Sp h h8 [al i 29 (xt xz (m.seq+1)::xt xz (m.next+1)::(aS y).drop 2),dM 1 ak pool,ae 3 y.2.2.2.2.2.2.1 1 ak m.drives,ae 94 y.2.2.2.2.2.2.2 4 bE (L.map qK),al g 94 (bE xe),al a3 29 (aS Bp)]:=j;have R:L.length=m.aF.length:=by rw[<-D,qx]
 refine⟨y.2.2.2.2.2.2.2,(j.box 0 i0).cell i0,xe,(j.box 4 i0).aP _ i0,?_⟩;refine j.push an 3 i0 Lr i0 i5 (λ_=>rfl) Lq xe i0 i5 i7 λo T z=>?_;refine z.store an 0 i0 i0 7 [o] i0 i0 i0 j7 λw c=>?_;obtain⟨a,b⟩:∃a:bX,a=(m.seq+1,m.next+1,y.2.2.1,y.2.2.2.1,y.2.2.2.2.1,y.2.2.2.2.2.1,y.2.2.2.2.2.2.1,o):=⟨_,rfl⟩
 have S:a.2.2.2.2.2.2.1=y.2.2.2.2.2.2.1:=by rw[b]
 have J:a.2.2.2.2.2.2.2=o:=by rw[b]
 have c:Sp h w [al i 29 (aS a),dM 1 ak pool,ae 3 a.2.2.2.2.2.2.1 1 ak m.drives,ae 94 a.2.2.2.2.2.2.2 4 bE (L.map qK++[xe]),al g 94 (bE xe),al a3 29 (aS Bp)]:=by rw[S,J,b];exact c
 refine⟨a.2.2.2.2.2.2.2,(c.box 0 i0).cell i0,?_⟩;have c:=c.aT 6 [3,0,1,2,4,5];refine(VA (L.map qK++[xe]) i7 c).mono ?_;rintro _ t ⟨rfl,f⟩;have f:Sp h t [sn a.2.2.2.2.2.2.2 ((L.map qK++[xe]).mergeSort jB),al i 29 (aS a),dM 1 ak pool,ae 3 a.2.2.2.2.2.2.1 1 ak m.drives,al g 94 (bE xe),al a3 29 (aS Bp)]:=f;refine⟨(),i0,a,(f.box 1 i0).aP _ i0,?_⟩;refine f.storeAll an 5 i0 i0 (aS a) i0 i0 i0 i0 λl d=>?_;have d:Sp h l [sn a.2.2.2.2.2.2.2 ((L.map qK++[xe]).mergeSort jB),al i 29 (aS a),dM 1 ak pool,ae 3 a.2.2.2.2.2.2.1 1 ak m.drives,al g 94 (bE xe),al a3 29 (aS a)]:=d;refine⟨a,(d.box 5 i0).aP _ i0,a,i0,?_⟩;obtain⟨L',l1,l2,I⟩:=SG (pool:=(xe.2.2.2,e.tries)::pool) (m:=m) (e:=e) (xe:=xe) D (λp E=>⟨(A p E).1,qD _ (A p E).2⟩) ⟨K,qI⟩;have s:=((H.comp (d.cu [2,3,0])).front).aT 4 [0,3,1,2];have s:aa B h0 l (dM 1 ak ((xe.2.2.2,e.tries)::pool)::ae 3 a.2.2.2.2.2.2.1 1 ak m.drives::ae 94 a.2.2.2.2.2.2.2 4 bE ((L.map qK++[xe]).mergeSort jB)::As):=aa.TV s;rw[<-l1]at s;refine aa.Cz (m:=iC m e) ⟨by rw[b];rfl,by rw[b];rfl,by rw[b];exact r.2.2.1,by rw[b];exact r.2.2.2⟩ l2 I s
theorem aa.Yp{x y:bX}(H:aa B h0 h (bh bw a pw (aS x) offs da w ds::As)){K:Unit->f8->Prop}(d:∀h',aa B h0 h' (bh bw a pw (aS y) offs da w ds::As)->K () h'):
  az xD (qf 29 (xv (dB a)) (fT y)) h K:=by
 obtain⟨ok,c⟩:=Go.Vc.aa.oc H;refine c.jJ an 0 i0 i0 (aS y) i0 i0 i0 i9 λh' b=>d h' ?_;exact aa.ou (k:=bw) ⟨i0,ok.la,ok.ls,ok.same⟩ b
theorem JL(x z:bX)(b:aC)(s:Sl)(l:aw)(n:St B h0 As λh=>dH h z b/\Rd h s 1 ak l)(i:dh b)(u:ii l<=2^10)(j:∀k∈l,0<=k/\k<64)(H:aa B h0 h (bh bw a pw (aS x) offs da w ds::As)):
  aq xD 88 #[xv (dB a),fT z,s] h λv h'=>v=xt xz (layAll (bJ b l) w ds).1/\
   ((layAll (bJ b l) w ds).1≠0->aa B h0 h' (bh bw a pw (aS x) offs da (layAll (bJ b l) w ds).2.1 (layAll (bJ b l) w ds).2.2::As))/\
   ((layAll (bJ b l) w ds).1=0->∃y,aa B h0 h' (bh bw a pw (aS y) offs da (layAll (bJ b l) w ds).2.1 (layAll (bJ b l) w ds).2.2::bS y b::As)):=by
 refine Cn (dB a) z s ?_;refine H.boxed λF K d=>?_;have d:=d.bv;refine⟨z,(d.box 0 i0).aP _ i0,(GL z b s l K (n.at [_,_] d).1 i (n.at [_,_] d).2 u).mono ?_⟩;rintro _ M ⟨r,p,rfl,G⟩;have A:=(d.cj G).aT 3 [2,0,1];have f:=kz b i;have t:=wb u f;refine⟨r,i0,(EQ r p (bJ b l) (St.dS 0 i0 λ_ o=>o) (by rw[AE];omega) (λq o=>?_) A).mono ?_⟩
 ·obtain⟨g,m⟩:=kO o;rw[m];exact⟨j _ g,i5⟩
 rintro _ h3 ⟨rfl,c⟩;obtain⟨R,I⟩:∃R,R=layAll (bJ b l) w ds:=⟨_,rfl⟩
 rw[<-I]at c⊢;refine⟨_,i0,ci (λe=>⟨i0,λ_=>c.aT 3 [0],λh=>absurd h e⟩) λe=>?_⟩;have c:aa B h0 h3 (bh bw a pw (aS x) offs da R.2.1 R.2.2::cO jq 2 piv r p (bJ b l)::al F 29 (aS z)::As):=c;refine⟨z,(c.box 2 i0).aP _ i0,(Jw z b h3 (n.at [_,_,_] c).1 i).mono ?_⟩;rintro _ N ⟨y,rfl,E⟩;have J:=(c.cj E).aT 4 [1,0];refine⟨y,i0,a,i0,aa.Yp J λL D=>?_⟩;exact⟨by rw[e],λh=>absurd e h,λ_=>⟨y,D⟩⟩
def mb(name:ByteArray)(e:Wl.cz):Bool:=e.name.toList==name.toList
theorem find_spec(x:bX)(m:aC)(name:ByteArray)(t:dH h x m)(q:dh m)(H:aa B h0 h (bh bw a pw (aS x) offs da w ds::As)):
  aq xD 90 #[xv (dB a),xw name] h λv h'=>(∃i:Int,v=xt xz i/\aaO (mb name) m.aF i)/\Sp h h' []:=by
 refine Co (dB a) name ?_;refine(Sp.refl h).boxed λf o b=>?_;have n:cw o f 9 [xw name]:=b.box 0 i0;obtain⟨ok,j⟩:=aa.dl H;have e:=j.ag b.ag j.lt;have c:=q.ob;refine⟨a,i0,x.2.2.2.2.2.2.2,e.cell i0,?_⟩;refine(GM 152 #[] #[xv (dB f)] (mb name) x.2.2.2.2.2.2.2 m.aF o ld (t.up b.ag).aF c ?_).mono ?_
 ·intro u E l g p z;refine Av u f ?_;refine(Sp.refl l).boxed λy h3 d=>?_;have k:=(n.ag g.ag n.lt)
  have r:=k.ag d.ag k.lt;refine⟨u.1,(d.box 0 i0).cell0 i0,name,r.cell0 i0,?_,.zip d.ag⟩;unfold mb;rw[p.1.1]
 ·rintro _ l ⟨⟨i,rfl,s⟩,g⟩;exact⟨i,i0,⟨i,i0,s⟩,.zip (aa.up b g.ag).ag⟩
theorem EZ{b:ba}(H:aa B h0 h (bh bw a pw b offs da w ds::As)):aq xD 89 #[xv (dB a)] h λv h'=>v=xx (fd w offs)/\h'=h:=by refine Dv (dB a) ?_;refine bA (λe=>j0) λ_=>(pV H).mono ?_;rintro _ _ ⟨rfl,rfl⟩;exact⟨_,i0,i0,i0⟩
def eV(m:aC)(down:Bool)(ds:aE)(name:ByteArray)(n:Nat):Int:=
 if down then 14 else if !mB name then 3 else if m.aF.any (mb name)then 4
 else if m.p.1*m.p.2.2*8<(n:Int)∨12<=ii m.aF then 6
 else if aQ ds m.drives=[]∨16777215<m.next∨2147483647<=m.seq then 7 else 0
theorem Qn(x:bX)(m:aC)(name:ByteArray)(s:Sl)(n:Nat)(hn:s.len=n)(D:name.size<=2^40)(X:dH h x m)(K:dh m)(S:bM m.p=eR)(H:aa B h0 h (bh bw a pw (aS x) offs da w ds::As)):
  aq xD 80 #[xv (dB a),xw name,s] h λv h'=>v=xt xz (eV m (fd w offs) ds name n)/\Sp h h' []:=by
 refine uO (dB a) name s ?_;have M:=(cm m.p).1 S;refine(EZ H).mono ?_;rintro _ F ⟨rfl,rfl⟩;refine⟨_,i0,bA (λe=>⟨by unfold eV;rw[e];rfl,Sp.refl _⟩) λl=>?_⟩;refine(Mo name F D).mono ?_;rintro _ Z ⟨rfl,o⟩;refine⟨_,i0,bi (λe=>⟨by unfold eV;rw[l,e];rfl,o⟩) λE=>?_⟩;have I:=H.up o.ag;have k:=X.up o.ag;refine(find_spec x m name k K I).mono ?_;rintro _ h3 ⟨⟨i,rfl,V⟩,u⟩;have z:Sp F h3 []:=.zip (aa.up o u.ag).ag;have c:=Qb V;refine⟨i,i0,bA (λe=>⟨by unfold eV;rw[l,E,<-c,e];rfl,z⟩) λN=>?_⟩;rw[N]at c;have J:=I.up u.ag;have b:=k.up u.ag;obtain⟨ok,f⟩:=aa.dl J;have W:=bH.len b.aF;have q:x.2.2.1=m.p.1:=congrArg (·.1) b.p;have G:x.2.2.2.2.1=m.p.2.2:=congrArg (·.2.2) b.p;have Y:m.p.1*m.p.2.2<=16*24:=Int.mul_le_mul i4 i4 i4 i4;have O:0<=m.p.1*m.p.2.2:=vQ i4 i4;refine bT (λ(t:Bool) h'=>t=decide (m.p.1*m.p.2.2*8<(n:Int)∨12<=ii m.aF)/\h'=h3) ?_ ?_
 ·refine⟨a,i0,x.2.2.1,f.cell i0,a,i0,x.2.2.2.2.1,by rw[addr_add];exact f.cell i0,?_⟩;dsimp only;rw[q,G,af (m.p.1*m.p.2.2),af (m.p.1*m.p.2.2*8)];refine ac (λe=>⟨(g9 (.inl i4)).symm,i0⟩) λe=>?_;refine⟨a,i0,x.2.2.2.2.2.2.2,f.cell i0,?_,i0⟩;rw[decide_eq_decide];omega
 rintro t _ ⟨rfl,rfl⟩;refine ac (λe=>⟨by unfold eV;rw[l,E,<-c,f9 e];rfl,z⟩) λQ=>?_;have T:eV m (fd w offs) ds name n=if aQ ds m.drives=[]∨16777215<m.next∨2147483647<=m.seq then 7 else 0:=by unfold eV;rw[l,E,<-c,g0 Q];rfl
 rw[T];refine(gg x m b K J).mono ?_;rintro _ U ⟨r,rfl,y⟩;have j:=(y.own 0 i0).len;have d:Sp F U []:=.zip (aa.up z y.ag).ag;have g:=f.ag y.ag f.lt;refine⟨r,i0,cy (λe=>⟨by rw[f9 (.inl (zc i4))],d⟩) λe=>?_⟩;have A:aQ ds m.drives≠[]:=λR=>by rw[R]at j;simp at j;omega
 refine⟨a,i0,x.2.1,g.cell i0,ac (λe=>⟨by rw[f9 (.inr (.inl (by rw[<-b.next];omega)))],d⟩) λe6=>?_⟩;have L:=b.next;have P:=b.seq;refine⟨a,i0,x.1,g.cell0 i0,ac (λe=>⟨by rw[f9 (.inr (.inr i4))],d⟩) λe7=>⟨?_,d⟩⟩;rw[g0];rintro(h|h|h)
 ·exact A h
 ·omega
 ·omega
theorem Qp:∃i a,C.T.get 71=dB i/\i.db=.slice a:=⟨_,_,i0,i0⟩
def ox(A B:aL)(k:Nat):aL:=fg (A.take k) (B.take k)++A.drop k
theorem rS{A B:aL}(h:ii B=ii A)(k:Nat):ii (ox A B k)=ii A:=by simp[ox,fg,h];omega
theorem Yq{A B:aL}(h:ii B=ii A){k:Nat}(a:k<ii A):(ox A B k)[k]?=dB A[k]:=by
 have:ii (fg (A.take k) (B.take k))=k:=by simp[fg];omega
 rw[ox,qj i4,this,ze,wO,wJ,qd a]
theorem Yr{A B:aL}(h:ii B=ii A){k:Nat}(a:k<ii A):(ox A B k).set k (A[k]++B[k]'(by omega))=ox A B (k+1):=by
 have b:ii (fg (A.take k) (B.take k))=k:=by simp[fg];omega
 rw[ox,qX _ _ i4,b,ze,qQ a,zw,ox,aH _ _ a,aH _ _ (show k<ii B by omega),fg,fg,yH i7,qp];rfl
theorem Ys{A B:aL}(h:ii B=ii A):ox A B A.length=fg A B:=by rw[ox,qV,<-h,qV,h,List.drop_length,qM]
theorem VB(f:eY)(a b:Sl)(A B:aL)(n w:Nat)(h:f8)(hf:fH h f)(G:fW h a 1 aD A)(U:fW h b 1 aD B)(hl:ii A=n)(a7:ii B=n)(i:aY n A)(K:aY w B)(a3:1<=n)(hn:n+w<=64)(hr:ca A=n):
  aq xD 199 #[xv (dB f),a,b] h λv h'=>∃r:Sl,v=.tuple #[r,xt xz 0]/\Sp h h' [fN 71 r 1 aD (go n A B)]:=by
 have d:ii B=ii A:=i4
 have R:=G.len;have D:=U.len;refine Dm (dB f) a b ?_;refine bc ?_;refine(mW a A n h G i).mono ?_;rintro v h1 ⟨rfl,rfl⟩;refine⟨_,i0,bi (λe=>j0) λ_=>?_⟩;refine(mW b B w h1 U K).mono ?_;rintro v L ⟨rfl,rfl⟩;refine⟨_,i0,bi (λe=>j0) λ_=>?_⟩;refine ci (λe=>absurd (by rw[R,D,d]) e) λ_=>?_;refine cy (λe=>i4) λ_=>?_;refine(pY a A L G).mono ?_;rintro v h3 ⟨rfl,rfl⟩;have ab:eK A=n:=by
  cases A with
  |nil=>simp at hl;omega
  |cons x t=>rw[eK,bz i9];exact i _ i9
 refine⟨_,i0,?_⟩;rw[ab];refine(ux a A n h3 G i).mono ?_;rintro v h4 ⟨r,rs,rfl,a9,R4⟩;refine⟨r,i0,?_⟩;have am:=(R4.own 0 i0).len;refine av (λt:Nat×List Sl=>(t.1:Int)) (λt h'=>t.1<=n/\t.2.length=n/\Sp h3 h' (nz r t.2 (ox A B t.1))) (λt=>n-t.1) (0,rs) i0 ⟨i9,i6,by simpa[ox,fg]using R4⟩ ?_;rintro⟨k,rs⟩ h5 ⟨hk,ax,u⟩;dsimp only at*;have l:ii rs=ii (ox A B k):=n4
 refine ac (λe=>?_) (λe=>?_)
 ·have p:k<n:=i4
  have j:k<ii A:=i4
  have H:=ov (a:=r) l k n4;have eg:(ox A B k)[k]'(by rw[rS d];omega)=A[k]:=by have:=Yq d j;rw[qd n4]at this;exact zP.inj this
  rw[eg]at H;have l1:A[k].length=n:=i _ (qg _);have l2:ii (B[k]'(by omega))=w:=K _ (qg _);refine(u.seq 0 i0 λ_=>rfl).mv k i0 i4 λa1 X Z=>?_;refine(U.up u.ag).get k i0 i4 λrb O=>?_;refine u.append an (k+1) H gU Qp i0 i5 (λ_=>rfl) O iF i4 λI h6 H6=>⟨trivial,?_⟩
  refine H6.set an 0 i0 (λ_=>rfl) i0 k i0 i4 I i0 i0 i0 λP H7=>⟨trivial,?_⟩
  refine⟨(k+1,rs.set k I),jj,⟨i6,lz,?_⟩,i6⟩;dsimp only;rw[<-Yr d j];show Sp h3 P (ae 71 r 1 bp (rs.set k I)::bB 5 1 aD (rs.set k I) ((ox A B k).set k _));rw[<-kJ l];exact H7
 ·have S:k=ii A:=i4
  subst S;rw[Ys d]at u;refine(sk f h5).mono ?_;rintro v h6 ⟨rfl,rfl⟩;refine⟨dB f,i0,?_⟩;have z:=mP d.symm i K;have ar:=mi d.symm;refine(AC (m:=fg A B) (n:=n+w) hf hf.lt i4 z i4 i4 i4 u).mono ?_;rintro v P ⟨g,rfl,ao,F⟩;rw[Ht d.symm i,hr];refine⟨_,i0,?_⟩;dsimp only;have ah:=(F.own 0 i0).cap;have a2:=(F.own 0 i0).len;have L:=gV z n;refine ac (λe=>absurd (show(n:Int)<(n:Int)from e) i4) λ_=>?_;refine⟨⟨wc _,y7.2 (show n<=r.len by omega)⟩,?_⟩;refine av (λ_:Unit=>(0:Int)) (λ_ h'=>h'=P) (λ_=>0) () i0 i0 ?_;rintro _ h8 rfl;rw[ql];refine ac (λe=>i4) λ_=>?_;refine⟨⟨wc _,y7.2 (show n<=r.cap by omega)⟩,?_⟩;obtain⟨M,N⟩:∃M,M=(bI (fg A B) n).2:=⟨_,rfl⟩
  have a4:ii M=n:=by have:=L.2;rw[<-N]at this;omega
  have W:aY (n+w) M:=by rw[N];exact L.1
  have o:∀k (hk:k<n),(go n A B).take (k+1)=(go n A B).take k++[(M[k]'(by omega)).drop n]:=λk hk=>by
   have e1:go n A B=M.map (List.drop n):=by rw[go,<-N,qi i4]
   rw[e1,aH _ _ i7,wC]
  have ay:ii (go n A B)=n:=(tu d.symm i K hr).1;rw[<-N]at F;refine av (λt:Sl×Nat=>(t.1,(t.2:Int))) (λt h'=>t.2<=n/\Sp h8 h' [fN 71 t.1 1 aD ((go n A B).take t.2)]) (λt=>n-t.2) (⟨eH,0,0⟩,0) i0 ⟨i9,(Sp.refl h8).ID 71 1 aD⟩ ?_;rintro⟨s,k⟩ h9 ⟨a6,J⟩;dsimp only at*;have HH:=F.comp J;have Q:ii g=ii M:=i4
  refine ac (λe=>?_) (λe=>?_)
  ·have p:k<n:=i4
   have H:=ov (a:=r) Q k i4;have q:(nz r g M++[fN 71 s 1 aD ((go n A B).take k)])[k+1]?=dB (ae 5 (g[k]'(by omega)) 1 aD (M[k]'(by omega))):=by rw[qo (by simp[bB];omega)];exact H
   have a0:ii (M[k]'(by omega))=n+w:=W _ (qg _);have E:=HH.own (k+1) q;have V:=HH.seq (k+1) q λ_=>rfl;have ap:=E.len;have y:=(HH.seq 0 i0 λ_=>rfl).take n i4;rw[qi i4]at y;refine y.mv k i0 i4 λa1 X Z=>?_;refine⟨⟨wc _,y7.2 i4⟩,?_⟩;refine(fc _ _ h9 (V.drop n E.cap) i7).mono ?_;rintro v a8 ⟨c,rfl,T⟩;have ad:=(J.comp T).freeze 1 i0 λ_=>rfl;refine⟨c,i0,?_⟩;refine ad.tk an 0 1 i5 i0 i0 fF i7 λs' a5 Y=>?_;refine⟨(s',k+1),jj,⟨i6,?_⟩,i6⟩;dsimp only;rw[o k p];exact Y.del 1
  ·rw[qi i4]at J;refine⟨s,i0,?_⟩;have:=(Sp.zip F.ag).comp J;exact this
def iN(p:Pm)(seed:Int)(l:Nat):Int:=if bM p&&decide ((l:Int)=p.1*p.2.2)then(if gc p seed (fQ p)then 0 else 8)else 1
abbrev AF(p:Pm)(seed:Int)(m:Sl):ba:=[xt xz p.1,xt xz p.2.1,xt xz p.2.2,xt xB seed,m]
theorem Qq(p:Pm)(seed:Int)(data:Sl)(d:Row)(h:f8)(hd:Rd h data 1 aD d)(hc:data.len<=data.cap):
  aq xD 140 #[kb p,xt xB seed,data] h λv h'=>
   (iN p seed d.length=0->∃(b:eY) (m:Sl),v=.tuple #[xv (dB b),xt xz 0]/\Sp h h' [fN 71 m 1 aD (dC p seed d),al b 259 (AF p seed m)])/\
   (iN p seed d.length≠0->v=.tuple #[xv eH,xt xz (iN p seed d.length)]/\Sp h h' []):=by
 have X:=hd.len;refine La p seed data ?_;refine(Sp.refl h).boxed λa h1 H1=>?_;refine bc ?_;refine⟨p,(H1.box 0 i0).aP _ i0,(eT p h1).mono ?_⟩;rintro v h2 ⟨rfl,R2⟩;have N:=H1.comp R2;have no:∀{h3:f8} (x:Int),x≠0->iN p seed d.length=x->Sp h h3 [al a 26 [xt xz p.1,xt xz p.2.1,xt xz p.2.2]]->
   (iN p seed d.length=0->∃(b:eY) (m:Sl),Value.tuple #[xv eH,xt xz x]=.tuple #[xv (dB b),xt xz 0]/\Sp h h3 [fN 71 m 1 aD (dC p seed d),al b 259 (AF p seed m)])/\
   (iN p seed d.length≠0->Value.tuple #[xv eH,xt xz x]=.tuple #[xv eH,xt xz (iN p seed d.length)]/\Sp h h3 []):=λx hx O H=>by
  refine⟨λe=>absurd (O.symm.trans e) hx,λ_=>⟨by rw[O],.zip H.ag⟩⟩
 refine⟨_,i0,bi (λe=>no 1 i5 (by rw[iN,e];rfl) N) λR=>?_⟩;have am:=(cm p).1 R;obtain⟨K,hK⟩:∃K:Nat,p.1=K:=⟨p.1.toNat,i4⟩
 obtain⟨u,hH⟩:∃H:Nat,p.2.1=H:=⟨p.2.1.toNat,i4⟩
 obtain⟨w,M⟩:∃w:Nat,p.2.2=w:=⟨p.2.2.toNat,i4⟩
 have ao:K*w<=16*24:=wb i4 i4;have I:p.1*p.2.2=((K*w:Nat):Int):=by rw[hK,M,wV]
 refine⟨p.1,(N.box 0 i0).cell0 i0,p.2.2,(N.box 0 i0).cell i0,?_⟩;dsimp only;rw[I,af _];refine ci (λe=>no 1 i5 (by rw[iN,R,hU (by rw[I];intro e2;exact e (by rw[X];exact e2))];rfl) N) λel=>?_;have F:ii d=K*w:=i4
 refine⟨p,(N.box 0 i0).aP _ i0,(JH p seed h2).mono ?_⟩;rintro v h3 ⟨rfl,R3⟩;have H3:=N.comp R3;have y:iN p seed d.length=if gc p seed (fQ p)then 0 else 8:=by rw[iN,R,g9 (by rw[I,F])];rfl
 refine⟨_,i0,bi (λe=>no 8 i5 (by rw[y,e];rfl) H3) λhf=>?_⟩;rw[hf,f9 rfl]at y;have B:co p seed d K u w (K+u):=⟨R,hf,hK,hH,M,i0,i4,i4,i4,i4,i4,i4,F⟩
 refine⟨p.2.1,(H3.box 0 i0).cell i0,?_⟩;refine av (λt:Sl×List Sl=>(t.1,(ii t.2:Int))) (λt h'=>ii t.2<=u/\Sp h h' (al a 26 [xt xz p.1,xt xz p.2.1,xt xz p.2.2]::nz t.1 t.2 (qh t.2.length (aJ w)))) (λt=>u-ii t.2) (⟨eH,0,0⟩,[]) i0 ⟨i9,H3.nil 71 1 bp⟩ ?_;rintro⟨s,rs⟩ h4 ⟨hk,P⟩;dsimp only at*;refine ac (λe=>?_) (λe=>?_)
 ·refine⟨p.2.2,(P.box 0 i0).cell i0,?_⟩;refine P.make an aD gU i5 0 i0 i0 w w M M (qm _) i4 λz Y ad ap D=>?_;refine D.push an 1 i0 fF i0 i5 (λ_=>rfl) jK z i0 i5 i4 λs' h6 T=>?_;refine⟨(s',rs++[z]),by dsimp only;rw[af _];simp,⟨i7,?_⟩,i7⟩;dsimp only;have e7:nz s' (rs++[z]) (qh rs.length (aJ w)++[aJ w])=ae 71 s' 1 bp (rs++[z])::(bB 5 1 aD rs (qh rs.length (aJ w))++[ae 5 z 1 aD (aJ w)]):=congrArg _ (tO i9 z (aJ w));rw[show(rs++[z]).length=ii rs+1 by simp,List.replicate_succ',e7];exact T
 ·have L:ii rs=u:=i4
  rw[L]at P;refine⟨p.1,(P.box 0 i0).cell0 i0,?_⟩;let own:=bB 5 1 aD rs (qh u (aJ w));refine av (λt:Sl×Nat=>(t.1,(t.2:Int))) (λt h'=>t.2<=K/\Sp h h' (al a 26 [xt xz p.1,xt xz p.2.1,xt xz p.2.2]::ae 71 t.1 1 bp (rs++(qz t.2).map (KF data w))::own)) (λt=>K-t.2) (s,0) i0 ⟨i9,by simpa using P⟩ ?_;rintro⟨t,k⟩ Y ⟨ab,D⟩;dsimp only at*;refine ac (λe2=>?_) (λe2=>?_)
  ·have W:k<K:=i4
   have m1:(k+1)*w<=K*w:=za w W;have m2:k*w<=(k+1)*w:=za w i4;refine⟨p.2.2,(D.box 0 i0).cell i0,p.2.2,(D.box 0 i0).cell i0,?_⟩;rw[af ((k:Int)+1)];have e5:(k:Int)*p.2.2=((k*w:Nat):Int):=by rw[M,wV]
   have e6:((k:Int)+1)*p.2.2=(((k+1)*w:Nat):Int):=by rw[M,wV];rfl
   dsimp only;rw[e5,e6,sE _,sE _,ql,ql];refine⟨⟨wc _,y7.2 m2,y7.2 i4⟩,?_⟩;refine D.push an 1 i0 fF i0 i5 (λ_=>rfl) jK (KF data w k) i0 i5 i7 λt' h6 T=>?_;refine⟨(t',k+1),i0,⟨i6,?_⟩,i6⟩;dsimp only;rw[zT,qS,<-qp];exact T
  ·have V:k=K:=i4
   subst V;refine bc ?_;have E:fW Y t 1 aD (kr k u w d):=by
    refine⟨rs++(qz k).map (KF data w),D.seq 1 i0 λ_=>rfl,by rw[Ej];simp;omega,λi r l q n=>?_⟩;by_cases G:i<u
    ·rw[qo i4,qd i4]at q;rw[kr,qo (by simpa using G)]at n;have hz:l=aJ w:=by simp[G]at n;exact n.symm
     have hr:rs[i]'(by omega)=r:=zP.inj q;have g:(al a 26 [xt xz p.1,xt xz p.2.1,xt xz p.2.2]::ae 71 t 1 bp (rs++(qz k).map (KF data w))::own)[i+2]?=dB (ae 5 (rs[i]'(by omega)) 1 aD ((qh u (aJ w))[i]'(by simpa using G))):=fV (by simpa using L) i (by simpa using G);have:=D.seq (i+2) g λ_=>rfl;rw[List.getElem_replicate,hr]at this;rw[hz];exact this
    ·obtain⟨j,rfl⟩:∃j,i=u+j:=⟨i-u,i4⟩
     rw[qj i4,L,zx]at q;rw[kr,qj i9,List.length_replicate,zx]at n;have hj:j<k:=by have:=(qn.1 q).1;simpa using this
     simp[hj]at q n;have m1:(j+1)*w<=k*w:=za w hj;rw[<-q,<-n];exact(Seq.up hd D.ag).piece hc w j i4
   have c:=D.box 0 i0;refine⟨p,c.aP _ i0,p,c.aP _ i0,(pi Y).mono ?_⟩;rintro v h6 ⟨f,rfl,R6⟩;have o:=c.ag R6.ag c.lt;refine⟨dB f,i0,⟨o.cell0 i0,o.cell i0,o.cell i0,o.cell0 i0,o.cell i0,o.cell i0,trivial⟩,(JF p h6).mono ?_⟩;rintro v h7 ⟨r7,rfl,R7⟩;have Q7:=R6.comp R7;have J:=c.ag Q7.ag c.lt;refine⟨r7,i0,⟨J.cell0 i0,J.cell i0,J.cell i0,trivial⟩,?_⟩;refine(GN p seed r7 (fQ p) h7 (Q7.seq 1 i0 λ_=>rfl) (by rw[fQ,gW];omega)).mono ?_;rintro v h8 ⟨r8,rfl,R8⟩;have S:=Q7.comp R8;refine⟨r8,i0,trivial,?_⟩;refine(VB f r8 t _ _ (k+u) w h8 (S.box 0 i0) (S.DQ 2 i0) (E.up S.ag) B.Ei (by rw[Ej]) B.FZ (sJ B.len) i4 i4 B.KM).mono ?_;rintro v h9 ⟨r9,rfl,R9⟩;have Q9:=S.comp R9;refine⟨(r9,0),i0,trivial,?_⟩;refine ci (λe=>absurd i0 e) λ_=>?_;have Z:=c.ag Q9.ag c.lt;refine⟨p,Z.aP _ i0,?_⟩;refine Q9.boxed (t:=259) λb ah U=>?_;refine⟨λ_=>⟨b,r9,i0,?_⟩,λe=>absurd y e⟩;have Q:=(Sp.zip D.ag).comp U;rw[<-B.Dc]at Q;exact Q.take 3 (λi A G=>by
    cases i with
    |zero=>exact G
    |succ i=>cases i with
     |zero=>exact G
     |succ i=>simp at G)
def uA(h:f8)(b:eY)(p:Pm)(seed:Int)(M:aL):Prop:=∃m:Sl,cw h b 259 (AF p seed m)/\fW h m 1 aD M
theorem uA.up{h h':f8}{b:eY}{p:Pm}{seed:Int}{M:aL}(d:uA h b p seed M)(c:aZ (λb=>b<h.size) h h'):uA h' b p seed M:=by obtain⟨m,a,e⟩:=d;exact⟨m,a.ag c a.lt,e.up c⟩
theorem SH{a t:Row}(b:ii a=ii t){k:Nat}(d:k<ii t):(zm (λx y=>y^^^Gf.mul 1 x) (a.take k) (t.take k)++t.drop k).set k (t[k]^^^(a[k]'(by omega)))=zm (λx y=>y^^^Gf.mul 1 x) (a.take (k+1)) (t.take (k+1))++t.drop (k+1):=by have:=uy (c:=1) b d;rw[Gf.one_mul]at this;exact this
theorem afk{a t:Row}(c:ii a=ii t){k:Nat}(d:k<ii t):(zm (λx y=>y^^^Gf.mul 1 x) (a.take k) (t.take k)++t.drop k)[k]?=dB t[k]:=by
 have b:ii (zm (λx y=>y^^^Gf.mul 1 x) (a.take k) (t.take k))=k:=i7
 rw[qj i4,b,ze,wO,wJ,qd d]
theorem AG(b:eY)(p:Pm)(seed id:Int)(M:aL)(n w:Nat)(h:f8)(hb:uA h b p seed M)(G:bM p=eR)(U:p.2.2=w)(hn:(bG p).toNat=n)(Y:aY w M)(hl:ii M=n):
  aq xD 142 #[xv (dB b),xt xz id] h λv h'=>∃r:Sl,v=r/\Sp h h' [ae 5 r 1 aD (if bW id then fR w M (dE n seed id)else[])]:=by
 obtain⟨m,g,R⟩:=hb;have Z:=R.len;have a0:=(cm p).1 G;have hc:bG p=p.1+p.2.1:=by rw[bG,f9 G]
 refine uU (dB b) id ?_;have V:bW id=eS->∃r:Sl,Value.slice eH 0 0=xu r.ptr r.len r.cap/\Sp h h [ae 5 r 1 aD (if bW id then fR w M (dE n seed id)else[])]:=λe=>by
  rw[e];exact⟨⟨eH,0,0⟩,i0,(Sp.refl h).nil 5 1 aD⟩
 refine bc (bA (λe=>j0) λ_=>ac (λe=>V l0) λe1=>ac (λe=>V l0) λQ=>?_);have hid:bW id=eR:=l0
 refine⟨b,i0,p.2.2,g.cell i0,?_⟩;refine(Sp.refl h).make an aD gU i5 0 i0 i0 w w U U (qm _) i4 λo h1 ay ar W=>?_;have z:=g.ag W.ag g.lt;refine⟨b,i0,p,z.aP _ i0,b,i0,seed,z.cell i0,(xV p seed id h1).mono ?_⟩;rintro v h2 ⟨c,rfl,N⟩;rw[G,hid,xm,f9 rfl,hn]at N;rw[hid,f9 rfl];have J:=W.comp N;obtain⟨d,j⟩:∃d,d=dE n seed id:=⟨_,rfl⟩
 have u:∀x∈d,0<=x/\x<(n:Int):=λx O=>mM i4 i4 (by rw[<-j];exact O);have X:ii d<=n:=by rw[j];exact ww i4 i4 _ _
 rw[<-j]at J⊢;have ah:=(J.seq 1 i0 λ_=>rfl).len;refine⟨c,i0,trivial,?_⟩;refine av (λi:Nat=>(i:Int)) (λi h'=>i<=ii d/\Sp h h' [ae 5 o 1 aD (fR w M (d.take i)),ae 3 c 1 ak d]) (λi=>ii d-i) 0 i0 ⟨i4,J⟩ ?_;rintro i h3 ⟨E,q⟩;refine ac (λe=>?_) (λe=>?_)
 ·have l:i<ii d:=i4
  have O:=u _ (qg l);refine(q.seq 1 i0 λ_=>rfl).bD i i0 l _ i0 ?_;have L:=g.ag q.ag g.lt;refine⟨b,i0,m,L.cell i0,?_⟩;obtain⟨ap,P⟩:=R;refine(P.ag q.ag).get d[i].toNat i4 i4 λr T K=>?_;have s:=P.row _ r _ K (qd (show d[i].toNat<ii M by omega));obtain⟨row,f⟩:∃row,row=M[d[i].toNat]'(by omega):=⟨_,rfl⟩
  have ab:ii row=w:=by rw[f];exact Y _ (qg _)
  rw[<-f]at T s;obtain⟨S,I⟩:∃S,S=fR w M (d.take i):=⟨_,rfl⟩
  have ax:ii S=w:=by rw[I];exact oN Y hl u i E
  have ao:=T.len;have Q:fR w M (d.take (i+1))=cY 1 row S:=by rw[aH _ _ l,BV,I,f,bz i4]
  rw[<-I]at q;refine av (λk:Nat=>(k:Int)) (λk h'=>k<=w/\Sp h h' [ae 5 o 1 aD (zm (λx y=>y^^^Gf.mul 1 x) (row.take k) (S.take k)++S.drop k),ae 3 c 1 ak d]) (λk=>w-k) 0 i0 ⟨i4,rb⟩ ?_;rintro k h4 ⟨hk,D⟩;have F:=s.ag D.ag;have ad:ii (zm (λx y=>y^^^Gf.mul 1 x) (row.take k) (S.take k)++S.drop k)=w:=i7
  refine ac (λe3=>?_) (λe3=>?_)
  ·have am:k<w:=i4
   have B:(zm (λx y=>y^^^Gf.mul 1 x) (row.take k) (S.take k)++S.drop k)[k]'(by omega)=S[k]'(by omega):=by have:=afk (a:=row) (t:=S) i4 (show k<ii S by omega);rw[qd i4]at this;exact zP.inj this
   refine F.bD k i0 i4 _ i0 ?_;refine(D.seq 0 i0 λ_=>rfl).bD k i0 i4 _ i0 ?_;rw[B,mV];refine D.set an 0 i0 (λ_=>rfl) i0 k i0 i4 _ i0 i0 i0 λh5 H5=>?_;refine⟨k+1,js,⟨i4,?_⟩,i4⟩;rw[<-SH i4 (show k<ii S by omega)];exact H5
  ·have H:k=w:=i4
   subst H;rw[qi i4,qi i4,zk i4,qM]at D;refine⟨i+1,js,⟨i4,?_⟩,i4⟩;rw[Q];exact D
 ·rw[qi i4]at q;exact⟨o,i0,q.take 0 λi A E=>by cases i with|zero=>exact E|succ i=>simp at E⟩
theorem _root_.Wl.co.iN{p:Pm}{seed:Int}{d:Row}{K H w n:Nat}(B:co p seed d K H w n):iN p seed d.length=0:=by rw[Go.Qw.iN,B.may,B.full,B.len,B.k,B.s,g9 (by rw[wV])];rfl
theorem afl{p:Pm}{seed:Int}{d:Row}{K H w n:Nat}(B:co p seed d K H w n)(data:Sl)(h:f8)(c:Rd h data 1 aD d)(e:data.len<=data.cap):
  aq xD 140 #[kb p,xt xB seed,data] h λv h'=>
   ∃(b:eY) (m:Sl),v=.tuple #[xv (dB b),xt xz 0]/\Sp h h' [fN 71 m 1 aD (dC p seed d),al b 259 (AF p seed m)]:=
 (Qq p seed data d h c e).mono λ_ _ a=>a.1 B.iN
theorem _root_.Wl.co.symbol{p:Pm}{seed:Int}{d:Row}{K H w n:Nat}(B:co p seed d K H w n)(b:eY)(id:Int)(h:f8)(a:uA h b p seed (dC p seed d)):
  aq xD 142 #[xv (dB b),xt xz id] h λv h'=>∃r:Sl,v=r/\Sp h h' [ae 5 r 1 aD (if bW id then fR w (dC p seed d) (dE n seed id)else[])]:=
 AG b p seed id _ n w h a B.may B.s B.oO B.nE.2 B.nE.1
def Bq(s:Dd):ba:=[.complex .f64 s.ax s.ay,.complex .f64 s.sx s.sy,xt xz s.left,xt xz s.leg,xx s.second]
theorem oy{o:Option Nat}(h:o.isSome=eR):o=dB (o.getD 0):=by
 cases o with
 |none=>cases h
 |some x=>rfl
theorem VC(h:f8):aq xD 259 #[] h λv h'=>∃a:eY,v=xv (dB a)/\Sp h h' [al a 334 (Bq fs0)]:=by refine Jq ?_;refine(Sp.refl h).boxed (t:=334) λa c b=>?_;exact⟨a,i0,b⟩
theorem Yt(a b:Nat)(h:f8)(i:(gZ.mul a 0).isSome=eR)(j:(gZ.mul b oP).isSome=eR)(h3:(gZ.sub (sf a 0) (sf b oP)).isSome=eR)(f:(gZ.mul a oP).isSome=eR)(d:(gZ.mul b 0).isSome=eR)(g:(gZ.add (sf a oP) (sf b 0)).isSome=eR):
  aq xD 313 #[.complex .f64 a b,xt xz 1] h λv h'=>v=.complex .f64 (tx a b) (ty a b)/\h'=h:=by
 refine Lo (a,b) 1 ?_;refine⟨i5,i5,?_⟩;refine av (λk:Nat=>(if k=0 then(a,b)else(tx a b,ty a b),(k:Int))) (λk h'=>k<=1/\h'=h) (λk=>1-k) 0 i0 ⟨i4,i0⟩ ?_;rintro k h' ⟨l,rfl⟩;have c:wo (qc xz (wo 1 4+4)) 4=1:=i5
 dsimp only;rw[c];refine ac (λe=>?_) (λe=>?_)
 ·have:k=0:=i4
  subst this;refine⟨(tx a b,ty a b),adu (oy i) (oy j) (oy h3) (oy f) (oy d) (oy g),?_⟩;exact⟨1,i0,⟨i4,i0⟩,i4⟩
 ·have:k=1:=i4
  subst this;exact⟨i0,i0⟩
theorem aaY(a:eY)(s:Dd)(h:f8)(f:cw h a 334 (Bq s))(c:s.ok=eR):aq xD 260 #[xv (dB a)] h λv h'=>v=.tuple #[]/\cw h' a 334 (Bq s.on)/\aZ (λb=>b≠a.block) h h':=by
 simp only[Dd.ok,qC,decide_eq_true_eq]at c;obtain⟨⟨⟨⟨⟨⟨⟨⟨⟨⟨⟨t,J⟩,B⟩,u⟩,x⟩,A⟩,F⟩,K⟩,L⟩,E⟩,G⟩,y⟩:=c;refine Dy (dB a) ?_;have I:aa (λb=>b<h.size/\¬b=a.block) h h [al a 334 (Bq s)]:=.WV (λb=>b=a.block) (λb n=>by rw[n];exact f.lt) ⟨f,i0⟩;have fin:∀{h':f8},aa (λb=>b<h.size/\¬b=a.block) h h' [al a 334 (Bq s.on)]->Value.tuple #[]=.tuple #[]/\cw h' a 334 (Bq s.on)/\aZ (λb=>b≠a.block) h h':=λH=>
  ⟨i0,H.box 0 i0,H.ag.1,λk p l=>H.ag.2 k p ⟨p,l⟩⟩
 refine⟨a,i0,(s.ax,s.ay),f.cell0 i0,a,i0,(s.sx,s.sy),f.cell i0,(oa s.ax s.sx,oa s.ay s.sy),ads (oy t) (oy J),a,i0,?_⟩;refine I.jJ an 0 i0 i0 [.complex .f64 (oa s.ax s.sx) (oa s.ay s.sy)] i0 i0 i0 (by simp[Bq]) λP o=>⟨trivial,?_⟩
 refine⟨a,i0,s.left,(o.box 0 i0).cell (j:=2) i0,a,i0,?_⟩;rw[af (s.left-1)];refine o.storeAt an 0 i0 i0 (off:=2) i0 i0 i0 (by simp[Bq]) λD d=>?_;refine⟨a,i0,s.left-1,(d.box 0 i0).cell (j:=2) i0,?_⟩;refine ac (λe=>?_) (λe=>?_)
 ·have i:Bq s.on=[.complex .f64 (oa s.ax s.sx) (oa s.ay s.sy),.complex .f64 s.sx s.sy,xt xz (s.left-1),xt xz s.leg,xx s.second]:=by rw[Dd.on,f9 e];rfl
  refine fin ?_;rw[i];exact d
 ·refine⟨a,i0,(s.sx,s.sy),(d.box 0 i0).cell (j:=1) i0,(Yt s.sx s.sy D B u x A F K).mono ?_⟩;rintro v h3 ⟨rfl,rfl⟩;refine⟨(tx s.sx s.sy,ty s.sx s.sy),i0,a,i0,?_⟩;refine d.storeAt an 0 i0 i0 (off:=1) i0 i0 i0 (by simp[Bq]) λO g=>?_;refine bT (λ_ h'=>aa (λb=>b<h.size/\¬b=a.block) h h' [al a 334 [.complex .f64 (oa s.ax s.sx) (oa s.ay s.sy),.complex .f64 (tx s.sx s.sy) (ty s.sx s.sy),xt xz (s.left-1),xt xz (if s.second then s.leg+1 else s.leg),xx s.second]]) ?_ ?_
  ·refine⟨a,i0,s.second,(g.box 0 i0).cell (j:=4) i0,bA (λm=>?_) λm=>?_⟩
   ·refine⟨a,i0,s.leg,(g.box 0 i0).cell (j:=3) i0,a,i0,?_⟩;rw[af (s.leg+1)];refine g.storeAt an 0 i0 i0 (off:=3) i0 i0 i0 (by simp[Bq]) λM z=>?_;rw[f9 m];exact z
   ·rw[g0 (by rw[m];decide)];exact g
  ·rintro _ Q r;refine⟨a,i0,s.second,(r.box 0 i0).cell (j:=4) i0,a,i0,?_⟩;refine r.storeAt an 0 i0 i0 (off:=4) i0 i0 i0 i9 λN q=>?_;refine⟨a,i0,_,(q.box 0 i0).cell (j:=3) i0,a,i0,?_⟩;refine q.storeAt an 0 i0 i0 (off:=2) i0 i0 i0 i9 λh8 w=>?_;have i:Bq s.on=[.complex .f64 (oa s.ax s.sx) (oa s.ay s.sy),.complex .f64 (tx s.sx s.sy) (ty s.sx s.sy),xt xz (if s.second then s.leg+1 else s.leg),xt xz (if s.second then s.leg+1 else s.leg),xx (!s.second)]:=by rw[Dd.on,g0 e];rfl
   refine fin ?_;rw[i];exact w
theorem TY(n:Nat)(h:f8)(j:n<64):aq xD 201 #[xt xz n] h λv h'=>v=.complex .f64 (kR n).ax (kR n).ay/\Sp h h' []:=by
 refine PK n ?_;refine ac (λe=>i4) λ_=>ac (λe=>i4) λ_=>?_;refine(VC h).mono ?_;rintro v l ⟨a,rfl,f⟩;refine⟨dB a,i0,?_⟩;refine av (λk:Nat=>(k:Int)) (λk h'=>k<=n/\Sp h h' [al a 334 (Bq (kR k))]) (λk=>n-k) 0 i0 ⟨i4,f⟩ ?_;rintro k g ⟨i,b⟩;refine cy (λe=>?_) (λe=>?_)
 ·have:k=n:=i4
  subst this;exact⟨a,i0,((kR k).ax,(kR k).ay),(b.box 0 i0).cell0 i0,i0,.zip b.ag⟩
 ·refine(aaY a (kR k) g (b.box 0 i0) (afV k i4)).mono ?_;rintro v h3 ⟨rfl,d,c⟩;refine⟨(),i0,k+1,js,⟨i4,b.AQ 0 i0 c d⟩,i4⟩
theorem Mx{a b:Int}(c:-4<=a:=by omega)(e:a<=4:=by omega)(h3:-4<=b:=by omega)(d:b<=4:=by omega):gZ.sub (dq a) (dq b)=dB (dq (a-b)):=by have:=aeE (a+4).toNat i4 (b+4).toNat i4;rw[show((a+4).toNat:Int)-4=a by omega,show((b+4).toNat:Int)-4=b by omega,show((a+4).toNat:Int)-((b+4).toNat:Int)=a-b by omega]at this;exact this
theorem My{a:Int}(c:-8<=a:=by omega)(b:a<=8:=by omega):gZ.mul (dq a) (dq a)=dB (dq (a*a)):=by have:=aeF (a+8).toNat i4;rw[show((a+8).toNat:Int)-8=a by omega]at this;exact this
theorem Qr(a:Int):((a.natAbs:Nat):Int)*(a.natAbs:Nat)=a*a:=Int.natAbs_mul_self
theorem Yu{a b:Int}(c:-8<=a)(e:a<=8)(h3:-8<=b)(d:b<=8):gZ.add (dq (a*a)) (dq (b*b))=dB (dq (a*a+b*b)):=by have:=aeG a.natAbs i4 b.natAbs i4;rw[Qr,Qr]at this;exact this
def Fa(i j:Nat):Int:=((gp i).x-(gp j).x)*((gp i).x-(gp j).x)+((gp i).y-(gp j).y)*((gp i).y-(gp j).y)
theorem acP{a:Int}(c:-8<=a)(b:a<=8):0<=a*a/\a*a<=64:=by rw[<-Qr,<-wV];have:a.natAbs*a.natAbs<=8*8:=wb i4 i4;omega
theorem xX{n:Nat}(h:n<64):(kR n).ax=dq (gp n).x/\(kR n).ay=dq (gp n).y/\-4<=(gp n).x/\(gp n).x<=4/\-4<=(gp n).y/\(gp n).y<=4:=by have:=aeD n h;simp only[qC,decide_eq_true_eq,beq_iff_eq]at this;obtain⟨⟨⟨⟨⟨a,b⟩,c⟩,d⟩,e⟩,f⟩:=this;exact⟨a,b,c,d,e,f⟩
theorem Yv{i j:Nat}(d:i<64)(c:j<64):0<=Fa i j/\Fa i j<=128:=by have a:=xX d;have b:=xX c;have e:=acP (a:=(gp i).x-(gp j).x) i4 i4;have f:=acP (a:=(gp i).y-(gp j).y) i4 i4;unfold Fa;omega
theorem aaZ(i j:Nat)(h:f8)(e:i<64)(d:j<64):aq xD 202 #[.complex .f64 (kR i).ax (kR i).ay,.complex .f64 (kR j).ax (kR j).ay] h λv h'=>v=.float .f64 (dq (Fa i j))/\h'=h:=by
 have a:=xX e;have b:=xX d;refine Ny ((kR i).ax,(kR i).ay) ((kR j).ax,(kR j).ay) ?_;have f:gZ.sub (kR i).ax (kR j).ax=dB (dq ((gp i).x-(gp j).x)):=by rw[a.1,b.1];exact Mx
 have c:gZ.sub (kR i).ay (kR j).ay=dB (dq ((gp i).y-(gp j).y)):=by rw[a.2.1,b.2.1];exact Mx
 refine⟨(dq ((gp i).x-(gp j).x),dq ((gp i).y-(gp j).y)),adt f c,_,My,_,My,_,Yu i4 i4 i4 i4,i0,i0⟩
abbrev acQ:bU C.toAO 22 3 1 [xt xz 0] 8:=⟨_,_,i0,i0,i0,i0,i0,i0⟩
def mX(a b:Int):Int:=if a<b then-1 else if a>b then 1 else 0
theorem Qs(m:Nat)(h:f8)(a:m<129):aq xD 262 #[.float .f64 (dq (m:Nat))] h λv h'=>v=xx eS/\h'=h:=by refine Bf _ ?_;have:=Xy m a m a;rw[show(FloatKind.format .f64).order (dq (m:Nat)) (dq (m:Nat))=dB (compare m m)from this,Nat.compare_eq_eq.2 rfl];exact⟨i0,i0⟩
theorem Yw(m n:Nat)(h:f8)(b:m<129)(c:n<129):aq xD 206 #[.float .f64 (dq (m:Nat)),.float .f64 (dq (n:Nat))] h λv h'=>v=xt xz (mX m n)/\h'=h:=by
 refine uW _ _ ?_;refine(Qs m h b).mono ?_;rintro v a ⟨rfl,rfl⟩;refine⟨_,i0,(Qs n a c).mono ?_⟩;rintro v f ⟨rfl,rfl⟩;refine⟨_,i0,bA (λe=>j0) λ_=>bA (λe=>j0) λ_=>?_⟩;have d:(FloatKind.format .f64).order (dq (m:Nat)) (dq (n:Nat))=dB (compare m n):=Xy m b n c;rw[d];rcases Nat.lt_trichotomy m n with a|a|a
 ·rw[Nat.compare_eq_lt.2 a];refine bA (λ_=>⟨by rw[mX,f9 i4],i0⟩) (λe=>j0)
 ·subst a;rw[Nat.compare_eq_eq.2 rfl];refine bA (λe=>j0) λ_=>bA (λe=>j0) λ_=>⟨by rw[mX,g0 i4,g0 i4],i0⟩
 ·rw[Nat.compare_eq_gt.2 a];refine bA (λe=>j0) λ_=>bA (λ_=>⟨by rw[mX,g0 i4,f9 i4],i0⟩) (λe=>j0)
theorem Mz(m:Int)(h:f8):aq xD 263 #[xt xz m] h λv h'=>v=xx eS/\h'=h:=by refine sB _ ?_;exact⟨i9,i0⟩
theorem Yx(m n:Int)(h:f8):aq xD 207 #[xt xz m,xt xz n] h λv h'=>v=xt xz (mX m n)/\h'=h:=by refine pD _ _ ?_;refine(Mz m h).mono ?_;rintro v b ⟨rfl,rfl⟩;refine⟨_,i0,(Mz n b).mono ?_⟩;rintro v c ⟨rfl,rfl⟩;refine⟨_,i0,bA (λe=>j0) λ_=>bA (λe=>j0) λ_=>?_⟩;refine ac (λe=>⟨by rw[mX,f9 e],i0⟩) λe=>ac (λa=>⟨by rw[mX,g0 e,f9 a],i0⟩) λa=>⟨by rw[mX,g0 e,g0 a],i0⟩
def TZ(a b:Int):Int:=if a≠0 then a else b
theorem adL(s:Sl)(a b:Int)(h:f8)(f:Rd h s 1 ak [a,b]):aq xD 205 #[s] h λv h'=>v=xt xz (TZ a b)/\h'=h:=by
 refine Bc s ?_;have m:s.len=2:=f.len;refine av (λk:Nat=>(k:Int)) (λk h'=>h'=h/\k<=2/\(1<=k->a=0)/\(2<=k->b=0)) (λk=>2-k) 0 i0 ⟨i0,i4,i4,i4⟩ ?_;rintro k h' ⟨rfl,l,g,j⟩;refine ac (λe=>?_) (λe=>?_)
 ·rcases(show k=0∨k=1 by omega)with rfl|rfl
  ·refine f.bD 0 i0 i9 a i0 ?_;refine ci (λc=>⟨by rw[TZ,f9 c],i0⟩) λc=>?_;exact⟨1,i0,⟨i0,i4,λ_=>c,i4⟩,i4⟩
  ·refine f.bD 1 i0 i9 b i0 ?_;have d:=g i4;refine ci (λc=>⟨by rw[TZ,g0 qb],i0⟩) λc=>?_;exact⟨2,i0,⟨i0,i4,λ_=>d,λ_=>c⟩,i4⟩
 ·have d:=g i4;have i:=j i4;exact⟨by rw[TZ,g0 qb,i],i0⟩
abbrev Fr:=Int×Fin 129
def uB(x:Fr):ba:=[xt xz x.1,.float .f64 (dq ((x.2:Nat):Int))]
def uC(x y:Fr):Int:=TZ (mX (x.2:Nat) (y.2:Nat)) (mX x.1 y.1)
theorem Qt(x y:Fr)(h:f8):aq xD 204 #[xy (uB x).toArray,xy (uB y).toArray] h λv h'=>v=xt xz (uC x y)/\aZ (λb=>b<h.size) h h':=by
 refine Gv (x.1,dq ((x.2:Nat):Int)) (y.1,dq ((y.2:Nat):Int)) ?_;refine(Sp.refl h).boxed (t:=267) λa k e=>?_;refine e.boxed (t:=267) λb g c=>?_;refine⟨_,(c.box 0 i0).cell (j:=1) i0,_,(c.box 1 i0).cell (j:=1) i0,_,(c.box 0 i0).cell0 i0,_,(c.box 1 i0).cell0 i0,?_⟩;refine(Yw x.2 y.2 g x.2.isLt y.2.isLt).mono ?_;rintro v h3 ⟨rfl,rfl⟩;refine⟨_,i0,⟨(c.box 1 i0).cell0 i0,(c.box 0 i0).cell0 i0,trivial⟩,(Yx _ _ h3).mono ?_⟩;rintro v i ⟨rfl,rfl⟩;refine⟨_,i0,trivial,?_⟩;refine c.lit an ak acQ i0 [mX (x.2:Nat) (y.2:Nat),mX x.1 y.1] i0 (show 2*1<=2^20 by decide) i0 λs f d=>⟨trivial,?_⟩
 refine(adL s _ _ f (d.seq 2 i0 λ_=>rfl)).mono ?_;rintro v l ⟨rfl,rfl⟩;exact⟨_,i0,trivial,i0,d.ag⟩
theorem Ua{a b:Int}:mX a b<0↔a<b:=by unfold mX;split<;>(try split)<;>omega
theorem MB{a b:Int}:mX a b=0↔a=b:=by unfold mX;split<;>(try split)<;>omega
theorem acR{x y:Fr}:ltOf uC x y=eR↔((x.2:Nat):Int)<(y.2:Nat)∨(((x.2:Nat):Int)=(y.2:Nat)/\x.1<y.1):=by
 have h0:ltOf uC x y=eR↔uC x y<0:=by simp[ltOf]
 rw[h0,uC,TZ];by_cases h:mX (x.2:Nat) (y.2:Nat)=0
 ·rw[g0 tg,Ua];have:=MB.1 h;constructor
  ·exactλa=>.inr ⟨this,a⟩
  ·rintro(a|a)
   ·omega
   ·exact a.2
 ·rw[f9 h,Ua];have b:((x.2:Nat):Int)≠(y.2:Nat):=λe=>h (MB.2 e);constructor
  ·exact .inl
  ·rintro(a|a)
   ·exact a
   ·exact absurd a.1 b
theorem Fb{x y:Fr}:ltOf uC x y=eS↔¬(((x.2:Nat):Int)<(y.2:Nat)∨(((x.2:Nat):Int)=(y.2:Nat)/\x.1<y.1)):=by rw[<-acR];simp
theorem afm:Sort.SWO (ltOf uC) where
 irrefl x:=Fb.2 i4
 trans x y z h1 h2:=by rw[acR]at*;omega
 ntrans x y z h1 h2:=by rw[Fb]at*;omega
theorem afn(x y:Fr)(a:ltOf uC x y=eS)(b:ltOf uC y x=eS):x=y:=by rw[Fb]at a b;refine y6 i4 (Fin.ext i4)
theorem Qu{e:TypeId}{s:Sl}{l:List Fr}{h:f8}(j:Own h e s 2 uB l)(a:ii l<2^40):
  aq xD 203 #[s,.func (.func 204) #[] #[]] h λv h'=>v=.tuple #[]/\Own h' e s 2 uB (l.mergeSort λx y=>!(ltOf uC) y x)/\aZ (λb=>¬s.on b) h h':=by
 have i:∀x:Fr,ii (uB x)=2:=λ_=>rfl;refine Nh (P:=xD) (id_:=203) (g:=204) (enc:=uB) (k:=2) (cf:=uC) i ?_ ?_ (λx y h=>Qt x y h) j a
 ·intro ga cap l w n f d m;have:=AnyQ.slices_SortFunc_total Tryz.TS 2 Tryz.aeN Tryz.adB uB (λ_=>rfl) (λx v c=>by simp[uB]at c;rcases c with rfl|rfl<;>rfl) uC afm 204 #[] ga 0 cap l.toArray w (enters_of Tryz.adC j1 i0) l6 f d (by simpa using m) afn;simp at this;exact this
 ·intro p cap w;exact AnyF.slices_SortFunc_none Tryz.TS p cap _ w
def Bt(a:aw)(n:Int):aw:=if 0<=n/\n<64/\a.contains n=eS then a++[n]else a
def je(l:aw):aw:=l.foldl Bt []
theorem Fc(l:aw){k:Nat}(a:k<ii l):je (l.take (k+1))=Bt (je (l.take k)) l[k]:=by rw[je,aH _ _ a,zQ];rfl
theorem Qv(l:aw):∀k,k<=ii l->∀x,x∈je (l.take k)↔x∈l.take k/\0<=x/\x<64
 |0,_,x=>by simp[je]
 |k+1,hk,x=>by
  have c:=Qv l k i4;rw[Fc l i4,aH _ _ (show k<ii l by omega),Bt];by_cases h:0<=l[k]/\l[k]<64/\(je (l.take k)).contains l[k]=eS
  ·rw[f9 h,qA,qA,qB,c x];constructor
   ·rintro(a|rfl)
    ·exact⟨.inl a.1,a.2⟩
    ·exact⟨.inr i0,h.1,h.2.1⟩
   ·rintro⟨a|a,b⟩
    ·exact .inl ⟨a,b⟩
    ·exact .inr a
  ·rw[g0 h,qA,qB,c x];constructor
   ·rintro a;exact⟨.inl a.1,a.2⟩
   ·rintro⟨a|rfl,b⟩
    ·exact⟨a,b⟩
    ·have:(je (l.take k)).contains l[k]=eR:=by
      cases hc:(je (l.take k)).contains l[k]with
      |true=>rfl
      |false=>exact absurd ⟨b.1,b.2,hc⟩ h
     exact(c _).1 (by simpa using this)
theorem Qx(l:aw)(k:Nat):ii (je (l.take k))<=k:=by
 induction k with
 |zero=>simp[je]
 |succ k ih=>
  by_cases a:k<ii l
  ·rw[Fc l a,Bt];split
   ·simp;omega
   ·omega
  ·rw[qi i4]at ih⊢;omega
def CF(c:Nat)(n:Int):Fr:=(n,Fin.ofNat 129 (Fa n.toNat c).toNat)
theorem afo{c:Nat}{n:Int}(a:c<64)(b:0<=n)(d:n<64):(((CF c n).2:Nat):Int)=Fa n.toNat c:=by have:=Yv (i:=n.toNat) (j:=c) i4 a;show(((Fa n.toNat c).toNat%129:Nat):Int)=_;omega
def Bu(c:Nat)(l:aw):aw:=(((je l).map (CF c)).mergeSort λx y=>!(ltOf uC) y x).map (·.1)
def dR(a block:Int)(l:aw):aw:=if 0<=a/\a<=16777215/\0<=block/\block<8 then Bu ((8*a+block)%64).toNat l else[]
def rH(a:aw):ba:=(qz 64).map λi:Nat=>xx (a.contains (i:Int))
theorem adM(a:aw){n:Int}(c:0<=n)(b:n<64):(rH a)[n.toNat]?=dB (xx (a.contains n)):=by rw[rH,qR,zt i4,q9,show((n.toNat:Nat):Int)=n by omega]
theorem aba(a:aw){n:Int}(d:0<=n)(c:n<64):(rH a).set n.toNat (xx eR)=rH (a++[n]):=by
 apply zI;intro i;rw[zb,rH,rH,qR,qR,qx,zF];by_cases b:i<64
 ·rw[zt b,q9,q9];by_cases h:n.toNat=i
  ·rw[f9 h,f9 i4,show((i:Nat):Int)=n by omega];simp
  ·rw[g0 h];have:(a++[n]).contains (i:Int)=a.contains (i:Int):=by rw[List.contains_eq_mem,List.contains_eq_mem];simp;omega
   rw[this]
 ·rw[g0 i4,qP i7];rfl
abbrev eFr:bU C.toAO 262 267 2 [xt xz 0,.float .f64 0] 16:=⟨_,_,i0,i0,i0,i0,i0,i0⟩
theorem afp:∀x,∀c∈uB x,c.oneCell'=eR:=by intro x c a;simp[uB]at a;rcases a with rfl|rfl<;>rfl
theorem GQ(b block:Int)(live:Sl)(l:aw)(h:f8)(V:Rd h live 1 ak l)(X:ii l<=2^30:=by omega):
  aq xD 141 #[xt xz b,xt xz block,live] h λv h'=>∃r:Sl,v=r/\Sp h h' [ae 3 r 1 ak (dR b block l)]:=by
 have ab:=V.len;refine Jh b block live ?_;have H:¬(0<=b/\b<=16777215/\0<=block/\block<8)->∃r:Sl,Value.slice eH 0 0=xu r.ptr r.len r.cap/\Sp h h [ae 3 r 1 ak (dR b block l)]:=λR=>by
  rw[dR,g0 R];exact⟨⟨eH,0,0⟩,i0,(Sp.refl h).nil 3 1 ak⟩
 refine bc (ac (λe=>H i4) λe1=>ac (λe=>H i4) λe2=>ac (λe=>H i4) λe3=>ac (λe=>H i4) λe4=>?_);have N:0<=b/\b<=16777215/\0<=block/\block<8:=i4
 rw[dR,f9 N];rw[af (8*b),af (8*b+block),yQ i4];obtain⟨c,hc⟩:∃c:Nat,(8*b+block)%64=c:=⟨((8*b+block)%64).toNat,i4⟩
 have g:c<64:=i4
 rw[hc,ql];refine⟨i5,(TY c h g).mono ?_⟩;rintro v h2 ⟨rfl,Z⟩;refine⟨((kR c).ax,(kR c).ay),i0,?_⟩;refine Z.alloc an i0 λa h3 H3=>?_;have I:Sp h h3 [al a 263 (rH []),ae 267 ⟨eH,0,0⟩ 2 uB []]:=H3.nil 267 2 uB;refine av (λt:Sl×Nat=>(t.1,(t.2:Int))) (λt h'=>t.2<=ii l/\Sp h h' [al a 263 (rH (je (l.take t.2))),ae 267 t.1 2 uB ((je (l.take t.2)).map (CF c))]) (λt=>ii l-t.2) (⟨eH,0,0⟩,0) i0 ⟨i9,I⟩ ?_;rintro⟨s,k⟩ h4 ⟨hk,q⟩;dsimp only at*;have E:=Qx l k;refine ac (λe=>?_) (λe=>?_)
 ·have w:k<ii l:=i4
  have G:=Fc l w;obtain⟨f,z⟩:∃f,f=je (l.take k):=⟨_,rfl⟩
  rw[<-z]at q E G;refine(Seq.up V q.ag).bD k i0 w _ i0 ?_;obtain⟨x,hx⟩:∃x,x=l[k]:=⟨_,rfl⟩
  rw[<-hx]at G⊢;refine bT (λt h'=>(t=eR↔0<=x/\x<64/\f.contains x=eS)/\h'=h4) ?_ ?_
  ·refine ac (λp=>ac (λm=>?_) λm=>⟨⟨λe=>j0,λD=>absurd D.2.1 m⟩,i0⟩) λp=>⟨⟨λe=>j0,λD=>absurd D.1 p⟩,i0⟩;refine⟨⟨p,m⟩,f.contains x,?_,?_,i0⟩
   ·rw[z8];exact(q.box 0 i0).cell (adM f p m)
   ·cases f.contains x<;>simp<;>omega
  ·rintro t h5 ⟨U,rfl⟩;refine bA (λe=>?_) (λe=>?_)
   ·obtain⟨p,m,x2⟩:=U.1 e;refine⟨⟨p,m⟩,?_⟩;rw[z8];refine q.storeAt an 0 i0 i0 i0 i0 i0 (by simp[rH];omega) λM u=>?_;have O:Sp h M [al a 263 (rH (f++[x])),ae 267 s 2 uB (f.map (CF c))]:=by rw[<-aba f p m];exact u
    obtain⟨n,R⟩:∃n:Nat,x=n:=⟨x.toNat,i4⟩
    subst R;refine(TY n M i4).mono ?_;rintro v T ⟨rfl,R7⟩;refine⟨((kR n).ax,(kR n).ay),i0,(aaZ n c T i4 g).mono ?_⟩;rintro v h8 ⟨rfl,rfl⟩;have F:=O.up R7.ag;have ev:dq (Fa n c)=dq (((CF c (n:Int)).2:Nat):Int):=by rw[afo g i4 i4,ql]
    refine⟨_,i0,?_⟩;rw[ev];refine F.push an 1 i0 eFr i0 i5 (λ_=>rfl) afp (CF c (n:Int)) i0 i5 i7 λs' Y P=>?_;refine⟨(s',k+1),jj,⟨i6,?_⟩,i6⟩;dsimp only;rw[G,Bt,f9 ⟨p,m,x2⟩,qS];exact P
   ·refine⟨(s,k+1),jj,⟨i6,?_⟩,i6⟩;dsimp only;rw[G,Bt,g0 λD=>by rw[U.2 D]at e;cases e];exact q
 have J:k=ii l:=i4
 subst J;rw[qV]at q E;refine(Qu (q.own 1 i0) i7).mono ?_;rintro v h5 ⟨rfl,Q,K⟩;have L:=q.nc 1 i0 K Q;obtain⟨d,j⟩:∃d,d=((je l).map (CF c)).mergeSort λx y=>!(ltOf uC) y x:=⟨_,rfl⟩
 have W:ii d=ii (je l):=by rw[j,w4,qx]
 have eo:Bu c l=d.map (·.1):=by rw[Bu,<-j]
 rw[<-j]at L;have ad:=(L.own 1 i0).len;rw[eo];refine⟨(),i0,?_⟩;refine av (λt:Sl×Nat=>(t.1,(t.2:Int))) (λt h'=>t.2<=ii d/\Sp h h' [ae 267 s 2 uB d,ae 3 t.1 1 ak ((d.take t.2).map (·.1))]) (λt=>ii d-t.2) (⟨eH,0,0⟩,0) i0 ⟨i9,(L.del 0).nil 3 1 ak⟩ ?_;rintro⟨o,i⟩ M ⟨S,u⟩;dsimp only at*;refine ac (λe=>?_) (λe=>?_)
 ·have B:i<ii d:=i4
  refine(u.seq 0 i0 λ_=>rfl).dZ i i0 B (d[i].1,dq ((d[i].2:Nat):Int)) i0 ?_;refine u.alloc an i0 λy T H7=>?_;refine H7.storeAll an 2 i0 i0 [xt xz d[i].1,.float .f64 (dq ((d[i].2:Nat):Int))] i0 i0 i0 i0 λh8 F=>?_;refine⟨d[i].1,(F.box 2 i0).cell0 i0,?_⟩;refine F.push an 1 i0 acQ i0 i5 (λ_=>rfl) eJ d[i].1 i0 i5 i7 λo' Y P=>?_;refine⟨(o',i+1),jj,⟨i6,?_⟩,i6⟩;dsimp only;rw[aH _ _ B,qS];exact P.del 2
 ·rw[qi i4]at u;exact⟨o,i0,u.take 1 λi A S=>by cases i with|zero=>exact S|succ i=>simp at S⟩
theorem abb(l:aw)(x:Int):x∈je l↔x∈l/\0<=x/\x<64:=by
 have:=Qv l l.length (qm _) x
 rwa [qV]at this
theorem JM(c:Nat)(l:aw):(Bu c l).Perm (je l):=by have h:=(ym ((je l).map (CF c)) λx y=>!(ltOf uC) y x).map (·.1);rw[w9]at h;have e:((λx:Fr=>x.1)∘CF c)=id:=rfl;rw[e,List.map_id]at h;exact h
theorem MC(c:Nat)(l:aw)(x:Int):x∈Bu c l↔x∈l/\0<=x/\x<64:=by rw[(JM c l).mem_iff,abb]
def Of(l:aw)(i:Nat):Int:=l.getD i 0
def fZ(o:aw)(id:Int):Int:=if o=[]∨id<0 then-1 else Of o (id%(ii o:Int)).toNat
theorem Ub(s:Sl)(o:aw)(id:Int)(h:f8)(f:Rd h s 1 ak o):aq xD 143 #[s,xt xz id] h λv h'=>v=xt xz (fZ o id)/\h'=h:=by
 have g:=f.len;refine PH s id ?_;refine bc (cy (λe=>⟨by rw[fZ,f9 (.inl (zc i4))],i0⟩) λe=>ac (λc=>⟨by rw[fZ,f9 (.inr c)],i0⟩) λc=>?_);refine⟨e,?_⟩;have d:¬(o=[]∨id<0):=by
  rintro(rfl|h2)
  ·simp at g;omega
  ·exact c h2
 have b:wo id ((s.len:Nat):Int)=((id%(ii o:Int)).toNat:Int):=by rw[yQ i4,g];have:=yn id (show(ii o:Int)≠0 by omega);omega
 have a:(id%(ii o:Int)).toNat<ii o:=by have:=wP id (show(0:Int)<ii o by omega);omega
 rw[b];refine f.bD _ i0 a _ i0 ⟨?_,i0⟩;rw[fZ,g0 d,Of,qe,qd a];rfl
def so(p:Pm)(seed:Int)(d:Row)(id:Int):aV:=if bW id then fR p.2.2.toNat (dC p seed d) (dE (bG p).toNat seed id)else[]
def mz(m:aC)(o b seed:Int)(d:Row)(id:Int):cW:=⟨o,b,id,m.p,seed,so m.p seed d id⟩
def JN(m:aC)(o b seed:Int)(d:Row)(order:aw)(id:Int):Int×aV:=(fZ order id,dn (mz m o b seed d id))
def mY(m:aC)(o:Int)(tries:aw)(a:cI)(live:aw)(i:Nat):List (Int×aV):=
 (qz (m.p.1+m.extra).toNat).map λid:Nat=>JN m o i (ck o i (tries.getD i 0)) (a.getD i []) (dR o i live) id
def dW(m:aC)(o:Int)(tries:aw)(a:cI)(live:aw)(n:Nat):List (Int×aV):=(qz n).flatMap (mY m o tries a live)
theorem sq(m:aC)(o:Int)(tries:aw)(a:cI)(live:aw)(n:Nat):dW m o tries a live (n+1)=dW m o tries a live n++mY m o tries a live n:=by unfold dW;rw[zT,zg,zf,z7,qM]
theorem JO(m:aC)(o:Int)(tries:aw)(a:cI)(live:aw)(i:Nat):ii (mY m o tries a live i)=(m.p.1+m.extra).toNat:=by simp[mY]
theorem uD(m:aC)(o:Int)(tries:aw)(a:cI)(live:aw):∀n,ii (dW m o tries a live n)=n*(m.p.1+m.extra).toNat
 |0=>by simp[dW]
 |n+1=>by rw[sq,qw,uD m o tries a live n,JO,zH]
theorem ms(o b t:Int):0<=ck o b t/\ck o b t<4294967296:=by unfold ck;omega
theorem NI(x:bX)(m:aC)(xe:dV)(e:Wl.cz)(s:Sl)(b:aV)(hS:St B h0 As λh=>dH h x m/\dQ jk h xe e/\Rd h s 1 aD b)(b0:s.len<=s.cap)(hz:dh m)(O:bM m.p=eR)(c9:0<=m.extra/\m.extra<=16)(c0:b.length<=2^20)
  (ht:dm m.p e.object (splitB m.p b).length=dB e.tries) (H:aa B h0 h (bh bw a pw (aS x) offs da w ds::As)):
  aq xD 83 #[xv (dB a),Ql xe,s] h λv h'=>∃(r:Sl) (ys:List (Int×Sl)),v=.tuple #[r,xx eR]/\
   aa B h0 h' (bh bw a pw (aS x) offs da w ds::cO jq 2 piv r ys (dW m e.object e.tries (splitB m.p b) (aQ ds m.drives) (splitB m.p b).length)::As):=by
 refine uP (dB a) xe s ?_;refine H.boxed λL h1 H1=>?_;have H1:=H1.bv;have H1:aa B h0 h1 (bh bw a pw (aS x) offs da w ds::al L 94 (bE xe)::As):=H1.aT 2 [1,0];refine(gg x m (hS.at [_,_] H1).1 hz H1).mono ?_;rintro _ h2 ⟨Y,rfl,R2⟩;have H2:=(H1.cj R2).aT 3 [1,0,2];obtain⟨ok,ah⟩:=aa.dl H2;obtain⟨cn,d2,bq⟩:=hS.at [_,_,_] H2;have ar:(x.2.2.1,x.2.2.2.1,x.2.2.2.2.1)=m.p:=cn.p;have d3:=(cm m.p).1 O;obtain⟨s1,s2,s3⟩:=ph O;obtain⟨c1,c2,c3⟩:=ma O b.length;have b7:(aQ ds m.drives).length<=m.drives.length:=qT _ _;have c4:=hz.dr;obtain⟨live,am⟩:∃live,live=aQ ds m.drives:=⟨_,rfl⟩
 rw[<-am]at H2 b7⊢;obtain⟨c,G⟩:∃c,c=splitB m.p b:=⟨_,rfl⟩
 have b5:c.length<=2^20:=by rw[G];unfold splitB;simp;omega
 have T:∀r∈c,r.length=gw m.p:=by rw[G];intro r hr;unfold splitB at hr;obtain⟨i,_,rfl⟩:=qu.1 hr;exact Ms _ _ _
 refine⟨Y,i0,a,i0,(x.2.2.1,x.2.2.2.1,x.2.2.2.2.1),⟨by rw[addr_add];exact ah.cell i0,by rw[addr_add];exact ah.cell i0,by rw[addr_add];exact ah.cell i0,trivial⟩,?_⟩;rw[ar];refine(Sv m.p s b h2 O bq b0 i4).mono ?_;rintro _ h3 ⟨q,rfl,R3⟩;rw[<-G]at R3 ht⊢;obtain⟨rs,H3⟩:=Go.Qw.aa.acO (H2.cj R3) λ_=>rfl;have H3:=(H3.DS 141 2 piv jq).bv;have H3:aa B h0 h3 (bh bw a pw (aS x) offs da w ds::ce 141 ⟨eH,0,0⟩ 2 piv jq (dW m e.object e.tries c live 0)::cO (nQ 1 aD) 1 bp q rs c::ae 3 Y 1 ak live::al L 94 (bE xe)::As):=H3.aT 5 [2,0,1,3,4];have c8:=(H3.fA 2 i0).1.len;have c5:=(H3.fA 2 i0).2.1;have d1:=kC ht;refine⟨q,i0,?_⟩;obtain⟨j,y⟩:∃j:Nat,j=(m.p.1+m.extra).toNat:=⟨_,rfl⟩
 have J:j<=32:=i4
 refine av (λt:Sl×Nat=>(t.1,(t.2:Int))) (λt h'=>t.2<=c.length/\aa B h0 h' (bh bw a pw (aS x) offs da w ds::ce 141 t.1 2 piv jq (dW m e.object e.tries c live t.2)::cO (nQ 1 aD) 1 bp q rs c::ae 3 Y 1 ak live::al L 94 (bE xe)::As)) (λt=>c.length-t.2) (⟨eH,0,0⟩,0) i0 ⟨i9,H3⟩ ?_;rintro⟨o,i⟩ h4 ⟨hi,H4⟩;dsimp only at*;refine ac (λe1=>?_) (λe1=>?_)
 ·have ab:i<c.length:=i4
  have F4:=H4.fA 2 i0;have ap:=H4.box 4 i0;obtain⟨bd,a8,c6⟩:=hS.at [_,_,_,_,_] H4;obtain⟨_,b9⟩:=aa.dl H4;obtain⟨t,a5,cq⟩:=xU ht i i4;have a9:e.tries.getD i 0=(t:Int):=by rw[qe,qd i4];exact a5
  have cc:c.getD i []=c[i]:=by rw[qe,qd ab];rfl
  have N:∀{h':f8},cw h' L 94 (bE xe)->cellOf h' (L.add 1)=dB (xt xz e.object):=λ{h'} hb=>by rw[<-a8.1.2.1];exact hb.cell i0
  have cp:∀{h':f8},cw h' a 91 (cQ (aS x) pw offs da)->aj h' (a.add 2) 0 [xt xz m.p.1,xt xz m.p.2.1,xt xz m.p.2.2]:=λ{h'} hb=>by
   rw[<-ar];exact⟨k9,k9,k9,trivial⟩
  have a7:=Fix.row F4 ab;refine F4.1.bD i i0 i4 (rs[i]'(by omega)) i0 ?_;refine⟨e.object,N ap,xe.2.2.2,ap.cell i0,?_⟩;refine Seq.bD (f:=ak) a8.2 i i0 i4 (t:Int) (by rw[a5];rfl) ?_;refine(pc _ _ _ h4).mono ?_;rintro _ _ ⟨rfl,rfl⟩;refine⟨_,i0,⟨ap.cell i0,trivial⟩,a,i0,m.p,cp b9,?_⟩;obtain⟨seed,k⟩:∃seed,seed=ck e.object i t:=⟨_,rfl⟩
  have hg:=(ES cq).2.1;have X:gc m.p seed (fQ m.p)=eR:=by rw[k];exact hg
  obtain⟨K,Hh,w',n,BK⟩:=UV (seed:=seed) (d:=c[i]) O X (by rw[T _ (qg ab),s3]);rw[<-k];refine(afl BK (rs[i]'(by omega)) _ a7.1 a7.2).mono ?_;rintro _ h6 ⟨W,mm,rfl,R6⟩;have H6:=(H4.comp R6).front;have H6:aa B h0 h6 (bh bw a pw (aS x) offs da w ds::ce 141 o 2 piv jq (dW m e.object e.tries c live i)::cO (nQ 1 aD) 1 bp q rs c::ae 3 Y 1 ak live::al L 94 (bE xe)::fN 71 mm 1 aD (dC m.p seed c[i])::al W 259 (AF m.p seed mm)::As):=H6.aT 7 [2,3,4,5,6,0,1];refine⟨(dB W,0),i0,ci (λe2=>absurd i0 e2) λ_=>?_⟩;have b2:=H6.box 4 i0;refine⟨e.object,N b2,(GQ e.object i Y live h6 (H6.seq 3 i0 λ_=>rfl)).mono ?_⟩;rintro _ h7 ⟨I,rfl,R7⟩;have H7:=(H6.cj R7).aT 8 [1,2,3,4,5,6,7,0];obtain⟨order,l⟩:∃order,order=dR e.object i live:=⟨_,rfl⟩
  rw[<-l]at H7;have a6:=(aa.dl H7).2;have cf:x.2.2.1=m.p.1:=congrArg (·.1) ar;refine⟨I,i0,a,i0,x.2.2.1,a6.cell i0,a,i0,x.2.2.2.2.2.1,a6.cell i0,?_⟩;have en:qc xz (x.2.2.1+x.2.2.2.2.2.1)=(j:Int):=by rw[cf,bd.extra,af _];omega
  dsimp only;rw[en];have R:mY m e.object e.tries c live i=(qz j).map λid:Nat=>JN m e.object i seed c[i] order id:=by unfold mY;rw[a9,cc,<-k,<-l,<-y]
  have b1:(mY m e.object e.tries c live i).length=j:=by rw[JO,<-y]
  obtain⟨A,E⟩:∃A,A=dW m e.object e.tries c live i:=⟨_,rfl⟩
  have dy:A.length<=2^26:=by rw[E,uD,<-y];have:=wb (show i<=2^20 by omega) J;omega
  obtain⟨Q,hQ⟩:∃Q,Q=mY m e.object e.tries c live i:=⟨_,rfl⟩
  rw[<-hQ]at R b1;rw[<-E]at H7;refine av (λt:Sl×Nat=>(t.1,(t.2:Int))) (λt h'=>t.2<=j/\aa B h0 h' (bh bw a pw (aS x) offs da w ds::ce 141 t.1 2 piv jq (A++Q.take t.2)::cO (nQ 1 aD) 1 bp q rs c::ae 3 Y 1 ak live::al L 94 (bE xe)::fN 71 mm 1 aD (dC m.p seed c[i])::al W 259 (AF m.p seed mm)::ae 3 I 1 ak order::As)) (λt=>j-t.2) (o,0) i0 ⟨i9,by simpa using H7⟩ ?_;rintro⟨o2,id⟩ h8 ⟨hid,P⟩;dsimp only at*;refine ac (λe3=>?_) λe3=>?_
  ·have cs:id<j:=i4
   have ax:=P.box 4 i0;have V:=(aa.dl P).2;have F:uA h8 W m.p seed (dC m.p seed c[i]):=⟨mm,P.box 6 i0,P.DQ 5 i0⟩
   have S:so m.p seed c[i] id=if bW id then fR w' (dC m.p seed c[i]) (dE n seed id)else[]:=by unfold so;rw[BK.oO,show m.p.2.2.toNat=w' by have:=BK.s;omega]
   have held:∀{h':f8},aZ (λb=>b<h8.size) h8 h'->au.ok [((a.add 2),xt xz m.p.1),((a.add 2).add 1,xt xz m.p.2.1),((a.add 2).add 2,xt xz m.p.2.2),(L.add 1,xt xz e.object)] h':=λ{h'} O=>by
    obtain⟨q1,q2,q3,_⟩:=cp (V.ag O V.lt);exact⟨q1,q2,q3,N (ax.ag O ax.lt),trivial⟩
   refine bT (λ(a2:eY) h'=>∃r:Sl,aa B h0 h' (al a2 164 (bO (e.object,(i:Int),(id:Int),m.p.1,m.p.2.1,m.p.2.2,seed,r))::ae 5 r 1 aD (so m.p seed c[i] id)::bh bw a pw (aS x) offs da w ds::ce 141 o2 2 piv jq (A++Q.take id)::cO (nQ 1 aD) 1 bp q rs c::ae 3 Y 1 ak live::al L 94 (bE xe)::fN 71 mm 1 aD (dC m.p seed c[i])::al W 259 (AF m.p seed mm)::ae 3 I 1 ak order::As)) ?_ ?_
   ·refine⟨e.object,N ax,a,i0,m.p,cp V,?_,?_⟩
    ·refine(BK.symbol W id h8 F).mono ?_;rintro _ h9 ⟨r,rfl,R9⟩;rw[<-S]at R9;have H9:=P.cj R9;refine⟨r,i0,held R9.ag,H9.DU an i0 λa28 dx bb a0=>⟨held (aa.up R9 bb).ag,?_⟩⟩;have a0:=a0.bv;refine a0.storeAll an 0 i0 i0 (bO (e.object,(i:Int),(id:Int),m.p.1,m.p.2.1,m.p.2.2,seed,r)) i0 i0 i0 i0 λdd cd=>⟨trivial,r,cd⟩
    ·refine P.DU an i0 λdu b4 ay ao=>⟨held ay,?_⟩
     have ao:=ao.bv;refine(BK.symbol W id b4 (F.up ay)).mono ?_;rintro _ dp ⟨r,rfl,U⟩;rw[<-S]at U;have b6:=(ao.cj U).aT 2 [1,0];refine⟨r,i0,held (aa.up (Sp.zip ay) U.ag).ag,?_⟩;refine b6.storeAll an 0 i0 i0 (bO (e.object,(i:Int),(id:Int),m.p.1,m.p.2.1,m.p.2.2,seed,r)) i0 i0 i0 i0 λd0 cr=>⟨trivial,r,cr⟩
   ·rintro a2 br ⟨r,M⟩;have g:=M.box 0 i0;have Z:=ms e.object i t;rw[<-k]at Z;refine⟨(e.object,(i:Int),(id:Int),m.p.1,m.p.2.1,m.p.2.2,seed,r),g.aP _ i0,(Ub I order id br (M.seq 9 i0 λ_=>rfl)).mono ?_⟩;rintro _ cl ⟨rfl,rfl⟩;refine⟨_,i0,⟨g.cell0 i0,g.cell i0,g.cell i0,g.cell i0,g.cell i0,g.cell i0,g.cell i0,g.cell i0,trivial⟩,?_⟩;refine(rF (e.object,(i:Int),(id:Int),m.p.1,m.p.2.1,m.p.2.2,seed,r) (mz m e.object i seed c[i] id) cl ⟨⟨i0,i0,i0,i0,i0,Z.1,Z.2⟩,M.seq 1 i0 λ_=>rfl⟩).mono ?_;rintro _ dk ⟨u,rfl,b3⟩;have a3:=(M.cj b3).gb 0 i0 (D:=EA jq (fZ order id,u) (JN m e.object i seed c[i] order id)) λz hz=>⟨i0,hz.1.seq (λ_=>rfl) hz.2⟩
    have a4:Q[id]'(by omega)=JN m e.object i seed c[i] order id:=by simp[R]
    refine⟨u,i0,trivial,?_⟩;refine a3.ne an piv PZ i0 [(fZ order id,u)] i0 (show 1*2<=2^20 by decide) i0 trivial ?_;refine aa.rv an a3 4 0 i5 (a:=(fZ order id,u)) i0 i0 PZ i0 i5 (λ_=>rfl) Ls (parts:=#[(0,xy #[xt xz (fZ order id),u])]) j1 i5 i7 λo3 c7 bs=>⟨trivial,?_⟩
    refine⟨(o3,id+1),jj,⟨i6,?_⟩,i6⟩;dsimp only;rw[aH Q id,a4,<-qp];exact bs.rest.rest.rest
  ·have ad:id=j:=i4
   subst ad;rw[qi i4]at P;refine⟨(o2,i+1),jj,⟨i6,?_⟩,i6⟩;dsimp only;rw[sq,<-E,<-hQ];exact P.aT 8 [0,1,2,3,4]
 ·have ad:i=c.length:=i4
  subst ad;obtain⟨ys,H5⟩:=H4.KG 1 rfl λ_=>rfl;exact⟨o,ys,i0,H5.aT 5 [0,1]⟩
end Go.Qw
namespace Wl
open Go
def kE(a:Nat)(l:List (Int×aV))(k:Int):Int:=(a:Int)+ii (l.filter λy=>decide (y.1=k))
end Wl
namespace Go.Qw
open Go Go.Vc Go.Proofs Wl
theorem Yy(k:Int)(d c:eY)(a:Nat)(r:Sl)(o:List (Int×Sl))(l:List (Int×aV))(h:f8)(z:a<=2^30)(F:ii l<=2^30)(u:cw h d 3 [xt xz a])(s:cw h c 131 [r])(t:nD jq 2 piv h r o l):
  aq xD 85 #[xt xz k,xv (dB d),xv (dB c)] h λv h'=>v=xt xz (kE a l k)/\Sp h h' []:=by
 refine AZ k d c ?_;have A:=t.1.len;have B:=t.2.1;refine⟨(a:Int),u.cell0 i0,r,s.cell0 i0,?_⟩;refine av (λi:Nat=>(kE a (l.take i) k,(i:Int))) (λi h'=>i<=ii l/\Sp h h' []) (λi=>ii l-i) 0 (by simp[kE]) ⟨i4,Sp.refl h⟩ ?_;rintro i H ⟨G,p⟩;dsimp only;have w:(ii ((l.take i).filter λy=>decide (y.1=k)):Int)<=i:=by have:=qT (λy:Int×aV=>decide (y.1=k)) (l.take i);simp at this;omega
 refine ac (λe=>?_) λe=>?_
 ·have j:i<ii l:=i4
  have m:=nD.up t p.ag;refine m.1.dZ (g:=piv) i i0 i4 (o[i]'(by omega)) i0 ?_;refine p.alloc an i0 λD E x=>?_;refine x.storeAll an 0 i0 i0 (piv (o[i]'(by omega))) i0 i0 i0 i0 λh3 f=>?_;have f:Sp h h3 [al D 141 (piv (o[i]'(by omega)))]:=f;have n:=Fix.row m j;have b:kE a (l.take (i+1)) k=kE a (l.take i) k+(if l[i].1=k then 1 else 0):=by
   unfold kE;rw[aH _ _ j,zq,qw,zr,vi];split
   ·rename_i q;rw[f9 (hZ q)];simp;omega
   ·rename_i q;rw[g0 rb];simp
  refine⟨l[i].1,by rw[<-n.1];exact(f.box 0 i0).cell0 i0,cy (λg=>?_) λg=>?_⟩
  ·refine⟨i+1,?_,⟨i4,.zip f.ag⟩,i4⟩;rw[b,f9 g,af (kE a (l.take i) k+1) (by unfold kE;omega) (by unfold kE;omega),af _];rfl
  ·refine⟨i+1,?_,⟨i4,.zip f.ag⟩,i4⟩;rw[b,g0 g,Int.add_zero,af _];rfl
 ·rw[qi i4];exact⟨i0,p⟩
def iy(m:aC)(offs:Int)(w:Pow)(ds:aE)(name:ByteArray)(b:aV):Int×aC×Pow×aE:=
 if eV m (fd w offs) ds name b.length≠0 then(eV m (fd w offs) ds name b.length,m,w,ds)else
 match dm m.p m.next (splitB m.p b).length with
 |none=>(8,m,w,ds)
 |some t=>
  let live:=aQ ds m.drives;let l:=dW m m.next t (splitB m.p b) live (splitB m.p b).length;let n:=iC m ⟨name,m.next,ii b,t⟩;let N:=kE (bn n).length l
  if dN m ds live N=eS then(7,m,w,ds)else
  if(makes m N live w ds).1≠0 then((makes m N live w ds).1,m,(makes m N live w ds).2)else
  let a:=layAll l (makes m N live w ds).2.1 (makes m N live w ds).2.2
  if a.1≠0 then(a.1,m,a.2)else
  ((layAll (bJ n live) a.2.1 a.2.2).1,if(layAll (bJ n live) a.2.1 a.2.2).1=0 then n else m,(layAll (bJ n live) a.2.1 a.2.2).2)
theorem pj{m:aC}{d:Bool}{ds:aE}{name:ByteArray}{n:Nat}(h:eV m d ds name n=0):
  d=eS/\mB name=eR/\m.aF.any (mb name)=eS/\¬(m.p.1*m.p.2.2*8<(n:Int)∨12<=ii m.aF)/\¬(aQ ds m.drives=[]∨16777215<m.next∨2147483647<=m.seq):=by
 unfold eV at h;split at h
 ·cases h
 ·rename_i c;split at h
  ·cases h
  ·rename_i e;split at h
   ·cases h
   ·rename_i h3;split at h
    ·cases h
    ·rename_i b;split at h
     ·cases h
     ·rename_i a;exact⟨n9,l7,by simpa using h3,b,a⟩
theorem Ly{m:aC}{b:aV}(a:bM m.p=eR)(h:¬m.p.1*m.p.2.2*8<(ii b:Int)):ii (splitB m.p b)<=8:=by obtain⟨e,f,c⟩:=ph a;obtain⟨g,d,c3⟩:=ma a b.length;unfold splitB;rw[qx,zF];refine Nat.le_of_not_lt λh8=>?_;have:=c3 8 i4;rw[<-c]at h;omega
theorem afq{o:aw}(b:o≠[])(id:Nat):fZ o id∈o:=by
 unfold fZ Of;rw[g0 (by rintro(h|h);exact b h;omega)];have c:0<ii o:=by cases o with|nil=>exact absurd rfl b|cons=>simp
 have a:((id:Int)%(ii o:Int)).toNat<ii o:=by have:=wP (id:Int) (show(0:Int)<ii o by omega);have:=yn (id:Int) (show(ii o:Int)≠0 by omega);omega
 rw[qe,qd a];exact qg a
theorem Qy{m:aC}{o:Int}{tries:aw}{p:cI}{live:aw}(r:0<=o/\o<=16777215)(q:live≠[])(f:∀k∈live,0<=k/\k<64){n:Nat}(s:n<=8){y:Int×aV}(c:y∈dW m o tries p live n):y.1∈live/\y.2.length<=64:=by
 unfold dW at c;obtain⟨i,g,c⟩:=zS.1 c;have g:=qJ.1 g;unfold mY at c;obtain⟨id,_,rfl⟩:=qu.1 c;refine⟨?_,?_⟩
 ·show fZ _ _∈live;have d:dR o i live=Bu ((8*o+i)%64).toNat live:=by unfold dR;rw[f9 i4]
  have b:∀a,a∈dR o i live↔a∈live/\0<=a/\a<64:=λa=>by rw[d];exact MC _ _ _
  have e:dR o i live≠[]:=λh=>by
   cases live with
   |nil=>exact q i0
   |cons a l=>
    have:=(b a).2 ⟨qI,f a qI⟩;rw[h]at this;cases this
  exact((b _).1 (afq e id)).1
 ·show(dn _).length<=64;unfold dn;split
  ·rename_i j;refine xg (mh i5 i5 ?_);have:=ol j;omega
  ·simp
theorem adN{m:aC}{e:Wl.cz}(b:dh m)(g:m.aF.length<=11)(c:e.name.size<=2^30)(d:e.tries.length<=2^30):dh (iC m e):=by
 refine⟨b.dr,?_,λf a=>?_⟩
 ·show((m.aF++[e]).mergeSort sI).length<=2^30;rw[w4];simp;omega
 ·have a:f∈(m.aF++[e]).mergeSort sI:=a;rcases qA.1 ((ym _ _).mem_iff.1 a)with h|h
  ·exact b.nm f h
  ·rw[qB.1 h];exact⟨c,d⟩
variable {B:aA} {h0 h:f8} {As:List HP} {a pw:eY} {offs:Int} {da:List bm} {w:Pow} {ds:aE}
theorem abc(x:bX)(m:aC)(name:ByteArray)(s:Sl)(b:aV)(hS:St B h0 As λh=>Rd h s 1 aD b)(cq:s.len<=s.cap)(hn:name.size<=2^40)(X:dh m)(hp:bM m.p=eR)(cf:0<=m.extra/\m.extra<=16)(c2:∀k∈m.drives,0<=k/\k<64)(b9:m.drives.length<=64)(cd:0<=m.seq)(a0:0<=m.next)(b4:b.length<=2^20)
  (H:aa B h0 h (bh bw a pw (aS x) offs da w ds::bS x m::As)):
  aq xD 35 #[xv (dB a),xw name,s] h λv h'=>v=xt xz (iy m offs w ds name b).1/\
   ∃y,aa B h0 h' (bh bw a pw (aS y) offs da (iy m offs w ds name b).2.2.1 (iy m offs w ds name b).2.2.2::bS y (iy m offs w ds name b).2.1::As):=by
 refine Du (dB a) name s ?_;have ao:=(hS.at [_,_] H).len;refine(Qn x m name s b.length ao hn (H.at 1 i0) X hp H).mono ?_;rintro _ h1 ⟨rfl,R1⟩;have H1:=H.up R1.ag;refine⟨_,i0,ci (λe=>?_) λe1=>?_⟩
 ·have ep:iy m offs w ds name b=(eV m (fd w offs) ds name b.length,m,w,ds):=by unfold iy;rw[f9 e]
  rw[ep];exact⟨i0,x,H1⟩
 obtain⟨z1,z2,z3,z4,z5⟩:=pj e1;have b1:¬m.p.1*m.p.2.2*8<(b.length:Int):=λh=>z4 (.inl h);have bb:m.aF.length<=11:=by have:¬12<=m.aF.length:=λh=>z4 (.inr h);omega
 have c8:aQ ds m.drives≠[]:=λh=>z5 (.inl h);have dr:m.next<=16777215:=by have:¬16777215<m.next:=λh=>z5 (.inr (.inl h));omega
 have en:m.seq<=2147483646:=by have:¬2147483647<=m.seq:=λh=>z5 (.inr (.inr h));omega
 have h8:=Ly hp b1;have ek:name.size<=12:=by unfold mB at z2;simp at z2;omega
 have c9:=(aa.dl H1).2;have a1:dH h1 x m:=H1.at 1 i0;refine⟨a,i0,x.2.1,c9.cell i0,H1.alloc an i0 λa4 h2 H2=>?_⟩;have H2:=H2.bv;refine H2.storeAll an 0 i0 i0 (bE (name,x.2.1,(s.len:Int),⟨eH,0,0⟩)) i0 i0 i0 i0 λh3 H3=>?_;have H3:aa B h0 h3 (al a4 94 (bE (name,m.next,(b.length:Int),⟨eH,0,0⟩))::bh bw a pw (aS x) offs da w ds::bS x m::As):=by rw[<-a1.next,<-ao];exact H3
 have cp:∀{h':f8},cw h' a 91 (cQ (aS x) pw offs da)->aj h' (a.add 2) 0 [xt xz m.p.1,xt xz m.p.2.1,xt xz m.p.2.2]:=λ{h'} hb=>by
  rw[<-a1.p];exact⟨k9,k9,k9,trivial⟩
 obtain⟨J,L⟩:∃J,J=(splitB m.p b).length:=⟨_,rfl⟩
 have bl:countP m.p (s.len:Nat)=(J:Int):=by have:=(ma hp b.length).1;rw[L,ao];unfold splitB;rw[qx,zF];omega
 refine bT (λ(t:Sl×Bool) h'=>(dm m.p m.next J=eH->t.2=eS/\aa B h0 h' (bh bw a pw (aS x) offs da w ds::bS x m::As))/\(∀l,dm m.p m.next J=dB l->t.2=eR/\aa B h0 h' (ae 3 t.1 1 ak l::al a4 94 (bE (name,m.next,(b.length:Int),⟨eH,0,0⟩))::bh bw a pw (aS x) offs da w ds::bS x m::As))) ?_ ?_
 ·have dp:=H3.box 0 i0;have W:=(aa.dl (H3.aT 3 [1,0,2])).2;refine⟨a,i0,m.p,cp W,m.next,dp.cell i0,a,i0,m.p,cp W,(Cx m.p s.len h3).mono ?_⟩;rintro _ h4 ⟨rfl,R4⟩;have H4:=H3.up R4.ag;have c5:=W.ag R4.ag W.lt;obtain⟨q1,q2,q3,_⟩:=cp c5;refine⟨_,i0,⟨(H4.box 0 i0).cell i0,q1,q2,q3,trivial⟩,?_⟩;rw[bl];refine(Vu m.p m.next J h4 i4).mono ?_;rintro _ h5 ⟨T0,T1⟩;cases ht:dm m.p m.next J with
  |none=>
   obtain⟨rfl,R5⟩:=T0 ht;exact⟨(⟨eH,0,0⟩,eS),i0,trivial,λ_=>⟨i0,(H4.up R5.ag).aT 3 [1,2]⟩,λl h=>j8⟩
  |some l=>
   obtain⟨r,rfl,R5⟩:=T1 l ht;exact⟨(r,eR),i0,trivial,λh=>j8,λl' h=>(by injection h with h;subst h;exact⟨i0,H4.cj R5⟩)⟩
 rintro⟨j,tb⟩ h6 ⟨T0,T1⟩;dsimp only at T0 T1⊢;cases ht:dm m.p m.next J with
 |none=>
  obtain⟨rfl,H6⟩:=T0 ht;have ep:iy m offs w ds name b=(8,m,w,ds):=by unfold iy;rw[g0 n7,<-L,ht]
  rw[ep];exact bi (λ_=>⟨i0,x,H6⟩) λe=>j0
 |some t=>
  obtain⟨rfl,H6⟩:=T1 t ht;refine bi (λe=>j0) λ_=>?_;have eh:=kC ht;refine H6.store an 1 i0 i0 3 [j] i0 i0 i0 i9 λh7 H7=>?_;obtain⟨e,he⟩:∃e:Wl.cz,e=⟨name,m.next,b.length,t⟩:=⟨_,rfl⟩
  have H7:aa B h0 h7 (ae 3 j 1 ak e.tries::al a4 94 (bE (name,m.next,(b.length:Int),j))::bh bw a pw (aS x) offs da w ds::bS x m::As):=by rw[he];exact H7
  have H7:=H7.aT 4 [2,3,0,1];have b5:St B h0 (bS x m::ae 3 j 1 ak e.tries::al a4 94 (bE (name,m.next,(b.length:Int),j))::As) λh=>dH h x m/\dQ jk h (name,m.next,(b.length:Int),j) e/\Rd h s 1 aD b:=λBs h' i=>
   ⟨(St.dS 0 i0 λ_ o=>o) Bs h' i,(St.dS (A:=ae 3 j 1 ak e.tries) (Q:=λh=>dQ jk h (name,m.next,(b.length:Int),j) e) 1 i0 λh' o=>⟨by rw[he];exact⟨i0,i0,i0⟩,o.1.seq (λ_=>rfl) o.2⟩) Bs h' i,(hS.cons.cons.cons) Bs h' i⟩
  refine⟨(name,m.next,(b.length:Int),j),(H7.box 3 i0).aP _ i0,?_⟩;refine(NI x m (name,m.next,(b.length:Int),j) e s b b5 cq X hp cf b4 (by rw[he,<-L];exact ht) H7).mono ?_;rintro _ d2 ⟨r,ys,rfl,H8⟩;obtain⟨live,c⟩:∃live,live=aQ ds m.drives:=⟨_,rfl⟩
  obtain⟨l,hl⟩:∃l,l=dW m m.next t (splitB m.p b) live J:=⟨_,rfl⟩
  have cr:dW m e.object e.tries (splitB m.p b) (aQ ds m.drives) (splitB m.p b).length=l:=by rw[hl,he,<-c,<-L]
  rw[cr]at H8;refine⟨(r,eR),i0,H8.alloc an i0 λf h9 H9=>?_⟩;have H9:=H9.bv;refine H9.storeAll an 0 i0 i0 [r] i0 i0 i0 i0 λar q=>?_;refine bi (λe=>j0) λ_=>?_;obtain⟨n,V⟩:∃n,n=iC m e:=⟨_,rfl⟩
  have q:aa B h0 ar (al f 131 [r]::bh bw a pw (aS x) offs da w ds::cO jq 2 piv r ys l::bS x m::ae 3 j 1 ak e.tries::al a4 94 (bE (name,m.next,(b.length:Int),j))::As):=q;have q:aa B h0 ar (rY j 1 ak e.tries::bh bw a pw (aS x) offs da w ds::bS x m::cO jq 2 piv r ys l::al f 131 [r]::al a4 94 (bE (name,m.next,(b.length:Int),j))::As):=(q.freeze 4 i0 λ_=>rfl).aT 6 [4,1,3,2,0,5];have b0:((name,m.next,(b.length:Int),j):dV).1=e.name/\((name,m.next,(b.length:Int),j):dV).2.1=e.object/\((name,m.next,(b.length:Int),j):dV).2.2.1=e.length:=by rw[he];exact⟨i0,i0,i0⟩
  have O:∀{h':f8} {Cs:List HP},aa B h0 h' (rY j 1 ak e.tries::Cs)->dH h' x m->aq xD 84 #[fT x,Ql (name,m.next,(b.length:Int),j)] h' λv dk=>∃y:bX,v=fT y/\aa B h0 dk (bS y n::Cs):=λ{h' Cs} i hx'=>by
   rw[V];exact Yo x m _ e hx' X ⟨cd,i4⟩ ⟨a0,i4⟩ bb b0 i
  have M:=(aa.dl (q.aT 2 [1,0])).2;have K:=q.box 5 i0;have bd:dH ar x m:=q.at 2 i0;refine bT (λ(t:eY×Sl) h'=>∃y,aa B h0 h' (bh bw a pw (aS x) offs da w ds::bS x m::cO jq 2 piv r ys l::al f 131 [r]::al t.1 29 (aS y)::bS y n::ae 3 t.2 1 ak live::As)) ?_ ?_
  ·refine⟨a,i0,x,M.aP _ i0,(name,m.next,(b.length:Int),j),K.aP _ i0,?_,?_⟩
   ·refine(O q bd).mono ?_;rintro _ d4 ⟨y,rfl,I⟩;have I:=I.aT 6 [1,2,3,4,0];refine⟨y,i0,trivial,?_,?_⟩
    ·refine(gg x m (I.at 1 i0) X I).mono ?_;rintro _ d7 ⟨G,rfl,a8⟩;rw[<-c]at a8;have c4:=I.cj a8;refine⟨G,i0,trivial,c4.alloc an i0 λd3 d9 ap=>⟨trivial,?_⟩⟩;have ap:=ap.bv;refine ap.storeAll an 0 i0 i0 (aS y) i0 i0 i0 i0 λeg dd=>⟨trivial,y,?_⟩
     exact dd.aT 7 [2,3,4,5,0,6,1]
    ·refine I.alloc an i0 λa22 d1 Z=>⟨trivial,?_⟩
     have Z:=Z.bv;have ah:=Z.aT 6 [1,2,3,4,5,0];refine(gg x m (ah.at 1 i0) X ah).mono ?_;rintro _ ej ⟨G,rfl,a9⟩;rw[<-c]at a9;have cs:=(Z.cj a9).aT 2 [1,0];refine⟨G,i0,trivial,cs.storeAll an 0 i0 i0 (aS y) i0 i0 i0 i0 λd8 b7=>⟨trivial,y,?_⟩⟩;exact b7.aT 7 [2,3,4,5,0,6,1]
   ·refine q.DU an i0 λd5 dx a3 ab=>?_;have d:=M.ag a3 M.lt;have F:=K.ag a3 K.lt;refine⟨⟨F.cell0 i0,F.cell i0,F.cell i0,F.cell i0,d.cell0 i0,d.cell i0,d.cell i0,d.cell i0,d.cell i0,d.cell i0,d.cell i0,d.cell i0,trivial⟩,?_⟩;have ab:=(ab.bv).aT 7 [1,0,2,3,4,5];refine(O ab (ab.at 3 i0)).mono ?_;rintro _ d0 ⟨y,rfl,cl⟩;have P:=cl.aT 6 [2,3,4,5,0,1];refine⟨y,i0,trivial,(gg x m (P.at 1 i0) X P).mono ?_⟩;rintro _ d6 ⟨G,rfl,a5⟩;rw[<-c]at a5;have cn:=(P.cj a5).aT 7 [6,0,1,2,3,4,5];refine⟨G,i0,trivial,cn.storeAll an 0 i0 i0 (aS y) i0 i0 i0 i0 λei cc=>⟨trivial,y,?_⟩⟩;exact cc.aT 7 [2,3,4,5,0,6,1]
  rintro⟨am,G⟩ b6 ⟨y,Y⟩;dsimp only at Y⊢;have ax:dh n:=by rw[V];exact adN X bb (by rw[he];show name.size<=2^30;omega) (by rw[he];show t.length<=2^30;omega)
  have du:n.drives=m.drives:=by rw[V];rfl
  have ef:live.length<=64:=by rw[c];exact zd (qT _ _) b9
  have u:∀k∈live,0<=k/\k<64:=λk hk=>by rw[c]at hk;exact c2 k (qH.1 hk).1
  have a6:(m.p.1+m.extra).toNat<=32:=by have:=(cm m.p).1 hp;omega
  have ea:l.length<=256:=by rw[hl,uD];exact wb (show J<=8 by omega) a6
  have c7:∀z∈l,(0<=z.1/\z.1<64)/\z.2.length<=2^20:=λz a7=>by
   rw[hl]at a7;obtain⟨p1,p2⟩:=Qy (m:=m) ⟨a0,dr⟩ (by rw[c];exact c8) u (show J<=8 by omega) a7;exact⟨u _ p1,zd p2 i5⟩
  refine⟨y,(Y.box 4 i0).aP _ i0,(oY y n b6 (Y.at 5 i0) ax).mono ?_⟩;rintro _ eb ⟨pg,rfl,bq⟩;have ad:=(aa.sa bq).1;have bs:=kz n ax;obtain⟨pn,bk⟩:∃pn,pn=(bn n).length:=⟨_,rfl⟩
  rw[<-bk]at ad bs;have b2:=Y.up bq.ag;refine⟨pg,i0,b2.alloc an i0 λD eo ay=>?_⟩;have ay:=ay.bv;refine ay.storeAll an 0 i0 i0 [xt xz (pg.len:Int)] i0 i0 i0 i0 λc0 E=>?_;rw[ad]at E;have E:aa B h0 c0 (bh bw a pw (aS x) offs da w ds::bS x m::cO jq 2 piv r ys l::al f 131 [r]::al am 29 (aS y)::bS y n::ae 3 G 1 ak live::al D 3 [xt xz (pn:Int)]::As):=E.aT 8 [1,2,3,4,5,6,7,0];obtain⟨N,hN⟩:∃N,N=kE pn l:=⟨_,rfl⟩
  obtain⟨T,R⟩:∃T,T=bS x m::cO jq 2 piv r ys l::al f 131 [r]::al am 29 (aS y)::bS y n::ae 3 G 1 ak live::al D 3 [xt xz (pn:Int)]::As:=⟨_,rfl⟩
  have tX:St B h0 T λh=>dH h x m:=by rw[R];exact St.dS 0 i0 λ_ o=>o
  have tF:St B h0 T λh=>nD jq 2 piv h r ys l:=by rw[R];exact St.dS 1 i0 λ_ o=>o
  have tB:St B h0 T λh=>cw h f 131 [r]:=by rw[R];exact St.dS (A:=al f 131 [r]) 2 i0 λ_ o=>o.1
  have tM:St B h0 T λh=>cw h am 29 (aS y):=by rw[R];exact St.dS (A:=al am 29 (aS y)) 3 i0 λ_ o=>o.1
  have tY:St B h0 T λh=>dH h y n:=by rw[R];exact St.dS 4 i0 λ_ o=>o
  have tL:St B h0 T λh=>Rd h G 1 ak live:=by rw[R];exact St.dS (A:=ae 3 G 1 ak live) 5 i0 λ_ o=>o.1.seq (λ_=>rfl) o.2
  have tN:St B h0 T λh=>cw h D 3 [xt xz (pn:Int)]:=by rw[R];exact St.dS (A:=al D 3 [xt xz (pn:Int)]) 6 i0 λ_ o=>o.1
  have tT:St B h0 T λh=>Oe 85 #[] #[xv (dB D),xv (dB f)] N live h:=λBs h' i k hk=>by
   rw[hN];exact Yy k D f pn r ys l h' i4 i4 (tN Bs h' i) (tB Bs h' i) (tF Bs h' i)
  have fin:∀{h':f8} {z:bX} {w':Pow} {ds':aE},aa B h0 h' (bh bw a pw (aS x) offs da w' ds'::T)->aa B h0 h' (bh bw a pw (aS x) offs da w' ds'::bS x m::As):=λ{h' z w' ds'} i=>by
   rw[R]at i;exact i.aT 8 [0,1]
  rw[<-R]at E;have ep:iy m offs w ds name b=(if dN m ds live N=eS then(7,m,w,ds)else if(makes m N live w ds).1≠0 then((makes m N live w ds).1,m,(makes m N live w ds).2)else
    if(layAll l (makes m N live w ds).2.1 (makes m N live w ds).2.2).1≠0 then((layAll l (makes m N live w ds).2.1 (makes m N live w ds).2.2).1,m,(layAll l (makes m N live w ds).2.1 (makes m N live w ds).2.2).2)else
    ((layAll (bJ n live) (layAll l (makes m N live w ds).2.1 (makes m N live w ds).2.2).2.1 (layAll l (makes m N live w ds).2.1 (makes m N live w ds).2.2).2.2).1,if(layAll (bJ n live) (layAll l (makes m N live w ds).2.1 (makes m N live w ds).2.2).2.1 (layAll l (makes m N live w ds).2.1 (makes m N live w ds).2.2).2.2).1=0 then n else m,(layAll (bJ n live) (layAll l (makes m N live w ds).2.1 (makes m N live w ds).2.2).2.1 (layAll l (makes m N live w ds).2.1 (makes m N live w ds).2.2).2.2).2)):=by
   rw[hN,bk,hl,V,he,c];unfold iy;rw[g0 n7,<-L,ht]
  rw[ep];refine(JI 85 #[] #[xv (dB D),xv (dB f)] N x m G live ld (λBs h' i=>⟨tX Bs h' i,tT Bs h' i⟩) X (tL.at [_] E) i4 u E).mono ?_;rintro _ ec ⟨rfl,c6⟩;have br:=E.up c6.ag;refine⟨_,i0,bi (λg=>?_) λg=>?_⟩
  ·rw[f9 g];exact⟨i0,x,fin (z:=x) br⟩
  rw[g0 (by rw[g];decide)];refine(JJ 85 #[] #[xv (dB D),xv (dB f)] N x m G live ld (λBs h' i=>⟨tX Bs h' i,tT Bs h' i,tL Bs h' i⟩) X i4 u br).mono ?_;rintro _ ed ⟨rfl,U⟩;obtain⟨m1,c1⟩:∃m1,m1=makes m N live w ds:=⟨_,rfl⟩
  rw[<-c1]at U⊢;refine⟨_,i0,ci (λg2=>?_) λg2=>?_⟩
  ·rw[f9 g2];exact⟨i0,x,fin (z:=x) U⟩
  rw[g0 (by simpa using g2)];refine⟨r,(tB.at [_] U).cell0 i0,(EQ r ys l tF i4 c7 U).mono ?_⟩;rintro _ dy ⟨rfl,S⟩;obtain⟨r2,b3⟩:∃r2,r2=layAll l m1.2.1 m1.2.2:=⟨_,rfl⟩
  rw[<-b3]at S⊢;refine⟨_,i0,ci (λg3=>?_) λg3=>?_⟩
  ·rw[f9 g3];exact⟨i0,x,fin (z:=x) S⟩
  rw[g0 (by simpa using g3)];refine⟨y,(tM.at [_] S).aP _ i0,(JL x y n G live (λBs h' i=>⟨tY Bs h' i,tL Bs h' i⟩) ax i4 u S).mono ?_⟩;rintro _ el ⟨rfl,Q1,Q0⟩;refine⟨_,i0,i0,?_⟩;by_cases g4:(layAll (bJ n live) r2.2.1 r2.2.2).1=0
  ·obtain⟨y2,a2⟩:=Q0 g4;rw[f9 g4];rw[R]at a2;exact⟨y2,a2.aT 9 [0,1]⟩
  ·rw[g0 g4];exact⟨x,fin (z:=x) (Q1 g4)⟩
theorem VD(n:Nat)(x:Int)(h:f8)(m:n<=2^30):aq xD 135 #[xt xz n,xt xz x] h λv h'=>∃(r:Sl) (l:aV),v=r/\l.length=n/\Sp h h' [ae 5 r 1 aD l]:=by
 refine uT n x ?_;refine av (λt:Sl×Nat×aV=>(t.1,(t.2.1:Int))) (λt h'=>t.2.1<=n/\t.2.2.length=t.2.1/\Sp h h' [ae 5 t.1 1 aD t.2.2]) (λt=>n-t.2.1) (⟨eH,0,0⟩,0,[]) i0 ⟨i9,i0,(Sp.refl h).nil 5 1 aD⟩ ?_;rintro⟨o,i,l⟩ p ⟨k,g,a⟩;dsimp only at*;refine ac (λe=>?_) λe=>?_
 ·have d:i<n:=i4
  refine⟨i5,Int.tmod_nonneg _ i4,?_⟩;rw[ez];generalize b8 (qc xz _)=c;refine a.push an 0 i0 gU i0 i5 (λ_=>rfl) iF c i0 i5 i4 λf j b=>?_;refine⟨(f,i+1,l++[c]),jj,⟨i6,?_,b⟩,i6⟩;simp[g]
 ·exact⟨o,l,i0,i4,a⟩
end Go.Qw
namespace Go.Vc
open Go Wl Go.Qw
variable {α:Type} {B:aA} {h0 h:f8} {As:List HP} {k:Nat} {f:α->ba} {L M:List (Sl×List α)}
theorem aa.abd(H:aa B h0 h (dM k f L::dM k f M::As)):aa B h0 h (dM k f (L++M)::As):=by
 have g:aa B h0 h ((dM k f M).sep (dM k f L)::As):=H.lJ;refine g.gb 0 i0 λq ⟨i,j,_,b,c,d,e⟩ y a=>?_;rcases qA.1 a with a|a
 ·exact(e y a).mono c
 ·exact(d y a).mono b
end Go.Vc
namespace Wl
open Go
def CG(o b:Int)(a:List cW):List (Int×aV):=(a.filter λr=>decide (r.object=o)&&decide (r.block=b)).map λr=>(r.id,r.data)
def Bv(m:aC)(o b:Int)(l:cI):List (Int×aV):=((cM m l).filter λr=>decide (r.object=o)&&decide (r.block=b)).map λr=>(r.id,r.data)
def eF(m:aC)(ds:aE)(o b:Int)(k:Int):List (Int×aV):=match aX ds k with|some d=>Bv m o b d.l|none=>[]
def fI(m:aC)(ds:aE)(bQ:aw)(o b:Int):List (Int×aV):=bQ.flatMap (eF m ds o b)
end Wl
namespace Go.Qw
open Go Go.Vc Go.Proofs Wl
abbrev agw:bU C.toAO 96 99 2 [xt xz 0,xu eH 0 0] 32:=⟨_,_,i0,i0,i0,i0,i0,i0⟩
def VE(pool:List (Sl×aV))(p:(Int×Sl)×(Int×aV)):Prop:=p.1.1=p.2.1/\(p.1.2,p.2.2)∈pool
variable {B:aA} {h0 h:f8} {As:List HP} {a pw:eY} {offs:Int} {da:List bm} {w:Pow} {ds:aE} {mc:ba}
theorem Fe(x:bX)(m:aC)(s:Sl)(bQ:aw)(o b:Int)(hx:dH h x m)(hz:dh m)(hs:Rd h s 1 ak bQ)(hl:bQ.length<=2^10)(hd:∀k∈bQ,∃d,aX ds k=dB d)(H:aa B h0 h (bh bw a pw mc offs da w ds::As)):
  aq xD 49 #[.func (.func 23) #[xv (dB a)] #[],s,fT x,xt xz o,xt xz b] h λv h'=>∃(r:Sl) (ys:List (Int×Sl)),v=r/\Sp h h' [cO jq 2 piv r ys (fI m ds bQ o b)]:=by
 refine IW (23,#[xv (dB a)],#[]) s x o b ?_;have a7:=hs.len;refine(Sp.refl h).boxed λY R H1=>?_;have H1:Sp h R [al Y 29 (aS x)]:=H1;have H1:Sp h R [ae 99 ⟨eH,0,0⟩ 2 piv (([]:List ((Int×Sl)×(Int×aV))).map qK),dM 1 aD [],al Y 29 (aS x)]:=((H1.TU 1 aD).nil 99 2 piv).cu [2,0,1];refine av (λt:Sl×Nat×List ((Int×Sl)×(Int×aV))×List (Sl×aV)=>(t.1,(t.2.1:Int))) (λt h'=>t.2.1<=bQ.length/\t.2.2.1.length<=t.2.1*512/\t.2.2.1.map zL=fI m ds (bQ.take t.2.1) o b/\(∀p∈t.2.2.1,VE t.2.2.2 p)/\Sp h h' [ae 99 t.1 2 piv (t.2.2.1.map qK),dM 1 aD t.2.2.2,al Y 29 (aS x)]) (λt=>bQ.length-t.2.1) (⟨eH,0,0⟩,0,[],[]) i0 ⟨i9,i9,by simp[fI],i9,H1⟩ ?_;rintro⟨u,i,L,P⟩ h2 ⟨hi,bl,J,W,Z⟩;dsimp only at*;refine ac (λe=>?_) λe=>?_
 ·have T:i<bQ.length:=i4
  refine(Seq.up hs Z.ag).bD i i0 T bQ[i] i0 (bc ?_);obtain⟨d,A⟩:=hd bQ[i] (qg T);have Hc:=H.up Z.ag;obtain⟨ok,hb⟩:=aa.dl Hc;have f:=Z.box 2 i0;refine⟨x,f.aP _ i0,fo ld ?_⟩;refine(mj bQ[i] ok hb).mono ?_;rintro _ h3 ⟨rfl,rfl⟩;refine⟨_,i0,⟨f.cell0 i0,f.cell i0,f.cell i0,f.cell i0,f.cell i0,f.cell i0,f.cell i0,f.cell i0,trivial⟩,?_⟩;rcases mU ok bQ[i]with⟨c1,c2⟩|⟨n,d',bb,c0,c1,c2,c3,c4,c5⟩
  ·rw[A]at c1;cases c1
  have ah:d=d':=by rw[c3]at A;injection A with A;exact A.symm
  subst ah;rw[c5];obtain⟨a6,E,H3⟩:=Go.Vc.aa.jA Hc c2;rw[c4]at E;injection E with E
  injection E with E
  subst E;obtain⟨V,sd,bd,am⟩:=aa.oX H3;have a5:=V.len;have a0:=V.room;refine(ER bb pw d sd bd x m h3 (am.box 0 i0) ((am.aT 2 [1]).DX λ_=>rfl) V (hx.up Z.ag) hz).mono ?_;rintro _ h4 ⟨r7,I,rfl,R4⟩;have ap:=xW m d.l;obtain⟨c,F⟩:∃c,c=cM m d.l:=⟨_,rfl⟩
  rw[<-F]at R4 ap;have H4:=(Z.cj R4).aT 4 [1,2,0,3];have F4:=H4.fA 2 i0;have a9:=F4.2.1;have a8:=F4.1.len;refine⟨r7,i0,trivial,?_⟩;have ao:eF m ds o b bQ[i]=CG o b c:=by unfold eF;rw[A];show Bv m o b d.l=_;unfold Bv CG;rw[F]
  have S:fI m ds (bQ.take (i+1)) o b=fI m ds (bQ.take i) o b++CG o b c:=by unfold fI;rw[aH _ _ T,zg,zf,z7,qM,ao]
  obtain⟨Q,hQ⟩:∃Q:List (Sl×aV),Q=(I.zip c).map λz=>(z.1.2.2.2.2.2.2.2,z.2.data):=⟨_,rfl⟩
  refine av (λt:Sl×Nat×List ((Int×Sl)×(Int×aV))=>(t.1,(t.2.1:Int))) (λt h'=>t.2.1<=c.length/\t.2.2.length<=L.length+t.2.1/\t.2.2.map zL=fI m ds (bQ.take i) o b++CG o b (c.take t.2.1)/\(∀p∈t.2.2,VE (P++Q) p)/\Sp h h' [ae 99 t.1 2 piv (t.2.2.map qK),dM 1 aD P,cO ft 8 bO r7 I c,al Y 29 (aS x)]) (λt=>c.length-t.2.1) (u,0,L) i0 ⟨i9,i9,by simp[CG,J],λp N=>⟨(W p N).1,List.mem_append_left _ (W p N).2⟩,H4⟩ ?_;rintro⟨u2,j,L2⟩ h5 ⟨hj,bk,K,U,H5⟩;dsimp only at*;have F5:=H5.fA 2 i0;refine ac (λe2=>?_) λe2=>?_
  ·have ab:j<c.length:=i4
   have ad:=Fix.row F5 ab;obtain⟨⟨g1,g2,g3,g4,g5,g6,g7⟩,g8⟩:=ad;refine F5.1.dZ (g:=bO) j i0 i4 (I[j]'(by omega)) i0 ?_;refine H5.alloc an i0 λar h6 H6=>?_;refine H6.storeAll an 4 i0 i0 (bO (I[j]'(by omega))) i0 i0 i0 i0 λh7 X=>?_;have X:Sp h h7 [ae 99 u2 2 piv (L2.map qK),dM 1 aD P,cO ft 8 bO r7 I c,al Y 29 (aS x),al ar 164 (bO (I[j]'(by omega)))]:=X;have M:=X.box 4 i0;have O:CG o b (c.take (j+1))=CG o b (c.take j)++(if(decide (c[j].object=o)&&decide (c[j].block=b))=eR then[(c[j].id,c[j].data)]else[]):=by unfold CG;rw[aH _ _ ab,zq,qS,zr,vi];split<;>rfl
   have skip:(decide (c[j].object=o)&&decide (c[j].block=b))=eS->∃G:Sl×Nat×List ((Int×Sl)×(Int×aV)),((⟨u2.ptr,u2.len,u2.cap⟩:Sl),qc xz ((j:Int)+1))=(G.1,(G.2.1:Int))/\(G.2.1<=c.length/\G.2.2.length<=L.length+G.2.1/\G.2.2.map zL=fI m ds (bQ.take i) o b++CG o b (c.take G.2.1)/\(∀p∈G.2.2,VE (P++Q) p)/\Sp h h7 [ae 99 G.1 2 piv (G.2.2.map qK),dM 1 aD P,cO ft 8 bO r7 I c,al Y 29 (aS x)])/\c.length-G.2.1<c.length-j:=λhc=>
    ⟨(u2,j+1,L2),jj,⟨i6,i6,by dsimp only;rw[O,hc];simpa using K,U,X.cu [0,1,2,3]⟩,i6⟩
   refine⟨c[j].object,by rw[<-g1];exact M.cell0 i0,cy (λq1=>?_) λq1=>skip (by rw[hU q1];rfl)⟩;refine⟨c[j].block,by rw[<-g2];exact M.cell i0,cy (λq2=>?_) λq2=>skip (by rw[hU q2,Bool.and_false])⟩;refine⟨c[j].id,by rw[<-g3];exact M.cell i0,(I[j]'(by omega)).2.2.2.2.2.2.2,M.cell i0,?_⟩;refine X.push an 0 i0 agw i0 i5 (λ_=>rfl) Ls (c[j].id,(I[j]'(by omega)).2.2.2.2.2.2.2) j1 i5 i7 λu3 br a3=>?_;refine⟨(u3,j+1,L2++[((c[j].id,(I[j]'(by omega)).2.2.2.2.2.2.2),(c[j].id,c[j].data))]),jj,⟨i6,i7,?_,λp N=>?_,?_⟩,i6⟩
   ·dsimp only;rw[qS,K,O,f9 (by rw[g9 q1,g9 q2];rfl),qp];rfl
   ·rcases qA.1 N with N|N
    ·exact U p N
    ·rw[qB.1 N];refine⟨i0,List.mem_append_right _ ?_⟩;rw[hQ];refine qu.2 ⟨(I[j]'(by omega),c[j]),?_,i0⟩;rw[<-ve (h:=by simp;omega)];exact qg _
   ·dsimp only;rw[qS];exact a3.cu [0,1,2,3]
  ·have a2:j=c.length:=i4
   subst a2;rw[qV,<-S]at K;have a4:=F5.2.1;have H6:=(H5.gb 2 i0 (D:=dM 1 aD Q) λq hq y hy=>by
    rw[hQ]at hy;obtain⟨z,ax,rfl⟩:=qu.1 hy;obtain⟨k,hk,rfl⟩:=qL ax;have ay:k<c.length:=by simp at hk;omega
    have:=(Fix.row hq ay).2;rw[ve];exact this).cu [1,2,0,3]
   have X:=aa.abd H6;refine⟨(u2,i+1,L2,P++Q),jj,⟨i6,i6,K,U,X.cu [1,0,2]⟩,i6⟩
 ·rw[qi i4]at J;refine⟨u,L.map qK,i0,?_⟩;have H3:=((Z.freeze 0 i0 λ_=>rfl).cu [1,0]).lJ;refine H3.gb 0 i0 λq ⟨q1,q2,_,bq,cq,z1,z2⟩=>?_;refine⟨z1.mono bq,by rw[<-J];simp,λj r e R h2=>?_⟩;rw[<-J]at h2;rw[qR]at R h2;cases hj:L[j]? with
  |none=>rw[hj]at R;cases R
  |some p=>
   rw[hj]at R h2;have e1:=zP.inj (show dB p.1=dB r from R);have e2:=zP.inj (show dB p.2=dB e from h2);subst e1;subst e2;obtain⟨k1,k2⟩:=W p (List.mem_of_getElem? hj);exact⟨k1,(z2 _ k2).mono cq⟩
end Go.Qw
namespace Wl
open Go
def cb(m:aC)(ds:aE)(o b:Int)(live:aw):bP:=live.map λk=>(fI m ds [k] o b).map qK
end Wl
namespace Go.Qw
open Go Go.Vc Go.Proofs Wl
abbrev afr:bU C.toAO 37 22 1 [xu eH 0 0] 24:=⟨_,_,i0,i0,i0,i0,i0,i0⟩
variable {B:aA} {h0 h:f8} {As:List HP} {a pw:eY} {offs:Int} {da:List bm} {w:Pow} {ds:aE}
theorem adO{k:Int}{l:aw}(h:k∈aQ ds l):∃d,aX ds k=dB d/\d.lost=eS:=by
 have h:=(qH.1 h).2;unfold isLive at h;cases hd:aX ds k with
 |none=>rw[hd]at h;cases h
 |some d=>rw[hd]at h;exact⟨d,i0,j5⟩
theorem JP(m:aC)(o b:Int)(l:cI):ii (Bv m o b l)<=ii l:=by unfold Bv;rw[qx];exact zd (qT _ _) (xW m l)
theorem VF(x:bX)(m:aC)(o b:Int)(Y:dH h x m)(V:dh m)(ab:ii m.drives<=64)(f:∀k d,aX ds k=dB d->ii d.l<=512)(H:aa B h0 h (bh bw a pw (aS x) offs da w ds::As)):
  aq xD 11 #[xv (dB a),xt xz o,xt xz b] h λv h'=>∃r:Sl,v=r/\Sp h h' [dg 22 r 3 1 ak (cb m ds o b (aQ ds m.drives))]:=by
 refine AU (dB a) o b ?_;refine(gg x m Y V H).mono ?_;rintro _ h1 ⟨c,rfl,O⟩;have Q:ii (aQ ds m.drives)<=ii m.drives:=qT _ _;have D:∀k∈aQ ds m.drives,∃d,aX ds k=dB d:=λk N=>by obtain⟨d,h,_⟩:=adO N;exact⟨d,h⟩
 obtain⟨live,p⟩:∃live,live=aQ ds m.drives:=⟨_,rfl⟩
 rw[<-p]at O Q D⊢;have ad:=(O.own 0 i0).len;refine⟨c,i0,?_⟩;have ar:ii (cb m ds o b live)=ii live:=by simp[cb]
 have Z:Sp h h1 [dg 22 ⟨eH,0,0⟩ 3 1 ak ((cb m ds o b live).take 0),ae 3 c 1 ak live]:=O.Aj 22 3 1 ak;refine av (λt:Sl×Nat=>(t.1,(t.2:Int))) (λt h'=>t.2<=ii live/\Sp h h' [dg 22 t.1 3 1 ak ((cb m ds o b live).take t.2),ae 3 c 1 ak live]) (λt=>ii live-t.2) (⟨eH,0,0⟩,0) i0 ⟨i9,Z⟩ ?_;rintro⟨u,i⟩ h2 ⟨hi,E⟩;dsimp only at*;refine ac (λe=>?_) λe=>?_
 ·have z:i<ii live:=i4
  refine(E.seq 1 i0 λ_=>rfl).bD i i0 z live[i] i0 ?_;refine E.lit an ak fS i0 [live[i]] i0 (show 1*1<=2^20 by decide) i0 λq h3 y=>?_;have y:Sp h h3 [dg 22 u 3 1 ak ((cb m ds o b live).take i),ae 3 c 1 ak live,ae 3 q 1 ak [live[i]]]:=y;have T:=H.up y.ag;have K:=(aa.dl T).2;refine⟨a,i0,x,K.aP _ i0,?_⟩;obtain⟨d,P⟩:=D live[i] (qg z);refine(Fe x m q [live[i]] o b (Y.up y.ag) V (y.seq 2 i0 λ_=>rfl) i9 (λk N=>by rw[qB.1 N];exact⟨d,P⟩) T).mono ?_;rintro _ h4 ⟨I,s,rfl,U⟩;obtain⟨S,n⟩:∃S,S=fI m ds [live[i]] o b:=⟨_,rfl⟩
  have ao:ii S<=512:=by rw[n];unfold fI eF;rw[zf,z7,qM,P];exact zd (JP _ _ _ _) (f _ _ P)
  rw[<-n]at U;have G:=(y.cj U).aT 4 [1,2,0];have X:=G.fA 2 i0;have am:=X.2.1;have ah:=X.1.len;refine⟨I,i0,?_⟩;have G:Sp h h4 [ae 3 ⟨eH,0,0⟩ 1 ak ((S.map qK).take 0),dg 22 u 3 1 ak ((cb m ds o b live).take i),ae 3 c 1 ak live,cO jq 2 piv I s S]:=(G.nil 3 1 ak).cu [3,0,1,2];refine av (λt:Sl×Nat=>(t.1,(t.2:Int))) (λt h'=>t.2<=ii S/\Sp h h' [ae 3 t.1 1 ak ((S.map qK).take t.2),dg 22 u 3 1 ak ((cb m ds o b live).take i),ae 3 c 1 ak live,cO jq 2 piv I s S]) (λt=>ii S-t.2) (⟨eH,0,0⟩,0) i0 ⟨i9,G⟩ ?_;rintro⟨u2,j⟩ h5 ⟨hj,F⟩;dsimp only at*;have W:=F.fA 3 i0;refine ac (λe2=>?_) λe2=>?_
  ·have L:j<ii S:=i4
   have A:=Fix.row W L;refine W.1.dZ (g:=piv) j i0 i4 (s[j]'(by omega)) i0 ?_;refine F.alloc an i0 λR h6 H6=>?_;refine H6.storeAll an 4 i0 i0 (piv (s[j]'(by omega))) i0 i0 i0 i0 λh7 J=>?_;have J:Sp h h7 [ae 3 u2 1 ak ((S.map qK).take j),dg 22 u 3 1 ak ((cb m ds o b live).take i),ae 3 c 1 ak live,cO jq 2 piv I s S,al R 99 (piv (s[j]'(by omega)))]:=J;refine⟨S[j].1,by rw[<-A.1];exact(J.box 4 i0).cell0 i0,?_⟩;refine J.push an 0 i0 fS i0 i5 (λ_=>rfl) eJ S[j].1 i0 i5 i7 λu3 h9 H9=>?_;refine⟨(u3,j+1),jj,⟨i6,?_⟩,i6⟩;dsimp only;rw[aH _ _ (show j<ii (S.map qK) by simp;omega),wC];exact H9.cu [0,1,2,3]
  ·rw[qi i7]at F;refine(F.aT 2 [1,0]).FN an afr i7 λu3 ap M=>?_;refine⟨(u3,i+1),jj,⟨i6,?_⟩,i6⟩;dsimp only;rw[aH _ _ (show i<ii (cb m ds o b live) by omega)];have ew:(cb m ds o b live)[i]'(by omega)=S.map qK:=by simp[cb,n]
   rw[ew];exact M.cu [0,1]
 ·rw[qi i4]at E;exact⟨u,i0,E.cu [0]⟩
end Go.Qw
namespace Wl
open Go
def Pow.calm(w:Pow):Prop:=w.off=eS/\w.fuse=eH
theorem jS:Pow.new.calm:=⟨i0,i0⟩
theorem rT{w:Pow}(h:w.calm):w.step=(eR,w):=by unfold Pow.step;rw[g0 (by simp[h.1]),h.2]
theorem GR{w:Pow}(h:w.calm)(ds:aE)(x:Int)(b:aV):(fO w ds x b).2.1=w:=by
 unfold fO;cases aX ds x with
 |none=>rfl
 |some d=>
  dsimp only;unfold bj.append;split
  ·rfl
  ·split
   ·rfl
   ·split
    ·rfl
    ·split
     ·rfl
     ·rw[rT h];rfl
theorem MD{w:Pow}(h:w.calm)(ds:aE)(x:Int):(gH w ds x).2.1=w:=by
 unfold gH;cases aX ds x with
 |none=>rfl
 |some d=>
  dsimp only;unfold bj.sync;split
  ·rfl
  ·rw[rT h];rfl
theorem pk{w:Pow}(h:w.calm):∀(l:List (Int×aV)) (ds:aE),(lc l w ds).2.1=w
 |[],_=>rfl
 |x::l,ds=>by
  rw[tU,GR h];split
  ·exact pk h l _
  ·exact GR h _ _ _
theorem CH{w:Pow}(h:w.calm):∀(l:aw) (ds:aE),(fb l w ds).2.1=w
 |[],_=>rfl
 |x::l,ds=>by
  rw[sF,MD h];split
  ·exact CH h l _
  ·exact MD h _ _
theorem abe{w:Pow}(h:w.calm)(l:List (Int×aV))(ds:aE):(layAll l w ds).2.1=w:=by
 unfold layAll;dsimp only;rw[pk h];split
 ·exact CH h _ _
 ·exact pk h _ _
theorem AH{w:Pow}{d:bj}{n:Nat}{b:aV}(h:w.calm)(a:d.lost=eS)(c:ii d.l+(n+1)<=d.room)(e:ii b=64):d.append w b=(0,w,{d with l:=d.l++[b],wait:=d.wait+1,laid:=[],has:=eS}):=by unfold bj.append;rw[g0 i4,g0 oi,g0 i4,g0 (by simp[h.1]),rT h];rfl
theorem Yz{w:Pow}{d:bj}(h:w.calm)(a:d.lost=eS):d.sync w=(0,w,{d with wait:=0,laid:=[],has:=eS}):=by unfold bj.sync;rw[g0 oi,rT h];rfl
theorem afs{ds:aE}{s:Int}{d:bj}(h:aX ds s=dB d):0<=s/\s<64:=by obtain⟨n,rfl,a⟩:=kD h;omega
def JQ(ds:aE)(P:List (Int×aV))(s:Int):Option bj:=
 (aX ds s).map λd=>{d with l:=d.l++(P.filter λx=>decide (x.1=s)).map zL,wait:=d.wait+ii (P.filter λx=>decide (x.1=s)),laid:=if(P.filter λx=>decide (x.1=s)).isEmpty then d.laid else[],has:=if(P.filter λx=>decide (x.1=s)).isEmpty then d.has else eS}
theorem Ff{w:Pow}(h:w.calm){S:aw}:∀(P:List (Int×aV)) (ds:aE),Fit ds S (P.map qK)->(∀x∈P,x.1∈S/\x.2.length=64)->
  (lc P w ds).1=0/\Fit (lc P w ds).2.2 S []/\∀s,aX (lc P w ds).2.2 s=JQ ds P s
 |[],ds,F,_=>⟨i0,F,λs=>by unfold JQ;show aX ds s=_;cases aX ds s<;>simp⟩
 |x::P,ds,F,hP=>by
  obtain⟨d,f,r,m⟩:=F.at_ x.1 (hP x (qI ..)).1;rw[zK,List.count_cons_self]at m;have i:=(hP x (qI ..)).2;obtain⟨n,j,a⟩:=kD f;have c:=AH (n:=(P.map qK).count x.1) h r i4 i;have e:fO w ds x.1 x.2=(0,w,bK ds x.1 {d with l:=d.l++[x.2],wait:=d.wait+1,laid:=[],has:=eS}):=by unfold fO;rw[f];dsimp only;rw[c]
  obtain⟨_,g⟩:=NG w x.2 (x:=x.1) (Q:=P.map qK) F (hP x (qI ..)).1 i;rw[tU,e];rw[e]at g;dsimp only at g⊢;rw[f9 rfl];obtain⟨q,p,a3⟩:=Ff h P _ g λy k=>hP y (qD _ k);refine⟨q,p,λs=>?_⟩;rw[a3 s];unfold JQ;rw[j,Bo _ _ _ _ a F.len,<-j];by_cases b:s=x.1
  ·rw[f9 b,b,f];simp only[q9,zr,decide_true,if_true,zK,zh,qp,List.singleton_append,List.isEmpty_cons,Bool.false_eq_true,if_false];congr 1;simp only[bj.mk.injEq,true_and,and_true];refine⟨i4,?_,?_⟩<;>split<;>rfl
  ·rw[g0 b];simp only[zr,decide_eq_true_eq,g0 (show¬x.1=s fromλo=>b o.symm)]
theorem CI{w:Pow}(h:w.calm){S:aw}:∀(l:aw) (ds:aE),Fit ds S []->(∀x∈l,x∈S)->
  (fb l w ds).1=0/\Fit (fb l w ds).2.2 S []/\∀s,aX (fb l w ds).2.2 s=(aX ds s).map λd=>if s∈l then{d with wait:=0,laid:=[],has:=eS}else d
 |[],ds,F,_=>⟨i0,F,λs=>by show aX ds s=_;cases aX ds s<;>simp⟩
 |x::l,ds,F,hl=>by
  obtain⟨d,b,m,o⟩:=F.at_ x (hl x (qI ..));obtain⟨n,g,a⟩:=kD b;have e:gH w ds x=(0,w,bK ds x {d with wait:=0,laid:=[],has:=eS}):=by unfold gH;rw[b];dsimp only;rw[Yz h m]
  obtain⟨_,f⟩:=SD w F (hl x (qI ..));rw[sF,e];rw[e]at f;dsimp only at f⊢;rw[f9 rfl];obtain⟨k,j,a3⟩:=CI h l _ f λy i=>hl y (qD _ i);refine⟨k,j,λs=>?_⟩;rw[a3 s,g,Bo _ _ _ _ a F.len,<-g];by_cases c:s=x
  ·subst c;rw[f9 i0,b];simp only[q9,q8,true_or,if_true];congr 1;split<;>rfl
  ·rw[g0 c];cases aX ds s with
   |none=>rfl
   |some d'=>simp[c]
end Wl
namespace Go.Qw
open Go Go.Vc Go.Proofs Wl
variable {B:aA} {h0 h h':f8} {As:List HP} {a:eY} {w:Pow}
variable {pw:eY} {d:bj}
end Go.Qw
namespace Wl
open Go
end Wl
namespace Go.Qw
open Go Go.Vc Go.Proofs Wl
end Go.Qw
namespace Wl
open Go
end Wl
namespace Go.Qw
open Go Go.Vc Go.Proofs Wl
end Go.Qw
namespace Wl
open Go
end Wl
namespace Go.Vc
open Go Wl
end Go.Vc
namespace Go.Qw
open Go Go.Vc Go.Proofs Wl
variable {B:aA} {h0 h h':f8} {As:List HP} {a pw:eY} {mc:ba} {offs:Int} {da:List bm} {w:Pow} {ds:aE}
end Go.Qw
namespace Go.Vc
open Go Wl Go.Qw
def pZ(p:Pm)(extra:Int)(l:aw):Int:=
 if(eU l).2&&(bM p&&fm extra 0 16)then
  if(bo l l.length).any λi=>decide (l.getD i.toNat 0<(ii (bn (cE p extra l)):Int))then 7 else 0
 else 1
theorem VG(p:Pm)(extra:Int)(w:Pow)(l:aw):gh p extra w l=if pZ p extra l=0 then layAll (bJ (cE p extra l) (bo l l.length)) w (im l (bo l l.length).length)else(pZ p extra l,w,[]):=by
 unfold gh pZ;by_cases h:((eU l).2&&(bM p&&fm extra 0 16))=eR
 ·rw[f9 h,f9 h];by_cases a:((bo l l.length).any λi=>decide (l.getD i.toNat 0<(ii (bn (cE p extra l)):Int)))=eR
  ·rw[f9 a,f9 a];rfl
  ·rw[g0 a,g0 a];rfl
 ·rw[g0 h,g0 h];rfl
theorem JR{p:Pm}{extra:Int}{l:aw}(h:pZ p extra l=0):bM p=eR/\0<=extra/\extra<=16/\(eU l).2=eR/\((bo l l.length).any λi=>decide (l.getD i.toNat 0<(ii (bn (cE p extra l)):Int)))=eS:=by
 unfold pZ at h;by_cases a:((eU l).2&&(bM p&&fm extra 0 16))=eR
 ·rw[f9 a]at h;by_cases b:((bo l l.length).any λi=>decide (l.getD i.toNat 0<(ii (bn (cE p extra l)):Int)))=eR
  ·rw[f9 b]at h;cases h
  ·unfold fm at a;simp only[qC,decide_eq_true_eq]at a;exact⟨a.2.1,a.2.2.1,a.2.2.2,a.1,j6⟩
 ·rw[g0 a]at h;cases h
end Go.Vc
namespace Go.Qw
open Go Go.Vc Go.Proofs Wl
end Go.Qw
namespace Wl
def uE(m:aC)(l:cI):Bool:=bL m&&(bn m).all λp=>decide (p∈l)
end Wl
namespace Go.Qw
open Go Go.Vc Go.Proofs Wl
end Go.Qw
namespace Go.Vc
open Go Wl Go.Qw
theorem abf{w:Pow}(h:w.calm){S:aw}(P:List (Int×aV))(ds:aE)(F:Fit ds S (P.map qK))(b:∀x∈P,x.1∈S/\x.2.length=64):
  (layAll P w ds).1=0/\Fit (layAll P w ds).2.2 S []/\∀s,aX (layAll P w ds).2.2 s=(JQ ds P s).map λd=>if s∈cL (P.map qK)then{d with wait:=0,laid:=[],has:=eS}else d:=by
 obtain⟨l,k,a3⟩:=Ff h P ds F b;have i:=pk h P ds;unfold layAll;dsimp only;rw[f9 l,i];obtain⟨j,f,g⟩:=CI h (S:=S) (cL (P.map qK)) (lc P w ds).2.2 k λx c=>by
  unfold cL at c;have a:=(qH.1 c).2;obtain⟨y,e,rfl⟩:=qu.1 (hZ a);exact(b y e).1
 exact⟨j,f,λs=>by rw[g s,a3 s]⟩
theorem Dp(l:aw)(k:Nat):(bo l k).Pairwise (·<·):=by unfold bo;refine List.Pairwise.filter _ (y0.2 ?_);exact(List.pairwise_lt_range (n:=k)).imp λh=>i4
theorem adP{l:aw}{most:Int}(d:l.Pairwise (·<·))(e:∀x∈l,0<=x/\x<=most):oF l most=eR:=by
 unfold oF;refine se λi a=>?_;unfold jN fm;have c:l.getD i 0=l[i]:=by rw[qe,qd a];rfl
 have:=e l[i] (qg a);rw[c,g9 this.1,g9 this.2,wA,wA];by_cases h0:i=0
 ·rw[g9 h0];rfl
 ·have b:l.getD (i-1) 0=l[i-1]:=by rw[qe,qd i4];rfl
  rw[b,g9 (List.pairwise_iff_getElem.1 d (i-1) i i4 a i4),Bool.or_true]
theorem Ib{p:Pm}{extra:Int}{l:aw}(g:ii l<=64)(b:pZ p extra l=0):bL (cE p extra l)=eR:=by
 obtain⟨d,f,h3,_⟩:=JR b;have a:kV (cE p extra l)=eR:=by unfold kV fm cE;simp[d,f,h3]
 have c:oF (cE p extra l).drives 63=eR:=adP (Dp l l.length) λx e=>by
  obtain⟨n,h,rfl,_⟩:=(uv l l.length x).1 e;omega
 unfold bL;rw[a,c];rfl
theorem Dq(p:Pm)(extra:Int)(l:aw)(b:ii l<=24):ii (bn (cE p extra l))<=1:=by
 unfold bn iB;rw[qx,zF];have a:=pd l l.length;have:ii (gN (cE p extra l))<=19+24:=by
  unfold gN;split
  ·simp only[qw,cG,zh,yV,qx,cE,z7];omega
  ·simp
 omega
end Go.Vc
namespace Wl
open Go
theorem ME{ds:aE}{k:Int}{d:bj}(h:aX ds k=dB d):bK ds k d=ds:=by
 unfold aX at h;split at h
 ·rename_i c;unfold bK;cases hx:ds[k.toNat]? with
  |none=>rw[hx]at h;cases h
  |some o=>
   rw[hx]at h;have h:o=dB d:=h;subst h;obtain⟨b,a⟩:=qn.1 hx;rw[<-a,List.set_getElem_self]
 ·cases h
end Wl
namespace Go.Vc
open Go Wl Go.Qw
theorem YA(l:List (Int×aV))(k:Int):(l.map qK).count k=ii (l.filter λy=>decide (y.1=k)):=by
 induction l with
 |nil=>rfl
 |cons y l ih=>
  rw[zK,List.count_cons,ih,zr];by_cases h:y.1=k
  ·rw[f9 (g9 h),f9 j5];rfl
  ·rw[g0 j5,g0 j5];rfl
theorem Fg(n:aC)(k:Int):∀{live:aw},live.Nodup->k∈live->((bJ n live).filter λy=>decide (y.1=k)).map zL=bn n
 |[],_,hk=>by cases hk
 |x::live,hnd,hk=>by
  have e:bJ n (x::live)=(bn n).map (λc=>(x,c))++bJ n live:=by unfold bJ;rw[zf]
  obtain⟨i,d⟩:=wU.1 hnd;rw[e,zq,qS];by_cases a:x=k
  ·subst a;have g:((bn n).map λc=>(x,c)).filter (λy=>decide (y.1=x))=(bn n).map (λc=>(x,c)):=List.filter_eq_self.2 λy b=>by
    obtain⟨c,_,rfl⟩:=qu.1 b;exact g9 i0
   have j:(bJ n live).filter (λy=>decide (y.1=x))=[]:=wX.2 λy b=>by
    have:=(kO b).1;have f:y.1≠x:=λh=>i (h▸this);simpa using f
   rw[g,j,vR,qM,w9];exact List.map_id _
  ·have g:((bn n).map λc=>(x,c)).filter (λy=>decide (y.1=k))=[]:=wX.2 λy b=>by
    obtain⟨c,_,rfl⟩:=qu.1 b;simpa using a
   rw[g,vR,List.nil_append];rcases q8.1 hk with h|h
   ·exact absurd h.symm a
   ·exact Fg n k d h
end Go.Vc
namespace Go.Qw
open Go Go.Vc Go.Proofs Wl
theorem adQ{p:Pm}{seed:Int}{d:Row}{K H w n:Nat}(B:co p seed d K H w n)(id:Int):so p seed d id=if bW id then fR w (dC p seed d) (dE n seed id)else[]:=by unfold so;rw[B.oO,show p.2.2.toNat=w by have:=B.s;omega]
theorem Qz{m:aC}{o i seed:Int}{d:Row}{id:Int}{K H w n:Nat}(B:co m.p seed d K H w n)(c:0<=o/\o<=16777215)(b:0<=i/\i<=7)(hid:0<=id/\id<=65535):jg (mz m o i seed d id)=eR:=by
 rw[jO];refine⟨c,b,hid,B.may,?_⟩;have a:bW id=eR:=by unfold bW;rw[g9 hid.1,g9 hid.2];rfl
 show(ii (so m.p seed d id):Int)=m.p.2.2;rw[adQ B id,f9 a,B.Xv id,B.s]
def tC(m:aC)(o:Int)(tries:aw)(a:cI)(live:aw)(k:Int)(i:Nat):List cW:=
 ((qz (m.p.1+m.extra).toNat).filter λid=>decide (fZ (dR o i live) (id:Nat)=k)).map λid:Nat=>mz m o i (ck o i (tries.getD i 0)) (a.getD i []) id
def lx(m:aC)(o:Int)(tries:aw)(a:cI)(live:aw)(k:Int)(n:Nat):List cW:=(qz n).flatMap (tC m o tries a live k)
theorem QA(m:aC)(o:Int)(tries:aw)(a:cI)(live:aw)(k:Int)(n:Nat):lx m o tries a live k (n+1)=lx m o tries a live k n++tC m o tries a live k n:=by unfold lx;rw[zT,zg,zf,z7,qM]
theorem QB(m:aC)(o:Int)(tries:aw)(a:cI)(live:aw)(k:Int)(i:Nat):((mY m o tries a live i).filter λy=>decide (y.1=k)).map zL=(tC m o tries a live k i).map dn:=by unfold mY tC;rw[List.filter_map,w9,w9];rfl
theorem Dr(m:aC)(o:Int)(tries:aw)(a:cI)(live:aw)(k:Int):∀n,((dW m o tries a live n).filter λy=>decide (y.1=k)).map zL=(lx m o tries a live k n).map dn
 |0=>by simp[dW,lx]
 |n+1=>by rw[sq,QA,zq,qS,qS,Dr m o tries a live k n,QB]
theorem VH{m:aC}{o:Int}{tries:aw}{a:cI}{live:aw}{k:Int}{i:Nat}{r:cW}(h:r∈tC m o tries a live k i):∃id:Nat,r=mz m o i (ck o i (tries.getD i 0)) (a.getD i []) id/\id<(m.p.1+m.extra).toNat:=by unfold tC at h;obtain⟨id,b,rfl⟩:=qu.1 h;exact⟨id,i0,qJ.1 (qH.1 b).1⟩
theorem VI{m:aC}{o:Int}{tries:aw}{a:cI}{live:aw}{k:Int}{n:Nat}{r:cW}(h:r∈lx m o tries a live k n):∃(i id:Nat),r=mz m o i (ck o i (tries.getD i 0)) (a.getD i []) id/\i<n/\id<(m.p.1+m.extra).toNat:=by unfold lx at h;obtain⟨i,c,b⟩:=zS.1 h;obtain⟨id,d,h3⟩:=VH b;exact⟨i,id,d,qJ.1 c,h3⟩
end Go.Qw
namespace Wl
open Go
def cK(m:aC)(d:bj)(n:Int):bj:=if iM d d.l.length n then d else{d with l:=bN m d.l,wait:=0,laid:=[],has:=eS}
theorem VJ{m:aC}{r:cW}(h:eN m r=eR):jg r=eR:=by unfold eN at h;simp only[qC]at h;exact h.1
theorem abg{l:List cW}{r:cW}(h:r∈oJ l):r∈l:=by unfold oJ at h;obtain⟨i,a,rfl⟩:=qu.1 h;have a:=qJ.1 (qH.1 a).1;rw[qe,qd a];exact qg a
theorem VK{m:aC}{c:aV}{r:cW}(h:jd m c=dB r):dT c=dB r/\eN m r=eR:=by
 unfold jd at h;cases hc:dT c with
 |none=>rw[hc]at h;cases h
 |some x=>
  rw[hc]at h;dsimp only at h;by_cases a:eN m x=eR
  ·rw[f9 a]at h;injection h with h;subst h;exact⟨i0,a⟩
  ·rw[g0 a]at h;cases h
theorem sV{m:aC}{l:cI}{r:cW}(h:r∈cM m l):∃c∈l,dT c=dB r/\eN m r=eR:=by have h:=yO.1 (abg h);obtain⟨c,b,a⟩:=List.mem_filterMap.1 h;exact⟨c,b,VK a⟩
theorem pm(m:aC)(l:cI):∀c∈bN m l,ii c=64:=λc b=>by
 rcases qA.1 b with h|h
 ·exact sG h
 ·obtain⟨r,d,rfl⟩:=qu.1 h;obtain⟨_,_,_,a⟩:=sV d;exact uc (VJ a)
theorem uF{w:Pow}(a:w.calm){d:bj}{l:cI}(e:∀c∈l,ii c=64)(g:d.lost=eS)(h:ii l<=d.room):d.rewrite w l=(0,w,{d with l:=l,wait:=0,laid:=[],has:=eS}):=by unfold bj.rewrite;have:l.all (λb=>decide (ii b=64))=eR:=q7.2 λc f=>g9 (e c f);rw[g0 (by simp[this]),g0 mn,g0 i4,g0 (by simp[a.1]),rT a];rfl
theorem CJ{w:Pow}(e:w.calm){m:aC}{d:bj}{n:Int}(h:gP m d n=eR):gj m w d n=(0,w,cK m d n):=by
 have h0:=h;unfold gP at h;rw[qC,wu,wZ]at h;obtain⟨c,b⟩:=h;unfold gj cK;rw[g0 p7,g0 (by simp[h0])];by_cases a:iM d d.l.length n=eR
 ·rw[f9 a,f9 a]
 ·rw[g0 a,g0 a];have h3:iM d (bN m d.l).length n=eR:=by
   rcases b with b|b
   ·exact absurd b a
   ·exact b
  unfold iM at h3;rw[decide_eq_true_eq]at h3;exact uF e (pm m d.l) c i4
theorem QC(m:aC)(ds:aE)(k:Int)(l:aw)(N:Int->Int):dN m ds (k::l) N=(nH m ds k (N k)&&dN m ds l N):=List.all_cons
theorem AI{m:aC}{ds:aE}{k n:Int}(h:nH m ds k n=eR):∃d,aX ds k=dB d/\gP m d n=eR:=by
 unfold nH at h;cases hd:aX ds k with
 |none=>rw[hd]at h;cases h
 |some d=>rw[hd]at h;exact⟨d,i0,h⟩
theorem uG(ds:aE)(k:Int)(d:bj):ii (bK ds k d)=ii ds:=by unfold bK;simp
theorem gq{ds:aE}{k:Int}{b d:bj}(a:ii ds=64)(e:aX ds k=dB b)(s:Int):aX (bK ds k d) s=if s=k then dB d else aX ds s:=by obtain⟨n,rfl,c⟩:=kD e;exact Bo ds n d s c a
theorem NJ{m:aC}{ds ds':aE}{l:aw}{N:Int->Int}(h:∀k∈l,aX ds k=aX ds' k):dN m ds l N=dN m ds' l N:=by unfold dN;rw[Bool.eq_iff_iff,q7,q7];refine forall_congr' λk=>forall_congr' λa=>?_;unfold nH;rw[h k a]
theorem CK{w:Pow}(j:w.calm){m:aC}{N:Int->Int}:∀{live:aw} {ds:aE},live.Nodup->ii ds=64->dN m ds live N=eR->
  ∃ds',makes m N live w ds=(0,w,ds')/\ds'.length=64/\∀k,aX ds' k=(aX ds k).map λd=>if k∈live then cK m d (N k)else d
 |[],ds,_,h64,_=>⟨ds,i0,h64,λk=>by cases aX ds k<;>simp⟩
 |k::live,ds,hnd,h64,hf=>by
  rw[QC,qC]at hf;obtain⟨a,f⟩:=wU.1 hnd;obtain⟨d,g,i⟩:=AI hf.1;have e:iV m w ds k (N k)=(0,w,bK ds k (cK m d (N k))):=by unfold iV;rw[g];dsimp only;rw[CJ j i]
  have b:=gq (d:=cK m d (N k)) h64 g;have h:dN m (bK ds k (cK m d (N k))) live N=eR:=by
   rw[<-NJ (ds:=ds) λs c=>?_]
   ·exact hf.2
   ·rw[b,g0 λn:s=k=>a (n▸c)]
  obtain⟨ds',o,l,h3⟩:=CK j f (by rw[uG];exact h64) h;refine⟨ds',?_,l,λs=>?_⟩
  ·show(if(iV m w ds k (N k)).1=0 then makes m N live (iV m w ds k (N k)).2.1 (iV m w ds k (N k)).2.2 else iV m w ds k (N k))=_;rw[e];exact o
  ·rw[h3 s,b];by_cases c:s=k
   ·subst c;rw[f9 i0,g];simp[a]
   ·rw[g0 c];simp[c]
theorem sW{m:aC}{d:bj}{n:Int}(h:gP m d n=eR):(cK m d n).lost=eS/\(cK m d n).room=d.room/\((cK m d n).l.length:Int)+max n 0<=d.room:=by
 unfold gP at h;rw[qC,wu,wZ]at h;obtain⟨c,b⟩:=h;unfold cK;by_cases a:iM d d.l.length n=eR
 ·rw[f9 a];unfold iM at a;rw[decide_eq_true_eq]at a;exact⟨c,i0,i4⟩
 ·rw[g0 a];have h3:iM d (bN m d.l).length n=eR:=by
   rcases b with b|b
   ·exact absurd b a
   ·exact b
  unfold iM at h3;rw[decide_eq_true_eq]at h3;exact⟨c,i0,i6⟩
theorem SI(a:ByteArray):fp a a=eS:=Xl _
theorem YB{a b:ByteArray}(h:jP a b=eR)(c:a≠b):fp a b=eR:=by
 rcases(IM a b).1 h with h|h
 ·exact h
 ·exact absurd (Vb h) c
theorem YC{a b:ByteArray}(h:fp a b=eR):a≠b:=λe=>by subst e;rw[SI]at h;cases h
theorem aft:Ord sI:=⟨λa b c d e=>Ef _ _ _ d e,λa b=>Eg _ _⟩
theorem Ic{m:aC}{x e:cz}:e∈(iC m x).aF↔e∈m.aF∨e=x:=by show e∈(m.aF++[x]).mergeSort sI↔_;rw[yO];simp
end Wl
namespace Go.Qw
open Go Go.Vc Go.Proofs Wl
theorem YD{name:ByteArray}{l:List Wl.cz}(h:l.any (mb name)=eS):∀e∈l,e.name≠name:=λe b a=>by
 have:=wL.1 h e b;unfold mb at this;rw[a]at this;simp at this
theorem YE{m:aC}{x:Wl.cz}(w:bL m=eR)(d:mB x.name=eR)(n:∀e∈m.aF,e.name≠x.name)(j:x.object=m.next)(I:m.aF.length<=11)(N:m.next<=16777215)(J:m.seq<=2147483646)
  (k:0<=x.length/\x.length<=m.p.1*m.p.2.2*8) (E:∀t∈x.tries,0<=t/\t<=15) (D:(x.tries.length:Int)=countP m.p x.length):bL (iC m x)=eR:=by
 obtain⟨G,z,h3,K,s,H,v⟩:=(cx m).1 w;obtain⟨M,L,a3,a4⟩:=(fy m).1 G;have c:(iC m x).aF.Perm (m.aF++[x]):=ym _ _;have i:∀e∈m.aF,e.object<m.next:=λe g=>((hJ m e).1 (s e g)).2.1.2;refine(cx _).2 ⟨(fy _).2 ⟨⟨?_,?_⟩,⟨?_,?_⟩,a3,a4⟩,z,h3,?_,λe g=>?_,?_,?_⟩
 ·show 1<=m.seq+1;omega
 ·show m.seq+1<=_;omega
 ·show 0<=m.next+1;omega
 ·show m.next+1<=_;omega
 ·rw[c.length_eq];simp;omega
 ·rcases Ic.1 g with g|rfl
  ·obtain⟨B,u,y,F,A⟩:=(hJ m e).1 (s e g);exact(hJ _ e).2 ⟨B,⟨u.1,by show _<m.next+1;omega⟩,y,F,A⟩
  ·exact(hJ _ _).2 ⟨d,⟨i4,by show _<m.next+1;omega⟩,k,E,D⟩
 ·have f:(m.aF++[x]).Pairwise (λa b:Wl.cz=>a.name≠b.name):=yc.2 ⟨H.imp λh=>YC h,List.pairwise_singleton _ _,λa o b q=>by rw[qB.1 q];exact n a o⟩;have l:=(c.pairwise_iff (R:=λa b:Wl.cz=>a.name≠b.name) λ{a b} h=>Ne.symm h).2 f;have r:(iC m x).aF.Pairwise (λa b=>sI a b=eR):=(Ed aft (m.aF++[x])).1;exact(r.and l).imp λh=>YB h.1 h.2
 ·have f:(m.aF++[x]).Pairwise (λa b:Wl.cz=>a.object≠b.object):=yc.2 ⟨v,List.pairwise_singleton _ _,λa o b q=>by rw[qB.1 q,j];have:=i a o;omega⟩;exact(c.pairwise_iff (R:=λa b:Wl.cz=>a.object≠b.object) λ{a b} h=>Ne.symm h).2 f
theorem SJ{p:Pm}{o:Int}{n:Nat}{t:aw}(h:dm p o n=dB t):∀x∈t,0<=x/\x<=15:=λx d=>by
 obtain⟨i,c,rfl⟩:=qL d;obtain⟨k,b,a⟩:=xU h i c;have:=(ES a).1;rw[b];omega
theorem QD{p:Pm}(a:bM p=eR)(b:aV):(ii (splitB p b):Int)=countP p b.length:=by have:=(ma a b.length).1;unfold splitB;rw[qx,zF];omega
theorem abh{m:aC}{d:Bool}{ds:aE}{name:ByteArray}{b:aV}{t:aw}(f:bL m=eR)(j:eV m d ds name b.length=0)(g:dm m.p m.next (splitB m.p b).length=dB t):bL (iC m ⟨name,m.next,ii b,t⟩)=eR:=by
 obtain⟨n,l,z3,z4,z5⟩:=pj j;have i:¬m.p.1*m.p.2.2*8<(ii b:Int):=λh=>z4 (.inl h);have e:ii m.aF<=11:=by have:¬12<=ii m.aF:=λh=>z4 (.inr h);omega
 have a:m.next<=16777215:=by have:¬16777215<m.next:=λh=>z5 (.inr (.inl h));omega
 have c:m.seq<=2147483646:=by have:¬2147483647<=m.seq:=λh=>z5 (.inr (.inr h));omega
 have k:=((fy m).1 ((cx m).1 f).1).2.2.1;refine YE f l (YD z3) i0 e a c ⟨by show 0<=(ii b:Int);omega,by show(ii b:Int)<=_;omega⟩ (SJ g) ?_;show(ii t:Int)=countP m.p b.length;rw[kC g,QD k]
end Go.Qw
namespace Wl
open Go
def eI(a:cI)(d:bj):bj:=if a.isEmpty then d else{d with l:=d.l++a,wait:=0,laid:=[],has:=eS}
def ly(P:List (Int×aV))(s:Int):cI:=(P.filter λx=>decide (x.1=s)).map zL
theorem QE{P:List (Int×aV)}{s:Int}(h:∀x∈P,x.1≠s):ly P s=[]:=by unfold ly;rw[wX.2 λx a=>by simpa using h x a];rfl
theorem QF(P:List (Int×aV))(s:Int):ii (ly P s)=(P.map qK).count s:=by unfold ly;rw[qx];exact(Go.Vc.YA P s).symm
theorem AJ{l:aw}{s:Int}(h:0<=s/\s<64):s∈cL l↔s∈l:=by unfold cL;rw[qH,decide_eq_true_eq];refine⟨λh=>h.2,λh'=>⟨?_,h'⟩⟩;exact qu.2 ⟨s.toNat,qJ.2 i4,i4⟩
theorem JS{w:Pow}(n:w.calm){ds:aE}{P:List (Int×aV)}(i:ii ds=64)
  (a:∀x∈P,ii x.2=64/\∃d,aX ds x.1=dB d/\d.lost=eS/\d.l.length+ii (ly P x.1)<=d.room):
  ∃ds',layAll P w ds=(0,w,ds')/\ds'.length=64/\∀s,aX ds' s=(aX ds s).map (eI (ly P s)):=by
 have F:Fit ds (P.map qK) (P.map qK):=⟨i,λk o=>by
  obtain⟨x,f,rfl⟩:=qu.1 o;obtain⟨_,d,j,g,h3⟩:=a x f;rw[QF]at h3;exact⟨d,j,g,h3⟩⟩
 obtain⟨r,q,a3⟩:=Go.Vc.abf n P ds F λx f=>⟨qu.2 ⟨x,f,rfl⟩,(a x f).1⟩
 refine⟨(layAll P w ds).2.2,?_,q.len,λs=>?_⟩
 ·have g:=abe n P ds;exact y6 r (y6 g i0)
 ·rw[a3 s];unfold JQ;cases hd:aX ds s with
  |none=>rfl
  |some d=>
   obtain⟨e,c⟩:=afs hd;rw[q9,q9,q9];congr 1;unfold eI;have m:s∈P.map qK↔(ly P s).isEmpty=eS:=by rw[<-List.count_pos_iff,<-QF];cases hc:ly P s<;>simp
   by_cases b:(ly P s).isEmpty=eR
   ·have h0:ly P s=[]:=List.isEmpty_iff.1 b;have j:(P.filter λx=>decide (x.1=s))=[]:=List.map_eq_nil_iff.1 h0;rw[g0 (λh=>by rw[AJ ⟨e,c⟩,m]at h;rw[h]at b;cases b),f9 b,j];simp
   ·have p:(ly P s).isEmpty=eS:=j6
    rw[f9 ((AJ ⟨e,c⟩).2 (m.2 p)),g0 b];rfl
end Wl
namespace Go.Qw
open Go Go.Vc Go.Proofs Wl
theorem oz{n:aC}{live:aw}(a:live.Nodup)(s:Int):ly (bJ n live) s=if s∈live then bn n else[]:=by
 by_cases h:s∈live
 ·rw[f9 h];exact Fg n s a h
 ·rw[g0 h];exact QE λx c b=>h (b▸(kO c).1)
theorem abi(m:aC)(o:Int)(tries:aw)(a:cI)(live:aw)(k:Int)(n:Nat):ly (dW m o tries a live n) k=(lx m o tries a live k n).map dn:=Dr m o tries a live k n
theorem QG{m:aC}(h:bL m=eR):bn m≠[]:=by unfold bn iB gN;rw[f9 h];intro e;have:=congrArg List.length e;simp[cG]at this;omega
theorem lA{ds:aE}{l:aw}(h:l.Nodup):(aQ ds l).Nodup:=h.filter _
theorem jh{ds:aE}{l:aw}{k:Int}(h:k∈aQ ds l):k∈l/\∃d,aX ds k=dB d/\d.lost=eS:=by
 obtain⟨b,a⟩:=qH.1 h;unfold isLive at a;cases hd:aX ds k with
 |none=>rw[hd]at a;cases a
 |some d=>rw[hd]at a;exact⟨b,d,i0,j9⟩
theorem abj{ds:aE}{l:aw}{k:Int}:k∈aQ ds l↔k∈l/\∃d,aX ds k=dB d/\d.lost=eS:=by refine⟨jh,λ⟨h1,d,h2,h3⟩=>qH.2 ⟨h1,?_⟩⟩;unfold isLive;rw[h2];simp[h3]
theorem YF(a:cI)(d:bj):(eI a d).l=d.l++a:=by
 unfold eI;by_cases h:a.isEmpty=eR
 ·rw[f9 h,List.isEmpty_iff.1 h,qM]
 ·rw[g0 h]
theorem xY(a:cI)(d:bj):(eI a d).lost=d.lost/\(eI a d).room=d.room:=by unfold eI;split<;>exact⟨i0,i0⟩
theorem abk{a b:cI}(h:b≠[])(d:bj):eI b (eI a d)=eI (a++b) d:=by
 have e:∀c:cI,c≠[]->∀d,eI c d={d with l:=d.l++c,wait:=0,laid:=[],has:=eS}:=λc g d=>by
  unfold eI;rw[g0 m4]
 by_cases f:a=[]
 ·subst f;rfl
 ·rw[e a f,e b h,e (a++b) tg];simp
theorem MF(a:Nat)(l:List (Int×aV))(k:Int):kE a l k=a+ii (ly l k):=by unfold kE ly;rw[qx]
theorem Uc{p:Pm}{o:Int}{b:aV}{t:aw}(c:bM p=eR)(d:dm p o (splitB p b).length=dB t){i:Nat}(j:i<ii (splitB p b)):∃K H w n,co p (ck o i (t.getD i 0)) ((splitB p b).getD i []) K H w n:=by
 have q:=kC d;obtain⟨k,g,a⟩:=xU d i i4;have h:JD p o i k=eR:=(ES a).2.1;have e:t.getD i 0=(k:Int):=by rw[eE 0];exact g
 rw[e];refine UV c h ?_;have f:=(cm p).1 c;have m:0<=p.1*p.2.2:=vQ i4 i4;have l:(splitB p b)[i]=CE (gw p) b i:=by simp[splitB]
 rw[eE [] j,l,Ms];unfold gw;omega
theorem Ud{m:aC}{b:aV}{t:aw}(d:bL m=eR)(g:m.next<=16777215)(h8:ii (splitB m.p b)<=8)(f:dm m.p m.next (splitB m.p b).length=dB t){i id:Nat}(e:i<ii (splitB m.p b))(hid:id<(m.p.1+m.extra).toNat):
  jg (mz m m.next i (ck m.next i (t.getD i 0)) ((splitB m.p b).getD i []) id)=eR:=by
 have a:=((fy m).1 ((cx m).1 d).1)
 have c:=(cm m.p).1 a.2.2.1;obtain⟨K,H,w,n,B⟩:=Uc a.2.2.1 f e;exact Qz B ⟨a.2.1.1,g⟩ i4 i4
theorem YG{m:aC}{offs:Int}{w:Pow}{ds:aE}{name:ByteArray}{b:aV}(I:w.calm)(L:ii ds=64)(s:bL m=eR):
  (eV m (fd w offs) ds name b.length≠0->iy m offs w ds name b=(eV m (fd w offs) ds name b.length,m,w,ds))/\
  (eV m (fd w offs) ds name b.length=0->(dm m.p m.next (splitB m.p b).length=eH->iy m offs w ds name b=(8,m,w,ds))/\∀t,dm m.p m.next (splitB m.p b).length=dB t->
   let live:=aQ ds m.drives;let l:=dW m m.next t (splitB m.p b) live (splitB m.p b).length;let n:=iC m ⟨name,m.next,ii b,t⟩;let N:=kE (bn n).length l
   bL n=eR/\(dN m ds live N=eS->iy m offs w ds name b=(7,m,w,ds))/\(dN m ds live N=eR->∃ds',iy m offs w ds name b=(0,n,w,ds')/\ds'.length=64/\
    ∀k,aX ds' k=(aX ds k).map λd=>if k∈live then eI ((lx m m.next t (splitB m.p b) live k (splitB m.p b).length).map dn++bn n) (cK m d (N k))else d)):=by
 refine⟨λh=>by unfold iy;rw[f9 h],λh=>⟨λB=>by unfold iy;rw[g0 j5,B],λt B=>?_⟩⟩;intro live l n N;have D:bL n=eR:=abh s h B;obtain⟨z1,z2,z3,z4,z5⟩:=pj h;have o:=((fy m).1 ((cx m).1 s).1)
 have E:¬m.p.1*m.p.2.2*8<(ii b:Int):=λh=>z4 (.inl h);have h8:=Ly o.2.2.1 E;have G:live≠[]:=λh=>z5 (.inl h);have q:0<=m.next/\m.next<=16777215:=⟨o.2.1.1,by have:¬16777215<m.next:=λh=>z5 (.inr (.inl h));omega⟩
 have f:live.Nodup:=lA (nf s);have J:∀k∈live,0<=k/\k<64:=λk a=>kL s k (jh a).1;have e:iy m offs w ds name b=(if dN m ds live N=eS then(7,m,w,ds)else if(makes m N live w ds).1≠0 then((makes m N live w ds).1,m,(makes m N live w ds).2)else
   if(layAll l (makes m N live w ds).2.1 (makes m N live w ds).2.2).1≠0 then((layAll l (makes m N live w ds).2.1 (makes m N live w ds).2.2).1,m,(layAll l (makes m N live w ds).2.1 (makes m N live w ds).2.2).2)else
   ((layAll (bJ n live) (layAll l (makes m N live w ds).2.1 (makes m N live w ds).2.2).2.1 (layAll l (makes m N live w ds).2.1 (makes m N live w ds).2.2).2.2).1,if(layAll (bJ n live) (layAll l (makes m N live w ds).2.1 (makes m N live w ds).2.2).2.1 (layAll l (makes m N live w ds).2.1 (makes m N live w ds).2.2).2.2).1=0 then n else m,(layAll (bJ n live) (layAll l (makes m N live w ds).2.1 (makes m N live w ds).2.2).2.1 (layAll l (makes m N live w ds).2.1 (makes m N live w ds).2.2).2.2).2)):=by
  unfold iy;rw[g0 j5,B]
 refine⟨D,λz=>by rw[e,f9 z],λz=>?_⟩;rw[e,g0 (by rw[z];decide)];obtain⟨T,Y,m2,S⟩:=CK I (N:=N) f L z;rw[Y];dsimp only;rw[g0 i9];have v:∀y∈l,y.1∈live:=λy j=>(Qy q G J h8 j).1;have A:∀y∈l,ii y.2=64:=λy j=>by
  obtain⟨i,hi,j⟩:=zS.1 j;obtain⟨id,hid,rfl⟩:=qu.1 j;exact uc (Ud s q.2 h8 B (qJ.1 hi) (qJ.1 hid))
 have c:∀k∈live,∃d,aX T k=dB d/\d.lost=eS/\(ii d.l:Int)+max (N k) 0<=d.room:=λk a=>by
  obtain⟨_,d,hd,U⟩:=jh a;have Q:=q7.1 z k a;obtain⟨d',O,K⟩:=AI Q;obtain⟨r1,r2,Z⟩:=sW K;refine⟨cK m d' (N k),?_,r1,by rw[r2];exact Z⟩;rw[S k,O,q9,f9 a]
 obtain⟨X,l1,l2,R⟩:=JS I (ds:=T) (P:=l) m2 λx g=>by
  obtain⟨d,F,M,f3⟩:=c x.1 (v x g);refine⟨A x g,d,F,M,?_⟩;have:N x.1=_:=MF _ _ _;omega
 rw[l1];dsimp only;rw[g0 i9];obtain⟨d3,p1,p2,W⟩:=JS I (ds:=X) (P:=bJ n live) l2 λx g=>by
  obtain⟨r,u⟩:=kO g;obtain⟨d,F,M,f3⟩:=c x.1 r;refine⟨u,eI (ly l x.1) d,by rw[R,F,q9],by rw[(xY _ _).1];exact M,?_⟩;have:N x.1=_:=MF _ _ _;rw[(xY _ _).2,YF,oz f,f9 r,qw];omega
 rw[p1];refine⟨d3,i0,p2,λk=>?_⟩;rw[W k,R k,S k,Option.map_map,Option.map_map];congr 1;funext d;show eI (ly (bJ n live) k) (eI (ly l k) (if k∈live then cK m d (N k)else d))=_;rw[oz f];by_cases a:k∈live
 ·rw[f9 a,f9 a,f9 a];have H:ly l k=(lx m m.next t (splitB m.p b) live k (splitB m.p b).length).map dn:=abi _ _ _ _ _ _ _;rw[H,abk (QG D)]
 ·rw[g0 a,g0 a,g0 a,QE (P:=l) λx g (V:x.1=k)=>a (V▸v x g)];rfl
theorem JT(l:aw)(b:ii l<=64)(s:Int):aX (im l (bo l l.length).length) s=if s∈bo l l.length then dB (bj.new (l.getD s.toNat 0).toNat)else eH:=by
 by_cases a:0<=s/\s<64
 ·unfold aX im;rw[f9 a,qR,zt i4,q9,qi (qm _)];have e:((s.toNat:Nat):Int)=s:=i4
  rw[e];by_cases h:s∈bo l l.length
  ·rw[f9 h];rfl
  ·rw[g0 h];rfl
 ·rw[g0 λh=>?_]
  ·unfold aX;rw[g0 a]
  ·obtain⟨n,c,rfl,_⟩:=(uv l l.length s).1 h;omega
theorem YH{p:Pm}{extra:Int}{l:aw}(g:ii l<=64)(d:pZ p extra l=0):
  ∃D,gh p extra Pow.new l=(0,Pow.new,D)/\D.length=64/\∀s,aX D s=if s∈bo l l.length then dB ⟨(l.getD s.toNat 0).toNat,bn (cE p extra l),0,[],eS,eS⟩else eH:=by
 have i:=Ib g d;have c:(bo l l.length).Nodup:=(Dp l l.length).imp λh e=>i4
 have b:=(JR d).2.2.2.2;rw[VG,f9 d];obtain⟨D,k,j,h3⟩:=JS jS (ds:=im l (bo l l.length).length) (P:=bJ (cE p extra l) (bo l l.length)) (Ss _ _) λx m=>by
  obtain⟨a,f⟩:=kO m;refine⟨f,bj.new (l.getD x.1.toNat 0).toNat,by rw[JT l g,f9 a],i0,?_⟩;rw[oz c,f9 a];have:=wL.1 b x.1 a;simp only[decide_eq_true_eq]at this;show 0+_<=(l.getD x.1.toNat 0).toNat;omega
 refine⟨D,k,j,λs=>?_⟩;rw[h3,JT l g,oz c];by_cases h:s∈bo l l.length
 ·rw[f9 h,f9 h,f9 h,q9];unfold eI;rw[g0 (by simpa using QG i)];rfl
 ·rw[g0 h,g0 h,g0 h];rfl
theorem VL(m:aC):ii (bn m)=(ii (gN m)+47)/48:=by unfold bn iB;rw[qx,zF]
theorem afu(x:Wl.cz):(jo x).length=6+x.name.size+x.tries.length:=by unfold jo;simp[cG];omega
theorem YI{m:aC}(h:bL m=eR):ii (gN m)=14+ii m.drives+ii (m.aF.flatMap jo):=by unfold gN;rw[f9 h];simp only[qw,cG,zh,yV,qx];omega
theorem nu{p:Pm}{n:Int}(h:n<=p.1*p.2.2*8):countP p n<=8:=by
 unfold countP;split
 ·rename_i a;rw[qC,decide_eq_true_eq]at a;have:=(cm p).1 a.1;have b:0<p.1*p.2.2:=Int.mul_pos i4 i4;have:(n-1)/(p.1*p.2.2)<8:=Int.ediv_lt_of_lt_mul b (by rw[Int.mul_comm 8];omega);omega
 ·decide
theorem adR{m:aC}{x:Wl.cz}(h:gX m x=eR):ii (jo x)<=26:=by
 obtain⟨a,e,h3,d,b⟩:=(hJ m x).1 h;have:=nu h3.2;have c:x.name.size<=12:=by unfold mB at a;simp at a;omega
 rw[afu];omega
theorem Gi{α β:Type}{f:α->List β}{c:Nat}:∀{l:List α},(∀x∈l,ii (f x)<=c)->ii (l.flatMap f)<=ii l*c
 |[],_=>i9
 |x::l,h=>by
  have b:=h x qI;have d:=Gi (l:=l) λy a=>h y (qD _ a);rw[zf,qw,zh,zH];omega
theorem abl{m:aC}(h:bL m=eR):ii (bn m)*48<=61+ii m.drives+ii m.aF*26:=by have:=Gi (f:=jo) (l:=m.aF) λx a=>adR (((cx m).1 h).2.2.2.2.1 x a);have b:=YI h;rw[VL];omega
theorem afv{m:aC}(h:bL m=eR):ii (bn m)<=9:=by have a:=abl h;have b:=jy h;have h3:=((cx m).1 h).2.2.2.1;omega
def dc(m:aC)(offs:Int)(w:Pow)(ds:aE)(n:aC):Int×aC×Pow×aE:=
 if fd w offs then(14,m,w,ds)else if !bL n||decide (n.seq≠m.seq+1)then(1,m,w,ds)else
 let live:=aQ ds n.drives;let N:Int->Int:=λ_=>(ii (bn n):Int)
 if live=[]∨dN m ds live N=eS then(7,m,w,ds)else
 if(makes m N live w ds).1≠0 then((makes m N live w ds).1,m,(makes m N live w ds).2)else
 let a:=layAll (bJ n live) (makes m N live w ds).2.1 (makes m N live w ds).2.2
 (a.1,if a.1=0 then n else m,a.2)
theorem kl{m:aC}(h:bL m=eR):dh m:=by
 obtain⟨p,q,h3,l,b,n,j⟩:=(cx m).1 h;have o:=jy h;refine⟨i4,i4,λe d=>?_⟩;obtain⟨a,f,c,g,i⟩:=(hJ m e).1 (b e d);have:=nu c.2;have k:e.name.size<=12:=by unfold mB at a;simp at a;omega
 omega
variable {B:aA} {h0 h:f8} {As:List HP} {a pw:eY} {offs:Int} {da:List bm} {w:Pow} {ds:aE}
theorem GS(x:bX)(m:aC)(z:bX)(n:aC)(Y:St B h0 As λh=>dH h z n)(hz:dh m)(l:dh n)(am:-1<=m.seq/\m.seq<=2^40)
  (H:aa B h0 h (bh bw a pw (aS x) offs da w ds::bS x m::As)):
  aq xD 92 #[xv (dB a),fT z] h λv h'=>v=xt xz (dc m offs w ds n).1/\
   ∃y,aa B h0 h' (bh bw a pw (aS y) offs da (dc m offs w ds n).2.2.1 (dc m offs w ds n).2.2.2::bS y (dc m offs w ds n).2.1::As):=by
 refine Aq (dB a) z ?_;refine H.boxed λD F i=>(EZ i).mono ?_;have i:=i.bv;rintro _ F ⟨rfl,rfl⟩;have i:aa B h0 F (al D 29 (aS z)::bh bw a pw (aS x) offs da w ds::bS x m::As):=i;have u:dH F z n:=Y.at [_,_,_] i;have R:dH F x m:=i.at 2 i0;refine⟨_,i0,bA (λe=>?_) λe1=>?_⟩
 ·have K:dc m offs w ds n=(14,m,w,ds):=by unfold dc;rw[f9 e]
  rw[K];exact⟨i0,x,i.aT 3 [1,2]⟩
 refine bc ?_;refine⟨z,(i.box 0 i0).aP _ i0,(PS z n F u l).mono ?_⟩;rintro _ h3 ⟨rfl,R3⟩;have E:=i.up R3.ag;have ah:=u.up R3.ag;have no:∀{h':f8},aa B h0 h' (al D 29 (aS z)::bh bw a pw (aS x) offs da w ds::bS x m::As)->(bL n=eS∨n.seq≠m.seq+1)->(Value.int .i64 1=xt xz (dc m offs w ds n).1/\∃y,aa B h0 h' (bh bw a pw (aS y) offs da (dc m offs w ds n).2.2.1 (dc m offs w ds n).2.2.2::bS y (dc m offs w ds n).2.1::As)):=λ{h'} d hc=>by
  have K:dc m offs w ds n=(1,m,w,ds):=by
   unfold dc;rw[g0 n7,f9];rcases hc with hc|hc
   ·rw[hc];rfl
   ·rw[g9 hc,Bool.or_true]
  rw[K];exact⟨i0,x,d.aT 3 [1,2]⟩
 refine⟨_,i0,trivial,bi (λe=>no E (.inl e)) λZ=>?_⟩;have M:=E.box 0 i0;have X:=(aa.dl (E.aT 2 [1,0])).2;refine⟨z.1,M.cell0 i0,a,i0,x.1,X.cell0 i0,?_⟩;dsimp only;rw[u.seq,R.seq,af (m.seq+1)];refine ci (λe=>no E (.inr e)) λe3=>?_;refine⟨_,M.cell i0,?_⟩;have V:=jy Z;have ad:∀k∈n.drives,0<=k/\k<64:=kL Z;refine(Jx z.2.2.2.2.2.2.1 n.drives ah.drives i4 (E.aT 2 [1,0])).mono ?_;rintro _ h5 ⟨s,rfl,R5⟩;obtain⟨live,b⟩:∃live,live=aQ ds n.drives:=⟨_,rfl⟩
 rw[<-b]at R5;have ar:ii live<=64:=by rw[b];exact zd (qT _ _) V
 have f:∀k∈live,0<=k/\k<64:=λk hk=>by rw[b]at hk;exact ad k (qH.1 hk).1
 have U:=(E.cj R5).aT 4 [2,3,0,1];refine⟨s,i0,z,(U.box 3 i0).aP _ i0,(oY z n h5 (Y.at [_,_,_,_] U) l).mono ?_⟩;rintro _ h6 ⟨pg,rfl,R6⟩;have t:=(aa.sa R6).1;have L:=kz n l;obtain⟨q,G⟩:∃q,q=ii (bn n):=⟨_,rfl⟩
 rw[<-G]at t L;have H6:=U.up R6.ag;refine⟨pg,i0,H6.alloc an i0 λc h7 H7=>?_⟩;have H7:=H7.bv;refine H7.storeAll an 0 i0 i0 [xt xz (pg.len:Int)] i0 i0 i0 i0 λh8 j=>?_;rw[t]at j;have j:aa B h0 h8 (bh bw a pw (aS x) offs da w ds::bS x m::al c 3 [xt xz (q:Int)]::ae 3 s 1 ak live::al D 29 (aS z)::As):=j.aT 5 [1,2,0,3,4];obtain⟨T,p⟩:∃T,T=bS x m::al c 3 [xt xz (q:Int)]::ae 3 s 1 ak live::al D 29 (aS z)::As:=⟨_,rfl⟩
 have tX:St B h0 T λh=>dH h x m:=by rw[p];exact St.dS 0 i0 λ_ r=>r
 have tN:St B h0 T λh=>cw h c 3 [xt xz (q:Int)]:=by rw[p];exact St.dS (A:=al c 3 [xt xz (q:Int)]) 1 i0 λ_ r=>r.1
 have P:St B h0 T λh=>Rd h s 1 ak live:=by rw[p];exact St.dS (A:=ae 3 s 1 ak live) 2 i0 λ_ r=>r.1.seq (λ_=>rfl) r.2
 have tM:St B h0 T λh=>cw h D 29 (aS z):=by rw[p];exact St.dS (A:=al D 29 (aS z)) 3 i0 λ_ r=>r.1
 have tY:St B h0 T λh=>dH h z n:=by rw[p];exact Y.cons.cons.cons.cons
 obtain⟨N,hN⟩:∃N:Int->Int,N=λ_=>(q:Int):=⟨_,rfl⟩
 have tT:St B h0 T λh=>Oe 153 #[] #[xv (dB c)] N live h:=λBs h' d k hk=>by
  refine uq k c ?_;exact⟨(q:Int),(tN Bs h' d).cell0 i0,by rw[hN],Sp.refl h'⟩
 have fin:∀{h':f8} {w':Pow} {ds':aE},aa B h0 h' (bh bw a pw (aS x) offs da w' ds'::T)->aa B h0 h' (bh bw a pw (aS x) offs da w' ds'::bS x m::As):=λ{h' w' ds'} d=>by
  rw[p]at d;exact d.aT 5 [0,1]
 rw[<-p]at j;have K:dc m offs w ds n=(if live=[]∨dN m ds live N=eS then(7,m,w,ds)else
   if(makes m N live w ds).1≠0 then((makes m N live w ds).1,m,(makes m N live w ds).2)else
   ((layAll (bJ n live) (makes m N live w ds).2.1 (makes m N live w ds).2.2).1,if(layAll (bJ n live) (makes m N live w ds).2.1 (makes m N live w ds).2.2).1=0 then n else m,(layAll (bJ n live) (makes m N live w ds).2.1 (makes m N live w ds).2.2).2)):=by
  rw[hN,G,b];unfold dc;rw[g0 n7,g0 (by rw[Z,hU (by simpa using e3)];decide)]
 rw[K];have I:=(P.at [_] j).len;refine bc (cy (λe=>?_) λe4=>?_)
 ·have:live=[]:=List.length_eq_zero_iff.1 i4;rw[f9 (.inl this)];exact⟨i0,x,fin j⟩
 have W:live≠[]:=λh=>e4 (by rw[I,h];rfl);refine(JI 153 #[] #[xv (dB c)] N x m s live ld (λBs h' d=>⟨tX Bs h' d,tT Bs h' d⟩) hz (P.at [_] j) i4 f j).mono ?_;rintro _ h9 ⟨rfl,R9⟩;have H9:=j.up R9.ag;refine⟨_,i0,bi (λg=>?_) λg=>?_⟩
 ·rw[f9 (.inr g)];exact⟨i0,x,fin H9⟩
 rw[g0 (by rintro(h|h);exact W h;rw[g]at h;cases h)];refine(JJ 153 #[] #[xv (dB c)] N x m s live ld (λBs h' d=>⟨tX Bs h' d,tT Bs h' d,P Bs h' d⟩) hz i4 f H9).mono ?_;rintro _ ao ⟨rfl,o⟩;obtain⟨O,ab⟩:∃O,O=makes m N live w ds:=⟨_,rfl⟩
 rw[<-ab]at o⊢;refine⟨_,i0,ci (λS=>?_) λS=>?_⟩
 ·rw[f9 S];exact⟨i0,x,fin o⟩
 rw[g0 (by simpa using S)];refine⟨z,(tM.at [_] o).aP _ i0,(JL x z n s live (λBs h' d=>⟨tY Bs h' d,P Bs h' d⟩) l i4 f o).mono ?_⟩;rintro _ ap ⟨rfl,Q1,Q0⟩;refine⟨_,i0,i0,?_⟩;by_cases Q:(layAll (bJ n live) O.2.1 O.2.2).1=0
 ·obtain⟨y2,J⟩:=Q0 Q;rw[f9 Q];rw[p]at J;exact⟨y2,J.aT 6 [0,1]⟩
 ·rw[g0 Q];exact⟨x,fin (Q1 Q)⟩
end Go.Qw
namespace Go.Vc
open Go Wl
variable {k:Kit} {B:aA} {h0 h:f8} {As:List HP} {a pw b:eY} {mc:ba} {offs:Int} {da:List bm} {w:Pow} {ds:aE} {d:bj} {n:Nat}
theorem aa.abm(ok:gm mc da ds)(F:n<64)(H:aa B h0 h (al a k.tS (cQ mc pw offs (da.set n (dB b)))::dv k.tP pw w::(gf k pw da ds++(iw k.tD (k.f pw) b d::As)))):aa B h0 h (bh k a pw mc offs (da.set n (dB b)) w (ds.set n (dB d))::As):=by
 have t:=ok.la;have p:=ok.ls;have q:gm mc (da.set n (dB b)) (ds.set n (dB d)):=⟨ok.l8,by simp[t],by simp[p],λi=>by
  by_cases g:n=i
  ·subst g;rw[qe,qe,zj i4,zj i4];rfl
  ·have:=ok.same i;rw[qe,qe]at this⊢;rw[zC g,zC g];exact this⟩
 have s:=CC (k:=k) (pw:=pw) ok;have l:gf k pw (da.set n (dB b)) (ds.set n (dB d))=(gf k pw da ds).set n (iw k.tD (k.f pw) b d):=by
  apply zI;intro j;simp only[gf,zb,List.getElem?_zipWith,List.length_zipWith];by_cases o:n=j
  ·subst o;rw[f9 i0,f9 i4,f9 i0,f9 i4,f9 i0,f9 i4];rfl
  ·simp[o]
 refine aa.ou q ?_;rw[l];obtain⟨L,r⟩:∃L,L=gf k pw da ds:=⟨_,rfl⟩
 rw[<-r]at H s⊢;have c:n<ii L:=i4
 have H:=H.gb (n+2) (A:=L[n]) (D:=emp) (by rw[qy,qy,qo c,qd c]) λ_ _=>trivial;have z:(al a k.tS (cQ mc pw offs (da.set n (dB b)))::dv k.tP pw w::(L++(iw k.tD (k.f pw) b d::As))).set (n+2) emp=al a k.tS (cQ mc pw offs (da.set n (dB b)))::dv k.tP pw w::(L.set n emp++(iw k.tD (k.f pw) b d::As)):=by rw[zA,zA,List.set_append_left _ _ c]
 rw[z]at H;have m:ii (L.set n emp)=ii L:=zl;have u:=H.cons (ii L+2) (A:=iw k.tD (k.f pw) b d) (by
  rw[qy,qy,qj i4,m,ze];rfl)
 have e:(al a k.tS (cQ mc pw offs (da.set n (dB b)))::dv k.tP pw w::(L.set n emp++(iw k.tD (k.f pw) b d::As))).set (ii L+2) emp=al a k.tS (cQ mc pw offs (da.set n (dB b)))::dv k.tP pw w::(L.set n emp++(emp::As)):=by rw[zA,zA,qX _ _ i4,m,ze];rfl
 rw[e]at u;have v:=u.aT 3 [0,2,1];have y:aa B h0 h (iw k.tD (k.f pw) b d::dv k.tP pw w::al a k.tS (cQ mc pw offs (da.set n (dB b)))::(L.set n emp++(emp::As))):=v;have E:=aa.Gg n c y;have x:=aa.closeAll (al a k.tS (cQ mc pw offs (da.set n (dB b)))::dv k.tP pw w::L.set n (iw k.tD (k.f pw) b d)) E;exact aa.og (L:=al a k.tS (cQ mc pw offs (da.set n (dB b)))::dv k.tP pw w::L.set n (iw k.tD (k.f pw) b d)) x.oD
end Go.Vc
