/- Lemmas for the proof of the law; no condition. -/
import Derived.Test.YtdibhfbogjngkaaGreatDoorKA
import Derived.Test.YtdibhfbogjngkaaGreatDoorShelfB
import Derived.Test.YtdibhfbogjngkaaGreatDoorPlB
set_option linter.unusedVariables false
set_option maxHeartbeats 2000000
set_option linter.unusedSimpArgs false
open Go.Proofs.Tryz renaming prog -> xB
open Go.Value renaming agg -> xw, bool -> xv, int -> xq, pointer -> xt, slice -> xr, string -> xu
open Go.IntKind renaming bits -> qk, i64 -> xx, signed -> y7, u32 -> xz, u64 -> xA, u8 -> xy, wrap -> qc
open Nat renaming le_of_eq -> xd
open Int renaming tmod -> wi
open Bool renaming and_self -> xi
open List renaming all_cons -> xk, any_cons -> xj, any_nil -> xm, pairwise_map -> vi, range -> qy, replicate -> qh, zipWith -> zi
open Option renaming some -> zR
open Go.Instr renaming storeAt -> qf
open Prod renaming fst -> qH, snd -> zJ
set_option maxRecDepth 100000
open Option renaming some -> dB, none -> eH
open Bool renaming true -> eL, false -> eR
open Go renaming Addr -> eX
open Go.Vc renaming Heap -> f8
open List renaming length -> ii
namespace Go.Qw
open Go Go.Vc Go.Proofs Wl
theorem aeQ{α:Type}{h:f8}{e:TypeId}{s:Sl}{k:Nat}{f:α->bg}{l:List α}(a:Own h e s k f l)(c:l≠[]):s.ptr.isNone=eR:=by
 rcases a.head with⟨_,_,h3⟩|⟨b,rest,h1,_⟩
 ·exact absurd h3 c
 ·rw[h1];rfl
theorem UA(p:Pm)(seed id:Int)(h:f8):ac xB 134 #[kS p,xq xz seed,xq xx id] h λv h'=>∃r:Sl,v=r/\
  Sp h h' [ak 5 r 1 aF (if bP p&&bZ id then pf (bK p).toNat seed id else[])]/\r.ptr.isNone=!(bP p&&bZ id):=by
 refine Zm p seed id ?_;unfold Uf;refine(Sp.refl h).boxed λa P F=>?_;refine bj ?_;refine⟨p,(F.box 0 i0).aU _ i0,(eN p P).mono ?_⟩;rintro v D ⟨rfl,L⟩;have m:=F.comp L;have y:(bP p&&bZ id)=eR->Sp h D [ak 5 ⟨eH,0,0⟩ 1 aF (if bP p&&bZ id then pf (bK p).toNat seed id else[])]/\Option.isNone (eH:aO)=!(bP p&&bZ id):=λI=>by
  rw[I];exact⟨(m.nil 5 1 aF).take 1 (λi A g=>by cases i with|zero=>exact g|succ i=>simp at g),i0⟩
 refine⟨_,i0,bo (λe=>⟨⟨eH,0,0⟩,i0,y n0⟩) λl=>?_⟩;refine ai (λe=>⟨⟨eH,0,0⟩,i0,y l0⟩) λU=>?_;refine ai (λe=>⟨⟨eH,0,0⟩,i0,y l0⟩) λB=>?_;have hid:bZ id=eL:=l0
 refine⟨p,(m.box 0 i0).aU _ i0,(kI p D).mono ?_⟩;rintro v h3 ⟨rfl,O⟩;have S:=m.comp O;have N:=(cu p).1 l;have W:bK p=p.1+p.2.1:=by rw[bK,f9 l]
 obtain⟨n,z⟩:∃n:Nat,bK p=n:=⟨(bK p).toNat,i4⟩
 refine⟨_,i0,?_⟩;dsimp only;rw[z];refine S.make af aF hJ i5 0 i0 i0 n n i0 i0 (qm _) i4 λv M V R H=>?_;refine⟨p,(H.box 0 i0).aU _ i0,(Ci p seed id M).mono ?_⟩;rintro w X ⟨c,rfl,q⟩;rw[l,hid,z,ql]at q;rw[l,hid,ql];have s:=H.comp q;have j:=s.seq 2 i0 λ_=>rfl;have o:=j.len;obtain⟨b,d⟩:∃b,b=dz n seed id:=⟨_,rfl⟩
 have t:∀x∈b,0<=x/\x<(n:Int):=λx G=>nk i4 i4 (by rw[<-d];exact G);have E:ii b<=n:=by rw[d];exact BI i4 i4 _ _
 simp only[xi,if_true,<-d]at s j o q;refine⟨c,i0,?_⟩;refine aA (λi:Nat=>(i:Int)) (λi h'=>i<=ii b/\Sp h h' [au a 24 [xq xx p.1,xq xx p.2.1,xq xx p.2.2],ak 5 v 1 aF (gw n (b.take i)),ak 3 c 1 av b]) (λi=>ii b-i) 0 i0 ⟨i4,s⟩ ?_;rintro i J ⟨g,k⟩;refine ai (λe=>?_) (λe=>?_)
 ·have f:i<ii b:=i4
  have G:=t _ (qg f);refine(k.seq 2 i0 λ_=>rfl).bH i i0 f _ i0 ?_;refine k.set af 1 i0 (λ_=>rfl) i0 b[i].toNat i4 (by rw[sU];omega) 1 i0 i0 i0 λT K=>?_;refine⟨i+1,js,⟨i4,?_⟩,i4⟩;have B:gw n (b.take (i+1))=(gw n (b.take i)).set b[i].toNat 1:=by rw[aK _ _ f,gw,zN];rfl
  rw[B];exact K
 ·rw[qi i4]at k;have u:Sp h J [ak 5 v 1 aF (gw n b)]:=(k.del 2).take 1 (λi A g=>by cases i with|zero=>exact g|succ i=>simp at g);refine⟨v,i0,?_,aeQ (u.own 0 i0) λQ=>?_⟩
  ·rw[d]at u;exact u
  ·have:=sU n b;rw[Q]at this;simp at this;omega
theorem uM(p:Pm)(h:f8):ac xB 70 #[kS p] h λv h'=>∃r:Sl,v=r/\Sp h h' [fS 34 r 1 aF (if bP p then bG p.1.toNat p.2.1.toNat else[])]:=by
 refine TZ p ?_;unfold MW;refine(Sp.refl h).boxed λa h1 D=>?_;refine⟨p,(D.box 0 i0).aU _ i0,(eN p h1).mono ?_⟩;rintro v T ⟨rfl,U⟩;have z:=D.comp U;refine⟨_,i0,bo (λe=>⟨⟨eH,0,0⟩,i0,?_⟩) λx=>?_⟩
 ·rw[e];exact(z.Mt 34 1 aF).take 1 (λi A c=>by cases i with|zero=>exact c|succ i=>simp at c)
 have W:=(cu p).1 x;have hc:bK p=p.1+p.2.1:=by rw[bK,f9 x]
 obtain⟨K,Z⟩:∃K:Nat,p.1=K:=⟨p.1.toNat,i4⟩
 obtain⟨b,N⟩:∃H:Nat,p.2.1=H:=⟨p.2.1.toNat,i4⟩
 refine(sa T).mono ?_;rintro v h3 ⟨f,rfl,Y⟩;have F:=(z.comp Y).Mt 34 1 aF;refine⟨dB f,i0,_,(F.box 0 i0).cell i0,?_⟩;refine aA (λt:Sl×Nat=>(t.1,(t.2:Int))) (λt h'=>t.2<=b/\Sp h h' [au a 24 [xq xx p.1,xq xx p.2.1,xq xx p.2.2],au f 197 dc,fS 34 t.1 1 aF ((bG K b).take t.2)]) (λt=>b-t.2) (⟨eH,0,0⟩,0) i0 ⟨i9,F⟩ ?_;rintro⟨s,k⟩ V ⟨hk,m⟩;dsimp only at*;refine ai (λe=>?_) (λe=>?_)
 ·have O:k<b:=i4
  refine bj ⟨p,(m.box 0 i0).aU _ i0,p.1,(m.box 0 i0).cell0 i0,?_⟩;refine(kI p V).mono ?_;rintro v h5 ⟨rfl,M⟩;have E:=m.comp M;refine⟨_,i0,⟨(E.box 0 i0).cell0 i0,trivial⟩,?_⟩;dsimp only;rw[al (p.1+k),hc];refine(abZ _ _ h5).mono ?_;rintro v h6 ⟨u,rfl,y⟩;rw[f9 i4]at y;have I:(p.1+p.2.1).toNat=K+b:=i4
  have R:(p.1+(k:Int)).toNat=K+k:=i4
  rw[I,R]at y;have o:=E.comp y;refine⟨u,i0,⟨(o.box 0 i0).cell0 i0,trivial⟩,p.1,(o.box 0 i0).cell0 i0,?_⟩;let rowAt:Nat->bf:=λj=>(qy j).map (λi=>Gf.pw ((k+1)*(i+1)%255))++((qh (K+b) (0:UInt8)).set (K+k) 1).drop j;refine aA (λj:Nat=>(j:Int)) (λj h'=>j<=K/\Sp h h' [au a 24 [xq xx p.1,xq xx p.2.1,xq xx p.2.2],au f 197 dc,fS 34 s 1 aF ((bG K b).take k),ak 5 u 1 aF (rowAt j)]) (λj=>K-j) 0 i0 ⟨i4,o⟩ ?_;rintro j G ⟨hj,n⟩;refine ai (λP=>?_) (λP=>?_)
  ·have d:j<K:=i4
   have hm:(k+1)*(j+1)<=4*16:=wq i4 i4;have L:qc xx (qc xx ((k:Int)+1)*qc xx ((j:Int)+1))=(((k+1)*(j+1):Nat):Int):=by rw[al ((k:Int)+1),al ((j:Int)+1),show((k:Int)+1)*((j:Int)+1)=(((k+1)*(j+1):Nat):Int)by rw[wM];rfl];exact wf _
   rw[L];refine(aeP f _ G (n.box 1 i0)).mono ?_;rintro v h8 ⟨rfl,rfl⟩;refine⟨_,i0,?_⟩;have B:ii (rowAt j)=K+b:=by simp[rowAt];omega
   refine n.set af 3 i0 (λ_=>rfl) i0 j i0 i4 _ i0 i0 i0 λJ q=>?_;refine⟨j+1,js,⟨i4,?_⟩,i4⟩;have w:(rowAt j).set j (Gf.pw ((((k+1)*(j+1):Nat):Int)%255).toNat)=rowAt (j+1):=by
    have Q:((((k+1)*(j+1):Nat):Int)%255).toNat=(k+1)*(j+1)%255:=i4
    rw[Q];simp only[rowAt];rw[qV _ _ i9,qz,zE,zc,qP i7,zo,zQ,qU,qp];rfl
   rw[<-w];exact q
  ·have d:j=K:=i4
   subst d;have w:rowAt j=mu j b k:=by
    simp only[rowAt,mu];congr 1;apply zG;intro i;rw[wJ,q7,qT];by_cases c:i<b
    ·rw[zu c,qZ,we];by_cases g:i=k
     ·subst g;simp[c]
     ·rw[g0 i4,f9 i4,g0 g]
    ·rw[qQ (l:=qy b) i7,g0 i4,we,g0 i4];rfl
   rw[w]at n;have X:=n.freeze 3 i0 λ_=>rfl;have ab:ii ((bG j b).take k)=k:=by simp[bG];omega
   refine X.xV af 2 3 i5 i0 i0 fL i4 λS J q=>?_;refine⟨(S,k+1),jj,⟨i6,?_⟩,i6⟩;have e7:(bG j b).take (k+1)=(bG j b).take k++[mu j b k]:=by rw[aK _ _ (by simp[bG];omega)];simp[bG]
   dsimp only;rw[e7];exact q.del 3
 ·refine⟨s,i0,?_⟩;rw[f9 x,Z,N,ql,ql];rw[qi (by simp[bG];omega)]at m;exact m.take 2 (λi A c=>by cases i with|zero=>exact c|succ i=>simp at c)
theorem NQ(p:Pm)(h:f8):ac xB 176 #[kS p] h λv h'=>∃r:Sl,v=r/\Sp h h' [ak 3 r 1 av (upto (max 0 (min p.1 16)).toNat)]:=by
 refine LB p ?_;unfold DF;refine(Sp.refl h).boxed λa q c=>?_;refine⟨p.1,(c.box 0 i0).cell0 i0,?_⟩;have em:(if(if(16:Int)<p.1 then(16:Int)else p.1)>(0:Int)then(if(16:Int)<p.1 then(16:Int)else p.1)else(0:Int))=((max 0 (min p.1 16)).toNat:Int):=by split<;>split<;>omega
 dsimp only;rw[em];generalize o:(max 0 (min p.1 16)).toNat=N;have f:N<=16:=i4
 refine aA (λt:Sl×Nat=>(t.1,(t.2:Int))) (λt h'=>t.2<=N/\Sp h h' [emp,ak 3 t.1 1 av (upto t.2)]) (λt=>N-t.2) (⟨eH,0,0⟩,0) i0 ⟨i9,(c.fZ 0 i0 λ_ _=>trivial).nil 3 1 av⟩ ?_;rintro⟨s,k⟩ n ⟨m,b⟩;dsimp only at*;refine ai (λe=>?_) (λe=>?_)
 ·refine b.push af 1 i0 gN i0 i5 (λ_=>rfl) fD (k:Int) i0 i5 rb λj h3 l=>?_;refine⟨(j,k+1),jj,⟨i6,?_⟩,i6⟩;have g:upto (k+1)=upto k++[(k:Int)]:=by simp[upto,zQ]
  dsimp only;rw[g];exact l
 ·have:k=N:=i4
  subst this;exact⟨s,i0,b.take 1 λi A d=>by cases i with|zero=>exact d|succ i=>simp at d⟩
theorem KH(p:Pm)(seed:Int)(f:Sl)(l:aC)(h:f8)(B:Rd h f 1 av l)(L:ii l<=2^30):ac xB 66 #[kS p,xq xz seed,f] h λv h'=>∃r:Sl,v=r/\Sp h h' [fS 34 r 1 aF (dR p seed l)]:=by
 refine JU p seed f ?_;unfold BZ;refine(Sp.refl h).boxed λa E z=>?_;refine⟨p,(z.box 0 i0).aU _ i0,(uM p E).mono ?_⟩;rintro v H ⟨r,rfl,I⟩;have x:=z.comp I;refine⟨r,i0,?_⟩;have y:=B.len;let at_:Nat->cL:=λk=>dR p seed (l.take k);have h0:(if bP p then bG p.1.toNat p.2.1.toNat else[])=at_ 0:=by simp[at_,dR]
 rw[h0]at x;refine aA (λt:Sl×Nat=>(t.1,(t.2:Int))) (λt h'=>t.2<=ii l/\Sp h h' [au a 24 [xq xx p.1,xq xx p.2.1,xq xx p.2.2],fS 34 t.1 1 aF (at_ t.2)]) (λt=>ii l-t.2) (r,0) i0 ⟨i9,x⟩ ?_;rintro⟨s,k⟩ h3 ⟨M,j⟩;dsimp only at*;refine ai (λe=>?_) (λe=>?_)
 ·have d:k<ii l:=i4
  refine(Seq.up B j.aj).bH k i0 d _ i0 ?_;refine⟨p,(j.box 0 i0).aU _ i0,(UA p seed l[k] h3).mono ?_⟩;rintro v N ⟨w,rfl,K,c⟩;have u:=(j.comp K).freeze 2 i0 λ_=>rfl;refine⟨w,i0,?_⟩;have o:ii (at_ k)<=4+k∨at_ k=[]:=by
   by_cases q:bP p
   ·left;have:=(cu p).1 q;have E:=qR bZ (l.take k);have H:=List.length_take_le k l;simp only[at_,dR,q,if_true,qx,qz,bG,zE];omega
   ·right;simp[at_,dR,q]
  have n:ii (at_ k)+1<=2^32:=by
   rcases o with h|h
   ·omega
   ·rw[h];simp
  dsimp only;refine bo (λg=>?_) (λg=>?_)
  ·rw[c]at g;have b:(bP p&&bZ l[k])=eL:=m4
   rw[b,f9 rfl]at u;refine u.xV af 1 2 i5 i0 i0 fL n λG O J=>?_;refine⟨(G,k+1),jj,⟨i6,?_⟩,i6⟩;rw[qB]at b;have m:at_ (k+1)=at_ k++[pf (bK p).toNat seed l[k]]:=by simp only[at_,dR,b.1,if_true];rw[ph d,f9 b.2,qU,qp];rfl
   dsimp only;rw[m];exact J.del 2
  ·rw[c]at g;have b:(bP p&&bZ l[k])=eR:=by
    cases hh:(bP p&&bZ l[k])with
    |false=>rfl
    |true=>rw[hh]at g;cases g
   refine⟨(s,k+1),jj,⟨i6,?_⟩,i6⟩;have m:at_ (k+1)=at_ k:=by
    simp only[at_,dR];rw[Bool.and_eq_false_iff]at b;rcases b with h|h
    ·simp[h]
    ·have F:(l.take (k+1)).filter bZ=(l.take k).filter bZ:=by rw[ph d,g0 sz]
     rw[F]
   dsimp only;rw[m];exact u.del 2
 ·refine⟨s,i0,?_⟩;have m:at_ k=dR p seed l:=by simp only[at_];rw[qi i4]
  rw[m]at j;exact j.take 1 (λi A D=>by cases i with|zero=>exact D|succ i=>simp at D)
theorem nF(a:Sl)(m:aP)(n:Nat)(h:f8)(b:fR h a 1 aF m)(j:bc n m)(o:n<=64:=by omega)(q:ii m<=2^30:=by omega):ac xB 200 #[a] h λv h'=>v=xv eL/\h'=h:=by
 refine Wq a ?_;unfold QG;have p:=b.len;refine aA (λk:Nat=>(k:Int)) (λk h'=>h'=h/\k<=ii m) (λk=>ii m-k) 0 i0 ⟨i0,i4⟩ ?_;rintro k h' ⟨rfl,l⟩;refine ai (λe=>?_) λe=>⟨i0,i0⟩;have c:k<ii m:=i4
 refine b.get k i0 c λr g=>?_;refine b.get 0 i0 i4 λs d=>?_;have i:=g.len;have f:=d.len;rw[j _ (qg _)]at i f;refine cb (λe=>i4) λ_=>ai (λe=>i4) λ_=>?_;exact⟨k+1,js,⟨i0,i4⟩,i4⟩
theorem AW(a:Sl)(m:aP)(n:Nat)(h:f8)(d:fR h a 1 aF m)(o:bc n m)(z:n<=64:=by omega)(F:ii m<=2^30:=by omega):ac xB 201 #[a] h λv h'=>∃(r:Sl) (rs:List Sl),v=r/\rs.length=ii m/\Sp h h' (ak 34 r 1 bw rs::bF 5 1 aF rs m):=by
 refine Wr a ?_;unfold QH;have A:=d.len;refine(Sp.refl h).make af bw fL i5 ⟨eH,0,0⟩ i0 i0 0 m.length i0 i4 i4 i4 λs E x D k=>?_;refine aA (λt:Sl×List Sl=>(t.1,(ii t.2:Int))) (λt h'=>ii t.2<=ii m/\Sp h h' (ak 34 t.1 1 bw t.2::bF 5 1 aF t.2 (m.take t.2.length))) (λt=>ii m-ii t.2) (s,[]) i0 ⟨i9,by simpa[bF]using k⟩ ?_;rintro⟨s,rs⟩ j ⟨y,c⟩;dsimp only at*;refine ai (λe=>?_) (λe=>?_)
 ·have b:ii rs<ii m:=i4
  refine(d.up c.aj).get rs.length i0 b λr l=>?_;have f:m[ii rs].length=n:=o _ (qg _);refine(fa r _ j l i4).mono ?_;rintro v h3 ⟨w,rfl,p⟩;have u:=c.comp p;refine⟨w,i0,?_⟩;refine u.push af 0 i0 fL i0 i5 (λ_=>rfl) kh w i0 i5 i4 λi B q=>?_;refine⟨(i,rs++[w]),by dsimp only;rw[al _];simp,⟨i7,?_⟩,i7⟩;dsimp only;rw[show(rs++[w]).length=ii rs+1 by simp,aK _ _ b,Ag (by rw[List.length_take];omega)];exact q
 ·have g:m.take rs.length=m:=qi i4;rw[g]at c;exact⟨s,rs,i0,i4,c⟩
theorem tk(a:Sl)(m:aP)(h:f8)(b:fR h a 1 aF m):ac xB 204 #[a] h λv h'=>v=xq xx (eJ m)/\h'=h:=by
 refine RU a ?_;unfold KA;have d:=b.len;refine cy (λe=>?_) (λe=>?_)
 ·have:m=[]:=za i4;subst this;exact⟨i0,i0⟩
 ·refine b.get 0 i0 i4 λr c=>⟨?_,i0⟩
  rw[c.len,eJ,bE i4]
theorem UB{r:Row}{c:Nat}(h:c<ii r:=by omega):aQ r c=r[c]:=by rw[aQ,qe,qd h];rfl
theorem WI(a:Sl)(m:aP)(n b bD:Nat)(h:f8)(q:fR h a 1 aF m)(w:bc n m)(y:bD<n)(z:ii m<=2^30):
  ac xB 249 #[a,xq xx b,xq xx bD] h λv h'=>v=xq xx (match jo m b bD with|some i=>(i:Int)|none=>-1)/\h'=h:=by
 refine PD a b bD ?_;unfold Im;have x:=q.len;refine aA (λk:Nat=>(k:Int)) (λk h'=>h'=h/\b<=k/\k<=max b m.length/\∀j,j<k->(decide (b<=j)&&(aQ (aE m j) bD !=0))=eR) (λk=>ii m-k) b i0 ⟨i0,i4,i4,λj g=>by rw[hU i4];rfl⟩ ?_;rintro k h' ⟨rfl,l,s,g⟩;refine ai (λe=>?_) (λe=>?_)
 ·rw[jo,YJ λj f=>g j i4];exact⟨i0,i0⟩
 ·have d:k<ii m:=i4
  have t:m[k].length=n:=w _ (qg _);refine q.get k i0 d λr u=>?_;refine u.bH bD i0 i4 _ i0 ?_;have c:aQ (aE m k) bD=m[k][bD]'(by omega):=by rw[bE d,UB]
  refine cb (λo=>?_) (λo=>?_)
  ·have p:(decide (b<=k)&&(aQ (aE m k) bD !=0))=eL:=by rw[g9 l,c];simp;exactλh0=>o (by rw[h0];rfl)
   rw[jo,YK d g p];exact⟨i0,i0⟩
  ·refine⟨k+1,js,⟨i0,i4,i4,λj f=>?_⟩,i4⟩;rcases Nat.lt_succ_iff_lt_or_eq.1 f with h1|rfl
   ·exact g j h1
   ·rw[c,CU.1 o];simp
theorem NR(f:eX)(c:UInt8)(a:Sl)(l:Row)(h:f8)(i:fM h f)(j:Rd h a 1 aF l)(z:ii l<=2^30):ac xB 250 #[xt (dB f),xq xy c.toNat,a] h λv h'=>∃r:Sl,v=r/\Sp h h' [ak 5 r 1 aF (scaleB c l)]:=by
 refine RW (dB f) _ a ?_;unfold KC;have w:=j.len;refine(RZ f h).mono ?_;rintro v m ⟨rfl,rfl⟩;refine⟨dB f,i0,?_⟩;refine(Sp.refl m).make af aF hJ i5 0 i0 i0 l.length l.length i4 i4 (qm _) i4 λs u q y n=>?_;refine aA (λk:Nat=>(k:Int)) (λk h'=>k<=ii l/\Sp m h' [ak 5 s 1 aF ((l.take k).map (Gf.mul c)++qh (ii l-k) 0)]) (λk=>ii l-k) 0 i0 ⟨i4,l9⟩ ?_;rintro k h3 ⟨t,d⟩;refine ai (λe=>?_) (λe=>?_)
 ·have b:k<ii l:=i4
  refine(Seq.up j d.aj).bH k i0 b _ i0 ?_;refine(LQ f c l[k] h3 (i.aj d.aj i.lt)).mono ?_;rintro v x ⟨rfl,rfl⟩;refine⟨_,i0,?_⟩;refine d.set af 0 i0 (λ_=>rfl) i0 k i0 i7 _ i0 i0 i0 λA p=>?_;refine⟨k+1,js,⟨i4,?_⟩,i4⟩;have g:ii ((l.take k).map (Gf.mul c))=k:=i7
  have o:((l.take k).map (Gf.mul c)++qh (ii l-k) 0).set k (Gf.mul c l[k])=(l.take (k+1)).map (Gf.mul c)++qh (ii l-(k+1)) 0:=by rw[qV _ _ i4,g,zc,show l.length-k=ii l-(k+1)+1 by omega,List.replicate_succ,zo,aK _ _ b,qU,qp];rfl
  rw[<-o];exact p
 ·have:k=ii l:=i4
  subst this;refine⟨s,i0,?_⟩;rw[qi (qm _),zc,List.replicate_zero,qO]at d;exact d
theorem AX{c:UInt8}{a t:Row}(d:ii a=ii t){k:Nat}(b:k<ii t):(zi (λx y=>y^^^Gf.mul c x) (a.take k) (t.take k)++t.drop k).set k (t[k]^^^Gf.mul c (a[k]'(by omega)))=zi (λx y=>y^^^Gf.mul c x) (a.take (k+1)) (t.take (k+1))++t.drop (k+1):=by
 have e:ii (zi (λx y=>y^^^Gf.mul c x) (a.take k) (t.take k))=k:=i7
 rw[qV _ _ i4,e,zc,qP b,zo,aK _ _ b,aK _ _ (show k<ii a by omega),yE i7];simp
theorem aeR(f:eX)(c:UInt8)(a g:Sl)(d lt:Row)(h:f8)(D:fM h f)(u:¬g.on f.block)(A:Seq h (λb=>¬g.on b) a 1 aF d)(w:Own h 5 g 1 aF lt)(q:ii d=ii lt)(K:ii d<=2^30):
  ac xB 252 #[xt (dB f),xq xy c.toNat,a,g] h λv h'=>v=.tuple #[]/\Own h' 5 g 1 aF (cX c d lt)/\be (λb=>¬g.on b) h h':=by
 refine Wt (dB f) _ a g ?_;unfold QJ;have J:=A.len;have E:=w.len;refine cy (λe=>?_) (λ_=>?_)
 ·have G:c=0:=CU.1 e;subst G;have:cX 0 d lt=lt:=by apply List.ext_getElem (by rw[ca q]);intro i B F;simp[cX,Gf.zero_mul]
  exact⟨i0,by rw[this];exact w,be.refl _ _⟩
 ·refine aA (λk:Nat=>(k:Int)) (λk h'=>k<=ii d/\Own h' 5 g 1 aF (zi (λx y=>y^^^Gf.mul c x) (d.take k) (lt.take k)++lt.drop k)/\be (λb=>¬g.on b) h h') (λk=>ii d-k) 0 i0 ⟨i4,by simpa using w,be.refl _ _⟩ ?_;rintro k B ⟨I,l,j⟩;refine ai (λe=>?_) (λe=>?_)
  ·have s:k<ii d:=i4
   have r:k<ii lt:=i4
   have m:ii (zi (λx y=>y^^^Gf.mul c x) (d.take k) (lt.take k))=k:=i7
   have H:ii (zi (λx y=>y^^^Gf.mul c x) (d.take k) (lt.take k)++lt.drop k)=ii lt:=by rw[qx,m,List.length_drop];omega
   refine(A.aj j).bH k i0 s _ i0 ?_;have n:(zi (λx y=>y^^^Gf.mul c x) (d.take k) (lt.take k)++lt.drop k)[k]'(by omega)=lt[k]:=by rw[List.getElem_append_right i4];simp[m]
   refine(l.seq (p:=λ_=>True) (λ_=>rfl) λ_ _=>trivial).Sx k i0 i4 _ i0 λax o=>?_;rw[n]at o⊢;refine(LQ f c d[k] B (D.aj j u)).mono ?_;rintro v F ⟨rfl,rfl⟩;refine⟨_,i0,⟨o,trivial⟩,?_⟩;dsimp only;rw[nE];refine l.set af (λ_=>rfl) i0 k i0 i4 _ i0 i0 i0 λh3 z t _=>⟨trivial,?_⟩
   refine⟨k+1,js,⟨i4,?_,j.trans t⟩,i4⟩;rw[<-AX q r];exact z
  ·have:k=ii d:=i4
   subst this;rw[qi (qm _),qi i4,zg i4,qO]at l;exact⟨i0,l,j⟩
abbrev ow(a:Sl)(rs:List Sl)(m:aP):List HP:=ak 34 a 1 bw rs::bF 5 1 aF rs m
theorem pU{a:Sl}{rs:List Sl}{m:aP}(c:ii rs=ii m)(i:Nat)(b:i<ii m):(ow a rs m)[i+1]?=dB (ak 5 (rs[i]'(by omega)) 1 aF m[i]):=by rw[qw];exact fX c i b
theorem pV{h h':f8}{a:eX}{v:Value}(c:cellOf h a=dB v)(d:be (λb=>b<h.size) h h'):cellOf h' a=dB v:=d.cell (vM c) c
theorem ace{B:aD}{J:f8}{f:eX}(L:fM J f)(I:B f.block){a:Sl}{n c bD:Nat}{rs:List Sl}{m:aP}(X:ii rs=ii m)(hm:bc n m)(hc:bD<n)(hn:n<=64)(ht:c<ii m)(hs:ii m<=2^30)
  {h:f8} (H:aa B J h (ow a rs m)) {K:f8->Prop} (hk:∀h',aa B J h' (ow a rs (fj c bD m m.length))->K h'):
 aL (σ:=Int) (λd V i=>
 Br (decide (d<((a.len:Nat):Int)))
 (Br (d !=(c:Int))
 (∃u:eX,(a.ptr=dB u/\0<=d/\d<((a.len:Nat):Int))/\
 ∃g:Sl,cellOf i (u.add (d.toNat*1))=dB (xr g.ptr g.len g.cap)/\
 ∃E:eX,(g.ptr=dB E/\0<=(bD:Int)/\(bD:Int)<((g.len:Nat):Int))/\
 ∃y:Int,cellOf i (E.add ((bD:Int).toNat*1))=dB (xq xy y)/\
 ∃a25:eX,(a.ptr=dB a25/\0<=(c:Int)/\(c:Int)<((a.len:Nat):Int))/\
 ∃j:Sl,cellOf i (a25.add ((c:Int).toNat*1))=dB (xr j.ptr j.len j.cap)/\
 ∃z:eX,(a.ptr=dB z/\0<=d/\d<((a.len:Nat):Int))/\
 ∃l:Sl,cellOf i (z.add (d.toNat*1))=dB (xr l.ptr l.len l.cap)/\
 ae xB 252 #[(xt (dB f)),(xq xy y),(xr j.ptr j.len j.cap),(xr l.ptr l.len l.cap)] (.many []) i λ_ G=>
 (az.ok [(u.add (d.toNat*1),(xr g.ptr g.len g.cap))] G)/\
 V (qc xx (d+(1:Int))) G)
 (V (qc xx (d+(1:Int))) i))
 (K i)) (0:Int) h:=by
 have ab:a.len=ii m:=by rw[(H.own 0 i0).len,X]
 refine aA (λk:Nat=>(k:Int)) (λk h'=>k<=ii m/\aa B J h' (ow a rs (fj c bD m k))) (λk=>ii m-k) 0 i0 ⟨i4,by rw[aaT];exact H⟩ ?_;rintro k Z ⟨ad,o⟩;have N:=pj c bD m k;have r:ii rs=ii (fj c bD m k):=by rw[N];exact X
 refine ai (λe=>?_) (λe=>?_)
 ·have t:k<ii m:=i4
  refine cb (λW=>?_) (λW=>?_)
  ·have s:k≠c:=λhh=>W (by rw[hh]);have R:aE (fj c bD m k) k=aE m k:=by rw[sV t,g0 i4]
   have M:aE (fj c bD m k) c=aE m c:=by rw[sV ht,g0 i4]
   have e4:(fj c bD m k)[k]'(by omega)=aE m k:=by rw[<-R,bE]
   have e5:(fj c bD m k)[c]'(by omega)=aE m c:=by rw[<-M,bE]
   have w:=pU (a:=a) r k i4;have Y:=pU (a:=a) r c i4;rw[e4]at w;rw[e5]at Y;have lk:=cB hm t;have lt:=cB hm ht;have q:=o.off (k+1) 0 i4 w i0;have x:=q.1.seq (λ_=>rfl) q.2;refine x.oq k i0 i4 λa1 P Q=>?_;have S:=o.seq (k+1) w λ_=>rfl;refine S.bH bD i0 i4 _ i0 ?_;refine x.oq c i0 i4 λ_ _ _=>?_;refine x.oq k i0 i4 λ_ _ _=>?_;have F:(uC (rs[c]'(by omega)) 1 aF (aE m c)).p Z (λb=>¬(rs[k]'(by omega)).on b):=by have:=o.off (k+1) (c+1) i4 w Y;exact(this.1.seq (λ_=>rfl) this.2).mono λb hb=>hb.2
   refine(aeR f _ _ _ (aE m c) (aE m k) Z (L.aj o.aj I) (o.base (k+1) w I) F (o.own (k+1) w) i4 i4).mono ?_;rintro v h2 ⟨rfl,T,A⟩;have U:=o.nP (k+1) w A T;have O:=A.cell Q.2 P;refine⟨(),i0,⟨O,trivial⟩,?_⟩;refine⟨k+1,js,⟨i4,?_⟩,i4⟩;rw[aaU t s];show aa B J h2 (ak 34 a 1 bw rs::bF 5 1 aF rs ((fj c bD m k).set k _));rw[<-Td r k i4];have D:(aE m k)[bD]'(by omega)=aQ (aE m k) bD:=(UB).symm;rw[D]at U;exact U
  ·have s:k=c:=i4
   subst s;exact⟨k+1,js,⟨i4,by rw[aaV];exact o⟩,i4⟩
 ·have:k=ii m:=i4
  subst this;exact hk _ o
theorem UC{rs:List Sl}{m:aP}(a:ii rs=ii m)(i j:Nat)(c:i<ii m)(b:j<ii m):
  ((bF 5 1 aF rs m).set i (ak 5 (rs[j]'(by omega)) 1 aF m[j])).set j (ak 5 (rs[i]'(by omega)) 1 aF m[i])=bF 5 1 aF ((rs.set i (rs[j]'(by omega))).set j (rs[i]'(by omega))) (jD m i j):=by
 rw[lj a,lj j8,jD,bE c,bE b]
theorem CV{B:aD}{w:f8}{f:eX}(L:fM w f)(N:B f.block){a:Sl}{n cY:Nat}{rs:List Sl}{m:aP}(hl:ii rs=ii m)(hm:bc n m)(hc:cY<=n)(hn:n<=64)(hs:ii m<=2^30)
  {h:f8} (H:aa B w h (ow a rs m)):ac xB 202 #[xt (dB f),a,xq xx cY] h λv h'=>
   ∃S:List Sl,v=xq xx (bL m cY).1/\S.length=ii m/\aa B w h' (ow a S (bL m cY).2):=by
 have ap:a.len=ii m:=by rw[(H.own 0 i0).len,hl]
 refine PA (dB f) a cY ?_;unfold Ih;refine aA (λt:List Sl×Nat=>(((bL m t.2).1:Int),(t.2:Int))) (λt h'=>t.2<=cY/\t.1.length=ii m/\aa B w h' (ow a t.1 (bL m t.2).2)) (λt=>cY-t.2) (rs,0) i0 ⟨i9,hl,H⟩ ?_;rintro⟨c,bD⟩ h1 ⟨hk,U,I⟩;dsimp only at*;have s:=hO hm bD;have F:=Eu m bD;obtain⟨st,x⟩:∃st,st=bL m bD:=⟨_,rfl⟩
 rw[<-x]at s F I⊢;obtain⟨b,l⟩:=st;dsimp only at s F I⊢;have y:ii c=ii l:=i4
 have d:bL m (bD+1)=jE (b,l) bD:=by rw[bL,<-x]
 refine ai (λe=>?_) (λe=>?_)
 ·have M:bD<n:=i4
  have R:fR h1 a 1 aF l:=I.Te y λ_=>rfl;refine(WI a l n b bD h1 R s.1 M i4).mono ?_;rintro v h2 ⟨rfl,rfl⟩;refine⟨_,i0,?_⟩;dsimp only;cases hb:jo l b bD with
  |none=>
   refine ai (λ_=>?_) λZ=>absurd i5 Z;refine⟨(c,bD+1),?_,⟨i6,U,?_⟩,i6⟩
   ·dsimp only;rw[d,jE,hb,al _];rfl
   ·dsimp only;rw[d,jE,hb];exact I
  |some i=>
   have hh:=tI hb;refine ai (λZ=>absurd (show((i:Nat):Int)<0 from Z) i4) λ_=>?_;dsimp only;have J:b<ii l:=i4
   have hi:=hh.2.1;have P:=I.seq 0 i0 λ_=>rfl;refine bj ?_;refine P.oq i i0 i4 λ_ _ _=>?_;refine P.oq b i0 i4 λ_ _ _=>?_;refine I.set af 0 i0 (λ_=>rfl) i0 b i0 i4 (c[i]'(by omega)) i0 i0 i0 λh3 H3=>⟨trivial,?_⟩
   refine H3.set af 0 i0 (λ_=>rfl) i0 i i0 i7 (c[b]'(by omega)) i0 i0 i0 λW H4=>⟨trivial,?_⟩
   have o:aa B w W (ow a ((c.set b (c[i]'(by omega))).set i (c[b]'(by omega))) (jD l b i)):=by have:=H4.afZ (b+1) (i+1) (A:=ak 5 (c[b]'(by omega)) 1 aF l[b]) (A2:=ak 5 (c[i]'(by omega)) 1 aF l[i]) (fX y b J) (fX y i hi);show aa B w W (ak 34 a 1 bw _::bF 5 1 aF _ _);rw[<-UC y b i J hi];exact this
   obtain⟨j,D⟩:∃j,j=(c.set b (c[i]'(by omega))).set i (c[b]'(by omega)):=⟨_,rfl⟩
   rw[<-D]at o;have am:ii j=ii l:=by rw[D];simp;omega
   obtain⟨g,u⟩:∃g,g=jD l b i:=⟨_,rfl⟩
   have G:bc n g:=by rw[u];exact Hj s.1 J hi
   have V:ii g=ii l:=by rw[u];exact md _ _ _
   rw[<-u]at o;have q:ii j=ii g:=i4
   have k:b<ii g:=i4
   refine bj ?_;have gt:=pU (a:=a) q b k;have lt:g[b].length=n:=G _ (qg _);have O:=o.seq 0 i0 λ_=>rfl;refine O.oq b i0 i4 λao z _=>?_;have E:=o.seq (b+1) gt λ_=>rfl;refine E.bH bD i0 i4 _ i0 ?_;refine O.oq b i0 i4 λah Q _=>?_;have T:fM W f:=L.aj o.aj N;refine(aeO f _ W T).mono ?_;rintro v h5 ⟨rfl,rfl⟩;refine⟨_,i0,⟨Q,z,trivial⟩,?_⟩;refine(NR f _ _ _ h5 T E i4).mono ?_;rintro v h6 ⟨r,rfl,R6⟩;refine⟨r,i0,⟨pV z R6.aj,trivial⟩,?_⟩;have H6:=o.comp R6;dsimp only;refine H6.set af 0 i0 (λ_=>rfl) i0 b i0 i4 r i0 i0 i0 λY H7=>⟨trivial,?_⟩
   have ad:g[b]=aE g b:=(bE k).symm;have ab:(g[b])[bD]'(by omega)=aQ (aE g b) bD:=by rw[UB (by rw[bE k];omega)];simp only[bE k]
   have X:aa B w Y (ow a (j.set b r) (ku b bD g)):=by have h8:aa B w Y ((ak 34 a 1 bw (j.set b r)::bF 5 1 aF j g)++[ak 5 r 1 aF (scaleB (Gf.inv ((g[b])[bD]'(by omega))) g[b])]):=H7;have h9:=h8.aig (b+1) (by simp[mO q];omega);rw[ab,ad]at h9;show aa B w Y (ak 34 a 1 bw _::bF 5 1 aF _ (g.set b _));rw[<-lj q];exact h9
   have K:ii (ku b bD g)=ii g:=pi _ _ _;refine ace L N i7 (BJ G k) M hn i4 i4 X λh8 H8=>?_;have p:jE (b,l) bD=(b+1,fj b bD (ku b bD g) l.length):=by rw[jE];dsimp only;rw[hb,u]
   refine⟨(j.set b r,bD+1),?_,⟨i6,i7,?_⟩,i6⟩
   ·dsimp only;rw[d,p,al _,al _];rfl
   ·dsimp only;rw[d,p];rw[K,V]at H8;exact H8
 ·have:bD=cY:=i4
  subst this;exact⟨c,by rw[<-x],U,by rw[<-x];exact I⟩
theorem KI(f:eX)(a:Sl)(m:aP)(n:Nat)(h:f8)(s:fM h f)(u:fR h a 1 aF m)(i:bc n m)(o:n<=64)(q:ii m<=2^30):
  ac xB 131 #[xt (dB f),a] h λv h'=>∃(r:Sl) (rs:List Sl),v=r/\r.len=ce m/\rs.length=ii m/\r.len<=ii m/\Sp h h' (ow ⟨r.ptr,ii m,r.cap⟩ rs (bL m (eJ m)).2):=by
 refine Ps (dB f) a ?_;unfold HU;refine(nF a m n h u i o q).mono ?_;rintro v D ⟨rfl,rfl⟩;refine⟨_,i0,bo (λe=>j0) λ_=>?_⟩;refine(AW a m n D u i o q).mono ?_;rintro v A ⟨r,rs,rfl,y,w⟩;refine⟨r,i0,(uL f A).mono ?_⟩;rintro v h3 ⟨rfl,rfl⟩;refine⟨dB f,i0,(tk r m h3 (w.Te y λ_=>rfl)).mono ?_⟩;rintro v E ⟨rfl,rfl⟩;have B:eJ m<=n:=by
  cases m with
  |nil=>simp[eJ,aE]
  |cons x t=>rw[eJ,bE i9];exact xd (i _ i9)
 refine⟨_,i0,(CV s s.lt y i B o q w).mono ?_⟩;rintro v F ⟨k,rfl,g,j⟩;have d:=Eu m (eJ m);rw[(hO i _).2]at d;have z:=(j.own 0 i0).cap;have b:=(j.own 0 i0).len;refine⟨_,i0,⟨z7 _,y0.2 (show(bL m (eJ m)).1<=r.cap by omega)⟩,⟨r.ptr,(bL m (eJ m)).1,r.cap⟩,k,i9,i0,g,d,?_⟩;have:r=⟨r.ptr,ii m,r.cap⟩:=by obtain⟨p,l,c⟩:=r;simp only at b⊢;rw[<-g,<-b]
 rw[<-this];exact j
theorem acf(f:eX)(a:Sl)(m:aP)(n:Nat)(h:f8)(b:fM h f)(c:fR h a 1 aF m)(j:bc n m)(d:n<=64)(g:ii m<=2^30):
  ac xB 64 #[xt (dB f),a] h λv h'=>v=xq xx (ce m)/\Sp h h' []:=by
 refine TV (dB f) a ?_;unfold MT;refine(KI f a m n h b c j d g).mono ?_;rintro v k ⟨r,rs,rfl,e,_,_,i⟩;exact⟨r,i0,by rw[e],.zip i.aj⟩
theorem LR(p:Pm)(seed:Int)(b:Sl)(l:aC)(h:f8)(m:Rd h b 1 av l)(s:ii l<=2^29):ac xB 20 #[kS p,xq xz seed,b] h λv h'=>v=xq xx (oW p seed l)/\Sp h h' []:=by
 refine MM p seed b ?_;unfold FS;refine(Sp.refl h).boxed λa t i=>?_;refine⟨p,(i.box 0 i0).aU _ i0,(sa t).mono ?_⟩;rintro v j ⟨f,rfl,k⟩;have c:=i.comp k;have d:=c.box 0 i0;refine⟨dB f,i0,⟨d.cell0 i0,d.cell i0,d.cell i0,trivial⟩,?_⟩;refine(KH p seed b l j (Seq.up m c.aj) i4).mono ?_;rintro v h3 ⟨r,rfl,o⟩;have g:=c.comp o;refine⟨r,i0,trivial,?_⟩;have n:=aem p seed l;have e:(bK p).toNat<=64:=by
  unfold bK;split
  ·rename_i u;have:=(cu p).1 u;omega
  ·omega
 refine(acf f r _ _ h3 (g.box 1 i0) (g.GX 2 i0) (jP p seed l) e i4).mono ?_;rintro v w ⟨rfl,q⟩;exact⟨_,i0,trivial,i0,.zip (g.comp q).aj⟩
theorem QV(p:Pm)(seed:Int)(b:Sl)(l:aC)(h:f8)(n:Rd h b 1 av l)(f:ii l<=2^29):ac xB 158 #[kS p,xq xz seed,b] h λv h'=>v=xv (gC p seed l)/\Sp h h' []:=by refine Nn p seed b ?_;unfold Gh;refine(Sp.refl h).boxed λa r g=>?_;refine⟨p,(g.box 0 i0).aU _ i0,(eN p r).mono ?_⟩;rintro v k ⟨rfl,m⟩;have d:=g.comp m;refine⟨_,i0,trivial,bC (λe=>?_) λe=>⟨trivial,trivial,by rw[gC,e];rfl,.zip d.aj⟩⟩;have i:=d.box 0 i0;refine⟨p,i.aU _ i0,p,i.aU _ i0,(LR p seed b l k (Seq.up n d.aj) f).mono ?_⟩;rintro v h3 ⟨rfl,o⟩;have j:=d.comp o;have c:=j.box 0 i0;refine⟨_,i0,⟨c.cell0 i0,c.cell i0,c.cell i0,trivial⟩,(kI p h3).mono ?_⟩;rintro v s ⟨rfl,q⟩;exact⟨_,i0,trivial,by rw[gC,e];rfl,.zip (j.comp q).aj⟩
theorem NS(p:Pm)(seed:Int)(h:f8):ac xB 174 #[kS p,xq xz seed] h λv h'=>v=xv (gC p seed (fV p))/\Sp h h' []:=by refine LA p seed ?_;unfold DE;refine(Sp.refl h).boxed λa j d=>?_;have e:=d.box 0 i0;refine⟨p,e.aU _ i0,p,e.aU _ i0,(NQ p j).mono ?_⟩;rintro v f ⟨r,rfl,g⟩;have c:=d.comp g;have b:=c.box 0 i0;refine⟨r,i0,⟨b.cell0 i0,b.cell i0,b.cell i0,trivial⟩,(QV p seed r _ f (c.seq 1 i0 λ_=>rfl) rb).mono ?_⟩;rintro v h3 ⟨rfl,i⟩;exact⟨_,i0,trivial,i0,.zip (c.comp i).aj⟩
theorem aeS(p:Pm)(o b:Int)(h:f8):ac xB 105 #[kS p,xq xx o,xq xx b] h λv h'=>
  v=.tuple #[xq xx (((rY p o b).getD 0:Nat):Int),xv (rY p o b).isSome]/\Sp h h' []:=by
 refine RN p o b ?_;unfold Kt;refine(Sp.refl h).boxed λu B q=>?_;have q:Sp h B [au u 24 [xq xx p.1,xq xx p.2.1,xq xx p.2.2]]:=q;refine aA (λi:Nat=>(i:Int)) (λi h'=>i<=16/\(∀k,k<i->NO p o b k=eR)/\Sp h h' [au u 24 [xq xx p.1,xq xx p.2.1,xq xx p.2.2]]) (λi=>16-i) 0 i0 ⟨i4,λk f=>absurd f (Nat.not_lt_zero k),q⟩ ?_;rintro i z ⟨E,c,l⟩;refine ai (λe=>?_) λe=>?_
 ·have y:i<16:=i4
  have a:=l.box 0 i0;refine⟨p,a.aU _ i0,(rV _ _ _ z).mono ?_⟩;rintro _ h3 ⟨rfl,rfl⟩;refine⟨_,i0,⟨a.cell0 i0,a.cell i0,a.cell i0,trivial⟩,(NS p _ h3).mono ?_⟩;rintro _ D ⟨rfl,A⟩;have w:=l.up A.aj;refine⟨_,i0,trivial,bC (λg=>?_) λg=>?_⟩
  ·have s:rY p o b=dB i:=by
    unfold rY;refine List.find?_eq_some_iff_append.2 ⟨g,qy i,(qy (15-i)).map (·+(i+1)),?_,λk f=>?_⟩
    ·apply zG;intro j;by_cases t:j<i
     ·rw[qo (by simpa using t),zu i4,zu t]
     ·rw[qj i7,zE];by_cases m:j=i
      ·subst m;rw[zc,zu i4];rfl
      ·obtain⟨d,x⟩:∃d,j=i+(d+1):=⟨j-i-1,i4⟩
       subst x;rw[zp,qw,qT];by_cases r:d<15-i
       ·rw[zu r,zu i4];simp;omega
       ·rw[qQ i7,qQ i7];rfl
    ·rw[c k (qJ.1 f)];rfl
   rw[s];exact⟨i0,.zip w.aj⟩
  ·refine⟨i+1,js,⟨i4,λk f=>?_,w⟩,i4⟩;by_cases n:k<i
   ·exact c k n
   ·have:k=i:=i4
    subst this;exact g
 ·have s:rY p o b=eH:=by unfold rY;rw[List.find?_eq_none];intro k f;rw[c k (by have:=qJ.1 f;omega)];simp
  rw[s];exact⟨i0,.zip l.aj⟩
theorem Zu(p:Pm)(o:Int)(n:Nat)(h:f8)(G:n<=2^30):ac xB 47 #[kS p,xq xx o,xq xx n] h λv h'=>
  (di p o n=eH->v=.tuple #[xr eH 0 0,xv eR]/\Sp h h' [])/\
  (∀l,di p o n=dB l->∃r:Sl,v=.tuple #[r,xv eL]/\Sp h h' [ak 3 r 1 av l]):=by
 refine MP p o n ?_;unfold FU;refine(Sp.refl h).boxed λq D f=>?_;have f:Sp h D [ak 3 ⟨eH,0,0⟩ 1 av [],au q 24 [xq xx p.1,xq xx p.2.1,xq xx p.2.2]]:=(f.nil 3 1 av).cG [1,0];refine aA (λt:Sl×Nat×aC=>(t.1,(t.2.1:Int))) (λt h'=>t.2.1<=n/\di p o t.2.1=dB t.2.2/\Sp h h' [ak 3 t.1 1 av t.2.2,au q 24 [xq xx p.1,xq xx p.2.1,xq xx p.2.2]]) (λt=>n-t.2.1) (⟨eH,0,0⟩,0,[]) i0 ⟨i9,i0,f⟩ ?_;rintro⟨s,i,l⟩ z ⟨H,c,d⟩;dsimp only at*;have E:=kV c;have b:∀j,rY p o i=eH->j<=n-(i+1)->di p o (i+1+j)=eH:=λj m=>by
  induction j with
  |zero=>intro _;show di p o (i+1)=eH;unfold di;rw[c,m];rfl
  |succ j ih=>intro F;show di p o ((i+1+j)+1)=eH;unfold di;rw[ih i4];rfl
 refine ai (λe=>?_) λe=>?_
 ·have x:i<n:=i4
  refine⟨p,(d.box 1 i0).aU _ i0,(aeS p o i z).mono ?_⟩;rintro _ h3 ⟨rfl,B⟩;have w:=d.up B.aj;refine⟨(_,_),i0,bo (λg=>?_) λg=>?_⟩
  ·have a:di p o n=eH:=by have:=b (n-(i+1)) (Option.isSome_eq_false_iff.1 g|>Option.isNone_iff_eq_none.1) (qm _);rw[show i+1+(n-(i+1))=n by omega]at this;exact this
   rw[a];exact⟨λ_=>⟨i0,.zip w.aj⟩,λl h=>j6⟩
  ·obtain⟨t,u⟩:∃t,rY p o i=dB t:=Option.isSome_iff_exists.1 g;rw[u];refine w.push af 0 i0 gN i0 i5 (λ_=>rfl) fD (t:Int) i0 i5 i4 λy I A=>?_;refine⟨(y,i+1,l++[(t:Int)]),jj,⟨i6,?_,A⟩,i6⟩;show di p o (i+1)=_;unfold di;rw[c,u];rfl
 ·have k:i=n:=i4
  subst k;rw[c];exact⟨λh=>j6,λl' h=>(by injection h with h;subst h;exact⟨s,i0,d.cG [0]⟩)⟩
end Go.Qw
namespace Wl
open Go
def oO(m:aG)(l:cL):cL:=(eZ m l).map dG
def ck(m:aG)(l:cL):cL:=bu m++oO m l
def iV(d:bt)(a:Nat)(n:Int):Bool:=decide (max n 0<=(d.room:Int)-a)
def iu(m:aG)(d:bt)(n:Int):Bool:=!d.lost&&(iV d d.l.length n||iV d (ck m d.l).length n)
def ge(m:aG)(w:Pow)(d:bt)(n:Int):Int×Pow×bt:=
 if d.lost then(5,w,d)else if !iu m d n then(7,w,d)else if iV d d.l.length n then(0,w,d)else d.rewrite w (ck m d.l)
theorem aeT(l:List dm):ii (rk l)<=ii l:=by unfold rk;rw[qz];exact zf (qR _ _) i9
theorem Cj(m:aG)(l:cL):ii (eZ m l)<=ii l:=by unfold eZ;refine zf (aeT _) ?_;rw[wW];exact List.length_filterMap_le _ _
theorem xO(m:aG)(l:cL):ii (oO m l)<=ii l:=by unfold oO;rw[qz];exact Cj m l
end Wl
namespace Go.Qw
open Go Go.Vc Go.Proofs Wl
section
variable {B:aD} {h0 h:f8} {As:List HP} {a pw:eX} {d:bt} {w:Pow}
theorem gE.rewrite{l:cL}(h:gE d):gE (d.rewrite w l).2.2:=by
 unfold bt.rewrite;split
 ·exact h
 ·rename_i b;split
  ·exact h
  ·split
   ·exact h
   ·rename_i e;have a:∀c∈l,ii c=64:=j7
    split
    ·exact h
    ·split
     ·exact⟨zt _,i6,h.room,a,zt _,i9⟩
     ·exact⟨h.wait,h.len,h.room,h.cell,i6,a⟩
theorem IE(x:Sl)(l:cL)(H:aa B h0 h (ji pw a d::dn 92 pw w::As))(O:St B h0 As λh=>fR h x 1 aF l)(M:ii l<=2^20)(q:∀c∈l,ii c<=2^20):
  ac xB 125 #[xt (dB a),x] h λv h'=>v=xq xx (d.rewrite w l).1/\aa B h0 h' (ji pw a (d.rewrite w l).2.2::dn 92 pw (d.rewrite w l).2.1::As):=by
 refine Bo (dB a) x ?_;unfold pH;have N:=O.at [_,_] H;have U:=N.len;have o:=gE.rewrite (w:=w) (l:=l) (And.left (id H).rS);have j:∀(e:Int),d.rewrite w l=(e,w,d)->(Value.int .i64 e=xq xx (d.rewrite w l).1/\aa B h0 h (ji pw a (d.rewrite w l).2.2::dn 92 pw (d.rewrite w l).2.1::As)):=λe Z=>by
  rw[Z];exact⟨i0,H⟩
 refine aA (λi:Nat=>(i:Int)) (λi h'=>i<=ii l/\(∀c∈l.take i,ii c=64)/\h'=h) (λi=>ii l-i) 0 i0 ⟨i4,i9,i0⟩ ?_;rintro i h1 ⟨hi,f,rfl⟩;refine ai (λe=>?_) λe=>?_
 ·have n:i<ii l:=i4
  refine N.get i i0 n λr Y=>?_;have V:=Y.len;refine cb (λX=>j 1 ?_) λX=>?_
  ·unfold bt.rewrite;rw[f9];rw[wU,yA];exact⟨l[i],qg n,i7⟩
  ·refine⟨i+1,js,⟨i4,λc k=>?_,i0⟩,i4⟩;rw[aK _ _ n]at k;rcases qA.1 k with k|k
   ·exact f c k
   ·rw[qC.1 k];omega
 have f:∀c∈l,ii c=64:=by rw[qi i4]at f;exact f
 have p:(!l.all λb=>decide (ii b=64))=eR:=by rw[Bool.not_eq_false',q9];exactλc k=>g9 (f c k)
 have z:d.rewrite w l=(if d.lost then(5,w,d)else if d.room<ii l then(7,w,d)else if w.off then(14,w,d)else if w.step.1 then(0,w.step.2,{d with l:=l,wait:=0,laid:=[],has:=eR})else(14,w.step.2,{d with laid:=l,has:=eL})):=by unfold bt.rewrite;rw[p];rfl
 obtain⟨ok,s,b,I⟩:=H.rS;have A:=I.box 0 i0;refine bj (bj (bC (λe=>j0) λ_=>⟨a,i0,d.lost,A.cell i0,bC (λe=>j 5 (by rw[z,f9 e])) λg=>?_⟩));refine⟨a,i0,(d.room:Int),A.cell i0,ai (λe=>j 7 (by rw[z,g0 o5,f9 i4])) λG=>?_⟩;obtain⟨R,S,E⟩:=(I.aX 4 [3,0,1,2]).DS;refine⟨a,i0,dB pw,A.cell0 i0,(JH R (E.box 0 i0)).mono ?_⟩;rintro _ h2 ⟨rfl,rfl⟩;refine⟨_,i0,bo (λe=>j 14 ?_) λu=>?_⟩
 ·rw[z,g0 o5,g0 i4,f9 mn]
 have m:w.off=eR:=by simpa using u
 have y:d.rewrite w l=(if w.step.1 then(0,w.step.2,{d with l:=l,wait:=0,laid:=[],has:=eR})else(14,w.step.2,{d with laid:=l,has:=eL})):=by rw[z,g0 o5,g0 i4,g0 (by simp[m])]
 refine⟨a,i0,dB pw,A.cell0 i0,(It (I.aX 4 [3,0,1,2])).mono ?_⟩;rintro _ P ⟨rfl,J⟩;have t:=O.at [_,_,_,_] J;refine⟨_,i0,bo (λe=>?_) λe=>?_⟩
 ·rw[y,g0 n5]at o⊢;refine(LK x l P t M q).mono ?_;rintro _ W ⟨r,rfl,L⟩;have D:=(J.co L).aX 5 [2,3,0,1];refine⟨r,i0,a,i0,D.store af 0 i0 i0 4 [r] i0 i0 i0 ln λQ F=>?_⟩;refine⟨a,i0,F.store af 0 i0 i0 5 [xv eL] i0 i0 i0 ln λh8 K=>⟨i0,?_⟩⟩;exact aa.AT (s:=s) (b:=r) o K
 ·rw[y,f9 e]at o⊢;refine(LK x l P t M q).mono ?_;rintro _ W ⟨r,rfl,L⟩;have D:=(J.co L).aX 5 [2,0,4,1];refine⟨r,i0,a,i0,D.store af 0 i0 i0 2 [r] i0 i0 i0 ln λQ F=>?_⟩;refine⟨a,i0,F.store af 0 i0 i0 3 [xq xx 0] i0 i0 i0 ln λh8 K=>?_⟩;refine(Iv (d:={d with l:=l,wait:=0}) r b _ K ⟨zt _,i6,ok.room,f,ok.laid,ok.cellL⟩ i0).mono ?_;rintro _ h9 ⟨rfl,T⟩;exact⟨0,i0,i0,T⟩
theorem CW(s b:Sl)(c:Nat)(n:Int)(e:cx h a 156 (fo pw d s b))(f:d.room<=512)(g:c<=2^40:=by omega):ac xB 190 #[xt (dB a),xq xx c,xq xx n] h λv h'=>v=xv (iV d c n)/\h'=h:=by refine Nr (dB a) c n ?_;unfold Gl;refine(abI s b e).mono ?_;rintro _ _ ⟨rfl,rfl⟩;refine⟨_,i0,?_,i0⟩;rw[al ((d.room:Int)-c)];unfold iV;congr 1;rw[decide_eq_decide];split<;>omega
theorem Zv(s b:Sl)(x:bU)(m:aG)(D:cx h a 156 (fo pw d s b))(N:fR h s 1 aF d.l)(ok:gE d)(P:df h x m)(O:cS m):
  ac xB 192 #[xt (dB a),fw x] h λv h'=>∃r:Sl,v=r/\Sp h h' [eE r (oO m d.l)]:=by
 refine Py (dB a) x ?_;unfold Ie;have A:=ok.len;have w:=ok.room;refine(Sp.refl h).boxed λY R f=>?_;refine⟨x,(f.box 0 i0).aU _ i0,(IA a pw d s b x m R (D.aj f.aj D.lt) (N.up f.aj) ok (P.up f.aj) O).mono ?_⟩;rintro _ V ⟨r,c,rfl,K⟩;have n:=(f.co K).Cz 34 5 1 aF;refine⟨r,i0,?_⟩;have p:=Cj m d.l;obtain⟨L,B⟩:∃L,L=eZ m d.l:=⟨_,rfl⟩
 have y:(oO m d.l)=L.map dG:=by unfold oO;rw[B]
 rw[<-B]at n p;rw[y];have E:=n.eV 1 i0;have J:=E.2.1;have z:=E.1.len;refine aA (λt:Sl×Nat=>(t.1,(t.2:Int))) (λt h'=>t.2<=ii L/\Sp h h' [eE t.1 ((L.map dG).take t.2),cO fx 8 bT r c L]) (λt=>ii L-t.2) (⟨eH,0,0⟩,0) i0 ⟨i9,n.cG [0,1]⟩ ?_;rintro⟨o,i⟩ h3 ⟨X,k⟩;dsimp only at*;have M:=k.eV 1 i0;refine ai (λe=>?_) (λe=>?_)
 ·have q:i<ii L:=i4
  refine M.1.eu (g:=bT) i i0 i4 (c[i]'(by omega)) i0 ?_;refine k.alloc af i0 λI W T=>?_;refine T.storeAll af 2 i0 i0 (bT (c[i]'(by omega))) i0 i0 i0 i0 λF j=>?_;have j:Sp h F [eE o ((L.map dG).take i),cO fx 8 bT r c L,au I 170 (bT (c[i]'(by omega)))]:=j;refine⟨c[i]'(by omega),(j.box 2 i0).aU _ i0,(tQ _ L[i] F (Fix.row (j.eV 1 i0) q)).mono ?_⟩;rintro _ U ⟨u,rfl,S⟩;have G:=(j.co S).aX 3 [1,0,2];refine⟨u,i0,G.Jr af fL i7 λH h8 Q=>?_⟩;refine⟨(H,i+1),jj,⟨i6,?_⟩,i6⟩;dsimp only;rw[aK _ _ (show i<ii (L.map dG) by simp;omega),yb];exact Q.cG [0,1]
 ·rw[qi i7]at k;exact⟨o,i0,k.cG [0]⟩
end
section
variable {B:aD} {h0 h:f8} {As:List HP} {a pw:eX} {d:bt} {w:Pow}
theorem KJ{m:aG}{l:cL}{c:bf}(h:c∈oO m l):ii c<=64:=by
 unfold oO at h;obtain⟨r,_,rfl⟩:=qu.1 h;unfold dG;split
 ·rename_i a;refine xd (mQ i5 i5 ?_);have:=px a;omega
 ·simp
theorem IF(s b:Sl)(x:bU)(m:aG)(k:cx h a 156 (fo pw d s b))(w:fR h s 1 aF d.l)(ok:gE d)(n:df h x m)(i:cS m):
  ac xB 123 #[xt (dB a),fw x] h λv h'=>∃r:Sl,v=r/\Sp h h' [eE r (ck m d.l)]:=by
 refine RO (dB a) x ?_;unfold Ku;have j:=ok.len;have g:=ok.room;refine(Sp.refl h).boxed λy o e=>?_;have e:Sp h o [au y 44 (aV x)]:=e;refine⟨x,(e.box 0 i0).aU _ i0,x,(e.box 0 i0).aU _ i0,(nX x m o (n.up e.aj) i).mono ?_⟩;rintro _ E ⟨r,rfl,t⟩;have f:=e.co t;have c:=f.box 1 i0;refine⟨r,i0,⟨c.cell0 i0,c.cell i0,c.cell i0,c.cell i0,c.cell i0,c.cell i0,c.cell i0,c.cell i0,trivial⟩,(Zv s b x m (k.aj f.aj k.lt) (w.up f.aj) ok (n.up f.aj) i).mono ?_⟩;rintro _ h3 ⟨u,rfl,z⟩;have B:=(f.co z).aX 2 [1,0];have D:=jW m i;have p:=xO m d.l;refine⟨u,i0,trivial,B.ahf af fL ⟨_,_,i0,i0⟩ i4 λq F A=>?_⟩;exact⟨trivial,q,i0,A.cG [0]⟩
theorem IG(s b:Sl)(x:bU)(m:aG)(n:Int)(t:cx h a 156 (fo pw d s b))(z:fR h s 1 aF d.l)(o:s.len=ii d.l)(ok:gE d)(B:df h x m)(u:cS m):
  ac xB 118 #[xt (dB a),fw x,xq xx n] h λv h'=>v=xv (iu m d n)/\Sp h h' []:=by
 refine Gd (dB a) x n ?_;unfold CK;have p:=ok.len;have j:=ok.room;refine(Sp.refl h).boxed λA D f=>?_;have f:Sp h D [au A 44 (aV x)]:=f;have c:=t.aj f.aj t.lt;refine bj (bC (λe=>j0) λ_=>(Iw s b c).mono ?_);rintro _ _ ⟨rfl,rfl⟩;refine⟨_,i0,bC (λe=>⟨by unfold iu;rw[e];rfl,.zip f.aj⟩) λe=>?_⟩;have q:iu m d n=(iV d d.l.length n||iV d (ck m d.l).length n):=by unfold iu;rw[e];rfl
 refine(QN s b c o).mono ?_;rintro _ _ ⟨rfl,rfl⟩;refine⟨_,i0,(CW s b d.l.length n c ok.room).mono ?_⟩;rintro _ _ ⟨rfl,rfl⟩;refine⟨_,i0,bC (λi=>⟨by rw[q,i];rfl,.zip f.aj⟩) λi=>?_⟩;refine⟨x,(f.box 0 i0).aU _ i0,(IF s b x m c (z.up f.aj) ok (B.up f.aj) u).mono ?_⟩;rintro _ E ⟨r,rfl,k⟩;have g:=(aa.Ai k).1;have y:ii (ck m d.l)<=4000:=by have:=jW m u;have:=xO m d.l;unfold ck;rw[qx];omega
 have w:=f.co k;refine⟨r,i0,(CW s b r.len n (c.aj k.aj c.lt) ok.room).mono ?_⟩;rintro _ _ ⟨rfl,rfl⟩;exact⟨_,i0,by rw[q,i,vx,g],.zip w.aj⟩
theorem UD(x:bU)(n:Int)(h:f8):ac xB 118 #[xt eH,fw x,xq xx n] h λv h'=>v=xv eR/\Sp h h' []:=by refine Gd eH x n ?_;unfold CK;refine(Sp.refl h).boxed λb c a=>?_;exact bj (bC (λ_=>⟨i0,.zip a.aj⟩) λe=>j0)
theorem QW(x:bU)(m:aG)(n:Int)(L:St B h0 As λh=>df h x m)(E:cS m)(H:aa B h0 h (ji pw a d::dn 92 pw w::As)):
  ac xB 119 #[xt (dB a),fw x,xq xx n] h λv h'=>v=xq xx (ge m w d n).1/\aa B h0 h' (ji pw a (ge m w d n).2.2::dn 92 pw (ge m w d n).2.1::As):=by
 refine Ge (dB a) x n ?_;unfold CL;refine(Sp.refl h).boxed λO u I=>?_;have I:Sp h u [au O 44 (aV x)]:=I;have o:=(H.co I).aX 3 [1,2,0];have f:∀(e:Int) {h':f8},be (λb=>b<u.size) u h'->ge m w d n=(e,w,d)->(Value.int .i64 e=xq xx (ge m w d n).1/\aa B h0 h' (ji pw a (ge m w d n).2.2::dn 92 pw (ge m w d n).2.1::As)):=λe {h'} Q R=>by
  rw[R];exact⟨i0,((o.up Q).aX 3 [0,1])⟩
 obtain⟨ok,s,b,g⟩:=(id o).rS;have t:=g.box 0 i0;have N:fR u s 1 aF d.l:=(g.aX 2 [1]).FH λ_=>rfl;have p:=(aa.Ai (g.aX 2 [1])).1;have K:=ok.len;have A:=ok.room;refine bj (bj (bC (λe=>j0) λ_=>(Iw s b t).mono ?_));rintro _ _ ⟨rfl,rfl⟩;refine⟨_,i0,bC (λe=>f 5 (be.refl _ _) (by unfold ge;rw[f9 e])) λe=>?_⟩;refine⟨x,(o.box 2 i0).aU _ i0,(IG s b x m n t N p ok (L.at [_,_,_] o) E).mono ?_⟩;rintro _ T ⟨rfl,k⟩;have F:=g.up k.aj;have j:=t.aj k.aj t.lt;have y:=o.up k.aj;refine⟨_,i0,bo (λq=>f 7 k.aj (by unfold ge;rw[g0 n5,f9 (by simp[q])])) λq=>?_⟩;refine(QN s b j p).mono ?_;rintro _ _ ⟨rfl,rfl⟩;refine⟨_,i0,(CW s b d.l.length n j ok.room).mono ?_⟩;rintro _ _ ⟨rfl,rfl⟩;refine⟨_,i0,bC (λz=>f 0 k.aj (by unfold ge;rw[g0 n5,g0 (by simp[q]),f9 z])) λz=>?_⟩;have em:ge m w d n=d.rewrite w (ck m d.l):=by unfold ge;rw[g0 n5,g0 (by simp[q]),g0 (by simp[z])]
 rw[em];have M:ii (ck m d.l)<=4000:=by have:=jW m E;have:=xO m d.l;unfold ck;rw[qx];omega
 have G:∀c∈ck m d.l,ii c<=64:=λc i=>by
  unfold ck at i;rcases qA.1 i with i|i
  ·exact xd (ww i)
  ·exact KJ i
 refine⟨x,(y.box 2 i0).aU _ i0,(IF s b x m j ((F.aX 2 [1]).FH λ_=>rfl) ok (L.at [_,_,_] y) E).mono ?_⟩;rintro _ h3 ⟨r,rfl,P⟩;obtain⟨rs,J⟩:=(y.co P).Zq λ_=>rfl;have J:=J.aX 4 [1,2,0];refine⟨r,i0,(IE r (ck m d.l) J (St.dS 0 i0 λh' D=>?_) i4 λc i=>zf (G c i) i5).mono ?_⟩
 ·exact⟨rs,D.1,D.2.1,D.2.2⟩
 rintro _ U ⟨rfl,S⟩;exact⟨_,i0,i0,S.aX 3 [0,1]⟩
end
section
variable {B:aD} {h0 h:f8} {As:List HP} {a pw b:eX} {x:bU} {offs:Int} {da:List aO} {w:Pow} {ds:aJ} {d:bt}
theorem aa.aeU(n:Nat)(j:n<64)(e:ds[n]?=dB eH)(H:aa B h0 h (bp bz a pw (aV x) offs da w ds::ji pw b d::As)){K:Unit->f8->Prop}
  (f:∀h',aa B h0 h' (bp bz a pw (aV x) offs (da.set n (dB b)) w (ds.set n (dB d))::As)->K () h'):
  ag xB (qf 74 (xt (dB ((a.add 10).add n))) (xt (dB b))) h K:=by
 obtain⟨ok,g⟩:=Go.Vc.aa.pq H;have i:(a.add 10).add n=a.add (10+n):=by unfold Addr.add;simp[Nat.add_assoc]
 rw[i];refine g.storeAt af 0 i0 i0 i0 i0 i0 (by simp[ok.la];omega) λh' c=>f h' ?_;rw[zo,QR ok.l8]at c;exact aa.ahy ok j e c
end
end Go.Qw
namespace Wl
open Go
theorem DY(ds:aJ)(n:Nat)(d:bt)(s:Int)(b:n<64)(c:ii ds=64):bh (bQ ds (n:Int) d) s=if s=(n:Int)then dB d else bh ds s:=by
 unfold bh bQ;rw[ql];by_cases h:0<=s/\s<64
 ·rw[f9 h,f9 h,q7];by_cases a:s=(n:Int)
  ·subst a;rw[f9 i0,ql,f9 i0,f9 i4];rfl
  ·rw[g0 a,g0 i4]
 ·rw[g0 h,g0 h,g0 i4]
theorem kW{ds:aJ}{s:Int}{d:bt}(h:bh ds s=dB d):∃n:Nat,s=(n:Int)/\n<64:=by
 unfold bh at h;by_cases a:0<=s/\s<64
 ·exact⟨s.toNat,i4,i4⟩
 ·rw[g0 a]at h;cases h
structure Fit (ds:aJ) (S Q:aC):Prop where
 len:ii ds=64
 at_:∀s∈S,∃d,bh ds s=dB d/\d.lost=eR/\d.l.length+Q.count s<=d.room
theorem WJ{d:bt}{n:Nat}(w:Pow)(b:bf)(a:d.lost=eR)(f:ii d.l+(n+1)<=d.room)(g:ii b=64):
  ((d.append w b).1=0∨(d.append w b).1=14)/\(d.append w b).2.2.lost=eR/\(d.append w b).2.2.l.length+n<=(d.append w b).2.2.room:=by
 unfold bt.append;rw[g0 i4,g0 n9,g0 i4];by_cases c:w.off
 ·rw[f9 c];exact⟨.inr i0,a,i6⟩
 ·rw[g0 c];by_cases e:w.step.1
  ·rw[f9 e];exact⟨.inl i0,a,i7⟩
  ·rw[g0 e];exact⟨.inr i0,a,i7⟩
theorem acg{d:bt}(w:Pow)(a:d.lost=eR):((d.sync w).1=0∨(d.sync w).1=14)/\(d.sync w).2.2.lost=eR/\(d.sync w).2.2.l=d.l/\(d.sync w).2.2.room=d.room:=by
 unfold bt.sync;rw[g0 n9];by_cases b:w.step.1
 ·rw[f9 b];exact⟨.inl i0,a,i0,i0⟩
 ·rw[g0 b];exact⟨.inr i0,a,i0,i0⟩
theorem Sb{ds:aJ}{S Q:aC}{x:Int}(w:Pow)(b:bf)(F:Fit ds S (x::Q))(l:x∈S)(k:ii b=64):
  ((fT w ds x b).1=0∨(fT w ds x b).1=14)/\Fit (fT w ds x b).2.2 S Q:=by
 obtain⟨d,f,m,j⟩:=F.at_ x l;rw[List.count_cons_self]at j;obtain⟨n,rfl,i⟩:=kW f;have A:=WJ w b m (n:=Q.count (n:Int)) i4 k;have e:fT w ds (n:Int) b=((d.append w b).1,(d.append w b).2.1,bQ ds (n:Int) (d.append w b).2.2):=by unfold fT;rw[f]
 rw[e];refine⟨A.1,by unfold bQ;rw[zh];exact F.len,λs o=>?_⟩;rw[DY _ _ _ _ i F.len];by_cases a:s=(n:Int)
 ·subst a;rw[f9 rfl];exact⟨_,i0,A.2⟩
 ·rw[g0 a];obtain⟨q,g,p,c⟩:=F.at_ s o;rw[List.count_cons_of_ne λh=>a h.symm]at c;exact⟨q,g,p,c⟩
theorem WK{ds:aJ}{S:aC}{x:Int}(w:Pow)(F:Fit ds S [])(h:x∈S):((gQ w ds x).1=0∨(gQ w ds x).1=14)/\Fit (gQ w ds x).2.2 S []:=by
 obtain⟨d,b,j,g⟩:=F.at_ x h;obtain⟨n,rfl,f⟩:=kW b;obtain⟨c,A2,i,l⟩:=acg w j;have e:gQ w ds (n:Int)=((d.sync w).1,(d.sync w).2.1,bQ ds (n:Int) (d.sync w).2.2):=by unfold gQ;rw[b]
 rw[e];refine⟨c,by unfold bQ;rw[zh];exact F.len,λs k=>?_⟩;rw[DY _ _ _ _ f F.len];by_cases a:s=(n:Int)
 ·subst a;rw[f9 rfl];exact⟨_,i0,A2,by rw[i,l];exact g⟩
 ·rw[g0 a];exact F.at_ s k
end Wl
namespace Go.Vc
open Go Wl Go.Qw
theorem PO(l:aC)(k:Nat):(bv l k).Nodup:=by unfold bv;refine List.Pairwise.filter _ (vi.2 ?_);exact(List.nodup_range (n:=k)).imp λh=>i4
theorem Zw{l:aC}(h:(eO l).2=eL):(eO l).1=bv l l.length/\l.length<=64/\∀n:Nat,l.getD n 0<=512:=by
 unfold eO at h⊢;by_cases a:l.all (fq · 0 512)=eL
 ·rw[f9 a]at h⊢;refine⟨i0,by simp at h;exact h.1,λn=>?_⟩;rw[qe];by_cases b:n<ii l
  ·rw[qd b];have:=q9.1 a _ (qg b);unfold fq at this;simp at this⊢;omega
  ·rw[qQ i4];simp
 ·rw[g0 a]at h;cases h
theorem UE(l:aC)(i n:Nat)(e:i<ii (bv l l.length))(g:(bv l l.length)[i]=(n:Int))(c:n<64):(iz l i)[n]?=dB eH:=by unfold iz;rw[qT,zu c,qZ,g0];intro f;obtain⟨j,h,d⟩:=List.mem_take_iff_getElem.1 f;have:=Ha (PO l l.length) (a:=j) (b:=i) i4 e (by rw[d,g]);omega
theorem CX(m:aG):∀S:aC,ii (bM m S)=ii S*ii (bu m)
 |[]=>by simp[bM]
 |n::S=>by
  have e:bM m (n::S)=(bu m).map (λc=>(n,c))++bM m S:=by unfold bM;rw[zk]
  rw[e,qx,qz,CX m S,zn,zT,Nat.add_comm]
theorem Zx(p:Pm)(extra:Int)(l:aC)(a:ii l<=64):cS (cH p extra l):=⟨by have:=rX l l.length;simp[cH];omega,by simp[cH],by simp[cH]⟩
end Go.Vc
namespace Go.Qw
open Go Go.Vc Go.Proofs Wl
section
variable {B:aD} {h0 h:f8} {As:List HP} {pw:eX} {w:Pow}
theorem WL(p:Pm)(extra:Int)(s:Sl)(l:aC)(hS:St B h0 As λh=>Rd h s 1 av l)(hl:ii l<=2^20)(H:aa B h0 h (dn 92 pw w::As)):
  ac xB 8 #[kS p,xq xx extra,xt (dB pw),s] h λv h'=>
   ((gd p extra w l).1≠0->v=.tuple #[xt eH,xq xx (gd p extra w l).1]/\aa B h0 h' As)/\
   ((gd p extra w l).1=0->∃(a:eX) (x:bU) (da:List aO),v=.tuple #[xt (dB a),xq xx 0]/\aa B h0 h' (bp bz a pw (aV x) w.offs da (gd p extra w l).2.1 (gd p extra w l).2.2::cj x (cH p extra l)::As)):=by
 refine Ls p extra (dB pw) s ?_;unfold Do;refine H.boxed λa1 h1 H1=>?_;have H1:=H1.bA;refine(oy s l h1 (hS.at [_,_] H1) hl).mono ?_;rintro _ h2 ⟨r,rfl,R2⟩;have H2:=H1.co R2;refine⟨(r,(eO l).2),i0,?_⟩;have o:∀{h':f8},aa B h0 h' As->((eO l).2&&(bP p&&fq extra 0 16))=eR->
   ((gd p extra w l).1≠0->Value.tuple #[xt eH,xq xx 1]=.tuple #[xt eH,xq xx (gd p extra w l).1]/\aa B h0 h' As)/\
   ((gd p extra w l).1=0->∃(a:eX) (x:bU) (da:List aO),Value.tuple #[xt eH,xq xx 1]=.tuple #[xt (dB a),xq xx 0]/\aa B h0 h' (bp bz a pw (aV x) w.offs da (gd p extra w l).2.1 (gd p extra w l).2.2::cj x (cH p extra l)::As)):=λ{h'} H' hc=>by
  have e:gd p extra w l=(1,w,[]):=by unfold gd;rw[hc];rfl
  rw[e];exact⟨λ_=>⟨i0,H'⟩,λh=>absurd h (show¬(1:Int)=0 by decide)⟩
 refine bj (bo (λe=>o H2.rest.rest.rest n0) λe=>?_);have ep:(eO l).2=eL:=mn
 obtain⟨ap,A,L⟩:=Zw ep;refine⟨p,(H2.box 1 i0).aU _ i0,(eN p h2).mono ?_⟩;rintro _ h3 ⟨rfl,R3⟩;have D:aa B h0 h3 (ak 3 r 1 av (eO l).1::au a1 24 [xq xx p.1,xq xx p.2.1,xq xx p.2.2]::dn 92 pw w::As):=by have:=H2.comp R3;rw[qO]at this;exact this
 refine⟨_,i0,bo (λe2=>o D.rest.rest.rest (by rw[e2];simp)) λe2=>?_⟩;have em:bP p=eL:=nq
 refine ai (λe3=>o D.rest.rest.rest n7) λe3=>ai (λe4=>o D.rest.rest.rest n7) λe4=>bC (λe5=>by cases e5) λ_=>?_;rw[ap]at D;refine bj ⟨p,(D.box 1 i0).aU _ i0,?_⟩;obtain⟨lw,b1,ax⟩:=(D.aX 3 [2,1,0]).DS;refine(QL lw (ax.box 0 i0)).mono ?_;rintro _ h4 ⟨rfl,rfl⟩;have J:=D.box 1 i0;refine⟨_,i0,⟨J.cell0 i0,J.cell i0,J.cell i0,trivial⟩,?_⟩;obtain⟨m,O⟩:∃m,m=cH p extra l:=⟨_,rfl⟩
 refine⟨_,abX (1,0,p.1,p.2.1,p.2.2,extra,r,⟨eH,0,0⟩) pw w.offs,?_⟩;refine D.boxed λa9 h6 f=>?_;obtain⟨x,hx⟩:∃x:bU,x=(1,0,p.1,p.2.1,p.2.2,extra,r,⟨eH,0,0⟩):=⟨_,rfl⟩
 rw[<-hx]at f;have K:(Value.agg (cT (aV x) pw w.offs (qh 64 eH)).toArray).cells.toList=cT (aV x) pw w.offs (qh 64 eH):=j9
 rw[K]at f;have f:=f.bA;have I:=f.box 2 i0;refine⟨⟨I.cell0 i0,I.cell i0,I.cell i0,trivial⟩,?_⟩;have f:aa B h0 h6 (au a9 84 (cT (aV x) pw w.offs (qh 64 eH))::dn 92 pw w::ak 3 r 1 av (bv l l.length)::As):=f.aX 4 [0,3,1];have f:=aa.abW (k:=bz) (h8:=by simp) f;obtain⟨P,j⟩:∃P,P=bv l l.length:=⟨_,rfl⟩
 rw[<-j]at f;have hz:cS m:=O▸Zx p extra l A;have a3:ii P<=64:=by rw[j];exact zf (rX _ _) A
 have S:∀{h':f8} {Bs:List HP} {X:HP},aa B h0 h' (X::ak 3 r 1 av P::Bs)->df h' x m:=λ{h' Bs X} H'=>by
  have hs:=H'.seq 1 i0 λ_=>rfl;have hc:=(H'.own 1 i0).cap;subst hx;subst O;exact⟨i0,i0,i0,i0,by show Seq _ _ r 1 av (bv l l.length);rw[<-j];exact hs,bO.nil _ _ _ _,hc,qm _⟩
 have R:((eO l).2&&(bP p&&fq extra 0 16))=eL:=by rw[ep,em];unfold fq;simp;omega
 have ad:(P.any λi=>decide (l.getD i.toNat 0<(ii (bu m):Int)))=eL->gd p extra w l=(7,w,[]):=λhh=>by
  unfold gd;rw[f9 R,<-j,<-O,f9 hh]
 have V:(P.any λi=>decide (l.getD i.toNat 0<(ii (bu m):Int)))=eR->gd p extra w l=layAll (bM m P) w (iz l P.length):=λhh=>by
  unfold gd;rw[f9 R,<-j,<-O,hh,g0 i5]
 have F:∀i (M:i<ii P),∃n:Nat,n<ii l/\P[i]=(n:Int)/\0<l.getD n 0:=by subst j;exactλi M=>WC l l.length i M
 refine aA (λi:Nat=>(i:Int)) (λi h'=>i<=ii P/\((P.take i).any λi=>decide (l.getD i.toNat 0<(ii (bu m):Int)))=eR/\aa B h0 h' (bp bz a9 pw (aV x) w.offs (qh 64 eH) w (qh 64 eH)::ak 3 r 1 av P::As)) (λi=>ii P-i) 0 i0 ⟨i4,i9,f⟩ ?_;rintro i h7 ⟨M,g,E⟩;dsimp only at*;obtain⟨bk,ao⟩:=aa.dh E;have bs:r.len=ii P:=(E.own 1 i0).len;refine ai (λe5=>?_) (λe5=>?_)
 ·have c:i<ii P:=i4
  obtain⟨n,N,z,W⟩:=F i c;refine(E.seq 1 i0 λ_=>rfl).bH i i0 c (n:Int) (by rw[z];rfl) ?_;refine(hS.at [_,_] E).Sx n i0 N (l.getD n 0) (by rw[getD_lt N];rfl) λbd U=>?_;refine⟨a9,i0,x,ao.aU _ ld,(nX x m h7 (S E) hz).mono ?_⟩;rintro _ h9 ⟨u,rfl,R9⟩;have H9:=E.co R9;have a8:=(aa.Ai H9).1;refine⟨u,i0,kL R9.aj ⟨U,trivial⟩,?_⟩;refine ai (λe6=>?_) (λe6=>?_)
  ·rw[ad (wz.2 ⟨P[i],qg c,by rw[z,ql];exact g9 i4⟩)];exact⟨λ_=>⟨i0,H9.rest.rest.rest⟩,λh=>absurd h (show¬(7:Int)=0 by decide)⟩
  ·refine⟨i+1,js,⟨i4,?_,H9.rest⟩,i4⟩;rw[aK _ _ c,yT,g,vx,xj,xm,Bool.or_false,z,ql];exact hU i4
 ·have G:i=ii P:=i4
  subst G;rw[qY]at g;have a6:=V g;rw[<-Uy l]at E;refine aA (λt:Nat×List aO=>(t.1:Int)) (λt h'=>t.1<=ii P/\aa B h0 h' (bp bz a9 pw (aV x) w.offs t.2 w (iz l t.1)::ak 3 r 1 av P::As)) (λt=>ii P-t.1) (0,qh 64 eH) i0 ⟨i9,E⟩ ?_;rintro⟨i,da⟩ Y ⟨M,d⟩;dsimp only at*;obtain⟨b0,T⟩:=aa.dh d;refine ai (λe6=>?_) (λe6=>?_)
  ·have c:i<ii P:=i4
   obtain⟨n,N,z,W⟩:=F i c;have a7:=L n;refine(d.seq 1 i0 λ_=>rfl).bH i i0 c (n:Int) (by rw[z];rfl) ?_;refine(hS.at [_,_] d).bH n i0 N (l.getD n 0) (by rw[getD_lt N];rfl) ?_;refine⟨a9,i0,(NF (l.getD n 0) pw Y).mono ?_⟩;rintro _ bq ⟨Q1,_⟩;obtain⟨b,rfl,a4⟩:=Q1 i4;have a2:=(d.co a4).aX 2 [1,0];refine⟨_,i0,trivial,⟨i4,i4⟩,?_⟩;rw[ql,z6];have ah:i<ii (bv l l.length):=by rw[<-j];exact c
   have Z:(bv l l.length)[i]=(n:Int):=by rw[<-z];simp only[j]
   refine Go.Qw.aa.aeU n i4 (UE l i n ah Z i4) a2 λbl ar=>?_;refine⟨trivial,(i+1,da.set n (dB b)),jj,⟨i6,?_⟩,i6⟩;dsimp only;rw[<-Uz l i n ah Z i4];exact ar
  ·have G:i=ii P:=i4
   subst G;refine⟨a9,i0,x,T.aU _ ld,(KF x m r P Y (S d) hz (d.seq 1 i0 λ_=>rfl) i4).mono ?_⟩;rintro _ bb ⟨u,ys,rfl,ay⟩;have a0:=(d.co ay).aX 2 [1,0];refine⟨u,i0,?_⟩;have Q:=jW m hz;refine(Iz u ys (bM m P) (St.dS 0 i0 λ_ hq=>hq) ?_ ?_ a0).mono ?_
   ·rw[CX];have:=wq a3 Q;omega
   ·intro y hy;obtain⟨am,a5⟩:=lA hy;obtain⟨i,M,e⟩:=qK am;obtain⟨n,N,z,_⟩:=F i M;rw[<-e,z,a5];exact⟨⟨i4,i4⟩,i5⟩
   rintro _ br ⟨rfl,ab⟩;rw[a6];refine⟨_,i0,cb (λe7=>⟨λ_=>⟨i0,ab.rest.rest.rest⟩,λh=>absurd h e7⟩) λe7=>⟨λh=>absurd e7 h,λ_=>⟨a9,x,da,i0,?_⟩⟩⟩;rw[<-O];exact ab.re.fZ 1 i0 λq hq=>by
    subst hx;subst O;exact⟨i0,i0,i0,i0,by show Seq _ _ r 1 av (bv l l.length);rw[<-j];exact hq.1.seq (λ_=>rfl) hq.2,bO.nil _ _ _ _,hq.1.cap,qm _⟩
end
end Go.Qw
namespace Wl
open Go
def oP(m:aG)(ds:aJ)(k n:Int):Bool:=match bh ds k with|some d=>iu m d n|none=>eR
def dP(m:aG)(ds:aJ)(l:aC)(N:Int->Int):Bool:=l.all λk=>oP m ds k (N k)
def jk(m:aG)(w:Pow)(ds:aJ)(k n:Int):Int×Pow×aJ:=
 match bh ds k with
 |none=>(5,w,ds)
 |some d=>((ge m w d n).1,(ge m w d n).2.1,bQ ds k (ge m w d n).2.2)
def makes(m:aG)(N:Int->Int):aC->Pow->aJ->Int×Pow×aJ
 |[],w,ds=>(0,w,ds)
 |k::l,w,ds=>if(jk m w ds k (N k)).1=0 then makes m N l (jk m w ds k (N k)).2.1 (jk m w ds k (N k)).2.2 else jk m w ds k (N k)
end Wl
namespace Go.Qw
open Go Go.Vc Go.Proofs Wl
theorem ach(f:FuncId)(pre post:Array Value)(P:Int->Bool)(s:Sl)(l:aC)(h:f8)(p:C.fns[f]?=dB eL)(o:Rd h s 1 av l)(y:ii l<=2^30)
  (r:∀k∈l,∀h',Sp h h' []->ac xB f (pre.toList++[Value.int .i64 k]++post.toList).toArray h' λv e=>v=xv (P k)/\Sp h' e []):
  ac xB 116 #[s,.func (.func f) pre post] h λv h'=>v=xv (l.any P)/\Sp h h' []:=by
 refine kC s (f,pre,post) ?_;unfold iF;refine(iT s (f,pre,post) (R:=λv h'=>(∃i:Int,v=xq xx i/\decide (i>=0)=l.any P)/\Sp h h' []) ?_).mono ?_
 ·unfold gD;have w:=o.len;refine aA (λi:Nat=>(i:Int)) (λi h'=>i<=ii l/\(l.take i).any P=eR/\Sp h h' []) (λi=>ii l-i) 0 i0 ⟨i4,i9,Sp.refl h⟩ ?_;rintro i n ⟨m,a,c⟩;refine ai (λd=>?_) (λd=>?_)
  ·have b:i<ii l:=by have t:(i:Int)<(s.len:Int):=d;omega
   refine(Seq.up o c.aj).bH i i0 b l[i] i0 (ff p ?_);refine(r l[i] (qg b) n c).mono ?_;rintro _ x ⟨rfl,q⟩;have j:=c.up q.aj;refine⟨_,i0,bC (λg=>⟨⟨i,i0,?_⟩,j⟩) λg=>?_⟩
   ·rw[wz.2 ⟨_,qg b,g⟩];exact g9 i4
   ·refine⟨i+1,js,⟨i4,?_,j⟩,i4⟩;rw[aK _ _ b,yT,a,xj,xm,g];rfl
  ·have t:¬(i:Int)<(s.len:Int):=d;rw[qi i4]at a;exact⟨⟨-1,i0,by rw[a];rfl⟩,c⟩
 ·rintro _ n ⟨⟨i,rfl,m⟩,u⟩;exact⟨i,i0,by rw[m],u⟩
section
variable {B:aD} {h0 h:f8} {As:List HP} {a pw:eX} {offs:Int} {da:List aO} {w:Pow} {ds:aJ}
def SE(f:FuncId)(pre post:Array Value)(N:Int->Int)(l:aC)(h:f8):Prop:=∀k∈l,ac xB f (pre.toList++[Value.int .i64 k]++post.toList).toArray h λv h'=>v=xq xx (N k)/\Sp h h' []
theorem NT(f:FuncId)(pre post:Array Value)(N:Int->Int)(x:bU)(m:aG)(s:Sl)(l:aC)(X:C.fns[f]?=dB eL)(T:St B h0 As λh=>df h x m/\SE f pre post N l h)(Z:cS m)(hs:Rd h s 1 av l)(Y:ii l<=2^30)(J:∀k∈l,0<=k/\k<64)(H:aa B h0 h (bp bz a pw (aV x) offs da w ds::As)):
  ac xB 52 #[xt (dB a),s,.func (.func f) pre post] h λv h'=>v=xv (dP m ds l N)/\Sp h h' []:=by
 refine EP (dB a) s (f,pre,post) ?_;unfold ui;refine(Sp.refl h).boxed λq h1 R1=>R1.boxed λR F p=>?_;have W:aa B h0 F (bp bz a pw (aV x) offs da w ds::As):=H.up p.aj;have g:cx F q 27 [xt (dB a)]:=p.box 0 i0;have O:=p.box 1 i0;refine(ach 117 #[] #[xt (dB q),xt (dB R)] (λk=>!oP m ds k (N k)) s l F ld (hs.up p.aj) Y ?_).mono ?_
 ·intro k M h3 i;have K:=W.up i.aj;have P:=(g.aj i.aj g.lt).cell0 i0;have c2:=(O.aj i.aj O.lt).cell0 i0;obtain⟨ok,u⟩:=aa.dh K;have Q:=J k M;refine CJ k q R ?_;unfold rH;obtain⟨n,rfl⟩:∃n:Nat,k=n:=⟨k.toNat,i4⟩
  have E:n<ii da:=by rw[ok.la];omega
  have cd:cellOf h3 ((a.add 10).add ((n:Int).toNat*1))=dB (.pointer da[n]):=by rw[ql,z6];refine u.Cf 10 n ?_;rw[Cg ok.l8,qd E];rfl
  obtain⟨ab,z⟩:=T.at [_] K;refine⟨dB a,P,a,i0,⟨i4,i4⟩,da[n],cd,dB a,P,a,i0,x,u.aU _ i0,(f,pre,post),c2,ff X ?_⟩;refine(z n M).mono ?_;rintro _ G ⟨rfl,r⟩;have U:=K.up r.aj;have t:=((g.aj i.aj g.lt).aj r.aj (g.aj i.aj g.lt).lt).cell0 i0;have c:=u.aj r.aj u.lt;have D:cellOf G ((a.add 10).add ((n:Int).toNat*1))=dB (.pointer da[n]):=by rw[ql,z6];refine c.Cf 10 n ?_;rw[Cg ok.l8,qd E];rfl
  refine⟨_,i0,⟨c.cell0 i0,c.cell i0,c.cell i0,c.cell i0,c.cell i0,c.cell i0,c.cell i0,c.cell i0,t,D,t,trivial⟩,?_⟩;have y:gr da (n:Int)=da[n]:=by unfold gr;rw[f9 i4,ql,qd E];rfl
  rw[<-y];have fin:∀{L:Bool} {o:f8},L=oP m ds n (N n)->Sp G o []->az.ok [(q,xt (dB a)),(q,xt (dB a))] o/\(Value.bool (!L)=xv (!oP m ds n (N n))/\Sp h3 o []):=λ{L o} he j=>by
   have S:=(g.aj i.aj g.lt).aj r.aj (g.aj i.aj g.lt).lt;have:=(S.aj j.aj S.lt).cell0 i0;exact⟨⟨this,this,trivial⟩,by rw[he],.zip (aa.up r j.aj).aj⟩
  rcases nD ok (n:Int)with⟨e1,e2⟩|⟨n',d,b,e0,e1,e2,e3,e4,e5⟩
  ·rw[e2];refine(UD x _ G).mono ?_;rintro _ o ⟨rfl,j⟩;exact⟨_,i0,fin (by unfold oP;rw[e1]) j⟩
  ·rw[e5];obtain⟨b',e,H5⟩:=Go.Vc.aa.jV U e2;rw[e4]at e;injection e with e
   injection e with e
   subst e;obtain⟨I,sd,V,A⟩:=aa.rS H5;refine(IG sd V x m (N n) (A.box 0 i0) ((A.aX 2 [1]).FH λ_=>rfl) (aa.Ai (A.aX 2 [1])).1 I (T.at [_] U).1 Z).mono ?_;rintro _ o ⟨rfl,j⟩;exact⟨_,i0,fin (by unfold oP;rw[e3]) j⟩
 ·rintro _ h3 ⟨rfl,i⟩;refine⟨_,i0,?_,.zip (aa.up p i.aj).aj⟩;unfold dP;rw[List.not_any_eq_all_not];simp
theorem UF(x:bU)(n:Int)(h:f8):ac xB 119 #[xt eH,fw x,xq xx n] h λv h'=>v=xq xx 5/\Sp h h' []:=by refine Ge eH x n ?_;unfold CL;refine(Sp.refl h).boxed λb c a=>?_;exact bj (bj (bC (λ_=>bC (λ_=>⟨i0,.zip a.aj⟩) λe=>j0) λe=>j0))
theorem Zy(m:aG)(N:Int->Int)(l:aC)(w:Pow)(ds:aJ)(i:Nat)(a:i<ii l):makes m N (l.drop i) w ds=if(jk m w ds l[i] (N l[i])).1=0 then makes m N (l.drop (i+1)) (jk m w ds l[i] (N l[i])).2.1 (jk m w ds l[i] (N l[i])).2.2 else jk m w ds l[i] (N l[i]):=by rw[qP a];rfl
theorem NU(f:FuncId)(pre post:Array Value)(N:Int->Int)(x:bU)(m:aG)(s:Sl)(l:aC)(U:C.fns[f]?=dB eL)(K:St B h0 As λh=>df h x m/\SE f pre post N l h/\Rd h s 1 av l)(hz:cS m)(hl:ii l<=2^30)(J:∀k∈l,0<=k/\k<64)(H:aa B h0 h (bp bz a pw (aV x) offs da w ds::As)):
  ac xB 53 #[xt (dB a),s,.func (.func f) pre post] h λv h'=>v=xq xx (makes m N l w ds).1/\aa B h0 h' (bp bz a pw (aV x) offs da (makes m N l w ds).2.1 (makes m N l w ds).2.2::As):=by
 refine Du (dB a) s (f,pre,post) ?_;unfold sB;have ad:=(K.at [_] H).2.2.len;obtain⟨Z,S⟩:∃Z,Z=makes m N l w ds:=⟨_,rfl⟩
 rw[<-S];refine aA (λt:Nat×Pow×aJ=>(t.1:Int)) (λt h'=>t.1<=ii l/\Z=makes m N (l.drop t.1) t.2.1 t.2.2/\aa B h0 h' (bp bz a pw (aV x) offs da t.2.1 t.2.2::As)) (λt=>ii l-t.1) (0,w,ds) i0 ⟨i9,S,H⟩ ?_;rintro⟨i,E,u⟩ h1 ⟨hi,q,F⟩;dsimp only at*;refine ai (λe=>?_) λe=>?_
 ·have p:i<ii l:=i4
  rw[Zy _ _ _ _ _ _ p]at q;obtain⟨ab,O,L⟩:=K.at [_] F;refine L.bH i i0 p l[i] i0 (bj ?_);have A:=J l[i] (qg p);obtain⟨k,I⟩:∃k,k=l[i]:=⟨_,rfl⟩
  have M:k∈l:=by rw[I];exact qg p
  rw[<-I]at q A;rw[<-I];obtain⟨n,rfl⟩:∃n:Nat,k=n:=⟨k.toNat,i4⟩
  obtain⟨ok,z⟩:=aa.dh F;have Q:n<ii da:=by rw[ok.la];omega
  have T:∀{h':f8},cx h' a 84 (cT (aV x) pw offs da)->cellOf h' ((a.add 10).add ((n:Int).toNat*1))=dB (.pointer da[n]):=λ{h'} z=>by
   rw[ql,z6];refine z.Cf 10 n ?_;rw[Cg ok.l8,qd Q];rfl
  refine⟨a,i0,⟨i4,i4⟩,da[n],T z,a,i0,x,z.aU _ i0,ff U ?_⟩;refine(O n M).mono ?_;rintro _ Y ⟨rfl,R⟩;have P:=F.up R.aj;have g:=z.aj R.aj z.lt;refine⟨_,i0,⟨g.cell0 i0,g.cell i0,g.cell i0,g.cell i0,g.cell i0,g.cell i0,g.cell i0,g.cell i0,T g,trivial⟩,?_⟩;have G:gr da (n:Int)=da[n]:=by unfold gr;rw[f9 i4,ql,qd Q];rfl
  rw[<-G];obtain⟨c,o⟩:∃c,c=jk m E u n (N n):=⟨_,rfl⟩
  rw[<-o]at q;have fin:∀{h3:f8},aa B h0 h3 (bp bz a pw (aV x) offs da c.2.1 c.2.2::As)->az.ok [] h3/\Br (c.1 !=(0:Int)) (Value.int .i64 c.1=xq xx Z.1/\aa B h0 h3 (bp bz a pw (aV x) offs da Z.2.1 Z.2.2::As))
    (∃r:Nat×Pow×aJ,qc xx ((i:Int)+1)=(r.1:Int)/\(r.1<=ii l/\Z=makes m N (l.drop r.1) r.2.1 r.2.2/\aa B h0 h3 (bp bz a pw (aV x) offs da r.2.1 r.2.2::As))/\l.length-r.1<ii l-i):=λ{h3} H3=>by
   refine⟨trivial,cb (λy=>?_) λy=>?_⟩
   ·rw[g0 y]at q;rw[q];exact⟨i0,H3⟩
   ·rw[f9 y]at q;exact⟨(i+1,c.2.1,c.2.2),jj,⟨i6,q,H3⟩,i6⟩
  rcases nD ok (n:Int)with⟨e1,y⟩|⟨n',d,b,e0,e1,y,e3,e4,e5⟩
  ·rw[y];have D:c=(5,E,u):=by rw[o];unfold jk;rw[e1]
   refine(UF x _ Y).mono ?_;rintro _ h3 ⟨rfl,R3⟩;exact⟨c.1,by rw[D],fin (h3:=h3) (by rw[D];exact P.up R3.aj)⟩
  ·rw[e5];have W:n=n':=i4
   subst W;obtain⟨b',j,H5⟩:=Go.Vc.aa.jV P y;rw[e4]at j;injection j with j
   injection j with j
   subst j;have D:c=((ge m E d (N n)).1,(ge m E d (N n)).2.1,u.set n (dB (ge m E d (N n)).2.2)):=by rw[o];unfold jk;rw[e3];simp only[bQ,ql]
   refine(QW x m (N n) (λBs h' hh=>(K (Bs++[_]) h' (by rw[qp];exact hh)).1) hz H5).mono ?_;rintro _ h3 ⟨rfl,V⟩;have X:=Go.Vc.aa.te (k:=bz) (n:=n) e4 V;exact⟨c.1,by rw[D],fin (h3:=h3) (by rw[D];exact X)⟩
 ·rw[zg i4]at q;rw[q];exact⟨i0,F⟩
end
def aeV(a b:dU):Int:=if ft a.1 b.1 then-1 else if km a.1 b.1 then 0 else 1
def jX(a b:dU):Bool:=km a.1 b.1
theorem UG(a b:dU):aeV a b<0↔¬jX b a=eL:=by unfold aeV jX km;cases h:ft a.1 b.1<;>simp;split<;>omega
theorem IH:Ord jX:=⟨λa b c=>Ho a.1 b.1 c.1,λa b=>Hp a.1 b.1⟩
abbrev UH(x:dU):Value:=xw #[xu x.1,xq xx x.2.1,xq xx x.2.2.1,x.2.2.2]
theorem Se(x y:ByteArray)(h:f8):ac xB 115 #[xu x,xu y] h λv h'=>v=xq xx (if ft x y then-1 else if km x y then 0 else 1)/\h'=h:=by
 refine CI x y ?_;unfold rG;have a:∀z:ByteArray,ac xB 188 #[xu z] h λv h'=>v=xv eR/\h'=h:=λz=>by
  refine EX z ?_;unfold ur;exact⟨i9,i0⟩
 refine(a x).mono ?_;rintro _ _ ⟨rfl,rfl⟩;refine⟨_,i0,(a y).mono ?_⟩;rintro _ _ ⟨rfl,rfl⟩;refine⟨_,i0,bC (λe=>j0) λ_=>bC (λe=>j0) λ_=>?_⟩;have d:Op.bytesLess x.toList y.toList=ft x y:=rfl;rw[SB,d];have c:(!Op.bytesLess y.toList x.toList)=km x y:=rfl;rw[c];refine bC (λe=>⟨n0,i0⟩) λe=>bo (λb=>⟨by rw[e,b];rfl,i0⟩) λb=>⟨by rw[e,b];rfl,i0⟩
theorem Zz(a b:dU)(h:f8):ac xB 114 #[UH a,UH b] h λv h'=>v=xq xx (aeV a b)/\Sp h h' []:=by refine Lw a b ?_;unfold DA;refine(Sp.refl h).boxed λe i f=>f.boxed λg d c=>?_;have c:Sp h d [au e 94 (bI a),au g 94 (bI b)]:=c;refine⟨a.1,(c.box 0 i0).cell0 i0,b.1,(c.box 1 i0).cell0 i0,(Se a.1 b.1 d).mono ?_⟩;rintro _ _ ⟨rfl,rfl⟩;exact⟨_,i0,i0,.zip c.aj⟩
abbrev uN(s:Sl)(d:List dU):HP:=ak 94 s 4 bI d
section
variable {B:aD} {h0 h h':f8} {As:List HP} {s:Sl} {d:List dU}
theorem WM{c d:List dU}{y:dU}(b:Sd jX (c++d))(g:∀z∈c,jX z y=eL)(f:∀z∈d,¬jX z y=eL):Sd jX (c++y::d):=
 Sd.app IH b.left (zF.2 ⟨λz a=>IH.Hm (f z a),b.right⟩) λx e z a=>by
  rcases zb.1 a with rfl|a
  ·exact g x e
  ·exact b.Jw x e z a
theorem NV(X M Y:List dU)(a b:Int)(ha:a=(ii X:Int))(hb:b=(ii X+ii M:Nat))(ah:ii X+ii M+ii Y<=2^40)(H:aa B h0 h (uN s (X++(M++Y))::As)):
  ac xB 234 #[s,xq xx a,xq xx b,.func (.func 114) #[] #[]] h λv h'=>v=.tuple #[]/\∃Z,Sd jX Z/\cJ jX M Z/\aa B h0 h' (uN s (X++(Z++Y))::As):=by
 refine mb s a b (114,#[],#[]) ?_;unfold iB;subst ha;subst hb;rw[al ((ii X:Int)+1)];refine aA (λt:Nat×List dU=>((ii X+1+t.1:Nat):Int)) (λt h'=>(t.1+1<=ii M∨t.1=0)/\Sd jX t.2/\cJ jX (M.take (t.1+1)) t.2/\t.2.length=ii (M.take (t.1+1))/\aa B h0 h' (uN s (X++(t.2++(M.drop (t.1+1)++Y)))::As)) (λt=>ii M-t.1) (0,M.take 1) i0 ?_ ?_
 ·refine⟨.inr i0,?_,cJ.refl _,i0,?_⟩
  ·cases M with
   |nil=>exact List.Pairwise.nil
   |cons x M=>exact zF.2 ⟨λ_ h=>m8,i9⟩
  ·rw[<-qp (M.take (0+1)),List.take_append_drop];exact H
 rintro⟨t,P⟩ h1 ⟨ht,E,A,ad,N⟩;dsimp only at*;refine ai (λe=>?_) (λe=>?_)
 ·have I:t+1<ii M:=i4
  obtain⟨y,hy⟩:∃y,y=M[t+1]:=⟨_,rfl⟩
  have J:ii P=t+1:=by rw[ad];simp;omega
  have eD:M.drop (t+1)=y::M.drop (t+1+1):=by rw[qP I,hy]
  rw[eD]at N;refine aA (λu:List dU×List dU=>((ii X+ii u.1:Nat):Int)) (λu h'=>u.1++u.2=P/\(∀z∈u.2,¬jX z y=eL)/\aa B h0 h' (uN s (X++(u.1++(y::(u.2++(M.drop (t+1+1)++Y)))))::As)) (λu=>ii u.1) (P,[]) (by dsimp only;rw[J];congr 1;omega) ⟨i9,i9,by simpa using N⟩ ?_;rintro⟨c,d⟩ V ⟨G,k,L⟩;dsimp only at*;have am:ii c+ii d=t+1:=by rw[<-J,<-G,qx]
  have l:∀{h':f8},(∀z∈c,jX z y=eL)->aa B h0 h' (uN s (X++(c++(y::(d++(M.drop (t+1+1)++Y)))))::As)->
    ∃f:Nat×List dU,qc xx (((ii X+1+t:Nat):Int)+1)=((ii X+1+f.1:Nat):Int)/\((f.1+1<=ii M∨f.1=0)/\Sd jX f.2/\cJ jX (M.take (f.1+1)) f.2/\f.2.length=ii (M.take (f.1+1))/\aa B h0 h' (uN s (X++(f.2++(M.drop (f.1+1)++Y)))::As))/\M.length-f.1<ii M-t:=λ{h'} hle H'=>by
   refine⟨(t+1,c++y::d),by dsimp only;rw[al _];omega,⟨.inl i6,?_,?_,?_,?_⟩,i6⟩
   ·exact WM p9 hle k
   ·dsimp only;rw[aK M (t+1) I,<-hy];have h1:cJ jX (M.take (t+1)++[y]) (P++[y]):=A.app (cJ.refl _);refine h1.trans ?_;rw[<-G,qp];have V:cJ jX (d++[y]) ([y]++d):=cJ.rot IH λx hx z S=>by rw[qC.1 S];exact k x hx
    exact(cJ.refl _).app V
   ·dsimp only;simp;omega
   ·dsimp only;have:X++((c++y::d)++(M.drop (t+1+1)++Y))=X++(c++(y::(d++(M.drop (t+1+1)++Y)))):=i9
    rw[this];exact H'
  obtain⟨D,R⟩:∃D,D=X++(c++(y::(d++(M.drop (t+1+1)++Y)))):=⟨_,rfl⟩
  refine bX (λ_ h'=>∃(Q:List dU) (z:dU),c=Q++[z]/\¬jX z y=eL/\aa B h0 h' (uN s D::As)) ?_ ?_
  ·rw[<-R]at L l;refine ai (λO=>?_) (λO=>⟨trivial,l (λz S=>?_) L⟩)
   ·have K:c≠[]:=λh=>by rw[h]at O;simp at O
    obtain⟨Q,z,n⟩:∃(Q:List dU) (z:dU),c=Q++[z]:=⟨c.dropLast,c.getLast K,(List.dropLast_concat_getLast K).symm⟩
    have ab:ii c=ii Q+1:=p6
    have g1:D[ii X+ii c]?=dB y:=by rw[R,qj i4,show X.length+ii c-ii X=ii c by omega,qj i4,zc];rfl
    have g2:D[ii X+ii c-1]?=dB z:=by rw[R,qj i4,show X.length+ii c-1-ii X=ii Q by omega,n,qp,qj (qm _),zc];rfl
    obtain⟨T,q⟩:=qn.1 g1;obtain⟨U,r⟩:=qn.1 g2;refine(L.seq 0 i0 λ_=>rfl).eu (g:=bI) _ i0 T y (by rw[q]) ?_;have W:qc xx (((ii X+ii c:Nat):Int)-1)=((ii X+ii c-1:Nat):Int):=j3
    rw[W];refine(L.seq 0 i0 λ_=>rfl).eu (g:=bI) _ i0 U z sL (ff ld ?_);refine(Zz y z V).mono ?_;rintro _ h3 ⟨rfl,R3⟩;have F:=L.up R3.aj;refine⟨_,i0,trivial,ai (λe3=>⟨Q,z,n,(UG y z).1 e3,F⟩) λe3=>l (λw m=>?_) F⟩;have o:jX z y=eL:=by
     by_cases hc:jX z y=eL
     ·exact hc
     ·exact absurd ((UG y z).2 hc) e3
    rw[n]at m;rcases qA.1 m with m|m
    ·refine IH.trans _ _ _ ?_ o;have:Sd jX (Q++[z]):=by rw[<-n];exact Sd.left (v:=d) p9
     exact this.Jw w m z i9
    ·rw[qC.1 m];exact o
   ·have:c=[]:=by
     cases c with
     |nil=>rfl
     |cons x P=>exfalso;simp only[zn]at O;omega
    rw[this]at S;cases S
  ·rintro _ h3 ⟨Q,z,n,o,F⟩;have ab:ii c=ii Q+1:=p6
   have p:D=(X++Q)++z::([]++y::(d++(M.drop (t+1+1)++Y))):=by rw[R,n];simp
   obtain⟨q1,q2,q3,q4⟩:=Uq (X++Q) [] (d++(M.drop (t+1+1)++Y)) z y (i:=ii X+ii c-1) (j:=ii X+ii c) i7 i7;rw[<-p]at q1 q2 q3 q4;obtain⟨U,r⟩:=qn.1 q1;obtain⟨T,q⟩:=qn.1 q2;have W:qc xx (((ii X+ii c:Nat):Int)-1)=((ii X+ii c-1:Nat):Int):=j3
   rw[W];refine(F.seq 0 i0 λ_=>rfl).eu (g:=bI) _ i0 U z sL ?_;refine(F.seq 0 i0 λ_=>rfl).eu (g:=bI) _ i0 T y (by rw[q]) ?_;refine F.set af 0 i0 (λ_=>rfl) i0 (ii X+ii c) i0 T z i0 i0 i0 λh4 H4=>⟨trivial,?_⟩
   refine H4.set af 0 i0 (λ_=>rfl) i0 (ii X+ii c-1) i0 (by simpa using U) y i0 i0 i0 λh5 H5=>⟨trivial,?_⟩
   refine⟨(Q,z::d),by dsimp only;congr 1;omega,⟨by dsimp only;rw[<-G,n];simp,?_,?_⟩,i6⟩
   ·dsimp only;intro w m;rcases zb.1 m with rfl|m
    ·exact o
    ·exact k w m
   ·dsimp only;have:X++(Q++(y::(z::d++(M.drop (t+1+1)++Y))))=(X++Q)++y::([]++z::(d++(M.drop (t+1+1)++Y))):=i9
    rw[this,<-q4];exact H5
 ·refine⟨i0,P,E,?_,?_⟩
  ·rw[qi i4]at A;exact A
  ·rw[zg i4]at N;simpa using N
theorem UI(r:Nat)(h:f8)(c:r<=2^32):ac xB 187 #[xq xA r] h λv h'=>(∃k:Int,v=xq xx k)/\h'=h:=by intro w a;refine(Tryz.bits_Len (r:Int) w i4 i4).mono ?_;rintro e b ⟨rfl,rfl⟩;exact⟨_,i0,dE.refl _,⟨_,i0⟩,a⟩
theorem ZA(d:List dU)(m:ii d<=12)(H:aa B h0 h (uN s d::As)):
  ac xB 113 #[s,.func (.func 114) #[] #[]] h λv h'=>v=.tuple #[]/\aa B h0 h' (uN s (d.mergeSort jX)::As):=by
 refine mJ s (114,#[],#[]) ?_;unfold iZ;have f:=(H.own 0 i0).len;have a:∀k:Int,ac xB 186 #[s,xq xx 0,xq xx (s.len:Nat),xq xx k,.func (.func 114) #[] #[]] h λv h'=>v=.tuple #[]/\aa B h0 h' (uN s (d.mergeSort jX)::As):=λk=>by
  refine nU s 0 (s.len:Nat) k (114,#[],#[]) ?_;unfold jS;refine aA (λ_:Unit=>((0:Int),((s.len:Nat):Int),k,eL,eL)) (λ_ h'=>h'=h) (λ_=>0) () i0 i0 ?_;rintro _ i rfl;refine ai (λ_=>?_) λe=>absurd (show qc xx (((s.len:Nat):Int)-0)<=12 by rw[al _];omega) e;refine(NV [] d [] 0 (s.len:Nat) i0 pb i7 l6).mono ?_;rintro _ c ⟨rfl,M,g,j,b⟩;refine⟨(),i0,i0,?_⟩;rw[<-agc IH g j];simpa using b
 have l:qc xA ((s.len:Nat):Int)=((s.len:Nat):Int):=by unfold qc;simp[qk,y7];omega
 rw[l];refine(UI s.len h i4).mono ?_;rintro _ i ⟨⟨k,rfl⟩,rfl⟩;refine⟨k,i0,(a k).mono ?_⟩;rintro _ c ⟨rfl,b⟩;exact⟨(),i0,i0,b⟩
end
section
variable {B:aD} {h0 h:f8} {As:List HP}
def DZ:bU:=(0,0,0,0,0,0,⟨eH,0,0⟩,⟨eH,0,0⟩)
theorem WN{m:aG}{e:Wl.cv}{xe:dU}{L:List (dU×Wl.cv)}{pool:List (Sl×aC)}(k:L.map zJ=m.aH)(h:∀p∈L,Fc pool p)(j:Fc pool (xe,e)):
  ∃g:List (dU×Wl.cv),g.map qH=(L.map qH++[xe]).mergeSort jX/\g.map zJ=(m.aH++[e]).mergeSort xD/\∀p∈g,Fc pool p:=by
 have c:∀p∈L++[(xe,e)],Fc pool p:=λp d=>by
  rcases qA.1 d with d|d
  ·exact h p d
  ·rw[qC.1 d];exact j
 refine⟨(L++[(xe,e)]).mergeSort λa b=>jX a.1 b.1,?_,?_,λp d=>c p ((wT _ _).mem_iff.1 d)⟩
 ·rw[vG (r:=λa b=>jX a.1 b.1) (s:=jX) (f:=qH) λa _ b _=>rfl,qU];rfl
 ·rw[vG (r:=λa b=>jX a.1 b.1) (s:=xD) (f:=zJ) (λa l b i=>by unfold jX xD;rw[(c a l).1.1,(c b i).1.1]),qU,k];rfl
theorem aci(x:bU)(m:aG)(xe:dU)(e:Wl.cv)(S:df h x m)(Q:cS m)(hs:0<=m.seq/\m.seq<=2^40)(hn:0<=m.next/\m.next<=2^40)(Y:m.aH.length<=11)(U:xe.1=e.name/\xe.2.1=e.object/\xe.2.2.1=e.length)(H:aa B h0 h (uC xe.2.2.2 1 av e.tries::As)):
  ac xB 50 #[fw x,UH xe] h λv h'=>∃y:bU,v=fw y/\aa B h0 h' (cj y (iJ m e)::As):=by
 refine Pn x xe ?_;unfold HN;refine(Sp.refl h).boxed λR h1 O=>O.boxed λg h2 F=>F.alloc af i0 λa3 h3 l=>?_;have l:Sp h h3 [au R 44 (aV x),au g 94 (bI xe),au a3 44 (aV DZ)]:=l;refine⟨x,(l.box 0 i0).aU _ i0,(nY x m h3 (S.up l.aj) Q).mono ?_⟩;rintro _ h4 ⟨y,L,pool,rfl,n,E,A,T⟩;have W:=((l.cG [1,2]).comp T).front;refine⟨y,i0,W.alloc af i0 λi h5 t=>?_⟩;have t:=t.bA;refine t.storeAll af 0 i0 i0 (aV y) i0 i0 i0 i0 λK q=>?_;have q:Sp h K [au i 44 (aV y),dO 1 av pool,ak 3 y.2.2.2.2.2.2.1 1 av m.drives,ak 94 y.2.2.2.2.2.2.2 4 bI (L.map qH),au g 94 (bI xe),au a3 44 (aV DZ)]:=q;refine⟨y.1,(q.box 0 i0).cell0 i0,?_⟩;have I:qc xx (y.1+1)=m.seq+1:=by rw[n.1,al _]
 have N:qc xx (y.2.1+1)=m.next+1:=by rw[n.2.1,al _]
 dsimp only;rw[I];refine q.kg af 0 i0 i0 [xq xx (m.seq+1)] i0 i0 i0 j9 λG r=>?_;have r:Sp h G [au i 44 (xq xx (m.seq+1)::(aV y).drop 1),dO 1 av pool,ak 3 y.2.2.2.2.2.2.1 1 av m.drives,ak 94 y.2.2.2.2.2.2.2 4 bI (L.map qH),au g 94 (bI xe),au a3 44 (aV DZ)]:=r;refine⟨y.2.1,(r.box 0 i0).cell i0,?_⟩;dsimp only;rw[N];refine r.store af 0 i0 i0 1 [xq xx (m.next+1)] i0 i0 i0 j9 λh8 j=>?_;have j:Sp h h8 [au i 44 (xq xx (m.seq+1)::xq xx (m.next+1)::(aV y).drop 2),dO 1 av pool,ak 3 y.2.2.2.2.2.2.1 1 av m.drives,ak 94 y.2.2.2.2.2.2.2 4 bI (L.map qH),au g 94 (bI xe),au a3 44 (aV DZ)]:=j;have M:L.length=m.aH.length:=by rw[<-E,qz]
 refine⟨y.2.2.2.2.2.2.2,(j.box 0 i0).cell i0,xe,(j.box 4 i0).aU _ i0,?_⟩;refine j.push af 3 i0 PJ i0 i5 (λ_=>rfl) PI xe i0 i5 i7 λo V z=>?_;refine z.store af 0 i0 i0 7 [o] i0 i0 i0 j9 λw c=>?_;obtain⟨a,b⟩:∃a:bU,a=(m.seq+1,m.next+1,y.2.2.1,y.2.2.2.1,y.2.2.2.2.1,y.2.2.2.2.2.1,y.2.2.2.2.2.2.1,o):=⟨_,rfl⟩
 have X:a.2.2.2.2.2.2.1=y.2.2.2.2.2.2.1:=by rw[b]
 have P:a.2.2.2.2.2.2.2=o:=by rw[b]
 have c:Sp h w [au i 44 (aV a),dO 1 av pool,ak 3 a.2.2.2.2.2.2.1 1 av m.drives,ak 94 a.2.2.2.2.2.2.2 4 bI (L.map qH++[xe]),au g 94 (bI xe),au a3 44 (aV DZ)]:=by rw[X,P,b];exact c
 refine⟨a.2.2.2.2.2.2.2,(c.box 0 i0).cell i0,?_⟩;have c:=c.aX 6 [3,0,1,2,4,5];refine(ZA (L.map qH++[xe]) i7 c).mono ?_;rintro _ u ⟨rfl,f⟩;have f:Sp h u [uN a.2.2.2.2.2.2.2 ((L.map qH++[xe]).mergeSort jX),au i 44 (aV a),dO 1 av pool,ak 3 a.2.2.2.2.2.2.1 1 av m.drives,au g 94 (bI xe),au a3 44 (aV DZ)]:=f;refine⟨(),i0,a,(f.box 1 i0).aU _ i0,?_⟩;refine f.storeAll af 5 i0 i0 (aV a) i0 i0 i0 i0 λk d=>?_;have d:Sp h k [uN a.2.2.2.2.2.2.2 ((L.map qH++[xe]).mergeSort jX),au i 44 (aV a),dO 1 av pool,ak 3 a.2.2.2.2.2.2.1 1 av m.drives,au g 94 (bI xe),au a3 44 (aV a)]:=d;refine⟨a,(d.box 5 i0).aU _ i0,a,i0,?_⟩;obtain⟨Z,l1,l2,J⟩:=WN (pool:=(xe.2.2.2,e.tries)::pool) (m:=m) (e:=e) (xe:=xe) E (λp D=>⟨(A p D).1,qG _ (A p D).2⟩) ⟨U,qN⟩;have s:=((H.comp (d.cG [2,3,0])).front).aX 4 [0,3,1,2];have s:aa B h0 k (dO 1 av ((xe.2.2.2,e.tries)::pool)::ak 3 a.2.2.2.2.2.2.1 1 av m.drives::ak 94 a.2.2.2.2.2.2.2 4 bI ((L.map qH++[xe]).mergeSort jX)::As):=aa.XY s;rw[<-l1]at s;refine aa.Fe (m:=iJ m e) ⟨by rw[b];rfl,by rw[b];rfl,by rw[b];exact n.2.2.1,by rw[b];exact n.2.2.2⟩ l2 J s
end
section
variable {B:aD} {h0 h:f8} {As:List HP} {a pw:eX} {offs:Int} {da:List aO} {w:Pow} {ds:aJ}
theorem aa.acj{x y:bU}(H:aa B h0 h (bp bz a pw (aV x) offs da w ds::As)){K:Unit->f8->Prop}(d:∀h',aa B h0 h' (bp bz a pw (aV y) offs da w ds::As)->K () h'):
  ag xB (qf 44 (xt (dB a)) (fw y)) h K:=by
 obtain⟨ok,c⟩:=Go.Vc.aa.pq H;refine c.kg af 0 i0 i0 (aV y) i0 i0 i0 i9 λh' b=>d h' ?_;exact aa.pT (k:=bz) ⟨i0,ok.la,ok.ls,ok.same⟩ b
theorem NW(x z:bU)(b:aG)(s:Sl)(l:aC)(n:St B h0 As λh=>df h z b/\Rd h s 1 av l)(j:cS b)(t:ii l<=2^10)(m:∀k∈l,0<=k/\k<64)(H:aa B h0 h (bp bz a pw (aV x) offs da w ds::As)):
  ac xB 54 #[xt (dB a),fw z,s] h λv h'=>v=xq xx (layAll (bM b l) w ds).1/\
   ((layAll (bM b l) w ds).1≠0->aa B h0 h' (bp bz a pw (aV x) offs da (layAll (bM b l) w ds).2.1 (layAll (bM b l) w ds).2.2::As))/\
   ((layAll (bM b l) w ds).1=0->∃y,aa B h0 h' (bp bz a pw (aV y) offs da (layAll (bM b l) w ds).2.1 (layAll (bM b l) w ds).2.2::cj y b::As)):=by
 refine EQ (dB a) z s ?_;unfold uj;refine H.boxed λG J d=>?_;have d:=d.bA;refine⟨z,(d.box 0 i0).aU _ i0,(KF z b s l J (n.at [_,_] d).1 j (n.at [_,_] d).2 t).mono ?_⟩;rintro _ L ⟨r,u,rfl,D⟩;have A:=(d.co D).aX 3 [2,0,1];have f:=jW b j;have p:=wq t f;refine⟨r,i0,(Iz r u (bM b l) (St.dS 0 i0 λ_ i=>i) (by rw[CX];omega) (λq i=>?_) A).mono ?_⟩
 ·obtain⟨g,o⟩:=lA i;rw[o];exact⟨m _ g,i5⟩
 rintro _ h3 ⟨rfl,c⟩;obtain⟨R,E⟩:∃R,R=layAll (bM b l) w ds:=⟨_,rfl⟩
 rw[<-E]at c⊢;refine⟨_,i0,cb (λe=>⟨i0,λ_=>c.aX 3 [0],λh=>absurd h e⟩) λe=>?_⟩;have c:aa B h0 h3 (bp bz a pw (aV x) offs da R.2.1 R.2.2::cO jI 2 piv r u (bM b l)::au G 44 (aV z)::As):=c;refine⟨z,(c.box 2 i0).aU _ i0,(NH z b h3 (n.at [_,_,_] c).1 j).mono ?_⟩;rintro _ M ⟨y,rfl,I⟩;have K:=(c.co I).aX 4 [1,0];refine⟨y,i0,a,i0,aa.acj K λN F=>?_⟩;exact⟨by rw[e],λh=>absurd e h,λ_=>⟨y,F⟩⟩
def mM(name:ByteArray)(e:Wl.cv):Bool:=e.name.toList==name.toList
theorem find_spec(x:bU)(m:aG)(name:ByteArray)(t:df h x m)(p:cS m)(H:aa B h0 h (bp bz a pw (aV x) offs da w ds::As)):
  ac xB 91 #[xt (dB a),xu name] h λv h'=>(∃i:Int,v=xq xx i/\aeM (mM name) m.aH i)/\Sp h h' []:=by
 refine ET (dB a) name ?_;unfold um;refine(Sp.refl h).boxed λd n b=>?_;have o:cx n d 9 [xu name]:=b.box 0 i0;obtain⟨ok,l⟩:=aa.dh H;have e:=l.aj b.aj l.lt;have f:=p.ob;refine⟨a,i0,x.2.2.2.2.2.2.2,e.cell i0,?_⟩;refine(KG 153 #[] #[xt (dB d)] (mM name) x.2.2.2.2.2.2.2 m.aH n ld (t.up b.aj).aH f ?_).mono ?_
 ·intro u E k c r y;refine CN u d ?_;unfold rJ;refine(Sp.refl k).boxed λz h3 g=>?_;have j:=(o.aj c.aj o.lt)
  have s:=j.aj g.aj j.lt;refine⟨u.1,(g.box 0 i0).cell0 i0,name,s.cell0 i0,?_,.zip g.aj⟩;unfold mM;rw[r.1.1]
 ·rintro _ k ⟨⟨i,rfl,q⟩,c⟩;exact⟨i,i0,⟨i,i0,q⟩,.zip (aa.up b c.aj).aj⟩
theorem II{b:bg}(H:aa B h0 h (bp bz a pw b offs da w ds::As)):ac xB 55 #[xt (dB a)] h λv h'=>v=xv (eF w offs)/\h'=h:=by refine GB (dB a) ?_;unfold uW;refine bC (λe=>j0) λ_=>(tf H).mono ?_;rintro _ _ ⟨rfl,rfl⟩;exact⟨_,i0,i0,i0⟩
def eT(m:aG)(down:Bool)(ds:aJ)(name:ByteArray)(n:Nat):Int:=
 if down then 14 else if !mY name then 3 else if m.aH.any (mM name)then 4
 else if m.p.1*m.p.2.2*8<(n:Int)∨12<=ii m.aH then 6
 else if aT ds m.drives=[]∨16777215<m.next∨2147483647<=m.seq then 7 else 0
theorem UJ(x:bU)(m:aG)(name:ByteArray)(s:Sl)(n:Nat)(Z:s.len=n)(A:name.size<=2^40)(V:df h x m)(J:cS m)(W:bP m.p=eL)(H:aa B h0 h (bp bz a pw (aV x) offs da w ds::As)):
  ac xB 46 #[xt (dB a),xu name,s] h λv h'=>v=xq xx (eT m (eF w offs) ds name n)/\Sp h h' []:=by
 refine Bj (dB a) name s ?_;unfold pE;have L:=(cu m.p).1 W;refine(II H).mono ?_;rintro _ G ⟨rfl,rfl⟩;refine⟨_,i0,bC (λe=>⟨by unfold eT;rw[e];rfl,Sp.refl _⟩) λl=>?_⟩;refine(QO name G A).mono ?_;rintro _ h2 ⟨rfl,o⟩;refine⟨_,i0,bo (λe=>⟨by unfold eT;rw[l,e];rfl,o⟩) λq=>?_⟩;have I:=H.up o.aj;have k:=V.up o.aj;refine(find_spec x m name k J I).mono ?_;rintro _ h3 ⟨⟨i,rfl,T⟩,E⟩;have u:Sp G h3 []:=.zip (aa.up o E.aj).aj;have d:=Ux T;refine⟨i,i0,bC (λe=>⟨by unfold eT;rw[l,q,<-d,e];rfl,u⟩) λO=>?_⟩;rw[O]at d;have K:=I.up E.aj;have b:=k.up E.aj;obtain⟨ok,g⟩:=aa.dh K;have Q:=bO.len b.aH;have z:x.2.2.1=m.p.1:=congrArg (·.1) b.p;have D:x.2.2.2.2.1=m.p.2.2:=congrArg (·.2.2) b.p;have Y:m.p.1*m.p.2.2<=16*24:=Int.mul_le_mul i4 i4 i4 i4;have S:0<=m.p.1*m.p.2.2:=vN i4 i4;refine bX (λ(t:Bool) h'=>t=decide (m.p.1*m.p.2.2*8<(n:Int)∨12<=ii m.aH)/\h'=h3) ?_ ?_
 ·refine⟨a,i0,x.2.2.1,g.cell i0,a,i0,x.2.2.2.2.1,by rw[addr_add];exact g.cell i0,?_⟩;dsimp only;rw[z,D,al (m.p.1*m.p.2.2),al (m.p.1*m.p.2.2*8)];refine ai (λe=>⟨(g9 (.inl i4)).symm,i0⟩) λe=>?_;refine⟨a,i0,x.2.2.2.2.2.2.2,g.cell i0,?_,i0⟩;rw[decide_eq_decide];omega
 rintro t _ ⟨rfl,rfl⟩;refine ai (λe=>⟨by unfold eT;rw[l,q,<-d,f9 e];rfl,u⟩) λM=>?_;have P:eT m (eF w offs) ds name n=if aT ds m.drives=[]∨16777215<m.next∨2147483647<=m.seq then 7 else 0:=by unfold eT;rw[l,q,<-d,g0 M];rfl
 rw[P];refine(fE x m b J K).mono ?_;rintro _ R ⟨r,rfl,F⟩;have f:=(F.own 0 i0).len;have c:Sp G R []:=.zip (aa.up u F.aj).aj;have j:=g.aj F.aj g.lt;refine⟨r,i0,cy (λe=>⟨by rw[f9 (.inl (za i4))],c⟩) λe=>?_⟩;have y:aT ds m.drives≠[]:=λX=>by rw[X]at f;simp at f;omega
 refine⟨a,i0,x.2.1,j.cell i0,ai (λe=>⟨by rw[f9 (.inr (.inl (by rw[<-b.next];omega)))],c⟩) λe6=>?_⟩;have U:=b.next;have N:=b.seq;refine⟨a,i0,x.1,j.cell0 i0,ai (λe=>⟨by rw[f9 (.inr (.inr i4))],c⟩) λe7=>⟨?_,c⟩⟩;rw[g0];rintro(h|h|h)
 ·exact y h
 ·omega
 ·omega
end
theorem UK:∃i a,C.T.get 34=dB i/\i.cZ=.slice a:=⟨_,_,i0,i0⟩
def pW(A B:aP)(k:Nat):aP:=fd (A.take k) (B.take k)++A.drop k
theorem uw{A B:aP}(h:ii B=ii A)(k:Nat):ii (pW A B k)=ii A:=by simp[pW,fd,h];omega
theorem ack{A B:aP}(h:ii B=ii A){k:Nat}(a:k<ii A):(pW A B k)[k]?=dB A[k]:=by
 have:ii (fd (A.take k) (B.take k))=k:=by simp[fd];omega
 rw[pW,qj i4,this,zc,wJ,wN,qd a]
theorem acl{A B:aP}(h:ii B=ii A){k:Nat}(a:k<ii A):(pW A B k).set k (A[k]++B[k]'(by omega))=pW A B (k+1):=by
 have b:ii (fd (A.take k) (B.take k))=k:=by simp[fd];omega
 rw[pW,qV _ _ i4,b,zc,qP a,zo,pW,aK _ _ a,aK _ _ (show k<ii B by omega),fd,fd,yE i7,qp];rfl
theorem acm{A B:aP}(h:ii B=ii A):pW A B A.length=fd A B:=by rw[pW,qY,<-h,qY,h,List.drop_length,qO]
theorem ZB(f:eX)(a b:Sl)(A B:aP)(n w:Nat)(h:f8)(hf:fM h f)(I:fR h a 1 aF A)(Q:fR h b 1 aF B)(hl:ii A=n)(a9:ii B=n)(i:bc n A)(K:bc w B)(ax:1<=n)(hn:n+w<=64)(hr:ce A=n):
  ac xB 175 #[xt (dB f),a,b] h λv h'=>∃r:Sl,v=.tuple #[r,xq xx 0]/\Sp h h' [fS 34 r 1 aF (gp n A B)]:=by
 have d:ii B=ii A:=i4
 have S:=I.len;have F:=Q.len;refine Gk (dB f) a b ?_;unfold CO;refine bj ?_;refine(nF a A n h I i).mono ?_;rintro v h1 ⟨rfl,rfl⟩;refine⟨_,i0,bo (λe=>j0) λ_=>?_⟩;refine(nF b B w h1 Q K).mono ?_;rintro v G ⟨rfl,rfl⟩;refine⟨_,i0,bo (λe=>j0) λ_=>?_⟩;refine cb (λe=>absurd (by rw[S,F,d]) e) λ_=>?_;refine cy (λe=>i4) λ_=>?_;refine(tk a A G I).mono ?_;rintro v h3 ⟨rfl,rfl⟩;have ad:eJ A=n:=by
  cases A with
  |nil=>simp at hl;omega
  |cons x t=>rw[eJ,bE i9];exact i _ i9
 refine⟨_,i0,?_⟩;rw[ad];refine(AW a A n h3 I i).mono ?_;rintro v h4 ⟨r,rs,rfl,ay,R4⟩;refine⟨r,i0,?_⟩;have am:=(R4.own 0 i0).len;refine aA (λt:Nat×List Sl=>(t.1:Int)) (λt h'=>t.1<=n/\t.2.length=n/\Sp h3 h' (ow r t.2 (pW A B t.1))) (λt=>n-t.1) (0,rs) i0 ⟨i9,i6,by simpa[pW,fd]using R4⟩ ?_;rintro⟨k,rs⟩ h5 ⟨hk,a3,z⟩;dsimp only at*;have j:ii rs=ii (pW A B k):=ns
 refine ai (λe=>?_) (λe=>?_)
 ·have l:k<n:=i4
  have u:k<ii A:=i4
  have J:=pU (a:=r) j k ns;have eg:(pW A B k)[k]'(by rw[uw d];omega)=A[k]:=by have:=ack d u;rw[qd ns]at this;exact zR.inj this
  rw[eg]at J;have l1:A[k].length=n:=i _ (qg _);have l2:ii (B[k]'(by omega))=w:=K _ (qg _);refine(z.seq 0 i0 λ_=>rfl).oq k i0 i4 λa1 R X=>?_;refine(Q.up z.aj).get k i0 i4 λrb O=>?_;refine z.append af (k+1) J hJ UK i0 i5 (λ_=>rfl) O iM i4 λN h6 H6=>⟨trivial,?_⟩
  refine H6.set af 0 i0 (λ_=>rfl) i0 k i0 i4 N i0 i0 i0 λT H7=>⟨trivial,?_⟩
  refine⟨(k+1,rs.set k N),jj,⟨i6,lz,?_⟩,i6⟩;dsimp only;rw[<-acl d u];show Sp h3 T (ak 34 r 1 bw (rs.set k N)::bF 5 1 aF (rs.set k N) ((pW A B k).set k _));rw[<-lj j];exact H7
 ·have ab:k=ii A:=i4
  subst ab;rw[acm d]at z;refine(uL f h5).mono ?_;rintro v h6 ⟨rfl,rfl⟩;refine⟨dB f,i0,?_⟩;have p:=nr d.symm i K;have a6:=mR d.symm;refine(CV (m:=fd A B) (n:=n+w) hf hf.lt i4 p i4 i4 i4 z).mono ?_;rintro v T ⟨g,rfl,ap,y⟩;rw[Lj d.symm i,hr];refine⟨_,i0,?_⟩;dsimp only;have ao:=(y.own 0 i0).cap;have a7:=(y.own 0 i0).len;have G:=hO p n;refine ai (λe=>absurd (show(n:Int)<(n:Int)from e) i4) λ_=>?_;refine⟨⟨z7 _,y0.2 (show n<=r.len by omega)⟩,?_⟩;refine aA (λ_:Unit=>(0:Int)) (λ_ h'=>h'=T) (λ_=>0) () i0 i0 ?_;rintro _ h8 rfl;rw[ql];refine ai (λe=>i4) λ_=>?_;refine⟨⟨z7 _,y0.2 (show n<=r.cap by omega)⟩,?_⟩;obtain⟨M,L⟩:∃M,M=(bL (fd A B) n).2:=⟨_,rfl⟩
  have a2:ii M=n:=by have:=G.2;rw[<-L]at this;omega
  have W:bc (n+w) M:=by rw[L];exact G.1
  have E:∀k (hk:k<n),(gp n A B).take (k+1)=(gp n A B).take k++[(M[k]'(by omega)).drop n]:=λk hk=>by
   have e1:gp n A B=M.map (List.drop n):=by rw[gp,<-L,qi i4]
   rw[e1,aK _ _ i7,yb]
  have a8:ii (gp n A B)=n:=(xY d.symm i K hr).1;rw[<-L]at y;refine aA (λt:Sl×Nat=>(t.1,(t.2:Int))) (λt h'=>t.2<=n/\Sp h8 h' [fS 34 t.1 1 aF ((gp n A B).take t.2)]) (λt=>n-t.2) (⟨eH,0,0⟩,0) i0 ⟨i9,(Sp.refl h8).Mt 34 1 aF⟩ ?_;rintro⟨s,k⟩ h9 ⟨a0,H⟩;dsimp only at*;have V:=y.comp H;have U:ii g=ii M:=i4
  refine ai (λe=>?_) (λe=>?_)
  ·have l:k<n:=i4
   have J:=pU (a:=r) U k i4;have q:(ow r g M++[fS 34 s 1 aF ((gp n A B).take k)])[k+1]?=dB (ak 5 (g[k]'(by omega)) 1 aF (M[k]'(by omega))):=by rw[qo (by simp[bF];omega)];exact J
   have bb:ii (M[k]'(by omega))=n+w:=W _ (qg _);have D:=V.own (k+1) q;have P:=V.seq (k+1) q λ_=>rfl;have ar:=D.len;have o:=(V.seq 0 i0 λ_=>rfl).take n i4;rw[qi i4]at o;refine o.oq k i0 i4 λa1 R X=>?_;refine⟨⟨z7 _,y0.2 i4⟩,?_⟩;refine(fa _ _ h9 (P.drop n D.cap) i7).mono ?_;rintro v a5 ⟨c,rfl,Z⟩;have ah:=(H.comp Z).freeze 1 i0 λ_=>rfl;refine⟨c,i0,?_⟩;refine ah.xV af 0 1 i5 i0 i0 fL i7 λs' a4 Y=>?_;refine⟨(s',k+1),jj,⟨i6,?_⟩,i6⟩;dsimp only;rw[E k l];exact Y.del 1
  ·rw[qi i4]at H;refine⟨s,i0,?_⟩;have:=(Sp.zip y.aj).comp H;exact this
def iW(p:Pm)(seed:Int)(l:Nat):Int:=if bP p&&decide ((l:Int)=p.1*p.2.2)then(if gC p seed (fV p)then 0 else 8)else 1
abbrev CY(p:Pm)(seed:Int)(m:Sl):bg:=[xq xx p.1,xq xx p.2.1,xq xx p.2.2,xq xz seed,m]
theorem UL(p:Pm)(seed:Int)(data:Sl)(d:Row)(h:f8)(hd:Rd h data 1 aF d)(hc:data.len<=data.cap):
  ac xB 108 #[kS p,xq xz seed,data] h λv h'=>
   (iW p seed d.length=0->∃(b:eX) (m:Sl),v=.tuple #[xt (dB b),xq xx 0]/\Sp h h' [fS 34 m 1 aF (dv p seed d),au b 234 (CY p seed m)])/\
   (iW p seed d.length≠0->v=.tuple #[xt eH,xq xx (iW p seed d.length)]/\Sp h h' []):=by
 have W:=hd.len;refine Pp p seed data ?_;unfold HQ;refine(Sp.refl h).boxed λa h1 H1=>?_;refine bj ?_;refine⟨p,(H1.box 0 i0).aU _ i0,(eN p h1).mono ?_⟩;rintro v h2 ⟨rfl,R2⟩;have N:=H1.comp R2;have no:∀{h3:f8} (x:Int),x≠0->iW p seed d.length=x->Sp h h3 [au a 24 [xq xx p.1,xq xx p.2.1,xq xx p.2.2]]->
   (iW p seed d.length=0->∃(b:eX) (m:Sl),Value.tuple #[xt eH,xq xx x]=.tuple #[xt (dB b),xq xx 0]/\Sp h h3 [fS 34 m 1 aF (dv p seed d),au b 234 (CY p seed m)])/\
   (iW p seed d.length≠0->Value.tuple #[xt eH,xq xx x]=.tuple #[xt eH,xq xx (iW p seed d.length)]/\Sp h h3 []):=λx hx P H=>by
  refine⟨λe=>absurd (P.symm.trans e) hx,λ_=>⟨by rw[P],.zip H.aj⟩⟩
 refine⟨_,i0,bo (λe=>no 1 i5 (by rw[iW,e];rfl) N) λR=>?_⟩;have ar:=(cu p).1 R;obtain⟨K,hK⟩:∃K:Nat,p.1=K:=⟨p.1.toNat,i4⟩
 obtain⟨u,hH⟩:∃H:Nat,p.2.1=H:=⟨p.2.1.toNat,i4⟩
 obtain⟨w,M⟩:∃w:Nat,p.2.2=w:=⟨p.2.2.toNat,i4⟩
 have am:K*w<=16*24:=wq i4 i4;have L:p.1*p.2.2=((K*w:Nat):Int):=by rw[hK,M,wM]
 refine⟨p.1,(N.box 0 i0).cell0 i0,p.2.2,(N.box 0 i0).cell i0,?_⟩;dsimp only;rw[L,al _];refine cb (λe=>no 1 i5 (by rw[iW,R,hU (by rw[L];intro Y;exact e (by rw[W];exact Y))];rfl) N) λel=>?_;have F:ii d=K*w:=i4
 refine⟨p,(N.box 0 i0).aU _ i0,(NS p seed h2).mono ?_⟩;rintro v h3 ⟨rfl,R3⟩;have H3:=N.comp R3;have y:iW p seed d.length=if gC p seed (fV p)then 0 else 8:=by rw[iW,R,g9 (by rw[L,F])];rfl
 refine⟨_,i0,bo (λe=>no 8 i5 (by rw[y,e];rfl) H3) λhf=>?_⟩;rw[hf,f9 rfl]at y;have B:cw p seed d K u w (K+u):=⟨R,hf,hK,hH,M,i0,i4,i4,i4,i4,i4,i4,F⟩
 refine⟨p.2.1,(H3.box 0 i0).cell i0,?_⟩;refine aA (λt:Sl×List Sl=>(t.1,(ii t.2:Int))) (λt h'=>ii t.2<=u/\Sp h h' (au a 24 [xq xx p.1,xq xx p.2.1,xq xx p.2.2]::ow t.1 t.2 (qh t.2.length (aM w)))) (λt=>u-ii t.2) (⟨eH,0,0⟩,[]) i0 ⟨i9,H3.nil 34 1 bw⟩ ?_;rintro⟨s,rs⟩ h4 ⟨hk,O⟩;dsimp only at*;refine ai (λe=>?_) (λe=>?_)
 ·refine⟨p.2.2,(O.box 0 i0).cell i0,?_⟩;refine O.make af aF hJ i5 0 i0 i0 w w M M (qm _) i4 λz h5 ap ay D=>?_;refine D.push af 1 i0 fL i0 i5 (λ_=>rfl) kh z i0 i5 i4 λV U T=>?_;refine⟨(V,rs++[z]),by dsimp only;rw[al _];simp,⟨i7,?_⟩,i7⟩;dsimp only;have e7:ow V (rs++[z]) (qh rs.length (aM w)++[aM w])=ak 34 V 1 bw (rs++[z])::(bF 5 1 aF rs (qh rs.length (aM w))++[ak 5 z 1 aF (aM w)]):=congrArg _ (Ag i9 z (aM w));rw[show(rs++[z]).length=ii rs+1 by simp,List.replicate_succ',e7];exact T
 ·have I:ii rs=u:=i4
  rw[I]at O;refine⟨p.1,(O.box 0 i0).cell0 i0,?_⟩;let own:=bF 5 1 aF rs (qh u (aM w));refine aA (λt:Sl×Nat=>(t.1,(t.2:Int))) (λt h'=>t.2<=K/\Sp h h' (au a 24 [xq xx p.1,xq xx p.2.1,xq xx p.2.2]::ak 34 t.1 1 bw (rs++(qy t.2).map (OS data w))::own)) (λt=>K-t.2) (s,0) i0 ⟨i9,by simpa using O⟩ ?_;rintro⟨t,k⟩ h5 ⟨ao,D⟩;dsimp only at*;refine ai (λY=>?_) (λY=>?_)
  ·have X:k<K:=i4
   have m1:(k+1)*w<=K*w:=zH w X;have m2:k*w<=(k+1)*w:=zH w i4;refine⟨p.2.2,(D.box 0 i0).cell i0,p.2.2,(D.box 0 i0).cell i0,?_⟩;rw[al ((k:Int)+1)];have e5:(k:Int)*p.2.2=((k*w:Nat):Int):=by rw[M,wM]
   have e6:((k:Int)+1)*p.2.2=(((k+1)*w:Nat):Int):=by rw[M,wM];rfl
   dsimp only;rw[e5,e6,wf _,wf _,ql,ql];refine⟨⟨z7 _,y0.2 m2,y0.2 i4⟩,?_⟩;refine D.push af 1 i0 fL i0 i5 (λ_=>rfl) kh (OS data w k) i0 i5 i7 λt' U T=>?_;refine⟨(t',k+1),i0,⟨i6,?_⟩,i6⟩;dsimp only;rw[zQ,qU,<-qp];exact T
  ·have ah:k=K:=i4
   subst ah;refine bj ?_;have E:fR h5 t 1 aF (gT k u w d):=by
    refine⟨rs++(qy k).map (OS data w),D.seq 1 i0 λ_=>rfl,by rw[Hs];simp;omega,λi r l q o=>?_⟩;by_cases G:i<u
    ·rw[qo i4,qd i4]at q;rw[gT,qo (by simpa using G)]at o;have hz:l=aM w:=by simp[G]at o;exact o.symm
     have hr:rs[i]'(by omega)=r:=zR.inj q;have g:(au a 24 [xq xx p.1,xq xx p.2.1,xq xx p.2.2]::ak 34 t 1 bw (rs++(qy k).map (OS data w))::own)[i+2]?=dB (ak 5 (rs[i]'(by omega)) 1 aF ((qh u (aM w))[i]'(by simpa using G))):=fX (by simpa using I) i (by simpa using G);have:=D.seq (i+2) g λ_=>rfl;rw[List.getElem_replicate,hr]at this;rw[hz];exact this
    ·obtain⟨j,rfl⟩:∃j,i=u+j:=⟨i-u,i4⟩
     rw[qj i4,I,zp]at q;rw[gT,qj i9,List.length_replicate,zp]at o;have hj:j<k:=by have:=(qn.1 q).1;simpa using this
     simp[hj]at q o;have m1:(j+1)*w<=k*w:=zH w hj;rw[<-q,<-o];exact(Seq.up hd D.aj).piece hc w j i4
   have c:=D.box 0 i0;refine⟨p,c.aU _ i0,p,c.aU _ i0,(sa h5).mono ?_⟩;rintro v U ⟨f,rfl,R6⟩;have n:=c.aj R6.aj c.lt;refine⟨dB f,i0,⟨n.cell0 i0,n.cell i0,n.cell i0,n.cell0 i0,n.cell i0,n.cell i0,trivial⟩,(NQ p U).mono ?_⟩;rintro v h7 ⟨r7,rfl,R7⟩;have Z:=R6.comp R7;have J:=c.aj Z.aj c.lt;refine⟨r7,i0,⟨J.cell0 i0,J.cell i0,J.cell i0,trivial⟩,?_⟩;refine(KH p seed r7 (fV p) h7 (Z.seq 1 i0 λ_=>rfl) (by rw[fV,hY];omega)).mono ?_;rintro v h8 ⟨r8,rfl,R8⟩;have S:=Z.comp R8;refine⟨r8,i0,trivial,?_⟩;refine(ZB f r8 t _ _ (k+u) w h8 (S.box 0 i0) (S.GX 2 i0) (E.up S.aj) B.Hr (by rw[Hs]) B.JD (xE B.len) i4 i4 B.OZ).mono ?_;rintro v h9 ⟨r9,rfl,R9⟩;have Q9:=S.comp R9;refine⟨(r9,0),i0,trivial,?_⟩;refine cb (λe=>absurd i0 e) λ_=>?_;have ad:=c.aj Q9.aj c.lt;refine⟨p,ad.aU _ i0,?_⟩;refine Q9.boxed (t:=234) λb ax ab=>?_;refine⟨λ_=>⟨b,r9,i0,?_⟩,λe=>absurd y e⟩;have Q:=(Sp.zip D.aj).comp ab;rw[<-B.FK]at Q;exact Q.take 3 (λi A G=>by
    cases i with
    |zero=>exact G
    |succ i=>cases i with
     |zero=>exact G
     |succ i=>simp at G)
def AY(h:f8)(b:eX)(p:Pm)(seed:Int)(M:aP):Prop:=∃m:Sl,cx h b 234 (CY p seed m)/\fR h m 1 aF M
theorem AY.up{h h':f8}{b:eX}{p:Pm}{seed:Int}{M:aP}(e:AY h b p seed M)(a:be (λb=>b<h.size) h h'):AY h' b p seed M:=by obtain⟨m,c,d⟩:=e;exact⟨m,c.aj a c.lt,d.up a⟩
theorem WO{a t:Row}(b:ii a=ii t){k:Nat}(d:k<ii t):(zi (λx y=>y^^^Gf.mul 1 x) (a.take k) (t.take k)++t.drop k).set k (t[k]^^^(a[k]'(by omega)))=zi (λx y=>y^^^Gf.mul 1 x) (a.take (k+1)) (t.take (k+1))++t.drop (k+1):=by have:=AX (c:=1) b d;rw[Gf.one_mul]at this;exact this
theorem aja{a t:Row}(b:ii a=ii t){k:Nat}(c:k<ii t):(zi (λx y=>y^^^Gf.mul 1 x) (a.take k) (t.take k)++t.drop k)[k]?=dB t[k]:=by
 have d:ii (zi (λx y=>y^^^Gf.mul 1 x) (a.take k) (t.take k))=k:=i7
 rw[qj i4,d,zc,wJ,wN,qd c]
theorem CZ(b:eX)(p:Pm)(seed id:Int)(M:aP)(n w:Nat)(h:f8)(Z:AY h b p seed M)(H:bP p=eL)(T:p.2.2=w)(hn:(bK p).toNat=n)(V:bc w M)(hl:ii M=n):
  ac xB 110 #[xt (dB b),xq xx id] h λv h'=>∃r:Sl,v=r/\Sp h h' [ak 5 r 1 aF (if bZ id then fW w M (dz n seed id)else[])]:=by
 obtain⟨m,g,Y⟩:=Z;have a1:=Y.len;have ao:=(cu p).1 H;have hc:bK p=p.1+p.2.1:=by rw[bK,f9 H]
 refine Bn (dB b) id ?_;unfold pG;have U:bZ id=eR->∃r:Sl,Value.slice eH 0 0=xr r.ptr r.len r.cap/\Sp h h [ak 5 r 1 aF (if bZ id then fW w M (dz n seed id)else[])]:=λe=>by
  rw[e];exact⟨⟨eH,0,0⟩,i0,(Sp.refl h).nil 5 1 aF⟩
 refine bj (bC (λe=>j0) λ_=>ai (λe=>U l0) λe1=>ai (λe=>U l0) λP=>?_);have hid:bZ id=eL:=l0
 refine⟨b,i0,p.2.2,g.cell i0,?_⟩;refine(Sp.refl h).make af aF hJ i5 0 i0 i0 w w T T (qm _) i4 λo h1 ax am O=>?_;have B:=g.aj O.aj g.lt;refine⟨b,i0,p,B.aU _ i0,b,i0,seed,B.cell i0,(Ci p seed id h1).mono ?_⟩;rintro v h2 ⟨c,rfl,N⟩;rw[H,hid,xi,f9 rfl,hn]at N;rw[hid,f9 rfl];have J:=O.comp N;obtain⟨d,q⟩:∃d,d=dz n seed id:=⟨_,rfl⟩
 have u:∀x∈d,0<=x/\x<(n:Int):=λx X=>nk i4 i4 (by rw[<-q];exact X);have Q:ii d<=n:=by rw[q];exact BI i4 i4 _ _
 rw[<-q]at J⊢;have ab:=(J.seq 1 i0 λ_=>rfl).len;refine⟨c,i0,trivial,?_⟩;refine aA (λi:Nat=>(i:Int)) (λi h'=>i<=ii d/\Sp h h' [ak 5 o 1 aF (fW w M (d.take i)),ak 3 c 1 av d]) (λi=>ii d-i) 0 i0 ⟨i4,J⟩ ?_;rintro i h3 ⟨E,l⟩;refine ai (λe=>?_) (λe=>?_)
 ·have j:i<ii d:=i4
  have X:=u _ (qg j);refine(l.seq 1 i0 λ_=>rfl).bH i i0 j _ i0 ?_;have I:=g.aj l.aj g.lt;refine⟨b,i0,m,I.cell i0,?_⟩;obtain⟨ap,W⟩:=Y;refine(W.aj l.aj).get d[i].toNat i4 i4 λr R F=>?_;have s:=W.row _ r _ F (qd (show d[i].toNat<ii M by omega));obtain⟨row,f⟩:∃row,row=M[d[i].toNat]'(by omega):=⟨_,rfl⟩
  have ar:ii row=w:=by rw[f];exact V _ (qg _)
  rw[<-f]at R s;obtain⟨S,L⟩:∃S,S=fW w M (d.take i):=⟨_,rfl⟩
  have a0:ii S=w:=by rw[L];exact rq V hl u i E
  have ay:=R.len;have P:fW w M (d.take (i+1))=cX 1 row S:=by rw[aK _ _ j,EC,L,f,bE i4]
  rw[<-L]at l;refine aA (λk:Nat=>(k:Int)) (λk h'=>k<=w/\Sp h h' [ak 5 o 1 aF (zi (λx y=>y^^^Gf.mul 1 x) (row.take k) (S.take k)++S.drop k),ak 3 c 1 av d]) (λk=>w-k) 0 i0 ⟨i4,qb⟩ ?_;rintro k h4 ⟨hk,z⟩;have K:=s.aj z.aj;have ad:ii (zi (λx y=>y^^^Gf.mul 1 x) (row.take k) (S.take k)++S.drop k)=w:=i7
  refine ai (λe3=>?_) (λe3=>?_)
  ·have ah:k<w:=i4
   have D:(zi (λx y=>y^^^Gf.mul 1 x) (row.take k) (S.take k)++S.drop k)[k]'(by omega)=S[k]'(by omega):=by have:=aja (a:=row) (t:=S) i4 (show k<ii S by omega);rw[qd i4]at this;exact zR.inj this
   refine K.bH k i0 i4 _ i0 ?_;refine(z.seq 0 i0 λ_=>rfl).bH k i0 i4 _ i0 ?_;rw[D,nE];refine z.set af 0 i0 (λ_=>rfl) i0 k i0 i4 _ i0 i0 i0 λh5 H5=>?_;refine⟨k+1,js,⟨i4,?_⟩,i4⟩;rw[<-WO i4 (show k<ii S by omega)];exact H5
  ·have G:k=w:=i4
   subst G;rw[qi i4,qi i4,zg i4,qO]at z;refine⟨i+1,js,⟨i4,?_⟩,i4⟩;rw[P];exact z
 ·rw[qi i4]at l;exact⟨o,i0,l.take 0 λi A E=>by cases i with|zero=>exact E|succ i=>simp at E⟩
theorem _root_.Wl.cw.iW{p:Pm}{seed:Int}{d:Row}{K H w n:Nat}(B:cw p seed d K H w n):iW p seed d.length=0:=by rw[Go.Qw.iW,B.may,B.full,B.len,B.k,B.s,g9 (by rw[wM])];rfl
theorem ajb{p:Pm}{seed:Int}{d:Row}{K H w n:Nat}(B:cw p seed d K H w n)(data:Sl)(h:f8)(c:Rd h data 1 aF d)(e:data.len<=data.cap):
  ac xB 108 #[kS p,xq xz seed,data] h λv h'=>
   ∃(b:eX) (m:Sl),v=.tuple #[xt (dB b),xq xx 0]/\Sp h h' [fS 34 m 1 aF (dv p seed d),au b 234 (CY p seed m)]:=
 (UL p seed data d h c e).mono λ_ _ a=>a.1 B.iW
theorem _root_.Wl.cw.symbol{p:Pm}{seed:Int}{d:Row}{K H w n:Nat}(B:cw p seed d K H w n)(b:eX)(id:Int)(h:f8)(a:AY h b p seed (dv p seed d)):
  ac xB 110 #[xt (dB b),xq xx id] h λv h'=>∃r:Sl,v=r/\Sp h h' [ak 5 r 1 aF (if bZ id then fW w (dv p seed d) (dz n seed id)else[])]:=
 CZ b p seed id _ n w h a B.may B.s B.ru B.oD.2 B.oD.1
def Ea(s:FL):bg:=[.complex .f64 s.ax s.ay,.complex .f64 s.sx s.sy,xq xx s.left,xq xx s.leg,xv s.second]
theorem pX{o:Option Nat}(h:o.isSome=eL):o=dB (o.getD 0):=by
 cases o with
 |none=>cases h
 |some x=>rfl
theorem ZC(h:f8):ac xB 229 #[] h λv h'=>∃a:eX,v=xt (dB a)/\Sp h h' [au a 299 (Ea fs0)]:=by refine Nz ?_;unfold Gq;refine(Sp.refl h).boxed (t:=299) λa c b=>?_;exact⟨a,i0,b⟩
theorem acn(a b:Nat)(h:f8)(i:(ie.mul a 0).isSome=eL)(g:(ie.mul b rv).isSome=eL)(h3:(ie.sub (uF a 0) (uF b rv)).isSome=eL)(j:(ie.mul a rv).isSome=eL)(f:(ie.mul b 0).isSome=eL)(c:(ie.add (uF a rv) (uF b 0)).isSome=eL):
  ac xB 284 #[.complex .f64 a b,xq xx 1] h λv h'=>v=.complex .f64 (tx a b) (ty a b)/\h'=h:=by
 refine PG (a,b) 1 ?_;unfold Is;refine⟨i5,i5,?_⟩;refine aA (λk:Nat=>(if k=0 then(a,b)else(tx a b,ty a b),(k:Int))) (λk h'=>k<=1/\h'=h) (λk=>1-k) 0 i0 ⟨i4,i0⟩ ?_;rintro k h' ⟨l,rfl⟩;have d:wi (qc xx (wi 1 4+4)) 4=1:=i5
 dsimp only;rw[d];refine ai (λe=>?_) (λe=>?_)
 ·have:k=0:=i4
  subst this;refine⟨(tx a b,ty a b),ahi (pX i) (pX g) (pX h3) (pX j) (pX f) (pX c),?_⟩;exact⟨1,i0,⟨i4,i0⟩,i4⟩
 ·have:k=1:=i4
  subst this;exact⟨i0,i0⟩
theorem aeW(a:eX)(s:FL)(h:f8)(f:cx h a 299 (Ea s))(c:s.ok=eL):ac xB 230 #[xt (dB a)] h λv h'=>v=.tuple #[]/\cx h' a 299 (Ea s.on)/\be (λb=>b≠a.block) h h':=by
 simp only[FL.ok,qB,decide_eq_true_eq]at c;obtain⟨⟨⟨⟨⟨⟨⟨⟨⟨⟨⟨A,F⟩,u⟩,t⟩,y⟩,G⟩,B⟩,x⟩,N⟩,J⟩,I⟩,K⟩:=c;refine GG (dB a) ?_;unfold vg;have w:aa (λb=>b<h.size/\¬b=a.block) h h [au a 299 (Ea s)]:=.aaO (λb=>b=a.block) (λb m=>by rw[m];exact f.lt) ⟨f,i0⟩;have fin:∀{h':f8},aa (λb=>b<h.size/\¬b=a.block) h h' [au a 299 (Ea s.on)]->Value.tuple #[]=.tuple #[]/\cx h' a 299 (Ea s.on)/\be (λb=>b≠a.block) h h':=λH=>
  ⟨i0,H.box 0 i0,H.aj.1,λk p i=>H.aj.2 k p ⟨p,i⟩⟩
 refine⟨a,i0,(s.ax,s.ay),f.cell0 i0,a,i0,(s.sx,s.sy),f.cell i0,(po s.ax s.sx,po s.ay s.sy),ahg (pX A) (pX F),a,i0,?_⟩;refine w.kg af 0 i0 i0 [.complex .f64 (po s.ax s.sx) (po s.ay s.sy)] i0 i0 i0 (by simp[Ea]) λP r=>⟨trivial,?_⟩
 refine⟨a,i0,s.left,(r.box 0 i0).cell (j:=2) i0,a,i0,?_⟩;rw[al (s.left-1)];refine r.storeAt af 0 i0 i0 (off:=2) i0 i0 i0 (by simp[Ea]) λz d=>?_;refine⟨a,i0,s.left-1,(d.box 0 i0).cell (j:=2) i0,?_⟩;refine ai (λe=>?_) (λe=>?_)
 ·have n:Ea s.on=[.complex .f64 (po s.ax s.sx) (po s.ay s.sy),.complex .f64 s.sx s.sy,xq xx (s.left-1),xq xx s.leg,xv s.second]:=by rw[FL.on,f9 e];rfl
  refine fin ?_;rw[n];exact d
 ·refine⟨a,i0,(s.sx,s.sy),(d.box 0 i0).cell (j:=1) i0,(acn s.sx s.sy z u t y G B x).mono ?_⟩;rintro v h3 ⟨rfl,rfl⟩;refine⟨(tx s.sx s.sy,ty s.sx s.sy),i0,a,i0,?_⟩;refine d.storeAt af 0 i0 i0 (off:=1) i0 i0 i0 (by simp[Ea]) λO g=>?_;refine bX (λ_ h'=>aa (λb=>b<h.size/\¬b=a.block) h h' [au a 299 [.complex .f64 (po s.ax s.sx) (po s.ay s.sy),.complex .f64 (tx s.sx s.sy) (ty s.sx s.sy),xq xx (s.left-1),xq xx (if s.second then s.leg+1 else s.leg),xv s.second]]) ?_ ?_
  ·refine⟨a,i0,s.second,(g.box 0 i0).cell (j:=4) i0,bC (λl=>?_) λl=>?_⟩
   ·refine⟨a,i0,s.leg,(g.box 0 i0).cell (j:=3) i0,a,i0,?_⟩;rw[al (s.leg+1)];refine g.storeAt af 0 i0 i0 (off:=3) i0 i0 i0 (by simp[Ea]) λQ D=>?_;rw[f9 l];exact D
   ·rw[g0 (by rw[l];decide)];exact g
  ·rintro _ M o;refine⟨a,i0,s.second,(o.box 0 i0).cell (j:=4) i0,a,i0,?_⟩;refine o.storeAt af 0 i0 i0 (off:=4) i0 i0 i0 i9 λL q=>?_;refine⟨a,i0,_,(q.box 0 i0).cell (j:=3) i0,a,i0,?_⟩;refine q.storeAt af 0 i0 i0 (off:=2) i0 i0 i0 i9 λh8 E=>?_;have n:Ea s.on=[.complex .f64 (po s.ax s.sx) (po s.ay s.sy),.complex .f64 (tx s.sx s.sy) (ty s.sx s.sy),xq xx (if s.second then s.leg+1 else s.leg),xq xx (if s.second then s.leg+1 else s.leg),xv (!s.second)]:=by rw[FL.on,g0 e];rfl
   refine fin ?_;rw[n];exact E
theorem Yb(n:Nat)(h:f8)(j:n<64):ac xB 177 #[xq xx n] h λv h'=>v=.complex .f64 (lD n).ax (lD n).ay/\Sp h h' []:=by
 refine Uj n ?_;unfold Nq;refine ai (λe=>i4) λ_=>ai (λe=>i4) λ_=>?_;refine(ZC h).mono ?_;rintro v l ⟨a,rfl,g⟩;refine⟨dB a,i0,?_⟩;refine aA (λk:Nat=>(k:Int)) (λk h'=>k<=n/\Sp h h' [au a 299 (Ea (lD k))]) (λk=>n-k) 0 i0 ⟨i4,g⟩ ?_;rintro k f ⟨i,b⟩;refine cy (λe=>?_) (λe=>?_)
 ·have:k=n:=i4
  subst this;exact⟨a,i0,((lD k).ax,(lD k).ay),(b.box 0 i0).cell0 i0,i0,.zip b.aj⟩
 ·refine(aeW a (lD k) f (b.box 0 i0) (ajL k i4)).mono ?_;rintro v h3 ⟨rfl,d,c⟩;refine⟨(),i0,k+1,js,⟨i4,b.Dk 0 i0 c d⟩,i4⟩
theorem QX{a b:Int}(d:-4<=a:=by omega)(c:a<=4:=by omega)(h3:-4<=b:=by omega)(e:b<=4:=by omega):ie.sub (dj a) (dj b)=dB (dj (a-b)):=by have:=ais (a+4).toNat i4 (b+4).toNat i4;rw[show((a+4).toNat:Int)-4=a by omega,show((b+4).toNat:Int)-4=b by omega,show((a+4).toNat:Int)-((b+4).toNat:Int)=a-b by omega]at this;exact this
theorem QY{a:Int}(b:-8<=a:=by omega)(c:a<=8:=by omega):ie.mul (dj a) (dj a)=dB (dj (a*a)):=by have:=ait (a+8).toNat i4;rw[show((a+8).toNat:Int)-8=a by omega]at this;exact this
theorem UM(a:Int):((a.natAbs:Nat):Int)*(a.natAbs:Nat)=a*a:=Int.natAbs_mul_self
theorem aco{a b:Int}(d:-8<=a)(c:a<=8)(h3:-8<=b)(e:b<=8):ie.add (dj (a*a)) (dj (b*b))=dB (dj (a*a+b*b)):=by have:=aiu a.natAbs i4 b.natAbs i4;rw[UM,UM]at this;exact this
def IJ(i j:Nat):Int:=((gq i).x-(gq j).x)*((gq i).x-(gq j).x)+((gq i).y-(gq j).y)*((gq i).y-(gq j).y)
theorem agF{a:Int}(b:-8<=a)(c:a<=8):0<=a*a/\a*a<=64:=by rw[<-UM,<-wM];have:a.natAbs*a.natAbs<=8*8:=wq i4 i4;omega
theorem Ck{n:Nat}(h:n<64):(lD n).ax=dj (gq n).x/\(lD n).ay=dj (gq n).y/\-4<=(gq n).x/\(gq n).x<=4/\-4<=(gq n).y/\(gq n).y<=4:=by have:=air n h;simp only[qB,decide_eq_true_eq,beq_iff_eq]at this;obtain⟨⟨⟨⟨⟨a,b⟩,c⟩,d⟩,e⟩,f⟩:=this;exact⟨a,b,c,d,e,f⟩
theorem acp{i j:Nat}(d:i<64)(c:j<64):0<=IJ i j/\IJ i j<=128:=by have a:=Ck d;have b:=Ck c;have f:=agF (a:=(gq i).x-(gq j).x) i4 i4;have e:=agF (a:=(gq i).y-(gq j).y) i4 i4;unfold IJ;omega
theorem aeX(i j:Nat)(h:f8)(d:i<64)(c:j<64):ac xB 178 #[.complex .f64 (lD i).ax (lD i).ay,.complex .f64 (lD j).ax (lD j).ay] h λv h'=>v=.float .f64 (dj (IJ i j))/\h'=h:=by
 have a:=Ck d;have b:=Ck c;refine RT ((lD i).ax,(lD i).ay) ((lD j).ax,(lD j).ay) ?_;unfold Kz;have e:ie.sub (lD i).ax (lD j).ax=dB (dj ((gq i).x-(gq j).x)):=by rw[a.1,b.1];exact QX
 have f:ie.sub (lD i).ay (lD j).ay=dB (dj ((gq i).y-(gq j).y)):=by rw[a.2.1,b.2.1];exact QX
 refine⟨(dj ((gq i).x-(gq j).x),dj ((gq i).y-(gq j).y)),ahh e f,_,QY,_,QY,_,aco i4 i4 i4 i4,i0,i0⟩
abbrev agG:bY C.toDi 22 3 1 [xq xx 0] 8:=⟨_,_,i0,i0,i0,i0,i0,i0⟩
def nG(a b:Int):Int:=if a<b then-1 else if a>b then 1 else 0
theorem UN(m:Nat)(h:f8)(a:m<129):ac xB 232 #[.float .f64 (dj (m:Nat))] h λv h'=>v=xv eR/\h'=h:=by refine DM _ ?_;unfold sH;have:=abq m a m a;rw[show(FloatKind.format .f64).order (dj (m:Nat)) (dj (m:Nat))=dB (compare m m)from this,Nat.compare_eq_eq.2 rfl];exact⟨i0,i0⟩
theorem acq(m n:Nat)(h:f8)(b:m<129)(c:n<129):ac xB 182 #[.float .f64 (dj (m:Nat)),.float .f64 (dj (n:Nat))] h λv h'=>v=xq xx (nG m n)/\h'=h:=by
 refine Bu _ _ ?_;unfold pL;refine(UN m h b).mono ?_;rintro v a ⟨rfl,rfl⟩;refine⟨_,i0,(UN n a c).mono ?_⟩;rintro v f ⟨rfl,rfl⟩;refine⟨_,i0,bC (λe=>j0) λ_=>bC (λe=>j0) λ_=>?_⟩;have d:(FloatKind.format .f64).order (dj (m:Nat)) (dj (n:Nat))=dB (compare m n):=abq m b n c;rw[d];rcases Nat.lt_trichotomy m n with a|a|a
 ·rw[Nat.compare_eq_lt.2 a];refine bC (λ_=>⟨by rw[nG,f9 i4],i0⟩) (λe=>j0)
 ·subst a;rw[Nat.compare_eq_eq.2 rfl];refine bC (λe=>j0) λ_=>bC (λe=>j0) λ_=>⟨by rw[nG,g0 i4,g0 i4],i0⟩
 ·rw[Nat.compare_eq_gt.2 a];refine bC (λe=>j0) λ_=>bC (λ_=>⟨by rw[nG,g0 i4,f9 i4],i0⟩) (λe=>j0)
theorem QZ(m:Int)(h:f8):ac xB 233 #[xq xx m] h λv h'=>v=xv eR/\h'=h:=by refine vn _ ?_;unfold rO;exact⟨i9,i0⟩
theorem acr(m n:Int)(h:f8):ac xB 183 #[xq xx m,xq xx n] h λv h'=>v=xq xx (nG m n)/\h'=h:=by refine sF _ _ ?_;unfold ou;refine(QZ m h).mono ?_;rintro v b ⟨rfl,rfl⟩;refine⟨_,i0,(QZ n b).mono ?_⟩;rintro v c ⟨rfl,rfl⟩;refine⟨_,i0,bC (λe=>j0) λ_=>bC (λe=>j0) λ_=>?_⟩;refine ai (λe=>⟨by rw[nG,f9 e],i0⟩) λe=>ai (λa=>⟨by rw[nG,g0 e,f9 a],i0⟩) λa=>⟨by rw[nG,g0 e,g0 a],i0⟩
def Yc(a b:Int):Int:=if a≠0 then a else b
theorem ahz(s:Sl)(a b:Int)(h:f8)(f:Rd h s 1 av [a,b]):ac xB 181 #[s] h λv h'=>v=xq xx (Yc a b)/\h'=h:=by
 refine DG s ?_;unfold AL;have m:s.len=2:=f.len;refine aA (λk:Nat=>(k:Int)) (λk h'=>h'=h/\k<=2/\(1<=k->a=0)/\(2<=k->b=0)) (λk=>2-k) 0 i0 ⟨i0,i4,i4,i4⟩ ?_;rintro k h' ⟨rfl,l,g,j⟩;refine ai (λe=>?_) (λe=>?_)
 ·rcases(show k=0∨k=1 by omega)with rfl|rfl
  ·refine f.bH 0 i0 i9 a i0 ?_;refine cb (λc=>⟨by rw[Yc,f9 c],i0⟩) λc=>?_;exact⟨1,i0,⟨i0,i4,λ_=>c,i4⟩,i4⟩
  ·refine f.bH 1 i0 i9 b i0 ?_;have d:=g i4;refine cb (λc=>⟨by rw[Yc,g0 p8],i0⟩) λc=>?_;exact⟨2,i0,⟨i0,i4,λ_=>d,λ_=>c⟩,i4⟩
 ·have d:=g i4;have i:=j i4;exact⟨by rw[Yc,g0 p8,i],i0⟩
abbrev Fr:=Int×Fin 129
def AZ(x:Fr):bg:=[xq xx x.1,.float .f64 (dj ((x.2:Nat):Int))]
def Ba(x y:Fr):Int:=Yc (nG (x.2:Nat) (y.2:Nat)) (nG x.1 y.1)
theorem UO(x y:Fr)(h:f8):ac xB 180 #[xw (AZ x).toArray,xw (AZ y).toArray] h λv h'=>v=xq xx (Ba x y)/\be (λb=>b<h.size) h h':=by
 refine JW (x.1,dj ((x.2:Nat):Int)) (y.1,dj ((y.2:Nat):Int)) ?_;unfold Cb;refine(Sp.refl h).boxed (t:=242) λa l f=>?_;refine f.boxed (t:=242) λb e c=>?_;refine⟨_,(c.box 0 i0).cell (j:=1) i0,_,(c.box 1 i0).cell (j:=1) i0,_,(c.box 0 i0).cell0 i0,_,(c.box 1 i0).cell0 i0,?_⟩;refine(acq x.2 y.2 e x.2.isLt y.2.isLt).mono ?_;rintro v h3 ⟨rfl,rfl⟩;refine⟨_,i0,⟨(c.box 1 i0).cell0 i0,(c.box 0 i0).cell0 i0,trivial⟩,(acr _ _ h3).mono ?_⟩;rintro v k ⟨rfl,rfl⟩;refine⟨_,i0,trivial,?_⟩;refine c.lit af av agG i0 [nG (x.2:Nat) (y.2:Nat),nG x.1 y.1] i0 (show 2*1<=2^20 by decide) i0 λs g d=>⟨trivial,?_⟩
 refine(ahz s _ _ g (d.seq 2 i0 λ_=>rfl)).mono ?_;rintro v i ⟨rfl,rfl⟩;exact⟨_,i0,trivial,i0,d.aj⟩
theorem Yd{a b:Int}:nG a b<0↔a<b:=by unfold nG;split<;>(try split)<;>omega
theorem Ra{a b:Int}:nG a b=0↔a=b:=by unfold nG;split<;>(try split)<;>omega
theorem agH{x y:Fr}:ltOf Ba x y=eL↔((x.2:Nat):Int)<(y.2:Nat)∨(((x.2:Nat):Int)=(y.2:Nat)/\x.1<y.1):=by
 have h0:ltOf Ba x y=eL↔Ba x y<0:=by simp[ltOf]
 rw[h0,Ba,Yc];by_cases h:nG (x.2:Nat) (y.2:Nat)=0
 ·rw[g0 sz,Yd];have:=Ra.1 h;constructor
  ·exactλa=>.inr ⟨this,a⟩
  ·rintro(a|a)
   ·omega
   ·exact a.2
 ·rw[f9 h,Yd];have b:((x.2:Nat):Int)≠(y.2:Nat):=λe=>h (Ra.2 e);constructor
  ·exact .inl
  ·rintro(a|a)
   ·exact a
   ·exact absurd a.1 b
theorem IK{x y:Fr}:ltOf Ba x y=eR↔¬(((x.2:Nat):Int)<(y.2:Nat)∨(((x.2:Nat):Int)=(y.2:Nat)/\x.1<y.1)):=by rw[<-agH];simp
theorem ajc:Sort.SWO (ltOf Ba) where
 irrefl x:=IK.2 i4
 trans x y z h1 h2:=by rw[agH]at*;omega
 ntrans x y z h1 h2:=by rw[IK]at*;omega
theorem ajd(x y:Fr)(b:ltOf Ba x y=eR)(a:ltOf Ba y x=eR):x=y:=by rw[IK]at b a;refine va i4 (Fin.ext i4)
theorem UP{e:TypeId}{s:Sl}{l:List Fr}{h:f8}(d:Own h e s 2 AZ l)(a:ii l<2^40):
  ac xB 179 #[s,.func (.func 180) #[] #[]] h λv h'=>v=.tuple #[]/\Own h' e s 2 AZ (l.mergeSort λx y=>!(ltOf Ba) y x)/\be (λb=>¬s.on b) h h':=by
 have f:∀x:Fr,ii (AZ x)=2:=λ_=>rfl;refine RC (P:=xB) (id_:=179) (g:=180) (enc:=AZ) (k:=2) (cf:=Ba) f ?_ ?_ (λx y h=>UO x y h) d a
 ·intro fY cap l w n i j m;have:=AnyQ.slices_SortFunc_total Tryz.XV 2 Tryz.aiB Tryz.ahp AZ (λ_=>rfl) (λx v c=>by simp[AZ]at c;rcases c with rfl|rfl<;>rfl) Ba ajc 180 #[] fY 0 cap l.toArray w (enters_of Tryz.ahq j1 i0) l9 i j qa ajd;simp at this;exact this
 ·intro p cap w;exact AnyF.slices_SortFunc_none Tryz.XV p cap _ w
def Eb(a:aC)(n:Int):aC:=if 0<=n/\n<64/\a.contains n=eR then a++[n]else a
def ju(l:aC):aC:=l.foldl Eb []
theorem IL(l:aC){k:Nat}(a:k<ii l):ju (l.take (k+1))=Eb (ju (l.take k)) l[k]:=by rw[ju,aK _ _ a,zN];rfl
theorem UQ(l:aC):∀k,k<=ii l->∀x,x∈ju (l.take k)↔x∈l.take k/\0<=x/\x<64
 |0,_,x=>by simp[ju]
 |k+1,hk,x=>by
  have c:=UQ l k i4;rw[IL l i4,aK _ _ (show k<ii l by omega),Eb];by_cases h:0<=l[k]/\l[k]<64/\(ju (l.take k)).contains l[k]=eR
  ·rw[f9 h,qA,qA,qC,c x];constructor
   ·rintro(a|rfl)
    ·exact⟨.inl a.1,a.2⟩
    ·exact⟨.inr i0,h.1,h.2.1⟩
   ·rintro⟨a|a,b⟩
    ·exact .inl ⟨a,b⟩
    ·exact .inr a
  ·rw[g0 h,qA,qC,c x];constructor
   ·rintro a;exact⟨.inl a.1,a.2⟩
   ·rintro⟨a|rfl,b⟩
    ·exact⟨a,b⟩
    ·have:(ju (l.take k)).contains l[k]=eL:=by
      cases hc:(ju (l.take k)).contains l[k]with
      |true=>rfl
      |false=>exact absurd ⟨b.1,b.2,hc⟩ h
     exact(c _).1 (by simpa using this)
theorem UR(l:aC)(k:Nat):ii (ju (l.take k))<=k:=by
 induction k with
 |zero=>simp[ju]
 |succ k ih=>
  by_cases a:k<ii l
  ·rw[IL l a,Eb];split
   ·simp;omega
   ·omega
  ·rw[qi i4]at ih⊢;omega
def Fj(c:Nat)(n:Int):Fr:=(n,Fin.ofNat 129 (IJ n.toNat c).toNat)
theorem aje{c:Nat}{n:Int}(a:c<64)(d:0<=n)(b:n<64):(((Fj c n).2:Nat):Int)=IJ n.toNat c:=by have:=acp (i:=n.toNat) (j:=c) i4 a;show(((IJ n.toNat c).toNat%129:Nat):Int)=_;omega
def Ec(c:Nat)(l:aC):aC:=(((ju l).map (Fj c)).mergeSort λx y=>!(ltOf Ba) y x).map (·.1)
def fy(a block:Int)(l:aC):aC:=if 0<=a/\a<=16777215/\0<=block/\block<8 then Ec ((8*a+block)%64).toNat l else[]
def tU(a:aC):bg:=(qy 64).map λi:Nat=>xv (a.contains (i:Int))
theorem ahA(a:aC){n:Int}(b:0<=n)(c:n<64):(tU a)[n.toNat]?=dB (xv (a.contains n)):=by rw[tU,qT,zu i4,qZ,show((n.toNat:Nat):Int)=n by omega]
theorem aeY(a:aC){n:Int}(d:0<=n)(c:n<64):(tU a).set n.toNat (xv eL)=tU (a++[n]):=by
 apply zG;intro i;rw[q7,tU,tU,qT,qT,qz,zE];by_cases b:i<64
 ·rw[zu b,qZ,qZ];by_cases h:n.toNat=i
  ·rw[f9 h,f9 i4,show((i:Nat):Int)=n by omega];simp
  ·rw[g0 h];have:(a++[n]).contains (i:Int)=a.contains (i:Int):=by rw[List.contains_eq_mem,List.contains_eq_mem];simp;omega
   rw[this]
 ·rw[g0 i4,qQ i7];rfl
abbrev eFr:bY C.toDi 237 242 2 [xq xx 0,.float .f64 0] 16:=⟨_,_,i0,i0,i0,i0,i0,i0⟩
theorem ajf:∀x,∀c∈AZ x,c.oneCell'=eL:=by intro x c a;simp[AZ]at a;rcases a with rfl|rfl<;>rfl
theorem KK(b block:Int)(live:Sl)(l:aC)(h:f8)(U:Rd h live 1 av l)(ab:ii l<=2^30:=by omega):
  ac xB 109 #[xq xx b,xq xx block,live] h λv h'=>∃r:Sl,v=r/\Sp h h' [ak 3 r 1 av (fy b block l)]:=by
 have ah:=U.len;refine Nh b block live ?_;unfold Gc;have H:¬(0<=b/\b<=16777215/\0<=block/\block<8)->∃r:Sl,Value.slice eH 0 0=xr r.ptr r.len r.cap/\Sp h h [ak 3 r 1 av (fy b block l)]:=λQ=>by
  rw[fy,g0 Q];exact⟨⟨eH,0,0⟩,i0,(Sp.refl h).nil 3 1 av⟩
 refine bj (ai (λe=>H i4) λe1=>ai (λe=>H i4) λe2=>ai (λe=>H i4) λe3=>ai (λe=>H i4) λe4=>?_);have K:0<=b/\b<=16777215/\0<=block/\block<8:=i4
 rw[fy,f9 K];rw[al (8*b),al (8*b+block),yO i4];obtain⟨c,hc⟩:∃c:Nat,(8*b+block)%64=c:=⟨((8*b+block)%64).toNat,i4⟩
 have g:c<64:=i4
 rw[hc,ql];refine⟨i5,(Yb c h g).mono ?_⟩;rintro v h2 ⟨rfl,Z⟩;refine⟨((lD c).ax,(lD c).ay),i0,?_⟩;refine Z.alloc af i0 λa h3 H3=>?_;have S:Sp h h3 [au a 238 (tU []),ak 242 ⟨eH,0,0⟩ 2 AZ []]:=H3.nil 242 2 AZ;refine aA (λt:Sl×Nat=>(t.1,(t.2:Int))) (λt h'=>t.2<=ii l/\Sp h h' [au a 238 (tU (ju (l.take t.2))),ak 242 t.1 2 AZ ((ju (l.take t.2)).map (Fj c))]) (λt=>ii l-t.2) (⟨eH,0,0⟩,0) i0 ⟨i9,S⟩ ?_;rintro⟨s,k⟩ h4 ⟨hk,m⟩;dsimp only at*;have w:=UR l k;refine ai (λe=>?_) (λe=>?_)
 ·have D:k<ii l:=i4
  have F:=IL l D;obtain⟨f,E⟩:∃f,f=ju (l.take k):=⟨_,rfl⟩
  rw[<-E]at m w F;refine(Seq.up U m.aj).bH k i0 D _ i0 ?_;obtain⟨x,hx⟩:∃x,x=l[k]:=⟨_,rfl⟩
  rw[<-hx]at F⊢;refine bX (λt h'=>(t=eL↔0<=x/\x<64/\f.contains x=eR)/\h'=h4) ?_ ?_
  ·refine ai (λq=>ai (λp=>?_) λp=>⟨⟨λe=>j0,λz=>absurd z.2.1 p⟩,i0⟩) λq=>⟨⟨λe=>j0,λz=>absurd z.1 q⟩,i0⟩;refine⟨⟨q,p⟩,f.contains x,?_,?_,i0⟩
   ·rw[z6];exact(m.box 0 i0).cell (ahA f q p)
   ·cases f.contains x<;>simp<;>omega
  ·rintro t h5 ⟨V,rfl⟩;refine bC (λe=>?_) (λe=>?_)
   ·obtain⟨q,p,x2⟩:=V.1 e;refine⟨⟨q,p⟩,?_⟩;rw[z6];refine m.storeAt af 0 i0 i0 i0 i0 i0 (by simp[tU];omega) λI u=>?_;have L:Sp h I [au a 238 (tU (f++[x])),ak 242 s 2 AZ (f.map (Fj c))]:=by rw[<-aeY f q p];exact u
    obtain⟨n,Q⟩:∃n:Nat,x=n:=⟨x.toNat,i4⟩
    subst Q;refine(Yb n I i4).mono ?_;rintro v T ⟨rfl,R7⟩;refine⟨((lD n).ax,(lD n).ay),i0,(aeX n c T i4 g).mono ?_⟩;rintro v h8 ⟨rfl,rfl⟩;have G:=L.up R7.aj;have ev:dj (IJ n c)=dj (((Fj c (n:Int)).2:Nat):Int):=by rw[aje g i4 i4,ql]
    refine⟨_,i0,?_⟩;rw[ev];refine G.push af 1 i0 eFr i0 i5 (λ_=>rfl) ajf (Fj c (n:Int)) i0 i5 i7 λY h9 N=>?_;refine⟨(Y,k+1),jj,⟨i6,?_⟩,i6⟩;dsimp only;rw[F,Eb,f9 ⟨q,p,x2⟩,qU];exact N
   ·refine⟨(s,k+1),jj,⟨i6,?_⟩,i6⟩;dsimp only;rw[F,Eb,g0 λz=>by rw[V.2 z]at e;cases e];exact m
 have J:k=ii l:=i4
 subst J;rw[qY]at m w;refine(UP (m.own 1 i0) i7).mono ?_;rintro v h5 ⟨rfl,O,M⟩;have R:=m.nP 1 i0 M O;obtain⟨d,j⟩:∃d,d=((ju l).map (Fj c)).mergeSort λx y=>!(ltOf Ba) y x:=⟨_,rfl⟩
 have ad:ii d=ii (ju l):=by rw[j,wW,qz]
 have eo:Ec c l=d.map (·.1):=by rw[Ec,<-j]
 rw[<-j]at R;have X:=(R.own 1 i0).len;rw[eo];refine⟨(),i0,?_⟩;refine aA (λt:Sl×Nat=>(t.1,(t.2:Int))) (λt h'=>t.2<=ii d/\Sp h h' [ak 242 s 2 AZ d,ak 3 t.1 1 av ((d.take t.2).map (·.1))]) (λt=>ii d-t.2) (⟨eH,0,0⟩,0) i0 ⟨i9,(R.del 0).nil 3 1 av⟩ ?_;rintro⟨o,i⟩ I ⟨P,u⟩;dsimp only at*;refine ai (λe=>?_) (λe=>?_)
 ·have B:i<ii d:=i4
  refine(u.seq 0 i0 λ_=>rfl).eu i i0 B (d[i].1,dj ((d[i].2:Nat):Int)) i0 ?_;refine u.alloc af i0 λy T H7=>?_;refine H7.storeAll af 2 i0 i0 [xq xx d[i].1,.float .f64 (dj ((d[i].2:Nat):Int))] i0 i0 i0 i0 λh8 G=>?_;refine⟨d[i].1,(G.box 2 i0).cell0 i0,?_⟩;refine G.push af 1 i0 agG i0 i5 (λ_=>rfl) fD d[i].1 i0 i5 i7 λW h9 N=>?_;refine⟨(W,i+1),jj,⟨i6,?_⟩,i6⟩;dsimp only;rw[aK _ _ B,qU];exact N.del 2
 ·rw[qi i4]at u;exact⟨o,i0,u.take 1 λi A P=>by cases i with|zero=>exact P|succ i=>simp at P⟩
theorem aeZ(l:aC)(x:Int):x∈ju l↔x∈l/\0<=x/\x<64:=by
 have:=UQ l l.length (qm _) x
 rwa [qY]at this
theorem NX(c:Nat)(l:aC):(Ec c l).Perm (ju l):=by have h:=(wT ((ju l).map (Fj c)) λx y=>!(ltOf Ba) y x).map (·.1);rw[w6]at h;have e:((λx:Fr=>x.1)∘Fj c)=id:=rfl;rw[e,List.map_id]at h;exact h
theorem Rb(c:Nat)(l:aC)(x:Int):x∈Ec c l↔x∈l/\0<=x/\x<64:=by rw[(NX c l).mem_iff,aeZ]
def SF(l:aC)(i:Nat):Int:=l.getD i 0
def gj(o:aC)(id:Int):Int:=if o=[]∨id<0 then-1 else SF o (id%(ii o:Int)).toNat
theorem Ye(s:Sl)(o:aC)(id:Int)(h:f8)(f:Rd h s 1 av o):ac xB 111 #[s,xq xx id] h λv h'=>v=xq xx (gj o id)/\h'=h:=by
 have g:=f.len;refine Ue s id ?_;unfold Ni;refine bj (cy (λe=>⟨by rw[gj,f9 (.inl (za i4))],i0⟩) λe=>ai (λb=>⟨by rw[gj,f9 (.inr b)],i0⟩) λb=>?_);refine⟨e,?_⟩;have c:¬(o=[]∨id<0):=by
  rintro(rfl|h2)
  ·simp at g;omega
  ·exact b h2
 have d:wi id ((s.len:Nat):Int)=((id%(ii o:Int)).toNat:Int):=by rw[yO i4,g];have:=w5 id (show(ii o:Int)≠0 by omega);omega
 have a:(id%(ii o:Int)).toNat<ii o:=by have:=wm id (show(0:Int)<ii o by omega);omega
 rw[d];refine f.bH _ i0 a _ i0 ⟨?_,i0⟩;rw[gj,g0 c,SF,qe,qd a];rfl
def uO(p:Pm)(seed:Int)(d:Row)(id:Int):bf:=if bZ id then fW p.2.2.toNat (dv p seed d) (dz (bK p).toNat seed id)else[]
def ox(m:aG)(o b seed:Int)(d:Row)(id:Int):dm:=⟨o,b,id,m.p,seed,uO m.p seed d id⟩
def NY(m:aG)(o b seed:Int)(d:Row)(order:aC)(id:Int):Int×bf:=(gj order id,dG (ox m o b seed d id))
def nH(m:aG)(o:Int)(tries:aC)(a:cL)(live:aC)(i:Nat):List (Int×bf):=
 (qy (m.p.1+m.extra).toNat).map λid:Nat=>NY m o i (cz o i (tries.getD i 0)) (a.getD i []) (fy o i live) id
def dV(m:aG)(o:Int)(tries:aC)(a:cL)(live:aC)(n:Nat):List (Int×bf):=(qy n).flatMap (nH m o tries a live)
theorem uP(m:aG)(o:Int)(tries:aC)(a:cL)(live:aC)(n:Nat):dV m o tries a live (n+1)=dV m o tries a live n++nH m o tries a live n:=by unfold dV;rw[zQ,zd,zk,zZ,qO]
theorem NZ(m:aG)(o:Int)(tries:aC)(a:cL)(live:aC)(i:Nat):ii (nH m o tries a live i)=(m.p.1+m.extra).toNat:=by simp[nH]
theorem Bb(m:aG)(o:Int)(tries:aC)(a:cL)(live:aC):∀n,ii (dV m o tries a live n)=n*(m.p.1+m.extra).toNat
 |0=>by simp[dV]
 |n+1=>by rw[uP,qx,Bb m o tries a live n,NZ,zT]
theorem oQ(o b t:Int):0<=cz o b t/\cz o b t<4294967296:=by unfold cz;omega
section
variable {B:aD} {h0 h:f8} {As:List HP} {a pw:eX} {offs:Int} {da:List aO} {w:Pow} {ds:aJ}
theorem Sf(x:bU)(m:aG)(xe:dU)(e:Wl.cv)(s:Sl)(b:bf)(hS:St B h0 As λh=>df h x m/\dW jA h xe e/\Rd h s 1 aF b)(cf:s.len<=s.cap)(hz:cS m)(P:bP m.p=eL)(dd:0<=m.extra/\m.extra<=16)(c4:b.length<=2^20)
  (ht:di m.p e.object (splitB m.p b).length=dB e.tries) (H:aa B h0 h (bp bz a pw (aV x) offs da w ds::As)):
  ac xB 49 #[xt (dB a),UH xe,s] h λv h'=>∃(r:Sl) (ys:List (Int×Sl)),v=.tuple #[r,xv eL]/\
   aa B h0 h' (bp bz a pw (aV x) offs da w ds::cO jI 2 piv r ys (dV m e.object e.tries (splitB m.p b) (aT ds m.drives) (splitB m.p b).length)::As):=by
 refine Bl (dB a) xe s ?_;unfold pF;refine H.boxed λM h1 U=>?_;have U:=U.bA;have U:aa B h0 h1 (bp bz a pw (aV x) offs da w ds::au M 94 (bI xe)::As):=U.aX 2 [1,0];refine(fE x m (hS.at [_,_] U).1 hz U).mono ?_;rintro _ h2 ⟨lv,rfl,R2⟩;have H2:=(U.co R2).aX 3 [1,0,2];obtain⟨ok,ar⟩:=aa.dh H2;obtain⟨cc,c9,bd⟩:=hS.at [_,_,_] H2;have T:(x.2.2.1,x.2.2.2.1,x.2.2.2.2.1)=m.p:=cc.p;have d1:=(cu m.p).1 P;obtain⟨s1,s2,s3⟩:=rZ P;obtain⟨c1,c2,c3⟩:=mL P b.length;have cn:(aT ds m.drives).length<=m.drives.length:=qR _ _;have dk:=hz.dr;obtain⟨live,ay⟩:∃live,live=aT ds m.drives:=⟨_,rfl⟩
 rw[<-ay]at H2 cn⊢;obtain⟨c,G⟩:∃c,c=splitB m.p b:=⟨_,rfl⟩
 have a9:c.length<=2^20:=by rw[G];unfold splitB;simp;omega
 have ax:∀r∈c,r.length=gy m.p:=by rw[G];intro r hr;unfold splitB at hr;obtain⟨i,_,rfl⟩:=qu.1 hr;exact QS _ _ _
 refine⟨lv,i0,a,i0,(x.2.2.1,x.2.2.2.1,x.2.2.2.2.1),⟨by rw[addr_add];exact ar.cell i0,by rw[addr_add];exact ar.cell i0,by rw[addr_add];exact ar.cell i0,trivial⟩,?_⟩;rw[T];refine(WD m.p s b h2 P bd cf i4).mono ?_;rintro _ h3 ⟨q,rfl,R3⟩;rw[<-G]at R3 ht⊢;obtain⟨rs,H3⟩:=Go.Qw.aa.agE (H2.co R3) λ_=>rfl;have H3:=(H3.GZ 101 2 piv jI).bA;have H3:aa B h0 h3 (bp bz a pw (aV x) offs da w ds::cg 101 ⟨eH,0,0⟩ 2 piv jI (dV m e.object e.tries c live 0)::cO (oY 1 aF) 1 bw q rs c::ak 3 lv 1 av live::au M 94 (bI xe)::As):=H3.aX 5 [2,0,1,3,4];have d0:=(H3.eV 2 i0).1.len;have dy:=(H3.eV 2 i0).2.1;have c8:=kV ht;refine⟨q,i0,?_⟩;obtain⟨j,E⟩:∃j:Nat,j=(m.p.1+m.extra).toNat:=⟨_,rfl⟩
 have J:j<=32:=i4
 refine aA (λt:Sl×Nat=>(t.1,(t.2:Int))) (λt h'=>t.2<=c.length/\aa B h0 h' (bp bz a pw (aV x) offs da w ds::cg 101 t.1 2 piv jI (dV m e.object e.tries c live t.2)::cO (oY 1 aF) 1 bw q rs c::ak 3 lv 1 av live::au M 94 (bI xe)::As)) (λt=>c.length-t.2) (⟨eH,0,0⟩,0) i0 ⟨i9,H3⟩ ?_;rintro⟨o,i⟩ h4 ⟨hi,H4⟩;dsimp only at*;refine ai (λe1=>?_) (λe1=>?_)
 ·have Y:i<c.length:=i4
  have F4:=H4.eV 2 i0;have X:=H4.box 4 i0;obtain⟨bs,a3,c7⟩:=hS.at [_,_,_,_,_] H4;obtain⟨_,cr⟩:=aa.dh H4;obtain⟨t,a5,bb⟩:=Ch ht i i4;have cl:e.tries.getD i 0=(t:Int):=by rw[qe,qd i4];exact a5
  have b1:c.getD i []=c[i]:=by rw[qe,qd Y];rfl
  have N:∀{h':f8},cx h' M 94 (bI xe)->cellOf h' (M.add 1)=dB (xq xx e.object):=λ{h'} hb=>by rw[<-a3.1.2.1];exact hb.cell i0
  have cp:∀{h':f8},cx h' a 84 (cT (aV x) pw offs da)->aq h' (a.add 2) 0 [xq xx m.p.1,xq xx m.p.2.1,xq xx m.p.2.2]:=λ{h'} hb=>by
   rw[<-T];exact⟨lb,lb,lb,trivial⟩
  have a2:=Fix.row F4 Y;refine F4.1.bH i i0 i4 (rs[i]'(by omega)) i0 ?_;refine⟨e.object,N X,xe.2.2.2,X.cell i0,?_⟩;refine Seq.bH (f:=av) a3.2 i i0 i4 (t:Int) (by rw[a5];rfl) ?_;refine(rV _ _ _ h4).mono ?_;rintro _ _ ⟨rfl,rfl⟩;refine⟨_,i0,⟨X.cell i0,trivial⟩,a,i0,m.p,cp cr,?_⟩;obtain⟨seed,k⟩:∃seed,seed=cz e.object i t:=⟨_,rfl⟩
  have hg:=(IB bb).2.1;have ao:gC m.p seed (fV m.p)=eL:=by rw[k];exact hg
  obtain⟨K,Hh,w',n,BK⟩:=YV (seed:=seed) (d:=c[i]) P ao (by rw[ax _ (qg Y),s3]);rw[<-k];refine(ajb BK (rs[i]'(by omega)) _ a2.1 a2.2).mono ?_;rintro _ h6 ⟨Z,mm,rfl,R6⟩;have H6:=(H4.comp R6).front;have H6:aa B h0 h6 (bp bz a pw (aV x) offs da w ds::cg 101 o 2 piv jI (dV m e.object e.tries c live i)::cO (oY 1 aF) 1 bw q rs c::ak 3 lv 1 av live::au M 94 (bI xe)::fS 34 mm 1 aF (dv m.p seed c[i])::au Z 234 (CY m.p seed mm)::As):=H6.aX 7 [2,3,4,5,6,0,1];refine⟨(dB Z,0),i0,cb (λe2=>absurd i0 e2) λ_=>?_⟩;have bq:=H6.box 4 i0;refine⟨e.object,N bq,(KK e.object i lv live h6 (H6.seq 3 i0 λ_=>rfl)).mono ?_⟩;rintro _ h7 ⟨I,rfl,R7⟩;have H7:=(H6.co R7).aX 8 [1,2,3,4,5,6,7,0];obtain⟨order,l⟩:∃order,order=fy e.object i live:=⟨_,rfl⟩
  rw[<-l]at H7;have a4:=(aa.dh H7).2;have b2:x.2.2.1=m.p.1:=congrArg (·.1) T;refine⟨I,i0,a,i0,x.2.2.1,a4.cell i0,a,i0,x.2.2.2.2.2.1,a4.cell i0,?_⟩;have en:qc xx (x.2.2.1+x.2.2.2.2.2.1)=(j:Int):=by rw[b2,bs.extra,al _];omega
  dsimp only;rw[en];have O:nH m e.object e.tries c live i=(qy j).map λid:Nat=>NY m e.object i seed c[i] order id:=by unfold nH;rw[cl,b1,<-k,<-l,<-E]
  have cq:(nH m e.object e.tries c live i).length=j:=by rw[NZ,<-E]
  obtain⟨y,A⟩:∃y,y=dV m e.object e.tries c live i:=⟨_,rfl⟩
  have c0:y.length<=2^26:=by rw[A,Bb,<-E];have:=wq (show i<=2^20 by omega) J;omega
  obtain⟨Q,hQ⟩:∃Q,Q=nH m e.object e.tries c live i:=⟨_,rfl⟩
  rw[<-hQ]at O cq;rw[<-A]at H7;refine aA (λt:Sl×Nat=>(t.1,(t.2:Int))) (λt h'=>t.2<=j/\aa B h0 h' (bp bz a pw (aV x) offs da w ds::cg 101 t.1 2 piv jI (y++Q.take t.2)::cO (oY 1 aF) 1 bw q rs c::ak 3 lv 1 av live::au M 94 (bI xe)::fS 34 mm 1 aF (dv m.p seed c[i])::au Z 234 (CY m.p seed mm)::ak 3 I 1 av order::As)) (λt=>j-t.2) (o,0) i0 ⟨i9,by simpa using H7⟩ ?_;rintro⟨o2,id⟩ h8 ⟨hid,R⟩;dsimp only at*;refine ai (λe3=>?_) λe3=>?_
  ·have cs:id<j:=i4
   have ad:=R.box 4 i0;have ap:=(aa.dh R).2;have F:AY h8 Z m.p seed (dv m.p seed c[i]):=⟨mm,R.box 6 i0,R.GX 5 i0⟩
   have S:uO m.p seed c[i] id=if bZ id then fW w' (dv m.p seed c[i]) (dz n seed id)else[]:=by unfold uO;rw[BK.ru,show m.p.2.2.toNat=w' by have:=BK.s;omega]
   have held:∀{h':f8},be (λb=>b<h8.size) h8 h'->az.ok [((a.add 2),xq xx m.p.1),((a.add 2).add 1,xq xx m.p.2.1),((a.add 2).add 2,xq xx m.p.2.2),(M.add 1,xq xx e.object)] h':=λ{h'} P=>by
    obtain⟨q1,q2,q3,_⟩:=cp (ap.aj P ap.lt);exact⟨q1,q2,q3,N (ad.aj P ad.lt),trivial⟩
   refine bX (λ(a7:eX) h'=>∃r:Sl,aa B h0 h' (au a7 170 (bT (e.object,(i:Int),(id:Int),m.p.1,m.p.2.1,m.p.2.2,seed,r))::ak 5 r 1 aF (uO m.p seed c[i] id)::bp bz a pw (aV x) offs da w ds::cg 101 o2 2 piv jI (y++Q.take id)::cO (oY 1 aF) 1 bw q rs c::ak 3 lv 1 av live::au M 94 (bI xe)::fS 34 mm 1 aF (dv m.p seed c[i])::au Z 234 (CY m.p seed mm)::ak 3 I 1 av order::As)) ?_ ?_
   ·refine⟨e.object,N ad,a,i0,m.p,cp ap,?_,?_⟩
    ·refine(BK.symbol Z id h8 F).mono ?_;rintro _ h9 ⟨r,rfl,R9⟩;rw[<-S]at R9;have H9:=R.co R9;refine⟨r,i0,held R9.aj,H9.Hb af i0 λa28 dp br a0=>⟨held (aa.up R9 br).aj,?_⟩⟩;have a0:=a0.bA;refine a0.storeAll af 0 i0 i0 (bT (e.object,(i:Int),(id:Int),m.p.1,m.p.2.1,m.p.2.2,seed,r)) i0 i0 i0 i0 λdu b9=>⟨trivial,r,b9⟩
    ·refine R.Hb af i0 λd3 b0 ab ah=>⟨held ab,?_⟩
     have ah:=ah.bA;refine(BK.symbol Z id b0 (F.up ab)).mono ?_;rintro _ c6 ⟨r,rfl,am⟩;rw[<-S]at am;have b6:=(ah.co am).aX 2 [1,0];refine⟨r,i0,held (aa.up (Sp.zip ab) am.aj).aj,?_⟩;refine b6.storeAll af 0 i0 i0 (bT (e.object,(i:Int),(id:Int),m.p.1,m.p.2.1,m.p.2.2,seed,r)) i0 i0 i0 i0 λdx b7=>⟨trivial,r,b7⟩
   ·rintro a7 b5 ⟨r,L⟩;have g:=L.box 0 i0;have V:=oQ e.object i t;rw[<-k]at V;refine⟨(e.object,(i:Int),(id:Int),m.p.1,m.p.2.1,m.p.2.2,seed,r),g.aU _ i0,(Ye I order id b5 (L.seq 9 i0 λ_=>rfl)).mono ?_⟩;rintro _ b3 ⟨rfl,rfl⟩;refine⟨_,i0,⟨g.cell0 i0,g.cell i0,g.cell i0,g.cell i0,g.cell i0,g.cell i0,g.cell i0,g.cell i0,trivial⟩,?_⟩;refine(tQ (e.object,(i:Int),(id:Int),m.p.1,m.p.2.1,m.p.2.2,seed,r) (ox m e.object i seed c[i] id) b3 ⟨⟨i0,i0,i0,i0,i0,V.1,V.2⟩,L.seq 1 i0 λ_=>rfl⟩).mono ?_;rintro _ d2 ⟨u,rfl,b4⟩;have a6:=(L.co b4).fZ 0 i0 (D:=EA jI (gj order id,u) (NY m e.object i seed c[i] order id)) λz hz=>⟨i0,hz.1.seq (λ_=>rfl) hz.2⟩
    have a8:Q[id]'(by omega)=NY m e.object i seed c[i] order id:=by simp[O]
    refine⟨u,i0,trivial,?_⟩;refine a6.nQ af piv Uv i0 [(gj order id,u)] i0 (show 1*2<=2^20 by decide) i0 trivial ?_;refine aa.tE af a6 4 0 i5 (a:=(gj order id,u)) i0 i0 Uv i0 i5 (λ_=>rfl) PK (parts:=#[(0,xw #[xq xx (gj order id),u])]) j1 i5 i7 λo3 c5 cd=>⟨trivial,?_⟩
    refine⟨(o3,id+1),jj,⟨i6,?_⟩,i6⟩;dsimp only;rw[aK Q id,a8,<-qp];exact cd.rest.rest.rest
  ·have W:id=j:=i4
   subst W;rw[qi i4]at R;refine⟨(o2,i+1),jj,⟨i6,?_⟩,i6⟩;dsimp only;rw[uP,<-A,<-hQ];exact R.aX 8 [0,1,2,3,4]
 ·have W:i=c.length:=i4
  subst W;obtain⟨ys,H5⟩:=H4.OT 1 rfl λ_=>rfl;exact⟨o,ys,i0,H5.aX 5 [0,1]⟩
end
end Go.Qw
namespace Wl
open Go
def kX(a:Nat)(l:List (Int×bf))(k:Int):Int:=(a:Int)+ii (l.filter λy=>decide (y.1=k))
end Wl
namespace Go.Qw
open Go Go.Vc Go.Proofs Wl
theorem acs(k:Int)(c d:eX)(a:Nat)(r:Sl)(o:List (Int×Sl))(l:List (Int×bf))(h:f8)(A:a<=2^30)(F:ii l<=2^30)(s:cx h c 3 [xq xx a])(u:cx h d 89 [r])(p:oC jI 2 piv h r o l):
  ac xB 51 #[xq xx k,xt (dB c),xt (dB d)] h λv h'=>v=xq xx (kX a l k)/\Sp h h' []:=by
 refine Dt k c d ?_;unfold sA;have B:=p.1.len;have D:=p.2.1;refine⟨(a:Int),s.cell0 i0,r,u.cell0 i0,?_⟩;refine aA (λi:Nat=>(kX a (l.take i) k,(i:Int))) (λi h'=>i<=ii l/\Sp h h' []) (λi=>ii l-i) 0 (by simp[kX]) ⟨i4,Sp.refl h⟩ ?_;rintro i H ⟨G,t⟩;dsimp only;have w:(ii ((l.take i).filter λy=>decide (y.1=k)):Int)<=i:=by have:=qR (λy:Int×bf=>decide (y.1=k)) (l.take i);simp at this;omega
 refine ai (λe=>?_) λe=>?_
 ·have j:i<ii l:=i4
  have m:=oC.up p t.aj;refine m.1.eu (g:=piv) i i0 i4 (o[i]'(by omega)) i0 ?_;refine t.alloc af i0 λx E z=>?_;refine z.storeAll af 0 i0 i0 (piv (o[i]'(by omega))) i0 i0 i0 i0 λh3 n=>?_;have n:Sp h h3 [au x 101 (piv (o[i]'(by omega)))]:=n;have f:=Fix.row m j;have b:kX a (l.take (i+1)) k=kX a (l.take i) k+(if l[i].1=k then 1 else 0):=by
   unfold kX;rw[aK _ _ j,zm,qx,zq,vf];split
   ·rename_i q;rw[f9 (hZ q)];simp;omega
   ·rename_i q;rw[g0 qs];simp
  refine⟨l[i].1,by rw[<-f.1];exact(n.box 0 i0).cell0 i0,cy (λg=>?_) λg=>?_⟩
  ·refine⟨i+1,?_,⟨i4,.zip n.aj⟩,i4⟩;rw[b,f9 g,al (kX a (l.take i) k+1) (by unfold kX;omega) (by unfold kX;omega),al _];rfl
  ·refine⟨i+1,?_,⟨i4,.zip n.aj⟩,i4⟩;rw[b,g0 g,Int.add_zero,al _];rfl
 ·rw[qi i4];exact⟨i0,t⟩
def iH(m:aG)(offs:Int)(w:Pow)(ds:aJ)(name:ByteArray)(b:bf):Int×aG×Pow×aJ:=
 if eT m (eF w offs) ds name b.length≠0 then(eT m (eF w offs) ds name b.length,m,w,ds)else
 match di m.p m.next (splitB m.p b).length with
 |none=>(8,m,w,ds)
 |some t=>
  let live:=aT ds m.drives;let l:=dV m m.next t (splitB m.p b) live (splitB m.p b).length;let n:=iJ m ⟨name,m.next,ii b,t⟩;let N:=kX (bu n).length l
  if dP m ds live N=eR then(7,m,w,ds)else
  if(makes m N live w ds).1≠0 then((makes m N live w ds).1,m,(makes m N live w ds).2)else
  let a:=layAll l (makes m N live w ds).2.1 (makes m N live w ds).2.2
  if a.1≠0 then(a.1,m,a.2)else
  ((layAll (bM n live) a.2.1 a.2.2).1,if(layAll (bM n live) a.2.1 a.2.2).1=0 then n else m,(layAll (bM n live) a.2.1 a.2.2).2)
theorem se{m:aG}{d:Bool}{ds:aJ}{name:ByteArray}{n:Nat}(h:eT m d ds name n=0):
  d=eR/\mY name=eL/\m.aH.any (mM name)=eR/\¬(m.p.1*m.p.2.2*8<(n:Int)∨12<=ii m.aH)/\¬(aT ds m.drives=[]∨16777215<m.next∨2147483647<=m.seq):=by
 unfold eT at h;split at h
 ·cases h
 ·rename_i c;split at h
  ·cases h
  ·rename_i b;split at h
   ·cases h
   ·rename_i h3;split at h
    ·cases h
    ·rename_i e;split at h
     ·cases h
     ·rename_i a;exact⟨l5,j7,by simpa using h3,e,a⟩
theorem PP{m:aG}{b:bf}(a:bP m.p=eL)(h:¬m.p.1*m.p.2.2*8<(ii b:Int)):ii (splitB m.p b)<=8:=by obtain⟨f,g,c⟩:=rZ a;obtain⟨d,e,c3⟩:=mL a b.length;unfold splitB;rw[qz,zE];refine Nat.le_of_not_lt λh8=>?_;have:=c3 8 i4;rw[<-c]at h;omega
theorem ajg{o:aC}(b:o≠[])(id:Nat):gj o id∈o:=by
 unfold gj SF;rw[g0 (by rintro(h|h);exact b h;omega)];have c:0<ii o:=by cases o with|nil=>exact absurd rfl b|cons=>simp
 have a:((id:Int)%(ii o:Int)).toNat<ii o:=by have:=wm (id:Int) (show(0:Int)<ii o by omega);have:=w5 (id:Int) (show(ii o:Int)≠0 by omega);omega
 rw[qe,qd a];exact qg a
theorem US{m:aG}{o:Int}{tries:aC}{j:cL}{live:aC}(r:0<=o/\o<=16777215)(p:live≠[])(f:∀k∈live,0<=k/\k<64){n:Nat}(s:n<=8){y:Int×bf}(d:y∈dV m o tries j live n):y.1∈live/\y.2.length<=64:=by
 unfold dV at d;obtain⟨i,g,d⟩:=zP.1 d;have g:=qJ.1 g;unfold nH at d;obtain⟨id,_,rfl⟩:=qu.1 d;refine⟨?_,?_⟩
 ·show gj _ _∈live;have c:fy o i live=Ec ((8*o+i)%64).toNat live:=by unfold fy;rw[f9 i4]
  have b:∀a,a∈fy o i live↔a∈live/\0<=a/\a<64:=λa=>by rw[c];exact Rb _ _ _
  have e:fy o i live≠[]:=λh=>by
   cases live with
   |nil=>exact p i0
   |cons a l=>
    have:=(b a).2 ⟨qN,f a qN⟩;rw[h]at this;cases this
  exact((b _).1 (ajg e id)).1
 ·show(dG _).length<=64;unfold dG;split
  ·rename_i q;refine xd (mQ i5 i5 ?_);have:=px q;omega
  ·simp
theorem ahB{m:aG}{e:Wl.cv}(b:cS m)(g:m.aH.length<=11)(d:e.name.size<=2^30)(c:e.tries.length<=2^30):cS (iJ m e):=by
 refine⟨b.dr,?_,λf a=>?_⟩
 ·show((m.aH++[e]).mergeSort xD).length<=2^30;rw[wW];simp;omega
 ·have a:f∈(m.aH++[e]).mergeSort xD:=a;rcases qA.1 ((wT _ _).mem_iff.1 a)with h|h
  ·exact b.nm f h
  ·rw[qC.1 h];exact⟨d,c⟩
section
variable {B:aD} {h0 h:f8} {As:List HP} {a pw:eX} {offs:Int} {da:List aO} {w:Pow} {ds:aJ}
theorem afa(x:bU)(m:aG)(name:ByteArray)(s:Sl)(b:bf)(hS:St B h0 As λh=>Rd h s 1 aF b)(dp:s.len<=s.cap)(hn:name.size<=2^40)(V:cS m)(hp:bP m.p=eL)(cd:0<=m.extra/\m.extra<=16)(b5:∀k∈m.drives,0<=k/\k<64)(b3:m.drives.length<=64)(cf:0<=m.seq)(br:0<=m.next)(b2:b.length<=2^20)
  (H:aa B h0 h (bp bz a pw (aV x) offs da w ds::cj x m::As)):
  ac xB 10 #[xt (dB a),xu name,s] h λv h'=>v=xq xx (iH m offs w ds name b).1/\
   ∃y,aa B h0 h' (bp bz a pw (aV y) offs da (iH m offs w ds name b).2.2.1 (iH m offs w ds name b).2.2.2::cj y (iH m offs w ds name b).2.1::As):=by
 refine GA (dB a) name s ?_;unfold uV;have a0:=(hS.at [_,_] H).len;refine(UJ x m name s b.length a0 hn (H.at 1 i0) V hp H).mono ?_;rintro _ h1 ⟨rfl,R1⟩;have H1:=H.up R1.aj;refine⟨_,i0,cb (λe=>?_) λe1=>?_⟩
 ·have ep:iH m offs w ds name b=(eT m (eF w offs) ds name b.length,m,w,ds):=by unfold iH;rw[f9 e]
  rw[ep];exact⟨i0,x,H1⟩
 obtain⟨z1,z2,z3,z4,z5⟩:=se e1;have c2:¬m.p.1*m.p.2.2*8<(b.length:Int):=λh=>z4 (.inl h);have bs:m.aH.length<=11:=by have:¬12<=m.aH.length:=λh=>z4 (.inr h);omega
 have dd:aT ds m.drives≠[]:=λh=>z5 (.inl h);have c8:m.next<=16777215:=by have:¬16777215<m.next:=λh=>z5 (.inr (.inl h));omega
 have d1:m.seq<=2147483646:=by have:¬2147483647<=m.seq:=λh=>z5 (.inr (.inr h));omega
 have h8:=PP hp c2;have ei:name.size<=12:=by unfold mY at z2;simp at z2;omega
 have b9:=(aa.dh H1).2;have a6:df h1 x m:=H1.at 1 i0;refine⟨a,i0,x.2.1,b9.cell i0,H1.alloc af i0 λa4 h2 H2=>?_⟩;have H2:=H2.bA;refine H2.storeAll af 0 i0 i0 (bI (name,x.2.1,(s.len:Int),⟨eH,0,0⟩)) i0 i0 i0 i0 λh3 H3=>?_;have H3:aa B h0 h3 (au a4 94 (bI (name,m.next,(b.length:Int),⟨eH,0,0⟩))::bp bz a pw (aV x) offs da w ds::cj x m::As):=by rw[<-a6.next,<-a0];exact H3
 have cp:∀{h':f8},cx h' a 84 (cT (aV x) pw offs da)->aq h' (a.add 2) 0 [xq xx m.p.1,xq xx m.p.2.1,xq xx m.p.2.2]:=λ{h'} hb=>by
  rw[<-a6.p];exact⟨lb,lb,lb,trivial⟩
 obtain⟨P,O⟩:∃P,P=(splitB m.p b).length:=⟨_,rfl⟩
 have bl:countP m.p (s.len:Nat)=(P:Int):=by have:=(mL hp b.length).1;rw[O,a0];unfold splitB;rw[qz,zE];omega
 refine bX (λ(t:Sl×Bool) h'=>(di m.p m.next P=eH->t.2=eR/\aa B h0 h' (bp bz a pw (aV x) offs da w ds::cj x m::As))/\(∀l,di m.p m.next P=dB l->t.2=eL/\aa B h0 h' (ak 3 t.1 1 av l::au a4 94 (bI (name,m.next,(b.length:Int),⟨eH,0,0⟩))::bp bz a pw (aV x) offs da w ds::cj x m::As))) ?_ ?_
 ·have cr:=H3.box 0 i0;have X:=(aa.dh (H3.aX 3 [1,0,2])).2;refine⟨a,i0,m.p,cp X,m.next,cr.cell i0,a,i0,m.p,cp X,(Fb m.p s.len h3).mono ?_⟩;rintro _ h4 ⟨rfl,R4⟩;have H4:=H3.up R4.aj;have du:=X.aj R4.aj X.lt;obtain⟨q1,q2,q3,_⟩:=cp du;refine⟨_,i0,⟨(H4.box 0 i0).cell i0,q1,q2,q3,trivial⟩,?_⟩;rw[bl];refine(Zu m.p m.next P h4 i4).mono ?_;rintro _ h5 ⟨T0,T1⟩;cases ht:di m.p m.next P with
  |none=>
   obtain⟨rfl,R5⟩:=T0 ht;exact⟨(⟨eH,0,0⟩,eR),i0,trivial,λ_=>⟨i0,(H4.up R5.aj).aX 3 [1,2]⟩,λl h=>j6⟩
  |some l=>
   obtain⟨r,rfl,R5⟩:=T1 l ht;exact⟨(r,eL),i0,trivial,λh=>j6,λl' h=>(by injection h with h;subst h;exact⟨i0,H4.co R5⟩)⟩
 rintro⟨j,tb⟩ h6 ⟨T0,T1⟩;dsimp only at T0 T1⊢;cases ht:di m.p m.next P with
 |none=>
  obtain⟨rfl,H6⟩:=T0 ht;have ep:iH m offs w ds name b=(8,m,w,ds):=by unfold iH;rw[g0 n4,<-O,ht]
  rw[ep];exact bo (λ_=>⟨i0,x,H6⟩) λe=>j0
 |some t=>
  obtain⟨rfl,H6⟩:=T1 t ht;refine bo (λe=>j0) λ_=>?_;have d4:=kV ht;refine H6.store af 1 i0 i0 3 [j] i0 i0 i0 i9 λh7 H7=>?_;obtain⟨e,he⟩:∃e:Wl.cv,e=⟨name,m.next,b.length,t⟩:=⟨_,rfl⟩
  have H7:aa B h0 h7 (ak 3 j 1 av e.tries::au a4 94 (bI (name,m.next,(b.length:Int),j))::bp bz a pw (aV x) offs da w ds::cj x m::As):=by rw[he];exact H7
  have H7:=H7.aX 4 [2,3,0,1];have c6:St B h0 (cj x m::ak 3 j 1 av e.tries::au a4 94 (bI (name,m.next,(b.length:Int),j))::As) λh=>df h x m/\dW jA h (name,m.next,(b.length:Int),j) e/\Rd h s 1 aF b:=λBs h' i=>
   ⟨(St.dS 0 i0 λ_ o=>o) Bs h' i,(St.dS (A:=ak 3 j 1 av e.tries) (Q:=λh=>dW jA h (name,m.next,(b.length:Int),j) e) 1 i0 λh' o=>⟨by rw[he];exact⟨i0,i0,i0⟩,o.1.seq (λ_=>rfl) o.2⟩) Bs h' i,(hS.cons.cons.cons) Bs h' i⟩
  refine⟨(name,m.next,(b.length:Int),j),(H7.box 3 i0).aU _ i0,?_⟩;refine(Sf x m (name,m.next,(b.length:Int),j) e s b c6 dp V hp cd b2 (by rw[he,<-O];exact ht) H7).mono ?_;rintro _ eg ⟨r,ys,rfl,H8⟩;obtain⟨live,c⟩:∃live,live=aT ds m.drives:=⟨_,rfl⟩
  obtain⟨l,hl⟩:∃l,l=dV m m.next t (splitB m.p b) live P:=⟨_,rfl⟩
  have b7:dV m e.object e.tries (splitB m.p b) (aT ds m.drives) (splitB m.p b).length=l:=by rw[hl,he,<-c,<-O]
  rw[b7]at H8;refine⟨(r,eL),i0,H8.alloc af i0 λf h9 H9=>?_⟩;have H9:=H9.bA;refine H9.storeAll af 0 i0 i0 [r] i0 i0 i0 i0 λar q=>?_;refine bo (λe=>j0) λ_=>?_;obtain⟨n,Y⟩:∃n,n=iJ m e:=⟨_,rfl⟩
  have q:aa B h0 ar (au f 89 [r]::bp bz a pw (aV x) offs da w ds::cO jI 2 piv r ys l::cj x m::ak 3 j 1 av e.tries::au a4 94 (bI (name,m.next,(b.length:Int),j))::As):=q;have q:aa B h0 ar (uC j 1 av e.tries::bp bz a pw (aV x) offs da w ds::cj x m::cO jI 2 piv r ys l::au f 89 [r]::au a4 94 (bI (name,m.next,(b.length:Int),j))::As):=(q.freeze 4 i0 λ_=>rfl).aX 6 [4,1,3,2,0,5];have b1:((name,m.next,(b.length:Int),j):dU).1=e.name/\((name,m.next,(b.length:Int),j):dU).2.1=e.object/\((name,m.next,(b.length:Int),j):dU).2.2.1=e.length:=by rw[he];exact⟨i0,i0,i0⟩
  have M:∀{h':f8} {Cs:List HP},aa B h0 h' (uC j 1 av e.tries::Cs)->df h' x m->ac xB 50 #[fw x,UH (name,m.next,(b.length:Int),j)] h' λv cl=>∃y:bU,v=fw y/\aa B h0 cl (cj y n::Cs):=λ{h' Cs} i hx'=>by
   rw[Y];exact aci x m _ e hx' V ⟨cf,i4⟩ ⟨br,i4⟩ bs b1 i
  have L:=(aa.dh (q.aX 2 [1,0])).2;have J:=q.box 5 i0;have a7:df ar x m:=q.at 2 i0;refine bX (λ(t:eX×Sl) h'=>∃y,aa B h0 h' (bp bz a pw (aV x) offs da w ds::cj x m::cO jI 2 piv r ys l::au f 89 [r]::au t.1 44 (aV y)::cj y n::ak 3 t.2 1 av live::As)) ?_ ?_
  ·refine⟨a,i0,x,L.aU _ i0,(name,m.next,(b.length:Int),j),J.aU _ i0,?_,?_⟩
   ·refine(M q a7).mono ?_;rintro _ d9 ⟨y,rfl,G⟩;have G:=G.aX 6 [1,2,3,4,0];refine⟨y,i0,trivial,?_,?_⟩
    ·refine(fE x m (G.at 1 i0) V G).mono ?_;rintro _ d7 ⟨I,rfl,a5⟩;rw[<-c]at a5;have cn:=G.co a5;refine⟨I,i0,trivial,cn.alloc af i0 λd0 d2 ax=>⟨trivial,?_⟩⟩;have ax:=ax.bA;refine ax.storeAll af 0 i0 i0 (aV y) i0 i0 i0 i0 λec c1=>⟨trivial,y,?_⟩
     exact c1.aX 7 [2,3,4,5,0,6,1]
    ·refine G.alloc af i0 λa22 ed Z=>⟨trivial,?_⟩
     have Z:=Z.bA;have ah:=Z.aX 6 [1,2,3,4,5,0];refine(fE x m (ah.at 1 i0) V ah).mono ?_;rintro _ d8 ⟨I,rfl,b0⟩;rw[<-c]at b0;have c7:=(Z.co b0).aX 2 [1,0];refine⟨I,i0,trivial,c7.storeAll af 0 i0 i0 (aV y) i0 i0 i0 i0 λeh cs=>⟨trivial,y,?_⟩⟩;exact cs.aX 7 [2,3,4,5,0,6,1]
   ·refine q.Hb af i0 λek ej bq W=>?_;have d:=L.aj bq L.lt;have F:=J.aj bq J.lt;refine⟨⟨F.cell0 i0,F.cell i0,F.cell i0,F.cell i0,d.cell0 i0,d.cell i0,d.cell i0,d.cell i0,d.cell i0,d.cell i0,d.cell i0,d.cell i0,trivial⟩,?_⟩;have W:=(W.bA).aX 7 [1,0,2,3,4,5];refine(M W (W.at 3 i0)).mono ?_;rintro _ dy ⟨y,rfl,c9⟩;have K:=c9.aX 6 [2,3,4,5,0,1];refine⟨y,i0,trivial,(fE x m (K.at 1 i0) V K).mono ?_⟩;rintro _ ef ⟨I,rfl,bk⟩;rw[<-c]at bk;have cq:=(K.co bk).aX 7 [6,0,1,2,3,4,5];refine⟨I,i0,trivial,cq.storeAll af 0 i0 i0 (aV y) i0 i0 i0 i0 λeq dr=>⟨trivial,y,?_⟩⟩;exact dr.aX 7 [2,3,4,5,0,6,1]
  rintro⟨am,I⟩ c0 ⟨y,ab⟩;dsimp only at ab⊢;have ao:cS n:=by rw[Y];exact ahB V bs (by rw[he];show name.size<=2^30;omega) (by rw[he];show t.length<=2^30;omega)
  have dx:n.drives=m.drives:=by rw[Y];rfl
  have en:live.length<=64:=by rw[c];exact zf (qR _ _) b3
  have u:∀k∈live,0<=k/\k<64:=λk hk=>by rw[c]at hk;exact b5 k (qI.1 hk).1
  have bb:(m.p.1+m.extra).toNat<=32:=by have:=(cu m.p).1 hp;omega
  have eb:l.length<=256:=by rw[hl,Bb];exact wq (show P<=8 by omega) bb
  have c5:∀z∈l,(0<=z.1/\z.1<64)/\z.2.length<=2^20:=λz bd=>by
   rw[hl]at bd;obtain⟨p1,p2⟩:=US (m:=m) ⟨br,c8⟩ (by rw[c];exact dd) u (show P<=8 by omega) bd;exact⟨u _ p1,zf p2 i5⟩
  refine⟨y,(ab.box 4 i0).aU _ i0,(nX y n c0 (ab.at 5 i0) ao).mono ?_⟩;rintro _ el ⟨pg,rfl,a3⟩;have ad:=(aa.Ai a3).1;have a1:=jW n ao;obtain⟨pn,a8⟩:∃pn,pn=(bu n).length:=⟨_,rfl⟩
  rw[<-a8]at ad a1;have c4:=ab.up a3.aj;refine⟨pg,i0,c4.alloc af i0 λD d6 ap=>?_⟩;have ap:=ap.bA;refine ap.storeAll af 0 i0 i0 [xq xx (pg.len:Int)] i0 i0 i0 i0 λdk E=>?_;rw[ad]at E;have E:aa B h0 dk (bp bz a pw (aV x) offs da w ds::cj x m::cO jI 2 piv r ys l::au f 89 [r]::au am 44 (aV y)::cj y n::ak 3 I 1 av live::au D 3 [xq xx (pn:Int)]::As):=E.aX 8 [1,2,3,4,5,6,7,0];obtain⟨N,hN⟩:∃N,N=kX pn l:=⟨_,rfl⟩
  obtain⟨T,R⟩:∃T,T=cj x m::cO jI 2 piv r ys l::au f 89 [r]::au am 44 (aV y)::cj y n::ak 3 I 1 av live::au D 3 [xq xx (pn:Int)]::As:=⟨_,rfl⟩
  have tX:St B h0 T λh=>df h x m:=by rw[R];exact St.dS 0 i0 λ_ o=>o
  have tF:St B h0 T λh=>oC jI 2 piv h r ys l:=by rw[R];exact St.dS 1 i0 λ_ o=>o
  have tB:St B h0 T λh=>cx h f 89 [r]:=by rw[R];exact St.dS (A:=au f 89 [r]) 2 i0 λ_ o=>o.1
  have tM:St B h0 T λh=>cx h am 44 (aV y):=by rw[R];exact St.dS (A:=au am 44 (aV y)) 3 i0 λ_ o=>o.1
  have tY:St B h0 T λh=>df h y n:=by rw[R];exact St.dS 4 i0 λ_ o=>o
  have tL:St B h0 T λh=>Rd h I 1 av live:=by rw[R];exact St.dS (A:=ak 3 I 1 av live) 5 i0 λ_ o=>o.1.seq (λ_=>rfl) o.2
  have tN:St B h0 T λh=>cx h D 3 [xq xx (pn:Int)]:=by rw[R];exact St.dS (A:=au D 3 [xq xx (pn:Int)]) 6 i0 λ_ o=>o.1
  have tT:St B h0 T λh=>SE 51 #[] #[xt (dB D),xt (dB f)] N live h:=λBs h' i k hk=>by
   rw[hN];exact acs k D f pn r ys l h' i4 i4 (tN Bs h' i) (tB Bs h' i) (tF Bs h' i)
  have fin:∀{h':f8} {z:bU} {w':Pow} {ay:aJ},aa B h0 h' (bp bz a pw (aV x) offs da w' ay::T)->aa B h0 h' (bp bz a pw (aV x) offs da w' ay::cj x m::As):=λ{h' z w' ay} i=>by
   rw[R]at i;exact i.aX 8 [0,1]
  rw[<-R]at E;have ep:iH m offs w ds name b=(if dP m ds live N=eR then(7,m,w,ds)else if(makes m N live w ds).1≠0 then((makes m N live w ds).1,m,(makes m N live w ds).2)else
    if(layAll l (makes m N live w ds).2.1 (makes m N live w ds).2.2).1≠0 then((layAll l (makes m N live w ds).2.1 (makes m N live w ds).2.2).1,m,(layAll l (makes m N live w ds).2.1 (makes m N live w ds).2.2).2)else
    ((layAll (bM n live) (layAll l (makes m N live w ds).2.1 (makes m N live w ds).2.2).2.1 (layAll l (makes m N live w ds).2.1 (makes m N live w ds).2.2).2.2).1,if(layAll (bM n live) (layAll l (makes m N live w ds).2.1 (makes m N live w ds).2.2).2.1 (layAll l (makes m N live w ds).2.1 (makes m N live w ds).2.2).2.2).1=0 then n else m,(layAll (bM n live) (layAll l (makes m N live w ds).2.1 (makes m N live w ds).2.2).2.1 (layAll l (makes m N live w ds).2.1 (makes m N live w ds).2.2).2.2).2)):=by
   rw[hN,a8,hl,Y,he,c];unfold iH;rw[g0 n4,<-O,ht]
  rw[ep];refine(NT 51 #[] #[xt (dB D),xt (dB f)] N x m I live ld (λBs h' i=>⟨tX Bs h' i,tT Bs h' i⟩) V (tL.at [_] E) i4 u E).mono ?_;rintro _ ea ⟨rfl,b6⟩;have a9:=E.up b6.aj;refine⟨_,i0,bo (λg=>?_) λg=>?_⟩
  ·rw[f9 g];exact⟨i0,x,fin (z:=x) a9⟩
  rw[g0 (by rw[g];decide)];refine(NU 51 #[] #[xt (dB D),xt (dB f)] N x m I live ld (λBs h' i=>⟨tX Bs h' i,tT Bs h' i,tL Bs h' i⟩) V i4 u a9).mono ?_;rintro _ d5 ⟨rfl,S⟩;obtain⟨m1,b4⟩:∃m1,m1=makes m N live w ds:=⟨_,rfl⟩
  rw[<-b4]at S⊢;refine⟨_,i0,cb (λg2=>?_) λg2=>?_⟩
  ·rw[f9 g2];exact⟨i0,x,fin (z:=x) S⟩
  rw[g0 (by simpa using g2)];refine⟨r,(tB.at [_] S).cell0 i0,(Iz r ys l tF i4 c5 S).mono ?_⟩;rintro _ eo ⟨rfl,U⟩;obtain⟨r2,cc⟩:∃r2,r2=layAll l m1.2.1 m1.2.2:=⟨_,rfl⟩
  rw[<-cc]at U⊢;refine⟨_,i0,cb (λg3=>?_) λg3=>?_⟩
  ·rw[f9 g3];exact⟨i0,x,fin (z:=x) U⟩
  rw[g0 (by simpa using g3)];refine⟨y,(tM.at [_] U).aU _ i0,(NW x y n I live (λBs h' i=>⟨tY Bs h' i,tL Bs h' i⟩) ao i4 u U).mono ?_⟩;rintro _ d3 ⟨rfl,Q1,Q0⟩;refine⟨_,i0,i0,?_⟩;by_cases g4:(layAll (bM n live) r2.2.1 r2.2.2).1=0
  ·obtain⟨y2,a2⟩:=Q0 g4;rw[f9 g4];rw[R]at a2;exact⟨y2,a2.aX 9 [0,1]⟩
  ·rw[g0 g4];exact⟨x,fin (z:=x) (Q1 g4)⟩
end
theorem ZD(n:Nat)(x:Int)(h:f8)(j:n<=2^30):ac xB 11 #[xq xx n,xq xx x] h λv h'=>∃(r:Sl) (l:bf),v=r/\l.length=n/\Sp h h' [ak 5 r 1 aF l]:=by
 refine Bh n x ?_;unfold pC;refine aA (λt:Sl×Nat×bf=>(t.1,(t.2.1:Int))) (λt h'=>t.2.1<=n/\t.2.2.length=t.2.1/\Sp h h' [ak 5 t.1 1 aF t.2.2]) (λt=>n-t.2.1) (⟨eH,0,0⟩,0,[]) i0 ⟨i9,i0,(Sp.refl h).nil 5 1 aF⟩ ?_;rintro⟨o,i,l⟩ p ⟨m,g,a⟩;dsimp only at*;refine ai (λe=>?_) λe=>?_
 ·have f:i<n:=i4
  refine⟨i5,Int.tmod_nonneg _ i4,?_⟩;rw[ey];generalize b8 (qc xx _)=c;refine a.push af 0 i0 hJ i0 i5 (λ_=>rfl) iM c i0 i5 i4 λd k b=>?_;refine⟨(d,i+1,l++[c]),jj,⟨i6,?_,b⟩,i6⟩;simp[g]
 ·exact⟨o,l,i0,i4,a⟩
end Go.Qw
namespace Go.Vc
open Go Wl Go.Qw
section
variable {α:Type} {B:aD} {h0 h:f8} {As:List HP} {k:Nat} {f:α->bg} {L M:List (Sl×List α)}
theorem aa.afb(H:aa B h0 h (dO k f L::dO k f M::As)):aa B h0 h (dO k f (L++M)::As):=by
 have g:aa B h0 h ((dO k f M).sep (dO k f L)::As):=H.mj;refine g.fZ 0 i0 λq ⟨i,j,_,b,c,d,e⟩ y a=>?_;rcases qA.1 a with a|a
 ·exact(e y a).mono c
 ·exact(d y a).mono b
end
end Go.Vc
namespace Wl
open Go
def Fk(o b:Int)(a:List dm):List (Int×bf):=(a.filter λr=>decide (r.object=o)&&decide (r.block=b)).map λr=>(r.id,r.data)
def Ed(m:aG)(o b:Int)(l:cL):List (Int×bf):=((eZ m l).filter λr=>decide (r.object=o)&&decide (r.block=b)).map λr=>(r.id,r.data)
def iQ(m:aG)(ds:aJ)(o b:Int)(k:Int):List (Int×bf):=match bh ds k with|some d=>Ed m o b d.l|none=>[]
def fN(m:aG)(ds:aJ)(bV:aC)(o b:Int):List (Int×bf):=bV.flatMap (iQ m ds o b)
end Wl
namespace Go.Qw
open Go Go.Vc Go.Proofs Wl
abbrev akk:bY C.toDi 114 117 2 [xq xx 0,xr eH 0 0] 32:=⟨_,_,i0,i0,i0,i0,i0,i0⟩
def ZE(pool:List (Sl×bf))(p:(Int×Sl)×(Int×bf)):Prop:=p.1.1=p.2.1/\(p.1.2,p.2.2)∈pool
section
variable {B:aD} {h0 h:f8} {As:List HP} {a pw:eX} {offs:Int} {da:List aO} {w:Pow} {ds:aJ} {mc:bg}
theorem IM(x:bU)(m:aG)(s:Sl)(bV:aC)(o b:Int)(hx:df h x m)(hz:cS m)(hs:Rd h s 1 av bV)(hl:bV.length<=2^10)(hd:∀k∈bV,∃d,bh ds k=dB d)(H:aa B h0 h (bp bz a pw mc offs da w ds::As)):
  ac xB 63 #[.func (.func 35) #[xt (dB a)] #[],s,fw x,xq xx o,xq xx b] h λv h'=>∃(r:Sl) (ys:List (Int×Sl)),v=r/\Sp h h' [cO jI 2 piv r ys (fN m ds bV o b)]:=by
 refine MS (35,#[xt (dB a)],#[]) s x o b ?_;unfold FW;have bl:=hs.len;refine(Sp.refl h).boxed λa1 N H1=>?_;have H1:Sp h N [au a1 44 (aV x)]:=H1;have H1:Sp h N [ak 117 ⟨eH,0,0⟩ 2 piv (([]:List ((Int×Sl)×(Int×bf))).map qH),dO 1 aF [],au a1 44 (aV x)]:=((H1.XX 1 aF).nil 117 2 piv).cG [2,0,1];refine aA (λt:Sl×Nat×List ((Int×Sl)×(Int×bf))×List (Sl×bf)=>(t.1,(t.2.1:Int))) (λt h'=>t.2.1<=bV.length/\t.2.2.1.length<=t.2.1*512/\t.2.2.1.map zJ=fN m ds (bV.take t.2.1) o b/\(∀p∈t.2.2.1,ZE t.2.2.2 p)/\Sp h h' [ak 117 t.1 2 piv (t.2.2.1.map qH),dO 1 aF t.2.2.2,au a1 44 (aV x)]) (λt=>bV.length-t.2.1) (⟨eH,0,0⟩,0,[],[]) i0 ⟨i9,i9,by simp[fN],i9,H1⟩ ?_;rintro⟨u,i,L,P⟩ h2 ⟨hi,a6,M,T,Z⟩;dsimp only at*;refine ai (λe=>?_) λe=>?_
 ·have S:i<bV.length:=i4
  refine(Seq.up hs Z.aj).bH i i0 S bV[i] i0 (bj ?_);obtain⟨d,E⟩:=hd bV[i] (qg S);have Hc:=H.up Z.aj;obtain⟨ok,hb⟩:=aa.dh Hc;have f:=Z.box 2 i0;refine⟨x,f.aU _ i0,ff ld ?_⟩;refine(mS bV[i] ok hb).mono ?_;rintro _ h3 ⟨rfl,rfl⟩;refine⟨_,i0,⟨f.cell0 i0,f.cell i0,f.cell i0,f.cell i0,f.cell i0,f.cell i0,f.cell i0,f.cell i0,trivial⟩,?_⟩;rcases nD ok bV[i]with⟨c1,c2⟩|⟨n,d',bb,c0,c1,c2,c3,c4,c5⟩
  ·rw[E]at c1;cases c1
  have am:d=d':=by rw[c3]at E;injection E with E;exact E.symm
  subst am;rw[c5];obtain⟨a7,A,H3⟩:=Go.Vc.aa.jV Hc c2;rw[c4]at A;injection A with A
  injection A with A
  subst A;obtain⟨W,sd,bd,ad⟩:=aa.rS H3;have a4:=W.len;have ar:=W.room;refine(IA bb pw d sd bd x m h3 (ad.box 0 i0) ((ad.aX 2 [1]).FH λ_=>rfl) W (hx.up Z.aj) hz).mono ?_;rintro _ h4 ⟨r7,G,rfl,R4⟩;have a0:=Cj m d.l;obtain⟨c,I⟩:∃c,c=eZ m d.l:=⟨_,rfl⟩
  rw[<-I]at R4 a0;have H4:=(Z.co R4).aX 4 [1,2,0,3];have F4:=H4.eV 2 i0;have br:=F4.2.1;have bk:=F4.1.len;refine⟨r7,i0,trivial,?_⟩;have ao:iQ m ds o b bV[i]=Fk o b c:=by unfold iQ;rw[E];show Ed m o b d.l=_;unfold Ed Fk;rw[I]
  have U:fN m ds (bV.take (i+1)) o b=fN m ds (bV.take i) o b++Fk o b c:=by unfold fN;rw[aK _ _ S,zd,zk,zZ,qO,ao]
  obtain⟨Q,hQ⟩:∃Q:List (Sl×bf),Q=(G.zip c).map λz=>(z.1.2.2.2.2.2.2.2,z.2.data):=⟨_,rfl⟩
  refine aA (λt:Sl×Nat×List ((Int×Sl)×(Int×bf))=>(t.1,(t.2.1:Int))) (λt h'=>t.2.1<=c.length/\t.2.2.length<=L.length+t.2.1/\t.2.2.map zJ=fN m ds (bV.take i) o b++Fk o b (c.take t.2.1)/\(∀p∈t.2.2,ZE (P++Q) p)/\Sp h h' [ak 117 t.1 2 piv (t.2.2.map qH),dO 1 aF P,cO fx 8 bT r7 G c,au a1 44 (aV x)]) (λt=>c.length-t.2.1) (u,0,L) i0 ⟨i9,i9,by simp[Fk,M],λp O=>⟨(T p O).1,List.mem_append_left _ (T p O).2⟩,H4⟩ ?_;rintro⟨Y,j,L2⟩ h5 ⟨hj,a8,K,V,H5⟩;dsimp only at*;have F5:=H5.eV 2 i0;refine ai (λe2=>?_) λe2=>?_
  ·have ab:j<c.length:=i4
   have ah:=Fix.row F5 ab;obtain⟨⟨g1,g2,g3,g4,g5,g6,g7⟩,g8⟩:=ah;refine F5.1.eu (g:=bT) j i0 i4 (G[j]'(by omega)) i0 ?_;refine H5.alloc af i0 λay h6 H6=>?_;refine H6.storeAll af 4 i0 i0 (bT (G[j]'(by omega))) i0 i0 i0 i0 λh7 X=>?_;have X:Sp h h7 [ak 117 Y 2 piv (L2.map qH),dO 1 aF P,cO fx 8 bT r7 G c,au a1 44 (aV x),au ay 170 (bT (G[j]'(by omega)))]:=X;have J:=X.box 4 i0;have R:Fk o b (c.take (j+1))=Fk o b (c.take j)++(if(decide (c[j].object=o)&&decide (c[j].block=b))=eL then[(c[j].id,c[j].data)]else[]):=by unfold Fk;rw[aK _ _ ab,zm,qU,zq,vf];split<;>rfl
   have skip:(decide (c[j].object=o)&&decide (c[j].block=b))=eR->∃F:Sl×Nat×List ((Int×Sl)×(Int×bf)),((⟨Y.ptr,Y.len,Y.cap⟩:Sl),qc xx ((j:Int)+1))=(F.1,(F.2.1:Int))/\(F.2.1<=c.length/\F.2.2.length<=L.length+F.2.1/\F.2.2.map zJ=fN m ds (bV.take i) o b++Fk o b (c.take F.2.1)/\(∀p∈F.2.2,ZE (P++Q) p)/\Sp h h7 [ak 117 F.1 2 piv (F.2.2.map qH),dO 1 aF P,cO fx 8 bT r7 G c,au a1 44 (aV x)])/\c.length-F.2.1<c.length-j:=λhc=>
    ⟨(Y,j+1,L2),jj,⟨i6,i6,by dsimp only;rw[R,hc];simpa using K,V,X.cG [0,1,2,3]⟩,i6⟩
   refine⟨c[j].object,by rw[<-g1];exact J.cell0 i0,cy (λq1=>?_) λq1=>skip (by rw[hU q1];rfl)⟩;refine⟨c[j].block,by rw[<-g2];exact J.cell i0,cy (λq2=>?_) λq2=>skip (by rw[hU q2,Bool.and_false])⟩;refine⟨c[j].id,by rw[<-g3];exact J.cell i0,(G[j]'(by omega)).2.2.2.2.2.2.2,J.cell i0,?_⟩;refine X.push af 0 i0 akk i0 i5 (λ_=>rfl) PK (c[j].id,(G[j]'(by omega)).2.2.2.2.2.2.2) j1 i5 i7 λu3 a9 a3=>?_;refine⟨(u3,j+1,L2++[((c[j].id,(G[j]'(by omega)).2.2.2.2.2.2.2),(c[j].id,c[j].data))]),jj,⟨i6,i7,?_,λp O=>?_,?_⟩,i6⟩
   ·dsimp only;rw[qU,K,R,f9 (by rw[g9 q1,g9 q2];rfl),qp];rfl
   ·rcases qA.1 O with O|O
    ·exact V p O
    ·rw[qC.1 O];refine⟨i0,List.mem_append_right _ ?_⟩;rw[hQ];refine qu.2 ⟨(G[j]'(by omega),c[j]),?_,i0⟩;rw[<-y9 (h:=by simp;omega)];exact qg _
   ·dsimp only;rw[qU];exact a3.cG [0,1,2,3]
  ·have ax:j=c.length:=i4
   subst ax;rw[qY,<-U]at K;have a5:=F5.2.1;have H6:=(H5.fZ 2 i0 (D:=dO 1 aF Q) λq hq y hy=>by
    rw[hQ]at hy;obtain⟨z,a2,rfl⟩:=qu.1 hy;obtain⟨k,hk,rfl⟩:=qK a2;have ap:k<c.length:=by simp at hk;omega
    have:=(Fix.row hq ap).2;rw[y9];exact this).cG [1,2,0,3]
   have X:=aa.afb H6;refine⟨(Y,i+1,L2,P++Q),jj,⟨i6,i6,K,V,X.cG [1,0,2]⟩,i6⟩
 ·rw[qi i4]at M;refine⟨u,L.map qH,i0,?_⟩;have H3:=((Z.freeze 0 i0 λ_=>rfl).cG [1,0]).mj;refine H3.fZ 0 i0 λq ⟨q1,q2,_,bq,cq,z1,z2⟩=>?_;refine⟨z1.mono bq,by rw[<-M];simp,λj r e N h2=>?_⟩;rw[<-M]at h2;rw[qT]at N h2;cases hj:L[j]? with
  |none=>rw[hj]at N;cases N
  |some p=>
   rw[hj]at N h2;have e1:=zR.inj (show dB p.1=dB r from N);have e2:=zR.inj (show dB p.2=dB e from h2);subst e1;subst e2;obtain⟨k1,k2⟩:=T p (List.mem_of_getElem? hj);exact⟨k1,(z2 _ k2).mono cq⟩
end
end Go.Qw
namespace Wl
open Go
def de(m:aG)(ds:aJ)(o b:Int)(live:aC):ct:=live.map λk=>(fN m ds [k] o b).map qH
end Wl
namespace Go.Qw
open Go Go.Vc Go.Proofs Wl
abbrev ajh:bY C.toDi 51 22 1 [xr eH 0 0] 24:=⟨_,_,i0,i0,i0,i0,i0,i0⟩
section
variable {B:aD} {h0 h:f8} {As:List HP} {a pw:eX} {offs:Int} {da:List aO} {w:Pow} {ds:aJ}
theorem ahC{k:Int}{l:aC}(h:k∈aT ds l):∃d,bh ds k=dB d/\d.lost=eR:=by
 have h:=(qI.1 h).2;unfold isLive at h;cases hd:bh ds k with
 |none=>rw[hd]at h;cases h
 |some d=>rw[hd]at h;exact⟨d,i0,j5⟩
theorem Oa(m:aG)(o b:Int)(l:cL):ii (Ed m o b l)<=ii l:=by unfold Ed;rw[qz];exact zf (qR _ _) (Cj m l)
theorem ZF(x:bU)(m:aG)(o b:Int)(V:df h x m)(T:cS m)(am:ii m.drives<=64)(f:∀k d,bh ds k=dB d->ii d.l<=512)(H:aa B h0 h (bp bz a pw (aV x) offs da w ds::As)):
  ac xB 18 #[xt (dB a),xq xx o,xq xx b] h λv h'=>∃r:Sl,v=r/\Sp h h' [dK 22 r 3 1 av (de m ds o b (aT ds m.drives))]:=by
 refine Dp (dB a) o b ?_;unfold sv;refine(fE x m V T H).mono ?_;rintro _ h1 ⟨c,rfl,Q⟩;have O:ii (aT ds m.drives)<=ii m.drives:=qR _ _;have D:∀k∈aT ds m.drives,∃d,bh ds k=dB d:=λk L=>by obtain⟨d,h,_⟩:=ahC L;exact⟨d,h⟩
 obtain⟨live,p⟩:∃live,live=aT ds m.drives:=⟨_,rfl⟩
 rw[<-p]at Q O D⊢;have ap:=(Q.own 0 i0).len;refine⟨c,i0,?_⟩;have ao:ii (de m ds o b live)=ii live:=by simp[de]
 have H1:Sp h h1 [dK 22 ⟨eH,0,0⟩ 3 1 av ((de m ds o b live).take 0),ak 3 c 1 av live]:=Q.Cz 22 3 1 av;refine aA (λt:Sl×Nat=>(t.1,(t.2:Int))) (λt h'=>t.2<=ii live/\Sp h h' [dK 22 t.1 3 1 av ((de m ds o b live).take t.2),ak 3 c 1 av live]) (λt=>ii live-t.2) (⟨eH,0,0⟩,0) i0 ⟨i9,H1⟩ ?_;rintro⟨u,i⟩ h2 ⟨hi,E⟩;dsimp only at*;refine ai (λe=>?_) λe=>?_
 ·have A:i<ii live:=i4
  refine(E.seq 1 i0 λ_=>rfl).bH i i0 A live[i] i0 ?_;refine E.lit af av gN i0 [live[i]] i0 (show 1*1<=2^20 by decide) i0 λq h3 y=>?_;have y:Sp h h3 [dK 22 u 3 1 av ((de m ds o b live).take i),ak 3 c 1 av live,ak 3 q 1 av [live[i]]]:=y;have X:=H.up y.aj;have R:=(aa.dh X).2;refine⟨a,i0,x,R.aU _ i0,?_⟩;obtain⟨d,K⟩:=D live[i] (qg A);refine(IM x m q [live[i]] o b (V.up y.aj) T (y.seq 2 i0 λ_=>rfl) i9 (λk L=>by rw[qC.1 L];exact⟨d,K⟩) X).mono ?_;rintro _ h4 ⟨J,s,rfl,W⟩;obtain⟨S,n⟩:∃S,S=fN m ds [live[i]] o b:=⟨_,rfl⟩
  have ah:ii S<=512:=by rw[n];unfold fN iQ;rw[zk,zZ,qO,K];exact zf (Oa _ _ _ _) (f _ _ K)
  rw[<-n]at W;have I:=(y.co W).aX 4 [1,2,0];have Y:=I.eV 2 i0;have ad:=Y.2.1;have ab:=Y.1.len;refine⟨J,i0,?_⟩;have I:Sp h h4 [ak 3 ⟨eH,0,0⟩ 1 av ((S.map qH).take 0),dK 22 u 3 1 av ((de m ds o b live).take i),ak 3 c 1 av live,cO jI 2 piv J s S]:=(I.nil 3 1 av).cG [3,0,1,2];refine aA (λt:Sl×Nat=>(t.1,(t.2:Int))) (λt h'=>t.2<=ii S/\Sp h h' [ak 3 t.1 1 av ((S.map qH).take t.2),dK 22 u 3 1 av ((de m ds o b live).take i),ak 3 c 1 av live,cO jI 2 piv J s S]) (λt=>ii S-t.2) (⟨eH,0,0⟩,0) i0 ⟨i9,I⟩ ?_;rintro⟨u2,j⟩ h5 ⟨hj,G⟩;dsimp only at*;have U:=G.eV 3 i0;refine ai (λe2=>?_) λe2=>?_
  ·have N:j<ii S:=i4
   have z:=Fix.row U N;refine U.1.eu (g:=piv) j i0 i4 (s[j]'(by omega)) i0 ?_;refine G.alloc af i0 λM h6 H6=>?_;refine H6.storeAll af 4 i0 i0 (piv (s[j]'(by omega))) i0 i0 i0 i0 λZ F=>?_;have F:Sp h Z [ak 3 u2 1 av ((S.map qH).take j),dK 22 u 3 1 av ((de m ds o b live).take i),ak 3 c 1 av live,cO jI 2 piv J s S,au M 117 (piv (s[j]'(by omega)))]:=F;refine⟨S[j].1,by rw[<-z.1];exact(F.box 4 i0).cell0 i0,?_⟩;refine F.push af 0 i0 gN i0 i5 (λ_=>rfl) fD S[j].1 i0 i5 i7 λu3 h9 H9=>?_;refine⟨(u3,j+1),jj,⟨i6,?_⟩,i6⟩;dsimp only;rw[aK _ _ (show j<ii (S.map qH) by simp;omega),yb];exact H9.cG [0,1,2,3]
  ·rw[qi i7]at G;refine(G.aX 2 [1,0]).Jr af ajh i7 λu3 ar P=>?_;refine⟨(u3,i+1),jj,⟨i6,?_⟩,i6⟩;dsimp only;rw[aK _ _ (show i<ii (de m ds o b live) by omega)];have ew:(de m ds o b live)[i]'(by omega)=S.map qH:=by simp[de,n]
   rw[ew];exact P.cG [0,1]
 ·rw[qi i4]at E;exact⟨u,i0,E.cG [0]⟩
end
end Go.Qw
namespace Wl
open Go
def Pow.calm(w:Pow):Prop:=w.off=eR/\w.fuse=eH
theorem nI:Pow.new.calm:=⟨i0,i0⟩
theorem ux{w:Pow}(h:w.calm):w.step=(eL,w):=by unfold Pow.step;rw[g0 (by simp[h.1]),h.2]
theorem KL{w:Pow}(h:w.calm)(ds:aJ)(x:Int)(b:bf):(fT w ds x b).2.1=w:=by
 unfold fT;cases bh ds x with
 |none=>rfl
 |some d=>
  dsimp only;unfold bt.append;split
  ·rfl
  ·split
   ·rfl
   ·split
    ·rfl
    ·split
     ·rfl
     ·rw[ux h];rfl
theorem Rc{w:Pow}(h:w.calm)(ds:aJ)(x:Int):(gQ w ds x).2.1=w:=by
 unfold gQ;cases bh ds x with
 |none=>rfl
 |some d=>
  dsimp only;unfold bt.sync;split
  ·rfl
  ·rw[ux h];rfl
theorem sf{w:Pow}(h:w.calm):∀(l:List (Int×bf)) (ds:aJ),(lM l w ds).2.1=w
 |[],_=>rfl
 |x::l,ds=>by
  rw[Ak,KL h];split
  ·exact sf h l _
  ·exact KL h _ _ _
theorem Fl{w:Pow}(h:w.calm):∀(l:aC) (ds:aJ),(eW l w ds).2.1=w
 |[],_=>rfl
 |x::l,ds=>by
  rw[wn,Rc h];split
  ·exact Fl h l _
  ·exact Rc h _ _
theorem afc{w:Pow}(h:w.calm)(l:List (Int×bf))(ds:aJ):(layAll l w ds).2.1=w:=by
 unfold layAll;dsimp only;rw[sf h];split
 ·exact Fl h _ _
 ·exact sf h _ _
theorem KM{w:Pow}{d:bt}{n:Nat}{b:bf}(h:w.calm)(a:d.lost=eR)(c:ii d.l+(n+1)<=d.room)(e:ii b=64):d.append w b=(0,w,{d with l:=d.l++[b],wait:=d.wait+1,laid:=[],has:=eR}):=by unfold bt.append;rw[g0 i4,g0 n9,g0 i4,g0 (by simp[h.1]),ux h];rfl
theorem act{w:Pow}{d:bt}(h:w.calm)(a:d.lost=eR):d.sync w=(0,w,{d with wait:=0,laid:=[],has:=eR}):=by unfold bt.sync;rw[g0 n9,ux h];rfl
theorem aji{ds:aJ}{s:Int}{d:bt}(h:bh ds s=dB d):0<=s/\s<64:=by obtain⟨n,rfl,a⟩:=kW h;omega
def Ob(ds:aJ)(P:List (Int×bf))(s:Int):Option bt:=
 (bh ds s).map λd=>{d with l:=d.l++(P.filter λx=>decide (x.1=s)).map zJ,wait:=d.wait+ii (P.filter λx=>decide (x.1=s)),laid:=if(P.filter λx=>decide (x.1=s)).isEmpty then d.laid else[],has:=if(P.filter λx=>decide (x.1=s)).isEmpty then d.has else eR}
theorem IN{w:Pow}(h:w.calm){S:aC}:∀(P:List (Int×bf)) (ds:aJ),Fit ds S (P.map qH)->(∀x∈P,x.1∈S/\x.2.length=64)->
  (lM P w ds).1=0/\Fit (lM P w ds).2.2 S []/\∀s,bh (lM P w ds).2.2 s=Ob ds P s
 |[],ds,F,_=>⟨i0,F,λs=>by unfold Ob;show bh ds s=_;cases bh ds s<;>simp⟩
 |x::P,ds,F,hP=>by
  obtain⟨d,c,p,k⟩:=F.at_ x.1 (hP x (qN ..)).1;rw[yG,List.count_cons_self]at k;have j:=(hP x (qN ..)).2;obtain⟨n,i,a⟩:=kW c;have f:=KM (n:=(P.map qH).count x.1) h p i4 j;have e:fT w ds x.1 x.2=(0,w,bQ ds x.1 {d with l:=d.l++[x.2],wait:=d.wait+1,laid:=[],has:=eR}):=by unfold fT;rw[c];dsimp only;rw[f]
  obtain⟨_,g⟩:=Sb w x.2 (x:=x.1) (Q:=P.map qH) F (hP x (qN ..)).1 j;rw[Ak,e];rw[e]at g;dsimp only at g⊢;rw[f9 rfl];obtain⟨o,m,a3⟩:=IN h P _ g λy r=>hP y (qG _ r);refine⟨o,m,λs=>?_⟩;rw[a3 s];unfold Ob;rw[i,DY _ _ _ _ a F.len,<-i];by_cases b:s=x.1
  ·rw[f9 b,b,c];simp only[qZ,zq,decide_true,if_true,yG,zn,qp,List.singleton_append,List.isEmpty_cons,Bool.false_eq_true,if_false];congr 1;simp only[bt.mk.injEq,true_and,and_true];refine⟨i4,?_,?_⟩<;>split<;>rfl
  ·rw[g0 b];simp only[zq,decide_eq_true_eq,g0 (show¬x.1=s fromλq=>b q.symm)]
theorem Fm{w:Pow}(h:w.calm){S:aC}:∀(l:aC) (ds:aJ),Fit ds S []->(∀x∈l,x∈S)->
  (eW l w ds).1=0/\Fit (eW l w ds).2.2 S []/\∀s,bh (eW l w ds).2.2 s=(bh ds s).map λd=>if s∈l then{d with wait:=0,laid:=[],has:=eR}else d
 |[],ds,F,_=>⟨i0,F,λs=>by show bh ds s=_;cases bh ds s<;>simp⟩
 |x::l,ds,F,hl=>by
  obtain⟨d,b,k,o⟩:=F.at_ x (hl x (qN ..));obtain⟨n,g,a⟩:=kW b;have e:gQ w ds x=(0,w,bQ ds x {d with wait:=0,laid:=[],has:=eR}):=by unfold gQ;rw[b];dsimp only;rw[act h k]
  obtain⟨_,c⟩:=WK w F (hl x (qN ..));rw[wn,e];rw[e]at c;dsimp only at c⊢;rw[f9 rfl];obtain⟨j,i,a3⟩:=Fm h l _ c λy m=>hl y (qG _ m);refine⟨j,i,λs=>?_⟩;rw[a3 s,g,DY _ _ _ _ a F.len,<-g];by_cases f:s=x
  ·subst f;rw[f9 i0,b];simp only[qZ,zb,true_or,if_true];congr 1;split<;>rfl
  ·rw[g0 f];cases bh ds s with
   |none=>rfl
   |some d'=>simp[f]
end Wl
namespace Go.Qw
open Go Go.Vc Go.Proofs Wl
section
variable {B:aD} {h0 h h':f8} {As:List HP} {a:eX} {w:Pow}
end
section
variable {B:aD} {h0 h h':f8} {As:List HP} {a pw:eX} {d:bt} {w:Pow}
end
section
variable {B:aD} {h0 h h':f8} {As:List HP}
end
end Go.Qw
namespace Wl
open Go
end Wl
namespace Go.Qw
open Go Go.Vc Go.Proofs Wl
end Go.Qw
namespace Wl
open Go
end Wl
namespace Go.Qw
open Go Go.Vc Go.Proofs Wl
end Go.Qw
namespace Wl
open Go
end Wl
namespace Go.Vc
open Go Wl
end Go.Vc
namespace Go.Qw
open Go Go.Vc Go.Proofs Wl
section
variable {B:aD} {h0 h h':f8} {As:List HP} {a pw:eX} {mc:bg} {offs:Int} {da:List aO} {w:Pow} {ds:aJ}
end
section
variable {B:aD} {h0 h h':f8} {As:List HP} {a pw:eX} {mc:bg} {offs:Int} {da:List aO} {w:Pow} {ds:aJ}
end
end Go.Qw
namespace Go.Vc
open Go Wl Go.Qw
def tl(p:Pm)(extra:Int)(l:aC):Int:=
 if(eO l).2&&(bP p&&fq extra 0 16)then
  if(bv l l.length).any λi=>decide (l.getD i.toNat 0<(ii (bu (cH p extra l)):Int))then 7 else 0
 else 1
theorem ZG(p:Pm)(extra:Int)(w:Pow)(l:aC):gd p extra w l=if tl p extra l=0 then layAll (bM (cH p extra l) (bv l l.length)) w (iz l (bv l l.length).length)else(tl p extra l,w,[]):=by
 unfold gd tl;by_cases h:((eO l).2&&(bP p&&fq extra 0 16))=eL
 ·rw[f9 h,f9 h];by_cases a:((bv l l.length).any λi=>decide (l.getD i.toNat 0<(ii (bu (cH p extra l)):Int)))=eL
  ·rw[f9 a,f9 a];rfl
  ·rw[g0 a,g0 a];rfl
 ·rw[g0 h,g0 h];rfl
theorem Oc{p:Pm}{extra:Int}{l:aC}(h:tl p extra l=0):bP p=eL/\0<=extra/\extra<=16/\(eO l).2=eL/\((bv l l.length).any λi=>decide (l.getD i.toNat 0<(ii (bu (cH p extra l)):Int)))=eR:=by
 unfold tl at h;by_cases a:((eO l).2&&(bP p&&fq extra 0 16))=eL
 ·rw[f9 a]at h;by_cases b:((bv l l.length).any λi=>decide (l.getD i.toNat 0<(ii (bu (cH p extra l)):Int)))=eL
  ·rw[f9 b]at h;cases h
  ·unfold fq at a;simp only[qB,decide_eq_true_eq]at a;exact⟨a.2.1,a.2.2.1,a.2.2.2,a.1,j7⟩
 ·rw[g0 a]at h;cases h
end Go.Vc
namespace Go.Qw
open Go Go.Vc Go.Proofs Wl
end Go.Qw
namespace Wl
def kY(m:aG)(l:cL):Bool:=bS m&&(bu m).all λp=>decide (p∈l)
end Wl
namespace Go.Qw
open Go Go.Vc Go.Proofs Wl
theorem acu(a:eX)(e:Sl)(p:bf)(l:Sl)(b:Cells)(h:f8)(q:cx h a 34 [e])(s:Rd h e 1 aF p)(m:fR h l 1 aF b)(w:ii b<=2^30):
  ac xB 97 #[l,.func (.func 98) #[] #[xt (dB a)]] h λv h'=>v=xv (decide (p∈b))/\h'=h:=by
 refine ny l (98,#[],#[xt (dB a)]) ?_;unfold jy;refine(oL l (98,#[],#[xt (dB a)]) (R:=λv h'=>(∃i:Int,v=xq xx i/\(decide (i>=0)=decide (p∈b)))/\h'=h) ?_).mono ?_
 ·unfold kD;have t:=m.len;refine aA (λi:Nat=>(i:Int)) (λi h'=>i<=ii b/\p∉b.take i/\h'=h) (λi=>ii b-i) 0 i0 ⟨i4,i9,i0⟩ ?_;rintro i k ⟨n,d,rfl⟩;refine ai (λg=>?_) (λg=>?_)
  ·have c:i<ii b:=by have u:(i:Int)<(l.len:Int):=g;omega
   refine m.get i i0 c λr o=>ff ld ?_;refine(Lv r a (R:=λv h'=>v=xv (decide (b[i]=p))/\h'=k) ?_).mono ?_
   ·unfold Dy;refine⟨e,q.cell0 i0,(rU r e b[i] p k o s).mono ?_⟩;rintro _ _ ⟨rfl,rfl⟩;exact⟨_,i0,i0,i0⟩
   ·rintro _ _ ⟨rfl,rfl⟩;refine⟨_,i0,ai (λj=>⟨⟨i,i0,?_⟩,i0⟩) λj=>?_⟩
    ·rw[g9 (show(i:Int)>=0 by omega),g9 (by rw[<-j];exact qg c)]
    ·refine⟨i+1,js,⟨i4,λf=>?_,i0⟩,i4⟩;rw[aK _ _ c]at f;rcases qA.1 f with f|f
     ·exact d f
     ·exact j (qC.1 f).symm
  ·have u:¬(i:Int)<(l.len:Int):=g;rw[qi i4]at d;exact⟨⟨-1,i0,by rw[hU d];rfl⟩,i0⟩
 ·rintro _ k ⟨⟨i,rfl,n⟩,rfl⟩;exact⟨i,i0,by rw[n],i0⟩
theorem ZH(a pw:eX)(d:bt)(s b:Sl)(x:bU)(m:aG)(h:f8)(M:cx h a 156 (fo pw d s b))(T:fR h s 1 aF d.l)(ok:gE d)(N:df h x m)(G:cS m):
  ac xB 34 #[xt (dB a),fw x] h λv h'=>v=xv (kY m d.l)/\Sp h h' []:=by
 refine Pj (dB a) x ?_;unfold HL;have K:=ok.len;have F:=ok.room;refine(Sp.refl h).boxed λB O w=>?_;have w:Sp h O [au B 44 (aV x)]:=w;refine⟨x,(w.box 0 i0).aU _ i0,(LM x m O (N.up w.aj) G).mono ?_⟩;rintro _ Q ⟨rfl,S⟩;have z:Sp h Q [au B 44 (aV x)]:=w.up S.aj;refine⟨_,i0,bo (λg=>⟨by unfold kY;rw[g];rfl,.zip z.aj⟩) λg=>?_⟩;refine(LL s b (M.aj z.aj M.lt) (T.up z.aj) ok).mono ?_;rintro _ h3 ⟨q,rfl,W⟩;have I:Sp h h3 [au B 44 (aV x),eE q d.l]:=z.comp W;refine⟨q,i0,x,(I.box 0 i0).aU _ i0,(nX x m h3 (N.up I.aj) G).mono ?_⟩;rintro _ U ⟨o,rfl,X⟩;have y:Sp h U [au B 44 (aV x),eE q d.l,eE o (bu m)]:=I.comp X;have J:=jW m G;obtain⟨c,j⟩:∃c,c=bu m:=⟨_,rfl⟩
 rw[<-j]at y J;have V:=(aa.Ai (y.aX 3 [2])).1;refine⟨o,i0,?_⟩;obtain⟨rs,y⟩:=(y.cG [2,1]).Zq λ_=>rfl;refine aA (λi:Nat=>(i:Int)) (λi h'=>i<=ii c/\((c.take i).all λp=>decide (p∈d.l))=eL/\Sp h h' [cO (cF 1 aF) 1 bw o rs c,eE q d.l]) (λi=>ii c-i) 0 i0 ⟨i4,i9,y⟩ ?_;rintro i h5 ⟨hi,f,A⟩;have R:=(A.eV 0 i0).2.1;refine ai (λe=>?_) (λe=>?_)
 ·have k:i<ii c:=by have Y:(i:Int)<(o.len:Int):=e;omega
  refine(A.eV 0 i0).1.mq i i0 i4 ?_;obtain⟨r,L⟩:∃r,r=rs[i]'(by omega):=⟨_,rfl⟩
  rw[<-L];refine A.alloc af i0 λu Z P=>?_;refine P.storeAll af 2 i0 i0 [r] i0 i0 i0 i0 λD n=>?_;have n:Sp h D [cO (cF 1 aF) 1 bw o rs c,eE q d.l,au u 34 [r]]:=n;have t:Rd D r 1 aF c[i]:=by rw[L];exact Fix.row (n.eV 0 i0) k
  have H:=aa.FH (n.aX 2 [1]) λ_=>rfl;refine(acu u r c[i] q d.l D (n.box 2 i0) t H i4).mono ?_;rintro _ h8 ⟨rfl,rfl⟩;refine⟨_,i0,bo (λE=>⟨?_,.zip n.aj⟩) λE=>?_⟩
  ·have:kY m d.l=eR:=by unfold kY;rw[g,wg,<-j];exact yA.2 ⟨c[i],qg k,by rw[E];simp⟩
   rw[this]
  ·refine⟨i+1,js,⟨i4,?_,n.cG [0,1]⟩,i4⟩;rw[aK _ _ k,List.all_append,f,xk,List.all_nil,E];rfl
 ·have:i=ii c:=by have Y:¬(i:Int)<(o.len:Int):=e;omega
  subst this;rw[qY]at f;exact⟨by unfold kY;rw[g,<-j,f];rfl,.zip A.aj⟩
end Go.Qw
namespace Go.Vc
open Go Wl Go.Qw
theorem afd{w:Pow}(h:w.calm){S:aC}(P:List (Int×bf))(ds:aJ)(F:Fit ds S (P.map qH))(b:∀x∈P,x.1∈S/\x.2.length=64):
  (layAll P w ds).1=0/\Fit (layAll P w ds).2.2 S []/\∀s,bh (layAll P w ds).2.2 s=(Ob ds P s).map λd=>if s∈cM (P.map qH)then{d with wait:=0,laid:=[],has:=eR}else d:=by
 obtain⟨i,g,a3⟩:=IN h P ds F b;have j:=sf h P ds;unfold layAll;dsimp only;rw[f9 i,j];obtain⟨k,f,e⟩:=Fm h (S:=S) (cM (P.map qH)) (lM P w ds).2.2 g λx c=>by
  unfold cM at c;have a:=(qI.1 c).2;obtain⟨y,l,rfl⟩:=qu.1 (hZ a);exact(b y l).1
 exact⟨k,f,λs=>by rw[e s,a3 s]⟩
theorem Gw(l:aC)(k:Nat):(bv l k).Pairwise (·<·):=by unfold bv;refine List.Pairwise.filter _ (vi.2 ?_);exact(List.pairwise_lt_range (n:=k)).imp λh=>i4
theorem ahD{l:aC}{most:Int}(e:l.Pairwise (·<·))(c:∀x∈l,0<=x/\x<=most):rg l most=eL:=by
 unfold rg;refine uE λi a=>?_;unfold kl fq;have d:l.getD i 0=l[i]:=by rw[qe,qd a];rfl
 have:=c l[i] (qg a);rw[d,g9 this.1,g9 this.2,wg,wg];by_cases h0:i=0
 ·rw[g9 h0];rfl
 ·have b:l.getD (i-1) 0=l[i-1]:=by rw[qe,qd i4];rfl
  rw[b,g9 (List.pairwise_iff_getElem.1 e (i-1) i i4 a i4),Bool.or_true]
theorem LS{p:Pm}{extra:Int}{l:aC}(h:ii l<=64)(e:tl p extra l=0):bS (cH p extra l)=eL:=by
 obtain⟨f,d,h3,_⟩:=Oc e;have b:lH (cH p extra l)=eL:=by unfold lH fq cH;simp[f,d,h3]
 have a:rg (cH p extra l).drives 63=eL:=ahD (Gw l l.length) λx c=>by
  obtain⟨n,g,rfl,_⟩:=(AU l l.length x).1 c;omega
 unfold bS;rw[b,a];rfl
theorem Gx(p:Pm)(extra:Int)(l:aC)(a:ii l<=24):ii (bu (cH p extra l))<=1:=by
 unfold bu iI;rw[qz,zE];have b:=rX l l.length;have:ii (gW (cH p extra l))<=19+24:=by
  unfold gW;split
  ·simp only[qx,cI,zn,yU,qz,cH,zZ];omega
  ·simp
 omega
end Go.Vc
namespace Wl
open Go
theorem acv{ds:aJ}{k:Int}{d:bt}(h:bh ds k=dB d):bQ ds k d=ds:=by
 unfold bh at h;split at h
 ·rename_i b;unfold bQ;cases hx:ds[k.toNat]? with
  |none=>rw[hx]at h;cases h
  |some o=>
   rw[hx]at h;have h:o=dB d:=h;subst h;obtain⟨c,a⟩:=qn.1 hx;rw[<-a,List.set_getElem_self]
 ·cases h
end Wl
namespace Go.Vc
open Go Wl Go.Qw
theorem acw(l:List (Int×bf))(k:Int):(l.map qH).count k=ii (l.filter λy=>decide (y.1=k)):=by
 induction l with
 |nil=>rfl
 |cons y l ih=>
  rw[yG,List.count_cons,ih,zq];by_cases h:y.1=k
  ·rw[f9 (g9 h),f9 j5];rfl
  ·rw[g0 j5,g0 j5];rfl
theorem IP(n:aG)(k:Int):∀{live:aC},live.Nodup->k∈live->((bM n live).filter λy=>decide (y.1=k)).map zJ=bu n
 |[],_,hk=>by cases hk
 |x::live,hnd,hk=>by
  have e:bM n (x::live)=(bu n).map (λc=>(x,c))++bM n live:=by unfold bM;rw[zk]
  obtain⟨i,b⟩:=yi.1 hnd;rw[e,zm,qU];by_cases a:x=k
  ·subst a;have g:((bu n).map λc=>(x,c)).filter (λy=>decide (y.1=x))=(bu n).map (λc=>(x,c)):=List.filter_eq_self.2 λy d=>by
    obtain⟨c,_,rfl⟩:=qu.1 d;exact g9 i0
   have j:(bM n live).filter (λy=>decide (y.1=x))=[]:=wO.2 λy d=>by
    have:=(lA d).1;have f:y.1≠x:=λh=>i (h▸this);simpa using f
   rw[g,j,vO,qO,w6];exact List.map_id _
  ·have g:((bu n).map λc=>(x,c)).filter (λy=>decide (y.1=k))=[]:=wO.2 λy d=>by
    obtain⟨c,_,rfl⟩:=qu.1 d;simpa using a
   rw[g,vO,List.nil_append];rcases zb.1 hk with h|h
   ·exact absurd h.symm a
   ·exact IP n k b h
end Go.Vc
namespace Go.Qw
open Go Go.Vc Go.Proofs Wl
theorem ahE{p:Pm}{seed:Int}{d:Row}{K H w n:Nat}(B:cw p seed d K H w n)(id:Int):uO p seed d id=if bZ id then fW w (dv p seed d) (dz n seed id)else[]:=by unfold uO;rw[B.ru,show p.2.2.toNat=w by have:=B.s;omega]
theorem UT{m:aG}{o i seed:Int}{d:Row}{id:Int}{K H w n:Nat}(B:cw m.p seed d K H w n)(a:0<=o/\o<=16777215)(b:0<=i/\i<=7)(hid:0<=id/\id<=65535):jw (ox m o i seed d id)=eL:=by
 rw[lm];refine⟨a,b,hid,B.may,?_⟩;have c:bZ id=eL:=by unfold bZ;rw[g9 hid.1,g9 hid.2];rfl
 show(ii (uO m.p seed d id):Int)=m.p.2.2;rw[ahE B id,f9 c,B.abn id,B.s]
def Ab(m:aG)(o:Int)(tries:aC)(a:cL)(live:aC)(k:Int)(i:Nat):List dm:=
 ((qy (m.p.1+m.extra).toNat).filter λid=>decide (gj (fy o i live) (id:Nat)=k)).map λid:Nat=>ox m o i (cz o i (tries.getD i 0)) (a.getD i []) id
def lW(m:aG)(o:Int)(tries:aC)(a:cL)(live:aC)(k:Int)(n:Nat):List dm:=(qy n).flatMap (Ab m o tries a live k)
theorem UU(m:aG)(o:Int)(tries:aC)(a:cL)(live:aC)(k:Int)(n:Nat):lW m o tries a live k (n+1)=lW m o tries a live k n++Ab m o tries a live k n:=by unfold lW;rw[zQ,zd,zk,zZ,qO]
theorem UV(m:aG)(o:Int)(tries:aC)(a:cL)(live:aC)(k:Int)(i:Nat):((nH m o tries a live i).filter λy=>decide (y.1=k)).map zJ=(Ab m o tries a live k i).map dG:=by unfold nH Ab;rw[List.filter_map,w6,w6];rfl
theorem Gy(m:aG)(o:Int)(tries:aC)(a:cL)(live:aC)(k:Int):∀n,((dV m o tries a live n).filter λy=>decide (y.1=k)).map zJ=(lW m o tries a live k n).map dG
 |0=>by simp[dV,lW]
 |n+1=>by rw[uP,UU,zm,qU,qU,Gy m o tries a live k n,UV]
theorem ZI{m:aG}{o:Int}{tries:aC}{a:cL}{live:aC}{k:Int}{i:Nat}{r:dm}(h:r∈Ab m o tries a live k i):∃id:Nat,r=ox m o i (cz o i (tries.getD i 0)) (a.getD i []) id/\id<(m.p.1+m.extra).toNat:=by unfold Ab at h;obtain⟨id,b,rfl⟩:=qu.1 h;exact⟨id,i0,qJ.1 (qI.1 b).1⟩
theorem ZJ{m:aG}{o:Int}{tries:aC}{a:cL}{live:aC}{k:Int}{n:Nat}{r:dm}(h:r∈lW m o tries a live k n):∃(i id:Nat),r=ox m o i (cz o i (tries.getD i 0)) (a.getD i []) id/\i<n/\id<(m.p.1+m.extra).toNat:=by unfold lW at h;obtain⟨i,b,d⟩:=zP.1 h;obtain⟨id,c,h3⟩:=ZI d;exact⟨i,id,c,qJ.1 b,h3⟩
end Go.Qw
namespace Wl
open Go
def dD(m:aG)(d:bt)(n:Int):bt:=if iV d d.l.length n then d else{d with l:=ck m d.l,wait:=0,laid:=[],has:=eR}
theorem ZK{m:aG}{r:dm}(h:fh m r=eL):jw r=eL:=by unfold fh at h;simp only[qB]at h;exact h.1
theorem afe{l:List dm}{r:dm}(h:r∈rk l):r∈l:=by unfold rk at h;obtain⟨i,a,rfl⟩:=qu.1 h;have a:=qJ.1 (qI.1 a).1;rw[qe,qd a];exact qg a
theorem ZL{m:aG}{c:bf}{r:dm}(h:jq m c=dB r):eC c=dB r/\fh m r=eL:=by
 unfold jq at h;cases hc:eC c with
 |none=>rw[hc]at h;cases h
 |some x=>
  rw[hc]at h;dsimp only at h;by_cases a:fh m x=eL
  ·rw[f9 a]at h;injection h with h;subst h;exact⟨i0,a⟩
  ·rw[g0 a]at h;cases h
theorem xP{m:aG}{l:cL}{r:dm}(h:r∈eZ m l):∃c∈l,eC c=dB r/\fh m r=eL:=by have h:=yM.1 (afe h);obtain⟨c,b,a⟩:=List.mem_filterMap.1 h;exact⟨c,b,ZL a⟩
theorem Fo(m:aG)(l:cL):∀c∈ck m l,ii c=64:=λc a=>by
 rcases qA.1 a with h|h
 ·exact ww h
 ·obtain⟨r,d,rfl⟩:=qu.1 h;obtain⟨_,_,_,b⟩:=xP d;exact Lh (ZK b)
theorem IQ{w:Pow}(a:w.calm){d:bt}{l:cL}(g:∀c∈l,ii c=64)(e:d.lost=eR)(h:ii l<=d.room):d.rewrite w l=(0,w,{d with l:=l,wait:=0,laid:=[],has:=eR}):=by unfold bt.rewrite;have:l.all (λb=>decide (ii b=64))=eL:=q9.2 λc f=>g9 (g c f);rw[g0 (by simp[this]),g0 n5,g0 i4,g0 (by simp[a.1]),ux a];rfl
theorem Od{w:Pow}(e:w.calm){m:aG}{d:bt}{n:Int}(h:iu m d n=eL):ge m w d n=(0,w,dD m d n):=by
 have h0:=h;unfold iu at h;rw[qB,wo,wU]at h;obtain⟨c,a⟩:=h;unfold ge dD;rw[g0 o4,g0 (by simp[h0])];by_cases b:iV d d.l.length n=eL
 ·rw[f9 b,f9 b]
 ·rw[g0 b,g0 b];have h3:iV d (ck m d.l).length n=eL:=by
   rcases a with a|a
   ·exact absurd a b
   ·exact a
  unfold iV at h3;rw[decide_eq_true_eq]at h3;exact IQ e (Fo m d.l) c i4
theorem UW(m:aG)(ds:aJ)(k:Int)(l:aC)(N:Int->Int):dP m ds (k::l) N=(oP m ds k (N k)&&dP m ds l N):=xk
theorem Da{m:aG}{ds:aJ}{k n:Int}(h:oP m ds k n=eL):∃d,bh ds k=dB d/\iu m d n=eL:=by
 unfold oP at h;cases hd:bh ds k with
 |none=>rw[hd]at h;cases h
 |some d=>rw[hd]at h;exact⟨d,i0,h⟩
theorem Bc(ds:aJ)(k:Int)(d:bt):ii (bQ ds k d)=ii ds:=by unfold bQ;simp
theorem iv{ds:aJ}{k:Int}{b d:bt}(a:ii ds=64)(c:bh ds k=dB b)(s:Int):bh (bQ ds k d) s=if s=k then dB d else bh ds s:=by obtain⟨n,rfl,e⟩:=kW c;exact DY ds n d s e a
theorem Sg{m:aG}{ds a:aJ}{l:aC}{N:Int->Int}(h:∀k∈l,bh ds k=bh a k):dP m ds l N=dP m a l N:=by unfold dP;rw[Bool.eq_iff_iff,q9,q9];refine forall_congr' λk=>forall_congr' λb=>?_;unfold oP;rw[h k b]
theorem Fp{w:Pow}(l:w.calm){m:aG}{N:Int->Int}:∀{live:aC} {ds:aJ},live.Nodup->ii ds=64->dP m ds live N=eL->
  ∃a,makes m N live w ds=(0,w,a)/\a.length=64/\∀k,bh a k=(bh ds k).map λd=>if k∈live then dD m d (N k)else d
 |[],ds,_,h64,_=>⟨ds,i0,h64,λk=>by cases bh ds k<;>simp⟩
 |k::live,ds,hnd,h64,hf=>by
  rw[UW,qB]at hf;obtain⟨c,b⟩:=yi.1 hnd;obtain⟨d,h,i⟩:=Da hf.1;have e:jk m w ds k (N k)=(0,w,bQ ds k (dD m d (N k))):=by unfold jk;rw[h];dsimp only;rw[Od l i]
  have f:=iv (d:=dD m d (N k)) h64 h;have j:dP m (bQ ds k (dD m d (N k))) live N=eL:=by
   rw[<-Sg (ds:=ds) λs g=>?_]
   ·exact hf.2
   ·rw[f,g0 λp:s=k=>c (p▸g)]
  obtain⟨a,o,n,h3⟩:=Fp l b (by rw[Bc];exact h64) j;refine⟨a,?_,n,λs=>?_⟩
  ·show(if(jk m w ds k (N k)).1=0 then makes m N live (jk m w ds k (N k)).2.1 (jk m w ds k (N k)).2.2 else jk m w ds k (N k))=_;rw[e];exact o
  ·rw[h3 s,f];by_cases g:s=k
   ·subst g;rw[f9 i0,h];simp[c]
   ·rw[g0 g];simp[g]
theorem Fq{m:aG}{d:bt}{n:Int}(h:iu m d n=eL):(dD m d n).lost=eR/\(dD m d n).room=d.room/\((dD m d n).l.length:Int)+max n 0<=d.room:=by
 unfold iu at h;rw[qB,wo,wU]at h;obtain⟨c,a⟩:=h;unfold dD;by_cases b:iV d d.l.length n=eL
 ·rw[f9 b];unfold iV at b;rw[decide_eq_true_eq]at b;exact⟨c,i0,i4⟩
 ·rw[g0 b];have h3:iV d (ck m d.l).length n=eL:=by
   rcases a with a|a
   ·exact absurd a b
   ·exact a
  unfold iV at h3;rw[decide_eq_true_eq]at h3;exact⟨c,i0,i6⟩
theorem WP(a:ByteArray):ft a a=eR:=abe _
theorem acx{a b:ByteArray}(h:km a b=eL)(c:a≠b):ft a b=eL:=by
 rcases(ME a b).1 h with h|h
 ·exact h
 ·exact absurd (Zb h) c
theorem acy{a b:ByteArray}(h:ft a b=eL):a≠b:=λe=>by subst e;rw[WP]at h;cases h
theorem ajj:Ord xD:=⟨λa b c e d=>Ho _ _ _ e d,λa b=>Hp _ _⟩
theorem LU{m:aG}{x e:cv}:e∈(iJ m x).aH↔e∈m.aH∨e=x:=by show e∈(m.aH++[x]).mergeSort xD↔_;rw[yM];simp
end Wl
namespace Go.Qw
open Go Go.Vc Go.Proofs Wl
theorem acz{name:ByteArray}{l:List Wl.cv}(h:l.any (mM name)=eR):∀e∈l,e.name≠name:=λe a b=>by
 have:=wF.1 h e a;unfold mM at this;rw[b]at this;simp at this
theorem acA{m:aG}{x:Wl.cv}(H:bS m=eL)(f:mY x.name=eL)(l:∀e∈m.aH,e.name≠x.name)(j:x.object=m.next)(I:m.aH.length<=11)(M:m.next<=16777215)(N:m.seq<=2147483646)
  (k:0<=x.length/\x.length<=m.p.1*m.p.2.2*8) (G:∀t∈x.tries,0<=t/\t<=15) (E:(x.tries.length:Int)=countP m.p x.length):bS (iJ m x)=eL:=by
 obtain⟨D,A,h3,K,s,y,u⟩:=(cD m).1 H;obtain⟨L,J,a3,a4⟩:=(fF m).1 D;have c:(iJ m x).aH.Perm (m.aH++[x]):=wT _ _;have i:∀e∈m.aH,e.object<m.next:=λe n=>((ig m e).1 (s e n)).2.1.2;refine(cD _).2 ⟨(fF _).2 ⟨⟨?_,?_⟩,⟨?_,?_⟩,a3,a4⟩,A,h3,?_,λe n=>?_,?_,?_⟩
 ·show 1<=m.seq+1;omega
 ·show m.seq+1<=_;omega
 ·show 0<=m.next+1;omega
 ·show m.next+1<=_;omega
 ·rw[c.length_eq];simp;omega
 ·rcases LU.1 n with n|rfl
  ·obtain⟨F,z,v,B,w⟩:=(ig m e).1 (s e n);exact(ig _ e).2 ⟨F,⟨z.1,by show _<m.next+1;omega⟩,v,B,w⟩
  ·exact(ig _ _).2 ⟨f,⟨i4,by show _<m.next+1;omega⟩,k,G,E⟩
 ·have d:(m.aH++[x]).Pairwise (λa b:Wl.cv=>a.name≠b.name):=w9.2 ⟨y.imp λh=>acy h,List.pairwise_singleton _ _,λa q b r=>by rw[qC.1 r];exact l a q⟩;have g:=(c.pairwise_iff (R:=λa b:Wl.cv=>a.name≠b.name) λ{a b} h=>Ne.symm h).2 d;have o:(iJ m x).aH.Pairwise (λa b=>xD a b=eL):=(Hn ajj (m.aH++[x])).1;exact(o.and g).imp λh=>acx h.1 h.2
 ·have d:(m.aH++[x]).Pairwise (λa b:Wl.cv=>a.object≠b.object):=w9.2 ⟨u,List.pairwise_singleton _ _,λa q b r=>by rw[qC.1 r,j];have:=i a q;omega⟩;exact(c.pairwise_iff (R:=λa b:Wl.cv=>a.object≠b.object) λ{a b} h=>Ne.symm h).2 d
theorem WQ{p:Pm}{o:Int}{n:Nat}{t:aC}(h:di p o n=dB t):∀x∈t,0<=x/\x<=15:=λx c=>by
 obtain⟨i,b,rfl⟩:=qK c;obtain⟨k,d,a⟩:=Ch h i b;have:=(IB a).1;rw[d];omega
theorem UX{p:Pm}(a:bP p=eL)(b:bf):(ii (splitB p b):Int)=countP p b.length:=by have:=(mL a b.length).1;unfold splitB;rw[qz,zE];omega
theorem aff{m:aG}{d:Bool}{ds:aJ}{name:ByteArray}{b:bf}{t:aC}(g:bS m=eL)(j:eT m d ds name b.length=0)(f:di m.p m.next (splitB m.p b).length=dB t):bS (iJ m ⟨name,m.next,ii b,t⟩)=eL:=by
 obtain⟨n,i,z3,z4,z5⟩:=se j;have k:¬m.p.1*m.p.2.2*8<(ii b:Int):=λh=>z4 (.inl h);have c:ii m.aH<=11:=by have:¬12<=ii m.aH:=λh=>z4 (.inr h);omega
 have a:m.next<=16777215:=by have:¬16777215<m.next:=λh=>z5 (.inr (.inl h));omega
 have e:m.seq<=2147483646:=by have:¬2147483647<=m.seq:=λh=>z5 (.inr (.inr h));omega
 have l:=((fF m).1 ((cD m).1 g).1).2.2.1;refine acA g i (acz z3) i0 c a e ⟨by show 0<=(ii b:Int);omega,by show(ii b:Int)<=_;omega⟩ (WQ f) ?_;show(ii t:Int)=countP m.p b.length;rw[kV f,UX l]
end Go.Qw
namespace Wl
open Go
def eI(a:cL)(d:bt):bt:=if a.isEmpty then d else{d with l:=d.l++a,wait:=0,laid:=[],has:=eR}
def lX(P:List (Int×bf))(s:Int):cL:=(P.filter λx=>decide (x.1=s)).map zJ
theorem UY{P:List (Int×bf)}{s:Int}(h:∀x∈P,x.1≠s):lX P s=[]:=by unfold lX;rw[wO.2 λx a=>by simpa using h x a];rfl
theorem UZ(P:List (Int×bf))(s:Int):ii (lX P s)=(P.map qH).count s:=by unfold lX;rw[qz];exact(Go.Vc.acw P s).symm
theorem Db{l:aC}{s:Int}(h:0<=s/\s<64):s∈cM l↔s∈l:=by unfold cM;rw[qI,decide_eq_true_eq];refine⟨λh=>h.2,λh'=>⟨?_,h'⟩⟩;exact qu.2 ⟨s.toNat,qJ.2 i4,i4⟩
theorem Oe{w:Pow}(n:w.calm){ds:aJ}{P:List (Int×bf)}(i:ii ds=64)
  (a:∀x∈P,ii x.2=64/\∃d,bh ds x.1=dB d/\d.lost=eR/\d.l.length+ii (lX P x.1)<=d.room):
  ∃b,layAll P w ds=(0,w,b)/\b.length=64/\∀s,bh b s=(bh ds s).map (eI (lX P s)):=by
 have F:Fit ds (P.map qH) (P.map qH):=⟨i,λk q=>by
  obtain⟨x,g,rfl⟩:=qu.1 q;obtain⟨_,d,m,j,h3⟩:=a x g;rw[UZ]at h3;exact⟨d,m,j,h3⟩⟩
 obtain⟨t,r,a3⟩:=Go.Vc.afd n P ds F λx g=>⟨qu.2 ⟨x,g,rfl⟩,(a x g).1⟩
 refine⟨(layAll P w ds).2.2,?_,r.len,λs=>?_⟩
 ·have j:=afc n P ds;exact va t (va j i0)
 ·rw[a3 s];unfold Ob;cases hd:bh ds s with
  |none=>rfl
  |some d=>
   obtain⟨f,e⟩:=aji hd;rw[qZ,qZ,qZ];congr 1;unfold eI;have o:s∈P.map qH↔(lX P s).isEmpty=eR:=by rw[<-List.count_pos_iff,<-UZ];cases hc:lX P s<;>simp
   by_cases c:(lX P s).isEmpty=eL
   ·have h0:lX P s=[]:=List.isEmpty_iff.1 c;have m:(P.filter λx=>decide (x.1=s))=[]:=List.map_eq_nil_iff.1 h0;rw[g0 (λh=>by rw[Db ⟨f,e⟩,o]at h;rw[h]at c;cases c),f9 c,m];simp
   ·have p:(lX P s).isEmpty=eR:=l5
    rw[f9 ((Db ⟨f,e⟩).2 (o.2 p)),g0 c];rfl
end Wl
namespace Go.Qw
open Go Go.Vc Go.Proofs Wl
theorem pY{n:aG}{live:aC}(a:live.Nodup)(s:Int):lX (bM n live) s=if s∈live then bu n else[]:=by
 by_cases h:s∈live
 ·rw[f9 h];exact IP n s a h
 ·rw[g0 h];exact UY λx b c=>h (c▸(lA b).1)
theorem afg(m:aG)(o:Int)(tries:aC)(a:cL)(live:aC)(k:Int)(n:Nat):lX (dV m o tries a live n) k=(lW m o tries a live k n).map dG:=Gy m o tries a live k n
theorem Va{m:aG}(h:bS m=eL):bu m≠[]:=by unfold bu iI gW;rw[f9 h];intro e;have:=congrArg List.length e;simp[cI]at this;omega
theorem sg{ds:aJ}{l:aC}(h:l.Nodup):(aT ds l).Nodup:=h.filter _
theorem kr{ds:aJ}{l:aC}{k:Int}(h:k∈aT ds l):k∈l/\∃d,bh ds k=dB d/\d.lost=eR:=by
 obtain⟨b,a⟩:=qI.1 h;unfold isLive at a;cases hd:bh ds k with
 |none=>rw[hd]at a;cases a
 |some d=>rw[hd]at a;exact⟨b,d,i0,j8⟩
theorem afh{ds:aJ}{l:aC}{k:Int}:k∈aT ds l↔k∈l/\∃d,bh ds k=dB d/\d.lost=eR:=by refine⟨kr,λ⟨h1,d,h2,h3⟩=>qI.2 ⟨h1,?_⟩⟩;unfold isLive;rw[h2];simp[h3]
theorem acB(a:cL)(d:bt):(eI a d).l=d.l++a:=by
 unfold eI;by_cases h:a.isEmpty=eL
 ·rw[f9 h,List.isEmpty_iff.1 h,qO]
 ·rw[g0 h]
theorem Cl(a:cL)(d:bt):(eI a d).lost=d.lost/\(eI a d).room=d.room:=by unfold eI;split<;>exact⟨i0,i0⟩
theorem afi{a b:cL}(h:b≠[])(d:bt):eI b (eI a d)=eI (a++b) d:=by
 have e:∀c:cL,c≠[]->∀d,eI c d={d with l:=d.l++c,wait:=0,laid:=[],has:=eR}:=λc g d=>by
  unfold eI;rw[g0 m4]
 by_cases f:a=[]
 ·subst f;rfl
 ·rw[e a f,e b h,e (a++b) sz];simp
theorem Re(a:Nat)(l:List (Int×bf))(k:Int):kX a l k=a+ii (lX l k):=by unfold kX lX;rw[qz]
theorem Yf{p:Pm}{o:Int}{b:bf}{t:aC}(c:bP p=eL)(d:di p o (splitB p b).length=dB t){i:Nat}(h:i<ii (splitB p b)):∃K H w n,cw p (cz o i (t.getD i 0)) ((splitB p b).getD i []) K H w n:=by
 have m:=kV d;obtain⟨k,f,a⟩:=Ch d i i4;have j:NO p o i k=eL:=(IB a).2.1;have e:t.getD i 0=(k:Int):=by rw[fu 0];exact f
 rw[e];refine YV c j ?_;have l:=(cu p).1 c;have q:0<=p.1*p.2.2:=vN i4 i4;have g:(splitB p b)[i]=Fi (gy p) b i:=by simp[splitB]
 rw[fu [] h,g,QS];unfold gy;omega
theorem Yg{m:aG}{b:bf}{t:aC}(g:bS m=eL)(d:m.next<=16777215)(h8:ii (splitB m.p b)<=8)(e:di m.p m.next (splitB m.p b).length=dB t){i id:Nat}(c:i<ii (splitB m.p b))(hid:id<(m.p.1+m.extra).toNat):
  jw (ox m m.next i (cz m.next i (t.getD i 0)) ((splitB m.p b).getD i []) id)=eL:=by
 have a:=((fF m).1 ((cD m).1 g).1)
 have f:=(cu m.p).1 a.2.2.1;obtain⟨K,H,w,n,B⟩:=Yf a.2.2.1 e c;exact UT B ⟨a.2.1.1,d⟩ i4 i4
theorem acC{m:aG}{offs:Int}{w:Pow}{ds:aJ}{name:ByteArray}{b:bf}(Q:w.calm)(H:ii ds=64)(D:bS m=eL):
  (eT m (eF w offs) ds name b.length≠0->iH m offs w ds name b=(eT m (eF w offs) ds name b.length,m,w,ds))/\
  (eT m (eF w offs) ds name b.length=0->(di m.p m.next (splitB m.p b).length=eH->iH m offs w ds name b=(8,m,w,ds))/\∀t,di m.p m.next (splitB m.p b).length=dB t->
   let live:=aT ds m.drives;let l:=dV m m.next t (splitB m.p b) live (splitB m.p b).length;let n:=iJ m ⟨name,m.next,ii b,t⟩;let N:=kX (bu n).length l
   bS n=eL/\(dP m ds live N=eR->iH m offs w ds name b=(7,m,w,ds))/\(dP m ds live N=eL->∃g,iH m offs w ds name b=(0,n,w,g)/\g.length=64/\
    ∀k,bh g k=(bh ds k).map λd=>if k∈live then eI ((lW m m.next t (splitB m.p b) live k (splitB m.p b).length).map dG++bu n) (dD m d (N k))else d)):=by
 refine⟨λh=>by unfold iH;rw[f9 h],λh=>⟨λA=>by unfold iH;rw[g0 j5,A],λt A=>?_⟩⟩;intro live l n N;have s:bS n=eL:=aff D h A;obtain⟨z1,z2,z3,z4,z5⟩:=se h;have v:=((fF m).1 ((cD m).1 D).1)
 have K:¬m.p.1*m.p.2.2*8<(ii b:Int):=λh=>z4 (.inl h);have h8:=PP v.2.2.1 K;have I:live≠[]:=λh=>z5 (.inl h);have B:0<=m.next/\m.next<=16777215:=⟨v.2.1.1,by have:¬16777215<m.next:=λh=>z5 (.inr (.inl h));omega⟩
 have f:live.Nodup:=sg (xF D);have M:∀k∈live,0<=k/\k<64:=λk a=>lq D k (kr a).1;have e:iH m offs w ds name b=(if dP m ds live N=eR then(7,m,w,ds)else if(makes m N live w ds).1≠0 then((makes m N live w ds).1,m,(makes m N live w ds).2)else
   if(layAll l (makes m N live w ds).2.1 (makes m N live w ds).2.2).1≠0 then((layAll l (makes m N live w ds).2.1 (makes m N live w ds).2.2).1,m,(layAll l (makes m N live w ds).2.1 (makes m N live w ds).2.2).2)else
   ((layAll (bM n live) (layAll l (makes m N live w ds).2.1 (makes m N live w ds).2.2).2.1 (layAll l (makes m N live w ds).2.1 (makes m N live w ds).2.2).2.2).1,if(layAll (bM n live) (layAll l (makes m N live w ds).2.1 (makes m N live w ds).2.2).2.1 (layAll l (makes m N live w ds).2.1 (makes m N live w ds).2.2).2.2).1=0 then n else m,(layAll (bM n live) (layAll l (makes m N live w ds).2.1 (makes m N live w ds).2.2).2.1 (layAll l (makes m N live w ds).2.1 (makes m N live w ds).2.2).2.2).2)):=by
  unfold iH;rw[g0 j5,A]
 refine⟨s,λo=>by rw[e,f9 o],λo=>?_⟩;rw[e,g0 (by rw[o];decide)];obtain⟨T,X,m2,U⟩:=Fp Q (N:=N) f H o;rw[X];dsimp only;rw[g0 i9];have z:∀y∈l,y.1∈live:=λy E=>(US B I M h8 E).1;have q:∀y∈l,ii y.2=64:=λy E=>by
  obtain⟨i,hi,E⟩:=zP.1 E;obtain⟨id,hid,rfl⟩:=qu.1 E;exact Lh (Yg D B.2 h8 A (qJ.1 hi) (qJ.1 hid))
 have c:∀k∈live,∃d,bh T k=dB d/\d.lost=eR/\(ii d.l:Int)+max (N k) 0<=d.room:=λk a=>by
  obtain⟨_,d,hd,Y⟩:=kr a;have J:=q9.1 o k a;obtain⟨d',L,F⟩:=Da J;obtain⟨r1,r2,r3⟩:=Fq F;refine⟨dD m d' (N k),?_,r1,by rw[r2];exact r3⟩;rw[U k,L,qZ,f9 a]
 obtain⟨d2,l1,l2,S⟩:=Oe Q (ds:=T) (P:=l) m2 λx j=>by
  obtain⟨d,O,R,f3⟩:=c x.1 (z x j);refine⟨q x j,d,O,R,?_⟩;have:N x.1=_:=Re _ _ _;omega
 rw[l1];dsimp only;rw[g0 i9];obtain⟨d3,W,Z,V⟩:=Oe Q (ds:=d2) (P:=bM n live) l2 λx j=>by
  obtain⟨r,u⟩:=lA j;obtain⟨d,O,R,f3⟩:=c x.1 r;refine⟨u,eI (lX l x.1) d,by rw[S,O,qZ],by rw[(Cl _ _).1];exact R,?_⟩;have:N x.1=_:=Re _ _ _;rw[(Cl _ _).2,acB,pY f,f9 r,qx];omega
 rw[W];refine⟨d3,i0,Z,λk=>?_⟩;rw[V k,S k,U k,Option.map_map,Option.map_map];congr 1;funext d;show eI (lX (bM n live) k) (eI (lX l k) (if k∈live then dD m d (N k)else d))=_;rw[pY f];by_cases a:k∈live
 ·rw[f9 a,f9 a,f9 a];have G:lX l k=(lW m m.next t (splitB m.p b) live k (splitB m.p b).length).map dG:=afg _ _ _ _ _ _ _;rw[G,afi (Va s)]
 ·rw[g0 a,g0 a,g0 a,UY (P:=l) λx j (he:x.1=k)=>a (he▸z x j)];rfl
theorem Of(l:aC)(c:ii l<=64)(s:Int):bh (iz l (bv l l.length).length) s=if s∈bv l l.length then dB (bt.new (l.getD s.toNat 0).toNat)else eH:=by
 by_cases a:0<=s/\s<64
 ·unfold bh iz;rw[f9 a,qT,zu i4,qZ,qi (qm _)];have e:((s.toNat:Nat):Int)=s:=i4
  rw[e];by_cases h:s∈bv l l.length
  ·rw[f9 h];rfl
  ·rw[g0 h];rfl
 ·rw[g0 λh=>?_]
  ·unfold bh;rw[g0 a]
  ·obtain⟨n,b,rfl,_⟩:=(AU l l.length s).1 h;omega
theorem acD{p:Pm}{extra:Int}{l:aC}(d:ii l<=64)(f:tl p extra l=0):
  ∃D,gd p extra Pow.new l=(0,Pow.new,D)/\D.length=64/\∀s,bh D s=if s∈bv l l.length then dB ⟨(l.getD s.toNat 0).toNat,bu (cH p extra l),0,[],eR,eR⟩else eH:=by
 have m:=LS d f;have b:(bv l l.length).Nodup:=(Gw l l.length).imp λh e=>i4
 have c:=(Oc f).2.2.2.2;rw[ZG,f9 f];obtain⟨D,k,i,h3⟩:=Oe nI (ds:=iz l (bv l l.length).length) (P:=bM (cH p extra l) (bv l l.length)) (WB _ _) λx j=>by
  obtain⟨a,g⟩:=lA j;refine⟨g,bt.new (l.getD x.1.toNat 0).toNat,by rw[Of l d,f9 a],i0,?_⟩;rw[pY b,f9 a];have:=wF.1 c x.1 a;simp only[decide_eq_true_eq]at this;show 0+_<=(l.getD x.1.toNat 0).toNat;omega
 refine⟨D,k,i,λs=>?_⟩;rw[h3,Of l d,pY b];by_cases h:s∈bv l l.length
 ·rw[f9 h,f9 h,f9 h,qZ];unfold eI;rw[g0 (by simpa using Va m)];rfl
 ·rw[g0 h,g0 h,g0 h];rfl
theorem ZM(m:aG):ii (bu m)=(ii (gW m)+47)/48:=by unfold bu iI;rw[qz,zE]
theorem ajk(x:Wl.cv):(jF x).length=6+x.name.size+x.tries.length:=by unfold jF;simp[cI];omega
theorem acE{m:aG}(h:bS m=eL):ii (gW m)=14+ii m.drives+ii (m.aH.flatMap jF):=by unfold gW;rw[f9 h];simp only[qx,cI,zn,yU,qz];omega
theorem oc{p:Pm}{n:Int}(h:n<=p.1*p.2.2*8):countP p n<=8:=by
 unfold countP;split
 ·rename_i a;rw[qB,decide_eq_true_eq]at a;have:=(cu p).1 a.1;have b:0<p.1*p.2.2:=Int.mul_pos i4 i4;have:(n-1)/(p.1*p.2.2)<8:=Int.ediv_lt_of_lt_mul b (by rw[Int.mul_comm 8];omega);omega
 ·decide
theorem ahF{m:aG}{x:Wl.cv}(h:ib m x=eL):ii (jF x)<=26:=by
 obtain⟨a,c,h3,d,b⟩:=(ig m x).1 h;have:=oc h3.2;have e:x.name.size<=12:=by unfold mY at a;simp at a;omega
 rw[ajk];omega
theorem JL{α β:Type}{f:α->List β}{c:Nat}:∀{l:List α},(∀x∈l,ii (f x)<=c)->ii (l.flatMap f)<=ii l*c
 |[],_=>i9
 |x::l,h=>by
  have d:=h x qN;have b:=JL (l:=l) λy a=>h y (qG _ a);rw[zk,qx,zn,zT];omega
theorem afj{m:aG}(h:bS m=eL):ii (bu m)*48<=61+ii m.drives+ii m.aH*26:=by have:=JL (f:=jF) (l:=m.aH) λx a=>ahF (((cD m).1 h).2.2.2.2.1 x a);have b:=acE h;rw[ZM];omega
theorem ajl{m:aG}(h:bS m=eL):ii (bu m)<=9:=by have b:=afj h;have a:=jQ h;have h3:=((cD m).1 h).2.2.2.1;omega
def db(m:aG)(offs:Int)(w:Pow)(ds:aJ)(n:aG):Int×aG×Pow×aJ:=
 if eF w offs then(14,m,w,ds)else if !bS n||decide (n.seq≠m.seq+1)then(1,m,w,ds)else
 let live:=aT ds n.drives;let N:Int->Int:=λ_=>(ii (bu n):Int)
 if live=[]∨dP m ds live N=eR then(7,m,w,ds)else
 if(makes m N live w ds).1≠0 then((makes m N live w ds).1,m,(makes m N live w ds).2)else
 let a:=layAll (bM n live) (makes m N live w ds).2.1 (makes m N live w ds).2.2
 (a.1,if a.1=0 then n else m,a.2)
theorem kb{m:aG}(h:bS m=eL):cS m:=by
 obtain⟨n,k,h3,p,b,f,g⟩:=(cD m).1 h;have j:=jQ h;refine⟨i4,i4,λe d=>?_⟩;obtain⟨a,q,c,i,o⟩:=(ig m e).1 (b e d);have:=oc c.2;have l:e.name.size<=12:=by unfold mY at a;simp at a;omega
 omega
section
variable {B:aD} {h0 h:f8} {As:List HP} {a pw:eX} {offs:Int} {da:List aO} {w:Pow} {ds:aJ}
theorem KN(x:bU)(m:aG)(z:bU)(n:aG)(hS:St B h0 As λh=>df h z n)(hz:cS m)(j:cS n)(ah:-1<=m.seq/\m.seq<=2^40)
  (H:aa B h0 h (bp bz a pw (aV x) offs da w ds::cj x m::As)):
  ac xB 145 #[xt (dB a),fw z] h λv h'=>v=xq xx (db m offs w ds n).1/\
   ∃y,aa B h0 h' (bp bz a pw (aV y) offs da (db m offs w ds n).2.2.1 (db m offs w ds n).2.2.2::cj y (db m offs w ds n).2.1::As):=by
 refine CM (dB a) z ?_;unfold rI;refine H.boxed λF L i=>(II i).mono ?_;have i:=i.bA;rintro _ L ⟨rfl,rfl⟩;have i:aa B h0 L (au F 44 (aV z)::bp bz a pw (aV x) offs da w ds::cj x m::As):=i;have D:df L z n:=hS.at [_,_,_] i;have Y:df L x m:=i.at 2 i0;refine⟨_,i0,bC (λe=>?_) λe1=>?_⟩
 ·have I:db m offs w ds n=(14,m,w,ds):=by unfold db;rw[f9 e]
  rw[I];exact⟨i0,x,i.aX 3 [1,2]⟩
 refine bj ?_;refine⟨z,(i.box 0 i0).aU _ i0,(LM z n L D j).mono ?_⟩;rintro _ h3 ⟨rfl,R3⟩;have E:=i.up R3.aj;have X:=D.up R3.aj;have no:∀{h':f8},aa B h0 h' (au F 44 (aV z)::bp bz a pw (aV x) offs da w ds::cj x m::As)->(bS n=eR∨n.seq≠m.seq+1)->(Value.int .i64 1=xq xx (db m offs w ds n).1/\∃y,aa B h0 h' (bp bz a pw (aV y) offs da (db m offs w ds n).2.2.1 (db m offs w ds n).2.2.2::cj y (db m offs w ds n).2.1::As)):=λ{h'} d hc=>by
  have I:db m offs w ds n=(1,m,w,ds):=by
   unfold db;rw[g0 n4,f9];rcases hc with hc|hc
   ·rw[hc];rfl
   ·rw[g9 hc,Bool.or_true]
  rw[I];exact⟨i0,x,d.aX 3 [1,2]⟩
 refine⟨_,i0,trivial,bo (λe=>no E (.inl e)) λe2=>?_⟩;have M:=E.box 0 i0;have ad:=(aa.dh (E.aX 2 [1,0])).2;refine⟨z.1,M.cell0 i0,a,i0,x.1,ad.cell0 i0,?_⟩;dsimp only;rw[D.seq,Y.seq,al (m.seq+1)];refine cb (λe=>no E (.inr e)) λe3=>?_;refine⟨_,M.cell i0,?_⟩;have U:=jQ e2;have W:∀k∈n.drives,0<=k/\k<64:=lq e2;refine(NI z.2.2.2.2.2.2.1 n.drives X.drives i4 (E.aX 2 [1,0])).mono ?_;rintro _ h5 ⟨s,rfl,R5⟩;obtain⟨live,b⟩:∃live,live=aT ds n.drives:=⟨_,rfl⟩
 rw[<-b]at R5;have ap:ii live<=64:=by rw[b];exact zf (qR _ _) U
 have f:∀k∈live,0<=k/\k<64:=λk S=>by rw[b]at S;exact W k (qI.1 S).1
 have H5:=(E.co R5).aX 4 [2,3,0,1];refine⟨s,i0,z,(H5.box 3 i0).aU _ i0,(nX z n h5 (hS.at [_,_,_,_] H5) j).mono ?_⟩;rintro _ h6 ⟨pg,rfl,R6⟩;have q:=(aa.Ai R6).1;have G:=jW n j;obtain⟨r,J⟩:∃r,r=ii (bu n):=⟨_,rfl⟩
 rw[<-J]at q G;have H6:=H5.up R6.aj;refine⟨pg,i0,H6.alloc af i0 λc h7 H7=>?_⟩;have H7:=H7.bA;refine H7.storeAll af 0 i0 i0 [xq xx (pg.len:Int)] i0 i0 i0 i0 λh8 l=>?_;rw[q]at l;have l:aa B h0 h8 (bp bz a pw (aV x) offs da w ds::cj x m::au c 3 [xq xx (r:Int)]::ak 3 s 1 av live::au F 44 (aV z)::As):=l.aX 5 [1,2,0,3,4];obtain⟨T,p⟩:∃T,T=cj x m::au c 3 [xq xx (r:Int)]::ak 3 s 1 av live::au F 44 (aV z)::As:=⟨_,rfl⟩
 have tX:St B h0 T λh=>df h x m:=by rw[p];exact St.dS 0 i0 λ_ t=>t
 have tN:St B h0 T λh=>cx h c 3 [xq xx (r:Int)]:=by rw[p];exact St.dS (A:=au c 3 [xq xx (r:Int)]) 1 i0 λ_ t=>t.1
 have R:St B h0 T λh=>Rd h s 1 av live:=by rw[p];exact St.dS (A:=ak 3 s 1 av live) 2 i0 λ_ t=>t.1.seq (λ_=>rfl) t.2
 have tM:St B h0 T λh=>cx h F 44 (aV z):=by rw[p];exact St.dS (A:=au F 44 (aV z)) 3 i0 λ_ t=>t.1
 have tY:St B h0 T λh=>df h z n:=by rw[p];exact hS.cons.cons.cons.cons
 obtain⟨N,hN⟩:∃N:Int->Int,N=λ_=>(r:Int):=⟨_,rfl⟩
 have tT:St B h0 T λh=>SE 212 #[] #[xt (dB c)] N live h:=λBs h' d k S=>by
  refine AO k c ?_;unfold oM;exact⟨(r:Int),(tN Bs h' d).cell0 i0,by rw[hN],Sp.refl h'⟩
 have fin:∀{h':f8} {w':Pow} {u:aJ},aa B h0 h' (bp bz a pw (aV x) offs da w' u::T)->aa B h0 h' (bp bz a pw (aV x) offs da w' u::cj x m::As):=λ{h' w' u} d=>by
  rw[p]at d;exact d.aX 5 [0,1]
 rw[<-p]at l;have I:db m offs w ds n=(if live=[]∨dP m ds live N=eR then(7,m,w,ds)else
   if(makes m N live w ds).1≠0 then((makes m N live w ds).1,m,(makes m N live w ds).2)else
   ((layAll (bM n live) (makes m N live w ds).2.1 (makes m N live w ds).2.2).1,if(layAll (bM n live) (makes m N live w ds).2.1 (makes m N live w ds).2.2).1=0 then n else m,(layAll (bM n live) (makes m N live w ds).2.1 (makes m N live w ds).2.2).2)):=by
  rw[hN,J,b];unfold db;rw[g0 n4,g0 (by rw[e2,hU (by simpa using e3)];decide)]
 rw[I];have O:=(R.at [_] l).len;refine bj (cy (λe=>?_) λe4=>?_)
 ·have:live=[]:=List.length_eq_zero_iff.1 i4;rw[f9 (.inl this)];exact⟨i0,x,fin l⟩
 have ab:live≠[]:=λh=>e4 (by rw[O,h];rfl);refine(NT 212 #[] #[xt (dB c)] N x m s live ld (λBs h' d=>⟨tX Bs h' d,tT Bs h' d⟩) hz (R.at [_] l) i4 f l).mono ?_;rintro _ h9 ⟨rfl,R9⟩;have H9:=l.up R9.aj;refine⟨_,i0,bo (λg=>?_) λg=>?_⟩
 ·rw[f9 (.inr g)];exact⟨i0,x,fin H9⟩
 rw[g0 (by rintro(h|h);exact ab h;rw[g]at h;cases h)];refine(NU 212 #[] #[xt (dB c)] N x m s live ld (λBs h' d=>⟨tX Bs h' d,tT Bs h' d,R Bs h' d⟩) hz i4 f H9).mono ?_;rintro _ ao ⟨rfl,o⟩;obtain⟨Q,V⟩:∃Q,Q=makes m N live w ds:=⟨_,rfl⟩
 rw[<-V]at o⊢;refine⟨_,i0,cb (λZ=>?_) λZ=>?_⟩
 ·rw[f9 Z];exact⟨i0,x,fin o⟩
 rw[g0 (by simpa using Z)];refine⟨z,(tM.at [_] o).aU _ i0,(NW x z n s live (λBs h' d=>⟨tY Bs h' d,R Bs h' d⟩) j i4 f o).mono ?_⟩;rintro _ am ⟨rfl,Q1,Q0⟩;refine⟨_,i0,i0,?_⟩;by_cases P:(layAll (bM n live) Q.2.1 Q.2.2).1=0
 ·obtain⟨y2,K⟩:=Q0 P;rw[f9 P];rw[p]at K;exact⟨y2,K.aX 6 [0,1]⟩
 ·rw[g0 P];exact⟨x,fin (Q1 P)⟩
end
end Go.Qw
namespace Go.Vc
open Go Wl
section
variable {k:Kit} {B:aD} {h0 h:f8} {As:List HP} {a pw b:eX} {mc:bg} {offs:Int} {da:List aO} {w:Pow} {ds:aJ} {d:bt} {n:Nat}
theorem aa.afk(ok:gh mc da ds)(F:n<64)(H:aa B h0 h (au a k.tS (cT mc pw offs (da.set n (dB b)))::dn k.tP pw w::(gc k pw da ds++(iG k.tD (k.f pw) b d::As)))):aa B h0 h (bp k a pw mc offs (da.set n (dB b)) w (ds.set n (dB d))::As):=by
 have t:=ok.la;have p:=ok.ls;have q:gh mc (da.set n (dB b)) (ds.set n (dB d)):=⟨ok.l8,by simp[t],by simp[p],λi=>by
  by_cases g:n=i
  ·subst g;rw[qe,qe,zl i4,zl i4];rfl
  ·have:=ok.same i;rw[qe,qe]at this⊢;rw[zD g,zD g];exact this⟩
 have s:=Fg (k:=k) (pw:=pw) ok;have m:gc k pw (da.set n (dB b)) (ds.set n (dB d))=(gc k pw da ds).set n (iG k.tD (k.f pw) b d):=by
  apply zG;intro j;simp only[gc,q7,List.getElem?_zipWith,List.length_zipWith];by_cases o:n=j
  ·subst o;rw[f9 i0,f9 i4,f9 i0,f9 i4,f9 i0,f9 i4];rfl
  ·simp[o]
 refine aa.pT q ?_;rw[m];obtain⟨L,r⟩:∃L,L=gc k pw da ds:=⟨_,rfl⟩
 rw[<-r]at H s⊢;have c:n<ii L:=i4
 have H:=H.fZ (n+2) (A:=L[n]) (D:=emp) (by rw[qw,qw,qo c,qd c]) λ_ _=>trivial;have z:(au a k.tS (cT mc pw offs (da.set n (dB b)))::dn k.tP pw w::(L++(iG k.tD (k.f pw) b d::As))).set (n+2) emp=au a k.tS (cT mc pw offs (da.set n (dB b)))::dn k.tP pw w::(L.set n emp++(iG k.tD (k.f pw) b d::As)):=by rw[zw,zw,List.set_append_left _ _ c]
 rw[z]at H;have l:ii (L.set n emp)=ii L:=zh;have u:=H.cons (ii L+2) (A:=iG k.tD (k.f pw) b d) (by
  rw[qw,qw,qj i4,l,zc];rfl)
 have e:(au a k.tS (cT mc pw offs (da.set n (dB b)))::dn k.tP pw w::(L.set n emp++(iG k.tD (k.f pw) b d::As))).set (ii L+2) emp=au a k.tS (cT mc pw offs (da.set n (dB b)))::dn k.tP pw w::(L.set n emp++(emp::As)):=by rw[zw,zw,qV _ _ i4,l,zc];rfl
 rw[e]at u;have v:=u.aX 3 [0,2,1];have E:aa B h0 h (iG k.tD (k.f pw) b d::dn k.tP pw w::au a k.tS (cT mc pw offs (da.set n (dB b)))::(L.set n emp++(emp::As))):=v;have y:=aa.JJ n c E;have x:=aa.closeAll (au a k.tS (cT mc pw offs (da.set n (dB b)))::dn k.tP pw w::L.set n (iG k.tD (k.f pw) b d)) y;exact aa.pu (L:=au a k.tS (cT mc pw offs (da.set n (dB b)))::dn k.tP pw w::L.set n (iG k.tD (k.f pw) b d)) x.re
end
end Go.Vc
