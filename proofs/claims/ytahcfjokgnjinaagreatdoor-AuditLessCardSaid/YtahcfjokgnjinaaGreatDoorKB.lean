/- Lemmas for the proof of the law; no condition. -/
import Derived.Test.YtahcfjokgnjinaaGreatDoorKA
import Derived.Test.YtahcfjokgnjinaaGreatDoorShelfB
import Derived.Test.YtahcfjokgnjinaaGreatDoorPlB
set_option linter.unusedVariables false
set_option maxHeartbeats 2000000
set_option linter.unusedSimpArgs false
open Go.Proofs.Tryz renaming prog -> xB
open Go.Value renaming agg -> xw, bool -> xv, int -> xq, pointer -> xt, slice -> xr, string -> xu
open Go.IntKind renaming bits -> qk, i64 -> xx, signed -> va, u32 -> xz, u64 -> xA, u8 -> xy, wrap -> qc
open Nat renaming le_of_eq -> xh
open Int renaming tmod -> wk
open Bool renaming and_self -> xk
open List renaming all_cons -> xl, pairwise_map -> vl, range -> qA, replicate -> qh, zipWith -> zi
open Option renaming some -> zR
open Go.Instr renaming storeAt -> qf
open Prod renaming fst -> qI, snd -> zI
set_option maxRecDepth 100000
open Option renaming some -> dB, none -> eH
open Bool renaming true -> eR, false -> eS
open Go renaming Addr -> f7
open Go.Vc renaming Heap -> f9
open List renaming length -> i1
namespace Go.Qw
open Go Go.Vc Go.Proofs Wl
theorem aff{α:Type}{h:f9}{e:TypeId}{s:Sl}{k:Nat}{f:α->bh}{l:List α}(a:Own h e s k f l)(c:l≠[]):s.ptr.isNone=eS:=by
 rcases a.head with⟨_,_,h3⟩|⟨b,rest,h1,_⟩
 ·exact absurd h3 c
 ·rw[h1];rfl
theorem UI(p:Pm)(seed id:Int)(h:f9):ac xB 175 #[kW p,xq xz seed,xq xx id] h λv h'=>∃r:Sl,v=r/\
  Sp h h' [an 5 r 1 aF (if bO p&&bX id then pi (bJ p).toNat seed id else[])]/\r.ptr.isNone=!(bO p&&bX id):=by
 refine Zw p seed id ?_;unfold Uo;refine(Sp.refl h).boxed λa P E=>?_;refine bi ?_;refine⟨p,(E.box 0 i4).aV _ i4,(eK p P).mono ?_⟩;rintro v G ⟨rfl,K⟩;have t:=E.comp K;have q:(bO p&&bX id)=eS->Sp h G [an 5 ⟨eH,0,0⟩ 1 aF (if bO p&&bX id then pi (bJ p).toNat seed id else[])]/\Option.isNone (eH:aM)=!(bO p&&bX id):=λN=>by
  rw[N];exact⟨(t.nil 5 1 aF).take 1 (λi A g=>by cases i with|zero=>exact g|succ i=>simp at g),i4⟩
 refine⟨_,i4,bo (λe=>⟨⟨eH,0,0⟩,i4,q o0⟩) λl=>?_⟩;refine aj (λe=>⟨⟨eH,0,0⟩,i4,q l4⟩) λW=>?_;refine aj (λe=>⟨⟨eH,0,0⟩,i4,q l4⟩) λF=>?_;have hid:bX id=eR:=l4
 refine⟨p,(t.box 0 i4).aV _ i4,(kL p G).mono ?_⟩;rintro v h3 ⟨rfl,Q⟩;have S:=t.comp Q;have L:=(co p).1 l;have U:bJ p=p.1+p.2.1:=by rw[bJ,g0 l]
 obtain⟨n,B⟩:∃n:Nat,bJ p=n:=⟨(bJ p).toNat,i5⟩
 refine⟨_,i4,?_⟩;dsimp only;rw[B];refine S.make af aF hO i6 0 i4 i4 n n i4 i4 (qm _) i5 λv R X M D=>?_;refine⟨p,(D.box 0 i4).aV _ i4,(Co p seed id R).mono ?_⟩;rintro w V ⟨c,rfl,s⟩;rw[l,hid,B,ql]at s;rw[l,hid,ql];have y:=D.comp s;have j:=y.seq 2 i4 λ_=>rfl;have o:=j.len;obtain⟨b,d⟩:∃b,b=dv n seed id:=⟨_,rfl⟩
 have m:∀x∈b,0<=x/\x<(n:Int):=λx H=>nt i5 i5 (by rw[<-d];exact H);have z:i1 b<=n:=by rw[d];exact BQ i5 i5 _ _
 simp only[xk,if_true,<-d]at y j o s;refine⟨c,i4,?_⟩;refine aA (λi:Nat=>(i:Int)) (λi h'=>i<=i1 b/\Sp h h' [au a 26 [xq xx p.1,xq xx p.2.1,xq xx p.2.2],an 5 v 1 aF (gu n (b.take i)),an 3 c 1 av b]) (λi=>i1 b-i) 0 i4 ⟨i5,y⟩ ?_;rintro i I ⟨g,k⟩;refine aj (λe=>?_) (λe=>?_)
 ·have f:i<i1 b:=i5
  have H:=m _ (qg f);refine(k.seq 2 i4 λ_=>rfl).bG i i4 f _ i4 ?_;refine k.set af 1 i4 (λ_=>rfl) i4 b[i].toNat i5 (by rw[sX];omega) 1 i4 i4 i4 λT J=>?_;refine⟨i+1,j0,⟨i5,?_⟩,i5⟩;have F:gu n (b.take (i+1))=(gu n (b.take i)).set b[i].toNat 1:=by rw[aK _ _ f,gu,zN];rfl
  rw[F];exact J
 ·rw[qi i5]at k;have u:Sp h I [an 5 v 1 aF (gu n b)]:=(k.del 2).take 1 (λi A g=>by cases i with|zero=>exact g|succ i=>simp at g);refine⟨v,i4,?_,aff (u.own 0 i4) λO=>?_⟩
  ·rw[d]at u;exact u
  ·have:=sX n b;rw[O]at this;simp at this;omega
theorem uP(p:Pm)(h:f9):ac xB 118 #[kW p] h λv h'=>∃r:Sl,v=r/\Sp h h' [fR 71 r 1 aF (if bO p then bF p.1.toNat p.2.1.toNat else[])]:=by
 refine Uk p ?_;unfold Nk;refine(Sp.refl h).boxed λa P E=>?_;refine⟨p,(E.box 0 i4).aV _ i4,(eK p P).mono ?_⟩;rintro v X ⟨rfl,M⟩;have B:=E.comp M;refine⟨_,i4,bo (λe=>⟨⟨eH,0,0⟩,i4,?_⟩) λw=>?_⟩
 ·rw[e];exact(B.My 71 1 aF).take 1 (λi A c=>by cases i with|zero=>exact c|succ i=>simp at c)
 have N:=(co p).1 w;have L:bJ p=p.1+p.2.1:=by rw[bJ,g0 w]
 obtain⟨K,J⟩:∃K:Nat,p.1=K:=⟨p.1.toNat,i5⟩
 obtain⟨b,hH⟩:∃H:Nat,p.2.1=H:=⟨p.2.1.toNat,i5⟩
 refine(se X).mono ?_;rintro v h3 ⟨f,rfl,R3⟩;have z:=(B.comp R3).My 71 1 aF;refine⟨dB f,i4,_,(z.box 0 i4).cell i4,?_⟩;refine aA (λt:Sl×Nat=>(t.1,(t.2:Int))) (λt h'=>t.2<=b/\Sp h h' [au a 26 [xq xx p.1,xq xx p.2.1,xq xx p.2.2],au f 238 db,fR 71 t.1 1 aF ((bF K b).take t.2)]) (λt=>b-t.2) (⟨eH,0,0⟩,0) i4 ⟨jj,z⟩ ?_;rintro⟨s,k⟩ h4 ⟨hk,m⟩;dsimp only at*;refine aj (λe=>?_) (λe=>?_)
 ·have Q:k<b:=i5
  refine bi ⟨p,(m.box 0 i4).aV _ i4,p.1,(m.box 0 i4).cell0 i4,?_⟩;refine(kL p h4).mono ?_;rintro v W ⟨rfl,O⟩;have F:=m.comp O;refine⟨_,i4,⟨(F.box 0 i4).cell0 i4,trivial⟩,?_⟩;dsimp only;rw[ak (p.1+k),L];refine(aco _ _ W).mono ?_;rintro v h6 ⟨u,rfl,q⟩;rw[g0 i5]at q;have T:(p.1+p.2.1).toNat=K+b:=i5
  have V:(p.1+(k:Int)).toNat=K+k:=i5
  rw[T,V]at q;have o:=F.comp q;refine⟨u,i4,⟨(o.box 0 i4).cell0 i4,trivial⟩,p.1,(o.box 0 i4).cell0 i4,?_⟩;let rowAt:Nat->bf:=λj=>(qA j).map (λi=>Gf.pw ((k+1)*(i+1)%255))++((qh (K+b) (0:UInt8)).set (K+k) 1).drop j;refine aA (λj:Nat=>(j:Int)) (λj h'=>j<=K/\Sp h h' [au a 26 [xq xx p.1,xq xx p.2.1,xq xx p.2.2],au f 238 db,fR 71 s 1 aF ((bF K b).take k),an 5 u 1 aF (rowAt j)]) (λj=>K-j) 0 i4 ⟨i5,o⟩ ?_;rintro j I ⟨hj,n⟩;refine aj (λZ=>?_) (λZ=>?_)
  ·have g:j<K:=i5
   have hm:(k+1)*(j+1)<=4*16:=wv i5 i5;have U:qc xx (qc xx ((k:Int)+1)*qc xx ((j:Int)+1))=(((k+1)*(j+1):Nat):Int):=by rw[ak ((k:Int)+1),ak ((j:Int)+1),show((k:Int)+1)*((j:Int)+1)=(((k+1)*(j+1):Nat):Int)by rw[wM];rfl];exact xC _
   rw[U];refine(afe f _ I (n.box 1 i4)).mono ?_;rintro v h8 ⟨rfl,rfl⟩;refine⟨_,i4,?_⟩;have D:i1 (rowAt j)=K+b:=by simp[rowAt];omega
   refine n.set af 3 i4 (λ_=>rfl) i4 j i4 i5 _ i4 i4 i4 λh9 x=>?_;refine⟨j+1,j0,⟨i5,?_⟩,i5⟩;have y:(rowAt j).set j (Gf.pw ((((k+1)*(j+1):Nat):Int)%255).toNat)=rowAt (j+1):=by
    have G:((((k+1)*(j+1):Nat):Int)%255).toNat=(k+1)*(j+1)%255:=i5
    rw[G];simp only[rowAt];rw[qV _ _ jj,qy,zE,zc,qP i9,zq,zV,qW,qp];rfl
   rw[<-y];exact x
  ·have g:j=K:=i5
   subst g;have y:rowAt j=my j b k:=by
    simp only[rowAt,my];congr 1;apply zG;intro i;rw[wJ,q8,qU];by_cases c:i<b
    ·rw[zt c,q7,wh];by_cases d:i=k
     ·subst d;simp[c]
     ·rw[g9 i5,g0 i5,g9 d]
    ·rw[qS (l:=qA b) i9,g9 i5,wh,g9 i5];rfl
   rw[y]at n;have Y:=n.freeze 3 i4 λ_=>rfl;have S:i1 ((bF j b).take k)=k:=by simp[bF];omega
   refine Y.xZ af 2 3 i6 i4 i4 fM i5 λs' h9 x=>?_;refine⟨(s',k+1),js,⟨i7,?_⟩,i7⟩;have R:(bF j b).take (k+1)=(bF j b).take k++[my j b k]:=by rw[aK _ _ (by simp[bF];omega)];simp[bF]
   dsimp only;rw[R];exact x.del 3
 ·refine⟨s,i4,?_⟩;rw[g0 w,J,hH,ql,ql];rw[qi (by simp[bF];omega)]at m;exact m.take 2 (λi A c=>by cases i with|zero=>exact c|succ i=>simp at c)
theorem NX(p:Pm)(h:f9):ac xB 200 #[kW p] h λv h'=>∃r:Sl,v=r/\Sp h h' [an 3 r 1 av (upto (max 0 (min p.1 16)).toNat)]:=by
 refine LG p ?_;unfold DP;refine(Sp.refl h).boxed λa m d=>?_;refine⟨p.1,(d.box 0 i4).cell0 i4,?_⟩;have em:(if(if(16:Int)<p.1 then(16:Int)else p.1)>(0:Int)then(if(16:Int)<p.1 then(16:Int)else p.1)else(0:Int))=((max 0 (min p.1 16)).toNat:Int):=by split<;>split<;>omega
 dsimp only;rw[em];generalize q:(max 0 (min p.1 16)).toNat=N;have f:N<=16:=i5
 refine aA (λt:Sl×Nat=>(t.1,(t.2:Int))) (λt h'=>t.2<=N/\Sp h h' [emp,an 3 t.1 1 av (upto t.2)]) (λt=>N-t.2) (⟨eH,0,0⟩,0) i4 ⟨jj,(d.fZ 0 i4 λ_ _=>trivial).nil 3 1 av⟩ ?_;rintro⟨s,k⟩ n ⟨o,c⟩;dsimp only at*;refine aj (λe=>?_) (λe=>?_)
 ·refine c.push af 1 i4 gM i4 i6 (λ_=>rfl) fD (k:Int) i4 i6 sp λg h3 l=>?_;refine⟨(g,k+1),js,⟨i7,?_⟩,i7⟩;have j:upto (k+1)=upto k++[(k:Int)]:=by simp[upto,zV]
  dsimp only;rw[j];exact l
 ·have:k=N:=i5
  subst this;exact⟨s,i4,c.take 1 λi A b=>by cases i with|zero=>exact b|succ i=>simp at b⟩
theorem KP(p:Pm)(seed:Int)(f:Sl)(l:aD)(h:f9)(E:Rd h f 1 av l)(K:i1 l<=2^30):ac xB 110 #[kW p,xq xz seed,f] h λv h'=>∃r:Sl,v=r/\Sp h h' [fR 71 r 1 aF (dR p seed l)]:=by
 refine Kd p seed f ?_;unfold Cf;refine(Sp.refl h).boxed λa y D=>?_;refine⟨p,(D.box 0 i4).aV _ i4,(uP p y).mono ?_⟩;rintro v J ⟨r,rfl,F⟩;have z:=D.comp F;refine⟨r,i4,?_⟩;have B:=E.len;let at_:Nat->cJ:=λk=>dR p seed (l.take k);have h0:(if bO p then bF p.1.toNat p.2.1.toNat else[])=at_ 0:=by simp[at_,dR]
 rw[h0]at z;refine aA (λt:Sl×Nat=>(t.1,(t.2:Int))) (λt h'=>t.2<=i1 l/\Sp h h' [au a 26 [xq xx p.1,xq xx p.2.1,xq xx p.2.2],fR 71 t.1 1 aF (at_ t.2)]) (λt=>i1 l-t.2) (r,0) i4 ⟨jj,z⟩ ?_;rintro⟨s,k⟩ h3 ⟨N,m⟩;dsimp only at*;refine aj (λe=>?_) (λe=>?_)
 ·have d:k<i1 l:=i5
  refine(Seq.up E m.ai).bG k i4 d _ i4 ?_;refine⟨p,(m.box 0 i4).aV _ i4,(UI p seed l[k] h3).mono ?_⟩;rintro v O ⟨w,rfl,H,c⟩;have q:=(m.comp H).freeze 2 i4 λ_=>rfl;refine⟨w,i4,?_⟩;have o:i1 (at_ k)<=4+k∨at_ k=[]:=by
   by_cases u:bO p
   ·left;have:=(co p).1 u;have y:=qQ bX (l.take k);have J:=List.length_take_le k l;simp only[at_,dR,u,if_true,qx,qy,bF,zE];omega
   ·right;simp[at_,dR,u]
  have n:i1 (at_ k)+1<=2^32:=by
   rcases o with h|h
   ·omega
   ·rw[h];simp
  dsimp only;refine bo (λg=>?_) (λg=>?_)
  ·rw[c]at g;have b:(bO p&&bX l[k])=eR:=l0
   rw[b,g0 rfl]at q;refine q.xZ af 1 2 i6 i4 i4 fM n λL M I=>?_;refine⟨(L,k+1),js,⟨i7,?_⟩,i7⟩;rw[qB]at b;have j:at_ (k+1)=at_ k++[pi (bJ p).toNat seed l[k]]:=by simp only[at_,dR,b.1,if_true];rw[pj d,g0 b.2,qW,qp];rfl
   dsimp only;rw[j];exact I.del 2
  ·rw[c]at g;have b:(bO p&&bX l[k])=eS:=by
    cases hh:(bO p&&bX l[k])with
    |false=>rfl
    |true=>rw[hh]at g;cases g
   refine⟨(s,k+1),js,⟨i7,?_⟩,i7⟩;have j:at_ (k+1)=at_ k:=by
    simp only[at_,dR];rw[Bool.and_eq_false_iff]at b;rcases b with h|h
    ·simp[h]
    ·have G:(l.take (k+1)).filter bX=(l.take k).filter bX:=by rw[pj d,g9 sR]
     rw[G]
   dsimp only;rw[j];exact q.del 2
 ·refine⟨s,i4,?_⟩;have j:at_ k=dR p seed l:=by simp only[at_];rw[qi i5]
  rw[j]at m;exact m.take 1 (λi A x=>by cases i with|zero=>exact x|succ i=>simp at x)
theorem nI(a:Sl)(m:aR)(n:Nat)(h:f9)(d:fE h a 1 aF m)(f:ba n m)(p:n<=64:=by omega)(o:i1 m<=2^30:=by omega):ac xB 240 #[a] h λv h'=>v=xv eR/\h'=h:=by
 refine WD a ?_;unfold QS;have s:=d.len;refine aA (λk:Nat=>(k:Int)) (λk h'=>h'=h/\k<=i1 m) (λk=>i1 m-k) 0 i4 ⟨i4,i5⟩ ?_;rintro k h' ⟨rfl,q⟩;refine aj (λe=>?_) λe=>⟨i4,i4⟩;have c:k<i1 m:=i5
 refine d.get k i4 c λr i=>?_;refine d.get 0 i4 i5 λl b=>?_;have g:=i.len;have j:=b.len;rw[f _ (qg _)]at g j;refine bY (λe=>i5) λ_=>aj (λe=>i5) λ_=>?_;exact⟨k+1,j0,⟨i4,i5⟩,i5⟩
theorem Bc(a:Sl)(m:aR)(n:Nat)(h:f9)(d:fE h a 1 aF m)(i:ba n m)(B:n<=64:=by omega)(A:i1 m<=2^30:=by omega):ac xB 241 #[a] h λv h'=>∃(r:Sl) (rs:List Sl),v=r/\rs.length=i1 m/\Sp h h' (an 71 r 1 bv rs::bE 5 1 aF rs m):=by
 refine WE a ?_;unfold QU;have F:=d.len;refine(Sp.refl h).make af bv fM i6 ⟨eH,0,0⟩ i4 i4 0 m.length i4 i5 i5 i5 λs z g y o=>?_;refine aA (λt:Sl×List Sl=>(t.1,(i1 t.2:Int))) (λt h'=>i1 t.2<=i1 m/\Sp h h' (an 71 t.1 1 bv t.2::bE 5 1 aF t.2 (m.take t.2.length))) (λt=>i1 m-i1 t.2) (s,[]) i4 ⟨jj,by simpa[bE]using o⟩ ?_;rintro⟨s,rs⟩ q ⟨D,c⟩;dsimp only at*;refine aj (λe=>?_) (λe=>?_)
 ·have b:i1 rs<i1 m:=i5
  refine(d.up c.ai).get rs.length i4 b λr k=>?_;have f:m[i1 rs].length=n:=i _ (qg _);refine(eW r _ q k i5).mono ?_;rintro v h3 ⟨w,rfl,u⟩;have j:=c.comp u;refine⟨w,i4,?_⟩;refine j.push af 0 i4 fM i4 i6 (λ_=>rfl) kl w i4 i6 i5 λx E l=>?_;refine⟨(x,rs++[w]),by dsimp only;rw[ak _];simp,⟨i9,?_⟩,i9⟩;dsimp only;rw[show(rs++[w]).length=i1 rs+1 by simp,aK _ _ b,Al (by rw[List.length_take];omega)];exact l
 ·have p:m.take rs.length=m:=qi i5;rw[p]at c;exact⟨s,rs,i4,i5,c⟩
theorem tu(a:Sl)(m:aR)(h:f9)(b:fE h a 1 aF m):ac xB 244 #[a] h λv h'=>v=xq xx (eI m)/\h'=h:=by
 refine Sk a ?_;unfold KJ;have d:=b.len;refine ck (λe=>?_) (λe=>?_)
 ·have:m=[]:=za i5;subst this;exact⟨i4,i4⟩
 ·refine b.get 0 i4 i5 λr c=>⟨?_,i4⟩
  rw[c.len,eI,bD i5]
theorem UJ{r:Row}{c:Nat}(h:c<i1 r:=by omega):aS r c=r[c]:=by rw[aS,qe,qd h];rfl
theorem WU(a:Sl)(m:aR)(n b bA:Nat)(h:f9)(q:fE h a 1 aF m)(t:ba n m)(x:bA<n)(y:i1 m<=2^30):
  ac xB 300 #[a,xq xx b,xq xx bA] h λv h'=>v=xq xx (match jq m b bA with|some i=>(i:Int)|none=>-1)/\h'=h:=by
 refine PM a b bA ?_;unfold IB;have z:=q.len;refine aA (λk:Nat=>(k:Int)) (λk h'=>h'=h/\b<=k/\k<=max b m.length/\∀j,j<k->(decide (b<=j)&&(aS (aE m j) bA !=0))=eS) (λk=>i1 m-k) b i4 ⟨i4,i5,i5,λj g=>by rw[ii i5];rfl⟩ ?_;rintro k h' ⟨rfl,l,w,g⟩;refine aj (λe=>?_) (λe=>?_)
 ·rw[jq,YU λj f=>g j i5];exact⟨i4,i4⟩
 ·have d:k<i1 m:=i5
  have s:m[k].length=n:=t _ (qg _);refine q.get k i4 d λr u=>?_;refine u.bG bA i4 i5 _ i4 ?_;have c:aS (aE m k) bA=m[k][bA]'(by omega):=by rw[bD d,UJ]
  refine bY (λo=>?_) (λo=>?_)
  ·have p:(decide (b<=k)&&(aS (aE m k) bA !=0))=eR:=by rw[hU l,c];simp;exactλh0=>o (by rw[h0];rfl)
   rw[jq,YV d g p];exact⟨i4,i4⟩
  ·refine⟨k+1,j0,⟨i4,i5,i5,λj f=>?_⟩,i5⟩;rcases Nat.lt_succ_iff_lt_or_eq.1 f with h1|rfl
   ·exact g j h1
   ·rw[c,Dc.1 o];simp
theorem NY(f:f7)(c:UInt8)(a:Sl)(l:Row)(h:f9)(i:fN h f)(m:Rd h a 1 aF l)(u:i1 l<=2^30):ac xB 301 #[xt (dB f),xq xy c.toNat,a] h λv h'=>∃r:Sl,v=r/\Sp h h' [an 5 r 1 aF (scaleB c l)]:=by
 refine Sm (dB f) _ a ?_;unfold KK;have A:=m.len;refine(Sq f h).mono ?_;rintro v j ⟨rfl,rfl⟩;refine⟨dB f,i4,?_⟩;refine(Sp.refl j).make af aF hO i6 0 i4 i4 l.length l.length i5 i5 (qm _) i5 λs x n t o=>?_;refine aA (λk:Nat=>(k:Int)) (λk h'=>k<=i1 l/\Sp j h' [an 5 s 1 aF ((l.take k).map (Gf.mul c)++qh (i1 l-k) 0)]) (λk=>i1 l-k) 0 i4 ⟨i5,by simpa using o⟩ ?_;rintro k h3 ⟨y,d⟩;refine aj (λe=>?_) (λe=>?_)
 ·have b:k<i1 l:=i5
  refine(Seq.up m d.ai).bG k i4 b _ i4 ?_;refine(LV f c l[k] h3 (i.ai d.ai i.lt)).mono ?_;rintro v z ⟨rfl,rfl⟩;refine⟨_,i4,?_⟩;refine d.set af 0 i4 (λ_=>rfl) i4 k i4 i9 _ i4 i4 i4 λw q=>?_;refine⟨k+1,j0,⟨i5,?_⟩,i5⟩;have g:i1 ((l.take k).map (Gf.mul c))=k:=i9
  have p:((l.take k).map (Gf.mul c)++qh (i1 l-k) 0).set k (Gf.mul c l[k])=(l.take (k+1)).map (Gf.mul c)++qh (i1 l-(k+1)) 0:=by rw[qV _ _ i5,g,zc,show l.length-k=i1 l-(k+1)+1 by omega,List.replicate_succ,zq,aK _ _ b,qW,qp];rfl
  rw[<-p];exact q
 ·have:k=i1 l:=i5
  subst this;refine⟨s,i4,?_⟩;rw[qi (qm _),zc,List.replicate_zero,qN]at d;exact d
theorem Bd{c:UInt8}{a t:Row}(d:i1 a=i1 t){k:Nat}(b:k<i1 t):(zi (λx y=>y^^^Gf.mul c x) (a.take k) (t.take k)++t.drop k).set k (t[k]^^^Gf.mul c (a[k]'(by omega)))=zi (λx y=>y^^^Gf.mul c x) (a.take (k+1)) (t.take (k+1))++t.drop (k+1):=by
 have e:i1 (zi (λx y=>y^^^Gf.mul c x) (a.take k) (t.take k))=k:=i9
 rw[qV _ _ i5,e,zc,qP b,zq,aK _ _ b,aK _ _ (show k<i1 a by omega),yG i9];simp
theorem afg(f:f7)(c:UInt8)(a l:Sl)(d lt:Row)(h:f9)(E:fN h f)(u:¬l.on f.block)(B:Seq h (λb=>¬l.on b) a 1 aF d)(z:Own h 5 l 1 aF lt)(m:i1 d=i1 lt)(I:i1 d<=2^30):
  ac xB 303 #[xt (dB f),xq xy c.toNat,a,l] h λv h'=>v=.tuple #[]/\Own h' 5 l 1 aF (cV c d lt)/\bc (λb=>¬l.on b) h h':=by
 refine WF (dB f) _ a l ?_;unfold QV;have K:=B.len;have G:=z.len;refine ck (λe=>?_) (λ_=>?_)
 ·have D:c=0:=Dc.1 e;subst D;have:cV 0 d lt=lt:=by apply List.ext_getElem (by rw[ca m]);intro i A H;simp[cV,Gf.zero_mul]
  exact⟨i4,by rw[this];exact z,bc.refl _ _⟩
 ·refine aA (λk:Nat=>(k:Int)) (λk h'=>k<=i1 d/\Own h' 5 l 1 aF (zi (λx y=>y^^^Gf.mul c x) (d.take k) (lt.take k)++lt.drop k)/\bc (λb=>¬l.on b) h h') (λk=>i1 d-k) 0 i4 ⟨i5,by simpa using z,bc.refl _ _⟩ ?_;rintro k A ⟨J,g,j⟩;refine aj (λe=>?_) (λe=>?_)
  ·have t:k<i1 d:=i5
   have w:k<i1 lt:=i5
   have o:i1 (zi (λx y=>y^^^Gf.mul c x) (d.take k) (lt.take k))=k:=i9
   have F:i1 (zi (λx y=>y^^^Gf.mul c x) (d.take k) (lt.take k)++lt.drop k)=i1 lt:=by rw[qx,o,List.length_drop];omega
   refine(B.ai j).bG k i4 t _ i4 ?_;have q:(zi (λx y=>y^^^Gf.mul c x) (d.take k) (lt.take k)++lt.drop k)[k]'(by omega)=lt[k]:=by rw[List.getElem_append_right i5];simp[o]
   refine(g.seq (p:=λ_=>True) (λ_=>rfl) λ_ _=>trivial).SF k i4 i5 _ i4 λax n=>?_;rw[q]at n⊢;refine(LV f c d[k] A (E.ai j u)).mono ?_;rintro v H ⟨rfl,rfl⟩;refine⟨_,i4,⟨n,trivial⟩,?_⟩;dsimp only;rw[nH];refine g.set af (λ_=>rfl) i4 k i4 i5 _ i4 i4 i4 λh3 s r _=>⟨trivial,?_⟩
   refine⟨k+1,j0,⟨i5,?_,j.trans r⟩,i5⟩;rw[<-Bd m w];exact s
  ·have:k=i1 d:=i5
   subst this;rw[qi (qm _),qi i5,zf i5,qN]at g;exact⟨i4,g,j⟩
abbrev ox(a:Sl)(rs:List Sl)(m:aR):List HP:=an 71 a 1 bv rs::bE 5 1 aF rs m
theorem pW{a:Sl}{rs:List Sl}{m:aR}(c:i1 rs=i1 m)(i:Nat)(b:i<i1 m):(ox a rs m)[i+1]?=dB (an 5 (rs[i]'(by omega)) 1 aF m[i]):=by rw[qw];exact fX c i b
theorem pX{h h':f9}{a:f7}{v:Value}(c:cellOf h a=dB v)(d:bc (λb=>b<h.size) h h'):cellOf h' a=dB v:=d.cell (wn c) c
theorem acs{B:aC}{E:f9}{f:f7}(R:fN E f)(J:B f.block){a:Sl}{n c bA:Nat}{rs:List Sl}{m:aR}(V:i1 rs=i1 m)(W:ba n m)(hc:bA<n)(hn:n<=64)(Z:c<i1 m)(hs:i1 m<=2^30)
  {h:f9} (H:aa B E h (ox a rs m)) {K:f9->Prop} (hk:∀h',aa B E h' (ox a rs (fi c bA m m.length))->K h'):
 aL (σ:=Int) (λd K4 i=>
 Br (decide (d<((a.len:Nat):Int)))
 (Br (d !=(c:Int))
 (∃s:f7,(a.ptr=dB s/\0<=d/\d<((a.len:Nat):Int))/\
 ∃g:Sl,cellOf i (s.add (d.toNat*1))=dB (xr g.ptr g.len g.cap)/\
 ∃D:f7,(g.ptr=dB D/\0<=(bA:Int)/\(bA:Int)<((g.len:Nat):Int))/\
 ∃G:Int,cellOf i (D.add ((bA:Int).toNat*1))=dB (xq xy G)/\
 ∃a25:f7,(a.ptr=dB a25/\0<=(c:Int)/\(c:Int)<((a.len:Nat):Int))/\
 ∃l:Sl,cellOf i (a25.add ((c:Int).toNat*1))=dB (xr l.ptr l.len l.cap)/\
 ∃z:f7,(a.ptr=dB z/\0<=d/\d<((a.len:Nat):Int))/\
 ∃j:Sl,cellOf i (z.add (d.toNat*1))=dB (xr j.ptr j.len j.cap)/\
 ae xB 303 #[(xt (dB f)),(xq xy G),(xr l.ptr l.len l.cap),(xr j.ptr j.len j.cap)] (.many []) i λ_ A=>
 (az.ok [(s.add (d.toNat*1),(xr g.ptr g.len g.cap))] A)/\
 K4 (qc xx (d+(1:Int))) A)
 (K4 (qc xx (d+(1:Int))) i))
 (K i)) (0:Int) h:=by
 have ad:a.len=i1 m:=by rw[(H.own 0 i4).len,V]
 refine aA (λk:Nat=>(k:Int)) (λk h'=>k<=i1 m/\aa B E h' (ox a rs (fi c bA m k))) (λk=>i1 m-k) 0 i4 ⟨i5,by rw[abi];exact H⟩ ?_;rintro k X ⟨ab,o⟩;have M:=pm c bA m k;have u:i1 rs=i1 (fi c bA m k):=by rw[M];exact V
 refine aj (λe=>?_) (λe=>?_)
 ·have r:k<i1 m:=i5
  refine bY (λe2=>?_) (λe2=>?_)
  ·have w:k≠c:=λhh=>e2 (by rw[hh]);have P:aE (fi c bA m k) k=aE m k:=by rw[sY r,g9 i5]
   have N:aE (fi c bA m k) c=aE m c:=by rw[sY Z,g9 i5]
   have e4:(fi c bA m k)[k]'(by omega)=aE m k:=by rw[<-P,bD]
   have e5:(fi c bA m k)[c]'(by omega)=aE m c:=by rw[<-N,bD]
   have x:=pW (a:=a) u k i5;have U:=pW (a:=a) u c i5;rw[e4]at x;rw[e5]at U;have lk:=cA W r;have lt:=cA W Z;have q:=o.off (k+1) 0 i5 x i4;have t:=q.1.seq (λ_=>rfl) q.2;refine t.oq k i4 i5 λa1 L S=>?_;have Q:=o.seq (k+1) x λ_=>rfl;refine Q.bG bA i4 i5 _ i4 ?_;refine t.oq c i4 i5 λ_ _ _=>?_;refine t.oq k i4 i5 λ_ _ _=>?_;have I:(uH (rs[c]'(by omega)) 1 aF (aE m c)).p X (λb=>¬(rs[k]'(by omega)).on b):=by have:=o.off (k+1) (c+1) i5 x U;exact(this.1.seq (λ_=>rfl) this.2).mono λb hb=>hb.2
   refine(afg f _ _ _ (aE m c) (aE m k) X (R.ai o.ai J) (o.base (k+1) x J) I (o.own (k+1) x) i5 i5).mono ?_;rintro v h2 ⟨rfl,T,F⟩;have Y:=o.nR (k+1) x F T;have O:=F.cell S.2 L;refine⟨(),i4,⟨O,trivial⟩,?_⟩;refine⟨k+1,j0,⟨i5,?_⟩,i5⟩;rw[abj r w];show aa B E h2 (an 71 a 1 bv rs::bE 5 1 aF rs ((fi c bA m k).set k _));rw[<-Tk u k i5];have y:(aE m k)[bA]'(by omega)=aS (aE m k) bA:=(UJ).symm;rw[y]at Y;exact Y
  ·have w:k=c:=i5
   subst w;exact⟨k+1,j0,⟨i5,by rw[abk];exact o⟩,i5⟩
 ·have:k=i1 m:=i5
  subst this;exact hk _ o
theorem UK{rs:List Sl}{m:aR}(a:i1 rs=i1 m)(i j:Nat)(c:i<i1 m)(b:j<i1 m):
  ((bE 5 1 aF rs m).set i (an 5 (rs[j]'(by omega)) 1 aF m[j])).set j (an 5 (rs[i]'(by omega)) 1 aF m[i])=bE 5 1 aF ((rs.set i (rs[j]'(by omega))).set j (rs[i]'(by omega))) (jG m i j):=by
 rw[lq a,lq j7,jG,bD c,bD b]
theorem Dd{B:aC}{y:f9}{f:f7}(O:fN y f)(R:B f.block){a:Sl}{n cW:Nat}{rs:List Sl}{m:aR}(hl:i1 rs=i1 m)(hm:ba n m)(hc:cW<=n)(hn:n<=64)(hs:i1 m<=2^30)
  {h:f9} (H:aa B y h (ox a rs m)):ac xB 242 #[xt (dB f),a,xq xx cW] h λv h'=>
   ∃N:List Sl,v=xq xx (bL m cW).1/\N.length=i1 m/\aa B y h' (ox a N (bL m cW).2):=by
 have ao:a.len=i1 m:=by rw[(H.own 0 i4).len,hl]
 refine PI (dB f) a cW ?_;unfold Iu;refine aA (λt:List Sl×Nat=>(((bL m t.2).1:Int),(t.2:Int))) (λt h'=>t.2<=cW/\t.1.length=i1 m/\aa B y h' (ox a t.1 (bL m t.2).2)) (λt=>cW-t.2) (rs,0) i4 ⟨jj,hl,H⟩ ?_;rintro⟨c,bA⟩ h1 ⟨hk,U,I⟩;dsimp only at*;have x:=hY hm bA;have F:=EC m bA;obtain⟨Y,u⟩:∃Y,Y=bL m bA:=⟨_,rfl⟩
 rw[<-u]at x F I⊢;obtain⟨b,l⟩:=Y;dsimp only at x F I⊢;have w:i1 c=i1 l:=i5
 have d:bL m (bA+1)=jH (b,l) bA:=by rw[bL,<-u]
 refine aj (λe=>?_) (λe=>?_)
 ·have P:bA<n:=i5
  have S:fE h1 a 1 aF l:=I.Tl w λ_=>rfl;refine(WU a l n b bA h1 S x.1 P i5).mono ?_;rintro v h2 ⟨rfl,rfl⟩;refine⟨_,i4,?_⟩;dsimp only;cases hb:jq l b bA with
  |none=>
   refine aj (λ_=>?_) λe2=>absurd i6 e2;refine⟨(c,bA+1),?_,⟨i7,U,?_⟩,i7⟩
   ·dsimp only;rw[d,jH,hb,ak _];rfl
   ·dsimp only;rw[d,jH,hb];exact I
  |some i=>
   have hh:=tU hb;refine aj (λe2=>absurd (show((i:Nat):Int)<0 from e2) i5) λ_=>?_;dsimp only;have K:b<i1 l:=i5
   have X:=hh.2.1;have M:=I.seq 0 i4 λ_=>rfl;refine bi ?_;refine M.oq i i4 i5 λ_ _ _=>?_;refine M.oq b i4 i5 λ_ _ _=>?_;refine I.set af 0 i4 (λ_=>rfl) i4 b i4 i5 (c[i]'(by omega)) i4 i4 i4 λh3 H3=>⟨trivial,?_⟩
   refine H3.set af 0 i4 (λ_=>rfl) i4 i i4 i9 (c[b]'(by omega)) i4 i4 i4 λW H4=>⟨trivial,?_⟩
   have o:aa B y W (ox a ((c.set b (c[i]'(by omega))).set i (c[b]'(by omega))) (jG l b i)):=by have:=H4.agn (b+1) (i+1) (A:=an 5 (c[b]'(by omega)) 1 aF l[b]) (A2:=an 5 (c[i]'(by omega)) 1 aF l[i]) (fX w b K) (fX w i X);show aa B y W (an 71 a 1 bv _::bE 5 1 aF _ _);rw[<-UK w b i K X];exact this
   obtain⟨j,G⟩:∃j,j=(c.set b (c[i]'(by omega))).set i (c[b]'(by omega)):=⟨_,rfl⟩
   rw[<-G]at o;have am:i1 j=i1 l:=by rw[G];simp;omega
   obtain⟨g,s⟩:∃g,g=jG l b i:=⟨_,rfl⟩
   have E:ba n g:=by rw[s];exact Hs x.1 K X
   have V:i1 g=i1 l:=by rw[s];exact mf _ _ _
   rw[<-s]at o;have q:i1 j=i1 g:=i5
   have k:b<i1 g:=i5
   refine bi ?_;have gt:=pW (a:=a) q b k;have lt:g[b].length=n:=E _ (qg _);have T:=o.seq 0 i4 λ_=>rfl;refine T.oq b i4 i5 λah D _=>?_;have z:=o.seq (b+1) gt λ_=>rfl;refine z.bG bA i4 i5 _ i4 ?_;refine T.oq b i4 i5 λap L _=>?_;have Q:fN W f:=O.ai o.ai R;refine(afd f _ W Q).mono ?_;rintro v h5 ⟨rfl,rfl⟩;refine⟨_,i4,⟨L,D,trivial⟩,?_⟩;refine(NY f _ _ _ h5 Q z i5).mono ?_;rintro v h6 ⟨r,rfl,R6⟩;refine⟨r,i4,⟨pX D R6.ai,trivial⟩,?_⟩;have H6:=o.comp R6;dsimp only;refine H6.set af 0 i4 (λ_=>rfl) i4 b i4 i5 r i4 i4 i4 λh7 H7=>⟨trivial,?_⟩
   have ad:g[b]=aE g b:=(bD k).symm;have Z:(g[b])[bA]'(by omega)=aS (aE g b) bA:=by rw[UJ (by rw[bD k];omega)];simp only[bD k]
   have ab:aa B y h7 (ox a (j.set b r) (ky b bA g)):=by have h8:aa B y h7 ((an 71 a 1 bv (j.set b r)::bE 5 1 aF j g)++[an 5 r 1 aF (scaleB (Gf.inv ((g[b])[bA]'(by omega))) g[b])]):=H7;have h9:=h8.aiw (b+1) (by simp[mS q];omega);rw[Z,ad]at h9;show aa B y h7 (an 71 a 1 bv _::bE 5 1 aF _ (g.set b _));rw[<-lq q];exact h9
   have J:i1 (ky b bA g)=i1 g:=pk _ _ _;refine acs O R i9 (BR E k) P hn i5 i5 ab λh8 H8=>?_;have p:jH (b,l) bA=(b+1,fi b bA (ky b bA g) l.length):=by rw[jH];dsimp only;rw[hb,s]
   refine⟨(j.set b r,bA+1),?_,⟨i7,i9,?_⟩,i7⟩
   ·dsimp only;rw[d,p,ak _,ak _];rfl
   ·dsimp only;rw[d,p];rw[J,V]at H8;exact H8
 ·have:bA=cW:=i5
  subst this;exact⟨c,by rw[<-u],U,by rw[<-u];exact I⟩
theorem KQ(f:f7)(a:Sl)(m:aR)(n:Nat)(h:f9)(w:fN h f)(y:fE h a 1 aF m)(i:ba n m)(o:n<=64)(k:i1 m<=2^30):
  ac xB 172 #[xt (dB f),a] h λv h'=>∃(r:Sl) (rs:List Sl),v=r/\r.len=cb m/\rs.length=i1 m/\r.len<=i1 m/\Sp h h' (ox ⟨r.ptr,i1 m,r.cap⟩ rs (bL m (eI m)).2):=by
 refine PD (dB f) a ?_;unfold Il;refine(nI a m n h y i o k).mono ?_;rintro v A ⟨rfl,rfl⟩;refine⟨_,i4,bo (λe=>j1) λ_=>?_⟩;refine(Bc a m n A y i o k).mono ?_;rintro v D ⟨r,rs,rfl,z,u⟩;refine⟨r,i4,(uO f D).mono ?_⟩;rintro v h3 ⟨rfl,rfl⟩;refine⟨dB f,i4,(tu r m h3 (u.Tl z λ_=>rfl)).mono ?_⟩;rintro v F ⟨rfl,rfl⟩;have B:eI m<=n:=by
  cases m with
  |nil=>simp[eI,aE]
  |cons x t=>rw[eI,bD jj];exact xh (i _ jj)
 refine⟨_,i4,(Dd w w.lt z i B o k u).mono ?_⟩;rintro v E ⟨q,rfl,g,j⟩;have b:=EC m (eI m);rw[(hY i _).2]at b;have s:=(j.own 0 i4).cap;have d:=(j.own 0 i4).len;refine⟨_,i4,⟨wb _,y6.2 (show(bL m (eI m)).1<=r.cap by omega)⟩,⟨r.ptr,(bL m (eI m)).1,r.cap⟩,q,jj,i4,g,b,?_⟩;have:r=⟨r.ptr,i1 m,r.cap⟩:=by obtain⟨p,l,c⟩:=r;simp only at d⊢;rw[<-g,<-d]
 rw[<-this];exact j
theorem act(f:f7)(a:Sl)(m:aR)(n:Nat)(h:f9)(c:fN h f)(j:fE h a 1 aF m)(d:ba n m)(i:n<=64)(e:i1 m<=2^30):
  ac xB 108 #[xt (dB f),a] h λv h'=>v=xq xx (cb m)/\Sp h h' []:=by
 refine Ue (dB f) a ?_;unfold Nf;refine(KQ f a m n h c j d i e).mono ?_;rintro v k ⟨r,rs,rfl,g,_,_,b⟩;exact⟨r,i4,by rw[g],.zip b.ai⟩
theorem LW(p:Pm)(seed:Int)(b:Sl)(l:aD)(h:f9)(u:Rd h b 1 av l)(t:i1 l<=2^29):ac xB 51 #[kW p,xq xz seed,b] h λv h'=>v=xq xx (oX p seed l)/\Sp h h' []:=by
 refine MV p seed b ?_;unfold Gb;refine(Sp.refl h).boxed λa m i=>?_;refine⟨p,(i.box 0 i4).aV _ i4,(se m).mono ?_⟩;rintro v q ⟨f,rfl,k⟩;have d:=i.comp k;have e:=d.box 0 i4;refine⟨dB f,i4,⟨e.cell0 i4,e.cell i4,e.cell i4,trivial⟩,?_⟩;refine(KP p seed b l q (Seq.up u d.ai) i5).mono ?_;rintro v h3 ⟨r,rfl,s⟩;have g:=d.comp s;refine⟨r,i4,trivial,?_⟩;have j:=aeB p seed l;have c:(bJ p).toNat<=64:=by
  unfold bJ;split
  ·rename_i o;have:=(co p).1 o;omega
  ·omega
 refine(act f r _ _ h3 (g.box 1 i4) (g.Hj 2 i4) (jS p seed l) c i5).mono ?_;rintro v w ⟨rfl,n⟩;exact⟨_,i4,trivial,i4,.zip (g.comp n).ai⟩
theorem Rh(p:Pm)(seed:Int)(b:Sl)(l:aD)(h:f9)(r:Rd h b 1 av l)(f:i1 l<=2^29):ac xB 161 #[kW p,xq xz seed,b] h λv h'=>v=xv (gC p seed l)/\Sp h h' []:=by refine Ns p seed b ?_;unfold Gr;refine(Sp.refl h).boxed λa m g=>?_;refine⟨p,(g.box 0 i4).aV _ i4,(eK p m).mono ?_⟩;rintro v o ⟨rfl,k⟩;have d:=g.comp k;refine⟨_,i4,trivial,bx (λe=>?_) λe=>⟨trivial,trivial,by rw[gC,e];rfl,.zip d.ai⟩⟩;have i:=d.box 0 i4;refine⟨p,i.aV _ i4,p,i.aV _ i4,(LW p seed b l o (Seq.up r d.ai) f).mono ?_⟩;rintro v h3 ⟨rfl,q⟩;have j:=d.comp q;have c:=j.box 0 i4;refine⟨_,i4,⟨c.cell0 i4,c.cell i4,c.cell i4,trivial⟩,(kL p h3).mono ?_⟩;rintro v s ⟨rfl,n⟩;exact⟨_,i4,trivial,by rw[gC,e];rfl,.zip (j.comp n).ai⟩
theorem NZ(p:Pm)(seed:Int)(h:f9):ac xB 198 #[kW p,xq xz seed] h λv h'=>v=xv (gC p seed (fV p))/\Sp h h' []:=by refine LF p seed ?_;unfold DO;refine(Sp.refl h).boxed λa j e=>?_;have d:=e.box 0 i4;refine⟨p,d.aV _ i4,p,d.aV _ i4,(NX p j).mono ?_⟩;rintro v g ⟨r,rfl,f⟩;have c:=e.comp f;have b:=c.box 0 i4;refine⟨r,i4,⟨b.cell0 i4,b.cell i4,b.cell i4,trivial⟩,(Rh p seed r _ g (c.seq 1 i4 λ_=>rfl) sp).mono ?_⟩;rintro v h3 ⟨rfl,i⟩;exact⟨_,i4,trivial,i4,.zip (c.comp i).ai⟩
theorem afh(p:Pm)(o b:Int)(h:f9):ac xB 137 #[kW p,xq xx o,xq xx b] h λv h'=>
  v=.tuple #[xq xx (((rZ p o b).getD 0:Nat):Int),xv (rZ p o b).isSome]/\Sp h h' []:=by
 refine Se p o b ?_;unfold KD;refine(Sp.refl h).boxed λt x s=>?_;have s:Sp h x [au t 26 [xq xx p.1,xq xx p.2.1,xq xx p.2.2]]:=s;refine aA (λi:Nat=>(i:Int)) (λi h'=>i<=16/\(∀k,k<i->NV p o b k=eS)/\Sp h h' [au t 26 [xq xx p.1,xq xx p.2.1,xq xx p.2.2]]) (λi=>16-i) 0 i4 ⟨i5,λk f=>absurd f (Nat.not_lt_zero k),s⟩ ?_;rintro i z ⟨D,c,n⟩;refine aj (λe=>?_) λe=>?_
 ·have B:i<16:=i5
  have a:=n.box 0 i4;refine⟨p,a.aV _ i4,(rX _ _ _ z).mono ?_⟩;rintro _ h3 ⟨rfl,rfl⟩;refine⟨_,i4,⟨a.cell0 i4,a.cell i4,a.cell i4,trivial⟩,(NZ p _ h3).mono ?_⟩;rintro _ E ⟨rfl,y⟩;have w:=n.up y.ai;refine⟨_,i4,trivial,bx (λg=>?_) λg=>?_⟩
  ·have r:rZ p o b=dB i:=by
    unfold rZ;refine List.find?_eq_some_iff_append.2 ⟨g,qA i,(qA (15-i)).map (·+(i+1)),?_,λk f=>?_⟩
    ·apply zG;intro j;by_cases u:j<i
     ·rw[qo o8,zt i5,zt u]
     ·rw[qj i9,zE];by_cases m:j=i
      ·subst m;rw[zc,zt i5];rfl
      ·obtain⟨d,A⟩:∃d,j=i+(d+1):=⟨j-i-1,i5⟩
       subst A;rw[zr,qw,qU];by_cases l:d<15-i
       ·rw[zt l,zt i5];simp;omega
       ·rw[qS i9,qS i9];rfl
    ·rw[c k (qG.1 f)];rfl
   rw[r];exact⟨i4,.zip w.ai⟩
  ·refine⟨i+1,j0,⟨i5,λk f=>?_,w⟩,i5⟩;by_cases q:k<i
   ·exact c k q
   ·have:k=i:=i5
    subst this;exact g
 ·have r:rZ p o b=eH:=by unfold rZ;rw[List.find?_eq_none];intro k f;rw[c k (by have:=qG.1 f;omega)];simp
  rw[r];exact⟨i4,.zip n.ai⟩
theorem ZE(p:Pm)(o:Int)(n:Nat)(h:f9)(H:n<=2^30):ac xB 81 #[kW p,xq xx o,xq xx n] h λv h'=>
  (dg p o n=eH->v=.tuple #[xr eH 0 0,xv eS]/\Sp h h' [])/\
  (∀l,dg p o n=dB l->∃r:Sl,v=.tuple #[r,xv eR]/\Sp h h' [an 3 r 1 av l]):=by
 refine MZ p o n ?_;unfold Gg;refine(Sp.refl h).boxed λq x m=>?_;have m:Sp h x [an 3 ⟨eH,0,0⟩ 1 av [],au q 26 [xq xx p.1,xq xx p.2.1,xq xx p.2.2]]:=(m.nil 3 1 av).cK [1,0];refine aA (λt:Sl×Nat×aD=>(t.1,(t.2.1:Int))) (λt h'=>t.2.1<=n/\dg p o t.2.1=dB t.2.2/\Sp h h' [an 3 t.1 1 av t.2.2,au q 26 [xq xx p.1,xq xx p.2.1,xq xx p.2.2]]) (λt=>n-t.2.1) (⟨eH,0,0⟩,0,[]) i4 ⟨jj,i4,m⟩ ?_;rintro⟨s,i,l⟩ A ⟨G,c,k⟩;dsimp only at*;have y:=kZ c;have b:∀j,rZ p o i=eH->j<=n-(i+1)->dg p o (i+1+j)=eH:=λj d=>by
  induction j with
  |zero=>intro _;show dg p o (i+1)=eH;unfold dg;rw[c,d];rfl
  |succ j ih=>intro F;show dg p o ((i+1+j)+1)=eH;unfold dg;rw[ih i5];rfl
 refine aj (λe=>?_) λe=>?_
 ·have D:i<n:=i5
  refine⟨p,(k.box 1 i4).aV _ i4,(afh p o i A).mono ?_⟩;rintro _ h3 ⟨rfl,B⟩;have u:=k.up B.ai;refine⟨(_,_),i4,bo (λg=>?_) λg=>?_⟩
  ·have a:dg p o n=eH:=by have:=b (n-(i+1)) (Option.isSome_eq_false_iff.1 g|>Option.isNone_iff_eq_none.1) (qm _);rw[show i+1+(n-(i+1))=n by omega]at this;exact this
   rw[a];exact⟨λ_=>⟨i4,.zip u.ai⟩,λl h=>j9⟩
  ·obtain⟨t,w⟩:∃t,rZ p o i=dB t:=Option.isSome_iff_exists.1 g;rw[w];refine u.push af 0 i4 gM i4 i6 (λ_=>rfl) fD (t:Int) i4 i6 i5 λE I z=>?_;refine⟨(E,i+1,l++[(t:Int)]),js,⟨i7,?_,z⟩,i7⟩;show dg p o (i+1)=_;unfold dg;rw[c,w];rfl
 ·have f:i=n:=i5
  subst f;rw[c];exact⟨λh=>j9,λl' h=>(by injection h with h;subst h;exact⟨s,i4,k.cK [0]⟩)⟩
end Go.Qw
namespace Wl
open Go
def sf(m:aG)(l:cJ):cJ:=(fy m l).map dE
def cv(m:aG)(l:cJ):cJ:=bu m++sf m l
def iX(d:bs)(a:Nat)(n:Int):Bool:=decide (max n 0<=(d.room:Int)-a)
def iu(m:aG)(d:bs)(n:Int):Bool:=!d.lost&&(iX d d.l.length n||iX d (cv m d.l).length n)
def gf(m:aG)(w:Pow)(d:bs)(n:Int):Int×Pow×bs:=
 if d.lost then(5,w,d)else if !iu m d n then(7,w,d)else if iX d d.l.length n then(0,w,d)else d.rewrite w (cv m d.l)
theorem afi(l:List dj):i1 (sZ l)<=i1 l:=by unfold sZ;rw[qy];exact zd (qQ _ _) jj
theorem Cp(m:aG)(l:cJ):i1 (fy m l)<=i1 l:=by unfold fy;refine zd (afi _) ?_;rw[wW];exact List.length_filterMap_le _ _
theorem xR(m:aG)(l:cJ):i1 (sf m l)<=i1 l:=by unfold sf;rw[qy];exact Cp m l
end Wl
namespace Go.Qw
open Go Go.Vc Go.Proofs Wl
section
variable {B:aC} {h0 h:f9} {As:List HP} {a pw:f7} {d:bs} {w:Pow}
theorem gE.rewrite{l:cJ}(h:gE d):gE (d.rewrite w l).2.2:=by
 unfold bs.rewrite;split
 ·exact h
 ·rename_i b;split
  ·exact h
  ·split
   ·exact h
   ·rename_i e;have a:∀c∈l,i1 c=64:=k7
    split
    ·exact h
    ·split
     ·exact⟨zy _,i7,h.room,a,zy _,jj⟩
     ·exact⟨h.wait,h.len,h.room,h.cell,i7,a⟩
theorem IP(x:Sl)(l:cJ)(H:aa B h0 h (jl pw a d::dl 121 pw w::As))(O:St B h0 As λh=>fE h x 1 aF l)(P:i1 l<=2^20)(t:∀c∈l,i1 c<=2^20):
  ac xB 65 #[xt (dB a),x] h λv h'=>v=xq xx (d.rewrite w l).1/\aa B h0 h' (jl pw a (d.rewrite w l).2.2::dl 121 pw (d.rewrite w l).2.1::As):=by
 refine Bt (dB a) x ?_;unfold pF;have N:=O.at [_,_] H;have T:=N.len;have m:=gE.rewrite (w:=w) (l:=l) (And.left (id H).rT);have j:∀(e:Int),d.rewrite w l=(e,w,d)->(Value.int .i64 e=xq xx (d.rewrite w l).1/\aa B h0 h (jl pw a (d.rewrite w l).2.2::dl 121 pw (d.rewrite w l).2.1::As)):=λe V=>by
  rw[V];exact⟨i4,H⟩
 refine aA (λi:Nat=>(i:Int)) (λi h'=>i<=i1 l/\(∀c∈l.take i,i1 c=64)/\h'=h) (λi=>i1 l-i) 0 i4 ⟨i5,jj,i4⟩ ?_;rintro i h1 ⟨hi,f,rfl⟩;refine aj (λe=>?_) λe=>?_
 ·have n:i<i1 l:=i5
  refine N.get i i4 n λr W=>?_;have S:=W.len;refine bY (λX=>j 1 ?_) λX=>?_
  ·unfold bs.rewrite;rw[g0];rw[wU,yB];exact⟨l[i],qg n,i9⟩
  ·refine⟨i+1,j0,⟨i5,λc k=>?_,i4⟩,i5⟩;rw[aK _ _ n]at k;rcases qz.1 k with k|k
   ·exact f c k
   ·rw[qC.1 k];omega
 have f:∀c∈l,i1 c=64:=by rw[qi i5]at f;exact f
 have o:(!l.all λb=>decide (i1 b=64))=eS:=by rw[Bool.not_eq_false',qZ];exactλc k=>hU (f c k)
 have z:d.rewrite w l=(if d.lost then(5,w,d)else if d.room<i1 l then(7,w,d)else if w.off then(14,w,d)else if w.step.1 then(0,w.step.2,{d with l:=l,wait:=0,laid:=[],has:=eS})else(14,w.step.2,{d with laid:=l,has:=eR})):=by unfold bs.rewrite;rw[o];rfl
 obtain⟨ok,s,b,J⟩:=H.rT;have A:=J.box 0 i4;refine bi (bi (bx (λe=>j1) λ_=>⟨a,i4,d.lost,A.cell i4,bx (λe=>j 5 (by rw[z,g0 e])) λg=>?_⟩));refine⟨a,i4,(d.room:Int),A.cell i4,aj (λe=>j 7 (by rw[z,g9 p0,g0 i5])) λD=>?_⟩;obtain⟨U,Y,F⟩:=(J.aX 4 [3,0,1,2]).Eb;refine⟨a,i4,dB pw,A.cell0 i4,(JR U (F.box 0 i4)).mono ?_⟩;rintro _ h2 ⟨rfl,rfl⟩;refine⟨_,i4,bo (λe=>j 14 ?_) λu=>?_⟩
 ·rw[z,g9 p0,g9 i5,g0 l6]
 have p:w.off=eS:=o8
 have y:d.rewrite w l=(if w.step.1 then(0,w.step.2,{d with l:=l,wait:=0,laid:=[],has:=eS})else(14,w.step.2,{d with laid:=l,has:=eR})):=by rw[z,g9 p0,g9 i5,g9 (by simp[p])]
 refine⟨a,i4,dB pw,A.cell0 i4,(ID (J.aX 4 [3,0,1,2])).mono ?_⟩;rintro _ M ⟨rfl,K⟩;have q:=O.at [_,_,_,_] K;refine⟨_,i4,bo (λe=>?_) λe=>?_⟩
 ·rw[y,g9 p7]at m⊢;refine(LO x l M q P t).mono ?_;rintro _ Q ⟨r,rfl,I⟩;have G:=(K.cm I).aX 5 [2,3,0,1];refine⟨r,i4,a,i4,G.store af 0 i4 i4 4 [r] i4 i4 i4 ln λR E=>?_⟩;refine⟨a,i4,E.store af 0 i4 i4 5 [xv eR] i4 i4 i4 ln λh8 L=>⟨i4,?_⟩⟩;exact aa.AZ (s:=s) (b:=r) m L
 ·rw[y,g0 e]at m⊢;refine(LO x l M q P t).mono ?_;rintro _ Q ⟨r,rfl,I⟩;have G:=(K.cm I).aX 5 [2,0,4,1];refine⟨r,i4,a,i4,G.store af 0 i4 i4 2 [r] i4 i4 i4 ln λR E=>?_⟩;refine⟨a,i4,E.store af 0 i4 i4 3 [xq xx 0] i4 i4 i4 ln λh8 L=>?_⟩;refine(IF (d:={d with l:=l,wait:=0}) r b _ L ⟨zy _,i7,ok.room,f,ok.laid,ok.cellL⟩ i4).mono ?_;rintro _ h9 ⟨rfl,Z⟩;exact⟨0,i4,i4,Z⟩
theorem De(s b:Sl)(c:Nat)(n:Int)(e:cx h a 119 (fu pw d s b))(f:d.room<=512)(g:c<=2^40:=by omega):ac xB 211 #[xt (dB a),xq xx c,xq xx n] h λv h'=>v=xv (iX d c n)/\h'=h:=by refine NA (dB a) c n ?_;unfold Gx;refine(abX s b e).mono ?_;rintro _ _ ⟨rfl,rfl⟩;refine⟨_,i4,?_,i4⟩;rw[ak ((d.room:Int)-c)];unfold iX;congr 1;rw[decide_eq_decide];split<;>omega
theorem ZF(s b:Sl)(x:bV)(m:aG)(F:cx h a 119 (fu pw d s b))(T:fE h s 1 aF d.l)(ok:gE d)(R:dn h x m)(M:cR m):
  ac xB 69 #[xt (dB a),fH x] h λv h'=>∃r:Sl,v=r/\Sp h h' [ez r (sf m d.l)]:=by
 refine Pu (dB a) x ?_;unfold HZ;have D:=ok.len;have n:=ok.room;refine(Sp.refl h).boxed λU J f=>?_;refine⟨x,(f.box 0 i4).aV _ i4,(IK a pw d s b x m J (F.ai f.ai F.lt) (T.up f.ai) ok (R.up f.ai) M).mono ?_⟩;rintro _ X ⟨r,c,rfl,G⟩;have w:=(f.cm G).CH 71 5 1 aF;refine⟨r,i4,?_⟩;have p:=Cp m d.l;obtain⟨L,B⟩:∃L,L=fy m d.l:=⟨_,rfl⟩
 have q:(sf m d.l)=L.map dE:=by unfold sf;rw[B]
 rw[<-B]at w p;rw[q];have A:=w.eU 1 i4;have N:=A.2.1;have z:=A.1.len;refine aA (λt:Sl×Nat=>(t.1,(t.2:Int))) (λt h'=>t.2<=i1 L/\Sp h h' [ez t.1 ((L.map dE).take t.2),cN fv 8 bT r c L]) (λt=>i1 L-t.2) (⟨eH,0,0⟩,0) i4 ⟨jj,w.cK [0,1]⟩ ?_;rintro⟨o,i⟩ h3 ⟨W,k⟩;dsimp only at*;have K:=k.eU 1 i4;refine aj (λe=>?_) (λe=>?_)
 ·have y:i<i1 L:=i5
  refine K.1.eC (g:=bT) i i4 i5 (c[i]'(by omega)) i4 ?_;refine k.alloc af i4 λO Y P=>?_;refine P.storeAll af 2 i4 i4 (bT (c[i]'(by omega))) i4 i4 i4 i4 λE j=>?_;have j:Sp h E [ez o ((L.map dE).take i),cN fv 8 bT r c L,au O 164 (bT (c[i]'(by omega)))]:=j;refine⟨c[i]'(by omega),(j.box 2 i4).aV _ i4,(tZ _ L[i] E (Fix.row (j.eU 1 i4) y)).mono ?_⟩;rintro _ V ⟨u,rfl,I⟩;have H:=(j.cm I).aX 3 [1,0,2];refine⟨u,i4,H.JB af fM i9 λQ h8 S=>?_⟩;refine⟨(Q,i+1),js,⟨i7,?_⟩,i7⟩;dsimp only;rw[aK _ _ (show i<i1 (L.map dE) by simp;omega),yb];exact S.cK [0,1]
 ·rw[qi i9]at k;exact⟨o,i4,k.cK [0]⟩
end
section
variable {B:aC} {h0 h:f9} {As:List HP} {a pw:f7} {d:bs} {w:Pow}
theorem KR{m:aG}{l:cJ}{c:bf}(h:c∈sf m l):i1 c<=64:=by
 unfold sf at h;obtain⟨r,_,rfl⟩:=qu.1 h;unfold dE;split
 ·rename_i a;refine xh (mU i6 i6 ?_);have:=pA a;omega
 ·simp
theorem IQ(s b:Sl)(x:bV)(m:aG)(o:cx h a 119 (fu pw d s b))(D:fE h s 1 aF d.l)(ok:gE d)(n:dn h x m)(i:cR m):
  ac xB 30 #[xt (dB a),fH x] h λv h'=>∃r:Sl,v=r/\Sp h h' [ez r (cv m d.l)]:=by
 refine RQ (dB a) x ?_;unfold Kr;have k:=ok.len;have g:=ok.room;refine(Sp.refl h).boxed λp j e=>?_;have e:Sp h j [au p 29 (aY x)]:=e;refine⟨x,(e.box 0 i4).aV _ i4,x,(e.box 0 i4).aV _ i4,(nZ x m j (n.up e.ai) i).mono ?_⟩;rintro _ E ⟨r,rfl,w⟩;have f:=e.cm w;have c:=f.box 1 i4;refine⟨r,i4,⟨c.cell0 i4,c.cell i4,c.cell i4,c.cell i4,c.cell i4,c.cell i4,c.cell i4,c.cell i4,trivial⟩,(ZF s b x m (o.ai f.ai o.lt) (D.up f.ai) ok (n.up f.ai) i).mono ?_⟩;rintro _ h3 ⟨u,rfl,A⟩;have y:=(f.cm A).aX 2 [1,0];have t:=ka m i;have q:=xR m d.l;refine⟨u,i4,trivial,y.ahv af fM ⟨_,_,i4,i4⟩ i5 λB F z=>?_⟩;exact⟨trivial,B,i4,z.cK [0]⟩
theorem IR(s b:Sl)(x:bV)(m:aG)(n:Int)(t:cx h a 119 (fu pw d s b))(D:fE h s 1 aF d.l)(j:s.len=i1 d.l)(ok:gE d)(B:dn h x m)(u:cR m):
  ac xB 149 #[xt (dB a),fH x,xq xx n] h λv h'=>v=xv (iu m d n)/\Sp h h' []:=by
 refine Gp (dB a) x n ?_;unfold CT;have q:=ok.len;have g:=ok.room;refine(Sp.refl h).boxed λw z f=>?_;have f:Sp h z [au w 29 (aY x)]:=f;have c:=t.ai f.ai t.lt;refine bi (bx (λe=>j1) λ_=>(IG s b c).mono ?_);rintro _ _ ⟨rfl,rfl⟩;refine⟨_,i4,bx (λe=>⟨by unfold iu;rw[e];rfl,.zip f.ai⟩) λe=>?_⟩;have p:iu m d n=(iX d d.l.length n||iX d (cv m d.l).length n):=by unfold iu;rw[e];rfl
 refine(QZ s b c j).mono ?_;rintro _ _ ⟨rfl,rfl⟩;refine⟨_,i4,(De s b d.l.length n c ok.room).mono ?_⟩;rintro _ _ ⟨rfl,rfl⟩;refine⟨_,i4,bx (λo=>⟨by rw[p,o];rfl,.zip f.ai⟩) λo=>?_⟩;refine⟨x,(f.box 0 i4).aV _ i4,(IQ s b x m c (D.up f.ai) ok (B.up f.ai) u).mono ?_⟩;rintro _ E ⟨r,rfl,k⟩;have i:=(aa.An k).1;have y:i1 (cv m d.l)<=4000:=by have:=ka m u;have:=xR m d.l;unfold cv;rw[qx];omega
 have A:=f.cm k;refine⟨r,i4,(De s b r.len n (c.ai k.ai c.lt) ok.room).mono ?_⟩;rintro _ _ ⟨rfl,rfl⟩;exact⟨_,i4,by rw[p,o,vi,i],.zip A.ai⟩
theorem UL(x:bV)(n:Int)(h:f9):ac xB 149 #[xt eH,fH x,xq xx n] h λv h'=>v=xv eS/\Sp h h' []:=by refine Gp eH x n ?_;unfold CT;refine(Sp.refl h).boxed λb c a=>?_;exact bi (bx (λ_=>⟨i4,.zip a.ai⟩) λe=>j1)
theorem Ri(x:bV)(m:aG)(n:Int)(L:St B h0 As λh=>dn h x m)(F:cR m)(H:aa B h0 h (jl pw a d::dl 121 pw w::As)):
  ac xB 150 #[xt (dB a),fH x,xq xx n] h λv h'=>v=xq xx (gf m w d n).1/\aa B h0 h' (jl pw a (gf m w d n).2.2::dl 121 pw (gf m w d n).2.1::As):=by
 refine Gq (dB a) x n ?_;unfold CU;refine(Sp.refl h).boxed λM q y=>?_;have y:Sp h q [au M 29 (aY x)]:=y;have p:=(H.cm y).aX 3 [1,2,0];have f:∀(e:Int) {h':f9},bc (λb=>b<q.size) q h'->gf m w d n=(e,w,d)->(Value.int .i64 e=xq xx (gf m w d n).1/\aa B h0 h' (jl pw a (gf m w d n).2.2::dl 121 pw (gf m w d n).2.1::As)):=λe {h'} Q O=>by
  rw[O];exact⟨i4,((p.up Q).aX 3 [0,1])⟩
 obtain⟨ok,s,b,g⟩:=(id p).rT;have u:=g.box 0 i4;have S:fE q s 1 aF d.l:=(g.aX 2 [1]).FO λ_=>rfl;have k:=(aa.An (g.aX 2 [1])).1;have K:=ok.len;have z:=ok.room;refine bi (bi (bx (λe=>j1) λ_=>(IG s b u).mono ?_));rintro _ _ ⟨rfl,rfl⟩;refine⟨_,i4,bx (λe=>f 5 (bc.refl _ _) (by unfold gf;rw[g0 e])) λe=>?_⟩;refine⟨x,(p.box 2 i4).aV _ i4,(IR s b x m n u S k ok (L.at [_,_,_] p) F).mono ?_⟩;rintro _ T ⟨rfl,o⟩;have D:=g.up o.ai;have j:=u.ai o.ai u.lt;have G:=p.up o.ai;refine⟨_,i4,bo (λt=>f 7 o.ai (by unfold gf;rw[g9 p7,g0 (by simp[t])])) λt=>?_⟩;refine(QZ s b j k).mono ?_;rintro _ _ ⟨rfl,rfl⟩;refine⟨_,i4,(De s b d.l.length n j ok.room).mono ?_⟩;rintro _ _ ⟨rfl,rfl⟩;refine⟨_,i4,bx (λI=>f 0 o.ai (by unfold gf;rw[g9 p7,g9 (by simp[t]),g0 I])) λI=>?_⟩;have em:gf m w d n=d.rewrite w (cv m d.l):=by unfold gf;rw[g9 p7,g9 (by simp[t]),g9 (by simp[I])]
 rw[em];have N:i1 (cv m d.l)<=4000:=by have:=ka m F;have:=xR m d.l;unfold cv;rw[qx];omega
 have E:∀c∈cv m d.l,i1 c<=64:=λc i=>by
  unfold cv at i;rcases qz.1 i with i|i
  ·exact xh (xE i)
  ·exact KR i
 refine⟨x,(G.box 2 i4).aV _ i4,(IQ s b x m j ((D.aX 2 [1]).FO λ_=>rfl) ok (L.at [_,_,_] G) F).mono ?_⟩;rintro _ h3 ⟨r,rfl,R⟩;obtain⟨rs,J⟩:=(G.cm R).ZA λ_=>rfl;have J:=J.aX 4 [1,2,0];refine⟨r,i4,(IP r (cv m d.l) J (St.eE 0 i4 λh' A=>?_) i5 λc i=>zd (E c i) i6).mono ?_⟩
 ·exact⟨rs,A.1,A.2.1,A.2.2⟩
 rintro _ U ⟨rfl,P⟩;exact⟨_,i4,i4,P.aX 3 [0,1]⟩
end
section
variable {B:aC} {h0 h:f9} {As:List HP} {a pw b:f7} {x:bV} {offs:Int} {da:List aM} {w:Pow} {ds:aJ} {d:bs}
theorem aa.afj(n:Nat)(g:n<64)(f:ds[n]?=dB eH)(H:aa B h0 h (bp bz a pw (aY x) offs da w ds::jl pw b d::As)){K:Unit->f9->Prop}
  (i:∀h',aa B h0 h' (bp bz a pw (aY x) offs (da.set n (dB b)) w (ds.set n (dB d))::As)->K () h'):
  ag xB (qf 57 (xt (dB ((a.add 10).add n))) (xt (dB b))) h K:=by
 obtain⟨ok,e⟩:=Go.Vc.aa.pu H;have j:(a.add 10).add n=a.add (10+n):=by unfold Addr.add;simp[Nat.add_assoc]
 rw[j];refine e.storeAt af 0 i4 i4 i4 i4 i4 (by simp[ok.la];omega) λh' c=>i h' ?_;rw[zq,Re ok.l8]at c;exact aa.ahO ok g f c
end
end Go.Qw
namespace Wl
open Go
theorem Eg(ds:aJ)(n:Nat)(d:bs)(s:Int)(c:n<64)(b:i1 ds=64):bm (bQ ds (n:Int) d) s=if s=(n:Int)then dB d else bm ds s:=by
 unfold bm bQ;rw[ql];by_cases h:0<=s/\s<64
 ·rw[g0 h,g0 h,q8];by_cases a:s=(n:Int)
  ·subst a;rw[g0 i4,ql,g0 i4,g0 i5];rfl
  ·rw[g9 a,g9 i5]
 ·rw[g9 h,g9 h,g9 i5]
theorem lc{ds:aJ}{s:Int}{d:bs}(h:bm ds s=dB d):∃n:Nat,s=(n:Int)/\n<64:=by
 unfold bm at h;by_cases a:0<=s/\s<64
 ·exact⟨s.toNat,i5,i5⟩
 ·rw[g9 a]at h;cases h
structure Fit (ds:aJ) (S Q:aD):Prop where
 len:i1 ds=64
 at_:∀s∈S,∃d,bm ds s=dB d/\d.lost=eS/\d.l.length+Q.count s<=d.room
theorem WV{d:bs}{n:Nat}(w:Pow)(b:bf)(a:d.lost=eS)(f:i1 d.l+(n+1)<=d.room)(g:i1 b=64):
  ((d.append w b).1=0∨(d.append w b).1=14)/\(d.append w b).2.2.lost=eS/\(d.append w b).2.2.l.length+n<=(d.append w b).2.2.room:=by
 unfold bs.append;rw[g9 i5,g9 m5,g9 i5];by_cases c:w.off
 ·rw[g0 c];exact⟨.inr i4,a,i7⟩
 ·rw[g9 c];by_cases e:w.step.1
  ·rw[g0 e];exact⟨.inl i4,a,i9⟩
  ·rw[g9 e];exact⟨.inr i4,a,i9⟩
theorem acu{d:bs}(w:Pow)(a:d.lost=eS):((d.sync w).1=0∨(d.sync w).1=14)/\(d.sync w).2.2.lost=eS/\(d.sync w).2.2.l=d.l/\(d.sync w).2.2.room=d.room:=by
 unfold bs.sync;rw[g9 m5];by_cases b:w.step.1
 ·rw[g0 b];exact⟨.inl i4,a,i4,i4⟩
 ·rw[g9 b];exact⟨.inr i4,a,i4,i4⟩
theorem Ss{ds:aJ}{S Q:aD}{x:Int}(w:Pow)(b:bf)(F:Fit ds S (x::Q))(o:x∈S)(p:i1 b=64):
  ((fT w ds x b).1=0∨(fT w ds x b).1=14)/\Fit (fT w ds x b).2.2 S Q:=by
 obtain⟨d,f,j,m⟩:=F.at_ x o;rw[List.count_cons_self]at m;obtain⟨n,rfl,l⟩:=lc f;have A:=WV w b j (n:=Q.count (n:Int)) i5 p;have e:fT w ds (n:Int) b=((d.append w b).1,(d.append w b).2.1,bQ ds (n:Int) (d.append w b).2.2):=by unfold fT;rw[f]
 rw[e];refine⟨A.1,by unfold bQ;rw[zh];exact F.len,λs k=>?_⟩;rw[Eg _ _ _ _ l F.len];by_cases a:s=(n:Int)
 ·subst a;rw[g0 rfl];exact⟨_,i4,A.2⟩
 ·rw[g9 a];obtain⟨q,g,i,c⟩:=F.at_ s k;rw[List.count_cons_of_ne λh=>a h.symm]at c;exact⟨q,g,i,c⟩
theorem WW{ds:aJ}{S:aD}{x:Int}(w:Pow)(F:Fit ds S [])(k:x∈S):((gQ w ds x).1=0∨(gQ w ds x).1=14)/\Fit (gQ w ds x).2.2 S []:=by
 obtain⟨d,b,f,j⟩:=F.at_ x k;obtain⟨n,rfl,i⟩:=lc b;obtain⟨l,A2,h,c⟩:=acu w f;have e:gQ w ds (n:Int)=((d.sync w).1,(d.sync w).2.1,bQ ds (n:Int) (d.sync w).2.2):=by unfold gQ;rw[b]
 rw[e];refine⟨l,by unfold bQ;rw[zh];exact F.len,λs g=>?_⟩;rw[Eg _ _ _ _ i F.len];by_cases a:s=(n:Int)
 ·subst a;rw[g0 rfl];exact⟨_,i4,A2,by rw[h,c];exact j⟩
 ·rw[g9 a];exact F.at_ s g
end Wl
namespace Go.Vc
open Go Wl Go.Qw
theorem PX(l:aD)(k:Nat):(bt l k).Nodup:=by unfold bt;refine List.Pairwise.filter _ (vl.2 ?_);exact(List.nodup_range (n:=k)).imp λh=>i5
theorem ZG{l:aD}(h:(eN l).2=eR):(eN l).1=bt l l.length/\l.length<=64/\∀n:Nat,l.getD n 0<=512:=by
 unfold eN at h⊢;by_cases a:l.all (fo · 0 512)=eR
 ·rw[g0 a]at h⊢;refine⟨i4,by simp at h;exact h.1,λn=>?_⟩;rw[qe];by_cases b:n<i1 l
  ·rw[qd b];have:=qZ.1 a _ (qg b);unfold fo at this;simp at this⊢;omega
  ·rw[qS i5];simp
 ·rw[g9 a]at h;cases h
theorem UM(l:aD)(i n:Nat)(f:i<i1 (bt l l.length))(e:(bt l l.length)[i]=(n:Int))(c:n<64):(iB l i)[n]?=dB eH:=by unfold iB;rw[qU,zt c,q7,g9];intro g;obtain⟨j,h,d⟩:=List.mem_take_iff_getElem.1 g;have:=Hm (PX l l.length) (a:=j) (b:=i) i5 f (by rw[d,e]);omega
theorem Df(m:aG):∀S:aD,i1 (bM m S)=i1 S*i1 (bu m)
 |[]=>by simp[bM]
 |n::S=>by
  have e:bM m (n::S)=(bu m).map (λc=>(n,c))++bM m S:=by unfold bM;rw[zk]
  rw[e,qx,qy,Df m S,zn,zT,Nat.add_comm]
theorem ZH(p:Pm)(extra:Int)(l:aD)(a:i1 l<=64):cR (cD p extra l):=⟨by have:=rY l l.length;simp[cD];omega,by simp[cD],by simp[cD]⟩
end Go.Vc
namespace Go.Qw
open Go Go.Vc Go.Proofs Wl
section
variable {B:aC} {h0 h:f9} {As:List HP} {pw:f7} {w:Pow}
theorem WX(p:Pm)(extra:Int)(s:Sl)(l:aD)(hS:St B h0 As λh=>Rd h s 1 av l)(hl:i1 l<=2^20)(H:aa B h0 h (dl 121 pw w::As)):
  ac xB 32 #[kW p,xq xx extra,xt (dB pw),s] h λv h'=>
   ((ge p extra w l).1≠0->v=.tuple #[xt eH,xq xx (ge p extra w l).1]/\aa B h0 h' As)/\
   ((ge p extra w l).1=0->∃(a:f7) (x:bV) (da:List aM),v=.tuple #[xt (dB a),xq xx 0]/\aa B h0 h' (bp bz a pw (aY x) w.offs da (ge p extra w l).2.1 (ge p extra w l).2.2::ct x (cD p extra l)::As)):=by
 refine Lw p extra (dB pw) s ?_;unfold DA;refine H.boxed λa1 h1 H1=>?_;have H1:=H1.bB;refine(oz s l h1 (hS.at [_,_] H1) hl).mono ?_;rintro _ h2 ⟨r,rfl,R2⟩;have H2:=H1.cm R2;refine⟨(r,(eN l).2),i4,?_⟩;have o:∀{h':f9},aa B h0 h' As->((eN l).2&&(bO p&&fo extra 0 16))=eS->
   ((ge p extra w l).1≠0->Value.tuple #[xt eH,xq xx 1]=.tuple #[xt eH,xq xx (ge p extra w l).1]/\aa B h0 h' As)/\
   ((ge p extra w l).1=0->∃(a:f7) (x:bV) (da:List aM),Value.tuple #[xt eH,xq xx 1]=.tuple #[xt (dB a),xq xx 0]/\aa B h0 h' (bp bz a pw (aY x) w.offs da (ge p extra w l).2.1 (ge p extra w l).2.2::ct x (cD p extra l)::As)):=λ{h'} H' hc=>by
  have e:ge p extra w l=(1,w,[]):=by unfold ge;rw[hc];rfl
  rw[e];exact⟨λ_=>⟨i4,H'⟩,λh=>absurd h (show¬(1:Int)=0 by decide)⟩
 refine bi (bo (λe=>o H2.rest.rest.rest o0) λe=>?_);have ep:(eN l).2=eR:=l6
 obtain⟨ay,D,I⟩:=ZG ep;refine⟨p,(H2.box 1 i4).aV _ i4,(eK p h2).mono ?_⟩;rintro _ h3 ⟨rfl,R3⟩;have E:aa B h0 h3 (an 3 r 1 av (eN l).1::au a1 26 [xq xx p.1,xq xx p.2.1,xq xx p.2.2]::dl 121 pw w::As):=by have:=H2.comp R3;rw[qN]at this;exact this
 refine⟨_,i4,bo (λe2=>o E.rest.rest.rest (by rw[e2];simp)) λe2=>?_⟩;have em:bO p=eR:=ns
 refine aj (λe3=>o E.rest.rest.rest n7) λe3=>aj (λe4=>o E.rest.rest.rest n7) λe4=>bx (λe5=>by cases e5) λ_=>?_;rw[ay]at E;refine bi ⟨p,(E.box 1 i4).aV _ i4,?_⟩;obtain⟨lw,bk,a4⟩:=(E.aX 3 [2,1,0]).Eb;refine(QX lw (a4.box 0 i4)).mono ?_;rintro _ h4 ⟨rfl,rfl⟩;have G:=E.box 1 i4;refine⟨_,i4,⟨G.cell0 i4,G.cell i4,G.cell i4,trivial⟩,?_⟩;obtain⟨m,O⟩:∃m,m=cD p extra l:=⟨_,rfl⟩
 refine⟨_,acm (1,0,p.1,p.2.1,p.2.2,extra,r,⟨eH,0,0⟩) pw w.offs,?_⟩;refine E.boxed λa9 h6 g=>?_;obtain⟨x,hx⟩:∃x:bV,x=(1,0,p.1,p.2.1,p.2.2,extra,r,⟨eH,0,0⟩):=⟨_,rfl⟩
 rw[<-hx]at g;have L:(Value.agg (cQ (aY x) pw w.offs (qh 64 eH)).toArray).cells.toList=cQ (aY x) pw w.offs (qh 64 eH):=j8
 rw[L]at g;have g:=g.bB;have K:=g.box 2 i4;refine⟨⟨K.cell0 i4,K.cell i4,K.cell i4,trivial⟩,?_⟩;have g:aa B h0 h6 (au a9 91 (cQ (aY x) pw w.offs (qh 64 eH))::dl 121 pw w::an 3 r 1 av (bt l l.length)::As):=g.aX 4 [0,3,1];have g:=aa.acl (k:=bz) (h8:=by simp) g;obtain⟨P,j⟩:∃P,P=bt l l.length:=⟨_,rfl⟩
 rw[<-j]at g;have hz:cR m:=O▸ZH p extra l D;have a3:i1 P<=64:=by rw[j];exact zd (rY _ _) D
 have ad:∀{h':f9} {Bs:List HP} {X:HP},aa B h0 h' (X::an 3 r 1 av P::Bs)->dn h' x m:=λ{h' Bs X} H'=>by
  have hs:=H'.seq 1 i4 λ_=>rfl;have hc:=(H'.own 1 i4).cap;subst hx;subst O;exact⟨i4,i4,i4,i4,by show Seq _ _ r 1 av (bt l l.length);rw[<-j];exact hs,bK.nil _ _ _ _,hc,qm _⟩
 have S:((eN l).2&&(bO p&&fo extra 0 16))=eR:=by rw[ep,em];unfold fo;simp;omega
 have Z:(P.any λi=>decide (l.getD i.toNat 0<(i1 (bu m):Int)))=eR->ge p extra w l=(7,w,[]):=λhh=>by
  unfold ge;rw[g0 S,<-j,<-O,g0 hh]
 have Q:(P.any λi=>decide (l.getD i.toNat 0<(i1 (bu m):Int)))=eS->ge p extra w l=layAll (bM m P) w (iB l P.length):=λhh=>by
  unfold ge;rw[g0 S,<-j,<-O,hh,g9 i6]
 have F:∀i (M:i<i1 P),∃n:Nat,n<i1 l/\P[i]=(n:Int)/\0<l.getD n 0:=by subst j;exactλi M=>WO l l.length i M
 refine aA (λi:Nat=>(i:Int)) (λi h'=>i<=i1 P/\((P.take i).any λi=>decide (l.getD i.toNat 0<(i1 (bu m):Int)))=eS/\aa B h0 h' (bp bz a9 pw (aY x) w.offs (qh 64 eH) w (qh 64 eH)::an 3 r 1 av P::As)) (λi=>i1 P-i) 0 i4 ⟨i5,jj,g⟩ ?_;rintro i h7 ⟨M,f,z⟩;dsimp only at*;obtain⟨b1,ap⟩:=aa.cY z;have bq:r.len=i1 P:=(z.own 1 i4).len;refine aj (λe5=>?_) (λe5=>?_)
 ·have c:i<i1 P:=i5
  obtain⟨n,N,A,R⟩:=F i c;refine(z.seq 1 i4 λ_=>rfl).bG i i4 c (n:Int) (by rw[A];rfl) ?_;refine(hS.at [_,_] z).SF n i4 N (l.getD n 0) (by rw[getD_lt N];rfl) λb2 W=>?_;refine⟨a9,i4,x,ap.aV _ ld,(nZ x m h7 (ad z) hz).mono ?_⟩;rintro _ h9 ⟨u,rfl,R9⟩;have H9:=z.cm R9;have b0:=(aa.An H9).1;refine⟨u,i4,kP R9.ai ⟨W,trivial⟩,?_⟩;refine aj (λe6=>?_) (λe6=>?_)
  ·rw[Z (zQ.2 ⟨P[i],qg c,by rw[A,ql];exact hU i5⟩)];exact⟨λ_=>⟨i4,H9.rest.rest.rest⟩,λh=>absurd h (show¬(7:Int)=0 by decide)⟩
  ·refine⟨i+1,j0,⟨i5,?_,H9.rest⟩,i5⟩;rw[aK _ _ c,yF,f,vi,vV,xf,Bool.or_false,A,ql];exact ii i5
 ·have J:i=i1 P:=i5
  subst J;rw[q9]at f;have a5:=Q f;rw[<-UG l]at z;refine aA (λt:Nat×List aM=>(t.1:Int)) (λt h'=>t.1<=i1 P/\aa B h0 h' (bp bz a9 pw (aY x) w.offs t.2 w (iB l t.1)::an 3 r 1 av P::As)) (λt=>i1 P-t.1) (0,qh 64 eH) i4 ⟨jj,z⟩ ?_;rintro⟨i,da⟩ T ⟨M,d⟩;dsimp only at*;obtain⟨bl,ah⟩:=aa.cY d;refine aj (λe6=>?_) (λe6=>?_)
  ·have c:i<i1 P:=i5
   obtain⟨n,N,A,R⟩:=F i c;have a7:=I n;refine(d.seq 1 i4 λ_=>rfl).bG i i4 c (n:Int) (by rw[A];rfl) ?_;refine(hS.at [_,_] d).bG n i4 N (l.getD n 0) (by rw[getD_lt N];rfl) ?_;refine⟨a9,i4,(NM (l.getD n 0) pw T).mono ?_⟩;rintro _ bd ⟨Q1,_⟩;obtain⟨b,rfl,ar⟩:=Q1 i5;have a0:=(d.cm ar).aX 2 [1,0];refine⟨_,i4,trivial,⟨i5,i5⟩,?_⟩;rw[ql,z7];have Y:i<i1 (bt l l.length):=by rw[<-j];exact c
   have V:(bt l l.length)[i]=(n:Int):=by rw[<-A];simp only[j]
   refine Go.Qw.aa.afj n i5 (UM l i n Y V i5) a0 λbb ax=>?_;refine⟨trivial,(i+1,da.set n (dB b)),js,⟨i7,?_⟩,i7⟩;dsimp only;rw[<-UH l i n Y V i5];exact ax
  ·have J:i=i1 P:=i5
   subst J;refine⟨a9,i4,x,ah.aV _ ld,(KN x m r P T (ad d) hz (d.seq 1 i4 λ_=>rfl) i5).mono ?_⟩;rintro _ br ⟨u,ys,rfl,ao⟩;have a2:=(d.cm ao).aX 2 [1,0];refine⟨u,i4,?_⟩;have ab:=ka m hz;refine(IJ u ys (bM m P) (St.eE 0 i4 λ_ hq=>hq) ?_ ?_ a2).mono ?_
   ·rw[Df];have:=wv a3 ab;omega
   ·intro y hy;obtain⟨am,a6⟩:=lD hy;obtain⟨i,M,e⟩:=qK am;obtain⟨n,N,A,_⟩:=F i M;rw[<-e,A,a6];exact⟨⟨i5,i5⟩,i6⟩
   rintro _ a8 ⟨rfl,U⟩;rw[a5];refine⟨_,i4,bY (λe7=>⟨λ_=>⟨i4,U.rest.rest.rest⟩,λh=>absurd h e7⟩) λe7=>⟨λh=>absurd e7 h,λ_=>⟨a9,x,da,i4,?_⟩⟩⟩;rw[<-O];exact U.rh.fZ 1 i4 λq hq=>by
    subst hx;subst O;exact⟨i4,i4,i4,i4,by show Seq _ _ r 1 av (bt l l.length);rw[<-j];exact hq.1.seq (λ_=>rfl) hq.2,bK.nil _ _ _ _,hq.1.cap,qm _⟩
end
end Go.Qw
namespace Wl
open Go
def oP(m:aG)(ds:aJ)(k n:Int):Bool:=match bm ds k with|some d=>iu m d n|none=>eS
def dP(m:aG)(ds:aJ)(l:aD)(N:Int->Int):Bool:=l.all λk=>oP m ds k (N k)
def jm(m:aG)(w:Pow)(ds:aJ)(k n:Int):Int×Pow×aJ:=
 match bm ds k with
 |none=>(5,w,ds)
 |some d=>((gf m w d n).1,(gf m w d n).2.1,bQ ds k (gf m w d n).2.2)
def makes(m:aG)(N:Int->Int):aD->Pow->aJ->Int×Pow×aJ
 |[],w,ds=>(0,w,ds)
 |k::l,w,ds=>if(jm m w ds k (N k)).1=0 then makes m N l (jm m w ds k (N k)).2.1 (jm m w ds k (N k)).2.2 else jm m w ds k (N k)
end Wl
namespace Go.Qw
open Go Go.Vc Go.Proofs Wl
theorem acv(f:FuncId)(pre post:Array Value)(P:Int->Bool)(s:Sl)(l:aD)(h:f9)(w:C.fns[f]?=dB eR)(n:Rd h s 1 av l)(y:i1 l<=2^30)
  (q:∀k∈l,∀h',Sp h h' []->ac xB f (pre.toList++[Value.int .i64 k]++post.toList).toArray h' λv d=>v=xv (P k)/\Sp h' d []):
  ac xB 147 #[s,.func (.func f) pre post] h λv h'=>v=xv (l.any P)/\Sp h h' []:=by
 refine kF s (f,pre,post) ?_;unfold iI;refine(iV s (f,pre,post) (R:=λv h'=>(∃i:Int,v=xq xx i/\decide (i>=0)=l.any P)/\Sp h h' []) ?_).mono ?_
 ·unfold gD;have r:=n.len;refine aA (λi:Nat=>(i:Int)) (λi h'=>i<=i1 l/\(l.take i).any P=eS/\Sp h h' []) (λi=>i1 l-i) 0 i4 ⟨i5,jj,Sp.refl h⟩ ?_;rintro i m ⟨j,a,c⟩;refine aj (λg=>?_) (λg=>?_)
  ·have b:i<i1 l:=by have u:(i:Int)<(s.len:Int):=g;omega
   refine(Seq.up n c.ai).bG i i4 b l[i] i4 (fd w ?_);refine(q l[i] (qg b) m c).mono ?_;rintro _ x ⟨rfl,t⟩;have o:=c.up t.ai;refine⟨_,i4,bx (λe=>⟨⟨i,i4,?_⟩,o⟩) λe=>?_⟩
   ·rw[zQ.2 ⟨_,qg b,e⟩];exact hU i5
   ·refine⟨i+1,j0,⟨i5,?_,o⟩,i5⟩;rw[aK _ _ b,yF,a,vV,xf,e];rfl
  ·have u:¬(i:Int)<(s.len:Int):=g;rw[qi i5]at a;exact⟨⟨-1,i4,by rw[a];rfl⟩,c⟩
 ·rintro _ m ⟨⟨i,rfl,j⟩,p⟩;exact⟨i,i4,by rw[j],p⟩
section
variable {B:aC} {h0 h:f9} {As:List HP} {a pw:f7} {offs:Int} {da:List aM} {w:Pow} {ds:aJ}
def SL(f:FuncId)(pre post:Array Value)(N:Int->Int)(l:aD)(h:f9):Prop:=∀k∈l,ac xB f (pre.toList++[Value.int .i64 k]++post.toList).toArray h λv h'=>v=xq xx (N k)/\Sp h h' []
theorem Oa(f:FuncId)(pre post:Array Value)(N:Int->Int)(x:bV)(m:aG)(s:Sl)(l:aD)(hf:C.fns[f]?=dB eR)(U:St B h0 As λh=>dn h x m/\SL f pre post N l h)(hz:cR m)(hs:Rd h s 1 av l)(hl:i1 l<=2^30)(z:∀k∈l,0<=k/\k<64)(H:aa B h0 h (bp bz a pw (aY x) offs da w ds::As)):
  ac xB 86 #[xt (dB a),s,.func (.func f) pre post] h λv h'=>v=xv (dP m ds l N)/\Sp h h' []:=by
 refine EZ (dB a) s (f,pre,post) ?_;unfold ur;refine(Sp.refl h).boxed λp h1 X=>X.boxed λO I q=>?_;have H2:aa B h0 I (bp bz a pw (aY x) offs da w ds::As):=H.up q.ai;have g:cx I p 23 [xt (dB a)]:=q.box 0 i4;have M:=q.box 1 i4;refine(acv 148 #[] #[xt (dB p),xt (dB O)] (λk=>!oP m ds k (N k)) s l I ld (hs.up q.ai) hl ?_).mono ?_
 ·intro k T h3 i;have F:=H2.up i.ai;have S:=(g.ai i.ai g.lt).cell0 i4;have Z:=(M.ai i.ai M.lt).cell0 i4;obtain⟨ok,u⟩:=aa.cY F;have Q:=z k T;refine CS k p O ?_;unfold rJ;obtain⟨n,rfl⟩:∃n:Nat,k=n:=⟨k.toNat,i5⟩
  have G:n<i1 da:=by rw[ok.la];omega
  have Y:cellOf h3 ((a.add 10).add ((n:Int).toNat*1))=dB (.pointer da[n]):=by rw[ql,z7];refine u.Cl 10 n ?_;rw[Cm ok.l8,qd G];rfl
  obtain⟨ab,L⟩:=U.at [_] F;refine⟨dB a,S,a,i4,⟨i5,i5⟩,da[n],Y,dB a,S,a,i4,x,u.aV _ i4,(f,pre,post),Z,fd hf ?_⟩;refine(L n T).mono ?_;rintro _ K ⟨rfl,r⟩;have R:=F.up r.ai;have t:=((g.ai i.ai g.lt).ai r.ai (g.ai i.ai g.lt).lt).cell0 i4;have c:=u.ai r.ai u.lt;have J:cellOf K ((a.add 10).add ((n:Int).toNat*1))=dB (.pointer da[n]):=by rw[ql,z7];refine c.Cl 10 n ?_;rw[Cm ok.l8,qd G];rfl
  refine⟨_,i4,⟨c.cell0 i4,c.cell i4,c.cell i4,c.cell i4,c.cell i4,c.cell i4,c.cell i4,c.cell i4,t,J,t,trivial⟩,?_⟩;have E:gN da (n:Int)=da[n]:=by unfold gN;rw[g0 i5,ql,qd G];rfl
  rw[<-E];have fin:∀{D:Bool} {o:f9},D=oP m ds n (N n)->Sp K o []->az.ok [(p,xt (dB a)),(p,xt (dB a))] o/\(Value.bool (!D)=xv (!oP m ds n (N n))/\Sp h3 o []):=λ{D o} he j=>by
   have P:=(g.ai i.ai g.lt).ai r.ai (g.ai i.ai g.lt).lt;have:=(P.ai j.ai P.lt).cell0 i4;exact⟨⟨this,this,trivial⟩,by rw[he],.zip (aa.up r j.ai).ai⟩
  rcases nG ok (n:Int)with⟨e1,e2⟩|⟨n',d,b,e0,e1,e2,e3,e4,e5⟩
  ·rw[e2];refine(UL x _ K).mono ?_;rintro _ o ⟨rfl,j⟩;exact⟨_,i4,fin (by unfold oP;rw[e1]) j⟩
  ·rw[e5];obtain⟨b',e,H5⟩:=Go.Vc.aa.jZ R e2;rw[e4]at e;injection e with e
   injection e with e
   subst e;obtain⟨y,V,W,A⟩:=aa.rT H5;refine(IR V W x m (N n) (A.box 0 i4) ((A.aX 2 [1]).FO λ_=>rfl) (aa.An (A.aX 2 [1])).1 y (U.at [_] R).1 hz).mono ?_;rintro _ o ⟨rfl,j⟩;exact⟨_,i4,fin (by unfold oP;rw[e3]) j⟩
 ·rintro _ h3 ⟨rfl,i⟩;refine⟨_,i4,?_,.zip (aa.up q i.ai).ai⟩;unfold dP;rw[List.not_any_eq_all_not];simp
theorem UN(x:bV)(n:Int)(h:f9):ac xB 150 #[xt eH,fH x,xq xx n] h λv h'=>v=xq xx 5/\Sp h h' []:=by refine Gq eH x n ?_;unfold CU;refine(Sp.refl h).boxed λb c a=>?_;exact bi (bi (bx (λ_=>bx (λ_=>⟨i4,.zip a.ai⟩) λe=>j1) λe=>j1))
theorem ZI(m:aG)(N:Int->Int)(l:aD)(w:Pow)(ds:aJ)(i:Nat)(a:i<i1 l):makes m N (l.drop i) w ds=if(jm m w ds l[i] (N l[i])).1=0 then makes m N (l.drop (i+1)) (jm m w ds l[i] (N l[i])).2.1 (jm m w ds l[i] (N l[i])).2.2 else jm m w ds l[i] (N l[i]):=by rw[qP a];rfl
theorem Ob(f:FuncId)(pre post:Array Value)(N:Int->Int)(x:bV)(m:aG)(s:Sl)(l:aD)(Y:C.fns[f]?=dB eR)(O:St B h0 As λh=>dn h x m/\SL f pre post N l h/\Rd h s 1 av l)(hz:cR m)(hl:i1 l<=2^30)(G:∀k∈l,0<=k/\k<64)(H:aa B h0 h (bp bz a pw (aY x) offs da w ds::As)):
  ac xB 87 #[xt (dB a),s,.func (.func f) pre post] h λv h'=>v=xq xx (makes m N l w ds).1/\aa B h0 h' (bp bz a pw (aY x) offs da (makes m N l w ds).2.1 (makes m N l w ds).2.2::As):=by
 refine DF (dB a) s (f,pre,post) ?_;unfold sH;have V:=(O.at [_] H).2.2.len;obtain⟨Z,T⟩:∃Z,Z=makes m N l w ds:=⟨_,rfl⟩
 rw[<-T];refine aA (λt:Nat×Pow×aJ=>(t.1:Int)) (λt h'=>t.1<=i1 l/\Z=makes m N (l.drop t.1) t.2.1 t.2.2/\aa B h0 h' (bp bz a pw (aY x) offs da t.2.1 t.2.2::As)) (λt=>i1 l-t.1) (0,w,ds) i4 ⟨jj,T,H⟩ ?_;rintro⟨i,D,u⟩ h1 ⟨hi,p,F⟩;dsimp only at*;refine aj (λe=>?_) λe=>?_
 ·have q:i<i1 l:=i5
  rw[ZI _ _ _ _ _ _ q]at p;obtain⟨X,I,K⟩:=O.at [_] F;refine K.bG i i4 q l[i] i4 (bi ?_);have A:=G l[i] (qg q);obtain⟨k,L⟩:∃k,k=l[i]:=⟨_,rfl⟩
  have M:k∈l:=by rw[L];exact qg q
  rw[<-L]at p A;rw[<-L];obtain⟨n,rfl⟩:∃n:Nat,k=n:=⟨k.toNat,i5⟩
  obtain⟨ok,z⟩:=aa.cY F;have R:n<i1 da:=by rw[ok.la];omega
  have P:∀{h':f9},cx h' a 91 (cQ (aY x) pw offs da)->cellOf h' ((a.add 10).add ((n:Int).toNat*1))=dB (.pointer da[n]):=λ{h'} z=>by
   rw[ql,z7];refine z.Cl 10 n ?_;rw[Cm ok.l8,qd R];rfl
  refine⟨a,i4,⟨i5,i5⟩,da[n],P z,a,i4,x,z.aV _ i4,fd Y ?_⟩;refine(I n M).mono ?_;rintro _ h2 ⟨rfl,Q⟩;have S:=F.up Q.ai;have g:=z.ai Q.ai z.lt;refine⟨_,i4,⟨g.cell0 i4,g.cell i4,g.cell i4,g.cell i4,g.cell i4,g.cell i4,g.cell i4,g.cell i4,P g,trivial⟩,?_⟩;have J:gN da (n:Int)=da[n]:=by unfold gN;rw[g0 i5,ql,qd R];rfl
  rw[<-J];obtain⟨c,o⟩:∃c,c=jm m D u n (N n):=⟨_,rfl⟩
  rw[<-o]at p;have fin:∀{h3:f9},aa B h0 h3 (bp bz a pw (aY x) offs da c.2.1 c.2.2::As)->az.ok [] h3/\Br (c.1 !=(0:Int)) (Value.int .i64 c.1=xq xx Z.1/\aa B h0 h3 (bp bz a pw (aY x) offs da Z.2.1 Z.2.2::As))
    (∃r:Nat×Pow×aJ,qc xx ((i:Int)+1)=(r.1:Int)/\(r.1<=i1 l/\Z=makes m N (l.drop r.1) r.2.1 r.2.2/\aa B h0 h3 (bp bz a pw (aY x) offs da r.2.1 r.2.2::As))/\l.length-r.1<i1 l-i):=λ{h3} H3=>by
   refine⟨trivial,bY (λy=>?_) λy=>?_⟩
   ·rw[g9 y]at p;rw[p];exact⟨i4,H3⟩
   ·rw[g0 y]at p;exact⟨(i+1,c.2.1,c.2.2),js,⟨i7,p,H3⟩,i7⟩
  rcases nG ok (n:Int)with⟨e1,y⟩|⟨n',d,b,e0,e1,y,e3,e4,e5⟩
  ·rw[y];have E:c=(5,D,u):=by rw[o];unfold jm;rw[e1]
   refine(UN x _ h2).mono ?_;rintro _ h3 ⟨rfl,R3⟩;exact⟨c.1,by rw[E],fin (h3:=h3) (by rw[E];exact S.up R3.ai)⟩
  ·rw[e5];have en:n=n':=i5
   subst en;obtain⟨b',j,H5⟩:=Go.Vc.aa.jZ S y;rw[e4]at j;injection j with j
   injection j with j
   subst j;have E:c=((gf m D d (N n)).1,(gf m D d (N n)).2.1,u.set n (dB (gf m D d (N n)).2.2)):=by rw[o];unfold jm;rw[e3];simp only[bQ,ql]
   refine(Ri x m (N n) (λBs h' hh=>(O (Bs++[_]) h' (by rw[qp];exact hh)).1) hz H5).mono ?_;rintro _ h3 ⟨rfl,W⟩;have U:=Go.Vc.aa.tk (k:=bz) (n:=n) e4 W;exact⟨c.1,by rw[E],fin (h3:=h3) (by rw[E];exact U)⟩
 ·rw[zf i5]at p;rw[p];exact⟨i4,F⟩
end
def afk(a b:dT):Int:=if fp a.1 b.1 then-1 else if kq a.1 b.1 then 0 else 1
def kb(a b:dT):Bool:=kq a.1 b.1
theorem UO(a b:dT):afk a b<0↔¬kb b a=eR:=by unfold afk kb kq;cases h:fp a.1 b.1<;>simp;split<;>omega
theorem IS:Ord kb:=⟨λa b c=>Hx a.1 b.1 c.1,λa b=>Hy a.1 b.1⟩
abbrev UP(x:dT):Value:=xw #[xu x.1,xq xx x.2.1,xq xx x.2.2.1,x.2.2.2]
theorem Su(x y:ByteArray)(h:f9):ac xB 146 #[xu x,xu y] h λv h'=>v=xq xx (if fp x y then-1 else if kq x y then 0 else 1)/\h'=h:=by
 refine CR x y ?_;unfold rI;have a:∀z:ByteArray,ac xB 209 #[xu z] h λv h'=>v=xv eS/\h'=h:=λz=>by
  refine Fh z ?_;unfold uz;exact⟨jj,i4⟩
 refine(a x).mono ?_;rintro _ _ ⟨rfl,rfl⟩;refine⟨_,i4,(a y).mono ?_⟩;rintro _ _ ⟨rfl,rfl⟩;refine⟨_,i4,bx (λe=>j1) λ_=>bx (λe=>j1) λ_=>?_⟩;have c:Op.bytesLess x.toList y.toList=fp x y:=rfl;rw[SI,c];have d:(!Op.bytesLess y.toList x.toList)=kq x y:=rfl;rw[d];refine bx (λe=>⟨o0,i4⟩) λe=>bo (λb=>⟨by rw[e,b];rfl,i4⟩) λb=>⟨by rw[e,b];rfl,i4⟩
theorem ZJ(a b:dT)(h:f9):ac xB 145 #[UP a,UP b] h λv h'=>v=xq xx (afk a b)/\Sp h h' []:=by refine LA a b ?_;unfold DJ;refine(Sp.refl h).boxed λe i g=>g.boxed λf d c=>?_;have c:Sp h d [au e 94 (bH a),au f 94 (bH b)]:=c;refine⟨a.1,(c.box 0 i4).cell0 i4,b.1,(c.box 1 i4).cell0 i4,(Su a.1 b.1 d).mono ?_⟩;rintro _ _ ⟨rfl,rfl⟩;exact⟨_,i4,i4,.zip c.ai⟩
abbrev uQ(s:Sl)(d:List dT):HP:=an 94 s 4 bH d
section
variable {B:aC} {h0 h h':f9} {As:List HP} {s:Sl} {d:List dT}
theorem WY{b c:List dT}{y:dT}(d:Sd kb (b++c))(g:∀z∈b,kb z y=eR)(f:∀z∈c,¬kb z y=eR):Sd kb (b++y::c):=
 Sd.app IS d.left (zF.2 ⟨λz a=>IS.Hv (f z a),d.right⟩) λx e z a=>by
  rcases zb.1 a with rfl|a
  ·exact g x e
  ·exact d.JG x e z a
theorem Oc(X M Y:List dT)(a b:Int)(ha:a=(i1 X:Int))(hb:b=(i1 X+i1 M:Nat))(ah:i1 X+i1 M+i1 Y<=2^40)(H:aa B h0 h (uQ s (X++(M++Y))::As)):
  ac xB 264 #[s,xq xx a,xq xx b,.func (.func 145) #[] #[]] h λv h'=>v=.tuple #[]/\∃Z,Sd kb Z/\cG kb M Z/\aa B h0 h' (uQ s (X++(Z++Y))::As):=by
 refine me s a b (145,#[],#[]) ?_;unfold iG;subst ha;subst hb;rw[ak ((i1 X:Int)+1)];refine aA (λt:Nat×List dT=>((i1 X+1+t.1:Nat):Int)) (λt h'=>(t.1+1<=i1 M∨t.1=0)/\Sd kb t.2/\cG kb (M.take (t.1+1)) t.2/\t.2.length=i1 (M.take (t.1+1))/\aa B h0 h' (uQ s (X++(t.2++(M.drop (t.1+1)++Y)))::As)) (λt=>i1 M-t.1) (0,M.take 1) i4 ?_ ?_
 ·refine⟨.inr i4,?_,cG.refl _,i4,?_⟩
  ·cases M with
   |nil=>exact List.Pairwise.nil
   |cons x M=>exact zF.2 ⟨λ_ h=>m9,jj⟩
  ·rw[<-qp (M.take (0+1)),List.take_append_drop];exact H
 rintro⟨t,P⟩ h1 ⟨ht,p,A,ab,O⟩;dsimp only at*;refine aj (λe=>?_) (λe=>?_)
 ·have I:t+1<i1 M:=i5
  obtain⟨y,hy⟩:∃y,y=M[t+1]:=⟨_,rfl⟩
  have K:i1 P=t+1:=by rw[ab];simp;omega
  have eD:M.drop (t+1)=y::M.drop (t+1+1):=by rw[qP I,hy]
  rw[eD]at O;refine aA (λu:List dT×List dT=>((i1 X+i1 u.1:Nat):Int)) (λu h'=>u.1++u.2=P/\(∀z∈u.2,¬kb z y=eR)/\aa B h0 h' (uQ s (X++(u.1++(y::(u.2++(M.drop (t+1+1)++Y)))))::As)) (λu=>i1 u.1) (P,[]) (by dsimp only;rw[K];congr 1;omega) ⟨jj,jj,by simpa using O⟩ ?_;rintro⟨c,d⟩ V ⟨L,k,J⟩;dsimp only at*;have am:i1 c+i1 d=t+1:=by rw[<-K,<-L,qx]
  have f:∀{h':f9},(∀z∈c,kb z y=eR)->aa B h0 h' (uQ s (X++(c++(y::(d++(M.drop (t+1+1)++Y)))))::As)->
    ∃l:Nat×List dT,qc xx (((i1 X+1+t:Nat):Int)+1)=((i1 X+1+l.1:Nat):Int)/\((l.1+1<=i1 M∨l.1=0)/\Sd kb l.2/\cG kb (M.take (l.1+1)) l.2/\l.2.length=i1 (M.take (l.1+1))/\aa B h0 h' (uQ s (X++(l.2++(M.drop (l.1+1)++Y)))::As))/\M.length-l.1<i1 M-t:=λ{h'} hle H'=>by
   refine⟨(t+1,c++y::d),by dsimp only;rw[ak _];omega,⟨.inl i7,?_,?_,?_,?_⟩,i7⟩
   ·exact WY qs hle k
   ·dsimp only;rw[aK M (t+1) I,<-hy];have h1:cG kb (M.take (t+1)++[y]) (P++[y]):=A.app (cG.refl _);refine h1.trans ?_;rw[<-L,qp];have V:cG kb (d++[y]) ([y]++d):=cG.rot IS λx hx z N=>by rw[qC.1 N];exact k x hx
    exact(cG.refl _).app V
   ·dsimp only;simp;omega
   ·dsimp only;have:X++((c++y::d)++(M.drop (t+1+1)++Y))=X++(c++(y::(d++(M.drop (t+1+1)++Y)))):=jj
    rw[this];exact H'
  obtain⟨D,R⟩:∃D,D=X++(c++(y::(d++(M.drop (t+1+1)++Y)))):=⟨_,rfl⟩
  refine bP (λ_ h'=>∃(Q:List dT) (z:dT),c=Q++[z]/\¬kb z y=eR/\aa B h0 h' (uQ s D::As)) ?_ ?_
  ·rw[<-R]at J f;refine aj (λT=>?_) (λT=>⟨trivial,f (λz N=>?_) J⟩)
   ·have G:c≠[]:=λh=>by rw[h]at T;simp at T
    obtain⟨Q,z,n⟩:∃(Q:List dT) (z:dT),c=Q++[z]:=⟨c.dropLast,c.getLast G,(List.dropLast_concat_getLast G).symm⟩
    have ad:i1 c=i1 Q+1:=by rw[n];simp
    have g1:D[i1 X+i1 c]?=dB y:=by rw[R,qj i5,show X.length+i1 c-i1 X=i1 c by omega,qj i5,zc];rfl
    have g2:D[i1 X+i1 c-1]?=dB z:=by rw[R,qj i5,show X.length+i1 c-1-i1 X=i1 Q by omega,n,qp,qj (qm _),zc];rfl
    obtain⟨S,q⟩:=qn.1 g1;obtain⟨U,E⟩:=qn.1 g2;refine(J.seq 0 i4 λ_=>rfl).eC (g:=bH) _ i4 S y (by rw[q]) ?_;have ej:qc xx (((i1 X+i1 c:Nat):Int)-1)=((i1 X+i1 c-1:Nat):Int):=j4
    rw[ej];refine(J.seq 0 i4 λ_=>rfl).eC (g:=bH) _ i4 U z (by rw[E]) (fd ld ?_);refine(ZJ y z V).mono ?_;rintro _ h3 ⟨rfl,R3⟩;have F:=J.up R3.ai;refine⟨_,i4,trivial,aj (λW=>⟨Q,z,n,(UO y z).1 W,F⟩) λW=>f (λw m=>?_) F⟩;have o:kb z y=eR:=by
     by_cases hc:kb z y=eR
     ·exact hc
     ·exact absurd ((UO y z).2 hc) W
    rw[n]at m;rcases qz.1 m with m|m
    ·refine IS.trans _ _ _ ?_ o;have:Sd kb (Q++[z]):=by rw[<-n];exact Sd.left (v:=d) qs
     exact this.JG w m z jj
    ·rw[qC.1 m];exact o
   ·have:c=[]:=by
     cases c with
     |nil=>rfl
     |cons x P=>exfalso;simp only[zn]at T;omega
    rw[this]at N;cases N
  ·rintro _ h3 ⟨Q,z,n,o,F⟩;have ad:i1 c=i1 Q+1:=by rw[n];simp
   have r:D=(X++Q)++z::([]++y::(d++(M.drop (t+1+1)++Y))):=by rw[R,n];simp
   obtain⟨q1,q2,q3,q4⟩:=Uy (X++Q) [] (d++(M.drop (t+1+1)++Y)) z y (i:=i1 X+i1 c-1) (j:=i1 X+i1 c) i9 i9;rw[<-r]at q1 q2 q3 q4;obtain⟨U,E⟩:=qn.1 q1;obtain⟨S,q⟩:=qn.1 q2;have ej:qc xx (((i1 X+i1 c:Nat):Int)-1)=((i1 X+i1 c-1:Nat):Int):=j4
   rw[ej];refine(F.seq 0 i4 λ_=>rfl).eC (g:=bH) _ i4 U z (by rw[E]) ?_;refine(F.seq 0 i4 λ_=>rfl).eC (g:=bH) _ i4 S y (by rw[q]) ?_;refine F.set af 0 i4 (λ_=>rfl) i4 (i1 X+i1 c) i4 S z i4 i4 i4 λh4 H4=>⟨trivial,?_⟩
   refine H4.set af 0 i4 (λ_=>rfl) i4 (i1 X+i1 c-1) i4 (by simpa using U) y i4 i4 i4 λh5 H5=>⟨trivial,?_⟩
   refine⟨(Q,z::d),by dsimp only;congr 1;omega,⟨by dsimp only;rw[<-L,n];simp,?_,?_⟩,i7⟩
   ·dsimp only;intro w m;rcases zb.1 m with rfl|m
    ·exact o
    ·exact k w m
   ·dsimp only;have:X++(Q++(y::(z::d++(M.drop (t+1+1)++Y))))=(X++Q)++y::([]++z::(d++(M.drop (t+1+1)++Y))):=jj
    rw[this,<-q4];exact H5
 ·refine⟨i4,P,p,?_,?_⟩
  ·rw[qi i5]at A;exact A
  ·rw[zf i5]at O;simpa using O
theorem UQ(r:Nat)(h:f9)(c:r<=2^32):ac xB 155 #[xq xA r] h λv h'=>(∃k:Int,v=xq xx k)/\h'=h:=by intro w a;refine(Tryz.bits_Len (r:Int) w i5 i5).mono ?_;rintro e b ⟨rfl,rfl⟩;exact⟨_,i4,dC.refl _,⟨_,i4⟩,a⟩
theorem ZK(d:List dT)(m:i1 d<=12)(H:aa B h0 h (uQ s d::As)):
  ac xB 144 #[s,.func (.func 145) #[] #[]] h λv h'=>v=.tuple #[]/\aa B h0 h' (uQ s (d.mergeSort kb)::As):=by
 refine mM s (145,#[],#[]) ?_;unfold jb;have l:=(H.own 0 i4).len;have a:∀k:Int,ac xB 208 #[s,xq xx 0,xq xx (s.len:Nat),xq xx k,.func (.func 145) #[] #[]] h λv h'=>v=.tuple #[]/\aa B h0 h' (uQ s (d.mergeSort kb)::As):=λk=>by
  refine nW s 0 (s.len:Nat) k (145,#[],#[]) ?_;unfold jW;refine aA (λ_:Unit=>((0:Int),((s.len:Nat):Int),k,eR,eR)) (λ_ h'=>h'=h) (λ_=>0) () i4 i4 ?_;rintro _ g rfl;refine aj (λ_=>?_) λe=>absurd (show qc xx (((s.len:Nat):Int)-0)<=12 by rw[ak _];omega) e;refine(Oc [] d [] 0 (s.len:Nat) i4 (by simp[l]) i9 l7).mono ?_;rintro _ j ⟨rfl,M,i,f,b⟩;refine⟨(),i4,i4,?_⟩;rw[<-agq IS i f];simpa using b
 have c:qc xA ((s.len:Nat):Int)=((s.len:Nat):Int):=by unfold qc;simp[qk,va];omega
 rw[c];refine(UQ s.len h i5).mono ?_;rintro _ g ⟨⟨k,rfl⟩,rfl⟩;refine⟨k,i4,(a k).mono ?_⟩;rintro _ j ⟨rfl,b⟩;exact⟨(),i4,i4,b⟩
end
section
variable {B:aC} {h0 h:f9} {As:List HP}
def Eh:bV:=(0,0,0,0,0,0,⟨eH,0,0⟩,⟨eH,0,0⟩)
theorem WZ{m:aG}{e:Wl.cw}{xe:dT}{L:List (dT×Wl.cw)}{pool:List (Sl×aD)}(j:L.map zI=m.aH)(k:∀p∈L,Fl pool p)(h:Fl pool (xe,e)):
  ∃g:List (dT×Wl.cw),g.map qI=(L.map qI++[xe]).mergeSort kb/\g.map zI=(m.aH++[e]).mergeSort xG/\∀p∈g,Fl pool p:=by
 have c:∀p∈L++[(xe,e)],Fl pool p:=λp d=>by
  rcases qz.1 d with d|d
  ·exact k p d
  ·rw[qC.1 d];exact h
 refine⟨(L++[(xe,e)]).mergeSort λa b=>kb a.1 b.1,?_,?_,λp d=>c p ((wT _ _).mem_iff.1 d)⟩
 ·rw[vG (r:=λa b=>kb a.1 b.1) (s:=kb) (f:=qI) λa _ b _=>rfl,qW];rfl
 ·rw[vG (r:=λa b=>kb a.1 b.1) (s:=xG) (f:=zI) (λa l b i=>by unfold kb xG;rw[(c a l).1.1,(c b i).1.1]),qW,j];rfl
theorem acw(x:bV)(m:aG)(xe:dT)(e:Wl.cw)(U:dn h x m)(P:cR m)(hs:0<=m.seq/\m.seq<=2^40)(hn:0<=m.next/\m.next<=2^40)(ho:m.aH.length<=11)(O:xe.1=e.name/\xe.2.1=e.object/\xe.2.2.1=e.length)(H:aa B h0 h (uH xe.2.2.2 1 av e.tries::As)):
  ac xB 84 #[fH x,UP xe] h λv h'=>∃y:bV,v=fH y/\aa B h0 h' (ct y (iM m e)::As):=by
 refine Pv x xe ?_;unfold Ia;refine(Sp.refl h).boxed λF Z S=>S.boxed λg h2 Q=>Q.alloc af i4 λa3 h3 l=>?_;have l:Sp h h3 [au F 29 (aY x),au g 94 (bH xe),au a3 29 (aY Eh)]:=l;refine⟨x,(l.box 0 i4).aV _ i4,(oa x m h3 (U.up l.ai) P).mono ?_⟩;rintro _ h4 ⟨y,L,pool,rfl,r,A,D,N⟩;have R:=((l.cK [1,2]).comp N).front;refine⟨y,i4,R.alloc af i4 λi h5 z=>?_⟩;have z:=z.bB;refine z.storeAll af 0 i4 i4 (aY y) i4 i4 i4 i4 λG q=>?_;have q:Sp h G [au i 29 (aY y),dN 1 av pool,an 3 y.2.2.2.2.2.2.1 1 av m.drives,an 94 y.2.2.2.2.2.2.2 4 bH (L.map qI),au g 94 (bH xe),au a3 29 (aY Eh)]:=q;refine⟨y.1,(q.box 0 i4).cell0 i4,?_⟩;have W:qc xx (y.1+1)=m.seq+1:=by rw[r.1,ak _]
 have T:qc xx (y.2.1+1)=m.next+1:=by rw[r.2.1,ak _]
 dsimp only;rw[W];refine q.kj af 0 i4 i4 [xq xx (m.seq+1)] i4 i4 i4 j8 λK n=>?_;have n:Sp h K [au i 29 (xq xx (m.seq+1)::(aY y).drop 1),dN 1 av pool,an 3 y.2.2.2.2.2.2.1 1 av m.drives,an 94 y.2.2.2.2.2.2.2 4 bH (L.map qI),au g 94 (bH xe),au a3 29 (aY Eh)]:=n;refine⟨y.2.1,(n.box 0 i4).cell i4,?_⟩;dsimp only;rw[T];refine n.store af 0 i4 i4 1 [xq xx (m.next+1)] i4 i4 i4 j8 λh8 k=>?_;have k:Sp h h8 [au i 29 (xq xx (m.seq+1)::xq xx (m.next+1)::(aY y).drop 2),dN 1 av pool,an 3 y.2.2.2.2.2.2.1 1 av m.drives,an 94 y.2.2.2.2.2.2.2 4 bH (L.map qI),au g 94 (bH xe),au a3 29 (aY Eh)]:=k;have J:L.length=m.aH.length:=by rw[<-A,qy]
 refine⟨y.2.2.2.2.2.2.2,(k.box 0 i4).cell i4,xe,(k.box 4 i4).aV _ i4,?_⟩;refine k.push af 3 i4 PQ i4 i6 (λ_=>rfl) PP xe i4 i6 i9 λo X u=>?_;refine u.store af 0 i4 i4 7 [o] i4 i4 i4 j8 λw c=>?_;obtain⟨a,b⟩:∃a:bV,a=(m.seq+1,m.next+1,y.2.2.1,y.2.2.2.1,y.2.2.2.2.1,y.2.2.2.2.2.1,y.2.2.2.2.2.2.1,o):=⟨_,rfl⟩
 have M:a.2.2.2.2.2.2.1=y.2.2.2.2.2.2.1:=by rw[b]
 have V:a.2.2.2.2.2.2.2=o:=by rw[b]
 have c:Sp h w [au i 29 (aY a),dN 1 av pool,an 3 a.2.2.2.2.2.2.1 1 av m.drives,an 94 a.2.2.2.2.2.2.2 4 bH (L.map qI++[xe]),au g 94 (bH xe),au a3 29 (aY Eh)]:=by rw[M,V,b];exact c
 refine⟨a.2.2.2.2.2.2.2,(c.box 0 i4).cell i4,?_⟩;have c:=c.aX 6 [3,0,1,2,4,5];refine(ZK (L.map qI++[xe]) i9 c).mono ?_;rintro _ t ⟨rfl,f⟩;have f:Sp h t [uQ a.2.2.2.2.2.2.2 ((L.map qI++[xe]).mergeSort kb),au i 29 (aY a),dN 1 av pool,an 3 a.2.2.2.2.2.2.1 1 av m.drives,au g 94 (bH xe),au a3 29 (aY Eh)]:=f;refine⟨(),i4,a,(f.box 1 i4).aV _ i4,?_⟩;refine f.storeAll af 5 i4 i4 (aY a) i4 i4 i4 i4 λj d=>?_;have d:Sp h j [uQ a.2.2.2.2.2.2.2 ((L.map qI++[xe]).mergeSort kb),au i 29 (aY a),dN 1 av pool,an 3 a.2.2.2.2.2.2.1 1 av m.drives,au g 94 (bH xe),au a3 29 (aY a)]:=d;refine⟨a,(d.box 5 i4).aV _ i4,a,i4,?_⟩;obtain⟨Y,l1,l2,I⟩:=WZ (pool:=(xe.2.2.2,e.tries)::pool) (m:=m) (e:=e) (xe:=xe) A (λp E=>⟨(D p E).1,qH _ (D p E).2⟩) ⟨O,qO⟩;have s:=((H.comp (d.cK [2,3,0])).front).aX 4 [0,3,1,2];have s:aa B h0 j (dN 1 av ((xe.2.2.2,e.tries)::pool)::an 3 a.2.2.2.2.2.2.1 1 av m.drives::an 94 a.2.2.2.2.2.2.2 4 bH ((L.map qI++[xe]).mergeSort kb)::As):=aa.Yj s;rw[<-l1]at s;refine aa.Fm (m:=iM m e) ⟨by rw[b];rfl,by rw[b];rfl,by rw[b];exact r.2.2.1,by rw[b];exact r.2.2.2⟩ l2 I s
end
section
variable {B:aC} {h0 h:f9} {As:List HP} {a pw:f7} {offs:Int} {da:List aM} {w:Pow} {ds:aJ}
theorem aa.acx{x y:bV}(H:aa B h0 h (bp bz a pw (aY x) offs da w ds::As)){K:Unit->f9->Prop}(c:∀h',aa B h0 h' (bp bz a pw (aY y) offs da w ds::As)->K () h'):
  ag xB (qf 29 (xt (dB a)) (fH y)) h K:=by
 obtain⟨ok,d⟩:=Go.Vc.aa.pu H;refine d.kj af 0 i4 i4 (aY y) i4 i4 i4 jj λh' b=>c h' ?_;exact aa.pV (k:=bz) ⟨i4,ok.la,ok.ls,ok.same⟩ b
theorem Od(x z:bV)(b:aG)(s:Sl)(l:aD)(o:St B h0 As λh=>dn h z b/\Rd h s 1 av l)(m:cR b)(u:i1 l<=2^10)(i:∀k∈l,0<=k/\k<64)(H:aa B h0 h (bp bz a pw (aY x) offs da w ds::As)):
  ac xB 88 #[xt (dB a),fH z,s] h λv h'=>v=xq xx (layAll (bM b l) w ds).1/\
   ((layAll (bM b l) w ds).1≠0->aa B h0 h' (bp bz a pw (aY x) offs da (layAll (bM b l) w ds).2.1 (layAll (bM b l) w ds).2.2::As))/\
   ((layAll (bM b l) w ds).1=0->∃y,aa B h0 h' (bp bz a pw (aY y) offs da (layAll (bM b l) w ds).2.1 (layAll (bM b l) w ds).2.2::ct y b::As)):=by
 refine Fa (dB a) z s ?_;unfold ut;refine H.boxed λA E d=>?_;have d:=d.bB;refine⟨z,(d.box 0 i4).aV _ i4,(KN z b s l E (o.at [_,_] d).1 m (o.at [_,_] d).2 u).mono ?_⟩;rintro _ M ⟨r,t,rfl,D⟩;have G:=(d.cm D).aX 3 [2,0,1];have f:=ka b m;have p:=wv u f;refine⟨r,i4,(IJ r t (bM b l) (St.eE 0 i4 λ_ j=>j) (by rw[Df];omega) (λq j=>?_) G).mono ?_⟩
 ·obtain⟨g,n⟩:=lD j;rw[n];exact⟨i _ g,i6⟩
 rintro _ h3 ⟨rfl,c⟩;obtain⟨R,J⟩:∃R,R=layAll (bM b l) w ds:=⟨_,rfl⟩
 rw[<-J]at c⊢;refine⟨_,i4,bY (λe=>⟨i4,λ_=>c.aX 3 [0],λh=>absurd h e⟩) λe=>?_⟩;have c:aa B h0 h3 (bp bz a pw (aY x) offs da R.2.1 R.2.2::cN jL 2 piv r t (bM b l)::au A 29 (aY z)::As):=c;refine⟨z,(c.box 2 i4).aV _ i4,(NO z b h3 (o.at [_,_,_] c).1 m).mono ?_⟩;rintro _ N ⟨y,rfl,F⟩;have I:=(c.cm F).aX 4 [1,0];refine⟨y,i4,a,i4,aa.acx I λL K=>?_⟩;exact⟨by rw[e],λh=>absurd e h,λ_=>⟨y,K⟩⟩
def mP(name:ByteArray)(e:Wl.cw):Bool:=e.name.toList==name.toList
theorem find_spec(x:bV)(m:aG)(name:ByteArray)(s:dn h x m)(t:cR m)(H:aa B h0 h (bp bz a pw (aY x) offs da w ds::As)):
  ac xB 90 #[xt (dB a),xu name] h λv h'=>(∃i:Int,v=xq xx i/\afb (mP name) m.aH i)/\Sp h h' []:=by
 refine Fb (dB a) name ?_;unfold uu;refine(Sp.refl h).boxed λc k b=>?_;have j:cx k c 9 [xu name]:=b.box 0 i4;obtain⟨ok,o⟩:=aa.cY H;have g:=o.ai b.ai o.lt;have d:=t.ob;refine⟨a,i4,x.2.2.2.2.2.2.2,g.cell i4,?_⟩;refine(KO 152 #[] #[xt (dB c)] (mP name) x.2.2.2.2.2.2.2 m.aH k ld (s.up b.ai).aH d ?_).mono ?_
 ·intro u E n e q z;refine CV u c ?_;unfold rK;refine(Sp.refl n).boxed λy h3 f=>?_;have l:=(j.ai e.ai j.lt)
  have r:=l.ai f.ai l.lt;refine⟨u.1,(f.box 0 i4).cell0 i4,name,r.cell0 i4,?_,.zip f.ai⟩;unfold mP;rw[q.1.1]
 ·rintro _ n ⟨⟨i,rfl,p⟩,e⟩;exact⟨i,i4,⟨i,i4,p⟩,.zip (aa.up b e.ai).ai⟩
theorem Cq{b:bh}(H:aa B h0 h (bp bz a pw b offs da w ds::As)):ac xB 89 #[xt (dB a)] h λv h'=>v=xv (dO w offs)/\h'=h:=by refine GM (dB a) ?_;unfold uZ;refine bx (λe=>j1) λ_=>(tl H).mono ?_;rintro _ _ ⟨rfl,rfl⟩;exact⟨_,i4,i4,i4⟩
def eO(m:aG)(down:Bool)(ds:aJ)(name:ByteArray)(n:Nat):Int:=
 if down then 14 else if !ne name then 3 else if m.aH.any (mP name)then 4
 else if m.p.1*m.p.2.2*8<(n:Int)∨12<=i1 m.aH then 6
 else if aN ds m.drives=[]∨16777215<m.next∨2147483647<=m.seq then 7 else 0
theorem UR(x:bV)(m:aG)(name:ByteArray)(s:Sl)(n:Nat)(hn:s.len=n)(z:name.size<=2^40)(U:dn h x m)(I:cR m)(T:bO m.p=eR)(H:aa B h0 h (bp bz a pw (aY x) offs da w ds::As)):
  ac xB 80 #[xt (dB a),xu name,s] h λv h'=>v=xq xx (eO m (dO w offs) ds name n)/\Sp h h' []:=by
 refine Bv (dB a) name s ?_;unfold pH;have W:=(co m.p).1 T;refine(Cq H).mono ?_;rintro _ u ⟨rfl,rfl⟩;refine⟨_,i4,bx (λe=>⟨by unfold eO;rw[e];rfl,Sp.refl _⟩) λo=>?_⟩;refine(Ra name u z).mono ?_;rintro _ h2 ⟨rfl,l⟩;refine⟨_,i4,bo (λe=>⟨by unfold eO;rw[o,e];rfl,l⟩) λE=>?_⟩;have J:=H.up l.ai;have f:=U.up l.ai;refine(find_spec x m name f I J).mono ?_;rintro _ h3 ⟨⟨i,rfl,M⟩,F⟩;have D:Sp u h3 []:=.zip (aa.up l F.ai).ai;have c:=UF M;refine⟨i,i4,bx (λe=>⟨by unfold eO;rw[o,E,<-c,e];rfl,D⟩) λV=>?_⟩;rw[V]at c;have K:=J.up F.ai;have b:=f.up F.ai;obtain⟨ok,k⟩:=aa.cY K;have R:=bK.len b.aH;have A:x.2.2.1=m.p.1:=congrArg (·.1) b.p;have q:x.2.2.2.2.1=m.p.2.2:=congrArg (·.2.2) b.p;have hk:m.p.1*m.p.2.2<=16*24:=Int.mul_le_mul i5 i5 i5 i5;have P:0<=m.p.1*m.p.2.2:=vO i5 i5;refine bP (λ(t:Bool) h'=>t=decide (m.p.1*m.p.2.2*8<(n:Int)∨12<=i1 m.aH)/\h'=h3) ?_ ?_
 ·refine⟨a,i4,x.2.2.1,k.cell i4,a,i4,x.2.2.2.2.1,by rw[addr_add];exact k.cell i4,?_⟩;dsimp only;rw[A,q,ak (m.p.1*m.p.2.2),ak (m.p.1*m.p.2.2*8)];refine aj (λe=>⟨(hU (.inl i5)).symm,i4⟩) λe=>?_;refine⟨a,i4,x.2.2.2.2.2.2.2,k.cell i4,?_,i4⟩;rw[decide_eq_decide];omega
 rintro t _ ⟨rfl,rfl⟩;refine aj (λe=>⟨by unfold eO;rw[o,E,<-c,g0 e];rfl,D⟩) λQ=>?_;have L:eO m (dO w offs) ds name n=if aN ds m.drives=[]∨16777215<m.next∨2147483647<=m.seq then 7 else 0:=by unfold eO;rw[o,E,<-c,g9 Q];rfl
 rw[L];refine(gd x m b I K).mono ?_;rintro _ X ⟨r,rfl,y⟩;have g:=(y.own 0 i4).len;have d:Sp u X []:=.zip (aa.up D y.ai).ai;have j:=k.ai y.ai k.lt;refine⟨r,i4,ck (λe=>⟨by rw[g0 (.inl (za i5))],d⟩) λe=>?_⟩;have G:aN ds m.drives≠[]:=λO=>by rw[O]at g;simp at g;omega
 refine⟨a,i4,x.2.1,j.cell i4,aj (λe=>⟨by rw[g0 (.inr (.inl (by rw[<-b.next];omega)))],d⟩) λY=>?_⟩;have N:=b.next;have S:=b.seq;refine⟨a,i4,x.1,j.cell0 i4,aj (λe=>⟨by rw[g0 (.inr (.inr i5))],d⟩) λZ=>⟨?_,d⟩⟩;rw[g9];rintro(h|h|h)
 ·exact G h
 ·omega
 ·omega
end
theorem US:∃i a,C.T.get 71=dB i/\i.cX=.slice a:=⟨_,_,i4,i4⟩
def pY(A B:aR)(k:Nat):aR:=fb (A.take k) (B.take k)++A.drop k
theorem uC{A B:aR}(h:i1 B=i1 A)(k:Nat):i1 (pY A B k)=i1 A:=by simp[pY,fb,h];omega
theorem acy{A B:aR}(h:i1 B=i1 A){k:Nat}(a:k<i1 A):(pY A B k)[k]?=dB A[k]:=by
 have:i1 (fb (A.take k) (B.take k))=k:=by simp[fb];omega
 rw[pY,qj i5,this,zc,wJ,wN,qd a]
theorem acz{A B:aR}(h:i1 B=i1 A){k:Nat}(a:k<i1 A):(pY A B k).set k (A[k]++B[k]'(by omega))=pY A B (k+1):=by
 have b:i1 (fb (A.take k) (B.take k))=k:=by simp[fb];omega
 rw[pY,qV _ _ i5,b,zc,qP a,zq,pY,aK _ _ a,aK _ _ (show k<i1 B by omega),fb,fb,yG i9,qp];rfl
theorem acA{A B:aR}(h:i1 B=i1 A):pY A B A.length=fb A B:=by rw[pY,q9,<-h,q9,h,List.drop_length,qN]
theorem ZL(f:f7)(a b:Sl)(A B:aR)(n w:Nat)(h:f9)(hf:fN h f)(I:fE h a 1 aF A)(R:fE h b 1 aF B)(hl:i1 A=n)(a6:i1 B=n)(g:ba n A)(G:ba w B)(bb:1<=n)(hn:n+w<=64)(hr:cb A=n):
  ac xB 199 #[xt (dB f),a,b] h λv h'=>∃r:Sl,v=.tuple #[r,xq xx 0]/\Sp h h' [fR 71 r 1 aF (go n A B)]:=by
 have d:i1 B=i1 A:=i5
 have X:=I.len;have l:=R.len;refine Gw (dB f) a b ?_;unfold CW;refine bi ?_;refine(nI a A n h I g).mono ?_;rintro v h1 ⟨rfl,rfl⟩;refine⟨_,i4,bo (λe=>j1) λ_=>?_⟩;refine(nI b B w h1 R G).mono ?_;rintro v J ⟨rfl,rfl⟩;refine⟨_,i4,bo (λe=>j1) λ_=>?_⟩;refine bY (λe=>absurd (by rw[X,l,d]) e) λ_=>?_;refine ck (λe=>i5) λ_=>?_;refine(tu a A J I).mono ?_;rintro v h3 ⟨rfl,rfl⟩;have ad:eI A=n:=by
  cases A with
  |nil=>simp at hl;omega
  |cons x t=>rw[eI,bD jj];exact g _ jj
 refine⟨_,i4,?_⟩;rw[ad];refine(Bc a A n h3 I g).mono ?_;rintro v h4 ⟨r,rs,rfl,a4,R4⟩;refine⟨r,i4,?_⟩;have ar:=(R4.own 0 i4).len;refine aA (λt:Nat×List Sl=>(t.1:Int)) (λt h'=>t.1<=n/\t.2.length=n/\Sp h3 h' (ox r t.2 (pY A B t.1))) (λt=>n-t.1) (0,rs) i4 ⟨jj,i7,by simpa[pY,fb]using R4⟩ ?_;rintro⟨k,rs⟩ h5 ⟨hk,ax,z⟩;dsimp only at*;have y:i1 rs=i1 (pY A B k):=n0
 refine aj (λe=>?_) (λe=>?_)
 ·have j:k<n:=i5
  have p:k<i1 A:=i5
  have L:=pW (a:=r) y k n0;have eg:(pY A B k)[k]'(by rw[uC d];omega)=A[k]:=by have:=acy d p;rw[qd n0]at this;exact zR.inj this
  rw[eg]at L;have l1:A[k].length=n:=g _ (qg _);have l2:i1 (B[k]'(by omega))=w:=G _ (qg _);refine(z.seq 0 i4 λ_=>rfl).oq k i4 i5 λa1 S ah=>?_;refine(R.up z.ai).get k i4 i5 λrb P=>?_;refine z.append af (k+1) L hO US i4 i6 (λ_=>rfl) P iP i5 λH h6 H6=>⟨trivial,?_⟩
  refine H6.set af 0 i4 (λ_=>rfl) i4 k i4 i5 H i4 i4 i4 λY H7=>⟨trivial,?_⟩
  refine⟨(k+1,rs.set k H),js,⟨i7,lz,?_⟩,i7⟩;dsimp only;rw[<-acz d p];show Sp h3 Y (an 71 r 1 bv (rs.set k H)::bE 5 1 aF (rs.set k H) ((pY A B k).set k _));rw[<-lq y];exact H7
 ·have U:k=i1 A:=i5
  subst U;rw[acA d]at z;refine(uO f h5).mono ?_;rintro v h6 ⟨rfl,rfl⟩;refine⟨dB f,i4,?_⟩;have E:=nw d.symm g G;have a9:=mV d.symm;refine(Dd (m:=fb A B) (n:=n+w) hf hf.lt i5 E i5 i5 i5 z).mono ?_;rintro v Y ⟨i,rfl,am,q⟩;rw[Ln d.symm g,hr];refine⟨_,i4,?_⟩;dsimp only;have ap:=(q.own 0 i4).cap;have a7:=(q.own 0 i4).len;have J:=hY E n;refine aj (λe=>absurd (show(n:Int)<(n:Int)from e) i5) λ_=>?_;refine⟨⟨wb _,y6.2 (show n<=r.len by omega)⟩,?_⟩;refine aA (λ_:Unit=>(0:Int)) (λ_ h'=>h'=Y) (λ_=>0) () i4 i4 ?_;rintro _ h8 rfl;rw[ql];refine aj (λe=>i5) λ_=>?_;refine⟨⟨wb _,y6.2 (show n<=r.cap by omega)⟩,?_⟩;obtain⟨M,K⟩:∃M,M=(bL (fb A B) n).2:=⟨_,rfl⟩
  have a3:i1 M=n:=by have:=J.2;rw[<-K]at this;omega
  have Q:ba (n+w) M:=by rw[K];exact J.1
  have D:∀k (hk:k<n),(go n A B).take (k+1)=(go n A B).take k++[(M[k]'(by omega)).drop n]:=λk hk=>by
   have e1:go n A B=M.map (List.drop n):=by rw[go,<-K,qi i5]
   rw[e1,aK _ _ i9,yb]
  have a8:i1 (go n A B)=n:=(Ab d.symm g G hr).1;rw[<-K]at q;refine aA (λt:Sl×Nat=>(t.1,(t.2:Int))) (λt h'=>t.2<=n/\Sp h8 h' [fR 71 t.1 1 aF ((go n A B).take t.2)]) (λt=>n-t.2) (⟨eH,0,0⟩,0) i4 ⟨jj,(Sp.refl h8).My 71 1 aF⟩ ?_;rintro⟨s,k⟩ h9 ⟨a5,N⟩;dsimp only at*;have T:=q.comp N;have W:i1 i=i1 M:=i5
  refine aj (λe=>?_) (λe=>?_)
  ·have j:k<n:=i5
   have L:=pW (a:=r) W k i5;have u:(ox r i M++[fR 71 s 1 aF ((go n A B).take k)])[k+1]?=dB (an 5 (i[k]'(by omega)) 1 aF (M[k]'(by omega))):=by rw[qo (by simp[bE];omega)];exact L
   have a0:i1 (M[k]'(by omega))=n+w:=Q _ (qg _);have F:=T.own (k+1) u;have Z:=T.seq (k+1) u λ_=>rfl;have ao:=F.len;have o:=(T.seq 0 i4 λ_=>rfl).take n i5;rw[qi i5]at o;refine o.oq k i4 i5 λa1 S ah=>?_;refine⟨⟨wb _,y6.2 i5⟩,?_⟩;refine(eW _ _ h9 (Z.drop n F.cap) i9).mono ?_;rintro v ay ⟨c,rfl,O⟩;have ab:=(N.comp O).freeze 1 i4 λ_=>rfl;refine⟨c,i4,?_⟩;refine ab.xZ af 0 1 i6 i4 i4 fM i9 λs' a2 V=>?_;refine⟨(s',k+1),js,⟨i7,?_⟩,i7⟩;dsimp only;rw[D k j];exact V.del 1
  ·rw[qi i5]at N;refine⟨s,i4,?_⟩;have:=(Sp.zip q.ai).comp N;exact this
def iY(p:Pm)(seed:Int)(l:Nat):Int:=if bO p&&decide ((l:Int)=p.1*p.2.2)then(if gC p seed (fV p)then 0 else 8)else 1
abbrev Dg(p:Pm)(seed:Int)(m:Sl):bh:=[xq xx p.1,xq xx p.2.1,xq xx p.2.2,xq xz seed,m]
theorem UT(p:Pm)(seed:Int)(data:Sl)(d:Row)(h:f9)(hd:Rd h data 1 aF d)(hc:data.len<=data.cap):
  ac xB 140 #[kW p,xq xz seed,data] h λv h'=>
   (iY p seed d.length=0->∃(b:f7) (m:Sl),v=.tuple #[xt (dB b),xq xx 0]/\Sp h h' [fR 71 m 1 aF (dq p seed d),au b 259 (Dg p seed m)])/\
   (iY p seed d.length≠0->v=.tuple #[xt eH,xq xx (iY p seed d.length)]/\Sp h h' []):=by
 have ah:=hd.len;refine Pz p seed data ?_;unfold If;refine(Sp.refl h).boxed λa h1 H1=>?_;refine bi ?_;refine⟨p,(H1.box 0 i4).aV _ i4,(eK p h1).mono ?_⟩;rintro v h2 ⟨rfl,R2⟩;have M:=H1.comp R2;have W:∀{h3:f9} (x:Int),x≠0->iY p seed d.length=x->Sp h h3 [au a 26 [xq xx p.1,xq xx p.2.1,xq xx p.2.2]]->
   (iY p seed d.length=0->∃(b:f7) (m:Sl),Value.tuple #[xt eH,xq xx x]=.tuple #[xt (dB b),xq xx 0]/\Sp h h3 [fR 71 m 1 aF (dq p seed d),au b 259 (Dg p seed m)])/\
   (iY p seed d.length≠0->Value.tuple #[xt eH,xq xx x]=.tuple #[xt eH,xq xx (iY p seed d.length)]/\Sp h h3 []):=λx hx O H=>by
  refine⟨λe=>absurd (O.symm.trans e) hx,λ_=>⟨by rw[O],.zip H.ai⟩⟩
 refine⟨_,i4,bo (λe=>W 1 i6 (by rw[iY,e];rfl) M) λS=>?_⟩;have ax:=(co p).1 S;obtain⟨K,hK⟩:∃K:Nat,p.1=K:=⟨p.1.toNat,i5⟩
 obtain⟨u,hH⟩:∃H:Nat,p.2.1=H:=⟨p.2.1.toNat,i5⟩
 obtain⟨w,N⟩:∃w:Nat,p.2.2=w:=⟨p.2.2.toNat,i5⟩
 have am:K*w<=16*24:=wv i5 i5;have J:p.1*p.2.2=((K*w:Nat):Int):=by rw[hK,N,wM]
 refine⟨p.1,(M.box 0 i4).cell0 i4,p.2.2,(M.box 0 i4).cell i4,?_⟩;dsimp only;rw[J,ak _];refine bY (λe=>W 1 i6 (by rw[iY,S,ii (by rw[J];intro Y;exact e (by rw[ah];exact Y))];rfl) M) λel=>?_;have G:i1 d=K*w:=i5
 refine⟨p,(M.box 0 i4).aV _ i4,(NZ p seed h2).mono ?_⟩;rintro v h3 ⟨rfl,R3⟩;have H3:=M.comp R3;have y:iY p seed d.length=if gC p seed (fV p)then 0 else 8:=by rw[iY,S,hU (by rw[J,G])];rfl
 refine⟨_,i4,bo (λe=>W 8 i6 (by rw[y,e];rfl) H3) λhf=>?_⟩;rw[hf,g0 rfl]at y;have B:cu p seed d K u w (K+u):=⟨S,hf,hK,hH,N,i4,i5,i5,i5,i5,i5,i5,G⟩
 refine⟨p.2.1,(H3.box 0 i4).cell i4,?_⟩;refine aA (λt:Sl×List Sl=>(t.1,(i1 t.2:Int))) (λt h'=>i1 t.2<=u/\Sp h h' (au a 26 [xq xx p.1,xq xx p.2.1,xq xx p.2.2]::ox t.1 t.2 (qh t.2.length (aO w)))) (λt=>u-i1 t.2) (⟨eH,0,0⟩,[]) i4 ⟨jj,H3.nil 71 1 bv⟩ ?_;rintro⟨s,rs⟩ h4 ⟨hk,P⟩;dsimp only at*;refine aj (λe=>?_) (λe=>?_)
 ·refine⟨p.2.2,(P.box 0 i4).cell i4,?_⟩;refine P.make af aF hO i6 0 i4 i4 w w N N (qm _) i5 λz V ap ar D=>?_;refine D.push af 1 i4 fM i4 i6 (λ_=>rfl) kl z i4 i6 i5 λZ h6 H6=>?_;refine⟨(Z,rs++[z]),by dsimp only;rw[ak _];simp,⟨i9,?_⟩,i9⟩;dsimp only;have e7:ox Z (rs++[z]) (qh rs.length (aO w)++[aO w])=an 71 Z 1 bv (rs++[z])::(bE 5 1 aF rs (qh rs.length (aO w))++[an 5 z 1 aF (aO w)]):=congrArg _ (Al jj z (aO w));rw[show(rs++[z]).length=i1 rs+1 by simp,List.replicate_succ',e7];exact H6
 ·have L:i1 rs=u:=i5
  rw[L]at P;refine⟨p.1,(P.box 0 i4).cell0 i4,?_⟩;let own:=bE 5 1 aF rs (qh u (aO w));refine aA (λt:Sl×Nat=>(t.1,(t.2:Int))) (λt h'=>t.2<=K/\Sp h h' (au a 26 [xq xx p.1,xq xx p.2.1,xq xx p.2.2]::an 71 t.1 1 bv (rs++(qA t.2).map (OY data w))::own)) (λt=>K-t.2) (s,0) i4 ⟨jj,by simpa using P⟩ ?_;rintro⟨t,k⟩ V ⟨ay,D⟩;dsimp only at*;refine aj (λY=>?_) (λY=>?_)
  ·have T:k<K:=i5
   have m1:(k+1)*w<=K*w:=zK w T;have m2:k*w<=(k+1)*w:=zK w i5;refine⟨p.2.2,(D.box 0 i4).cell i4,p.2.2,(D.box 0 i4).cell i4,?_⟩;rw[ak ((k:Int)+1)];have e5:(k:Int)*p.2.2=((k*w:Nat):Int):=by rw[N,wM]
   have e6:((k:Int)+1)*p.2.2=(((k+1)*w:Nat):Int):=by rw[N,wM];rfl
   dsimp only;rw[e5,e6,xC _,xC _,ql,ql];refine⟨⟨wb _,y6.2 m2,y6.2 i5⟩,?_⟩;refine D.push af 1 i4 fM i4 i6 (λ_=>rfl) kl (OY data w k) i4 i6 i9 λt' h6 H6=>?_;refine⟨(t',k+1),i4,⟨i7,?_⟩,i7⟩;dsimp only;rw[zV,qW,<-qp];exact H6
  ·have ad:k=K:=i5
   subst ad;refine bi ?_;have E:fE V t 1 aF (iQ k u w d):=by
    refine⟨rs++(qA k).map (OY data w),D.seq 1 i4 λ_=>rfl,by rw[HC];simp;omega,λi r l q o=>?_⟩;by_cases F:i<u
    ·rw[qo i5,qd i5]at q;rw[iQ,qo (by simpa using F)]at o;have hz:l=aO w:=by simp[F]at o;exact o.symm
     have hr:rs[i]'(by omega)=r:=zR.inj q;have g:(au a 26 [xq xx p.1,xq xx p.2.1,xq xx p.2.2]::an 71 t 1 bv (rs++(qA k).map (OY data w))::own)[i+2]?=dB (an 5 (rs[i]'(by omega)) 1 aF ((qh u (aO w))[i]'(by simpa using F))):=fX (by simpa using L) i (by simpa using F);have:=D.seq (i+2) g λ_=>rfl;rw[List.getElem_replicate,hr]at this;rw[hz];exact this
    ·obtain⟨j,rfl⟩:∃j,i=u+j:=⟨i-u,i5⟩
     rw[qj i5,L,zr]at q;rw[iQ,qj jj,List.length_replicate,zr]at o;have hj:j<k:=by have:=(qn.1 q).1;simpa using this
     simp[hj]at q o;have m1:(j+1)*w<=k*w:=zK w hj;rw[<-q,<-o];exact(Seq.up hd D.ai).piece hc w j i5
   have c:=D.box 0 i4;refine⟨p,c.aV _ i4,p,c.aV _ i4,(se V).mono ?_⟩;rintro v h6 ⟨f,rfl,R6⟩;have n:=c.ai R6.ai c.lt;refine⟨dB f,i4,⟨n.cell0 i4,n.cell i4,n.cell i4,n.cell0 i4,n.cell i4,n.cell i4,trivial⟩,(NX p h6).mono ?_⟩;rintro v h7 ⟨r7,rfl,R7⟩;have X:=R6.comp R7;have I:=c.ai X.ai c.lt;refine⟨r7,i4,⟨I.cell0 i4,I.cell i4,I.cell i4,trivial⟩,?_⟩;refine(KP p seed r7 (fV p) h7 (X.seq 1 i4 λ_=>rfl) (by rw[fV,ib];omega)).mono ?_;rintro v h8 ⟨r8,rfl,R8⟩;have R:=X.comp R8;refine⟨r8,i4,trivial,?_⟩;refine(ZL f r8 t _ _ (k+u) w h8 (R.box 0 i4) (R.Hj 2 i4) (E.up R.ai) B.HB (by rw[HC]) B.JN (xH B.len) i5 i5 B.Pf).mono ?_;rintro v h9 ⟨r9,rfl,R9⟩;have Q9:=R.comp R9;refine⟨(r9,0),i4,trivial,?_⟩;refine bY (λe=>absurd i4 e) λ_=>?_;have ab:=c.ai Q9.ai c.lt;refine⟨p,ab.aV _ i4,?_⟩;refine Q9.boxed (t:=259) λb ao U=>?_;refine⟨λ_=>⟨b,r9,i4,?_⟩,λe=>absurd y e⟩;have Q:=(Sp.zip D.ai).comp U;rw[<-B.FR]at Q;exact Q.take 3 (λi A F=>by
    cases i with
    |zero=>exact F
    |succ i=>cases i with
     |zero=>exact F
     |succ i=>simp at F)
def Be(h:f9)(b:f7)(p:Pm)(seed:Int)(M:aR):Prop:=∃m:Sl,cx h b 259 (Dg p seed m)/\fE h m 1 aF M
theorem Be.up{h h':f9}{b:f7}{p:Pm}{seed:Int}{M:aR}(e:Be h b p seed M)(c:bc (λb=>b<h.size) h h'):Be h' b p seed M:=by obtain⟨m,a,d⟩:=e;exact⟨m,a.ai c a.lt,d.up c⟩
theorem Xa{a t:Row}(b:i1 a=i1 t){k:Nat}(d:k<i1 t):(zi (λx y=>y^^^Gf.mul 1 x) (a.take k) (t.take k)++t.drop k).set k (t[k]^^^(a[k]'(by omega)))=zi (λx y=>y^^^Gf.mul 1 x) (a.take (k+1)) (t.take (k+1))++t.drop (k+1):=by have:=Bd (c:=1) b d;rw[Gf.one_mul]at this;exact this
theorem ajp{a t:Row}(b:i1 a=i1 t){k:Nat}(c:k<i1 t):(zi (λx y=>y^^^Gf.mul 1 x) (a.take k) (t.take k)++t.drop k)[k]?=dB t[k]:=by
 have d:i1 (zi (λx y=>y^^^Gf.mul 1 x) (a.take k) (t.take k))=k:=i9
 rw[qj i5,d,zc,wJ,wN,qd c]
theorem Dh(b:f7)(p:Pm)(seed id:Int)(M:aR)(n w:Nat)(h:f9)(hb:Be h b p seed M)(K:bO p=eR)(T:p.2.2=w)(hn:(bJ p).toNat=n)(X:ba w M)(hl:i1 M=n):
  ac xB 142 #[xt (dB b),xq xx id] h λv h'=>∃r:Sl,v=r/\Sp h h' [an 5 r 1 aF (if bX id then fW w M (dv n seed id)else[])]:=by
 obtain⟨m,g,R⟩:=hb;have ap:=R.len;have a1:=(co p).1 K;have hc:bJ p=p.1+p.2.1:=by rw[bJ,g0 K]
 refine BB (dB b) id ?_;unfold pN;have Q:bX id=eS->∃r:Sl,Value.slice eH 0 0=xr r.ptr r.len r.cap/\Sp h h [an 5 r 1 aF (if bX id then fW w M (dv n seed id)else[])]:=λe=>by
  rw[e];exact⟨⟨eH,0,0⟩,i4,(Sp.refl h).nil 5 1 aF⟩
 refine bi (bx (λe=>j1) λ_=>aj (λe=>Q l4) λe1=>aj (λe=>Q l4) λU=>?_);have hid:bX id=eR:=l4
 refine⟨b,i4,p.2.2,g.cell i4,?_⟩;refine(Sp.refl h).make af aF hO i6 0 i4 i4 w w T T (qm _) i5 λo Z am ao O=>?_;have D:=g.ai O.ai g.lt;refine⟨b,i4,p,D.aV _ i4,b,i4,seed,D.cell i4,(Co p seed id Z).mono ?_⟩;rintro v h2 ⟨c,rfl,N⟩;rw[K,hid,xk,g0 rfl,hn]at N;rw[hid,g0 rfl];have G:=O.comp N;obtain⟨d,j⟩:∃d,d=dv n seed id:=⟨_,rfl⟩
 have s:∀x∈d,0<=x/\x<(n:Int):=λx Y=>nt i5 i5 (by rw[<-j];exact Y);have V:i1 d<=n:=by rw[j];exact BQ i5 i5 _ _
 rw[<-j]at G⊢;have ay:=(G.seq 1 i4 λ_=>rfl).len;refine⟨c,i4,trivial,?_⟩;refine aA (λi:Nat=>(i:Int)) (λi h'=>i<=i1 d/\Sp h h' [an 5 o 1 aF (fW w M (d.take i)),an 3 c 1 av d]) (λi=>i1 d-i) 0 i4 ⟨i5,G⟩ ?_;rintro i h3 ⟨E,q⟩;refine aj (λe=>?_) (λe=>?_)
 ·have l:i<i1 d:=i5
  have Y:=s _ (qg l);refine(q.seq 1 i4 λ_=>rfl).bG i i4 l _ i4 ?_;have F:=g.ai q.ai g.lt;refine⟨b,i4,m,F.cell i4,?_⟩;obtain⟨ad,W⟩:=R;refine(W.ai q.ai).get d[i].toNat i5 i5 λr P I=>?_;have u:=W.row _ r _ I (qd (show d[i].toNat<i1 M by omega));obtain⟨row,f⟩:∃row,row=M[d[i].toNat]'(by omega):=⟨_,rfl⟩
  have a0:i1 row=w:=by rw[f];exact X _ (qg _)
  rw[<-f]at P u;obtain⟨S,L⟩:∃S,S=fW w M (d.take i):=⟨_,rfl⟩
  have ar:i1 S=w:=by rw[L];exact rv X hl s i E
  have ax:=P.len;have U:fW w M (d.take (i+1))=cV 1 row S:=by rw[aK _ _ l,EJ,L,f,bD i5]
  rw[<-L]at q;refine aA (λk:Nat=>(k:Int)) (λk h'=>k<=w/\Sp h h' [an 5 o 1 aF (zi (λx y=>y^^^Gf.mul 1 x) (row.take k) (S.take k)++S.drop k),an 3 c 1 av d]) (λk=>w-k) 0 i4 ⟨i5,oj⟩ ?_;rintro k h4 ⟨hk,B⟩;have J:=u.ai B.ai;have ah:i1 (zi (λx y=>y^^^Gf.mul 1 x) (row.take k) (S.take k)++S.drop k)=w:=i9
  refine aj (λe3=>?_) (λe3=>?_)
  ·have ab:k<w:=i5
   have z:(zi (λx y=>y^^^Gf.mul 1 x) (row.take k) (S.take k)++S.drop k)[k]'(by omega)=S[k]'(by omega):=by have:=ajp (a:=row) (t:=S) i5 (show k<i1 S by omega);rw[qd i5]at this;exact zR.inj this
   refine J.bG k i4 i5 _ i4 ?_;refine(B.seq 0 i4 λ_=>rfl).bG k i4 i5 _ i4 ?_;rw[z,nH];refine B.set af 0 i4 (λ_=>rfl) i4 k i4 i5 _ i4 i4 i4 λh5 H5=>?_;refine⟨k+1,j0,⟨i5,?_⟩,i5⟩;rw[<-Xa i5 (show k<i1 S by omega)];exact H5
  ·have H:k=w:=i5
   subst H;rw[qi i5,qi i5,zf i5,qN]at B;refine⟨i+1,j0,⟨i5,?_⟩,i5⟩;rw[U];exact B
 ·rw[qi i5]at q;exact⟨o,i4,q.take 0 λi A E=>by cases i with|zero=>exact E|succ i=>simp at E⟩
theorem _root_.Wl.cu.iY{p:Pm}{seed:Int}{d:Row}{K H w n:Nat}(B:cu p seed d K H w n):iY p seed d.length=0:=by rw[Go.Qw.iY,B.may,B.full,B.len,B.k,B.s,hU (by rw[wM])];rfl
theorem ajq{p:Pm}{seed:Int}{d:Row}{K H w n:Nat}(B:cu p seed d K H w n)(data:Sl)(h:f9)(a:Rd h data 1 aF d)(c:data.len<=data.cap):
  ac xB 140 #[kW p,xq xz seed,data] h λv h'=>
   ∃(b:f7) (m:Sl),v=.tuple #[xt (dB b),xq xx 0]/\Sp h h' [fR 71 m 1 aF (dq p seed d),au b 259 (Dg p seed m)]:=
 (UT p seed data d h a c).mono λ_ _ e=>e.1 B.iY
theorem _root_.Wl.cu.symbol{p:Pm}{seed:Int}{d:Row}{K H w n:Nat}(B:cu p seed d K H w n)(b:f7)(id:Int)(h:f9)(a:Be h b p seed (dq p seed d)):
  ac xB 142 #[xt (dB b),xq xx id] h λv h'=>∃r:Sl,v=r/\Sp h h' [an 5 r 1 aF (if bX id then fW w (dq p seed d) (dv n seed id)else[])]:=
 Dh b p seed id _ n w h a B.may B.s B.rx B.oE.2 B.oE.1
def Ei(s:FS):bh:=[.complex .f64 s.ax s.ay,.complex .f64 s.sx s.sy,xq xx s.left,xq xx s.leg,xv s.second]
theorem pZ{o:Option Nat}(h:o.isSome=eR):o=dB (o.getD 0):=by
 cases o with
 |none=>cases h
 |some x=>rfl
theorem ZM(h:f9):ac xB 259 #[] h λv h'=>∃a:f7,v=xt (dB a)/\Sp h h' [au a 334 (Ei fs0)]:=by refine NH ?_;unfold GA;refine(Sp.refl h).boxed (t:=334) λa c b=>?_;exact⟨a,i4,b⟩
theorem acB(a b:Nat)(h:f9)(j:(ij.mul a 0).isSome=eR)(d:(ij.mul b ry).isSome=eR)(h3:(ij.sub (uK a 0) (uK b ry)).isSome=eR)(g:(ij.mul a ry).isSome=eR)(c:(ij.mul b 0).isSome=eR)(f:(ij.add (uK a ry) (uK b 0)).isSome=eR):
  ac xB 313 #[.complex .f64 a b,xq xx 1] h λv h'=>v=.complex .f64 (tx a b) (ty a b)/\h'=h:=by
 refine PN (a,b) 1 ?_;unfold IC;refine⟨i6,i6,?_⟩;refine aA (λk:Nat=>(if k=0 then(a,b)else(tx a b,ty a b),(k:Int))) (λk h'=>k<=1/\h'=h) (λk=>1-k) 0 i4 ⟨i5,i4⟩ ?_;rintro k h' ⟨l,rfl⟩;have i:wk (qc xx (wk 1 4+4)) 4=1:=i6
 dsimp only;rw[i];refine aj (λe=>?_) (λe=>?_)
 ·have:k=0:=i5
  subst this;refine⟨(tx a b,ty a b),ahy (pZ j) (pZ d) (pZ h3) (pZ g) (pZ c) (pZ f),?_⟩;exact⟨1,i4,⟨i5,i4⟩,i5⟩
 ·have:k=1:=i5
  subst this;exact⟨i4,i4⟩
theorem afl(a:f7)(s:FS)(h:f9)(g:cx h a 334 (Ei s))(c:s.ok=eR):ac xB 260 #[xt (dB a)] h λv h'=>v=.tuple #[]/\cx h' a 334 (Ei s.on)/\bc (λb=>b≠a.block) h h':=by
 simp only[FS.ok,qB,decide_eq_true_eq]at c;obtain⟨⟨⟨⟨⟨⟨⟨⟨⟨⟨⟨z,G⟩,x⟩,A⟩,w⟩,B⟩,K⟩,J⟩,O⟩,D⟩,u⟩,t⟩:=c;refine GP (dB a) ?_;unfold vN;have y:aa (λb=>b<h.size/\¬b=a.block) h h [au a 334 (Ei s)]:=.abd (λb=>b=a.block) (λb i=>by rw[i];exact g.lt) ⟨g,i4⟩;have fin:∀{h':f9},aa (λb=>b<h.size/\¬b=a.block) h h' [au a 334 (Ei s.on)]->Value.tuple #[]=.tuple #[]/\cx h' a 334 (Ei s.on)/\bc (λb=>b≠a.block) h h':=λH=>
  ⟨i4,H.box 0 i4,H.ai.1,λk r m=>H.ai.2 k r ⟨r,m⟩⟩
 refine⟨a,i4,(s.ax,s.ay),g.cell0 i4,a,i4,(s.sx,s.sy),g.cell i4,(pr s.ax s.sx,pr s.ay s.sy),ahw (pZ z) (pZ G),a,i4,?_⟩;refine y.kj af 0 i4 i4 [.complex .f64 (pr s.ax s.sx) (pr s.ay s.sy)] i4 i4 i4 (by simp[Ei]) λN q=>⟨trivial,?_⟩
 refine⟨a,i4,s.left,(q.box 0 i4).cell (j:=2) i4,a,i4,?_⟩;rw[ak (s.left-1)];refine q.storeAt af 0 i4 i4 (off:=2) i4 i4 i4 (by simp[Ei]) λF d=>?_;refine⟨a,i4,s.left-1,(d.box 0 i4).cell (j:=2) i4,?_⟩;refine aj (λe=>?_) (λe=>?_)
 ·have n:Ei s.on=[.complex .f64 (pr s.ax s.sx) (pr s.ay s.sy),.complex .f64 s.sx s.sy,xq xx (s.left-1),xq xx s.leg,xv s.second]:=by rw[FS.on,g0 e];rfl
  refine fin ?_;rw[n];exact d
 ·refine⟨a,i4,(s.sx,s.sy),(d.box 0 i4).cell (j:=1) i4,(acB s.sx s.sy F x A w B K J).mono ?_⟩;rintro v h3 ⟨rfl,rfl⟩;refine⟨(tx s.sx s.sy,ty s.sx s.sy),i4,a,i4,?_⟩;refine d.storeAt af 0 i4 i4 (off:=1) i4 i4 i4 (by simp[Ei]) λQ f=>?_;refine bP (λ_ h'=>aa (λb=>b<h.size/\¬b=a.block) h h' [au a 334 [.complex .f64 (pr s.ax s.sx) (pr s.ay s.sy),.complex .f64 (tx s.sx s.sy) (ty s.sx s.sy),xq xx (s.left-1),xq xx (if s.second then s.leg+1 else s.leg),xv s.second]]) ?_ ?_
  ·refine⟨a,i4,s.second,(f.box 0 i4).cell (j:=4) i4,bx (λl=>?_) λl=>?_⟩
   ·refine⟨a,i4,s.leg,(f.box 0 i4).cell (j:=3) i4,a,i4,?_⟩;rw[ak (s.leg+1)];refine f.storeAt af 0 i4 i4 (off:=3) i4 i4 i4 (by simp[Ei]) λP E=>?_;rw[g0 l];exact E
   ·rw[g9 (by rw[l];decide)];exact f
  ·rintro _ L p;refine⟨a,i4,s.second,(p.box 0 i4).cell (j:=4) i4,a,i4,?_⟩;refine p.storeAt af 0 i4 i4 (off:=4) i4 i4 i4 jj λM o=>?_;refine⟨a,i4,_,(o.box 0 i4).cell (j:=3) i4,a,i4,?_⟩;refine o.storeAt af 0 i4 i4 (off:=2) i4 i4 i4 jj λh8 I=>?_;have n:Ei s.on=[.complex .f64 (pr s.ax s.sx) (pr s.ay s.sy),.complex .f64 (tx s.sx s.sy) (ty s.sx s.sy),xq xx (if s.second then s.leg+1 else s.leg),xq xx (if s.second then s.leg+1 else s.leg),xv (!s.second)]:=by rw[FS.on,g9 e];rfl
   refine fin ?_;rw[n];exact I
theorem Ym(n:Nat)(h:f9)(j:n<64):ac xB 201 #[xq xx n] h λv h'=>v=.complex .f64 (lG n).ax (lG n).ay/\Sp h h' []:=by
 refine Ur n ?_;unfold Nz;refine aj (λe=>i5) λ_=>aj (λe=>i5) λ_=>?_;refine(ZM h).mono ?_;rintro v i ⟨a,rfl,f⟩;refine⟨dB a,i4,?_⟩;refine aA (λk:Nat=>(k:Int)) (λk h'=>k<=n/\Sp h h' [au a 334 (Ei (lG k))]) (λk=>n-k) 0 i4 ⟨i5,f⟩ ?_;rintro k g ⟨l,b⟩;refine ck (λe=>?_) (λe=>?_)
 ·have:k=n:=i5
  subst this;exact⟨a,i4,((lG k).ax,(lG k).ay),(b.box 0 i4).cell0 i4,i4,.zip b.ai⟩
 ·refine(afl a (lG k) g (b.box 0 i4) (ajY k i5)).mono ?_;rintro v h3 ⟨rfl,d,c⟩;refine⟨(),i4,k+1,j0,⟨i5,b.Dt 0 i4 c d⟩,i5⟩
theorem Rj{a b:Int}(e:-4<=a:=by omega)(c:a<=4:=by omega)(h3:-4<=b:=by omega)(d:b<=4:=by omega):ij.sub (dh a) (dh b)=dB (dh (a-b)):=by have:=aiJ (a+4).toNat i5 (b+4).toNat i5;rw[show((a+4).toNat:Int)-4=a by omega,show((b+4).toNat:Int)-4=b by omega,show((a+4).toNat:Int)-((b+4).toNat:Int)=a-b by omega]at this;exact this
theorem Rk{a:Int}(c:-8<=a:=by omega)(b:a<=8:=by omega):ij.mul (dh a) (dh a)=dB (dh (a*a)):=by have:=aiK (a+8).toNat i5;rw[show((a+8).toNat:Int)-8=a by omega]at this;exact this
theorem UU(a:Int):((a.natAbs:Nat):Int)*(a.natAbs:Nat)=a*a:=Int.natAbs_mul_self
theorem acC{a b:Int}(e:-8<=a)(c:a<=8)(h3:-8<=b)(d:b<=8):ij.add (dh (a*a)) (dh (b*b))=dB (dh (a*a+b*b)):=by have:=aiL a.natAbs i5 b.natAbs i5;rw[UU,UU]at this;exact this
def IT(i j:Nat):Int:=((gp i).x-(gp j).x)*((gp i).x-(gp j).x)+((gp i).y-(gp j).y)*((gp i).y-(gp j).y)
theorem agV{a:Int}(c:-8<=a)(b:a<=8):0<=a*a/\a*a<=64:=by rw[<-UU,<-wM];have:a.natAbs*a.natAbs<=8*8:=wv i5 i5;omega
theorem Cr{n:Nat}(h:n<64):(lG n).ax=dh (gp n).x/\(lG n).ay=dh (gp n).y/\-4<=(gp n).x/\(gp n).x<=4/\-4<=(gp n).y/\(gp n).y<=4:=by have:=aiI n h;simp only[qB,decide_eq_true_eq,beq_iff_eq]at this;obtain⟨⟨⟨⟨⟨a,b⟩,c⟩,d⟩,e⟩,f⟩:=this;exact⟨a,b,c,d,e,f⟩
theorem acD{i j:Nat}(d:i<64)(c:j<64):0<=IT i j/\IT i j<=128:=by have a:=Cr d;have b:=Cr c;have f:=agV (a:=(gp i).x-(gp j).x) i5 i5;have e:=agV (a:=(gp i).y-(gp j).y) i5 i5;unfold IT;omega
theorem afm(i j:Nat)(h:f9)(f:i<64)(e:j<64):ac xB 202 #[.complex .f64 (lG i).ax (lG i).ay,.complex .f64 (lG j).ax (lG j).ay] h λv h'=>v=.float .f64 (dh (IT i j))/\h'=h:=by
 have a:=Cr f;have b:=Cr e;refine Si ((lG i).ax,(lG i).ay) ((lG j).ax,(lG j).ay) ?_;unfold KH;have d:ij.sub (lG i).ax (lG j).ax=dB (dh ((gp i).x-(gp j).x)):=by rw[a.1,b.1];exact Rj
 have c:ij.sub (lG i).ay (lG j).ay=dB (dh ((gp i).y-(gp j).y)):=by rw[a.2.1,b.2.1];exact Rj
 refine⟨(dh ((gp i).x-(gp j).x),dh ((gp i).y-(gp j).y)),ahx d c,_,Rk,_,Rk,_,acC i5 i5 i5 i5,i4,i4⟩
abbrev agW:bZ C.toDr 22 3 1 [xq xx 0] 8:=⟨_,_,i4,i4,i4,i4,i4,i4⟩
def nJ(a b:Int):Int:=if a<b then-1 else if a>b then 1 else 0
theorem UV(m:Nat)(h:f9)(a:m<129):ac xB 262 #[.float .f64 (dh (m:Nat))] h λv h'=>v=xv eS/\h'=h:=by refine DW _ ?_;unfold sN;have:=abF m a m a;rw[show(FloatKind.format .f64).order (dh (m:Nat)) (dh (m:Nat))=dB (compare m m)from this,Nat.compare_eq_eq.2 rfl];exact⟨i4,i4⟩
theorem acE(m n:Nat)(h:f9)(c:m<129)(b:n<129):ac xB 206 #[.float .f64 (dh (m:Nat)),.float .f64 (dh (n:Nat))] h λv h'=>v=xq xx (nJ m n)/\h'=h:=by
 refine BD _ _ ?_;unfold pP;refine(UV m h c).mono ?_;rintro v a ⟨rfl,rfl⟩;refine⟨_,i4,(UV n a b).mono ?_⟩;rintro v f ⟨rfl,rfl⟩;refine⟨_,i4,bx (λe=>j1) λ_=>bx (λe=>j1) λ_=>?_⟩;have d:(FloatKind.format .f64).order (dh (m:Nat)) (dh (n:Nat))=dB (compare m n):=abF m c n b;rw[d];rcases Nat.lt_trichotomy m n with a|a|a
 ·rw[Nat.compare_eq_lt.2 a];refine bx (λ_=>⟨by rw[nJ,g0 i5],i4⟩) (λe=>j1)
 ·subst a;rw[Nat.compare_eq_eq.2 rfl];refine bx (λe=>j1) λ_=>bx (λe=>j1) λ_=>⟨by rw[nJ,g9 i5,g9 i5],i4⟩
 ·rw[Nat.compare_eq_gt.2 a];refine bx (λe=>j1) λ_=>bx (λ_=>⟨by rw[nJ,g9 i5,g0 i5],i4⟩) (λe=>j1)
theorem Rl(m:Int)(h:f9):ac xB 263 #[xq xx m] h λv h'=>v=xv eS/\h'=h:=by refine wc _ ?_;unfold rP;exact⟨jj,i4⟩
theorem acF(m n:Int)(h:f9):ac xB 207 #[xq xx m,xq xx n] h λv h'=>v=xq xx (nJ m n)/\h'=h:=by refine sJ _ _ ?_;unfold ov;refine(Rl m h).mono ?_;rintro v b ⟨rfl,rfl⟩;refine⟨_,i4,(Rl n b).mono ?_⟩;rintro v c ⟨rfl,rfl⟩;refine⟨_,i4,bx (λe=>j1) λ_=>bx (λe=>j1) λ_=>?_⟩;refine aj (λe=>⟨by rw[nJ,g0 e],i4⟩) λe=>aj (λa=>⟨by rw[nJ,g9 e,g0 a],i4⟩) λa=>⟨by rw[nJ,g9 e,g9 a],i4⟩
def Yn(a b:Int):Int:=if a≠0 then a else b
theorem ahP(s:Sl)(a b:Int)(h:f9)(f:Rd h s 1 av [a,b]):ac xB 205 #[s] h λv h'=>v=xq xx (Yn a b)/\h'=h:=by
 refine DQ s ?_;unfold AT;have m:s.len=2:=f.len;refine aA (λk:Nat=>(k:Int)) (λk h'=>h'=h/\k<=2/\(1<=k->a=0)/\(2<=k->b=0)) (λk=>2-k) 0 i4 ⟨i4,i5,i5,i5⟩ ?_;rintro k h' ⟨rfl,l,g,i⟩;refine aj (λe=>?_) (λe=>?_)
 ·rcases(show k=0∨k=1 by omega)with rfl|rfl
  ·refine f.bG 0 i4 jj a i4 ?_;refine bY (λc=>⟨by rw[Yn,g0 c],i4⟩) λc=>?_;exact⟨1,i4,⟨i4,i5,λ_=>c,i5⟩,i5⟩
  ·refine f.bG 1 i4 jj b i4 ?_;have d:=g i5;refine bY (λc=>⟨by rw[Yn,g9 qb],i4⟩) λc=>?_;exact⟨2,i4,⟨i4,i5,λ_=>d,λ_=>c⟩,i5⟩
 ·have d:=g i5;have j:=i i5;exact⟨by rw[Yn,g9 qb,j],i4⟩
abbrev Fr:=Int×Fin 129
def Bf(x:Fr):bh:=[xq xx x.1,.float .f64 (dh ((x.2:Nat):Int))]
def Bg(x y:Fr):Int:=Yn (nJ (x.2:Nat) (y.2:Nat)) (nJ x.1 y.1)
theorem UW(x y:Fr)(h:f9):ac xB 204 #[xw (Bf x).toArray,xw (Bf y).toArray] h λv h'=>v=xq xx (Bg x y)/\bc (λb=>b<h.size) h h':=by
 refine Kg (x.1,dh ((x.2:Nat):Int)) (y.1,dh ((y.2:Nat):Int)) ?_;unfold Ci;refine(Sp.refl h).boxed (t:=267) λa k e=>?_;refine e.boxed (t:=267) λb g c=>?_;refine⟨_,(c.box 0 i4).cell (j:=1) i4,_,(c.box 1 i4).cell (j:=1) i4,_,(c.box 0 i4).cell0 i4,_,(c.box 1 i4).cell0 i4,?_⟩;refine(acE x.2 y.2 g x.2.isLt y.2.isLt).mono ?_;rintro v h3 ⟨rfl,rfl⟩;refine⟨_,i4,⟨(c.box 1 i4).cell0 i4,(c.box 0 i4).cell0 i4,trivial⟩,(acF _ _ h3).mono ?_⟩;rintro v l ⟨rfl,rfl⟩;refine⟨_,i4,trivial,?_⟩;refine c.lit af av agW i4 [nJ (x.2:Nat) (y.2:Nat),nJ x.1 y.1] i4 (show 2*1<=2^20 by decide) i4 λs f d=>⟨trivial,?_⟩
 refine(ahP s _ _ f (d.seq 2 i4 λ_=>rfl)).mono ?_;rintro v i ⟨rfl,rfl⟩;exact⟨_,i4,trivial,i4,d.ai⟩
theorem Yo{a b:Int}:nJ a b<0↔a<b:=by unfold nJ;split<;>(try split)<;>omega
theorem Rm{a b:Int}:nJ a b=0↔a=b:=by unfold nJ;split<;>(try split)<;>omega
theorem agX{x y:Fr}:ltOf Bg x y=eR↔((x.2:Nat):Int)<(y.2:Nat)∨(((x.2:Nat):Int)=(y.2:Nat)/\x.1<y.1):=by
 have h0:ltOf Bg x y=eR↔Bg x y<0:=by simp[ltOf]
 rw[h0,Bg,Yn];by_cases h:nJ (x.2:Nat) (y.2:Nat)=0
 ·rw[g9 sR,Yo];have:=Rm.1 h;constructor
  ·exactλa=>.inr ⟨this,a⟩
  ·rintro(a|a)
   ·omega
   ·exact a.2
 ·rw[g0 h,Yo];have b:((x.2:Nat):Int)≠(y.2:Nat):=λe=>h (Rm.2 e);constructor
  ·exact .inl
  ·rintro(a|a)
   ·exact a
   ·exact absurd a.1 b
theorem IU{x y:Fr}:ltOf Bg x y=eS↔¬(((x.2:Nat):Int)<(y.2:Nat)∨(((x.2:Nat):Int)=(y.2:Nat)/\x.1<y.1)):=by rw[<-agX];simp
theorem ajr:Sort.SWO (ltOf Bg) where
 irrefl x:=IU.2 i5
 trans x y z h1 h2:=by rw[agX]at*;omega
 ntrans x y z h1 h2:=by rw[IU]at*;omega
theorem ajs(x y:Fr)(a:ltOf Bg x y=eS)(b:ltOf Bg y x=eS):x=y:=by rw[IU]at a b;refine yQ i5 (Fin.ext i5)
theorem UX{e:TypeId}{s:Sl}{l:List Fr}{h:f9}(f:Own h e s 2 Bf l)(a:i1 l<2^40):
  ac xB 203 #[s,.func (.func 204) #[] #[]] h λv h'=>v=.tuple #[]/\Own h' e s 2 Bf (l.mergeSort λx y=>!(ltOf Bg) y x)/\bc (λb=>¬s.on b) h h':=by
 have j:∀x:Fr,i1 (Bf x)=2:=λ_=>rfl;refine RO (P:=xB) (id_:=203) (g:=204) (enc:=Bf) (k:=2) (cf:=Bg) j ?_ ?_ (λx y h=>UW x y h) f a
 ·intro fY cap l w d n i m;have:=AnyQ.slices_SortFunc_total Tryz.Yh 2 Tryz.aiS Tryz.ahF Bf (λ_=>rfl) (λx v c=>by simp[Bf]at c;rcases c with rfl|rfl<;>rfl) Bg ajr 204 #[] fY 0 cap l.toArray w (enters_of Tryz.ahG j3 i4) n5 n i o7 ajs;simp at this;exact this
 ·intro p cap w;exact AnyF.slices_SortFunc_none Tryz.Yh p cap _ w
def Ej(a:aD)(n:Int):aD:=if 0<=n/\n<64/\a.contains n=eS then a++[n]else a
def jw(l:aD):aD:=l.foldl Ej []
theorem IV(l:aD){k:Nat}(a:k<i1 l):jw (l.take (k+1))=Ej (jw (l.take k)) l[k]:=by rw[jw,aK _ _ a,zN];rfl
theorem UY(l:aD):∀k,k<=i1 l->∀x,x∈jw (l.take k)↔x∈l.take k/\0<=x/\x<64
 |0,_,x=>by simp[jw]
 |k+1,hk,x=>by
  have c:=UY l k i5;rw[IV l i5,aK _ _ (show k<i1 l by omega),Ej];by_cases h:0<=l[k]/\l[k]<64/\(jw (l.take k)).contains l[k]=eS
  ·rw[g0 h,qz,qz,qC,c x];constructor
   ·rintro(a|rfl)
    ·exact⟨.inl a.1,a.2⟩
    ·exact⟨.inr i4,h.1,h.2.1⟩
   ·rintro⟨a|a,b⟩
    ·exact .inl ⟨a,b⟩
    ·exact .inr a
  ·rw[g9 h,qz,qC,c x];constructor
   ·rintro a;exact⟨.inl a.1,a.2⟩
   ·rintro⟨a|rfl,b⟩
    ·exact⟨a,b⟩
    ·have:(jw (l.take k)).contains l[k]=eR:=by
      cases hc:(jw (l.take k)).contains l[k]with
      |true=>rfl
      |false=>exact absurd ⟨b.1,b.2,hc⟩ h
     exact(c _).1 (by simpa using this)
theorem UZ(l:aD)(k:Nat):i1 (jw (l.take k))<=k:=by
 induction k with
 |zero=>simp[jw]
 |succ k ih=>
  by_cases a:k<i1 l
  ·rw[IV l a,Ej];split
   ·simp;omega
   ·omega
  ·rw[qi i5]at ih⊢;omega
def Ft(c:Nat)(n:Int):Fr:=(n,Fin.ofNat 129 (IT n.toNat c).toNat)
theorem ajt{c:Nat}{n:Int}(a:c<64)(d:0<=n)(b:n<64):(((Ft c n).2:Nat):Int)=IT n.toNat c:=by have:=acD (i:=n.toNat) (j:=c) i5 a;show(((IT n.toNat c).toNat%129:Nat):Int)=_;omega
def Ek(c:Nat)(l:aD):aD:=(((jw l).map (Ft c)).mergeSort λx y=>!(ltOf Bg) y x).map (·.1)
def fw(a block:Int)(l:aD):aD:=if 0<=a/\a<=16777215/\0<=block/\block<8 then Ek ((8*a+block)%64).toNat l else[]
def ub(a:aD):bh:=(qA 64).map λi:Nat=>xv (a.contains (i:Int))
theorem ahQ(a:aD){n:Int}(c:0<=n)(b:n<64):(ub a)[n.toNat]?=dB (xv (a.contains n)):=by rw[ub,qU,zt i5,q7,show((n.toNat:Nat):Int)=n by omega]
theorem afn(a:aD){n:Int}(d:0<=n)(c:n<64):(ub a).set n.toNat (xv eR)=ub (a++[n]):=by
 apply zG;intro i;rw[q8,ub,ub,qU,qU,qy,zE];by_cases b:i<64
 ·rw[zt b,q7,q7];by_cases h:n.toNat=i
  ·rw[g0 h,g0 i5,show((i:Nat):Int)=n by omega];simp
  ·rw[g9 h];have:(a++[n]).contains (i:Int)=a.contains (i:Int):=by rw[List.contains_eq_mem,List.contains_eq_mem];simp;omega
   rw[this]
 ·rw[g9 i5,qS i9];rfl
abbrev eFr:bZ C.toDr 262 267 2 [xq xx 0,.float .f64 0] 16:=⟨_,_,i4,i4,i4,i4,i4,i4⟩
theorem aju:∀x,∀c∈Bf x,c.oneCell'=eR:=by intro x c a;simp[Bf]at a;rcases a with rfl|rfl<;>rfl
theorem KS(b block:Int)(live:Sl)(l:aD)(h:f9)(T:Rd h live 1 av l)(ad:i1 l<=2^30:=by omega):
  ac xB 141 #[xq xx b,xq xx block,live] h λv h'=>∃r:Sl,v=r/\Sp h h' [an 3 r 1 av (fw b block l)]:=by
 have Z:=T.len;refine Nq b block live ?_;unfold Gn;have H:¬(0<=b/\b<=16777215/\0<=block/\block<8)->∃r:Sl,Value.slice eH 0 0=xr r.ptr r.len r.cap/\Sp h h [an 3 r 1 av (fw b block l)]:=λL=>by
  rw[fw,g9 L];exact⟨⟨eH,0,0⟩,i4,(Sp.refl h).nil 3 1 av⟩
 refine bi (aj (λe=>H i5) λe1=>aj (λe=>H i5) λe2=>aj (λe=>H i5) λe3=>aj (λe=>H i5) λe4=>?_);have I:0<=b/\b<=16777215/\0<=block/\block<8:=i5
 rw[fw,g0 I];rw[ak (8*b),ak (8*b+block),yR i5];obtain⟨c,W⟩:∃c:Nat,(8*b+block)%64=c:=⟨((8*b+block)%64).toNat,i5⟩
 have j:c<64:=i5
 rw[W,ql];refine⟨i6,(Ym c h j).mono ?_⟩;rintro v h2 ⟨rfl,Y⟩;refine⟨((lG c).ax,(lG c).ay),i4,?_⟩;refine Y.alloc af i4 λa h3 H3=>?_;have R:Sp h h3 [au a 263 (ub []),an 267 ⟨eH,0,0⟩ 2 Bf []]:=H3.nil 267 2 Bf;refine aA (λt:Sl×Nat=>(t.1,(t.2:Int))) (λt h'=>t.2<=i1 l/\Sp h h' [au a 263 (ub (jw (l.take t.2))),an 267 t.1 2 Bf ((jw (l.take t.2)).map (Ft c))]) (λt=>i1 l-t.2) (⟨eH,0,0⟩,0) i4 ⟨jj,R⟩ ?_;rintro⟨s,k⟩ h4 ⟨hk,p⟩;dsimp only at*;have z:=UZ l k;refine aj (λe=>?_) (λe=>?_)
 ·have w:k<i1 l:=i5
  have F:=IV l w;obtain⟨f,B⟩:∃f,f=jw (l.take k):=⟨_,rfl⟩
  rw[<-B]at p z F;refine(Seq.up T p.ai).bG k i4 w _ i4 ?_;obtain⟨x,hx⟩:∃x,x=l[k]:=⟨_,rfl⟩
  rw[<-hx]at F⊢;refine bP (λt h'=>(t=eR↔0<=x/\x<64/\f.contains x=eS)/\h'=h4) ?_ ?_
  ·refine aj (λq=>aj (λm=>?_) λm=>⟨⟨λe=>j1,λE=>absurd E.2.1 m⟩,i4⟩) λq=>⟨⟨λe=>j1,λE=>absurd E.1 q⟩,i4⟩;refine⟨⟨q,m⟩,f.contains x,?_,?_,i4⟩
   ·rw[z7];exact(p.box 0 i4).cell (ahQ f q m)
   ·cases f.contains x<;>simp<;>omega
  ·rintro t h5 ⟨U,rfl⟩;refine bx (λe=>?_) (λe=>?_)
   ·obtain⟨q,m,x2⟩:=U.1 e;refine⟨⟨q,m⟩,?_⟩;rw[z7];refine p.storeAt af 0 i4 i4 i4 i4 i4 (by simp[ub];omega) λQ u=>?_;have M:Sp h Q [au a 263 (ub (f++[x])),an 267 s 2 Bf (f.map (Ft c))]:=by rw[<-afn f q m];exact u
    obtain⟨n,L⟩:∃n:Nat,x=n:=⟨x.toNat,i5⟩
    subst L;refine(Ym n Q i5).mono ?_;rintro v V ⟨rfl,R7⟩;refine⟨((lG n).ax,(lG n).ay),i4,(afm n c V i5 j).mono ?_⟩;rintro v h8 ⟨rfl,rfl⟩;have G:=M.up R7.ai;have ev:dh (IT n c)=dh (((Ft c (n:Int)).2:Nat):Int):=by rw[ajt j i5 i5,ql]
    refine⟨_,i4,?_⟩;rw[ev];refine G.push af 1 i4 eFr i4 i6 (λ_=>rfl) aju (Ft c (n:Int)) i4 i6 i9 λs' h9 S=>?_;refine⟨(s',k+1),js,⟨i7,?_⟩,i7⟩;dsimp only;rw[F,Ej,g0 ⟨q,m,x2⟩,qW];exact S
   ·refine⟨(s,k+1),js,⟨i7,?_⟩,i7⟩;dsimp only;rw[F,Ej,g9 λE=>by rw[U.2 E]at e;cases e];exact p
 have N:k=i1 l:=i5
 subst N;rw[q9]at p z;refine(UX (p.own 1 i4) i9).mono ?_;rintro v h5 ⟨rfl,O,K⟩;have P:=p.nR 1 i4 K O;obtain⟨d,g⟩:∃d,d=((jw l).map (Ft c)).mergeSort λx y=>!(ltOf Bg) y x:=⟨_,rfl⟩
 have ah:i1 d=i1 (jw l):=by rw[g,wW,qy]
 have eo:Ek c l=d.map (·.1):=by rw[Ek,<-g]
 rw[<-g]at P;have ab:=(P.own 1 i4).len;rw[eo];refine⟨(),i4,?_⟩;refine aA (λt:Sl×Nat=>(t.1,(t.2:Int))) (λt h'=>t.2<=i1 d/\Sp h h' [an 267 s 2 Bf d,an 3 t.1 1 av ((d.take t.2).map (·.1))]) (λt=>i1 d-t.2) (⟨eH,0,0⟩,0) i4 ⟨jj,(P.del 0).nil 3 1 av⟩ ?_;rintro⟨o,i⟩ Q ⟨J,u⟩;dsimp only at*;refine aj (λe=>?_) (λe=>?_)
 ·have D:i<i1 d:=i5
  refine(u.seq 0 i4 λ_=>rfl).eC i i4 D (d[i].1,dh ((d[i].2:Nat):Int)) i4 ?_;refine u.alloc af i4 λy V X=>?_;refine X.storeAll af 2 i4 i4 [xq xx d[i].1,.float .f64 (dh ((d[i].2:Nat):Int))] i4 i4 i4 i4 λh8 G=>?_;refine⟨d[i].1,(G.box 2 i4).cell0 i4,?_⟩;refine G.push af 1 i4 agW i4 i6 (λ_=>rfl) fD d[i].1 i4 i6 i9 λo' h9 S=>?_;refine⟨(o',i+1),js,⟨i7,?_⟩,i7⟩;dsimp only;rw[aK _ _ D,qW];exact S.del 2
 ·rw[qi i5]at u;exact⟨o,i4,u.take 1 λi A J=>by cases i with|zero=>exact J|succ i=>simp at J⟩
theorem afo(l:aD)(x:Int):x∈jw l↔x∈l/\0<=x/\x<64:=by
 have:=UY l l.length (qm _) x
 rwa [q9]at this
theorem Oe(c:Nat)(l:aD):(Ek c l).Perm (jw l):=by have h:=(wT ((jw l).map (Ft c)) λx y=>!(ltOf Bg) y x).map (·.1);rw[w6]at h;have e:((λx:Fr=>x.1)∘Ft c)=id:=rfl;rw[e,List.map_id]at h;exact h
theorem Rn(c:Nat)(l:aD)(x:Int):x∈Ek c l↔x∈l/\0<=x/\x<64:=by rw[(Oe c l).mem_iff,afo]
def SM(l:aD)(i:Nat):Int:=l.getD i 0
def gj(o:aD)(id:Int):Int:=if o=[]∨id<0 then-1 else SM o (id%(i1 o:Int)).toNat
theorem Yp(s:Sl)(o:aD)(id:Int)(h:f9)(g:Rd h s 1 av o):ac xB 143 #[s,xq xx id] h λv h'=>v=xq xx (gj o id)/\h'=h:=by
 have f:=g.len;refine Un s id ?_;unfold Nr;refine bi (ck (λe=>⟨by rw[gj,g0 (.inl (za i5))],i4⟩) λe=>aj (λd=>⟨by rw[gj,g0 (.inr d)],i4⟩) λd=>?_);refine⟨e,?_⟩;have b:¬(o=[]∨id<0):=by
  rintro(rfl|h2)
  ·simp at f;omega
  ·exact d h2
 have c:wk id ((s.len:Nat):Int)=((id%(i1 o:Int)).toNat:Int):=by rw[yR i5,f];have:=w5 id (show(i1 o:Int)≠0 by omega);omega
 have a:(id%(i1 o:Int)).toNat<i1 o:=by have:=wq id (show(0:Int)<i1 o by omega);omega
 rw[c];refine g.bG _ i4 a _ i4 ⟨?_,i4⟩;rw[gj,g9 b,SM,qe,qd a];rfl
def uR(p:Pm)(seed:Int)(d:Row)(id:Int):bf:=if bX id then fW p.2.2.toNat (dq p seed d) (dv (bJ p).toNat seed id)else[]
def oy(m:aG)(o b seed:Int)(d:Row)(id:Int):dj:=⟨o,b,id,m.p,seed,uR m.p seed d id⟩
def Of(m:aG)(o b seed:Int)(d:Row)(order:aD)(id:Int):Int×bf:=(gj order id,dE (oy m o b seed d id))
def nK(m:aG)(o:Int)(tries:aD)(a:cJ)(live:aD)(i:Nat):List (Int×bf):=
 (qA (m.p.1+m.extra).toNat).map λid:Nat=>Of m o i (cI o i (tries.getD i 0)) (a.getD i []) (fw o i live) id
def dU(m:aG)(o:Int)(tries:aD)(a:cJ)(live:aD)(n:Nat):List (Int×bf):=(qA n).flatMap (nK m o tries a live)
theorem uS(m:aG)(o:Int)(tries:aD)(a:cJ)(live:aD)(n:Nat):dU m o tries a live (n+1)=dU m o tries a live n++nK m o tries a live n:=by unfold dU;rw[zV,zg,zk,z6,qN]
theorem Og(m:aG)(o:Int)(tries:aD)(a:cJ)(live:aD)(i:Nat):i1 (nK m o tries a live i)=(m.p.1+m.extra).toNat:=by simp[nK]
theorem Bh(m:aG)(o:Int)(tries:aD)(a:cJ)(live:aD):∀n,i1 (dU m o tries a live n)=n*(m.p.1+m.extra).toNat
 |0=>by simp[dU]
 |n+1=>by rw[uS,qx,Bh m o tries a live n,Og,zT]
theorem oQ(o b t:Int):0<=cI o b t/\cI o b t<4294967296:=by unfold cI;omega
section
variable {B:aC} {h0 h:f9} {As:List HP} {a pw:f7} {offs:Int} {da:List aM} {w:Pow} {ds:aJ}
theorem Sv(x:bV)(m:aG)(xe:dT)(e:Wl.cw)(s:Sl)(b:bf)(hS:St B h0 As λh=>dn h x m/\dV jD h xe e/\Rd h s 1 aF b)(cq:s.len<=s.cap)(hz:cR m)(R:bO m.p=eR)(dy:0<=m.extra/\m.extra<=16)(c9:b.length<=2^20)
  (ht:dg m.p e.object (splitB m.p b).length=dB e.tries) (H:aa B h0 h (bp bz a pw (aY x) offs da w ds::As)):
  ac xB 83 #[xt (dB a),UP xe,s] h λv h'=>∃(r:Sl) (ys:List (Int×Sl)),v=.tuple #[r,xv eR]/\
   aa B h0 h' (bp bz a pw (aY x) offs da w ds::cN jL 2 piv r ys (dU m e.object e.tries (splitB m.p b) (aN ds m.drives) (splitB m.p b).length)::As):=by
 refine Bw (dB a) xe s ?_;unfold pI;refine H.boxed λI h1 U=>?_;have U:=U.bB;have U:aa B h0 h1 (bp bz a pw (aY x) offs da w ds::au I 94 (bH xe)::As):=U.aX 2 [1,0];refine(gd x m (hS.at [_,_] U).1 hz U).mono ?_;rintro _ h2 ⟨lv,rfl,R2⟩;have H2:=(U.cm R2).aX 3 [1,0,2];obtain⟨ok,ar⟩:=aa.cY H2;obtain⟨b2,d1,cf⟩:=hS.at [_,_,_] H2;have W:(x.2.2.1,x.2.2.2.1,x.2.2.2.2.1)=m.p:=b2.p;have d3:=(co m.p).1 R;obtain⟨s1,s2,s3⟩:=sa R;obtain⟨c1,c2,c3⟩:=mO R b.length;have bb:(aN ds m.drives).length<=m.drives.length:=qQ _ _;have c4:=hz.dr;obtain⟨live,Z⟩:∃live,live=aN ds m.drives:=⟨_,rfl⟩
 rw[<-Z]at H2 bb⊢;obtain⟨c,G⟩:∃c,c=splitB m.p b:=⟨_,rfl⟩
 have b5:c.length<=2^20:=by rw[G];unfold splitB;simp;omega
 have ad:∀r∈c,r.length=gx m.p:=by rw[G];intro r hr;unfold splitB at hr;obtain⟨i,_,rfl⟩:=qu.1 hr;exact Rf _ _ _
 refine⟨lv,i4,a,i4,(x.2.2.1,x.2.2.2.1,x.2.2.2.2.1),⟨by rw[addr_add];exact ar.cell i4,by rw[addr_add];exact ar.cell i4,by rw[addr_add];exact ar.cell i4,trivial⟩,?_⟩;rw[W];refine(WP m.p s b h2 R cf cq i5).mono ?_;rintro _ h3 ⟨q,rfl,R3⟩;rw[<-G]at R3 ht⊢;obtain⟨rs,H3⟩:=Go.Qw.aa.agU (H2.cm R3) λ_=>rfl;have H3:=(H3.Hl 141 2 piv jL).bB;have H3:aa B h0 h3 (bp bz a pw (aY x) offs da w ds::ce 141 ⟨eH,0,0⟩ 2 piv jL (dU m e.object e.tries c live 0)::cN (oZ 1 aF) 1 bv q rs c::an 3 lv 1 av live::au I 94 (bH xe)::As):=H3.aX 5 [2,0,1,3,4];have d2:=(H3.eU 2 i4).1.len;have dx:=(H3.eU 2 i4).2.1;have c7:=kZ ht;refine⟨q,i4,?_⟩;obtain⟨j,E⟩:∃j:Nat,j=(m.p.1+m.extra).toNat:=⟨_,rfl⟩
 have N:j<=32:=i5
 refine aA (λt:Sl×Nat=>(t.1,(t.2:Int))) (λt h'=>t.2<=c.length/\aa B h0 h' (bp bz a pw (aY x) offs da w ds::ce 141 t.1 2 piv jL (dU m e.object e.tries c live t.2)::cN (oZ 1 aF) 1 bv q rs c::an 3 lv 1 av live::au I 94 (bH xe)::As)) (λt=>c.length-t.2) (⟨eH,0,0⟩,0) i4 ⟨jj,H3⟩ ?_;rintro⟨o,i⟩ h4 ⟨hi,H4⟩;dsimp only at*;refine aj (λe1=>?_) (λe1=>?_)
 ·have ap:i<c.length:=i5
  have F4:=H4.eU 2 i4;have X:=H4.box 4 i4;obtain⟨br,a6,dk⟩:=hS.at [_,_,_,_,_] H4;obtain⟨_,a9⟩:=aa.cY H4;obtain⟨t,a4,b9⟩:=Cn ht i i5;have b1:e.tries.getD i 0=(t:Int):=by rw[qe,qd i5];exact a4
  have b0:c.getD i []=c[i]:=by rw[qe,qd ap];rfl
  have L:∀{h':f9},cx h' I 94 (bH xe)->cellOf h' (I.add 1)=dB (xq xx e.object):=λ{h'} hb=>by rw[<-a6.1.2.1];exact hb.cell i4
  have cp:∀{h':f9},cx h' a 91 (cQ (aY x) pw offs da)->aq h' (a.add 2) 0 [xq xx m.p.1,xq xx m.p.2.1,xq xx m.p.2.2]:=λ{h'} hb=>by
   rw[<-W];exact⟨lb,lb,lb,trivial⟩
  have a0:=Fix.row F4 ap;refine F4.1.bG i i4 i5 (rs[i]'(by omega)) i4 ?_;refine⟨e.object,L X,xe.2.2.2,X.cell i4,?_⟩;refine Seq.bG (f:=av) a6.2 i i4 i5 (t:Int) (by rw[a4];rfl) ?_;refine(rX _ _ _ h4).mono ?_;rintro _ _ ⟨rfl,rfl⟩;refine⟨_,i4,⟨X.cell i4,trivial⟩,a,i4,m.p,cp a9,?_⟩;obtain⟨seed,k⟩:∃seed,seed=cI e.object i t:=⟨_,rfl⟩
  have hg:=(IL b9).2.1;have am:gC m.p seed (fV m.p)=eR:=by rw[k];exact hg
  obtain⟨K,Hh,w',n,BK⟩:=Zg (seed:=seed) (d:=c[i]) R am (by rw[ad _ (qg ap),s3]);rw[<-k];refine(ajq BK (rs[i]'(by omega)) _ a0.1 a0.2).mono ?_;rintro _ h6 ⟨bk,mm,rfl,R6⟩;have H6:=(H4.comp R6).front;have H6:aa B h0 h6 (bp bz a pw (aY x) offs da w ds::ce 141 o 2 piv jL (dU m e.object e.tries c live i)::cN (oZ 1 aF) 1 bv q rs c::an 3 lv 1 av live::au I 94 (bH xe)::fR 71 mm 1 aF (dq m.p seed c[i])::au bk 259 (Dg m.p seed mm)::As):=H6.aX 7 [2,3,4,5,6,0,1];refine⟨(dB bk,0),i4,bY (λe2=>absurd i4 e2) λ_=>?_⟩;have b6:=H6.box 4 i4;refine⟨e.object,L b6,(KS e.object i lv live h6 (H6.seq 3 i4 λ_=>rfl)).mono ?_⟩;rintro _ h7 ⟨J,rfl,R7⟩;have H7:=(H6.cm R7).aX 8 [1,2,3,4,5,6,7,0];obtain⟨order,l⟩:∃order,order=fw e.object i live:=⟨_,rfl⟩
  rw[<-l]at H7;have a2:=(aa.cY H7).2;have bq:x.2.2.1=m.p.1:=congrArg (·.1) W;refine⟨J,i4,a,i4,x.2.2.1,a2.cell i4,a,i4,x.2.2.2.2.2.1,a2.cell i4,?_⟩;have en:qc xx (x.2.2.1+x.2.2.2.2.2.1)=(j:Int):=by rw[bq,br.extra,ak _];omega
  dsimp only;rw[en];have S:nK m e.object e.tries c live i=(qA j).map λid:Nat=>Of m e.object i seed c[i] order id:=by unfold nK;rw[b1,b0,<-k,<-l,<-E]
  have cn:(nK m e.object e.tries c live i).length=j:=by rw[Og,<-E]
  obtain⟨A,F⟩:∃A,A=dU m e.object e.tries c live i:=⟨_,rfl⟩
  have c6:A.length<=2^26:=by rw[F,Bh,<-E];have:=wv (show i<=2^20 by omega) N;omega
  obtain⟨Q,hQ⟩:∃Q,Q=nK m e.object e.tries c live i:=⟨_,rfl⟩
  rw[<-hQ]at S cn;rw[<-F]at H7;refine aA (λt:Sl×Nat=>(t.1,(t.2:Int))) (λt h'=>t.2<=j/\aa B h0 h' (bp bz a pw (aY x) offs da w ds::ce 141 t.1 2 piv jL (A++Q.take t.2)::cN (oZ 1 aF) 1 bv q rs c::an 3 lv 1 av live::au I 94 (bH xe)::fR 71 mm 1 aF (dq m.p seed c[i])::au bk 259 (Dg m.p seed mm)::an 3 J 1 av order::As)) (λt=>j-t.2) (o,0) i4 ⟨jj,by simpa using H7⟩ ?_;rintro⟨o2,id⟩ h8 ⟨hid,O⟩;dsimp only at*;refine aj (λe3=>?_) λe3=>?_
  ·have cs:id<j:=i5
   have ah:=O.box 4 i4;have ao:=(aa.cY O).2;have y:Be h8 bk m.p seed (dq m.p seed c[i]):=⟨mm,O.box 6 i4,O.Hj 5 i4⟩
   have P:uR m.p seed c[i] id=if bX id then fW w' (dq m.p seed c[i]) (dv n seed id)else[]:=by unfold uR;rw[BK.rx,show m.p.2.2.toNat=w' by have:=BK.s;omega]
   have held:∀{h':f9},bc (λb=>b<h8.size) h8 h'->az.ok [((a.add 2),xq xx m.p.1),((a.add 2).add 1,xq xx m.p.2.1),((a.add 2).add 2,xq xx m.p.2.2),(I.add 1,xq xx e.object)] h':=λ{h'} R=>by
    obtain⟨q1,q2,q3,_⟩:=cp (ao.ai R ao.lt);exact⟨q1,q2,q3,L (ah.ai R ah.lt),trivial⟩
   refine bP (λ(a5:f7) h'=>∃r:Sl,aa B h0 h' (au a5 164 (bT (e.object,(i:Int),(id:Int),m.p.1,m.p.2.1,m.p.2.2,seed,r))::an 5 r 1 aF (uR m.p seed c[i] id)::bp bz a pw (aY x) offs da w ds::ce 141 o2 2 piv jL (A++Q.take id)::cN (oZ 1 aF) 1 bv q rs c::an 3 lv 1 av live::au I 94 (bH xe)::fR 71 mm 1 aF (dq m.p seed c[i])::au bk 259 (Dg m.p seed mm)::an 3 J 1 av order::As)) ?_ ?_
   ·refine⟨e.object,L ah,a,i4,m.p,cp ao,?_,?_⟩
    ·refine(BK.symbol bk id h8 y).mono ?_;rintro _ h9 ⟨r,rfl,R9⟩;rw[<-P]at R9;have H9:=O.cm R9;refine⟨r,i4,held R9.ai,H9.Hn af i4 λa28 c5 bd ay=>⟨held (aa.up R9 bd).ai,?_⟩⟩;have ay:=ay.bB;refine ay.storeAll af 0 i4 i4 (bT (e.object,(i:Int),(id:Int),m.p.1,m.p.2.1,m.p.2.2,seed,r)) i4 i4 i4 i4 λdd cd=>⟨trivial,r,cd⟩
    ·refine O.Hn af i4 λdp cc Y ab=>⟨held Y,?_⟩
     have ab:=ab.bB;refine(BK.symbol bk id cc (y.up Y)).mono ?_;rintro _ d0 ⟨r,rfl,V⟩;rw[<-P]at V;have cl:=(ab.cm V).aX 2 [1,0];refine⟨r,i4,held (aa.up (Sp.zip Y) V.ai).ai,?_⟩;refine cl.storeAll af 0 i4 i4 (bT (e.object,(i:Int),(id:Int),m.p.1,m.p.2.1,m.p.2.2,seed,r)) i4 i4 i4 i4 λc8 b3=>⟨trivial,r,b3⟩
   ·rintro a5 a8 ⟨r,M⟩;have g:=M.box 0 i4;have ax:=oQ e.object i t;rw[<-k]at ax;refine⟨(e.object,(i:Int),(id:Int),m.p.1,m.p.2.1,m.p.2.2,seed,r),g.aV _ i4,(Yp J order id a8 (M.seq 9 i4 λ_=>rfl)).mono ?_⟩;rintro _ b7 ⟨rfl,rfl⟩;refine⟨_,i4,⟨g.cell0 i4,g.cell i4,g.cell i4,g.cell i4,g.cell i4,g.cell i4,g.cell i4,g.cell i4,trivial⟩,?_⟩;refine(tZ (e.object,(i:Int),(id:Int),m.p.1,m.p.2.1,m.p.2.2,seed,r) (oy m e.object i seed c[i] id) b7 ⟨⟨i4,i4,i4,i4,i4,ax.1,ax.2⟩,M.seq 1 i4 λ_=>rfl⟩).mono ?_;rintro _ du ⟨u,rfl,b4⟩;have a3:=(M.cm b4).fZ 0 i4 (D:=EA jL (gj order id,u) (Of m e.object i seed c[i] order id)) λz hz=>⟨i4,hz.1.seq (λ_=>rfl) hz.2⟩
    have a7:Q[id]'(by omega)=Of m e.object i seed c[i] order id:=by simp[S]
    refine⟨u,i4,trivial,?_⟩;refine a3.px af piv UD i4 [(gj order id,u)] i4 (show 1*2<=2^20 by decide) i4 trivial ?_;refine aa.tO af a3 4 0 i6 (a:=(gj order id,u)) i4 i4 UD i4 i6 (λ_=>rfl) PR (parts:=#[(0,xw #[xq xx (gj order id),u])]) j3 i6 i9 λo3 c0 cr=>⟨trivial,?_⟩
    refine⟨(o3,id+1),js,⟨i7,?_⟩,i7⟩;dsimp only;rw[aK Q id,a7,<-qp];exact cr.rest.rest.rest
  ·have T:id=j:=i5
   subst T;rw[qi i5]at O;refine⟨(o2,i+1),js,⟨i7,?_⟩,i7⟩;dsimp only;rw[uS,<-F,<-hQ];exact O.aX 8 [0,1,2,3,4]
 ·have T:i=c.length:=i5
  subst T;obtain⟨ys,H5⟩:=H4.OZ 1 rfl λ_=>rfl;exact⟨o,ys,i4,H5.aX 5 [0,1]⟩
end
end Go.Qw
namespace Wl
open Go
def lh(a:Nat)(l:List (Int×bf))(k:Int):Int:=(a:Int)+i1 (l.filter λy=>decide (y.1=k))
end Wl
namespace Go.Qw
open Go Go.Vc Go.Proofs Wl
theorem acG(k:Int)(d c:f7)(a:Nat)(r:Sl)(o:List (Int×Sl))(l:List (Int×bf))(h:f9)(z:a<=2^30)(H:i1 l<=2^30)(q:cx h d 3 [xq xx a])(p:cx h c 131 [r])(s:oD jL 2 piv h r o l):
  ac xB 85 #[xq xx k,xt (dB d),xt (dB c)] h λv h'=>v=xq xx (lh a l k)/\Sp h h' []:=by
 refine DE k d c ?_;unfold sG;have x:=s.1.len;have A:=s.2.1;refine⟨(a:Int),q.cell0 i4,r,p.cell0 i4,?_⟩;refine aA (λi:Nat=>(lh a (l.take i) k,(i:Int))) (λi h'=>i<=i1 l/\Sp h h' []) (λi=>i1 l-i) 0 (by simp[lh]) ⟨i5,Sp.refl h⟩ ?_;rintro i F ⟨E,t⟩;dsimp only;have w:(i1 ((l.take i).filter λy=>decide (y.1=k)):Int)<=i:=by have:=qQ (λy:Int×bf=>decide (y.1=k)) (l.take i);simp at this;omega
 refine aj (λe=>?_) λe=>?_
 ·have j:i<i1 l:=i5
  have n:=oD.up s t.ai;refine n.1.eC (g:=piv) i i4 i5 (o[i]'(by omega)) i4 ?_;refine t.alloc af i4 λD G B=>?_;refine B.storeAll af 0 i4 i4 (piv (o[i]'(by omega))) i4 i4 i4 i4 λh3 m=>?_;have m:Sp h h3 [au D 141 (piv (o[i]'(by omega)))]:=m;have f:=Fix.row n j;have b:lh a (l.take (i+1)) k=lh a (l.take i) k+(if l[i].1=k then 1 else 0):=by
   unfold lh;rw[aK _ _ j,zl,qx,zp,vh];split
   ·rename_i u;rw[g0 (i0 u)];simp;omega
   ·rename_i u;rw[g9 o8];simp
  refine⟨l[i].1,by rw[<-f.1];exact(m.box 0 i4).cell0 i4,ck (λg=>?_) λg=>?_⟩
  ·refine⟨i+1,?_,⟨i5,.zip m.ai⟩,i5⟩;rw[b,g0 g,ak (lh a (l.take i) k+1) (by unfold lh;omega) (by unfold lh;omega),ak _];rfl
  ·refine⟨i+1,?_,⟨i5,.zip m.ai⟩,i5⟩;rw[b,g9 g,Int.add_zero,ak _];rfl
 ·rw[qi i5];exact⟨i4,t⟩
def iK(m:aG)(offs:Int)(w:Pow)(ds:aJ)(name:ByteArray)(b:bf):Int×aG×Pow×aJ:=
 if eO m (dO w offs) ds name b.length≠0 then(eO m (dO w offs) ds name b.length,m,w,ds)else
 match dg m.p m.next (splitB m.p b).length with
 |none=>(8,m,w,ds)
 |some t=>
  let live:=aN ds m.drives;let l:=dU m m.next t (splitB m.p b) live (splitB m.p b).length;let n:=iM m ⟨name,m.next,i1 b,t⟩;let N:=lh (bu n).length l
  if dP m ds live N=eS then(7,m,w,ds)else
  if(makes m N live w ds).1≠0 then((makes m N live w ds).1,m,(makes m N live w ds).2)else
  let a:=layAll l (makes m N live w ds).2.1 (makes m N live w ds).2.2
  if a.1≠0 then(a.1,m,a.2)else
  ((layAll (bM n live) a.2.1 a.2.2).1,if(layAll (bM n live) a.2.1 a.2.2).1=0 then n else m,(layAll (bM n live) a.2.1 a.2.2).2)
theorem sg{m:aG}{d:Bool}{ds:aJ}{name:ByteArray}{n:Nat}(h:eO m d ds name n=0):
  d=eS/\ne name=eR/\m.aH.any (mP name)=eS/\¬(m.p.1*m.p.2.2*8<(n:Int)∨12<=i1 m.aH)/\¬(aN ds m.drives=[]∨16777215<m.next∨2147483647<=m.seq):=by
 unfold eO at h;split at h
 ·cases h
 ·rename_i e;split at h
  ·cases h
  ·rename_i b;split at h
   ·cases h
   ·rename_i h3;split at h
    ·cases h
    ·rename_i c;split at h
     ·cases h
     ·rename_i a;exact⟨l6,k7,by simpa using h3,c,a⟩
theorem PY{m:aG}{b:bf}(a:bO m.p=eR)(h:¬m.p.1*m.p.2.2*8<(i1 b:Int)):i1 (splitB m.p b)<=8:=by obtain⟨f,e,c⟩:=sa a;obtain⟨g,d,c3⟩:=mO a b.length;unfold splitB;rw[qy,zE];refine Nat.le_of_not_lt λh8=>?_;have:=c3 8 i5;rw[<-c]at h;omega
theorem ajv{o:aD}(b:o≠[])(id:Nat):gj o id∈o:=by
 unfold gj SM;rw[g9 (by rintro(h|h);exact b h;omega)];have c:0<i1 o:=by cases o with|nil=>exact absurd rfl b|cons=>simp
 have a:((id:Int)%(i1 o:Int)).toNat<i1 o:=by have:=wq (id:Int) (show(0:Int)<i1 o by omega);have:=w5 (id:Int) (show(i1 o:Int)≠0 by omega);omega
 rw[qe,qd a];exact qg a
theorem Va{m:aG}{o:Int}{tries:aD}{j:cJ}{live:aD}(r:0<=o/\o<=16777215)(q:live≠[])(e:∀k∈live,0<=k/\k<64){n:Nat}(s:n<=8){y:Int×bf}(d:y∈dU m o tries j live n):y.1∈live/\y.2.length<=64:=by
 unfold dU at d;obtain⟨i,g,d⟩:=zU.1 d;have g:=qG.1 g;unfold nK at d;obtain⟨id,_,rfl⟩:=qu.1 d;refine⟨?_,?_⟩
 ·show gj _ _∈live;have c:fw o i live=Ek ((8*o+i)%64).toNat live:=by unfold fw;rw[g0 i5]
  have b:∀a,a∈fw o i live↔a∈live/\0<=a/\a<64:=λa=>by rw[c];exact Rn _ _ _
  have f:fw o i live≠[]:=λh=>by
   cases live with
   |nil=>exact q i4
   |cons a l=>
    have:=(b a).2 ⟨qO,e a qO⟩;rw[h]at this;cases this
  exact((b _).1 (ajv f id)).1
 ·show(dE _).length<=64;unfold dE;split
  ·rename_i p;refine xh (mU i6 i6 ?_);have:=pA p;omega
  ·simp
theorem ahR{m:aG}{e:Wl.cw}(b:cR m)(g:m.aH.length<=11)(c:e.name.size<=2^30)(d:e.tries.length<=2^30):cR (iM m e):=by
 refine⟨b.dr,?_,λf a=>?_⟩
 ·show((m.aH++[e]).mergeSort xG).length<=2^30;rw[wW];simp;omega
 ·have a:f∈(m.aH++[e]).mergeSort xG:=a;rcases qz.1 ((wT _ _).mem_iff.1 a)with h|h
  ·exact b.nm f h
  ·rw[qC.1 h];exact⟨c,d⟩
section
variable {B:aC} {h0 h:f9} {As:List HP} {a pw:f7} {offs:Int} {da:List aM} {w:Pow} {ds:aJ}
theorem afp(x:bV)(m:aG)(name:ByteArray)(s:Sl)(b:bf)(hS:St B h0 As λh=>Rd h s 1 aF b)(du:s.len<=s.cap)(hn:name.size<=2^40)(V:cR m)(hp:bO m.p=eR)(dd:0<=m.extra/\m.extra<=16)(b3:∀k∈m.drives,0<=k/\k<64)(dp:m.drives.length<=64)(b7:0<=m.seq)(a7:0<=m.next)(c6:b.length<=2^20)
  (H:aa B h0 h (bp bz a pw (aY x) offs da w ds::ct x m::As)):
  ac xB 35 #[xt (dB a),xu name,s] h λv h'=>v=xq xx (iK m offs w ds name b).1/\
   ∃y,aa B h0 h' (bp bz a pw (aY y) offs da (iK m offs w ds name b).2.2.1 (iK m offs w ds name b).2.2.2::ct y (iK m offs w ds name b).2.1::As):=by
 refine GL (dB a) name s ?_;unfold uY;have a0:=(hS.at [_,_] H).len;refine(UR x m name s b.length a0 hn (H.at 1 i4) V hp H).mono ?_;rintro _ h1 ⟨rfl,R1⟩;have H1:=H.up R1.ai;refine⟨_,i4,bY (λe=>?_) λe1=>?_⟩
 ·have ep:iK m offs w ds name b=(eO m (dO w offs) ds name b.length,m,w,ds):=by unfold iK;rw[g0 e]
  rw[ep];exact⟨i4,x,H1⟩
 obtain⟨z1,z2,z3,z4,z5⟩:=sg e1;have cf:¬m.p.1*m.p.2.2*8<(b.length:Int):=λh=>z4 (.inl h);have bk:m.aH.length<=11:=by have:¬12<=m.aH.length:=λh=>z4 (.inr h);omega
 have b2:aN ds m.drives≠[]:=λh=>z5 (.inl h);have dr:m.next<=16777215:=by have:¬16777215<m.next:=λh=>z5 (.inr (.inl h));omega
 have ej:m.seq<=2147483646:=by have:¬2147483647<=m.seq:=λh=>z5 (.inr (.inr h));omega
 have h8:=PY hp cf;have er:name.size<=12:=by unfold ne at z2;simp at z2;omega
 have c4:=(aa.cY H1).2;have a9:dn h1 x m:=H1.at 1 i4;refine⟨a,i4,x.2.1,c4.cell i4,H1.alloc af i4 λa4 h2 H2=>?_⟩;have H2:=H2.bB;refine H2.storeAll af 0 i4 i4 (bH (name,x.2.1,(s.len:Int),⟨eH,0,0⟩)) i4 i4 i4 i4 λh3 H3=>?_;have H3:aa B h0 h3 (au a4 94 (bH (name,m.next,(b.length:Int),⟨eH,0,0⟩))::bp bz a pw (aY x) offs da w ds::ct x m::As):=by rw[<-a9.next,<-a0];exact H3
 have cp:∀{h':f9},cx h' a 91 (cQ (aY x) pw offs da)->aq h' (a.add 2) 0 [xq xx m.p.1,xq xx m.p.2.1,xq xx m.p.2.2]:=λ{h'} hb=>by
  rw[<-a9.p];exact⟨lb,lb,lb,trivial⟩
 obtain⟨O,K⟩:∃O,O=(splitB m.p b).length:=⟨_,rfl⟩
 have bl:countP m.p (s.len:Nat)=(O:Int):=by have:=(mO hp b.length).1;rw[K,a0];unfold splitB;rw[qy,zE];omega
 refine bP (λ(t:Sl×Bool) h'=>(dg m.p m.next O=eH->t.2=eS/\aa B h0 h' (bp bz a pw (aY x) offs da w ds::ct x m::As))/\(∀l,dg m.p m.next O=dB l->t.2=eR/\aa B h0 h' (an 3 t.1 1 av l::au a4 94 (bH (name,m.next,(b.length:Int),⟨eH,0,0⟩))::bp bz a pw (aY x) offs da w ds::ct x m::As))) ?_ ?_
 ·have cc:=H3.box 0 i4;have Z:=(aa.cY (H3.aX 3 [1,0,2])).2;refine⟨a,i4,m.p,cp Z,m.next,cc.cell i4,a,i4,m.p,cp Z,(Fk m.p s.len h3).mono ?_⟩;rintro _ h4 ⟨rfl,R4⟩;have H4:=H3.up R4.ai;have b4:=Z.ai R4.ai Z.lt;obtain⟨q1,q2,q3,_⟩:=cp b4;refine⟨_,i4,⟨(H4.box 0 i4).cell i4,q1,q2,q3,trivial⟩,?_⟩;rw[bl];refine(ZE m.p m.next O h4 i5).mono ?_;rintro _ h5 ⟨T0,T1⟩;cases ht:dg m.p m.next O with
  |none=>
   obtain⟨rfl,R5⟩:=T0 ht;exact⟨(⟨eH,0,0⟩,eS),i4,trivial,λ_=>⟨i4,(H4.up R5.ai).aX 3 [1,2]⟩,λl h=>j9⟩
  |some l=>
   obtain⟨r,rfl,R5⟩:=T1 l ht;exact⟨(r,eR),i4,trivial,λh=>j9,λl' h=>(by injection h with h;subst h;exact⟨i4,H4.cm R5⟩)⟩
 rintro⟨j,tb⟩ h6 ⟨T0,T1⟩;dsimp only at T0 T1⊢;cases ht:dg m.p m.next O with
 |none=>
  obtain⟨rfl,H6⟩:=T0 ht;have ep:iK m offs w ds name b=(8,m,w,ds):=by unfold iK;rw[g9 m4,<-K,ht]
  rw[ep];exact bo (λ_=>⟨i4,x,H6⟩) λe=>j1
 |some t=>
  obtain⟨rfl,H6⟩:=T1 t ht;refine bo (λe=>j1) λ_=>?_;have d7:=kZ ht;refine H6.store af 1 i4 i4 3 [j] i4 i4 i4 jj λh7 H7=>?_;obtain⟨e,he⟩:∃e:Wl.cw,e=⟨name,m.next,b.length,t⟩:=⟨_,rfl⟩
  have H7:aa B h0 h7 (an 3 j 1 av e.tries::au a4 94 (bH (name,m.next,(b.length:Int),j))::bp bz a pw (aY x) offs da w ds::ct x m::As):=by rw[he];exact H7
  have H7:=H7.aX 4 [2,3,0,1];have c0:St B h0 (ct x m::an 3 j 1 av e.tries::au a4 94 (bH (name,m.next,(b.length:Int),j))::As) λh=>dn h x m/\dV jD h (name,m.next,(b.length:Int),j) e/\Rd h s 1 aF b:=λBs h' i=>
   ⟨(St.eE 0 i4 λ_ o=>o) Bs h' i,(St.eE (A:=an 3 j 1 av e.tries) (Q:=λh=>dV jD h (name,m.next,(b.length:Int),j) e) 1 i4 λh' o=>⟨by rw[he];exact⟨i4,i4,i4⟩,o.1.seq (λ_=>rfl) o.2⟩) Bs h' i,(hS.cons.cons.cons) Bs h' i⟩
  refine⟨(name,m.next,(b.length:Int),j),(H7.box 3 i4).aV _ i4,?_⟩;refine(Sv x m (name,m.next,(b.length:Int),j) e s b c0 du V hp dd c6 (by rw[he,<-K];exact ht) H7).mono ?_;rintro _ eq ⟨r,ys,rfl,H8⟩;obtain⟨live,c⟩:∃live,live=aN ds m.drives:=⟨_,rfl⟩
  obtain⟨l,hl⟩:∃l,l=dU m m.next t (splitB m.p b) live O:=⟨_,rfl⟩
  have c9:dU m e.object e.tries (splitB m.p b) (aN ds m.drives) (splitB m.p b).length=l:=by rw[hl,he,<-c,<-K]
  rw[c9]at H8;refine⟨(r,eR),i4,H8.alloc af i4 λf h9 H9=>?_⟩;have H9:=H9.bB;refine H9.storeAll af 0 i4 i4 [r] i4 i4 i4 i4 λap q=>?_;refine bo (λe=>j1) λ_=>?_;obtain⟨n,S⟩:∃n,n=iM m e:=⟨_,rfl⟩
  have q:aa B h0 ap (au f 131 [r]::bp bz a pw (aY x) offs da w ds::cN jL 2 piv r ys l::ct x m::an 3 j 1 av e.tries::au a4 94 (bH (name,m.next,(b.length:Int),j))::As):=q;have q:aa B h0 ap (uH j 1 av e.tries::bp bz a pw (aY x) offs da w ds::ct x m::cN jL 2 piv r ys l::au f 131 [r]::au a4 94 (bH (name,m.next,(b.length:Int),j))::As):=(q.freeze 4 i4 λ_=>rfl).aX 6 [4,1,3,2,0,5];have cn:((name,m.next,(b.length:Int),j):dT).1=e.name/\((name,m.next,(b.length:Int),j):dT).2.1=e.object/\((name,m.next,(b.length:Int),j):dT).2.2.1=e.length:=by rw[he];exact⟨i4,i4,i4⟩
  have J:∀{h':f9} {Cs:List HP},aa B h0 h' (uH j 1 av e.tries::Cs)->dn h' x m->ac xB 84 #[fH x,UP (name,m.next,(b.length:Int),j)] h' λv c7=>∃y:bV,v=fH y/\aa B h0 c7 (ct y n::Cs):=λ{h' Cs} i hx'=>by
   rw[S];exact acw x m _ e hx' V ⟨b7,i5⟩ ⟨a7,i5⟩ bk cn i
  have M:=(aa.cY (q.aX 2 [1,0])).2;have P:=q.box 5 i4;have bb:dn ap x m:=q.at 2 i4;refine bP (λ(t:f7×Sl) h'=>∃y,aa B h0 h' (bp bz a pw (aY x) offs da w ds::ct x m::cN jL 2 piv r ys l::au f 131 [r]::au t.1 29 (aY y)::ct y n::an 3 t.2 1 av live::As)) ?_ ?_
  ·refine⟨a,i4,x,M.aV _ i4,(name,m.next,(b.length:Int),j),P.aV _ i4,?_,?_⟩
   ·refine(J q bb).mono ?_;rintro _ eh ⟨y,rfl,I⟩;have I:=I.aX 6 [1,2,3,4,0];refine⟨y,i4,trivial,?_,?_⟩
    ·refine(gd x m (I.at 1 i4) V I).mono ?_;rintro _ eb ⟨G,rfl,a2⟩;rw[<-c]at a2;have cr:=I.cm a2;refine⟨G,i4,trivial,cr.alloc af i4 λeg en ay=>⟨trivial,?_⟩⟩;have ay:=ay.bB;refine ay.storeAll af 0 i4 i4 (aY y) i4 i4 i4 i4 λd9 cl=>⟨trivial,y,?_⟩
     exact cl.aX 7 [2,3,4,5,0,6,1]
    ·refine I.alloc af i4 λa22 d0 X=>⟨trivial,?_⟩
     have X:=X.bB;have ad:=X.aX 6 [1,2,3,4,5,0];refine(gd x m (ad.at 1 i4) V ad).mono ?_;rintro _ ea ⟨G,rfl,bd⟩;rw[<-c]at bd;have cd:=(X.cm bd).aX 2 [1,0];refine⟨G,i4,trivial,cd.storeAll af 0 i4 i4 (aY y) i4 i4 i4 i4 λek c2=>⟨trivial,y,?_⟩⟩;exact c2.aX 7 [2,3,4,5,0,6,1]
   ·refine q.Hn af i4 λd1 ef a1 U=>?_;have d:=M.ai a1 M.lt;have F:=P.ai a1 P.lt;refine⟨⟨F.cell0 i4,F.cell i4,F.cell i4,F.cell i4,d.cell0 i4,d.cell i4,d.cell i4,d.cell i4,d.cell i4,d.cell i4,d.cell i4,d.cell i4,trivial⟩,?_⟩;have U:=(U.bB).aX 7 [1,0,2,3,4,5];refine(J U (U.at 3 i4)).mono ?_;rintro _ d4 ⟨y,rfl,dx⟩;have L:=dx.aX 6 [2,3,4,5,0,1];refine⟨y,i4,trivial,(gd x m (L.at 1 i4) V L).mono ?_⟩;rintro _ d5 ⟨G,rfl,a3⟩;rw[<-c]at a3;have cq:=(L.cm a3).aX 7 [6,0,1,2,3,4,5];refine⟨G,i4,trivial,cq.storeAll af 0 i4 i4 (aY y) i4 i4 i4 i4 λd2 b5=>⟨trivial,y,?_⟩⟩;exact b5.aX 7 [2,3,4,5,0,6,1]
  rintro⟨am,G⟩ b6 ⟨y,Y⟩;dsimp only at Y⊢;have ao:cR n:=by rw[S];exact ahR V bk (by rw[he];show name.size<=2^30;omega) (by rw[he];show t.length<=2^30;omega)
  have dy:n.drives=m.drives:=by rw[S];rfl
  have d3:live.length<=64:=by rw[c];exact zd (qQ _ _) dp
  have u:∀k∈live,0<=k/\k<64:=λk hk=>by rw[c]at hk;exact b3 k (qJ.1 hk).1
  have a5:(m.p.1+m.extra).toNat<=32:=by have:=(co m.p).1 hp;omega
  have d8:l.length<=256:=by rw[hl,Bh];exact wv (show O<=8 by omega) a5
  have dk:∀z∈l,(0<=z.1/\z.1<64)/\z.2.length<=2^20:=λz a8=>by
   rw[hl]at a8;obtain⟨p1,p2⟩:=Va (m:=m) ⟨a7,dr⟩ (by rw[c];exact b2) u (show O<=8 by omega) a8;exact⟨u _ p1,zd p2 i6⟩
  refine⟨y,(Y.box 4 i4).aV _ i4,(nZ y n b6 (Y.at 5 i4) ao).mono ?_⟩;rintro _ ec ⟨pg,rfl,b1⟩;have ah:=(aa.An b1).1;have br:=ka n ao;obtain⟨pn,a6⟩:∃pn,pn=(bu n).length:=⟨_,rfl⟩
  rw[<-a6]at ah br;have b9:=Y.up b1.ai;refine⟨pg,i4,b9.alloc af i4 λD eo ax=>?_⟩;have ax:=ax.bB;refine ax.storeAll af 0 i4 i4 [xq xx (pg.len:Int)] i4 i4 i4 i4 λc1 E=>?_;rw[ah]at E;have E:aa B h0 c1 (bp bz a pw (aY x) offs da w ds::ct x m::cN jL 2 piv r ys l::au f 131 [r]::au am 29 (aY y)::ct y n::an 3 G 1 av live::au D 3 [xq xx (pn:Int)]::As):=E.aX 8 [1,2,3,4,5,6,7,0];obtain⟨N,hN⟩:∃N,N=lh pn l:=⟨_,rfl⟩
  obtain⟨T,R⟩:∃T,T=ct x m::cN jL 2 piv r ys l::au f 131 [r]::au am 29 (aY y)::ct y n::an 3 G 1 av live::au D 3 [xq xx (pn:Int)]::As:=⟨_,rfl⟩
  have tX:St B h0 T λh=>dn h x m:=by rw[R];exact St.eE 0 i4 λ_ o=>o
  have tF:St B h0 T λh=>oD jL 2 piv h r ys l:=by rw[R];exact St.eE 1 i4 λ_ o=>o
  have tB:St B h0 T λh=>cx h f 131 [r]:=by rw[R];exact St.eE (A:=au f 131 [r]) 2 i4 λ_ o=>o.1
  have tM:St B h0 T λh=>cx h am 29 (aY y):=by rw[R];exact St.eE (A:=au am 29 (aY y)) 3 i4 λ_ o=>o.1
  have tY:St B h0 T λh=>dn h y n:=by rw[R];exact St.eE 4 i4 λ_ o=>o
  have tL:St B h0 T λh=>Rd h G 1 av live:=by rw[R];exact St.eE (A:=an 3 G 1 av live) 5 i4 λ_ o=>o.1.seq (λ_=>rfl) o.2
  have tN:St B h0 T λh=>cx h D 3 [xq xx (pn:Int)]:=by rw[R];exact St.eE (A:=au D 3 [xq xx (pn:Int)]) 6 i4 λ_ o=>o.1
  have tT:St B h0 T λh=>SL 85 #[] #[xt (dB D),xt (dB f)] N live h:=λBs h' i k hk=>by
   rw[hN];exact acG k D f pn r ys l h' i5 i5 (tN Bs h' i) (tB Bs h' i) (tF Bs h' i)
  have fin:∀{h':f9} {z:bV} {w':Pow} {ar:aJ},aa B h0 h' (bp bz a pw (aY x) offs da w' ar::T)->aa B h0 h' (bp bz a pw (aY x) offs da w' ar::ct x m::As):=λ{h' z w' ar} i=>by
   rw[R]at i;exact i.aX 8 [0,1]
  rw[<-R]at E;have ep:iK m offs w ds name b=(if dP m ds live N=eS then(7,m,w,ds)else if(makes m N live w ds).1≠0 then((makes m N live w ds).1,m,(makes m N live w ds).2)else
    if(layAll l (makes m N live w ds).2.1 (makes m N live w ds).2.2).1≠0 then((layAll l (makes m N live w ds).2.1 (makes m N live w ds).2.2).1,m,(layAll l (makes m N live w ds).2.1 (makes m N live w ds).2.2).2)else
    ((layAll (bM n live) (layAll l (makes m N live w ds).2.1 (makes m N live w ds).2.2).2.1 (layAll l (makes m N live w ds).2.1 (makes m N live w ds).2.2).2.2).1,if(layAll (bM n live) (layAll l (makes m N live w ds).2.1 (makes m N live w ds).2.2).2.1 (layAll l (makes m N live w ds).2.1 (makes m N live w ds).2.2).2.2).1=0 then n else m,(layAll (bM n live) (layAll l (makes m N live w ds).2.1 (makes m N live w ds).2.2).2.1 (layAll l (makes m N live w ds).2.1 (makes m N live w ds).2.2).2.2).2)):=by
   rw[hN,a6,hl,S,he,c];unfold iK;rw[g9 m4,<-K,ht]
  rw[ep];refine(Oa 85 #[] #[xt (dB D),xt (dB f)] N x m G live ld (λBs h' i=>⟨tX Bs h' i,tT Bs h' i⟩) V (tL.at [_] E) i5 u E).mono ?_;rintro _ ed ⟨rfl,cs⟩;have bq:=E.up cs.ai;refine⟨_,i4,bo (λg=>?_) λg=>?_⟩
  ·rw[g0 g];exact⟨i4,x,fin (z:=x) bq⟩
  rw[g9 (by rw[g];decide)];refine(Ob 85 #[] #[xt (dB D),xt (dB f)] N x m G live ld (λBs h' i=>⟨tX Bs h' i,tT Bs h' i,tL Bs h' i⟩) V i5 u bq).mono ?_;rintro _ d6 ⟨rfl,ab⟩;obtain⟨m1,c8⟩:∃m1,m1=makes m N live w ds:=⟨_,rfl⟩
  rw[<-c8]at ab⊢;refine⟨_,i4,bY (λg2=>?_) λg2=>?_⟩
  ·rw[g0 g2];exact⟨i4,x,fin (z:=x) ab⟩
  rw[g9 (by simpa using g2)];refine⟨r,(tB.at [_] ab).cell0 i4,(IJ r ys l tF i5 dk ab).mono ?_⟩;rintro _ ei ⟨rfl,W⟩;obtain⟨r2,c5⟩:∃r2,r2=layAll l m1.2.1 m1.2.2:=⟨_,rfl⟩
  rw[<-c5]at W⊢;refine⟨_,i4,bY (λg3=>?_) λg3=>?_⟩
  ·rw[g0 g3];exact⟨i4,x,fin (z:=x) W⟩
  rw[g9 (by simpa using g3)];refine⟨y,(tM.at [_] W).aV _ i4,(Od x y n G live (λBs h' i=>⟨tY Bs h' i,tL Bs h' i⟩) ao i5 u W).mono ?_⟩;rintro _ el ⟨rfl,Q1,Q0⟩;refine⟨_,i4,i4,?_⟩;by_cases g4:(layAll (bM n live) r2.2.1 r2.2.2).1=0
  ·obtain⟨y2,b0⟩:=Q0 g4;rw[g0 g4];rw[R]at b0;exact⟨y2,b0.aX 9 [0,1]⟩
  ·rw[g9 g4];exact⟨x,fin (z:=x) (Q1 g4)⟩
end
theorem ZN(n:Nat)(x:Int)(h:f9)(m:n<=2^30):ac xB 135 #[xq xx n,xq xx x] h λv h'=>∃(r:Sl) (l:bf),v=r/\l.length=n/\Sp h h' [an 5 r 1 aF l]:=by
 refine BA n x ?_;unfold pM;refine aA (λt:Sl×Nat×bf=>(t.1,(t.2.1:Int))) (λt h'=>t.2.1<=n/\t.2.2.length=t.2.1/\Sp h h' [an 5 t.1 1 aF t.2.2]) (λt=>n-t.2.1) (⟨eH,0,0⟩,0,[]) i4 ⟨jj,i4,(Sp.refl h).nil 5 1 aF⟩ ?_;rintro⟨o,i,l⟩ k ⟨j,g,a⟩;dsimp only at*;refine aj (λe=>?_) λe=>?_
 ·have f:i<n:=i5
  refine⟨i6,Int.tmod_nonneg _ i5,?_⟩;rw[ee];generalize b8 (qc xx _)=c;refine a.push af 0 i4 hO i4 i6 (λ_=>rfl) iP c i4 i6 i5 λd p b=>?_;refine⟨(d,i+1,l++[c]),js,⟨i7,?_,b⟩,i7⟩;simp[g]
 ·exact⟨o,l,i4,i5,a⟩
end Go.Qw
namespace Go.Vc
open Go Wl Go.Qw
section
variable {α:Type} {B:aC} {h0 h:f9} {As:List HP} {k:Nat} {f:α->bh} {L M:List (Sl×List α)}
theorem aa.afq(H:aa B h0 h (dN k f L::dN k f M::As)):aa B h0 h (dN k f (L++M)::As):=by
 have g:aa B h0 h ((dN k f M).sep (dN k f L)::As):=H.mu;refine g.fZ 0 i4 λq ⟨i,j,_,b,c,d,e⟩ y a=>?_;rcases qz.1 a with a|a
 ·exact(e y a).mono c
 ·exact(d y a).mono b
end
end Go.Vc
namespace Wl
open Go
def Fu(o b:Int)(a:List dj):List (Int×bf):=(a.filter λr=>decide (r.object=o)&&decide (r.block=b)).map λr=>(r.id,r.data)
def Bi(m:aG)(o b:Int)(l:cJ):List (Int×bf):=((fy m l).filter λr=>decide (r.object=o)&&decide (r.block=b)).map λr=>(r.id,r.data)
def iv(m:aG)(ds:aJ)(o b:Int)(k:Int):List (Int×bf):=match bm ds k with|some d=>Bi m o b d.l|none=>[]
def fA(m:aG)(ds:aJ)(bW:aD)(o b:Int):List (Int×bf):=bW.flatMap (iv m ds o b)
end Wl
namespace Go.Qw
open Go Go.Vc Go.Proofs Wl
abbrev akw:bZ C.toDr 96 99 2 [xq xx 0,xr eH 0 0] 32:=⟨_,_,i4,i4,i4,i4,i4,i4⟩
def ZO(pool:List (Sl×bf))(p:(Int×Sl)×(Int×bf)):Prop:=p.1.1=p.2.1/\(p.1.2,p.2.2)∈pool
section
variable {B:aC} {h0 h:f9} {As:List HP} {a pw:f7} {offs:Int} {da:List aM} {w:Pow} {ds:aJ} {mc:bh}
theorem IW(x:bV)(m:aG)(s:Sl)(bW:aD)(o b:Int)(hx:dn h x m)(hz:cR m)(hs:Rd h s 1 av bW)(hl:bW.length<=2^10)(hd:∀k∈bW,∃d,bm ds k=dB d)(H:aa B h0 h (bp bz a pw mc offs da w ds::As)):
  ac xB 49 #[.func (.func 23) #[xt (dB a)] #[],s,fH x,xq xx o,xq xx b] h λv h'=>∃(r:Sl) (ys:List (Int×Sl)),v=r/\Sp h h' [cN jL 2 piv r ys (fA m ds bW o b)]:=by
 refine MU (23,#[xt (dB a)],#[]) s x o b ?_;unfold Ga;have bl:=hs.len;refine(Sp.refl h).boxed λY N H1=>?_;have H1:Sp h N [au Y 29 (aY x)]:=H1;have H1:Sp h N [an 99 ⟨eH,0,0⟩ 2 piv (([]:List ((Int×Sl)×(Int×bf))).map qI),dN 1 aF [],au Y 29 (aY x)]:=((H1.Yi 1 aF).nil 99 2 piv).cK [2,0,1];refine aA (λt:Sl×Nat×List ((Int×Sl)×(Int×bf))×List (Sl×bf)=>(t.1,(t.2.1:Int))) (λt h'=>t.2.1<=bW.length/\t.2.2.1.length<=t.2.1*512/\t.2.2.1.map zI=fA m ds (bW.take t.2.1) o b/\(∀p∈t.2.2.1,ZO t.2.2.2 p)/\Sp h h' [an 99 t.1 2 piv (t.2.2.1.map qI),dN 1 aF t.2.2.2,au Y 29 (aY x)]) (λt=>bW.length-t.2.1) (⟨eH,0,0⟩,0,[],[]) i4 ⟨jj,jj,by simp[fA],jj,H1⟩ ?_;rintro⟨u,i,L,P⟩ h2 ⟨hi,bk,M,V,Z⟩;dsimp only at*;refine aj (λe=>?_) λe=>?_
 ·have W:i<bW.length:=i5
  refine(Seq.up hs Z.ai).bG i i4 W bW[i] i4 (bi ?_);obtain⟨d,A⟩:=hd bW[i] (qg W);have Hc:=H.up Z.ai;obtain⟨ok,hb⟩:=aa.cY Hc;have f:=Z.box 2 i4;refine⟨x,f.aV _ i4,fd ld ?_⟩;refine(mW bW[i] ok hb).mono ?_;rintro _ h3 ⟨rfl,rfl⟩;refine⟨_,i4,⟨f.cell0 i4,f.cell i4,f.cell i4,f.cell i4,f.cell i4,f.cell i4,f.cell i4,f.cell i4,trivial⟩,?_⟩;rcases nG ok bW[i]with⟨c1,c2⟩|⟨n,d',bb,c0,c1,c2,c3,c4,c5⟩
  ·rw[A]at c1;cases c1
  have am:d=d':=by rw[c3]at A;injection A with A;exact A.symm
  subst am;rw[c5];obtain⟨br,E,H3⟩:=Go.Vc.aa.jZ Hc c2;rw[c4]at E;injection E with E
  injection E with E
  subst E;obtain⟨X,sd,bd,ah⟩:=aa.rT H3;have a5:=X.len;have ax:=X.room;refine(IK bb pw d sd bd x m h3 (ah.box 0 i4) ((ah.aX 2 [1]).FO λ_=>rfl) X (hx.up Z.ai) hz).mono ?_;rintro _ h4 ⟨r7,G,rfl,R4⟩;have ay:=Cp m d.l;obtain⟨c,F⟩:∃c,c=fy m d.l:=⟨_,rfl⟩
  rw[<-F]at R4 ay;have H4:=(Z.cm R4).aX 4 [1,2,0,3];have F4:=H4.eU 2 i4;have a6:=F4.2.1;have a8:=F4.1.len;refine⟨r7,i4,trivial,?_⟩;have ao:iv m ds o b bW[i]=Fu o b c:=by unfold iv;rw[A];show Bi m o b d.l=_;unfold Bi Fu;rw[F]
  have T:fA m ds (bW.take (i+1)) o b=fA m ds (bW.take i) o b++Fu o b c:=by unfold fA;rw[aK _ _ W,zg,zk,z6,qN,ao]
  obtain⟨Q,hQ⟩:∃Q:List (Sl×bf),Q=(G.zip c).map λz=>(z.1.2.2.2.2.2.2.2,z.2.data):=⟨_,rfl⟩
  refine aA (λt:Sl×Nat×List ((Int×Sl)×(Int×bf))=>(t.1,(t.2.1:Int))) (λt h'=>t.2.1<=c.length/\t.2.2.length<=L.length+t.2.1/\t.2.2.map zI=fA m ds (bW.take i) o b++Fu o b (c.take t.2.1)/\(∀p∈t.2.2,ZO (P++Q) p)/\Sp h h' [an 99 t.1 2 piv (t.2.2.map qI),dN 1 aF P,cN fv 8 bT r7 G c,au Y 29 (aY x)]) (λt=>c.length-t.2.1) (u,0,L) i4 ⟨jj,jj,by simp[Fu,M],λp R=>⟨(V p R).1,List.mem_append_left _ (V p R).2⟩,H4⟩ ?_;rintro⟨u2,j,L2⟩ h5 ⟨hj,a9,K,U,H5⟩;dsimp only at*;have F5:=H5.eU 2 i4;refine aj (λe2=>?_) λe2=>?_
  ·have ab:j<c.length:=i5
   have ad:=Fix.row F5 ab;obtain⟨⟨g1,g2,g3,g4,g5,g6,g7⟩,g8⟩:=ad;refine F5.1.eC (g:=bT) j i4 i5 (G[j]'(by omega)) i4 ?_;refine H5.alloc af i4 λa3 h6 H6=>?_;refine H6.storeAll af 4 i4 i4 (bT (G[j]'(by omega))) i4 i4 i4 i4 λh7 S=>?_;have S:Sp h h7 [an 99 u2 2 piv (L2.map qI),dN 1 aF P,cN fv 8 bT r7 G c,au Y 29 (aY x),au a3 164 (bT (G[j]'(by omega)))]:=S;have J:=S.box 4 i4;have O:Fu o b (c.take (j+1))=Fu o b (c.take j)++(if(decide (c[j].object=o)&&decide (c[j].block=b))=eR then[(c[j].id,c[j].data)]else[]):=by unfold Fu;rw[aK _ _ ab,zl,qW,zp,vh];split<;>rfl
   have skip:(decide (c[j].object=o)&&decide (c[j].block=b))=eS->∃I:Sl×Nat×List ((Int×Sl)×(Int×bf)),((⟨u2.ptr,u2.len,u2.cap⟩:Sl),qc xx ((j:Int)+1))=(I.1,(I.2.1:Int))/\(I.2.1<=c.length/\I.2.2.length<=L.length+I.2.1/\I.2.2.map zI=fA m ds (bW.take i) o b++Fu o b (c.take I.2.1)/\(∀p∈I.2.2,ZO (P++Q) p)/\Sp h h7 [an 99 I.1 2 piv (I.2.2.map qI),dN 1 aF P,cN fv 8 bT r7 G c,au Y 29 (aY x)])/\c.length-I.2.1<c.length-j:=λhc=>
    ⟨(u2,j+1,L2),js,⟨i7,i7,by dsimp only;rw[O,hc];simpa using K,U,S.cK [0,1,2,3]⟩,i7⟩
   refine⟨c[j].object,by rw[<-g1];exact J.cell0 i4,ck (λq1=>?_) λq1=>skip (by rw[ii q1];rfl)⟩;refine⟨c[j].block,by rw[<-g2];exact J.cell i4,ck (λq2=>?_) λq2=>skip (by rw[ii q2,Bool.and_false])⟩;refine⟨c[j].id,by rw[<-g3];exact J.cell i4,(G[j]'(by omega)).2.2.2.2.2.2.2,J.cell i4,?_⟩;refine S.push af 0 i4 akw i4 i6 (λ_=>rfl) PR (c[j].id,(G[j]'(by omega)).2.2.2.2.2.2.2) j3 i6 i9 λu3 a7 a0=>?_;refine⟨(u3,j+1,L2++[((c[j].id,(G[j]'(by omega)).2.2.2.2.2.2.2),(c[j].id,c[j].data))]),js,⟨i7,i9,?_,λp R=>?_,?_⟩,i7⟩
   ·dsimp only;rw[qW,K,O,g0 (by rw[hU q1,hU q2];rfl),qp];rfl
   ·rcases qz.1 R with R|R
    ·exact U p R
    ·rw[qC.1 R];refine⟨i4,List.mem_append_right _ ?_⟩;rw[hQ];refine qu.2 ⟨(G[j]'(by omega),c[j]),?_,i4⟩;rw[<-vd (h:=by simp;omega)];exact qg _
   ·dsimp only;rw[qW];exact a0.cK [0,1,2,3]
  ·have a2:j=c.length:=i5
   subst a2;rw[q9,<-T]at K;have a4:=F5.2.1;have H6:=(H5.fZ 2 i4 (D:=dN 1 aF Q) λq hq y hy=>by
    rw[hQ]at hy;obtain⟨z,ap,rfl⟩:=qu.1 hy;obtain⟨k,hk,rfl⟩:=qK ap;have ar:k<c.length:=by simp at hk;omega
    have:=(Fix.row hq ar).2;rw[vd];exact this).cK [1,2,0,3]
   have S:=aa.afq H6;refine⟨(u2,i+1,L2,P++Q),js,⟨i7,i7,K,U,S.cK [1,0,2]⟩,i7⟩
 ·rw[qi i5]at M;refine⟨u,L.map qI,i4,?_⟩;have H3:=((Z.freeze 0 i4 λ_=>rfl).cK [1,0]).mu;refine H3.fZ 0 i4 λq ⟨q1,q2,_,bq,cq,z1,z2⟩=>?_;refine⟨z1.mono bq,by rw[<-M];simp,λj r e N h2=>?_⟩;rw[<-M]at h2;rw[qU]at N h2;cases hj:L[j]? with
  |none=>rw[hj]at N;cases N
  |some p=>
   rw[hj]at N h2;have e1:=zR.inj (show dB p.1=dB r from N);have e2:=zR.inj (show dB p.2=dB e from h2);subst e1;subst e2;obtain⟨k1,k2⟩:=V p (List.mem_of_getElem? hj);exact⟨k1,(z2 _ k2).mono cq⟩
end
end Go.Qw
namespace Wl
open Go
def dc(m:aG)(ds:aJ)(o b:Int)(live:aD):cj:=live.map λk=>(fA m ds [k] o b).map qI
end Wl
namespace Go.Qw
open Go Go.Vc Go.Proofs Wl
abbrev ajw:bZ C.toDr 37 22 1 [xr eH 0 0] 24:=⟨_,_,i4,i4,i4,i4,i4,i4⟩
section
variable {B:aC} {h0 h:f9} {As:List HP} {a pw:f7} {offs:Int} {da:List aM} {w:Pow} {ds:aJ}
theorem ahS{k:Int}{l:aD}(h:k∈aN ds l):∃d,bm ds k=dB d/\d.lost=eS:=by
 have h:=(qJ.1 h).2;unfold isLive at h;cases hd:bm ds k with
 |none=>rw[hd]at h;cases h
 |some d=>rw[hd]at h;exact⟨d,i4,j6⟩
theorem Fv(m:aG)(o b:Int)(l:cJ):i1 (Bi m o b l)<=i1 l:=by unfold Bi;rw[qy];exact zd (qQ _ _) (Cp m l)
theorem ZP(x:bV)(m:aG)(o b:Int)(Y:dn h x m)(X:cR m)(ar:i1 m.drives<=64)(c:∀k d,bm ds k=dB d->i1 d.l<=512)(H:aa B h0 h (bp bz a pw (aY x) offs da w ds::As)):
  ac xB 11 #[xt (dB a),xq xx o,xq xx b] h λv h'=>∃r:Sl,v=r/\Sp h h' [dJ 22 r 3 1 av (dc m ds o b (aN ds m.drives))]:=by
 refine Dx (dB a) o b ?_;unfold sC;refine(gd x m Y X H).mono ?_;rintro _ h1 ⟨f,rfl,L⟩;have O:i1 (aN ds m.drives)<=i1 m.drives:=qQ _ _;have z:∀k∈aN ds m.drives,∃d,bm ds k=dB d:=λk Q=>by obtain⟨d,h,_⟩:=ahS Q;exact⟨d,h⟩
 obtain⟨live,p⟩:∃live,live=aN ds m.drives:=⟨_,rfl⟩
 rw[<-p]at L O z⊢;have ah:=(L.own 0 i4).len;refine⟨f,i4,?_⟩;have am:i1 (dc m ds o b live)=i1 live:=by simp[dc]
 have H1:Sp h h1 [dJ 22 ⟨eH,0,0⟩ 3 1 av ((dc m ds o b live).take 0),an 3 f 1 av live]:=L.CH 22 3 1 av;refine aA (λt:Sl×Nat=>(t.1,(t.2:Int))) (λt h'=>t.2<=i1 live/\Sp h h' [dJ 22 t.1 3 1 av ((dc m ds o b live).take t.2),an 3 f 1 av live]) (λt=>i1 live-t.2) (⟨eH,0,0⟩,0) i4 ⟨jj,H1⟩ ?_;rintro⟨u,i⟩ h2 ⟨hi,F⟩;dsimp only at*;refine aj (λe=>?_) λe=>?_
 ·have D:i<i1 live:=i5
  refine(F.seq 1 i4 λ_=>rfl).bG i i4 D live[i] i4 ?_;refine F.lit af av gM i4 [live[i]] i4 (show 1*1<=2^20 by decide) i4 λq h3 y=>?_;have y:Sp h h3 [dJ 22 u 3 1 av ((dc m ds o b live).take i),an 3 f 1 av live,an 3 q 1 av [live[i]]]:=y;have U:=H.up y.ai;have K:=(aa.cY U).2;refine⟨a,i4,x,K.aV _ i4,?_⟩;obtain⟨d,P⟩:=z live[i] (qg D);refine(IW x m q [live[i]] o b (Y.up y.ai) X (y.seq 2 i4 λ_=>rfl) jj (λk Q=>by rw[qC.1 Q];exact⟨d,P⟩) U).mono ?_;rintro _ h4 ⟨J,s,rfl,W⟩;obtain⟨S,n⟩:∃S,S=fA m ds [live[i]] o b:=⟨_,rfl⟩
  have ad:i1 S<=512:=by rw[n];unfold fA iv;rw[zk,z6,qN,P];exact zd (Fv _ _ _ _) (c _ _ P)
  rw[<-n]at W;have G:=(y.cm W).aX 4 [1,2,0];have T:=G.eU 2 i4;have ap:=T.2.1;have ab:=T.1.len;refine⟨J,i4,?_⟩;have G:Sp h h4 [an 3 ⟨eH,0,0⟩ 1 av ((S.map qI).take 0),dJ 22 u 3 1 av ((dc m ds o b live).take i),an 3 f 1 av live,cN jL 2 piv J s S]:=(G.nil 3 1 av).cK [3,0,1,2];refine aA (λt:Sl×Nat=>(t.1,(t.2:Int))) (λt h'=>t.2<=i1 S/\Sp h h' [an 3 t.1 1 av ((S.map qI).take t.2),dJ 22 u 3 1 av ((dc m ds o b live).take i),an 3 f 1 av live,cN jL 2 piv J s S]) (λt=>i1 S-t.2) (⟨eH,0,0⟩,0) i4 ⟨jj,G⟩ ?_;rintro⟨u2,j⟩ h5 ⟨hj,I⟩;dsimp only at*;have V:=I.eU 3 i4;refine aj (λe2=>?_) λe2=>?_
  ·have M:j<i1 S:=i5
   have A:=Fix.row V M;refine V.1.eC (g:=piv) j i4 i5 (s[j]'(by omega)) i4 ?_;refine I.alloc af i4 λR h6 H6=>?_;refine H6.storeAll af 4 i4 i4 (piv (s[j]'(by omega))) i4 i4 i4 i4 λh7 E=>?_;have E:Sp h h7 [an 3 u2 1 av ((S.map qI).take j),dJ 22 u 3 1 av ((dc m ds o b live).take i),an 3 f 1 av live,cN jL 2 piv J s S,au R 99 (piv (s[j]'(by omega)))]:=E;refine⟨S[j].1,by rw[<-A.1];exact(E.box 4 i4).cell0 i4,?_⟩;refine E.push af 0 i4 gM i4 i6 (λ_=>rfl) fD S[j].1 i4 i6 i9 λu3 h9 Z=>?_;refine⟨(u3,j+1),js,⟨i7,?_⟩,i7⟩;dsimp only;rw[aK _ _ (show j<i1 (S.map qI) by simp;omega),yb];exact Z.cK [0,1,2,3]
  ·rw[qi i9]at I;refine(I.aX 2 [1,0]).JB af ajw i9 λu3 ao N=>?_;refine⟨(u3,i+1),js,⟨i7,?_⟩,i7⟩;dsimp only;rw[aK _ _ (show i<i1 (dc m ds o b live) by omega)];have ew:(dc m ds o b live)[i]'(by omega)=S.map qI:=by simp[dc,n]
   rw[ew];exact N.cK [0,1]
 ·rw[qi i5]at F;exact⟨u,i4,F.cK [0]⟩
end
end Go.Qw
namespace Wl
open Go
def Pow.calm(w:Pow):Prop:=w.off=eS/\w.fuse=eH
theorem nL:Pow.new.calm:=⟨i4,i4⟩
theorem uD{w:Pow}(h:w.calm):w.step=(eR,w):=by unfold Pow.step;rw[g9 (by simp[h.1]),h.2]
theorem KT{w:Pow}(h:w.calm)(ds:aJ)(x:Int)(b:bf):(fT w ds x b).2.1=w:=by
 unfold fT;cases bm ds x with
 |none=>rfl
 |some d=>
  dsimp only;unfold bs.append;split
  ·rfl
  ·split
   ·rfl
   ·split
    ·rfl
    ·split
     ·rfl
     ·rw[uD h];rfl
theorem Ro{w:Pow}(h:w.calm)(ds:aJ)(x:Int):(gQ w ds x).2.1=w:=by
 unfold gQ;cases bm ds x with
 |none=>rfl
 |some d=>
  dsimp only;unfold bs.sync;split
  ·rfl
  ·rw[uD h];rfl
theorem sh{w:Pow}(h:w.calm):∀(l:List (Int×bf)) (ds:aJ),(lP l w ds).2.1=w
 |[],_=>rfl
 |x::l,ds=>by
  rw[Ap,KT h];split
  ·exact sh h l _
  ·exact KT h _ _ _
theorem Fw{w:Pow}(h:w.calm):∀(l:aD) (ds:aJ),(eV l w ds).2.1=w
 |[],_=>rfl
 |x::l,ds=>by
  rw[xD,Ro h];split
  ·exact Fw h l _
  ·exact Ro h _ _
theorem afr{w:Pow}(h:w.calm)(l:List (Int×bf))(ds:aJ):(layAll l w ds).2.1=w:=by
 unfold layAll;dsimp only;rw[sh h];split
 ·exact Fw h _ _
 ·exact sh h _ _
theorem KU{w:Pow}{d:bs}{n:Nat}{b:bf}(h:w.calm)(a:d.lost=eS)(c:i1 d.l+(n+1)<=d.room)(e:i1 b=64):d.append w b=(0,w,{d with l:=d.l++[b],wait:=d.wait+1,laid:=[],has:=eS}):=by unfold bs.append;rw[g9 i5,g9 m5,g9 i5,g9 (by simp[h.1]),uD h];rfl
theorem acH{w:Pow}{d:bs}(h:w.calm)(a:d.lost=eS):d.sync w=(0,w,{d with wait:=0,laid:=[],has:=eS}):=by unfold bs.sync;rw[g9 m5,uD h];rfl
theorem ajx{ds:aJ}{s:Int}{d:bs}(h:bm ds s=dB d):0<=s/\s<64:=by obtain⟨n,rfl,a⟩:=lc h;omega
def Oh(ds:aJ)(P:List (Int×bf))(s:Int):Option bs:=
 (bm ds s).map λd=>{d with l:=d.l++(P.filter λx=>decide (x.1=s)).map zI,wait:=d.wait+i1 (P.filter λx=>decide (x.1=s)),laid:=if(P.filter λx=>decide (x.1=s)).isEmpty then d.laid else[],has:=if(P.filter λx=>decide (x.1=s)).isEmpty then d.has else eS}
theorem IX{w:Pow}(h:w.calm){S:aD}:∀(P:List (Int×bf)) (ds:aJ),Fit ds S (P.map qI)->(∀x∈P,x.1∈S/\x.2.length=64)->
  (lP P w ds).1=0/\Fit (lP P w ds).2.2 S []/\∀s,bm (lP P w ds).2.2 s=Oh ds P s
 |[],ds,F,_=>⟨i4,F,λs=>by unfold Oh;show bm ds s=_;cases bm ds s<;>simp⟩
 |x::P,ds,F,hP=>by
  obtain⟨d,f,p,r⟩:=F.at_ x.1 (hP x (qO ..)).1;rw[yJ,List.count_cons_self]at r;have j:=(hP x (qO ..)).2;obtain⟨n,i,a⟩:=lc f;have c:=KU (n:=(P.map qI).count x.1) h p i5 j;have e:fT w ds x.1 x.2=(0,w,bQ ds x.1 {d with l:=d.l++[x.2],wait:=d.wait+1,laid:=[],has:=eS}):=by unfold fT;rw[f];dsimp only;rw[c]
  obtain⟨_,g⟩:=Ss w x.2 (x:=x.1) (Q:=P.map qI) F (hP x (qO ..)).1 j;rw[Ap,e];rw[e]at g;dsimp only at g⊢;rw[g0 rfl];obtain⟨k,o,a3⟩:=IX h P _ g λy q=>hP y (qH _ q);refine⟨k,o,λs=>?_⟩;rw[a3 s];unfold Oh;rw[i,Eg _ _ _ _ a F.len,<-i];by_cases b:s=x.1
  ·rw[g0 b,b,f];simp only[q7,zp,decide_true,if_true,yJ,zn,qp,List.singleton_append,List.isEmpty_cons,Bool.false_eq_true,if_false];congr 1;simp only[bs.mk.injEq,true_and,and_true];refine⟨i5,?_,?_⟩<;>split<;>rfl
  ·rw[g9 b];simp only[zp,decide_eq_true_eq,g9 (show¬x.1=s fromλm=>b m.symm)]
theorem Fx{w:Pow}(h:w.calm){S:aD}:∀(l:aD) (ds:aJ),Fit ds S []->(∀x∈l,x∈S)->
  (eV l w ds).1=0/\Fit (eV l w ds).2.2 S []/\∀s,bm (eV l w ds).2.2 s=(bm ds s).map λd=>if s∈l then{d with wait:=0,laid:=[],has:=eS}else d
 |[],ds,F,_=>⟨i4,F,λs=>by show bm ds s=_;cases bm ds s<;>simp⟩
 |x::l,ds,F,hl=>by
  obtain⟨d,c,k,o⟩:=F.at_ x (hl x (qO ..));obtain⟨n,g,a⟩:=lc c;have e:gQ w ds x=(0,w,bQ ds x {d with wait:=0,laid:=[],has:=eS}):=by unfold gQ;rw[c];dsimp only;rw[acH h k]
  obtain⟨_,f⟩:=WW w F (hl x (qO ..));rw[xD,e];rw[e]at f;dsimp only at f⊢;rw[g0 rfl];obtain⟨i,j,a3⟩:=Fx h l _ f λy m=>hl y (qH _ m);refine⟨i,j,λs=>?_⟩;rw[a3 s,g,Eg _ _ _ _ a F.len,<-g];by_cases b:s=x
  ·subst b;rw[g0 i4,c];simp only[q7,zb,true_or,if_true];congr 1;split<;>rfl
  ·rw[g9 b];cases bm ds s with
   |none=>rfl
   |some d'=>simp[b]
end Wl
namespace Go.Qw
open Go Go.Vc Go.Proofs Wl
section
variable {B:aC} {h0 h h':f9} {As:List HP} {a:f7} {w:Pow}
end
section
variable {B:aC} {h0 h h':f9} {As:List HP} {a pw:f7} {d:bs} {w:Pow}
end
section
variable {B:aC} {h0 h h':f9} {As:List HP}
end
end Go.Qw
namespace Wl
open Go
end Wl
namespace Go.Qw
open Go Go.Vc Go.Proofs Wl
end Go.Qw
namespace Wl
open Go
end Wl
namespace Go.Qw
open Go Go.Vc Go.Proofs Wl
end Go.Qw
namespace Wl
open Go
end Wl
namespace Go.Vc
open Go Wl
end Go.Vc
namespace Go.Qw
open Go Go.Vc Go.Proofs Wl
section
variable {B:aC} {h0 h h':f9} {As:List HP} {a pw:f7} {mc:bh} {offs:Int} {da:List aM} {w:Pow} {ds:aJ}
end
section
variable {B:aC} {h0 h h':f9} {As:List HP} {a pw:f7} {mc:bh} {offs:Int} {da:List aM} {w:Pow} {ds:aJ}
end
end Go.Qw
namespace Go.Vc
open Go Wl Go.Qw
def tv(p:Pm)(extra:Int)(l:aD):Int:=
 if(eN l).2&&(bO p&&fo extra 0 16)then
  if(bt l l.length).any λi=>decide (l.getD i.toNat 0<(i1 (bu (cD p extra l)):Int))then 7 else 0
 else 1
theorem ZQ(p:Pm)(extra:Int)(w:Pow)(l:aD):ge p extra w l=if tv p extra l=0 then layAll (bM (cD p extra l) (bt l l.length)) w (iB l (bt l l.length).length)else(tv p extra l,w,[]):=by
 unfold ge tv;by_cases h:((eN l).2&&(bO p&&fo extra 0 16))=eR
 ·rw[g0 h,g0 h];by_cases a:((bt l l.length).any λi=>decide (l.getD i.toNat 0<(i1 (bu (cD p extra l)):Int)))=eR
  ·rw[g0 a,g0 a];rfl
  ·rw[g9 a,g9 a];rfl
 ·rw[g9 h,g9 h];rfl
theorem Oi{p:Pm}{extra:Int}{l:aD}(h:tv p extra l=0):bO p=eR/\0<=extra/\extra<=16/\(eN l).2=eR/\((bt l l.length).any λi=>decide (l.getD i.toNat 0<(i1 (bu (cD p extra l)):Int)))=eS:=by
 unfold tv at h;by_cases a:((eN l).2&&(bO p&&fo extra 0 16))=eR
 ·rw[g0 a]at h;by_cases b:((bt l l.length).any λi=>decide (l.getD i.toNat 0<(i1 (bu (cD p extra l)):Int)))=eR
  ·rw[g0 b]at h;cases h
  ·unfold fo at a;simp only[qB,decide_eq_true_eq]at a;exact⟨a.2.1,a.2.2.1,a.2.2.2,a.1,k7⟩
 ·rw[g9 a]at h;cases h
end Go.Vc
namespace Go.Qw
open Go Go.Vc Go.Proofs Wl
end Go.Qw
namespace Wl
def gB(m:aG)(l:cJ):Bool:=bR m&&(bu m).all λp=>decide (p∈l)
end Wl
namespace Go.Qw
open Go Go.Vc Go.Proofs Wl
theorem acI(a:f7)(e:Sl)(p:bf)(l:Sl)(b:Cells)(h:f9)(u:cx h a 71 [e])(q:Rd h e 1 aF p)(n:fE h l 1 aF b)(w:i1 b<=2^30):
  ac xB 186 #[l,.func (.func 187) #[] #[xt (dB a)]] h λv h'=>v=xv (decide (p∈b))/\h'=h:=by
 refine nE l (187,#[],#[xt (dB a)]) ?_;unfold jC;refine(oN l (187,#[],#[xt (dB a)]) (R:=λv h'=>(∃i:Int,v=xq xx i/\(decide (i>=0)=decide (p∈b)))/\h'=h) ?_).mono ?_
 ·unfold kG;have s:=n.len;refine aA (λi:Nat=>(i:Int)) (λi h'=>i<=i1 b/\p∉b.take i/\h'=h) (λi=>i1 b-i) 0 i4 ⟨i5,jj,i4⟩ ?_;rintro i g ⟨m,c,rfl⟩;refine aj (λk=>?_) (λk=>?_)
  ·have d:i<i1 b:=by have o:(i:Int)<(l.len:Int):=k;omega
   refine n.get i i4 d λr t=>fd ld ?_;refine(LD r a (R:=λv h'=>v=xv (decide (b[i]=p))/\h'=g) ?_).mono ?_
   ·unfold DN;refine⟨e,u.cell0 i4,(rV r e b[i] p g t q).mono ?_⟩;rintro _ _ ⟨rfl,rfl⟩;exact⟨_,i4,i4,i4⟩
   ·rintro _ _ ⟨rfl,rfl⟩;refine⟨_,i4,aj (λj=>⟨⟨i,i4,?_⟩,i4⟩) λj=>?_⟩
    ·rw[hU (show(i:Int)>=0 by omega),hU (by rw[<-j];exact qg d)]
    ·refine⟨i+1,j0,⟨i5,λf=>?_,i4⟩,i5⟩;rw[aK _ _ d]at f;rcases qz.1 f with f|f
     ·exact c f
     ·exact j (qC.1 f).symm
  ·have o:¬(i:Int)<(l.len:Int):=k;rw[qi i5]at c;exact⟨⟨-1,i4,by rw[ii c];rfl⟩,i4⟩
 ·rintro _ g ⟨⟨i,rfl,m⟩,rfl⟩;exact⟨i,i4,by rw[m],i4⟩
theorem ZR(a pw:f7)(d:bs)(s b:Sl)(x:bV)(m:aG)(h:f9)(O:cx h a 119 (fu pw d s b))(Y:fE h s 1 aF d.l)(ok:gE d)(N:dn h x m)(H:cR m):
  ac xB 122 #[xt (dB a),fH x] h λv h'=>v=xv (gB m d.l)/\Sp h h' []:=by
 refine Px (dB a) x ?_;unfold Ic;have M:=ok.len;have E:=ok.room;refine(Sp.refl h).boxed λz K w=>?_;have w:Sp h K [au z 29 (aY x)]:=w;refine⟨x,(w.box 0 i4).aV _ i4,(LQ x m K (N.up w.ai) H).mono ?_⟩;rintro _ V ⟨rfl,P⟩;have A:Sp h V [au z 29 (aY x)]:=w.up P.ai;refine⟨_,i4,bo (λg=>⟨by unfold gB;rw[g];rfl,.zip A.ai⟩) λg=>?_⟩;refine(LP s b (O.ai A.ai O.lt) (Y.up A.ai) ok).mono ?_;rintro _ h3 ⟨q,rfl,W⟩;have J:Sp h h3 [au z 29 (aY x),ez q d.l]:=A.comp W;refine⟨q,i4,x,(J.box 0 i4).aV _ i4,(nZ x m h3 (N.up J.ai) H).mono ?_⟩;rintro _ X ⟨o,rfl,T⟩;have u:Sp h X [au z 29 (aY x),ez q d.l,ez o (bu m)]:=J.comp T;have G:=ka m H;obtain⟨c,j⟩:∃c,c=bu m:=⟨_,rfl⟩
 rw[<-j]at u G;have Q:=(aa.An (u.aX 3 [2])).1;refine⟨o,i4,?_⟩;obtain⟨rs,u⟩:=(u.cK [2,1]).ZA λ_=>rfl;refine aA (λi:Nat=>(i:Int)) (λi h'=>i<=i1 c/\((c.take i).all λp=>decide (p∈d.l))=eR/\Sp h h' [cN (cz 1 aF) 1 bv o rs c,ez q d.l]) (λi=>i1 c-i) 0 i4 ⟨i5,jj,u⟩ ?_;rintro i h5 ⟨hi,f,B⟩;have U:=(B.eU 0 i4).2.1;refine aj (λe=>?_) (λe=>?_)
 ·have n:i<i1 c:=by have S:(i:Int)<(o.len:Int):=e;omega
  refine(B.eU 0 i4).1.mv i i4 i5 ?_;obtain⟨r,L⟩:∃r,r=rs[i]'(by omega):=⟨_,rfl⟩
  rw[<-L];refine B.alloc af i4 λy Z R=>?_;refine R.storeAll af 2 i4 i4 [r] i4 i4 i4 i4 λD k=>?_;have k:Sp h D [cN (cz 1 aF) 1 bv o rs c,ez q d.l,au y 71 [r]]:=k;have t:Rd D r 1 aF c[i]:=by rw[L];exact Fix.row (k.eU 0 i4) n
  have I:=aa.FO (k.aX 2 [1]) λ_=>rfl;refine(acI y r c[i] q d.l D (k.box 2 i4) t I i5).mono ?_;rintro _ h8 ⟨rfl,rfl⟩;refine⟨_,i4,bo (λF=>⟨?_,.zip k.ai⟩) λF=>?_⟩
  ·have:gB m d.l=eS:=by unfold gB;rw[g,z8,<-j];exact yB.2 ⟨c[i],qg n,by rw[F];simp⟩
   rw[this]
  ·refine⟨i+1,j0,⟨i5,?_,k.cK [0,1]⟩,i5⟩;rw[aK _ _ n,List.all_append,f,xl,List.all_nil,F];rfl
 ·have:i=i1 c:=by have S:¬(i:Int)<(o.len:Int):=e;omega
  subst this;rw[q9]at f;exact⟨by unfold gB;rw[g,<-j,f];rfl,.zip B.ai⟩
end Go.Qw
namespace Go.Vc
open Go Wl Go.Qw
theorem afs{w:Pow}(h:w.calm){S:aD}(P:List (Int×bf))(ds:aJ)(F:Fit ds S (P.map qI))(b:∀x∈P,x.1∈S/\x.2.length=64):
  (layAll P w ds).1=0/\Fit (layAll P w ds).2.2 S []/\∀s,bm (layAll P w ds).2.2 s=(Oh ds P s).map λd=>if s∈cM (P.map qI)then{d with wait:=0,laid:=[],has:=eS}else d:=by
 obtain⟨e,i,a3⟩:=IX h P ds F b;have l:=sh h P ds;unfold layAll;dsimp only;rw[g0 e,l];obtain⟨f,g,k⟩:=Fx h (S:=S) (cM (P.map qI)) (lP P w ds).2.2 i λx c=>by
  unfold cM at c;have a:=(qJ.1 c).2;obtain⟨y,j,rfl⟩:=qu.1 (i0 a);exact(b y j).1
 exact⟨f,g,λs=>by rw[k s,a3 s]⟩
theorem GG(l:aD)(k:Nat):(bt l k).Pairwise (·<·):=by unfold bt;refine List.Pairwise.filter _ (vl.2 ?_);exact(List.pairwise_lt_range (n:=k)).imp λh=>i5
theorem ahT{l:aD}{most:Int}(e:l.Pairwise (·<·))(c:∀x∈l,0<=x/\x<=most):rj l most=eR:=by
 unfold rj;refine uJ λi b=>?_;unfold kp fo;have d:l.getD i 0=l[i]:=by rw[qe,qd b];rfl
 have:=c l[i] (qg b);rw[d,hU this.1,hU this.2,z8,z8];by_cases h0:i=0
 ·rw[hU h0];rfl
 ·have a:l.getD (i-1) 0=l[i-1]:=by rw[qe,qd i5];rfl
  rw[a,hU (List.pairwise_iff_getElem.1 e (i-1) i i5 b i5),Bool.or_true]
theorem LX{p:Pm}{extra:Int}{l:aD}(h:i1 l<=64)(d:tv p extra l=0):bR (cD p extra l)=eR:=by
 obtain⟨f,a,h3,_⟩:=Oi d;have e:lK (cD p extra l)=eR:=by unfold lK fo cD;simp[f,a,h3]
 have c:rj (cD p extra l).drives 63=eR:=ahT (GG l l.length) λx b=>by
  obtain⟨n,g,rfl,_⟩:=(Ba l l.length x).1 b;omega
 unfold bR;rw[e,c];rfl
theorem GH(p:Pm)(extra:Int)(l:aD)(a:i1 l<=24):i1 (bu (cD p extra l))<=1:=by
 unfold bu iL;rw[qy,zE];have b:=rY l l.length;have:i1 (gW (cD p extra l))<=19+24:=by
  unfold gW;split
  ·simp only[qx,cF,zn,yX,qy,cD,z6];omega
  ·simp
 omega
end Go.Vc
namespace Wl
open Go
theorem acJ{ds:aJ}{k:Int}{d:bs}(h:bm ds k=dB d):bQ ds k d=ds:=by
 unfold bm at h;split at h
 ·rename_i b;unfold bQ;cases hx:ds[k.toNat]? with
  |none=>rw[hx]at h;cases h
  |some o=>
   rw[hx]at h;have h:o=dB d:=h;subst h;obtain⟨c,a⟩:=qn.1 hx;rw[<-a,List.set_getElem_self]
 ·cases h
end Wl
namespace Go.Vc
open Go Wl Go.Qw
theorem acK(l:List (Int×bf))(k:Int):(l.map qI).count k=i1 (l.filter λy=>decide (y.1=k)):=by
 induction l with
 |nil=>rfl
 |cons y l ih=>
  rw[yJ,List.count_cons,ih,zp];by_cases h:y.1=k
  ·rw[g0 (hU h),g0 j6];rfl
  ·rw[g9 j6,g9 j6];rfl
theorem IY(n:aG)(k:Int):∀{live:aD},live.Nodup->k∈live->((bM n live).filter λy=>decide (y.1=k)).map zI=bu n
 |[],_,hk=>by cases hk
 |x::live,hnd,hk=>by
  have e:bM n (x::live)=(bu n).map (λc=>(x,c))++bM n live:=by unfold bM;rw[zk]
  obtain⟨j,d⟩:=yj.1 hnd;rw[e,zl,qW];by_cases a:x=k
  ·subst a;have g:((bu n).map λc=>(x,c)).filter (λy=>decide (y.1=x))=(bu n).map (λc=>(x,c)):=List.filter_eq_self.2 λy b=>by
    obtain⟨c,_,rfl⟩:=qu.1 b;exact hU i4
   have i:(bM n live).filter (λy=>decide (y.1=x))=[]:=wO.2 λy b=>by
    have:=(lD b).1;have f:y.1≠x:=λh=>j (h▸this);simpa using f
   rw[g,i,xg,qN,w6];exact List.map_id _
  ·have g:((bu n).map λc=>(x,c)).filter (λy=>decide (y.1=k))=[]:=wO.2 λy b=>by
    obtain⟨c,_,rfl⟩:=qu.1 b;simpa using a
   rw[g,xg,List.nil_append];rcases zb.1 hk with h|h
   ·exact absurd h.symm a
   ·exact IY n k d h
end Go.Vc
namespace Go.Qw
open Go Go.Vc Go.Proofs Wl
theorem ahU{p:Pm}{seed:Int}{d:Row}{K H w n:Nat}(B:cu p seed d K H w n)(id:Int):uR p seed d id=if bX id then fW w (dq p seed d) (dv n seed id)else[]:=by unfold uR;rw[B.rx,show p.2.2.toNat=w by have:=B.s;omega]
theorem Vb{m:aG}{o i seed:Int}{d:Row}{id:Int}{K H w n:Nat}(B:cu m.p seed d K H w n)(a:0<=o/\o<=16777215)(b:0<=i/\i<=7)(hid:0<=id/\id<=65535):jz (oy m o i seed d id)=eR:=by
 rw[lr];refine⟨a,b,hid,B.may,?_⟩;have c:bX id=eR:=by unfold bX;rw[hU hid.1,hU hid.2];rfl
 show(i1 (uR m.p seed d id):Int)=m.p.2.2;rw[ahU B id,g0 c,B.abC id,B.s]
def Af(m:aG)(o:Int)(tries:aD)(a:cJ)(live:aD)(k:Int)(i:Nat):List dj:=
 ((qA (m.p.1+m.extra).toNat).filter λid=>decide (gj (fw o i live) (id:Nat)=k)).map λid:Nat=>oy m o i (cI o i (tries.getD i 0)) (a.getD i []) id
def lY(m:aG)(o:Int)(tries:aD)(a:cJ)(live:aD)(k:Int)(n:Nat):List dj:=(qA n).flatMap (Af m o tries a live k)
theorem Vd(m:aG)(o:Int)(tries:aD)(a:cJ)(live:aD)(k:Int)(n:Nat):lY m o tries a live k (n+1)=lY m o tries a live k n++Af m o tries a live k n:=by unfold lY;rw[zV,zg,zk,z6,qN]
theorem Ve(m:aG)(o:Int)(tries:aD)(a:cJ)(live:aD)(k:Int)(i:Nat):((nK m o tries a live i).filter λy=>decide (y.1=k)).map zI=(Af m o tries a live k i).map dE:=by unfold nK Af;rw[List.filter_map,w6,w6];rfl
theorem GI(m:aG)(o:Int)(tries:aD)(a:cJ)(live:aD)(k:Int):∀n,((dU m o tries a live n).filter λy=>decide (y.1=k)).map zI=(lY m o tries a live k n).map dE
 |0=>by simp[dU,lY]
 |n+1=>by rw[uS,Vd,zl,qW,qW,GI m o tries a live k n,Ve]
theorem ZS{m:aG}{o:Int}{tries:aD}{a:cJ}{live:aD}{k:Int}{i:Nat}{r:dj}(h:r∈Af m o tries a live k i):∃id:Nat,r=oy m o i (cI o i (tries.getD i 0)) (a.getD i []) id/\id<(m.p.1+m.extra).toNat:=by unfold Af at h;obtain⟨id,b,rfl⟩:=qu.1 h;exact⟨id,i4,qG.1 (qJ.1 b).1⟩
theorem ZT{m:aG}{o:Int}{tries:aD}{a:cJ}{live:aD}{k:Int}{n:Nat}{r:dj}(h:r∈lY m o tries a live k n):∃(i id:Nat),r=oy m o i (cI o i (tries.getD i 0)) (a.getD i []) id/\i<n/\id<(m.p.1+m.extra).toNat:=by unfold lY at h;obtain⟨i,c,d⟩:=zU.1 h;obtain⟨id,b,h3⟩:=ZS d;exact⟨i,id,b,qG.1 c,h3⟩
end Go.Qw
namespace Wl
open Go
def dz(m:aG)(d:bs)(n:Int):bs:=if iX d d.l.length n then d else{d with l:=cv m d.l,wait:=0,laid:=[],has:=eS}
theorem ZU{m:aG}{r:dj}(h:fg m r=eR):jz r=eR:=by unfold fg at h;simp only[qB]at h;exact h.1
theorem aft{l:List dj}{r:dj}(h:r∈sZ l):r∈l:=by unfold sZ at h;obtain⟨i,a,rfl⟩:=qu.1 h;have a:=qG.1 (qJ.1 a).1;rw[qe,qd a];exact qg a
theorem ZV{m:aG}{c:bf}{r:dj}(h:kA m c=dB r):ey c=dB r/\fg m r=eR:=by
 unfold kA at h;cases hc:ey c with
 |none=>rw[hc]at h;cases h
 |some x=>
  rw[hc]at h;dsimp only at h;by_cases a:fg m x=eR
  ·rw[g0 a]at h;injection h with h;subst h;exact⟨i4,a⟩
  ·rw[g9 a]at h;cases h
theorem xS{m:aG}{l:cJ}{r:dj}(h:r∈fy m l):∃c∈l,ey c=dB r/\fg m r=eR:=by have h:=yO.1 (aft h);obtain⟨c,b,a⟩:=List.mem_filterMap.1 h;exact⟨c,b,ZV a⟩
theorem Fy(m:aG)(l:cJ):∀c∈cv m l,i1 c=64:=λc d=>by
 rcases qz.1 d with h|h
 ·exact xE h
 ·obtain⟨r,a,rfl⟩:=qu.1 h;obtain⟨_,_,_,b⟩:=xS a;exact Ll (ZU b)
theorem IZ{w:Pow}(a:w.calm){d:bs}{l:cJ}(f:∀c∈l,i1 c=64)(g:d.lost=eS)(h:i1 l<=d.room):d.rewrite w l=(0,w,{d with l:=l,wait:=0,laid:=[],has:=eS}):=by unfold bs.rewrite;have:l.all (λb=>decide (i1 b=64))=eR:=qZ.2 λc e=>hU (f c e);rw[g9 (by simp[this]),g9 p0,g9 i5,g9 (by simp[a.1]),uD a];rfl
theorem Oj{w:Pow}(e:w.calm){m:aG}{d:bs}{n:Int}(h:iu m d n=eR):gf m w d n=(0,w,dz m d n):=by
 have h0:=h;unfold iu at h;rw[qB,wu,wU]at h;obtain⟨c,a⟩:=h;unfold gf dz;rw[g9 o1,g9 (by simp[h0])];by_cases b:iX d d.l.length n=eR
 ·rw[g0 b,g0 b]
 ·rw[g9 b,g9 b];have h3:iX d (cv m d.l).length n=eR:=by
   rcases a with a|a
   ·exact absurd a b
   ·exact a
  unfold iX at h3;rw[decide_eq_true_eq]at h3;exact IZ e (Fy m d.l) c i5
theorem Vf(m:aG)(ds:aJ)(k:Int)(l:aD)(N:Int->Int):dP m ds (k::l) N=(oP m ds k (N k)&&dP m ds l N):=xl
theorem Di{m:aG}{ds:aJ}{k n:Int}(h:oP m ds k n=eR):∃d,bm ds k=dB d/\iu m d n=eR:=by
 unfold oP at h;cases hd:bm ds k with
 |none=>rw[hd]at h;cases h
 |some d=>rw[hd]at h;exact⟨d,i4,h⟩
theorem Bj(ds:aJ)(k:Int)(d:bs):i1 (bQ ds k d)=i1 ds:=by unfold bQ;simp
theorem iw{ds:aJ}{k:Int}{c d:bs}(a:i1 ds=64)(e:bm ds k=dB c)(s:Int):bm (bQ ds k d) s=if s=k then dB d else bm ds s:=by obtain⟨n,rfl,b⟩:=lc e;exact Eg ds n d s b a
theorem Sw{m:aG}{ds a:aJ}{l:aD}{N:Int->Int}(h:∀k∈l,bm ds k=bm a k):dP m ds l N=dP m a l N:=by unfold dP;rw[Bool.eq_iff_iff,qZ,qZ];refine forall_congr' λk=>forall_congr' λb=>?_;unfold oP;rw[h k b]
theorem Fz{w:Pow}(l:w.calm){m:aG}{N:Int->Int}:∀{live:aD} {ds:aJ},live.Nodup->i1 ds=64->dP m ds live N=eR->
  ∃a,makes m N live w ds=(0,w,a)/\a.length=64/\∀k,bm a k=(bm ds k).map λd=>if k∈live then dz m d (N k)else d
 |[],ds,_,h64,_=>⟨ds,i4,h64,λk=>by cases bm ds k<;>simp⟩
 |k::live,ds,hnd,h64,hf=>by
  rw[Vf,qB]at hf;obtain⟨c,f⟩:=yj.1 hnd;obtain⟨d,j,h⟩:=Di hf.1;have e:jm m w ds k (N k)=(0,w,bQ ds k (dz m d (N k))):=by unfold jm;rw[j];dsimp only;rw[Oj l h]
  have b:=iw (d:=dz m d (N k)) h64 j;have i:dP m (bQ ds k (dz m d (N k))) live N=eR:=by
   rw[<-Sw (ds:=ds) λs g=>?_]
   ·exact hf.2
   ·rw[b,g9 λn:s=k=>c (n▸g)]
  obtain⟨a,o,p,h3⟩:=Fz l f (by rw[Bj];exact h64) i;refine⟨a,?_,p,λs=>?_⟩
  ·show(if(jm m w ds k (N k)).1=0 then makes m N live (jm m w ds k (N k)).2.1 (jm m w ds k (N k)).2.2 else jm m w ds k (N k))=_;rw[e];exact o
  ·rw[h3 s,b];by_cases g:s=k
   ·subst g;rw[g0 i4,j];simp[c]
   ·rw[g9 g];simp[g]
theorem FA{m:aG}{d:bs}{n:Int}(h:iu m d n=eR):(dz m d n).lost=eS/\(dz m d n).room=d.room/\((dz m d n).l.length:Int)+max n 0<=d.room:=by
 unfold iu at h;rw[qB,wu,wU]at h;obtain⟨c,a⟩:=h;unfold dz;by_cases b:iX d d.l.length n=eR
 ·rw[g0 b];unfold iX at b;rw[decide_eq_true_eq]at b;exact⟨c,i4,i5⟩
 ·rw[g9 b];have h3:iX d (cv m d.l).length n=eR:=by
   rcases a with a|a
   ·exact absurd a b
   ·exact a
  unfold iX at h3;rw[decide_eq_true_eq]at h3;exact⟨c,i4,i7⟩
theorem Xb(a:ByteArray):fp a a=eS:=abt _
theorem acL{a b:ByteArray}(h:kq a b=eR)(c:a≠b):fp a b=eR:=by
 rcases(MI a b).1 h with h|h
 ·exact h
 ·exact absurd (Zl h) c
theorem acM{a b:ByteArray}(h:fp a b=eR):a≠b:=λe=>by subst e;rw[Xb]at h;cases h
theorem ajy:Ord xG:=⟨λa b c e d=>Hx _ _ _ e d,λa b=>Hy _ _⟩
theorem LY{m:aG}{x e:cw}:e∈(iM m x).aH↔e∈m.aH∨e=x:=by show e∈(m.aH++[x]).mergeSort xG↔_;rw[yO];simp
end Wl
namespace Go.Qw
open Go Go.Vc Go.Proofs Wl
theorem acN{name:ByteArray}{l:List Wl.cw}(h:l.any (mP name)=eS):∀e∈l,e.name≠name:=λe b a=>by
 have:=wj.1 h e b;unfold mP at this;rw[a]at this;simp at this
theorem acO{m:aG}{x:Wl.cw}(A:bR m=eR)(f:ne x.name=eR)(g:∀e∈m.aH,e.name≠x.name)(l:x.object=m.next)(L:m.aH.length<=11)(M:m.next<=16777215)(K:m.seq<=2147483646)
  (k:0<=x.length/\x.length<=m.p.1*m.p.2.2*8) (G:∀t∈x.tries,0<=t/\t<=15) (y:(x.tries.length:Int)=countP m.p x.length):bR (iM m x)=eR:=by
 obtain⟨B,H,h3,N,s,u,w⟩:=(cL m).1 A;obtain⟨I,J,a3,a4⟩:=(fF m).1 B;have c:(iM m x).aH.Perm (m.aH++[x]):=wT _ _;have n:∀e∈m.aH,e.object<m.next:=λe i=>((iU m e).1 (s e i)).2.1.2;refine(cL _).2 ⟨(fF _).2 ⟨⟨?_,?_⟩,⟨?_,?_⟩,a3,a4⟩,H,h3,?_,λe i=>?_,?_,?_⟩
 ·show 1<=m.seq+1;omega
 ·show m.seq+1<=_;omega
 ·show 0<=m.next+1;omega
 ·show m.next+1<=_;omega
 ·rw[c.length_eq];simp;omega
 ·rcases LY.1 i with i|rfl
  ·obtain⟨v,z,D,E,F⟩:=(iU m e).1 (s e i);exact(iU _ e).2 ⟨v,⟨z.1,by show _<m.next+1;omega⟩,D,E,F⟩
  ·exact(iU _ _).2 ⟨f,⟨i5,by show _<m.next+1;omega⟩,k,G,y⟩
 ·have d:(m.aH++[x]).Pairwise (λa b:Wl.cw=>a.name≠b.name):=w9.2 ⟨u.imp λh=>acM h,List.pairwise_singleton _ _,λa r b q=>by rw[qC.1 q];exact g a r⟩;have j:=(c.pairwise_iff (R:=λa b:Wl.cw=>a.name≠b.name) λ{a b} h=>Ne.symm h).2 d;have o:(iM m x).aH.Pairwise (λa b=>xG a b=eR):=(Hw ajy (m.aH++[x])).1;exact(o.and j).imp λh=>acL h.1 h.2
 ·have d:(m.aH++[x]).Pairwise (λa b:Wl.cw=>a.object≠b.object):=w9.2 ⟨w,List.pairwise_singleton _ _,λa r b q=>by rw[qC.1 q,l];have:=n a r;omega⟩;exact(c.pairwise_iff (R:=λa b:Wl.cw=>a.object≠b.object) λ{a b} h=>Ne.symm h).2 d
theorem Xc{p:Pm}{o:Int}{n:Nat}{t:aD}(h:dg p o n=dB t):∀x∈t,0<=x/\x<=15:=λx b=>by
 obtain⟨i,c,rfl⟩:=qK b;obtain⟨k,d,a⟩:=Cn h i c;have:=(IL a).1;rw[d];omega
theorem Vg{p:Pm}(a:bO p=eR)(b:bf):(i1 (splitB p b):Int)=countP p b.length:=by have:=(mO a b.length).1;unfold splitB;rw[qy,zE];omega
theorem afu{m:aG}{d:Bool}{ds:aJ}{name:ByteArray}{b:bf}{t:aD}(f:bR m=eR)(k:eO m d ds name b.length=0)(g:dg m.p m.next (splitB m.p b).length=dB t):bR (iM m ⟨name,m.next,i1 b,t⟩)=eR:=by
 obtain⟨n,j,z3,z4,z5⟩:=sg k;have i:¬m.p.1*m.p.2.2*8<(i1 b:Int):=λh=>z4 (.inl h);have a:i1 m.aH<=11:=by have:¬12<=i1 m.aH:=λh=>z4 (.inr h);omega
 have c:m.next<=16777215:=by have:¬16777215<m.next:=λh=>z5 (.inr (.inl h));omega
 have e:m.seq<=2147483646:=by have:¬2147483647<=m.seq:=λh=>z5 (.inr (.inr h));omega
 have l:=((fF m).1 ((cL m).1 f).1).2.2.1;refine acO f j (acN z3) i4 a c e ⟨by show 0<=(i1 b:Int);omega,by show(i1 b:Int)<=_;omega⟩ (Xc g) ?_;show(i1 t:Int)=countP m.p b.length;rw[kZ g,Vg l]
end Go.Qw
namespace Wl
open Go
def eG(a:cJ)(d:bs):bs:=if a.isEmpty then d else{d with l:=d.l++a,wait:=0,laid:=[],has:=eS}
def lZ(P:List (Int×bf))(s:Int):cJ:=(P.filter λx=>decide (x.1=s)).map zI
theorem Vh{P:List (Int×bf)}{s:Int}(h:∀x∈P,x.1≠s):lZ P s=[]:=by unfold lZ;rw[wO.2 λx a=>by simpa using h x a];rfl
theorem Vi(P:List (Int×bf))(s:Int):i1 (lZ P s)=(P.map qI).count s:=by unfold lZ;rw[qy];exact(Go.Vc.acK P s).symm
theorem Dj{l:aD}{s:Int}(h:0<=s/\s<64):s∈cM l↔s∈l:=by unfold cM;rw[qJ,decide_eq_true_eq];refine⟨λh=>h.2,λh'=>⟨?_,h'⟩⟩;exact qu.2 ⟨s.toNat,qG.2 i5,i5⟩
theorem Ol{w:Pow}(o:w.calm){ds:aJ}{P:List (Int×bf)}(i:i1 ds=64)
  (a:∀x∈P,i1 x.2=64/\∃d,bm ds x.1=dB d/\d.lost=eS/\d.l.length+i1 (lZ P x.1)<=d.room):
  ∃b,layAll P w ds=(0,w,b)/\b.length=64/\∀s,bm b s=(bm ds s).map (eG (lZ P s)):=by
 have F:Fit ds (P.map qI) (P.map qI):=⟨i,λk t=>by
  obtain⟨x,g,rfl⟩:=qu.1 t;obtain⟨_,d,j,m,h3⟩:=a x g;rw[Vi]at h3;exact⟨d,j,m,h3⟩⟩
 obtain⟨p,r,a3⟩:=Go.Vc.afs o P ds F λx g=>⟨qu.2 ⟨x,g,rfl⟩,(a x g).1⟩
 refine⟨(layAll P w ds).2.2,?_,r.len,λs=>?_⟩
 ·have m:=afr o P ds;exact yQ p (yQ m i4)
 ·rw[a3 s];unfold Oh;cases hd:bm ds s with
  |none=>rfl
  |some d=>
   obtain⟨e,f⟩:=ajx hd;rw[q7,q7,q7];congr 1;unfold eG;have n:s∈P.map qI↔(lZ P s).isEmpty=eS:=by rw[<-List.count_pos_iff,<-Vi];cases hc:lZ P s<;>simp
   by_cases c:(lZ P s).isEmpty=eR
   ·have h0:lZ P s=[]:=List.isEmpty_iff.1 c;have j:(P.filter λx=>decide (x.1=s))=[]:=List.map_eq_nil_iff.1 h0;rw[g9 (λh=>by rw[Dj ⟨e,f⟩,n]at h;rw[h]at c;cases c),g0 c,j];simp
   ·have q:(lZ P s).isEmpty=eS:=m6
    rw[g0 ((Dj ⟨e,f⟩).2 (n.2 q)),g9 c];rfl
end Wl
namespace Go.Qw
open Go Go.Vc Go.Proofs Wl
theorem ra{n:aG}{live:aD}(a:live.Nodup)(s:Int):lZ (bM n live) s=if s∈live then bu n else[]:=by
 by_cases h:s∈live
 ·rw[g0 h];exact IY n s a h
 ·rw[g9 h];exact Vh λx b c=>h (c▸(lD b).1)
theorem afv(m:aG)(o:Int)(tries:aD)(a:cJ)(live:aD)(k:Int)(n:Nat):lZ (dU m o tries a live n) k=(lY m o tries a live k n).map dE:=GI m o tries a live k n
theorem Vj{m:aG}(h:bR m=eR):bu m≠[]:=by unfold bu iL gW;rw[g0 h];intro e;have:=congrArg List.length e;simp[cF]at this;omega
theorem si{ds:aJ}{l:aD}(h:l.Nodup):(aN ds l).Nodup:=h.filter _
theorem iZ{ds:aJ}{l:aD}{k:Int}(h:k∈aN ds l):k∈l/\∃d,bm ds k=dB d/\d.lost=eS:=by
 obtain⟨b,a⟩:=qJ.1 h;unfold isLive at a;cases hd:bm ds k with
 |none=>rw[hd]at a;cases a
 |some d=>rw[hd]at a;exact⟨b,d,i4,j7⟩
theorem afw{ds:aJ}{l:aD}{k:Int}:k∈aN ds l↔k∈l/\∃d,bm ds k=dB d/\d.lost=eS:=by refine⟨iZ,λ⟨h1,d,h2,h3⟩=>qJ.2 ⟨h1,?_⟩⟩;unfold isLive;rw[h2];simp[h3]
theorem acP(a:cJ)(d:bs):(eG a d).l=d.l++a:=by
 unfold eG;by_cases h:a.isEmpty=eR
 ·rw[g0 h,List.isEmpty_iff.1 h,qN]
 ·rw[g9 h]
theorem Ct(a:cJ)(d:bs):(eG a d).lost=d.lost/\(eG a d).room=d.room:=by unfold eG;split<;>exact⟨i4,i4⟩
theorem afx{b a:cJ}(h:a≠[])(d:bs):eG a (eG b d)=eG (b++a) d:=by
 have e:∀c:cJ,c≠[]->∀d,eG c d={d with l:=d.l++c,wait:=0,laid:=[],has:=eS}:=λc g d=>by
  unfold eG;rw[g9 l0]
 by_cases f:b=[]
 ·subst f;rfl
 ·rw[e b f,e a h,e (b++a) sR];simp
theorem Rp(a:Nat)(l:List (Int×bf))(k:Int):lh a l k=a+i1 (lZ l k):=by unfold lh lZ;rw[qy]
theorem Yq{p:Pm}{o:Int}{b:bf}{t:aD}(d:bO p=eR)(c:dg p o (splitB p b).length=dB t){i:Nat}(f:i<i1 (splitB p b)):∃K H w n,cu p (cI o i (t.getD i 0)) ((splitB p b).getD i []) K H w n:=by
 have q:=kZ c;obtain⟨k,j,a⟩:=Cn c i i5;have l:NV p o i k=eR:=(IL a).2.1;have e:t.getD i 0=(k:Int):=by rw[fq 0];exact j
 rw[e];refine Zg d l ?_;have g:=(co p).1 d;have m:0<=p.1*p.2.2:=vO i5 i5;have h:(splitB p b)[i]=Fs (gx p) b i:=by simp[splitB]
 rw[fq [] f,h,Rf];unfold gx;omega
theorem Yr{m:aG}{b:bf}{t:aD}(e:bR m=eR)(c:m.next<=16777215)(h8:i1 (splitB m.p b)<=8)(f:dg m.p m.next (splitB m.p b).length=dB t){i id:Nat}(g:i<i1 (splitB m.p b))(hid:id<(m.p.1+m.extra).toNat):
  jz (oy m m.next i (cI m.next i (t.getD i 0)) ((splitB m.p b).getD i []) id)=eR:=by
 have a:=((fF m).1 ((cL m).1 e).1)
 have d:=(co m.p).1 a.2.2.1;obtain⟨K,H,w,n,B⟩:=Yq a.2.2.1 f g;exact Vb B ⟨a.2.1.1,c⟩ i5 i5
theorem acQ{m:aG}{offs:Int}{w:Pow}{ds:aJ}{name:ByteArray}{b:bf}(L:w.calm)(G:i1 ds=64)(A:bR m=eR):
  (eO m (dO w offs) ds name b.length≠0->iK m offs w ds name b=(eO m (dO w offs) ds name b.length,m,w,ds))/\
  (eO m (dO w offs) ds name b.length=0->(dg m.p m.next (splitB m.p b).length=eH->iK m offs w ds name b=(8,m,w,ds))/\∀t,dg m.p m.next (splitB m.p b).length=dB t->
   let live:=aN ds m.drives;let l:=dU m m.next t (splitB m.p b) live (splitB m.p b).length;let n:=iM m ⟨name,m.next,i1 b,t⟩;let N:=lh (bu n).length l
   bR n=eR/\(dP m ds live N=eS->iK m offs w ds name b=(7,m,w,ds))/\(dP m ds live N=eR->∃g,iK m offs w ds name b=(0,n,w,g)/\g.length=64/\
    ∀k,bm g k=(bm ds k).map λd=>if k∈live then eG ((lY m m.next t (splitB m.p b) live k (splitB m.p b).length).map dE++bu n) (dz m d (N k))else d)):=by
 refine⟨λh=>by unfold iK;rw[g0 h],λh=>⟨λE=>by unfold iK;rw[g9 j6,E],λt E=>?_⟩⟩;intro live l n N;have s:bR n=eR:=afu A h E;obtain⟨z1,z2,z3,z4,z5⟩:=sg h;have z:=((fF m).1 ((cL m).1 A).1)
 have F:¬m.p.1*m.p.2.2*8<(i1 b:Int):=λh=>z4 (.inl h);have h8:=PY z.2.2.1 F;have Q:live≠[]:=λh=>z5 (.inl h);have r:0<=m.next/\m.next<=16777215:=⟨z.2.1.1,by have:¬16777215<m.next:=λh=>z5 (.inr (.inl h));omega⟩
 have f:live.Nodup:=si (xI A);have H:∀k∈live,0<=k/\k<64:=λk a=>lx A k (iZ a).1;have e:iK m offs w ds name b=(if dP m ds live N=eS then(7,m,w,ds)else if(makes m N live w ds).1≠0 then((makes m N live w ds).1,m,(makes m N live w ds).2)else
   if(layAll l (makes m N live w ds).2.1 (makes m N live w ds).2.2).1≠0 then((layAll l (makes m N live w ds).2.1 (makes m N live w ds).2.2).1,m,(layAll l (makes m N live w ds).2.1 (makes m N live w ds).2.2).2)else
   ((layAll (bM n live) (layAll l (makes m N live w ds).2.1 (makes m N live w ds).2.2).2.1 (layAll l (makes m N live w ds).2.1 (makes m N live w ds).2.2).2.2).1,if(layAll (bM n live) (layAll l (makes m N live w ds).2.1 (makes m N live w ds).2.2).2.1 (layAll l (makes m N live w ds).2.1 (makes m N live w ds).2.2).2.2).1=0 then n else m,(layAll (bM n live) (layAll l (makes m N live w ds).2.1 (makes m N live w ds).2.2).2.1 (layAll l (makes m N live w ds).2.1 (makes m N live w ds).2.2).2.2).2)):=by
  unfold iK;rw[g9 j6,E]
 refine⟨s,λv=>by rw[e,g0 v],λv=>?_⟩;rw[e,g9 (by rw[v];decide)];obtain⟨U,Y,m2,T⟩:=Fz L (N:=N) f G v;rw[Y];dsimp only;rw[g9 jj];have B:∀y∈l,y.1∈live:=λy D=>(Va r Q H h8 D).1;have q:∀y∈l,i1 y.2=64:=λy D=>by
  obtain⟨i,W,D⟩:=zU.1 D;obtain⟨id,hid,rfl⟩:=qu.1 D;exact Ll (Yr A r.2 h8 E (qG.1 W) (qG.1 hid))
 have c:∀k∈live,∃d,bm U k=dB d/\d.lost=eS/\(i1 d.l:Int)+max (N k) 0<=d.room:=λk a=>by
  obtain⟨_,d,hd,ab⟩:=iZ a;have M:=qZ.1 v k a;obtain⟨d',I,J⟩:=Di M;obtain⟨V,r2,r3⟩:=FA J;refine⟨dz m d' (N k),?_,V,by rw[r2];exact r3⟩;rw[T k,I,q7,g0 a]
 obtain⟨d2,l1,l2,S⟩:=Ol L (ds:=U) (P:=l) m2 λx j=>by
  obtain⟨d,O,K,Z⟩:=c x.1 (B x j);refine⟨q x j,d,O,K,?_⟩;have:N x.1=_:=Rp _ _ _;omega
 rw[l1];dsimp only;rw[g9 jj];obtain⟨d3,p1,p2,X⟩:=Ol L (ds:=d2) (P:=bM n live) l2 λx j=>by
  obtain⟨u,o⟩:=lD j;obtain⟨d,O,K,Z⟩:=c x.1 u;refine⟨o,eG (lZ l x.1) d,by rw[S,O,q7],by rw[(Ct _ _).1];exact K,?_⟩;have:N x.1=_:=Rp _ _ _;rw[(Ct _ _).2,acP,ra f,g0 u,qx];omega
 rw[p1];refine⟨d3,i4,p2,λk=>?_⟩;rw[X k,S k,T k,Option.map_map,Option.map_map];congr 1;funext d;show eG (lZ (bM n live) k) (eG (lZ l k) (if k∈live then dz m d (N k)else d))=_;rw[ra f];by_cases a:k∈live
 ·rw[g0 a,g0 a,g0 a];have R:lZ l k=(lY m m.next t (splitB m.p b) live k (splitB m.p b).length).map dE:=afv _ _ _ _ _ _ _;rw[R,afx (Vj s)]
 ·rw[g9 a,g9 a,g9 a,Vh (P:=l) λx j (he:x.1=k)=>a (he▸B x j)];rfl
theorem Om(l:aD)(c:i1 l<=64)(s:Int):bm (iB l (bt l l.length).length) s=if s∈bt l l.length then dB (bs.new (l.getD s.toNat 0).toNat)else eH:=by
 by_cases a:0<=s/\s<64
 ·unfold bm iB;rw[g0 a,qU,zt i5,q7,qi (qm _)];have e:((s.toNat:Nat):Int)=s:=i5
  rw[e];by_cases h:s∈bt l l.length
  ·rw[g0 h];rfl
  ·rw[g9 h];rfl
 ·rw[g9 λh=>?_]
  ·unfold bm;rw[g9 a]
  ·obtain⟨n,b,rfl,_⟩:=(Ba l l.length s).1 h;omega
theorem acR{p:Pm}{extra:Int}{l:aD}(g:i1 l<=64)(f:tv p extra l=0):
  ∃D,ge p extra Pow.new l=(0,Pow.new,D)/\D.length=64/\∀s,bm D s=if s∈bt l l.length then dB ⟨(l.getD s.toNat 0).toNat,bu (cD p extra l),0,[],eS,eS⟩else eH:=by
 have i:=LX g f;have b:(bt l l.length).Nodup:=(GG l l.length).imp λh e=>i5
 have c:=(Oi f).2.2.2.2;rw[ZQ,g0 f];obtain⟨D,j,k,h3⟩:=Ol nL (ds:=iB l (bt l l.length).length) (P:=bM (cD p extra l) (bt l l.length)) (WN _ _) λx m=>by
  obtain⟨a,d⟩:=lD m;refine⟨d,bs.new (l.getD x.1.toNat 0).toNat,by rw[Om l g,g0 a],i4,?_⟩;rw[ra b,g0 a];have:=wj.1 c x.1 a;simp only[decide_eq_true_eq]at this;show 0+_<=(l.getD x.1.toNat 0).toNat;omega
 refine⟨D,j,k,λs=>?_⟩;rw[h3,Om l g,ra b];by_cases h:s∈bt l l.length
 ·rw[g0 h,g0 h,g0 h,q7];unfold eG;rw[g9 (by simpa using Vj i)];rfl
 ·rw[g9 h,g9 h,g9 h];rfl
theorem ZW(m:aG):i1 (bu m)=(i1 (gW m)+47)/48:=by unfold bu iL;rw[qy,zE]
theorem ajz(x:Wl.cw):(jI x).length=6+x.name.size+x.tries.length:=by unfold jI;simp[cF];omega
theorem acS{m:aG}(h:bR m=eR):i1 (gW m)=14+i1 m.drives+i1 (m.aH.flatMap jI):=by unfold gW;rw[g0 h];simp only[qx,cF,zn,yX,qy];omega
theorem sj{p:Pm}{n:Int}(h:n<=p.1*p.2.2*8):countP p n<=8:=by
 unfold countP;split
 ·rename_i a;rw[qB,decide_eq_true_eq]at a;have:=(co p).1 a.1;have b:0<p.1*p.2.2:=Int.mul_pos i5 i5;have:(n-1)/(p.1*p.2.2)<8:=Int.ediv_lt_of_lt_mul b (by rw[Int.mul_comm 8];omega);omega
 ·decide
theorem ahV{m:aG}{x:Wl.cw}(h:ie m x=eR):i1 (jI x)<=26:=by
 obtain⟨a,c,h3,e,b⟩:=(iU m x).1 h;have:=sj h3.2;have d:x.name.size<=12:=by unfold ne at a;simp at a;omega
 rw[ajz];omega
theorem PZ{α β:Type}{f:α->List β}{c:Nat}:∀{l:List α},(∀x∈l,i1 (f x)<=c)->i1 (l.flatMap f)<=i1 l*c
 |[],_=>jj
 |x::l,h=>by
  have d:=h x qO;have b:=PZ (l:=l) λy a=>h y (qH _ a);rw[zk,qx,zn,zT];omega
theorem afy{m:aG}(h:bR m=eR):i1 (bu m)*48<=61+i1 m.drives+i1 m.aH*26:=by have:=PZ (f:=jI) (l:=m.aH) λx a=>ahV (((cL m).1 h).2.2.2.2.1 x a);have b:=acS h;rw[ZW];omega
theorem ajA{m:aG}(h:bR m=eR):i1 (bu m)<=9:=by have b:=afy h;have a:=iC h;have h3:=((cL m).1 h).2.2.2.1;omega
def cZ(m:aG)(offs:Int)(w:Pow)(ds:aJ)(n:aG):Int×aG×Pow×aJ:=
 if dO w offs then(14,m,w,ds)else if !bR n||decide (n.seq≠m.seq+1)then(1,m,w,ds)else
 let live:=aN ds n.drives;let N:Int->Int:=λ_=>(i1 (bu n):Int)
 if live=[]∨dP m ds live N=eS then(7,m,w,ds)else
 if(makes m N live w ds).1≠0 then((makes m N live w ds).1,m,(makes m N live w ds).2)else
 let a:=layAll (bM n live) (makes m N live w ds).2.1 (makes m N live w ds).2.2
 (a.1,if a.1=0 then n else m,a.2)
theorem jx{m:aG}(h:bR m=eR):cR m:=by
 obtain⟨q,g,h3,p,c,i,n⟩:=(cL m).1 h;have k:=iC h;refine⟨i5,i5,λe d=>?_⟩;obtain⟨a,f,b,j,l⟩:=(iU m e).1 (c e d);have:=sj b.2;have o:e.name.size<=12:=by unfold ne at a;simp at a;omega
 omega
section
variable {B:aC} {h0 h:f9} {As:List HP} {a pw:f7} {offs:Int} {da:List aM} {w:Pow} {ds:aJ}
theorem KV(x:bV)(m:aG)(z:bV)(n:aG)(hS:St B h0 As λh=>dn h z n)(hz:cR m)(j:cR n)(ao:-1<=m.seq/\m.seq<=2^40)
  (H:aa B h0 h (bp bz a pw (aY x) offs da w ds::ct x m::As)):
  ac xB 92 #[xt (dB a),fH z] h λv h'=>v=xq xx (cZ m offs w ds n).1/\
   ∃y,aa B h0 h' (bp bz a pw (aY y) offs da (cZ m offs w ds n).2.2.1 (cZ m offs w ds n).2.2.2::ct y (cZ m offs w ds n).2.1::As):=by
 refine CQ (dB a) z ?_;unfold rH;refine H.boxed λE G i=>(Cq i).mono ?_;have i:=i.bB;rintro _ G ⟨rfl,rfl⟩;have i:aa B h0 G (au E 29 (aY z)::bp bz a pw (aY x) offs da w ds::ct x m::As):=i;have u:dn G z n:=hS.at [_,_,_] i;have Y:dn G x m:=i.at 2 i4;refine⟨_,i4,bx (λe=>?_) λe1=>?_⟩
 ·have J:cZ m offs w ds n=(14,m,w,ds):=by unfold cZ;rw[g0 e]
  rw[J];exact⟨i4,x,i.aX 3 [1,2]⟩
 refine bi ?_;refine⟨z,(i.box 0 i4).aV _ i4,(LQ z n G u j).mono ?_⟩;rintro _ h3 ⟨rfl,R3⟩;have F:=i.up R3.ai;have ad:=u.up R3.ai;have no:∀{h':f9},aa B h0 h' (au E 29 (aY z)::bp bz a pw (aY x) offs da w ds::ct x m::As)->(bR n=eS∨n.seq≠m.seq+1)->(Value.int .i64 1=xq xx (cZ m offs w ds n).1/\∃y,aa B h0 h' (bp bz a pw (aY y) offs da (cZ m offs w ds n).2.2.1 (cZ m offs w ds n).2.2.2::ct y (cZ m offs w ds n).2.1::As)):=λ{h'} d hc=>by
  have J:cZ m offs w ds n=(1,m,w,ds):=by
   unfold cZ;rw[g9 m4,g0];rcases hc with hc|hc
   ·rw[hc];rfl
   ·rw[hU hc,Bool.or_true]
  rw[J];exact⟨i4,x,d.aX 3 [1,2]⟩
 refine⟨_,i4,trivial,bo (λe=>no F (.inl e)) λe2=>?_⟩;have I:=F.box 0 i4;have Z:=(aa.cY (F.aX 2 [1,0])).2;refine⟨z.1,I.cell0 i4,a,i4,x.1,Z.cell0 i4,?_⟩;dsimp only;rw[u.seq,Y.seq,ak (m.seq+1)];refine bY (λe=>no F (.inr e)) λe3=>?_;refine⟨_,I.cell i4,?_⟩;have ah:=iC e2;have S:∀k∈n.drives,0<=k/\k<64:=lx e2;refine(NP z.2.2.2.2.2.2.1 n.drives ad.drives i5 (F.aX 2 [1,0])).mono ?_;rintro _ h5 ⟨q,rfl,R5⟩;obtain⟨live,b⟩:∃live,live=aN ds n.drives:=⟨_,rfl⟩
 rw[<-b]at R5;have am:i1 live<=64:=by rw[b];exact zd (qQ _ _) ah
 have f:∀k∈live,0<=k/\k<64:=λk hk=>by rw[b]at hk;exact S k (qJ.1 hk).1
 have H5:=(F.cm R5).aX 4 [2,3,0,1];refine⟨q,i4,z,(H5.box 3 i4).aV _ i4,(nZ z n h5 (hS.at [_,_,_,_] H5) j).mono ?_⟩;rintro _ h6 ⟨pg,rfl,R6⟩;have t:=(aa.An R6).1;have O:=ka n j;obtain⟨s,L⟩:∃s,s=i1 (bu n):=⟨_,rfl⟩
 rw[<-L]at t O;have H6:=H5.up R6.ai;refine⟨pg,i4,H6.alloc af i4 λc h7 U=>?_⟩;have U:=U.bB;refine U.storeAll af 0 i4 i4 [xq xx (pg.len:Int)] i4 i4 i4 i4 λh8 l=>?_;rw[t]at l;have l:aa B h0 h8 (bp bz a pw (aY x) offs da w ds::ct x m::au c 3 [xq xx (s:Int)]::an 3 q 1 av live::au E 29 (aY z)::As):=l.aX 5 [1,2,0,3,4];obtain⟨T,p⟩:∃T,T=ct x m::au c 3 [xq xx (s:Int)]::an 3 q 1 av live::au E 29 (aY z)::As:=⟨_,rfl⟩
 have tX:St B h0 T λh=>dn h x m:=by rw[p];exact St.eE 0 i4 λ_ r=>r
 have tN:St B h0 T λh=>cx h c 3 [xq xx (s:Int)]:=by rw[p];exact St.eE (A:=au c 3 [xq xx (s:Int)]) 1 i4 λ_ r=>r.1
 have R:St B h0 T λh=>Rd h q 1 av live:=by rw[p];exact St.eE (A:=an 3 q 1 av live) 2 i4 λ_ r=>r.1.seq (λ_=>rfl) r.2
 have tM:St B h0 T λh=>cx h E 29 (aY z):=by rw[p];exact St.eE (A:=au E 29 (aY z)) 3 i4 λ_ r=>r.1
 have tY:St B h0 T λh=>dn h z n:=by rw[p];exact hS.cons.cons.cons.cons
 obtain⟨N,hN⟩:∃N:Int->Int,N=λ_=>(s:Int):=⟨_,rfl⟩
 have tT:St B h0 T λh=>SL 153 #[] #[xt (dB c)] N live h:=λBs h' d k hk=>by
  refine AO k c ?_;unfold oM;exact⟨(s:Int),(tN Bs h' d).cell0 i4,by rw[hN],Sp.refl h'⟩
 have fin:∀{h':f9} {X:Pow} {D:aJ},aa B h0 h' (bp bz a pw (aY x) offs da X D::T)->aa B h0 h' (bp bz a pw (aY x) offs da X D::ct x m::As):=λ{h' X D} d=>by
  rw[p]at d;exact d.aX 5 [0,1]
 rw[<-p]at l;have J:cZ m offs w ds n=(if live=[]∨dP m ds live N=eS then(7,m,w,ds)else
   if(makes m N live w ds).1≠0 then((makes m N live w ds).1,m,(makes m N live w ds).2)else
   ((layAll (bM n live) (makes m N live w ds).2.1 (makes m N live w ds).2.2).1,if(layAll (bM n live) (makes m N live w ds).2.1 (makes m N live w ds).2.2).1=0 then n else m,(layAll (bM n live) (makes m N live w ds).2.1 (makes m N live w ds).2.2).2)):=by
  rw[hN,L,b];unfold cZ;rw[g9 m4,g9 (by rw[e2,ii (by simpa using e3)];decide)]
 rw[J];have M:=(R.at [_] l).len;refine bi (ck (λe=>?_) λe4=>?_)
 ·have:live=[]:=List.length_eq_zero_iff.1 i5;rw[g0 (.inl this)];exact⟨i4,x,fin l⟩
 have V:live≠[]:=λh=>e4 (by rw[M,h];rfl);refine(Oa 153 #[] #[xt (dB c)] N x m q live ld (λBs h' d=>⟨tX Bs h' d,tT Bs h' d⟩) hz (R.at [_] l) i5 f l).mono ?_;rintro _ h9 ⟨rfl,R9⟩;have H9:=l.up R9.ai;refine⟨_,i4,bo (λg=>?_) λg=>?_⟩
 ·rw[g0 (.inr g)];exact⟨i4,x,fin H9⟩
 rw[g9 (by rintro(h|h);exact V h;rw[g]at h;cases h)];refine(Ob 153 #[] #[xt (dB c)] N x m q live ld (λBs h' d=>⟨tX Bs h' d,tT Bs h' d,R Bs h' d⟩) hz i5 f H9).mono ?_;rintro _ ar ⟨rfl,o⟩;obtain⟨Q,ab⟩:∃Q,Q=makes m N live w ds:=⟨_,rfl⟩
 rw[<-ab]at o⊢;refine⟨_,i4,bY (λW=>?_) λW=>?_⟩
 ·rw[g0 W];exact⟨i4,x,fin o⟩
 rw[g9 (by simpa using W)];refine⟨z,(tM.at [_] o).aV _ i4,(Od x z n q live (λBs h' d=>⟨tY Bs h' d,R Bs h' d⟩) j i5 f o).mono ?_⟩;rintro _ ap ⟨rfl,Q1,Q0⟩;refine⟨_,i4,i4,?_⟩;by_cases P:(layAll (bM n live) Q.2.1 Q.2.2).1=0
 ·obtain⟨y2,K⟩:=Q0 P;rw[g0 P];rw[p]at K;exact⟨y2,K.aX 6 [0,1]⟩
 ·rw[g9 P];exact⟨x,fin (Q1 P)⟩
end
end Go.Qw
namespace Go.Vc
open Go Wl
section
variable {k:Kit} {B:aC} {h0 h:f9} {As:List HP} {a pw b:f7} {mc:bh} {offs:Int} {da:List aM} {w:Pow} {ds:aJ} {d:bs} {n:Nat}
theorem aa.afz(ok:gh mc da ds)(F:n<64)(H:aa B h0 h (au a k.tS (cQ mc pw offs (da.set n (dB b)))::dl k.tP pw w::(gc k pw da ds++(iJ k.tD (k.f pw) b d::As)))):aa B h0 h (bp k a pw mc offs (da.set n (dB b)) w (ds.set n (dB d))::As):=by
 have p:=ok.la;have t:=ok.ls;have q:gh mc (da.set n (dB b)) (ds.set n (dB d)):=⟨ok.l8,by simp[p],by simp[t],λi=>by
  by_cases g:n=i
  ·subst g;rw[qe,qe,zm i5,zm i5];rfl
  ·have:=ok.same i;rw[qe,qe]at this⊢;rw[zC g,zC g];exact this⟩
 have r:=Fp (k:=k) (pw:=pw) ok;have m:gc k pw (da.set n (dB b)) (ds.set n (dB d))=(gc k pw da ds).set n (iJ k.tD (k.f pw) b d):=by
  apply zG;intro j;simp only[gc,q8,List.getElem?_zipWith,List.length_zipWith];by_cases l:n=j
  ·subst l;rw[g0 i4,g0 i5,g0 i4,g0 i5,g0 i4,g0 i5];rfl
  ·simp[l]
 refine aa.pV q ?_;rw[m];obtain⟨L,s⟩:∃L,L=gc k pw da ds:=⟨_,rfl⟩
 rw[<-s]at H r⊢;have c:n<i1 L:=i5
 have H:=H.fZ (n+2) (A:=L[n]) (D:=emp) (by rw[qw,qw,qo c,qd c]) λ_ _=>trivial;have v:(au a k.tS (cQ mc pw offs (da.set n (dB b)))::dl k.tP pw w::(L++(iJ k.tD (k.f pw) b d::As))).set (n+2) emp=au a k.tS (cQ mc pw offs (da.set n (dB b)))::dl k.tP pw w::(L.set n emp++(iJ k.tD (k.f pw) b d::As)):=by rw[zu,zu,List.set_append_left _ _ c]
 rw[v]at H;have o:i1 (L.set n emp)=i1 L:=zh;have u:=H.cons (i1 L+2) (A:=iJ k.tD (k.f pw) b d) (by
  rw[qw,qw,qj i5,o,zc];rfl)
 have e:(au a k.tS (cQ mc pw offs (da.set n (dB b)))::dl k.tP pw w::(L.set n emp++(iJ k.tD (k.f pw) b d::As))).set (i1 L+2) emp=au a k.tS (cQ mc pw offs (da.set n (dB b)))::dl k.tP pw w::(L.set n emp++(emp::As)):=by rw[zu,zu,qV _ _ i5,o,zc];rfl
 rw[e]at u;have x:=u.aX 3 [0,2,1];have E:aa B h0 h (iJ k.tD (k.f pw) b d::dl k.tP pw w::au a k.tS (cQ mc pw offs (da.set n (dB b)))::(L.set n emp++(emp::As))):=x;have y:=aa.JT n c E;have z:=aa.closeAll (au a k.tS (cQ mc pw offs (da.set n (dB b)))::dl k.tP pw w::L.set n (iJ k.tD (k.f pw) b d)) y;exact aa.py (L:=au a k.tS (cQ mc pw offs (da.set n (dB b)))::dl k.tP pw w::L.set n (iJ k.tD (k.f pw) b d)) z.rh
end
end Go.Vc
