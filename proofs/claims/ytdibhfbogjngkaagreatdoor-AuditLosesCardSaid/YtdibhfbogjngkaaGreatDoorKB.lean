/- Lemmas for the proof of the law; no condition. -/
import Derived.Test.YtdibhfbogjngkaaGreatDoorKA
import Derived.Test.YtdibhfbogjngkaaGreatDoorShelfB
import Derived.Test.YtdibhfbogjngkaaGreatDoorPlH
import Derived.Test.YtdibhfbogjngkaaGreatDoorPlI
set_option linter.unusedVariables false
set_option maxHeartbeats 2000000
set_option linter.unusedSimpArgs false
open Go.Proofs.Tryz renaming prog -> xR
open Go.Value renaming agg -> xM, bool -> xL, int -> xH, pointer -> xJ, slice -> xI, string -> xK
open Go.IntKind renaming bits -> qk, i64 -> xN, signed -> ve, u32 -> xP, u64 -> xQ, u8 -> xO, wrap -> qc
open Nat renaming add_sub_cancel_left -> zr, add_zero -> yn, le_refl -> qn, le_trans -> zi, mod_lt -> y7, mul_le_mul -> wq, mul_le_mul_right -> zB, mul_one -> z6, sub_self -> zc, succ_mul -> zK, zero_le -> z7
open Int renaming emod_lt_of_pos -> wh, emod_nonneg -> yc, mul_nonneg -> vW, natCast_mul -> wG, natCast_nonneg -> zY, ofNat_le -> y6, tmod -> wB, tmod_eq_emod_of_nonneg -> yO, toNat_natCast -> ql
open Bool renaming and_eq_true -> qB, and_self -> xz, false_or -> vD, not_eq_true' -> ym, or_eq_true -> wV, true_and -> zU
open List renaming all_cons -> xB, all_eq_false -> yA, all_eq_true -> qL, any_append -> yV, any_cons -> xA, any_eq_false -> zW, any_eq_true -> zV, any_nil -> xD, append_assoc -> qp, append_nil -> qN, drop_eq_getElem_cons -> qV, drop_of_length_le -> zf, eq_nil_of_length_eq_zero -> q9, ext_getElem? -> zC, filter_append -> zk, filter_cons -> zp, filter_eq_nil_iff -> wZ, filter_nil -> vl, flatMap_append -> zg, flatMap_cons -> zl, flatMap_nil -> wu, foldl_append -> zN, getD_eq_getElem?_getD -> qe, getElem?_append_left -> qm, getElem?_append_right -> qj, getElem?_cons_succ -> qu, getElem?_drop -> wC, getElem?_eq_getElem -> qd, getElem?_eq_none -> qZ, getElem?_eq_some_iff -> qo, getElem?_map -> qR, getElem?_range -> zu, getElem?_replicate -> wv, getElem?_set -> qY, getElem_map -> wy, getElem_mem -> qg, getElem_of_mem -> qH, getElem_zip -> vh, length_append -> qx, length_cons -> zo, length_filter_le -> qP, length_map -> qy, length_mergeSort -> w7, length_nil -> yE, length_range -> zA, length_set -> zj, map_append -> qT, map_cons -> wz, map_map -> yd, map_mergeSort -> vL, map_nil -> vY, mem_append -> qz, mem_cons -> zd, mem_cons_of_mem -> qS, mem_cons_self -> zb, mem_filter -> qI, mem_flatMap -> zJ, mem_map -> qw, mem_mergeSort -> yM, mem_range -> qG, mem_singleton -> qC, mergeSort_perm -> w5, nodup_cons -> yD, pairwise_append -> yh, pairwise_cons -> zF, range -> qE, range_succ -> zO, replicate -> qh, set_append_right -> q7, set_cons_zero -> zq, take_length -> q8, take_of_length_le -> qi, zipWith -> zh, zipWith_append -> yF
open Option renaming map_some -> qQ, some -> zS
open Go.Instr renaming storeAt -> qf
open Prod renaming ext -> y5, fst -> qJ, snd -> zH
set_option maxRecDepth 100000
open Option renaming some -> dB, none -> eH
open Bool renaming true -> eL, false -> eR
open Go renaming Addr -> fz
open Go.Vc renaming Heap -> f8
open List renaming length -> ii
namespace Go.Qw
open Go Go.Vc Go.Proofs Wl
theorem adt{α:Type}{h:f8}{e:TypeId}{s:Sl}{k:Nat}{f:α->be}{l:List α}(a:Own h e s k f l)(c:l≠[]):s.ptr.isNone=eR:=by
 rcases a.head with⟨_,_,h3⟩|⟨b,rest,h1,_⟩
 ·exact absurd h3 c
 ·rw[h1];rfl
theorem TV(p:Pm)(seed id:Int)(h:f8):ac xR 134 #[jU p,xH xP seed,xH xN id] h λv h'=>∃r:Sl,v=r/\
  Sp h h' [aq 5 r 1 aE (if bI p&&bV id then oC (bS p).toNat seed id else[])]/\r.ptr.isNone=!(bI p&&bV id):=by
 refine Yn p seed id ?_;unfold Tx;refine(Sp.refl h).boxed λa R B=>?_;refine bg ?_;refine⟨p,(B.box 0 i0).aS _ i0,(dM p R).mono ?_⟩;rintro v z ⟨rfl,L⟩;have y:=B.comp L;have m:(bI p&&bV id)=eR->Sp h z [aq 5 ⟨eH,0,0⟩ 1 aE (if bI p&&bV id then oC (bS p).toNat seed id else[])]/\Option.isNone (eH:aT)=!(bI p&&bV id):=λJ=>by
  rw[J];exact⟨(y.nil 5 1 aE).take 1 (λi A g=>by cases i with|zero=>exact g|succ i=>simp at g),i0⟩
 refine⟨_,i0,bm (λe=>⟨⟨eH,0,0⟩,i0,m n8⟩) λl=>?_⟩;refine aj (λe=>⟨⟨eH,0,0⟩,i0,m l4⟩) λU=>?_;refine aj (λe=>⟨⟨eH,0,0⟩,i0,m l4⟩) λH=>?_;have hid:bV id=eL:=l4
 refine⟨p,(y.box 0 i0).aS _ i0,(jZ p z).mono ?_⟩;rintro v h3 ⟨rfl,P⟩;have N:=y.comp P;have K:=(ce p).1 l;have V:bS p=p.1+p.2.1:=by rw[bS,f9 l]
 obtain⟨n,G⟩:∃n:Nat,bS p=n:=⟨(bS p).toNat,i4⟩
 refine⟨_,i0,?_⟩;dsimp only;rw[G];refine N.make af aE gj i5 0 i0 i0 n n i0 i0 (qn _) i4 λv I T M F=>?_;refine⟨p,(F.box 0 i0).aS _ i0,(BS p seed id I).mono ?_⟩;rintro w X ⟨c,rfl,q⟩;rw[l,hid,G,ql]at q;rw[l,hid,ql];have u:=F.comp q;have j:=u.seq 2 i0 λ_=>rfl;have s:=j.len;obtain⟨b,d⟩:∃b,b=dj n seed id:=⟨_,rfl⟩
 have t:∀x∈b,0<=x/\x<(n:Int):=λx E=>mM i4 i4 (by rw[<-d];exact E);have D:ii b<=n:=by rw[d];exact Bu i4 i4 _ _
 simp only[xz,if_true,<-d]at u j s q;refine⟨c,i0,?_⟩;refine av (λi:Nat=>(i:Int)) (λi h'=>i<=ii b/\Sp h h' [aw a 24 [xH xN p.1,xH xN p.2.1,xH xN p.2.2],aq 5 v 1 aE (ga n (b.take i)),aq 3 c 1 aC b]) (λi=>ii b-i) 0 i0 ⟨i4,u⟩ ?_;rintro i Q ⟨g,k⟩;refine aj (λe=>?_) (λe=>?_)
 ·have f:i<ii b:=i4
  have E:=t _ (qg f);refine(k.seq 2 i0 λ_=>rfl).bB i i0 f _ i0 ?_;refine k.set af 1 i0 (λ_=>rfl) i0 b[i].toNat i4 (by rw[rX];omega) 1 i0 i0 i0 λW S=>?_;refine⟨i+1,js,⟨i4,?_⟩,i4⟩;have H:ga n (b.take (i+1))=(ga n (b.take i)).set b[i].toNat 1:=by rw[aK _ _ f,ga,zN];rfl
  rw[H];exact S
 ·rw[qi i4]at k;have o:Sp h Q [aq 5 v 1 aE (ga n b)]:=(k.del 2).take 1 (λi A g=>by cases i with|zero=>exact g|succ i=>simp at g);refine⟨v,i0,?_,adt (o.own 0 i0) λO=>?_⟩
  ·rw[d]at o;exact o
  ·have:=rX n b;rw[O]at this;simp at this;omega
theorem ui(p:Pm)(h:f8):ac xR 70 #[jU p] h λv h'=>∃r:Sl,v=r/\Sp h h' [gl 34 r 1 aE (if bI p then bD p.1.toNat p.2.1.toNat else[])]:=by
 refine Tr p ?_;unfold Mk;refine(Sp.refl h).boxed λa Y z=>?_;refine⟨p,(z.box 0 i0).aS _ i0,(dM p Y).mono ?_⟩;rintro v G ⟨rfl,M⟩;have F:=z.comp M;refine⟨_,i0,bm (λe=>⟨⟨eH,0,0⟩,i0,?_⟩) λw=>?_⟩
 ·rw[e];exact(F.LC 34 1 aE).take 1 (λi A c=>by cases i with|zero=>exact c|succ i=>simp at c)
 have L:=(ce p).1 w;have S:bS p=p.1+p.2.1:=by rw[bS,f9 w]
 obtain⟨K,Z⟩:∃K:Nat,p.1=K:=⟨p.1.toNat,i4⟩
 obtain⟨b,N⟩:∃H:Nat,p.2.1=H:=⟨p.2.1.toNat,i4⟩
 refine(ro G).mono ?_;rintro v h3 ⟨f,rfl,W⟩;have D:=(F.comp W).LC 34 1 aE;refine⟨dB f,i0,_,(D.box 0 i0).cell i0,?_⟩;refine av (λt:Sl×Nat=>(t.1,(t.2:Int))) (λt h'=>t.2<=b/\Sp h h' [aw a 24 [xH xN p.1,xH xN p.2.1,xH xN p.2.2],aw f 197 cU,gl 34 t.1 1 aE ((bD K b).take t.2)]) (λt=>b-t.2) (⟨eH,0,0⟩,0) i0 ⟨i9,D⟩ ?_;rintro⟨s,k⟩ J ⟨hk,d⟩;dsimp only at*;refine aj (λe=>?_) (λe=>?_)
 ·have U:k<b:=i4
  refine bg ⟨p,(d.box 0 i0).aS _ i0,p.1,(d.box 0 i0).cell0 i0,?_⟩;refine(jZ p J).mono ?_;rintro v h5 ⟨rfl,X⟩;have E:=d.comp X;refine⟨_,i0,⟨(E.box 0 i0).cell0 i0,trivial⟩,?_⟩;dsimp only;rw[ak (p.1+k),S];refine(aaV _ _ h5).mono ?_;rintro v h6 ⟨u,rfl,x⟩;rw[f9 i4]at x;have P:(p.1+p.2.1).toNat=K+b:=i4
  have e2:(p.1+(k:Int)).toNat=K+k:=i4
  rw[P,e2]at x;have o:=E.comp x;refine⟨u,i0,⟨(o.box 0 i0).cell0 i0,trivial⟩,p.1,(o.box 0 i0).cell0 i0,?_⟩;let rowAt:Nat->bc:=λj=>(qE j).map (λi=>Gf.pw ((k+1)*(i+1)%255))++((qh (K+b) (0:UInt8)).set (K+k) 1).drop j;refine av (λj:Nat=>(j:Int)) (λj h'=>j<=K/\Sp h h' [aw a 24 [xH xN p.1,xH xN p.2.1,xH xN p.2.2],aw f 197 cU,gl 34 s 1 aE ((bD K b).take k),aq 5 u 1 aE (rowAt j)]) (λj=>K-j) 0 i0 ⟨i4,o⟩ ?_;rintro j T ⟨hj,n⟩;refine aj (λQ=>?_) (λQ=>?_)
  ·have g:j<K:=i4
   have hm:(k+1)*(j+1)<=4*16:=wq i4 i4;have O:qc xN (qc xN ((k:Int)+1)*qc xN ((j:Int)+1))=(((k+1)*(j+1):Nat):Int):=by rw[ak ((k:Int)+1),ak ((j:Int)+1),show((k:Int)+1)*((j:Int)+1)=(((k+1)*(j+1):Nat):Int)by rw[wG];rfl];exact uE _
   rw[O];refine(ads f _ T (n.box 1 i0)).mono ?_;rintro v h8 ⟨rfl,rfl⟩;refine⟨_,i0,?_⟩;have B:ii (rowAt j)=K+b:=by simp[rowAt];omega
   refine n.set af 3 i0 (λ_=>rfl) i0 j i0 i4 _ i0 i0 i0 λh9 q=>?_;refine⟨j+1,js,⟨i4,?_⟩,i4⟩;have y:(rowAt j).set j (Gf.pw ((((k+1)*(j+1):Nat):Int)%255).toNat)=rowAt (j+1):=by
    have I:((((k+1)*(j+1):Nat):Int)%255).toNat=(k+1)*(j+1)%255:=i4
    rw[I];simp only[rowAt];rw[q7 _ _ i9,qy,zA,zc,qV i7,zq,zO,qT,qp];rfl
   rw[<-y];exact q
  ·have g:j=K:=i4
   subst g;have y:rowAt j=lO j b k:=by
    simp only[rowAt,lO];congr 1;apply zC;intro i;rw[wC,qY,qR];by_cases c:i<b
    ·rw[zu c,qQ,wv];by_cases m:i=k
     ·subst m;simp[c]
     ·rw[g0 i4,f9 i4,g0 m]
    ·rw[qZ (l:=qE b) i7,g0 i4,wv,g0 i4];rfl
   rw[y]at n;have H8:=n.freeze 3 i0 λ_=>rfl;have R:ii ((bD j b).take k)=k:=by simp[bD];omega
   refine H8.uX af 2 3 i5 i0 i0 fj i4 λs' h9 q=>?_;refine⟨(s',k+1),jj,⟨i6,?_⟩,i6⟩;have V:(bD j b).take (k+1)=(bD j b).take k++[lO j b k]:=by rw[aK _ _ (by simp[bD];omega)];simp[bD]
   dsimp only;rw[V];exact q.del 3
 ·refine⟨s,i0,?_⟩;rw[f9 w,Z,N,ql,ql];rw[qi (by simp[bD];omega)]at d;exact d.take 2 (λi A c=>by cases i with|zero=>exact c|succ i=>simp at c)
theorem Nf(p:Pm)(h:f8):ac xR 176 #[jU p] h λv h'=>∃r:Sl,v=r/\Sp h h' [aq 3 r 1 aC (upto (max 0 (min p.1 16)).toNat)]:=by
 refine KT p ?_;unfold Dk;refine(Sp.refl h).boxed λa o b=>?_;refine⟨p.1,(b.box 0 i0).cell0 i0,?_⟩;have em:(if(if(16:Int)<p.1 then(16:Int)else p.1)>(0:Int)then(if(16:Int)<p.1 then(16:Int)else p.1)else(0:Int))=((max 0 (min p.1 16)).toNat:Int):=by split<;>split<;>omega
 dsimp only;rw[em];generalize n:(max 0 (min p.1 16)).toNat=N;have c:N<=16:=i4
 refine av (λt:Sl×Nat=>(t.1,(t.2:Int))) (λt h'=>t.2<=N/\Sp h h' [emp,aq 3 t.1 1 aC (upto t.2)]) (λt=>N-t.2) (⟨eH,0,0⟩,0) i0 ⟨i9,(b.fI 0 i0 λ_ _=>trivial).nil 3 1 aC⟩ ?_;rintro⟨s,k⟩ m ⟨q,f⟩;dsimp only at*;refine aj (λe=>?_) (λe=>?_)
 ·refine f.push af 1 i0 lx i0 i5 (λ_=>rfl) ir (k:Int) i0 i5 qs λl h3 g=>?_;refine⟨(l,k+1),jj,⟨i6,?_⟩,i6⟩;have j:upto (k+1)=upto k++[(k:Int)]:=by simp[upto,zO]
  dsimp only;rw[j];exact g
 ·have:k=N:=i4
  subst this;exact⟨s,i0,f.take 1 λi A d=>by cases i with|zero=>exact d|succ i=>simp at d⟩
theorem Kd(p:Pm)(seed:Int)(ids:Sl)(l:aF)(h:f8)(x:Rd h ids 1 aC l)(J:ii l<=2^30):ac xR 66 #[jU p,xH xP seed,ids] h λv h'=>∃r:Sl,v=r/\Sp h h' [gl 34 r 1 aE (dH p seed l)]:=by
 refine Jo p seed ids ?_;unfold BJ;refine(Sp.refl h).boxed λa z u=>?_;refine⟨p,(u.box 0 i0).aS _ i0,(ui p z).mono ?_⟩;rintro v E ⟨r,rfl,G⟩;have D:=u.comp G;refine⟨r,i0,?_⟩;have y:=x.len;let at_:Nat->cP:=λk=>dH p seed (l.take k);have h0:(if bI p then bD p.1.toNat p.2.1.toNat else[])=at_ 0:=by simp[at_,dH]
 rw[h0]at D;refine av (λt:Sl×Nat=>(t.1,(t.2:Int))) (λt h'=>t.2<=ii l/\Sp h h' [aw a 24 [xH xN p.1,xH xN p.2.1,xH xN p.2.2],gl 34 t.1 1 aE (at_ t.2)]) (λt=>ii l-t.2) (r,0) i0 ⟨i9,D⟩ ?_;rintro⟨s,k⟩ h3 ⟨N,j⟩;dsimp only at*;refine aj (λe=>?_) (λe=>?_)
 ·have d:k<ii l:=i4
  refine(Seq.up x j.ai).bB k i0 d _ i0 ?_;refine⟨p,(j.box 0 i0).aS _ i0,(TV p seed l[k] h3).mono ?_⟩;rintro v L ⟨w,rfl,H,c⟩;have n:=(j.comp H).freeze 2 i0 λ_=>rfl;refine⟨w,i0,?_⟩;have o:ii (at_ k)<=4+k∨at_ k=[]:=by
   by_cases q:bI p
   ·left;have:=(ce p).1 q;have z:=qP bV (l.take k);have E:=List.length_take_le k l;simp only[at_,dH,q,if_true,qx,qy,bD,zA];omega
   ·right;simp[at_,dH,q]
  have g:ii (at_ k)+1<=2^32:=by
   rcases o with h|h
   ·omega
   ·rw[h];simp
  dsimp only;refine bm (λf=>?_) (λf=>?_)
  ·rw[c]at f;have b:(bI p&&bV l[k])=eL:=n5
   rw[b,f9 rfl]at n;refine n.uX af 1 2 i5 i0 i0 fj g λK M I=>?_;refine⟨(K,k+1),jj,⟨i6,?_⟩,i6⟩;rw[qB]at b;have m:at_ (k+1)=at_ k++[oC (bS p).toNat seed l[k]]:=by simp only[at_,dH,b.1,if_true];rw[oD d,f9 b.2,qT,qp];rfl
   dsimp only;rw[m];exact I.del 2
  ·rw[c]at f;have b:(bI p&&bV l[k])=eR:=by
    cases hh:(bI p&&bV l[k])with
    |false=>rfl
    |true=>rw[hh]at f;cases f
   refine⟨(s,k+1),jj,⟨i6,?_⟩,i6⟩;have m:at_ (k+1)=at_ k:=by
    simp only[at_,dH];rw[Bool.and_eq_false_iff]at b;rcases b with h|h
    ·simp[h]
    ·have F:(l.take (k+1)).filter bV=(l.take k).filter bV:=by rw[oD d,g0 rb]
     rw[F]
   dsimp only;rw[m];exact n.del 2
 ·refine⟨s,i0,?_⟩;have m:at_ k=dH p seed l:=by simp only[at_];rw[qi i4]
  rw[m]at j;exact j.take 1 (λi A B=>by cases i with|zero=>exact B|succ i=>simp at B)
theorem nf(a:Sl)(m:aQ)(n:Nat)(h:f8)(d:fF h a 1 aE m)(j:aZ n m)(o:n<=64:=by omega)(p:ii m<=2^30:=by omega):ac xR 200 #[a] h λv h'=>v=xL eL/\h'=h:=by
 refine VE a ?_;unfold PX;have l:=d.len;refine av (λk:Nat=>(k:Int)) (λk h'=>h'=h/\k<=ii m) (λk=>ii m-k) 0 i0 ⟨i0,i4⟩ ?_;rintro k h' ⟨rfl,q⟩;refine aj (λe=>?_) λe=>⟨i0,i0⟩;have c:k<ii m:=i4
 refine d.get k i0 c λr g=>?_;refine d.get 0 i0 i4 λs b=>?_;have i:=g.len;have f:=b.len;rw[j _ (qg _)]at i f;refine cv (λe=>i4) λ_=>aj (λe=>i4) λ_=>?_;exact⟨k+1,js,⟨i0,i4⟩,i4⟩
theorem AK(a:Sl)(m:aQ)(n:Nat)(h:f8)(d:fF h a 1 aE m)(x:aZ n m)(D:n<=64:=by omega)(E:ii m<=2^30:=by omega):ac xR 201 #[a] h λv h'=>∃(r:Sl) (rs:List Sl),v=r/\rs.length=ii m/\Sp h h' (aq 34 r 1 bt rs::bM 5 1 aE rs m):=by
 refine VF a ?_;unfold PY;have z:=d.len;refine(Sp.refl h).make af bt fj i5 ⟨eH,0,0⟩ i0 i0 0 m.length i0 i4 i4 i4 λs B j A g=>?_;refine av (λt:Sl×List Sl=>(t.1,(ii t.2:Int))) (λt h'=>ii t.2<=ii m/\Sp h h' (aq 34 t.1 1 bt t.2::bM 5 1 aE t.2 (m.take t.2.length))) (λt=>ii m-ii t.2) (s,[]) i0 ⟨i9,by simpa[bM]using g⟩ ?_;rintro⟨s,rs⟩ f ⟨F,c⟩;dsimp only at*;refine aj (λe=>?_) (λe=>?_)
 ·have b:ii rs<ii m:=i4
  refine(d.up c.ai).get rs.length i0 b λr p=>?_;have i:m[ii rs].length=n:=x _ (qg _);refine(eI r _ f p i4).mono ?_;rintro v h3 ⟨w,rfl,o⟩;have k:=c.comp o;refine⟨w,i0,?_⟩;refine k.push af 0 i0 fj i0 i5 (λ_=>rfl) iU w i0 i5 i4 λu y l=>?_;refine⟨(u,rs++[w]),by dsimp only;rw[ak _];simp,⟨i7,?_⟩,i7⟩;dsimp only;rw[show(rs++[w]).length=ii rs+1 by simp,aK _ _ b,xS (by rw[List.length_take];omega)];exact l
 ·have q:m.take rs.length=m:=qi i4;rw[q]at c;exact⟨s,rs,i0,i4,c⟩
theorem sl(a:Sl)(m:aQ)(h:f8)(b:fF h a 1 aE m):ac xR 204 #[a] h λv h'=>v=xH xN (eu m)/\h'=h:=by
 refine Ri a ?_;unfold JX;have d:=b.len;refine cu (λe=>?_) (λe=>?_)
 ·have:m=[]:=q9 i4;subst this;exact⟨i0,i0⟩
 ·refine b.get 0 i0 i4 λr c=>⟨?_,i0⟩
  rw[c.len,eu,bA i4]
theorem TW{r:Row}{c:Nat}(h:c<ii r:=by omega):aP r c=r[c]:=by rw[aP,qe,qd h];rfl
theorem VX(a:Sl)(m:aQ)(n b bx:Nat)(h:f8)(q:fF h a 1 aE m)(w:aZ n m)(y:bx<n)(z:ii m<=2^30):
  ac xR 249 #[a,xH xN b,xH xN bx] h λv h'=>v=xH xN (match iN m b bx with|some i=>(i:Int)|none=>-1)/\h'=h:=by
 refine OQ a b bx ?_;unfold HK;have x:=q.len;refine av (λk:Nat=>(k:Int)) (λk h'=>h'=h/\b<=k/\k<=max b m.length/\∀j,j<k->(decide (b<=j)&&(aP (aD m j) bx !=0))=eR) (λk=>ii m-k) b i0 ⟨i0,i4,i4,λj g=>by rw[hU i4];rfl⟩ ?_;rintro k h' ⟨rfl,o,t,g⟩;refine aj (λe=>?_) (λe=>?_)
 ·rw[iN,XM λj f=>g j i4];exact⟨i0,i0⟩
 ·have d:k<ii m:=i4
  have s:m[k].length=n:=w _ (qg _);refine q.get k i0 d λr u=>?_;refine u.bB bx i0 i4 _ i0 ?_;have c:aP (aD m k) bx=m[k][bx]'(by omega):=by rw[bA d,TW]
  refine cv (λp=>?_) (λp=>?_)
  ·have l:(decide (b<=k)&&(aP (aD m k) bx !=0))=eL:=by rw[g9 o,c];simp;exactλh0=>p (by rw[h0];rfl)
   rw[iN,XN d g l];exact⟨i0,i0⟩
  ·refine⟨k+1,js,⟨i0,i4,i4,λj f=>?_⟩,i4⟩;rcases Nat.lt_succ_iff_lt_or_eq.1 f with h1|rfl
   ·exact g j h1
   ·rw[c,CE.1 p];simp
theorem Ng(f:fz)(c:UInt8)(a:Sl)(l:Row)(h:f8)(i:fw h f)(m:Rd h a 1 aE l)(y:ii l<=2^30):ac xR 250 #[xJ (dB f),xH xO c.toNat,a] h λv h'=>∃r:Sl,v=r/\Sp h h' [aq 5 r 1 aE (scaleB c l)]:=by
 refine Rk (dB f) _ a ?_;unfold JZ;have w:=m.len;refine(Rn f h).mono ?_;rintro v j ⟨rfl,rfl⟩;refine⟨dB f,i0,?_⟩;refine(Sp.refl j).make af aE gj i5 0 i0 i0 l.length l.length i4 i4 (qn _) i4 λs t n x q=>?_;refine av (λk:Nat=>(k:Int)) (λk h'=>k<=ii l/\Sp j h' [aq 5 s 1 aE ((l.take k).map (Gf.mul c)++qh (ii l-k) 0)]) (λk=>ii l-k) 0 i0 ⟨i4,p9⟩ ?_;rintro k h3 ⟨A,b⟩;refine aj (λe=>?_) (λe=>?_)
 ·have d:k<ii l:=i4
  refine(Seq.up m b.ai).bB k i0 d _ i0 ?_;refine(Lg f c l[k] h3 (i.ai b.ai i.lt)).mono ?_;rintro v u ⟨rfl,rfl⟩;refine⟨_,i0,?_⟩;refine b.set af 0 i0 (λ_=>rfl) i0 k i0 i7 _ i0 i0 i0 λz p=>?_;refine⟨k+1,js,⟨i4,?_⟩,i4⟩;have g:ii ((l.take k).map (Gf.mul c))=k:=i7
  have o:((l.take k).map (Gf.mul c)++qh (ii l-k) 0).set k (Gf.mul c l[k])=(l.take (k+1)).map (Gf.mul c)++qh (ii l-(k+1)) 0:=by rw[q7 _ _ i4,g,zc,show l.length-k=ii l-(k+1)+1 by omega,List.replicate_succ,zq,aK _ _ d,qT,qp];rfl
  rw[<-o];exact p
 ·have:k=ii l:=i4
  subst this;refine⟨s,i0,?_⟩;rw[qi (qn _),zc,List.replicate_zero,qN]at b;exact b
theorem AL{c:UInt8}{a t:Row}(d:ii a=ii t){k:Nat}(b:k<ii t):(zh (λx y=>y^^^Gf.mul c x) (a.take k) (t.take k)++t.drop k).set k (t[k]^^^Gf.mul c (a[k]'(by omega)))=zh (λx y=>y^^^Gf.mul c x) (a.take (k+1)) (t.take (k+1))++t.drop (k+1):=by
 have e:ii (zh (λx y=>y^^^Gf.mul c x) (a.take k) (t.take k))=k:=i7
 rw[q7 _ _ i4,e,zc,qV b,zq,aK _ _ b,aK _ _ (show k<ii a by omega),yF i7];simp
theorem adu(f:fz)(c:UInt8)(a g:Sl)(d lt:Row)(h:f8)(E:fw h f)(w:¬g.on f.block)(B:Seq h (λb=>¬g.on b) a 1 aE d)(t:Own h 5 g 1 aE lt)(o:ii d=ii lt)(J:ii d<=2^30):
  ac xR 252 #[xJ (dB f),xH xO c.toNat,a,g] h λv h'=>v=.tuple #[]/\Own h' 5 g 1 aE (cR c d lt)/\aV (λb=>¬g.on b) h h':=by
 refine VH (dB f) _ a g ?_;unfold Qa;have I:=B.len;have F:=t.len;refine cu (λe=>?_) (λ_=>?_)
 ·have H:c=0:=CE.1 e;subst H;have:cR 0 d lt=lt:=by apply List.ext_getElem (by rw[bT o]);intro i A D;simp[cR,Gf.zero_mul]
  exact⟨i0,by rw[this];exact t,aV.refl _ _⟩
 ·refine av (λk:Nat=>(k:Int)) (λk h'=>k<=ii d/\Own h' 5 g 1 aE (zh (λx y=>y^^^Gf.mul c x) (d.take k) (lt.take k)++lt.drop k)/\aV (λb=>¬g.on b) h h') (λk=>ii d-k) 0 i0 ⟨i4,qa,aV.refl _ _⟩ ?_;rintro k A ⟨K,l,j⟩;refine aj (λe=>?_) (λe=>?_)
  ·have r:k<ii d:=i4
   have z:k<ii lt:=i4
   have n:ii (zh (λx y=>y^^^Gf.mul c x) (d.take k) (lt.take k))=k:=i7
   have G:ii (zh (λx y=>y^^^Gf.mul c x) (d.take k) (lt.take k)++lt.drop k)=ii lt:=by rw[qx,n,List.length_drop];omega
   refine(B.ai j).bB k i0 r _ i0 ?_;have m:(zh (λx y=>y^^^Gf.mul c x) (d.take k) (lt.take k)++lt.drop k)[k]'(by omega)=lt[k]:=by rw[List.getElem_append_right i4];simp[n]
   refine(l.seq (p:=λ_=>True) (λ_=>rfl) λ_ _=>trivial).RJ k i0 i4 _ i0 λax q=>?_;rw[m]at q⊢;refine(Lg f c d[k] A (E.ai j w)).mono ?_;rintro v D ⟨rfl,rfl⟩;refine⟨_,i0,⟨q,trivial⟩,?_⟩;dsimp only;rw[ne];refine l.set af (λ_=>rfl) i0 k i0 i4 _ i0 i0 i0 λh3 s u _=>⟨trivial,?_⟩
   refine⟨k+1,js,⟨i4,?_,j.trans u⟩,i4⟩;rw[<-AL o z];exact s
  ·have:k=ii d:=i4
   subst this;rw[qi (qn _),qi i4,zf i4,qN]at l;exact⟨i0,l,j⟩
abbrev nQ(a:Sl)(rs:List Sl)(m:aQ):List HP:=aq 34 a 1 bt rs::bM 5 1 aE rs m
theorem pq{a:Sl}{rs:List Sl}{m:aQ}(c:ii rs=ii m)(i:Nat)(b:i<ii m):(nQ a rs m)[i+1]?=dB (aq 5 (rs[i]'(by omega)) 1 aE m[i]):=by rw[qu];exact gg c i b
theorem pr{h h':f8}{a:fz}{v:Value}(c:cellOf h a=dB v)(d:aV (λb=>b<h.size) h h'):cellOf h' a=dB v:=d.cell (uC c) c
theorem aaZ{B:aB}{A:f8}{f:fz}(L:fw A f)(G:B f.block){a:Sl}{n c bx:Nat}{rs:List Sl}{m:aQ}(V:ii rs=ii m)(hm:aZ n m)(hc:bx<n)(hn:n<=64)(W:c<ii m)(hs:ii m<=2^30)
  {h:f8} (H:aa B A h (nQ a rs m)) {K:f8->Prop} (hk:∀h',aa B A h' (nQ a rs (eP c bx m m.length))->K h'):
 aM (σ:=Int) (λd U i=>
 Br (decide (d<((a.len:Nat):Int)))
 (Br (d !=(c:Int))
 (∃t:fz,(a.ptr=dB t/\0<=d/\d<((a.len:Nat):Int))/\
 ∃g:Sl,cellOf i (t.add (d.toNat*1))=dB (xI g.ptr g.len g.cap)/\
 ∃z:fz,(g.ptr=dB z/\0<=(bx:Int)/\(bx:Int)<((g.len:Nat):Int))/\
 ∃y:Int,cellOf i (z.add ((bx:Int).toNat*1))=dB (xH xO y)/\
 ∃a25:fz,(a.ptr=dB a25/\0<=(c:Int)/\(c:Int)<((a.len:Nat):Int))/\
 ∃j:Sl,cellOf i (a25.add ((c:Int).toNat*1))=dB (xI j.ptr j.len j.cap)/\
 ∃I:fz,(a.ptr=dB I/\0<=d/\d<((a.len:Nat):Int))/\
 ∃l:Sl,cellOf i (I.add (d.toNat*1))=dB (xI l.ptr l.len l.cap)/\
 ae xR 252 #[(xJ (dB f)),(xH xO y),(xI j.ptr j.len j.cap),(xI l.ptr l.len l.cap)] (.many []) i λ_ J=>
 (aA.ok [(t.add (d.toNat*1),(xI g.ptr g.len g.cap))] J)/\
 U (qc xN (d+(1:Int))) J)
 (U (qc xN (d+(1:Int))) i))
 (K i)) (0:Int) h:=by
 have ab:a.len=ii m:=by rw[(H.own 0 i0).len,V]
 refine av (λk:Nat=>(k:Int)) (λk h'=>k<=ii m/\aa B A h' (nQ a rs (eP c bx m k))) (λk=>ii m-k) 0 i0 ⟨i4,by rw[ZQ];exact H⟩ ?_;rintro k X ⟨ad,o⟩;have Q:=oF c bx m k;have r:ii rs=ii (eP c bx m k):=by rw[Q];exact V
 refine aj (λe=>?_) (λe=>?_)
 ·have s:k<ii m:=i4
  refine cv (λY=>?_) (λY=>?_)
  ·have u:k≠c:=λhh=>Y (by rw[hh]);have P:aD (eP c bx m k) k=aD m k:=by rw[rY s,g0 i4]
   have O:aD (eP c bx m k) c=aD m c:=by rw[rY W,g0 i4]
   have e4:(eP c bx m k)[k]'(by omega)=aD m k:=by rw[<-P,bA]
   have e5:(eP c bx m k)[c]'(by omega)=aD m c:=by rw[<-O,bA]
   have x:=pq (a:=a) r k i4;have Z:=pq (a:=a) r c i4;rw[e4]at x;rw[e5]at Z;have lk:=cl hm s;have lt:=cl hm W;have q:=o.off (k+1) 0 i4 x i0;have w:=q.1.seq (λ_=>rfl) q.2;refine w.nN k i0 i4 λa1 S T=>?_;have R:=o.seq (k+1) x λ_=>rfl;refine R.bB bx i0 i4 _ i0 ?_;refine w.nN c i0 i4 λ_ _ _=>?_;refine w.nN k i0 i4 λ_ _ _=>?_;have D:(tZ (rs[c]'(by omega)) 1 aE (aD m c)).p X (λb=>¬(rs[k]'(by omega)).on b):=by have:=o.off (k+1) (c+1) i4 x Z;exact(this.1.seq (λ_=>rfl) this.2).mono λb hb=>hb.2
   refine(adu f _ _ _ (aD m c) (aD m k) X (L.ai o.ai G) (o.base (k+1) x G) D (o.own (k+1) x) i4 i4).mono ?_;rintro v h2 ⟨rfl,M,E⟩;have H2:=o.kX (k+1) x E M;have N:=E.cell T.2 S;refine⟨(),i0,⟨N,trivial⟩,?_⟩;refine⟨k+1,js,⟨i4,?_⟩,i4⟩;rw[ZR s u];show aa B A h2 (aq 34 a 1 bt rs::bM 5 1 aE rs ((eP c bx m k).set k _));rw[<-So r k i4];have F:(aD m k)[bx]'(by omega)=aP (aD m k) bx:=(TW).symm;rw[F]at H2;exact H2
  ·have u:k=c:=i4
   subst u;exact⟨k+1,js,⟨i4,by rw[ZS];exact o⟩,i4⟩
 ·have:k=ii m:=i4
  subst this;exact hk _ o
theorem TX{rs:List Sl}{m:aQ}(a:ii rs=ii m)(i j:Nat)(b:i<ii m)(c:j<ii m):
  ((bM 5 1 aE rs m).set i (aq 5 (rs[j]'(by omega)) 1 aE m[j])).set j (aq 5 (rs[i]'(by omega)) 1 aE m[i])=bM 5 1 aE ((rs.set i (rs[j]'(by omega))).set j (rs[i]'(by omega))) (iZ m i j):=by
 rw[mj a,mj j7,iZ,bA b,bA c]
theorem CF{B:aB}{x:f8}{f:fz}(L:fw x f)(Q:B f.block){a:Sl}{n cS:Nat}{rs:List Sl}{m:aQ}(hl:ii rs=ii m)(hm:aZ n m)(hc:cS<=n)(hn:n<=64)(hs:ii m<=2^30)
  {h:f8} (H:aa B x h (nQ a rs m)):ac xR 202 #[xJ (dB f),a,xH xN cS] h λv h'=>
   ∃V:List Sl,v=xH xN (bG m cS).1/\V.length=ii m/\aa B x h' (nQ a V (bG m cS).2):=by
 have ah:a.len=ii m:=by rw[(H.own 0 i0).len,hl]
 refine ON (dB f) a cS ?_;unfold HD;refine av (λt:List Sl×Nat=>(((bG m t.2).1:Int),(t.2:Int))) (λt h'=>t.2<=cS/\t.1.length=ii m/\aa B x h' (nQ a t.1 (bG m t.2).2)) (λt=>cS-t.2) (rs,0) i0 ⟨i9,hl,H⟩ ?_;rintro⟨c,bx⟩ h1 ⟨hk,O,K⟩;dsimp only at*;have s:=gG hm bx;have E:=DY m bx;obtain⟨st,w⟩:∃st,st=bG m bx:=⟨_,rfl⟩
 rw[<-w]at s E K⊢;obtain⟨b,l⟩:=st;dsimp only at s E K⊢;have y:ii c=ii l:=i4
 have d:bG m (bx+1)=ja (b,l) bx:=by rw[bG,<-w]
 refine aj (λe=>?_) (λe=>?_)
 ·have R:bx<n:=i4
  have T:fF h1 a 1 aE l:=K.Sq y λ_=>rfl;refine(VX a l n b bx h1 T s.1 R i4).mono ?_;rintro v h2 ⟨rfl,rfl⟩;refine⟨_,i0,?_⟩;dsimp only;cases hb:iN l b bx with
  |none=>
   refine aj (λ_=>?_) λZ=>absurd i5 Z;refine⟨(c,bx+1),?_,⟨i6,O,?_⟩,i6⟩
   ·dsimp only;rw[d,ja,hb,ak _];rfl
   ·dsimp only;rw[d,ja,hb];exact K
  |some i=>
   have hh:=sJ hb;refine aj (λZ=>absurd (show((i:Nat):Int)<0 from Z) i4) λ_=>?_;dsimp only;have J:b<ii l:=i4
   have hi:=hh.2.1;have U:=K.seq 0 i0 λ_=>rfl;refine bg ?_;refine U.nN i i0 i4 λ_ _ _=>?_;refine U.nN b i0 i4 λ_ _ _=>?_;refine K.set af 0 i0 (λ_=>rfl) i0 b i0 i4 (c[i]'(by omega)) i0 i0 i0 λh3 H3=>⟨trivial,?_⟩
   refine H3.set af 0 i0 (λ_=>rfl) i0 i i0 i7 (c[b]'(by omega)) i0 i0 i0 λW H4=>⟨trivial,?_⟩
   have o:aa B x W (nQ a ((c.set b (c[i]'(by omega))).set i (c[b]'(by omega))) (iZ l b i)):=by have:=H4.aey (b+1) (i+1) (A:=aq 5 (c[b]'(by omega)) 1 aE l[b]) (A2:=aq 5 (c[i]'(by omega)) 1 aE l[i]) (gg y b J) (gg y i hi);show aa B x W (aq 34 a 1 bt _::bM 5 1 aE _ _);rw[<-TX y b i J hi];exact this
   obtain⟨j,F⟩:∃j,j=(c.set b (c[i]'(by omega))).set i (c[b]'(by omega)):=⟨_,rfl⟩
   rw[<-F]at o;have am:ii j=ii l:=by rw[F];simp;omega
   obtain⟨g,u⟩:∃g,g=iZ l b i:=⟨_,rfl⟩
   have D:aZ n g:=by rw[u];exact GF s.1 J hi
   have N:ii g=ii l:=by rw[u];exact lG _ _ _
   rw[<-u]at o;have p:ii j=ii g:=i4
   have k:b<ii g:=i4
   refine bg ?_;have gt:=pq (a:=a) p b k;have lt:g[b].length=n:=D _ (qg _);have P:=o.seq 0 i0 λ_=>rfl;refine P.nN b i0 i4 λap z _=>?_;have G:=o.seq (b+1) gt λ_=>rfl;refine G.bB bx i0 i4 _ i0 ?_;refine P.nN b i0 i4 λao M _=>?_;have S:fw W f:=L.ai o.ai Q;refine(adq f _ W S).mono ?_;rintro v h5 ⟨rfl,rfl⟩;refine⟨_,i0,⟨M,z,trivial⟩,?_⟩;refine(Ng f _ _ _ h5 S G i4).mono ?_;rintro v h6 ⟨r,rfl,R6⟩;refine⟨r,i0,⟨pr z R6.ai,trivial⟩,?_⟩;have H6:=o.comp R6;dsimp only;refine H6.set af 0 i0 (λ_=>rfl) i0 b i0 i4 r i0 i0 i0 λY H7=>⟨trivial,?_⟩
   have ad:g[b]=aD g b:=(bA k).symm;have X:(g[b])[bx]'(by omega)=aP (aD g b) bx:=by rw[TW (by rw[bA k];omega)];simp only[bA k]
   have ab:aa B x Y (nQ a (j.set b r) (jM b bx g)):=by have h8:aa B x Y ((aq 34 a 1 bt (j.set b r)::bM 5 1 aE j g)++[aq 5 r 1 aE (scaleB (Gf.inv ((g[b])[bx]'(by omega))) g[b])]):=H7;have h9:=h8.agK (b+1) (by simp[mi p];omega);rw[X,ad]at h9;show aa B x Y (aq 34 a 1 bt _::bM 5 1 aE _ (g.set b _));rw[<-mj p];exact h9
   have I:ii (jM b bx g)=ii g:=oE _ _ _;refine aaZ L Q i7 (Bv D k) R hn i4 i4 ab λh8 H8=>?_;have q:ja (b,l) bx=(b+1,eP b bx (jM b bx g) l.length):=by rw[ja];dsimp only;rw[hb,u]
   refine⟨(j.set b r,bx+1),?_,⟨i6,i7,?_⟩,i6⟩
   ·dsimp only;rw[d,q,ak _,ak _];rfl
   ·dsimp only;rw[d,q];rw[I,N]at H8;exact H8
 ·have:bx=cS:=i4
  subst this;exact⟨c,by rw[<-w],O,by rw[<-w];exact K⟩
theorem Ke(f:fz)(a:Sl)(m:aQ)(n:Nat)(h:f8)(s:fw h f)(z:fF h a 1 aE m)(i:aZ n m)(k:n<=64)(o:ii m<=2^30):
  ac xR 131 #[xJ (dB f),a] h λv h'=>∃(r:Sl) (rs:List Sl),v=r/\r.len=bW m/\rs.length=ii m/\r.len<=ii m/\Sp h h' (nQ ⟨r.ptr,ii m,r.cap⟩ rs (bG m (eu m)).2):=by
 refine OF (dB f) a ?_;unfold Hq;refine(nf a m n h z i k o).mono ?_;rintro v D ⟨rfl,rfl⟩;refine⟨_,i0,bm (λe=>j0) λ_=>?_⟩;refine(AK a m n D z i k o).mono ?_;rintro v A ⟨r,rs,rfl,w,u⟩;refine⟨r,i0,(uh f A).mono ?_⟩;rintro v h3 ⟨rfl,rfl⟩;refine⟨dB f,i0,(sl r m h3 (u.Sq w λ_=>rfl)).mono ?_⟩;rintro v E ⟨rfl,rfl⟩;have B:eu m<=n:=by
  cases m with
  |nil=>simp[eu,aD]
  |cons x t=>rw[eu,bA i9];exact Nat.le_of_eq (i _ i9)
 refine⟨_,i0,(CF s s.lt w i B k o u).mono ?_⟩;rintro v F ⟨q,rfl,g,j⟩;have b:=DY m (eu m);rw[(gG i _).2]at b;have y:=(j.own 0 i0).cap;have d:=(j.own 0 i0).len;refine⟨_,i0,⟨zY _,y6.2 (show(bG m (eu m)).1<=r.cap by omega)⟩,⟨r.ptr,(bG m (eu m)).1,r.cap⟩,q,i9,i0,g,b,?_⟩;have:r=⟨r.ptr,ii m,r.cap⟩:=by obtain⟨p,l,c⟩:=r;simp only at d⊢;rw[<-g,<-d]
 rw[<-this];exact j
theorem aba(f:fz)(a:Sl)(m:aQ)(n:Nat)(h:f8)(b:fw h f)(i:fF h a 1 aE m)(j:aZ n m)(e:n<=64)(g:ii m<=2^30):
  ac xR 64 #[xJ (dB f),a] h λv h'=>v=xH xN (bW m)/\Sp h h' []:=by
 refine Tn (dB f) a ?_;unfold Mh;refine(Ke f a m n h b i j e g).mono ?_;rintro v k ⟨r,rs,rfl,d,_,_,c⟩;exact⟨r,i0,by rw[d],.zip c.ai⟩
theorem Lh(p:Pm)(seed:Int)(ids:Sl)(l:aF)(h:f8)(k:Rd h ids 1 aC l)(t:ii l<=2^29):ac xR 20 #[jU p,xH xP seed,ids] h λv h'=>v=xH xN (Ef p seed l)/\Sp h h' []:=by
 refine LZ p seed ids ?_;unfold Fm;refine(Sp.refl h).boxed λa q g=>?_;refine⟨p,(g.box 0 i0).aS _ i0,(ro q).mono ?_⟩;rintro v i ⟨f,rfl,j⟩;have e:=g.comp j;have b:=e.box 0 i0;refine⟨dB f,i0,⟨b.cell0 i0,b.cell i0,b.cell i0,trivial⟩,?_⟩;refine(Kd p seed ids l i (Seq.up k e.ai) i4).mono ?_;rintro v h3 ⟨r,rfl,m⟩;have d:=e.comp m;refine⟨r,i0,trivial,?_⟩;have o:=acO p seed l;have c:(bS p).toNat<=64:=by
  unfold bS;split
  ·rename_i s;have:=(ce p).1 s;omega
  ·omega
 refine(aba f r _ _ h3 (d.box 1 i0) (d.JD 2 i0) (mQ p seed l) c i4).mono ?_;rintro v u ⟨rfl,n⟩;exact⟨_,i0,trivial,i0,.zip (d.comp n).ai⟩
theorem Qj(p:Pm)(seed:Int)(ids:Sl)(l:aF)(h:f8)(m:Rd h ids 1 aC l)(d:ii l<=2^29):ac xR 158 #[jU p,xH xP seed,ids] h λv h'=>v=xL (fJ p seed l)/\Sp h h' []:=by refine MC p seed ids ?_;unfold FD;refine(Sp.refl h).boxed λa q g=>?_;refine⟨p,(g.box 0 i0).aS _ i0,(dM p q).mono ?_⟩;rintro v j ⟨rfl,k⟩;have c:=g.comp k;refine⟨_,i0,trivial,bv (λe=>?_) λe=>⟨trivial,trivial,by rw[fJ,e];rfl,.zip c.ai⟩⟩;have f:=c.box 0 i0;refine⟨p,f.aS _ i0,p,f.aS _ i0,(Lh p seed ids l j (Seq.up m c.ai) d).mono ?_⟩;rintro v h3 ⟨rfl,n⟩;have i:=c.comp n;have b:=i.box 0 i0;refine⟨_,i0,⟨b.cell0 i0,b.cell i0,b.cell i0,trivial⟩,(jZ p h3).mono ?_⟩;rintro v r ⟨rfl,o⟩;exact⟨_,i0,trivial,by rw[fJ,e];rfl,.zip (i.comp o).ai⟩
theorem Nh(p:Pm)(seed:Int)(h:f8):ac xR 174 #[jU p,xH xP seed] h λv h'=>v=xL (fJ p seed (fc p))/\Sp h h' []:=by refine KS p seed ?_;unfold Dj;refine(Sp.refl h).boxed λa g e=>?_;have d:=e.box 0 i0;refine⟨p,d.aS _ i0,p,d.aS _ i0,(Nf p g).mono ?_⟩;rintro v f ⟨r,rfl,i⟩;have c:=e.comp i;have b:=c.box 0 i0;refine⟨r,i0,⟨b.cell0 i0,b.cell i0,b.cell i0,trivial⟩,(Qj p seed r _ f (c.seq 1 i0 λ_=>rfl) qs).mono ?_⟩;rintro v h3 ⟨rfl,j⟩;exact⟨_,i0,trivial,i0,.zip (c.comp j).ai⟩
theorem adv(p:Pm)(o b:Int)(h:f8):ac xR 105 #[jU p,xH xN o,xH xN b] h λv h'=>
  v=.tuple #[xH xN (((rn p o b).getD 0:Nat):Int),xL (rn p o b).isSome]/\Sp h h' []:=by
 refine Ra p o b ?_;unfold JQ;refine(Sp.refl h).boxed λw z l=>?_;have l:Sp h z [aw w 24 [xH xN p.1,xH xN p.2.1,xH xN p.2.2]]:=l;refine av (λi:Nat=>(i:Int)) (λi h'=>i<=16/\(∀k,k<i->Nc p o b k=eR)/\Sp h h' [aw w 24 [xH xN p.1,xH xN p.2.1,xH xN p.2.2]]) (λi=>16-i) 0 i0 ⟨i4,λk f=>absurd f (Nat.not_lt_zero k),l⟩ ?_;rintro i x ⟨E,c,r⟩;refine aj (λe=>?_) λe=>?_
 ·have A:i<16:=i4
  have a:=r.box 0 i0;refine⟨p,a.aS _ i0,(rl _ _ _ x).mono ?_⟩;rintro _ h3 ⟨rfl,rfl⟩;refine⟨_,i0,⟨a.cell0 i0,a.cell i0,a.cell i0,trivial⟩,(Nh p _ h3).mono ?_⟩;rintro _ D ⟨rfl,y⟩;have u:=r.up y.ai;refine⟨_,i0,trivial,bv (λg=>?_) λg=>?_⟩
  ·have n:rn p o b=dB i:=by
    unfold rn;refine List.find?_eq_some_iff_append.2 ⟨g,qE i,(qE (15-i)).map (·+(i+1)),?_,λk f=>?_⟩
    ·apply zC;intro j;by_cases t:j<i
     ·rw[qm qa,zu i4,zu t]
     ·rw[qj i7,zA];by_cases m:j=i
      ·subst m;rw[zc,zu i4];rfl
      ·obtain⟨d,B⟩:∃d,j=i+(d+1):=⟨j-i-1,i4⟩
       subst B;rw[zr,qu,qR];by_cases q:d<15-i
       ·rw[zu q,zu i4];simp;omega
       ·rw[qZ i7,qZ i7];rfl
    ·rw[c k (qG.1 f)];rfl
   rw[n];exact⟨i0,.zip u.ai⟩
  ·refine⟨i+1,js,⟨i4,λk f=>?_,u⟩,i4⟩;by_cases s:k<i
   ·exact c k s
   ·have:k=i:=i4
    subst this;exact g
 ·have n:rn p o b=eH:=by unfold rn;rw[List.find?_eq_none];intro k f;rw[c k (by have:=qG.1 f;omega)];simp
  rw[n];exact⟨i0,.zip r.ai⟩
theorem Yw(p:Pm)(o:Int)(n:Nat)(h:f8)(G:n<=2^30):ac xR 47 #[jU p,xH xN o,xH xN n] h λv h'=>
  (cL p o n=eH->v=.tuple #[xI eH 0 0,xL eR]/\Sp h h' [])/\
  (∀l,cL p o n=dB l->∃r:Sl,v=.tuple #[r,xL eL]/\Sp h h' [aq 3 r 1 aC l]):=by
 refine Md p o n ?_;unfold Fq;refine(Sp.refl h).boxed λw A d=>?_;have d:Sp h A [aq 3 ⟨eH,0,0⟩ 1 aC [],aw w 24 [xH xN p.1,xH xN p.2.1,xH xN p.2.2]]:=(d.nil 3 1 aC).ck [1,0];refine av (λt:Sl×Nat×aF=>(t.1,(t.2.1:Int))) (λt h'=>t.2.1<=n/\cL p o t.2.1=dB t.2.2/\Sp h h' [aq 3 t.1 1 aC t.2.2,aw w 24 [xH xN p.1,xH xN p.2.1,xH xN p.2.2]]) (λt=>n-t.2.1) (⟨eH,0,0⟩,0,[]) i0 ⟨i9,i0,d⟩ ?_;rintro⟨s,i,l⟩ x ⟨H,c,k⟩;dsimp only at*;have y:=jg c;have b:∀j,rn p o i=eH->j<=n-(i+1)->cL p o (i+1+j)=eH:=λj m=>by
  induction j with
  |zero=>intro _;show cL p o (i+1)=eH;unfold cL;rw[c,m];rfl
  |succ j ih=>intro F;show cL p o ((i+1+j)+1)=eH;unfold cL;rw[ih i4];rfl
 refine aj (λe=>?_) λe=>?_
 ·have B:i<n:=i4
  refine⟨p,(k.box 1 i0).aS _ i0,(adv p o i x).mono ?_⟩;rintro _ h3 ⟨rfl,z⟩;have q:=k.up z.ai;refine⟨(_,_),i0,bm (λg=>?_) λg=>?_⟩
  ·have a:cL p o n=eH:=by have:=b (n-(i+1)) (Option.isSome_eq_false_iff.1 g|>Option.isNone_iff_eq_none.1) (qn _);rw[show i+1+(n-(i+1))=n by omega]at this;exact this
   rw[a];exact⟨λ_=>⟨i0,.zip q.ai⟩,λl h=>j6⟩
  ·obtain⟨t,u⟩:∃t,rn p o i=dB t:=Option.isSome_iff_exists.1 g;rw[u];refine q.push af 0 i0 lx i0 i5 (λ_=>rfl) ir (t:Int) i0 i5 i4 λE I D=>?_;refine⟨(E,i+1,l++[(t:Int)]),jj,⟨i6,?_,D⟩,i6⟩;show cL p o (i+1)=_;unfold cL;rw[c,u];rfl
 ·have f:i=n:=i4
  subst f;rw[c];exact⟨λh=>j6,λJ h=>(by injection h with h;subst h;exact⟨s,i0,k.ck [0]⟩)⟩
end Go.Qw
namespace Wl
open Go
def tG(m:aI)(l:cP):cP:=(kS m l).map dW
def ku(m:aI)(l:cP):cP:=bo m++tG m l
def iy(d:bw)(a:Nat)(n:Int):Bool:=decide (max n 0<=(d.room:Int)-a)
def rp(m:aI)(d:bw)(n:Int):Bool:=!d.lost&&(iy d d.l.length n||iy d (ku m d.l).length n)
def iS(m:aI)(w:Pow)(d:bw)(n:Int):Int×Pow×bw:=
 if d.lost then(5,w,d)else if !rp m d n then(7,w,d)else if iy d d.l.length n then(0,w,d)else d.rewrite w (ku m d.l)
theorem adw(l:List dD):ii (Ad l)<=ii l:=by unfold Ad;rw[qy];exact zi (qP _ _) i9
theorem BU(m:aI)(l:cP):ii (kS m l)<=ii l:=by unfold kS;refine zi (adw _) ?_;rw[w7];exact List.length_filterMap_le _ _
theorem EP(m:aI)(l:cP):ii (tG m l)<=ii l:=by unfold tG;rw[qy];exact BU m l
end Wl
namespace Go.Qw
open Go Go.Vc Go.Proofs Wl
section
variable {B:aB} {h0 h:f8} {As:List HP} {a pw:fz} {d:bw} {w:Pow}
theorem eV.rewrite{l:cP}(h:eV d):eV (d.rewrite w l).2.2:=by
 unfold bw.rewrite;split
 ·exact h
 ·rename_i b;split
  ·exact h
  ·split
   ·exact h
   ·rename_i e;have a:∀c∈l,ii c=64:=k7
    split
    ·exact h
    ·split
     ·exact⟨z7 _,i6,h.room,a,z7 _,i9⟩
     ·exact⟨h.wait,h.len,h.room,h.cell,i6,a⟩
theorem TY(x:Sl)(l:cP)(H:aa B h0 h (iI pw a d::de 92 pw w::As))(M:St B h0 As λh=>fF h x 1 aE l)(N:ii l<=2^20)(t:∀c∈l,ii c<=2^20):
  ac xR 125 #[xJ (dB a),x] h λv h'=>v=xH xN (d.rewrite w l).1/\aa B h0 h' (iI pw a (d.rewrite w l).2.2::de 92 pw (d.rewrite w l).2.1::As):=by
 refine Ba (dB a) x ?_;unfold oZ;have O:=M.at [_,_] H;have Z:=O.len;have m:=eV.rewrite (w:=w) (l:=l) (And.left (id H).rj);have j:∀(e:Int),d.rewrite w l=(e,w,d)->(Value.int .i64 e=xH xN (d.rewrite w l).1/\aa B h0 h (iI pw a (d.rewrite w l).2.2::de 92 pw (d.rewrite w l).2.1::As)):=λe Y=>by
  rw[Y];exact⟨i0,H⟩
 refine av (λi:Nat=>(i:Int)) (λi h'=>i<=ii l/\(∀c∈l.take i,ii c=64)/\h'=h) (λi=>ii l-i) 0 i0 ⟨i4,i9,i0⟩ ?_;rintro i h1 ⟨hi,f,rfl⟩;refine aj (λe=>?_) λe=>?_
 ·have o:i<ii l:=i4
  refine O.get i i0 o λr W=>?_;have R:=W.len;refine cv (λX=>j 1 ?_) λX=>?_
  ·unfold bw.rewrite;rw[f9];rw[ym,yA];exact⟨l[i],qg o,i7⟩
  ·refine⟨i+1,js,⟨i4,λc k=>?_,i0⟩,i4⟩;rw[aK _ _ o]at k;rcases qz.1 k with k|k
   ·exact f c k
   ·rw[qC.1 k];omega
 have f:∀c∈l,ii c=64:=by rw[qi i4]at f;exact f
 have n:(!l.all λb=>decide (ii b=64))=eR:=by rw[Bool.not_eq_false',qL];exactλc k=>g9 (f c k)
 have A:d.rewrite w l=(if d.lost then(5,w,d)else if d.room<ii l then(7,w,d)else if w.off then(14,w,d)else if w.step.1 then(0,w.step.2,{d with l:=l,wait:=0,laid:=[],has:=eR})else(14,w.step.2,{d with laid:=l,has:=eL})):=by unfold bw.rewrite;rw[n];rfl
 obtain⟨ok,s,b,E⟩:=H.rj;have z:=E.box 0 i0;refine bg (bg (bv (λe=>j0) λ_=>⟨a,i0,d.lost,z.cell i0,bv (λe=>j 5 (by rw[A,f9 e])) λg=>?_⟩));refine⟨a,i0,(d.room:Int),z.cell i0,aj (λe=>j 7 (by rw[A,g0 pb,f9 i4])) λD=>?_⟩;obtain⟨Q,T,J⟩:=(E.bs 4 [3,0,1,2]).Dv;refine⟨a,i0,dB pw,z.cell0 i0,(Jg Q (J.box 0 i0)).mono ?_⟩;rintro _ h2 ⟨rfl,rfl⟩;refine⟨_,i0,bm (λe=>j 14 ?_) λu=>?_⟩
 ·rw[A,g0 pb,g0 i4,f9 ln]
 have p:w.off=eR:=o5
 have q:d.rewrite w l=(if w.step.1 then(0,w.step.2,{d with l:=l,wait:=0,laid:=[],has:=eR})else(14,w.step.2,{d with laid:=l,has:=eL})):=by rw[A,g0 pb,g0 i4,g0 (by simp[p])]
 refine⟨a,i0,dB pw,z.cell0 i0,(HR (E.bs 4 [3,0,1,2])).mono ?_⟩;rintro _ P ⟨rfl,G⟩;have y:=M.at [_,_,_,_] G;refine⟨_,i0,bm (λe=>?_) λe=>?_⟩
 ·rw[q,g0 o0]at m⊢;refine(Lb x l P y N t).mono ?_;rintro _ V ⟨r,rfl,K⟩;have F:=(G.cD K).bs 5 [2,3,0,1];refine⟨r,i0,a,i0,F.store af 0 i0 i0 4 [r] i0 i0 i0 lz λU L=>?_⟩;refine⟨a,i0,L.store af 0 i0 i0 5 [xL eL] i0 i0 i0 lz λh8 I=>⟨i0,?_⟩⟩;exact aa.AE (s:=s) (b:=r) m I
 ·rw[q,f9 e]at m⊢;refine(Lb x l P y N t).mono ?_;rintro _ V ⟨r,rfl,K⟩;have F:=(G.cD K).bs 5 [2,0,4,1];refine⟨r,i0,a,i0,F.store af 0 i0 i0 2 [r] i0 i0 i0 lz λU L=>?_⟩;refine⟨a,i0,L.store af 0 i0 i0 3 [xH xN 0] i0 i0 i0 lz λh8 I=>?_⟩;refine(HU (d:={d with l:=l,wait:=0}) r b _ I ⟨z7 _,i6,ok.room,f,ok.laid,ok.cellL⟩ i0).mono ?_;rintro _ h9 ⟨rfl,S⟩;exact⟨0,i0,i0,S⟩
theorem CG(s b:Sl)(c:Nat)(n:Int)(e:cA h a 156 (ff pw d s b))(f:d.room<=512)(g:c<=2^40:=by omega):ac xR 190 #[xJ (dB a),xH xN c,xH xN n] h λv h'=>v=xL (iy d c n)/\h'=h:=by refine MG (dB a) c n ?_;unfold FH;refine(aaF s b e).mono ?_;rintro _ _ ⟨rfl,rfl⟩;refine⟨_,i0,?_,i0⟩;rw[ak ((d.room:Int)-c)];unfold iy;congr 1;rw[decide_eq_decide];split<;>omega
theorem Yx(s b:Sl)(x:cg)(m:aI)(A:cA h a 156 (ff pw d s b))(J:fF h s 1 aE d.l)(ok:eV d)(M:dY h x m)(H:db m):
  ac xR 192 #[xJ (dB a),fN x] h λv h'=>∃r:Sl,v=r/\Sp h h' [dN r (tG m d.l)]:=by
 refine OL (dB a) x ?_;unfold Hz;have E:=ok.len;have w:=ok.room;refine(Sp.refl h).boxed λX Q f=>?_;refine⟨x,(f.box 0 i0).aS _ i0,(HZ a pw d s b x m Q (A.ai f.ai A.lt) (J.up f.ai) ok (M.up f.ai) H).mono ?_⟩;rintro _ U ⟨r,c,rfl,I⟩;have z:=(f.cD I).xT 34 5 1 aE;refine⟨r,i0,?_⟩;have n:=BU m d.l;obtain⟨L,D⟩:∃L,L=kS m d.l:=⟨_,rfl⟩
 have p:(tG m d.l)=L.map dW:=by unfold tG;rw[D]
 rw[<-D]at z n;rw[p];have B:=z.eG 1 i0;have N:=B.2.1;have q:=B.1.len;refine av (λt:Sl×Nat=>(t.1,(t.2:Int))) (λt h'=>t.2<=ii L/\Sp h h' [dN t.1 ((L.map dW).take t.2),cK fg 8 bR r c L]) (λt=>ii L-t.2) (⟨eH,0,0⟩,0) i0 ⟨i9,z.ck [0,1]⟩ ?_;rintro⟨o,i⟩ h3 ⟨Y,k⟩;dsimp only at*;have G:=k.eG 1 i0;refine aj (λe=>?_) (λe=>?_)
 ·have y:i<ii L:=i4
  refine G.1.dQ (g:=bR) i i0 i4 (c[i]'(by omega)) i0 ?_;refine k.alloc af i0 λP V O=>?_;refine O.storeAll af 2 i0 i0 (bR (c[i]'(by omega))) i0 i0 i0 i0 λF j=>?_;have j:Sp h F [dN o ((L.map dW).take i),cK fg 8 bR r c L,aw P 170 (bR (c[i]'(by omega)))]:=j;refine⟨c[i]'(by omega),(j.box 2 i0).aS _ i0,(CC _ L[i] F (Fix.row (j.eG 1 i0) y)).mono ?_⟩;rintro _ W ⟨u,rfl,S⟩;have K:=(j.cD S).bs 3 [1,0,2];refine⟨u,i0,K.DW af fj i7 λT h8 R=>?_⟩;refine⟨(T,i+1),jj,⟨i6,?_⟩,i6⟩;dsimp only;rw[aK _ _ (show i<ii (L.map dW) by simp;omega),wy];exact R.ck [0,1]
 ·rw[qi i7]at k;exact⟨o,i0,k.ck [0]⟩
end
section
variable {B:aB} {h0 h:f8} {As:List HP} {a pw:fz} {d:bw} {w:Pow}
theorem VY{m:aI}{l:cP}{c:bc}(h:c∈tG m l):ii c<=64:=by
 unfold tG at h;obtain⟨r,_,rfl⟩:=qw.1 h;unfold dW;split
 ·rename_i a;refine Nat.le_of_eq (nV i5 i5 ?_);have:=oQ a;omega
 ·simp
theorem Qk(s b:Sl)(x:cg)(m:aI)(j:cA h a 156 (ff pw d s b))(q:fF h s 1 aE d.l)(ok:eV d)(k:dY h x m)(g:db m):
  ac xR 123 #[xJ (dB a),fN x] h λv h'=>∃r:Sl,v=r/\Sp h h' [dN r (ku m d.l)]:=by
 refine Rb (dB a) x ?_;unfold JR;have n:=ok.len;have i:=ok.room;refine(Sp.refl h).boxed λB o e=>?_;have e:Sp h o [aw B 44 (aX x)]:=e;refine⟨x,(e.box 0 i0).aS _ i0,x,(e.box 0 i0).aS _ i0,(nB x m o (k.up e.ai) g).mono ?_⟩;rintro _ E ⟨r,rfl,p⟩;have f:=e.cD p;have c:=f.box 1 i0;refine⟨r,i0,⟨c.cell0 i0,c.cell i0,c.cell i0,c.cell i0,c.cell i0,c.cell i0,c.cell i0,c.cell i0,trivial⟩,(Yx s b x m (j.ai f.ai j.lt) (q.up f.ai) ok (k.up f.ai) g).mono ?_⟩;rintro _ h3 ⟨u,rfl,z⟩;have w:=(f.cD z).bs 2 [1,0];have t:=kp m g;have A:=EP m d.l;refine⟨u,i0,trivial,w.afE af fj ⟨_,_,i0,i0⟩ i4 λD F y=>?_⟩;exact⟨trivial,D,i0,y.ck [0]⟩
theorem Ql(s b:Sl)(x:cg)(m:aI)(n:Int)(p:cA h a 156 (ff pw d s b))(w:fF h s 1 aE d.l)(j:s.len=ii d.l)(ok:eV d)(y:dY h x m)(q:db m):
  ac xR 118 #[xJ (dB a),fN x,xH xN n] h λv h'=>v=xL (rp m d n)/\Sp h h' []:=by
 refine FA (dB a) x n ?_;unfold Cr;have t:=ok.len;have k:=ok.room;refine(Sp.refl h).boxed λA B f=>?_;have f:Sp h B [aw A 44 (aX x)]:=f;have c:=p.ai f.ai p.lt;refine bg (bv (λe=>j0) λ_=>(HV s b c).mono ?_);rintro _ _ ⟨rfl,rfl⟩;refine⟨_,i0,bv (λe=>⟨by unfold rp;rw[e];rfl,.zip f.ai⟩) λe=>?_⟩;have u:rp m d n=(iy d d.l.length n||iy d (ku m d.l).length n):=by unfold rp;rw[e];rfl
 refine(Qe s b c j).mono ?_;rintro _ _ ⟨rfl,rfl⟩;refine⟨_,i0,(CG s b d.l.length n c ok.room).mono ?_⟩;rintro _ _ ⟨rfl,rfl⟩;refine⟨_,i0,bv (λo=>⟨by rw[u,o];rfl,.zip f.ai⟩) λo=>?_⟩;refine⟨x,(f.box 0 i0).aS _ i0,(Qk s b x m c (w.up f.ai) ok (y.up f.ai) q).mono ?_⟩;rintro _ E ⟨r,rfl,i⟩;have g:=(aa.xU i).1;have z:ii (ku m d.l)<=4000:=by have:=kp m q;have:=EP m d.l;unfold ku;rw[qx];omega
 have D:=f.cD i;refine⟨r,i0,(CG s b r.len n (c.ai i.ai c.lt) ok.room).mono ?_⟩;rintro _ _ ⟨rfl,rfl⟩;exact⟨_,i0,by rw[u,o,vD,g],.zip D.ai⟩
theorem TZ(x:cg)(n:Int)(h:f8):ac xR 118 #[xJ eH,fN x,xH xN n] h λv h'=>v=xL eR/\Sp h h' []:=by refine FA eH x n ?_;unfold Cr;refine(Sp.refl h).boxed λb c a=>?_;exact bg (bv (λ_=>⟨i0,.zip a.ai⟩) λe=>j0)
theorem abb(x:cg)(m:aI)(n:Int)(K:St B h0 As λh=>dY h x m)(z:db m)(H:aa B h0 h (iI pw a d::de 92 pw w::As)):
  ac xR 119 #[xJ (dB a),fN x,xH xN n] h λv h'=>v=xH xN (iS m w d n).1/\aa B h0 h' (iI pw a (iS m w d n).2.2::de 92 pw (iS m w d n).2.1::As):=by
 refine FB (dB a) x n ?_;unfold Ct;refine(Sp.refl h).boxed λQ t A=>?_;have A:Sp h t [aw Q 44 (aX x)]:=A;have k:=(H.cD A).bs 3 [1,2,0];have f:∀(e:Int) {h':f8},aV (λb=>b<t.size) t h'->iS m w d n=(e,w,d)->(Value.int .i64 e=xH xN (iS m w d n).1/\aa B h0 h' (iI pw a (iS m w d n).2.2::de 92 pw (iS m w d n).2.1::As)):=λe {h'} R S=>by
  rw[S];exact⟨i0,((k.up R).bs 3 [0,1])⟩
 obtain⟨ok,s,b,g⟩:=(id k).rj;have q:=g.box 0 i0;have M:fF t s 1 aE d.l:=(g.bs 2 [1]).LH λ_=>rfl;have p:=(aa.xU (g.bs 2 [1])).1;have L:=ok.len;have F:=ok.room;refine bg (bg (bv (λe=>j0) λ_=>(HV s b q).mono ?_));rintro _ _ ⟨rfl,rfl⟩;refine⟨_,i0,bv (λe=>f 5 (aV.refl _ _) (by unfold iS;rw[f9 e])) λe=>?_⟩;refine⟨x,(k.box 2 i0).aS _ i0,(Ql s b x m n q M p ok (K.at [_,_,_] k) z).mono ?_⟩;rintro _ T ⟨rfl,o⟩;have y:=g.up o.ai;have j:=q.ai o.ai q.lt;have I:=k.up o.ai;refine⟨_,i0,bm (λu=>f 7 o.ai (by unfold iS;rw[g0 o0,f9 (by simp[u])])) λu=>?_⟩;refine(Qe s b j p).mono ?_;rintro _ _ ⟨rfl,rfl⟩;refine⟨_,i0,(CG s b d.l.length n j ok.room).mono ?_⟩;rintro _ _ ⟨rfl,rfl⟩;refine⟨_,i0,bv (λD=>f 0 o.ai (by unfold iS;rw[g0 o0,g0 (by simp[u]),f9 D])) λD=>?_⟩;have em:iS m w d n=d.rewrite w (ku m d.l):=by unfold iS;rw[g0 o0,g0 (by simp[u]),g0 (by simp[D])]
 rw[em];have P:ii (ku m d.l)<=4000:=by have:=kp m z;have:=EP m d.l;unfold ku;rw[qx];omega
 have J:∀c∈ku m d.l,ii c<=64:=λc i=>by
  unfold ku at i;rcases qz.1 i with i|i
  ·exact Nat.le_of_eq (Eb i)
  ·exact VY i
 refine⟨x,(I.box 2 i0).aS _ i0,(Qk s b x m j ((y.bs 2 [1]).LH λ_=>rfl) ok (K.at [_,_,_] I) z).mono ?_⟩;rintro _ h3 ⟨r,rfl,O⟩;obtain⟨rs,E⟩:=(I.cD O).adm λ_=>rfl;have E:=E.bs 4 [1,2,0];refine⟨r,i0,(TY r (ku m d.l) E (St.gI 0 i0 λh' G=>?_) i4 λc i=>zi (J c i) i5).mono ?_⟩
 ·exact⟨rs,G.1,G.2.1,G.2.2⟩
 rintro _ U ⟨rfl,N⟩;exact⟨_,i0,i0,N.bs 3 [0,1]⟩
end
section
variable {B:aB} {h0 h:f8} {As:List HP} {a pw b:fz} {x:cg} {offs:Int} {da:List aT} {w:Pow} {ds:aW} {d:bw}
theorem aa.adx(n:Nat)(i:n<64)(e:ds[n]?=dB eH)(H:aa B h0 h (bj bu a pw (aX x) offs da w ds::iI pw b d::As)){K:Unit->f8->Prop}
  (f:∀h',aa B h0 h' (bj bu a pw (aX x) offs (da.set n (dB b)) w (ds.set n (dB d))::As)->K () h'):
  ag xR (qf 74 (xJ (dB ((a.add 10).add n))) (xJ (dB b))) h K:=by
 obtain⟨ok,j⟩:=Go.Vc.aa.oJ H;have g:(a.add 10).add n=a.add (10+n):=by unfold Addr.add;simp[Nat.add_assoc]
 rw[g];refine j.storeAt af 0 i0 i0 i0 i0 i0 (by simp[ok.la];omega) λh' c=>f h' ?_;rw[zq,Qi ok.l8]at c;exact aa.afY ok i e c
end
end Go.Qw
namespace Wl
open Go
theorem vV(ds:aW)(n:Nat)(d:bw)(s:Int)(b:n<64)(c:ii ds=64):bC (gh ds (n:Int) d) s=if s=(n:Int)then dB d else bC ds s:=by
 unfold bC gh;rw[ql];by_cases h:0<=s/\s<64
 ·rw[f9 h,f9 h,qY];by_cases a:s=(n:Int)
  ·subst a;rw[f9 i0,ql,f9 i0,f9 i4];rfl
  ·rw[g0 a,g0 i4]
 ·rw[g0 h,g0 h,g0 i4]
theorem ju{ds:aW}{s:Int}{d:bw}(h:bC ds s=dB d):∃n:Nat,s=(n:Int)/\n<64:=by
 unfold bC at h;by_cases a:0<=s/\s<64
 ·exact⟨s.toNat,i4,i4⟩
 ·rw[g0 a]at h;cases h
structure Fit (ds:aW) (S Q:aF):Prop where
 len:ii ds=64
 at_:∀s∈S,∃d,bC ds s=dB d/\d.lost=eR/\d.l.length+Q.count s<=d.room
theorem VZ{d:bw}{n:Nat}(w:Pow)(b:bc)(a:d.lost=eR)(f:ii d.l+(n+1)<=d.room)(g:ii b=64):
  ((d.append w b).1=0∨(d.append w b).1=14)/\(d.append w b).2.2.lost=eR/\(d.append w b).2.2.l.length+n<=(d.append w b).2.2.room:=by
 unfold bw.append;rw[g0 i4,g0 l7,g0 i4];by_cases c:w.off
 ·rw[f9 c];exact⟨.inr i0,a,i6⟩
 ·rw[g0 c];by_cases e:w.step.1
  ·rw[f9 e];exact⟨.inl i0,a,i7⟩
  ·rw[g0 e];exact⟨.inr i0,a,i7⟩
theorem abc{d:bw}(w:Pow)(a:d.lost=eR):((d.sync w).1=0∨(d.sync w).1=14)/\(d.sync w).2.2.lost=eR/\(d.sync w).2.2.l=d.l/\(d.sync w).2.2.room=d.room:=by
 unfold bw.sync;rw[g0 l7];by_cases b:w.step.1
 ·rw[f9 b];exact⟨.inl i0,a,i0,i0⟩
 ·rw[g0 b];exact⟨.inr i0,a,i0,i0⟩
theorem Rp{ds:aW}{S Q:aF}{x:Int}(w:Pow)(b:bc)(F:Fit ds S (x::Q))(k:x∈S)(j:ii b=64):
  ((eO w ds x b).1=0∨(eO w ds x b).1=14)/\Fit (eO w ds x b).2.2 S Q:=by
 obtain⟨d,c,l,i⟩:=F.at_ x k;rw[List.count_cons_self]at i;obtain⟨n,rfl,o⟩:=ju c;have A:=VZ w b l (n:=Q.count (n:Int)) i4 j;have e:eO w ds (n:Int) b=((d.append w b).1,(d.append w b).2.1,gh ds (n:Int) (d.append w b).2.2):=by unfold eO;rw[c]
 rw[e];refine⟨A.1,by unfold gh;rw[zj];exact F.len,λs p=>?_⟩;rw[vV _ _ _ _ o F.len];by_cases a:s=(n:Int)
 ·subst a;rw[f9 rfl];exact⟨_,i0,A.2⟩
 ·rw[g0 a];obtain⟨q,g,m,f⟩:=F.at_ s p;rw[List.count_cons_of_ne λh=>a h.symm]at f;exact⟨q,g,m,f⟩
theorem Wa{ds:aW}{S:aF}{x:Int}(w:Pow)(F:Fit ds S [])(g:x∈S):((gu w ds x).1=0∨(gu w ds x).1=14)/\Fit (gu w ds x).2.2 S []:=by
 obtain⟨d,b,i,c⟩:=F.at_ x g;obtain⟨n,rfl,j⟩:=ju b;obtain⟨f,A2,h,k⟩:=abc w i;have e:gu w ds (n:Int)=((d.sync w).1,(d.sync w).2.1,gh ds (n:Int) (d.sync w).2.2):=by unfold gu;rw[b]
 rw[e];refine⟨f,by unfold gh;rw[zj];exact F.len,λs l=>?_⟩;rw[vV _ _ _ _ j F.len];by_cases a:s=(n:Int)
 ·subst a;rw[f9 rfl];exact⟨_,i0,A2,by rw[h,k];exact c⟩
 ·rw[g0 a];exact F.at_ s l
end Wl
namespace Go.Vc
open Go Wl Go.Qw
theorem Pd(l:aF)(k:Nat):(bp l k).Nodup:=by unfold bp;refine List.Pairwise.filter _ (List.pairwise_map.2 ?_);exact(List.nodup_range (n:=k)).imp λh=>i4
theorem Yy{l:aF}(h:(eE l).2=eL):(eE l).1=bp l l.length/\l.length<=64/\∀n:Nat,l.getD n 0<=512:=by
 unfold eE at h⊢;by_cases a:l.all (eW · 0 512)=eL
 ·rw[f9 a]at h⊢;refine⟨i0,by simp at h;exact h.1,λn=>?_⟩;rw[qe];by_cases b:n<ii l
  ·rw[qd b];have:=qL.1 a _ (qg b);unfold eW at this;simp at this⊢;omega
  ·rw[qZ i4];simp
 ·rw[g0 a]at h;cases h
theorem Ua(l:aF)(i n:Nat)(e:i<ii (bp l l.length))(g:(bp l l.length)[i]=(n:Int))(c:n<64):(gY l i)[n]?=dB eH:=by unfold gY;rw[qR,zu c,qQ,g0];intro f;obtain⟨j,h,d⟩:=List.mem_take_iff_getElem.1 f;have:=Gz (Pd l l.length) (a:=j) (b:=i) i4 e (by rw[d,g]);omega
theorem CH(m:aI):∀S:aF,ii (bH m S)=ii S*ii (bo m)
 |[]=>by simp[bH]
 |n::S=>by
  have e:bH m (n::S)=(bo m).map (λc=>(n,c))++bH m S:=by unfold bH;rw[zl]
  rw[e,qx,qy,CH m S,zo,zK,Nat.add_comm]
theorem Yz(p:Pm)(extra:Int)(l:aF)(a:ii l<=64):db (cw p extra l):=⟨by have:=rm l l.length;simp[cw];omega,by simp[cw],by simp[cw]⟩
end Go.Vc
namespace Go.Qw
open Go Go.Vc Go.Proofs Wl
section
variable {B:aB} {h0 h:f8} {As:List HP} {pw:fz} {w:Pow}
theorem Wb(p:Pm)(extra:Int)(s:Sl)(l:aF)(hS:St B h0 As λh=>Rd h s 1 aC l)(hl:ii l<=2^20)(H:aa B h0 h (de 92 pw w::As)):
  ac xR 8 #[jU p,xH xN extra,xJ (dB pw),s] h λv h'=>
   ((fP p extra w l).1≠0->v=.tuple #[xJ eH,xH xN (fP p extra w l).1]/\aa B h0 h' As)/\
   ((fP p extra w l).1=0->∃(a:fz) (x:cg) (da:List aT),v=.tuple #[xJ (dB a),xH xN 0]/\aa B h0 h' (bj bu a pw (aX x) w.offs da (fP p extra w l).2.1 (fP p extra w l).2.2::cx x (cw p extra l)::As)):=by
 refine KK p extra (dB pw) s ?_;unfold CS;refine H.boxed λa1 h1 H1=>?_;have H1:=H1.bN;refine(nR s l h1 (hS.at [_,_] H1) hl).mono ?_;rintro _ h2 ⟨r,rfl,R2⟩;have H2:=H1.cD R2;refine⟨(r,(eE l).2),i0,?_⟩;have j:∀{h':f8},aa B h0 h' As->((eE l).2&&(bI p&&eW extra 0 16))=eR->
   ((fP p extra w l).1≠0->Value.tuple #[xJ eH,xH xN 1]=.tuple #[xJ eH,xH xN (fP p extra w l).1]/\aa B h0 h' As)/\
   ((fP p extra w l).1=0->∃(a:fz) (x:cg) (da:List aT),Value.tuple #[xJ eH,xH xN 1]=.tuple #[xJ (dB a),xH xN 0]/\aa B h0 h' (bj bu a pw (aX x) w.offs da (fP p extra w l).2.1 (fP p extra w l).2.2::cx x (cw p extra l)::As)):=λ{h'} H' hc=>by
  have e:fP p extra w l=(1,w,[]):=by unfold fP;rw[hc];rfl
  rw[e];exact⟨λ_=>⟨i0,H'⟩,λh=>absurd h (show¬(1:Int)=0 by decide)⟩
 refine bg (bm (λe=>j H2.rest.rest.rest n8) λe=>?_);have ep:(eE l).2=eL:=ln
 obtain⟨ax,A,L⟩:=Yy ep;refine⟨p,(H2.box 1 i0).aS _ i0,(dM p h2).mono ?_⟩;rintro _ h3 ⟨rfl,R3⟩;have z:aa B h0 h3 (aq 3 r 1 aC (eE l).1::aw a1 24 [xH xN p.1,xH xN p.2.1,xH xN p.2.2]::de 92 pw w::As):=by have:=H2.comp R3;rw[qN]at this;exact this
 refine⟨_,i0,bm (λe2=>j z.rest.rest.rest (by rw[e2];simp)) λe2=>?_⟩;have em:bI p=eL:=m9
 refine aj (λe3=>j z.rest.rest.rest n0) λe3=>aj (λe4=>j z.rest.rest.rest n0) λe4=>bv (λe5=>by cases e5) λ_=>?_;rw[ax]at z;refine bg ⟨p,(z.box 1 i0).aS _ i0,?_⟩;obtain⟨lw,a8,a6⟩:=(z.bs 3 [2,1,0]).Dv;refine(Qc lw (a6.box 0 i0)).mono ?_;rintro _ h4 ⟨rfl,rfl⟩;have J:=z.box 1 i0;refine⟨_,i0,⟨J.cell0 i0,J.cell i0,J.cell i0,trivial⟩,?_⟩;obtain⟨m,M⟩:∃m,m=cw p extra l:=⟨_,rfl⟩
 refine⟨_,aaT (1,0,p.1,p.2.1,p.2.2,extra,r,⟨eH,0,0⟩) pw w.offs,?_⟩;refine z.boxed λa9 h6 f=>?_;obtain⟨x,hx⟩:∃x:cg,x=(1,0,p.1,p.2.1,p.2.2,extra,r,⟨eH,0,0⟩):=⟨_,rfl⟩
 rw[<-hx]at f;have F:(Value.agg (cH (aX x) pw w.offs (qh 64 eH)).toArray).cells.toList=cH (aX x) pw w.offs (qh 64 eH):=j9
 rw[F]at f;have f:=f.bN;have I:=f.box 2 i0;refine⟨⟨I.cell0 i0,I.cell i0,I.cell i0,trivial⟩,?_⟩;have f:aa B h0 h6 (aw a9 84 (cH (aX x) pw w.offs (qh 64 eH))::de 92 pw w::aq 3 r 1 aC (bp l l.length)::As):=f.bs 4 [0,3,1];have f:=aa.aaS (k:=bu) (h8:=by simp) f;obtain⟨P,o⟩:∃P,P=bp l l.length:=⟨_,rfl⟩
 rw[<-o]at f;have hz:db m:=M▸Yz p extra l A;have ap:ii P<=64:=by rw[o];exact zi (rm _ _) A
 have T:∀{h':f8} {Bs:List HP} {X:HP},aa B h0 h' (X::aq 3 r 1 aC P::Bs)->dY h' x m:=λ{h' Bs X} H'=>by
  have hs:=H'.seq 1 i0 λ_=>rfl;have hc:=(H'.own 1 i0).cap;subst hx;subst M;exact⟨i0,i0,i0,i0,by show Seq _ _ r 1 aC (bp l l.length);rw[<-o];exact hs,bE.nil _ _ _ _,hc,qn _⟩
 have ah:((eE l).2&&(bI p&&eW extra 0 16))=eL:=by rw[ep,em];unfold eW;simp;omega
 have V:(P.any λi=>decide (l.getD i.toNat 0<(ii (bo m):Int)))=eL->fP p extra w l=(7,w,[]):=λhh=>by
  unfold fP;rw[f9 ah,<-o,<-M,f9 hh]
 have Z:(P.any λi=>decide (l.getD i.toNat 0<(ii (bo m):Int)))=eR->fP p extra w l=layAll (bH m P) w (gY l P.length):=λhh=>by
  unfold fP;rw[f9 ah,<-o,<-M,hh,g0 i5]
 have K:∀i (O:i<ii P),∃n:Nat,n<ii l/\P[i]=(n:Int)/\0<l.getD n 0:=by subst o;exactλi O=>VR l l.length i O
 refine av (λi:Nat=>(i:Int)) (λi h'=>i<=ii P/\((P.take i).any λi=>decide (l.getD i.toNat 0<(ii (bo m):Int)))=eR/\aa B h0 h' (bj bu a9 pw (aX x) w.offs (qh 64 eH) w (qh 64 eH)::aq 3 r 1 aC P::As)) (λi=>ii P-i) 0 i0 ⟨i4,i9,f⟩ ?_;rintro i h7 ⟨O,g,E⟩;dsimp only at*;obtain⟨b2,a2⟩:=aa.cC E;have bl:r.len=ii P:=(E.own 1 i0).len;refine aj (λe5=>?_) (λe5=>?_)
 ·have c:i<ii P:=i4
  obtain⟨n,N,D,Q⟩:=K i c;refine(E.seq 1 i0 λ_=>rfl).bB i i0 c (n:Int) (by rw[D];rfl) ?_;refine(hS.at [_,_] E).RJ n i0 N (l.getD n 0) (by rw[getD_lt N];rfl) λb1 U=>?_;refine⟨a9,i0,x,a2.aS _ k9,(nB x m h7 (T E) hz).mono ?_⟩;rintro _ h9 ⟨u,rfl,R9⟩;have H9:=E.cD R9;have bb:=(aa.xU H9).1;refine⟨u,i0,kf R9.ai ⟨U,trivial⟩,?_⟩;refine aj (λe6=>?_) (λe6=>?_)
  ·rw[V (zV.2 ⟨P[i],qg c,by rw[D,ql];exact g9 i4⟩)];exact⟨λ_=>⟨i0,H9.rest.rest.rest⟩,λh=>absurd h (show¬(7:Int)=0 by decide)⟩
  ·refine⟨i+1,js,⟨i4,?_,H9.rest⟩,i4⟩;rw[aK _ _ c,yV,g,vD,xA,xD,Bool.or_false,D,ql];exact hU i4
 ·have G:i=ii P:=i4
  subst G;rw[q8]at g;have ar:=Z g;rw[<-TT l]at E;refine av (λt:Nat×List aT=>(t.1:Int)) (λt h'=>t.1<=ii P/\aa B h0 h' (bj bu a9 pw (aX x) w.offs t.2 w (gY l t.1)::aq 3 r 1 aC P::As)) (λt=>ii P-t.1) (0,qh 64 eH) i0 ⟨i9,E⟩ ?_;rintro⟨i,da⟩ ab ⟨O,d⟩;dsimp only at*;obtain⟨bd,W⟩:=aa.cC d;refine aj (λe6=>?_) (λe6=>?_)
  ·have c:i<ii P:=i4
   obtain⟨n,N,D,Q⟩:=K i c;have a7:=L n;refine(d.seq 1 i0 λ_=>rfl).bB i i0 c (n:Int) (by rw[D];rfl) ?_;refine(hS.at [_,_] d).bB n i0 N (l.getD n 0) (by rw[getD_lt N];rfl) ?_;refine⟨a9,i0,(MU (l.getD n 0) pw ab).mono ?_⟩;rintro _ br ⟨Q1,_⟩;obtain⟨b,rfl,a3⟩:=Q1 i4;have a5:=(d.cD a3).bs 2 [1,0];refine⟨_,i0,trivial,⟨i4,i4⟩,?_⟩;rw[ql,z6];have Y:i<ii (bp l l.length):=by rw[<-o];exact c
   have ad:(bp l l.length)[i]=(n:Int):=by rw[<-D];simp only[o]
   refine Go.Qw.aa.adx n i4 (Ua l i n Y ad i4) a5 λbk ao=>?_;refine⟨trivial,(i+1,da.set n (dB b)),jj,⟨i6,?_⟩,i6⟩;dsimp only;rw[<-TU l i n Y ad i4];exact ao
  ·have G:i=ii P:=i4
   subst G;refine⟨a9,i0,x,W.aS _ k9,(Kb x m r P ab (T d) hz (d.seq 1 i0 λ_=>rfl) i4).mono ?_⟩;rintro _ b0 ⟨u,ys,rfl,a0⟩;have am:=(d.cD a0).bs 2 [1,0];refine⟨u,i0,?_⟩;have S:=kp m hz;refine(HY u ys (bH m P) (St.gI 0 i0 λ_ hq=>hq) ?_ ?_ am).mono ?_
   ·rw[CH];have:=wq ap S;omega
   ·intro y hy;obtain⟨a4,ay⟩:=kJ hy;obtain⟨i,O,e⟩:=qH a4;obtain⟨n,N,D,_⟩:=K i O;rw[<-e,D,ay];exact⟨⟨i4,i4⟩,i5⟩
   rintro _ bq ⟨rfl,R⟩;rw[ar];refine⟨_,i0,cv (λe7=>⟨λ_=>⟨i0,R.rest.rest.rest⟩,λh=>absurd h e7⟩) λe7=>⟨λh=>absurd e7 h,λ_=>⟨a9,x,da,i0,?_⟩⟩⟩;rw[<-M];exact R.pC.fI 1 i0 λq hq=>by
    subst hx;subst M;exact⟨i0,i0,i0,i0,by show Seq _ _ r 1 aC (bp l l.length);rw[<-o];exact hq.1.seq (λ_=>rfl) hq.2,bE.nil _ _ _ _,hq.1.cap,qn _⟩
end
end Go.Qw
namespace Wl
open Go
def om(m:aI)(ds:aW)(k n:Int):Bool:=match bC ds k with|some d=>rp m d n|none=>eR
def dt(m:aI)(ds:aW)(l:aF)(N:Int->Int):Bool:=l.all λk=>om m ds k (N k)
def iJ(m:aI)(w:Pow)(ds:aW)(k n:Int):Int×Pow×aW:=
 match bC ds k with
 |none=>(5,w,ds)
 |some d=>((iS m w d n).1,(iS m w d n).2.1,gh ds k (iS m w d n).2.2)
def makes(m:aI)(N:Int->Int):aF->Pow->aW->Int×Pow×aW
 |[],w,ds=>(0,w,ds)
 |k::l,w,ds=>if(iJ m w ds k (N k)).1=0 then makes m N l (iJ m w ds k (N k)).2.1 (iJ m w ds k (N k)).2.2 else iJ m w ds k (N k)
end Wl
namespace Go.Qw
open Go Go.Vc Go.Proofs Wl
theorem Qm(f:FuncId)(pre post:Array Value)(P:Int->Bool)(s:Sl)(l:aF)(h:f8)(p:C.fns[f]?=dB eL)(m:Rd h s 1 aC l)(y:ii l<=2^30)
  (w:∀k∈l,∀h',Sp h h' []->ac xR f (pre.toList++[Value.int .i64 k]++post.toList).toArray h' λv g=>v=xL (P k)/\Sp h' g []):
  ac xR 116 #[s,.func (.func f) pre post] h λv h'=>v=xL (l.any P)/\Sp h h' []:=by
 refine jS s (f,pre,post) ?_;unfold ic;refine(iv s (f,pre,post) (R:=λv h'=>(∃i:Int,v=xH xN i/\decide (i>=0)=l.any P)/\Sp h h' []) ?_).mono ?_
 ·unfold gm;have u:=m.len;refine av (λi:Nat=>(i:Int)) (λi h'=>i<=ii l/\(l.take i).any P=eR/\Sp h h' []) (λi=>ii l-i) 0 i0 ⟨i4,i9,Sp.refl h⟩ ?_;rintro i j ⟨n,a,c⟩;refine aj (λd=>?_) (λd=>?_)
  ·have b:i<ii l:=by have r:(i:Int)<(s.len:Int):=d;omega
   refine(Seq.up m c.ai).bB i i0 b l[i] i0 (fa p ?_);refine(w l[i] (qg b) j c).mono ?_;rintro _ x ⟨rfl,t⟩;have o:=c.up t.ai;refine⟨_,i0,bv (λe=>⟨⟨i,i0,?_⟩,o⟩) λe=>?_⟩
   ·rw[zV.2 ⟨_,qg b,e⟩];exact g9 i4
   ·refine⟨i+1,js,⟨i4,?_,o⟩,i4⟩;rw[aK _ _ b,yV,a,xA,xD,e];rfl
  ·have r:¬(i:Int)<(s.len:Int):=d;rw[qi i4]at a;exact⟨⟨-1,i0,by rw[a];rfl⟩,c⟩
 ·rintro _ j ⟨⟨i,rfl,n⟩,q⟩;exact⟨i,i0,by rw[n],q⟩
section
variable {B:aB} {h0 h:f8} {As:List HP} {a pw:fz} {offs:Int} {da:List aT} {w:Pow} {ds:aW}
def RO(f:FuncId)(pre post:Array Value)(N:Int->Int)(l:aF)(h:f8):Prop:=∀k∈l,ac xR f (pre.toList++[Value.int .i64 k]++post.toList).toArray h λv h'=>v=xH xN (N k)/\Sp h h' []
theorem Ni(f:FuncId)(pre post:Array Value)(N:Int->Int)(x:cg)(m:aI)(s:Sl)(l:aF)(W:C.fns[f]?=dB eL)(M:St B h0 As λh=>dY h x m/\RO f pre post N l h)(V:db m)(hs:Rd h s 1 aC l)(Z:ii l<=2^30)(K:∀k∈l,0<=k/\k<64)(H:aa B h0 h (bj bu a pw (aX x) offs da w ds::As)):
  ac xR 52 #[xJ (dB a),s,.func (.func f) pre post] h λv h'=>v=xL (dt m ds l N)/\Sp h h' []:=by
 refine Ex (dB a) s (f,pre,post) ?_;unfold th;refine(Sp.refl h).boxed λt h1 X=>X.boxed λT y q=>?_;have H2:aa B h0 y (bj bu a pw (aX x) offs da w ds::As):=H.up q.ai;have g:cA y t 27 [xJ (dB a)]:=q.box 0 i0;have P:=q.box 1 i0;refine(Qm 117 #[] #[xJ (dB t),xJ (dB T)] (λk=>!om m ds k (N k)) s l y k9 (hs.up q.ai) Z ?_).mono ?_
 ·intro k U h3 i;have E:=H2.up i.ai;have S:=(g.ai i.ai g.lt).cell0 i0;have c2:=(P.ai i.ai P.lt).cell0 i0;obtain⟨ok,u⟩:=aa.cC E;have O:=K k U;refine Cq k t T ?_;unfold pW;obtain⟨n,rfl⟩:∃n:Nat,k=n:=⟨k.toNat,i4⟩
  have J:n<ii da:=p6
  have cd:cellOf h3 ((a.add 10).add ((n:Int).toNat*1))=dB (.pointer da[n]):=by rw[ql,z6];refine u.AF 10 n ?_;rw[tE ok.l8,qd J];rfl
  obtain⟨ab,G⟩:=M.at [_] E;refine⟨dB a,S,a,i0,⟨i4,i4⟩,da[n],cd,dB a,S,a,i0,x,u.aS _ i0,(f,pre,post),c2,fa W ?_⟩;refine(G n U).mono ?_;rintro _ z ⟨rfl,r⟩;have Q:=E.up r.ai;have p:=((g.ai i.ai g.lt).ai r.ai (g.ai i.ai g.lt).lt).cell0 i0;have c:=u.ai r.ai u.lt;have D:cellOf z ((a.add 10).add ((n:Int).toNat*1))=dB (.pointer da[n]):=by rw[ql,z6];refine c.AF 10 n ?_;rw[tE ok.l8,qd J];rfl
  refine⟨_,i0,⟨c.cell0 i0,c.cell i0,c.cell i0,c.cell i0,c.cell i0,c.cell i0,c.cell i0,c.cell i0,p,D,p,trivial⟩,?_⟩;have L:ig da (n:Int)=da[n]:=by unfold ig;rw[f9 i4,ql,qd J];rfl
  rw[<-L];have fin:∀{F:Bool} {o:f8},F=om m ds n (N n)->Sp z o []->aA.ok [(t,xJ (dB a)),(t,xJ (dB a))] o/\(Value.bool (!F)=xL (!om m ds n (N n))/\Sp h3 o []):=λ{F o} he j=>by
   have R:=(g.ai i.ai g.lt).ai r.ai (g.ai i.ai g.lt).lt;have:=(R.ai j.ai R.lt).cell0 i0;exact⟨⟨this,this,trivial⟩,by rw[he],.zip (aa.up r j.ai).ai⟩
  rcases nc ok (n:Int)with⟨e1,e2⟩|⟨n',d,b,e0,e1,e2,e3,e4,e5⟩
  ·rw[e2];refine(TZ x _ z).mono ?_;rintro _ o ⟨rfl,j⟩;exact⟨_,i0,fin (by unfold om;rw[e1]) j⟩
  ·rw[e5];obtain⟨b',e,H5⟩:=Go.Vc.aa.ko Q e2;rw[e4]at e;injection e with e
   injection e with e
   subst e;obtain⟨I,sd,Y,A⟩:=aa.rj H5;refine(Ql sd Y x m (N n) (A.box 0 i0) ((A.bs 2 [1]).LH λ_=>rfl) (aa.xU (A.bs 2 [1])).1 I (M.at [_] Q).1 V).mono ?_;rintro _ o ⟨rfl,j⟩;exact⟨_,i0,fin (by unfold om;rw[e3]) j⟩
 ·rintro _ h3 ⟨rfl,i⟩;refine⟨_,i0,?_,.zip (aa.up q i.ai).ai⟩;unfold dt;rw[List.not_any_eq_all_not];simp
theorem Ub(x:cg)(n:Int)(h:f8):ac xR 119 #[xJ eH,fN x,xH xN n] h λv h'=>v=xH xN 5/\Sp h h' []:=by refine FB eH x n ?_;unfold Ct;refine(Sp.refl h).boxed λb c a=>?_;exact bg (bg (bv (λ_=>bv (λ_=>⟨i0,.zip a.ai⟩) λe=>j0) λe=>j0))
theorem YA(m:aI)(N:Int->Int)(l:aF)(w:Pow)(ds:aW)(i:Nat)(a:i<ii l):makes m N (l.drop i) w ds=if(iJ m w ds l[i] (N l[i])).1=0 then makes m N (l.drop (i+1)) (iJ m w ds l[i] (N l[i])).2.1 (iJ m w ds l[i] (N l[i])).2.2 else iJ m w ds l[i] (N l[i]):=by rw[qV a];rfl
theorem Nj(f:FuncId)(pre post:Array Value)(N:Int->Int)(x:cg)(m:aI)(s:Sl)(l:aF)(X:C.fns[f]?=dB eL)(G:St B h0 As λh=>dY h x m/\RO f pre post N l h/\Rd h s 1 aC l)(W:db m)(hl:ii l<=2^30)(K:∀k∈l,0<=k/\k<64)(H:aa B h0 h (bj bu a pw (aX x) offs da w ds::As)):
  ac xR 53 #[xJ (dB a),s,.func (.func f) pre post] h λv h'=>v=xH xN (makes m N l w ds).1/\aa B h0 h' (bj bu a pw (aX x) offs da (makes m N l w ds).2.1 (makes m N l w ds).2.2::As):=by
 refine CY (dB a) s (f,pre,post) ?_;unfold rG;have ab:=(G.at [_] H).2.2.len;obtain⟨Z,Q⟩:∃Z,Z=makes m N l w ds:=⟨_,rfl⟩
 rw[<-Q];refine av (λt:Nat×Pow×aW=>(t.1:Int)) (λt h'=>t.1<=ii l/\Z=makes m N (l.drop t.1) t.2.1 t.2.2/\aa B h0 h' (bj bu a pw (aX x) offs da t.2.1 t.2.2::As)) (λt=>ii l-t.1) (0,w,ds) i0 ⟨i9,Q,H⟩ ?_;rintro⟨i,D,u⟩ h1 ⟨hi,q,F⟩;dsimp only at*;refine aj (λe=>?_) λe=>?_
 ·have p:i<ii l:=i4
  rw[YA _ _ _ _ _ _ p]at q;obtain⟨Y,J,I⟩:=G.at [_] F;refine I.bB i i0 p l[i] i0 (bg ?_);have E:=K l[i] (qg p);obtain⟨k,M⟩:∃k,k=l[i]:=⟨_,rfl⟩
  have L:k∈l:=by rw[M];exact qg p
  rw[<-M]at q E;rw[<-M];obtain⟨n,rfl⟩:∃n:Nat,k=n:=⟨k.toNat,i4⟩
  obtain⟨ok,z⟩:=aa.cC F;have S:n<ii da:=p6
  have R:∀{h':f8},cA h' a 84 (cH (aX x) pw offs da)->cellOf h' ((a.add 10).add ((n:Int).toNat*1))=dB (.pointer da[n]):=λ{h'} z=>by
   rw[ql,z6];refine z.AF 10 n ?_;rw[tE ok.l8,qd S];rfl
  refine⟨a,i0,⟨i4,i4⟩,da[n],R z,a,i0,x,z.aS _ i0,fa X ?_⟩;refine(J n L).mono ?_;rintro _ U ⟨rfl,P⟩;have T:=F.up P.ai;have g:=z.ai P.ai z.lt;refine⟨_,i0,⟨g.cell0 i0,g.cell i0,g.cell i0,g.cell i0,g.cell i0,g.cell i0,g.cell i0,g.cell i0,R g,trivial⟩,?_⟩;have O:ig da (n:Int)=da[n]:=by unfold ig;rw[f9 i4,ql,qd S];rfl
  rw[<-O];obtain⟨c,o⟩:∃c,c=iJ m D u n (N n):=⟨_,rfl⟩
  rw[<-o]at q;have fin:∀{h3:f8},aa B h0 h3 (bj bu a pw (aX x) offs da c.2.1 c.2.2::As)->aA.ok [] h3/\Br (c.1 !=(0:Int)) (Value.int .i64 c.1=xH xN Z.1/\aa B h0 h3 (bj bu a pw (aX x) offs da Z.2.1 Z.2.2::As))
    (∃r:Nat×Pow×aW,qc xN ((i:Int)+1)=(r.1:Int)/\(r.1<=ii l/\Z=makes m N (l.drop r.1) r.2.1 r.2.2/\aa B h0 h3 (bj bu a pw (aX x) offs da r.2.1 r.2.2::As))/\l.length-r.1<ii l-i):=λ{h3} H3=>by
   refine⟨trivial,cv (λy=>?_) λy=>?_⟩
   ·rw[g0 y]at q;rw[q];exact⟨i0,H3⟩
   ·rw[f9 y]at q;exact⟨(i+1,c.2.1,c.2.2),jj,⟨i6,q,H3⟩,i6⟩
  rcases nc ok (n:Int)with⟨e1,y⟩|⟨n',d,b,e0,e1,y,e3,e4,e5⟩
  ·rw[y];have A:c=(5,D,u):=by rw[o];unfold iJ;rw[e1]
   refine(Ub x _ U).mono ?_;rintro _ h3 ⟨rfl,R3⟩;exact⟨c.1,by rw[A],fin (h3:=h3) (by rw[A];exact T.up R3.ai)⟩
  ·rw[e5];have en:n=n':=i4
   subst en;obtain⟨b',j,H5⟩:=Go.Vc.aa.ko T y;rw[e4]at j;injection j with j
   injection j with j
   subst j;have A:c=((iS m D d (N n)).1,(iS m D d (N n)).2.1,u.set n (dB (iS m D d (N n)).2.2)):=by rw[o];unfold iJ;rw[e3];simp only[gh,ql]
   refine(abb x m (N n) (λBs h' hh=>(G (Bs++[_]) h' (by rw[qp];exact hh)).1) W H5).mono ?_;rintro _ h3 ⟨rfl,H6⟩;have V:=Go.Vc.aa.AH (k:=bu) (n:=n) e4 H6;exact⟨c.1,by rw[A],fin (h3:=h3) (by rw[A];exact V)⟩
 ·rw[zf i4]at q;rw[q];exact⟨i0,F⟩
end
def ady(a b:eC):Int:=if fb a.1 b.1 then-1 else if jF a.1 b.1 then 0 else 1
def jv(a b:eC):Bool:=jF a.1 b.1
theorem Uc(a b:eC):ady a b<0↔¬jv b a=eL:=by unfold ady jv jF;cases h:fb a.1 b.1<;>simp;split<;>omega
theorem Ig:Ord jv:=⟨λa b c=>GJ a.1 b.1 c.1,λa b=>GK a.1 b.1⟩
abbrev Ud(x:eC):Value:=xM #[xK x.1,xH xN x.2.1,xH xN x.2.2.1,x.2.2.2]
theorem Rq(x y:ByteArray)(h:f8):ac xR 115 #[xK x,xK y] h λv h'=>v=xH xN (if fb x y then-1 else if jF x y then 0 else 1)/\h'=h:=by
 refine Cp x y ?_;unfold pV;have a:∀z:ByteArray,ac xR 188 #[xK z] h λv h'=>v=xL eR/\h'=h:=λz=>by
  refine EG z ?_;unfold tv;exact⟨i9,i0⟩
 refine(a x).mono ?_;rintro _ _ ⟨rfl,rfl⟩;refine⟨_,i0,(a y).mono ?_⟩;rintro _ _ ⟨rfl,rfl⟩;refine⟨_,i0,bv (λe=>j0) λ_=>bv (λe=>j0) λ_=>?_⟩;have d:Op.bytesLess x.toList y.toList=fb x y:=rfl;rw[RL,d];have c:(!Op.bytesLess y.toList x.toList)=jF x y:=rfl;rw[c];refine bv (λe=>⟨n8,i0⟩) λe=>bm (λb=>⟨by rw[e,b];rfl,i0⟩) λb=>⟨by rw[e,b];rfl,i0⟩
theorem YB(a b:eC)(h:f8):ac xR 114 #[Ud a,Ud b] h λv h'=>v=xH xN (ady a b)/\Sp h h' []:=by refine KO a b ?_;unfold Df;refine(Sp.refl h).boxed λf i g=>g.boxed λe d c=>?_;have c:Sp h d [aw f 94 (bQ a),aw e 94 (bQ b)]:=c;refine⟨a.1,(c.box 0 i0).cell0 i0,b.1,(c.box 1 i0).cell0 i0,(Rq a.1 b.1 d).mono ?_⟩;rintro _ _ ⟨rfl,rfl⟩;exact⟨_,i0,i0,.zip c.ai⟩
abbrev uj(s:Sl)(d:List eC):HP:=aq 94 s 4 bQ d
section
variable {B:aB} {h0 h h':f8} {As:List HP} {s:Sl} {d:List eC}
theorem Wc{c b:List eC}{y:eC}(d:Sd jv (c++b))(g:∀z∈c,jv z y=eL)(f:∀z∈b,¬jv z y=eL):Sd jv (c++y::b):=
 Sd.app Ig d.left (zF.2 ⟨λz a=>Ig.GH (f z a),d.right⟩) λx e z a=>by
  rcases zd.1 a with rfl|a
  ·exact g x e
  ·exact d.IV x e z a
theorem Nk(X M Y:List eC)(a b:Int)(ha:a=(ii X:Int))(hb:b=(ii X+ii M:Nat))(ad:ii X+ii M+ii Y<=2^40)(H:aa B h0 h (uj s (X++(M++Y))::As)):
  ac xR 234 #[s,xH xN a,xH xN b,.func (.func 114) #[] #[]] h λv h'=>v=.tuple #[]/\∃M',Sd jv M'/\cz jv M M'/\aa B h0 h' (uj s (X++(M'++Y))::As):=by
 refine lF s a b (114,#[],#[]) ?_;unfold hO;subst ha;subst hb;rw[ak ((ii X:Int)+1)];refine av (λt:Nat×List eC=>((ii X+1+t.1:Nat):Int)) (λt h'=>(t.1+1<=ii M∨t.1=0)/\Sd jv t.2/\cz jv (M.take (t.1+1)) t.2/\t.2.length=ii (M.take (t.1+1))/\aa B h0 h' (uj s (X++(t.2++(M.drop (t.1+1)++Y)))::As)) (λt=>ii M-t.1) (0,M.take 1) i0 ?_ ?_
 ·refine⟨.inr i0,?_,cz.refl _,i0,?_⟩
  ·cases M with
   |nil=>exact List.Pairwise.nil
   |cons x M=>exact zF.2 ⟨λ_ h=>ld,i9⟩
  ·rw[<-qp (M.take (0+1)),List.take_append_drop];exact H
 rintro⟨t,P⟩ h1 ⟨ht,A,r,ab,R⟩;dsimp only at*;refine aj (λe=>?_) (λe=>?_)
 ·have J:t+1<ii M:=i4
  obtain⟨y,hy⟩:∃y,y=M[t+1]:=⟨_,rfl⟩
  have I:ii P=t+1:=by rw[ab];simp;omega
  have eD:M.drop (t+1)=y::M.drop (t+1+1):=by rw[qV J,hy]
  rw[eD]at R;refine av (λu:List eC×List eC=>((ii X+ii u.1:Nat):Int)) (λu h'=>u.1++u.2=P/\(∀z∈u.2,¬jv z y=eL)/\aa B h0 h' (uj s (X++(u.1++(y::(u.2++(M.drop (t+1+1)++Y)))))::As)) (λu=>ii u.1) (P,[]) (by dsimp only;rw[I];congr 1;omega) ⟨i9,i9,by simpa using R⟩ ?_;rintro⟨c,d⟩ V ⟨K,l,G⟩;dsimp only at*;have ah:ii c+ii d=t+1:=by rw[<-I,<-K,qx]
  have k:∀{h':f8},(∀z∈c,jv z y=eL)->aa B h0 h' (uj s (X++(c++(y::(d++(M.drop (t+1+1)++Y)))))::As)->
    ∃f:Nat×List eC,qc xN (((ii X+1+t:Nat):Int)+1)=((ii X+1+f.1:Nat):Int)/\((f.1+1<=ii M∨f.1=0)/\Sd jv f.2/\cz jv (M.take (f.1+1)) f.2/\f.2.length=ii (M.take (f.1+1))/\aa B h0 h' (uj s (X++(f.2++(M.drop (f.1+1)++Y)))::As))/\M.length-f.1<ii M-t:=λ{h'} hle H'=>by
   refine⟨(t+1,c++y::d),by dsimp only;rw[ak _];omega,⟨.inl i6,?_,?_,?_,?_⟩,i6⟩
   ·exact Wc p7 hle l
   ·dsimp only;rw[aK M (t+1) J,<-hy];have h1:cz jv (M.take (t+1)++[y]) (P++[y]):=r.app (cz.refl _);refine h1.trans ?_;rw[<-K,qp];have V:cz jv (d++[y]) ([y]++d):=cz.ZZ Ig λx hx z O=>by rw[qC.1 O];exact l x hx
    exact(cz.refl _).app V
   ·dsimp only;simp;omega
   ·dsimp only;have:X++((c++y::d)++(M.drop (t+1+1)++Y))=X++(c++(y::(d++(M.drop (t+1+1)++Y)))):=i9
    rw[this];exact H'
  obtain⟨D,N⟩:∃D,D=X++(c++(y::(d++(M.drop (t+1+1)++Y)))):=⟨_,rfl⟩
  refine cE (λ_ h'=>∃(Q:List eC) (z:eC),c=Q++[z]/\¬jv z y=eL/\aa B h0 h' (uj s D::As)) ?_ ?_
  ·rw[<-N]at G k;refine aj (λS=>?_) (λS=>⟨trivial,k (λz O=>?_) G⟩)
   ·have L:c≠[]:=λh=>by rw[h]at S;simp at S
    obtain⟨Q,z,n⟩:∃(Q:List eC) (z:eC),c=Q++[z]:=⟨c.dropLast,c.getLast L,(List.dropLast_concat_getLast L).symm⟩
    have W:ii c=ii Q+1:=by rw[n];simp
    have g1:D[ii X+ii c]?=dB y:=by rw[N,qj i4,show X.length+ii c-ii X=ii c by omega,qj i4,zc];rfl
    have g2:D[ii X+ii c-1]?=dB z:=by rw[N,qj i4,show X.length+ii c-1-ii X=ii Q by omega,n,qp,qj (qn _),zc];rfl
    obtain⟨U,p⟩:=qo.1 g1;obtain⟨T,q⟩:=qo.1 g2;refine(G.seq 0 i0 λ_=>rfl).dQ (g:=bQ) _ i0 U y (by rw[p]) ?_;have Z:qc xN (((ii X+ii c:Nat):Int)-1)=((ii X+ii c-1:Nat):Int):=j3
    rw[Z];refine(G.seq 0 i0 λ_=>rfl).dQ (g:=bQ) _ i0 T z sp (fa k9 ?_);refine(YB y z V).mono ?_;rintro _ h3 ⟨rfl,R3⟩;have F:=G.up R3.ai;refine⟨_,i0,trivial,aj (λe3=>⟨Q,z,n,(Uc y z).1 e3,F⟩) λe3=>k (λw m=>?_) F⟩;have o:jv z y=eL:=by
     by_cases hc:jv z y=eL
     ·exact hc
     ·exact absurd ((Uc y z).2 hc) e3
    rw[n]at m;rcases qz.1 m with m|m
    ·refine Ig.trans _ _ _ ?_ o;have:Sd jv (Q++[z]):=by rw[<-n];exact Sd.left (v:=d) p7
     exact this.IV w m z i9
    ·rw[qC.1 m];exact o
   ·have:c=[]:=by
     cases c with
     |nil=>rfl
     |cons x P=>exfalso;simp only[zo]at S;omega
    rw[this]at O;cases O
  ·rintro _ h3 ⟨Q,z,n,o,F⟩;have W:ii c=ii Q+1:=by rw[n];simp
   have E:D=(X++Q)++z::([]++y::(d++(M.drop (t+1+1)++Y))):=by rw[N,n];simp
   obtain⟨q1,q2,q3,q4⟩:=TL (X++Q) [] (d++(M.drop (t+1+1)++Y)) z y (i:=ii X+ii c-1) (j:=ii X+ii c) i7 i7;rw[<-E]at q1 q2 q3 q4;obtain⟨T,q⟩:=qo.1 q1;obtain⟨U,p⟩:=qo.1 q2;have Z:qc xN (((ii X+ii c:Nat):Int)-1)=((ii X+ii c-1:Nat):Int):=j3
   rw[Z];refine(F.seq 0 i0 λ_=>rfl).dQ (g:=bQ) _ i0 T z sp ?_;refine(F.seq 0 i0 λ_=>rfl).dQ (g:=bQ) _ i0 U y (by rw[p]) ?_;refine F.set af 0 i0 (λ_=>rfl) i0 (ii X+ii c) i0 U z i0 i0 i0 λh4 H4=>⟨trivial,?_⟩
   refine H4.set af 0 i0 (λ_=>rfl) i0 (ii X+ii c-1) i0 (by simpa using T) y i0 i0 i0 λh5 H5=>⟨trivial,?_⟩
   refine⟨(Q,z::d),by dsimp only;congr 1;omega,⟨by dsimp only;rw[<-K,n];simp,?_,?_⟩,i6⟩
   ·dsimp only;intro w m;rcases zd.1 m with rfl|m
    ·exact o
    ·exact l w m
   ·dsimp only;have:X++(Q++(y::(z::d++(M.drop (t+1+1)++Y))))=(X++Q)++y::([]++z::(d++(M.drop (t+1+1)++Y))):=i9
    rw[this,<-q4];exact H5
 ·refine⟨i0,P,A,?_,?_⟩
  ·rw[qi i4]at r;exact r
  ·rw[zf i4]at R;simpa using R
theorem Ue(r:Nat)(h:f8)(b:r<=2^32):ac xR 187 #[xH xQ r] h λv h'=>(∃k:Int,v=xH xN k)/\h'=h:=by intro w a;refine(Tryz.bits_Len (r:Int) w i4 i4).mono ?_;rintro e c ⟨rfl,rfl⟩;exact⟨_,i0,cY.refl _,⟨_,i0⟩,a⟩
theorem YC(d:List eC)(m:ii d<=12)(H:aa B h0 h (uj s d::As)):
  ac xR 113 #[s,.func (.func 114) #[] #[]] h λv h'=>v=.tuple #[]/\aa B h0 h' (uj s (d.mergeSort jv)::As):=by
 refine me s (114,#[],#[]) ?_;unfold iz;have f:=(H.own 0 i0).len;have a:∀k:Int,ac xR 186 #[s,xH xN 0,xH xN (s.len:Nat),xH xN k,.func (.func 114) #[] #[]] h λv h'=>v=.tuple #[]/\aa B h0 h' (uj s (d.mergeSort jv)::As):=λk=>by
  refine ny s 0 (s.len:Nat) k (114,#[],#[]) ?_;unfold jq;refine av (λ_:Unit=>((0:Int),((s.len:Nat):Int),k,eL,eL)) (λ_ h'=>h'=h) (λ_=>0) () i0 i0 ?_;rintro _ g rfl;refine aj (λ_=>?_) λe=>absurd (show qc xN (((s.len:Nat):Int)-0)<=12 by rw[ak _];omega) e;refine(Nk [] d [] 0 (s.len:Nat) i0 nq i7 l6).mono ?_;rintro _ c ⟨rfl,M,i,l,b⟩;refine⟨(),i0,i0,?_⟩;rw[<-aeB Ig i l];simpa using b
 have j:qc xQ ((s.len:Nat):Int)=((s.len:Nat):Int):=by unfold qc;simp[qk,ve];omega
 rw[j];refine(Ue s.len h i4).mono ?_;rintro _ g ⟨⟨k,rfl⟩,rfl⟩;refine⟨k,i0,(a k).mono ?_⟩;rintro _ c ⟨rfl,b⟩;exact⟨(),i0,i0,b⟩
end
section
variable {B:aB} {h0 h:f8} {As:List HP}
def DA:cg:=(0,0,0,0,0,0,⟨eH,0,0⟩,⟨eH,0,0⟩)
theorem Wd{m:aI}{e:Wl.cb}{xe:eC}{L:List (eC×Wl.cb)}{pool:List (Sl×aF)}(h:L.map zH=m.aG)(l:∀p∈L,EK pool p)(k:EK pool (xe,e)):
  ∃g:List (eC×Wl.cb),g.map qJ=(L.map qJ++[xe]).mergeSort jv/\g.map zH=(m.aG++[e]).mergeSort uH/\∀p∈g,EK pool p:=by
 have c:∀p∈L++[(xe,e)],EK pool p:=λp d=>by
  rcases qz.1 d with d|d
  ·exact l p d
  ·rw[qC.1 d];exact k
 refine⟨(L++[(xe,e)]).mergeSort λa b=>jv a.1 b.1,?_,?_,λp d=>c p ((w5 _ _).mem_iff.1 d)⟩
 ·rw[vL (r:=λa b=>jv a.1 b.1) (s:=jv) (f:=qJ) λa _ b _=>rfl,qT];rfl
 ·rw[vL (r:=λa b=>jv a.1 b.1) (s:=uH) (f:=zH) (λa j b i=>by unfold jv uH;rw[(c a j).1.1,(c b i).1.1]),qT,h];rfl
theorem abd(x:cg)(m:aI)(xe:eC)(e:Wl.cb)(N:dY h x m)(G:db m)(hs:0<=m.seq/\m.seq<=2^40)(hn:0<=m.next/\m.next<=2^40)(Z:m.aG.length<=11)(W:xe.1=e.name/\xe.2.1=e.object/\xe.2.2.1=e.length)(H:aa B h0 h (tZ xe.2.2.2 1 aC e.tries::As)):
  ac xR 50 #[fN x,Ud xe] h λv h'=>∃y:cg,v=fN y/\aa B h0 h' (cx y (dw m e)::As):=by
 refine Oy x xe ?_;unfold Hi;refine(Sp.refl h).boxed λT h1 I=>I.boxed λg Y V=>V.alloc af i0 λa3 h3 k=>?_;have k:Sp h h3 [aw T 44 (aX x),aw g 94 (bQ xe),aw a3 44 (aX DA)]:=k;refine⟨x,(k.box 0 i0).aS _ i0,(nC x m h3 (N.up k.ai) G).mono ?_⟩;rintro _ h4 ⟨y,L,pool,rfl,n,D,A,Q⟩;have P:=((k.ck [1,2]).comp Q).front;refine⟨y,i0,P.alloc af i0 λi h5 w=>?_⟩;have w:=w.bN;refine w.storeAll af 0 i0 i0 (aX y) i0 i0 i0 i0 λS q=>?_;have q:Sp h S [aw i 44 (aX y),dC 1 aC pool,aq 3 y.2.2.2.2.2.2.1 1 aC m.drives,aq 94 y.2.2.2.2.2.2.2 4 bQ (L.map qJ),aw g 94 (bQ xe),aw a3 44 (aX DA)]:=q;refine⟨y.1,(q.box 0 i0).cell0 i0,?_⟩;have M:qc xN (y.1+1)=m.seq+1:=by rw[n.1,ak _]
 have U:qc xN (y.2.1+1)=m.next+1:=by rw[n.2.1,ak _]
 dsimp only;rw[M];refine q.jB af 0 i0 i0 [xH xN (m.seq+1)] i0 i0 i0 j9 λO s=>?_;have s:Sp h O [aw i 44 (xH xN (m.seq+1)::(aX y).drop 1),dC 1 aC pool,aq 3 y.2.2.2.2.2.2.1 1 aC m.drives,aq 94 y.2.2.2.2.2.2.2 4 bQ (L.map qJ),aw g 94 (bQ xe),aw a3 44 (aX DA)]:=s;refine⟨y.2.1,(s.box 0 i0).cell i0,?_⟩;dsimp only;rw[U];refine s.store af 0 i0 i0 1 [xH xN (m.next+1)] i0 i0 i0 j9 λh8 l=>?_;have l:Sp h h8 [aw i 44 (xH xN (m.seq+1)::xH xN (m.next+1)::(aX y).drop 2),dC 1 aC pool,aq 3 y.2.2.2.2.2.2.1 1 aC m.drives,aq 94 y.2.2.2.2.2.2.2 4 bQ (L.map qJ),aw g 94 (bQ xe),aw a3 44 (aX DA)]:=l;have K:L.length=m.aG.length:=by rw[<-D,qy]
 refine⟨y.2.2.2.2.2.2.2,(l.box 0 i0).cell i0,xe,(l.box 4 i0).aS _ i0,?_⟩;refine l.push af 3 i0 OW i0 i5 (λ_=>rfl) OV xe i0 i5 i7 λo X u=>?_;refine u.store af 0 i0 i0 7 [o] i0 i0 i0 j9 λz c=>?_;obtain⟨a,b⟩:∃a:cg,a=(m.seq+1,m.next+1,y.2.2.1,y.2.2.2.1,y.2.2.2.2.1,y.2.2.2.2.2.1,y.2.2.2.2.2.2.1,o):=⟨_,rfl⟩
 have J:a.2.2.2.2.2.2.1=y.2.2.2.2.2.2.1:=by rw[b]
 have F:a.2.2.2.2.2.2.2=o:=by rw[b]
 have c:Sp h z [aw i 44 (aX a),dC 1 aC pool,aq 3 a.2.2.2.2.2.2.1 1 aC m.drives,aq 94 a.2.2.2.2.2.2.2 4 bQ (L.map qJ++[xe]),aw g 94 (bQ xe),aw a3 44 (aX DA)]:=by rw[J,F,b];exact c
 refine⟨a.2.2.2.2.2.2.2,(c.box 0 i0).cell i0,?_⟩;have c:=c.bs 6 [3,0,1,2,4,5];refine(YC (L.map qJ++[xe]) i7 c).mono ?_;rintro _ t ⟨rfl,d⟩;have d:Sp h t [uj a.2.2.2.2.2.2.2 ((L.map qJ++[xe]).mergeSort jv),aw i 44 (aX a),dC 1 aC pool,aq 3 a.2.2.2.2.2.2.1 1 aC m.drives,aw g 94 (bQ xe),aw a3 44 (aX DA)]:=d;refine⟨(),i0,a,(d.box 1 i0).aS _ i0,?_⟩;refine d.storeAll af 5 i0 i0 (aX a) i0 i0 i0 i0 λj f=>?_;have f:Sp h j [uj a.2.2.2.2.2.2.2 ((L.map qJ++[xe]).mergeSort jv),aw i 44 (aX a),dC 1 aC pool,aq 3 a.2.2.2.2.2.2.1 1 aC m.drives,aw g 94 (bQ xe),aw a3 44 (aX a)]:=f;refine⟨a,(f.box 5 i0).aS _ i0,a,i0,?_⟩;obtain⟨L',l1,l2,R⟩:=Wd (pool:=(xe.2.2.2,e.tries)::pool) (m:=m) (e:=e) (xe:=xe) D (λp E=>⟨(A p E).1,qS _ (A p E).2⟩) ⟨W,zb⟩;have r:=((H.comp (f.ck [2,3,0])).front).bs 4 [0,3,1,2];have r:aa B h0 j (dC 1 aC ((xe.2.2.2,e.tries)::pool)::aq 3 a.2.2.2.2.2.2.1 1 aC m.drives::aq 94 a.2.2.2.2.2.2.2 4 bQ ((L.map qJ++[xe]).mergeSort jv)::As):=aa.Xg r;rw[<-l1]at r;refine aa.EL (m:=dw m e) ⟨by rw[b];rfl,by rw[b];rfl,by rw[b];exact n.2.2.1,by rw[b];exact n.2.2.2⟩ l2 R r
end
section
variable {B:aB} {h0 h:f8} {As:List HP} {a pw:fz} {offs:Int} {da:List aT} {w:Pow} {ds:aW}
theorem aa.abe{x y:cg}(H:aa B h0 h (bj bu a pw (aX x) offs da w ds::As)){K:Unit->f8->Prop}(c:∀h',aa B h0 h' (bj bu a pw (aX y) offs da w ds::As)->K () h'):
  ag xR (qf 44 (xJ (dB a)) (fN y)) h K:=by
 obtain⟨ok,d⟩:=Go.Vc.aa.oJ H;refine d.jB af 0 i0 i0 (aX y) i0 i0 i0 i9 λh' b=>c h' ?_;exact aa.po (k:=bu) ⟨i0,ok.la,ok.ls,ok.same⟩ b
theorem Nl(x z:cg)(b:aI)(s:Sl)(l:aF)(g:St B h0 As λh=>dY h z b/\Rd h s 1 aC l)(i:db b)(p:ii l<=2^10)(o:∀k∈l,0<=k/\k<64)(H:aa B h0 h (bj bu a pw (aX x) offs da w ds::As)):
  ac xR 54 #[xJ (dB a),fN z,s] h λv h'=>v=xH xN (layAll (bH b l) w ds).1/\
   ((layAll (bH b l) w ds).1≠0->aa B h0 h' (bj bu a pw (aX x) offs da (layAll (bH b l) w ds).2.1 (layAll (bH b l) w ds).2.2::As))/\
   ((layAll (bH b l) w ds).1=0->∃y,aa B h0 h' (bj bu a pw (aX y) offs da (layAll (bH b l) w ds).2.1 (layAll (bH b l) w ds).2.2::cx y b::As)):=by
 refine Ey (dB a) z s ?_;unfold tj;refine H.boxed λG I d=>?_;have d:=d.bN;refine⟨z,(d.box 0 i0).aS _ i0,(Kb z b s l I (g.at [_,_] d).1 i (g.at [_,_] d).2 p).mono ?_⟩;rintro _ L ⟨r,t,rfl,A⟩;have K:=(d.cD A).bs 3 [2,0,1];have f:=kp b i;have u:=wq p f;refine⟨r,i0,(HY r t (bH b l) (St.gI 0 i0 λ_ n=>n) (by rw[CH];omega) (λq n=>?_) K).mono ?_⟩
 ·obtain⟨m,j⟩:=kJ n;rw[j];exact⟨o _ m,i5⟩
 rintro _ h3 ⟨rfl,c⟩;obtain⟨R,D⟩:∃R,R=layAll (bH b l) w ds:=⟨_,rfl⟩
 rw[<-D]at c⊢;refine⟨_,i0,cv (λe=>⟨i0,λ_=>c.bs 3 [0],λh=>absurd h e⟩) λe=>?_⟩;have c:aa B h0 h3 (bj bu a pw (aX x) offs da R.2.1 R.2.2::cK jJ 2 piv r t (bH b l)::aw G 44 (aX z)::As):=c;refine⟨z,(c.box 2 i0).aS _ i0,(MW z b h3 (g.at [_,_,_] c).1 i).mono ?_⟩;rintro _ M ⟨y,rfl,F⟩;have E:=(c.cD F).bs 4 [1,0];refine⟨y,i0,a,i0,aa.abe E λN J=>?_⟩;exact⟨by rw[e],λh=>absurd e h,λ_=>⟨y,J⟩⟩
def dP(name:ByteArray)(e:Wl.cb):Bool:=e.name.toList==name.toList
theorem find_spec(x:cg)(m:aI)(name:ByteArray)(q:dY h x m)(p:db m)(H:aa B h0 h (bj bu a pw (aX x) offs da w ds::As)):
  ac xR 91 #[xJ (dB a),xK name] h λv h'=>(∃i:Int,v=xH xN i/\Yt (dP name) m.aG i)/\Sp h h' []:=by
 refine EC (dB a) name ?_;unfold tm;refine(Sp.refl h).boxed λe o b=>?_;have l:cA o e 9 [xK name]:=b.box 0 i0;obtain⟨ok,k⟩:=aa.cC H;have g:=k.ai b.ai k.lt;have f:=p.ob;refine⟨a,i0,x.2.2.2.2.2.2.2,g.cell i0,?_⟩;refine(Kc 153 #[] #[xJ (dB e)] (dP name) x.2.2.2.2.2.2.2 m.aG o k9 (q.up b.ai).aG f ?_).mono ?_
 ·intro u E j c t y;refine Cv u e ?_;unfold pZ;refine(Sp.refl j).boxed λz h3 d=>?_;have n:=(l.ai c.ai l.lt)
  have r:=n.ai d.ai n.lt;refine⟨u.1,(d.box 0 i0).cell0 i0,name,r.cell0 i0,?_,.zip d.ai⟩;unfold dP;rw[t.1.1]
 ·rintro _ j ⟨⟨i,rfl,s⟩,c⟩;exact⟨i,i0,⟨i,i0,s⟩,.zip (aa.up b c.ai).ai⟩
theorem pu{b:be}(H:aa B h0 h (bj bu a pw b offs da w ds::As)):ac xR 55 #[xJ (dB a)] h λv h'=>v=xL (di w offs)/\h'=h:=by refine FY (dB a) ?_;unfold uu;refine bv (λe=>j0) λ_=>(si H).mono ?_;rintro _ _ ⟨rfl,rfl⟩;exact⟨_,i0,i0,i0⟩
def dv(m:aI)(down:Bool)(ds:aW)(name:ByteArray)(n:Nat):Int:=
 if down then 14 else if !lP name then 3 else if m.aG.any (dP name)then 4
 else if m.p.1*m.p.2.2*8<(n:Int)∨12<=ii m.aG then 6
 else if aN ds m.drives=[]∨16777215<m.next∨2147483647<=m.seq then 7 else 0
theorem Uf(x:cg)(m:aI)(name:ByteArray)(s:Sl)(n:Nat)(hn:s.len=n)(z:name.size<=2^40)(N:dY h x m)(I:db m)(T:bI m.p=eL)(H:aa B h0 h (bj bu a pw (aX x) offs da w ds::As)):
  ac xR 46 #[xJ (dB a),xK name,s] h λv h'=>v=xH xN (dv m (di w offs) ds name n)/\Sp h h' []:=by
 refine AX (dB a) name s ?_;unfold oW;have Q:=(ce m.p).1 T;refine(pu H).mono ?_;rintro _ E ⟨rfl,rfl⟩;refine⟨_,i0,bv (λe=>⟨by unfold dv;rw[e];rfl,Sp.refl _⟩) λo=>?_⟩;refine(Qf name E z).mono ?_;rintro _ Y ⟨rfl,l⟩;refine⟨_,i0,bm (λe=>⟨by unfold dv;rw[o,e];rfl,l⟩) λF=>?_⟩;have K:=H.up l.ai;have k:=N.up l.ai;refine(find_spec x m name k I K).mono ?_;rintro _ h3 ⟨⟨i,rfl,U⟩,A⟩;have u:Sp E h3 []:=.zip (aa.up l A.ai).ai;have c:=TS U;refine⟨i,i0,bv (λe=>⟨by unfold dv;rw[o,F,<-c,e];rfl,u⟩) λP=>?_⟩;rw[P]at c;have J:=K.up A.ai;have b:=k.up A.ai;obtain⟨ok,f⟩:=aa.cC J;have V:=bE.len b.aG;have y:x.2.2.1=m.p.1:=congrArg (·.1) b.p;have G:x.2.2.2.2.1=m.p.2.2:=congrArg (·.2.2) b.p;have hk:m.p.1*m.p.2.2<=16*24:=Int.mul_le_mul i4 i4 i4 i4;have W:0<=m.p.1*m.p.2.2:=vW i4 i4;refine cE (λ(t:Bool) h'=>t=decide (m.p.1*m.p.2.2*8<(n:Int)∨12<=ii m.aG)/\h'=h3) ?_ ?_
 ·refine⟨a,i0,x.2.2.1,f.cell i0,a,i0,x.2.2.2.2.1,by rw[addr_add];exact f.cell i0,?_⟩;dsimp only;rw[y,G,ak (m.p.1*m.p.2.2),ak (m.p.1*m.p.2.2*8)];refine aj (λe=>⟨(g9 (.inl i4)).symm,i0⟩) λe=>?_;refine⟨a,i0,x.2.2.2.2.2.2.2,f.cell i0,?_,i0⟩;rw[decide_eq_decide];omega
 rintro t _ ⟨rfl,rfl⟩;refine aj (λe=>⟨by unfold dv;rw[o,F,<-c,f9 e];rfl,u⟩) λM=>?_;have O:dv m (di w offs) ds name n=if aN ds m.drives=[]∨16777215<m.next∨2147483647<=m.seq then 7 else 0:=by unfold dv;rw[o,F,<-c,g0 M];rfl
 rw[O];refine(eF x m b I J).mono ?_;rintro _ L ⟨r,rfl,D⟩;have g:=(D.own 0 i0).len;have d:Sp E L []:=.zip (aa.up u D.ai).ai;have j:=f.ai D.ai f.lt;refine⟨r,i0,cu (λe=>⟨by rw[f9 (.inl (q9 i4))],d⟩) λe=>?_⟩;have q:aN ds m.drives≠[]:=λR=>by rw[R]at g;simp at g;omega
 refine⟨a,i0,x.2.1,j.cell i0,aj (λe=>⟨by rw[f9 (.inr (.inl (by rw[<-b.next];omega)))],d⟩) λZ=>?_⟩;have X:=b.next;have S:=b.seq;refine⟨a,i0,x.1,j.cell0 i0,aj (λe=>⟨by rw[f9 (.inr (.inr i4))],d⟩) λe7=>⟨?_,d⟩⟩;rw[g0];rintro(h|h|h)
 ·exact q h
 ·omega
 ·omega
end
theorem Ug:∃i a,C.T.get 34=dB i/\i.cT=.slice a:=⟨_,_,i0,i0⟩
def pv(A B:aQ)(k:Nat):aQ:=eK (A.take k) (B.take k)++A.drop k
theorem tH{A B:aQ}(h:ii B=ii A)(k:Nat):ii (pv A B k)=ii A:=by simp[pv,eK,h];omega
theorem abf{A B:aQ}(h:ii B=ii A){k:Nat}(a:k<ii A):(pv A B k)[k]?=dB A[k]:=by
 have:ii (eK (A.take k) (B.take k))=k:=by simp[eK];omega
 rw[pv,qj i4,this,zc,wC,yn,qd a]
theorem abg{A B:aQ}(h:ii B=ii A){k:Nat}(a:k<ii A):(pv A B k).set k (A[k]++B[k]'(by omega))=pv A B (k+1):=by
 have b:ii (eK (A.take k) (B.take k))=k:=by simp[eK];omega
 rw[pv,q7 _ _ i4,b,zc,qV a,zq,pv,aK _ _ a,aK _ _ (show k<ii B by omega),eK,eK,yF i7,qp];rfl
theorem abh{A B:aQ}(h:ii B=ii A):pv A B A.length=eK A B:=by rw[pv,q8,<-h,q8,h,List.drop_length,qN]
theorem YD(f:fz)(a b:Sl)(A B:aQ)(n w:Nat)(h:f8)(hf:fw h f)(N:fF h a 1 aE A)(S:fF h b 1 aE B)(hl:ii A=n)(a7:ii B=n)(g:aZ n A)(L:aZ w B)(ay:1<=n)(hn:n+w<=64)(hr:bW A=n):
  ac xR 175 #[xJ (dB f),a,b] h λv h'=>∃r:Sl,v=.tuple #[r,xH xN 0]/\Sp h h' [gl 34 r 1 aE (fX n A B)]:=by
 have d:ii B=ii A:=i4
 have ah:=N.len;have y:=S.len;refine FG (dB f) a b ?_;unfold Cw;refine bg ?_;refine(nf a A n h N g).mono ?_;rintro v h1 ⟨rfl,rfl⟩;refine⟨_,i0,bm (λe=>j0) λ_=>?_⟩;refine(nf b B w h1 S L).mono ?_;rintro v G ⟨rfl,rfl⟩;refine⟨_,i0,bm (λe=>j0) λ_=>?_⟩;refine cv (λe=>absurd (by rw[ah,y,d]) e) λ_=>?_;refine cu (λe=>i4) λ_=>?_;refine(sl a A G N).mono ?_;rintro v h3 ⟨rfl,rfl⟩;have P:eu A=n:=by
  cases A with
  |nil=>simp at hl;omega
  |cons x t=>rw[eu,bA i9];exact g _ i9
 refine⟨_,i0,?_⟩;rw[P];refine(AK a A n h3 N g).mono ?_;rintro v h4 ⟨r,rs,rfl,a9,R4⟩;refine⟨r,i0,?_⟩;have am:=(R4.own 0 i0).len;refine av (λt:Nat×List Sl=>(t.1:Int)) (λt h'=>t.1<=n/\t.2.length=n/\Sp h3 h' (nQ r t.2 (pv A B t.1))) (λt=>n-t.1) (0,rs) i0 ⟨i9,i6,by simpa[pv,eK]using R4⟩ ?_;rintro⟨k,rs⟩ h5 ⟨hk,bb,o⟩;dsimp only at*;have D:ii rs=ii (pv A B k):=nb
 refine aj (λe=>?_) (λe=>?_)
 ·have l:k<n:=i4
  have p:k<ii A:=i4
  have I:=pq (a:=r) D k nb;have eg:(pv A B k)[k]'(by rw[tH d];omega)=A[k]:=by have:=abf d p;rw[qd nb]at this;exact zS.inj this
  rw[eg]at I;have l1:A[k].length=n:=g _ (qg _);have l2:ii (B[k]'(by omega))=w:=L _ (qg _);refine(o.seq 0 i0 λ_=>rfl).nN k i0 i4 λa1 R ad=>?_;refine(S.up o.ai).get k i0 i4 λrb Y=>?_;refine o.append af (k+1) I gj Ug i0 i5 (λ_=>rfl) Y gH i4 λK h6 H6=>⟨trivial,?_⟩
  refine H6.set af 0 i0 (λ_=>rfl) i0 k i0 i4 K i0 i0 i0 λU H7=>⟨trivial,?_⟩
  refine⟨(k+1,rs.set k K),jj,⟨i6,l0,?_⟩,i6⟩;dsimp only;rw[<-abg d p];show Sp h3 U (aq 34 r 1 bt (rs.set k K)::bM 5 1 aE (rs.set k K) ((pv A B k).set k _));rw[<-mj D];exact H7
 ·have V:k=ii A:=i4
  subst V;rw[abh d]at o;refine(uh f h5).mono ?_;rintro v h6 ⟨rfl,rfl⟩;refine⟨dB f,i0,?_⟩;have j:=mR d.symm g L;have a4:=ms d.symm;refine(CF (m:=eK A B) (n:=n+w) hf hf.lt i4 j i4 i4 i4 o).mono ?_;rintro v U ⟨i,rfl,ao,z⟩;rw[KA d.symm g,hr];refine⟨_,i0,?_⟩;dsimp only;have ar:=(z.own 0 i0).cap;have a3:=(z.own 0 i0).len;have G:=gG j n;refine aj (λe=>absurd (show(n:Int)<(n:Int)from e) i4) λ_=>?_;refine⟨⟨zY _,y6.2 (show n<=r.len by omega)⟩,?_⟩;refine av (λ_:Unit=>(0:Int)) (λ_ h'=>h'=U) (λ_=>0) () i0 i0 ?_;rintro _ h8 rfl;rw[ql];refine aj (λe=>i4) λ_=>?_;refine⟨⟨zY _,y6.2 (show n<=r.cap by omega)⟩,?_⟩;obtain⟨M,J⟩:∃M,M=(bG (eK A B) n).2:=⟨_,rfl⟩
  have ax:ii M=n:=by have:=G.2;rw[<-J]at this;omega
  have T:aZ (n+w) M:=by rw[J];exact G.1
  have u:∀k (hk:k<n),(fX n A B).take (k+1)=(fX n A B).take k++[(M[k]'(by omega)).drop n]:=λk hk=>by
   have e1:fX n A B=M.map (List.drop n):=by rw[fX,<-J,qi i4]
   rw[e1,aK _ _ i7,wy]
  have a8:ii (fX n A B)=n:=(vg d.symm g L hr).1;rw[<-J]at z;refine av (λt:Sl×Nat=>(t.1,(t.2:Int))) (λt h'=>t.2<=n/\Sp h8 h' [gl 34 t.1 1 aE ((fX n A B).take t.2)]) (λt=>n-t.2) (⟨eH,0,0⟩,0) i0 ⟨i9,(Sp.refl h8).LC 34 1 aE⟩ ?_;rintro⟨s,k⟩ h9 ⟨a0,H⟩;dsimp only at*;have W:=z.comp H;have ab:ii i=ii M:=i4
  refine aj (λe=>?_) (λe=>?_)
  ·have l:k<n:=i4
   have I:=pq (a:=r) ab k i4;have E:(nQ r i M++[gl 34 s 1 aE ((fX n A B).take k)])[k+1]?=dB (aq 5 (i[k]'(by omega)) 1 aE (M[k]'(by omega))):=by rw[qm (by simp[bM];omega)];exact I
   have a2:ii (M[k]'(by omega))=n+w:=T _ (qg _);have q:=W.own (k+1) E;have X:=W.seq (k+1) E λ_=>rfl;have ap:=q.len;have F:=(W.seq 0 i0 λ_=>rfl).take n i4;rw[qi i4]at F;refine F.nN k i0 i4 λa1 R ad=>?_;refine⟨⟨zY _,y6.2 i4⟩,?_⟩;refine(eI _ _ h9 (X.drop n q.cap) i7).mono ?_;rintro v a5 ⟨c,rfl,Q⟩;have O:=(H.comp Q).freeze 1 i0 λ_=>rfl;refine⟨c,i0,?_⟩;refine O.uX af 0 1 i5 i0 i0 fj i7 λs' a6 Z=>?_;refine⟨(s',k+1),jj,⟨i6,?_⟩,i6⟩;dsimp only;rw[u k l];exact Z.del 1
  ·rw[qi i4]at H;refine⟨s,i0,?_⟩;have:=(Sp.zip z.ai).comp H;exact this
def oK(p:Pm)(seed:Int)(l:Nat):Int:=if bI p&&decide ((l:Int)=p.1*p.2.2)then(if fJ p seed (fc p)then 0 else 8)else 1
abbrev Li(p:Pm)(seed:Int)(m:Sl):be:=[xH xN p.1,xH xN p.2.1,xH xN p.2.2,xH xP seed,m]
theorem adz(p:Pm)(seed:Int)(data:Sl)(d:Row)(h:f8)(hd:Rd h data 1 aE d)(hc:data.len<=data.cap):
  ac xR 108 #[jU p,xH xP seed,data] h λv h'=>
   (oK p seed d.length=0->∃(b:fz) (m:Sl),v=.tuple #[xJ (dB b),xH xN 0]/\Sp h h' [gl 34 m 1 aE (fd p seed d),aw b 234 (Li p seed m)])/\
   (oK p seed d.length≠0->v=.tuple #[xJ eH,xH xN (oK p seed d.length)]/\Sp h h' []):=by
 have Y:=hd.len;refine OC p seed data ?_;unfold Hm;refine(Sp.refl h).boxed λa h1 H1=>?_;refine bg ?_;refine⟨p,(H1.box 0 i0).aS _ i0,(dM p h1).mono ?_⟩;rintro v h2 ⟨rfl,R2⟩;have M:=H1.comp R2;have T:∀{h3:f8} (x:Int),x≠0->oK p seed d.length=x->Sp h h3 [aw a 24 [xH xN p.1,xH xN p.2.1,xH xN p.2.2]]->
   (oK p seed d.length=0->∃(b:fz) (m:Sl),Value.tuple #[xJ eH,xH xN x]=.tuple #[xJ (dB b),xH xN 0]/\Sp h h3 [gl 34 m 1 aE (fd p seed d),aw b 234 (Li p seed m)])/\
   (oK p seed d.length≠0->Value.tuple #[xJ eH,xH xN x]=.tuple #[xJ eH,xH xN (oK p seed d.length)]/\Sp h h3 []):=λx hx P H=>by
  refine⟨λe=>absurd (P.symm.trans e) hx,λ_=>⟨by rw[P],.zip H.ai⟩⟩
 refine⟨_,i0,bm (λe=>T 1 i5 (by rw[oK,e];rfl) M) λR=>?_⟩;have ao:=(ce p).1 R;obtain⟨K,hK⟩:∃K:Nat,p.1=K:=⟨p.1.toNat,i4⟩
 obtain⟨u,hH⟩:∃H:Nat,p.2.1=H:=⟨p.2.1.toNat,i4⟩
 obtain⟨w,N⟩:∃w:Nat,p.2.2=w:=⟨p.2.2.toNat,i4⟩
 have am:K*w<=16*24:=wq i4 i4;have I:p.1*p.2.2=((K*w:Nat):Int):=by rw[hK,N,wG]
 refine⟨p.1,(M.box 0 i0).cell0 i0,p.2.2,(M.box 0 i0).cell i0,?_⟩;dsimp only;rw[I,ak _];refine cv (λe=>T 1 i5 (by rw[oK,R,hU (by rw[I];intro e2;exact e (by rw[Y];exact e2))];rfl) M) λel=>?_;have G:ii d=K*w:=i4
 refine⟨p,(M.box 0 i0).aS _ i0,(Nh p seed h2).mono ?_⟩;rintro v h3 ⟨rfl,R3⟩;have V:=M.comp R3;have y:oK p seed d.length=if fJ p seed (fc p)then 0 else 8:=by rw[oK,R,g9 (by rw[I,G])];rfl
 refine⟨_,i0,bm (λe=>T 8 i5 (by rw[y,e];rfl) V) λhf=>?_⟩;rw[hf,f9 rfl]at y;have B:ca p seed d K u w (K+u):=⟨R,hf,hK,hH,N,i0,i4,i4,i4,i4,i4,i4,G⟩
 refine⟨p.2.1,(V.box 0 i0).cell i0,?_⟩;refine av (λt:Sl×List Sl=>(t.1,(ii t.2:Int))) (λt h'=>ii t.2<=u/\Sp h h' (aw a 24 [xH xN p.1,xH xN p.2.1,xH xN p.2.2]::nQ t.1 t.2 (qh t.2.length (aO w)))) (λt=>u-ii t.2) (⟨eH,0,0⟩,[]) i0 ⟨i9,V.nil 34 1 bt⟩ ?_;rintro⟨s,rs⟩ h4 ⟨hk,O⟩;dsimp only at*;refine aj (λe=>?_) (λe=>?_)
 ·refine⟨p.2.2,(O.box 0 i0).cell i0,?_⟩;refine O.make af aE gj i5 0 i0 i0 w w N N (qn _) i4 λz h5 ar ap D=>?_;refine D.push af 1 i0 fj i0 i5 (λ_=>rfl) iU z i0 i5 i4 λs' Z U=>?_;refine⟨(s',rs++[z]),by dsimp only;rw[ak _];simp,⟨i7,?_⟩,i7⟩;dsimp only;have e7:nQ s' (rs++[z]) (qh rs.length (aO w)++[aO w])=aq 34 s' 1 bt (rs++[z])::(bM 5 1 aE rs (qh rs.length (aO w))++[aq 5 z 1 aE (aO w)]):=congrArg _ (xS i9 z (aO w));rw[show(rs++[z]).length=ii rs+1 by simp,List.replicate_succ',e7];exact U
 ·have L:ii rs=u:=i4
  rw[L]at O;refine⟨p.1,(O.box 0 i0).cell0 i0,?_⟩;let own:=bM 5 1 aE rs (qh u (aO w));refine av (λt:Sl×Nat=>(t.1,(t.2:Int))) (λt h'=>t.2<=K/\Sp h h' (aw a 24 [xH xN p.1,xH xN p.2.1,xH xN p.2.2]::aq 34 t.1 1 bt (rs++(qE t.2).map (Od data w))::own)) (λt=>K-t.2) (s,0) i0 ⟨i9,by simpa using O⟩ ?_;rintro⟨t,k⟩ h5 ⟨ah,D⟩;dsimp only at*;refine aj (λe2=>?_) (λe2=>?_)
  ·have W:k<K:=i4
   have m1:(k+1)*w<=K*w:=zB w W;have m2:k*w<=(k+1)*w:=zB w i4;refine⟨p.2.2,(D.box 0 i0).cell i0,p.2.2,(D.box 0 i0).cell i0,?_⟩;rw[ak ((k:Int)+1)];have e5:(k:Int)*p.2.2=((k*w:Nat):Int):=by rw[N,wG]
   have e6:((k:Int)+1)*p.2.2=(((k+1)*w:Nat):Int):=by rw[N,wG];rfl
   dsimp only;rw[e5,e6,uE _,uE _,ql,ql];refine⟨⟨zY _,y6.2 m2,y6.2 i4⟩,?_⟩;refine D.push af 1 i0 fj i0 i5 (λ_=>rfl) iU (Od data w k) i0 i5 i7 λt' Z U=>?_;refine⟨(t',k+1),i0,⟨i6,?_⟩,i6⟩;dsimp only;rw[zO,qT,<-qp];exact U
  ·have ad:k=K:=i4
   subst ad;refine bg ?_;have E:fF h5 t 1 aE (im k u w d):=by
    refine⟨rs++(qE k).map (Od data w),D.seq 1 i0 λ_=>rfl,by rw[GM];simp;omega,λi r l n q=>?_⟩;by_cases F:i<u
    ·rw[qm i4,qd i4]at n;rw[im,qm (by simpa using F)]at q;have hz:l=aO w:=by simp[F]at q;exact q.symm
     have hr:rs[i]'(by omega)=r:=zS.inj n;have g:(aw a 24 [xH xN p.1,xH xN p.2.1,xH xN p.2.2]::aq 34 t 1 bt (rs++(qE k).map (Od data w))::own)[i+2]?=dB (aq 5 (rs[i]'(by omega)) 1 aE ((qh u (aO w))[i]'(by simpa using F))):=gg (by simpa using L) i (by simpa using F);have:=D.seq (i+2) g λ_=>rfl;rw[List.getElem_replicate,hr]at this;rw[hz];exact this
    ·obtain⟨j,rfl⟩:∃j,i=u+j:=⟨i-u,i4⟩
     rw[qj i4,L,zr]at n;rw[im,qj i9,List.length_replicate,zr]at q;have hj:j<k:=by have:=(qo.1 n).1;simpa using this
     simp[hj]at n q;have m1:(j+1)*w<=k*w:=zB w hj;rw[<-n,<-q];exact(Seq.up hd D.ai).piece hc w j i4
   have c:=D.box 0 i0;refine⟨p,c.aS _ i0,p,c.aS _ i0,(ro h5).mono ?_⟩;rintro v Z ⟨f,rfl,R6⟩;have o:=c.ai R6.ai c.lt;refine⟨dB f,i0,⟨o.cell0 i0,o.cell i0,o.cell i0,o.cell0 i0,o.cell i0,o.cell i0,trivial⟩,(Nf p Z).mono ?_⟩;rintro v h7 ⟨r7,rfl,R7⟩;have Q7:=R6.comp R7;have J:=c.ai Q7.ai c.lt;refine⟨r7,i0,⟨J.cell0 i0,J.cell i0,J.cell i0,trivial⟩,?_⟩;refine(Kd p seed r7 (fc p) h7 (Q7.seq 1 i0 λ_=>rfl) (by rw[fc,gJ];omega)).mono ?_;rintro v h8 ⟨r8,rfl,R8⟩;have S:=Q7.comp R8;refine⟨r8,i0,trivial,?_⟩;refine(YD f r8 t _ _ (k+u) w h8 (S.box 0 i0) (S.JD 2 i0) (E.up S.ai) B.GL (by rw[GM]) B.Jc (uI B.len) i4 i4 B.Ol).mono ?_;rintro v h9 ⟨r9,rfl,R9⟩;have Q9:=S.comp R9;refine⟨(r9,0),i0,trivial,?_⟩;refine cv (λe=>absurd i0 e) λ_=>?_;have X:=c.ai Q9.ai c.lt;refine⟨p,X.aS _ i0,?_⟩;refine Q9.boxed (t:=234) λb ax ab=>?_;refine⟨λ_=>⟨b,r9,i0,?_⟩,λe=>absurd y e⟩;have Q:=(Sp.zip D.ai).comp ab;rw[<-B.Fg]at Q;exact Q.take 3 (λi A F=>by
    cases i with
    |zero=>exact F
    |succ i=>cases i with
     |zero=>exact F
     |succ i=>simp at F)
def Pe(h:f8)(b:fz)(p:Pm)(seed:Int)(M:aQ):Prop:=∃m:Sl,cA h b 234 (Li p seed m)/\fF h m 1 aE M
theorem Pe.up{h h':f8}{b:fz}{p:Pm}{seed:Int}{M:aQ}(e:Pe h b p seed M)(c:aV (λb=>b<h.size) h h'):Pe h' b p seed M:=by obtain⟨m,a,d⟩:=e;exact⟨m,a.ai c a.lt,d.up c⟩
theorem We{a t:Row}(b:ii a=ii t){k:Nat}(d:k<ii t):(zh (λx y=>y^^^Gf.mul 1 x) (a.take k) (t.take k)++t.drop k).set k (t[k]^^^(a[k]'(by omega)))=zh (λx y=>y^^^Gf.mul 1 x) (a.take (k+1)) (t.take (k+1))++t.drop (k+1):=by have:=AL (c:=1) b d;rw[Gf.one_mul]at this;exact this
theorem ahF{a t:Row}(c:ii a=ii t){k:Nat}(b:k<ii t):(zh (λx y=>y^^^Gf.mul 1 x) (a.take k) (t.take k)++t.drop k)[k]?=dB t[k]:=by
 have d:ii (zh (λx y=>y^^^Gf.mul 1 x) (a.take k) (t.take k))=k:=i7
 rw[qj i4,d,zc,wC,yn,qd b]
theorem Wf(b:fz)(p:Pm)(seed id:Int)(M:aQ)(n w:Nat)(h:f8)(hb:Pe h b p seed M)(F:bI p=eL)(W:p.2.2=w)(hn:(bS p).toNat=n)(Q:aZ w M)(hl:ii M=n):
  ac xR 110 #[xJ (dB b),xH xN id] h λv h'=>∃r:Sl,v=r/\Sp h h' [aq 5 r 1 aE (if bV id then fL w M (dj n seed id)else[])]:=by
 obtain⟨m,g,P⟩:=hb;have ao:=P.len;have am:=(ce p).1 F;have hc:bS p=p.1+p.2.1:=by rw[bS,f9 F]
 refine AZ (dB b) id ?_;unfold oY;have N:bV id=eR->∃r:Sl,Value.slice eH 0 0=xI r.ptr r.len r.cap/\Sp h h [aq 5 r 1 aE (if bV id then fL w M (dj n seed id)else[])]:=λe=>by
  rw[e];exact⟨⟨eH,0,0⟩,i0,(Sp.refl h).nil 5 1 aE⟩
 refine bg (bv (λe=>j0) λ_=>aj (λe=>N l4) λe1=>aj (λe=>N l4) λV=>?_);have hid:bV id=eL:=l4
 refine⟨b,i0,p.2.2,g.cell i0,?_⟩;refine(Sp.refl h).make af aE gj i5 0 i0 i0 w w W W (qn _) i4 λo h1 ah Z R=>?_;have s:=g.ai R.ai g.lt;refine⟨b,i0,p,s.aS _ i0,b,i0,seed,s.cell i0,(BS p seed id h1).mono ?_⟩;rintro v h2 ⟨c,rfl,X⟩;rw[F,hid,xz,f9 rfl,hn]at X;rw[hid,f9 rfl];have G:=R.comp X;obtain⟨d,l⟩:∃d,d=dj n seed id:=⟨_,rfl⟩
 have B:∀x∈d,0<=x/\x<(n:Int):=λx O=>mM i4 i4 (by rw[<-l];exact O);have T:ii d<=n:=by rw[l];exact Bu i4 i4 _ _
 rw[<-l]at G⊢;have ax:=(G.seq 1 i0 λ_=>rfl).len;refine⟨c,i0,trivial,?_⟩;refine av (λi:Nat=>(i:Int)) (λi h'=>i<=ii d/\Sp h h' [aq 5 o 1 aE (fL w M (d.take i)),aq 3 c 1 aC d]) (λi=>ii d-i) 0 i0 ⟨i4,G⟩ ?_;rintro i h3 ⟨E,j⟩;refine aj (λe=>?_) (λe=>?_)
 ·have q:i<ii d:=i4
  have O:=B _ (qg q);refine(j.seq 1 i0 λ_=>rfl).bB i i0 q _ i0 ?_;have H:=g.ai j.ai g.lt;refine⟨b,i0,m,H.cell i0,?_⟩;obtain⟨a0,U⟩:=P;refine(U.ai j.ai).get d[i].toNat i4 i4 λr Y K=>?_;have D:=U.row _ r _ K (qd (show d[i].toNat<ii M by omega));obtain⟨row,f⟩:∃row,row=M[d[i].toNat]'(by omega):=⟨_,rfl⟩
  have ar:ii row=w:=by rw[f];exact Q _ (qg _)
  rw[<-f]at Y D;obtain⟨S,J⟩:∃S,S=fL w M (d.take i):=⟨_,rfl⟩
  have ad:ii S=w:=by rw[J];exact pK Q hl B i E
  have ay:=Y.len;have V:fL w M (d.take (i+1))=cR 1 row S:=by rw[aK _ _ q,Ei,J,f,bA i4]
  rw[<-J]at j;refine av (λk:Nat=>(k:Int)) (λk h'=>k<=w/\Sp h h' [aq 5 o 1 aE (zh (λx y=>y^^^Gf.mul 1 x) (row.take k) (S.take k)++S.drop k),aq 3 c 1 aC d]) (λk=>w-k) 0 i0 ⟨i4,sb⟩ ?_;rintro k h4 ⟨hk,u⟩;have I:=D.ai u.ai;have ap:ii (zh (λx y=>y^^^Gf.mul 1 x) (row.take k) (S.take k)++S.drop k)=w:=i7
  refine aj (λe3=>?_) (λe3=>?_)
  ·have ab:k<w:=i4
   have z:(zh (λx y=>y^^^Gf.mul 1 x) (row.take k) (S.take k)++S.drop k)[k]'(by omega)=S[k]'(by omega):=by have:=ahF (a:=row) (t:=S) i4 (show k<ii S by omega);rw[qd i4]at this;exact zS.inj this
   refine I.bB k i0 i4 _ i0 ?_;refine(u.seq 0 i0 λ_=>rfl).bB k i0 i4 _ i0 ?_;rw[z,ne];refine u.set af 0 i0 (λ_=>rfl) i0 k i0 i4 _ i0 i0 i0 λh5 H5=>?_;refine⟨k+1,js,⟨i4,?_⟩,i4⟩;rw[<-We i4 (show k<ii S by omega)];exact H5
  ·have L:k=w:=i4
   subst L;rw[qi i4,qi i4,zf i4,qN]at u;refine⟨i+1,js,⟨i4,?_⟩,i4⟩;rw[V];exact u
 ·rw[qi i4]at j;exact⟨o,i0,j.take 0 λi A E=>by cases i with|zero=>exact E|succ i=>simp at E⟩
theorem _root_.Wl.ca.oK{p:Pm}{seed:Int}{d:Row}{K H w n:Nat}(B:ca p seed d K H w n):oK p seed d.length=0:=by rw[Go.Qw.oK,B.may,B.full,B.len,B.k,B.s,g9 (by rw[wG])];rfl
theorem _root_.Wl.ca.congr{p:Pm}{seed:Int}{d a:Row}{K H w n:Nat}(B:ca p seed d K H w n)(h:ii a=K*w):ca p seed a K H w n:=
 ⟨B.may,B.full,B.k,B.h,B.s,B.n,B.k1,B.k2,B.h1,B.h2,B.w1,B.w2,h⟩
theorem ahG{p:Pm}{seed:Int}{d:Row}{K H w n:Nat}(B:ca p seed d K H w n)(data:Sl)(h:f8)(a:Rd h data 1 aE d)(c:data.len<=data.cap):
  ac xR 108 #[jU p,xH xP seed,data] h λv h'=>
   ∃(b:fz) (m:Sl),v=.tuple #[xJ (dB b),xH xN 0]/\Sp h h' [gl 34 m 1 aE (fd p seed d),aw b 234 (Li p seed m)]:=
 (adz p seed data d h a c).mono λ_ _ e=>e.1 B.oK
theorem _root_.Wl.ca.symbol{p:Pm}{seed:Int}{d:Row}{K H w n:Nat}(B:ca p seed d K H w n)(b:fz)(id:Int)(h:f8)(a:Pe h b p seed (fd p seed d)):
  ac xR 110 #[xJ (dB b),xH xN id] h λv h'=>∃r:Sl,v=r/\Sp h h' [aq 5 r 1 aE (if bV id then fL w (fd p seed d) (dj n seed id)else[])]:=
 Wf b p seed id _ n w h a B.may B.s B.pL B.sX.2 B.sX.1
def DB(s:Fh):be:=[.complex .f64 s.ax s.ay,.complex .f64 s.sx s.sy,xH xN s.left,xH xN s.leg,xL s.second]
theorem px{o:Option Nat}(h:o.isSome=eL):o=dB (o.getD 0):=by
 cases o with
 |none=>cases h
 |some x=>rfl
theorem YE(h:f8):ac xR 229 #[] h λv h'=>∃a:fz,v=xJ (dB a)/\Sp h h' [aw a 299 (DB fs0)]:=by refine MO ?_;unfold FL;refine(Sp.refl h).boxed (t:=299) λa c b=>?_;exact⟨a,i0,b⟩
theorem abi(a b:Nat)(h:f8)(i:(gO.mul a 0).isSome=eL)(c:(gO.mul b pM).isSome=eL)(h3:(gO.sub (uc a 0) (uc b pM)).isSome=eL)(g:(gO.mul a pM).isSome=eL)(j:(gO.mul b 0).isSome=eL)(f:(gO.add (uc a pM) (uc b 0)).isSome=eL):
  ac xR 284 #[.complex .f64 a b,xH xN 1] h λv h'=>v=.complex .f64 (tx a b) (ty a b)/\h'=h:=by
 refine OT (a,b) 1 ?_;unfold HQ;refine⟨i5,i5,?_⟩;refine av (λk:Nat=>(if k=0 then(a,b)else(tx a b,ty a b),(k:Int))) (λk h'=>k<=1/\h'=h) (λk=>1-k) 0 i0 ⟨i4,i0⟩ ?_;rintro k h' ⟨l,rfl⟩;have d:wB (qc xN (wB 1 4+4)) 4=1:=i5
 dsimp only;rw[d];refine aj (λe=>?_) (λe=>?_)
 ·have:k=0:=i4
  subst this;refine⟨(tx a b,ty a b),afH (px i) (px c) (px h3) (px g) (px j) (px f),?_⟩;exact⟨1,i0,⟨i4,i0⟩,i4⟩
 ·have:k=1:=i4
  subst this;exact⟨i0,i0⟩
theorem adA(a:fz)(s:Fh)(h:f8)(d:cA h a 299 (DB s))(c:s.ok=eL):ac xR 230 #[xJ (dB a)] h λv h'=>v=.tuple #[]/\cA h' a 299 (DB s.on)/\aV (λb=>b≠a.block) h h':=by
 simp only[Fh.ok,qB,decide_eq_true_eq]at c;obtain⟨⟨⟨⟨⟨⟨⟨⟨⟨⟨⟨K,J⟩,D⟩,A⟩,w⟩,u⟩,E⟩,F⟩,O⟩,x⟩,B⟩,z⟩:=c;refine Gc (dB a) ?_;unfold uy;have y:aa (λb=>b<h.size/\¬b=a.block) h h [aw a 299 (DB s)]:=.ZL (λb=>b=a.block) (λb l=>by rw[l];exact d.lt) ⟨d,i0⟩;have fin:∀{h':f8},aa (λb=>b<h.size/\¬b=a.block) h h' [aw a 299 (DB s.on)]->Value.tuple #[]=.tuple #[]/\cA h' a 299 (DB s.on)/\aV (λb=>b≠a.block) h h':=λH=>
  ⟨i0,H.box 0 i0,H.ai.1,λk q i=>H.ai.2 k q ⟨q,i⟩⟩
 refine⟨a,i0,(s.ax,s.ay),d.cell0 i0,a,i0,(s.sx,s.sy),d.cell i0,(oI s.ax s.sx,oI s.ay s.sy),afF (px K) (px J),a,i0,?_⟩;refine y.jB af 0 i0 i0 [.complex .f64 (oI s.ax s.sx) (oI s.ay s.sy)] i0 i0 i0 (by simp[DB]) λP o=>⟨trivial,?_⟩
 refine⟨a,i0,s.left,(o.box 0 i0).cell (j:=2) i0,a,i0,?_⟩;rw[ak (s.left-1)];refine o.storeAt af 0 i0 i0 (off:=2) i0 i0 i0 (by simp[DB]) λt g=>?_;refine⟨a,i0,s.left-1,(g.box 0 i0).cell (j:=2) i0,?_⟩;refine aj (λe=>?_) (λe=>?_)
 ·have m:DB s.on=[.complex .f64 (oI s.ax s.sx) (oI s.ay s.sy),.complex .f64 s.sx s.sy,xH xN (s.left-1),xH xN s.leg,xL s.second]:=by rw[Fh.on,f9 e];rfl
  refine fin ?_;rw[m];exact g
 ·refine⟨a,i0,(s.sx,s.sy),(g.box 0 i0).cell (j:=1) i0,(abi s.sx s.sy t D A w u E F).mono ?_⟩;rintro v h3 ⟨rfl,rfl⟩;refine⟨(tx s.sx s.sy,ty s.sx s.sy),i0,a,i0,?_⟩;refine g.storeAt af 0 i0 i0 (off:=1) i0 i0 i0 (by simp[DB]) λL f=>?_;refine cE (λ_ h'=>aa (λb=>b<h.size/\¬b=a.block) h h' [aw a 299 [.complex .f64 (oI s.ax s.sx) (oI s.ay s.sy),.complex .f64 (tx s.sx s.sy) (ty s.sx s.sy),xH xN (s.left-1),xH xN (if s.second then s.leg+1 else s.leg),xL s.second]]) ?_ ?_
  ·refine⟨a,i0,s.second,(f.box 0 i0).cell (j:=4) i0,bv (λn=>?_) λn=>?_⟩
   ·refine⟨a,i0,s.leg,(f.box 0 i0).cell (j:=3) i0,a,i0,?_⟩;rw[ak (s.leg+1)];refine f.storeAt af 0 i0 i0 (off:=3) i0 i0 i0 (by simp[DB]) λQ G=>?_;rw[f9 n];exact G
   ·rw[g0 (by rw[n];decide)];exact f
  ·rintro _ N p;refine⟨a,i0,s.second,(p.box 0 i0).cell (j:=4) i0,a,i0,?_⟩;refine p.storeAt af 0 i0 i0 (off:=4) i0 i0 i0 i9 λM r=>?_;refine⟨a,i0,_,(r.box 0 i0).cell (j:=3) i0,a,i0,?_⟩;refine r.storeAt af 0 i0 i0 (off:=2) i0 i0 i0 i9 λh8 I=>?_;have m:DB s.on=[.complex .f64 (oI s.ax s.sx) (oI s.ay s.sy),.complex .f64 (tx s.sx s.sy) (ty s.sx s.sy),xH xN (if s.second then s.leg+1 else s.leg),xH xN (if s.second then s.leg+1 else s.leg),xL (!s.second)]:=by rw[Fh.on,g0 e];rfl
   refine fin ?_;rw[m];exact I
theorem Xi(n:Nat)(h:f8)(j:n<64):ac xR 177 #[xH xN n] h λv h'=>v=.complex .f64 (kN n).ax (kN n).ay/\Sp h h' []:=by
 refine TC n ?_;unfold MF;refine aj (λe=>i4) λ_=>aj (λe=>i4) λ_=>?_;refine(YE h).mono ?_;rintro v i ⟨a,rfl,g⟩;refine⟨dB a,i0,?_⟩;refine av (λk:Nat=>(k:Int)) (λk h'=>k<=n/\Sp h h' [aw a 299 (DB (kN k))]) (λk=>n-k) 0 i0 ⟨i4,g⟩ ?_;rintro k f ⟨l,b⟩;refine cu (λe=>?_) (λe=>?_)
 ·have:k=n:=i4
  subst this;exact⟨a,i0,((kN k).ax,(kN k).ay),(b.box 0 i0).cell0 i0,i0,.zip b.ai⟩
 ·refine(adA a (kN k) f (b.box 0 i0) (aio k i4)).mono ?_;rintro v h3 ⟨rfl,c,d⟩;refine⟨(),i0,k+1,js,⟨i4,b.CO 0 i0 d c⟩,i4⟩
theorem Qn{a b:Int}(e:-4<=a:=by omega)(c:a<=4:=by omega)(h3:-4<=b:=by omega)(d:b<=4:=by omega):gO.sub (cZ a) (cZ b)=dB (cZ (a-b)):=by have:=agW (a+4).toNat i4 (b+4).toNat i4;rw[show((a+4).toNat:Int)-4=a by omega,show((b+4).toNat:Int)-4=b by omega,show((a+4).toNat:Int)-((b+4).toNat:Int)=a-b by omega]at this;exact this
theorem Qp{a:Int}(c:-8<=a:=by omega)(b:a<=8:=by omega):gO.mul (cZ a) (cZ a)=dB (cZ (a*a)):=by have:=agX (a+8).toNat i4;rw[show((a+8).toNat:Int)-8=a by omega]at this;exact this
theorem Uh(a:Int):((a.natAbs:Nat):Int)*(a.natAbs:Nat)=a*a:=Int.natAbs_mul_self
theorem abj{a b:Int}(e:-8<=a)(c:a<=8)(h3:-8<=b)(d:b<=8):gO.add (cZ (a*a)) (cZ (b*b))=dB (cZ (a*a+b*b)):=by have:=agY a.natAbs i4 b.natAbs i4;rw[Uh,Uh]at this;exact this
def Ih(i j:Nat):Int:=((fY i).x-(fY j).x)*((fY i).x-(fY j).x)+((fY i).y-(fY j).y)*((fY i).y-(fY j).y)
theorem afe{a:Int}(c:-8<=a)(b:a<=8):0<=a*a/\a*a<=64:=by rw[<-Uh,<-wG];have:a.natAbs*a.natAbs<=8*8:=wq i4 i4;omega
theorem BV{n:Nat}(h:n<64):(kN n).ax=cZ (fY n).x/\(kN n).ay=cZ (fY n).y/\-4<=(fY n).x/\(fY n).x<=4/\-4<=(fY n).y/\(fY n).y<=4:=by have:=agV n h;simp only[qB,decide_eq_true_eq,beq_iff_eq]at this;obtain⟨⟨⟨⟨⟨a,b⟩,c⟩,d⟩,e⟩,f⟩:=this;exact⟨a,b,c,d,e,f⟩
theorem abk{i j:Nat}(c:i<64)(d:j<64):0<=Ih i j/\Ih i j<=128:=by have a:=BV c;have b:=BV d;have f:=afe (a:=(fY i).x-(fY j).x) i4 i4;have e:=afe (a:=(fY i).y-(fY j).y) i4 i4;unfold Ih;omega
theorem adB(i j:Nat)(h:f8)(d:i<64)(f:j<64):ac xR 178 #[.complex .f64 (kN i).ax (kN i).ay,.complex .f64 (kN j).ax (kN j).ay] h λv h'=>v=.float .f64 (cZ (Ih i j))/\h'=h:=by
 have a:=BV d;have b:=BV f;refine Rh ((kN i).ax,(kN i).ay) ((kN j).ax,(kN j).ay) ?_;unfold JW;have e:gO.sub (kN i).ax (kN j).ax=dB (cZ ((fY i).x-(fY j).x)):=by rw[a.1,b.1];exact Qn
 have c:gO.sub (kN i).ay (kN j).ay=dB (cZ ((fY i).y-(fY j).y)):=by rw[a.2.1,b.2.1];exact Qn
 refine⟨(cZ ((fY i).x-(fY j).x),cZ ((fY i).y-(fY j).y)),afG e c,_,Qp,_,Qp,_,abj i4 i4 i4 i4,i0,i0⟩
abbrev aff:bL C.toCM 22 3 1 [xH xN 0] 8:=⟨_,_,i0,i0,i0,i0,i0,i0⟩
def ng(a b:Int):Int:=if a<b then-1 else if a>b then 1 else 0
theorem Ui(m:Nat)(h:f8)(a:m<129):ac xR 232 #[.float .f64 (cZ (m:Nat))] h λv h'=>v=xL eR/\h'=h:=by refine Dq _ ?_;unfold rO;have:=aan m a m a;rw[show(FloatKind.format .f64).order (cZ (m:Nat)) (cZ (m:Nat))=dB (compare m m)from this,Nat.compare_eq_eq.2 rfl];exact⟨i0,i0⟩
theorem abl(m n:Nat)(h:f8)(c:m<129)(b:n<129):ac xR 182 #[.float .f64 (cZ (m:Nat)),.float .f64 (cZ (n:Nat))] h λv h'=>v=xH xN (ng m n)/\h'=h:=by
 refine Bd _ _ ?_;unfold pf;refine(Ui m h c).mono ?_;rintro v a ⟨rfl,rfl⟩;refine⟨_,i0,(Ui n a b).mono ?_⟩;rintro v f ⟨rfl,rfl⟩;refine⟨_,i0,bv (λe=>j0) λ_=>bv (λe=>j0) λ_=>?_⟩;have d:(FloatKind.format .f64).order (cZ (m:Nat)) (cZ (n:Nat))=dB (compare m n):=aan m c n b;rw[d];rcases Nat.lt_trichotomy m n with a|a|a
 ·rw[Nat.compare_eq_lt.2 a];refine bv (λ_=>⟨by rw[ng,f9 i4],i0⟩) (λe=>j0)
 ·subst a;rw[Nat.compare_eq_eq.2 rfl];refine bv (λe=>j0) λ_=>bv (λe=>j0) λ_=>⟨by rw[ng,g0 i4,g0 i4],i0⟩
 ·rw[Nat.compare_eq_gt.2 a];refine bv (λe=>j0) λ_=>bv (λ_=>⟨by rw[ng,g0 i4,f9 i4],i0⟩) (λe=>j0)
theorem Qq(m:Int)(h:f8):ac xR 233 #[xH xN m] h λv h'=>v=xL eR/\h'=h:=by refine uz _ ?_;unfold rf;exact⟨i9,i0⟩
theorem abm(m n:Int)(h:f8):ac xR 183 #[xH xN m,xH xN n] h λv h'=>v=xH xN (ng m n)/\h'=h:=by refine rL _ _ ?_;unfold nP;refine(Qq m h).mono ?_;rintro v b ⟨rfl,rfl⟩;refine⟨_,i0,(Qq n b).mono ?_⟩;rintro v c ⟨rfl,rfl⟩;refine⟨_,i0,bv (λe=>j0) λ_=>bv (λe=>j0) λ_=>?_⟩;refine aj (λe=>⟨by rw[ng,f9 e],i0⟩) λe=>aj (λa=>⟨by rw[ng,g0 e,f9 a],i0⟩) λa=>⟨by rw[ng,g0 e,g0 a],i0⟩
def Xj(a b:Int):Int:=if a≠0 then a else b
theorem afZ(s:Sl)(a b:Int)(h:f8)(f:Rd h s 1 aC [a,b]):ac xR 181 #[s] h λv h'=>v=xH xN (Xj a b)/\h'=h:=by
 refine Dl s ?_;unfold Aw;have l:s.len=2:=f.len;refine av (λk:Nat=>(k:Int)) (λk h'=>h'=h/\k<=2/\(1<=k->a=0)/\(2<=k->b=0)) (λk=>2-k) 0 i0 ⟨i0,i4,i4,i4⟩ ?_;rintro k h' ⟨rfl,m,g,j⟩;refine aj (λe=>?_) (λe=>?_)
 ·rcases(show k=0∨k=1 by omega)with rfl|rfl
  ·refine f.bB 0 i0 i9 a i0 ?_;refine cv (λc=>⟨by rw[Xj,f9 c],i0⟩) λc=>?_;exact⟨1,i0,⟨i0,i4,λ_=>c,i4⟩,i4⟩
  ·refine f.bB 1 i0 i9 b i0 ?_;have d:=g i4;refine cv (λc=>⟨by rw[Xj,g0 pa],i0⟩) λc=>?_;exact⟨2,i0,⟨i0,i4,λ_=>d,λ_=>c⟩,i4⟩
 ·have d:=g i4;have i:=j i4;exact⟨by rw[Xj,g0 pa,i],i0⟩
abbrev Fr:=Int×Fin 129
def AM(x:Fr):be:=[xH xN x.1,.float .f64 (cZ ((x.2:Nat):Int))]
def AN(x y:Fr):Int:=Xj (ng (x.2:Nat) (y.2:Nat)) (ng x.1 y.1)
theorem Uj(x y:Fr)(h:f8):ac xR 180 #[xM (AM x).toArray,xM (AM y).toArray] h λv h'=>v=xH xN (AN x y)/\aV (λb=>b<h.size) h h':=by
 refine Jr (x.1,cZ ((x.2:Nat):Int)) (y.1,cZ ((y.2:Nat):Int)) ?_;unfold BN;refine(Sp.refl h).boxed (t:=242) λa l f=>?_;refine f.boxed (t:=242) λb e c=>?_;refine⟨_,(c.box 0 i0).cell (j:=1) i0,_,(c.box 1 i0).cell (j:=1) i0,_,(c.box 0 i0).cell0 i0,_,(c.box 1 i0).cell0 i0,?_⟩;refine(abl x.2 y.2 e x.2.isLt y.2.isLt).mono ?_;rintro v h3 ⟨rfl,rfl⟩;refine⟨_,i0,⟨(c.box 1 i0).cell0 i0,(c.box 0 i0).cell0 i0,trivial⟩,(abm _ _ h3).mono ?_⟩;rintro v i ⟨rfl,rfl⟩;refine⟨_,i0,trivial,?_⟩;refine c.lit af aC aff i0 [ng (x.2:Nat) (y.2:Nat),ng x.1 y.1] i0 (show 2*1<=2^20 by decide) i0 λs g d=>⟨trivial,?_⟩
 refine(afZ s _ _ g (d.seq 2 i0 λ_=>rfl)).mono ?_;rintro v k ⟨rfl,rfl⟩;exact⟨_,i0,trivial,i0,d.ai⟩
theorem Xk{a b:Int}:ng a b<0↔a<b:=by unfold ng;split<;>(try split)<;>omega
theorem Qr{a b:Int}:ng a b=0↔a=b:=by unfold ng;split<;>(try split)<;>omega
theorem afg{x y:Fr}:ltOf AN x y=eL↔((x.2:Nat):Int)<(y.2:Nat)∨(((x.2:Nat):Int)=(y.2:Nat)/\x.1<y.1):=by
 have h0:ltOf AN x y=eL↔AN x y<0:=by simp[ltOf]
 rw[h0,AN,Xj];by_cases h:ng (x.2:Nat) (y.2:Nat)=0
 ·rw[g0 rb,Xk];have:=Qr.1 h;constructor
  ·exactλa=>.inr ⟨this,a⟩
  ·rintro(a|a)
   ·omega
   ·exact a.2
 ·rw[f9 h,Xk];have b:((x.2:Nat):Int)≠(y.2:Nat):=λe=>h (Qr.2 e);constructor
  ·exact .inl
  ·rintro(a|a)
   ·exact a
   ·exact absurd a.1 b
theorem Ii{x y:Fr}:ltOf AN x y=eR↔¬(((x.2:Nat):Int)<(y.2:Nat)∨(((x.2:Nat):Int)=(y.2:Nat)/\x.1<y.1)):=by rw[<-afg];simp
theorem ahH:Sort.SWO (ltOf AN) where
 irrefl x:=Ii.2 i4
 trans x y z h1 h2:=by rw[afg]at*;omega
 ntrans x y z h1 h2:=by rw[Ii]at*;omega
theorem ahI(x y:Fr)(b:ltOf AN x y=eR)(a:ltOf AN y x=eR):x=y:=by rw[Ii]at b a;refine y5 i4 (Fin.ext i4)
theorem Uk{e:TypeId}{s:Sl}{l:List Fr}{h:f8}(i:Own h e s 2 AM l)(a:ii l<2^40):
  ac xR 179 #[s,.func (.func 180) #[] #[]] h λv h'=>v=.tuple #[]/\Own h' e s 2 AM (l.mergeSort λx y=>!(ltOf AN) y x)/\aV (λb=>¬s.on b) h h':=by
 have n:∀x:Fr,ii (AM x)=2:=λ_=>rfl;refine QN (P:=xR) (id_:=179) (g:=180) (enc:=AM) (k:=2) (cf:=AN) n ?_ ?_ (λx y h=>Uj x y h) i a
 ·intro fG cap l w m j d f;have:=AnyQ.slices_SortFunc_total Tryz.Xe 2 Tryz.ahg Tryz.afO AM (λ_=>rfl) (λx v c=>by simp[AM]at c;rcases c with rfl|rfl<;>rfl) AN ahH 180 #[] fG 0 cap l.toArray w (enters_of Tryz.afP j1 i0) (by simpa using m) j d n5 ahI;simp at this;exact this
 ·intro p cap w;exact AnyF.slices_SortFunc_none Tryz.Xe p cap _ w
def AO(a:aF)(n:Int):aF:=if 0<=n/\n<64/\a.contains n=eR then a++[n]else a
def il(l:aF):aF:=l.foldl AO []
theorem BW(l:aF){k:Nat}(a:k<ii l:=by omega):il (l.take (k+1))=AO (il (l.take k)) l[k]:=by rw[il,aK _ _ a,zN];rfl
theorem Ul(l:aF):∀k,k<=ii l->∀x,x∈il (l.take k)↔x∈l.take k/\0<=x/\x<64
 |0,_,x=>by simp[il]
 |k+1,hk,x=>by
  have c:=Ul l k i4;rw[BW l,aK _ _ (show k<ii l by omega),AO];by_cases h:0<=l[k]/\l[k]<64/\(il (l.take k)).contains l[k]=eR
  ·rw[f9 h,qz,qz,qC,c x];constructor
   ·rintro(a|rfl)
    ·exact⟨.inl a.1,a.2⟩
    ·exact⟨.inr i0,h.1,h.2.1⟩
   ·rintro⟨a|a,b⟩
    ·exact .inl ⟨a,b⟩
    ·exact .inr a
  ·rw[g0 h,qz,qC,c x];constructor
   ·rintro a;exact⟨.inl a.1,a.2⟩
   ·rintro⟨a|rfl,b⟩
    ·exact⟨a,b⟩
    ·have:(il (l.take k)).contains l[k]=eL:=by
      cases hc:(il (l.take k)).contains l[k]with
      |true=>rfl
      |false=>exact absurd ⟨b.1,b.2,hc⟩ h
     exact(c _).1 (by simpa using this)
theorem Nm(l:aF):∀k,k<=ii l->(il (l.take k)).Nodup
 |0,_=>by simp[il]
 |k+1,hk=>by
  have c:=Nm l k i4;rw[BW l,AO];split
  ·rename_i h;rw[List.nodup_append];refine⟨c,i9,λa e b d=>?_⟩;rw[qC.1 d];rintro rfl;have:=h.2.2;rw[List.contains_eq_mem]at this;simp[e]at this
  ·exact c
theorem adC(l:aF)(k:Nat):ii (il (l.take k))<=k:=by
 induction k with
 |zero=>simp[il]
 |succ k ih=>
  by_cases a:k<ii l
  ·rw[BW l a,AO];split
   ·simp;omega
   ·omega
  ·rw[qi i4]at ih⊢;omega
def EQ(c:Nat)(n:Int):Fr:=(n,Fin.ofNat 129 (Ih n.toNat c).toNat)
theorem ahJ{c:Nat}{n:Int}(a:c<64)(d:0<=n)(b:n<64):(((EQ c n).2:Nat):Int)=Ih n.toNat c:=by have:=abk (i:=n.toNat) (j:=c) i4 a;show(((Ih n.toNat c).toNat%129:Nat):Int)=_;omega
def tI(c:Nat)(l:aF):aF:=(((il l).map (EQ c)).mergeSort λx y=>!(ltOf AN) y x).map (·.1)
def io(a block:Int)(l:aF):aF:=if 0<=a/\a<=16777215/\0<=block/\block<8 then tI ((8*a+block)%64).toNat l else[]
def sN(a:aF):be:=(qE 64).map λi:Nat=>xL (a.contains (i:Int))
theorem aga(a:aF){n:Int}(c:0<=n)(b:n<64):(sN a)[n.toNat]?=dB (xL (a.contains n)):=by rw[sN,qR,zu i4,qQ,show((n.toNat:Nat):Int)=n by omega]
theorem adD(a:aF){n:Int}(d:0<=n)(c:n<64):(sN a).set n.toNat (xL eL)=sN (a++[n]):=by
 apply zC;intro i;rw[qY,sN,sN,qR,qR,qy,zA];by_cases b:i<64
 ·rw[zu b,qQ,qQ];by_cases h:n.toNat=i
  ·rw[f9 h,f9 i4,show((i:Nat):Int)=n by omega];simp
  ·rw[g0 h];have:(a++[n]).contains (i:Int)=a.contains (i:Int):=by rw[List.contains_eq_mem,List.contains_eq_mem];simp;omega
   rw[this]
 ·rw[g0 i4,qZ i7];rfl
abbrev eFr:bL C.toCM 237 242 2 [xH xN 0,.float .f64 0] 16:=⟨_,_,i0,i0,i0,i0,i0,i0⟩
theorem ahK:∀x,∀c∈AM x,c.oneCell'=eL:=by intro x c a;simp[AM]at a;rcases a with rfl|rfl<;>rfl
theorem Wg(b block:Int)(live:Sl)(l:aF)(h:f8)(T:Rd h live 1 aC l)(Y:ii l<=2^30):
  ac xR 109 #[xH xN b,xH xN block,live] h λv h'=>∃r:Sl,v=r/\Sp h h' [aq 3 r 1 aC (io b block l)]:=by
 have ab:=T.len;refine Mu b block live ?_;unfold Fz;have F:¬(0<=b/\b<=16777215/\0<=block/\block<8)->∃r:Sl,Value.slice eH 0 0=xI r.ptr r.len r.cap/\Sp h h [aq 3 r 1 aC (io b block l)]:=λN=>by
  rw[io,g0 N];exact⟨⟨eH,0,0⟩,i0,(Sp.refl h).nil 3 1 aC⟩
 refine bg (aj (λe=>F i4) λe1=>aj (λe=>F i4) λe2=>aj (λe=>F i4) λe3=>aj (λe=>F i4) λe4=>?_);have O:0<=b/\b<=16777215/\0<=block/\block<8:=i4
 rw[io,f9 O];rw[ak (8*b),ak (8*b+block),yO i4];obtain⟨c,hc⟩:∃c:Nat,(8*b+block)%64=c:=⟨((8*b+block)%64).toNat,i4⟩
 have j:c<64:=i4
 rw[hc,ql];refine⟨i5,(Xi c h j).mono ?_⟩;rintro v h2 ⟨rfl,R2⟩;refine⟨((kN c).ax,(kN c).ay),i0,?_⟩;refine R2.alloc af i0 λa h3 X=>?_;have K:Sp h h3 [aw a 238 (sN []),aq 242 ⟨eH,0,0⟩ 2 AM []]:=X.nil 242 2 AM;refine av (λt:Sl×Nat=>(t.1,(t.2:Int))) (λt h'=>t.2<=ii l/\Sp h h' [aw a 238 (sN (il (l.take t.2))),aq 242 t.1 2 AM ((il (l.take t.2)).map (EQ c))]) (λt=>ii l-t.2) (⟨eH,0,0⟩,0) i0 ⟨i9,K⟩ ?_;rintro⟨s,k⟩ h4 ⟨hk,p⟩;dsimp only at*;have E:=adC l k;refine aj (λe=>?_) (λe=>?_)
 ·have w:k<ii l:=i4
  have G:=BW l w;obtain⟨f,B⟩:∃f,f=il (l.take k):=⟨_,rfl⟩
  rw[<-B]at p E G;refine(Seq.up T p.ai).bB k i0 w _ i0 ?_;obtain⟨x,W⟩:∃x,x=l[k]:=⟨_,rfl⟩
  rw[<-W]at G⊢;refine cE (λt h'=>(t=eL↔0<=x/\x<64/\f.contains x=eR)/\h'=h4) ?_ ?_
  ·refine aj (λm=>aj (λq=>?_) λq=>⟨⟨λe=>j0,λz=>absurd z.2.1 q⟩,i0⟩) λm=>⟨⟨λe=>j0,λz=>absurd z.1 m⟩,i0⟩;refine⟨⟨m,q⟩,f.contains x,?_,?_,i0⟩
   ·rw[z6];exact(p.box 0 i0).cell (aga f m q)
   ·cases f.contains x<;>simp<;>omega
  ·rintro t h5 ⟨U,rfl⟩;refine bv (λe=>?_) (λe=>?_)
   ·obtain⟨m,q,x2⟩:=U.1 e;refine⟨⟨m,q⟩,?_⟩;rw[z6];refine p.storeAt af 0 i0 i0 i0 i0 i0 (by simp[sN];omega) λL u=>?_;have P:Sp h L [aw a 238 (sN (f++[x])),aq 242 s 2 AM (f.map (EQ c))]:=by rw[<-adD f m q];exact u
    obtain⟨n,N⟩:∃n:Nat,x=n:=⟨x.toNat,i4⟩
    subst N;refine(Xi n L i4).mono ?_;rintro v V ⟨rfl,R7⟩;refine⟨((kN n).ax,(kN n).ay),i0,(adB n c V i4 j).mono ?_⟩;rintro v h8 ⟨rfl,rfl⟩;have H:=P.up R7.ai;have ev:cZ (Ih n c)=cZ (((EQ c (n:Int)).2:Nat):Int):=by rw[ahJ j i4 i4,ql]
    refine⟨_,i0,?_⟩;rw[ev];refine H.push af 1 i0 eFr i0 i5 (λ_=>rfl) ahK (EQ c (n:Int)) i0 i5 i7 λs' h9 I=>?_;refine⟨(s',k+1),jj,⟨i6,?_⟩,i6⟩;dsimp only;rw[G,AO,f9 ⟨m,q,x2⟩,qT];exact I
   ·refine⟨(s,k+1),jj,⟨i6,?_⟩,i6⟩;dsimp only;rw[G,AO,g0 λz=>by rw[U.2 z]at e;cases e];exact p
 have M:k=ii l:=i4
 subst M;rw[q8]at p E;refine(Uk (p.own 1 i0) i7).mono ?_;rintro v h5 ⟨rfl,S,R⟩;have J:=p.kX 1 i0 R S;obtain⟨d,g⟩:∃d,d=((il l).map (EQ c)).mergeSort λx y=>!(ltOf AN) y x:=⟨_,rfl⟩
 have ad:ii d=ii (il l):=by rw[g,w7,qy]
 have eo:tI c l=d.map (·.1):=by rw[tI,<-g]
 rw[<-g]at J;have Z:=(J.own 1 i0).len;rw[eo];refine⟨(),i0,?_⟩;refine av (λt:Sl×Nat=>(t.1,(t.2:Int))) (λt h'=>t.2<=ii d/\Sp h h' [aq 242 s 2 AM d,aq 3 t.1 1 aC ((d.take t.2).map (·.1))]) (λt=>ii d-t.2) (⟨eH,0,0⟩,0) i0 ⟨i9,(J.del 0).nil 3 1 aC⟩ ?_;rintro⟨o,i⟩ L ⟨Q,u⟩;dsimp only at*;refine aj (λe=>?_) (λe=>?_)
 ·have D:i<ii d:=i4
  refine(u.seq 0 i0 λ_=>rfl).dQ i i0 D (d[i].1,cZ ((d[i].2:Nat):Int)) i0 ?_;refine u.alloc af i0 λy V H7=>?_;refine H7.storeAll af 2 i0 i0 [xH xN d[i].1,.float .f64 (cZ ((d[i].2:Nat):Int))] i0 i0 i0 i0 λh8 H=>?_;refine⟨d[i].1,(H.box 2 i0).cell0 i0,?_⟩;refine H.push af 1 i0 aff i0 i5 (λ_=>rfl) ir d[i].1 i0 i5 i7 λo' h9 I=>?_;refine⟨(o',i+1),jj,⟨i6,?_⟩,i6⟩;dsimp only;rw[aK _ _ D,qT];exact I.del 2
 ·rw[qi i4]at u;exact⟨o,i0,u.take 1 λi A Q=>by cases i with|zero=>exact Q|succ i=>simp at Q⟩
theorem adE(l:aF)(x:Int):x∈il l↔x∈l/\0<=x/\x<64:=by
 have:=Ul l l.length (qn _) x
 rwa [q8]at this
theorem agb(l:aF):(il l).Nodup:=by
 have:=Nm l l.length (qn _)
 rwa [q8]at this
theorem Nn(c:Nat)(l:aF):(tI c l).Perm (il l):=by have h:=(w5 ((il l).map (EQ c)) λx y=>!(ltOf AN) y x).map (·.1);rw[yd]at h;have e:((λx:Fr=>x.1)∘EQ c)=id:=rfl;rw[e,List.map_id]at h;exact h
theorem Qs(c:Nat)(l:aF)(x:Int):x∈tI c l↔x∈l/\0<=x/\x<64:=by rw[(Nn c l).mem_iff,adE]
theorem adF(c:Nat)(l:aF):(tI c l).Nodup:=(Nn c l).nodup_iff.2 (agb l)
def RP(l:aF)(i:Nat):Int:=l.getD i 0
def tJ(o:aF)(id:Int):Int:=if o=[]∨id<0 then-1 else RP o (id%(ii o:Int)).toNat
theorem agc(s:Sl)(o:aF)(id:Int)(h:f8)(f:Rd h s 1 aC o):ac xR 111 #[s,xH xN id] h λv h'=>v=xH xN (tJ o id)/\h'=h:=by
 have g:=f.len;refine Tw s id ?_;unfold Mw;refine bg (cu (λe=>⟨by rw[tJ,f9 (.inl (q9 i4))],i0⟩) λe=>aj (λd=>⟨by rw[tJ,f9 (.inr d)],i0⟩) λd=>?_);refine⟨e,?_⟩;have b:¬(o=[]∨id<0):=by
  rintro(rfl|h2)
  ·simp at g;omega
  ·exact d h2
 have c:wB id ((s.len:Nat):Int)=((id%(ii o:Int)).toNat:Int):=by rw[yO i4,g];have:=yc id (show(ii o:Int)≠0 by omega);omega
 have a:(id%(ii o:Int)).toNat<ii o:=by have:=wh id (show(0:Int)<ii o by omega);omega
 rw[c];refine f.bB _ i0 a _ i0 ⟨?_,i0⟩;rw[tJ,g0 b,RP,qe,qd a];rfl
def AP(p:Pm)(seed:Int)(d:Row)(id:Int):bc:=if bV id then fL p.2.2.toNat (fd p seed d) (dj (bS p).toNat seed id)else[]
def lV(m:aI)(o b seed:Int)(d:Row)(id:Int):dD:=⟨o,b,id,m.p,seed,AP m.p seed d id⟩
def No(m:aI)(o b seed:Int)(d:Row)(a:aF)(id:Int):Int×bc:=(tJ a id,dW (lV m o b seed d id))
def nh(m:aI)(o:Int)(a:aF)(b:cP)(live:aF)(i:Nat):List (Int×bc):=
 (qE (m.p.1+m.extra).toNat).map λid:Nat=>No m o i (cF o i (a.getD i 0)) (b.getD i []) (io o i live) id
def dJ(m:aI)(o:Int)(a:aF)(b:cP)(live:aF)(n:Nat):List (Int×bc):=(qE n).flatMap (nh m o a b live)
theorem uk(m:aI)(o:Int)(a:aF)(b:cP)(live:aF)(n:Nat):dJ m o a b live (n+1)=dJ m o a b live n++nh m o a b live n:=by unfold dJ;rw[zO,zg,zl,wu,qN]
theorem Np(m:aI)(o:Int)(a:aF)(b:cP)(live:aF)(i:Nat):ii (nh m o a b live i)=(m.p.1+m.extra).toNat:=by simp[nh]
theorem AQ(m:aI)(o:Int)(a:aF)(b:cP)(live:aF):∀n,ii (dJ m o a b live n)=n*(m.p.1+m.extra).toNat
 |0=>by simp[dJ]
 |n+1=>by rw[uk,qx,AQ m o a b live n,Np,zK]
theorem my(o b t:Int):0<=cF o b t/\cF o b t<4294967296:=by unfold cF;omega
section
variable {B:aB} {h0 h:f8} {As:List HP} {a pw:fz} {offs:Int} {da:List aT} {w:Pow} {ds:aW}
theorem Rr(x:cg)(m:aI)(xe:eC)(e:Wl.cb)(s:Sl)(b:bc)(hS:St B h0 As λh=>dY h x m/\dX ol h xe e/\Rd h s 1 aE b)(bb:s.len<=s.cap)(hz:db m)(R:bI m.p=eL)(c9:0<=m.extra/\m.extra<=16)(c7:b.length<=2^20)
  (ht:cL m.p e.object (splitB m.p b).length=dB e.tries) (H:aa B h0 h (bj bu a pw (aX x) offs da w ds::As)):
  ac xR 49 #[xJ (dB a),Ud xe,s] h λv h'=>∃(r:Sl) (ys:List (Int×Sl)),v=.tuple #[r,xL eL]/\
   aa B h0 h' (bj bu a pw (aX x) offs da w ds::cK jJ 2 piv r ys (dJ m e.object e.tries (splitB m.p b) (aN ds m.drives) (splitB m.p b).length)::As):=by
 refine AY (dB a) xe s ?_;unfold oX;refine H.boxed λM h1 H1=>?_;have H1:=H1.bN;have H1:aa B h0 h1 (bj bu a pw (aX x) offs da w ds::aw M 94 (bQ xe)::As):=H1.bs 2 [1,0];refine(eF x m (hS.at [_,_] H1).1 hz H1).mono ?_;rintro _ h2 ⟨U,rfl,R2⟩;have H2:=(H1.cD R2).bs 3 [1,0,2];obtain⟨ok,V⟩:=aa.cC H2;obtain⟨b6,dx,cq⟩:=hS.at [_,_,_] H2;have ax:(x.2.2.1,x.2.2.2.1,x.2.2.2.2.1)=m.p:=b6.p;have d6:=(ce m.p).1 R;obtain⟨s1,s2,s3⟩:=ly R;obtain⟨c1,c2,c3⟩:=mg R b.length;have cc:(aN ds m.drives).length<=m.drives.length:=qP _ _;have d7:=hz.dr;obtain⟨live,ab⟩:∃live,live=aN ds m.drives:=⟨_,rfl⟩
 rw[<-ab]at H2 cc⊢;obtain⟨g,I⟩:∃g,g=splitB m.p b:=⟨_,rfl⟩
 have b3:g.length<=2^20:=by rw[I];unfold splitB;simp;omega
 have ah:∀r∈g,r.length=dG m.p:=by rw[I];intro r hr;unfold splitB at hr;obtain⟨i,_,rfl⟩:=qw.1 hr;exact Ia _ _ _
 refine⟨U,i0,a,i0,(x.2.2.1,x.2.2.2.1,x.2.2.2.2.1),⟨by rw[addr_add];exact V.cell i0,by rw[addr_add];exact V.cell i0,by rw[addr_add];exact V.cell i0,trivial⟩,?_⟩;rw[ax];refine(VS m.p s b h2 R cq bb i4).mono ?_;rintro _ h3 ⟨q,rfl,R3⟩;rw[<-I]at R3 ht⊢;obtain⟨rs,Z⟩:=Go.Qw.aa.afd (H2.cD R3) λ_=>rfl;have Z:=(Z.Gw 101 2 piv jJ).bN;have Z:aa B h0 h3 (bj bu a pw (aX x) offs da w ds::bX 101 ⟨eH,0,0⟩ 2 piv jJ (dJ m e.object e.tries g live 0)::cK (ox 1 aE) 1 bt q rs g::aq 3 U 1 aC live::aw M 94 (bQ xe)::As):=Z.bs 5 [2,0,1,3,4];have c8:=(Z.eG 2 i0).1.len;have dy:=(Z.eG 2 i0).2.1;have c6:=jg ht;refine⟨q,i0,?_⟩;obtain⟨k,F⟩:∃k:Nat,k=(m.p.1+m.extra).toNat:=⟨_,rfl⟩
 have N:k<=32:=i4
 refine av (λt:Sl×Nat=>(t.1,(t.2:Int))) (λt h'=>t.2<=g.length/\aa B h0 h' (bj bu a pw (aX x) offs da w ds::bX 101 t.1 2 piv jJ (dJ m e.object e.tries g live t.2)::cK (ox 1 aE) 1 bt q rs g::aq 3 U 1 aC live::aw M 94 (bQ xe)::As)) (λt=>g.length-t.2) (⟨eH,0,0⟩,0) i0 ⟨i9,Z⟩ ?_;rintro⟨o,i⟩ h4 ⟨hi,H4⟩;dsimp only at*;refine aj (λe1=>?_) (λe1=>?_)
 ·have ao:i<g.length:=i4
  have F4:=H4.eG 2 i0;have a2:=H4.box 4 i0;obtain⟨cn,a8,dk⟩:=hS.at [_,_,_,_,_] H4;obtain⟨_,cf⟩:=aa.cC H4;obtain⟨t,a5,b2⟩:=BR ht i i4;have cd:e.tries.getD i 0=(t:Int):=by rw[qe,qd i4];exact a5
  have b9:g.getD i []=g[i]:=by rw[qe,qd ao];rfl
  have L:∀{h':f8},cA h' M 94 (bQ xe)->cellOf h' (M.add 1)=dB (xH xN e.object):=λ{h'} hb=>by rw[<-a8.1.2.1];exact hb.cell i0
  have cp:∀{h':f8},cA h' a 84 (cH (aX x) pw offs da)->an h' (a.add 2) 0 [xH xN m.p.1,xH xN m.p.2.1,xH xN m.p.2.2]:=λ{h'} hb=>by
   rw[<-ax];exact⟨j8,j8,j8,trivial⟩
  have a3:=Fix.row F4 ao;refine F4.1.bB i i0 i4 (rs[i]'(by omega)) i0 ?_;refine⟨e.object,L a2,xe.2.2.2,a2.cell i0,?_⟩;refine Seq.bB (f:=aC) a8.2 i i0 i4 (t:Int) (by rw[a5];rfl) ?_;refine(rl _ _ _ h4).mono ?_;rintro _ _ ⟨rfl,rfl⟩;refine⟨_,i0,⟨a2.cell i0,trivial⟩,a,i0,m.p,cp cf,?_⟩;obtain⟨seed,l⟩:∃seed,seed=cF e.object i t:=⟨_,rfl⟩
  have hg:=(Ib b2).2.1;have am:fJ m.p seed (fc m.p)=eL:=by rw[l];exact hg
  obtain⟨K,Hh,w',n,BK⟩:=aeD (seed:=seed) (d:=g[i]) R am (by rw[ah _ (qg ao),s3]);rw[<-l];refine(ahG BK (rs[i]'(by omega)) _ a3.1 a3.2).mono ?_;rintro _ h6 ⟨bk,mm,rfl,R6⟩;have H6:=(H4.comp R6).front;have H6:aa B h0 h6 (bj bu a pw (aX x) offs da w ds::bX 101 o 2 piv jJ (dJ m e.object e.tries g live i)::cK (ox 1 aE) 1 bt q rs g::aq 3 U 1 aC live::aw M 94 (bQ xe)::gl 34 mm 1 aE (fd m.p seed g[i])::aw bk 234 (Li m.p seed mm)::As):=H6.bs 7 [2,3,4,5,6,0,1];refine⟨(dB bk,0),i0,cv (λe2=>absurd i0 e2) λ_=>?_⟩;have b4:=H6.box 4 i0;refine⟨e.object,L b4,(Wg e.object i U live h6 (H6.seq 3 i0 λ_=>rfl) i4).mono ?_⟩;rintro _ h7 ⟨O,rfl,R7⟩;have H7:=(H6.cD R7).bs 8 [1,2,3,4,5,6,7,0];obtain⟨c,y⟩:∃c,c=io e.object i live:=⟨_,rfl⟩
  rw[<-y]at H7;have a7:=(aa.cC H7).2;have c0:x.2.2.1=m.p.1:=congrArg (·.1) ax;refine⟨O,i0,a,i0,x.2.2.1,a7.cell i0,a,i0,x.2.2.2.2.2.1,a7.cell i0,?_⟩;have en:qc xN (x.2.2.1+x.2.2.2.2.2.1)=(k:Int):=by rw[c0,cn.extra,ak _];omega
  dsimp only;rw[en];have S:nh m e.object e.tries g live i=(qE k).map λid:Nat=>No m e.object i seed g[i] c id:=by unfold nh;rw[cd,b9,<-l,<-y,<-F]
  have bd:(nh m e.object e.tries g live i).length=k:=by rw[Np,<-F]
  obtain⟨G,A⟩:∃G,G=dJ m e.object e.tries g live i:=⟨_,rfl⟩
  have du:G.length<=2^26:=by rw[A,AQ,<-F];have:=wq (show i<=2^20 by omega) N;omega
  obtain⟨Q,hQ⟩:∃Q,Q=nh m e.object e.tries g live i:=⟨_,rfl⟩
  rw[<-hQ]at S bd;rw[<-A]at H7;refine av (λt:Sl×Nat=>(t.1,(t.2:Int))) (λt h'=>t.2<=k/\aa B h0 h' (bj bu a pw (aX x) offs da w ds::bX 101 t.1 2 piv jJ (G++Q.take t.2)::cK (ox 1 aE) 1 bt q rs g::aq 3 U 1 aC live::aw M 94 (bQ xe)::gl 34 mm 1 aE (fd m.p seed g[i])::aw bk 234 (Li m.p seed mm)::aq 3 O 1 aC c::As)) (λt=>k-t.2) (o,0) i0 ⟨i9,by simpa using H7⟩ ?_;rintro⟨o2,id⟩ h8 ⟨hid,T⟩;dsimp only at*;refine aj (λe3=>?_) λe3=>?_
  ·have c5:id<k:=i4
   have Y:=T.box 4 i0;have a0:=(aa.cC T).2;have E:Pe h8 bk m.p seed (fd m.p seed g[i]):=⟨mm,T.box 6 i0,T.JD 5 i0⟩
   have P:AP m.p seed g[i] id=if bV id then fL w' (fd m.p seed g[i]) (dj n seed id)else[]:=by unfold AP;rw[BK.pL,show m.p.2.2.toNat=w' by have:=BK.s;omega]
   have held:∀{h':f8},aV (λb=>b<h8.size) h8 h'->aA.ok [((a.add 2),xH xN m.p.1),((a.add 2).add 1,xH xN m.p.2.1),((a.add 2).add 2,xH xN m.p.2.2),(M.add 1,xH xN e.object)] h':=λ{h'} R=>by
    obtain⟨q1,q2,q3,_⟩:=cp (a0.ai R a0.lt);exact⟨q1,q2,q3,L (Y.ai R Y.lt),trivial⟩
   refine cE (λ(a9:fz) h'=>∃r:Sl,aa B h0 h' (aw a9 170 (bR (e.object,(i:Int),(id:Int),m.p.1,m.p.2.1,m.p.2.2,seed,r))::aq 5 r 1 aE (AP m.p seed g[i] id)::bj bu a pw (aX x) offs da w ds::bX 101 o2 2 piv jJ (G++Q.take id)::cK (ox 1 aE) 1 bt q rs g::aq 3 U 1 aC live::aw M 94 (bQ xe)::gl 34 mm 1 aE (fd m.p seed g[i])::aw bk 234 (Li m.p seed mm)::aq 3 O 1 aC c::As)) ?_ ?_
   ·refine⟨e.object,L Y,a,i0,m.p,cp a0,?_,?_⟩
    ·refine(BK.symbol bk id h8 E).mono ?_;rintro _ h9 ⟨r,rfl,R9⟩;rw[<-P]at R9;have H9:=T.cD R9;refine⟨r,i0,held R9.ai,H9.GA af i0 λa28 d2 bq X=>⟨held (aa.up R9 bq).ai,?_⟩⟩;have X:=X.bN;refine X.storeAll af 0 i0 i0 (bR (e.object,(i:Int),(id:Int),m.p.1,m.p.2.1,m.p.2.2,seed,r)) i0 i0 i0 i0 λd3 cr=>⟨trivial,r,cr⟩
    ·refine T.GA af i0 λd5 b7 W ad=>⟨held W,?_⟩
     have ad:=ad.bN;refine(BK.symbol bk id b7 (E.up W)).mono ?_;rintro _ d4 ⟨r,rfl,ar⟩;rw[<-P]at ar;have b1:=(ad.cD ar).bs 2 [1,0];refine⟨r,i0,held (aa.up (Sp.zip W) ar.ai).ai,?_⟩;refine b1.storeAll af 0 i0 i0 (bR (e.object,(i:Int),(id:Int),m.p.1,m.p.2.1,m.p.2.2,seed,r)) i0 i0 i0 i0 λd0 br=>⟨trivial,r,br⟩
   ·rintro a9 b5 ⟨r,J⟩;have j:=J.box 0 i0;have ay:=my e.object i t;rw[<-l]at ay;refine⟨(e.object,(i:Int),(id:Int),m.p.1,m.p.2.1,m.p.2.2,seed,r),j.aS _ i0,(agc O c id b5 (J.seq 9 i0 λ_=>rfl)).mono ?_⟩;rintro _ b0 ⟨rfl,rfl⟩;refine⟨_,i0,⟨j.cell0 i0,j.cell i0,j.cell i0,j.cell i0,j.cell i0,j.cell i0,j.cell i0,j.cell i0,trivial⟩,?_⟩;refine(CC (e.object,(i:Int),(id:Int),m.p.1,m.p.2.1,m.p.2.2,seed,r) (lV m e.object i seed g[i] id) b0 ⟨⟨i0,i0,i0,i0,i0,ay.1,ay.2⟩,J.seq 1 i0 λ_=>rfl⟩).mono ?_;rintro _ dd ⟨u,rfl,cs⟩;have a4:=(J.cD cs).fI 0 i0 (D:=EA jJ (tJ c id,u) (No m e.object i seed g[i] c id)) λz hz=>⟨i0,hz.1.seq (λ_=>rfl) hz.2⟩
    have a6:Q[id]'(by omega)=No m e.object i seed g[i] c id:=by simp[S]
    refine⟨u,i0,trivial,?_⟩;refine a4.oO af piv TQ i0 [(tJ c id,u)] i0 (show 1*2<=2^20 by decide) i0 trivial ?_;refine aa.sH af a4 4 0 i5 (a:=(tJ c id,u)) i0 i0 TQ i0 i5 (λ_=>rfl) OY (parts:=#[(0,xM #[xH xN (tJ c id),u])]) j1 i5 i7 λo3 d1 c4=>⟨trivial,?_⟩
    refine⟨(o3,id+1),jj,⟨i6,?_⟩,i6⟩;dsimp only;rw[aK Q id,a6,<-qp];exact c4.rest.rest.rest
  ·have ap:id=k:=i4
   subst ap;rw[qi i4]at T;refine⟨(o2,i+1),jj,⟨i6,?_⟩,i6⟩;dsimp only;rw[uk,<-A,<-hQ];exact T.bs 8 [0,1,2,3,4]
 ·have ap:i=g.length:=i4
  subst ap;obtain⟨ys,H5⟩:=H4.Oe 1 rfl λ_=>rfl;exact⟨o,ys,i0,H5.bs 5 [0,1]⟩
end
end Go.Qw
namespace Wl
open Go
def kv(a:Nat)(l:List (Int×bc))(k:Int):Int:=(a:Int)+ii (l.filter λy=>decide (y.1=k))
end Wl
namespace Go.Qw
open Go Go.Vc Go.Proofs Wl
theorem abn(k:Int)(c d:fz)(a:Nat)(r:Sl)(o:List (Int×Sl))(l:List (Int×bc))(h:f8)(z:a<=2^30)(F:ii l<=2^30)(t:cA h c 3 [xH xN a])(p:cA h d 89 [r])(q:nU jJ 2 piv h r o l):
  ac xR 51 #[xH xN k,xJ (dB c),xJ (dB d)] h λv h'=>v=xH xN (kv a l k)/\Sp h h' []:=by
 refine CX k c d ?_;unfold rF;have x:=q.1.len;have A:=q.2.1;refine⟨(a:Int),t.cell0 i0,r,p.cell0 i0,?_⟩;refine av (λi:Nat=>(kv a (l.take i) k,(i:Int))) (λi h'=>i<=ii l/\Sp h h' []) (λi=>ii l-i) 0 (by simp[kv]) ⟨i4,Sp.refl h⟩ ?_;rintro i G ⟨H,s⟩;dsimp only;have w:(ii ((l.take i).filter λy=>decide (y.1=k)):Int)<=i:=by have:=qP (λy:Int×bc=>decide (y.1=k)) (l.take i);simp at this;omega
 refine aj (λe=>?_) λe=>?_
 ·have n:i<ii l:=i4
  have f:=nU.up q s.ai;refine f.1.dQ (g:=piv) i i0 i4 (o[i]'(by omega)) i0 ?_;refine s.alloc af i0 λD E B=>?_;refine B.storeAll af 0 i0 i0 (piv (o[i]'(by omega))) i0 i0 i0 i0 λh3 j=>?_;have j:Sp h h3 [aw D 101 (piv (o[i]'(by omega)))]:=j;have m:=Fix.row f n;have b:kv a (l.take (i+1)) k=kv a (l.take i) k+(if l[i].1=k then 1 else 0):=by
   unfold kv;rw[aK _ _ n,zk,qx,zp,vl];split
   ·rename_i u;rw[f9 (hY u)];simp;omega
   ·rename_i u;rw[g0 o5];simp
  refine⟨l[i].1,by rw[<-m.1];exact(j.box 0 i0).cell0 i0,cu (λg=>?_) λg=>?_⟩
  ·refine⟨i+1,?_,⟨i4,.zip j.ai⟩,i4⟩;rw[b,f9 g,ak (kv a (l.take i) k+1) (by unfold kv;omega) (by unfold kv;omega),ak _];rfl
  ·refine⟨i+1,?_,⟨i4,.zip j.ai⟩,i4⟩;rw[b,g0 g,Int.add_zero,ak _];rfl
 ·rw[qi i4];exact⟨i0,s⟩
def gE(m:aI)(offs:Int)(w:Pow)(ds:aW)(name:ByteArray)(b:bc):Int×aI×Pow×aW:=
 if dv m (di w offs) ds name b.length≠0 then(dv m (di w offs) ds name b.length,m,w,ds)else
 match cL m.p m.next (splitB m.p b).length with
 |none=>(8,m,w,ds)
 |some t=>
  let live:=aN ds m.drives;let l:=dJ m m.next t (splitB m.p b) live (splitB m.p b).length;let n:=dw m ⟨name,m.next,ii b,t⟩;let N:=kv (bo n).length l
  if dt m ds live N=eR then(7,m,w,ds)else
  if(makes m N live w ds).1≠0 then((makes m N live w ds).1,m,(makes m N live w ds).2)else
  let a:=layAll l (makes m N live w ds).2.1 (makes m N live w ds).2.2
  if a.1≠0 then(a.1,m,a.2)else
  ((layAll (bH n live) a.2.1 a.2.2).1,if(layAll (bH n live) a.2.1 a.2.2).1=0 then n else m,(layAll (bH n live) a.2.1 a.2.2).2)
theorem lA{m:aI}{d:Bool}{ds:aW}{name:ByteArray}{n:Nat}(h:dv m d ds name n=0):
  d=eR/\lP name=eL/\m.aG.any (dP name)=eR/\¬(m.p.1*m.p.2.2*8<(n:Int)∨12<=ii m.aG)/\¬(aN ds m.drives=[]∨16777215<m.next∨2147483647<=m.seq):=by
 unfold dv at h;split at h
 ·cases h
 ·rename_i e;split at h
  ·cases h
  ·rename_i a;split at h
   ·cases h
   ·rename_i h3;split at h
    ·cases h
    ·rename_i b;split at h
     ·cases h
     ·rename_i c;exact⟨ln,j7,by simpa using h3,b,c⟩
theorem DC{m:aI}{b:bc}(a:bI m.p=eL)(h:¬m.p.1*m.p.2.2*8<(ii b:Int)):ii (splitB m.p b)<=8:=by obtain⟨f,e,c⟩:=ly a;obtain⟨g,d,c3⟩:=mg a b.length;unfold splitB;rw[qy,zA];refine Nat.le_of_not_lt λh8=>?_;have:=c3 8 i4;rw[<-c]at h;omega
theorem ahL{o:aF}(b:o≠[])(id:Nat):tJ o id∈o:=by
 unfold tJ RP;rw[g0 (by rintro(h|h);exact b h;omega)];have c:0<ii o:=by cases o with|nil=>exact absurd rfl b|cons=>simp
 have a:((id:Int)%(ii o:Int)).toNat<ii o:=by have:=wh (id:Int) (show(0:Int)<ii o by omega);have:=yc (id:Int) (show(ii o:Int)≠0 by omega);omega
 rw[qe,qd a];exact qg a
theorem Um{m:aI}{o:Int}{c:aF}{p:cP}{live:aF}(s:0<=o/\o<=16777215)(q:live≠[])(g:∀k∈live,0<=k/\k<64){n:Nat}(t:n<=8){y:Int×bc}(e:y∈dJ m o c p live n):y.1∈live/\y.2.length<=64:=by
 unfold dJ at e;obtain⟨i,j,e⟩:=zJ.1 e;have j:=qG.1 j;unfold nh at e;obtain⟨id,_,rfl⟩:=qw.1 e;refine⟨?_,?_⟩
 ·show tJ _ _∈live;have d:io o i live=tI ((8*o+i)%64).toNat live:=by unfold io;rw[f9 i4]
  have b:∀a,a∈io o i live↔a∈live/\0<=a/\a<64:=λa=>by rw[d];exact Qs _ _ _
  have f:io o i live≠[]:=λh=>by
   cases live with
   |nil=>exact q i0
   |cons a l=>
    have:=(b a).2 ⟨zb,g a zb⟩;rw[h]at this;cases this
  exact((b _).1 (ahL f id)).1
 ·show(dW _).length<=64;unfold dW;split
  ·rename_i r;refine Nat.le_of_eq (nV i5 i5 ?_);have:=oQ r;omega
  ·simp
theorem agd{m:aI}{e:Wl.cb}(b:db m)(g:m.aG.length<=11)(c:e.name.size<=2^30)(d:e.tries.length<=2^30):db (dw m e):=by
 refine⟨b.dr,?_,λf a=>?_⟩
 ·show((m.aG++[e]).mergeSort uH).length<=2^30;rw[w7];simp;omega
 ·have a:f∈(m.aG++[e]).mergeSort uH:=a;rcases qz.1 ((w5 _ _).mem_iff.1 a)with h|h
  ·exact b.nm f h
  ·rw[qC.1 h];exact⟨c,d⟩
section
variable {B:aB} {h0 h:f8} {As:List HP} {a pw:fz} {offs:Int} {da:List aT} {w:Pow} {ds:aW}
theorem adG(x:cg)(m:aI)(name:ByteArray)(s:Sl)(b:bc)(hS:St B h0 As λh=>Rd h s 1 aE b)(b2:s.len<=s.cap)(hn:name.size<=2^40)(W:db m)(hp:bI m.p=eL)(cd:0<=m.extra/\m.extra<=16)(cs:∀k∈m.drives,0<=k/\k<64)(cq:m.drives.length<=64)(dr:0<=m.seq)(bk:0<=m.next)(b4:b.length<=2^20)
  (H:aa B h0 h (bj bu a pw (aX x) offs da w ds::cx x m::As)):
  ac xR 10 #[xJ (dB a),xK name,s] h λv h'=>v=xH xN (gE m offs w ds name b).1/\
   ∃y,aa B h0 h' (bj bu a pw (aX y) offs da (gE m offs w ds name b).2.2.1 (gE m offs w ds name b).2.2.2::cx y (gE m offs w ds name b).2.1::As):=by
 refine FW (dB a) name s ?_;unfold ur;have a0:=(hS.at [_,_] H).len;refine(Uf x m name s b.length a0 hn (H.at 1 i0) W hp H).mono ?_;rintro _ h1 ⟨rfl,R1⟩;have H1:=H.up R1.ai;refine⟨_,i0,cv (λe=>?_) λe1=>?_⟩
 ·have ep:gE m offs w ds name b=(dv m (di w offs) ds name b.length,m,w,ds):=by unfold gE;rw[f9 e]
  rw[ep];exact⟨i0,x,H1⟩
 obtain⟨z1,z2,z3,z4,z5⟩:=lA e1;have b7:¬m.p.1*m.p.2.2*8<(b.length:Int):=λh=>z4 (.inl h);have a2:m.aG.length<=11:=by have:¬12<=m.aG.length:=λh=>z4 (.inr h);omega
 have dy:aN ds m.drives≠[]:=λh=>z5 (.inl h);have c0:m.next<=16777215:=by have:¬16777215<m.next:=λh=>z5 (.inr (.inl h));omega
 have ek:m.seq<=2147483646:=by have:¬2147483647<=m.seq:=λh=>z5 (.inr (.inr h));omega
 have h8:=DC hp b7;have er:name.size<=12:=by unfold lP at z2;simp at z2;omega
 have cf:=(aa.cC H1).2;have a8:dY h1 x m:=H1.at 1 i0;refine⟨a,i0,x.2.1,cf.cell i0,H1.alloc af i0 λa4 h2 H2=>?_⟩;have H2:=H2.bN;refine H2.storeAll af 0 i0 i0 (bQ (name,x.2.1,(s.len:Int),⟨eH,0,0⟩)) i0 i0 i0 i0 λh3 H3=>?_;have H3:aa B h0 h3 (aw a4 94 (bQ (name,m.next,(b.length:Int),⟨eH,0,0⟩))::bj bu a pw (aX x) offs da w ds::cx x m::As):=by rw[<-a8.next,<-a0];exact H3
 have cp:∀{h':f8},cA h' a 84 (cH (aX x) pw offs da)->an h' (a.add 2) 0 [xH xN m.p.1,xH xN m.p.2.1,xH xN m.p.2.2]:=λ{h'} hb=>by
  rw[<-a8.p];exact⟨j8,j8,j8,trivial⟩
 obtain⟨P,L⟩:∃P,P=(splitB m.p b).length:=⟨_,rfl⟩
 have bd:countP m.p (s.len:Nat)=(P:Int):=by have:=(mg hp b.length).1;rw[L,a0];unfold splitB;rw[qy,zA];omega
 refine cE (λ(t:Sl×Bool) h'=>(cL m.p m.next P=eH->t.2=eR/\aa B h0 h' (bj bu a pw (aX x) offs da w ds::cx x m::As))/\(∀l,cL m.p m.next P=dB l->t.2=eL/\aa B h0 h' (aq 3 t.1 1 aC l::aw a4 94 (bQ (name,m.next,(b.length:Int),⟨eH,0,0⟩))::bj bu a pw (aX x) offs da w ds::cx x m::As))) ?_ ?_
 ·have cr:=H3.box 0 i0;have Y:=(aa.cC (H3.bs 3 [1,0,2])).2;refine⟨a,i0,m.p,cp Y,m.next,cr.cell i0,a,i0,m.p,cp Y,(uS m.p s.len h3).mono ?_⟩;rintro _ h4 ⟨rfl,R4⟩;have H4:=H3.up R4.ai;have c7:=Y.ai R4.ai Y.lt;obtain⟨q1,q2,q3,_⟩:=cp c7;refine⟨_,i0,⟨(H4.box 0 i0).cell i0,q1,q2,q3,trivial⟩,?_⟩;rw[bd];refine(Yw m.p m.next P h4 i4).mono ?_;rintro _ h5 ⟨T0,T1⟩;cases ht:cL m.p m.next P with
  |none=>
   obtain⟨rfl,R5⟩:=T0 ht;exact⟨(⟨eH,0,0⟩,eR),i0,trivial,λ_=>⟨i0,(H4.up R5.ai).bs 3 [1,2]⟩,λl h=>j6⟩
  |some l=>
   obtain⟨r,rfl,R5⟩:=T1 l ht;exact⟨(r,eL),i0,trivial,λh=>j6,λl' h=>(by injection h with h;subst h;exact⟨i0,H4.cD R5⟩)⟩
 rintro⟨j,tb⟩ h6 ⟨T0,T1⟩;dsimp only at T0 T1⊢;cases ht:cL m.p m.next P with
 |none=>
  obtain⟨rfl,H6⟩:=T0 ht;have ep:gE m offs w ds name b=(8,m,w,ds):=by unfold gE;rw[g0 mn,<-L,ht]
  rw[ep];exact bm (λ_=>⟨i0,x,H6⟩) λe=>j0
 |some t=>
  obtain⟨rfl,H6⟩:=T1 t ht;refine bm (λe=>j0) λ_=>?_;have d2:=jg ht;refine H6.store af 1 i0 i0 3 [j] i0 i0 i0 i9 λh7 H7=>?_;obtain⟨e,he⟩:∃e:Wl.cb,e=⟨name,m.next,b.length,t⟩:=⟨_,rfl⟩
  have H7:aa B h0 h7 (aq 3 j 1 aC e.tries::aw a4 94 (bQ (name,m.next,(b.length:Int),j))::bj bu a pw (aX x) offs da w ds::cx x m::As):=by rw[he];exact H7
  have H7:=H7.bs 4 [2,3,0,1];have cn:St B h0 (cx x m::aq 3 j 1 aC e.tries::aw a4 94 (bQ (name,m.next,(b.length:Int),j))::As) λh=>dY h x m/\dX ol h (name,m.next,(b.length:Int),j) e/\Rd h s 1 aE b:=λBs h' i=>
   ⟨(St.gI 0 i0 λ_ q=>q) Bs h' i,(St.gI (A:=aq 3 j 1 aC e.tries) (Q:=λh=>dX ol h (name,m.next,(b.length:Int),j) e) 1 i0 λh' q=>⟨by rw[he];exact⟨i0,i0,i0⟩,q.1.seq (λ_=>rfl) q.2⟩) Bs h' i,(hS.cons.cons.cons) Bs h' i⟩
  refine⟨(name,m.next,(b.length:Int),j),(H7.box 3 i0).aS _ i0,?_⟩;refine(Rr x m (name,m.next,(b.length:Int),j) e s b cn b2 W hp cd b4 (by rw[he,<-L];exact ht) H7).mono ?_;rintro _ es ⟨r,ys,rfl,H8⟩;obtain⟨live,c⟩:∃live,live=aN ds m.drives:=⟨_,rfl⟩
  obtain⟨l,hl⟩:∃l,l=dJ m m.next t (splitB m.p b) live P:=⟨_,rfl⟩
  have c8:dJ m e.object e.tries (splitB m.p b) (aN ds m.drives) (splitB m.p b).length=l:=by rw[hl,he,<-c,<-L]
  rw[c8]at H8;refine⟨(r,eL),i0,H8.alloc af i0 λf h9 H9=>?_⟩;have H9:=H9.bN;refine H9.storeAll af 0 i0 i0 [r] i0 i0 i0 i0 λay o=>?_;refine bm (λe=>j0) λ_=>?_;obtain⟨n,S⟩:∃n,n=dw m e:=⟨_,rfl⟩
  have o:aa B h0 ay (aw f 89 [r]::bj bu a pw (aX x) offs da w ds::cK jJ 2 piv r ys l::cx x m::aq 3 j 1 aC e.tries::aw a4 94 (bQ (name,m.next,(b.length:Int),j))::As):=o;have o:aa B h0 ay (tZ j 1 aC e.tries::bj bu a pw (aX x) offs da w ds::cx x m::cK jJ 2 piv r ys l::aw f 89 [r]::aw a4 94 (bQ (name,m.next,(b.length:Int),j))::As):=(o.freeze 4 i0 λ_=>rfl).bs 6 [4,1,3,2,0,5];have dk:((name,m.next,(b.length:Int),j):eC).1=e.name/\((name,m.next,(b.length:Int),j):eC).2.1=e.object/\((name,m.next,(b.length:Int),j):eC).2.2.1=e.length:=by rw[he];exact⟨i0,i0,i0⟩
  have M:∀{h':f8} {Cs:List HP},aa B h0 h' (tZ j 1 aC e.tries::Cs)->dY h' x m->ac xR 50 #[fN x,Ud (name,m.next,(b.length:Int),j)] h' λv c6=>∃y:cg,v=fN y/\aa B h0 c6 (cx y n::Cs):=λ{h' Cs} i hx'=>by
   rw[S];exact abd x m _ e hx' W ⟨dr,i4⟩ ⟨bk,i4⟩ a2 dk i
  have K:=(aa.cC (o.bs 2 [1,0])).2;have O:=o.box 5 i0;have bq:dY ay x m:=o.at 2 i0;refine cE (λ(t:fz×Sl) h'=>∃y,aa B h0 h' (bj bu a pw (aX x) offs da w ds::cx x m::cK jJ 2 piv r ys l::aw f 89 [r]::aw t.1 44 (aX y)::cx y n::aq 3 t.2 1 aC live::As)) ?_ ?_
  ·refine⟨a,i0,x,K.aS _ i0,(name,m.next,(b.length:Int),j),O.aS _ i0,?_,?_⟩
   ·refine(M o bq).mono ?_;rintro _ el ⟨y,rfl,I⟩;have I:=I.bs 6 [1,2,3,4,0];refine⟨y,i0,trivial,?_,?_⟩
    ·refine(eF x m (I.at 1 i0) W I).mono ?_;rintro _ ec ⟨G,rfl,a7⟩;rw[<-c]at a7;have cc:=I.cD a7;refine⟨G,i0,trivial,cc.alloc af i0 λei en ao=>⟨trivial,?_⟩⟩;have ao:=ao.bN;refine ao.storeAll af 0 i0 i0 (aX y) i0 i0 i0 i0 λed b6=>⟨trivial,y,?_⟩
     exact b6.bs 7 [2,3,4,5,0,6,1]
    ·refine I.alloc af i0 λa22 ea U=>⟨trivial,?_⟩
     have U:=U.bN;have ad:=U.bs 6 [1,2,3,4,5,0];refine(eF x m (ad.at 1 i0) W ad).mono ?_;rintro _ d3 ⟨G,rfl,bl⟩;rw[<-c]at bl;have dx:=(U.cD bl).bs 2 [1,0];refine⟨G,i0,trivial,dx.storeAll af 0 i0 i0 (aX y) i0 i0 i0 i0 λd7 c2=>⟨trivial,y,?_⟩⟩;exact c2.bs 7 [2,3,4,5,0,6,1]
   ·refine o.GA af i0 λeo et bb X=>?_;have d:=K.ai bb K.lt;have F:=O.ai bb O.lt;refine⟨⟨F.cell0 i0,F.cell i0,F.cell i0,F.cell i0,d.cell0 i0,d.cell i0,d.cell i0,d.cell i0,d.cell i0,d.cell i0,d.cell i0,d.cell i0,trivial⟩,?_⟩;have X:=(X.bN).bs 7 [1,0,2,3,4,5];refine(M X (X.at 3 i0)).mono ?_;rintro _ ej ⟨y,rfl,du⟩;have J:=du.bs 6 [2,3,4,5,0,1];refine⟨y,i0,trivial,(eF x m (J.at 1 i0) W J).mono ?_⟩;rintro _ eb ⟨G,rfl,a6⟩;rw[<-c]at a6;have c9:=(J.cD a6).bs 7 [6,0,1,2,3,4,5];refine⟨G,i0,trivial,c9.storeAll af 0 i0 i0 (aX y) i0 i0 i0 i0 λeh dd=>⟨trivial,y,?_⟩⟩;exact dd.bs 7 [2,3,4,5,0,6,1]
  rintro⟨am,G⟩ c1 ⟨y,Z⟩;dsimp only at Z⊢;have ar:db n:=by rw[S];exact agd W a2 (by rw[he];show name.size<=2^30;omega) (by rw[he];show t.length<=2^30;omega)
  have d1:n.drives=m.drives:=by rw[S];rfl
  have eg:live.length<=64:=by rw[c];exact zi (qP _ _) cq
  have u:∀k∈live,0<=k/\k<64:=λk hk=>by rw[c]at hk;exact cs k (qI.1 hk).1
  have a5:(m.p.1+m.extra).toNat<=32:=by have:=(ce m.p).1 hp;omega
  have d6:l.length<=256:=by rw[hl,AQ];exact wq (show P<=8 by omega) a5
  have b3:∀z∈l,(0<=z.1/\z.1<64)/\z.2.length<=2^20:=λz br=>by
   rw[hl]at br;obtain⟨p1,p2⟩:=Um (m:=m) ⟨bk,c0⟩ (by rw[c];exact dy) u (show P<=8 by omega) br;exact⟨u _ p1,zi p2 i5⟩
  refine⟨y,(Z.box 4 i0).aS _ i0,(nB y n c1 (Z.at 5 i0) ar).mono ?_⟩;rintro _ d5 ⟨pg,rfl,b1⟩;have ah:=(aa.xU b1).1;have a1:=kp n ar;obtain⟨pn,a3⟩:∃pn,pn=(bo n).length:=⟨_,rfl⟩
  rw[<-a3]at ah a1;have b9:=Z.up b1.ai;refine⟨pg,i0,b9.alloc af i0 λD ew ax=>?_⟩;have ax:=ax.bN;refine ax.storeAll af 0 i0 i0 [xH xN (pg.len:Int)] i0 i0 i0 i0 λc4 E=>?_;rw[ah]at E;have E:aa B h0 c4 (bj bu a pw (aX x) offs da w ds::cx x m::cK jJ 2 piv r ys l::aw f 89 [r]::aw am 44 (aX y)::cx y n::aq 3 G 1 aC live::aw D 3 [xH xN (pn:Int)]::As):=E.bs 8 [1,2,3,4,5,6,7,0];obtain⟨N,hN⟩:∃N,N=kv pn l:=⟨_,rfl⟩
  obtain⟨T,R⟩:∃T,T=cx x m::cK jJ 2 piv r ys l::aw f 89 [r]::aw am 44 (aX y)::cx y n::aq 3 G 1 aC live::aw D 3 [xH xN (pn:Int)]::As:=⟨_,rfl⟩
  have tX:St B h0 T λh=>dY h x m:=by rw[R];exact St.gI 0 i0 λ_ q=>q
  have tF:St B h0 T λh=>nU jJ 2 piv h r ys l:=by rw[R];exact St.gI 1 i0 λ_ q=>q
  have tB:St B h0 T λh=>cA h f 89 [r]:=by rw[R];exact St.gI (A:=aw f 89 [r]) 2 i0 λ_ q=>q.1
  have tM:St B h0 T λh=>cA h am 44 (aX y):=by rw[R];exact St.gI (A:=aw am 44 (aX y)) 3 i0 λ_ q=>q.1
  have tY:St B h0 T λh=>dY h y n:=by rw[R];exact St.gI 4 i0 λ_ q=>q
  have tL:St B h0 T λh=>Rd h G 1 aC live:=by rw[R];exact St.gI (A:=aq 3 G 1 aC live) 5 i0 λ_ q=>q.1.seq (λ_=>rfl) q.2
  have tN:St B h0 T λh=>cA h D 3 [xH xN (pn:Int)]:=by rw[R];exact St.gI (A:=aw D 3 [xH xN (pn:Int)]) 6 i0 λ_ q=>q.1
  have tT:St B h0 T λh=>RO 51 #[] #[xJ (dB D),xJ (dB f)] N live h:=λBs h' i k hk=>by
   rw[hN];exact abn k D f pn r ys l h' i4 i4 (tN Bs h' i) (tB Bs h' i) (tF Bs h' i)
  have fin:∀{h':f8} {z:cg} {w':Pow} {ap:aW},aa B h0 h' (bj bu a pw (aX x) offs da w' ap::T)->aa B h0 h' (bj bu a pw (aX x) offs da w' ap::cx x m::As):=λ{h' z w' ap} i=>by
   rw[R]at i;exact i.bs 8 [0,1]
  rw[<-R]at E;have ep:gE m offs w ds name b=(if dt m ds live N=eR then(7,m,w,ds)else if(makes m N live w ds).1≠0 then((makes m N live w ds).1,m,(makes m N live w ds).2)else
    if(layAll l (makes m N live w ds).2.1 (makes m N live w ds).2.2).1≠0 then((layAll l (makes m N live w ds).2.1 (makes m N live w ds).2.2).1,m,(layAll l (makes m N live w ds).2.1 (makes m N live w ds).2.2).2)else
    ((layAll (bH n live) (layAll l (makes m N live w ds).2.1 (makes m N live w ds).2.2).2.1 (layAll l (makes m N live w ds).2.1 (makes m N live w ds).2.2).2.2).1,if(layAll (bH n live) (layAll l (makes m N live w ds).2.1 (makes m N live w ds).2.2).2.1 (layAll l (makes m N live w ds).2.1 (makes m N live w ds).2.2).2.2).1=0 then n else m,(layAll (bH n live) (layAll l (makes m N live w ds).2.1 (makes m N live w ds).2.2).2.1 (layAll l (makes m N live w ds).2.1 (makes m N live w ds).2.2).2.2).2)):=by
   rw[hN,a3,hl,S,he,c];unfold gE;rw[g0 mn,<-L,ht]
  rw[ep];refine(Ni 51 #[] #[xJ (dB D),xJ (dB f)] N x m G live k9 (λBs h' i=>⟨tX Bs h' i,tT Bs h' i⟩) W (tL.at [_] E) i4 u E).mono ?_;rintro _ d9 ⟨rfl,d0⟩;have a9:=E.up d0.ai;refine⟨_,i0,bm (λg=>?_) λg=>?_⟩
  ·rw[f9 g];exact⟨i0,x,fin (z:=x) a9⟩
  rw[g0 (by rw[g];decide)];refine(Nj 51 #[] #[xJ (dB D),xJ (dB f)] N x m G live k9 (λBs h' i=>⟨tX Bs h' i,tT Bs h' i,tL Bs h' i⟩) W i4 u a9).mono ?_;rintro _ d4 ⟨rfl,V⟩;obtain⟨m1,c5⟩:∃m1,m1=makes m N live w ds:=⟨_,rfl⟩
  rw[<-c5]at V⊢;refine⟨_,i0,cv (λg2=>?_) λg2=>?_⟩
  ·rw[f9 g2];exact⟨i0,x,fin (z:=x) V⟩
  rw[g0 (by simpa using g2)];refine⟨r,(tB.at [_] V).cell0 i0,(HY r ys l tF i4 b3 V).mono ?_⟩;rintro _ ef ⟨rfl,ab⟩;obtain⟨r2,b5⟩:∃r2,r2=layAll l m1.2.1 m1.2.2:=⟨_,rfl⟩
  rw[<-b5]at ab⊢;refine⟨_,i0,cv (λg3=>?_) λg3=>?_⟩
  ·rw[f9 g3];exact⟨i0,x,fin (z:=x) ab⟩
  rw[g0 (by simpa using g3)];refine⟨y,(tM.at [_] ab).aS _ i0,(Nl x y n G live (λBs h' i=>⟨tY Bs h' i,tL Bs h' i⟩) ar i4 u ab).mono ?_⟩;rintro _ d8 ⟨rfl,Q1,Q0⟩;refine⟨_,i0,i0,?_⟩;by_cases g4:(layAll (bH n live) r2.2.1 r2.2.2).1=0
  ·obtain⟨y2,b0⟩:=Q0 g4;rw[f9 g4];rw[R]at b0;exact⟨y2,b0.bs 9 [0,1]⟩
  ·rw[g0 g4];exact⟨x,fin (z:=x) (Q1 g4)⟩
end
theorem YF(n:Nat)(x:Int)(h:f8)(m:n<=2^30):ac xR 11 #[xH xN n,xH xN x] h λv h'=>∃(r:Sl) (l:bc),v=r/\l.length=n/\Sp h h' [aq 5 r 1 aE l]:=by
 refine AW n x ?_;unfold oV;refine av (λt:Sl×Nat×bc=>(t.1,(t.2.1:Int))) (λt h'=>t.2.1<=n/\t.2.2.length=t.2.1/\Sp h h' [aq 5 t.1 1 aE t.2.2]) (λt=>n-t.2.1) (⟨eH,0,0⟩,0,[]) i0 ⟨i9,i0,(Sp.refl h).nil 5 1 aE⟩ ?_;rintro⟨o,i,l⟩ k ⟨p,b,a⟩;dsimp only at*;refine aj (λe=>?_) λe=>?_
 ·have d:i<n:=i4
  refine⟨i5,Int.tmod_nonneg _ i4,?_⟩;rw[dR];generalize b8 (qc xN _)=c;refine a.push af 0 i0 gj i0 i5 (λ_=>rfl) gH c i0 i5 i4 λg j f=>?_;refine⟨(g,i+1,l++[c]),jj,⟨i6,?_,f⟩,i6⟩;simp[b]
 ·exact⟨o,l,i0,i4,a⟩
end Go.Qw
namespace Go.Vc
open Go Wl Go.Qw
section
variable {α:Type} {B:aB} {h0 h:f8} {As:List HP} {k:Nat} {f:α->be} {L M:List (Sl×List α)}
theorem aa.adH(H:aa B h0 h (dC k f L::dC k f M::As)):aa B h0 h (dC k f (L++M)::As):=by
 have g:aa B h0 h ((dC k f M).sep (dC k f L)::As):=H.ov;refine g.fI 0 i0 λq ⟨i,j,_,b,c,d,e⟩ y a=>?_;rcases qz.1 a with a|a
 ·exact(e y a).mono c
 ·exact(d y a).mono b
end
end Go.Vc
namespace Wl
open Go
def ER(o b:Int)(fp:List dD):List (Int×bc):=(fp.filter λr=>decide (r.object=o)&&decide (r.block=b)).map λr=>(r.id,r.data)
def tK(m:aI)(o b:Int)(l:cP):List (Int×bc):=((kS m l).filter λr=>decide (r.object=o)&&decide (r.block=b)).map λr=>(r.id,r.data)
def kw(m:aI)(ds:aW)(o b:Int)(k:Int):List (Int×bc):=match bC ds k with|some d=>tK m o b d.l|none=>[]
def fQ(m:aI)(ds:aW)(cj:aF)(o b:Int):List (Int×bc):=cj.flatMap (kw m ds o b)
end Wl
namespace Go.Qw
open Go Go.Vc Go.Proofs Wl
abbrev aiK:bL C.toCM 114 117 2 [xH xN 0,xI eH 0 0] 32:=⟨_,_,i0,i0,i0,i0,i0,i0⟩
def YG(pool:List (Sl×bc))(p:(Int×Sl)×(Int×bc)):Prop:=p.1.1=p.2.1/\(p.1.2,p.2.2)∈pool
section
variable {B:aB} {h0 h:f8} {As:List HP} {a pw:fz} {offs:Int} {da:List aT} {w:Pow} {ds:aW} {mc:be}
theorem Ij(x:cg)(m:aI)(s:Sl)(cj:aF)(o b:Int)(hx:dY h x m)(hz:db m)(hs:Rd h s 1 aC cj)(hl:cj.length<=2^10)(hd:∀k∈cj,∃d,bC ds k=dB d)(H:aa B h0 h (bj bu a pw mc offs da w ds::As)):
  ac xR 63 #[.func (.func 35) #[xJ (dB a)] #[],s,fN x,xH xN o,xH xN b] h λv h'=>∃(r:Sl) (ys:List (Int×Sl)),v=r/\Sp h h' [cK jJ 2 piv r ys (fQ m ds cj o b)]:=by
 refine Mg (35,#[xJ (dB a)],#[]) s x o b ?_;unfold Ft;have bl:=hs.len;refine(Sp.refl h).boxed λZ M H1=>?_;have H1:Sp h M [aw Z 44 (aX x)]:=H1;have H1:Sp h M [aq 117 ⟨eH,0,0⟩ 2 piv (([]:List ((Int×Sl)×(Int×bc))).map qJ),dC 1 aE [],aw Z 44 (aX x)]:=((H1.Xf 1 aE).nil 117 2 piv).ck [2,0,1];refine av (λt:Sl×Nat×List ((Int×Sl)×(Int×bc))×List (Sl×bc)=>(t.1,(t.2.1:Int))) (λt h'=>t.2.1<=cj.length/\t.2.2.1.length<=t.2.1*512/\t.2.2.1.map zH=fQ m ds (cj.take t.2.1) o b/\(∀p∈t.2.2.1,YG t.2.2.2 p)/\Sp h h' [aq 117 t.1 2 piv (t.2.2.1.map qJ),dC 1 aE t.2.2.2,aw Z 44 (aX x)]) (λt=>cj.length-t.2.1) (⟨eH,0,0⟩,0,[],[]) i0 ⟨i9,i9,by simp[fQ],i9,H1⟩ ?_;rintro⟨u,i,L,P⟩ h2 ⟨hi,a6,I,U,Y⟩;dsimp only at*;refine aj (λe=>?_) λe=>?_
 ·have T:i<cj.length:=i4
  refine(Seq.up hs Y.ai).bB i i0 T cj[i] i0 (bg ?_);obtain⟨d,A⟩:=hd cj[i] (qg T);have Hc:=H.up Y.ai;obtain⟨ok,hb⟩:=aa.cC Hc;have c:=Y.box 2 i0;refine⟨x,c.aS _ i0,fa k9 ?_⟩;refine(mv cj[i] ok hb).mono ?_;rintro _ h3 ⟨rfl,rfl⟩;refine⟨_,i0,⟨c.cell0 i0,c.cell i0,c.cell i0,c.cell i0,c.cell i0,c.cell i0,c.cell i0,c.cell i0,trivial⟩,?_⟩;rcases nc ok cj[i]with⟨c1,c2⟩|⟨n,d',bb,c0,c1,c2,c3,c4,c5⟩
  ·rw[A]at c1;cases c1
  have ah:d=d':=by rw[c3]at A;injection A with A;exact A.symm
  subst ah;rw[c5];obtain⟨a8,f,H3⟩:=Go.Vc.aa.ko Hc c2;rw[c4]at f;injection f with f
  injection f with f
  subst f;obtain⟨S,sd,bd,am⟩:=aa.rj H3;have a5:=S.len;have ay:=S.room;refine(HZ bb pw d sd bd x m h3 (am.box 0 i0) ((am.bs 2 [1]).LH λ_=>rfl) S (hx.up Y.ai) hz).mono ?_;rintro _ h4 ⟨r7,F,rfl,R4⟩;have ax:=BU m d.l;obtain⟨fp,E⟩:∃fp,fp=kS m d.l:=⟨_,rfl⟩
  rw[<-E]at R4 ax;have H4:=(Y.cD R4).bs 4 [1,2,0,3];have F4:=H4.eG 2 i0;have bk:=F4.2.1;have br:=F4.1.len;refine⟨r7,i0,trivial,?_⟩;have ab:kw m ds o b cj[i]=ER o b fp:=by unfold kw;rw[A];show tK m o b d.l=_;unfold tK ER;rw[E]
  have W:fQ m ds (cj.take (i+1)) o b=fQ m ds (cj.take i) o b++ER o b fp:=by unfold fQ;rw[aK _ _ T,zg,zl,wu,qN,ab]
  obtain⟨Q,hQ⟩:∃Q:List (Sl×bc),Q=(F.zip fp).map λz=>(z.1.2.2.2.2.2.2.2,z.2.data):=⟨_,rfl⟩
  refine av (λt:Sl×Nat×List ((Int×Sl)×(Int×bc))=>(t.1,(t.2.1:Int))) (λt h'=>t.2.1<=fp.length/\t.2.2.length<=L.length+t.2.1/\t.2.2.map zH=fQ m ds (cj.take i) o b++ER o b (fp.take t.2.1)/\(∀p∈t.2.2,YG (P++Q) p)/\Sp h h' [aq 117 t.1 2 piv (t.2.2.map qJ),dC 1 aE P,cK fg 8 bR r7 F fp,aw Z 44 (aX x)]) (λt=>fp.length-t.2.1) (u,0,L) i0 ⟨i9,i9,by simp[ER,I],λp N=>⟨(U p N).1,List.mem_append_left _ (U p N).2⟩,H4⟩ ?_;rintro⟨X,j,L2⟩ h5 ⟨hj,a7,K,R,H5⟩;dsimp only at*;have F5:=H5.eG 2 i0;refine aj (λe2=>?_) λe2=>?_
  ·have ad:j<fp.length:=i4
   have ao:=Fix.row F5 ad;obtain⟨⟨g1,g2,g3,g4,g5,g6,g7⟩,g8⟩:=ao;refine F5.1.dQ (g:=bR) j i0 i4 (F[j]'(by omega)) i0 ?_;refine H5.alloc af i0 λa2 h6 H6=>?_;refine H6.storeAll af 4 i0 i0 (bR (F[j]'(by omega))) i0 i0 i0 i0 λh7 V=>?_;have V:Sp h h7 [aq 117 X 2 piv (L2.map qJ),dC 1 aE P,cK fg 8 bR r7 F fp,aw Z 44 (aX x),aw a2 170 (bR (F[j]'(by omega)))]:=V;have J:=V.box 4 i0;have O:ER o b (fp.take (j+1))=ER o b (fp.take j)++(if(decide (fp[j].object=o)&&decide (fp[j].block=b))=eL then[(fp[j].id,fp[j].data)]else[]):=by unfold ER;rw[aK _ _ ad,zk,qT,zp,vl];split<;>rfl
   have skip:(decide (fp[j].object=o)&&decide (fp[j].block=b))=eR->∃G:Sl×Nat×List ((Int×Sl)×(Int×bc)),((⟨X.ptr,X.len,X.cap⟩:Sl),qc xN ((j:Int)+1))=(G.1,(G.2.1:Int))/\(G.2.1<=fp.length/\G.2.2.length<=L.length+G.2.1/\G.2.2.map zH=fQ m ds (cj.take i) o b++ER o b (fp.take G.2.1)/\(∀p∈G.2.2,YG (P++Q) p)/\Sp h h7 [aq 117 G.1 2 piv (G.2.2.map qJ),dC 1 aE P,cK fg 8 bR r7 F fp,aw Z 44 (aX x)])/\fp.length-G.2.1<fp.length-j:=λhc=>
    ⟨(X,j+1,L2),jj,⟨i6,i6,by dsimp only;rw[O,hc];simpa using K,R,V.ck [0,1,2,3]⟩,i6⟩
   refine⟨fp[j].object,by rw[<-g1];exact J.cell0 i0,cu (λq1=>?_) λq1=>skip (by rw[hU q1];rfl)⟩;refine⟨fp[j].block,by rw[<-g2];exact J.cell i0,cu (λq2=>?_) λq2=>skip (by rw[hU q2,Bool.and_false])⟩;refine⟨fp[j].id,by rw[<-g3];exact J.cell i0,(F[j]'(by omega)).2.2.2.2.2.2.2,J.cell i0,?_⟩;refine V.push af 0 i0 aiK i0 i5 (λ_=>rfl) OY (fp[j].id,(F[j]'(by omega)).2.2.2.2.2.2.2) j1 i5 i7 λu3 a9 ap=>?_;refine⟨(u3,j+1,L2++[((fp[j].id,(F[j]'(by omega)).2.2.2.2.2.2.2),(fp[j].id,fp[j].data))]),jj,⟨i6,i7,?_,λp N=>?_,?_⟩,i6⟩
   ·dsimp only;rw[qT,K,O,f9 (by rw[g9 q1,g9 q2];rfl),qp];rfl
   ·rcases qz.1 N with N|N
    ·exact R p N
    ·rw[qC.1 N];refine⟨i0,List.mem_append_right _ ?_⟩;rw[hQ];refine qw.2 ⟨(F[j]'(by omega),fp[j]),?_,i0⟩;rw[<-vh (h:=by simp;omega)];exact qg _
   ·dsimp only;rw[qT];exact ap.ck [0,1,2,3]
  ·have a0:j=fp.length:=i4
   subst a0;rw[q8,<-W]at K;have a4:=F5.2.1;have H6:=(H5.fI 2 i0 (D:=dC 1 aE Q) λq hq y hy=>by
    rw[hQ]at hy;obtain⟨z,ar,rfl⟩:=qw.1 hy;obtain⟨k,hk,rfl⟩:=qH ar;have a3:k<fp.length:=by simp at hk;omega
    have:=(Fix.row hq a3).2;rw[vh];exact this).ck [1,2,0,3]
   have V:=aa.adH H6;refine⟨(X,i+1,L2,P++Q),jj,⟨i6,i6,K,R,V.ck [1,0,2]⟩,i6⟩
 ·rw[qi i4]at I;refine⟨u,L.map qJ,i0,?_⟩;have H3:=((Y.freeze 0 i0 λ_=>rfl).ck [1,0]).ov;refine H3.fI 0 i0 λq ⟨q1,q2,_,bq,cq,z1,z2⟩=>?_;refine⟨z1.mono bq,by rw[<-I];simp,λj r e M h2=>?_⟩;rw[<-I]at h2;rw[qR]at M h2;cases hj:L[j]? with
  |none=>rw[hj]at M;cases M
  |some p=>
   rw[hj]at M h2;have e1:=zS.inj (show dB p.1=dB r from M);have e2:=zS.inj (show dB p.2=dB e from h2);subst e1;subst e2;obtain⟨k1,k2⟩:=U p (List.mem_of_getElem? hj);exact⟨k1,(z2 _ k2).mono cq⟩
end
end Go.Qw
namespace Wl
open Go
def fT(m:aI)(ds:aW)(o b:Int)(live:aF):cV:=live.map λk=>(fQ m ds [k] o b).map qJ
end Wl
namespace Go.Qw
open Go Go.Vc Go.Proofs Wl
abbrev ahM:bL C.toCM 51 22 1 [xI eH 0 0] 24:=⟨_,_,i0,i0,i0,i0,i0,i0⟩
section
variable {B:aB} {h0 h:f8} {As:List HP} {a pw:fz} {offs:Int} {da:List aT} {w:Pow} {ds:aW}
theorem age{k:Int}{l:aF}(h:k∈aN ds l):∃d,bC ds k=dB d/\d.lost=eR:=by
 have h:=(qI.1 h).2;unfold isLive at h;cases hd:bC ds k with
 |none=>rw[hd]at h;cases h
 |some d=>rw[hd]at h;exact⟨d,i0,j5⟩
theorem ES(m:aI)(o b:Int)(l:cP):ii (tK m o b l)<=ii l:=by unfold tK;rw[qy];exact zi (qP _ _) (BU m l)
theorem YH(x:cg)(m:aI)(o b:Int)(W:dY h x m)(U:db m)(ap:ii m.drives<=64)(f:∀k d,bC ds k=dB d->ii d.l<=512)(H:aa B h0 h (bj bu a pw (aX x) offs da w ds::As)):
  ac xR 18 #[xJ (dB a),xH xN o,xH xN b] h λv h'=>∃r:Sl,v=r/\Sp h h' [gy 22 r 3 1 aC (fT m ds o b (aN ds m.drives))]:=by
 refine CT (dB a) o b ?_;unfold rD;refine(eF x m W U H).mono ?_;rintro _ h1 ⟨c,rfl,L⟩;have N:ii (aN ds m.drives)<=ii m.drives:=qP _ _;have z:∀k∈aN ds m.drives,∃d,bC ds k=dB d:=λk R=>by obtain⟨d,h,_⟩:=age R;exact⟨d,h⟩
 obtain⟨live,n⟩:∃live,live=aN ds m.drives:=⟨_,rfl⟩
 rw[<-n]at L N z⊢;have ah:=(L.own 0 i0).len;refine⟨c,i0,?_⟩;have am:ii (fT m ds o b live)=ii live:=by simp[fT]
 have H1:Sp h h1 [gy 22 ⟨eH,0,0⟩ 3 1 aC ((fT m ds o b live).take 0),aq 3 c 1 aC live]:=L.xT 22 3 1 aC;refine av (λt:Sl×Nat=>(t.1,(t.2:Int))) (λt h'=>t.2<=ii live/\Sp h h' [gy 22 t.1 3 1 aC ((fT m ds o b live).take t.2),aq 3 c 1 aC live]) (λt=>ii live-t.2) (⟨eH,0,0⟩,0) i0 ⟨i9,H1⟩ ?_;rintro⟨u,i⟩ h2 ⟨hi,I⟩;dsimp only at*;refine aj (λe=>?_) λe=>?_
 ·have D:i<ii live:=i4
  refine(I.seq 1 i0 λ_=>rfl).bB i i0 D live[i] i0 ?_;refine I.lit af aC lx i0 [live[i]] i0 (show 1*1<=2^20 by decide) i0 λq h3 s=>?_;have s:Sp h h3 [gy 22 u 3 1 aC ((fT m ds o b live).take i),aq 3 c 1 aC live,aq 3 q 1 aC [live[i]]]:=s;have Y:=H.up s.ai;have K:=(aa.cC Y).2;refine⟨a,i0,x,K.aS _ i0,?_⟩;obtain⟨d,Q⟩:=z live[i] (qg D);refine(Ij x m q [live[i]] o b (W.up s.ai) U (s.seq 2 i0 λ_=>rfl) i9 (λk R=>by rw[qC.1 R];exact⟨d,Q⟩) Y).mono ?_;rintro _ Z ⟨E,y,rfl,X⟩;obtain⟨S,p⟩:∃S,S=fQ m ds [live[i]] o b:=⟨_,rfl⟩
  have ao:ii S<=512:=by rw[p];unfold fQ kw;rw[zl,wu,qN,Q];exact zi (ES _ _ _ _) (f _ _ Q)
  rw[<-p]at X;have F:=(s.cD X).bs 4 [1,2,0];have T:=F.eG 2 i0;have ad:=T.2.1;have ab:=T.1.len;refine⟨E,i0,?_⟩;have F:Sp h Z [aq 3 ⟨eH,0,0⟩ 1 aC ((S.map qJ).take 0),gy 22 u 3 1 aC ((fT m ds o b live).take i),aq 3 c 1 aC live,cK jJ 2 piv E y S]:=(F.nil 3 1 aC).ck [3,0,1,2];refine av (λt:Sl×Nat=>(t.1,(t.2:Int))) (λt h'=>t.2<=ii S/\Sp h h' [aq 3 t.1 1 aC ((S.map qJ).take t.2),gy 22 u 3 1 aC ((fT m ds o b live).take i),aq 3 c 1 aC live,cK jJ 2 piv E y S]) (λt=>ii S-t.2) (⟨eH,0,0⟩,0) i0 ⟨i9,F⟩ ?_;rintro⟨u2,j⟩ h5 ⟨hj,G⟩;dsimp only at*;have V:=G.eG 3 i0;refine aj (λe2=>?_) λe2=>?_
  ·have P:j<ii S:=i4
   have A:=Fix.row V P;refine V.1.dQ (g:=piv) j i0 i4 (y[j]'(by omega)) i0 ?_;refine G.alloc af i0 λO h6 H6=>?_;refine H6.storeAll af 4 i0 i0 (piv (y[j]'(by omega))) i0 i0 i0 i0 λh7 J=>?_;have J:Sp h h7 [aq 3 u2 1 aC ((S.map qJ).take j),gy 22 u 3 1 aC ((fT m ds o b live).take i),aq 3 c 1 aC live,cK jJ 2 piv E y S,aw O 117 (piv (y[j]'(by omega)))]:=J;refine⟨S[j].1,by rw[<-A.1];exact(J.box 4 i0).cell0 i0,?_⟩;refine J.push af 0 i0 lx i0 i5 (λ_=>rfl) ir S[j].1 i0 i5 i7 λu3 h9 H9=>?_;refine⟨(u3,j+1),jj,⟨i6,?_⟩,i6⟩;dsimp only;rw[aK _ _ (show j<ii (S.map qJ) by simp;omega),wy];exact H9.ck [0,1,2,3]
  ·rw[qi i7]at G;refine(G.bs 2 [1,0]).DW af ahM i7 λu3 ar M=>?_;refine⟨(u3,i+1),jj,⟨i6,?_⟩,i6⟩;dsimp only;rw[aK _ _ (show i<ii (fT m ds o b live) by omega)];have ew:(fT m ds o b live)[i]'(by omega)=S.map qJ:=by simp[fT,p]
   rw[ew];exact M.ck [0,1]
 ·rw[qi i4]at I;exact⟨u,i0,I.ck [0]⟩
end
end Go.Qw
namespace Wl
open Go
def Pow.calm(w:Pow):Prop:=w.off=eR/\w.fuse=eH
theorem AR:Pow.new.calm:=⟨i0,i0⟩
theorem tO{w:Pow}(h:w.calm):w.step=(eL,w):=by unfold Pow.step;rw[g0 (by simp[h.1]),h.2]
theorem Kf{w:Pow}(h:w.calm)(ds:aW)(x:Int)(b:bc):(eO w ds x b).2.1=w:=by
 unfold eO;cases bC ds x with
 |none=>rfl
 |some d=>
  dsimp only;unfold bw.append;split
  ·rfl
  ·split
   ·rfl
   ·split
    ·rfl
    ·split
     ·rfl
     ·rw[tO h];rfl
theorem Qt{w:Pow}(h:w.calm)(ds:aW)(x:Int):(gu w ds x).2.1=w:=by
 unfold gu;cases bC ds x with
 |none=>rfl
 |some d=>
  dsimp only;unfold bw.sync;split
  ·rfl
  ·rw[tO h];rfl
theorem rq{w:Pow}(h:w.calm):∀(l:List (Int×bc)) (ds:aW),(kY l w ds).2.1=w
 |[],_=>rfl
 |x::l,ds=>by
  rw[xW,Kf h];split
  ·exact rq h l _
  ·exact Kf h _ _ _
theorem Nq{w:Pow}(h:w.calm):∀(l:aF) (ds:aW),(kP l w ds).2.1=w
 |[],_=>rfl
 |x::l,ds=>by
  rw[DX,Qt h];split
  ·exact Nq h l _
  ·exact Qt h _ _
theorem adI{w:Pow}(h:w.calm)(l:List (Int×bc))(ds:aW):(layAll l w ds).2.1=w:=by
 unfold layAll;dsimp only;rw[rq h];split
 ·exact Nq h _ _
 ·exact rq h _ _
theorem Wh{w:Pow}{d:bw}{n:Nat}{b:bc}(h:w.calm)(a:d.lost=eR)(c:ii d.l+(n+1)<=d.room)(e:ii b=64):d.append w b=(0,w,{d with l:=d.l++[b],wait:=d.wait+1,laid:=[],has:=eR}):=by unfold bw.append;rw[g0 i4,g0 l7,g0 i4,g0 (by simp[h.1]),tO h];rfl
theorem abo{w:Pow}{d:bw}(h:w.calm)(a:d.lost=eR):d.sync w=(0,w,{d with wait:=0,laid:=[],has:=eR}):=by unfold bw.sync;rw[g0 l7,tO h];rfl
theorem ahN{ds:aW}{s:Int}{d:bw}(h:bC ds s=dB d):0<=s/\s<64:=by obtain⟨n,rfl,a⟩:=ju h;omega
def Nr(ds:aW)(P:List (Int×bc))(s:Int):Option bw:=
 (bC ds s).map λd=>{d with l:=d.l++(P.filter λx=>decide (x.1=s)).map zH,wait:=d.wait+ii (P.filter λx=>decide (x.1=s)),laid:=if(P.filter λx=>decide (x.1=s)).isEmpty then d.laid else[],has:=if(P.filter λx=>decide (x.1=s)).isEmpty then d.has else eR}
theorem Ik{w:Pow}(h:w.calm){S:aF}:∀(P:List (Int×bc)) (ds:aW),Fit ds S (P.map qJ)->(∀x∈P,x.1∈S/\x.2.length=64)->
  (kY P w ds).1=0/\Fit (kY P w ds).2.2 S []/\∀s,bC (kY P w ds).2.2 s=Nr ds P s
 |[],ds,F,_=>⟨i0,F,λs=>by unfold Nr;show bC ds s=_;cases bC ds s<;>simp⟩
 |x::P,ds,F,hP=>by
  obtain⟨d,g,q,k⟩:=F.at_ x.1 (hP x (zb ..)).1;rw[wz,List.count_cons_self]at k;have i:=(hP x (zb ..)).2;obtain⟨n,j,a⟩:=ju g;have c:=Wh (n:=(P.map qJ).count x.1) h q i4 i;have e:eO w ds x.1 x.2=(0,w,gh ds x.1 {d with l:=d.l++[x.2],wait:=d.wait+1,laid:=[],has:=eR}):=by unfold eO;rw[g];dsimp only;rw[c]
  obtain⟨_,f⟩:=Rp w x.2 (x:=x.1) (Q:=P.map qJ) F (hP x (zb ..)).1 i;rw[xW,e];rw[e]at f;dsimp only at f⊢;rw[f9 rfl];obtain⟨p,r,a3⟩:=Ik h P _ f λy o=>hP y (qS _ o);refine⟨p,r,λs=>?_⟩;rw[a3 s];unfold Nr;rw[j,vV _ _ _ _ a F.len,<-j];by_cases b:s=x.1
  ·rw[f9 b,b,g];simp only[qQ,zp,decide_true,if_true,wz,zo,qp,List.singleton_append,List.isEmpty_cons,Bool.false_eq_true,if_false];congr 1;simp only[bw.mk.injEq,true_and,and_true];refine⟨i4,?_,?_⟩<;>split<;>rfl
  ·rw[g0 b];simp only[zp,decide_eq_true_eq,g0 (show¬x.1=s fromλm=>b m.symm)]
theorem Ns{w:Pow}(h:w.calm){S:aF}:∀(l:aF) (ds:aW),Fit ds S []->(∀x∈l,x∈S)->
  (kP l w ds).1=0/\Fit (kP l w ds).2.2 S []/\∀s,bC (kP l w ds).2.2 s=(bC ds s).map λd=>if s∈l then{d with wait:=0,laid:=[],has:=eR}else d
 |[],ds,F,_=>⟨i0,F,λs=>by show bC ds s=_;cases bC ds s<;>simp⟩
 |x::l,ds,F,hl=>by
  obtain⟨d,f,k,o⟩:=F.at_ x (hl x (zb ..));obtain⟨n,g,a⟩:=ju f;have e:gu w ds x=(0,w,gh ds x {d with wait:=0,laid:=[],has:=eR}):=by unfold gu;rw[f];dsimp only;rw[abo h k]
  obtain⟨_,b⟩:=Wa w F (hl x (zb ..));rw[DX,e];rw[e]at b;dsimp only at b⊢;rw[f9 rfl];obtain⟨j,m,a3⟩:=Ns h l _ b λy i=>hl y (qS _ i);refine⟨j,m,λs=>?_⟩;rw[a3 s,g,vV _ _ _ _ a F.len,<-g];by_cases c:s=x
  ·subst c;rw[f9 i0,f];simp only[qQ,zd,true_or,if_true];congr 1;split<;>rfl
  ·rw[g0 c];cases bC ds s with
   |none=>rfl
   |some d'=>simp[c]
end Wl
namespace Go.Qw
open Go Go.Vc Go.Proofs Wl
section
variable {B:aB} {h0 h h':f8} {As:List HP} {a:fz} {w:Pow}
end
section
variable {B:aB} {h0 h h':f8} {As:List HP} {a pw:fz} {d:bw} {w:Pow}
end
section
variable {B:aB} {h0 h h':f8} {As:List HP}
end
end Go.Qw
namespace Wl
open Go
end Wl
namespace Go.Qw
open Go Go.Vc Go.Proofs Wl
end Go.Qw
namespace Wl
open Go
end Wl
namespace Go.Qw
open Go Go.Vc Go.Proofs Wl
end Go.Qw
namespace Wl
open Go
def Has(ds:aW)(S:aF):Prop:=ii ds=64/\∀s∈S,∃d,bC ds s=dB d
theorem Has.set{ds:aW}{S:aF}{n:Nat}{d:bw}(F:Has ds S)(a:n<64):Has (gh ds (n:Int) d) S:=by
 refine⟨by unfold gh;rw[zj];exact F.1,λs b=>?_⟩;rw[vV _ _ _ _ a F.1];by_cases h:s=(n:Int)
 ·rw[f9 h];exact⟨_,i0⟩
 ·rw[g0 h];exact F.2 s b
theorem Has.append{ds:aW}{S:aF}(F:Has ds S)(w:Pow)(x:Int)(b:bc):Has (eO w ds x b).2.2 S:=by
 unfold eO;cases hd:bC ds x with
 |none=>exact F
 |some d=>
  obtain⟨n,rfl,a⟩:=ju hd;exact F.set a
theorem Has.sync{ds:aW}{S:aF}(F:Has ds S)(w:Pow)(x:Int):Has (gu w ds x).2.2 S:=by
 unfold gu;cases hd:bC ds x with
 |none=>exact F
 |some d=>
  obtain⟨n,rfl,a⟩:=ju hd;exact F.set a
end Wl
namespace Go.Vc
open Go Wl
end Go.Vc
namespace Go.Qw
open Go Go.Vc Go.Proofs Wl
section
variable {B:aB} {h0 h h':f8} {As:List HP} {a pw:fz} {mc:be} {offs:Int} {da:List aT} {w:Pow} {ds:aW}
end
section
variable {B:aB} {h0 h h':f8} {As:List HP} {a pw:fz} {mc:be} {offs:Int} {da:List aT} {w:Pow} {ds:aW}
end
end Go.Qw
namespace Go.Vc
open Go Wl Go.Qw
def sn(p:Pm)(extra:Int)(l:aF):Int:=
 if(eE l).2&&(bI p&&eW extra 0 16)then
  if(bp l l.length).any λi=>decide (l.getD i.toNat 0<(ii (bo (cw p extra l)):Int))then 7 else 0
 else 1
theorem YI(p:Pm)(extra:Int)(w:Pow)(l:aF):fP p extra w l=if sn p extra l=0 then layAll (bH (cw p extra l) (bp l l.length)) w (gY l (bp l l.length).length)else(sn p extra l,w,[]):=by
 unfold fP sn;by_cases h:((eE l).2&&(bI p&&eW extra 0 16))=eL
 ·rw[f9 h,f9 h];by_cases a:((bp l l.length).any λi=>decide (l.getD i.toNat 0<(ii (bo (cw p extra l)):Int)))=eL
  ·rw[f9 a,f9 a];rfl
  ·rw[g0 a,g0 a];rfl
 ·rw[g0 h,g0 h];rfl
theorem Nt{p:Pm}{extra:Int}{l:aF}(h:sn p extra l=0):bI p=eL/\0<=extra/\extra<=16/\(eE l).2=eL/\((bp l l.length).any λi=>decide (l.getD i.toNat 0<(ii (bo (cw p extra l)):Int)))=eR:=by
 unfold sn at h;by_cases a:((eE l).2&&(bI p&&eW extra 0 16))=eL
 ·rw[f9 a]at h;by_cases b:((bp l l.length).any λi=>decide (l.getD i.toNat 0<(ii (bo (cw p extra l)):Int)))=eL
  ·rw[f9 b]at h;cases h
  ·unfold eW at a;simp only[qB,decide_eq_true_eq]at a;exact⟨a.2.1,a.2.2.1,a.2.2.2,a.1,k7⟩
 ·rw[g0 a]at h;cases h
end Go.Vc
namespace Go.Qw
open Go Go.Vc Go.Proofs Wl
end Go.Qw
namespace Wl
def iq(m:aI)(l:cP):Bool:=bO m&&(bo m).all λp=>decide (p∈l)
end Wl
namespace Go.Qw
open Go Go.Vc Go.Proofs Wl
theorem abp(a:fz)(e:Sl)(p:bc)(l:Sl)(b:Cells)(h:f8)(o:cA h a 34 [e])(u:Rd h e 1 aE p)(m:fF h l 1 aE b)(w:ii b<=2^30):
  ac xR 97 #[l,.func (.func 98) #[] #[xJ (dB a)]] h λv h'=>v=xL (decide (p∈b))/\h'=h:=by
 refine mW l (98,#[],#[xJ (dB a)]) ?_;unfold iW;refine(oe l (98,#[],#[xJ (dB a)]) (R:=λv h'=>(∃i:Int,v=xH xN i/\(decide (i>=0)=decide (p∈b)))/\h'=h) ?_).mono ?_
 ·unfold jT;have s:=m.len;refine av (λi:Nat=>(i:Int)) (λi h'=>i<=ii b/\p∉b.take i/\h'=h) (λi=>ii b-i) 0 i0 ⟨i4,i9,i0⟩ ?_;rintro i j ⟨n,d,rfl⟩;refine aj (λg=>?_) (λg=>?_)
  ·have c:i<ii b:=by have q:(i:Int)<(l.len:Int):=g;omega
   refine m.get i i0 c λr t=>fa k9 ?_;refine(KN r a (R:=λv h'=>v=xL (decide (b[i]=p))/\h'=j) ?_).mono ?_
   ·unfold Dd;refine⟨e,o.cell0 i0,(AG r e b[i] p j t u).mono ?_⟩;rintro _ _ ⟨rfl,rfl⟩;exact⟨_,i0,i0,i0⟩
   ·rintro _ _ ⟨rfl,rfl⟩;refine⟨_,i0,aj (λk=>⟨⟨i,i0,?_⟩,i0⟩) λk=>?_⟩
    ·rw[g9 (show(i:Int)>=0 by omega),g9 (by rw[<-k];exact qg c)]
    ·refine⟨i+1,js,⟨i4,λf=>?_,i0⟩,i4⟩;rw[aK _ _ c]at f;rcases qz.1 f with f|f
     ·exact d f
     ·exact k (qC.1 f).symm
  ·have q:¬(i:Int)<(l.len:Int):=g;rw[qi i4]at d;exact⟨⟨-1,i0,by rw[hU d];rfl⟩,i0⟩
 ·rintro _ j ⟨⟨i,rfl,n⟩,rfl⟩;exact⟨i,i0,by rw[n],i0⟩
theorem YJ(a pw:fz)(d:bw)(s b:Sl)(x:cg)(m:aI)(h:f8)(K:cA h a 156 (ff pw d s b))(U:fF h s 1 aE d.l)(ok:eV d)(L:dY h x m)(D:db m):
  ac xR 34 #[xJ (dB a),fN x] h λv h'=>v=xL (iq m d.l)/\Sp h h' []:=by
 refine Ow (dB a) x ?_;unfold He;have M:=ok.len;have G:=ok.room;refine(Sp.refl h).boxed λz O u=>?_;have u:Sp h O [aw z 44 (aX x)]:=u;refine⟨x,(u.box 0 i0).aS _ i0,(Lc x m O (L.up u.ai) D).mono ?_⟩;rintro _ P ⟨rfl,S⟩;have B:Sp h P [aw z 44 (aX x)]:=u.up S.ai;refine⟨_,i0,bm (λg=>⟨by unfold iq;rw[g];rfl,.zip B.ai⟩) λg=>?_⟩;refine(TK s b (K.ai B.ai K.lt) (U.up B.ai) ok).mono ?_;rintro _ h3 ⟨o,rfl,W⟩;have H:Sp h h3 [aw z 44 (aX x),dN o d.l]:=B.comp W;refine⟨o,i0,x,(H.box 0 i0).aS _ i0,(nB x m h3 (L.up H.ai) D).mono ?_⟩;rintro _ R ⟨q,rfl,X⟩;have w:Sp h R [aw z 44 (aX x),dN o d.l,dN q (bo m)]:=H.comp X;have F:=kp m D;obtain⟨c,k⟩:∃c,c=bo m:=⟨_,rfl⟩
 rw[<-k]at w F;have Q:=(aa.xU (w.bs 3 [2])).1;refine⟨q,i0,?_⟩;obtain⟨rs,w⟩:=(w.ck [2,1]).adm λ_=>rfl;refine av (λi:Nat=>(i:Int)) (λi h'=>i<=ii c/\((c.take i).all λp=>decide (p∈d.l))=eL/\Sp h h' [cK (ct 1 aE) 1 bt q rs c,dN o d.l]) (λi=>ii c-i) 0 i0 ⟨i4,i9,w⟩ ?_;rintro i h5 ⟨hi,f,A⟩;have Y:=(A.eG 0 i0).2.1;refine aj (λe=>?_) (λe=>?_)
 ·have n:i<ii c:=by have T:(i:Int)<(q.len:Int):=e;omega
  refine(A.eG 0 i0).1.lM i i0 i4 ?_;obtain⟨r,N⟩:∃r,r=rs[i]'(by omega):=⟨_,rfl⟩
  rw[<-N];refine A.alloc af i0 λt Z V=>?_;refine V.storeAll af 2 i0 i0 [r] i0 i0 i0 i0 λI j=>?_;have j:Sp h I [cK (ct 1 aE) 1 bt q rs c,dN o d.l,aw t 34 [r]]:=j;have y:Rd I r 1 aE c[i]:=by rw[N];exact Fix.row (j.eG 0 i0) n
  have E:=aa.LH (j.bs 2 [1]) λ_=>rfl;refine(abp t r c[i] o d.l I (j.box 2 i0) y E i4).mono ?_;rintro _ h8 ⟨rfl,rfl⟩;refine⟨_,i0,bm (λJ=>⟨?_,.zip j.ai⟩) λJ=>?_⟩
  ·have:iq m d.l=eR:=by unfold iq;rw[g,zU,<-k];exact yA.2 ⟨c[i],qg n,by rw[J];simp⟩
   rw[this]
  ·refine⟨i+1,js,⟨i4,?_,j.ck [0,1]⟩,i4⟩;rw[aK _ _ n,List.all_append,f,xB,List.all_nil,J];rfl
 ·have:i=ii c:=by have T:¬(i:Int)<(q.len:Int):=e;omega
  subst this;rw[q8]at f;exact⟨by unfold iq;rw[g,<-k,f];rfl,.zip A.ai⟩
end Go.Qw
namespace Go.Vc
open Go Wl Go.Qw
theorem adJ{w:Pow}(h:w.calm){S:aF}(P:List (Int×bc))(ds:aW)(F:Fit ds S (P.map qJ))(b:∀x∈P,x.1∈S/\x.2.length=64):
  (layAll P w ds).1=0/\Fit (layAll P w ds).2.2 S []/\∀s,bC (layAll P w ds).2.2 s=(Nr ds P s).map λd=>if s∈ge (P.map qJ)then{d with wait:=0,laid:=[],has:=eR}else d:=by
 obtain⟨j,k,a3⟩:=Ik h P ds F b;have e:=rq h P ds;unfold layAll;dsimp only;rw[f9 j,e];obtain⟨f,g,l⟩:=Ns h (S:=S) (ge (P.map qJ)) (kY P w ds).2.2 k λx c=>by
  unfold ge at c;have a:=(qI.1 c).2;obtain⟨y,i,rfl⟩:=qw.1 (hY a);exact(b y i).1
 exact⟨f,g,λs=>by rw[l s,a3 s]⟩
theorem FR(l:aF)(k:Nat):(bp l k).Pairwise (·<·):=by unfold bp;refine List.Pairwise.filter _ (List.pairwise_map.2 ?_);exact(List.pairwise_lt_range (n:=k)).imp λh=>i4
theorem agf{l:aF}{a:Int}(e:l.Pairwise (·<·))(d:∀x∈l,0<=x/\x<=a):pE l a=eL:=by
 unfold pE;refine ub λi b=>?_;unfold jE eW;have f:l.getD i 0=l[i]:=by rw[qe,qd b];rfl
 have:=d l[i] (qg b);rw[f,g9 this.1,g9 this.2,zU,zU];by_cases h0:i=0
 ·rw[g9 h0];rfl
 ·have c:l.getD (i-1) 0=l[i-1]:=by rw[qe,qd i4];rfl
  rw[c,g9 (List.pairwise_iff_getElem.1 e (i-1) i i4 b i4),Bool.or_true]
theorem Lj{p:Pm}{extra:Int}{l:aF}(h:ii l<=64)(e:sn p extra l=0):bO (cw p extra l)=eL:=by
 obtain⟨d,a,h3,_⟩:=Nt e;have f:kR (cw p extra l)=eL:=by unfold kR eW cw;simp[d,a,h3]
 have c:pE (cw p extra l).drives 63=eL:=agf (FR l l.length) λx b=>by
  obtain⟨n,g,rfl,_⟩:=(AI l l.length x).1 b;omega
 unfold bO;rw[f,c];rfl
theorem FS(p:Pm)(extra:Int)(l:aF)(b:ii l<=24):ii (bo (cw p extra l))<=1:=by
 unfold bo ij;rw[qy,zA];have a:=rm l l.length;have:ii (gz (cw p extra l))<=19+24:=by
  unfold gz;split
  ·simp only[qx,cy,zo,yE,qy,cw,wu];omega
  ·simp
 omega
end Go.Vc
namespace Wl
open Go
end Wl
namespace Go.Vc
open Go Wl Go.Qw
theorem abq(l:List (Int×bc))(k:Int):(l.map qJ).count k=ii (l.filter λy=>decide (y.1=k)):=by
 induction l with
 |nil=>rfl
 |cons y l ih=>
  rw[wz,List.count_cons,ih,zp];by_cases h:y.1=k
  ·rw[f9 (g9 h),f9 j5];rfl
  ·rw[g0 j5,g0 j5];rfl
theorem Il(n:aI)(k:Int):∀{live:aF},live.Nodup->k∈live->((bH n live).filter λy=>decide (y.1=k)).map zH=bo n
 |[],_,hk=>by cases hk
 |x::live,hnd,hk=>by
  have e:bH n (x::live)=(bo n).map (λc=>(x,c))++bH n live:=by unfold bH;rw[zl]
  obtain⟨j,b⟩:=yD.1 hnd;rw[e,zk,qT];by_cases a:x=k
  ·subst a;have g:((bo n).map λc=>(x,c)).filter (λy=>decide (y.1=x))=(bo n).map (λc=>(x,c)):=List.filter_eq_self.2 λy d=>by
    obtain⟨c,_,rfl⟩:=qw.1 d;exact g9 i0
   have i:(bH n live).filter (λy=>decide (y.1=x))=[]:=wZ.2 λy d=>by
    have:=(kJ d).1;have f:y.1≠x:=λh=>j (h▸this);simpa using f
   rw[g,i,vY,qN,yd];exact List.map_id _
  ·have g:((bo n).map λc=>(x,c)).filter (λy=>decide (y.1=k))=[]:=wZ.2 λy d=>by
    obtain⟨c,_,rfl⟩:=qw.1 d;simpa using a
   rw[g,vY,List.nil_append];rcases zd.1 hk with h|h
   ·exact absurd h.symm a
   ·exact Il n k b h
end Go.Vc
namespace Go.Qw
open Go Go.Vc Go.Proofs Wl
theorem agh{p:Pm}{seed:Int}{d:Row}{K H w n:Nat}(B:ca p seed d K H w n)(id:Int):AP p seed d id=if bV id then fL w (fd p seed d) (dj n seed id)else[]:=by unfold AP;rw[B.pL,show p.2.2.toNat=w by have:=B.s;omega]
theorem Un{m:aI}{o i seed:Int}{d:Row}{id:Int}{K H w n:Nat}(B:ca m.p seed d K H w n)(b:0<=o/\o<=16777215)(a:0<=i/\i<=7)(hid:0<=id/\id<=65535):jc (lV m o i seed d id)=eL:=by
 rw[kC];refine⟨b,a,hid,B.may,?_⟩;have c:bV id=eL:=by unfold bV;rw[g9 hid.1,g9 hid.2];rfl
 show(ii (AP m.p seed d id):Int)=m.p.2.2;rw[agh B id,f9 c,B.aal id,B.s]
def so(m:aI)(o:Int)(a:aF)(b:cP)(live:aF)(k:Int)(i:Nat):List dD:=
 ((qE (m.p.1+m.extra).toNat).filter λid=>decide (tJ (io o i live) (id:Nat)=k)).map λid:Nat=>lV m o i (cF o i (a.getD i 0)) (b.getD i []) id
def jz(m:aI)(o:Int)(a:aF)(b:cP)(live:aF)(k:Int)(n:Nat):List dD:=(qE n).flatMap (so m o a b live k)
theorem Uo(m:aI)(o:Int)(a:aF)(b:cP)(live:aF)(k:Int)(n:Nat):jz m o a b live k (n+1)=jz m o a b live k n++so m o a b live k n:=by unfold jz;rw[zO,zg,zl,wu,qN]
theorem Up(m:aI)(o:Int)(a:aF)(b:cP)(live:aF)(k:Int)(i:Nat):((nh m o a b live i).filter λy=>decide (y.1=k)).map zH=(so m o a b live k i).map dW:=by unfold nh so;rw[List.filter_map,yd,yd];rfl
theorem FT(m:aI)(o:Int)(a:aF)(b:cP)(live:aF)(k:Int):∀n,((dJ m o a b live n).filter λy=>decide (y.1=k)).map zH=(jz m o a b live k n).map dW
 |0=>by simp[dJ,jz]
 |n+1=>by rw[uk,Uo,zk,qT,qT,FT m o a b live k n,Up]
theorem YK{m:aI}{o:Int}{a:aF}{b:cP}{live:aF}{k:Int}{i:Nat}{r:dD}(h:r∈so m o a b live k i):∃id:Nat,r=lV m o i (cF o i (a.getD i 0)) (b.getD i []) id/\id<(m.p.1+m.extra).toNat:=by unfold so at h;obtain⟨id,c,rfl⟩:=qw.1 h;exact⟨id,i0,qG.1 (qI.1 c).1⟩
theorem Nu{m:aI}{o:Int}{a:aF}{b:cP}{live:aF}{k:Int}{n:Nat}{r:dD}(h:r∈jz m o a b live k n):∃(i id:Nat),r=lV m o i (cF o i (a.getD i 0)) (b.getD i []) id/\i<n/\id<(m.p.1+m.extra).toNat:=by unfold jz at h;obtain⟨i,d,e⟩:=zJ.1 h;obtain⟨id,c,h3⟩:=YK e;exact⟨i,id,c,qG.1 d,h3⟩
end Go.Qw
namespace Wl
open Go
def dU(m:aI)(d:bw)(n:Int):bw:=if iy d d.l.length n then d else{d with l:=ku m d.l,wait:=0,laid:=[],has:=eR}
theorem YL{m:aI}{r:dD}(h:dT m r=eL):jc r=eL:=by unfold dT at h;simp only[qB]at h;exact h.1
theorem adK{l:List dD}{r:dD}(h:r∈Ad l):r∈l:=by unfold Ad at h;obtain⟨i,a,rfl⟩:=qw.1 h;have a:=qG.1 (qI.1 a).1;rw[qe,qd a];exact qg a
theorem YM{m:aI}{c:bc}{r:dD}(h:jN m c=dB r):dL c=dB r/\dT m r=eL:=by
 unfold jN at h;cases hc:dL c with
 |none=>rw[hc]at h;cases h
 |some x=>
  rw[hc]at h;dsimp only at h;by_cases a:dT m x=eL
  ·rw[f9 a]at h;injection h with h;subst h;exact⟨i0,a⟩
  ·rw[g0 a]at h;cases h
theorem ET{m:aI}{l:cP}{r:dD}(h:r∈kS m l):∃c∈l,dL c=dB r/\dT m r=eL:=by have h:=yM.1 (adK h);obtain⟨c,b,a⟩:=List.mem_filterMap.1 h;exact⟨c,b,YM a⟩
theorem YN(m:aI)(l:cP):∀c∈ku m l,ii c=64:=λc b=>by
 rcases qz.1 b with h|h
 ·exact Eb h
 ·obtain⟨r,a,rfl⟩:=qw.1 h;obtain⟨_,_,_,d⟩:=ET a;exact SG (YL d)
theorem Uq{w:Pow}(a:w.calm){d:bw}{l:cP}(g:∀c∈l,ii c=64)(e:d.lost=eR)(h:ii l<=d.room):d.rewrite w l=(0,w,{d with l:=l,wait:=0,laid:=[],has:=eR}):=by unfold bw.rewrite;have:l.all (λb=>decide (ii b=64))=eL:=qL.2 λc f=>g9 (g c f);rw[g0 (by simp[this]),g0 o0,g0 i4,g0 (by simp[a.1]),tO a];rfl
theorem YO{w:Pow}(e:w.calm){m:aI}{d:bw}{n:Int}(h:rp m d n=eL):iS m w d n=(0,w,dU m d n):=by
 have h0:=h;unfold rp at h;rw[qB,wV,ym]at h;obtain⟨c,a⟩:=h;unfold iS dU;rw[g0 n7,g0 (by simp[h0])];by_cases b:iy d d.l.length n=eL
 ·rw[f9 b,f9 b]
 ·rw[g0 b,g0 b];have h3:iy d (ku m d.l).length n=eL:=by
   rcases a with a|a
   ·exact absurd a b
   ·exact a
  unfold iy at h3;rw[decide_eq_true_eq]at h3;exact Uq e (YN m d.l) c i4
theorem Ur(m:aI)(ds:aW)(k:Int)(l:aF)(N:Int->Int):dt m ds (k::l) N=(om m ds k (N k)&&dt m ds l N):=xB
theorem CI{m:aI}{ds:aW}{k n:Int}(h:om m ds k n=eL):∃d,bC ds k=dB d/\rp m d n=eL:=by
 unfold om at h;cases hd:bC ds k with
 |none=>rw[hd]at h;cases h
 |some d=>rw[hd]at h;exact⟨d,i0,h⟩
theorem Lk(ds:aW)(k:Int)(d:bw):ii (gh ds k d)=ii ds:=by unfold gh;simp
theorem sq{ds:aW}{k:Int}{e d:bw}(a:ii ds=64)(b:bC ds k=dB e)(s:Int):bC (gh ds k d) s=if s=k then dB d else bC ds s:=by obtain⟨n,rfl,c⟩:=ju b;exact vV ds n d s c a
theorem Rs{m:aI}{ds a:aW}{l:aF}{N:Int->Int}(h:∀k∈l,bC ds k=bC a k):dt m ds l N=dt m a l N:=by unfold dt;rw[Bool.eq_iff_iff,qL,qL];refine forall_congr' λk=>forall_congr' λb=>?_;unfold om;rw[h k b]
theorem EU{w:Pow}(l:w.calm){m:aI}{N:Int->Int}:∀{live:aF} {ds:aW},live.Nodup->ii ds=64->dt m ds live N=eL->
  ∃a,makes m N live w ds=(0,w,a)/\a.length=64/\∀k,bC a k=(bC ds k).map λd=>if k∈live then dU m d (N k)else d
 |[],ds,_,h64,_=>⟨ds,i0,h64,λk=>by cases bC ds k<;>simp⟩
 |k::live,ds,hnd,h64,hf=>by
  rw[Ur,qB]at hf;obtain⟨c,b⟩:=yD.1 hnd;obtain⟨d,i,h⟩:=CI hf.1;have e:iJ m w ds k (N k)=(0,w,gh ds k (dU m d (N k))):=by unfold iJ;rw[i];dsimp only;rw[YO l h]
  have g:=sq (d:=dU m d (N k)) h64 i;have j:dt m (gh ds k (dU m d (N k))) live N=eL:=by
   rw[<-Rs (ds:=ds) λs f=>?_]
   ·exact hf.2
   ·rw[g,g0 λo:s=k=>c (o▸f)]
  obtain⟨a,p,n,h3⟩:=EU l b (by rw[Lk];exact h64) j;refine⟨a,?_,n,λs=>?_⟩
  ·show(if(iJ m w ds k (N k)).1=0 then makes m N live (iJ m w ds k (N k)).2.1 (iJ m w ds k (N k)).2.2 else iJ m w ds k (N k))=_;rw[e];exact p
  ·rw[h3 s,g];by_cases f:s=k
   ·subst f;rw[f9 i0,i];simp[c]
   ·rw[g0 f];simp[f]
theorem Nv{m:aI}{d:bw}{n:Int}(h:rp m d n=eL):(dU m d n).lost=eR/\(dU m d n).room=d.room/\((dU m d n).l.length:Int)+max n 0<=d.room:=by
 unfold rp at h;rw[qB,wV,ym]at h;obtain⟨c,a⟩:=h;unfold dU;by_cases b:iy d d.l.length n=eL
 ·rw[f9 b];unfold iy at b;rw[decide_eq_true_eq]at b;exact⟨c,i0,i4⟩
 ·rw[g0 b];have h3:iy d (ku m d.l).length n=eL:=by
   rcases a with a|a
   ·exact absurd a b
   ·exact a
  unfold iy at h3;rw[decide_eq_true_eq]at h3;exact⟨c,i0,i6⟩
theorem Wi(a:ByteArray):fb a a=eR:=aac _
theorem abr{a b:ByteArray}(h:jF a b=eL)(c:a≠b):fb a b=eL:=by
 rcases(LO a b).1 h with h|h
 ·exact h
 ·exact absurd (Ej h) c
theorem Im{a b:ByteArray}(h:fb a b=eL):a≠b:=λe=>by subst e;rw[Wi]at h;cases h
theorem ahO:Ord uH:=⟨λa b c e d=>GJ _ _ _ e d,λa b=>GK _ _⟩
theorem su{m:aI}{x e:cb}:e∈(dw m x).aG↔e∈m.aG∨e=x:=by show e∈(m.aG++[x]).mergeSort uH↔_;rw[yM];simp
end Wl
namespace Go.Qw
open Go Go.Vc Go.Proofs Wl
theorem abs{name:ByteArray}{l:List Wl.cb}(h:l.any (dP name)=eR):∀e∈l,e.name≠name:=λe a b=>by
 have:=zW.1 h e a;unfold dP at this;rw[b]at this;simp at this
theorem abt{m:aI}{x:Wl.cb}(H:bO m=eL)(f:lP x.name=eL)(i:∀e∈m.aG,e.name≠x.name)(l:x.object=m.next)(I:m.aG.length<=11)(K:m.next<=16777215)(M:m.seq<=2147483646)
  (g:0<=x.length/\x.length<=m.p.1*m.p.2.2*8) (D:∀t∈x.tries,0<=t/\t<=15) (y:(x.tries.length:Int)=countP m.p x.length):bO (dw m x)=eL:=by
 obtain⟨F,u,h3,J,s,E,z⟩:=(bU m).1 H;obtain⟨L,N,a3,a4⟩:=(dE m).1 F;have c:(dw m x).aG.Perm (m.aG++[x]):=w5 _ _;have j:∀e∈m.aG,e.object<m.next:=λe n=>((gP m e).1 (s e n)).2.1.2;refine(bU _).2 ⟨(dE _).2 ⟨⟨?_,?_⟩,⟨?_,?_⟩,a3,a4⟩,u,h3,?_,λe n=>?_,?_,?_⟩
 ·show 1<=m.seq+1;omega
 ·show m.seq+1<=_;omega
 ·show 0<=m.next+1;omega
 ·show m.next+1<=_;omega
 ·rw[c.length_eq];simp;omega
 ·rcases su.1 n with n|rfl
  ·obtain⟨w,A,G,B,v⟩:=(gP m e).1 (s e n);exact(gP _ e).2 ⟨w,⟨A.1,by show _<m.next+1;omega⟩,G,B,v⟩
  ·exact(gP _ _).2 ⟨f,⟨i4,by show _<m.next+1;omega⟩,g,D,y⟩
 ·have d:(m.aG++[x]).Pairwise (λa b:Wl.cb=>a.name≠b.name):=yh.2 ⟨E.imp λh=>Im h,List.pairwise_singleton _ _,λa r b o=>by rw[qC.1 o];exact i a r⟩;have k:=(c.pairwise_iff (R:=λa b:Wl.cb=>a.name≠b.name) λ{a b} h=>Ne.symm h).2 d;have q:(dw m x).aG.Pairwise (λa b=>uH a b=eL):=(GI ahO (m.aG++[x])).1;exact(q.and k).imp λh=>abr h.1 h.2
 ·have d:(m.aG++[x]).Pairwise (λa b:Wl.cb=>a.object≠b.object):=yh.2 ⟨z,List.pairwise_singleton _ _,λa r b o=>by rw[qC.1 o,l];have:=j a r;omega⟩;exact(c.pairwise_iff (R:=λa b:Wl.cb=>a.object≠b.object) λ{a b} h=>Ne.symm h).2 d
theorem Wj{p:Pm}{o:Int}{n:Nat}{t:aF}(h:cL p o n=dB t):∀x∈t,0<=x/\x<=15:=λx c=>by
 obtain⟨i,b,rfl⟩:=qH c;obtain⟨k,d,a⟩:=BR h i b;have:=(Ib a).1;rw[d];omega
theorem Io{p:Pm}(a:bI p=eL)(b:bc):(ii (splitB p b):Int)=countP p b.length:=by have:=(mg a b.length).1;unfold splitB;rw[qy,zA];omega
theorem adL{m:aI}{d:Bool}{ds:aW}{name:ByteArray}{b:bc}{t:aF}(g:bO m=eL)(i:dv m d ds name b.length=0)(f:cL m.p m.next (splitB m.p b).length=dB t):bO (dw m ⟨name,m.next,ii b,t⟩)=eL:=by
 obtain⟨n,j,z3,z4,z5⟩:=lA i;have k:¬m.p.1*m.p.2.2*8<(ii b:Int):=λh=>z4 (.inl h);have a:ii m.aG<=11:=by have:¬12<=ii m.aG:=λh=>z4 (.inr h);omega
 have c:m.next<=16777215:=by have:¬16777215<m.next:=λh=>z5 (.inr (.inl h));omega
 have e:m.seq<=2147483646:=by have:¬2147483647<=m.seq:=λh=>z5 (.inr (.inr h));omega
 have l:=((dE m).1 ((bU m).1 g).1).2.2.1;refine abt g j (abs z3) i0 a c e ⟨by show 0<=(ii b:Int);omega,by show(ii b:Int)<=_;omega⟩ (Wj f) ?_;show(ii t:Int)=countP m.p b.length;rw[jg f,Io l]
end Go.Qw
namespace Wl
open Go
def ee(a:cP)(d:bw):bw:=if a.isEmpty then d else{d with l:=d.l++a,wait:=0,laid:=[],has:=eR}
def lB(P:List (Int×bc))(s:Int):cP:=(P.filter λx=>decide (x.1=s)).map zH
theorem Us{P:List (Int×bc)}{s:Int}(h:∀x∈P,x.1≠s):lB P s=[]:=by unfold lB;rw[wZ.2 λx a=>by simpa using h x a];rfl
theorem Ut(P:List (Int×bc))(s:Int):ii (lB P s)=(P.map qJ).count s:=by unfold lB;rw[qy];exact(Go.Vc.abq P s).symm
theorem Kg{l:aF}{s:Int}(h:0<=s/\s<64):s∈ge l↔s∈l:=by unfold ge;rw[qI,decide_eq_true_eq];refine⟨λh=>h.2,λh'=>⟨?_,h'⟩⟩;exact qw.2 ⟨s.toNat,qG.2 i4,i4⟩
theorem Nw{w:Pow}(n:w.calm){ds:aW}{P:List (Int×bc)}(j:ii ds=64)
  (a:∀x∈P,ii x.2=64/\∃d,bC ds x.1=dB d/\d.lost=eR/\d.l.length+ii (lB P x.1)<=d.room):
  ∃b,layAll P w ds=(0,w,b)/\b.length=64/\∀s,bC b s=(bC ds s).map (ee (lB P s)):=by
 have F:Fit ds (P.map qJ) (P.map qJ):=⟨j,λk t=>by
  obtain⟨x,g,rfl⟩:=qw.1 t;obtain⟨_,d,m,i,h3⟩:=a x g;rw[Ut]at h3;exact⟨d,m,i,h3⟩⟩
 obtain⟨q,r,a3⟩:=Go.Vc.adJ n P ds F λx g=>⟨qw.2 ⟨x,g,rfl⟩,(a x g).1⟩
 refine⟨(layAll P w ds).2.2,?_,r.len,λs=>?_⟩
 ·have i:=adI n P ds;exact y5 q (y5 i i0)
 ·rw[a3 s];unfold Nr;cases hd:bC ds s with
  |none=>rfl
  |some d=>
   obtain⟨e,f⟩:=ahN hd;rw[qQ,qQ,qQ];congr 1;unfold ee;have o:s∈P.map qJ↔(lB P s).isEmpty=eR:=by rw[<-List.count_pos_iff,<-Ut];cases hc:lB P s<;>simp
   by_cases c:(lB P s).isEmpty=eL
   ·have h0:lB P s=[]:=List.isEmpty_iff.1 c;have m:(P.filter λx=>decide (x.1=s))=[]:=List.map_eq_nil_iff.1 h0;rw[g0 (λh=>by rw[Kg ⟨e,f⟩,o]at h;rw[h]at c;cases c),f9 c,m];simp
   ·have p:(lB P s).isEmpty=eR:=o6
    rw[f9 ((Kg ⟨e,f⟩).2 (o.2 p)),g0 c];rfl
end Wl
namespace Go.Qw
open Go Go.Vc Go.Proofs Wl
theorem py{n:aI}{live:aF}(a:live.Nodup)(s:Int):lB (bH n live) s=if s∈live then bo n else[]:=by
 by_cases h:s∈live
 ·rw[f9 h];exact Il n s a h
 ·rw[g0 h];exact Us λx b c=>h (c▸(kJ b).1)
theorem adM(m:aI)(o:Int)(a:aF)(b:cP)(live:aF)(k:Int)(n:Nat):lB (dJ m o a b live n) k=(jz m o a b live k n).map dW:=FT m o a b live k n
theorem Uu{m:aI}(h:bO m=eL):bo m≠[]:=by unfold bo ij gz;rw[f9 h];intro e;have:=congrArg List.length e;simp[cy]at this;omega
theorem ni{ds:aW}{l:aF}(h:l.Nodup):(aN ds l).Nodup:=h.filter _
theorem jK{ds:aW}{l:aF}{k:Int}(h:k∈aN ds l):k∈l/\∃d,bC ds k=dB d/\d.lost=eR:=by
 obtain⟨b,a⟩:=qI.1 h;unfold isLive at a;cases hd:bC ds k with
 |none=>rw[hd]at a;cases a
 |some d=>rw[hd]at a;exact⟨b,d,i0,j7⟩
theorem Ll{ds:aW}{l:aF}{k:Int}:k∈aN ds l↔k∈l/\∃d,bC ds k=dB d/\d.lost=eR:=by refine⟨jK,λ⟨h1,d,h2,h3⟩=>qI.2 ⟨h1,?_⟩⟩;unfold isLive;rw[h2];simp[h3]
theorem DD(a:cP)(d:bw):(ee a d).l=d.l++a:=by
 unfold ee;by_cases h:a.isEmpty=eL
 ·rw[f9 h,List.isEmpty_iff.1 h,qN]
 ·rw[g0 h]
theorem nj(a:cP)(d:bw):(ee a d).lost=d.lost/\(ee a d).room=d.room:=by unfold ee;split<;>exact⟨i0,i0⟩
theorem adN{b a:cP}(h:a≠[])(d:bw):ee a (ee b d)=ee (b++a) d:=by
 have e:∀c:cP,c≠[]->∀d,ee c d={d with l:=d.l++c,wait:=0,laid:=[],has:=eR}:=λc g d=>by
  unfold ee;rw[g0 oj]
 by_cases f:b=[]
 ·subst f;rfl
 ·rw[e b f,e a h,e (b++a) rb];simp
theorem Qu(a:Nat)(l:List (Int×bc))(k:Int):kv a l k=a+ii (lB l k):=by unfold kv lB;rw[qy]
theorem Xl{p:Pm}{o:Int}{b:bc}{t:aF}(d:bI p=eL)(c:cL p o (splitB p b).length=dB t){i:Nat}(h:i<ii (splitB p b)):∃K H w n,ca p (cF o i (t.getD i 0)) ((splitB p b).getD i []) K H w n:=by
 have m:=jg c;obtain⟨k,l,a⟩:=BR c i i4;have j:Nc p o i k=eL:=(Ib a).2.1;have e:t.getD i 0=(k:Int):=by rw[fR 0];exact l
 rw[e];refine aeD d j ?_;have f:=(ce p).1 d;have q:0<=p.1*p.2.2:=vW i4 i4;have g:(splitB p b)[i]=uT (dG p) b i:=by simp[splitB]
 rw[fR [] h,g,Ia];unfold dG;omega
theorem Pf{m:aI}{b:bc}{t:aF}(g:bO m=eL)(e:m.next<=16777215)(h8:ii (splitB m.p b)<=8)(c:cL m.p m.next (splitB m.p b).length=dB t){i id:Nat}(d:i<ii (splitB m.p b))(hid:id<(m.p.1+m.extra).toNat):
  jc (lV m m.next i (cF m.next i (t.getD i 0)) ((splitB m.p b).getD i []) id)=eL:=by
 have a:=((dE m).1 ((bU m).1 g).1)
 have f:=(ce m.p).1 a.2.2.1;obtain⟨K,H,w,n,B⟩:=Xl a.2.2.1 c d;exact Un B ⟨a.2.1.1,e⟩ i4 i4
theorem abu{m:aI}{offs:Int}{w:Pow}{ds:aW}{name:ByteArray}{b:bc}(G:w.calm)(H:ii ds=64)(E:bO m=eL):
  (dv m (di w offs) ds name b.length≠0->gE m offs w ds name b=(dv m (di w offs) ds name b.length,m,w,ds))/\
  (dv m (di w offs) ds name b.length=0->(cL m.p m.next (splitB m.p b).length=eH->gE m offs w ds name b=(8,m,w,ds))/\∀t,cL m.p m.next (splitB m.p b).length=dB t->
   let live:=aN ds m.drives;let l:=dJ m m.next t (splitB m.p b) live (splitB m.p b).length;let n:=dw m ⟨name,m.next,ii b,t⟩;let N:=kv (bo n).length l
   bO n=eL/\(dt m ds live N=eR->gE m offs w ds name b=(7,m,w,ds))/\(dt m ds live N=eL->∃g,gE m offs w ds name b=(0,n,w,g)/\g.length=64/\
    ∀k,bC g k=(bC ds k).map λd=>if k∈live then ee ((jz m m.next t (splitB m.p b) live k (splitB m.p b).length).map dW++bo n) (dU m d (N k))else d)):=by
 refine⟨λh=>by unfold gE;rw[f9 h],λh=>⟨λs=>by unfold gE;rw[g0 j5,s],λt s=>?_⟩⟩;intro live l n N;have z:bO n=eL:=adL E h s;obtain⟨z1,z2,z3,z4,z5⟩:=lA h;have o:=((dE m).1 ((bU m).1 E).1)
 have M:¬m.p.1*m.p.2.2*8<(ii b:Int):=λh=>z4 (.inl h);have h8:=DC o.2.2.1 M;have F:live≠[]:=λh=>z5 (.inl h);have D:0<=m.next/\m.next<=16777215:=⟨o.2.1.1,by have:¬16777215<m.next:=λh=>z5 (.inr (.inl h));omega⟩
 have f:live.Nodup:=ni (nt E);have O:∀k∈live,0<=k/\k<64:=λk a=>kE E k (jK a).1;have e:gE m offs w ds name b=(if dt m ds live N=eR then(7,m,w,ds)else if(makes m N live w ds).1≠0 then((makes m N live w ds).1,m,(makes m N live w ds).2)else
   if(layAll l (makes m N live w ds).2.1 (makes m N live w ds).2.2).1≠0 then((layAll l (makes m N live w ds).2.1 (makes m N live w ds).2.2).1,m,(layAll l (makes m N live w ds).2.1 (makes m N live w ds).2.2).2)else
   ((layAll (bH n live) (layAll l (makes m N live w ds).2.1 (makes m N live w ds).2.2).2.1 (layAll l (makes m N live w ds).2.1 (makes m N live w ds).2.2).2.2).1,if(layAll (bH n live) (layAll l (makes m N live w ds).2.1 (makes m N live w ds).2.2).2.1 (layAll l (makes m N live w ds).2.1 (makes m N live w ds).2.2).2.2).1=0 then n else m,(layAll (bH n live) (layAll l (makes m N live w ds).2.1 (makes m N live w ds).2.2).2.1 (layAll l (makes m N live w ds).2.1 (makes m N live w ds).2.2).2.2).2)):=by
  unfold gE;rw[g0 j5,s]
 refine⟨z,λq=>by rw[e,f9 q],λq=>?_⟩;rw[e,g0 (by rw[q];decide)];obtain⟨U,m1,V,S⟩:=EU G (N:=N) f H q;rw[m1];dsimp only;rw[g0 i9];have r:∀y∈l,y.1∈live:=λy u=>(Um D F O h8 u).1;have A:∀y∈l,ii y.2=64:=λy u=>by
  obtain⟨i,hi,u⟩:=zJ.1 u;obtain⟨id,hid,rfl⟩:=qw.1 u;exact SG (Pf E D.2 h8 s (qG.1 hi) (qG.1 hid))
 have c:∀k∈live,∃d,bC U k=dB d/\d.lost=eR/\(ii d.l:Int)+max (N k) 0<=d.room:=λk a=>by
  obtain⟨_,d,hd,X⟩:=jK a;have Q:=qL.1 q k a;obtain⟨d',I,J⟩:=CI Q;obtain⟨r1,W,Z⟩:=Nv J;refine⟨dU m d' (N k),?_,r1,by rw[W];exact Z⟩;rw[S k,I,qQ,f9 a]
 obtain⟨d2,l1,l2,T⟩:=Nw G (ds:=U) (P:=l) V λx j=>by
  obtain⟨d,K,L,f3⟩:=c x.1 (r x j);refine⟨A x j,d,K,L,?_⟩;have:N x.1=_:=Qu _ _ _;omega
 rw[l1];dsimp only;rw[g0 i9];obtain⟨d3,Y,p2,p3⟩:=Nw G (ds:=d2) (P:=bH n live) l2 λx j=>by
  obtain⟨B,v⟩:=kJ j;obtain⟨d,K,L,f3⟩:=c x.1 B;refine⟨v,ee (lB l x.1) d,by rw[T,K,qQ],by rw[(nj _ _).1];exact L,?_⟩;have:N x.1=_:=Qu _ _ _;rw[(nj _ _).2,DD,py f,f9 B,qx];omega
 rw[Y];refine⟨d3,i0,p2,λk=>?_⟩;rw[p3 k,T k,S k,Option.map_map,Option.map_map];congr 1;funext d;show ee (lB (bH n live) k) (ee (lB l k) (if k∈live then dU m d (N k)else d))=_;rw[py f];by_cases a:k∈live
 ·rw[f9 a,f9 a,f9 a];have R:lB l k=(jz m m.next t (splitB m.p b) live k (splitB m.p b).length).map dW:=adM _ _ _ _ _ _ _;rw[R,adN (Uu z)]
 ·rw[g0 a,g0 a,g0 a,Us (P:=l) λx j (he:x.1=k)=>a (he▸r x j)];rfl
theorem Nx(l:aF)(c:ii l<=64)(s:Int):bC (gY l (bp l l.length).length) s=if s∈bp l l.length then dB (bw.new (l.getD s.toNat 0).toNat)else eH:=by
 by_cases a:0<=s/\s<64
 ·unfold bC gY;rw[f9 a,qR,zu i4,qQ,qi (qn _)];have e:((s.toNat:Nat):Int)=s:=i4
  rw[e];by_cases h:s∈bp l l.length
  ·rw[f9 h];rfl
  ·rw[g0 h];rfl
 ·rw[g0 λh=>?_]
  ·unfold bC;rw[g0 a]
  ·obtain⟨n,b,rfl,_⟩:=(AI l l.length s).1 h;omega
theorem abv{p:Pm}{extra:Int}{l:aF}(d:ii l<=64)(f:sn p extra l=0):
  ∃D,fP p extra Pow.new l=(0,Pow.new,D)/\D.length=64/\∀s,bC D s=if s∈bp l l.length then dB ⟨(l.getD s.toNat 0).toNat,bo (cw p extra l),0,[],eR,eR⟩else eH:=by
 have m:=Lj d f;have b:(bp l l.length).Nodup:=(FR l l.length).imp λh e=>i4
 have c:=(Nt f).2.2.2.2;rw[YI,f9 f];obtain⟨D,k,i,h3⟩:=Nw AR (ds:=gY l (bp l l.length).length) (P:=bH (cw p extra l) (bp l l.length)) (VQ _ _) λx j=>by
  obtain⟨a,g⟩:=kJ j;refine⟨g,bw.new (l.getD x.1.toNat 0).toNat,by rw[Nx l d,f9 a],i0,?_⟩;rw[py b,f9 a];have:=zW.1 c x.1 a;simp only[decide_eq_true_eq]at this;show 0+_<=(l.getD x.1.toNat 0).toNat;omega
 refine⟨D,k,i,λs=>?_⟩;rw[h3,Nx l d,py b];by_cases h:s∈bp l l.length
 ·rw[f9 h,f9 h,f9 h,qQ];unfold ee;rw[g0 (by simpa using Uu m)];rfl
 ·rw[g0 h,g0 h,g0 h];rfl
theorem YP(m:aI):ii (bo m)=(ii (gz m)+47)/48:=by unfold bo ij;rw[qy,zA]
theorem ahP(x:Wl.cb):(jb x).length=6+x.name.size+x.tries.length:=by unfold jb;simp[cy];omega
theorem abw{m:aI}(h:bO m=eL):ii (gz m)=14+ii m.drives+ii (m.aG.flatMap jb):=by unfold gz;rw[f9 h];simp only[qx,cy,zo,yE,qy];omega
theorem ru{p:Pm}{n:Int}(h:n<=p.1*p.2.2*8):countP p n<=8:=by
 unfold countP;split
 ·rename_i a;rw[qB,decide_eq_true_eq]at a;have:=(ce p).1 a.1;have b:0<p.1*p.2.2:=Int.mul_pos i4 i4;have:(n-1)/(p.1*p.2.2)<8:=Int.ediv_lt_of_lt_mul b (by rw[Int.mul_comm 8];omega);omega
 ·decide
theorem agi{m:aI}{x:Wl.cb}(h:gM m x=eL):ii (jb x)<=26:=by
 obtain⟨a,b,h3,c,d⟩:=(gP m x).1 h;have:=ru h3.2;have e:x.name.size<=12:=by unfold lP at a;simp at a;omega
 rw[ahP];omega
theorem Ph{α β:Type}{f:α->List β}{c:Nat}:∀{l:List α},(∀x∈l,ii (f x)<=c)->ii (l.flatMap f)<=ii l*c
 |[],_=>i9
 |x::l,h=>by
  have d:=h x zb;have b:=Ph (l:=l) λy a=>h y (qS _ a);rw[zl,qx,zo,zK];omega
theorem adO{m:aI}(h:bO m=eL):ii (bo m)*48<=61+ii m.drives+ii m.aG*26:=by have:=Ph (f:=jb) (l:=m.aG) λx a=>agi (((bU m).1 h).2.2.2.2.1 x a);have b:=abw h;rw[YP];omega
theorem ahQ{m:aI}(h:bO m=eL):ii (bo m)<=9:=by have b:=adO h;have a:=gv h;have h3:=((bU m).1 h).2.2.2.1;omega
def cM(m:aI)(offs:Int)(w:Pow)(ds:aW)(n:aI):Int×aI×Pow×aW:=
 if di w offs then(14,m,w,ds)else if !bO n||decide (n.seq≠m.seq+1)then(1,m,w,ds)else
 let live:=aN ds n.drives;let N:Int->Int:=λ_=>(ii (bo n):Int)
 if live=[]∨dt m ds live N=eR then(7,m,w,ds)else
 if(makes m N live w ds).1≠0 then((makes m N live w ds).1,m,(makes m N live w ds).2)else
 let a:=layAll (bH n live) (makes m N live w ds).2.1 (makes m N live w ds).2.2
 (a.1,if a.1=0 then n else m,a.2)
theorem ka{m:aI}(h:bO m=eL):db m:=by
 obtain⟨k,f,h3,j,c,g,o⟩:=(bU m).1 h;have i:=gv h;refine⟨i4,i4,λe b=>?_⟩;obtain⟨a,p,d,q,l⟩:=(gP m e).1 (c e b);have:=ru d.2;have n:e.name.size<=12:=by unfold lP at a;simp at a;omega
 omega
section
variable {B:aB} {h0 h:f8} {As:List HP} {a pw:fz} {offs:Int} {da:List aT} {w:Pow} {ds:aW}
theorem Kh(x:cg)(m:aI)(z:cg)(n:aI)(hS:St B h0 As λh=>dY h z n)(hz:db m)(j:db n)(ar:-1<=m.seq/\m.seq<=2^40)
  (H:aa B h0 h (bj bu a pw (aX x) offs da w ds::cx x m::As)):
  ac xR 145 #[xJ (dB a),fN z] h λv h'=>v=xH xN (cM m offs w ds n).1/\
   ∃y,aa B h0 h' (bj bu a pw (aX y) offs da (cM m offs w ds n).2.2.1 (cM m offs w ds n).2.2.2::cx y (cM m offs w ds n).2.1::As):=by
 refine Cu (dB a) z ?_;unfold pY;refine H.boxed λF I i=>(pu i).mono ?_;have i:=i.bN;rintro _ I ⟨rfl,rfl⟩;have i:aa B h0 I (aw F 44 (aX z)::bj bu a pw (aX x) offs da w ds::cx x m::As):=i;have D:dY I z n:=hS.at [_,_,_] i;have Z:dY I x m:=i.at 2 i0;refine⟨_,i0,bv (λe=>?_) λe1=>?_⟩
 ·have O:cM m offs w ds n=(14,m,w,ds):=by unfold cM;rw[f9 e]
  rw[O];exact⟨i0,x,i.bs 3 [1,2]⟩
 refine bg ?_;refine⟨z,(i.box 0 i0).aS _ i0,(Lc z n I D j).mono ?_⟩;rintro _ h3 ⟨rfl,R3⟩;have E:=i.up R3.ai;have ab:=D.up R3.ai;have no:∀{h':f8},aa B h0 h' (aw F 44 (aX z)::bj bu a pw (aX x) offs da w ds::cx x m::As)->(bO n=eR∨n.seq≠m.seq+1)->(Value.int .i64 1=xH xN (cM m offs w ds n).1/\∃y,aa B h0 h' (bj bu a pw (aX y) offs da (cM m offs w ds n).2.2.1 (cM m offs w ds n).2.2.2::cx y (cM m offs w ds n).2.1::As)):=λ{h'} d hc=>by
  have O:cM m offs w ds n=(1,m,w,ds):=by
   unfold cM;rw[g0 mn,f9];rcases hc with hc|hc
   ·rw[hc];rfl
   ·rw[g9 hc,Bool.or_true]
  rw[O];exact⟨i0,x,d.bs 3 [1,2]⟩
 refine⟨_,i0,trivial,bm (λe=>no E (.inl e)) λe2=>?_⟩;have M:=E.box 0 i0;have W:=(aa.cC (E.bs 2 [1,0])).2;refine⟨z.1,M.cell0 i0,a,i0,x.1,W.cell0 i0,?_⟩;dsimp only;rw[D.seq,Z.seq,ak (m.seq+1)];refine cv (λe=>no E (.inr e)) λe3=>?_;refine⟨_,M.cell i0,?_⟩;have V:=gv e2;have X:∀k∈n.drives,0<=k/\k<64:=kE e2;refine(MX z.2.2.2.2.2.2.1 n.drives ab.drives i4 (E.bs 2 [1,0])).mono ?_;rintro _ h5 ⟨p,rfl,R5⟩;obtain⟨live,b⟩:∃live,live=aN ds n.drives:=⟨_,rfl⟩
 rw[<-b]at R5;have ao:ii live<=64:=by rw[b];exact zi (qP _ _) V
 have f:∀k∈live,0<=k/\k<64:=λk U=>by rw[b]at U;exact X k (qI.1 U).1
 have S:=(E.cD R5).bs 4 [2,3,0,1];refine⟨p,i0,z,(S.box 3 i0).aS _ i0,(nB z n h5 (hS.at [_,_,_,_] S) j).mono ?_⟩;rintro _ h6 ⟨pg,rfl,R6⟩;have r:=(aa.xU R6).1;have G:=kp n j;obtain⟨q,J⟩:∃q,q=ii (bo n):=⟨_,rfl⟩
 rw[<-J]at r G;have H6:=S.up R6.ai;refine⟨pg,i0,H6.alloc af i0 λc h7 Y=>?_⟩;have Y:=Y.bN;refine Y.storeAll af 0 i0 i0 [xH xN (pg.len:Int)] i0 i0 i0 i0 λh8 o=>?_;rw[r]at o;have o:aa B h0 h8 (bj bu a pw (aX x) offs da w ds::cx x m::aw c 3 [xH xN (q:Int)]::aq 3 p 1 aC live::aw F 44 (aX z)::As):=o.bs 5 [1,2,0,3,4];obtain⟨T,s⟩:∃T,T=cx x m::aw c 3 [xH xN (q:Int)]::aq 3 p 1 aC live::aw F 44 (aX z)::As:=⟨_,rfl⟩
 have tX:St B h0 T λh=>dY h x m:=by rw[s];exact St.gI 0 i0 λ_ t=>t
 have tN:St B h0 T λh=>cA h c 3 [xH xN (q:Int)]:=by rw[s];exact St.gI (A:=aw c 3 [xH xN (q:Int)]) 1 i0 λ_ t=>t.1
 have P:St B h0 T λh=>Rd h p 1 aC live:=by rw[s];exact St.gI (A:=aq 3 p 1 aC live) 2 i0 λ_ t=>t.1.seq (λ_=>rfl) t.2
 have tM:St B h0 T λh=>cA h F 44 (aX z):=by rw[s];exact St.gI (A:=aw F 44 (aX z)) 3 i0 λ_ t=>t.1
 have tY:St B h0 T λh=>dY h z n:=by rw[s];exact hS.cons.cons.cons.cons
 obtain⟨N,hN⟩:∃N:Int->Int,N=λ_=>(q:Int):=⟨_,rfl⟩
 have tT:St B h0 T λh=>RO 212 #[] #[xJ (dB c)] N live h:=λBs h' d k U=>by
  refine Az k c ?_;unfold og;exact⟨(q:Int),(tN Bs h' d).cell0 i0,by rw[hN],Sp.refl h'⟩
 have fin:∀{h':f8} {w':Pow} {u:aW},aa B h0 h' (bj bu a pw (aX x) offs da w' u::T)->aa B h0 h' (bj bu a pw (aX x) offs da w' u::cx x m::As):=λ{h' w' u} d=>by
  rw[s]at d;exact d.bs 5 [0,1]
 rw[<-s]at o;have O:cM m offs w ds n=(if live=[]∨dt m ds live N=eR then(7,m,w,ds)else
   if(makes m N live w ds).1≠0 then((makes m N live w ds).1,m,(makes m N live w ds).2)else
   ((layAll (bH n live) (makes m N live w ds).2.1 (makes m N live w ds).2.2).1,if(layAll (bH n live) (makes m N live w ds).2.1 (makes m N live w ds).2.2).1=0 then n else m,(layAll (bH n live) (makes m N live w ds).2.1 (makes m N live w ds).2.2).2)):=by
  rw[hN,J,b];unfold cM;rw[g0 mn,g0 (by rw[e2,hU (by simpa using e3)];decide)]
 rw[O];have L:=(P.at [_] o).len;refine bg (cu (λe=>?_) λe4=>?_)
 ·have:live=[]:=List.length_eq_zero_iff.1 i4;rw[f9 (.inl this)];exact⟨i0,x,fin o⟩
 have ah:live≠[]:=λh=>e4 (by rw[L,h];rfl);refine(Ni 212 #[] #[xJ (dB c)] N x m p live k9 (λBs h' d=>⟨tX Bs h' d,tT Bs h' d⟩) hz (P.at [_] o) i4 f o).mono ?_;rintro _ h9 ⟨rfl,R9⟩;have H9:=o.up R9.ai;refine⟨_,i0,bm (λg=>?_) λg=>?_⟩
 ·rw[f9 (.inr g)];exact⟨i0,x,fin H9⟩
 rw[g0 (by rintro(h|h);exact ah h;rw[g]at h;cases h)];refine(Nj 212 #[] #[xJ (dB c)] N x m p live k9 (λBs h' d=>⟨tX Bs h' d,tT Bs h' d,P Bs h' d⟩) hz i4 f H9).mono ?_;rintro _ ap ⟨rfl,l⟩;obtain⟨Q,ad⟩:∃Q,Q=makes m N live w ds:=⟨_,rfl⟩
 rw[<-ad]at l⊢;refine⟨_,i0,cv (λg2=>?_) λg2=>?_⟩
 ·rw[f9 g2];exact⟨i0,x,fin l⟩
 rw[g0 (by simpa using g2)];refine⟨z,(tM.at [_] l).aS _ i0,(Nl x z n p live (λBs h' d=>⟨tY Bs h' d,P Bs h' d⟩) j i4 f l).mono ?_⟩;rintro _ am ⟨rfl,Q1,Q0⟩;refine⟨_,i0,i0,?_⟩;by_cases R:(layAll (bH n live) Q.2.1 Q.2.2).1=0
 ·obtain⟨y2,K⟩:=Q0 R;rw[f9 R];rw[s]at K;exact⟨y2,K.bs 6 [0,1]⟩
 ·rw[g0 R];exact⟨x,fin (Q1 R)⟩
end
theorem ahR{a:aF}(b:a≠[])(id:Nat):tJ a id=a[id%ii a]'(y7 _ (by cases a with|nil=>exact absurd rfl b|cons=>simp)):=by
 have d:0<ii a:=by cases a with|nil=>exact absurd rfl b|cons=>simp
 have c:=y7 id d;unfold tJ RP;rw[g0 (by rintro(h|h);exact b h;omega)];have e:((id:Int)%(ii a:Int)).toNat=id%ii a:=i4
 rw[e,qe,qd c];rfl
def DE(a b c:Int):Int×Int×Int:=(1+a%6,1+b%3,1+c%9)
theorem YQ(a b c:Int)(h:f8):ac xR 37 #[xH xN a,xH xN b,xH xN c] h λv h'=>v=jU (DE a b c)/\Sp h h' []:=by refine Am a b c ?_;unfold nZ;refine(Sp.refl h).alloc af i0 λx f g=>?_;refine(bZ a 6 f i5 i5).mono ?_;rintro v e ⟨rfl,rfl⟩;refine⟨_,i0,(bZ b 3 e i5 i5).mono ?_⟩;rintro v h3 ⟨rfl,rfl⟩;refine⟨_,i0,(bZ c 9 h3 i5 i5).mono ?_⟩;rintro v i ⟨rfl,rfl⟩;refine⟨_,i0,?_⟩;dsimp only;rw[ak _,ak _,ak _];refine g.storeAll af 0 i0 i0 [xH xN (1+a%6),xH xN (1+b%3),xH xN (1+c%9)] i0 i0 i0 i0 λj d=>?_;exact⟨DE a b c,(d.box 0 i0).aS _ i0,i0,.zip d.ai⟩
theorem abx(a b c:Int):bI (DE a b c)=eL:=by rw[ce];unfold DE;dsimp only;omega
end Go.Qw
