/- Part of the proofs that the laws of this seat answer true whatever the input reads, and leave it as it was; no condition. -/
import Derived.Test.YtdhamoojccmbdaaGreatDoorKA
import Derived.Test.YtdhamoojccmbdaaGreatDoorPlA
import Derived.Test.YtdhamoojccmbdaaGreatDoorPlD
import Derived.Test.YtdhamoojccmbdaaGreatDoorPlG
import Derived.Test.YtdhamoojccmbdaaGreatDoorTabS
import Derived.Test.YtdhamoojccmbdaaGreatDoorShelfA
import Derived.Test.YtdhamoojccmbdaaGreatDoorShelfB
import Derived.Test.YtdhamoojccmbdaaGreatDoorPlH
import Derived.Test.YtdhamoojccmbdaaGreatDoorPlI
set_option linter.unusedVariables false
set_option maxHeartbeats 2000000
set_option linter.unusedSimpArgs false
open Go.Proofs.Tryz renaming prog -> xl
open Go.Value renaming agg -> xg, bool -> xf, int -> vX, pointer -> vZ, slice -> vY, string -> xd
open Go.IntKind renaming bits -> qk, i64 -> xh, signed -> yO, u32 -> xj, u64 -> xk, u8 -> xi, wrap -> qc
open Option renaming isNone -> zi, isSome_iff_exists -> vj, map_some -> qN, some -> zL
open Nat renaming add_assoc -> yp, add_sub_cancel_left -> zn, add_zero -> w9, le_refl -> ql, le_trans -> q9, lt_succ_iff_lt_or_eq -> zq, lt_trichotomy -> yg, mod_lt -> yJ, mul_le_mul -> we, mul_le_mul_right -> zr, mul_one -> wJ, sub_self -> zj, succ_mul -> zJ, zero_le -> w7
open Int renaming emod_lt_of_pos -> wC, emod_nonneg -> yk, mul_le_mul -> wi, mul_nonneg -> y9, mul_pos -> vR, natCast_mul -> wh, natCast_nonneg -> zO, ofNat_le -> yI, tmod -> zX, tmod_eq_emod_of_nonneg -> yx, toNat_natCast -> qo
open Bool renaming and_eq_false_iff -> yZ, and_eq_true -> qz, and_self -> vS, eq_iff_iff -> yC, false_eq_true -> ze, false_or -> vi, not_eq_true' -> wK, or_eq_true -> wc, true_and -> zU
open List renaming all_append -> yD, all_cons -> vU, all_eq_false -> yh, all_eq_true -> qM, any_append -> yX, any_eq_false -> z6, any_eq_true -> wm, append_assoc -> qp, append_nil -> qQ, drop -> vW, drop_eq_getElem_cons -> qW, drop_of_length_le -> zg, eq_nil_of_length_eq_zero -> qX, ext_getElem -> wk, ext_getElem? -> zK, filter_append -> zk, filter_cons -> zp, filter_eq_nil_iff -> wF, filter_eq_self -> wq, filter_nil -> yW, find?_eq_none -> z8, find?_eq_some_iff_append -> wL, flatMap_append -> zc, flatMap_cons -> zl, flatMap_nil -> wj, foldl_append -> wM, getD_eq_getElem?_getD -> qe, getElem?_append_left -> qn, getElem?_append_right -> qj, getElem?_cons_succ -> qy, getElem?_drop -> wB, getElem?_eq_getElem -> qd, getElem?_eq_none -> zf, getElem?_eq_some_iff -> qm, getElem?_map -> qP, getElem?_range -> zt, getElem?_replicate -> zY, getElem?_set -> q8, getElem_append_right -> wI, getElem_map -> wo, getElem_mem -> qg, getElem_of_mem -> qG, getElem_zip -> yS, length -> y6, length_append -> qw, length_cons -> zb, length_drop -> q7, length_eq_zero_iff -> vu, length_filter_le -> qY, length_map -> qx, length_mergeSort -> wx, length_nil -> ym, length_range -> zw, length_replicate -> yz, length_set -> zH, length_take -> qZ, map_append -> qS, map_cons -> zT, map_map -> wS, map_mergeSort -> vt, map_nil -> vA, mem_append -> qB, mem_append_left -> yE, mem_append_right -> wN, mem_cons -> za, mem_cons_of_mem -> qO, mem_cons_self -> qU, mem_filter -> qI, mem_flatMap -> zo, mem_map -> qu, mem_mergeSort -> yw, mem_of_getElem? -> ye, mem_range -> qF, mem_singleton -> qH, mem_take_iff_getElem -> w8, mergeSort_perm -> yn, nil_append -> zW, nodup_cons -> wR, nodup_range -> yR, pairwise_append -> wV, pairwise_cons -> zN, pairwise_iff_getElem -> zd, pairwise_lt_range -> vy, pairwise_map -> w4, range -> qC, range_succ -> zI, replicate -> qh, replicate_succ -> yL, set_append_right -> zh, set_cons_zero -> zB, take_append_drop -> qE, take_length -> qR, take_of_length_le -> qi, zipWith -> zm, zipWith_append -> yM
open Go.Instr renaming storeAt -> qf
open Prod renaming ext -> yT, fst -> qJ, snd -> zC
set_option maxRecDepth 100000
namespace Go.Proofs.YtdhamoojccmbdaaGreatDoor
open Go Go.Vc Go.Proofs Wl
theorem adL{α:Type}{h:Heap}{e:TypeId}{s:Sl}{k:Nat}{f:α->List Value}{l:List α}(a:Own h e s k f l)(c:l≠[]):s.ptr.isNone=false:=by
 rcases a.head with⟨_,_,h3⟩|⟨b,rest,h1,_⟩
 ·exact absurd h3 c
 ·rw[h1];rfl
theorem adM(p:Pm)(seed id:Int)(h:Heap):ae xl abd #[kA p,vX xj seed,vX xh id] h fun v h'=>∃r:Sl,v=vY r.ptr r.len r.cap/\
  Sp h h' [an aC r 1 aB (if bJ p&&bU id then rY (bZ p).toNat seed id else[])]/\r.ptr.isNone=!(bJ p&&bU id):=by
 refine YL p seed id ?_;unfold TW;refine(Sp.refl h).boxed fun a J F=>?_;refine aX ?_;refine⟨p,(F.box 0 rfl).aO _ rfl,(dS p J).mono ?_⟩;rintro v z ⟨rfl,Q⟩;have s:=F.comp Q;have q:(bJ p&&bU id)=false->Sp h z [an aC ⟨none,0,0⟩ 1 aB (if bJ p&&bU id then rY (bZ p).toNat seed id else[])]/\zi (none:Option Addr)=!(bJ p&&bU id):=fun I=>by
  rw[I];exact⟨(s.nil aC 1 aB).take 1 (fun i A g=>by cases i with|zero=>exact g|succ i=>simp at g),rfl⟩
 refine⟨_,rfl,bi (fun e=>⟨⟨none,0,0⟩,rfl,q (by rw[e];rfl)⟩) fun l=>?_⟩;refine ak (fun e=>⟨⟨none,0,0⟩,rfl,q (by simp[bU];omega)⟩) fun W=>?_;refine ak (fun e=>⟨⟨none,0,0⟩,rfl,q (by simp[bU];omega)⟩) fun D=>?_;have hid:bU id=true:=by simp[bU];omega
 refine⟨p,(s.box 0 rfl).aO _ rfl,(lP p z).mono ?_⟩;rintro v h3 ⟨rfl,N⟩;have K:=s.comp N;have P:=(bK p).1 l;have U:bZ p=p.1+p.2.1:=by rw[bZ,if_pos l]
 obtain⟨n,H⟩:∃n:Nat,bZ p=n:=⟨(bZ p).toNat,by omega⟩
 refine⟨_,rfl,?_⟩;dsimp only;rw[H];refine K.make af aB fX (by decide) 0 rfl rfl n n rfl rfl (ql _) (by omega) fun v O X R B=>?_;refine⟨p,(B.box 0 rfl).aO _ rfl,(Bz p seed id O).mono ?_⟩;rintro w V ⟨c,rfl,y⟩;rw[l,hid,H,qo]at y;rw[l,hid,qo];have t:=B.comp y;have j:=t.seq 2 rfl (fun _=>rfl);have o:=j.len;obtain⟨b,d⟩:∃b,b=de n seed id:=⟨_,rfl⟩
 have u:∀x∈b,0<=x/\x<(n:Int):=fun x G=>mG (by omega) (by omega) (by rw[<-d];exact G);have E:b.length<=n:=by rw[d];exact AV (by omega) (by omega) _ _
 simp only[vS,if_true,<-d]at t j o y;refine⟨c,rfl,?_⟩;refine aw (fun i:Nat=>(i:Int)) (fun i h'=>i<=b.length/\Sp h h' [aq a aP [vX xh p.1,vX xh p.2.1,vX xh p.2.2],an aC v 1 aB (fH n (b.take i)),an aT c 1 aD b]) (fun i=>b.length-i) 0 rfl ⟨by omega,t⟩ ?_;rintro i L ⟨g,k⟩;refine ak (fun e=>?_) (fun e=>?_)
 ·have f:i<b.length:=by omega
  have G:=u _ (qg f);refine(k.seq 2 rfl (fun _=>rfl)).bz i rfl f _ rfl ?_;refine k.set af 1 rfl (fun _=>rfl) rfl b[i].toNat (by omega) (by rw[rX];omega) 1 rfl rfl rfl fun T M=>?_;refine⟨i+1,by rw[wrap_small _ (by omega) (by omega)];rfl,⟨by omega,?_⟩,by omega⟩;have D:fH n (b.take (i+1))=(fH n (b.take i)).set b[i].toNat 1:=by rw[aJ _ _ f,fH,wM];rfl
  rw[D];exact M
 ·rw[qi (by omega)]at k;have m:Sp h L [an aC v 1 aB (fH n b)]:=(k.del 2).take 1 (fun i A g=>by cases i with|zero=>exact g|succ i=>simp at g);refine⟨v,rfl,?_,adL (m.own 0 rfl) (fun S=>?_)⟩
  ·rw[d]at m;exact m
  ·have:=rX n b;rw[S]at this;simp at this;omega
theorem FJ(p:Pm)(h:Heap):ae xl VW #[kA p] h fun v h'=>∃r:Sl,v=vY r.ptr r.len r.cap/\Sp h h' [fP aH r 1 aB (if bJ p then bw p.1.toNat p.2.1.toNat else[])]:=by
 refine TV p ?_;unfold ML;refine(Sp.refl h).boxed fun a P E=>?_;refine⟨p,(E.box 0 rfl).aO _ rfl,(dS p P).mono ?_⟩;rintro v O ⟨rfl,R2⟩;have B:=E.comp R2;refine⟨_,rfl,bi (fun e=>⟨⟨none,0,0⟩,rfl,?_⟩) fun w=>?_⟩
 ·rw[e];exact(B.Lu aH 1 aB).take 1 (fun i A c=>by cases i with|zero=>exact c|succ i=>simp at c)
 have Y:=(bK p).1 w;have Q:bZ p=p.1+p.2.1:=by rw[bZ,if_pos w]
 obtain⟨K,L⟩:∃K:Nat,p.1=K:=⟨p.1.toNat,by omega⟩
 obtain⟨b,hH⟩:∃H:Nat,p.2.1=H:=⟨p.2.1.toNat,by omega⟩
 refine(uX O).mono ?_;rintro v h3 ⟨f,rfl,V⟩;have z:=(B.comp V).Lu aH 1 aB;refine⟨some f,rfl,_,(z.box 0 rfl).cell rfl,?_⟩;refine aw (fun t:Sl×Nat=>(t.1,(t.2:Int))) (fun t h'=>t.2<=b/\Sp h h' [aq a aP [vX xh p.1,vX xh p.2.1,vX xh p.2.2],aq f gC dq,fP aH t.1 1 aB ((bw K b).take t.2)]) (fun t=>b-t.2) (⟨none,0,0⟩,0) rfl ⟨by simp,z⟩ ?_;rintro⟨s,k⟩ W ⟨hk,d⟩;dsimp only at*;refine ak (fun e=>?_) (fun e=>?_)
 ·have J:k<b:=by omega
  refine aX ⟨p,(d.box 0 rfl).aO _ rfl,p.1,(d.box 0 rfl).cell0 rfl,?_⟩;refine(lP p W).mono ?_;rintro v R ⟨rfl,R5⟩;have F:=d.comp R5;refine⟨_,rfl,⟨(F.box 0 rfl).cell0 rfl,trivial⟩,?_⟩;dsimp only;rw[wrap_small (p.1+k) (by omega) (by omega),Q];refine(abv _ _ R).mono ?_;rintro v h6 ⟨u,rfl,q⟩;rw[if_pos (by omega)]at q;have Z:(p.1+p.2.1).toNat=K+b:=by omega
  have U:(p.1+(k:Int)).toNat=K+k:=by omega
  rw[Z,U]at q;have o:=F.comp q;refine⟨u,rfl,⟨(o.box 0 rfl).cell0 rfl,trivial⟩,p.1,(o.box 0 rfl).cell0 rfl,?_⟩;let rowAt:Nat->List UInt8:=fun j=>(qC j).map (fun i=>Gf.pw ((k+1)*(i+1)%255))++((qh (K+b) (0:UInt8)).set (K+k) 1).drop j;refine aw (fun j:Nat=>(j:Int)) (fun j h'=>j<=K/\Sp h h' [aq a aP [vX xh p.1,vX xh p.2.1,vX xh p.2.2],aq f gC dq,fP aH s 1 aB ((bw K b).take k),an aC u 1 aB (rowAt j)]) (fun j=>K-j) 0 rfl ⟨by omega,o⟩ ?_;rintro j I ⟨hj,n⟩;refine ak (fun e3=>?_) (fun e3=>?_)
  ·have m:j<K:=by omega
   have hm:(k+1)*(j+1)<=4*16:=we (by omega) (by omega);have T:qc xh (qc xh ((k:Int)+1)*qc xh ((j:Int)+1))=(((k+1)*(j+1):Nat):Int):=by
    rw[wrap_small ((k:Int)+1) (by omega) (by omega),wrap_small ((j:Int)+1) (by omega) (by omega),show((k:Int)+1)*((j:Int)+1)=(((k+1)*(j+1):Nat):Int)by rw[wh];rfl];exact uC _ (by omega)
   rw[T];refine(adK f _ I (n.box 1 rfl)).mono ?_;rintro v h8 ⟨rfl,rfl⟩;refine⟨_,rfl,?_⟩;have D:(rowAt j).length=K+b:=by simp[rowAt];omega
   refine n.set af 3 rfl (fun _=>rfl) rfl j rfl (by omega) _ rfl rfl rfl fun M y=>?_;refine⟨j+1,by rw[wrap_small _ (by omega) (by omega)];rfl,⟨by omega,?_⟩,by omega⟩;have x:(rowAt j).set j (Gf.pw ((((k+1)*(j+1):Nat):Int)%255).toNat)=rowAt (j+1):=by
    have N:((((k+1)*(j+1):Nat):Int)%255).toNat=(k+1)*(j+1)%255:=by omega
    rw[N];simp only[rowAt];rw[zh _ _ (by simp),qx,zw,zj,qW (by simp;omega),zB,zI,qS,qp];rfl
   rw[<-x];exact y
  ·have m:j=K:=by omega
   subst m;have x:rowAt j=lq j b k:=by
    simp only[rowAt,lq];congr 1;apply zK;intro i;rw[wB,q8,qP];by_cases c:i<b
    ·rw[zt c,qN,zY];by_cases g:i=k
     ·subst g;simp[c]
     ·rw[if_neg (by omega),if_pos (by omega),if_neg g]
    ·rw[zf (l:=qC b) (by simp;omega),if_neg (by omega),zY,if_neg (by omega)];rfl
   rw[x]at n;have S:=n.freeze 3 rfl (fun _=>rfl);have G:((bw j b).take k).length=k:=by simp[bw];omega
   refine S.wn af 2 3 (by decide) rfl rfl fJ (by omega) fun s' M y=>?_;refine⟨(s',k+1),by dsimp only;rw[wrap_small _ (by omega) (by omega)];rfl,⟨by dsimp only;omega,?_⟩,by dsimp only;omega⟩;have X:(bw j b).take (k+1)=(bw j b).take k++[lq j b k]:=by
    rw[aJ _ _ (by simp[bw];omega)];simp[bw]
   dsimp only;rw[X];exact y.del 3
 ·refine⟨s,rfl,?_⟩;rw[if_pos w,L,hH,qo,qo];rw[qi (by simp[bw];omega)]at d;exact d.take 2 (fun i A c=>by cases i with|zero=>exact c|succ i=>simp at c)
theorem Ni(p:Pm)(h:Heap):ae xl Mz #[kA p] h fun v h'=>∃r:Sl,v=vY r.ptr r.len r.cap/\Sp h h' [an aT r 1 aD (upto (max 0 (min p.1 16)).toNat)]:=by
 refine KF p ?_;unfold Dd;refine(Sp.refl h).boxed fun a o f=>?_;refine⟨p.1,(f.box 0 rfl).cell0 rfl,?_⟩;have em:(if(if(16:Int)<p.1 then(16:Int)else p.1)>(0:Int)then(if(16:Int)<p.1 then(16:Int)else p.1)else(0:Int))=((max 0 (min p.1 16)).toNat:Int):=by
  split<;>split<;>omega
 rw[em];generalize q:(max 0 (min p.1 16)).toNat=N;have c:N<=16:=by omega
 refine aw (fun t:Sl×Nat=>(t.1,(t.2:Int))) (fun t h'=>t.2<=N/\Sp h h' [emp,an aT t.1 1 aD (upto t.2)]) (fun t=>N-t.2) (⟨none,0,0⟩,0) rfl ⟨by simp,(f.gq 0 rfl fun _ _=>trivial).nil aT 1 aD⟩ ?_;rintro⟨s,k⟩ n ⟨m,d⟩;dsimp only at*;refine ak (fun e=>?_) (fun e=>?_)
 ·refine d.push af 1 rfl me rfl (by decide) (fun _=>rfl) jp (k:Int) rfl (by decide) (by rw[gu];omega) fun l h3 g=>?_;refine⟨(l,k+1),by dsimp only;rw[wrap_small _ (by omega) (by omega)];rfl,⟨by dsimp only;omega,?_⟩,by dsimp only;omega⟩;have j:upto (k+1)=upto k++[(k:Int)]:=by simp[upto,zI]
  dsimp only;rw[j];exact g
 ·have:k=N:=by omega
  subst this;exact⟨s,rfl,d.take 1 (fun i A b=>by cases i with|zero=>exact b|succ i=>simp at b)⟩
theorem JX(p:Pm)(seed:Int)(ids:Sl)(l:List Int)(h:Heap)(D:Rd h ids 1 aD l)(I:l.length<=2^30):ae xl KE #[kA p,vX xj seed,vY ids.ptr ids.len ids.cap] h fun v h'=>∃r:Sl,v=vY r.ptr r.len r.cap/\Sp h h' [fP aH r 1 aB (dM p seed l)]:=by
 refine Jj p seed ids ?_;unfold Bp;refine(Sp.refl h).boxed fun a x B=>?_;refine⟨p,(B.box 0 rfl).aO _ rfl,(FJ p x).mono ?_⟩;rintro v F ⟨r,rfl,K⟩;have y:=B.comp K;refine⟨r,rfl,?_⟩;have z:=D.len;let at_:Nat->List (List UInt8):=fun k=>dM p seed (l.take k);have h0:(if bJ p then bw p.1.toNat p.2.1.toNat else[])=at_ 0:=by simp[at_,dM]
 rw[h0]at y;refine aw (fun t:Sl×Nat=>(t.1,(t.2:Int))) (fun t h'=>t.2<=l.length/\Sp h h' [aq a aP [vX xh p.1,vX xh p.2.1,vX xh p.2.2],fP aH t.1 1 aB (at_ t.2)]) (fun t=>l.length-t.2) (r,0) rfl ⟨by simp,y⟩ ?_;rintro⟨s,k⟩ h3 ⟨L,j⟩;dsimp only at*;refine ak (fun e=>?_) (fun e=>?_)
 ·have d:k<l.length:=by omega
  refine(Seq.up D j.ai).bz k rfl d _ rfl ?_;refine⟨p,(j.box 0 rfl).aO _ rfl,(adM p seed l[k] h3).mono ?_⟩;rintro v N ⟨w,rfl,G,c⟩;have o:=(j.comp G).freeze 2 rfl (fun _=>rfl);refine⟨w,rfl,?_⟩;have q:(at_ k).length<=4+k∨at_ k=[]:=by
   by_cases n:bJ p
   ·left;have:=(bK p).1 n;have x:=qY bU (l.take k);have F:=List.length_take_le k l;simp only[at_,dM,n,if_true,qw,qx,bw,zw];omega
   ·right;simp[at_,dM,n]
  have g:(at_ k).length+1<=2^32:=by
   rcases q with h|h
   ·omega
   ·rw[h];simp
  dsimp only;refine bi (fun f=>?_) (fun f=>?_)
  ·rw[c]at f;have b:(bJ p&&bU l[k])=true:=by simpa using f
   rw[b,if_pos rfl]at o;refine o.wn af 1 2 (by decide) rfl rfl fJ g fun H M J=>?_;refine⟨(H,k+1),by dsimp only;rw[wrap_small _ (by omega) (by omega)];rfl,⟨by dsimp only;omega,?_⟩,by dsimp only;omega⟩;rw[qz]at b;have m:at_ (k+1)=at_ k++[rY (bZ p).toNat seed l[k]]:=by
    simp only[at_,dM,b.1,if_true];rw[xD d,if_pos b.2,qS,qp];rfl
   dsimp only;rw[m];exact J.del 2
  ·rw[c]at f;have b:(bJ p&&bU l[k])=false:=by
    cases hh:(bJ p&&bU l[k])with
    |false=>rfl
    |true=>rw[hh]at f;cases f
   refine⟨(s,k+1),by dsimp only;rw[wrap_small _ (by omega) (by omega)];rfl,⟨by dsimp only;omega,?_⟩,by dsimp only;omega⟩;have m:at_ (k+1)=at_ k:=by
    simp only[at_,dM];rw[yZ]at b;rcases b with h|h
    ·simp[h]
    ·have E:(l.take (k+1)).filter bU=(l.take k).filter bU:=by rw[xD d,if_neg (by simp[h])]
     rw[E]
   dsimp only;rw[m];exact o.del 2
 ·refine⟨s,rfl,?_⟩;have m:at_ k=dM p seed l:=by simp only[at_];rw[qi (by omega)]
  rw[m]at j;exact j.take 1 (fun i A u=>by cases i with|zero=>exact u|succ i=>simp at u)
theorem mY(a:Sl)(m:aS)(n:Nat)(h:Heap)(c:gr h a 1 aB m)(i:bh n m)(s:n<=64)(p:m.length<=2^30):ae xl YI #[vY a.ptr a.len a.cap] h fun v h'=>v=xf true/\h'=h:=by
 refine VR a ?_;unfold Qf;have q:=c.len;refine aw (fun k:Nat=>(k:Int)) (fun k h'=>h'=h/\k<=m.length) (fun k=>m.length-k) 0 rfl ⟨rfl,by omega⟩ ?_;rintro k h' ⟨rfl,l⟩;refine ak (fun e=>?_) (fun e=>⟨rfl,rfl⟩);have b:k<m.length:=by omega
 refine c.get k rfl b fun r j=>?_;refine c.get 0 rfl (by omega) fun o d=>?_;have g:=j.len;have f:=d.len;rw[i _ (qg _)]at g f;refine ci (fun e=>by omega) fun _=>ak (fun e=>by omega) fun _=>?_;exact⟨k+1,by rw[wrap_small _ (by omega) (by omega)];rfl,⟨rfl,by omega⟩,by omega⟩
theorem Ah(a:Sl)(m:aS)(n:Nat)(h:Heap)(d:gr h a 1 aB m)(o:bh n m)(F:n<=64)(D:m.length<=2^30):ae xl YJ #[vY a.ptr a.len a.cap] h fun v h'=>∃(r:Sl) (rs:List Sl),v=vY r.ptr r.len r.cap/\rs.length=m.length/\Sp h h' (an aH r 1 bQ rs::bT aC 1 aB rs m):=by
 refine VS a ?_;unfold Qg;have E:=d.len;refine(Sp.refl h).make af bQ fJ (by decide) ⟨none,0,0⟩ rfl rfl 0 m.length rfl (by omega) (by omega) (by omega) fun s z l A x=>?_;refine aw (fun t:Sl×List Sl=>(t.1,(t.2.length:Int))) (fun t h'=>t.2.length<=m.length/\Sp h h' (an aH t.1 1 bQ t.2::bT aC 1 aB t.2 (m.take t.2.length))) (fun t=>m.length-t.2.length) (s,[]) rfl ⟨by simp,by simpa[bT]using x⟩ ?_;rintro⟨s,rs⟩ f ⟨y,c⟩;dsimp only at*;refine ak (fun e=>?_) (fun e=>?_)
 ·have b:rs.length<m.length:=by omega
  refine(d.up c.ai).get rs.length rfl b fun r p=>?_;have q:m[rs.length].length=n:=o _ (qg _);refine(fO r _ f p (by omega)).mono ?_;rintro v h3 ⟨w,rfl,k⟩;have g:=c.comp k;refine⟨w,rfl,?_⟩;refine g.push af 0 rfl fJ rfl (by decide) (fun _=>rfl) nW w rfl (by decide) (by omega) fun u B i=>?_;refine⟨(u,rs++[w]),by dsimp only;rw[wrap_small _ (by omega) (by omega)];simp,⟨by simp;omega,?_⟩,by simp;omega⟩;dsimp only;rw[show(rs++[w]).length=rs.length+1 by simp,aJ _ _ b,xw (by rw[qZ];omega)];exact i
 ·have j:m.take rs.length=m:=qi (by omega);rw[j]at c;exact⟨s,rs,rfl,by omega,c⟩
theorem sw(a:Sl)(m:aS)(h:Heap)(b:gr h a 1 aB m):ae xl TR #[vY a.ptr a.len a.cap] h fun v h'=>v=vX xh (fM m)/\h'=h:=by
 refine Ru a ?_;unfold JQ;have d:=b.len;refine cw (fun e=>?_) (fun e=>?_)
 ·have:m=[]:=qX (by omega);subst this;exact⟨rfl,rfl⟩
 ·refine b.get 0 rfl (by omega) fun r c=>⟨?_,rfl⟩
  rw[c.len,fM,bu (by omega)]
theorem Uo{r:Row}{c:Nat}(h:c<r.length):aN r c=r[c]:=by rw[aN,qe,qd h];rfl
theorem Wr(a:Sl)(m:aS)(n b bp:Nat)(h:Heap)(q:gr h a 1 aB m)(t:bh n m)(x:bp<n)(y:m.length<=2^30):
  ae xl Rz #[vY a.ptr a.len a.cap,vX xh b,vX xh bp] h fun v h'=>v=vX xh (match iz m b bp with|some i=>(i:Int)|none=>-1)/\h'=h:=by
 refine Pa a b bp ?_;unfold HQ;have z:=q.len;refine aw (fun k:Nat=>(k:Int)) (fun k h'=>h'=h/\b<=k/\k<=max b m.length/\∀j,j<k->(decide (b<=j)&&(aN (az m j) bp !=0))=false) (fun k=>m.length-k) b rfl ⟨rfl,by omega,by omega,fun j g=>by rw[decide_eq_false (by omega)];rfl⟩ ?_;rintro k h' ⟨rfl,p,s,g⟩;refine ak (fun e=>?_) (fun e=>?_)
 ·rw[iz,Yd (fun j f=>g j (by omega))];exact⟨rfl,rfl⟩
 ·have d:k<m.length:=by omega
  have w:m[k].length=n:=t _ (qg _);refine q.get k rfl d fun r u=>?_;refine u.bz bp rfl (by omega) _ rfl ?_;have c:aN (az m k) bp=m[k][bp]'(by omega):=by rw[bu d,Uo (by omega)]
  refine ci (fun o=>?_) (fun o=>?_)
  ·have l:(decide (b<=k)&&(aN (az m k) bp !=0))=true:=by
    rw[decide_eq_true p,c];simp;exact fun h0=>o (by rw[h0];rfl)
   rw[iz,Ye d g l];exact⟨rfl,rfl⟩
  ·refine⟨k+1,by rw[wrap_small _ (by omega) (by omega)];rfl,⟨rfl,by omega,by omega,fun j f=>?_⟩,by omega⟩;rcases zq.1 f with h1|rfl
   ·exact g j h1
   ·rw[c,EG.1 o];simp
theorem YY(f:Addr)(c:UInt8)(a:Sl)(l:Row)(h:Heap)(i:gI h f)(m:Rd h a 1 aB l)(z:l.length<=2^30):ae xl TY #[vZ (some f),vX xi c.toNat,vY a.ptr a.len a.cap] h fun v h'=>∃r:Sl,v=vY r.ptr r.len r.cap/\Sp h h' [an aC r 1 aB (scaleB c l)]:=by
 refine RB (some f) _ a ?_;unfold JS;have A:=m.len;refine(RF f h).mono ?_;rintro v j ⟨rfl,rfl⟩;refine⟨some f,rfl,?_⟩;refine(Sp.refl j).make af aB fX (by decide) 0 rfl rfl l.length l.length (by omega) (by omega) (ql _) (by omega) fun s u o w p=>?_;refine aw (fun k:Nat=>(k:Int)) (fun k h'=>k<=l.length/\Sp j h' [an aC s 1 aB ((l.take k).map (Gf.mul c)++qh (l.length-k) 0)]) (fun k=>l.length-k) 0 rfl ⟨by omega,by simpa using p⟩ ?_;rintro k h3 ⟨t,d⟩;refine ak (fun e=>?_) (fun e=>?_)
 ·have b:k<l.length:=by omega
  refine(Seq.up m d.ai).bz k rfl b _ rfl ?_;refine(KY f c l[k] h3 (i.ai d.ai i.lt)).mono ?_;rintro v y ⟨rfl,rfl⟩;refine⟨_,rfl,?_⟩;refine d.set af 0 rfl (fun _=>rfl) rfl k rfl (by simp;omega) _ rfl rfl rfl fun x q=>?_;refine⟨k+1,by rw[wrap_small _ (by omega) (by omega)];rfl,⟨by omega,?_⟩,by omega⟩;have g:((l.take k).map (Gf.mul c)).length=k:=by simp;omega
  have n:((l.take k).map (Gf.mul c)++qh (l.length-k) 0).set k (Gf.mul c l[k])=(l.take (k+1)).map (Gf.mul c)++qh (l.length-(k+1)) 0:=by
   rw[zh _ _ (by omega),g,zj,show l.length-k=l.length-(k+1)+1 by omega,yL,zB,aJ _ _ b,qS,qp];rfl
  rw[<-n];exact q
 ·have:k=l.length:=by omega
  subst this;refine⟨s,rfl,?_⟩;rw[qi (ql _),zj,List.replicate_zero,qQ]at d;exact d
theorem Ai{c:UInt8}{a t:Row}(d:a.length=t.length){k:Nat}(b:k<t.length):(zm (fun x y=>y^^^Gf.mul c x) (a.take k) (t.take k)++t.drop k).set k (t[k]^^^Gf.mul c (a[k]'(by omega)))=zm (fun x y=>y^^^Gf.mul c x) (a.take (k+1)) (t.take (k+1))++t.drop (k+1):=by
 have e:(zm (fun x y=>y^^^Gf.mul c x) (a.take k) (t.take k)).length=k:=by simp;omega
 rw[zh _ _ (by omega),e,zj,qW b,zB,aJ _ _ b,aJ _ _ (show k<a.length by omega),yM (by simp;omega)];simp
theorem adN(f:Addr)(c:UInt8)(a to:Sl)(d lt:Row)(h:Heap)(D:gI h f)(t:¬to.on f.block)(A:Seq h (fun b=>¬to.on b) a 1 aB d)(r:Own h aC to 1 aB lt)(n:d.length=lt.length)(I:d.length<=2^30):
  ae xl MQ #[vZ (some f),vX xi c.toNat,vY a.ptr a.len a.cap,vY to.ptr to.len to.cap] h fun v h'=>v=.tuple #[]/\Own h' aC to 1 aB (df c d lt)/\aU (fun b=>¬to.on b) h h':=by
 refine VY (some f) _ a to ?_;unfold Qi;have J:=A.len;have G:=r.len;refine cw (fun e=>?_) (fun _=>?_)
 ·have F:c=0:=EG.1 e;subst F;have:df 0 d lt=lt:=by
   apply wk (by rw[ca n]);intro i z E;simp[df,Gf.zero_mul]
  exact⟨rfl,by rw[this];exact r,aU.refl _ _⟩
 ·refine aw (fun k:Nat=>(k:Int)) (fun k h'=>k<=d.length/\Own h' aC to 1 aB (zm (fun x y=>y^^^Gf.mul c x) (d.take k) (lt.take k)++lt.drop k)/\aU (fun b=>¬to.on b) h h') (fun k=>d.length-k) 0 rfl ⟨by omega,by simpa using r,aU.refl _ _⟩ ?_;rintro k z ⟨H,g,j⟩;refine ak (fun e=>?_) (fun e=>?_)
  ·have q:k<d.length:=by omega
   have w:k<lt.length:=by omega
   have o:(zm (fun x y=>y^^^Gf.mul c x) (d.take k) (lt.take k)).length=k:=by simp;omega
   have B:(zm (fun x y=>y^^^Gf.mul c x) (d.take k) (lt.take k)++lt.drop k).length=lt.length:=by rw[qw,o,q7];omega
   refine(A.ai j).bz k rfl q _ rfl ?_;have m:(zm (fun x y=>y^^^Gf.mul c x) (d.take k) (lt.take k)++lt.drop k)[k]'(by omega)=lt[k]:=by
    rw[wI (by omega)];simp[o]
   refine(g.seq (p:=fun _=>True) (fun _=>rfl) fun _ _=>trivial).RT k rfl (by omega) _ rfl fun ax l=>?_;rw[m]at l⊢;refine(KY f c d[k] z (D.ai j t)).mono ?_;rintro v E ⟨rfl,rfl⟩;refine⟨_,rfl,⟨l,trivial⟩,?_⟩;dsimp only;rw[rn];refine g.set af (fun _=>rfl) rfl k rfl (by omega) _ rfl rfl rfl fun h3 s u _=>⟨trivial,?_⟩
   refine⟨k+1,by rw[wrap_small _ (by omega) (by omega)];rfl,⟨by omega,?_,j.trans u⟩,by omega⟩;rw[<-Ai n w];exact s
  ·have:k=d.length:=by omega
   subst this;rw[qi (ql _),qi (by omega),zg (by omega),qQ]at g;exact⟨rfl,g,j⟩
abbrev nR(a:Sl)(rs:List Sl)(m:aS):List HP:=an aH a 1 bQ rs::bT aC 1 aB rs m
theorem ph{a:Sl}{rs:List Sl}{m:aS}(c:rs.length=m.length)(i:Nat)(b:i<m.length):(nR a rs m)[i+1]?=some (an aC (rs[i]'(by omega)) 1 aB m[i]):=by
 rw[qy];exact kl c i b
theorem sA{h h':Heap}{a:Addr}{v:Value}(c:cellOf h a=some v)(d:aU (fun b=>b<h.size) h h'):cellOf h' a=some v:=d.cell (uA c) c
theorem abz{B:aA}{F:Heap}{f:Addr}(T:gI F f)(D:B f.block){a:Sl}{n c bp:Nat}{rs:List Sl}{m:aS}(hl:rs.length=m.length)(Y:bh n m)(hc:bp<n)(hn:n<=64)(V:c<m.length)(hs:m.length<=2^30)
  {h:Heap} (H:aa B F h (nR a rs m)) {K:Heap->Prop} (hk:∀h',aa B F h' (nR a rs (ez c bp m m.length))->K h'):
 aM (σ:=Int) (fun d Z i=>
 Br (decide (d<((a.len:Nat):Int)))
 (Br (d !=(c:Int))
 (∃t:Addr,(a.ptr=some t/\0<=d/\d<((a.len:Nat):Int))/\
 ∃g:Sl,cellOf i (t.add (d.toNat*1))=some (vY g.ptr g.len g.cap)/\
 ∃z:Addr,(g.ptr=some z/\0<=(bp:Int)/\(bp:Int)<((g.len:Nat):Int))/\
 ∃G:Int,cellOf i (z.add ((bp:Int).toNat*1))=some (vX xi G)/\
 ∃a25:Addr,(a.ptr=some a25/\0<=(c:Int)/\(c:Int)<((a.len:Nat):Int))/\
 ∃l:Sl,cellOf i (a25.add ((c:Int).toNat*1))=some (vY l.ptr l.len l.cap)/\
 ∃y:Addr,(a.ptr=some y/\0<=d/\d<((a.len:Nat):Int))/\
 ∃j:Sl,cellOf i (y.add (d.toNat*1))=some (vY j.ptr j.len j.cap)/\
 ag xl MQ #[(vZ (some f)),(vX xi G),(vY l.ptr l.len l.cap),(vY j.ptr j.len j.cap)] (.many []) i fun _ E=>
 (ar.ok [(t.add (d.toNat*1),(vY g.ptr g.len g.cap))] E)/\
 Z (qc xh (d+(1:Int))) E)
 (Z (qc xh (d+(1:Int))) i))
 (K i)) (0:Int) h:=by
 have ad:a.len=m.length:=by rw[(H.own 0 rfl).len,hl]
 refine aw (fun k:Nat=>(k:Int)) (fun k h'=>k<=m.length/\aa B F h' (nR a rs (ez c bp m k))) (fun k=>m.length-k) 0 rfl ⟨by omega,by rw[aam];exact H⟩ ?_;rintro k W ⟨ab,o⟩;have R:=oz c bp m k;have w:rs.length=(ez c bp m k).length:=by rw[R];exact hl
 refine ak (fun e=>?_) (fun e=>?_)
 ·have r:k<m.length:=by omega
  refine ci (fun X=>?_) (fun X=>?_)
  ·have u:k≠c:=fun hh=>X (by rw[hh]);have N:az (ez c bp m k) k=az m k:=by rw[rZ r,if_neg (by omega)]
   have P:az (ez c bp m k) c=az m c:=by rw[rZ V,if_neg (by omega)]
   have e4:(ez c bp m k)[k]'(by omega)=az m k:=by rw[<-N,bu]
   have e5:(ez c bp m k)[c]'(by omega)=az m c:=by rw[<-P,bu]
   have s:=ph (a:=a) w k (by omega);have U:=ph (a:=a) w c (by omega);rw[e4]at s;rw[e5]at U;have lk:=cb Y r;have lt:=cb Y V;have q:=o.off (k+1) 0 (by omega) s rfl;have x:=q.1.seq (fun _=>rfl) q.2;refine x.tZ k rfl (by omega) fun a1 M Q=>?_;have O:=o.seq (k+1) s (fun _=>rfl);refine O.bz bp rfl (by omega) _ rfl ?_;refine x.tZ c rfl (by omega) fun _ _ _=>?_;refine x.tZ k rfl (by omega) fun _ _ _=>?_;have I:(tW (rs[c]'(by omega)) 1 aB (az m c)).p W (fun b=>¬(rs[k]'(by omega)).on b):=by
    have:=o.off (k+1) (c+1) (by omega) s U;exact(this.1.seq (fun _=>rfl) this.2).mono fun b hb=>hb.2
   refine(adN f _ _ _ (az m c) (az m k) W (T.ai o.ai D) (o.base (k+1) s D) I (o.own (k+1) s) (by omega) (by omega)).mono ?_;rintro v h2 ⟨rfl,L,A⟩;have H2:=o.oI (k+1) s A L;have S:=A.cell Q.2 M;refine⟨(),rfl,⟨S,trivial⟩,?_⟩;refine⟨k+1,by rw[wrap_small _ (by omega) (by omega)];rfl,⟨by omega,?_⟩,by omega⟩;rw[aan r u];show aa B F h2 (an aH a 1 bQ rs::bT aC 1 aB rs ((ez c bp m k).set k _));rw[<-Sy w k (by omega)];have J:(az m k)[bp]'(by omega)=aN (az m k) bp:=(Uo (by omega)).symm;rw[J]at H2;exact H2
  ·have u:k=c:=by omega
   subst u;exact⟨k+1,by rw[wrap_small _ (by omega) (by omega)];rfl,⟨by omega,by rw[aao];exact o⟩,by omega⟩
 ·have:k=m.length:=by omega
  subst this;exact hk _ o
theorem Up{rs:List Sl}{m:aS}(a:rs.length=m.length)(i j:Nat)(b:i<m.length)(c:j<m.length):
  ((bT aC 1 aB rs m).set i (an aC (rs[j]'(by omega)) 1 aB m[j])).set j (an aC (rs[i]'(by omega)) 1 aB m[i])=bT aC 1 aB ((rs.set i (rs[j]'(by omega))).set j (rs[i]'(by omega))) (iR m i j):=by
 rw[lR a,lR (by simpa using a),iR,bu b,bu c]
theorem Cr{B:aA}{u:Heap}{f:Addr}(P:gI u f)(M:B f.block){a:Sl}{n cF:Nat}{rs:List Sl}{m:aS}(hl:rs.length=m.length)(hm:bh n m)(hc:cF<=n)(hn:n<=64)(hs:m.length<=2^30)
  {h:Heap} (H:aa B u h (nR a rs m)):ae xl Rv #[vZ (some f),vY a.ptr a.len a.cap,vX xh cF] h fun v h'=>
   ∃O:List Sl,v=vX xh (bF m cF).1/\O.length=m.length/\aa B u h' (nR a O (bF m cF).2):=by
 have am:a.len=m.length:=by rw[(H.own 0 rfl).len,hl]
 refine OV (some f) a cF ?_;unfold HE;refine aw (fun t:List Sl×Nat=>(((bF m t.2).1:Int),(t.2:Int))) (fun t h'=>t.2<=cF/\t.1.length=m.length/\aa B u h' (nR a t.1 (bF m t.2).2)) (fun t=>cF-t.2) (rs,0) rfl ⟨by simp,hl,H⟩ ?_;rintro⟨c,bp⟩ h1 ⟨hk,N,J⟩;dsimp only at*;have x:=ik hm bp;have F:=DU m bp;obtain⟨Z,s⟩:∃Z,Z=bF m bp:=⟨_,rfl⟩
 rw[<-s]at x F J⊢;obtain⟨b,l⟩:=Z;dsimp only at x F J⊢;have w:c.length=l.length:=by omega
 have d:bF m (bp+1)=iS (b,l) bp:=by rw[bF,<-s]
 refine ak (fun e=>?_) (fun e=>?_)
 ·have L:bp<n:=by omega
  have Q:gr h1 a 1 aB l:=J.Sz w (fun _=>rfl);refine(Wr a l n b bp h1 Q x.1 L (by omega)).mono ?_;rintro v h2 ⟨rfl,rfl⟩;refine⟨_,rfl,?_⟩;dsimp only;cases hb:iz l b bp with
  |none=>
   refine ak (fun _=>?_) (fun e2=>absurd (by decide) e2);refine⟨(c,bp+1),?_,⟨by dsimp only;omega,N,?_⟩,by dsimp only;omega⟩
   ·dsimp only;rw[d,iS,hb,wrap_small _ (by omega) (by omega)];rfl
   ·dsimp only;rw[d,iS,hb];exact J
  |some i=>
   have hh:=sJ hb;refine ak (fun e2=>absurd (show((i:Nat):Int)<0 from e2) (by omega)) (fun _=>?_);dsimp only;have K:b<l.length:=by omega
   have X:=hh.2.1;have R:=J.seq 0 rfl (fun _=>rfl);refine aX ?_;refine R.tZ i rfl (by omega) fun _ _ _=>?_;refine R.tZ b rfl (by omega) fun _ _ _=>?_;refine J.set af 0 rfl (fun _=>rfl) rfl b rfl (by omega) (c[i]'(by omega)) rfl rfl rfl fun h3 H3=>⟨trivial,?_⟩
   refine H3.set af 0 rfl (fun _=>rfl) rfl i rfl (by simp;omega) (c[b]'(by omega)) rfl rfl rfl fun W H4=>⟨trivial,?_⟩
   have o:aa B u W (nR a ((c.set b (c[i]'(by omega))).set i (c[b]'(by omega))) (iR l b i)):=by
    have:=H4.aeN (b+1) (i+1) (A:=an aC (c[b]'(by omega)) 1 aB l[b]) (A2:=an aC (c[i]'(by omega)) 1 aB l[i]) (kl w b K) (kl w i X);show aa B u W (an aH a 1 bQ _::bT aC 1 aB _ _);rw[<-Up w b i K X];exact this
   obtain⟨j,D⟩:∃j,j=(c.set b (c[i]'(by omega))).set i (c[b]'(by omega)):=⟨_,rfl⟩
   rw[<-D]at o;have ao:j.length=l.length:=by rw[D];simp;omega
   obtain⟨g,y⟩:∃g,g=iR l b i:=⟨_,rfl⟩
   have z:bh n g:=by rw[y];exact GB x.1 K X
   have U:g.length=l.length:=by rw[y];exact kX _ _ _
   rw[<-y]at o;have q:j.length=g.length:=by omega
   have k:b<g.length:=by omega
   refine aX ?_;have gt:=ph (a:=a) q b k;have lt:g[b].length=n:=z _ (qg _);have V:=o.seq 0 rfl (fun _=>rfl);refine V.tZ b rfl (by omega) fun ah G _=>?_;have E:=o.seq (b+1) gt (fun _=>rfl);refine E.bz bp rfl (by omega) _ rfl ?_;refine V.tZ b rfl (by omega) fun ap T _=>?_;have S:gI W f:=P.ai o.ai M;refine(adJ f _ W S).mono ?_;rintro v h5 ⟨rfl,rfl⟩;refine⟨_,rfl,⟨T,G,trivial⟩,?_⟩;refine(YY f _ _ _ h5 S E (by omega)).mono ?_;rintro v h6 ⟨r,rfl,R6⟩;refine⟨r,rfl,⟨sA G R6.ai,trivial⟩,?_⟩;have H6:=o.comp R6;dsimp only;refine H6.set af 0 rfl (fun _=>rfl) rfl b rfl (by omega) r rfl rfl rfl fun h7 H7=>⟨trivial,?_⟩
   have ad:g[b]=az g b:=(bu k).symm;have Y:(g[b])[bp]'(by omega)=aN (az g b) bp:=by rw[Uo (by rw[bu k];omega)];simp only[bu k]
   have ab:aa B u h7 (nR a (j.set b r) (jF b bp g)):=by
    have h8:aa B u h7 ((an aH a 1 bQ (j.set b r)::bT aC 1 aB j g)++[an aC r 1 aB (scaleB (Gf.inv ((g[b])[bp]'(by omega))) g[b])]):=H7;have h9:=h8.agw (b+1) (by simp[Vl q];omega);rw[Y,ad]at h9;show aa B u h7 (an aH a 1 bQ _::bT aC 1 aB _ (g.set b _));rw[<-lR q];exact h9
   have I:(jF b bp g).length=g.length:=oy _ _ _;refine abz P M (by simp;omega) (AX z k) L hn (by omega) (by omega) ab fun h8 H8=>?_;have p:iS (b,l) bp=(b+1,ez b bp (jF b bp g) l.length):=by
    rw[iS];dsimp only;rw[hb,y]
   refine⟨(j.set b r,bp+1),?_,⟨by dsimp only;omega,by simp;omega,?_⟩,by dsimp only;omega⟩
   ·dsimp only;rw[d,p,wrap_small _ (by omega) (by omega),wrap_small _ (by omega) (by omega)];rfl
   ·dsimp only;rw[d,p];rw[I,U]at H8;exact H8
 ·have:bp=cF:=by omega
  subst this;exact⟨c,by rw[<-s],N,by rw[<-s];exact J⟩
theorem Ws(f:Addr)(a:Sl)(m:aS)(n:Nat)(h:Heap)(s:gI h f)(u:gr h a 1 aB m)(i:bh n m)(q:n<=64)(k:m.length<=2^30):
  ae xl RD #[vZ (some f),vY a.ptr a.len a.cap] h fun v h'=>∃(r:Sl) (rs:List Sl),v=vY r.ptr r.len r.cap/\r.len=cL m/\rs.length=m.length/\r.len<=m.length/\Sp h h' (nR ⟨r.ptr,m.length,r.cap⟩ rs (bF m (fM m)).2):=by
 refine Pd (some f) a ?_;unfold HT;refine(mY a m n h u i q k).mono ?_;rintro v B ⟨rfl,rfl⟩;refine⟨_,rfl,bi (fun e=>by cases e) fun _=>?_⟩;refine(Ah a m n B u i q k).mono ?_;rintro v A ⟨r,rs,rfl,z,y⟩;refine⟨r,rfl,(uh f A).mono ?_⟩;rintro v h3 ⟨rfl,rfl⟩;refine⟨some f,rfl,(sw r m h3 (y.Sz z (fun _=>rfl))).mono ?_⟩;rintro v F ⟨rfl,rfl⟩;have D:fM m<=n:=by
  cases m with
  |nil=>simp[fM,az]
  |cons x t=>rw[fM,bu (by simp)];exact Nat.le_of_eq (i _ (by simp))
 refine⟨_,rfl,(Cr s s.lt z i D q k y).mono ?_⟩;rintro v E ⟨j,rfl,g,o⟩;have b:=DU m (fM m);rw[(ik i _).2]at b;have w:=(o.own 0 rfl).cap;have d:=(o.own 0 rfl).len;refine⟨_,rfl,⟨zO _,yI.2 (show(bF m (fM m)).1<=r.cap by omega)⟩,⟨r.ptr,(bF m (fM m)).1,r.cap⟩,j,by simp,rfl,g,b,?_⟩;have:r=⟨r.ptr,m.length,r.cap⟩:=by
  obtain⟨p,l,c⟩:=r;simp only at d⊢;rw[<-g,<-d]
 rw[<-this];exact o
theorem abA(f:Addr)(a:Sl)(m:aS)(n:Nat)(h:Heap)(b:gI h f)(c:gr h a 1 aB m)(d:bh n m)(j:n<=64)(i:m.length<=2^30):
  ae xl VX #[vZ (some f),vY a.ptr a.len a.cap] h fun v h'=>v=vX xh (cL m)/\Sp h h' []:=by
 refine TX (some f) a ?_;unfold MN;refine(Ws f a m n h b c d j i).mono ?_;rintro v k ⟨r,rs,rfl,e,_,_,g⟩;exact⟨r,rfl,by rw[e],.zip g.ai⟩
theorem KZ(p:Pm)(seed:Int)(ids:Sl)(l:List Int)(h:Heap)(t:Rd h ids 1 aD l)(o:l.length<=2^29):ae xl OS #[kA p,vX xj seed,vY ids.ptr ids.len ids.cap] h fun v h'=>v=vX xh (LM p seed l)/\Sp h h' []:=by
 refine MD p seed ids ?_;unfold FA;refine(Sp.refl h).boxed fun a j g=>?_;refine⟨p,(g.box 0 rfl).aO _ rfl,(uX j).mono ?_⟩;rintro v i ⟨f,rfl,s⟩;have c:=g.comp s;have d:=c.box 0 rfl;refine⟨some f,rfl,⟨d.cell0 rfl,d.cell rfl,d.cell rfl,trivial⟩,?_⟩;refine(JX p seed ids l i (Seq.up t c.ai) (by omega)).mono ?_;rintro v h3 ⟨r,rfl,m⟩;have b:=c.comp m;refine⟨r,rfl,trivial,?_⟩;have q:=adg p seed l;have e:(bZ p).toNat<=64:=by
  unfold bZ;split
  ·rename_i k;have:=(bK p).1 k;omega
  ·omega
 refine(abA f r _ _ h3 (b.box 1 rfl) (b.Jz 2 rfl) (mJ p seed l) e (by omega)).mono ?_;rintro v u ⟨rfl,n⟩;exact⟨_,rfl,trivial,rfl,.zip (b.comp n).ai⟩
theorem Qq(p:Pm)(seed:Int)(ids:Sl)(l:List Int)(h:Heap)(q:Rd h ids 1 aD l)(d:l.length<=2^29):ae xl OJ #[kA p,vX xj seed,vY ids.ptr ids.len ids.cap] h fun v h'=>v=xf (fR p seed l)/\Sp h h' []:=by
 refine Ms p seed ids ?_;unfold Fu;refine(Sp.refl h).boxed fun a k g=>?_;refine⟨p,(g.box 0 rfl).aO _ rfl,(dS p k).mono ?_⟩;rintro v j ⟨rfl,o⟩;have c:=g.comp o;refine⟨_,rfl,trivial,bs (fun e=>?_) (fun e=>⟨trivial,trivial,by rw[fR,e];rfl,.zip c.ai⟩)⟩;have i:=c.box 0 rfl;refine⟨p,i.aO _ rfl,p,i.aO _ rfl,(KZ p seed ids l j (Seq.up q c.ai) d).mono ?_⟩;rintro v h3 ⟨rfl,m⟩;have f:=c.comp m;have b:=f.box 0 rfl;refine⟨_,rfl,⟨b.cell0 rfl,b.cell rfl,b.cell rfl,trivial⟩,(lP p h3).mono ?_⟩;rintro v r ⟨rfl,n⟩;exact⟨_,rfl,trivial,by rw[fR,e];rfl,.zip (f.comp n).ai⟩
theorem Nj(p:Pm)(seed:Int)(h:Heap):ae xl My #[kA p,vX xj seed] h fun v h'=>v=xf (fR p seed (eI p))/\Sp h h' []:=by
 refine KD p seed ?_;unfold Dc;refine(Sp.refl h).boxed fun a j e=>?_;have d:=e.box 0 rfl;refine⟨p,d.aO _ rfl,p,d.aO _ rfl,(Ni p j).mono ?_⟩;rintro v i ⟨r,rfl,f⟩;have c:=e.comp f;have b:=c.box 0 rfl;refine⟨r,rfl,⟨b.cell0 rfl,b.cell rfl,b.cell rfl,trivial⟩,(Qq p seed r _ i (c.seq 1 rfl (fun _=>rfl)) (by rw[gu];omega)).mono ?_⟩;rintro v h3 ⟨rfl,g⟩;exact⟨_,rfl,trivial,rfl,.zip (c.comp g).ai⟩
theorem adO(p:Pm)(o b:Int)(h:Heap):ae xl TE #[kA p,vX xh o,vX xh b] h fun v h'=>
  v=.tuple #[vX xh (((rm p o b).getD 0:Nat):Int),xf (rm p o b).isSome]/\Sp h h' []:=by
 refine Rf p o b ?_;unfold JK;refine(Sp.refl h).boxed fun u z r=>?_;have r:Sp h z [aq u aP [vX xh p.1,vX xh p.2.1,vX xh p.2.2]]:=r;refine aw (fun i:Nat=>(i:Int)) (fun i h'=>i<=16/\(∀k,k<i->Ng p o b k=false)/\Sp h h' [aq u aP [vX xh p.1,vX xh p.2.1,vX xh p.2.2]]) (fun i=>16-i) 0 rfl ⟨by omega,fun k f=>absurd f (Nat.not_lt_zero k),r⟩ ?_;rintro i y ⟨D,c,q⟩;refine ak (fun e=>?_) fun e=>?_
 ·have A:i<16:=by omega
  have a:=q.box 0 rfl;refine⟨p,a.aO _ rfl,(uV _ _ _ y).mono ?_⟩;rintro _ h3 ⟨rfl,rfl⟩;refine⟨_,rfl,⟨a.cell0 rfl,a.cell rfl,a.cell rfl,trivial⟩,(Nj p _ h3).mono ?_⟩;rintro _ E ⟨rfl,B⟩;have t:=q.up B.ai;refine⟨_,rfl,trivial,bs (fun g=>?_) fun g=>?_⟩
  ·have m:rm p o b=some i:=by
    unfold rm;refine wL.2 ⟨g,qC i,(qC (15-i)).map (·+(i+1)),?_,fun k f=>?_⟩
    ·apply zK;intro j;by_cases w:j<i
     ·rw[qn (by simpa using w),zt (by omega),zt w]
     ·rw[qj (by simp;omega),zw];by_cases n:j=i
      ·subst n;rw[zj,zt (by omega)];rfl
      ·obtain⟨d,x⟩:∃d,j=i+(d+1):=⟨j-i-1,by omega⟩
       subst x;rw[zn,qy,qP];by_cases s:d<15-i
       ·rw[zt s,zt (by omega)];simp;omega
       ·rw[zf (by simp;omega),zf (by simp;omega)];rfl
    ·rw[c k (qF.1 f)];rfl
   rw[m];exact⟨rfl,.zip t.ai⟩
  ·refine⟨i+1,by rw[Go.Vc.wrap_small _ (by omega) (by omega)];rfl,⟨by omega,fun k f=>?_,t⟩,by omega⟩;by_cases l:k<i
   ·exact c k l
   ·have:k=i:=by omega
    subst this;exact g
 ·have m:rm p o b=none:=by
   unfold rm;rw[z8];intro k f;rw[c k (by have:=qF.1 f;omega)];simp
  rw[m];exact⟨rfl,.zip q.ai⟩
theorem YZ(p:Pm)(o:Int)(n:Nat)(h:Heap)(J:n<=2^30):ae xl Ow #[kA p,vX xh o,vX xh n] h fun v h'=>
  (cz p o n=none->v=.tuple #[vY none 0 0,xf false]/\Sp h h' [])/\
  (∀l,cz p o n=some l->∃r:Sl,v=.tuple #[vY r.ptr r.len r.cap,xf true]/\Sp h h' [an aT r 1 aD l]):=by
 refine Md p o n ?_;unfold Fh;refine(Sp.refl h).boxed fun w y k=>?_;have k:Sp h y [an aT ⟨none,0,0⟩ 1 aD [],aq w aP [vX xh p.1,vX xh p.2.1,vX xh p.2.2]]:=(k.nil aT 1 aD).bO [1,0];refine aw (fun t:Sl×Nat×List Int=>(t.1,(t.2.1:Int))) (fun t h'=>t.2.1<=n/\cz p o t.2.1=some t.2.2/\Sp h h' [an aT t.1 1 aD t.2.2,aq w aP [vX xh p.1,vX xh p.2.1,vX xh p.2.2]]) (fun t=>n-t.2.1) (⟨none,0,0⟩,0,[]) rfl ⟨by simp,rfl,k⟩ ?_;rintro⟨s,i,l⟩ z ⟨G,c,f⟩;dsimp only at*;have x:=im c;have b:∀j,rm p o i=none->j<=n-(i+1)->cz p o (i+1+j)=none:=fun j d=>by
  induction j with
  |zero=>intro _;show cz p o (i+1)=none;unfold cz;rw[c,d];rfl
  |succ j ih=>intro I;show cz p o ((i+1+j)+1)=none;unfold cz;rw[ih (by omega)];rfl
 refine ak (fun e=>?_) fun e=>?_
 ·have A:i<n:=by omega
  refine⟨p,(f.box 1 rfl).aO _ rfl,(adO p o i z).mono ?_⟩;rintro _ h3 ⟨rfl,B⟩;have u:=f.up B.ai;refine⟨(_,_),rfl,bi (fun g=>?_) fun g=>?_⟩
  ·have a:cz p o n=none:=by
    have:=b (n-(i+1)) (Option.isSome_eq_false_iff.1 g|>Option.isNone_iff_eq_none.1) (ql _);rw[show i+1+(n-(i+1))=n by omega]at this;exact this
   rw[a];exact⟨fun _=>⟨rfl,.zip u.ai⟩,fun l h=>by cases h⟩
  ·obtain⟨t,q⟩:∃t,rm p o i=some t:=vj.1 g;rw[q];refine u.push af 0 rfl me rfl (by decide) (fun _=>rfl) jp (t:Int) rfl (by decide) (by omega) fun D H E=>?_;refine⟨(D,i+1,l++[(t:Int)]),by dsimp only;rw[Go.Vc.wrap_small _ (by omega) (by omega)];rfl,⟨by dsimp only;omega,?_,E⟩,by dsimp only;omega⟩;show cz p o (i+1)=_;unfold cz;rw[c,q];rfl
 ·have m:i=n:=by omega
  subst m;rw[c];exact⟨fun h=>(by cases h),fun F h=>(by injection h with h;subst h;exact⟨s,rfl,f.bO [0]⟩)⟩
end Go.Proofs.YtdhamoojccmbdaaGreatDoor
namespace Wl
open Go
def ro(m:aE)(l:List (List UInt8)):List (List UInt8):=(fQ m l).map dN
def ja(m:aE)(l:List (List UInt8)):List (List UInt8):=be m++ro m l
def gg(d:bC)(a:Nat)(n:Int):Bool:=decide (max n 0<=(d.room:Int)-a)
def nB(m:aE)(d:bC)(n:Int):Bool:=!d.lost&&(gg d d.l.length n||gg d (ja m d.l).length n)
def iF(m:aE)(w:Pow)(d:bC)(n:Int):Int×Pow×bC:=
 if d.lost then(5,w,d)else if !nB m d n then(7,w,d)else if gg d d.l.length n then(0,w,d)else d.rewrite w (ja m d.l)
theorem adP(l:List cT):(sa l).length<=l.length:=by
 unfold sa;rw[qx];exact q9 (qY _ _) (by simp)
theorem pi(m:aE)(l:List (List UInt8)):(fQ m l).length<=l.length:=by
 unfold fQ;refine q9 (adP _) ?_;rw[wx];exact List.length_filterMap_le _ _
theorem EH(m:aE)(l:List (List UInt8)):(ro m l).length<=l.length:=by unfold ro;rw[qx];exact pi m l
end Wl
namespace Go.Proofs.YtdhamoojccmbdaaGreatDoor
open Go Go.Vc Go.Proofs Wl
section
variable {B:aA} {h0 h:Heap} {As:List HP} {a pw:Addr} {d:bC} {w:Pow}
theorem gm.rewrite{l:List (List UInt8)}(h:gm d):gm (d.rewrite w l).2.2:=by
 unfold bC.rewrite;split
 ·exact h
 ·rename_i b;split
  ·exact h
  ·split
   ·exact h
   ·rename_i e;have a:∀c∈l,c.length=64:=by simpa using b
    split
    ·exact h
    ·split
     ·exact⟨w7 _,by dsimp only;omega,h.room,a,w7 _,by simp⟩
     ·exact⟨h.wait,h.len,h.room,h.cell,by dsimp only;omega,a⟩
theorem Uq(x:Sl)(l:List (List UInt8))(H:aa B h0 h (mV pw a d::dR bD pw w::As))(N:St B h0 As fun h=>gr h x 1 aB l)(P:l.length<=2^20)(q:∀c∈l,c.length<=2^20):
  ae xl BU #[vZ (some a),vY x.ptr x.len x.cap] h fun v h'=>v=vX xh (d.rewrite w l).1/\aa B h0 h' (mV pw a (d.rewrite w l).2.2::dR bD pw (d.rewrite w l).2.1::As):=by
 refine AE (some a) x ?_;unfold oS;have O:=N.at [_,_] H;have Z:=O.len;have m:=gm.rewrite (w:=w) (l:=l) (And.left (id H).uT);have j:∀(e:Int),d.rewrite w l=(e,w,d)->(Value.int .i64 e=vX xh (d.rewrite w l).1/\aa B h0 h (mV pw a (d.rewrite w l).2.2::dR bD pw (d.rewrite w l).2.1::As)):=fun e W=>by
  rw[W];exact⟨rfl,H⟩
 refine aw (fun i:Nat=>(i:Int)) (fun i h'=>i<=l.length/\(∀c∈l.take i,c.length=64)/\h'=h) (fun i=>l.length-i) 0 rfl ⟨by omega,by simp,rfl⟩ ?_;rintro i h1 ⟨hi,f,rfl⟩;refine ak (fun e=>?_) fun e=>?_
 ·have n:i<l.length:=by omega
  refine O.get i rfl n fun r V=>?_;have X:=V.len;refine ci (fun T=>j 1 ?_) fun T=>?_
  ·unfold bC.rewrite;rw[if_pos];rw[wK,yh];exact⟨l[i],qg n,by simp;omega⟩
  ·refine⟨i+1,by rw[Go.Vc.wrap_small _ (by omega) (by omega)];rfl,⟨by omega,fun c k=>?_,rfl⟩,by omega⟩;rw[aJ _ _ n]at k;rcases qB.1 k with k|k
   ·exact f c k
   ·rw[qH.1 k];omega
 have f:∀c∈l,c.length=64:=by rw[qi (by omega)]at f;exact f
 have p:(!l.all fun b=>decide (b.length=64))=false:=by
  rw[Bool.not_eq_false',qM];exact fun c k=>decide_eq_true (f c k)
 have z:d.rewrite w l=(if d.lost then(5,w,d)else if d.room<l.length then(7,w,d)else if w.off then(14,w,d)else if w.step.1 then(0,w.step.2,{d with l:=l,wait:=0,laid:=[],has:=false})else(14,w.step.2,{d with laid:=l,has:=true})):=by
  unfold bC.rewrite;rw[p];rfl
 obtain⟨ok,s,b,J⟩:=H.uT;have A:=J.box 0 rfl;refine aX (aX (bs (fun e=>by cases e) fun _=>⟨a,rfl,d.lost,A.cell rfl,bs (fun e=>j 5 (by rw[z,if_pos e])) fun g=>?_⟩));refine⟨a,rfl,(d.room:Int),A.cell rfl,ak (fun e=>j 7 (by rw[z,if_neg (by simp[g]),if_pos (by omega)])) fun K=>?_⟩;obtain⟨Y,S,F⟩:=(J.bo 4 [3,0,1,2]).Dt;refine⟨a,rfl,some pw,A.cell0 rfl,(Ja Y (F.box 0 rfl)).mono ?_⟩;rintro _ h2 ⟨rfl,rfl⟩;refine⟨_,rfl,bi (fun e=>j 14 ?_) fun u=>?_⟩
 ·rw[z,if_neg (by simp[g]),if_neg (by omega),if_pos (by simpa using e)]
 have o:w.off=false:=by simpa using u
 have y:d.rewrite w l=(if w.step.1 then(0,w.step.2,{d with l:=l,wait:=0,laid:=[],has:=false})else(14,w.step.2,{d with laid:=l,has:=true})):=by
  rw[z,if_neg (by simp[g]),if_neg (by omega),if_neg (by simp[o])]
 refine⟨a,rfl,some pw,A.cell0 rfl,(HV (J.bo 4 [3,0,1,2])).mono ?_⟩;rintro _ M ⟨rfl,L⟩;have t:=N.at [_,_,_,_] L;refine⟨_,rfl,bi (fun e=>?_) fun e=>?_⟩
 ·rw[y,if_neg (by simp[e])]at m⊢;refine(KR x l M t P q).mono ?_;rintro _ R ⟨r,rfl,E⟩;have D:=(L.dc E).bo 5 [2,3,0,1];refine⟨r,rfl,a,rfl,D.store af 0 rfl rfl 4 [vY r.ptr r.len r.cap] rfl rfl rfl (by simp[gS]) fun Q I=>?_⟩;refine⟨a,rfl,I.store af 0 rfl rfl 5 [xf true] rfl rfl rfl (by simp[gS]) fun h8 G=>⟨rfl,?_⟩⟩;exact aa.HW (s:=s) (b:=r) m G
 ·rw[y,if_pos e]at m⊢;refine(KR x l M t P q).mono ?_;rintro _ R ⟨r,rfl,E⟩;have D:=(L.dc E).bo 5 [2,0,4,1];refine⟨r,rfl,a,rfl,D.store af 0 rfl rfl 2 [vY r.ptr r.len r.cap] rfl rfl rfl (by simp[gS]) fun Q I=>?_⟩;refine⟨a,rfl,I.store af 0 rfl rfl 3 [vX xh 0] rfl rfl rfl (by simp[gS]) fun h8 G=>?_⟩;refine(HX (d:={d with l:=l,wait:=0}) r b _ G ⟨w7 _,by dsimp only;omega,ok.room,f,ok.laid,ok.cellL⟩ rfl).mono ?_;rintro _ h9 ⟨rfl,U⟩;exact⟨0,rfl,rfl,U⟩
theorem Ct(s b:Sl)(c:Nat)(n:Int)(e:cy h a cE (gS pw d s b))(g:d.room<=512)(f:c<=2^40):ae xl OR #[vZ (some a),vX xh c,vX xh n] h fun v h'=>v=xf (gg d c n)/\h'=h:=by
 refine MC (some a) c n ?_;unfold Fz;refine(abf s b e).mono ?_;rintro _ _ ⟨rfl,rfl⟩;refine⟨_,rfl,?_,rfl⟩;rw[Go.Vc.wrap_small ((d.room:Int)-c) (by omega) (by omega)];unfold gg;congr 1;rw[decide_eq_decide];split<;>omega
theorem Za(s b:Sl)(x:cv)(m:aE)(E:cy h a cE (gS pw d s b))(T:gr h s 1 aB d.l)(ok:gm d)(R:ff h x m)(O:dp m):
  ae xl Ri #[vZ (some a),go x] h fun v h'=>∃r:Sl,v=vY r.ptr r.len r.cap/\Sp h h' [dV r (ro m d.l)]:=by
 refine OF (some a) x ?_;unfold Hq;have D:=ok.len;have y:=ok.room;refine(Sp.refl h).boxed fun Y J f=>?_;refine⟨x,(f.box 0 rfl).aO _ rfl,(Ae a pw d s b x m J (E.ai f.ai E.lt) (T.up f.ai) ok (R.up f.ai) O).mono ?_⟩;rintro _ V ⟨r,c,rfl,P⟩;have q:=(f.dc P).Gy aH aC 1 aB;refine⟨r,rfl,?_⟩;have w:=pi m d.l;obtain⟨L,F⟩:∃L,L=fQ m d.l:=⟨_,rfl⟩
 have z:(ro m d.l)=L.map dN:=by unfold ro;rw[F]
 rw[<-F]at q w;rw[z];have B:=q.dO 1 rfl;have K:=B.2.1;have p:=B.1.len;refine aw (fun t:Sl×Nat=>(t.1,(t.2:Int))) (fun t h'=>t.2<=L.length/\Sp h h' [dV t.1 ((L.map dN).take t.2),cj dT 8 bB r c L]) (fun t=>L.length-t.2) (⟨none,0,0⟩,0) rfl ⟨by simp,q.bO [0,1]⟩ ?_;rintro⟨o,i⟩ h3 ⟨U,k⟩;dsimp only at*;have I:=k.dO 1 rfl;refine ak (fun e=>?_) (fun e=>?_)
 ·have n:i<L.length:=by omega
  refine I.1.dI (g:=bB) i rfl (by omega) (c[i]'(by omega)) rfl ?_;refine k.alloc af rfl fun Q X N=>?_;refine N.storeAll af 2 rfl rfl (bB (c[i]'(by omega))) rfl rfl rfl rfl fun A j=>?_;have j:Sp h A [dV o ((L.map dN).take i),cj dT 8 bB r c L,aq Q bc (bB (c[i]'(by omega)))]:=j;refine⟨c[i]'(by omega),(j.box 2 rfl).aO _ rfl,(Cp _ L[i] A (Fix.row (j.dO 1 rfl) n)).mono ?_⟩;rintro _ W ⟨u,rfl,G⟩;have H:=(j.dc G).bo 3 [1,0,2];refine⟨u,rfl,H.IK af fJ (by simp;omega) fun S h8 M=>?_⟩;refine⟨(S,i+1),by dsimp only;rw[Go.Vc.wrap_small _ (by omega) (by omega)];rfl,⟨by dsimp only;omega,?_⟩,by dsimp only;omega⟩;dsimp only;rw[aJ _ _ (show i<(L.map dN).length by simp;omega),wo];exact M.bO [0,1]
 ·rw[qi (by simp;omega)]at k;exact⟨o,rfl,k.bO [0]⟩
end
section
variable {B:aA} {h0 h:Heap} {As:List HP} {a pw:Addr} {d:bC} {w:Pow}
theorem Wt{m:aE}{l:List (List UInt8)}{c:List UInt8}(h:c∈ro m l):c.length<=64:=by
 unfold ro at h;obtain⟨r,_,rfl⟩:=qu.1 h;unfold dN;split
 ·rename_i a;refine Nat.le_of_eq (nY (by decide) (by decide) ?_);have:=oJ a;omega
 ·simp
theorem Qr(s b:Sl)(x:cv)(m:aE)(n:cy h a cE (gS pw d s b))(D:gr h s 1 aB d.l)(ok:gm d)(o:ff h x m)(g:dp m):
  ae xl TG #[vZ (some a),go x] h fun v h'=>∃r:Sl,v=vY r.ptr r.len r.cap/\Sp h h' [dV r (ja m d.l)]:=by
 refine Rh (some a) x ?_;unfold JL;have k:=ok.len;have i:=ok.room;refine(Sp.refl h).boxed fun B j e=>?_;have e:Sp h j [aq B aF (aZ x)]:=e;refine⟨x,(e.box 0 rfl).aO _ rfl,x,(e.box 0 rfl).aO _ rfl,(ny x m j (o.up e.ai) g).mono ?_⟩;rintro _ E ⟨r,rfl,A⟩;have f:=e.dc A;have c:=f.box 1 rfl;refine⟨r,rfl,⟨c.cell0 rfl,c.cell rfl,c.cell rfl,c.cell rfl,c.cell rfl,c.cell rfl,c.cell rfl,c.cell rfl,trivial⟩,(Za s b x m (n.ai f.ai n.lt) (D.up f.ai) ok (o.up f.ai) g).mono ?_⟩;rintro _ h3 ⟨u,rfl,w⟩;have p:=(f.dc w).bo 2 [1,0];have y:=jZ m g;have q:=EH m d.l;refine⟨u,rfl,trivial,p.afw af fJ ⟨_,_,rfl,rfl⟩ (by omega) fun z F t=>?_⟩;exact⟨trivial,z,rfl,t.bO [0]⟩
theorem Qs(s b:Sl)(x:cv)(m:aE)(n:Int)(u:cy h a cE (gS pw d s b))(D:gr h s 1 aB d.l)(i:s.len=d.l.length)(ok:gm d)(B:ff h x m)(t:dp m):
  ae xl Ho #[vZ (some a),go x,vX xh n] h fun v h'=>v=xf (nB m d n)/\Sp h h' []:=by
 refine Fq (some a) x n ?_;unfold BZ;have q:=ok.len;have o:=ok.room;refine(Sp.refl h).boxed fun A w f=>?_;have f:Sp h w [aq A aF (aZ x)]:=f;have c:=u.ai f.ai u.lt;refine aX (bs (fun e=>by cases e) fun _=>(HY s b c).mono ?_);rintro _ _ ⟨rfl,rfl⟩;refine⟨_,rfl,bs (fun e=>⟨by unfold nB;rw[e];rfl,.zip f.ai⟩) fun e=>?_⟩;have p:nB m d n=(gg d d.l.length n||gg d (ja m d.l).length n):=by unfold nB;rw[e];rfl
 refine(Ql s b c i).mono ?_;rintro _ _ ⟨rfl,rfl⟩;refine⟨_,rfl,(Ct s b d.l.length n c ok.room (by omega)).mono ?_⟩;rintro _ _ ⟨rfl,rfl⟩;refine⟨_,rfl,bs (fun g=>⟨by rw[p,g];rfl,.zip f.ai⟩) fun g=>?_⟩;refine⟨x,(f.box 0 rfl).aO _ rfl,(Qr s b x m c (D.up f.ai) ok (B.up f.ai) t).mono ?_⟩;rintro _ E ⟨r,rfl,k⟩;have j:=(aa.DS k).1;have y:(ja m d.l).length<=4000:=by
  have:=jZ m t;have:=EH m d.l;unfold ja;rw[qw];omega
 have z:=f.dc k;refine⟨r,rfl,(Ct s b r.len n (c.ai k.ai c.lt) ok.room (by omega)).mono ?_⟩;rintro _ _ ⟨rfl,rfl⟩;exact⟨_,rfl,by rw[p,g,vi,j],.zip z.ai⟩
theorem Ur(x:cv)(n:Int)(h:Heap):ae xl Ho #[vZ none,go x,vX xh n] h fun v h'=>v=xf false/\Sp h h' []:=by
 refine Fq none x n ?_;unfold BZ;refine(Sp.refl h).boxed fun b c a=>?_;exact aX (bs (fun _=>⟨rfl,.zip a.ai⟩) fun e=>by cases e)
theorem abB(x:cv)(m:aE)(n:Int)(L:St B h0 As fun h=>ff h x m)(F:dp m)(H:aa B h0 h (mV pw a d::dR bD pw w::As)):
  ae xl Hp #[vZ (some a),go x,vX xh n] h fun v h'=>v=vX xh (iF m w d n).1/\aa B h0 h' (mV pw a (iF m w d n).2.2::dR bD pw (iF m w d n).2.1::As):=by
 refine Fs (some a) x n ?_;unfold Ca;refine(Sp.refl h).boxed fun R q J=>?_;have J:Sp h q [aq R aF (aZ x)]:=J;have o:=(H.dc J).bo 3 [1,2,0];have f:∀(e:Int) {h':Heap},aU (fun b=>b<q.size) q h'->iF m w d n=(e,w,d)->(Value.int .i64 e=vX xh (iF m w d n).1/\aa B h0 h' (mV pw a (iF m w d n).2.2::dR bD pw (iF m w d n).2.1::As)):=fun e {h'} N Q=>by
  rw[Q];exact⟨rfl,((o.up N).bo 3 [0,1])⟩
 obtain⟨ok,s,b,g⟩:=(id o).uT;have u:=g.box 0 rfl;have S:gr q s 1 aB d.l:=(g.bo 2 [1]).PG fun _=>rfl;have k:=(aa.DS (g.bo 2 [1])).1;have K:=ok.len;have I:=ok.room;refine aX (aX (bs (fun e=>by cases e) fun _=>(HY s b u).mono ?_));rintro _ _ ⟨rfl,rfl⟩;refine⟨_,rfl,bs (fun e=>f 5 (aU.refl _ _) (by unfold iF;rw[if_pos e])) fun e=>?_⟩;refine⟨x,(o.box 2 rfl).aO _ rfl,(Qs s b x m n u S k ok (L.at [_,_,_] o) F).mono ?_⟩;rintro _ T ⟨rfl,p⟩;have z:=g.up p.ai;have j:=u.ai p.ai u.lt;have E:=o.up p.ai;refine⟨_,rfl,bi (fun t=>f 7 p.ai (by unfold iF;rw[if_neg (by simp[e]),if_pos (by simp[t])])) fun t=>?_⟩;refine(Ql s b j k).mono ?_;rintro _ _ ⟨rfl,rfl⟩;refine⟨_,rfl,(Ct s b d.l.length n j ok.room (by omega)).mono ?_⟩;rintro _ _ ⟨rfl,rfl⟩;refine⟨_,rfl,bs (fun G=>f 0 p.ai (by unfold iF;rw[if_neg (by simp[e]),if_neg (by simp[t]),if_pos G])) fun G=>?_⟩;have em:iF m w d n=d.rewrite w (ja m d.l):=by unfold iF;rw[if_neg (by simp[e]),if_neg (by simp[t]),if_neg (by simp[G])]
 rw[em];have M:(ja m d.l).length<=4000:=by
  have:=jZ m F;have:=EH m d.l;unfold ja;rw[qw];omega
 have D:∀c∈ja m d.l,c.length<=64:=fun c i=>by
  unfold ja at i;rcases qB.1 i with i|i
  ·exact Nat.le_of_eq (DW i)
  ·exact Wt i
 refine⟨x,(E.box 2 rfl).aO _ rfl,(Qr s b x m j ((z.bo 2 [1]).PG fun _=>rfl) ok (L.at [_,_,_] E) F).mono ?_⟩;rintro _ h3 ⟨r,rfl,P⟩;obtain⟨rs,A⟩:=(E.dc P).adF fun _=>rfl;have A:=A.bo 4 [1,2,0];refine⟨r,rfl,(Uq r (ja m d.l) A (St.ij 0 rfl fun h' y=>?_) (by omega) fun c i=>q9 (D c i) (by decide)).mono ?_⟩
 ·exact⟨rs,y.1,y.2.1,y.2.2⟩
 rintro _ U ⟨rfl,O⟩;exact⟨_,rfl,rfl,O.bo 3 [0,1]⟩
end
section
variable {B:aA} {h0 h:Heap} {As:List HP} {a pw b:Addr} {x:cv} {offs:Int} {da:List (Option Addr)} {w:Pow} {ds:aW} {d:bC}
theorem aa.adQ(n:Nat)(g:n<64)(f:ds[n]?=some none)(H:aa B h0 h (bn bA a pw (aZ x) offs da w ds::mV pw b d::As)){K:Unit->Heap->Prop}
  (e:∀h',aa B h0 h' (bn bA a pw (aZ x) offs (da.set n (some b)) w (ds.set n (some d))::As)->K () h'):
  ac xl (qf Jg (vZ (some ((a.add 10).add n))) (vZ (some b))) h K:=by
 obtain⟨ok,j⟩:=Go.Vc.aa.Ad H;have i:(a.add 10).add n=a.add (10+n):=by unfold Addr.add;simp[yp]
 rw[i];refine j.storeAt af 0 rfl rfl rfl rfl rfl (by simp[ok.la];omega) fun h' c=>e h' ?_;rw[zB,abt ok.l8]at c;exact aa.afP ok g f c
end
end Go.Proofs.YtdhamoojccmbdaaGreatDoor
namespace Wl
open Go
theorem Dz(ds:aW)(n:Nat)(d:bC)(s:Int)(c:n<64)(b:ds.length=64):bG (lm ds (n:Int) d) s=if s=(n:Int)then some d else bG ds s:=by
 unfold bG lm;rw[qo];by_cases h:0<=s/\s<64
 ·rw[if_pos h,if_pos h,q8];by_cases a:s=(n:Int)
  ·subst a;rw[if_pos rfl,qo,if_pos rfl,if_pos (by omega)];rfl
  ·rw[if_neg a,if_neg (by omega)]
 ·rw[if_neg h,if_neg h,if_neg (by omega)]
theorem pj{ds:aW}{s:Int}{d:bC}(h:bG ds s=some d):∃n:Nat,s=(n:Int)/\n<64:=by
 unfold bG at h;by_cases a:0<=s/\s<64
 ·exact⟨s.toNat,by omega,by omega⟩
 ·rw[if_neg a]at h;cases h
structure Fit (ds:aW) (S Q:List Int):Prop where
 len:ds.length=64
 at_:∀s∈S,∃d,bG ds s=some d/\d.lost=false/\d.l.length+Q.count s<=d.room
theorem Wu{d:bC}{n:Nat}(w:Pow)(b:List UInt8)(a:d.lost=false)(g:d.l.length+(n+1)<=d.room)(f:b.length=64):
  ((d.append w b).1=0∨(d.append w b).1=14)/\(d.append w b).2.2.lost=false/\(d.append w b).2.2.l.length+n<=(d.append w b).2.2.room:=by
 unfold bC.append;rw[if_neg (by omega),if_neg (by simp[a]),if_neg (by omega)];by_cases c:w.off
 ·rw[if_pos c];exact⟨.inr rfl,a,by dsimp only;omega⟩
 ·rw[if_neg c];by_cases e:w.step.1
  ·rw[if_pos e];exact⟨.inl rfl,a,by simp;omega⟩
  ·rw[if_neg e];exact⟨.inr rfl,a,by simp;omega⟩
theorem abC{d:bC}(w:Pow)(a:d.lost=false):((d.sync w).1=0∨(d.sync w).1=14)/\(d.sync w).2.2.lost=false/\(d.sync w).2.2.l=d.l/\(d.sync w).2.2.room=d.room:=by
 unfold bC.sync;rw[if_neg (by simp[a])];by_cases b:w.step.1
 ·rw[if_pos b];exact⟨.inl rfl,a,rfl,rfl⟩
 ·rw[if_neg b];exact⟨.inr rfl,a,rfl,rfl⟩
theorem RH{ds:aW}{S Q:List Int}{x:Int}(w:Pow)(b:List UInt8)(F:Fit ds S (x::Q))(m:x∈S)(l:b.length=64):
  ((fk w ds x b).1=0∨(fk w ds x b).1=14)/\Fit (fk w ds x b).2.2 S Q:=by
 obtain⟨d,c,k,j⟩:=F.at_ x m;rw[List.count_cons_self]at j;obtain⟨n,rfl,q⟩:=pj c;have A:=Wu w b k (n:=Q.count (n:Int)) (by omega) l;have e:fk w ds (n:Int) b=((d.append w b).1,(d.append w b).2.1,lm ds (n:Int) (d.append w b).2.2):=by unfold fk;rw[c]
 rw[e];refine⟨A.1,by unfold lm;rw[zH];exact F.len,fun s p=>?_⟩;rw[Dz _ _ _ _ q F.len];by_cases a:s=(n:Int)
 ·subst a;rw[if_pos rfl];exact⟨_,rfl,A.2⟩
 ·rw[if_neg a];obtain⟨o,g,i,f⟩:=F.at_ s p;rw[List.count_cons_of_ne (fun h=>a h.symm)]at f;exact⟨o,g,i,f⟩
theorem Wv{ds:aW}{S:List Int}{x:Int}(w:Pow)(F:Fit ds S [])(j:x∈S):((gX w ds x).1=0∨(gX w ds x).1=14)/\Fit (gX w ds x).2.2 S []:=by
 obtain⟨d,b,g,f⟩:=F.at_ x j;obtain⟨n,rfl,l⟩:=pj b;obtain⟨h,A2,c,i⟩:=abC w g;have e:gX w ds (n:Int)=((d.sync w).1,(d.sync w).2.1,lm ds (n:Int) (d.sync w).2.2):=by unfold gX;rw[b]
 rw[e];refine⟨h,by unfold lm;rw[zH];exact F.len,fun s k=>?_⟩;rw[Dz _ _ _ _ l F.len];by_cases a:s=(n:Int)
 ·subst a;rw[if_pos rfl];exact⟨_,rfl,A2,by rw[c,i];exact f⟩
 ·rw[if_neg a];exact F.at_ s k
end Wl
namespace Go.Vc
open Go Wl Go.Proofs.YtdhamoojccmbdaaGreatDoor
theorem Pq(l:List Int)(k:Nat):(bj l k).Nodup:=by
 unfold bj;refine List.Pairwise.filter _ (w4.2 ?_);exact(yR (n:=k)).imp fun h=>by omega
theorem Zb{l:List Int}(h:(eS l).2=true):(eS l).1=bj l l.length/\l.length<=64/\∀n:Nat,l.getD n 0<=512:=by
 unfold eS at h⊢;by_cases a:l.all (eV · 0 512)=true
 ·rw[if_pos a]at h⊢;refine⟨rfl,by simp at h;exact h.1,fun n=>?_⟩;rw[qe];by_cases b:n<l.length
  ·rw[qd b];have:=qM.1 a _ (qg b);unfold eV at this;simp at this⊢;omega
  ·rw[zf (by omega)];simp
 ·rw[if_neg a]at h;cases h
theorem Us(l:List Int)(i n:Nat)(e:i<(bj l l.length).length)(g:(bj l l.length)[i]=(n:Int))(c:n<64):(gK l i)[n]?=some none:=by
 unfold gK;rw[qP,zt c,qN,if_neg];intro f;obtain⟨j,h,d⟩:=w8.1 f;have:=Gv (Pq l l.length) (a:=j) (b:=i) (by omega) e (by rw[d,g]);omega
theorem Cu(m:aE):∀S:List Int,(bx m S).length=S.length*(be m).length
 |[]=>by simp[bx]
 |n::S=>by
  have e:bx m (n::S)=(be m).map (fun c=>(n,c))++bx m S:=by unfold bx;rw[zl]
  rw[e,qw,qx,Cu m S,zb,zJ,Nat.add_comm]
theorem Nk(p:Pm)(extra:Int)(l:List Int)(a:l.length<=64):dp (ce p extra l):=⟨by have:=rl l l.length;simp[ce];omega,by simp[ce],by simp[ce]⟩
end Go.Vc
namespace Go.Proofs.YtdhamoojccmbdaaGreatDoor
open Go Go.Vc Go.Proofs Wl
section
variable {B:aA} {h0 h:Heap} {As:List HP} {pw:Addr} {w:Pow}
theorem JY(p:Pm)(extra:Int)(s:Sl)(l:List Int)(hS:St B h0 As fun h=>Rd h s 1 aD l)(hl:l.length<=2^20)(H:aa B h0 h (dR bD pw w::As)):
  ae xl pO #[kA p,vX xh extra,vZ (some pw),vY s.ptr s.len s.cap] h fun v h'=>
   ((eT p extra w l).1≠0->v=.tuple #[vZ none,vX xh (eT p extra w l).1]/\aa B h0 h' As)/\
   ((eT p extra w l).1=0->∃(a:Addr) (x:cv) (da:List (Option Addr)),v=.tuple #[vZ (some a),vX xh 0]/\aa B h0 h' (bn bA a pw (aZ x) w.offs da (eT p extra w l).2.1 (eT p extra w l).2.2::dl x (ce p extra l)::As)):=by
 refine Kv p extra (some pw) s ?_;unfold CL;refine H.boxed fun a1 h1 H1=>?_;have H1:=H1.bM;refine(nT s l h1 (hS.at [_,_] H1) hl).mono ?_;rintro _ h2 ⟨r,rfl,R2⟩;have H2:=H1.dc R2;refine⟨(r,(eS l).2),rfl,?_⟩;have o:∀{h':Heap},aa B h0 h' As->((eS l).2&&(bJ p&&eV extra 0 16))=false->
   ((eT p extra w l).1≠0->Value.tuple #[vZ none,vX xh 1]=.tuple #[vZ none,vX xh (eT p extra w l).1]/\aa B h0 h' As)/\
   ((eT p extra w l).1=0->∃(a:Addr) (x:cv) (da:List (Option Addr)),Value.tuple #[vZ none,vX xh 1]=.tuple #[vZ (some a),vX xh 0]/\aa B h0 h' (bn bA a pw (aZ x) w.offs da (eT p extra w l).2.1 (eT p extra w l).2.2::dl x (ce p extra l)::As)):=fun{h'} H' hc=>by
  have e:eT p extra w l=(1,w,[]):=by unfold eT;rw[hc];rfl
  rw[e];exact⟨fun _=>⟨rfl,H'⟩,fun h=>absurd h (show¬(1:Int)=0 by decide)⟩
 refine aX (bi (fun e=>o H2.rest.rest.rest (by rw[e];rfl)) fun e=>?_);have ep:(eS l).2=true:=by simpa using e
 obtain⟨ay,A,L⟩:=Zb ep;refine⟨p,(H2.box 1 rfl).aO _ rfl,(dS p h2).mono ?_⟩;rintro _ h3 ⟨rfl,R3⟩;have E:aa B h0 h3 (an aT r 1 aD (eS l).1::aq a1 aP [vX xh p.1,vX xh p.2.1,vX xh p.2.2]::dR bD pw w::As):=by
  have:=H2.comp R3;rw[qQ]at this;exact this
 refine⟨_,rfl,bi (fun e2=>o E.rest.rest.rest (by rw[e2];simp)) fun e2=>?_⟩;have em:bJ p=true:=by simpa using e2
 refine ak (fun e3=>o E.rest.rest.rest (by unfold eV;simp;omega)) fun e3=>ak (fun e4=>o E.rest.rest.rest (by unfold eV;simp;omega)) fun e4=>bs (fun e5=>by cases e5) fun _=>?_;rw[ay]at E;refine aX ⟨p,(E.box 1 rfl).aO _ rfl,?_⟩;obtain⟨lw,b1,ax⟩:=(E.bo 3 [2,1,0]).Dt;refine(Qj lw (ax.box 0 rfl)).mono ?_;rintro _ h4 ⟨rfl,rfl⟩;have G:=E.box 1 rfl;refine⟨_,rfl,⟨G.cell0 rfl,G.cell rfl,G.cell rfl,trivial⟩,?_⟩;obtain⟨m,O⟩:∃m,m=ce p extra l:=⟨_,rfl⟩
 refine⟨_,abs (1,0,p.1,p.2.1,p.2.2,extra,r,⟨none,0,0⟩) pw w.offs,?_⟩;refine E.boxed fun a9 h6 g=>?_;obtain⟨x,hx⟩:∃x:cv,x=(1,0,p.1,p.2.1,p.2.2,extra,r,⟨none,0,0⟩):=⟨_,rfl⟩
 rw[<-hx]at g;have K:(Value.agg (dF (aZ x) pw w.offs (qh 64 none)).toArray).cells.toList=dF (aZ x) pw w.offs (qh 64 none):=by simp[Value.cells]
 rw[K]at g;have g:=g.bM;have I:=g.box 2 rfl;refine⟨⟨I.cell0 rfl,I.cell rfl,I.cell rfl,trivial⟩,?_⟩;have g:aa B h0 h6 (aq a9 fS (dF (aZ x) pw w.offs (qh 64 none))::dR bD pw w::an aT r 1 aD (bj l l.length)::As):=g.bo 4 [0,3,1];have g:=aa.abr (k:=bA) (h8:=by simp) g;obtain⟨P,j⟩:∃P,P=bj l l.length:=⟨_,rfl⟩
 rw[<-j]at g;have hz:dp m:=O▸Nk p extra l A;have ap:P.length<=64:=by rw[j];exact q9 (rl _ _) A
 have ab:∀{h':Heap} {Bs:List HP} {X:HP},aa B h0 h' (X::an aT r 1 aD P::Bs)->ff h' x m:=fun{h' Bs X} H'=>by
  have hs:=H'.seq 1 rfl fun _=>rfl;have hc:=(H'.own 1 rfl).cap;subst hx;subst O;exact⟨rfl,rfl,rfl,rfl,by show Seq _ _ r 1 aD (bj l l.length);rw[<-j];exact hs,cO.nil _ _ _ _,hc,ql _⟩
 have Z:((eS l).2&&(bJ p&&eV extra 0 16))=true:=by
  rw[ep,em];unfold eV;simp;omega
 have ah:(P.any fun i=>decide (l.getD i.toNat 0<((be m).length:Int)))=true->eT p extra w l=(7,w,[]):=fun hh=>by
  unfold eT;rw[if_pos Z,<-j,<-O,if_pos hh]
 have T:(P.any fun i=>decide (l.getD i.toNat 0<((be m).length:Int)))=false->eT p extra w l=layAll (bx m P) w (gK l P.length):=fun hh=>by
  unfold eT;rw[if_pos Z,<-j,<-O,hh,if_neg (by decide)]
 have F:∀i (M:i<P.length),∃n:Nat,n<l.length/\P[i]=(n:Int)/\0<l.getD n 0:=by
  subst j;exact fun i M=>Wk l l.length i M
 refine aw (fun i:Nat=>(i:Int)) (fun i h'=>i<=P.length/\((P.take i).any fun i=>decide (l.getD i.toNat 0<((be m).length:Int)))=false/\aa B h0 h' (bn bA a9 pw (aZ x) w.offs (qh 64 none) w (qh 64 none)::an aT r 1 aD P::As)) (fun i=>P.length-i) 0 rfl ⟨by omega,by simp,g⟩ ?_;rintro i h7 ⟨M,f,D⟩;dsimp only at*;obtain⟨bb,a6⟩:=aa.cI D;have bq:r.len=P.length:=(D.own 1 rfl).len;refine ak (fun e5=>?_) (fun e5=>?_)
 ·have c:i<P.length:=by omega
  obtain⟨n,N,z,V⟩:=F i c;refine(D.seq 1 rfl fun _=>rfl).bz i rfl c (n:Int) (by rw[z];rfl) ?_;refine(hS.at [_,_] D).RT n rfl N (l.getD n 0) (by rw[getD_lt N];rfl) fun b3 Q=>?_;refine⟨a9,rfl,x,a6.aO _ (by rfl),(ny x m h7 (ab D) hz).mono ?_⟩;rintro _ h9 ⟨u,rfl,R9⟩;have H9:=D.dc R9;have bd:=(aa.DS H9).1;refine⟨u,rfl,kW R9.ai ⟨Q,trivial⟩,?_⟩;refine ak (fun e6=>?_) (fun e6=>?_)
  ·rw[ah (wm.2 ⟨P[i],qg c,by rw[z,qo];exact decide_eq_true (by omega)⟩)];exact⟨fun _=>⟨rfl,H9.rest.rest.rest⟩,fun h=>absurd h (show¬(7:Int)=0 by decide)⟩
  ·refine⟨i+1,by rw[Go.Vc.wrap_small _ (by omega) (by omega)];rfl,⟨by omega,?_,H9.rest⟩,by omega⟩;rw[aJ _ _ c,yX,f,vi,List.any_cons,List.any_nil,Bool.or_false,z,qo];exact decide_eq_false (by omega)
 ·have J:i=P.length:=by omega
  subst J;rw[qR]at f;have a5:=T f;rw[<-Um l]at D;refine aw (fun t:Nat×List (Option Addr)=>(t.1:Int)) (fun t h'=>t.1<=P.length/\aa B h0 h' (bn bA a9 pw (aZ x) w.offs t.2 w (gK l t.1)::an aT r 1 aD P::As)) (fun t=>P.length-t.1) (0,qh 64 none) rfl ⟨by simp,D⟩ ?_;rintro⟨i,da⟩ U ⟨M,d⟩;dsimp only at*;obtain⟨br,R⟩:=aa.cI d;refine ak (fun e6=>?_) (fun e6=>?_)
  ·have c:i<P.length:=by omega
   obtain⟨n,N,z,V⟩:=F i c;have a8:=L n;refine(d.seq 1 rfl fun _=>rfl).bz i rfl c (n:Int) (by rw[z];rfl) ?_;refine(hS.at [_,_] d).bz n rfl N (l.getD n 0) (by rw[getD_lt N];rfl) ?_;refine⟨a9,rfl,(YN (l.getD n 0) pw U).mono ?_⟩;rintro _ b2 ⟨Q1,_⟩;obtain⟨b,rfl,ao⟩:=Q1 (by omega);have a2:=(d.dc ao).bo 2 [1,0];refine⟨_,rfl,trivial,⟨by omega,by omega⟩,?_⟩;rw[qo,wJ];have W:i<(bj l l.length).length:=by rw[<-j];exact c
   have Y:(bj l l.length)[i]=(n:Int):=by rw[<-z];simp only[j]
   refine Go.Proofs.YtdhamoojccmbdaaGreatDoor.aa.adQ n (by omega) (Us l i n W Y (by omega)) a2 fun b0 am=>?_;refine⟨trivial,(i+1,da.set n (some b)),by dsimp only;rw[Go.Vc.wrap_small _ (by omega) (by omega)];rfl,⟨by dsimp only;omega,?_⟩,by dsimp only;omega⟩;dsimp only;rw[<-Un l i n W Y (by omega)];exact am
  ·have J:i=P.length:=by omega
   subst J;refine⟨a9,rfl,x,R.aO _ (by rfl),(JV x m r P U (ab d) hz (d.seq 1 rfl fun _=>rfl) (by omega)).mono ?_⟩;rintro _ bl ⟨u,ys,rfl,a7⟩;have a3:=(d.dc a7).bo 2 [1,0];refine⟨u,rfl,?_⟩;have ad:=jZ m hz;refine(Ib u ys (bx m P) (St.ij 0 rfl fun _ hq=>hq) ?_ ?_ a3).mono ?_
   ·rw[Cu];have:=we ap ad;omega
   ·intro y hy;obtain⟨a4,a0⟩:=kv hy;obtain⟨i,M,e⟩:=qG a4;obtain⟨n,N,z,_⟩:=F i M;rw[<-e,z,a0];exact⟨⟨by omega,by omega⟩,by decide⟩
   rintro _ bk ⟨rfl,S⟩;rw[a5];refine⟨_,rfl,ci (fun e7=>⟨fun _=>⟨rfl,S.rest.rest.rest⟩,fun h=>absurd h e7⟩) fun e7=>⟨fun h=>absurd e7 h,fun _=>⟨a9,x,da,rfl,?_⟩⟩⟩;rw[<-O];exact S.II.gq 1 rfl fun q hq=>by
    subst hx;subst O;exact⟨rfl,rfl,rfl,rfl,by show Seq _ _ r 1 aD (bj l l.length);rw[<-j];exact hq.1.seq (fun _=>rfl) hq.2,cO.nil _ _ _ _,hq.1.cap,ql _⟩
end
end Go.Proofs.YtdhamoojccmbdaaGreatDoor
namespace Wl
open Go
def mZ(m:aE)(ds:aW)(k n:Int):Bool:=match bG ds k with|some d=>nB m d n|none=>false
def cY(m:aE)(ds:aW)(l:List Int)(N:Int->Int):Bool:=l.all fun k=>mZ m ds k (N k)
def iy(m:aE)(w:Pow)(ds:aW)(k n:Int):Int×Pow×aW:=
 match bG ds k with
 |none=>(5,w,ds)
 |some d=>((iF m w d n).1,(iF m w d n).2.1,lm ds k (iF m w d n).2.2)
def makes(m:aE)(N:Int->Int):List Int->Pow->aW->Int×Pow×aW
 |[],w,ds=>(0,w,ds)
 |k::l,w,ds=>if(iy m w ds k (N k)).1=0 then makes m N l (iy m w ds k (N k)).2.1 (iy m w ds k (N k)).2.2 else iy m w ds k (N k)
end Wl
namespace Go.Proofs.YtdhamoojccmbdaaGreatDoor
open Go Go.Vc Go.Proofs Wl
theorem Qt(f:FuncId)(pre post:Array Value)(P:Int->Bool)(s:Sl)(l:List Int)(h:Heap)(p:C.fns[f]?=some true)(o:Rd h s 1 aD l)(y:l.length<=2^30)
  (q:∀k∈l,∀h',Sp h h' []->ae xl f (pre.toList++[Value.int .i64 k]++post.toList).toArray h' fun v d=>v=xf (P k)/\Sp h' d []):
  ae xl jX #[vY s.ptr s.len s.cap,.func (.func f) pre post] h fun v h'=>v=xf (l.any P)/\Sp h h' []:=by
 refine jL s (f,pre,post) ?_;unfold gQ;refine(ia s (f,pre,post) (R:=fun v h'=>(∃i:Int,v=vX xh i/\decide (i>=0)=l.any P)/\Sp h h' []) ?_).mono ?_
 ·unfold fT;have t:=o.len;refine aw (fun i:Nat=>(i:Int)) (fun i h'=>i<=l.length/\(l.take i).any P=false/\Sp h h' []) (fun i=>l.length-i) 0 rfl ⟨by omega,by simp,Sp.refl h⟩ ?_;rintro i m ⟨j,a,c⟩;refine ak (fun g=>?_) (fun g=>?_)
  ·have b:i<l.length:=by
    have r:(i:Int)<(s.len:Int):=g;omega
   refine(Seq.up o c.ai).bz i rfl b l[i] rfl (fa p ?_);refine(q l[i] (qg b) m c).mono ?_;rintro _ x ⟨rfl,u⟩;have n:=c.up u.ai;refine⟨_,rfl,bs (fun e=>⟨⟨i,rfl,?_⟩,n⟩) (fun e=>?_)⟩
   ·rw[wm.2 ⟨_,qg b,e⟩];exact decide_eq_true (by omega)
   ·refine⟨i+1,by rw[Go.Vc.wrap_small _ (by omega) (by omega)];rfl,⟨by omega,?_,n⟩,by omega⟩;rw[aJ _ _ b,yX,a,List.any_cons,List.any_nil,e];rfl
  ·have r:¬(i:Int)<(s.len:Int):=g;rw[qi (by omega)]at a;exact⟨⟨-1,rfl,by rw[a];rfl⟩,c⟩
 ·rintro _ m ⟨⟨i,rfl,j⟩,w⟩;exact⟨i,rfl,by rw[j],w⟩
section
variable {B:aA} {h0 h:Heap} {As:List HP} {a pw:Addr} {offs:Int} {da:List (Option Addr)} {w:Pow} {ds:aW}
def RX(f:FuncId)(pre post:Array Value)(N:Int->Int)(l:List Int)(h:Heap):Prop:=∀k∈l,ae xl f (pre.toList++[Value.int .i64 k]++post.toList).toArray h fun v h'=>v=vX xh (N k)/\Sp h h' []
theorem Nl(f:FuncId)(pre post:Array Value)(N:Int->Int)(x:cv)(m:aE)(s:Sl)(l:List Int)(V:C.fns[f]?=some true)(T:St B h0 As fun h=>ff h x m/\RX f pre post N l h)(hz:dp m)(hs:Rd h s 1 aD l)(hl:l.length<=2^30)(K:∀k∈l,0<=k/\k<64)(H:aa B h0 h (bn bA a pw (aZ x) offs da w ds::As)):
  ae xl FS #[vZ (some a),vY s.ptr s.len s.cap,.func (.func f) pre post] h fun v h'=>v=xf (cY m ds l N)/\Sp h h' []:=by
 refine Ep (some a) s (f,pre,post) ?_;unfold tl;refine(Sp.refl h).boxed fun t h1 R1=>R1.boxed fun O D r=>?_;have Z:aa B h0 D (bn bA a pw (aZ x) offs da w ds::As):=H.up r.ai;have g:cy D t nK [vZ (some a)]:=r.box 0 rfl;have U:=r.box 1 rfl;refine(Qt CZ #[] #[vZ (some t),vZ (some O)] (fun k=>!mZ m ds k (N k)) s l D (by rfl) (hs.up r.ai) hl ?_).mono ?_
 ·intro k P h3 i;have E:=Z.up i.ai;have Q:=(g.ai i.ai g.lt).cell0 rfl;have W:=(U.ai i.ai U.lt).cell0 rfl;obtain⟨ok,u⟩:=aa.cI E;have M:=K k P;refine BY k t O ?_;unfold pV;obtain⟨n,rfl⟩:∃n:Nat,k=n:=⟨k.toNat,by omega⟩
  have L:n<da.length:=by rw[ok.la];omega
  have cd:cellOf h3 ((a.add 10).add ((n:Int).toNat*1))=some (.pointer da[n]):=by
   rw[qo,wJ];refine u.uy 10 n ?_;rw[pf ok.l8,qd L];rfl
  obtain⟨X,F⟩:=T.at [_] E;refine⟨some a,Q,a,rfl,⟨by omega,by omega⟩,da[n],cd,some a,Q,a,rfl,x,u.aO _ rfl,(f,pre,post),W,fa V ?_⟩;refine(F n P).mono ?_;rintro _ G ⟨rfl,q⟩;have R:=E.up q.ai;have p:=((g.ai i.ai g.lt).ai q.ai (g.ai i.ai g.lt).lt).cell0 rfl;have c:=u.ai q.ai u.lt;have I:cellOf G ((a.add 10).add ((n:Int).toNat*1))=some (.pointer da[n]):=by
   rw[qo,wJ];refine c.uy 10 n ?_;rw[pf ok.l8,qd L];rfl
  refine⟨_,rfl,⟨c.cell0 rfl,c.cell rfl,c.cell rfl,c.cell rfl,c.cell rfl,c.cell rfl,c.cell rfl,c.cell rfl,p,I,p,trivial⟩,?_⟩;have J:mX da (n:Int)=da[n]:=by unfold mX;rw[if_pos (by omega),qo,qd L];rfl
  rw[<-J];have fin:∀{A:Bool} {j:Heap},A=mZ m ds n (N n)->Sp G j []->ar.ok [(t,vZ (some a)),(t,vZ (some a))] j/\(Value.bool (!A)=xf (!mZ m ds n (N n))/\Sp h3 j []):=fun{A j} he o=>by
   have S:=(g.ai i.ai g.lt).ai q.ai (g.ai i.ai g.lt).lt;have:=(S.ai o.ai S.lt).cell0 rfl;exact⟨⟨this,this,trivial⟩,by rw[he],.zip (aa.up q o.ai).ai⟩
  rcases oE ok (n:Int)with⟨e1,e2⟩|⟨n',d,b,e0,e1,e2,e3,e4,e5⟩
  ·rw[e2];refine(Ur x _ G).mono ?_;rintro _ j ⟨rfl,o⟩;exact⟨_,rfl,fin (by unfold mZ;rw[e1]) o⟩
  ·rw[e5];obtain⟨b',e,H5⟩:=Go.Vc.aa.mW R e2;rw[e4]at e;injection e with e
   injection e with e
   subst e;obtain⟨y,Y,bd,z⟩:=aa.uT H5;refine(Qs Y bd x m (N n) (z.box 0 rfl) ((z.bo 2 [1]).PG fun _=>rfl) (aa.DS (z.bo 2 [1])).1 y (T.at [_] R).1 hz).mono ?_;rintro _ j ⟨rfl,o⟩;exact⟨_,rfl,fin (by unfold mZ;rw[e3]) o⟩
 ·rintro _ h3 ⟨rfl,i⟩;refine⟨_,rfl,?_,.zip (aa.up r i.ai).ai⟩;unfold cY;rw[List.not_any_eq_all_not];simp
theorem Ut(x:cv)(n:Int)(h:Heap):ae xl Hp #[vZ none,go x,vX xh n] h fun v h'=>v=vX xh 5/\Sp h h' []:=by
 refine Fs none x n ?_;unfold Ca;refine(Sp.refl h).boxed fun b c a=>?_;exact aX (aX (bs (fun _=>bs (fun _=>⟨rfl,.zip a.ai⟩) fun e=>by cases e) fun e=>by cases e))
theorem Zc(m:aE)(N:Int->Int)(l:List Int)(w:Pow)(ds:aW)(i:Nat)(a:i<l.length):makes m N (l.drop i) w ds=if(iy m w ds l[i] (N l[i])).1=0 then makes m N (l.drop (i+1)) (iy m w ds l[i] (N l[i])).2.1 (iy m w ds l[i] (N l[i])).2.2 else iy m w ds l[i] (N l[i]):=by
 rw[qW a];rfl
theorem Nm(f:FuncId)(pre post:Array Value)(N:Int->Int)(x:cv)(m:aE)(s:Sl)(l:List Int)(U:C.fns[f]?=some true)(K:St B h0 As fun h=>ff h x m/\RX f pre post N l h/\Rd h s 1 aD l)(hz:dp m)(hl:l.length<=2^30)(M:∀k∈l,0<=k/\k<64)(H:aa B h0 h (bn bA a pw (aZ x) offs da w ds::As)):
  ae xl Er #[vZ (some a),vY s.ptr s.len s.cap,.func (.func f) pre post] h fun v h'=>v=vX xh (makes m N l w ds).1/\aa B h0 h' (bn bA a pw (aZ x) offs da (makes m N l w ds).2.1 (makes m N l w ds).2.2::As):=by
 refine CQ (some a) s (f,pre,post) ?_;unfold rH;have ab:=(K.at [_] H).2.2.len;obtain⟨Z,P⟩:∃Z,Z=makes m N l w ds:=⟨_,rfl⟩
 rw[<-P];refine aw (fun t:Nat×Pow×aW=>(t.1:Int)) (fun t h'=>t.1<=l.length/\Z=makes m N (l.drop t.1) t.2.1 t.2.2/\aa B h0 h' (bn bA a pw (aZ x) offs da t.2.1 t.2.2::As)) (fun t=>l.length-t.1) (0,w,ds) rfl ⟨by simp,P,H⟩ ?_;rintro⟨i,D,y⟩ h1 ⟨hi,q,F⟩;dsimp only at*;refine ak (fun e=>?_) fun e=>?_
 ·have p:i<l.length:=by omega
  rw[Zc _ _ _ _ _ _ p]at q;obtain⟨Y,I,O⟩:=K.at [_] F;refine O.bz i rfl p l[i] rfl (aX ?_);have A:=M l[i] (qg p);obtain⟨k,G⟩:∃k,k=l[i]:=⟨_,rfl⟩
  have J:k∈l:=by rw[G];exact qg p
  rw[<-G]at q A;rw[<-G];obtain⟨n,rfl⟩:∃n:Nat,k=n:=⟨k.toNat,by omega⟩
  obtain⟨ok,z⟩:=aa.cI F;have T:n<da.length:=by rw[ok.la];omega
  have S:∀{h':Heap},cy h' a fS (dF (aZ x) pw offs da)->cellOf h' ((a.add 10).add ((n:Int).toNat*1))=some (.pointer da[n]):=fun{h'} z=>by
   rw[qo,wJ];refine z.uy 10 n ?_;rw[pf ok.l8,qd T];rfl
  refine⟨a,rfl,⟨by omega,by omega⟩,da[n],S z,a,rfl,x,z.aO _ rfl,fa U ?_⟩;refine(I n J).mono ?_;rintro _ W ⟨rfl,R⟩;have Q:=F.up R.ai;have g:=z.ai R.ai z.lt;refine⟨_,rfl,⟨g.cell0 rfl,g.cell rfl,g.cell rfl,g.cell rfl,g.cell rfl,g.cell rfl,g.cell rfl,g.cell rfl,S g,trivial⟩,?_⟩;have L:mX da (n:Int)=da[n]:=by unfold mX;rw[if_pos (by omega),qo,qd T];rfl
  rw[<-L];obtain⟨c,o⟩:∃c,c=iy m D y n (N n):=⟨_,rfl⟩
  rw[<-o]at q;have fin:∀{h3:Heap},aa B h0 h3 (bn bA a pw (aZ x) offs da c.2.1 c.2.2::As)->ar.ok [] h3/\Br (c.1 !=(0:Int)) (Value.int .i64 c.1=vX xh Z.1/\aa B h0 h3 (bn bA a pw (aZ x) offs da Z.2.1 Z.2.2::As))
    (∃r:Nat×Pow×aW,qc xh ((i:Int)+1)=(r.1:Int)/\(r.1<=l.length/\Z=makes m N (l.drop r.1) r.2.1 r.2.2/\aa B h0 h3 (bn bA a pw (aZ x) offs da r.2.1 r.2.2::As))/\l.length-r.1<l.length-i):=fun{h3} H3=>by
   refine⟨trivial,ci (fun u=>?_) fun u=>?_⟩
   ·rw[if_neg u]at q;rw[q];exact⟨rfl,H3⟩
   ·rw[if_pos u]at q;exact⟨(i+1,c.2.1,c.2.2),by dsimp only;rw[Go.Vc.wrap_small _ (by omega) (by omega)];rfl,⟨by dsimp only;omega,q,H3⟩,by dsimp only;omega⟩
  rcases oE ok (n:Int)with⟨e1,u⟩|⟨n',d,b,e0,e1,u,e3,e4,e5⟩
  ·rw[u];have E:c=(5,D,y):=by rw[o];unfold iy;rw[e1]
   refine(Ut x _ W).mono ?_;rintro _ h3 ⟨rfl,R3⟩;exact⟨c.1,by rw[E],fin (h3:=h3) (by rw[E];exact Q.up R3.ai)⟩
  ·rw[e5];have X:n=n':=by omega
   subst X;obtain⟨b',j,H5⟩:=Go.Vc.aa.mW Q u;rw[e4]at j;injection j with j
   injection j with j
   subst j;have E:c=((iF m D d (N n)).1,(iF m D d (N n)).2.1,y.set n (some (iF m D d (N n)).2.2)):=by rw[o];unfold iy;rw[e3];simp only[lm,qo]
   refine(abB x m (N n) (fun Bs h' hh=>(K (Bs++[_]) h' (by rw[qp];exact hh)).1) hz H5).mono ?_;rintro _ h3 ⟨rfl,V⟩;have H7:=Go.Vc.aa.KW (k:=bA) (n:=n) e4 V;exact⟨c.1,by rw[E],fin (h3:=h3) (by rw[E];exact H7)⟩
 ·rw[zg (by omega)]at q;rw[q];exact⟨rfl,F⟩
end
def adR(a b:dZ):Int:=if eG a.1 b.1 then-1 else if jx a.1 b.1 then 0 else 1
def jm(a b:dZ):Bool:=jx a.1 b.1
theorem Uu(a b:dZ):adR a b<0↔¬jm b a=true:=by
 unfold adR jm jx;cases h:eG a.1 b.1<;>simp;split<;>omega
theorem Ii:Ord jm:=⟨fun a b c=>GH a.1 b.1 c.1,fun a b=>GI a.1 b.1⟩
abbrev Uv(x:dZ):Value:=xg #[xd x.1,vX xh x.2.1,vX xh x.2.2.1,vY x.2.2.2.ptr x.2.2.2.len x.2.2.2.cap]
theorem RI(x y:ByteArray)(h:Heap):ae xl CY #[xd x,xd y] h fun v h'=>v=vX xh (if eG x y then-1 else if jx x y then 0 else 1)/\h'=h:=by
 refine BX x y ?_;unfold pU;have a:∀z:ByteArray,ae xl Ga #[xd z] h fun v h'=>v=xf false/\h'=h:=fun z=>by
  refine Ez z ?_;unfold tC;exact⟨by simp,rfl⟩
 refine(a x).mono ?_;rintro _ _ ⟨rfl,rfl⟩;refine⟨_,rfl,(a y).mono ?_⟩;rintro _ _ ⟨rfl,rfl⟩;refine⟨_,rfl,bs (fun e=>by cases e) fun _=>bs (fun e=>by cases e) fun _=>?_⟩;have c:Op.bytesLess x.toList y.toList=eG x y:=rfl;rw[RU,c];have d:(!Op.bytesLess y.toList x.toList)=jx x y:=rfl;rw[d];refine bs (fun e=>⟨by rw[e];rfl,rfl⟩) fun e=>bi (fun b=>⟨by rw[e,b];rfl,rfl⟩) fun b=>⟨by rw[e,b];rfl,rfl⟩
theorem Zd(a b:dZ)(h:Heap):ae xl gD #[Uv a,Uv b] h fun v h'=>v=vX xh (adR a b)/\Sp h h' []:=by
 refine KB a b ?_;unfold CX;refine(Sp.refl h).boxed fun e i g=>g.boxed fun f d c=>?_;have c:Sp h d [aq e aV (bI a),aq f aV (bI b)]:=c;refine⟨a.1,(c.box 0 rfl).cell0 rfl,b.1,(c.box 1 rfl).cell0 rfl,(RI a.1 b.1 d).mono ?_⟩;rintro _ _ ⟨rfl,rfl⟩;exact⟨_,rfl,rfl,.zip c.ai⟩
abbrev ui(s:Sl)(d:List dZ):HP:=an aV s 4 bI d
section
variable {B:aA} {h0 h h':Heap} {As:List HP} {s:Sl} {d:List dZ}
theorem Ww{d b:List dZ}{y:dZ}(c:Sd jm (d++b))(g:∀z∈d,jm z y=true)(f:∀z∈b,¬jm z y=true):Sd jm (d++y::b):=
 Sd.app Ii c.left (zN.2 ⟨fun z a=>Ii.GF (f z a),c.right⟩) fun x e z a=>by
  rcases za.1 a with rfl|a
  ·exact g x e
  ·exact c.IQ x e z a
theorem Nn(X M Y:List dZ)(a b:Int)(ha:a=(X.length:Int))(hb:b=(X.length+M.length:Nat))(ad:X.length+M.length+Y.length<=2^40)(H:aa B h0 h (ui s (X++(M++Y))::As)):
  ae xl lB #[vY s.ptr s.len s.cap,vX xh a,vX xh b,.func (.func gD) #[] #[]] h fun v h'=>v=.tuple #[]/\∃W,Sd jm W/\cl jm M W/\aa B h0 h' (ui s (X++(W++Y))::As):=by
 refine kU s a b (gD,#[],#[]) ?_;unfold gN;subst ha;subst hb;rw[Go.Vc.wrap_small ((X.length:Int)+1) (by omega) (by omega)];refine aw (fun t:Nat×List dZ=>((X.length+1+t.1:Nat):Int)) (fun t h'=>(t.1+1<=M.length∨t.1=0)/\Sd jm t.2/\cl jm (M.take (t.1+1)) t.2/\t.2.length=(M.take (t.1+1)).length/\aa B h0 h' (ui s (X++(t.2++(M.drop (t.1+1)++Y)))::As)) (fun t=>M.length-t.1) (0,M.take 1) rfl ?_ ?_
 ·refine⟨.inr rfl,?_,cl.refl _,rfl,?_⟩
  ·cases M with
   |nil=>exact List.Pairwise.nil
   |cons x M=>exact zN.2 ⟨fun _ h=>by simp at h,by simp⟩
  ·rw[<-qp (M.take (0+1)),qE];exact H
 rintro⟨t,P⟩ h1 ⟨ht,r,E,Z,O⟩;dsimp only at*;refine ak (fun e=>?_) (fun e=>?_)
 ·have L:t+1<M.length:=by omega
  obtain⟨y,hy⟩:∃y,y=M[t+1]:=⟨_,rfl⟩
  have G:P.length=t+1:=by rw[Z];simp;omega
  have eD:M.drop (t+1)=y::M.drop (t+1+1):=by rw[qW L,hy]
  rw[eD]at O;refine aw (fun u:List dZ×List dZ=>((X.length+u.1.length:Nat):Int)) (fun u h'=>u.1++u.2=P/\(∀z∈u.2,¬jm z y=true)/\aa B h0 h' (ui s (X++(u.1++(y::(u.2++(M.drop (t+1+1)++Y)))))::As)) (fun u=>u.1.length) (P,[]) (by dsimp only;rw[G];congr 1;omega) ⟨by simp,by simp,by simpa using O⟩ ?_;rintro⟨c,d⟩ V ⟨I,l,K⟩;dsimp only at*;have ah:c.length+d.length=t+1:=by rw[<-G,<-I,qw]
  have f:∀{h':Heap},(∀z∈c,jm z y=true)->aa B h0 h' (ui s (X++(c++(y::(d++(M.drop (t+1+1)++Y)))))::As)->
    ∃k:Nat×List dZ,qc xh (((X.length+1+t:Nat):Int)+1)=((X.length+1+k.1:Nat):Int)/\((k.1+1<=M.length∨k.1=0)/\Sd jm k.2/\cl jm (M.take (k.1+1)) k.2/\k.2.length=(M.take (k.1+1)).length/\aa B h0 h' (ui s (X++(k.2++(M.drop (k.1+1)++Y)))::As))/\M.length-k.1<M.length-t:=fun{h'} hle H'=>by
   refine⟨(t+1,c++y::d),by dsimp only;rw[Go.Vc.wrap_small _ (by omega) (by omega)];omega,⟨.inl (by dsimp only;omega),?_,?_,?_,?_⟩,by dsimp only;omega⟩
   ·exact Ww (by rw[I];exact r) hle l
   ·dsimp only;rw[aJ M (t+1) L,<-hy];have h1:cl jm (M.take (t+1)++[y]) (P++[y]):=E.app (cl.refl _);refine h1.trans ?_;rw[<-I,qp];have V:cl jm (d++[y]) ([y]++d):=cl.rot Ii fun x hx z N=>by rw[qH.1 N];exact l x hx
    exact(cl.refl _).app V
   ·dsimp only;simp;omega
   ·dsimp only;have:X++((c++y::d)++(M.drop (t+1+1)++Y))=X++(c++(y::(d++(M.drop (t+1+1)++Y)))):=by simp
    rw[this];exact H'
  obtain⟨D,S⟩:∃D,D=X++(c++(y::(d++(M.drop (t+1+1)++Y)))):=⟨_,rfl⟩
  refine co (fun _ h'=>∃(Q:List dZ) (z:dZ),c=Q++[z]/\¬jm z y=true/\aa B h0 h' (ui s D::As)) ?_ ?_
  ·rw[<-S]at K f;refine ak (fun T=>?_) (fun T=>⟨trivial,f (fun z N=>?_) K⟩)
   ·have J:c≠[]:=fun h=>by rw[h]at T;simp at T
    obtain⟨Q,z,o⟩:∃(Q:List dZ) (z:dZ),c=Q++[z]:=⟨c.dropLast,c.getLast J,(List.dropLast_concat_getLast J).symm⟩
    have ab:c.length=Q.length+1:=by rw[o];simp
    have g1:D[X.length+c.length]?=some y:=by
     rw[S,qj (by omega),show X.length+c.length-X.length=c.length by omega,qj (by omega),zj];rfl
    have g2:D[X.length+c.length-1]?=some z:=by
     rw[S,qj (by omega),show X.length+c.length-1-X.length=Q.length by omega,o,qp,qj (ql _),zj];rfl
    obtain⟨U,A⟩:=qm.1 g1;obtain⟨R,q⟩:=qm.1 g2;refine(K.seq 0 rfl fun _=>rfl).dI (g:=bI) _ rfl U y (by rw[A]) ?_;have ej:qc xh (((X.length+c.length:Nat):Int)-1)=((X.length+c.length-1:Nat):Int):=by rw[Go.Vc.wrap_small _ (by omega) (by omega)];omega
    rw[ej];refine(K.seq 0 rfl fun _=>rfl).dI (g:=bI) _ rfl R z (by rw[q]) (fa (by rfl) ?_);refine(Zd y z V).mono ?_;rintro _ h3 ⟨rfl,R3⟩;have F:=K.up R3.ai;refine⟨_,rfl,trivial,ak (fun e3=>⟨Q,z,o,(Uu y z).1 e3,F⟩) fun e3=>f (fun w m=>?_) F⟩;have n:jm z y=true:=by
     by_cases hc:jm z y=true
     ·exact hc
     ·exact absurd ((Uu y z).2 hc) e3
    rw[o]at m;rcases qB.1 m with m|m
    ·refine Ii.trans _ _ _ ?_ n;have:Sd jm (Q++[z]):=by rw[<-o];exact Sd.left (v:=d) (by rw[I];exact r)
     exact this.IQ w m z (by simp)
    ·rw[qH.1 m];exact n
   ·have:c=[]:=by
     cases c with
     |nil=>rfl
     |cons x P=>exfalso;simp only[zb]at T;omega
    rw[this]at N;cases N
  ·rintro _ h3 ⟨Q,z,o,n,F⟩;have ab:c.length=Q.length+1:=by rw[o];simp
   have p:D=(X++Q)++z::([]++y::(d++(M.drop (t+1+1)++Y))):=by rw[S,o];simp
   obtain⟨q1,q2,q3,q4⟩:=Ue (X++Q) [] (d++(M.drop (t+1+1)++Y)) z y (i:=X.length+c.length-1) (j:=X.length+c.length) (by simp;omega) (by simp;omega);rw[<-p]at q1 q2 q3 q4;obtain⟨R,q⟩:=qm.1 q1;obtain⟨U,A⟩:=qm.1 q2;have ej:qc xh (((X.length+c.length:Nat):Int)-1)=((X.length+c.length-1:Nat):Int):=by rw[Go.Vc.wrap_small _ (by omega) (by omega)];omega
   rw[ej];refine(F.seq 0 rfl fun _=>rfl).dI (g:=bI) _ rfl R z (by rw[q]) ?_;refine(F.seq 0 rfl fun _=>rfl).dI (g:=bI) _ rfl U y (by rw[A]) ?_;refine F.set af 0 rfl (fun _=>rfl) rfl (X.length+c.length) rfl U z rfl rfl rfl fun h4 H4=>⟨trivial,?_⟩
   refine H4.set af 0 rfl (fun _=>rfl) rfl (X.length+c.length-1) rfl (by simpa using R) y rfl rfl rfl fun h5 H5=>⟨trivial,?_⟩
   refine⟨(Q,z::d),by dsimp only;congr 1;omega,⟨by dsimp only;rw[<-I,o];simp,?_,?_⟩,by dsimp only;omega⟩
   ·dsimp only;intro w m;rcases za.1 m with rfl|m
    ·exact n
    ·exact l w m
   ·dsimp only;have:X++(Q++(y::(z::d++(M.drop (t+1+1)++Y))))=(X++Q)++y::([]++z::(d++(M.drop (t+1+1)++Y))):=by simp
    rw[this,<-q4];exact H5
 ·refine⟨rfl,P,r,?_,?_⟩
  ·rw[qi (by omega)]at E;exact E
  ·rw[zg (by omega)]at O;simpa using O
theorem Uw(r:Nat)(h:Heap)(c:r<=2^32):ae xl xX #[vX xk r] h fun v h'=>(∃k:Int,v=vX xh k)/\h'=h:=by
 intro w a;refine(Tryz.bits_Len (r:Int) w (by omega) (by omega)).mono ?_;rintro e b ⟨rfl,rfl⟩;exact⟨_,rfl,cQ.refl _,⟨_,rfl⟩,a⟩
theorem Ze(d:List dZ)(m:d.length<=12)(H:aa B h0 h (ui s d::As)):
  ae xl lZ #[vY s.ptr s.len s.cap,.func (.func gD) #[] #[]] h fun v h'=>v=.tuple #[]/\aa B h0 h' (ui s (d.mergeSort jm)::As):=by
 refine lL s (gD,#[],#[]) ?_;unfold ie;have l:=(H.own 0 rfl).len;have a:∀k:Int,ae xl nO #[vY s.ptr s.len s.cap,vX xh 0,vX xh (s.len:Nat),vX xh k,.func (.func gD) #[] #[]] h fun v h'=>v=.tuple #[]/\aa B h0 h' (ui s (d.mergeSort jm)::As):=fun k=>by
  refine nu s 0 (s.len:Nat) k (gD,#[],#[]) ?_;unfold ji;refine aw (fun _:Unit=>((0:Int),((s.len:Nat):Int),k,true,true)) (fun _ h'=>h'=h) (fun _=>0) () rfl rfl ?_;rintro _ f rfl;refine ak (fun _=>?_) fun e=>absurd (show qc xh (((s.len:Nat):Int)-0)<=12 by rw[Go.Vc.wrap_small _ (by omega) (by omega)];omega) e;refine(Nn [] d [] 0 (s.len:Nat) rfl (by simp[l]) (by simp;omega) (by simpa using H)).mono ?_;rintro _ c ⟨rfl,M,j,i,b⟩;refine⟨(),rfl,rfl,?_⟩;rw[<-aeP Ii j i];simpa using b
 have g:qc xk ((s.len:Nat):Int)=((s.len:Nat):Int):=by unfold qc;simp[qk,yO];omega
 rw[g];refine(Uw s.len h (by omega)).mono ?_;rintro _ f ⟨⟨k,rfl⟩,rfl⟩;refine⟨k,rfl,(a k).mono ?_⟩;rintro _ c ⟨rfl,b⟩;exact⟨(),rfl,rfl,b⟩
end
section
variable {B:aA} {h0 h:Heap} {As:List HP}
def DA:cv:=(0,0,0,0,0,0,⟨none,0,0⟩,⟨none,0,0⟩)
theorem Wx{m:aE}{e:Wl.bY}{xe:dZ}{L:List (dZ×Wl.bY)}{pool:List (Sl×List Int)}(k:L.map zC=m.objs)(i:∀p∈L,Jc pool p)(l:Jc pool (xe,e)):
  ∃g:List (dZ×Wl.bY),g.map qJ=(L.map qJ++[xe]).mergeSort jm/\g.map zC=(m.objs++[e]).mergeSort sK/\∀p∈g,Jc pool p:=by
 have c:∀p∈L++[(xe,e)],Jc pool p:=fun p d=>by
  rcases qB.1 d with d|d
  ·exact i p d
  ·rw[qH.1 d];exact l
 refine⟨(L++[(xe,e)]).mergeSort fun a b=>jm a.1 b.1,?_,?_,fun p d=>c p ((yn _ _).mem_iff.1 d)⟩
 ·rw[vt (r:=fun a b=>jm a.1 b.1) (s:=jm) (f:=qJ) (fun a _ b _=>rfl),qS];rfl
 ·rw[vt (r:=fun a b=>jm a.1 b.1) (s:=sK) (f:=zC) (fun a h b j=>by unfold jm sK;rw[(c a h).1.1,(c b j).1.1]),qS,k];rfl
theorem abD(x:cv)(m:aE)(xe:dZ)(e:Wl.bY)(X:ff h x m)(V:dp m)(hs:0<=m.seq/\m.seq<=2^40)(hn:0<=m.next/\m.next<=2^40)(ho:m.objs.length<=11)(U:xe.1=e.name/\xe.2.1=e.object/\xe.2.2.1=e.length)(H:aa B h0 h (tW xe.2.2.2 1 aD e.tries::As)):
  ae xl Fi #[go x,Uv xe] h fun v h'=>∃y:cv,v=go y/\aa B h0 h' (dl y (cM m e)::As):=by
 refine Ox x xe ?_;unfold Hg;refine(Sp.refl h).boxed fun W h1 T=>T.boxed fun g Z Q=>Q.alloc af rfl fun a3 h3 j=>?_;have j:Sp h h3 [aq W aF (aZ x),aq g aV (bI xe),aq a3 aF (aZ DA)]:=j;refine⟨x,(j.box 0 rfl).aO _ rfl,(so x m h3 (X.up j.ai) V).mono ?_⟩;rintro _ h4 ⟨y,L,pool,rfl,n,D,E,P⟩;have I:=((j.bO [1,2]).comp P).front;refine⟨y,rfl,I.alloc af rfl fun i h5 z=>?_⟩;have z:=z.bM;refine z.storeAll af 0 rfl rfl (aZ y) rfl rfl rfl rfl fun G q=>?_;have q:Sp h G [aq i aF (aZ y),eO 1 aD pool,an aT y.2.2.2.2.2.2.1 1 aD m.drives,an aV y.2.2.2.2.2.2.2 4 bI (L.map qJ),aq g aV (bI xe),aq a3 aF (aZ DA)]:=q;refine⟨y.1,(q.box 0 rfl).cell0 rfl,?_⟩;have S:qc xh (y.1+1)=m.seq+1:=by rw[n.1,Go.Vc.wrap_small _ (by omega) (by omega)]
 have N:qc xh (y.2.1+1)=m.next+1:=by rw[n.2.1,Go.Vc.wrap_small _ (by omega) (by omega)]
 rw[S];refine q.jS af 0 rfl rfl [vX xh (m.seq+1)] rfl rfl rfl (by simp[Value.cells]) fun F r=>?_;have r:Sp h F [aq i aF (vX xh (m.seq+1)::(aZ y).drop 1),eO 1 aD pool,an aT y.2.2.2.2.2.2.1 1 aD m.drives,an aV y.2.2.2.2.2.2.2 4 bI (L.map qJ),aq g aV (bI xe),aq a3 aF (aZ DA)]:=r;refine⟨y.2.1,(r.box 0 rfl).cell rfl,?_⟩;rw[N];refine r.store af 0 rfl rfl 1 [vX xh (m.next+1)] rfl rfl rfl (by simp[Value.cells]) fun h8 k=>?_;have k:Sp h h8 [aq i aF (vX xh (m.seq+1)::vX xh (m.next+1)::(aZ y).drop 2),eO 1 aD pool,an aT y.2.2.2.2.2.2.1 1 aD m.drives,an aV y.2.2.2.2.2.2.2 4 bI (L.map qJ),aq g aV (bI xe),aq a3 aF (aZ DA)]:=k;have J:L.length=m.objs.length:=by rw[<-D,qx]
 refine⟨y.2.2.2.2.2.2.2,(k.box 0 rfl).cell rfl,xe,(k.box 4 rfl).aO _ rfl,?_⟩;refine k.push af 3 rfl Pj rfl (by decide) (fun _=>rfl) Ph xe rfl (by decide) (by simp;omega) fun o M u=>?_;refine u.store af 0 rfl rfl 7 [vY o.ptr o.len o.cap] rfl rfl rfl (by simp[Value.cells]) fun w c=>?_;obtain⟨a,b⟩:∃a:cv,a=(m.seq+1,m.next+1,y.2.2.1,y.2.2.2.1,y.2.2.2.2.1,y.2.2.2.2.2.1,y.2.2.2.2.2.2.1,o):=⟨_,rfl⟩
 have O:a.2.2.2.2.2.2.1=y.2.2.2.2.2.2.1:=by rw[b]
 have R:a.2.2.2.2.2.2.2=o:=by rw[b]
 have c:Sp h w [aq i aF (aZ a),eO 1 aD pool,an aT a.2.2.2.2.2.2.1 1 aD m.drives,an aV a.2.2.2.2.2.2.2 4 bI (L.map qJ++[xe]),aq g aV (bI xe),aq a3 aF (aZ DA)]:=by rw[O,R,b];exact c
 refine⟨a.2.2.2.2.2.2.2,(c.box 0 rfl).cell rfl,?_⟩;have c:=c.bo 6 [3,0,1,2,4,5];refine(Ze (L.map qJ++[xe]) (by simp;omega) c).mono ?_;rintro _ t ⟨rfl,d⟩;have d:Sp h t [ui a.2.2.2.2.2.2.2 ((L.map qJ++[xe]).mergeSort jm),aq i aF (aZ a),eO 1 aD pool,an aT a.2.2.2.2.2.2.1 1 aD m.drives,aq g aV (bI xe),aq a3 aF (aZ DA)]:=d;refine⟨(),rfl,a,(d.box 1 rfl).aO _ rfl,?_⟩;refine d.storeAll af 5 rfl rfl (aZ a) rfl rfl rfl rfl fun l f=>?_;have f:Sp h l [ui a.2.2.2.2.2.2.2 ((L.map qJ++[xe]).mergeSort jm),aq i aF (aZ a),eO 1 aD pool,an aT a.2.2.2.2.2.2.1 1 aD m.drives,aq g aV (bI xe),aq a3 aF (aZ a)]:=f;refine⟨a,(f.box 5 rfl).aO _ rfl,a,rfl,?_⟩;obtain⟨Y,l1,l2,K⟩:=Wx (pool:=(xe.2.2.2,e.tries)::pool) (m:=m) (e:=e) (xe:=xe) D (fun p A=>⟨(E p A).1,qO _ (E p A).2⟩) ⟨U,qU⟩;have s:=((H.comp (f.bO [2,3,0])).front).bo 4 [0,3,1,2];have s:aa B h0 l (eO 1 aD ((xe.2.2.2,e.tries)::pool)::an aT a.2.2.2.2.2.2.1 1 aD m.drives::an aV a.2.2.2.2.2.2.2 4 bI ((L.map qJ++[xe]).mergeSort jm)::As):=aa.Xv s;rw[<-l1]at s;refine aa.KV (m:=cM m e) ⟨by rw[b];rfl,by rw[b];rfl,by rw[b];exact n.2.2.1,by rw[b];exact n.2.2.2⟩ l2 K s
end
section
variable {B:aA} {h0 h:Heap} {As:List HP} {a pw:Addr} {offs:Int} {da:List (Option Addr)} {w:Pow} {ds:aW}
theorem aa.abE{x y:cv}(H:aa B h0 h (bn bA a pw (aZ x) offs da w ds::As)){K:Unit->Heap->Prop}(b:∀h',aa B h0 h' (bn bA a pw (aZ y) offs da w ds::As)->K () h'):
  ac xl (qf aF (vZ (some a)) (go y)) h K:=by
 obtain⟨ok,d⟩:=Go.Vc.aa.Ad H;refine d.jS af 0 rfl rfl (aZ y) rfl rfl rfl (by simp) fun h' c=>b h' ?_;exact aa.Bx (k:=bA) ⟨rfl,ok.la,ok.ls,ok.same⟩ c
theorem No(x z:cv)(b:aE)(s:Sl)(l:List Int)(j:St B h0 As fun h=>ff h z b/\Rd h s 1 aD l)(m:dp b)(u:l.length<=2^10)(o:∀k∈l,0<=k/\k<64)(H:aa B h0 h (bn bA a pw (aZ x) offs da w ds::As)):
  ae xl FT #[vZ (some a),go z,vY s.ptr s.len s.cap] h fun v h'=>v=vX xh (layAll (bx b l) w ds).1/\
   ((layAll (bx b l) w ds).1≠0->aa B h0 h' (bn bA a pw (aZ x) offs da (layAll (bx b l) w ds).2.1 (layAll (bx b l) w ds).2.2::As))/\
   ((layAll (bx b l) w ds).1=0->∃y,aa B h0 h' (bn bA a pw (aZ y) offs da (layAll (bx b l) w ds).2.1 (layAll (bx b l) w ds).2.2::dl y b::As)):=by
 refine Es (some a) z s ?_;unfold tm;refine H.boxed fun K A d=>?_;have d:=d.bM;refine⟨z,(d.box 0 rfl).aO _ rfl,(JV z b s l A (j.at [_,_] d).1 m (j.at [_,_] d).2 u).mono ?_⟩;rintro _ L ⟨r,p,rfl,J⟩;have G:=(d.dc J).bo 3 [2,0,1];have f:=jZ b m;have t:=we u f;refine⟨r,rfl,(Ib r p (bx b l) (St.ij 0 rfl fun _ g=>g) (by rw[Cu];omega) (fun q g=>?_) G).mono ?_⟩
 ·obtain⟨i,n⟩:=kv g;rw[n];exact⟨o _ i,by decide⟩
 rintro _ h3 ⟨rfl,c⟩;obtain⟨R,D⟩:∃R,R=layAll (bx b l) w ds:=⟨_,rfl⟩
 rw[<-D]at c⊢;refine⟨_,rfl,ci (fun e=>⟨rfl,fun _=>c.bo 3 [0],fun h=>absurd h e⟩) fun e=>?_⟩;have c:aa B h0 h3 (bn bA a pw (aZ x) offs da R.2.1 R.2.2::cj kS 2 piv r p (bx b l)::aq K aF (aZ z)::As):=c;refine⟨z,(c.box 2 rfl).aO _ rfl,(YP z b h3 (j.at [_,_,_] c).1 m).mono ?_⟩;rintro _ N ⟨y,rfl,F⟩;have E:=(c.dc F).bo 4 [1,0];refine⟨y,rfl,a,rfl,aa.abE E fun M I=>?_⟩;exact⟨by rw[e],fun h=>absurd e h,fun _=>⟨y,I⟩⟩
def bR(name:ByteArray)(e:Wl.bY):Bool:=e.name.toList==name.toList
theorem find_spec(x:cv)(m:aE)(name:ByteArray)(t:ff h x m)(s:dp m)(H:aa B h0 h (bn bA a pw (aZ x) offs da w ds::As)):
  ae xl FW #[vZ (some a),xd name] h fun v h'=>(∃i:Int,v=vX xh i/\YV (bR name) m.objs i)/\Sp h h' []:=by
 refine Eu (some a) name ?_;unfold tt;refine(Sp.refl h).boxed fun g k b=>?_;have n:cy k g gB [xd name]:=b.box 0 rfl;obtain⟨ok,o⟩:=aa.cI H;have e:=o.ai b.ai o.lt;have c:=s.ob;refine⟨a,rfl,x.2.2.2.2.2.2.2,e.cell rfl,?_⟩;refine(JW Da #[] #[vZ (some g)] (bR name) x.2.2.2.2.2.2.2 m.objs k (by rfl) (t.up b.ai).objs c ?_).mono ?_
 ·intro u E j f r z;refine Cc u g ?_;unfold pW;refine(Sp.refl j).boxed fun y h3 d=>?_;have l:=(n.ai f.ai n.lt)
  have q:=l.ai d.ai l.lt;refine⟨u.1,(d.box 0 rfl).cell0 rfl,name,q.cell0 rfl,?_,.zip d.ai⟩;unfold bR;rw[r.1.1]
 ·rintro _ j ⟨⟨i,rfl,p⟩,f⟩;exact⟨i,rfl,⟨i,rfl,p⟩,.zip (aa.up b f.ai).ai⟩
theorem pk{b:List Value}(H:aa B h0 h (bn bA a pw b offs da w ds::As)):ae xl Hj #[vZ (some a)] h fun v h'=>v=xf (eF w offs)/\h'=h:=by
 refine rI (some a) ?_;unfold nL;refine bs (fun e=>by cases e) fun _=>(Dx H).mono ?_;rintro _ _ ⟨rfl,rfl⟩;exact⟨_,rfl,rfl,rfl⟩
def cB(m:aE)(down:Bool)(ds:aW)(name:ByteArray)(n:Nat):Int:=
 if down then 14 else if !jG name then 3 else if m.objs.any (bR name)then 4
 else if m.p.1*m.p.2.2*8<(n:Int)∨12<=m.objs.length then 6
 else if bg ds m.drives=[]∨16777215<m.next∨2147483647<=m.seq then 7 else 0
theorem Ux(x:cv)(m:aE)(name:ByteArray)(s:Sl)(n:Nat)(hn:s.len=n)(G:name.size<=2^40)(X:ff h x m)(K:dp m)(Q:bJ m.p=true)(H:aa B h0 h (bn bA a pw (aZ x) offs da w ds::As)):
  ae xl BR #[vZ (some a),xd name,vY s.ptr s.len s.cap] h fun v h'=>v=vX xh (cB m (eF w offs) ds name n)/\Sp h h' []:=by
 refine AC (some a) name s ?_;unfold oQ;have U:=(bK m.p).1 Q;refine(pk H).mono ?_;rintro _ u ⟨rfl,rfl⟩;refine⟨_,rfl,bs (fun e=>⟨by unfold cB;rw[e];rfl,Sp.refl _⟩) fun l=>?_⟩;refine(Qm name u G).mono ?_;rintro _ h2 ⟨rfl,o⟩;refine⟨_,rfl,bi (fun e=>⟨by unfold cB;rw[l,e];rfl,o⟩) fun A=>?_⟩;have J:=H.up o.ai;have f:=X.up o.ai;refine(find_spec x m name f K J).mono ?_;rintro _ h3 ⟨⟨i,rfl,N⟩,D⟩;have z:Sp u h3 []:=.zip (aa.up o D.ai).ai;have d:=Ul N;refine⟨i,rfl,bs (fun e=>⟨by unfold cB;rw[l,A,<-d,e];rfl,z⟩) fun V=>?_⟩;rw[V]at d;have I:=J.up D.ai;have b:=f.up D.ai;obtain⟨ok,k⟩:=aa.cI I;have O:=cO.len b.objs;have y:x.2.2.1=m.p.1:=congrArg (·.1) b.p;have F:x.2.2.2.2.1=m.p.2.2:=congrArg (·.2.2) b.p;have Y:m.p.1*m.p.2.2<=16*24:=wi (by omega) (by omega) (by omega) (by omega);have R:0<=m.p.1*m.p.2.2:=y9 (by omega) (by omega);refine co (fun(t:Bool) h'=>t=decide (m.p.1*m.p.2.2*8<(n:Int)∨12<=m.objs.length)/\h'=h3) ?_ ?_
 ·refine⟨a,rfl,x.2.2.1,k.cell rfl,a,rfl,x.2.2.2.2.1,by rw[addr_add];exact k.cell rfl,?_⟩;rw[y,F,Go.Vc.wrap_small (m.p.1*m.p.2.2) (by omega) (by omega),Go.Vc.wrap_small (m.p.1*m.p.2.2*8) (by omega) (by omega)];refine ak (fun e=>⟨(decide_eq_true (.inl (by omega))).symm,rfl⟩) fun e=>?_;refine⟨a,rfl,x.2.2.2.2.2.2.2,k.cell rfl,?_,rfl⟩;rw[decide_eq_decide];omega
 rintro t _ ⟨rfl,rfl⟩;refine ak (fun e=>⟨by unfold cB;rw[l,A,<-d,if_pos e];rfl,z⟩) fun P=>?_;have M:cB m (eF w offs) ds name n=if bg ds m.drives=[]∨16777215<m.next∨2147483647<=m.seq then 7 else 0:=by
  unfold cB;rw[l,A,<-d,if_neg P];rfl
 rw[M];refine(fA x m b K I).mono ?_;rintro _ T ⟨r,rfl,E⟩;have g:=(E.own 0 rfl).len;have c:Sp u T []:=.zip (aa.up z E.ai).ai;have j:=k.ai E.ai k.lt;refine⟨r,rfl,cw (fun e=>⟨by rw[if_pos (.inl (qX (by omega)))],c⟩) fun e=>?_⟩;have q:bg ds m.drives≠[]:=fun W=>by rw[W]at g;simp at g;omega
 refine⟨a,rfl,x.2.1,j.cell rfl,ak (fun e=>⟨by rw[if_pos (.inr (.inl (by rw[<-b.next];omega)))],c⟩) fun Z=>?_⟩;have L:=b.next;have S:=b.seq;refine⟨a,rfl,x.1,j.cell0 rfl,ak (fun e=>⟨by rw[if_pos (.inr (.inr (by omega)))],c⟩) fun e7=>⟨?_,c⟩⟩;rw[if_neg];rintro(h|h|h)
 ·exact q h
 ·omega
 ·omega
end
theorem Uy:∃i a,C.T.get aH=some i/\i.cG=.slice a:=⟨_,_,rfl,rfl⟩
def pm(A B:aS)(k:Nat):aS:=dX (A.take k) (B.take k)++A.drop k
theorem tI{A B:aS}(h:B.length=A.length)(k:Nat):(pm A B k).length=A.length:=by simp[pm,dX,h];omega
theorem abF{A B:aS}(h:B.length=A.length){k:Nat}(a:k<A.length):(pm A B k)[k]?=some A[k]:=by
 have:(dX (A.take k) (B.take k)).length=k:=by simp[dX];omega
 rw[pm,qj (by omega),this,zj,wB,w9,qd a]
theorem abG{A B:aS}(h:B.length=A.length){k:Nat}(a:k<A.length):(pm A B k).set k (A[k]++B[k]'(by omega))=pm A B (k+1):=by
 have b:(dX (A.take k) (B.take k)).length=k:=by simp[dX];omega
 rw[pm,zh _ _ (by omega),b,zj,qW a,zB,pm,aJ _ _ a,aJ _ _ (show k<B.length by omega),dX,dX,yM (by simp;omega),qp];rfl
theorem abH{A B:aS}(h:B.length=A.length):pm A B A.length=dX A B:=by
 rw[pm,qR,<-h,qR,h,List.drop_length,qQ]
theorem Zf(f:Addr)(a b:Sl)(A B:aS)(n w:Nat)(h:Heap)(hf:gI h f)(H:gr h a 1 aB A)(S:gr h b 1 aB B)(hl:A.length=n)(a3:B.length=n)(g:bh n A)(N:bh w B)(bb:1<=n)(hn:n+w<=64)(hr:cL A=n):
  ae xl Hy #[vZ (some f),vY a.ptr a.len a.cap,vY b.ptr b.len b.cap] h fun v h'=>∃r:Sl,v=.tuple #[vY r.ptr r.len r.cap,vX xh 0]/\Sp h h' [fP aH r 1 aB (fD n A B)]:=by
 have d:B.length=A.length:=by omega
 have T:=H.len;have u:=S.len;refine Fy (some f) a b ?_;unfold Cf;refine aX ?_;refine(mY a A n h H g (by omega) (by omega)).mono ?_;rintro v h1 ⟨rfl,rfl⟩;refine⟨_,rfl,bi (fun e=>by cases e) fun _=>?_⟩;refine(mY b B w h1 S N (by omega) (by omega)).mono ?_;rintro v G ⟨rfl,rfl⟩;refine⟨_,rfl,bi (fun e=>by cases e) fun _=>?_⟩;refine ci (fun e=>absurd (by rw[T,u,d]) e) fun _=>?_;refine cw (fun e=>by omega) fun _=>?_;refine(sw a A G H).mono ?_;rintro v h3 ⟨rfl,rfl⟩;have O:fM A=n:=by
  cases A with
  |nil=>simp at hl;omega
  |cons x t=>rw[fM,bu (by simp)];exact g _ (by simp)
 refine⟨_,rfl,?_⟩;rw[O];refine(Ah a A n h3 H g (by omega) (by omega)).mono ?_;rintro v h4 ⟨r,rs,rfl,ax,R4⟩;refine⟨r,rfl,?_⟩;have ap:=(R4.own 0 rfl).len;refine aw (fun t:Nat×List Sl=>(t.1:Int)) (fun t h'=>t.1<=n/\t.2.length=n/\Sp h3 h' (nR r t.2 (pm A B t.1))) (fun t=>n-t.1) (0,rs) rfl ⟨by simp,by dsimp only;omega,by simpa[pm,dX]using R4⟩ ?_;rintro⟨k,rs⟩ h5 ⟨hk,a4,F⟩;dsimp only at*;have E:rs.length=(pm A B k).length:=by rw[tI d];omega
 refine ak (fun e=>?_) (fun e=>?_)
 ·have p:k<n:=by omega
  have l:k<A.length:=by omega
  have J:=ph (a:=r) E k (by rw[tI d];omega);have eg:(pm A B k)[k]'(by rw[tI d];omega)=A[k]:=by
   have:=abF d l;rw[qd (by rw[tI d];omega)]at this;exact zL.inj this
  rw[eg]at J;have l1:A[k].length=n:=g _ (qg _);have l2:(B[k]'(by omega)).length=w:=N _ (qg _);refine(F.seq 0 rfl (fun _=>rfl)).tZ k rfl (by omega) fun a1 V Y=>?_;refine(S.up F.ai).get k rfl (by omega) fun rb R=>?_;refine F.append af (k+1) J fX Uy rfl (by decide) (fun _=>rfl) R gp (by omega) fun I h6 H6=>⟨trivial,?_⟩
  refine H6.set af 0 rfl (fun _=>rfl) rfl k rfl (by omega) I rfl rfl rfl fun Z H7=>⟨trivial,?_⟩
  refine⟨(k+1,rs.set k I),by dsimp only;rw[wrap_small _ (by omega) (by omega)];rfl,⟨by dsimp only;omega,by dsimp only;simp;omega,?_⟩,by dsimp only;omega⟩;dsimp only;rw[<-abG d l];show Sp h3 Z (an aH r 1 bQ (rs.set k I)::bT aC 1 aB (rs.set k I) ((pm A B k).set k _));rw[<-lR E];exact H7
 ·have X:k=A.length:=by omega
  subst X;rw[abH d]at F;refine(uh f h5).mono ?_;rintro v h6 ⟨rfl,rfl⟩;refine⟨some f,rfl,?_⟩;have y:=mK d.symm g N;have a8:=lS d.symm;refine(Cr (m:=dX A B) (n:=n+w) hf hf.lt (by omega) y (by omega) (by omega) (by omega) F).mono ?_;rintro v Z ⟨i,rfl,ah,z⟩;rw[Kp d.symm g,hr];refine⟨_,rfl,?_⟩;dsimp only;have am:=(z.own 0 rfl).cap;have a7:=(z.own 0 rfl).len;have G:=ik y n;refine ak (fun e=>absurd (show(n:Int)<(n:Int)from e) (by omega)) fun _=>?_;refine⟨⟨zO _,yI.2 (show n<=r.len by omega)⟩,?_⟩;refine aw (fun _:Unit=>(0:Int)) (fun _ h'=>h'=Z) (fun _=>0) () rfl rfl ?_;rintro _ h8 rfl;rw[qo];refine ak (fun e=>by omega) fun _=>?_;refine⟨⟨zO _,yI.2 (show n<=r.cap by omega)⟩,?_⟩;obtain⟨M,L⟩:∃M,M=(bF (dX A B) n).2:=⟨_,rfl⟩
  have a2:M.length=n:=by have:=G.2;rw[<-L]at this;omega
  have W:bh (n+w) M:=by rw[L];exact G.1
  have o:∀k (hk:k<n),(fD n A B).take (k+1)=(fD n A B).take k++[(M[k]'(by omega)).drop n]:=fun k hk=>by
   have e1:fD n A B=M.map (vW n):=by rw[fD,<-L,qi (by omega)]
   rw[e1,aJ _ _ (by simp;omega),wo]
  have ay:(fD n A B).length=n:=(xm d.symm g N hr).1;rw[<-L]at z;refine aw (fun t:Sl×Nat=>(t.1,(t.2:Int))) (fun t h'=>t.2<=n/\Sp h8 h' [fP aH t.1 1 aB ((fD n A B).take t.2)]) (fun t=>n-t.2) (⟨none,0,0⟩,0) rfl ⟨by simp,(Sp.refl h8).Lu aH 1 aB⟩ ?_;rintro⟨s,k⟩ h9 ⟨a6,K⟩;dsimp only at*;have HH:=z.comp K;have ad:i.length=M.length:=by omega
  refine ak (fun e=>?_) (fun e=>?_)
  ·have p:k<n:=by omega
   have J:=ph (a:=r) ad k (by omega);have D:(nR r i M++[fP aH s 1 aB ((fD n A B).take k)])[k+1]?=some (an aC (i[k]'(by omega)) 1 aB (M[k]'(by omega))):=by
    rw[qn (by simp[bT];omega)];exact J
   have a0:(M[k]'(by omega)).length=n+w:=W _ (qg _);have j:=HH.own (k+1) D;have Q:=HH.seq (k+1) D (fun _=>rfl);have ao:=j.len;have q:=(HH.seq 0 rfl (fun _=>rfl)).take n (by omega);rw[qi (by omega)]at q;refine q.tZ k rfl (by omega) fun a1 V Y=>?_;refine⟨⟨zO _,yI.2 (by omega)⟩,?_⟩;refine(fO _ _ h9 (Q.drop n j.cap) (by simp;omega)).mono ?_;rintro v a5 ⟨c,rfl,P⟩;have ab:=(K.comp P).freeze 1 rfl (fun _=>rfl);refine⟨c,rfl,?_⟩;refine ab.wn af 0 1 (by decide) rfl rfl fJ (by simp;omega) fun s' a9 U=>?_;refine⟨(s',k+1),by dsimp only;rw[wrap_small _ (by omega) (by omega)];rfl,⟨by dsimp only;omega,?_⟩,by dsimp only;omega⟩;dsimp only;rw[o k p];exact U.del 1
  ·rw[qi (by omega)]at K;refine⟨s,rfl,?_⟩;have:=(Sp.zip z.ai).comp K;exact this
def oF(p:Pm)(seed:Int)(l:Nat):Int:=if bJ p&&decide ((l:Int)=p.1*p.2.2)then(if fR p seed (eI p)then 0 else 8)else 1
abbrev La(p:Pm)(seed:Int)(m:Sl):List Value:=[vX xh p.1,vX xh p.2.1,vX xh p.2.2,vX xj seed,vY m.ptr m.len m.cap]
theorem adS(p:Pm)(seed:Int)(data:Sl)(d:Row)(h:Heap)(hd:Rd h data 1 aB d)(hc:data.len<=data.cap):
  ae xl Fo #[kA p,vX xj seed,vY data.ptr data.len data.cap] h fun v h'=>
   (oF p seed d.length=0->∃(b:Addr) (m:Sl),v=.tuple #[vZ (some b),vX xh 0]/\Sp h h' [fP aH m 1 aB (eJ p seed d),aq b gd (La p seed m)])/\
   (oF p seed d.length≠0->v=.tuple #[vZ none,vX xh (oF p seed d.length)]/\Sp h h' []):=by
 have X:=hd.len;refine OC p seed data ?_;unfold Hm;refine(Sp.refl h).boxed fun a h1 H1=>?_;refine aX ?_;refine⟨p,(H1.box 0 rfl).aO _ rfl,(dS p h1).mono ?_⟩;rintro v h2 ⟨rfl,R2⟩;have N:=H1.comp R2;have T:∀{h3:Heap} (x:Int),x≠0->oF p seed d.length=x->Sp h h3 [aq a aP [vX xh p.1,vX xh p.2.1,vX xh p.2.2]]->
   (oF p seed d.length=0->∃(b:Addr) (m:Sl),Value.tuple #[vZ none,vX xh x]=.tuple #[vZ (some b),vX xh 0]/\Sp h h3 [fP aH m 1 aB (eJ p seed d),aq b gd (La p seed m)])/\
   (oF p seed d.length≠0->Value.tuple #[vZ none,vX xh x]=.tuple #[vZ none,vX xh (oF p seed d.length)]/\Sp h h3 []):=fun x hx P H=>by
  refine⟨fun e=>absurd (P.symm.trans e) hx,fun _=>⟨by rw[P],.zip H.ai⟩⟩
 refine⟨_,rfl,bi (fun e=>T 1 (by decide) (by rw[oF,e];rfl) N) fun S=>?_⟩;have ah:=(bK p).1 S;obtain⟨K,hK⟩:∃K:Nat,p.1=K:=⟨p.1.toNat,by omega⟩
 obtain⟨u,hH⟩:∃H:Nat,p.2.1=H:=⟨p.2.1.toNat,by omega⟩
 obtain⟨w,M⟩:∃w:Nat,p.2.2=w:=⟨p.2.2.toNat,by omega⟩
 have ap:K*w<=16*24:=we (by omega) (by omega);have L:p.1*p.2.2=((K*w:Nat):Int):=by rw[hK,M,wh]
 refine⟨p.1,(N.box 0 rfl).cell0 rfl,p.2.2,(N.box 0 rfl).cell rfl,?_⟩;rw[L,wrap_small _ (by omega) (by omega)];refine ci (fun e=>T 1 (by decide) (by rw[oF,S,decide_eq_false (by rw[L];intro e2;exact e (by rw[X];exact e2))];rfl) N) fun el=>?_;have G:d.length=K*w:=by omega
 refine⟨p,(N.box 0 rfl).aO _ rfl,(Nj p seed h2).mono ?_⟩;rintro v h3 ⟨rfl,R3⟩;have H3:=N.comp R3;have y:oF p seed d.length=if fR p seed (eI p)then 0 else 8:=by rw[oF,S,decide_eq_true (by rw[L,G])];rfl
 refine⟨_,rfl,bi (fun e=>T 8 (by decide) (by rw[y,e];rfl) H3) fun hf=>?_⟩;rw[hf,if_pos rfl]at y;have B:bV p seed d K u w (K+u):=⟨S,hf,hK,hH,M,rfl,by omega,by omega,by omega,by omega,by omega,by omega,G⟩
 refine⟨p.2.1,(H3.box 0 rfl).cell rfl,?_⟩;refine aw (fun t:Sl×List Sl=>(t.1,(t.2.length:Int))) (fun t h'=>t.2.length<=u/\Sp h h' (aq a aP [vX xh p.1,vX xh p.2.1,vX xh p.2.2]::nR t.1 t.2 (qh t.2.length (aL w)))) (fun t=>u-t.2.length) (⟨none,0,0⟩,[]) rfl ⟨by simp,H3.nil aH 1 bQ⟩ ?_;rintro⟨s,rs⟩ h4 ⟨hk,O⟩;dsimp only at*;refine ak (fun e=>?_) (fun e=>?_)
 ·refine⟨p.2.2,(O.box 0 rfl).cell rfl,?_⟩;refine O.make af aB fX (by decide) 0 rfl rfl w w M M (ql _) (by omega) fun z U ay am D=>?_;refine D.push af 1 rfl fJ rfl (by decide) (fun _=>rfl) nW z rfl (by decide) (by omega) fun s' h6 Z=>?_;refine⟨(s',rs++[z]),by dsimp only;rw[wrap_small _ (by omega) (by omega)];simp,⟨by simp;omega,?_⟩,by simp;omega⟩;dsimp only;have e7:nR s' (rs++[z]) (qh rs.length (aL w)++[aL w])=an aH s' 1 bQ (rs++[z])::(bT aC 1 aB rs (qh rs.length (aL w))++[an aC z 1 aB (aL w)]):=congrArg _ (xw (by simp) z (aL w));rw[show(rs++[z]).length=rs.length+1 by simp,List.replicate_succ',e7];exact Z
 ·have I:rs.length=u:=by omega
  rw[I]at O;refine⟨p.1,(O.box 0 rfl).cell0 rfl,?_⟩;let own:=bT aC 1 aB rs (qh u (aL w));refine aw (fun t:Sl×Nat=>(t.1,(t.2:Int))) (fun t h'=>t.2<=K/\Sp h h' (aq a aP [vX xh p.1,vX xh p.2.1,vX xh p.2.2]::an aH t.1 1 bQ (rs++(qC t.2).map (Oa data w))::own)) (fun t=>K-t.2) (s,0) rfl ⟨by simp,by simpa using O⟩ ?_;rintro⟨t,k⟩ U ⟨ax,D⟩;dsimp only at*;refine ak (fun e2=>?_) (fun e2=>?_)
  ·have W:k<K:=by omega
   have m1:(k+1)*w<=K*w:=zr w W;have m2:k*w<=(k+1)*w:=zr w (by omega);refine⟨p.2.2,(D.box 0 rfl).cell rfl,p.2.2,(D.box 0 rfl).cell rfl,?_⟩;rw[wrap_small ((k:Int)+1) (by omega) (by omega)];have e5:(k:Int)*p.2.2=((k*w:Nat):Int):=by rw[M,wh]
   have e6:((k:Int)+1)*p.2.2=(((k+1)*w:Nat):Int):=by rw[M,wh];rfl
   rw[e5,e6,uC _ (by omega),uC _ (by omega),qo,qo];refine⟨⟨zO _,yI.2 m2,yI.2 (by omega)⟩,?_⟩;refine D.push af 1 rfl fJ rfl (by decide) (fun _=>rfl) nW (Oa data w k) rfl (by decide) (by simp;omega) fun t' h6 Z=>?_;refine⟨(t',k+1),rfl,⟨by dsimp only;omega,?_⟩,by dsimp only;omega⟩;dsimp only;rw[zI,qS,<-qp];exact Z
  ·have V:k=K:=by omega
   subst V;refine aX ?_;have E:gr U t 1 aB (jy k u w d):=by
    refine⟨rs++(qC k).map (Oa data w),D.seq 1 rfl (fun _=>rfl),by rw[GL];simp;omega,fun i r l q n=>?_⟩;by_cases F:i<u
    ·rw[qn (by omega),qd (by omega)]at q;rw[jy,qn (by simpa using F)]at n;have hz:l=aL w:=by simp[F]at n;exact n.symm
     have hr:rs[i]'(by omega)=r:=zL.inj q;have g:(aq a aP [vX xh p.1,vX xh p.2.1,vX xh p.2.2]::an aH t 1 bQ (rs++(qC k).map (Oa data w))::own)[i+2]?=some (an aC (rs[i]'(by omega)) 1 aB ((qh u (aL w))[i]'(by simpa using F))):=kl (by simpa using I) i (by simpa using F);have:=D.seq (i+2) g (fun _=>rfl);rw[List.getElem_replicate,hr]at this;rw[hz];exact this
    ·obtain⟨j,rfl⟩:∃j,i=u+j:=⟨i-u,by omega⟩
     rw[qj (by omega),I,zn]at q;rw[jy,qj (by simp),yz,zn]at n;have hj:j<k:=by
      have:=(qm.1 q).1;simpa using this
     simp[hj]at q n;have m1:(j+1)*w<=k*w:=zr w hj;rw[<-q,<-n];exact(Seq.up hd D.ai).piece hc w j (by omega)
   have c:=D.box 0 rfl;refine⟨p,c.aO _ rfl,p,c.aO _ rfl,(uX U).mono ?_⟩;rintro v h6 ⟨f,rfl,R6⟩;have o:=c.ai R6.ai c.lt;refine⟨some f,rfl,⟨o.cell0 rfl,o.cell rfl,o.cell rfl,o.cell0 rfl,o.cell rfl,o.cell rfl,trivial⟩,(Ni p h6).mono ?_⟩;rintro v h7 ⟨r7,rfl,R7⟩;have Y:=R6.comp R7;have J:=c.ai Y.ai c.lt;refine⟨r7,rfl,⟨J.cell0 rfl,J.cell rfl,J.cell rfl,trivial⟩,?_⟩;refine(JX p seed r7 (eI p) h7 (Y.seq 1 rfl (fun _=>rfl)) (by rw[eI,gu];omega)).mono ?_;rintro v h8 ⟨r8,rfl,R8⟩;have R:=Y.comp R8;refine⟨r8,rfl,trivial,?_⟩;refine(Zf f r8 t _ _ (k+u) w h8 (R.box 0 rfl) (R.Jz 2 rfl) (E.up R.ai) B.GK (by rw[GL]) B.IX (uF B.len) (by omega) (by omega) B.Oh).mono ?_;rintro v h9 ⟨r9,rfl,R9⟩;have Q9:=R.comp R9;refine⟨(r9,0),rfl,trivial,?_⟩;refine ci (fun e=>absurd rfl e) fun _=>?_;have ad:=c.ai Q9.ai c.lt;refine⟨p,ad.aO _ rfl,?_⟩;refine Q9.boxed (t:=gd) fun b ao ab=>?_;refine⟨fun _=>⟨b,r9,rfl,?_⟩,fun e=>absurd y e⟩;have Q:=(Sp.zip D.ai).comp ab;rw[<-B.EY]at Q;exact Q.take 3 (fun i A F=>by
    cases i with
    |zero=>exact F
    |succ i=>cases i with
     |zero=>exact F
     |succ i=>simp at F)
def Pr(h:Heap)(b:Addr)(p:Pm)(seed:Int)(M:aS):Prop:=∃m:Sl,cy h b gd (La p seed m)/\gr h m 1 aB M
theorem Pr.up{h h':Heap}{b:Addr}{p:Pm}{seed:Int}{M:aS}(d:Pr h b p seed M)(a:aU (fun b=>b<h.size) h h'):Pr h' b p seed M:=by
 obtain⟨m,c,e⟩:=d;exact⟨m,c.ai a c.lt,e.up a⟩
theorem Wy{a t:Row}(b:a.length=t.length){k:Nat}(d:k<t.length):(zm (fun x y=>y^^^Gf.mul 1 x) (a.take k) (t.take k)++t.drop k).set k (t[k]^^^(a[k]'(by omega)))=zm (fun x y=>y^^^Gf.mul 1 x) (a.take (k+1)) (t.take (k+1))++t.drop (k+1):=by
 have:=Ai (c:=1) b d;rw[Gf.one_mul]at this;exact this
theorem ahf{a t:Row}(c:a.length=t.length){k:Nat}(b:k<t.length):(zm (fun x y=>y^^^Gf.mul 1 x) (a.take k) (t.take k)++t.drop k)[k]?=some t[k]:=by
 have d:(zm (fun x y=>y^^^Gf.mul 1 x) (a.take k) (t.take k)).length=k:=by simp;omega
 rw[qj (by omega),d,zj,wB,w9,qd b]
theorem Wz(b:Addr)(p:Pm)(seed id:Int)(M:aS)(n w:Nat)(h:Heap)(hb:Pr h b p seed M)(H:bJ p=true)(N:p.2.2=w)(hn:(bZ p).toNat=n)(W:bh w M)(hl:M.length=n):
  ae xl og #[vZ (some b),vX xh id] h fun v h'=>∃r:Sl,v=vY r.ptr r.len r.cap/\Sp h h' [an aC r 1 aB (if bU id then fv w M (de n seed id)else[])]:=by
 obtain⟨m,g,Y⟩:=hb;have ad:=Y.len;have ab:=(bK p).1 H;have hc:bZ p=p.1+p.2.1:=by rw[bZ,if_pos H]
 refine AH (some b) id ?_;unfold oV;have P:bU id=false->∃r:Sl,Value.slice none 0 0=vY r.ptr r.len r.cap/\Sp h h [an aC r 1 aB (if bU id then fv w M (de n seed id)else[])]:=fun e=>by
  rw[e];exact⟨⟨none,0,0⟩,rfl,(Sp.refl h).nil aC 1 aB⟩
 refine aX (bs (fun e=>by cases e) fun _=>ak (fun e=>P (by simp[bU];omega)) fun e1=>ak (fun e=>P (by simp[bU];omega)) fun X=>?_);have hid:bU id=true:=by simp[bU];omega
 refine⟨b,rfl,p.2.2,g.cell rfl,?_⟩;refine(Sp.refl h).make af aB fX (by decide) 0 rfl rfl w w N N (ql _) (by omega) fun o h1 ao ah R=>?_;have z:=g.ai R.ai g.lt;refine⟨b,rfl,p,z.aO _ rfl,b,rfl,seed,z.cell rfl,(Bz p seed id h1).mono ?_⟩;rintro v h2 ⟨c,rfl,O⟩;rw[H,hid,vS,if_pos rfl,hn]at O;rw[hid,if_pos rfl];have J:=R.comp O;obtain⟨d,q⟩:∃d,d=de n seed id:=⟨_,rfl⟩
 have D:∀x∈d,0<=x/\x<(n:Int):=fun x T=>mG (by omega) (by omega) (by rw[<-q];exact T);have U:d.length<=n:=by rw[q];exact AV (by omega) (by omega) _ _
 rw[<-q]at J⊢;have Z:=(J.seq 1 rfl (fun _=>rfl)).len;refine⟨c,rfl,trivial,?_⟩;refine aw (fun i:Nat=>(i:Int)) (fun i h'=>i<=d.length/\Sp h h' [an aC o 1 aB (fv w M (d.take i)),an aT c 1 aD d]) (fun i=>d.length-i) 0 rfl ⟨by omega,J⟩ ?_;rintro i h3 ⟨E,l⟩;refine ak (fun e=>?_) (fun e=>?_)
 ·have j:i<d.length:=by omega
  have T:=D _ (qg j);refine(l.seq 1 rfl (fun _=>rfl)).bz i rfl j _ rfl ?_;have I:=g.ai l.ai g.lt;refine⟨b,rfl,m,I.cell rfl,?_⟩;obtain⟨a0,V⟩:=Y;refine(V.ai l.ai).get d[i].toNat (by omega) (by omega) fun r Q F=>?_;have u:=V.row _ r _ F (qd (show d[i].toNat<M.length by omega));obtain⟨row,f⟩:∃row,row=M[d[i].toNat]'(by omega):=⟨_,rfl⟩
  have ax:row.length=w:=by rw[f];exact W _ (qg _)
  rw[<-f]at Q u;obtain⟨S,G⟩:∃S,S=fv w M (d.take i):=⟨_,rfl⟩
  have ay:S.length=w:=by rw[G];exact pK W hl D i E
  have a1:=Q.len;have X:fv w M (d.take (i+1))=df 1 row S:=by rw[aJ _ _ j,Eb,G,f,bu (by omega)]
  rw[<-G]at l;refine aw (fun k:Nat=>(k:Int)) (fun k h'=>k<=w/\Sp h h' [an aC o 1 aB (zm (fun x y=>y^^^Gf.mul 1 x) (row.take k) (S.take k)++S.drop k),an aT c 1 aD d]) (fun k=>w-k) 0 rfl ⟨by omega,by simpa using l⟩ ?_;rintro k h4 ⟨hk,s⟩;have K:=u.ai s.ai;have ap:(zm (fun x y=>y^^^Gf.mul 1 x) (row.take k) (S.take k)++S.drop k).length=w:=by simp;omega
  refine ak (fun e3=>?_) (fun e3=>?_)
  ·have am:k<w:=by omega
   have B:(zm (fun x y=>y^^^Gf.mul 1 x) (row.take k) (S.take k)++S.drop k)[k]'(by omega)=S[k]'(by omega):=by
    have:=ahf (a:=row) (t:=S) (by omega) (show k<S.length by omega);rw[qd (by omega)]at this;exact zL.inj this
   refine K.bz k rfl (by omega) _ rfl ?_;refine(s.seq 0 rfl (fun _=>rfl)).bz k rfl (by omega) _ rfl ?_;rw[B,rn];refine s.set af 0 rfl (fun _=>rfl) rfl k rfl (by omega) _ rfl rfl rfl fun h5 H5=>?_;refine⟨k+1,by rw[wrap_small _ (by omega) (by omega)];rfl,⟨by omega,?_⟩,by omega⟩;rw[<-Wy (by omega) (show k<S.length by omega)];exact H5
  ·have L:k=w:=by omega
   subst L;rw[qi (by omega),qi (by omega),zg (by omega),qQ]at s;refine⟨i+1,by rw[wrap_small _ (by omega) (by omega)];rfl,⟨by omega,?_⟩,by omega⟩;rw[X];exact s
 ·rw[qi (by omega)]at l;exact⟨o,rfl,l.take 0 (fun i A E=>by cases i with|zero=>exact E|succ i=>simp at E)⟩
theorem _root_.Wl.bV.oF{p:Pm}{seed:Int}{d:Row}{K H w n:Nat}(B:bV p seed d K H w n):oF p seed d.length=0:=by
 rw[Go.Proofs.YtdhamoojccmbdaaGreatDoor.oF,B.may,B.full,B.len,B.k,B.s,decide_eq_true (by rw[wh])];rfl
theorem ahg{p:Pm}{seed:Int}{d:Row}{K H w n:Nat}(B:bV p seed d K H w n)(data:Sl)(h:Heap)(e:Rd h data 1 aB d)(a:data.len<=data.cap):
  ae xl Fo #[kA p,vX xj seed,vY data.ptr data.len data.cap] h fun v h'=>
   ∃(b:Addr) (m:Sl),v=.tuple #[vZ (some b),vX xh 0]/\Sp h h' [fP aH m 1 aB (eJ p seed d),aq b gd (La p seed m)]:=
 (adS p seed data d h e a).mono fun _ _ c=>c.1 B.oF
theorem _root_.Wl.bV.symbol{p:Pm}{seed:Int}{d:Row}{K H w n:Nat}(B:bV p seed d K H w n)(b:Addr)(id:Int)(h:Heap)(a:Pr h b p seed (eJ p seed d)):
  ae xl og #[vZ (some b),vX xh id] h fun v h'=>∃r:Sl,v=vY r.ptr r.len r.cap/\Sp h h' [an aC r 1 aB (if bU id then fv w (eJ p seed d) (de n seed id)else[])]:=
 Wz b p seed id _ n w h a B.may B.s B.pL B.sX.2 B.sX.1
def DB(s:EZ):List Value:=[.complex .f64 s.ax s.ay,.complex .f64 s.sx s.sy,vX xh s.left,vX xh s.leg,xf s.second]
theorem po{o:Option Nat}(h:o.isSome=true):o=some (o.getD 0):=by
 cases o with
 |none=>cases h
 |some x=>rfl
theorem Zg(h:Heap):ae xl OW #[] h fun v h'=>∃a:Addr,v=vZ (some a)/\Sp h h' [aq a fy (DB fs0)]:=by
 refine MM ?_;unfold FD;refine(Sp.refl h).boxed (t:=fy) fun a c b=>?_;exact⟨a,rfl,b⟩
theorem abI(a b:Nat)(h:Heap)(g:(gx.mul a 0).isSome=true)(f:(gx.mul b pM).isSome=true)(h3:(gx.sub (uc a 0) (uc b pM)).isSome=true)(d:(gx.mul a pM).isSome=true)(i:(gx.mul b 0).isSome=true)(c:(gx.add (uc a pM) (uc b 0)).isSome=true):
  ae xl RC #[.complex .f64 a b,vX xh 1] h fun v h'=>v=.complex .f64 (tx a b) (ty a b)/\h'=h:=by
 refine Pc (a,b) 1 ?_;unfold HS;refine⟨by decide,by decide,?_⟩;refine aw (fun k:Nat=>(if k=0 then(a,b)else(tx a b,ty a b),(k:Int))) (fun k h'=>k<=1/\h'=h) (fun k=>1-k) 0 rfl ⟨by omega,rfl⟩ ?_;rintro k h' ⟨l,rfl⟩;have j:zX (qc xh (zX 1 4+4)) 4=1:=by decide
 dsimp only;rw[j];refine ak (fun e=>?_) (fun e=>?_)
 ·have:k=0:=by omega
  subst this;refine⟨(tx a b,ty a b),afz (po g) (po f) (po h3) (po d) (po i) (po c),?_⟩;exact⟨1,rfl,⟨by omega,rfl⟩,by omega⟩
 ·have:k=1:=by omega
  subst this;exact⟨rfl,rfl⟩
theorem adT(a:Addr)(s:EZ)(h:Heap)(g:cy h a fy (DB s))(c:s.ok=true):ae xl HG #[vZ (some a)] h fun v h'=>v=.tuple #[]/\cy h' a fy (DB s.on)/\aU (fun b=>b≠a.block) h h':=by
 simp only[EZ.ok,qz,decide_eq_true_eq]at c;obtain⟨⟨⟨⟨⟨⟨⟨⟨⟨⟨⟨F,G⟩,I⟩,t⟩,B⟩,w⟩,D⟩,z⟩,P⟩,A⟩,y⟩,K⟩:=c;refine Gc (some a) ?_;unfold uu;have J:aa (fun b=>b<h.size/\¬b=a.block) h h [aq a fy (DB s)]:=.aah (fun b=>b=a.block) (fun b m=>by rw[m];exact g.lt) ⟨g,rfl⟩;have fin:∀{h':Heap},aa (fun b=>b<h.size/\¬b=a.block) h h' [aq a fy (DB s.on)]->Value.tuple #[]=.tuple #[]/\cy h' a fy (DB s.on)/\aU (fun b=>b≠a.block) h h':=fun H=>
  ⟨rfl,H.box 0 rfl,H.ai.1,fun k p i=>H.ai.2 k p ⟨p,i⟩⟩
 refine⟨a,rfl,(s.ax,s.ay),g.cell0 rfl,a,rfl,(s.sx,s.sy),g.cell rfl,(oC s.ax s.sx,oC s.ay s.sy),afx (po F) (po G),a,rfl,?_⟩;refine J.jS af 0 rfl rfl [.complex .f64 (oC s.ax s.sx) (oC s.ay s.sy)] rfl rfl rfl (by simp[DB]) fun M r=>⟨trivial,?_⟩
 refine⟨a,rfl,s.left,(r.box 0 rfl).cell (j:=2) rfl,a,rfl,?_⟩;rw[Go.Vc.wrap_small (s.left-1) (by omega) (by omega)];refine r.storeAt af 0 rfl rfl (off:=2) rfl rfl rfl (by simp[DB]) fun u f=>?_;refine⟨a,rfl,s.left-1,(f.box 0 rfl).cell (j:=2) rfl,?_⟩;refine ak (fun e=>?_) (fun e=>?_)
 ·have n:DB s.on=[.complex .f64 (oC s.ax s.sx) (oC s.ay s.sy),.complex .f64 s.sx s.sy,vX xh (s.left-1),vX xh s.leg,xf s.second]:=by rw[EZ.on,if_pos e];rfl
  refine fin ?_;rw[n];exact f
 ·refine⟨a,rfl,(s.sx,s.sy),(f.box 0 rfl).cell (j:=1) rfl,(abI s.sx s.sy u I t B w D z).mono ?_⟩;rintro v h3 ⟨rfl,rfl⟩;refine⟨(tx s.sx s.sy,ty s.sx s.sy),rfl,a,rfl,?_⟩;refine f.storeAt af 0 rfl rfl (off:=1) rfl rfl rfl (by simp[DB]) fun Q d=>?_;refine co (fun _ h'=>aa (fun b=>b<h.size/\¬b=a.block) h h' [aq a fy [.complex .f64 (oC s.ax s.sx) (oC s.ay s.sy),.complex .f64 (tx s.sx s.sy) (ty s.sx s.sy),vX xh (s.left-1),vX xh (if s.second then s.leg+1 else s.leg),xf s.second]]) ?_ ?_
  ·refine⟨a,rfl,s.second,(d.box 0 rfl).cell (j:=4) rfl,bs (fun l=>?_) (fun l=>?_)⟩
   ·refine⟨a,rfl,s.leg,(d.box 0 rfl).cell (j:=3) rfl,a,rfl,?_⟩;rw[Go.Vc.wrap_small (s.leg+1) (by omega) (by omega)];refine d.storeAt af 0 rfl rfl (off:=3) rfl rfl rfl (by simp[DB]) fun N E=>?_;rw[if_pos l];exact E
   ·rw[if_neg (by rw[l];decide)];exact d
  ·rintro _ O o;refine⟨a,rfl,s.second,(o.box 0 rfl).cell (j:=4) rfl,a,rfl,?_⟩;refine o.storeAt af 0 rfl rfl (off:=4) rfl rfl rfl (by simp) fun L q=>?_;refine⟨a,rfl,_,(q.box 0 rfl).cell (j:=3) rfl,a,rfl,?_⟩;refine q.storeAt af 0 rfl rfl (off:=2) rfl rfl rfl (by simp) fun h8 x=>?_;have n:DB s.on=[.complex .f64 (oC s.ax s.sx) (oC s.ay s.sy),.complex .f64 (tx s.sx s.sy) (ty s.sx s.sy),vX xh (if s.second then s.leg+1 else s.leg),vX xh (if s.second then s.leg+1 else s.leg),xf (!s.second)]:=by rw[EZ.on,if_neg e];rfl
   refine fin ?_;rw[n];exact x
theorem Xy(n:Nat)(h:Heap)(l:n<64):ae xl VN #[vX xh n] h fun v h'=>v=.complex .f64 (kz n).ax (kz n).ay/\Sp h h' []:=by
 refine TL n ?_;unfold MB;refine ak (fun e=>by omega) fun _=>ak (fun e=>by omega) fun _=>?_;refine(Zg h).mono ?_;rintro v j ⟨a,rfl,g⟩;refine⟨some a,rfl,?_⟩;refine aw (fun k:Nat=>(k:Int)) (fun k h'=>k<=n/\Sp h h' [aq a fy (DB (kz k))]) (fun k=>n-k) 0 rfl ⟨by omega,g⟩ ?_;rintro k f ⟨i,b⟩;refine cw (fun e=>?_) (fun e=>?_)
 ·have:k=n:=by omega
  subst this;exact⟨a,rfl,((kz k).ax,(kz k).ay),(b.box 0 rfl).cell0 rfl,rfl,.zip b.ai⟩
 ·refine(adT a (kz k) f (b.box 0 rfl) (ahK k (by omega))).mono ?_;rintro v h3 ⟨rfl,d,c⟩;refine⟨(),rfl,k+1,by rw[Go.Vc.wrap_small _ (by omega) (by omega)];rfl,⟨by omega,b.CD 0 rfl c d⟩,by omega⟩
theorem Qu{a b:Int}(e:-4<=a)(d:a<=4)(h3:-4<=b)(c:b<=4):gx.sub (cR a) (cR b)=some (cR (a-b)):=by
 have:=agI (a+4).toNat (by omega) (b+4).toNat (by omega);rw[show((a+4).toNat:Int)-4=a by omega,show((b+4).toNat:Int)-4=b by omega,show((a+4).toNat:Int)-((b+4).toNat:Int)=a-b by omega]at this;exact this
theorem Qv{a:Int}(c:-8<=a)(b:a<=8):gx.mul (cR a) (cR a)=some (cR (a*a)):=by
 have:=agJ (a+8).toNat (by omega);rw[show((a+8).toNat:Int)-8=a by omega]at this;exact this
theorem Uz(a:Int):((a.natAbs:Nat):Int)*(a.natAbs:Nat)=a*a:=Int.natAbs_mul_self
theorem abJ{a b:Int}(e:-8<=a)(d:a<=8)(h3:-8<=b)(c:b<=8):gx.add (cR (a*a)) (cR (b*b))=some (cR (a*a+b*b)):=by
 have:=agK a.natAbs (by omega) b.natAbs (by omega);rw[Uz,Uz]at this;exact this
def Ij(i j:Nat):Int:=((fE i).x-(fE j).x)*((fE i).x-(fE j).x)+((fE i).y-(fE j).y)*((fE i).y-(fE j).y)
theorem aeZ{a:Int}(c:-8<=a)(b:a<=8):0<=a*a/\a*a<=64:=by
 rw[<-Uz,<-wh];have:a.natAbs*a.natAbs<=8*8:=we (by omega) (by omega);omega
theorem BA{n:Nat}(h:n<64):(kz n).ax=cR (fE n).x/\(kz n).ay=cR (fE n).y/\-4<=(fE n).x/\(fE n).x<=4/\-4<=(fE n).y/\(fE n).y<=4:=by
 have:=agH n h;simp only[qz,decide_eq_true_eq,beq_iff_eq]at this;obtain⟨⟨⟨⟨⟨a,b⟩,c⟩,d⟩,e⟩,f⟩:=this;exact⟨a,b,c,d,e,f⟩
theorem abK{i j:Nat}(c:i<64)(d:j<64):0<=Ij i j/\Ij i j<=128:=by
 have a:=BA c;have b:=BA d;have f:=aeZ (a:=(fE i).x-(fE j).x) (by omega) (by omega);have e:=aeZ (a:=(fE i).y-(fE j).y) (by omega) (by omega);unfold Ij;omega
theorem adU(i j:Nat)(h:Heap)(d:i<64)(e:j<64):ae xl TM #[.complex .f64 (kz i).ax (kz i).ay,.complex .f64 (kz j).ax (kz j).ay] h fun v h'=>v=.float .f64 (cR (Ij i j))/\h'=h:=by
 have a:=BA d;have b:=BA e;refine Rn ((kz i).ax,(kz i).ay) ((kz j).ax,(kz j).ay) ?_;unfold JN;have f:gx.sub (kz i).ax (kz j).ax=some (cR ((fE i).x-(fE j).x)):=by rw[a.1,b.1];exact Qu (by omega) (by omega) (by omega) (by omega)
 have c:gx.sub (kz i).ay (kz j).ay=some (cR ((fE i).y-(fE j).y)):=by rw[a.2.1,b.2.1];exact Qu (by omega) (by omega) (by omega) (by omega)
 refine⟨(cR ((fE i).x-(fE j).x),cR ((fE i).y-(fE j).y)),afy f c,_,Qv (by omega) (by omega),_,Qv (by omega) (by omega),_,abJ (by omega) (by omega) (by omega) (by omega),rfl,rfl⟩
abbrev afa:bN C.toCB oD aT 1 [vX xh 0] 8:=⟨_,_,rfl,rfl,rfl,rfl,rfl,rfl⟩
def na(a b:Int):Int:=if a<b then-1 else if a>b then 1 else 0
theorem UA(m:Nat)(h:Heap)(a:m<129):ae xl EB #[.float .f64 (cR (m:Nat))] h fun v h'=>v=xf false/\h'=h:=by
 refine Dj _ ?_;unfold rO;have:=aaM m a m a;rw[show(FloatKind.format .f64).order (cR (m:Nat)) (cR (m:Nat))=some (compare m m)from this,Nat.compare_eq_eq.2 rfl];exact⟨rfl,rfl⟩
theorem abL(m n:Nat)(h:Heap)(b:m<129)(c:n<129):ae xl Cg #[.float .f64 (cR (m:Nat)),.float .f64 (cR (n:Nat))] h fun v h'=>v=vX xh (na m n)/\h'=h:=by
 refine AK _ _ ?_;unfold oY;refine(UA m h b).mono ?_;rintro v a ⟨rfl,rfl⟩;refine⟨_,rfl,(UA n a c).mono ?_⟩;rintro v f ⟨rfl,rfl⟩;refine⟨_,rfl,bs (fun e=>by cases e) fun _=>bs (fun e=>by cases e) fun _=>?_⟩;have d:(FloatKind.format .f64).order (cR (m:Nat)) (cR (n:Nat))=some (compare m n):=aaM m b n c;rw[d];rcases yg m n with a|a|a
 ·rw[Nat.compare_eq_lt.2 a];refine bs (fun _=>⟨by rw[na,if_pos (by omega)],rfl⟩) (fun e=>by cases e)
 ·subst a;rw[Nat.compare_eq_eq.2 rfl];refine bs (fun e=>by cases e) fun _=>bs (fun e=>by cases e) fun _=>⟨by rw[na,if_neg (by omega),if_neg (by omega)],rfl⟩
 ·rw[Nat.compare_eq_gt.2 a];refine bs (fun e=>by cases e) fun _=>bs (fun _=>⟨by rw[na,if_neg (by omega),if_pos (by omega)],rfl⟩) (fun e=>by cases e)
theorem Qw(m:Int)(h:Heap):ae xl xZ #[vX xh m] h fun v h'=>v=xf false/\h'=h:=by
 refine uv _ ?_;unfold re;exact⟨by simp,rfl⟩
theorem abM(m n:Int)(h:Heap):ae xl tz #[vX xh m,vX xh n] h fun v h'=>v=vX xh (na m n)/\h'=h:=by
 refine rL _ _ ?_;unfold nN;refine(Qw m h).mono ?_;rintro v b ⟨rfl,rfl⟩;refine⟨_,rfl,(Qw n b).mono ?_⟩;rintro v c ⟨rfl,rfl⟩;refine⟨_,rfl,bs (fun e=>by cases e) fun _=>bs (fun e=>by cases e) fun _=>?_⟩;refine ak (fun e=>⟨by rw[na,if_pos e],rfl⟩) fun e=>ak (fun a=>⟨by rw[na,if_neg e,if_pos a],rfl⟩) fun a=>⟨by rw[na,if_neg e,if_neg a],rfl⟩
def Xz(a b:Int):Int:=if a≠0 then a else b
theorem afQ(s:Sl)(a b:Int)(h:Heap)(f:Rd h s 1 aD [a,b]):ae xl Ro #[vY s.ptr s.len s.cap] h fun v h'=>v=vX xh (Xz a b)/\h'=h:=by
 refine De s ?_;unfold xW;have m:s.len=2:=f.len;refine aw (fun k:Nat=>(k:Int)) (fun k h'=>h'=h/\k<=2/\(1<=k->a=0)/\(2<=k->b=0)) (fun k=>2-k) 0 rfl ⟨rfl,by omega,by omega,by omega⟩ ?_;rintro k h' ⟨rfl,l,g,i⟩;refine ak (fun e=>?_) (fun e=>?_)
 ·rcases(show k=0∨k=1 by omega)with rfl|rfl
  ·refine f.bz 0 rfl (by simp) a rfl ?_;refine ci (fun c=>⟨by rw[Xz,if_pos c],rfl⟩) (fun c=>?_);exact⟨1,rfl,⟨rfl,by omega,fun _=>c,by omega⟩,by omega⟩
  ·refine f.bz 1 rfl (by simp) b rfl ?_;have d:=g (by omega);refine ci (fun c=>⟨by rw[Xz,if_neg (by simp[d])],rfl⟩) (fun c=>?_);exact⟨2,rfl,⟨rfl,by omega,fun _=>d,fun _=>c⟩,by omega⟩
 ·have d:=g (by omega);have j:=i (by omega);exact⟨by rw[Xz,if_neg (by simp[d]),j],rfl⟩
abbrev Fr:=Int×Fin 129
def Aj(x:Fr):List Value:=[vX xh x.1,.float .f64 (cR ((x.2:Nat):Int))]
def Ak(x y:Fr):Int:=Xz (na (x.2:Nat) (y.2:Nat)) (na x.1 y.1)
theorem UB(x y:Fr)(h:Heap):ae xl lA #[xg (Aj x).toArray,xg (Aj y).toArray] h fun v h'=>v=vX xh (Ak x y)/\aU (fun b=>b<h.size) h h':=by
 refine Jk (x.1,cR ((x.2:Nat):Int)) (y.1,cR ((y.2:Nat):Int)) ?_;unfold Bq;refine(Sp.refl h).boxed (t:=jh) fun a i g=>?_;refine g.boxed (t:=jh) fun b e c=>?_;refine⟨_,(c.box 0 rfl).cell (j:=1) rfl,_,(c.box 1 rfl).cell (j:=1) rfl,_,(c.box 0 rfl).cell0 rfl,_,(c.box 1 rfl).cell0 rfl,?_⟩;refine(abL x.2 y.2 e x.2.isLt y.2.isLt).mono ?_;rintro v h3 ⟨rfl,rfl⟩;refine⟨_,rfl,⟨(c.box 1 rfl).cell0 rfl,(c.box 0 rfl).cell0 rfl,trivial⟩,(abM _ _ h3).mono ?_⟩;rintro v l ⟨rfl,rfl⟩;refine⟨_,rfl,trivial,?_⟩;refine c.lit af aD afa rfl [na (x.2:Nat) (y.2:Nat),na x.1 y.1] rfl (show 2*1<=2^20 by decide) rfl fun s f d=>⟨trivial,?_⟩
 refine(afQ s _ _ f (d.seq 2 rfl (fun _=>rfl))).mono ?_;rintro v k ⟨rfl,rfl⟩;exact⟨_,rfl,trivial,rfl,d.ai⟩
theorem XA{a b:Int}:na a b<0↔a<b:=by unfold na;split<;>(try split)<;>omega
theorem Qx{a b:Int}:na a b=0↔a=b:=by unfold na;split<;>(try split)<;>omega
theorem afb{x y:Fr}:ltOf Ak x y=true↔((x.2:Nat):Int)<(y.2:Nat)∨(((x.2:Nat):Int)=(y.2:Nat)/\x.1<y.1):=by
 have h0:ltOf Ak x y=true↔Ak x y<0:=by simp[ltOf]
 rw[h0,Ak,Xz];by_cases h:na (x.2:Nat) (y.2:Nat)=0
 ·rw[if_neg (by simp[h]),XA];have:=Qx.1 h;constructor
  ·exact fun a=>.inr ⟨this,a⟩
  ·rintro(a|a)
   ·omega
   ·exact a.2
 ·rw[if_pos h,XA];have b:((x.2:Nat):Int)≠(y.2:Nat):=fun e=>h (Qx.2 e);constructor
  ·exact .inl
  ·rintro(a|a)
   ·exact a
   ·exact absurd a.1 b
theorem Ik{x y:Fr}:ltOf Ak x y=false↔¬(((x.2:Nat):Int)<(y.2:Nat)∨(((x.2:Nat):Int)=(y.2:Nat)/\x.1<y.1)):=by
 rw[<-afb];simp
theorem ahh:Sort.SWO (ltOf Ak) where
 irrefl x:=Ik.2 (by omega)
 trans x y z h1 h2:=by rw[afb]at*;omega
 ntrans x y z h1 h2:=by rw[Ik]at*;omega
theorem ahi(x y:Fr)(a:ltOf Ak x y=false)(b:ltOf Ak y x=false):x=y:=by
 rw[Ik]at a b;refine yT (by omega) (Fin.ext (by omega))
theorem UC{e:TypeId}{s:Sl}{l:List Fr}{h:Heap}(i:Own h e s 2 Aj l)(a:l.length<2^40):
  ae xl gY #[vY s.ptr s.len s.cap,.func (.func lA) #[] #[]] h fun v h'=>v=.tuple #[]/\Own h' e s 2 Aj (l.mergeSort fun x y=>!(ltOf Ak) y x)/\aU (fun b=>¬s.on b) h h':=by
 have d:∀x:Fr,(Aj x).length=2:=fun _=>rfl;refine QP (P:=xl) (id_:=gY) (g:=lA) (enc:=Aj) (k:=2) (cf:=Ak) d ?_ ?_ (fun x y h=>UB x y h) i a
 ·intro fp cap l w f n m j;have:=AnyQ.slices_SortFunc_total Tryz.Xt 2 Tryz.agR Tryz.afF Aj (fun _=>rfl) (fun x v c=>by simp[Aj]at c;rcases c with rfl|rfl<;>rfl) Ak ahh lA #[] fp 0 cap l.toArray w (enters_of Tryz.afG (by kernel_rfl) rfl) (by simpa using f) n m (by simpa using j) ahi;simp at this;exact this
 ·intro p cap w;exact AnyF.slices_SortFunc_none Tryz.Xt p cap _ w
def Al(a:List Int)(n:Int):List Int:=if 0<=n/\n<64/\a.contains n=false then a++[n]else a
def gV(l:List Int):List Int:=l.foldl Al []
theorem BB(l:List Int){k:Nat}(a:k<l.length):gV (l.take (k+1))=Al (gV (l.take k)) l[k]:=by
 rw[gV,aJ _ _ a,wM];rfl
theorem UD(l:List Int):∀k,k<=l.length->∀x,x∈gV (l.take k)↔x∈l.take k/\0<=x/\x<64
 |0,_,x=>by simp[gV]
 |k+1,hk,x=>by
  have c:=UD l k (by omega);rw[BB l (by omega),aJ _ _ (show k<l.length by omega),Al];by_cases h:0<=l[k]/\l[k]<64/\(gV (l.take k)).contains l[k]=false
  ·rw[if_pos h,qB,qB,qH,c x];constructor
   ·rintro(a|rfl)
    ·exact⟨.inl a.1,a.2⟩
    ·exact⟨.inr rfl,h.1,h.2.1⟩
   ·rintro⟨a|a,b⟩
    ·exact .inl ⟨a,b⟩
    ·exact .inr a
  ·rw[if_neg h,qB,qH,c x];constructor
   ·rintro a;exact⟨.inl a.1,a.2⟩
   ·rintro⟨a|rfl,b⟩
    ·exact⟨a,b⟩
    ·have:(gV (l.take k)).contains l[k]=true:=by
      cases hc:(gV (l.take k)).contains l[k]with
      |true=>rfl
      |false=>exact absurd ⟨b.1,b.2,hc⟩ h
     exact(c _).1 (by simpa using this)
theorem Np(l:List Int):∀k,k<=l.length->(gV (l.take k)).Nodup
 |0,_=>by simp[gV]
 |k+1,hk=>by
  have c:=Np l k (by omega);rw[BB l (by omega),Al];split
  ·rename_i h;rw[List.nodup_append];refine⟨c,by simp,fun a d b e=>?_⟩;rw[qH.1 e];rintro rfl;have:=h.2.2;rw[List.contains_eq_mem]at this;simp[d]at this
  ·exact c
theorem adV(l:List Int)(k:Nat):(gV (l.take k)).length<=k:=by
 induction k with
 |zero=>simp[gV]
 |succ k ih=>
  by_cases a:k<l.length
  ·rw[BB l a,Al];split
   ·simp;omega
   ·omega
  ·rw[qi (by omega)]at ih⊢;omega
def EI(c:Nat)(n:Int):Fr:=(n,Fin.ofNat 129 (Ij n.toNat c).toNat)
theorem ahj{c:Nat}{n:Int}(a:c<64)(d:0<=n)(b:n<64):(((EI c n).2:Nat):Int)=Ij n.toNat c:=by
 have:=abK (i:=n.toNat) (j:=c) (by omega) a;show(((Ij n.toNat c).toNat%129:Nat):Int)=_;omega
def tJ(c:Nat)(l:List Int):List Int:=(((gV l).map (EI c)).mergeSort fun x y=>!(ltOf Ak) y x).map (·.1)
def gh(a block:Int)(l:List Int):List Int:=if 0<=a/\a<=16777215/\0<=block/\block<8 then tJ ((8*a+block)%64).toNat l else[]
def sQ(a:List Int):List Value:=(qC 64).map fun i:Nat=>xf (a.contains (i:Int))
theorem afR(a:List Int){n:Int}(c:0<=n)(b:n<64):(sQ a)[n.toNat]?=some (xf (a.contains n)):=by
 rw[sQ,qP,zt (by omega),qN,show((n.toNat:Nat):Int)=n by omega]
theorem adW(a:List Int){n:Int}(d:0<=n)(c:n<64):(sQ a).set n.toNat (xf true)=sQ (a++[n]):=by
 apply zK;intro i;rw[q8,sQ,sQ,qP,qP,qx,zw];by_cases b:i<64
 ·rw[zt b,qN,qN];by_cases h:n.toNat=i
  ·rw[if_pos h,if_pos (by omega),show((i:Nat):Int)=n by omega];simp
  ·rw[if_neg h];have:(a++[n]).contains (i:Int)=a.contains (i:Int):=by
    rw[List.contains_eq_mem,List.contains_eq_mem];simp;omega
   rw[this]
 ·rw[if_neg (by omega),zf (by simp;omega)];rfl
abbrev eFr:bN C.toCB Oq jh 2 [vX xh 0,.float .f64 0] 16:=⟨_,_,rfl,rfl,rfl,rfl,rfl,rfl⟩
theorem ahk:∀x,∀c∈Aj x,c.oneCell'=true:=by
 intro x c a;simp[Aj]at a;rcases a with rfl|rfl<;>rfl
theorem WA(b block:Int)(live:Sl)(l:List Int)(h:Heap)(T:Rd h live 1 aD l)(ab:l.length<=2^30):
  ae xl OD #[vX xh b,vX xh block,vY live.ptr live.len live.cap] h fun v h'=>∃r:Sl,v=vY r.ptr r.len r.cap/\Sp h h' [an aT r 1 aD (gh b block l)]:=by
 have ad:=T.len;refine Mo b block live ?_;unfold Fp;have G:¬(0<=b/\b<=16777215/\0<=block/\block<8)->∃r:Sl,Value.slice none 0 0=vY r.ptr r.len r.cap/\Sp h h [an aT r 1 aD (gh b block l)]:=fun N=>by
  rw[gh,if_neg N];exact⟨⟨none,0,0⟩,rfl,(Sp.refl h).nil aT 1 aD⟩
 refine aX (ak (fun e=>G (by omega)) fun e1=>ak (fun e=>G (by omega)) fun e2=>ak (fun e=>G (by omega)) fun e3=>ak (fun e=>G (by omega)) fun e4=>?_);have S:0<=b/\b<=16777215/\0<=block/\block<8:=by omega
 rw[gh,if_pos S];rw[Go.Vc.wrap_small (8*b) (by omega) (by omega),Go.Vc.wrap_small (8*b+block) (by omega) (by omega),yx (by omega)];obtain⟨c,W⟩:∃c:Nat,(8*b+block)%64=c:=⟨((8*b+block)%64).toNat,by omega⟩
 have j:c<64:=by omega
 rw[W,qo];refine⟨by decide,(Xy c h j).mono ?_⟩;rintro v h2 ⟨rfl,Y⟩;refine⟨((kz c).ax,(kz c).ay),rfl,?_⟩;refine Y.alloc af rfl fun a h3 H3=>?_;have K:Sp h h3 [aq a Hb (sQ []),an jh ⟨none,0,0⟩ 2 Aj []]:=H3.nil jh 2 Aj;refine aw (fun t:Sl×Nat=>(t.1,(t.2:Int))) (fun t h'=>t.2<=l.length/\Sp h h' [aq a Hb (sQ (gV (l.take t.2))),an jh t.1 2 Aj ((gV (l.take t.2)).map (EI c))]) (fun t=>l.length-t.2) (⟨none,0,0⟩,0) rfl ⟨by simp,K⟩ ?_;rintro⟨s,k⟩ h4 ⟨hk,m⟩;dsimp only at*;have z:=adV l k;refine ak (fun e=>?_) (fun e=>?_)
 ·have E:k<l.length:=by omega
  have H:=BB l E;obtain⟨f,B⟩:∃f,f=gV (l.take k):=⟨_,rfl⟩
  rw[<-B]at m z H;refine(Seq.up T m.ai).bz k rfl E _ rfl ?_;obtain⟨x,hx⟩:∃x,x=l[k]:=⟨_,rfl⟩
  rw[<-hx]at H⊢;refine co (fun t h'=>(t=true↔0<=x/\x<64/\f.contains x=false)/\h'=h4) ?_ ?_
  ·refine ak (fun p=>ak (fun q=>?_) (fun q=>⟨⟨fun e=>(by cases e),fun D=>absurd D.2.1 q⟩,rfl⟩)) (fun p=>⟨⟨fun e=>(by cases e),fun D=>absurd D.1 p⟩,rfl⟩);refine⟨⟨p,q⟩,f.contains x,?_,?_,rfl⟩
   ·rw[wJ];exact(m.box 0 rfl).cell (afR f p q)
   ·cases f.contains x<;>simp<;>omega
  ·rintro t Z ⟨V,rfl⟩;refine bs (fun e=>?_) (fun e=>?_)
   ·obtain⟨p,q,x2⟩:=V.1 e;refine⟨⟨p,q⟩,?_⟩;rw[wJ];refine m.storeAt af 0 rfl rfl rfl rfl rfl (by simp[sQ];omega) fun Q u=>?_;have O:Sp h Q [aq a Hb (sQ (f++[x])),an jh s 2 Aj (f.map (EI c))]:=by
     rw[<-adW f p q];exact u
    obtain⟨n,N⟩:∃n:Nat,x=n:=⟨x.toNat,by omega⟩
    subst N;refine(Xy n Q (by omega)).mono ?_;rintro v U ⟨rfl,R7⟩;refine⟨((kz n).ax,(kz n).ay),rfl,(adU n c U (by omega) j).mono ?_⟩;rintro v h8 ⟨rfl,rfl⟩;have F:=O.up R7.ai;have ev:cR (Ij n c)=cR (((EI c (n:Int)).2:Nat):Int):=by rw[ahj j (by omega) (by omega),qo]
    refine⟨_,rfl,?_⟩;rw[ev];refine F.push af 1 rfl eFr rfl (by decide) (fun _=>rfl) ahk (EI c (n:Int)) rfl (by decide) (by simp;omega) fun s' h9 P=>?_;refine⟨(s',k+1),by dsimp only;rw[Go.Vc.wrap_small _ (by omega) (by omega)];rfl,⟨by dsimp only;omega,?_⟩,by dsimp only;omega⟩;dsimp only;rw[H,Al,if_pos ⟨p,q,x2⟩,qS];exact P
   ·refine⟨(s,k+1),by dsimp only;rw[Go.Vc.wrap_small _ (by omega) (by omega)];rfl,⟨by dsimp only;omega,?_⟩,by dsimp only;omega⟩;dsimp only;rw[H,Al,if_neg (fun D=>by rw[V.2 D]at e;cases e)];exact m
 have J:k=l.length:=by omega
 subst J;rw[qR]at m z;refine(UC (m.own 1 rfl) (by simp;omega)).mono ?_;rintro v Z ⟨rfl,M,L⟩;have R:=m.oI 1 rfl L M;obtain⟨d,g⟩:∃d,d=((gV l).map (EI c)).mergeSort fun x y=>!(ltOf Ak) y x:=⟨_,rfl⟩
 have X:d.length=(gV l).length:=by rw[g,wx,qx]
 have eo:tJ c l=d.map (·.1):=by rw[tJ,<-g]
 rw[<-g]at R;have ah:=(R.own 1 rfl).len;rw[eo];refine⟨(),rfl,?_⟩;refine aw (fun t:Sl×Nat=>(t.1,(t.2:Int))) (fun t h'=>t.2<=d.length/\Sp h h' [an jh s 2 Aj d,an aT t.1 1 aD ((d.take t.2).map (·.1))]) (fun t=>d.length-t.2) (⟨none,0,0⟩,0) rfl ⟨by simp,(R.del 0).nil aT 1 aD⟩ ?_;rintro⟨o,i⟩ Q ⟨I,u⟩;dsimp only at*;refine ak (fun e=>?_) (fun e=>?_)
 ·have w:i<d.length:=by omega
  refine(u.seq 0 rfl (fun _=>rfl)).dI i rfl w (d[i].1,cR ((d[i].2:Nat):Int)) rfl ?_;refine u.alloc af rfl fun y U H7=>?_;refine H7.storeAll af 2 rfl rfl [vX xh d[i].1,.float .f64 (cR ((d[i].2:Nat):Int))] rfl rfl rfl rfl fun h8 F=>?_;refine⟨d[i].1,(F.box 2 rfl).cell0 rfl,?_⟩;refine F.push af 1 rfl afa rfl (by decide) (fun _=>rfl) jp d[i].1 rfl (by decide) (by simp;omega) fun o' h9 P=>?_;refine⟨(o',i+1),by dsimp only;rw[Go.Vc.wrap_small _ (by omega) (by omega)];rfl,⟨by dsimp only;omega,?_⟩,by dsimp only;omega⟩;dsimp only;rw[aJ _ _ w,qS];exact P.del 2
 ·rw[qi (by omega)]at u;exact⟨o,rfl,u.take 1 (fun i A I=>by cases i with|zero=>exact I|succ i=>simp at I)⟩
theorem adX(l:List Int)(x:Int):x∈gV l↔x∈l/\0<=x/\x<64:=by
 have:=UD l l.length (ql _) x
 rwa [qR]at this
theorem afS(l:List Int):(gV l).Nodup:=by
 have:=Np l l.length (ql _)
 rwa [qR]at this
theorem Nq(c:Nat)(l:List Int):(tJ c l).Perm (gV l):=by
 have h:=(yn ((gV l).map (EI c)) fun x y=>!(ltOf Ak) y x).map (·.1);rw[wS]at h;have e:((fun x:Fr=>x.1)∘EI c)=id:=rfl;rw[e,List.map_id]at h;exact h
theorem Qy(c:Nat)(l:List Int)(x:Int):x∈tJ c l↔x∈l/\0<=x/\x<64:=by rw[(Nq c l).mem_iff,adX]
theorem adY(c:Nat)(l:List Int):(tJ c l).Nodup:=(Nq c l).nodup_iff.2 (afS l)
def RY(l:List Int)(i:Nat):Int:=l.getD i 0
def rp(o:List Int)(id:Int):Int:=if o=[]∨id<0 then-1 else RY o (id%(o.length:Int)).toNat
theorem afT(s:Sl)(o:List Int)(id:Int)(h:Heap)(f:Rd h s 1 aD o):ae xl VK #[vY s.ptr s.len s.cap,vX xh id] h fun v h'=>v=vX xh (rp o id)/\h'=h:=by
 have g:=f.len;refine TF s id ?_;unfold Mp;refine aX (cw (fun e=>⟨by rw[rp,if_pos (.inl (qX (by omega)))],rfl⟩) fun e=>ak (fun c=>⟨by rw[rp,if_pos (.inr c)],rfl⟩) fun c=>?_);refine⟨e,?_⟩;have b:¬(o=[]∨id<0):=by
  rintro(rfl|h2)
  ·simp at g;omega
  ·exact c h2
 have d:zX id ((s.len:Nat):Int)=((id%(o.length:Int)).toNat:Int):=by
  rw[yx (by omega),g];have:=yk id (show(o.length:Int)≠0 by omega);omega
 have a:(id%(o.length:Int)).toNat<o.length:=by
  have:=wC id (show(0:Int)<o.length by omega);omega
 rw[d];refine f.bz _ rfl a _ rfl ⟨?_,rfl⟩;rw[rp,if_neg b,RY,qe,qd a];rfl
def Am(p:Pm)(seed:Int)(d:Row)(id:Int):List UInt8:=if bU id then fv p.2.2.toNat (eJ p seed d) (de (bZ p).toNat seed id)else[]
def kw(m:aE)(o b seed:Int)(d:Row)(id:Int):cT:=⟨o,b,id,m.p,seed,Am m.p seed d id⟩
def Nr(m:aE)(o b seed:Int)(d:Row)(a:List Int)(id:Int):Int×List UInt8:=(rp a id,dN (kw m o b seed d id))
def nc(m:aE)(o:Int)(a:List Int)(b:List (List UInt8))(live:List Int)(i:Nat):List (Int×List UInt8):=
 (qC (m.p.1+m.extra).toNat).map fun id:Nat=>Nr m o i (cJ o i (a.getD i 0)) (b.getD i []) (gh o i live) id
def db(m:aE)(o:Int)(a:List Int)(b:List (List UInt8))(live:List Int)(n:Nat):List (Int×List UInt8):=(qC n).flatMap (nc m o a b live)
theorem uj(m:aE)(o:Int)(a:List Int)(b:List (List UInt8))(live:List Int)(n:Nat):db m o a b live (n+1)=db m o a b live n++nc m o a b live n:=by
 unfold db;rw[zI,zc,zl,wj,qQ]
theorem EJ(m:aE)(o:Int)(a:List Int)(b:List (List UInt8))(live:List Int)(i:Nat):(nc m o a b live i).length=(m.p.1+m.extra).toNat:=by simp[nc]
theorem An(m:aE)(o:Int)(a:List Int)(b:List (List UInt8))(live:List Int):∀n,(db m o a b live n).length=n*(m.p.1+m.extra).toNat
 |0=>by simp[db]
 |n+1=>by rw[uj,qw,An m o a b live n,EJ,zJ]
theorem jn(o b t:Int):0<=cJ o b t/\cJ o b t<4294967296:=by unfold cJ;omega
section
variable {B:aA} {h0 h:Heap} {As:List HP} {a pw:Addr} {offs:Int} {da:List (Option Addr)} {w:Pow} {ds:aW}
theorem RJ(x:cv)(m:aE)(xe:dZ)(e:Wl.bY)(s:Sl)(b:List UInt8)(hS:St B h0 As fun h=>ff h x m/\fG oq h xe e/\Rd h s 1 aB b)(b1:s.len<=s.cap)(hz:dp m)(S:bJ m.p=true)(d1:0<=m.extra/\m.extra<=16)(c9:b.length<=2^20)
  (ht:cz m.p e.object (bm m.p b).length=some e.tries) (H:aa B h0 h (bn bA a pw (aZ x) offs da w ds::As)):
  ae xl BS #[vZ (some a),Uv xe,vY s.ptr s.len s.cap] h fun v h'=>∃(r:Sl) (ys:List (Int×Sl)),v=.tuple #[vY r.ptr r.len r.cap,xf true]/\
   aa B h0 h' (bn bA a pw (aZ x) offs da w ds::cj kS 2 piv r ys (db m e.object e.tries (bm m.p b) (bg ds m.drives) (bm m.p b).length)::As):=by
 refine AD (some a) xe s ?_;unfold oR;refine H.boxed fun L h1 H1=>?_;have H1:=H1.bM;have H1:aa B h0 h1 (bn bA a pw (aZ x) offs da w ds::aq L aV (bI xe)::As):=H1.bo 2 [1,0];refine(fA x m (hS.at [_,_] H1).1 hz H1).mono ?_;rintro _ h2 ⟨lv,rfl,R2⟩;have H2:=(H1.dc R2).bo 3 [1,0,2];obtain⟨ok,ah⟩:=aa.cI H2;obtain⟨b2,c6,cr⟩:=hS.at [_,_,_] H2;have ab:(x.2.2.1,x.2.2.2.1,x.2.2.2.2.1)=m.p:=b2.p;have dk:=(bK m.p).1 S;obtain⟨s1,s2,s3⟩:=kT S;obtain⟨c1,c2,c3⟩:=lO S b.length;have b7:(bg ds m.drives).length<=m.drives.length:=qY _ _;have c5:=hz.dr;obtain⟨live,Y⟩:∃live,live=bg ds m.drives:=⟨_,rfl⟩
 rw[<-Y]at H2 b7⊢;obtain⟨g,G⟩:∃g,g=bm m.p b:=⟨_,rfl⟩
 have b4:g.length<=2^20:=by rw[G];unfold bm;simp;omega
 have X:∀r∈g,r.length=dv m.p:=by
  rw[G];intro r hr;unfold bm at hr;obtain⟨i,_,rfl⟩:=qu.1 hr;exact Ic _ _ _
 refine⟨lv,rfl,a,rfl,(x.2.2.1,x.2.2.2.1,x.2.2.2.2.1),⟨by rw[addr_add];exact ah.cell rfl,by rw[addr_add];exact ah.cell rfl,by rw[addr_add];exact ah.cell rfl,trivial⟩,?_⟩;rw[ab];refine(Wm m.p s b h2 S cr b1 (by omega)).mono ?_;rintro _ h3 ⟨q,rfl,R3⟩;rw[<-G]at R3 ht⊢;obtain⟨rs,H3⟩:=Go.Proofs.YtdhamoojccmbdaaGreatDoor.aa.aeY (H2.dc R3) fun _=>rfl;have H3:=(H3.XW dK 2 piv kS).bM;have H3:aa B h0 h3 (bn bA a pw (aZ x) offs da w ds::eM dK ⟨none,0,0⟩ 2 piv kS (db m e.object e.tries g live 0)::cj (ou 1 aB) 1 bQ q rs g::an aT lv 1 aD live::aq L aV (bI xe)::As):=H3.bo 5 [2,0,1,3,4];have d5:=(H3.dO 2 rfl).1.len;have d0:=(H3.dO 2 rfl).2.1;have dx:=im ht;refine⟨q,rfl,?_⟩;obtain⟨k,F⟩:∃k:Nat,k=(m.p.1+m.extra).toNat:=⟨_,rfl⟩
 have J:k<=32:=by omega
 refine aw (fun t:Sl×Nat=>(t.1,(t.2:Int))) (fun t h'=>t.2<=g.length/\aa B h0 h' (bn bA a pw (aZ x) offs da w ds::eM dK t.1 2 piv kS (db m e.object e.tries g live t.2)::cj (ou 1 aB) 1 bQ q rs g::an aT lv 1 aD live::aq L aV (bI xe)::As)) (fun t=>g.length-t.2) (⟨none,0,0⟩,0) rfl ⟨by simp,H3⟩ ?_;rintro⟨o,i⟩ h4 ⟨hi,H4⟩;dsimp only at*;refine ak (fun e1=>?_) (fun e1=>?_)
 ·have W:i<g.length:=by omega
  have F4:=H4.dO 2 rfl;have Z:=H4.box 4 rfl;obtain⟨cn,a4,d6⟩:=hS.at [_,_,_,_,_] H4;obtain⟨_,c0⟩:=aa.cI H4;obtain⟨t,a3,cs⟩:=By ht i (by omega);have b5:e.tries.getD i 0=(t:Int):=by rw[qe,qd (by omega)];exact a3
  have br:g.getD i []=g[i]:=by rw[qe,qd W];rfl
  have M:∀{h':Heap},cy h' L aV (bI xe)->cellOf h' (L.add 1)=some (vX xh e.object):=fun{h'} hb=>by rw[<-a4.1.2.1];exact hb.cell rfl
  have cp:∀{h':Heap},cy h' a fS (dF (aZ x) pw offs da)->aj h' (a.add 2) 0 [vX xh m.p.1,vX xh m.p.2.1,vX xh m.p.2.2]:=fun{h'} hb=>by
   rw[<-ab];exact⟨by rw[addr_add];exact hb.cell rfl,by rw[addr_add];exact hb.cell rfl,by rw[addr_add];exact hb.cell rfl,trivial⟩
  have a6:=Fix.row F4 W;refine F4.1.bz i rfl (by omega) (rs[i]'(by omega)) rfl ?_;refine⟨e.object,M Z,xe.2.2.2,Z.cell rfl,?_⟩;refine Seq.bz (f:=aD) a4.2 i rfl (by omega) (t:Int) (by rw[a3];rfl) ?_;refine(uV _ _ _ h4).mono ?_;rintro _ _ ⟨rfl,rfl⟩;refine⟨_,rfl,⟨Z.cell rfl,trivial⟩,a,rfl,m.p,cp c0,?_⟩;obtain⟨seed,l⟩:∃seed,seed=cJ e.object i t:=⟨_,rfl⟩
  have hg:=(Ie cs).2.1;have ax:fR m.p seed (eI m.p)=true:=by rw[l];exact hg
  obtain⟨K,Hh,w',n,BK⟩:=aeR (seed:=seed) (d:=g[i]) S ax (by rw[X _ (qg W),s3]);rw[<-l];refine(ahg BK (rs[i]'(by omega)) _ a6.1 a6.2).mono ?_;rintro _ h6 ⟨bk,V,rfl,R6⟩;have H6:=(H4.comp R6).front;have H6:aa B h0 h6 (bn bA a pw (aZ x) offs da w ds::eM dK o 2 piv kS (db m e.object e.tries g live i)::cj (ou 1 aB) 1 bQ q rs g::an aT lv 1 aD live::aq L aV (bI xe)::fP aH V 1 aB (eJ m.p seed g[i])::aq bk gd (La m.p seed V)::As):=H6.bo 7 [2,3,4,5,6,0,1];refine⟨(some bk,0),rfl,ci (fun e2=>absurd rfl e2) fun _=>?_⟩;have cf:=H6.box 4 rfl;refine⟨e.object,M cf,(WA e.object i lv live h6 (H6.seq 3 rfl fun _=>rfl) (by omega)).mono ?_⟩;rintro _ h7 ⟨N,rfl,R7⟩;have H7:=(H6.dc R7).bo 8 [1,2,3,4,5,6,7,0];obtain⟨c,y⟩:∃c,c=gh e.object i live:=⟨_,rfl⟩
  rw[<-y]at H7;have a5:=(aa.cI H7).2;have b6:x.2.2.1=m.p.1:=congrArg (·.1) ab;refine⟨N,rfl,a,rfl,x.2.2.1,a5.cell rfl,a,rfl,x.2.2.2.2.2.1,a5.cell rfl,?_⟩;have en:qc xh (x.2.2.1+x.2.2.2.2.2.1)=(k:Int):=by rw[b6,cn.extra,Go.Vc.wrap_small _ (by omega) (by omega)];omega
  rw[en];have R:nc m e.object e.tries g live i=(qC k).map fun id:Nat=>Nr m e.object i seed g[i] c id:=by
   unfold nc;rw[b5,br,<-l,<-y,<-F]
  have ch:(nc m e.object e.tries g live i).length=k:=by rw[EJ,<-F]
  obtain⟨A,E⟩:∃A,A=db m e.object e.tries g live i:=⟨_,rfl⟩
  have c8:A.length<=2^26:=by
   rw[E,An,<-F];have:=we (show i<=2^20 by omega) J;omega
  obtain⟨Q,hQ⟩:∃Q,Q=nc m e.object e.tries g live i:=⟨_,rfl⟩
  rw[<-hQ]at R ch;rw[<-E]at H7;refine aw (fun t:Sl×Nat=>(t.1,(t.2:Int))) (fun t h'=>t.2<=k/\aa B h0 h' (bn bA a pw (aZ x) offs da w ds::eM dK t.1 2 piv kS (A++Q.take t.2)::cj (ou 1 aB) 1 bQ q rs g::an aT lv 1 aD live::aq L aV (bI xe)::fP aH V 1 aB (eJ m.p seed g[i])::aq bk gd (La m.p seed V)::an aT N 1 aD c::As)) (fun t=>k-t.2) (o,0) rfl ⟨by simp,by simpa using H7⟩ ?_;rintro⟨o2,id⟩ h8 ⟨hid,P⟩;dsimp only at*;refine ak (fun e3=>?_) fun e3=>?_
  ·have c4:id<k:=by omega
   have ap:=P.box 4 rfl;have am:=(aa.cI P).2;have I:Pr h8 bk m.p seed (eJ m.p seed g[i]):=⟨V,P.box 6 rfl,P.Jz 5 rfl⟩
   have T:Am m.p seed g[i] id=if bU id then fv w' (eJ m.p seed g[i]) (de n seed id)else[]:=by
    unfold Am;rw[BK.pL,show m.p.2.2.toNat=w' by have:=BK.s;omega]
   have held:∀{h':Heap},aU (fun b=>b<h8.size) h8 h'->ar.ok [((a.add 2),vX xh m.p.1),((a.add 2).add 1,vX xh m.p.2.1),((a.add 2).add 2,vX xh m.p.2.2),(L.add 1,vX xh e.object)] h':=fun{h'} S=>by
    obtain⟨q1,q2,q3,_⟩:=cp (am.ai S am.lt);exact⟨q1,q2,q3,M (ap.ai S ap.lt),trivial⟩
   refine co (fun(a8:Addr) h'=>∃r:Sl,aa B h0 h' (aq a8 bc (bB (e.object,(i:Int),(id:Int),m.p.1,m.p.2.1,m.p.2.2,seed,r))::an aC r 1 aB (Am m.p seed g[i] id)::bn bA a pw (aZ x) offs da w ds::eM dK o2 2 piv kS (A++Q.take id)::cj (ou 1 aB) 1 bQ q rs g::an aT lv 1 aD live::aq L aV (bI xe)::fP aH V 1 aB (eJ m.p seed g[i])::aq bk gd (La m.p seed V)::an aT N 1 aD c::As)) ?_ ?_
   ·refine⟨e.object,M ap,a,rfl,m.p,cp am,?_,?_⟩
    ·refine(BK.symbol bk id h8 I).mono ?_;rintro _ h9 ⟨r,rfl,R9⟩;rw[<-T]at R9;have H9:=P.dc R9;refine⟨r,rfl,held R9.ai,H9.Gw af rfl fun a28 dd bq ay=>⟨held (aa.up R9 bq).ai,?_⟩⟩;have ay:=ay.bM;refine ay.storeAll af 0 rfl rfl (bB (e.object,(i:Int),(id:Int),m.p.1,m.p.2.1,m.p.2.2,seed,r)) rfl rfl rfl rfl fun d4 b9=>⟨trivial,r,b9⟩
    ·refine P.Gw af rfl fun c7 cq ao U=>⟨held ao,?_⟩
     have U:=U.bM;refine(BK.symbol bk id cq (I.up ao)).mono ?_;rintro _ dy ⟨r,rfl,a0⟩;rw[<-T]at a0;have cd:=(U.dc a0).bo 2 [1,0];refine⟨r,rfl,held (aa.up (Sp.zip ao) a0.ai).ai,?_⟩;refine cd.storeAll af 0 rfl rfl (bB (e.object,(i:Int),(id:Int),m.p.1,m.p.2.1,m.p.2.2,seed,r)) rfl rfl rfl rfl fun du b0=>⟨trivial,r,b0⟩
   ·rintro a8 bb ⟨r,O⟩;have j:=O.box 0 rfl;have ad:=jn e.object i t;rw[<-l]at ad;refine⟨(e.object,(i:Int),(id:Int),m.p.1,m.p.2.1,m.p.2.2,seed,r),j.aO _ rfl,(afT N c id bb (O.seq 9 rfl fun _=>rfl)).mono ?_⟩;rintro _ b3 ⟨rfl,rfl⟩;refine⟨_,rfl,⟨j.cell0 rfl,j.cell rfl,j.cell rfl,j.cell rfl,j.cell rfl,j.cell rfl,j.cell rfl,j.cell rfl,trivial⟩,?_⟩;refine(Cp (e.object,(i:Int),(id:Int),m.p.1,m.p.2.1,m.p.2.2,seed,r) (kw m e.object i seed g[i] id) b3 ⟨⟨rfl,rfl,rfl,rfl,rfl,ad.1,ad.2⟩,O.seq 1 rfl fun _=>rfl⟩).mono ?_;rintro _ d2 ⟨u,rfl,bd⟩;have a9:=(O.dc bd).gq 0 rfl (D:=EA kS (rp c id,u) (Nr m e.object i seed g[i] c id)) fun z hz=>⟨rfl,hz.1.seq (fun _=>rfl) hz.2⟩
    have a7:Q[id]'(by omega)=Nr m e.object i seed g[i] c id:=by simp[R]
    refine⟨u,rfl,trivial,?_⟩;refine a9.rU af piv Uj rfl [(rp c id,u)] rfl (show 1*2<=2^20 by decide) rfl trivial ?_;refine aa.Lw af a9 4 0 (by decide) (a:=(rp c id,u)) rfl rfl Uj rfl (by decide) (fun _=>rfl) Pk (parts:=#[(0,xg #[vX xh (rp c id),vY u.ptr u.len u.cap])]) (by kernel_rfl) (by decide) (by simp;omega) fun o3 d3 cc=>⟨trivial,?_⟩
    refine⟨(o3,id+1),by dsimp only;rw[Go.Vc.wrap_small _ (by omega) (by omega)];rfl,⟨by dsimp only;omega,?_⟩,by dsimp only;omega⟩;dsimp only;rw[aJ Q id (by omega),a7,<-qp];exact cc.rest.rest.rest
  ·have a2:id=k:=by omega
   subst a2;rw[qi (by omega)]at P;refine⟨(o2,i+1),by dsimp only;rw[Go.Vc.wrap_small _ (by omega) (by omega)];rfl,⟨by dsimp only;omega,?_⟩,by dsimp only;omega⟩;dsimp only;rw[uj,<-E,<-hQ];exact P.bo 8 [0,1,2,3,4]
 ·have a2:i=g.length:=by omega
  subst a2;obtain⟨ys,H5⟩:=H4.Ob 1 rfl fun _=>rfl;exact⟨o,ys,rfl,H5.bo 5 [0,1]⟩
end
end Go.Proofs.YtdhamoojccmbdaaGreatDoor
namespace Wl
open Go
def jb(a:Nat)(l:List (Int×List UInt8))(k:Int):Int:=(a:Int)+(l.filter fun y=>decide (y.1=k)).length
end Wl
namespace Go.Proofs.YtdhamoojccmbdaaGreatDoor
open Go Go.Vc Go.Proofs Wl
theorem abN(k:Int)(c d:Addr)(a:Nat)(r:Sl)(o:List (Int×Sl))(l:List (Int×List UInt8))(h:Heap)(z:a<=2^30)(H:l.length<=2^30)(q:cy h c aT [vX xh a])(u:cy h d fx [vY r.ptr r.len r.cap])(p:nX kS 2 piv h r o l):
  ae xl iV #[vX xh k,vZ (some c),vZ (some d)] h fun v h'=>v=vX xh (jb a l k)/\Sp h h' []:=by
 refine CP k c d ?_;unfold rG;have D:=p.1.len;have A:=p.2.1;refine⟨(a:Int),q.cell0 rfl,r,u.cell0 rfl,?_⟩;refine aw (fun i:Nat=>(jb a (l.take i) k,(i:Int))) (fun i h'=>i<=l.length/\Sp h h' []) (fun i=>l.length-i) 0 (by simp[jb]) ⟨by omega,Sp.refl h⟩ ?_;rintro i F ⟨E,t⟩;dsimp only;have w:(((l.take i).filter fun y=>decide (y.1=k)).length:Int)<=i:=by
  have:=qY (fun y:Int×List UInt8=>decide (y.1=k)) (l.take i);simp at this;omega
 refine ak (fun e=>?_) fun e=>?_
 ·have j:i<l.length:=by omega
  have m:=nX.up p t.ai;refine m.1.dI (g:=piv) i rfl (by omega) (o[i]'(by omega)) rfl ?_;refine t.alloc af rfl fun x G B=>?_;refine B.storeAll af 0 rfl rfl (piv (o[i]'(by omega))) rfl rfl rfl rfl fun h3 f=>?_;have f:Sp h h3 [aq x dK (piv (o[i]'(by omega)))]:=f;have n:=Fix.row m j;have b:jb a (l.take (i+1)) k=jb a (l.take i) k+(if l[i].1=k then 1 else 0):=by
   unfold jb;rw[aJ _ _ j,zk,qw,zp,yW];split
   ·rename_i s;rw[if_pos (of_decide_eq_true s)];simp;omega
   ·rename_i s;rw[if_neg (by simpa using s)];simp
  refine⟨l[i].1,by rw[<-n.1];exact(f.box 0 rfl).cell0 rfl,cw (fun g=>?_) fun g=>?_⟩
  ·refine⟨i+1,?_,⟨by omega,.zip f.ai⟩,by omega⟩;rw[b,if_pos g,Go.Vc.wrap_small (jb a (l.take i) k+1) (by unfold jb;omega) (by unfold jb;omega),Go.Vc.wrap_small _ (by omega) (by omega)];rfl
  ·refine⟨i+1,?_,⟨by omega,.zip f.ai⟩,by omega⟩;rw[b,if_neg g,Int.add_zero,Go.Vc.wrap_small _ (by omega) (by omega)];rfl
 ·rw[qi (by omega)];exact⟨rfl,t⟩
def ga(m:aE)(offs:Int)(w:Pow)(ds:aW)(name:ByteArray)(b:List UInt8):Int×aE×Pow×aW:=
 if cB m (eF w offs) ds name b.length≠0 then(cB m (eF w offs) ds name b.length,m,w,ds)else
 match cz m.p m.next (bm m.p b).length with
 |none=>(8,m,w,ds)
 |some t=>
  let live:=bg ds m.drives;let l:=db m m.next t (bm m.p b) live (bm m.p b).length;let n:=cM m ⟨name,m.next,b.length,t⟩;let N:=jb (be n).length l
  if cY m ds live N=false then(7,m,w,ds)else
  if(makes m N live w ds).1≠0 then((makes m N live w ds).1,m,(makes m N live w ds).2)else
  let a:=layAll l (makes m N live w ds).2.1 (makes m N live w ds).2.2
  if a.1≠0 then(a.1,m,a.2)else
  ((layAll (bx n live) a.2.1 a.2.2).1,if(layAll (bx n live) a.2.1 a.2.2).1=0 then n else m,(layAll (bx n live) a.2.1 a.2.2).2)
theorem jC{m:aE}{d:Bool}{ds:aW}{name:ByteArray}{n:Nat}(h:cB m d ds name n=0):
  d=false/\jG name=true/\m.objs.any (bR name)=false/\¬(m.p.1*m.p.2.2*8<(n:Int)∨12<=m.objs.length)/\¬(bg ds m.drives=[]∨16777215<m.next∨2147483647<=m.seq):=by
 unfold cB at h;split at h
 ·cases h
 ·rename_i c;split at h
  ·cases h
  ·rename_i b;split at h
   ·cases h
   ·rename_i h3;split at h
    ·cases h
    ·rename_i a;split at h
     ·cases h
     ·rename_i e;exact⟨by simpa using c,by simpa using b,by simpa using h3,a,e⟩
theorem xq{m:aE}{b:List UInt8}(a:bJ m.p=true)(h:¬m.p.1*m.p.2.2*8<(b.length:Int)):(bm m.p b).length<=8:=by
 obtain⟨e,g,c⟩:=kT a;obtain⟨f,d,c3⟩:=lO a b.length;unfold bm;rw[qx,zw];refine Nat.le_of_not_lt fun h8=>?_;have:=c3 8 (by omega);rw[<-c]at h;omega
theorem ahl{o:List Int}(b:o≠[])(id:Nat):rp o id∈o:=by
 unfold rp RY;rw[if_neg (by rintro(h|h);exact b h;omega)];have c:0<o.length:=by cases o with|nil=>exact absurd rfl b|cons=>simp
 have a:((id:Int)%(o.length:Int)).toNat<o.length:=by
  have:=wC (id:Int) (show(0:Int)<o.length by omega);have:=yk (id:Int) (show(o.length:Int)≠0 by omega);omega
 rw[qe,qd a];exact qg a
theorem UE{m:aE}{o:Int}{c:List Int}{q:List (List UInt8)}{live:List Int}(s:0<=o/\o<=16777215)(r:live≠[])(g:∀k∈live,0<=k/\k<64){n:Nat}(t:n<=8){y:Int×List UInt8}(e:y∈db m o c q live n):y.1∈live/\y.2.length<=64:=by
 unfold db at e;obtain⟨i,j,e⟩:=zo.1 e;have j:=qF.1 j;unfold nc at e;obtain⟨id,_,rfl⟩:=qu.1 e;refine⟨?_,?_⟩
 ·show rp _ _∈live;have d:gh o i live=tJ ((8*o+i)%64).toNat live:=by unfold gh;rw[if_pos (by omega)]
  have b:∀a,a∈gh o i live↔a∈live/\0<=a/\a<64:=fun a=>by rw[d];exact Qy _ _ _
  have f:gh o i live≠[]:=fun h=>by
   cases live with
   |nil=>exact r rfl
   |cons a l=>
    have:=(b a).2 ⟨qU,g a qU⟩;rw[h]at this;cases this
  exact((b _).1 (ahl f id)).1
 ·show(dN _).length<=64;unfold dN;split
  ·rename_i p;refine Nat.le_of_eq (nY (by decide) (by decide) ?_);have:=oJ p;omega
  ·simp
theorem afU{m:aE}{e:Wl.bY}(b:dp m)(g:m.objs.length<=11)(d:e.name.size<=2^30)(c:e.tries.length<=2^30):dp (cM m e):=by
 refine⟨b.dr,?_,fun f a=>?_⟩
 ·show((m.objs++[e]).mergeSort sK).length<=2^30;rw[wx];simp;omega
 ·have a:f∈(m.objs++[e]).mergeSort sK:=a;rcases qB.1 ((yn _ _).mem_iff.1 a)with h|h
  ·exact b.nm f h
  ·rw[qH.1 h];exact⟨d,c⟩
section
variable {B:aA} {h0 h:Heap} {As:List HP} {a pw:Addr} {offs:Int} {da:List (Option Addr)} {w:Pow} {ds:aW}
theorem adZ(x:cv)(m:aE)(name:ByteArray)(s:Sl)(b:List UInt8)(hS:St B h0 As fun h=>Rd h s 1 aB b)(cq:s.len<=s.cap)(hn:name.size<=2^40)(U:dp m)(hp:bJ m.p=true)(c9:0<=m.extra/\m.extra<=16)(dy:∀k∈m.drives,0<=k/\k<64)(c0:m.drives.length<=64)(c5:0<=m.seq)(a1:0<=m.next)(cd:b.length<=2^20)
  (H:aa B h0 h (bn bA a pw (aZ x) offs da w ds::dl x m::As)):
  ae xl td #[vZ (some a),xd name,vY s.ptr s.len s.cap] h fun v h'=>v=vX xh (ga m offs w ds name b).1/\
   ∃y,aa B h0 h' (bn bA a pw (aZ y) offs da (ga m offs w ds name b).2.2.1 (ga m offs w ds name b).2.2.2::dl y (ga m offs w ds name b).2.1::As):=by
 refine FN (some a) name s ?_;unfold uo;have ah:=(hS.at [_,_] H).len;refine(Ux x m name s b.length ah hn (H.at 1 rfl) U hp H).mono ?_;rintro _ h1 ⟨rfl,R1⟩;have H1:=H.up R1.ai;refine⟨_,rfl,ci (fun e=>?_) fun e1=>?_⟩
 ·have ep:ga m offs w ds name b=(cB m (eF w offs) ds name b.length,m,w,ds):=by unfold ga;rw[if_pos e]
  rw[ep];exact⟨rfl,x,H1⟩
 obtain⟨z1,z2,z3,z4,z5⟩:=jC e1;have c8:¬m.p.1*m.p.2.2*8<(b.length:Int):=fun h=>z4 (.inl h);have a9:m.objs.length<=11:=by have:¬12<=m.objs.length:=fun h=>z4 (.inr h);omega
 have b5:bg ds m.drives≠[]:=fun h=>z5 (.inl h);have b4:m.next<=16777215:=by have:¬16777215<m.next:=fun h=>z5 (.inr (.inl h));omega
 have ed:m.seq<=2147483646:=by have:¬2147483647<=m.seq:=fun h=>z5 (.inr (.inr h));omega
 have h8:=xq hp c8;have d5:name.size<=12:=by unfold jG at z2;simp at z2;omega
 have dx:=(aa.cI H1).2;have a7:ff h1 x m:=H1.at 1 rfl;refine⟨a,rfl,x.2.1,dx.cell rfl,H1.alloc af rfl fun a4 h2 H2=>?_⟩;have H2:=H2.bM;refine H2.storeAll af 0 rfl rfl (bI (name,x.2.1,(s.len:Int),⟨none,0,0⟩)) rfl rfl rfl rfl fun h3 H3=>?_;have H3:aa B h0 h3 (aq a4 aV (bI (name,m.next,(b.length:Int),⟨none,0,0⟩))::bn bA a pw (aZ x) offs da w ds::dl x m::As):=by rw[<-a7.next,<-ah];exact H3
 have cp:∀{h':Heap},cy h' a fS (dF (aZ x) pw offs da)->aj h' (a.add 2) 0 [vX xh m.p.1,vX xh m.p.2.1,vX xh m.p.2.2]:=fun{h'} hb=>by
  rw[<-a7.p];exact⟨by rw[addr_add];exact hb.cell rfl,by rw[addr_add];exact hb.cell rfl,by rw[addr_add];exact hb.cell rfl,trivial⟩
 obtain⟨nb,K⟩:∃nb,nb=(bm m.p b).length:=⟨_,rfl⟩
 have br:countP m.p (s.len:Nat)=(nb:Int):=by
  have:=(lO hp b.length).1;rw[K,ah];unfold bm;rw[qx,zw];omega
 refine co (fun(t:Sl×Bool) h'=>(cz m.p m.next nb=none->t.2=false/\aa B h0 h' (bn bA a pw (aZ x) offs da w ds::dl x m::As))/\(∀l,cz m.p m.next nb=some l->t.2=true/\aa B h0 h' (an aT t.1 1 aD l::aq a4 aV (bI (name,m.next,(b.length:Int),⟨none,0,0⟩))::bn bA a pw (aZ x) offs da w ds::dl x m::As))) ?_ ?_
 ·have cr:=H3.box 0 rfl;have X:=(aa.cI (H3.bo 3 [1,0,2])).2;refine⟨a,rfl,m.p,cp X,m.next,cr.cell rfl,a,rfl,m.p,cp X,(rj m.p s.len h3 (by omega)).mono ?_⟩;rintro _ h4 ⟨rfl,R4⟩;have H4:=H3.up R4.ai;have dr:=X.ai R4.ai X.lt;obtain⟨q1,q2,q3,_⟩:=cp dr;refine⟨_,rfl,⟨(H4.box 0 rfl).cell rfl,q1,q2,q3,trivial⟩,?_⟩;rw[br];refine(YZ m.p m.next nb h4 (by omega)).mono ?_;rintro _ h5 ⟨T0,T1⟩;cases ht:cz m.p m.next nb with
  |none=>
   obtain⟨rfl,R5⟩:=T0 ht;exact⟨(⟨none,0,0⟩,false),rfl,trivial,fun _=>⟨rfl,(H4.up R5.ai).bo 3 [1,2]⟩,fun l h=>by cases h⟩
  |some l=>
   obtain⟨r,rfl,R5⟩:=T1 l ht;exact⟨(r,true),rfl,trivial,fun h=>(by cases h),fun l' h=>(by injection h with h;subst h;exact⟨rfl,H4.dc R5⟩)⟩
 rintro⟨i,tb⟩ h6 ⟨T0,T1⟩;dsimp only at T0 T1⊢;cases ht:cz m.p m.next nb with
 |none=>
  obtain⟨rfl,H6⟩:=T0 ht;have ep:ga m offs w ds name b=(8,m,w,ds):=by
   unfold ga;rw[if_neg (by rw[e1];decide),<-K,ht]
  rw[ep];exact bi (fun _=>⟨rfl,x,H6⟩) fun e=>by cases e
 |some t=>
  obtain⟨rfl,H6⟩:=T1 t ht;refine bi (fun e=>by cases e) fun _=>?_;have eb:=im ht;refine H6.store af 1 rfl rfl 3 [vY i.ptr i.len i.cap] rfl rfl rfl (by simp) fun h7 H7=>?_;obtain⟨e,he⟩:∃e:Wl.bY,e=⟨name,m.next,b.length,t⟩:=⟨_,rfl⟩
  have H7:aa B h0 h7 (an aT i 1 aD e.tries::aq a4 aV (bI (name,m.next,(b.length:Int),i))::bn bA a pw (aZ x) offs da w ds::dl x m::As):=by rw[he];exact H7
  have H7:=H7.bo 4 [2,3,0,1];have c1:St B h0 (dl x m::an aT i 1 aD e.tries::aq a4 aV (bI (name,m.next,(b.length:Int),i))::As) fun h=>ff h x m/\fG oq h (name,m.next,(b.length:Int),i) e/\Rd h s 1 aB b:=fun Bs h' j=>
   ⟨(St.ij 0 rfl fun _ o=>o) Bs h' j,(St.ij (A:=an aT i 1 aD e.tries) (Q:=fun h=>fG oq h (name,m.next,(b.length:Int),i) e) 1 rfl fun h' o=>⟨by rw[he];exact⟨rfl,rfl,rfl⟩,o.1.seq (fun _=>rfl) o.2⟩) Bs h' j,(hS.cons.cons.cons) Bs h' j⟩
  refine⟨(name,m.next,(b.length:Int),i),(H7.box 3 rfl).aO _ rfl,?_⟩;refine(RJ x m (name,m.next,(b.length:Int),i) e s b c1 cq U hp c9 cd (by rw[he,<-K];exact ht) H7).mono ?_;rintro _ d6 ⟨r,ys,rfl,H8⟩;obtain⟨live,c⟩:∃live,live=bg ds m.drives:=⟨_,rfl⟩
  obtain⟨l,hl⟩:∃l,l=db m m.next t (bm m.p b) live nb:=⟨_,rfl⟩
  have dd:db m e.object e.tries (bm m.p b) (bg ds m.drives) (bm m.p b).length=l:=by rw[hl,he,<-c,<-K]
  rw[dd]at H8;refine⟨(r,true),rfl,H8.alloc af rfl fun f h9 H9=>?_⟩;have H9:=H9.bM;refine H9.storeAll af 0 rfl rfl [vY r.ptr r.len r.cap] rfl rfl rfl rfl fun ao q=>?_;refine bi (fun e=>by cases e) fun _=>?_;obtain⟨n,S⟩:∃n,n=cM m e:=⟨_,rfl⟩
  have q:aa B h0 ao (aq f fx [vY r.ptr r.len r.cap]::bn bA a pw (aZ x) offs da w ds::cj kS 2 piv r ys l::dl x m::an aT i 1 aD e.tries::aq a4 aV (bI (name,m.next,(b.length:Int),i))::As):=q;have q:aa B h0 ao (tW i 1 aD e.tries::bn bA a pw (aZ x) offs da w ds::dl x m::cj kS 2 piv r ys l::aq f fx [vY r.ptr r.len r.cap]::aq a4 aV (bI (name,m.next,(b.length:Int),i))::As):=(q.freeze 4 rfl fun _=>rfl).bo 6 [4,1,3,2,0,5];have dk:((name,m.next,(b.length:Int),i):dZ).1=e.name/\((name,m.next,(b.length:Int),i):dZ).2.1=e.object/\((name,m.next,(b.length:Int),i):dZ).2.2.1=e.length:=by rw[he];exact⟨rfl,rfl,rfl⟩
  have O:∀{h':Heap} {Cs:List HP},aa B h0 h' (tW i 1 aD e.tries::Cs)->ff h' x m->ae xl Fi #[go x,Uv (name,m.next,(b.length:Int),i)] h' fun v cc=>∃y:cv,v=go y/\aa B h0 cc (dl y n::Cs):=fun{h' Cs} j hx'=>by
   rw[S];exact abD x m _ e hx' U ⟨c5,by omega⟩ ⟨a1,by omega⟩ a9 dk j
  have M:=(aa.cI (q.bo 2 [1,0])).2;have L:=q.box 5 rfl;have b0:ff ao x m:=q.at 2 rfl;refine co (fun(t:Addr×Sl) h'=>∃y,aa B h0 h' (bn bA a pw (aZ x) offs da w ds::dl x m::cj kS 2 piv r ys l::aq f fx [vY r.ptr r.len r.cap]::aq t.1 aF (aZ y)::dl y n::an aT t.2 1 aD live::As)) ?_ ?_
  ·refine⟨a,rfl,x,M.aO _ rfl,(name,m.next,(b.length:Int),i),L.aO _ rfl,?_,?_⟩
   ·refine(O q b0).mono ?_;rintro _ er ⟨y,rfl,I⟩;have I:=I.bo 6 [1,2,3,4,0];refine⟨y,rfl,trivial,?_,?_⟩
    ·refine(fA x m (I.at 1 rfl) U I).mono ?_;rintro _ ej ⟨G,rfl,bd⟩;rw[<-c]at bd;have b3:=I.dc bd;refine⟨G,rfl,trivial,b3.alloc af rfl fun d3 ef ap=>⟨trivial,?_⟩⟩;have ap:=ap.bM;refine ap.storeAll af 0 rfl rfl (aZ y) rfl rfl rfl rfl fun ea b7=>⟨trivial,y,?_⟩
     exact b7.bo 7 [2,3,4,5,0,6,1]
    ·refine I.alloc af rfl fun a22 d1 Z=>⟨trivial,?_⟩
     have Z:=Z.bM;have ab:=Z.bo 6 [1,2,3,4,5,0];refine(fA x m (ab.at 1 rfl) U ab).mono ?_;rintro _ d8 ⟨G,rfl,a6⟩;rw[<-c]at a6;have du:=(Z.dc a6).bo 2 [1,0];refine⟨G,rfl,trivial,du.storeAll af 0 rfl rfl (aZ y) rfl rfl rfl rfl fun ek c6=>⟨trivial,y,?_⟩⟩;exact c6.bo 7 [2,3,4,5,0,6,1]
   ·refine q.Gw af rfl fun d7 eh bb V=>?_;have d:=M.ai bb M.lt;have F:=L.ai bb L.lt;refine⟨⟨F.cell0 rfl,F.cell rfl,F.cell rfl,F.cell rfl,d.cell0 rfl,d.cell rfl,d.cell rfl,d.cell rfl,d.cell rfl,d.cell rfl,d.cell rfl,d.cell rfl,trivial⟩,?_⟩;have V:=(V.bM).bo 7 [1,0,2,3,4,5];refine(O V (V.at 3 rfl)).mono ?_;rintro _ eo ⟨y,rfl,c2⟩;have J:=c2.bo 6 [2,3,4,5,0,1];refine⟨y,rfl,trivial,(fA x m (J.at 1 rfl) U J).mono ?_⟩;rintro _ d4 ⟨G,rfl,a8⟩;rw[<-c]at a8;have cs:=(J.dc a8).bo 7 [6,0,1,2,3,4,5];refine⟨G,rfl,trivial,cs.storeAll af 0 rfl rfl (aZ y) rfl rfl rfl rfl fun d2 cf=>⟨trivial,y,?_⟩⟩;exact cf.bo 7 [2,3,4,5,0,6,1]
  rintro⟨am,G⟩ b6 ⟨y,W⟩;dsimp only at W⊢;have a0:dp n:=by rw[S];exact afU U a9 (by rw[he];show name.size<=2^30;omega) (by rw[he];show t.length<=2^30;omega)
  have d0:n.drives=m.drives:=by rw[S];rfl
  have ec:live.length<=64:=by rw[c];exact q9 (qY _ _) c0
  have D:∀k∈live,0<=k/\k<64:=fun k hk=>by rw[c]at hk;exact dy k (qI.1 hk).1
  have bk:(m.p.1+m.extra).toNat<=32:=by have:=(bK m.p).1 hp;omega
  have es:l.length<=256:=by
   rw[hl,An];exact we (show nb<=8 by omega) bk
  have c7:∀z∈l,(0<=z.1/\z.1<64)/\z.2.length<=2^20:=fun z bl=>by
   rw[hl]at bl;obtain⟨p1,p2⟩:=UE (m:=m) ⟨a1,b4⟩ (by rw[c];exact b5) D (show nb<=8 by omega) bl;exact⟨D _ p1,q9 p2 (by decide)⟩
  refine⟨y,(W.box 4 rfl).aO _ rfl,(ny y n b6 (W.at 5 rfl) a0).mono ?_⟩;rintro _ el ⟨pg,rfl,a2⟩;have ad:=(aa.DS a2).1;have b1:=jZ n a0;obtain⟨pn,a3⟩:∃pn,pn=(be n).length:=⟨_,rfl⟩
  rw[<-a3]at ad b1;have ch:=W.up a2.ai;refine⟨pg,rfl,ch.alloc af rfl fun u eq ay=>?_⟩;have ay:=ay.bM;refine ay.storeAll af 0 rfl rfl [vX xh (pg.len:Int)] rfl rfl rfl rfl fun c4 E=>?_;rw[ad]at E;have E:aa B h0 c4 (bn bA a pw (aZ x) offs da w ds::dl x m::cj kS 2 piv r ys l::aq f fx [vY r.ptr r.len r.cap]::aq am aF (aZ y)::dl y n::an aT G 1 aD live::aq u aT [vX xh (pn:Int)]::As):=E.bo 8 [1,2,3,4,5,6,7,0];obtain⟨N,hN⟩:∃N,N=jb pn l:=⟨_,rfl⟩
  obtain⟨T,P⟩:∃T,T=dl x m::cj kS 2 piv r ys l::aq f fx [vY r.ptr r.len r.cap]::aq am aF (aZ y)::dl y n::an aT G 1 aD live::aq u aT [vX xh (pn:Int)]::As:=⟨_,rfl⟩
  have tX:St B h0 T fun h=>ff h x m:=by rw[P];exact St.ij 0 rfl fun _ o=>o
  have tF:St B h0 T fun h=>nX kS 2 piv h r ys l:=by rw[P];exact St.ij 1 rfl fun _ o=>o
  have tB:St B h0 T fun h=>cy h f fx [vY r.ptr r.len r.cap]:=by rw[P];exact St.ij (A:=aq f fx [vY r.ptr r.len r.cap]) 2 rfl fun _ o=>o.1
  have tM:St B h0 T fun h=>cy h am aF (aZ y):=by rw[P];exact St.ij (A:=aq am aF (aZ y)) 3 rfl fun _ o=>o.1
  have tY:St B h0 T fun h=>ff h y n:=by rw[P];exact St.ij 4 rfl fun _ o=>o
  have tL:St B h0 T fun h=>Rd h G 1 aD live:=by rw[P];exact St.ij (A:=an aT G 1 aD live) 5 rfl fun _ o=>o.1.seq (fun _=>rfl) o.2
  have tN:St B h0 T fun h=>cy h u aT [vX xh (pn:Int)]:=by rw[P];exact St.ij (A:=aq u aT [vX xh (pn:Int)]) 6 rfl fun _ o=>o.1
  have tT:St B h0 T fun h=>RX iV #[] #[vZ (some u),vZ (some f)] N live h:=fun Bs h' j k hk=>by
   rw[hN];exact abN k u f pn r ys l h' (by omega) (by omega) (tN Bs h' j) (tB Bs h' j) (tF Bs h' j)
  have fin:∀{h':Heap} {z:cv} {w':Pow} {ax:aW},aa B h0 h' (bn bA a pw (aZ x) offs da w' ax::T)->aa B h0 h' (bn bA a pw (aZ x) offs da w' ax::dl x m::As):=fun{h' z w' ax} j=>by
   rw[P]at j;exact j.bo 8 [0,1]
  rw[<-P]at E;have ep:ga m offs w ds name b=(if cY m ds live N=false then(7,m,w,ds)else if(makes m N live w ds).1≠0 then((makes m N live w ds).1,m,(makes m N live w ds).2)else
    if(layAll l (makes m N live w ds).2.1 (makes m N live w ds).2.2).1≠0 then((layAll l (makes m N live w ds).2.1 (makes m N live w ds).2.2).1,m,(layAll l (makes m N live w ds).2.1 (makes m N live w ds).2.2).2)else
    ((layAll (bx n live) (layAll l (makes m N live w ds).2.1 (makes m N live w ds).2.2).2.1 (layAll l (makes m N live w ds).2.1 (makes m N live w ds).2.2).2.2).1,if(layAll (bx n live) (layAll l (makes m N live w ds).2.1 (makes m N live w ds).2.2).2.1 (layAll l (makes m N live w ds).2.1 (makes m N live w ds).2.2).2.2).1=0 then n else m,(layAll (bx n live) (layAll l (makes m N live w ds).2.1 (makes m N live w ds).2.2).2.1 (layAll l (makes m N live w ds).2.1 (makes m N live w ds).2.2).2.2).2)):=by
   rw[hN,a3,hl,S,he,c];unfold ga;rw[if_neg (by rw[e1];decide),<-K,ht]
  rw[ep];refine(Nl iV #[] #[vZ (some u),vZ (some f)] N x m G live (by rfl) (fun Bs h' j=>⟨tX Bs h' j,tT Bs h' j⟩) U (tL.at [_] E) (by omega) D E).mono ?_;rintro _ en ⟨rfl,b9⟩;have bq:=E.up b9.ai;refine⟨_,rfl,bi (fun g=>?_) fun g=>?_⟩
  ·rw[if_pos g];exact⟨rfl,x,fin (z:=x) bq⟩
  rw[if_neg (by rw[g];decide)];refine(Nm iV #[] #[vZ (some u),vZ (some f)] N x m G live (by rfl) (fun Bs h' j=>⟨tX Bs h' j,tT Bs h' j,tL Bs h' j⟩) U (by omega) D bq).mono ?_;rintro _ d9 ⟨rfl,R⟩;obtain⟨m1,cn⟩:∃m1,m1=makes m N live w ds:=⟨_,rfl⟩
  rw[<-cn]at R⊢;refine⟨_,rfl,ci (fun g2=>?_) fun g2=>?_⟩
  ·rw[if_pos g2];exact⟨rfl,x,fin (z:=x) R⟩
  rw[if_neg (by simpa using g2)];refine⟨r,(tB.at [_] R).cell0 rfl,(Ib r ys l tF (by omega) c7 R).mono ?_⟩;rintro _ eg ⟨rfl,Y⟩;obtain⟨r2,b2⟩:∃r2,r2=layAll l m1.2.1 m1.2.2:=⟨_,rfl⟩
  rw[<-b2]at Y⊢;refine⟨_,rfl,ci (fun g3=>?_) fun g3=>?_⟩
  ·rw[if_pos g3];exact⟨rfl,x,fin (z:=x) Y⟩
  rw[if_neg (by simpa using g3)];refine⟨y,(tM.at [_] Y).aO _ rfl,(No x y n G live (fun Bs h' j=>⟨tY Bs h' j,tL Bs h' j⟩) a0 (by omega) D Y).mono ?_⟩;rintro _ ei ⟨rfl,Q1,Q0⟩;refine⟨_,rfl,rfl,?_⟩;by_cases g4:(layAll (bx n live) r2.2.1 r2.2.2).1=0
  ·obtain⟨y2,a5⟩:=Q0 g4;rw[if_pos g4];rw[P]at a5;exact⟨y2,a5.bo 9 [0,1]⟩
  ·rw[if_neg g4];exact⟨x,fin (z:=x) (Q1 g4)⟩
end
theorem Zh(n:Nat)(x:Int)(h:Heap)(p:n<=2^30):ae xl BO #[vX xh n,vX xh x] h fun v h'=>∃(r:Sl) (l:List UInt8),v=vY r.ptr r.len r.cap/\l.length=n/\Sp h h' [an aC r 1 aB l]:=by
 refine Az n x ?_;unfold oO;refine aw (fun t:Sl×Nat×List UInt8=>(t.1,(t.2.1:Int))) (fun t h'=>t.2.1<=n/\t.2.2.length=t.2.1/\Sp h h' [an aC t.1 1 aB t.2.2]) (fun t=>n-t.2.1) (⟨none,0,0⟩,0,[]) rfl ⟨by simp,rfl,(Sp.refl h).nil aC 1 aB⟩ ?_;rintro⟨o,i,l⟩ k ⟨j,g,a⟩;dsimp only at*;refine ak (fun e=>?_) fun e=>?_
 ·have b:i<n:=by omega
  refine⟨by decide,Int.tmod_nonneg _ (by omega),?_⟩;rw[dQ];generalize b8 (qc xh _)=c;refine a.push af 0 rfl fX rfl (by decide) (fun _=>rfl) gp c rfl (by decide) (by omega) fun f m d=>?_;refine⟨(f,i+1,l++[c]),by dsimp only;rw[Go.Vc.wrap_small _ (by omega) (by omega)];rfl,⟨by dsimp only;omega,?_,d⟩,by dsimp only;omega⟩;simp[g]
 ·exact⟨o,l,rfl,by omega,a⟩
end Go.Proofs.YtdhamoojccmbdaaGreatDoor
namespace Go.Vc
open Go Wl Go.Proofs.YtdhamoojccmbdaaGreatDoor
section
variable {α:Type} {B:aA} {h0 h:Heap} {As:List HP} {k:Nat} {f:α->List Value} {L M:List (Sl×List α)}
theorem aa.aea(H:aa B h0 h (eO k f L::eO k f M::As)):aa B h0 h (eO k f (L++M)::As):=by
 have g:aa B h0 h ((eO k f M).sep (eO k f L)::As):=H.pA;refine g.gq 0 rfl fun q ⟨j,i,_,b,c,d,e⟩ y a=>?_;rcases qB.1 a with a|a
 ·exact(e y a).mono c
 ·exact(d y a).mono b
end
end Go.Vc
namespace Wl
open Go
def EK(o b:Int)(cA:List cT):List (Int×List UInt8):=(cA.filter fun r=>decide (r.object=o)&&decide (r.block=b)).map fun r=>(r.id,r.data)
def Ao(m:aE)(o b:Int)(l:List (List UInt8)):List (Int×List UInt8):=((fQ m l).filter fun r=>decide (r.object=o)&&decide (r.block=b)).map fun r=>(r.id,r.data)
def tK(m:aE)(ds:aW)(o b:Int)(k:Int):List (Int×List UInt8):=match bG ds k with|some d=>Ao m o b d.l|none=>[]
def io(m:aE)(ds:aW)(a:List Int)(o b:Int):List (Int×List UInt8):=a.flatMap (tK m ds o b)
end Wl
namespace Go.Proofs.YtdhamoojccmbdaaGreatDoor
open Go Go.Vc Go.Proofs Wl
abbrev aie:bN C.toCB LZ jB 2 [vX xh 0,vY none 0 0] 32:=⟨_,_,rfl,rfl,rfl,rfl,rfl,rfl⟩
def Zi(pool:List (Sl×List UInt8))(p:(Int×Sl)×(Int×List UInt8)):Prop:=p.1.1=p.2.1/\(p.1.2,p.2.2)∈pool
section
variable {B:aA} {h0 h:Heap} {As:List HP} {a pw:Addr} {offs:Int} {da:List (Option Addr)} {w:Pow} {ds:aW} {mc:List Value}
theorem UF(x:cv)(m:aE)(s:Sl)(c:List Int)(o b:Int)(hx:ff h x m)(hz:dp m)(hs:Rd h s 1 aD c)(hl:c.length<=2^10)(hd:∀k∈c,∃d,bG ds k=some d)(H:aa B h0 h (bn bA a pw mc offs da w ds::As)):
  ae xl Oz #[.func (.func dh) #[vZ (some a)] #[],vY s.ptr s.len s.cap,go x,vX xh o,vX xh b] h fun v h'=>∃(r:Sl) (ys:List (Int×Sl)),v=vY r.ptr r.len r.cap/\Sp h h' [cj kS 2 piv r ys (io m ds c o b)]:=by
 refine Mi (dh,#[vZ (some a)],#[]) s x o b ?_;unfold Fk;have a9:=hs.len;refine(Sp.refl h).boxed fun Y R H1=>?_;have H1:Sp h R [aq Y aF (aZ x)]:=H1;have H1:Sp h R [an jB ⟨none,0,0⟩ 2 piv (([]:List ((Int×Sl)×(Int×List UInt8))).map qJ),eO 1 aB [],aq Y aF (aZ x)]:=((H1.Xu 1 aB).nil jB 2 piv).bO [2,0,1];refine aw (fun t:Sl×Nat×List ((Int×Sl)×(Int×List UInt8))×List (Sl×List UInt8)=>(t.1,(t.2.1:Int))) (fun t h'=>t.2.1<=c.length/\t.2.2.1.length<=t.2.1*512/\t.2.2.1.map zC=io m ds (c.take t.2.1) o b/\(∀p∈t.2.2.1,Zi t.2.2.2 p)/\Sp h h' [an jB t.1 2 piv (t.2.2.1.map qJ),eO 1 aB t.2.2.2,aq Y aF (aZ x)]) (fun t=>c.length-t.2.1) (⟨none,0,0⟩,0,[],[]) rfl ⟨by simp,by simp,by simp[io],by simp,H1⟩ ?_;rintro⟨u,i,L,P⟩ h2 ⟨hi,a7,J,V,Z⟩;dsimp only at*;refine ak (fun e=>?_) fun e=>?_
 ·have S:i<c.length:=by omega
  refine(Seq.up hs Z.ai).bz i rfl S c[i] rfl (aX ?_);obtain⟨d,E⟩:=hd c[i] (qg S);have Hc:=H.up Z.ai;obtain⟨ok,hb⟩:=aa.cI Hc;have f:=Z.box 2 rfl;refine⟨x,f.aO _ rfl,fa (by rfl) ?_⟩;refine(sO c[i] ok hb).mono ?_;rintro _ h3 ⟨rfl,rfl⟩;refine⟨_,rfl,⟨f.cell0 rfl,f.cell rfl,f.cell rfl,f.cell rfl,f.cell rfl,f.cell rfl,f.cell rfl,f.cell rfl,trivial⟩,?_⟩;rcases oE ok c[i]with⟨c1,c2⟩|⟨n,d',bb,c0,c1,c2,c3,c4,c5⟩
  ·rw[E]at c1;cases c1
  have ao:d=d':=by rw[c3]at E;injection E with E;exact E.symm
  subst ao;rw[c5];obtain⟨b0,A,H3⟩:=Go.Vc.aa.mW Hc c2;rw[c4]at A;injection A with A
  injection A with A
  subst A;obtain⟨X,sd,bd,ab⟩:=aa.uT H3;have a6:=X.len;have a0:=X.room;refine(Ae bb pw d sd bd x m h3 (ab.box 0 rfl) ((ab.bo 2 [1]).PG fun _=>rfl) X (hx.up Z.ai) hz).mono ?_;rintro _ h4 ⟨r7,I,rfl,R4⟩;have ay:=pi m d.l;obtain⟨cA,G⟩:∃cA,cA=fQ m d.l:=⟨_,rfl⟩
  rw[<-G]at R4 ay;have H4:=(Z.dc R4).bo 4 [1,2,0,3];have F4:=H4.dO 2 rfl;have br:=F4.2.1;have bl:=F4.1.len;refine⟨r7,rfl,trivial,?_⟩;have am:tK m ds o b c[i]=EK o b cA:=by unfold tK;rw[E];show Ao m o b d.l=_;unfold Ao EK;rw[G]
  have W:io m ds (c.take (i+1)) o b=io m ds (c.take i) o b++EK o b cA:=by
   unfold io;rw[aJ _ _ S,zc,zl,wj,qQ,am]
  obtain⟨Q,hQ⟩:∃Q:List (Sl×List UInt8),Q=(I.zip cA).map fun z=>(z.1.2.2.2.2.2.2.2,z.2.data):=⟨_,rfl⟩
  refine aw (fun t:Sl×Nat×List ((Int×Sl)×(Int×List UInt8))=>(t.1,(t.2.1:Int))) (fun t h'=>t.2.1<=cA.length/\t.2.2.length<=L.length+t.2.1/\t.2.2.map zC=io m ds (c.take i) o b++EK o b (cA.take t.2.1)/\(∀p∈t.2.2,Zi (P++Q) p)/\Sp h h' [an jB t.1 2 piv (t.2.2.map qJ),eO 1 aB P,cj dT 8 bB r7 I cA,aq Y aF (aZ x)]) (fun t=>cA.length-t.2.1) (u,0,L) rfl ⟨by simp,by simp,by simp[EK,J],fun p O=>⟨(V p O).1,yE _ (V p O).2⟩,H4⟩ ?_;rintro⟨u2,j,L2⟩ h5 ⟨hj,a8,M,T,H5⟩;dsimp only at*;have F5:=H5.dO 2 rfl;refine ak (fun e2=>?_) fun e2=>?_
  ·have ad:j<cA.length:=by omega
   have ah:=Fix.row F5 ad;obtain⟨⟨g1,g2,g3,g4,g5,g6,g7⟩,g8⟩:=ah;refine F5.1.dI (g:=bB) j rfl (by omega) (I[j]'(by omega)) rfl ?_;refine H5.alloc af rfl fun a4 h6 H6=>?_;refine H6.storeAll af 4 rfl rfl (bB (I[j]'(by omega))) rfl rfl rfl rfl fun h7 U=>?_;have U:Sp h h7 [an jB u2 2 piv (L2.map qJ),eO 1 aB P,cj dT 8 bB r7 I cA,aq Y aF (aZ x),aq a4 bc (bB (I[j]'(by omega)))]:=U;have K:=U.box 4 rfl;have N:EK o b (cA.take (j+1))=EK o b (cA.take j)++(if(decide (cA[j].object=o)&&decide (cA[j].block=b))=true then[(cA[j].id,cA[j].data)]else[]):=by
    unfold EK;rw[aJ _ _ ad,zk,qS,zp,yW];split<;>rfl
   have skip:(decide (cA[j].object=o)&&decide (cA[j].block=b))=false->∃F:Sl×Nat×List ((Int×Sl)×(Int×List UInt8)),((⟨u2.ptr,u2.len,u2.cap⟩:Sl),qc xh ((j:Int)+1))=(F.1,(F.2.1:Int))/\(F.2.1<=cA.length/\F.2.2.length<=L.length+F.2.1/\F.2.2.map zC=io m ds (c.take i) o b++EK o b (cA.take F.2.1)/\(∀p∈F.2.2,Zi (P++Q) p)/\Sp h h7 [an jB F.1 2 piv (F.2.2.map qJ),eO 1 aB P,cj dT 8 bB r7 I cA,aq Y aF (aZ x)])/\cA.length-F.2.1<cA.length-j:=fun hc=>
    ⟨(u2,j+1,L2),by dsimp only;rw[Go.Vc.wrap_small _ (by omega) (by omega)];rfl,⟨by dsimp only;omega,by dsimp only;omega,by dsimp only;rw[N,hc];simpa using M,T,U.bO [0,1,2,3]⟩,by dsimp only;omega⟩
   refine⟨cA[j].object,by rw[<-g1];exact K.cell0 rfl,cw (fun q1=>?_) fun q1=>skip (by rw[decide_eq_false q1];rfl)⟩;refine⟨cA[j].block,by rw[<-g2];exact K.cell rfl,cw (fun q2=>?_) fun q2=>skip (by rw[decide_eq_false q2,Bool.and_false])⟩;refine⟨cA[j].id,by rw[<-g3];exact K.cell rfl,(I[j]'(by omega)).2.2.2.2.2.2.2,K.cell rfl,?_⟩;refine U.push af 0 rfl aie rfl (by decide) (fun _=>rfl) Pk (cA[j].id,(I[j]'(by omega)).2.2.2.2.2.2.2) (by kernel_rfl) (by decide) (by simp;omega) fun u3 bk a3=>?_;refine⟨(u3,j+1,L2++[((cA[j].id,(I[j]'(by omega)).2.2.2.2.2.2.2),(cA[j].id,cA[j].data))]),by dsimp only;rw[Go.Vc.wrap_small _ (by omega) (by omega)];rfl,⟨by dsimp only;omega,by simp;omega,?_,fun p O=>?_,?_⟩,by dsimp only;omega⟩
   ·dsimp only;rw[qS,M,N,if_pos (by rw[decide_eq_true q1,decide_eq_true q2];rfl),qp];rfl
   ·rcases qB.1 O with O|O
    ·exact T p O
    ·rw[qH.1 O];refine⟨rfl,wN _ ?_⟩;rw[hQ];refine qu.2 ⟨(I[j]'(by omega),cA[j]),?_,rfl⟩;rw[<-yS (h:=by simp;omega)];exact qg _
   ·dsimp only;rw[qS];exact a3.bO [0,1,2,3]
  ·have a2:j=cA.length:=by omega
   subst a2;rw[qR,<-W]at M;have a5:=F5.2.1;have H6:=(H5.gq 2 rfl (D:=eO 1 aB Q) fun q hq y hy=>by
    rw[hQ]at hy;obtain⟨z,ap,rfl⟩:=qu.1 hy;obtain⟨k,hk,rfl⟩:=qG ap;have ax:k<cA.length:=by simp at hk;omega
    have:=(Fix.row hq ax).2;rw[yS];exact this).bO [1,2,0,3]
   have U:=aa.aea H6;refine⟨(u2,i+1,L2,P++Q),by dsimp only;rw[Go.Vc.wrap_small _ (by omega) (by omega)];rfl,⟨by dsimp only;omega,by dsimp only;omega,M,T,U.bO [1,0,2]⟩,by dsimp only;omega⟩
 ·rw[qi (by omega)]at J;refine⟨u,L.map qJ,rfl,?_⟩;have H3:=((Z.freeze 0 rfl fun _=>rfl).bO [1,0]).pA;refine H3.gq 0 rfl fun q ⟨q1,q2,_,bq,cq,z1,z2⟩=>?_;refine⟨z1.mono bq,by rw[<-J];simp,fun j r e R h2=>?_⟩;rw[<-J]at h2;rw[qP]at R h2;cases hj:L[j]? with
  |none=>rw[hj]at R;cases R
  |some p=>
   rw[hj]at R h2;have e1:=zL.inj (show some p.1=some r from R);have e2:=zL.inj (show some p.2=some e from h2);subst e1;subst e2;obtain⟨k1,k2⟩:=V p (ye hj);exact⟨k1,(z2 _ k2).mono cq⟩
end
end Go.Proofs.YtdhamoojccmbdaaGreatDoor
namespace Wl
open Go
end Wl
namespace Go.Proofs.YtdhamoojccmbdaaGreatDoor
open Go Go.Vc Go.Proofs Wl
section
variable {B:aA} {h0 h:Heap} {As:List HP} {a pw:Addr} {offs:Int} {da:List (Option Addr)} {w:Pow} {ds:aW}
theorem Zj(m:aE)(o b:Int)(l:List (List UInt8)):(Ao m o b l).length<=l.length:=by
 unfold Ao;rw[qx];exact q9 (qY _ _) (pi m l)
end
end Go.Proofs.YtdhamoojccmbdaaGreatDoor
namespace Wl
open Go
def Pow.calm(w:Pow):Prop:=w.off=false/\w.fuse=none
theorem EL:Pow.new.calm:=⟨rfl,rfl⟩
theorem tO{w:Pow}(h:w.calm):w.step=(true,w):=by unfold Pow.step;rw[if_neg (by simp[h.1]),h.2]
theorem JZ{w:Pow}(h:w.calm)(ds:aW)(x:Int)(b:List UInt8):(fk w ds x b).2.1=w:=by
 unfold fk;cases bG ds x with
 |none=>rfl
 |some d=>
  dsimp only;unfold bC.append;split
  ·rfl
  ·split
   ·rfl
   ·split
    ·rfl
    ·split
     ·rfl
     ·rw[tO h];rfl
theorem Qz{w:Pow}(h:w.calm)(ds:aW)(x:Int):(gX w ds x).2.1=w:=by
 unfold gX;cases bG ds x with
 |none=>rfl
 |some d=>
  dsimp only;unfold bC.sync;split
  ·rfl
  ·rw[tO h];rfl
theorem rq{w:Pow}(h:w.calm):∀(l:List (Int×List UInt8)) (ds:aW),(kK l w ds).2.1=w
 |[],_=>rfl
 |x::l,ds=>by
  rw[xz,JZ h];split
  ·exact rq h l _
  ·exact JZ h _ _ _
theorem Ns{w:Pow}(h:w.calm):∀(l:List Int) (ds:aW),(kC l w ds).2.1=w
 |[],_=>rfl
 |x::l,ds=>by
  rw[DT,Qz h];split
  ·exact Ns h l _
  ·exact Qz h _ _
theorem aeb{w:Pow}(h:w.calm)(l:List (Int×List UInt8))(ds:aW):(layAll l w ds).2.1=w:=by
 unfold layAll;dsimp only;rw[rq h];split
 ·exact Ns h _ _
 ·exact rq h _ _
theorem WB{w:Pow}{d:bC}{n:Nat}{b:List UInt8}(h:w.calm)(a:d.lost=false)(e:d.l.length+(n+1)<=d.room)(c:b.length=64):d.append w b=(0,w,{d with l:=d.l++[b],wait:=d.wait+1,laid:=[],has:=false}):=by
 unfold bC.append;rw[if_neg (by omega),if_neg (by simp[a]),if_neg (by omega),if_neg (by simp[h.1]),tO h];rfl
theorem abO{w:Pow}{d:bC}(h:w.calm)(a:d.lost=false):d.sync w=(0,w,{d with wait:=0,laid:=[],has:=false}):=by
 unfold bC.sync;rw[if_neg (by simp[a]),tO h];rfl
theorem ahm{ds:aW}{s:Int}{d:bC}(h:bG ds s=some d):0<=s/\s<64:=by
 obtain⟨n,rfl,a⟩:=pj h;omega
def Nt(ds:aW)(P:List (Int×List UInt8))(s:Int):Option bC:=
 (bG ds s).map fun d=>{d with l:=d.l++(P.filter (fun x=>decide (x.1=s))).map zC,wait:=d.wait+(P.filter (fun x=>decide (x.1=s))).length,laid:=if(P.filter (fun x=>decide (x.1=s))).isEmpty then d.laid else[],has:=if(P.filter (fun x=>decide (x.1=s))).isEmpty then d.has else false}
theorem Il{w:Pow}(h:w.calm){S:List Int}:∀(P:List (Int×List UInt8)) (ds:aW),Fit ds S (P.map qJ)->(∀x∈P,x.1∈S/\x.2.length=64)->
  (kK P w ds).1=0/\Fit (kK P w ds).2.2 S []/\∀s,bG (kK P w ds).2.2 s=Nt ds P s
 |[],ds,F,_=>⟨rfl,F,fun s=>by unfold Nt;show bG ds s=_;cases bG ds s<;>simp⟩
 |x::P,ds,F,hP=>by
  obtain⟨d,c,o,m⟩:=F.at_ x.1 (hP x (qU ..)).1;rw[zT,List.count_cons_self]at m;have i:=(hP x (qU ..)).2;obtain⟨n,j,a⟩:=pj c;have f:=WB (n:=(P.map qJ).count x.1) h o (by omega) i;have e:fk w ds x.1 x.2=(0,w,lm ds x.1 {d with l:=d.l++[x.2],wait:=d.wait+1,laid:=[],has:=false}):=by
   unfold fk;rw[c];dsimp only;rw[f]
  obtain⟨_,g⟩:=RH w x.2 (x:=x.1) (Q:=P.map qJ) F (hP x (qU ..)).1 i;rw[xz,e];rw[e]at g;dsimp only at g⊢;rw[if_pos rfl];obtain⟨q,k,a3⟩:=Il h P _ g fun y p=>hP y (qO _ p);refine⟨q,k,fun s=>?_⟩;rw[a3 s];unfold Nt;rw[j,Dz _ _ _ _ a F.len,<-j];by_cases b:s=x.1
  ·rw[if_pos b,b,c];simp only[qN,zp,decide_true,if_true,zT,zb,qp,List.singleton_append,List.isEmpty_cons,ze,if_false];congr 1;simp only[bC.mk.injEq,true_and,and_true];refine⟨by omega,?_,?_⟩<;>split<;>rfl
  ·rw[if_neg b];simp only[zp,decide_eq_true_eq,if_neg (show¬x.1=s from fun r=>b r.symm)]
theorem Nu{w:Pow}(h:w.calm){S:List Int}:∀(l:List Int) (ds:aW),Fit ds S []->(∀x∈l,x∈S)->
  (kC l w ds).1=0/\Fit (kC l w ds).2.2 S []/\∀s,bG (kC l w ds).2.2 s=(bG ds s).map fun d=>if s∈l then{d with wait:=0,laid:=[],has:=false}else d
 |[],ds,F,_=>⟨rfl,F,fun s=>by show bG ds s=_;cases bG ds s<;>simp⟩
 |x::l,ds,F,hl=>by
  obtain⟨d,b,j,o⟩:=F.at_ x (hl x (qU ..));obtain⟨n,g,a⟩:=pj b;have e:gX w ds x=(0,w,lm ds x {d with wait:=0,laid:=[],has:=false}):=by
   unfold gX;rw[b];dsimp only;rw[abO h j]
  obtain⟨_,c⟩:=Wv w F (hl x (qU ..));rw[DT,e];rw[e]at c;dsimp only at c⊢;rw[if_pos rfl];obtain⟨m,i,a3⟩:=Nu h l _ c fun y k=>hl y (qO _ k);refine⟨m,i,fun s=>?_⟩;rw[a3 s,g,Dz _ _ _ _ a F.len,<-g];by_cases f:s=x
  ·subst f;rw[if_pos rfl,b];simp only[qN,za,true_or,if_true];congr 1;split<;>rfl
  ·rw[if_neg f];cases bG ds s with
   |none=>rfl
   |some d'=>simp[f]
end Wl
namespace Go.Proofs.YtdhamoojccmbdaaGreatDoor
open Go Go.Vc Go.Proofs Wl
section
variable {B:aA} {h0 h h':Heap} {As:List HP} {a:Addr} {w:Pow}
end
section
variable {B:aA} {h0 h h':Heap} {As:List HP} {a pw:Addr} {d:bC} {w:Pow}
end
section
variable {B:aA} {h0 h h':Heap} {As:List HP}
end
end Go.Proofs.YtdhamoojccmbdaaGreatDoor
namespace Wl
open Go
end Wl
namespace Go.Proofs.YtdhamoojccmbdaaGreatDoor
open Go Go.Vc Go.Proofs Wl
end Go.Proofs.YtdhamoojccmbdaaGreatDoor
namespace Wl
open Go
end Wl
namespace Go.Proofs.YtdhamoojccmbdaaGreatDoor
open Go Go.Vc Go.Proofs Wl
end Go.Proofs.YtdhamoojccmbdaaGreatDoor
namespace Wl
open Go
end Wl
namespace Go.Vc
open Go Wl
end Go.Vc
namespace Go.Proofs.YtdhamoojccmbdaaGreatDoor
open Go Go.Vc Go.Proofs Wl
section
variable {B:aA} {h0 h h':Heap} {As:List HP} {a pw:Addr} {mc:List Value} {offs:Int} {da:List (Option Addr)} {w:Pow} {ds:aW}
end
section
variable {B:aA} {h0 h h':Heap} {As:List HP} {a pw:Addr} {mc:List Value} {offs:Int} {da:List (Option Addr)} {w:Pow} {ds:aW}
end
end Go.Proofs.YtdhamoojccmbdaaGreatDoor
namespace Go.Vc
open Go Wl Go.Proofs.YtdhamoojccmbdaaGreatDoor
def Ap(p:Pm)(extra:Int)(l:List Int):Int:=
 if(eS l).2&&(bJ p&&eV extra 0 16)then
  if(bj l l.length).any fun i=>decide (l.getD i.toNat 0<((be (ce p extra l)).length:Int))then 7 else 0
 else 1
theorem Zk(p:Pm)(extra:Int)(w:Pow)(l:List Int):eT p extra w l=if Ap p extra l=0 then layAll (bx (ce p extra l) (bj l l.length)) w (gK l (bj l l.length).length)else(Ap p extra l,w,[]):=by
 unfold eT Ap;by_cases h:((eS l).2&&(bJ p&&eV extra 0 16))=true
 ·rw[if_pos h,if_pos h];by_cases a:((bj l l.length).any fun i=>decide (l.getD i.toNat 0<((be (ce p extra l)).length:Int)))=true
  ·rw[if_pos a,if_pos a];rfl
  ·rw[if_neg a,if_neg a];rfl
 ·rw[if_neg h,if_neg h];rfl
theorem Nv{p:Pm}{extra:Int}{l:List Int}(h:Ap p extra l=0):bJ p=true/\0<=extra/\extra<=16/\(eS l).2=true/\((bj l l.length).any fun i=>decide (l.getD i.toNat 0<((be (ce p extra l)).length:Int)))=false:=by
 unfold Ap at h;by_cases a:((eS l).2&&(bJ p&&eV extra 0 16))=true
 ·rw[if_pos a]at h;by_cases b:((bj l l.length).any fun i=>decide (l.getD i.toNat 0<((be (ce p extra l)).length:Int)))=true
  ·rw[if_pos b]at h;cases h
  ·unfold eV at a;simp only[qz,decide_eq_true_eq]at a;exact⟨a.2.1,a.2.2.1,a.2.2.2,a.1,by simpa using b⟩
 ·rw[if_neg a]at h;cases h
end Go.Vc
namespace Go.Proofs.YtdhamoojccmbdaaGreatDoor
open Go Go.Vc Go.Proofs Wl
end Go.Proofs.YtdhamoojccmbdaaGreatDoor
namespace Wl
def ne(m:aE)(l:List (List UInt8)):Bool:=bP m&&(be m).all fun p=>decide (p∈l)
end Wl
namespace Go.Proofs.YtdhamoojccmbdaaGreatDoor
open Go Go.Vc Go.Proofs Wl
theorem abP(a:Addr)(e:Sl)(p:List UInt8)(l:Sl)(b:Cells)(h:Heap)(u:cy h a aH [vY e.ptr e.len e.cap])(t:Rd h e 1 aB p)(n:gr h l 1 aB b)(w:b.length<=2^30):
  ae xl np #[vY l.ptr l.len l.cap,.func (.func pS) #[] #[vZ (some a)]] h fun v h'=>v=xf (decide (p∈b))/\h'=h:=by
 refine mN l (pS,#[],#[vZ (some a)]) ?_;unfold iN;refine(oh l (pS,#[],#[vZ (some a)]) (R:=fun v h'=>(∃i:Int,v=vX xh i/\(decide (i>=0)=decide (p∈b)))/\h'=h) ?_).mono ?_
 ·unfold jM;have o:=n.len;refine aw (fun i:Nat=>(i:Int)) (fun i h'=>i<=b.length/\p∉b.take i/\h'=h) (fun i=>b.length-i) 0 rfl ⟨by omega,by simp,rfl⟩ ?_;rintro i g ⟨m,d,rfl⟩;refine ak (fun k=>?_) (fun k=>?_)
  ·have c:i<b.length:=by
    have q:(i:Int)<(l.len:Int):=k;omega
   refine n.get i rfl c fun r s=>fa (by rfl) ?_;refine(Kx r a (R:=fun v h'=>v=xf (decide (b[i]=p))/\h'=g) ?_).mono ?_
   ·unfold CR;refine⟨e,u.cell0 rfl,(Ac r e b[i] p g s t).mono ?_⟩;rintro _ _ ⟨rfl,rfl⟩;exact⟨_,rfl,rfl,rfl⟩
   ·rintro _ _ ⟨rfl,rfl⟩;refine⟨_,rfl,ak (fun j=>⟨⟨i,rfl,?_⟩,rfl⟩) (fun j=>?_)⟩
    ·rw[decide_eq_true (show(i:Int)>=0 by omega),decide_eq_true (by rw[<-j];exact qg c)]
    ·refine⟨i+1,by rw[Go.Vc.wrap_small _ (by omega) (by omega)];rfl,⟨by omega,fun f=>?_,rfl⟩,by omega⟩;rw[aJ _ _ c]at f;rcases qB.1 f with f|f
     ·exact d f
     ·exact j (qH.1 f).symm
  ·have q:¬(i:Int)<(l.len:Int):=k;rw[qi (by omega)]at d;exact⟨⟨-1,rfl,by rw[decide_eq_false d];rfl⟩,rfl⟩
 ·rintro _ g ⟨⟨i,rfl,m⟩,rfl⟩;exact⟨i,rfl,by rw[m],rfl⟩
theorem Zl(a pw:Addr)(d:bC)(s b:Sl)(x:cv)(m:aE)(h:Heap)(N:cy h a cE (gS pw d s b))(Y:gr h s 1 aB d.l)(ok:gm d)(O:ff h x m)(I:dp m):
  ae xl Ff #[vZ (some a),go x] h fun v h'=>v=xf (ne m d.l)/\Sp h h' []:=by
 refine Ot (some a) x ?_;unfold Hd;have M:=ok.len;have J:=ok.room;refine(Sp.refl h).boxed fun B K y=>?_;have y:Sp h K [aq B aF (aZ x)]:=y;refine⟨x,(y.box 0 rfl).aO _ rfl,(KS x m K (O.up y.ai) I).mono ?_⟩;rintro _ Q ⟨rfl,X⟩;have z:Sp h Q [aq B aF (aZ x)]:=y.up X.ai;refine⟨_,rfl,bi (fun g=>⟨by unfold ne;rw[g];rfl,.zip z.ai⟩) fun g=>?_⟩;refine(Ud s b (N.ai z.ai N.lt) (Y.up z.ai) ok).mono ?_;rintro _ h3 ⟨q,rfl,U⟩;have E:Sp h h3 [aq B aF (aZ x),dV q d.l]:=z.comp U;refine⟨q,rfl,x,(E.box 0 rfl).aO _ rfl,(ny x m h3 (O.up E.ai) I).mono ?_⟩;rintro _ V ⟨o,rfl,W⟩;have u:Sp h V [aq B aF (aZ x),dV q d.l,dV o (be m)]:=E.comp W;have G:=jZ m I;obtain⟨c,j⟩:∃c,c=be m:=⟨_,rfl⟩
 rw[<-j]at u G;have R:=(aa.DS (u.bo 3 [2])).1;refine⟨o,rfl,?_⟩;obtain⟨rs,u⟩:=(u.bO [2,1]).adF fun _=>rfl;refine aw (fun i:Nat=>(i:Int)) (fun i h'=>i<=c.length/\((c.take i).all fun p=>decide (p∈d.l))=true/\Sp h h' [cj (ju 1 aB) 1 bQ o rs c,dV q d.l]) (fun i=>c.length-i) 0 rfl ⟨by omega,by simp,u⟩ ?_;rintro i h5 ⟨Z,f,A⟩;have S:=(A.dO 0 rfl).2.1;refine ak (fun e=>?_) (fun e=>?_)
 ·have k:i<c.length:=by
   have T:(i:Int)<(o.len:Int):=e;omega
  refine(A.dO 0 rfl).1.ox i rfl (by omega) ?_;obtain⟨r,L⟩:∃r,r=rs[i]'(by omega):=⟨_,rfl⟩
  rw[<-L];refine A.alloc af rfl fun t h6 P=>?_;refine P.storeAll af 2 rfl rfl [vY r.ptr r.len r.cap] rfl rfl rfl rfl fun D n=>?_;have n:Sp h D [cj (ju 1 aB) 1 bQ o rs c,dV q d.l,aq t aH [vY r.ptr r.len r.cap]]:=n;have w:Rd D r 1 aB c[i]:=by rw[L];exact Fix.row (n.dO 0 rfl) k
  have H:=aa.PG (n.bo 2 [1]) fun _=>rfl;refine(abP t r c[i] q d.l D (n.box 2 rfl) w H (by omega)).mono ?_;rintro _ h8 ⟨rfl,rfl⟩;refine⟨_,rfl,bi (fun F=>⟨?_,.zip n.ai⟩) fun F=>?_⟩
  ·have:ne m d.l=false:=by
    unfold ne;rw[g,zU,<-j];exact yh.2 ⟨c[i],qg k,by rw[F];simp⟩
   rw[this]
  ·refine⟨i+1,by rw[Go.Vc.wrap_small _ (by omega) (by omega)];rfl,⟨by omega,?_,n.bO [0,1]⟩,by omega⟩;rw[aJ _ _ k,yD,f,vU,List.all_nil,F];rfl
 ·have:i=c.length:=by
   have T:¬(i:Int)<(o.len:Int):=e;omega
  subst this;rw[qR]at f;exact⟨by unfold ne;rw[g,<-j,f];rfl,.zip A.ai⟩
end Go.Proofs.YtdhamoojccmbdaaGreatDoor
namespace Go.Vc
open Go Wl Go.Proofs.YtdhamoojccmbdaaGreatDoor
theorem aec{w:Pow}(h:w.calm){S:List Int}(P:List (Int×List UInt8))(ds:aW)(F:Fit ds S (P.map qJ))(b:∀x∈P,x.1∈S/\x.2.length=64):
  (layAll P w ds).1=0/\Fit (layAll P w ds).2.2 S []/\∀s,bG (layAll P w ds).2.2 s=(Nt ds P s).map fun d=>if s∈fK (P.map qJ)then{d with wait:=0,laid:=[],has:=false}else d:=by
 obtain⟨k,e,a3⟩:=Il h P ds F b;have i:=rq h P ds;unfold layAll;dsimp only;rw[if_pos k,i];obtain⟨g,l,f⟩:=Nu h (S:=S) (fK (P.map qJ)) (kK P w ds).2.2 e fun x c=>by
  unfold fK at c;have a:=(qI.1 c).2;obtain⟨y,j,rfl⟩:=qu.1 (of_decide_eq_true a);exact(b y j).1
 exact⟨g,l,fun s=>by rw[f s,a3 s]⟩
theorem FK(l:List Int)(k:Nat):(bj l k).Pairwise (·<·):=by
 unfold bj;refine List.Pairwise.filter _ (w4.2 ?_);exact(vy (n:=k)).imp fun h=>by omega
theorem afV{l:List Int}{a:Int}(f:l.Pairwise (·<·))(e:∀x∈l,0<=x/\x<=a):pC l a=true:=by
 unfold pC;refine ub fun i b=>?_;unfold jw eV;have d:l.getD i 0=l[i]:=by rw[qe,qd b];rfl
 have:=e l[i] (qg b);rw[d,decide_eq_true this.1,decide_eq_true this.2,zU,zU];by_cases h0:i=0
 ·rw[decide_eq_true h0];rfl
 ·have c:l.getD (i-1) 0=l[i-1]:=by rw[qe,qd (by omega)];rfl
  rw[c,decide_eq_true (zd.1 f (i-1) i (by omega) b (by omega)),Bool.or_true]
theorem UG{p:Pm}{extra:Int}{l:List Int}(g:l.length<=64)(a:Ap p extra l=0):bP (ce p extra l)=true:=by
 obtain⟨e,d,h3,_⟩:=Nv a;have b:kD (ce p extra l)=true:=by
  unfold kD eV ce;simp[e,d,h3]
 have f:pC (ce p extra l).drives 63=true:=afV (FK l l.length) fun x c=>by
  obtain⟨n,h,rfl,_⟩:=(Af l l.length x).1 c;omega
 unfold bP;rw[b,f];rfl
theorem RK(p:Pm)(extra:Int)(l:List Int)(b:l.length<=24):(be (ce p extra l)).length<=1:=by
 unfold be gT;rw[qx,zw];have a:=rl l l.length;have:(gj (ce p extra l)).length<=19+24:=by
  unfold gj;split
  ·simp only[qw,ck,zb,ym,qx,ce,wj];omega
  ·simp
 omega
end Go.Vc
namespace Wl
open Go
end Wl
namespace Go.Vc
open Go Wl Go.Proofs.YtdhamoojccmbdaaGreatDoor
theorem abQ(l:List (Int×List UInt8))(k:Int):(l.map qJ).count k=(l.filter fun y=>decide (y.1=k)).length:=by
 induction l with
 |nil=>rfl
 |cons y l ih=>
  rw[zT,List.count_cons,ih,zp];by_cases h:y.1=k
  ·rw[if_pos (decide_eq_true h),if_pos (by simpa using h)];rfl
  ·rw[if_neg (by simpa using h),if_neg (by simpa using h)];rfl
theorem Im(n:aE)(k:Int):∀{live:List Int},live.Nodup->k∈live->((bx n live).filter fun y=>decide (y.1=k)).map zC=be n
 |[],_,hk=>by cases hk
 |x::live,hnd,hk=>by
  have e:bx n (x::live)=(be n).map (fun c=>(x,c))++bx n live:=by unfold bx;rw[zl]
  obtain⟨i,d⟩:=wR.1 hnd;rw[e,zk,qS];by_cases a:x=k
  ·subst a;have g:((be n).map (fun c=>(x,c))).filter (fun y=>decide (y.1=x))=(be n).map (fun c=>(x,c)):=wq.2 fun y b=>by
    obtain⟨c,_,rfl⟩:=qu.1 b;exact decide_eq_true rfl
   have j:(bx n live).filter (fun y=>decide (y.1=x))=[]:=wF.2 fun y b=>by
    have:=(kv b).1;have f:y.1≠x:=fun h=>i (h▸this);simpa using f
   rw[g,j,vA,qQ,wS];exact List.map_id _
  ·have g:((be n).map (fun c=>(x,c))).filter (fun y=>decide (y.1=k))=[]:=wF.2 fun y b=>by
    obtain⟨c,_,rfl⟩:=qu.1 b;simpa using a
   rw[g,vA,zW];rcases za.1 hk with h|h
   ·exact absurd h.symm a
   ·exact Im n k d h
end Go.Vc
namespace Go.Proofs.YtdhamoojccmbdaaGreatDoor
open Go Go.Vc Go.Proofs Wl
theorem afW{p:Pm}{seed:Int}{d:Row}{K H w n:Nat}(B:bV p seed d K H w n)(id:Int):Am p seed d id=if bU id then fv w (eJ p seed d) (de n seed id)else[]:=by
 unfold Am;rw[B.pL,show p.2.2.toNat=w by have:=B.s;omega]
theorem UH{m:aE}{o i seed:Int}{d:Row}{id:Int}{K H w n:Nat}(B:bV m.p seed d K H w n)(c:0<=o/\o<=16777215)(a:0<=i/\i<=7)(hid:0<=id/\id<=65535):iU (kw m o i seed d id)=true:=by
 rw[iI];refine⟨c,a,hid,B.may,?_⟩;have b:bU id=true:=by unfold bU;rw[decide_eq_true hid.1,decide_eq_true hid.2];rfl
 show((Am m.p seed d id).length:Int)=m.p.2.2;rw[afW B id,if_pos b,B.aaJ id,B.s]
def pq(m:aE)(o:Int)(a:List Int)(b:List (List UInt8))(live:List Int)(k:Int)(i:Nat):List cT:=
 ((qC (m.p.1+m.extra).toNat).filter fun id=>decide (rp (gh o i live) (id:Nat)=k)).map fun id:Nat=>kw m o i (cJ o i (a.getD i 0)) (b.getD i []) id
def gi(m:aE)(o:Int)(a:List Int)(b:List (List UInt8))(live:List Int)(k:Int)(n:Nat):List cT:=(qC n).flatMap (pq m o a b live k)
theorem UI(m:aE)(o:Int)(a:List Int)(b:List (List UInt8))(live:List Int)(k:Int)(n:Nat):gi m o a b live k (n+1)=gi m o a b live k n++pq m o a b live k n:=by
 unfold gi;rw[zI,zc,zl,wj,qQ]
theorem Io(m:aE)(o:Int)(a:List Int)(b:List (List UInt8))(live:List Int)(k:Int)(i:Nat):((nc m o a b live i).filter fun y=>decide (y.1=k)).map zC=(pq m o a b live k i).map dN:=by
 unfold nc pq;rw[List.filter_map,wS,wS];rfl
theorem FL(m:aE)(o:Int)(a:List Int)(b:List (List UInt8))(live:List Int)(k:Int):∀n,((db m o a b live n).filter fun y=>decide (y.1=k)).map zC=(gi m o a b live k n).map dN
 |0=>by simp[db,gi]
 |n+1=>by rw[uj,UI,zk,qS,qS,FL m o a b live k n,Io]
theorem Zm{m:aE}{o:Int}{a:List Int}{b:List (List UInt8)}{live:List Int}{k:Int}{i:Nat}{r:cT}(h:r∈pq m o a b live k i):∃id:Nat,r=kw m o i (cJ o i (a.getD i 0)) (b.getD i []) id/\id<(m.p.1+m.extra).toNat:=by
 unfold pq at h;obtain⟨id,c,rfl⟩:=qu.1 h;exact⟨id,rfl,qF.1 (qI.1 c).1⟩
theorem Nw{m:aE}{o:Int}{a:List Int}{b:List (List UInt8)}{live:List Int}{k:Int}{n:Nat}{r:cT}(h:r∈gi m o a b live k n):∃(i id:Nat),r=kw m o i (cJ o i (a.getD i 0)) (b.getD i []) id/\i<n/\id<(m.p.1+m.extra).toNat:=by
 unfold gi at h;obtain⟨i,c,e⟩:=zo.1 h;obtain⟨id,d,h3⟩:=Zm e;exact⟨i,id,d,qF.1 c,h3⟩
end Go.Proofs.YtdhamoojccmbdaaGreatDoor
namespace Wl
open Go
def dw(m:aE)(d:bC)(n:Int):bC:=if gg d d.l.length n then d else{d with l:=ja m d.l,wait:=0,laid:=[],has:=false}
theorem Zn{m:aE}{r:cT}(h:cX m r=true):iU r=true:=by
 unfold cX at h;simp only[qz]at h;exact h.1
theorem aed{l:List cT}{r:cT}(h:r∈sa l):r∈l:=by
 unfold sa at h;obtain⟨i,a,rfl⟩:=qu.1 h;have a:=qF.1 (qI.1 a).1;rw[qe,qd a];exact qg a
theorem Zo{m:aE}{c:List UInt8}{r:cT}(h:jH m c=some r):dm c=some r/\cX m r=true:=by
 unfold jH at h;cases hc:dm c with
 |none=>rw[hc]at h;cases h
 |some x=>
  rw[hc]at h;dsimp only at h;by_cases a:cX m x=true
  ·rw[if_pos a]at h;injection h with h;subst h;exact⟨rfl,a⟩
  ·rw[if_neg a]at h;cases h
theorem EM{m:aE}{l:List (List UInt8)}{r:cT}(h:r∈fQ m l):∃c∈l,dm c=some r/\cX m r=true:=by
 have h:=yw.1 (aed h);obtain⟨c,b,a⟩:=List.mem_filterMap.1 h;exact⟨c,b,Zo a⟩
theorem Zp(m:aE)(l:List (List UInt8)):∀c∈ja m l,c.length=64:=fun c b=>by
 rcases qB.1 b with h|h
 ·exact DW h
 ·obtain⟨r,d,rfl⟩:=qu.1 h;obtain⟨_,_,_,a⟩:=EM d;exact SN (Zn a)
theorem UJ{w:Pow}(a:w.calm){d:bC}{l:List (List UInt8)}(g:∀c∈l,c.length=64)(e:d.lost=false)(h:l.length<=d.room):d.rewrite w l=(0,w,{d with l:=l,wait:=0,laid:=[],has:=false}):=by
 unfold bC.rewrite;have:l.all (fun b=>decide (b.length=64))=true:=qM.2 fun c f=>decide_eq_true (g c f);rw[if_neg (by simp[this]),if_neg (by simp[e]),if_neg (by omega),if_neg (by simp[a.1]),tO a];rfl
theorem Zq{w:Pow}(e:w.calm){m:aE}{d:bC}{n:Int}(h:nB m d n=true):iF m w d n=(0,w,dw m d n):=by
 have h0:=h;unfold nB at h;rw[qz,wc,wK]at h;obtain⟨c,b⟩:=h;unfold iF dw;rw[if_neg (by simp[c]),if_neg (by simp[h0])];by_cases a:gg d d.l.length n=true
 ·rw[if_pos a,if_pos a]
 ·rw[if_neg a,if_neg a];have h3:gg d (ja m d.l).length n=true:=by
   rcases b with b|b
   ·exact absurd b a
   ·exact b
  unfold gg at h3;rw[decide_eq_true_eq]at h3;exact UJ e (Zp m d.l) c (by omega)
theorem UK(m:aE)(ds:aW)(k:Int)(l:List Int)(N:Int->Int):cY m ds (k::l) N=(mZ m ds k (N k)&&cY m ds l N):=vU
theorem Cv{m:aE}{ds:aW}{k n:Int}(h:mZ m ds k n=true):∃d,bG ds k=some d/\nB m d n=true:=by
 unfold mZ at h;cases hd:bG ds k with
 |none=>rw[hd]at h;cases h
 |some d=>rw[hd]at h;exact⟨d,rfl,h⟩
theorem aee(ds:aW)(k:Int)(d:bC):(lm ds k d).length=ds.length:=by unfold lm;simp
theorem aef{ds:aW}{k:Int}{c d:bC}(a:ds.length=64)(b:bG ds k=some c)(s:Int):bG (lm ds k d) s=if s=k then some d else bG ds s:=by
 obtain⟨n,rfl,e⟩:=pj b;exact Dz ds n d s e a
theorem RL{m:aE}{ds a:aW}{l:List Int}{N:Int->Int}(h:∀k∈l,bG ds k=bG a k):cY m ds l N=cY m a l N:=by
 unfold cY;rw[yC,qM,qM];refine forall_congr' fun k=>forall_congr' fun b=>?_;unfold mZ;rw[h k b]
theorem EN{w:Pow}(l:w.calm){m:aE}{N:Int->Int}:∀{live:List Int} {ds:aW},live.Nodup->ds.length=64->cY m ds live N=true->
  ∃a,makes m N live w ds=(0,w,a)/\a.length=64/\∀k,bG a k=(bG ds k).map fun d=>if k∈live then dw m d (N k)else d
 |[],ds,_,h64,_=>⟨ds,rfl,h64,fun k=>by cases bG ds k<;>simp⟩
 |k::live,ds,hnd,h64,hf=>by
  rw[UK,qz]at hf;obtain⟨b,f⟩:=wR.1 hnd;obtain⟨d,i,h⟩:=Cv hf.1;have e:iy m w ds k (N k)=(0,w,lm ds k (dw m d (N k))):=by
   unfold iy;rw[i];dsimp only;rw[Zq l h]
  have c:=aef (d:=dw m d (N k)) h64 i;have j:cY m (lm ds k (dw m d (N k))) live N=true:=by
   rw[<-RL (ds:=ds) fun s g=>?_]
   ·exact hf.2
   ·rw[c,if_neg (fun p:s=k=>b (p▸g))]
  obtain⟨a,o,n,h3⟩:=EN l f (by rw[aee];exact h64) j;refine⟨a,?_,n,fun s=>?_⟩
  ·show(if(iy m w ds k (N k)).1=0 then makes m N live (iy m w ds k (N k)).2.1 (iy m w ds k (N k)).2.2 else iy m w ds k (N k))=_;rw[e];exact o
  ·rw[h3 s,c];by_cases g:s=k
   ·subst g;rw[if_pos rfl,i];simp[b]
   ·rw[if_neg g];simp[g]
theorem Nx{m:aE}{d:bC}{n:Int}(h:nB m d n=true):(dw m d n).lost=false/\(dw m d n).room=d.room/\((dw m d n).l.length:Int)+max n 0<=d.room:=by
 unfold nB at h;rw[qz,wc,wK]at h;obtain⟨c,b⟩:=h;unfold dw;by_cases a:gg d d.l.length n=true
 ·rw[if_pos a];unfold gg at a;rw[decide_eq_true_eq]at a;exact⟨c,rfl,by omega⟩
 ·rw[if_neg a];have h3:gg d (ja m d.l).length n=true:=by
   rcases b with b|b
   ·exact absurd b a
   ·exact b
  unfold gg at h3;rw[decide_eq_true_eq]at h3;exact⟨c,rfl,by dsimp only;omega⟩
theorem WC(b:ByteArray):∀n i r,b.size-i=n->ByteArray.toList.loop b i r=r.reverse++b.data.toList.drop i:=by
 have c:b.data.toList.length=b.size:=rfl;intro n
 induction n with
 |zero=>
  intro i r h;rw[ByteArray.toList.loop,if_neg (by omega),List.drop_eq_nil_of_le (by rw[c];omega),qQ]
 |succ n ih=>
  intro i r h;have a:i<b.size:=by omega
  rw[ByteArray.toList.loop,if_pos a,ih (i+1) _ (by omega)];have d:b.data.toList.drop i=b.get! i::b.data.toList.drop (i+1):=by
   rw[qW (by rw[c];exact a)];congr 1;show _=b.data[i]!;rw[getElem!_pos b.data i a,Array.getElem_toList]
  rw[d,List.reverse_cons,qp];rfl
theorem toList_eq(x:ByteArray):x.toList=x.data.toList:=by
 unfold ByteArray.toList;rw[WC x _ 0 [] rfl];rfl
theorem ke{a b:ByteArray}(h:a.toList=b.toList):a=b:=by
 rw[toList_eq,toList_eq]at h;cases a;cases b;congr;exact Array.toList_inj.1 h
theorem WD(a:ByteArray):eG a a=false:=aax _
theorem abR{a b:ByteArray}(h:jx a b=true)(c:a≠b):eG a b=true:=by
 rcases(LK a b).1 h with h|h
 ·exact h
 ·exact absurd (ke h) c
theorem pr{a b:ByteArray}(h:eG a b=true):a≠b:=fun e=>by subst e;rw[WD]at h;cases h
theorem ahn:Ord sK:=⟨fun a b c e d=>GH _ _ _ e d,fun a b=>GI _ _⟩
theorem jD{m:aE}{x e:bY}:e∈(cM m x).objs↔e∈m.objs∨e=x:=by
 show e∈(m.objs++[x]).mergeSort sK↔_;rw[yw];simp
end Wl
namespace Go.Proofs.YtdhamoojccmbdaaGreatDoor
open Go Go.Vc Go.Proofs Wl
theorem abS{name:ByteArray}{l:List Wl.bY}(h:l.any (bR name)=false):∀e∈l,e.name≠name:=fun e b a=>by
 have:=z6.1 h e b;unfold bR at this;rw[a]at this;simp at this
theorem abT{m:aE}{x:Wl.bY}(F:bP m=true)(f:jG x.name=true)(l:∀e∈m.objs,e.name≠x.name)(g:x.object=m.next)(J:m.objs.length<=11)(M:m.next<=16777215)(N:m.seq<=2147483646)
  (k:0<=x.length/\x.length<=m.p.1*m.p.2.2*8) (v:∀t∈x.tries,0<=t/\t<=15) (z:(x.tries.length:Int)=countP m.p x.length):bP (cM m x)=true:=by
 obtain⟨y,w,h3,K,s,B,u⟩:=(bS m).1 F;obtain⟨L,I,a3,a4⟩:=(dD m).1 y;have c:(cM m x).objs.Perm (m.objs++[x]):=yn _ _;have i:∀e∈m.objs,e.object<m.next:=fun e j=>((eW m e).1 (s e j)).2.1.2;refine(bS _).2 ⟨(dD _).2 ⟨⟨?_,?_⟩,⟨?_,?_⟩,a3,a4⟩,w,h3,?_,fun e j=>?_,?_,?_⟩
 ·show 1<=m.seq+1;omega
 ·show m.seq+1<=_;omega
 ·show 0<=m.next+1;omega
 ·show m.next+1<=_;omega
 ·rw[c.length_eq];simp;omega
 ·rcases jD.1 j with j|rfl
  ·obtain⟨E,H,A,D,G⟩:=(eW m e).1 (s e j);exact(eW _ e).2 ⟨E,⟨H.1,by show _<m.next+1;omega⟩,A,D,G⟩
  ·exact(eW _ _).2 ⟨f,⟨by omega,by show _<m.next+1;omega⟩,k,v,z⟩
 ·have d:(m.objs++[x]).Pairwise (fun a b:Wl.bY=>a.name≠b.name):=wV.2 ⟨B.imp fun h=>pr h,List.pairwise_singleton _ _,fun a o b r=>by rw[qH.1 r];exact l a o⟩;have n:=(c.pairwise_iff (R:=fun a b:Wl.bY=>a.name≠b.name) fun{a b} h=>Ne.symm h).2 d;have q:(cM m x).objs.Pairwise (fun a b=>sK a b=true):=(GG ahn (m.objs++[x])).1;exact(q.and n).imp fun h=>abR h.1 h.2
 ·have d:(m.objs++[x]).Pairwise (fun a b:Wl.bY=>a.object≠b.object):=wV.2 ⟨u,List.pairwise_singleton _ _,fun a o b r=>by rw[qH.1 r,g];have:=i a o;omega⟩;exact(c.pairwise_iff (R:=fun a b:Wl.bY=>a.object≠b.object) fun{a b} h=>Ne.symm h).2 d
theorem WE{p:Pm}{o:Int}{n:Nat}{t:List Int}(h:cz p o n=some t):∀x∈t,0<=x/\x<=15:=fun x d=>by
 obtain⟨i,b,rfl⟩:=qG d;obtain⟨k,c,a⟩:=By h i b;have:=(Ie a).1;rw[c];omega
theorem Aq{p:Pm}(a:bJ p=true)(b:List UInt8):((bm p b).length:Int)=countP p b.length:=by
 have:=(lO a b.length).1;unfold bm;rw[qx,zw];omega
theorem aeg{m:aE}{d:Bool}{ds:aW}{name:ByteArray}{b:List UInt8}{t:List Int}(g:bP m=true)(k:cB m d ds name b.length=0)(f:cz m.p m.next (bm m.p b).length=some t):bP (cM m ⟨name,m.next,b.length,t⟩)=true:=by
 obtain⟨n,l,z3,z4,z5⟩:=jC k;have i:¬m.p.1*m.p.2.2*8<(b.length:Int):=fun h=>z4 (.inl h);have e:m.objs.length<=11:=by have:¬12<=m.objs.length:=fun h=>z4 (.inr h);omega
 have c:m.next<=16777215:=by have:¬16777215<m.next:=fun h=>z5 (.inr (.inl h));omega
 have a:m.seq<=2147483646:=by have:¬2147483647<=m.seq:=fun h=>z5 (.inr (.inr h));omega
 have j:=((dD m).1 ((bS m).1 g).1).2.2.1;refine abT g l (abS z3) rfl e c a ⟨by show 0<=(b.length:Int);omega,by show(b.length:Int)<=_;omega⟩ (WE f) ?_;show(t.length:Int)=countP m.p b.length;rw[im f,Aq j]
end Go.Proofs.YtdhamoojccmbdaaGreatDoor
namespace Wl
open Go
def dG(a:List (List UInt8))(d:bC):bC:=if a.isEmpty then d else{d with l:=d.l++a,wait:=0,laid:=[],has:=false}
def ky(P:List (Int×List UInt8))(s:Int):List (List UInt8):=(P.filter fun x=>decide (x.1=s)).map zC
theorem UL{P:List (Int×List UInt8)}{s:Int}(h:∀x∈P,x.1≠s):ky P s=[]:=by
 unfold ky;rw[wF.2 fun x a=>by simpa using h x a];rfl
theorem UM(P:List (Int×List UInt8))(s:Int):(ky P s).length=(P.map qJ).count s:=by
 unfold ky;rw[qx];exact(Go.Vc.abQ P s).symm
theorem Ka{l:List Int}{s:Int}(h:0<=s/\s<64):s∈fK l↔s∈l:=by
 unfold fK;rw[qI,decide_eq_true_eq];refine⟨fun h=>h.2,fun h'=>⟨?_,h'⟩⟩;exact qu.2 ⟨s.toNat,qF.2 (by omega),by omega⟩
theorem Ny{w:Pow}(o:w.calm){ds:aW}{P:List (Int×List UInt8)}(m:ds.length=64)
  (a:∀x∈P,x.2.length=64/\∃d,bG ds x.1=some d/\d.lost=false/\d.l.length+(ky P x.1).length<=d.room):
  ∃b,layAll P w ds=(0,w,b)/\b.length=64/\∀s,bG b s=(bG ds s).map (dG (ky P s)):=by
 have F:Fit ds (P.map qJ) (P.map qJ):=⟨m,fun k r=>by
  obtain⟨x,g,rfl⟩:=qu.1 r;obtain⟨_,d,j,i,h3⟩:=a x g;rw[UM]at h3;exact⟨d,j,i,h3⟩⟩
 obtain⟨t,q,a3⟩:=Go.Vc.aec o P ds F fun x g=>⟨qu.2 ⟨x,g,rfl⟩,(a x g).1⟩
 refine⟨(layAll P w ds).2.2,?_,q.len,fun s=>?_⟩
 ·have i:=aeb o P ds;exact yT t (yT i rfl)
 ·rw[a3 s];unfold Nt;cases hd:bG ds s with
  |none=>rfl
  |some d=>
   obtain⟨e,f⟩:=ahm hd;rw[qN,qN,qN];congr 1;unfold dG;have n:s∈P.map qJ↔(ky P s).isEmpty=false:=by
    rw[<-List.count_pos_iff,<-UM];cases hc:ky P s<;>simp
   by_cases c:(ky P s).isEmpty=true
   ·have h0:ky P s=[]:=List.isEmpty_iff.1 c;have j:(P.filter fun x=>decide (x.1=s))=[]:=List.map_eq_nil_iff.1 h0;rw[if_neg (fun h=>by rw[Ka ⟨e,f⟩,n]at h;rw[h]at c;cases c),if_pos c,j];simp
   ·have p:(ky P s).isEmpty=false:=by simpa using c
    rw[if_pos ((Ka ⟨e,f⟩).2 (n.2 p)),if_neg c];rfl
end Wl
namespace Go.Proofs.YtdhamoojccmbdaaGreatDoor
open Go Go.Vc Go.Proofs Wl
theorem pu{n:aE}{live:List Int}(a:live.Nodup)(s:Int):ky (bx n live) s=if s∈live then be n else[]:=by
 by_cases h:s∈live
 ·rw[if_pos h];exact Im n s a h
 ·rw[if_neg h];exact UL fun x b c=>h (c▸(kv b).1)
theorem UN(m:aE)(o:Int)(a:List Int)(b:List (List UInt8))(live:List Int)(k:Int)(n:Nat):ky (db m o a b live n) k=(gi m o a b live k n).map dN:=FL m o a b live k n
theorem UO{m:aE}(h:bP m=true):be m≠[]:=by
 unfold be gT gj;rw[if_pos h];intro e;have:=congrArg y6 e;simp[ck]at this;omega
theorem Ip{ds:aW}{l:List Int}(h:l.Nodup):(bg ds l).Nodup:=h.filter _
theorem sB{ds:aW}{l:List Int}{k:Int}(h:k∈bg ds l):k∈l/\∃d,bG ds k=some d/\d.lost=false:=by
 obtain⟨b,a⟩:=qI.1 h;unfold isLive at a;cases hd:bG ds k with
 |none=>rw[hd]at a;cases a
 |some d=>rw[hd]at a;exact⟨b,d,rfl,by simpa using a⟩
theorem Ar(a:List (List UInt8))(d:bC):(dG a d).l=d.l++a:=by
 unfold dG;by_cases h:a.isEmpty=true
 ·rw[if_pos h,List.isEmpty_iff.1 h,qQ]
 ·rw[if_neg h]
theorem nf(a:List (List UInt8))(d:bC):(dG a d).lost=d.lost/\(dG a d).room=d.room:=by
 unfold dG;split<;>exact⟨rfl,rfl⟩
theorem aeh{b a:List (List UInt8)}(h:a≠[])(d:bC):dG a (dG b d)=dG (b++a) d:=by
 have e:∀c:List (List UInt8),c≠[]->∀d,dG c d={d with l:=d.l++c,wait:=0,laid:=[],has:=false}:=fun c g d=>by
  unfold dG;rw[if_neg (by simpa using g)]
 by_cases f:b=[]
 ·subst f;rfl
 ·rw[e b f,e a h,e (b++a) (by simp[h])];simp
theorem Iq(a:Nat)(l:List (Int×List UInt8))(k:Int):jb a l k=a+(ky l k).length:=by unfold jb ky;rw[qx]
theorem XB{p:Pm}{o:Int}{b:List UInt8}{t:List Int}(d:bJ p=true)(c:cz p o (bm p b).length=some t){i:Nat}(f:i<(bm p b).length):∃K H w n,bV p (cJ o i (t.getD i 0)) ((bm p b).getD i []) K H w n:=by
 have m:=im c;obtain⟨k,g,a⟩:=By c i (by omega);have h:Ng p o i k=true:=(Ie a).2.1;have e:t.getD i 0=(k:Int):=by rw[iM 0 (by omega)];exact g
 rw[e];refine aeR d h ?_;have l:=(bK p).1 d;have q:0<=p.1*p.2.2:=y9 (by omega) (by omega);have j:(bm p b)[i]=uW (dv p) b i:=by simp[bm]
 rw[iM [] f,j,Ic];unfold dv;omega
theorem Je{m:aE}{b:List UInt8}{t:List Int}(e:bP m=true)(g:m.next<=16777215)(h8:(bm m.p b).length<=8)(d:cz m.p m.next (bm m.p b).length=some t){i id:Nat}(c:i<(bm m.p b).length)(hid:id<(m.p.1+m.extra).toNat):
  iU (kw m m.next i (cJ m.next i (t.getD i 0)) ((bm m.p b).getD i []) id)=true:=by
 have a:=((dD m).1 ((bS m).1 e).1)
 have f:=(bK m.p).1 a.2.2.1;obtain⟨K,H,w,n,B⟩:=XB a.2.2.1 d c;exact UH B ⟨a.2.1.1,g⟩ (by omega) (by omega)
theorem QA{m:aE}{offs:Int}{w:Pow}{ds:aW}{name:ByteArray}{b:List UInt8}(L:w.calm)(I:ds.length=64)(v:bP m=true):
  (cB m (eF w offs) ds name b.length≠0->ga m offs w ds name b=(cB m (eF w offs) ds name b.length,m,w,ds))/\
  (cB m (eF w offs) ds name b.length=0->(cz m.p m.next (bm m.p b).length=none->ga m offs w ds name b=(8,m,w,ds))/\∀t,cz m.p m.next (bm m.p b).length=some t->
   let live:=bg ds m.drives;let l:=db m m.next t (bm m.p b) live (bm m.p b).length;let n:=cM m ⟨name,m.next,b.length,t⟩;let N:=jb (be n).length l
   bP n=true/\(cY m ds live N=false->ga m offs w ds name b=(7,m,w,ds))/\(cY m ds live N=true->∃g,ga m offs w ds name b=(0,n,w,g)/\g.length=64/\
    ∀k,bG g k=(bG ds k).map fun d=>if k∈live then dG ((gi m m.next t (bm m.p b) live k (bm m.p b).length).map dN++be n) (dw m d (N k))else d)):=by
 refine⟨fun h=>by unfold ga;rw[if_pos h],fun h=>⟨fun s=>by unfold ga;rw[if_neg (by simpa using h),s],fun t s=>?_⟩⟩;intro live l n N;have D:bP n=true:=aeg v h s;obtain⟨z1,z2,z3,z4,z5⟩:=jC h;have z:=((dD m).1 ((bS m).1 v).1)
 have H:¬m.p.1*m.p.2.2*8<(b.length:Int):=fun h=>z4 (.inl h);have h8:=xq z.2.2.1 H;have F:live≠[]:=fun h=>z5 (.inl h);have o:0<=m.next/\m.next<=16777215:=⟨z.2.1.1,by have:¬16777215<m.next:=fun h=>z5 (.inr (.inl h));omega⟩
 have f:live.Nodup:=Ip (uG v);have Q:∀k∈live,0<=k/\k<64:=fun k a=>ko v k (sB a).1;have e:ga m offs w ds name b=(if cY m ds live N=false then(7,m,w,ds)else if(makes m N live w ds).1≠0 then((makes m N live w ds).1,m,(makes m N live w ds).2)else
   if(layAll l (makes m N live w ds).2.1 (makes m N live w ds).2.2).1≠0 then((layAll l (makes m N live w ds).2.1 (makes m N live w ds).2.2).1,m,(layAll l (makes m N live w ds).2.1 (makes m N live w ds).2.2).2)else
   ((layAll (bx n live) (layAll l (makes m N live w ds).2.1 (makes m N live w ds).2.2).2.1 (layAll l (makes m N live w ds).2.1 (makes m N live w ds).2.2).2.2).1,if(layAll (bx n live) (layAll l (makes m N live w ds).2.1 (makes m N live w ds).2.2).2.1 (layAll l (makes m N live w ds).2.1 (makes m N live w ds).2.2).2.2).1=0 then n else m,(layAll (bx n live) (layAll l (makes m N live w ds).2.1 (makes m N live w ds).2.2).2.1 (layAll l (makes m N live w ds).2.1 (makes m N live w ds).2.2).2.2).2)):=by
  unfold ga;rw[if_neg (by simpa using h),s]
 refine⟨D,fun r=>by rw[e,if_pos r],fun r=>?_⟩;rw[e,if_neg (by rw[r];decide)];obtain⟨U,Z,m2,S⟩:=EN L (N:=N) f I r;rw[Z];dsimp only;rw[if_neg (by simp)];have E:∀y∈l,y.1∈live:=fun y A=>(UE o F Q h8 A).1;have u:∀y∈l,y.2.length=64:=fun y A=>by
  obtain⟨i,W,A⟩:=zo.1 A;obtain⟨id,hid,rfl⟩:=qu.1 A;exact SN (Je v o.2 h8 s (qF.1 W) (qF.1 hid))
 have c:∀k∈live,∃d,bG U k=some d/\d.lost=false/\(d.l.length:Int)+max (N k) 0<=d.room:=fun k a=>by
  obtain⟨_,d,hd,X⟩:=sB a;have J:=qM.1 r k a;obtain⟨d',K,G⟩:=Cv J;obtain⟨r1,r2,r3⟩:=Nx G;refine⟨dw m d' (N k),?_,r1,by rw[r2];exact r3⟩;rw[S k,K,qN,if_pos a]
 obtain⟨d2,l1,l2,T⟩:=Ny L (ds:=U) (P:=l) m2 fun x j=>by
  obtain⟨d,M,O,V⟩:=c x.1 (E x j);refine⟨u x j,d,M,O,?_⟩;have:N x.1=_:=Iq _ _ _;omega
 rw[l1];dsimp only;rw[if_neg (by simp)];obtain⟨Y,p1,p2,p3⟩:=Ny L (ds:=d2) (P:=bx n live) l2 fun x j=>by
  obtain⟨B,q⟩:=kv j;obtain⟨d,M,O,V⟩:=c x.1 B;refine⟨q,dG (ky l x.1) d,by rw[T,M,qN],by rw[(nf _ _).1];exact O,?_⟩;have:N x.1=_:=Iq _ _ _;rw[(nf _ _).2,Ar,pu f,if_pos B,qw];omega
 rw[p1];refine⟨Y,rfl,p2,fun k=>?_⟩;rw[p3 k,T k,S k,Option.map_map,Option.map_map];congr 1;funext d;show dG (ky (bx n live) k) (dG (ky l k) (if k∈live then dw m d (N k)else d))=_;rw[pu f];by_cases a:k∈live
 ·rw[if_pos a,if_pos a,if_pos a];have R:ky l k=(gi m m.next t (bm m.p b) live k (bm m.p b).length).map dN:=UN _ _ _ _ _ _ _;rw[R,aeh (UO D)]
 ·rw[if_neg a,if_neg a,if_neg a,UL (P:=l) fun x j (he:x.1=k)=>a (he▸E x j)];rfl
theorem Nz(l:List Int)(b:l.length<=64)(s:Int):bG (gK l (bj l l.length).length) s=if s∈bj l l.length then some (bC.new (l.getD s.toNat 0).toNat)else none:=by
 by_cases a:0<=s/\s<64
 ·unfold bG gK;rw[if_pos a,qP,zt (by omega),qN,qi (ql _)];have e:((s.toNat:Nat):Int)=s:=by omega
  rw[e];by_cases h:s∈bj l l.length
  ·rw[if_pos h];rfl
  ·rw[if_neg h];rfl
 ·rw[if_neg (fun h=>?_)]
  ·unfold bG;rw[if_neg a]
  ·obtain⟨n,c,rfl,_⟩:=(Af l l.length s).1 h;omega
theorem abU{p:Pm}{extra:Int}{l:List Int}(g:l.length<=64)(d:Ap p extra l=0):
  ∃D,eT p extra Pow.new l=(0,Pow.new,D)/\D.length=64/\∀s,bG D s=if s∈bj l l.length then some ⟨(l.getD s.toNat 0).toNat,be (ce p extra l),0,[],false,false⟩else none:=by
 have k:=UG g d;have c:(bj l l.length).Nodup:=(FK l l.length).imp fun h e=>by omega
 have b:=(Nv d).2.2.2.2;rw[Zk,if_pos d];obtain⟨D,j,i,h3⟩:=Ny EL (ds:=gK l (bj l l.length).length) (P:=bx (ce p extra l) (bj l l.length)) (Wj _ _) fun x m=>by
  obtain⟨a,f⟩:=kv m;refine⟨f,bC.new (l.getD x.1.toNat 0).toNat,by rw[Nz l g,if_pos a],rfl,?_⟩;rw[pu c,if_pos a];have:=z6.1 b x.1 a;simp only[decide_eq_true_eq]at this;show 0+_<=(l.getD x.1.toNat 0).toNat;omega
 refine⟨D,j,i,fun s=>?_⟩;rw[h3,Nz l g,pu c];by_cases h:s∈bj l l.length
 ·rw[if_pos h,if_pos h,if_pos h,qN];unfold dG;rw[if_neg (by simpa using UO k)];rfl
 ·rw[if_neg h,if_neg h,if_neg h];rfl
theorem Zr(m:aE):(be m).length=((gj m).length+47)/48:=by unfold be gT;rw[qx,zw]
theorem aho(x:Wl.bY):(iT x).length=6+x.name.size+x.tries.length:=by
 unfold iT;simp[ck];omega
theorem abV{m:aE}(h:bP m=true):(gj m).length=14+m.drives.length+(m.objs.flatMap iT).length:=by
 unfold gj;rw[if_pos h];simp only[qw,ck,zb,ym,qx];omega
theorem nC{p:Pm}{n:Int}(h:n<=p.1*p.2.2*8):countP p n<=8:=by
 unfold countP;split
 ·rename_i a;rw[qz,decide_eq_true_eq]at a;have:=(bK p).1 a.1;have b:0<p.1*p.2.2:=vR (by omega) (by omega);have:(n-1)/(p.1*p.2.2)<8:=Int.ediv_lt_of_lt_mul b (by rw[Int.mul_comm 8];omega);omega
 ·decide
theorem afX{m:aE}{x:Wl.bY}(h:gv m x=true):(iT x).length<=26:=by
 obtain⟨a,c,h3,b,e⟩:=(eW m x).1 h;have:=nC h3.2;have d:x.name.size<=12:=by unfold jG at a;simp at a;omega
 rw[aho];omega
theorem DC{α β:Type}{f:α->List β}{c:Nat}:∀{l:List α},(∀x∈l,(f x).length<=c)->(l.flatMap f).length<=l.length*c
 |[],_=>by simp
 |x::l,h=>by
  have d:=h x qU;have b:=DC (l:=l) fun y a=>h y (qO _ a);rw[zl,qw,zb,zJ];omega
theorem aei{m:aE}(h:bP m=true):(be m).length*48<=61+m.drives.length+m.objs.length*26:=by
 have:=DC (f:=iT) (l:=m.objs) fun x a=>afX (((bS m).1 h).2.2.2.2.1 x a);have b:=abV h;rw[Zr];omega
theorem NA{m:aE}(h:bP m=true):(be m).length<=9:=by
 have b:=aei h;have a:=kZ h;have h3:=((bS m).1 h).2.2.2.1;omega
theorem WF{α β:Type}(f:α->List β)(c:Nat)(n:Nat)(l:List α)(h:∀x∈l,(f x).length<=c)(a:l.length<=n):(l.flatMap f).length<=n*c:=q9 (DC h) (zr c a)
theorem WG(m:aE)(o:Int)(a:List Int)(b:List (List UInt8))(live:List Int)(k:Int)(n:Nat):(gi m o a b live k n).length<=n*(m.p.1+m.extra).toNat:=by
 unfold gi;refine WF _ _ n _ (fun i _=>?_) (by simp);have:=congrArg y6 (Io m o a b live k i);rw[qx,qx]at this;rw[<-this];refine q9 (qY _ _) ?_;rw[EJ];exact ql _
def dU(m:aE)(offs:Int)(w:Pow)(ds:aW)(n:aE):Int×aE×Pow×aW:=
 if eF w offs then(14,m,w,ds)else if !bP n||decide (n.seq≠m.seq+1)then(1,m,w,ds)else
 let live:=bg ds n.drives;let N:Int->Int:=fun _=>((be n).length:Int)
 if live=[]∨cY m ds live N=false then(7,m,w,ds)else
 if(makes m N live w ds).1≠0 then((makes m N live w ds).1,m,(makes m N live w ds).2)else
 let a:=layAll (bx n live) (makes m N live w ds).2.1 (makes m N live w ds).2.2
 (a.1,if a.1=0 then n else m,a.2)
theorem DD{m:aE}(h:bP m=true):dp m:=by
 obtain⟨o,n,h3,k,d,j,f⟩:=(bS m).1 h;have l:=kZ h;refine⟨by omega,by omega,fun e c=>?_⟩;obtain⟨a,i,b,p,g⟩:=(eW m e).1 (d e c);have:=nC b.2;have q:e.name.size<=12:=by unfold jG at a;simp at a;omega
 omega
section
variable {B:aA} {h0 h:Heap} {As:List HP} {a pw:Addr} {offs:Int} {da:List (Option Addr)} {w:Pow} {ds:aW}
theorem WH(x:cv)(m:aE)(z:cv)(n:aE)(U:St B h0 As fun h=>ff h z n)(hz:dp m)(o:dp n)(am:-1<=m.seq/\m.seq<=2^40)
  (H:aa B h0 h (bn bA a pw (aZ x) offs da w ds::dl x m::As)):
  ae xl CS #[vZ (some a),go z] h fun v h'=>v=vX xh (dU m offs w ds n).1/\
   ∃y,aa B h0 h' (bn bA a pw (aZ y) offs da (dU m offs w ds n).2.2.1 (dU m offs w ds n).2.2.2::dl y (dU m offs w ds n).2.1::As):=by
 refine BW (some a) z ?_;unfold pT;refine H.boxed fun E M i=>(pk i).mono ?_;have i:=i.bM;rintro _ M ⟨rfl,rfl⟩;have i:aa B h0 M (aq E aF (aZ z)::bn bA a pw (aZ x) offs da w ds::dl x m::As):=i;have u:ff M z n:=U.at [_,_,_] i;have W:ff M x m:=i.at 2 rfl;refine⟨_,rfl,bs (fun e=>?_) fun e1=>?_⟩
 ·have K:dU m offs w ds n=(14,m,w,ds):=by unfold dU;rw[if_pos e]
  rw[K];exact⟨rfl,x,i.bo 3 [1,2]⟩
 refine aX ?_;refine⟨z,(i.box 0 rfl).aO _ rfl,(KS z n M u o).mono ?_⟩;rintro _ h3 ⟨rfl,R3⟩;have F:=i.up R3.ai;have Z:=u.up R3.ai;have no:∀{h':Heap},aa B h0 h' (aq E aF (aZ z)::bn bA a pw (aZ x) offs da w ds::dl x m::As)->(bP n=false∨n.seq≠m.seq+1)->(Value.int .i64 1=vX xh (dU m offs w ds n).1/\∃y,aa B h0 h' (bn bA a pw (aZ y) offs da (dU m offs w ds n).2.2.1 (dU m offs w ds n).2.2.2::dl y (dU m offs w ds n).2.1::As)):=fun{h'} d hc=>by
  have K:dU m offs w ds n=(1,m,w,ds):=by
   unfold dU;rw[if_neg (by rw[e1];decide),if_pos];rcases hc with hc|hc
   ·rw[hc];rfl
   ·rw[decide_eq_true hc,Bool.or_true]
  rw[K];exact⟨rfl,x,d.bo 3 [1,2]⟩
 refine⟨_,rfl,trivial,bi (fun e=>no F (.inl e)) fun e2=>?_⟩;have L:=F.box 0 rfl;have ab:=(aa.cI (F.bo 2 [1,0])).2;refine⟨z.1,L.cell0 rfl,a,rfl,x.1,ab.cell0 rfl,?_⟩;rw[u.seq,W.seq,Go.Vc.wrap_small (m.seq+1) (by omega) (by omega)];refine ci (fun e=>no F (.inr e)) fun e3=>?_;refine⟨_,L.cell rfl,?_⟩;have Y:=kZ e2;have ad:∀k∈n.drives,0<=k/\k<64:=ko e2;refine(Na z.2.2.2.2.2.2.1 n.drives Z.drives (by omega) (F.bo 2 [1,0])).mono ?_;rintro _ h5 ⟨q,rfl,R5⟩;obtain⟨live,b⟩:∃live,live=bg ds n.drives:=⟨_,rfl⟩
 rw[<-b]at R5;have ah:live.length<=64:=by rw[b];exact q9 (qY _ _) Y
 have f:∀k∈live,0<=k/\k<64:=fun k S=>by rw[b]at S;exact ad k (qI.1 S).1
 have H5:=(F.dc R5).bo 4 [2,3,0,1];refine⟨q,rfl,z,(H5.box 3 rfl).aO _ rfl,(ny z n h5 (U.at [_,_,_,_] H5) o).mono ?_⟩;rintro _ h6 ⟨pg,rfl,R6⟩;have t:=(aa.DS R6).1;have O:=jZ n o;obtain⟨s,J⟩:∃s,s=(be n).length:=⟨_,rfl⟩
 rw[<-J]at t O;have H6:=H5.up R6.ai;refine⟨pg,rfl,H6.alloc af rfl fun c h7 H7=>?_⟩;have H7:=H7.bM;refine H7.storeAll af 0 rfl rfl [vX xh (pg.len:Int)] rfl rfl rfl rfl fun h8 j=>?_;rw[t]at j;have j:aa B h0 h8 (bn bA a pw (aZ x) offs da w ds::dl x m::aq c aT [vX xh (s:Int)]::an aT q 1 aD live::aq E aF (aZ z)::As):=j.bo 5 [1,2,0,3,4];obtain⟨T,p⟩:∃T,T=dl x m::aq c aT [vX xh (s:Int)]::an aT q 1 aD live::aq E aF (aZ z)::As:=⟨_,rfl⟩
 have tX:St B h0 T fun h=>ff h x m:=by rw[p];exact St.ij 0 rfl fun _ r=>r
 have tN:St B h0 T fun h=>cy h c aT [vX xh (s:Int)]:=by rw[p];exact St.ij (A:=aq c aT [vX xh (s:Int)]) 1 rfl fun _ r=>r.1
 have Q:St B h0 T fun h=>Rd h q 1 aD live:=by rw[p];exact St.ij (A:=an aT q 1 aD live) 2 rfl fun _ r=>r.1.seq (fun _=>rfl) r.2
 have tM:St B h0 T fun h=>cy h E aF (aZ z):=by rw[p];exact St.ij (A:=aq E aF (aZ z)) 3 rfl fun _ r=>r.1
 have tY:St B h0 T fun h=>ff h z n:=by rw[p];exact U.cons.cons.cons.cons
 obtain⟨N,hN⟩:∃N:Int->Int,N=fun _=>(s:Int):=⟨_,rfl⟩
 have tT:St B h0 T fun h=>RX jN #[] #[vZ (some c)] N live h:=fun Bs h' d k S=>by
  refine xT k c ?_;unfold ol;exact⟨(s:Int),(tN Bs h' d).cell0 rfl,by rw[hN],Sp.refl h'⟩
 have fin:∀{h':Heap} {w':Pow} {D:aW},aa B h0 h' (bn bA a pw (aZ x) offs da w' D::T)->aa B h0 h' (bn bA a pw (aZ x) offs da w' D::dl x m::As):=fun{h' w' D} d=>by
  rw[p]at d;exact d.bo 5 [0,1]
 rw[<-p]at j;have K:dU m offs w ds n=(if live=[]∨cY m ds live N=false then(7,m,w,ds)else
   if(makes m N live w ds).1≠0 then((makes m N live w ds).1,m,(makes m N live w ds).2)else
   ((layAll (bx n live) (makes m N live w ds).2.1 (makes m N live w ds).2.2).1,if(layAll (bx n live) (makes m N live w ds).2.1 (makes m N live w ds).2.2).1=0 then n else m,(layAll (bx n live) (makes m N live w ds).2.1 (makes m N live w ds).2.2).2)):=by
  rw[hN,J,b];unfold dU;rw[if_neg (by rw[e1];decide),if_neg (by rw[e2,decide_eq_false (by simpa using e3)];decide)]
 rw[K];have I:=(Q.at [_] j).len;refine aX (cw (fun e=>?_) fun e4=>?_)
 ·have:live=[]:=vu.1 (by omega);rw[if_pos (.inl this)];exact⟨rfl,x,fin j⟩
 have V:live≠[]:=fun h=>e4 (by rw[I,h];rfl);refine(Nl jN #[] #[vZ (some c)] N x m q live (by rfl) (fun Bs h' d=>⟨tX Bs h' d,tT Bs h' d⟩) hz (Q.at [_] j) (by omega) f j).mono ?_;rintro _ h9 ⟨rfl,R9⟩;have H9:=j.up R9.ai;refine⟨_,rfl,bi (fun g=>?_) fun g=>?_⟩
 ·rw[if_pos (.inr g)];exact⟨rfl,x,fin H9⟩
 rw[if_neg (by rintro(h|h);exact V h;rw[g]at h;cases h)];refine(Nm jN #[] #[vZ (some c)] N x m q live (by rfl) (fun Bs h' d=>⟨tX Bs h' d,tT Bs h' d,Q Bs h' d⟩) hz (by omega) f H9).mono ?_;rintro _ ap ⟨rfl,l⟩;obtain⟨P,X⟩:∃P,P=makes m N live w ds:=⟨_,rfl⟩
 rw[<-X]at l⊢;refine⟨_,rfl,ci (fun g2=>?_) fun g2=>?_⟩
 ·rw[if_pos g2];exact⟨rfl,x,fin l⟩
 rw[if_neg (by simpa using g2)];refine⟨z,(tM.at [_] l).aO _ rfl,(No x z n q live (fun Bs h' d=>⟨tY Bs h' d,Q Bs h' d⟩) o (by omega) f l).mono ?_⟩;rintro _ ao ⟨rfl,Q1,Q0⟩;refine⟨_,rfl,rfl,?_⟩;by_cases R:(layAll (bx n live) P.2.1 P.2.2).1=0
 ·obtain⟨y2,G⟩:=Q0 R;rw[if_pos R];rw[p]at G;exact⟨y2,G.bo 6 [0,1]⟩
 ·rw[if_neg R];exact⟨x,fin (Q1 R)⟩
end
theorem ahp{a:List Int}(b:a≠[])(id:Nat):rp a id=a[id%a.length]'(yJ _ (by cases a with|nil=>exact absurd rfl b|cons=>simp)):=by
 have d:0<a.length:=by cases a with|nil=>exact absurd rfl b|cons=>simp
 have c:=yJ id d;unfold rp RY;rw[if_neg (by rintro(h|h);exact b h;omega)];have e:((id:Int)%(a.length:Int)).toNat=id%a.length:=by omega
 rw[e,qe,qd c];rfl
def DE(a b c:Int):Int×Int×Int:=(1+a%6,1+b%3,1+c%9)
theorem Zs(a b c:Int)(h:Heap):ae xl AB #[vX xh a,vX xh b,vX xh c] h fun v h'=>v=kA (DE a b c)/\Sp h h' []:=by
 refine xP a b c ?_;unfold oc;refine(Sp.refl h).alloc af rfl fun x f g=>?_;refine(bW a 6 f (by decide) (by decide)).mono ?_;rintro v e ⟨rfl,rfl⟩;refine⟨_,rfl,(bW b 3 e (by decide) (by decide)).mono ?_⟩;rintro v h3 ⟨rfl,rfl⟩;refine⟨_,rfl,(bW c 9 h3 (by decide) (by decide)).mono ?_⟩;rintro v i ⟨rfl,rfl⟩;refine⟨_,rfl,?_⟩;dsimp only;rw[wrap_small _ (by omega) (by omega),wrap_small _ (by omega) (by omega),wrap_small _ (by omega) (by omega)];refine g.storeAll af 0 rfl rfl [vX xh (1+a%6),vX xh (1+b%3),vX xh (1+c%9)] rfl rfl rfl rfl fun j d=>?_;exact⟨DE a b c,(d.box 0 rfl).aO _ rfl,rfl,.zip d.ai⟩
end Go.Proofs.YtdhamoojccmbdaaGreatDoor
