/- Lemmas for the proof of the law; no condition. -/
import Derived.Test.YtcaonbjibhlkcaaGreatDoorKA
import Derived.Test.YtcaonbjibhlkcaaGreatDoorShelfB
import Derived.Test.YtcaonbjibhlkcaaGreatDoorPlH
import Derived.Test.YtcaonbjibhlkcaaGreatDoorPlI
set_option linter.unusedVariables false
set_option maxHeartbeats 2000000
set_option linter.unusedSimpArgs false
open Go.Proofs.Tryz renaming prog -> xv
open Go.Value renaming agg -> xp, bool -> xo, int -> xk, pointer -> xm, slice -> xl, string -> xn
open Go.IntKind renaming bits -> qk, i64 -> xq, signed -> yC, u32 -> xt, u64 -> xu, u8 -> xr, wrap -> qc
open Nat renaming add_sub_cancel_left -> zn, add_zero -> yf, le_refl -> ql, le_trans -> zk, mul_le_mul -> zJ, mul_le_mul_right -> zp, mul_one -> wc, sub_self -> zd, succ_mul -> zK, zero_le -> wS
open Int renaming emod_lt_of_pos -> w7, emod_nonneg -> yJ, mul_nonneg -> vB, natCast_mul -> zW, natCast_nonneg -> wu, ofNat_le -> yQ, tmod -> zZ, tmod_eq_emod_of_nonneg -> yE, toNat_natCast -> qp
open Bool renaming and_eq_true -> qA, and_self -> vQ, false_or -> vR, not_eq_true' -> ye, or_eq_true -> wv, true_and -> zU
open List renaming all_cons -> vS, all_eq_false -> yt, all_eq_true -> qN, any_append -> y7, any_eq_false -> wV, any_eq_true -> yb, append_assoc -> qo, append_nil -> qU, drop_eq_getElem_cons -> qS, drop_of_length_le -> zh, eq_nil_of_length_eq_zero -> qT, ext_getElem? -> zx, filter_append -> zg, filter_cons -> zo, filter_eq_nil_iff -> wP, filter_nil -> y6, flatMap_append -> ze, flatMap_cons -> zq, flatMap_nil -> yj, foldl_append -> zI, getD_eq_getElem?_getD -> qe, getElem?_append_left -> qm, getElem?_append_right -> qj, getElem?_cons_succ -> qz, getElem?_drop -> wq, getElem?_eq_getElem -> qd, getElem?_eq_none -> za, getElem?_eq_some_iff -> qn, getElem?_map -> qO, getElem?_range -> zl, getElem?_replicate -> zT, getElem?_set -> qV, getElem_map -> yc, getElem_mem -> qh, getElem_of_mem -> qE, getElem_zip -> yX, length -> vT, length_append -> qw, length_cons -> zi, length_filter_le -> zc, length_map -> qD, length_mergeSort -> wZ, length_range -> zy, length_set -> zr, map_append -> qW, map_cons -> wj, map_map -> w5, map_mergeSort -> vy, map_nil -> vj, mem_append -> qF, mem_cons -> q8, mem_cons_of_mem -> qY, mem_cons_self -> q0, mem_filter -> qJ, mem_flatMap -> zQ, mem_map -> qC, mem_mergeSort -> yB, mem_range -> qI, mem_singleton -> qG, mergeSort_perm -> wB, nodup_cons -> yK, pairwise_append -> wL, pairwise_cons -> zM, range -> qy, range_succ -> zt, replicate -> qg, set_append_right -> q7, set_cons_zero -> zu, take_length -> qX, take_of_length_le -> qi, zipWith -> zm, zipWith_append -> yT
open Option renaming map_some -> qR, some -> zO
open Go.Instr renaming storeAt -> qf
open Prod renaming ext -> yD, fst -> qK, snd -> zE
set_option maxRecDepth 100000
namespace Go.Qw
open Go Go.Vc Go.Proofs Wl
theorem abb{α:Type}{h:Heap}{e:TypeId}{s:Sl}{k:Nat}{f:α->aV}{l:List α}(c:Own h e s k f l)(a:l≠[]):s.ptr.isNone=false:=by
 rcases c.head with⟨_,_,h3⟩|⟨b,rest,h1,_⟩
 ·exact absurd h3 a
 ·rw[h1];rfl
theorem abc(p:Pm)(seed id:Int)(h:Heap):ab xv 44 #[ir p,xk xt seed,xk xq id] h fun v h'=>∃r:Sl,v=r/\
  Sp h h' [an 5 r 1 az (if bA p&&bp id then kL (bn p).toNat seed id else[])]/\r.ptr.isNone=!(bA p&&bp id):=by
 refine VR p seed id ?_;unfold QB;refine(Sp.refl h).boxed fun a N D=>?_;refine aT ?_;refine⟨p,(D.box 0 rfl).aF _ rfl,(dz p N).mono ?_⟩;rintro v F ⟨rfl,L⟩;have y:=D.comp L;have m:(bA p&&bp id)=false->Sp h F [an 5 ⟨none,0,0⟩ 1 az (if bA p&&bp id then kL (bn p).toNat seed id else[])]/\Option.isNone (none:aP)=!(bA p&&bp id):=fun P=>by
  rw[P];exact⟨(y.nil 5 1 az).take 1 (fun i A g=>by cases i with|zero=>exact g|succ i=>simp at g),rfl⟩
 refine⟨_,rfl,be (fun e=>⟨⟨none,0,0⟩,rfl,m (by rw[e];rfl)⟩) fun l=>?_⟩;refine ai (fun e=>⟨⟨none,0,0⟩,rfl,m (by simp[bp];omega)⟩) fun V=>?_;refine ai (fun e=>⟨⟨none,0,0⟩,rfl,m (by simp[bp];omega)⟩) fun z=>?_;have hid:bp id=true:=by simp[bp];omega
 refine⟨p,(y.box 0 rfl).aF _ rfl,(jw p F).mono ?_⟩;rintro v h3 ⟨rfl,Q⟩;have M:=y.comp Q;have J:=(bC p).1 l;have U:bn p=p.1+p.2.1:=by rw[bn,if_pos l]
 obtain⟨n,G⟩:∃n:Nat,bn p=n:=⟨(bn p).toNat,by omega⟩
 refine⟨_,rfl,?_⟩;dsimp only;rw[G];refine M.make ac az fi (by decide) 0 rfl rfl n n rfl rfl (ql _) (by omega) fun v S T R B=>?_;refine⟨p,(B.box 0 rfl).aF _ rfl,(AB p seed id S).mono ?_⟩;rintro w W ⟨c,rfl,q⟩;rw[l,hid,G,qp]at q;rw[l,hid,qp];have s:=B.comp q;have j:=s.seq 2 rfl (fun _=>rfl);have t:=j.len;obtain⟨b,d⟩:∃b,b=cA n seed id:=⟨_,rfl⟩
 have o:∀x∈b,0<=x/\x<(n:Int):=fun x E=>kB (by omega) (by omega) (by rw[<-d];exact E);have H:b.length<=n:=by rw[d];exact rN (by omega) (by omega) _ _
 simp only[vQ,if_true,<-d]at s j t q;refine⟨c,rfl,?_⟩;refine au (fun i:Nat=>(i:Int)) (fun i h'=>i<=b.length/\Sp h h' [ar a 25 [xk xq p.1,xk xq p.2.1,xk xq p.2.2],an 5 v 1 az (dL n (b.take i)),an 3 c 1 aC b]) (fun i=>b.length-i) 0 rfl ⟨by omega,s⟩ ?_;rintro i K ⟨g,k⟩;refine ai (fun e=>?_) (fun e=>?_)
 ·have f:i<b.length:=by omega
  have E:=o _ (qh f);refine(k.seq 2 rfl (fun _=>rfl)).bt i rfl f _ rfl ?_;refine k.set ac 1 rfl (fun _=>rfl) rfl b[i].toNat (by omega) (by rw[nO];omega) 1 rfl rfl rfl fun X I=>?_;refine⟨i+1,by rw[aj _];rfl,⟨by omega,?_⟩,by omega⟩;have z:dL n (b.take (i+1))=(dL n (b.take i)).set b[i].toNat 1:=by rw[aH _ _ f,dL,zI];rfl
  rw[z];exact I
 ·rw[qi (by omega)]at k;have u:Sp h K [an 5 v 1 az (dL n b)]:=(k.del 2).take 1 (fun i A g=>by cases i with|zero=>exact g|succ i=>simp at g);refine⟨v,rfl,?_,abb (u.own 0 rfl) (fun O=>?_)⟩
  ·rw[d]at u;exact u
  ·have:=nO n b;rw[O]at this;simp at this;omega
theorem Ep(p:Pm)(h:Heap):ab xv 43 #[ir p] h fun v h'=>∃r:Sl,v=r/\Sp h h' [dJ 23 r 1 az (if bA p then bc p.1.toNat p.2.1.toNat else[])]:=by
 refine QA p ?_;unfold JZ;refine(Sp.refl h).boxed fun a S B=>?_;refine⟨p,(B.box 0 rfl).aF _ rfl,(dz p S).mono ?_⟩;rintro v W ⟨rfl,R⟩;have z:=B.comp R;refine⟨_,rfl,be (fun e=>⟨⟨none,0,0⟩,rfl,?_⟩) fun x=>?_⟩
 ·rw[e];exact(z.CB 23 1 az).take 1 (fun i A c=>by cases i with|zero=>exact c|succ i=>simp at c)
 have M:=(bC p).1 x;have V:bn p=p.1+p.2.1:=by rw[bn,if_pos x]
 obtain⟨K,hK⟩:∃K:Nat,p.1=K:=⟨p.1.toNat,by omega⟩
 obtain⟨b,L⟩:∃H:Nat,p.2.1=H:=⟨p.2.1.toNat,by omega⟩
 refine(uh W).mono ?_;rintro v h3 ⟨f,rfl,Z⟩;have D:=(z.comp Z).CB 23 1 az;refine⟨some f,rfl,_,(D.box 0 rfl).cell rfl,?_⟩;refine au (fun t:Sl×Nat=>(t.1,(t.2:Int))) (fun t h'=>t.2<=b/\Sp h h' [ar a 25 [xk xq p.1,xk xq p.2.1,xk xq p.2.2],ar f 92 dh,dJ 23 t.1 1 az ((bc K b).take t.2)]) (fun t=>b-t.2) (⟨none,0,0⟩,0) rfl ⟨by simp,D⟩ ?_;rintro⟨s,k⟩ h4 ⟨hk,d⟩;dsimp only at*;refine ai (fun e=>?_) (fun e=>?_)
 ·have T:k<b:=by omega
  refine aT ⟨p,(d.box 0 rfl).aF _ rfl,p.1,(d.box 0 rfl).cell0 rfl,?_⟩;refine(jw p h4).mono ?_;rintro v Y ⟨rfl,G⟩;have F:=d.comp G;refine⟨_,rfl,⟨(F.box 0 rfl).cell0 rfl,trivial⟩,?_⟩;dsimp only;rw[aj (p.1+k),V];refine(YG _ _ Y).mono ?_;rintro v h6 ⟨u,rfl,w⟩;rw[if_pos (by omega)]at w;have X:(p.1+p.2.1).toNat=K+b:=by omega
  have I:(p.1+(k:Int)).toNat=K+k:=by omega
  rw[X,I]at w;have o:=F.comp w;refine⟨u,rfl,⟨(o.box 0 rfl).cell0 rfl,trivial⟩,p.1,(o.box 0 rfl).cell0 rfl,?_⟩;let rowAt:Nat->aU:=fun j=>(qy j).map (fun i=>Gf.pw ((k+1)*(i+1)%255))++((qg (K+b) (0:UInt8)).set (K+k) 1).drop j;refine au (fun j:Nat=>(j:Int)) (fun j h'=>j<=K/\Sp h h' [ar a 25 [xk xq p.1,xk xq p.2.1,xk xq p.2.2],ar f 92 dh,dJ 23 s 1 az ((bc K b).take k),an 5 u 1 az (rowAt j)]) (fun j=>K-j) 0 rfl ⟨by omega,o⟩ ?_;rintro j h7 ⟨hj,n⟩;refine ai (fun Q=>?_) (fun Q=>?_)
  ·have m:j<K:=by omega
   have hm:(k+1)*(j+1)<=4*16:=zJ (by omega) (by omega);have J:qc xq (qc xq ((k:Int)+1)*qc xq ((j:Int)+1))=(((k+1)*(j+1):Nat):Int):=by
    rw[aj ((k:Int)+1),aj ((j:Int)+1),show((k:Int)+1)*((j:Int)+1)=(((k+1)*(j+1):Nat):Int)by rw[zW];rfl];exact kJ _
   rw[J];refine(aba f _ h7 (n.box 1 rfl)).mono ?_;rintro v h8 ⟨rfl,rfl⟩;refine⟨_,rfl,?_⟩;have E:(rowAt j).length=K+b:=by simp[rowAt];omega
   refine n.set ac 3 rfl (fun _=>rfl) rfl j rfl (by omega) _ rfl rfl rfl fun h9 y=>?_;refine⟨j+1,by rw[aj _];rfl,⟨by omega,?_⟩,by omega⟩;have q:(rowAt j).set j (Gf.pw ((((k+1)*(j+1):Nat):Int)%255).toNat)=rowAt (j+1):=by
    have N:((((k+1)*(j+1):Nat):Int)%255).toNat=(k+1)*(j+1)%255:=by omega
    rw[N];simp only[rowAt];rw[q7 _ _ (by simp),qD,zy,zd,qS (by simp;omega),zu,zt,qW,qo];rfl
   rw[<-q];exact y
  ·have m:j=K:=by omega
   subst m;have q:rowAt j=fj j b k:=by
    simp only[rowAt,fj];congr 1;apply zx;intro i;rw[wq,qV,qO];by_cases c:i<b
    ·rw[zl c,qR,zT];by_cases g:i=k
     ·subst g;simp[c]
     ·rw[if_neg (by omega),if_pos (by omega),if_neg g]
    ·rw[za (l:=qy b) (by simp;omega),if_neg (by omega),zT,if_neg (by omega)];rfl
   rw[q]at n;have O:=n.freeze 3 rfl (fun _=>rfl);have U:((bc j b).take k).length=k:=by simp[bc];omega
   refine O.nX ac 2 3 (by decide) rfl rfl fa (by omega) fun s' h9 y=>?_;refine⟨(s',k+1),by dsimp only;rw[aj _];rfl,⟨by dsimp only;omega,?_⟩,by dsimp only;omega⟩;have P:(bc j b).take (k+1)=(bc j b).take k++[fj j b k]:=by
    rw[aH _ _ (by simp[bc];omega)];simp[bc]
   dsimp only;rw[P];exact y.del 3
 ·refine⟨s,rfl,?_⟩;rw[if_pos x,hK,L,qp,qp];rw[qi (by simp[bc];omega)]at d;exact d.take 2 (fun i A c=>by cases i with|zero=>exact c|succ i=>simp at c)
theorem KK(p:Pm)(h:Heap):ab xv 22 #[ir p] h fun v h'=>∃r:Sl,v=r/\Sp h h' [an 3 r 1 aC (upto (max 0 (min p.1 16)).toNat)]:=by
 refine IP p ?_;unfold Bz;refine(Sp.refl h).boxed fun a m b=>?_;refine⟨p.1,(b.box 0 rfl).cell0 rfl,?_⟩;have em:(if(if(16:Int)<p.1 then(16:Int)else p.1)>(0:Int)then(if(16:Int)<p.1 then(16:Int)else p.1)else(0:Int))=((max 0 (min p.1 16)).toNat:Int):=by
  split<;>split<;>omega
 rw[em];generalize o:(max 0 (min p.1 16)).toNat=N;have f:N<=16:=by omega
 refine au (fun t:Sl×Nat=>(t.1,(t.2:Int))) (fun t h'=>t.2<=N/\Sp h h' [emp,an 3 t.1 1 aC (upto t.2)]) (fun t=>N-t.2) (⟨none,0,0⟩,0) rfl ⟨by simp,(b.ga 0 rfl fun _ _=>trivial).nil 3 1 aC⟩ ?_;rintro⟨s,k⟩ n ⟨q,d⟩;dsimp only at*;refine ai (fun e=>?_) (fun e=>?_)
 ·refine d.push ac 1 rfl lE rfl (by decide) (fun _=>rfl) gJ (k:Int) rfl (by decide) (by rw[fB];omega) fun l h3 j=>?_;refine⟨(l,k+1),by dsimp only;rw[aj _];rfl,⟨by dsimp only;omega,?_⟩,by dsimp only;omega⟩;have g:upto (k+1)=upto k++[(k:Int)]:=by simp[upto,zt]
  dsimp only;rw[g];exact j
 ·have:k=N:=by omega
  subst this;exact⟨s,rfl,d.take 1 (fun i A c=>by cases i with|zero=>exact c|succ i=>simp at c)⟩
theorem Ig(p:Pm)(seed:Int)(ids:Sl)(l:aB)(h:Heap)(u:Rd h ids 1 aC l)(K:l.length<=2^30):ab xv 21 #[ir p,xk xt seed,ids] h fun v h'=>∃r:Sl,v=r/\Sp h h' [dJ 23 r 1 az (cG p seed l)]:=by
 refine Hu p seed ids ?_;unfold Au;refine(Sp.refl h).boxed fun a z x=>?_;refine⟨p,(x.box 0 rfl).aF _ rfl,(Ep p z).mono ?_⟩;rintro v H ⟨r,rfl,E⟩;have D:=x.comp E;refine⟨r,rfl,?_⟩;have B:=u.len;let at_:Nat->cv:=fun k=>cG p seed (l.take k);have h0:(if bA p then bc p.1.toNat p.2.1.toNat else[])=at_ 0:=by simp[at_,cG]
 rw[h0]at D;refine au (fun t:Sl×Nat=>(t.1,(t.2:Int))) (fun t h'=>t.2<=l.length/\Sp h h' [ar a 25 [xk xq p.1,xk xq p.2.1,xk xq p.2.2],dJ 23 t.1 1 az (at_ t.2)]) (fun t=>l.length-t.2) (r,0) rfl ⟨by simp,D⟩ ?_;rintro⟨s,k⟩ h3 ⟨M,j⟩;dsimp only at*;refine ai (fun e=>?_) (fun e=>?_)
 ·have d:k<l.length:=by omega
  refine(Seq.up u j.ag).bt k rfl d _ rfl ?_;refine⟨p,(j.box 0 rfl).aF _ rfl,(abc p seed l[k] h3).mono ?_⟩;rintro v N ⟨w,rfl,F,c⟩;have o:=(j.comp F).freeze 2 rfl (fun _=>rfl);refine⟨w,rfl,?_⟩;have n:(at_ k).length<=4+k∨at_ k=[]:=by
   by_cases q:bA p
   ·left;have:=(bC p).1 q;have z:=zc bp (l.take k);have H:=List.length_take_le k l;simp only[at_,cG,q,if_true,qw,qD,bc,zy];omega
   ·right;simp[at_,cG,q]
  have m:(at_ k).length+1<=2^32:=by
   rcases n with h|h
   ·omega
   ·rw[h];simp
  dsimp only;refine be (fun f=>?_) (fun f=>?_)
  ·rw[c]at f;have b:(bA p&&bp l[k])=true:=by simpa using f
   rw[b,if_pos rfl]at o;refine o.nX ac 1 2 (by decide) rfl rfl fa m fun J L G=>?_;refine⟨(J,k+1),by dsimp only;rw[aj _];rfl,⟨by dsimp only;omega,?_⟩,by dsimp only;omega⟩;rw[qA]at b;have g:at_ (k+1)=at_ k++[kL (bn p).toNat seed l[k]]:=by
    simp only[at_,cG,b.1,if_true];rw[uF d,if_pos b.2,qW,qo];rfl
   dsimp only;rw[g];exact G.del 2
  ·rw[c]at f;have b:(bA p&&bp l[k])=false:=by
    cases hh:(bA p&&bp l[k])with
    |false=>rfl
    |true=>rw[hh]at f;cases f
   refine⟨(s,k+1),by dsimp only;rw[aj _];rfl,⟨by dsimp only;omega,?_⟩,by dsimp only;omega⟩;have g:at_ (k+1)=at_ k:=by
    simp only[at_,cG];rw[Bool.and_eq_false_iff]at b;rcases b with h|h
    ·simp[h]
    ·have I:(l.take (k+1)).filter bp=(l.take k).filter bp:=by rw[uF d,if_neg (by simp[h])]
     rw[I]
   dsimp only;rw[g];exact o.del 2
 ·refine⟨s,rfl,?_⟩;have g:at_ k=cG p seed l:=by simp only[at_];rw[qi (by omega)]
  rw[g]at j;exact j.take 1 (fun i A y=>by cases i with|zero=>exact y|succ i=>simp at y)
theorem mi(a:Sl)(m:aQ)(n:Nat)(h:Heap)(d:fo h a 1 az m)(i:aY n m)(p:n<=64:=by omega)(o:m.length<=2^30:=by omega):ab xv 35 #[a] h fun v h'=>v=xo true/\h'=h:=by
 refine SY a ?_;unfold Nv;have l:=d.len;refine au (fun k:Nat=>(k:Int)) (fun k h'=>h'=h/\k<=m.length) (fun k=>m.length-k) 0 rfl ⟨rfl,by omega⟩ ?_;rintro k h' ⟨rfl,s⟩;refine ai (fun e=>?_) (fun e=>⟨rfl,rfl⟩);have b:k<m.length:=by omega
 refine d.get k rfl b fun r j=>?_;refine d.get 0 rfl (by omega) fun q c=>?_;have f:=j.len;have g:=c.len;rw[i _ (qh _)]at f g;refine bV (fun e=>by omega) fun _=>ai (fun e=>by omega) fun _=>?_;exact⟨k+1,by rw[aj _];rfl,⟨rfl,by omega⟩,by omega⟩
theorem xx(a:Sl)(m:aQ)(n:Nat)(h:Heap)(d:fo h a 1 az m)(l:aY n m)(D:n<=64:=by omega)(A:m.length<=2^30:=by omega):ab xv 37 #[a] h fun v h'=>∃(r:Sl) (rs:List Sl),v=r/\rs.length=m.length/\Sp h h' (an 23 r 1 bD rs::bz 5 1 az rs m):=by
 refine SZ a ?_;unfold Nw;have y:=d.len;refine(Sp.refl h).make ac bD fa (by decide) ⟨none,0,0⟩ rfl rfl 0 m.length rfl (by omega) (by omega) (by omega) fun s z o B i=>?_;refine au (fun t:Sl×List Sl=>(t.1,(t.2.length:Int))) (fun t h'=>t.2.length<=m.length/\Sp h h' (an 23 t.1 1 bD t.2::bz 5 1 az t.2 (m.take t.2.length))) (fun t=>m.length-t.2.length) (s,[]) rfl ⟨by simp,by simpa[bz]using i⟩ ?_;rintro⟨s,rs⟩ k ⟨E,c⟩;dsimp only at*;refine ai (fun e=>?_) (fun e=>?_)
 ·have b:rs.length<m.length:=by omega
  refine(d.up c.ag).get rs.length rfl b fun r u=>?_;have x:m[rs.length].length=n:=l _ (qh _);refine(fm r _ k u).mono ?_;rintro v h3 ⟨w,rfl,p⟩;have j:=c.comp p;refine⟨w,rfl,?_⟩;refine j.push ac 0 rfl fa rfl (by decide) (fun _=>rfl) kY w rfl (by decide) (by omega) fun q F g=>?_;refine⟨(q,rs++[w]),by dsimp only;rw[aj _];simp,⟨by simp;omega,?_⟩,by simp;omega⟩;dsimp only;rw[show(rs++[w]).length=rs.length+1 by simp,aH _ _ b,oN (by rw[List.length_take];omega)];exact g
 ·have f:m.take rs.length=m:=qi (by omega);rw[f]at c;exact⟨s,rs,rfl,by omega,c⟩
theorem rm(a:Sl)(m:aQ)(h:Heap)(b:fo h a 1 az m):ab xv 36 #[a] h fun v h'=>v=xk xq (dn m)/\h'=h:=by
 refine Om a ?_;unfold HL;have d:=b.len;refine cz (fun e=>?_) (fun e=>?_)
 ·have:m=[]:=qT (by omega);subst this;exact⟨rfl,rfl⟩
 ·refine b.get 0 rfl (by omega) fun r c=>⟨?_,rfl⟩
  rw[c.len,dn,bj (by omega)]
theorem Cf{r:Row}{c:Nat}(h:c<r.length:=by omega):aE r c=r[c]:=by rw[aE,qe,qd h];rfl
theorem Ts(a:Sl)(m:aQ)(n b ba:Nat)(h:Heap)(q:fo h a 1 az m)(s:aY n m)(z:ba<n)(y:m.length<=2^30):
  ab xv 70 #[a,xk xq b,xk xq ba] h fun v h'=>v=xk xq (match gq m b ba with|some i=>(i:Int)|none=>-1)/\h'=h:=by
 refine LR a b ba ?_;unfold FF;have x:=q.len;refine au (fun k:Nat=>(k:Int)) (fun k h'=>h'=h/\b<=k/\k<=max b m.length/\∀j,j<k->(decide (b<=j)&&(aE (av m j) ba !=0))=false) (fun k=>m.length-k) b rfl ⟨rfl,by omega,by omega,fun j g=>by rw[decide_eq_false (by omega)];rfl⟩ ?_;rintro k h' ⟨rfl,p,t,g⟩;refine ai (fun e=>?_) (fun e=>?_)
 ·rw[gq,JH (fun j f=>g j (by omega))];exact⟨rfl,rfl⟩
 ·have d:k<m.length:=by omega
  have w:m[k].length=n:=s _ (qh _);refine q.get k rfl d fun r u=>?_;refine u.bt ba rfl (by omega) _ rfl ?_;have c:aE (av m k) ba=m[k][ba]'(by omega):=by rw[bj d,Cf]
  refine bV (fun o=>?_) (fun o=>?_)
  ·have l:(decide (b<=k)&&(aE (av m k) ba !=0))=true:=by
    rw[decide_eq_true p,c];simp;exact fun h0=>o (by rw[h0];rfl)
   rw[gq,Vj d g l];exact⟨rfl,rfl⟩
  ·refine⟨k+1,by rw[aj _];rfl,⟨rfl,by omega,by omega,fun j f=>?_⟩,by omega⟩;rcases Nat.lt_succ_iff_lt_or_eq.1 f with h1|rfl
   ·exact g j h1
   ·rw[c,xw.1 o];simp
theorem Wf(f:Addr)(c:UInt8)(a:Sl)(l:Row)(h:Heap)(m:gp h f)(j:Rd h a 1 az l)(u:l.length<=2^30):ab xv 71 #[xm (some f),xk xr c.toNat,a] h fun v h'=>∃r:Sl,v=r/\Sp h h' [an 5 r 1 az (scaleB c l)]:=by
 refine Oq (some f) _ a ?_;unfold HO;have t:=j.len;refine(OG f h).mono ?_;rintro v i ⟨rfl,rfl⟩;refine⟨some f,rfl,?_⟩;refine(Sp.refl i).make ac az fi (by decide) 0 rfl rfl l.length l.length (by omega) (by omega) (ql _) (by omega) fun s x p w q=>?_;refine au (fun k:Nat=>(k:Int)) (fun k h'=>k<=l.length/\Sp i h' [an 5 s 1 az ((l.take k).map (Gf.mul c)++qg (l.length-k) 0)]) (fun k=>l.length-k) 0 rfl ⟨by omega,by simpa using q⟩ ?_;rintro k h3 ⟨z,b⟩;refine ai (fun e=>?_) (fun e=>?_)
 ·have d:k<l.length:=by omega
  refine(Seq.up j b.ag).bt k rfl d _ rfl ?_;refine(Jk f c l[k] h3 (m.ag b.ag m.lt)).mono ?_;rintro v A ⟨rfl,rfl⟩;refine⟨_,rfl,?_⟩;refine b.set ac 0 rfl (fun _=>rfl) rfl k rfl (by simp;omega) _ rfl rfl rfl fun y o=>?_;refine⟨k+1,by rw[aj _];rfl,⟨by omega,?_⟩,by omega⟩;have g:((l.take k).map (Gf.mul c)).length=k:=by simp;omega
  have n:((l.take k).map (Gf.mul c)++qg (l.length-k) 0).set k (Gf.mul c l[k])=(l.take (k+1)).map (Gf.mul c)++qg (l.length-(k+1)) 0:=by
   rw[q7 _ _ (by omega),g,zd,show l.length-k=l.length-(k+1)+1 by omega,List.replicate_succ,zu,aH _ _ d,qW,qo];rfl
  rw[<-n];exact o
 ·have:k=l.length:=by omega
  subst this;refine⟨s,rfl,?_⟩;rw[qi (ql _),zd,List.replicate_zero,qU]at b;exact b
theorem xy{c:UInt8}{a t:Row}(e:a.length=t.length){k:Nat}(b:k<t.length):(zm (fun x y=>y^^^Gf.mul c x) (a.take k) (t.take k)++t.drop k).set k (t[k]^^^Gf.mul c (a[k]'(by omega)))=zm (fun x y=>y^^^Gf.mul c x) (a.take (k+1)) (t.take (k+1))++t.drop (k+1):=by
 have d:(zm (fun x y=>y^^^Gf.mul c x) (a.take k) (t.take k)).length=k:=by simp;omega
 rw[q7 _ _ (by omega),d,zd,qS b,zu,aH _ _ b,aH _ _ (show k<a.length by omega),yT (by simp;omega)];simp
theorem abd(f:Addr)(c:UInt8)(a l:Sl)(d lt:Row)(h:Heap)(H:gp h f)(w:¬l.on f.block)(B:Seq h (fun b=>¬l.on b) a 1 az d)(u:Own h 5 l 1 az lt)(m:d.length=lt.length)(J:d.length<=2^30):
  ab xv 73 #[xm (some f),xk xr c.toNat,a,l] h fun v h'=>v=.tuple #[]/\Own h' 5 l 1 az (ck c d lt)/\aR (fun b=>¬l.on b) h h':=by
 refine Tb (some f) _ a l ?_;unfold Ny;have I:=B.len;have D:=u.len;refine cz (fun e=>?_) (fun _=>?_)
 ·have F:c=0:=xw.1 e;subst F;have:ck 0 d lt=lt:=by
   apply List.ext_getElem (by rw[bK m]);intro i A G;simp[ck,Gf.zero_mul]
  exact⟨rfl,by rw[this];exact u,aR.refl _ _⟩
 ·refine au (fun k:Nat=>(k:Int)) (fun k h'=>k<=d.length/\Own h' 5 l 1 az (zm (fun x y=>y^^^Gf.mul c x) (d.take k) (lt.take k)++lt.drop k)/\aR (fun b=>¬l.on b) h h') (fun k=>d.length-k) 0 rfl ⟨by omega,by simpa using u,aR.refl _ _⟩ ?_;rintro k A ⟨K,g,j⟩;refine ai (fun e=>?_) (fun e=>?_)
  ·have t:k<d.length:=by omega
   have z:k<lt.length:=by omega
   have n:(zm (fun x y=>y^^^Gf.mul c x) (d.take k) (lt.take k)).length=k:=by simp;omega
   have E:(zm (fun x y=>y^^^Gf.mul c x) (d.take k) (lt.take k)++lt.drop k).length=lt.length:=by rw[qw,n,List.length_drop];omega
   refine(B.ag j).bt k rfl t _ rfl ?_;have q:(zm (fun x y=>y^^^Gf.mul c x) (d.take k) (lt.take k)++lt.drop k)[k]'(by omega)=lt[k]:=by
    rw[List.getElem_append_right (by omega)];simp[n]
   refine(g.seq (p:=fun _=>True) (fun _=>rfl) fun _ _=>trivial).JB k rfl (by omega) _ rfl fun ax o=>?_;rw[q]at o⊢;refine(Jk f c d[k] A (H.ag j w)).mono ?_;rintro v G ⟨rfl,rfl⟩;refine⟨_,rfl,⟨o,trivial⟩,?_⟩;dsimp only;rw[ny];refine g.set ac (fun _=>rfl) rfl k rfl (by omega) _ rfl rfl rfl fun h3 s r _=>⟨trivial,?_⟩
   refine⟨k+1,by rw[aj _];rfl,⟨by omega,?_,j.trans r⟩,by omega⟩;rw[<-xy m z];exact s
  ·have:k=d.length:=by omega
   subst this;rw[qi (ql _),qi (by omega),zh (by omega),qU]at g;exact⟨rfl,g,j⟩
abbrev jU(a:Sl)(rs:List Sl)(m:aQ):List HP:=an 23 a 1 bD rs::bz 5 1 az rs m
theorem ky{a:Sl}{rs:List Sl}{m:aQ}(b:rs.length=m.length)(i:Nat)(c:i<m.length):(jU a rs m)[i+1]?=some (an 5 (rs[i]'(by omega)) 1 az m[i]):=by
 rw[qz];exact gU b i c
theorem mH{h h':Heap}{a:Addr}{v:Value}(c:cellOf h a=some v)(d:aR (fun b=>b<h.size) h h'):cellOf h' a=some v:=d.cell (tw c) c
theorem YK{B:aA}{E:Heap}{f:Addr}(S:gp E f)(F:B f.block){a:Sl}{n c ba:Nat}{rs:List Sl}{m:aQ}(V:rs.length=m.length)(Z:aY n m)(hc:ba<n)(hn:n<=64)(ht:c<m.length)(hs:m.length<=2^30)
  {h:Heap} (H:aa B E h (jU a rs m)) {K:Heap->Prop} (hk:∀h',aa B E h' (jU a rs (cI c ba m m.length))->K h'):
 aG (σ:=Int) (fun d U i=>
 Br (decide (d<((a.len:Nat):Int)))
 (Br (d !=(c:Int))
 (∃t:Addr,(a.ptr=some t/\0<=d/\d<((a.len:Nat):Int))/\
 ∃g:Sl,cellOf i (t.add (d.toNat*1))=some (xl g.ptr g.len g.cap)/\
 ∃A:Addr,(g.ptr=some A/\0<=(ba:Int)/\(ba:Int)<((g.len:Nat):Int))/\
 ∃z:Int,cellOf i (A.add ((ba:Int).toNat*1))=some (xk xr z)/\
 ∃a25:Addr,(a.ptr=some a25/\0<=(c:Int)/\(c:Int)<((a.len:Nat):Int))/\
 ∃j:Sl,cellOf i (a25.add ((c:Int).toNat*1))=some (xl j.ptr j.len j.cap)/\
 ∃D:Addr,(a.ptr=some D/\0<=d/\d<((a.len:Nat):Int))/\
 ∃l:Sl,cellOf i (D.add (d.toNat*1))=some (xl l.ptr l.len l.cap)/\
 af xv 73 #[(xm (some f)),(xk xr z),(xl j.ptr j.len j.cap),(xl l.ptr l.len l.cap)] (.many []) i fun _ J=>
 (aq.ok [(t.add (d.toNat*1),(xl g.ptr g.len g.cap))] J)/\
 U (qc xq (d+(1:Int))) J)
 (U (qc xq (d+(1:Int))) i))
 (K i)) (0:Int) h:=by
 have ah:a.len=m.length:=by rw[(H.own 0 rfl).len,V]
 refine au (fun k:Nat=>(k:Int)) (fun k h'=>k<=m.length/\aa B E h' (jU a rs (cI c ba m k))) (fun k=>m.length-k) 0 rfl ⟨by omega,by rw[MY];exact H⟩ ?_;rintro k Y ⟨ad,o⟩;have O:=lQ c ba m k;have r:rs.length=(cI c ba m k).length:=by rw[O];exact V
 refine ai (fun e=>?_) (fun e=>?_)
 ·have u:k<m.length:=by omega
  refine bV (fun W=>?_) (fun W=>?_)
  ·have x:k≠c:=fun hh=>W (by rw[hh]);have M:av (cI c ba m k) k=av m k:=by rw[lR u,if_neg (by omega)]
   have Q:av (cI c ba m k) c=av m c:=by rw[lR ht,if_neg (by omega)]
   have e4:(cI c ba m k)[k]'(by omega)=av m k:=by rw[<-M,bj]
   have e5:(cI c ba m k)[c]'(by omega)=av m c:=by rw[<-Q,bj]
   have s:=ky (a:=a) r k (by omega);have X:=ky (a:=a) r c (by omega);rw[e4]at s;rw[e5]at X;have lk:=bP Z u;have lt:=bP Z ht;have q:=o.off (k+1) 0 (by omega) s rfl;have w:=q.1.seq (fun _=>rfl) q.2;refine w.jN k rfl (by omega) fun a1 L P=>?_;have N:=o.seq (k+1) s (fun _=>rfl);refine N.bt ba rfl (by omega) _ rfl ?_;refine w.jN c rfl (by omega) fun _ _ _=>?_;refine w.jN k rfl (by omega) fun _ _ _=>?_;have y:(nL (rs[c]'(by omega)) 1 az (av m c)).p Y (fun b=>¬(rs[k]'(by omega)).on b):=by
    have:=o.off (k+1) (c+1) (by omega) s X;exact(this.1.seq (fun _=>rfl) this.2).mono fun b hb=>hb.2
   refine(abd f _ _ _ (av m c) (av m k) Y (S.ag o.ag F) (o.base (k+1) s F) y (o.own (k+1) s) (by omega) (by omega)).mono ?_;rintro v h2 ⟨rfl,T,I⟩;have H2:=o.lp (k+1) s I T;have R:=I.cell P.2 L;refine⟨(),rfl,⟨R,trivial⟩,?_⟩;refine⟨k+1,by rw[aj _];rfl,⟨by omega,?_⟩,by omega⟩;rw[EZ u x];show aa B E h2 (an 23 a 1 bD rs::bz 5 1 az rs ((cI c ba m k).set k _));rw[<-PE r k (by omega)];have G:(av m k)[ba]'(by omega)=aE (av m k) ba:=(Cf).symm;rw[G]at H2;exact H2
  ·have x:k=c:=by omega
   subst x;exact⟨k+1,by rw[aj _];rfl,⟨by omega,by rw[MZ];exact o⟩,by omega⟩
 ·have:k=m.length:=by omega
  subst this;exact hk _ o
theorem Gp{rs:List Sl}{m:aQ}(a:rs.length=m.length)(i j:Nat)(c:i<m.length)(b:j<m.length):
  ((bz 5 1 az rs m).set i (an 5 (rs[j]'(by omega)) 1 az m[j])).set j (an 5 (rs[i]'(by omega)) 1 az m[i])=bz 5 1 az ((rs.set i (rs[j]'(by omega))).set j (rs[i]'(by omega))) (fM m i j):=by
 rw[iN a,iN (by simpa using a),fM,bj c,bj b]
theorem Bd{B:aA}{u:Heap}{f:Addr}(S:gp u f)(O:B f.block){a:Sl}{n cC:Nat}{rs:List Sl}{m:aQ}(hl:rs.length=m.length)(hm:aY n m)(hc:cC<=n)(hn:n<=64)(hs:m.length<=2^30)
  {h:Heap} (H:aa B u h (jU a rs m)):ab xv 38 #[xm (some f),a,xk xq cC] h fun v h'=>
   ∃V:List Sl,v=xk xq (bu m cC).1/\V.length=m.length/\aa B u h' (jU a V (bu m cC).2):=by
 have ah:a.len=m.length:=by rw[(H.own 0 rfl).len,hl]
 refine LP (some f) a cC ?_;unfold FB;refine au (fun t:List Sl×Nat=>(((bu m t.2).1:Int),(t.2:Int))) (fun t h'=>t.2<=cC/\t.1.length=m.length/\aa B u h' (jU a t.1 (bu m t.2).2)) (fun t=>cC-t.2) (rs,0) rfl ⟨by simp,hl,H⟩ ?_;rintro⟨c,ba⟩ h1 ⟨hk,L,I⟩;dsimp only at*;have s:=fK hm ba;have G:=oR m ba;obtain⟨st,y⟩:∃st,st=bu m ba:=⟨_,rfl⟩
 rw[<-y]at s G I⊢;obtain⟨b,l⟩:=st;dsimp only at s G I⊢;have x:c.length=l.length:=by omega
 have d:bu m (ba+1)=fY (b,l) ba:=by rw[bu,<-y]
 refine ai (fun e=>?_) (fun e=>?_)
 ·have U:ba<n:=by omega
  have P:fo h1 a 1 az l:=I.JA x (fun _=>rfl);refine(Ts a l n b ba h1 P s.1 U (by omega)).mono ?_;rintro v h2 ⟨rfl,rfl⟩;refine⟨_,rfl,?_⟩;dsimp only;cases hb:gq l b ba with
  |none=>
   refine ai (fun _=>?_) (fun e2=>absurd (by decide) e2);refine⟨(c,ba+1),?_,⟨by dsimp only;omega,L,?_⟩,by dsimp only;omega⟩
   ·dsimp only;rw[d,fY,hb,aj _];rfl
   ·dsimp only;rw[d,fY,hb];exact I
  |some i=>
   have hh:=mZ hb;refine ai (fun e2=>absurd (show((i:Nat):Int)<0 from e2) (by omega)) (fun _=>?_);dsimp only;have K:b<l.length:=by omega
   have X:=hh.2.1;have T:=I.seq 0 rfl (fun _=>rfl);refine aT ?_;refine T.jN i rfl (by omega) fun _ _ _=>?_;refine T.jN b rfl (by omega) fun _ _ _=>?_;refine I.set ac 0 rfl (fun _=>rfl) rfl b rfl (by omega) (c[i]'(by omega)) rfl rfl rfl fun h3 H3=>⟨trivial,?_⟩
   refine H3.set ac 0 rfl (fun _=>rfl) rfl i rfl (by simp;omega) (c[b]'(by omega)) rfl rfl rfl fun W H4=>⟨trivial,?_⟩
   have o:aa B u W (jU a ((c.set b (c[i]'(by omega))).set i (c[b]'(by omega))) (fM l b i)):=by
    have:=H4.Va (b+1) (i+1) (A:=an 5 (c[b]'(by omega)) 1 az l[b]) (A2:=an 5 (c[i]'(by omega)) 1 az l[i]) (gU x b K) (gU x i X);show aa B u W (an 23 a 1 bD _::bz 5 1 az _ _);rw[<-Gp x b i K X];exact this
   obtain⟨j,D⟩:∃j,j=(c.set b (c[i]'(by omega))).set i (c[b]'(by omega)):=⟨_,rfl⟩
   rw[<-D]at o;have am:j.length=l.length:=by rw[D];simp;omega
   obtain⟨g,w⟩:∃g,g=fM l b i:=⟨_,rfl⟩
   have z:aY n g:=by rw[w];exact Af s.1 K X
   have Q:g.length=l.length:=by rw[w];exact jz _ _ _
   rw[<-w]at o;have q:j.length=g.length:=by omega
   have k:b<g.length:=by omega
   refine aT ?_;have gt:=ky (a:=a) q b k;have lt:g[b].length=n:=z _ (qh _);have N:=o.seq 0 rfl (fun _=>rfl);refine N.jN b rfl (by omega) fun ax F _=>?_;have E:=o.seq (b+1) gt (fun _=>rfl);refine E.bt ba rfl (by omega) _ rfl ?_;refine N.jN b rfl (by omega) fun ap R _=>?_;have M:gp W f:=S.ag o.ag O;refine(aaZ f _ W M).mono ?_;rintro v h5 ⟨rfl,rfl⟩;refine⟨_,rfl,⟨R,F,trivial⟩,?_⟩;refine(Wf f _ _ _ h5 M E (by omega)).mono ?_;rintro v h6 ⟨r,rfl,R6⟩;refine⟨r,rfl,⟨mH F R6.ag,trivial⟩,?_⟩;have H6:=o.comp R6;dsimp only;refine H6.set ac 0 rfl (fun _=>rfl) rfl b rfl (by omega) r rfl rfl rfl fun h7 H7=>⟨trivial,?_⟩
   have Y:g[b]=av g b:=(bj k).symm;have ad:(g[b])[ba]'(by omega)=aE (av g b) ba:=by rw[Cf (by rw[bj k];omega)];simp only[bj k]
   have Z:aa B u h7 (jU a (j.set b r) (il b ba g)):=by
    have h8:aa B u h7 ((an 23 a 1 bD (j.set b r)::bz 5 1 az j g)++[an 5 r 1 az (scaleB (Gf.inv ((g[b])[ba]'(by omega))) g[b])]):=H7;have h9:=h8.PD (b+1) (by simp[rx q];omega);rw[ad,Y]at h9;show aa B u h7 (an 23 a 1 bD _::bz 5 1 az _ (g.set b _));rw[<-iN q];exact h9
   have J:(il b ba g).length=g.length:=lP _ _ _;refine YK S O (by simp;omega) (rP z k) U hn (by omega) (by omega) Z fun h8 H8=>?_;have p:fY (b,l) ba=(b+1,cI b ba (il b ba g) l.length):=by
    rw[fY];dsimp only;rw[hb,w]
   refine⟨(j.set b r,ba+1),?_,⟨by dsimp only;omega,by simp;omega,?_⟩,by dsimp only;omega⟩
   ·dsimp only;rw[d,p,aj _,aj _];rfl
   ·dsimp only;rw[d,p];rw[J,Q]at H8;exact H8
 ·have:ba=cC:=by omega
  subst this;exact⟨c,by rw[<-y],L,by rw[<-y];exact I⟩
theorem Tt(f:Addr)(a:Sl)(m:aQ)(n:Nat)(h:Heap)(y:gp h f)(w:fo h a 1 az m)(i:aY n m)(o:n<=64)(k:m.length<=2^30):
  ab xv 120 #[xm (some f),a] h fun v h'=>∃(r:Sl) (rs:List Sl),v=r/\r.len=bT m/\rs.length=m.length/\r.len<=m.length/\Sp h h' (jU ⟨r.ptr,m.length,r.cap⟩ rs (bu m (dn m)).2):=by
 refine LV (some f) a ?_;unfold FJ;refine(mi a m n h w i o k).mono ?_;rintro v B ⟨rfl,rfl⟩;refine⟨_,rfl,be (fun e=>by cases e) fun _=>?_⟩;refine(xx a m n B w i o k).mono ?_;rintro v D ⟨r,rs,rfl,s,u⟩;refine⟨r,rfl,(sX f D).mono ?_⟩;rintro v h3 ⟨rfl,rfl⟩;refine⟨some f,rfl,(rm r m h3 (u.JA s (fun _=>rfl))).mono ?_⟩;rintro v F ⟨rfl,rfl⟩;have A:dn m<=n:=by
  cases m with
  |nil=>simp[dn,av]
  |cons x t=>rw[dn,bj (by simp)];exact Nat.le_of_eq (i _ (by simp))
 refine⟨_,rfl,(Bd y y.lt s i A o k u).mono ?_⟩;rintro v E ⟨q,rfl,g,j⟩;have d:=oR m (dn m);rw[(fK i _).2]at d;have z:=(j.own 0 rfl).cap;have b:=(j.own 0 rfl).len;refine⟨_,rfl,⟨wu _,yQ.2 (show(bu m (dn m)).1<=r.cap by omega)⟩,⟨r.ptr,(bu m (dn m)).1,r.cap⟩,q,by simp,rfl,g,d,?_⟩;have:r=⟨r.ptr,m.length,r.cap⟩:=by
  obtain⟨p,l,c⟩:=r;simp only at b⊢;rw[<-g,<-b]
 rw[<-this];exact j
theorem YL(f:Addr)(a:Sl)(m:aQ)(n:Nat)(h:Heap)(i:gp h f)(d:fo h a 1 az m)(c:aY n m)(g:n<=64)(b:m.length<=2^30):
  ab xv 56 #[xm (some f),a] h fun v h'=>v=xk xq (bT m)/\Sp h h' []:=by
 refine QC (some f) a ?_;unfold Ka;refine(Tt f a m n h i d c g b).mono ?_;rintro v k ⟨r,rs,rfl,j,_,_,e⟩;exact⟨r,rfl,by rw[j],.zip e.ag⟩
theorem xz(p:Pm)(seed:Int)(ids:Sl)(l:aB)(h:Heap)(i:Rd h ids 1 aC l)(t:l.length<=2^29):ab xv 26 #[ir p,xk xt seed,ids] h fun v h'=>v=xk xq (io p seed l)/\Sp h h' []:=by
 refine JU p seed ids ?_;unfold DS;refine(Sp.refl h).boxed fun a n g=>?_;refine⟨p,(g.box 0 rfl).aF _ rfl,(uh n).mono ?_⟩;rintro v o ⟨f,rfl,k⟩;have d:=g.comp k;have b:=d.box 0 rfl;refine⟨some f,rfl,⟨b.cell0 rfl,b.cell rfl,b.cell rfl,trivial⟩,?_⟩;refine(Ig p seed ids l o (Seq.up i d.ag) (by omega)).mono ?_;rintro v h3 ⟨r,rfl,s⟩;have c:=d.comp s;refine⟨r,rfl,trivial,?_⟩;have j:=ID p seed l;have e:(bn p).toNat<=64:=by
  unfold bn;split
  ·rename_i q;have:=(bC p).1 q;omega
  ·omega
 refine(YL f r _ _ h3 (c.box 1 rfl) (c.DJ 2 rfl) (iQ p seed l) e (by omega)).mono ?_;rintro v u ⟨rfl,m⟩;exact⟨_,rfl,trivial,rfl,.zip (c.comp m).ag⟩
theorem NH(p:Pm)(seed:Int)(ids:Sl)(l:aB)(h:Heap)(j:Rd h ids 1 aC l)(d:l.length<=2^29):ab xv 34 #[ir p,xk xt seed,ids] h fun v h'=>v=xo (dQ p seed l)/\Sp h h' []:=by
 refine JW p seed ids ?_;unfold DU;refine(Sp.refl h).boxed fun a n g=>?_;refine⟨p,(g.box 0 rfl).aF _ rfl,(dz p n).mono ?_⟩;rintro v o ⟨rfl,k⟩;have c:=g.comp k;refine⟨_,rfl,trivial,bF (fun e=>?_) (fun e=>⟨trivial,trivial,by rw[dQ,e];rfl,.zip c.ag⟩)⟩;have f:=c.box 0 rfl;refine⟨p,f.aF _ rfl,p,f.aF _ rfl,(xz p seed ids l o (Seq.up j c.ag) d).mono ?_⟩;rintro v h3 ⟨rfl,q⟩;have i:=c.comp q;have b:=i.box 0 rfl;refine⟨_,rfl,⟨b.cell0 rfl,b.cell rfl,b.cell rfl,trivial⟩,(jw p h3).mono ?_⟩;rintro v r ⟨rfl,m⟩;exact⟨_,rfl,trivial,by rw[dQ,e];rfl,.zip (i.comp m).ag⟩
theorem Dp(p:Pm)(seed:Int)(h:Heap):ab xv 17 #[ir p,xk xt seed] h fun v h'=>v=xo (dQ p seed (dH p))/\Sp h h' []:=by
 refine IN p seed ?_;unfold By;refine(Sp.refl h).boxed fun a j e=>?_;have d:=e.box 0 rfl;refine⟨p,d.aF _ rfl,p,d.aF _ rfl,(KK p j).mono ?_⟩;rintro v g ⟨r,rfl,i⟩;have c:=e.comp i;have b:=c.box 0 rfl;refine⟨r,rfl,⟨b.cell0 rfl,b.cell rfl,b.cell rfl,trivial⟩,(NH p seed r _ g (c.seq 1 rfl (fun _=>rfl)) (by rw[fB];omega)).mono ?_⟩;rintro v h3 ⟨rfl,f⟩;exact⟨_,rfl,trivial,rfl,.zip (c.comp f).ag⟩
theorem abe(p:Pm)(o b:Int)(h:Heap):ab xv 222 #[ir p,xk xq o,xk xq b] h fun v h'=>
  v=.tuple #[xk xq (((lF p o b).getD 0:Nat):Int),xo (lF p o b).isSome]/\Sp h h' []:=by
 refine OB p o b ?_;unfold HY;refine(Sp.refl h).boxed fun u y m=>?_;have m:Sp h y [ar u 25 [xk xq p.1,xk xq p.2.1,xk xq p.2.2]]:=m;refine au (fun i:Nat=>(i:Int)) (fun i h'=>i<=16/\(∀k,k<i->Do p o b k=false)/\Sp h h' [ar u 25 [xk xq p.1,xk xq p.2.1,xk xq p.2.2]]) (fun i=>16-i) 0 rfl ⟨by omega,fun k f=>absurd f (Nat.not_lt_zero k),m⟩ ?_;rintro i z ⟨D,c,r⟩;refine ai (fun e=>?_) fun e=>?_
 ·have B:i<16:=by omega
  have a:=r.box 0 rfl;refine⟨p,a.aF _ rfl,(uf _ _ _ z).mono ?_⟩;rintro _ h3 ⟨rfl,rfl⟩;refine⟨_,rfl,⟨a.cell0 rfl,a.cell rfl,a.cell rfl,trivial⟩,(Dp p _ h3).mono ?_⟩;rintro _ E ⟨rfl,x⟩;have w:=r.up x.ag;refine⟨_,rfl,trivial,bF (fun g=>?_) fun g=>?_⟩
  ·have n:lF p o b=some i:=by
    unfold lF;refine List.find?_eq_some_iff_append.2 ⟨g,qy i,(qy (15-i)).map (·+(i+1)),?_,fun k f=>?_⟩
    ·apply zx;intro j;by_cases t:j<i
     ·rw[qm (by simpa using t),zl (by omega),zl t]
     ·rw[qj (by simp;omega),zy];by_cases q:j=i
      ·subst q;rw[zd,zl (by omega)];rfl
      ·obtain⟨d,A⟩:∃d,j=i+(d+1):=⟨j-i-1,by omega⟩
       subst A;rw[zn,qz,qO];by_cases s:d<15-i
       ·rw[zl s,zl (by omega)];simp;omega
       ·rw[za (by simp;omega),za (by simp;omega)];rfl
    ·rw[c k (qI.1 f)];rfl
   rw[n];exact⟨rfl,.zip w.ag⟩
  ·refine⟨i+1,by rw[aj _];rfl,⟨by omega,fun k f=>?_,w⟩,by omega⟩;by_cases l:k<i
   ·exact c k l
   ·have:k=i:=by omega
    subst this;exact g
 ·have n:lF p o b=none:=by
   unfold lF;rw[List.find?_eq_none];intro k f;rw[c k (by have:=qI.1 f;omega)];simp
  rw[n];exact⟨rfl,.zip r.ag⟩
theorem Wg(p:Pm)(o:Int)(n:Nat)(h:Heap)(J:n<=2^30):ab xv 148 #[ir p,xk xq o,xk xq n] h fun v h'=>
  (ct p o n=none->v=.tuple #[xl none 0 0,xo false]/\Sp h h' [])/\
  (∀l,ct p o n=some l->∃r:Sl,v=.tuple #[r,xo true]/\Sp h h' [an 3 r 1 aC l]):=by
 refine Ki p o n ?_;unfold DX;refine(Sp.refl h).boxed fun q x f=>?_;have f:Sp h x [an 3 ⟨none,0,0⟩ 1 aC [],ar q 25 [xk xq p.1,xk xq p.2.1,xk xq p.2.2]]:=(f.nil 3 1 aC).cj [1,0];refine au (fun t:Sl×Nat×aB=>(t.1,(t.2.1:Int))) (fun t h'=>t.2.1<=n/\ct p o t.2.1=some t.2.2/\Sp h h' [an 3 t.1 1 aC t.2.2,ar q 25 [xk xq p.1,xk xq p.2.1,xk xq p.2.2]]) (fun t=>n-t.2.1) (⟨none,0,0⟩,0,[]) rfl ⟨by simp,rfl,f⟩ ?_;rintro⟨s,i,l⟩ A ⟨H,c,m⟩;dsimp only at*;have y:=iH c;have b:∀j,lF p o i=none->j<=n-(i+1)->ct p o (i+1+j)=none:=fun j k=>by
  induction j with
  |zero=>intro _;show ct p o (i+1)=none;unfold ct;rw[c,k];rfl
  |succ j ih=>intro G;show ct p o ((i+1+j)+1)=none;unfold ct;rw[ih (by omega)];rfl
 refine ai (fun e=>?_) fun e=>?_
 ·have E:i<n:=by omega
  refine⟨p,(m.box 1 rfl).aF _ rfl,(abe p o i A).mono ?_⟩;rintro _ h3 ⟨rfl,B⟩;have u:=m.up B.ag;refine⟨(_,_),rfl,be (fun g=>?_) fun g=>?_⟩
  ·have a:ct p o n=none:=by
    have:=b (n-(i+1)) (Option.isSome_eq_false_iff.1 g|>Option.isNone_iff_eq_none.1) (ql _);rw[show i+1+(n-(i+1))=n by omega]at this;exact this
   rw[a];exact⟨fun _=>⟨rfl,.zip u.ag⟩,fun l h=>by cases h⟩
  ·obtain⟨t,w⟩:∃t,lF p o i=some t:=Option.isSome_iff_exists.1 g;rw[w];refine u.push ac 0 rfl lE rfl (by decide) (fun _=>rfl) gJ (t:Int) rfl (by decide) (by omega) fun D I z=>?_;refine⟨(D,i+1,l++[(t:Int)]),by dsimp only;rw[aj _];rfl,⟨by dsimp only;omega,?_,z⟩,by dsimp only;omega⟩;show ct p o (i+1)=_;unfold ct;rw[c,w];rfl
 ·have d:i=n:=by omega
  subst d;rw[c];exact⟨fun h=>(by cases h),fun F h=>(by injection h with h;subst h;exact⟨s,rfl,m.cj [0]⟩)⟩
end Go.Qw
namespace Wl
open Go
def sv(m:aD)(l:cv):cv:=(jm m l).map dI
def jH(m:aD)(l:cv):cv:=bf m++sv m l
def gu(d:bv)(a:Nat)(n:Int):Bool:=decide (max n 0<=(d.room:Int)-a)
def mI(m:aD)(d:bv)(n:Int):Bool:=!d.lost&&(gu d d.l.length n||gu d (jH m d.l).length n)
def gE(m:aD)(w:Pow)(d:bv)(n:Int):Int×Pow×bv:=
 if d.lost then(5,w,d)else if !mI m d n then(7,w,d)else if gu d d.l.length n then(0,w,d)else d.rewrite w (jH m d.l)
theorem abf(l:List cV):(oW l).length<=l.length:=by
 unfold oW;rw[qD];exact zk (zc _ _) (by simp)
theorem AC(m:aD)(l:cv):(jm m l).length<=l.length:=by
 unfold jm;refine zk (abf _) ?_;rw[wZ];exact List.length_filterMap_le _ _
theorem Dq(m:aD)(l:cv):(sv m l).length<=l.length:=by unfold sv;rw[qD];exact AC m l
end Wl
namespace Go.Qw
open Go Go.Vc Go.Proofs Wl
section
variable {B:aA} {h0 h:Heap} {As:List HP} {a pw:Addr} {d:bv} {w:Pow}
theorem eM.rewrite{l:cv}(h:eM d):eM (d.rewrite w l).2.2:=by
 unfold bv.rewrite;split
 ·exact h
 ·rename_i b;split
  ·exact h
  ·split
   ·exact h
   ·rename_i e;have a:∀c∈l,c.length=64:=by simpa using b
    split
    ·exact h
    ·split
     ·exact⟨wS _,by dsimp only;omega,h.room,a,wS _,by simp⟩
     ·exact⟨h.wait,h.len,h.room,h.cell,by dsimp only;omega,a⟩
theorem Rf(x:Sl)(l:cv)(H:aa B h0 h (mg pw a d::ez 131 pw w::As))(N:St B h0 As fun h=>fo h x 1 az l)(M:l.length<=2^20)(t:∀c∈l,c.length<=2^20):
  ab xv 182 #[xm (some a),x] h fun v h'=>v=xk xq (d.rewrite w l).1/\aa B h0 h' (mg pw a (d.rewrite w l).2.2::ez 131 pw (d.rewrite w l).2.1::As):=by
 refine xX (some a) x ?_;unfold oB;have O:=N.at [_,_] H;have T:=O.len;have o:=eM.rewrite (w:=w) (l:=l) (And.left (id H).uc);have j:∀(e:Int),d.rewrite w l=(e,w,d)->(Value.int .i64 e=xk xq (d.rewrite w l).1/\aa B h0 h (mg pw a (d.rewrite w l).2.2::ez 131 pw (d.rewrite w l).2.1::As)):=fun e V=>by
  rw[V];exact⟨rfl,H⟩
 refine au (fun i:Nat=>(i:Int)) (fun i h'=>i<=l.length/\(∀c∈l.take i,c.length=64)/\h'=h) (fun i=>l.length-i) 0 rfl ⟨by omega,by simp,rfl⟩ ?_;rintro i h1 ⟨hi,f,rfl⟩;refine ai (fun e=>?_) fun e=>?_
 ·have p:i<l.length:=by omega
  refine O.get i rfl p fun r X=>?_;have Y:=X.len;refine bV (fun Q=>j 1 ?_) fun Q=>?_
  ·unfold bv.rewrite;rw[if_pos];rw[ye,yt];exact⟨l[i],qh p,by simp;omega⟩
  ·refine⟨i+1,by rw[aj _];rfl,⟨by omega,fun c k=>?_,rfl⟩,by omega⟩;rw[aH _ _ p]at k;rcases qF.1 k with k|k
   ·exact f c k
   ·rw[qG.1 k];omega
 have f:∀c∈l,c.length=64:=by rw[qi (by omega)]at f;exact f
 have n:(!l.all fun b=>decide (b.length=64))=false:=by
  rw[Bool.not_eq_false',qN];exact fun c k=>decide_eq_true (f c k)
 have A:d.rewrite w l=(if d.lost then(5,w,d)else if d.room<l.length then(7,w,d)else if w.off then(14,w,d)else if w.step.1 then(0,w.step.2,{d with l:=l,wait:=0,laid:=[],has:=false})else(14,w.step.2,{d with laid:=l,has:=true})):=by
  unfold bv.rewrite;rw[n];rfl
 obtain⟨ok,s,b,I⟩:=H.uc;have z:=I.box 0 rfl;refine aT (aT (bF (fun e=>by cases e) fun _=>⟨a,rfl,d.lost,z.cell rfl,bF (fun e=>j 5 (by rw[A,if_pos e])) fun g=>?_⟩));refine⟨a,rfl,(d.room:Int),z.cell rfl,ai (fun e=>j 7 (by rw[A,if_neg (by simp[g]),if_pos (by omega)])) fun L=>?_⟩;obtain⟨R,U,F⟩:=(I.bo 4 [3,0,1,2]).BZ;refine⟨a,rfl,some pw,z.cell0 rfl,(Hm R (F.box 0 rfl)).mono ?_⟩;rintro _ h2 ⟨rfl,rfl⟩;refine⟨_,rfl,be (fun e=>j 14 ?_) fun y=>?_⟩
 ·rw[A,if_neg (by simp[g]),if_neg (by omega),if_pos (by simpa using e)]
 have m:w.off=false:=by simpa using y
 have q:d.rewrite w l=(if w.step.1 then(0,w.step.2,{d with l:=l,wait:=0,laid:=[],has:=false})else(14,w.step.2,{d with laid:=l,has:=true})):=by
  rw[A,if_neg (by simp[g]),if_neg (by omega),if_neg (by simp[m])]
 refine⟨a,rfl,some pw,z.cell0 rfl,(Ga (I.bo 4 [3,0,1,2])).mono ?_⟩;rintro _ P ⟨rfl,J⟩;have u:=N.at [_,_,_,_] J;refine⟨_,rfl,be (fun e=>?_) fun e=>?_⟩
 ·rw[q,if_neg (by simp[e])]at o⊢;refine(Jf x l P u M t).mono ?_;rintro _ S ⟨r,rfl,K⟩;have E:=(J.cX K).bo 5 [2,3,0,1];refine⟨r,rfl,a,rfl,E.store ac 0 rfl rfl 4 [r] rfl rfl rfl (by simp[gB]) fun Z D=>?_⟩;refine⟨a,rfl,D.store ac 0 rfl rfl 5 [xo true] rfl rfl rfl (by simp[gB]) fun h8 G=>⟨rfl,?_⟩⟩;exact aa.Gb (s:=s) (b:=r) o G
 ·rw[q,if_pos e]at o⊢;refine(Jf x l P u M t).mono ?_;rintro _ S ⟨r,rfl,K⟩;have E:=(J.cX K).bo 5 [2,0,4,1];refine⟨r,rfl,a,rfl,E.store ac 0 rfl rfl 2 [r] rfl rfl rfl (by simp[gB]) fun Z D=>?_⟩;refine⟨a,rfl,D.store ac 0 rfl rfl 3 [xk xq 0] rfl rfl rfl (by simp[gB]) fun h8 G=>?_⟩;refine(Gc (d:={d with l:=l,wait:=0}) r b _ G ⟨wS _,by dsimp only;omega,ok.room,f,ok.laid,ok.cellL⟩ rfl).mono ?_;rintro _ h9 ⟨rfl,W⟩;exact⟨0,rfl,rfl,W⟩
theorem Be(s b:Sl)(c:Nat)(n:Int)(e:bZ h a 208 (gB pw d s b))(g:d.room<=512)(f:c<=2^40:=by omega):ab xv 180 #[xm (some a),xk xq c,xk xq n] h fun v h'=>v=xo (gu d c n)/\h'=h:=by
 refine Ko (some a) c n ?_;unfold Eb;refine(Yq s b e).mono ?_;rintro _ _ ⟨rfl,rfl⟩;refine⟨_,rfl,?_,rfl⟩;rw[aj ((d.room:Int)-c)];unfold gu;congr 1;rw[decide_eq_decide];split<;>omega
theorem Wh(s b:Sl)(x:cy)(m:aD)(B:bZ h a 208 (gB pw d s b))(H:fo h s 1 az d.l)(ok:eM d)(P:gn h x m)(S:dM m):
  ab xv 265 #[xm (some a),gm x] h fun v h'=>∃r:Sl,v=r/\Sp h h' [dR r (sv m d.l)]:=by
 refine Mg (some a) x ?_;unfold FX;have D:=ok.len;have p:=ok.room;refine(Sp.refl h).boxed fun U O f=>?_;refine⟨x,(f.box 0 rfl).aF _ rfl,(Gi a pw d s b x m O (B.ag f.ag B.lt) (H.up f.ag) ok (P.up f.ag) S).mono ?_⟩;rintro _ X ⟨r,c,rfl,N⟩;have w:=(f.cX N).EX 23 5 1 az;refine⟨r,rfl,?_⟩;have q:=AC m d.l;obtain⟨L,A⟩:∃L,L=jm m d.l:=⟨_,rfl⟩
 have y:(sv m d.l)=L.map dI:=by unfold sv;rw[A]
 rw[<-A]at w q;rw[y];have F:=w.fF 1 rfl;have I:=F.2.1;have n:=F.1.len;refine au (fun t:Sl×Nat=>(t.1,(t.2:Int))) (fun t h'=>t.2<=L.length/\Sp h h' [dR t.1 ((L.map dI).take t.2),cS eJ 8 bI r c L]) (fun t=>L.length-t.2) (⟨none,0,0⟩,0) rfl ⟨by simp,w.cj [0,1]⟩ ?_;rintro⟨o,i⟩ h3 ⟨W,k⟩;dsimp only at*;have J:=k.fF 1 rfl;refine ai (fun e=>?_) (fun e=>?_)
 ·have z:i<L.length:=by omega
  refine J.1.ea (g:=bI) i rfl (by omega) (c[i]'(by omega)) rfl ?_;refine k.alloc ac rfl fun Q Y K=>?_;refine K.storeAll ac 2 rfl rfl (bI (c[i]'(by omega))) rfl rfl rfl rfl fun E j=>?_;have j:Sp h E [dR o ((L.map dI).take i),cS eJ 8 bI r c L,ar Q 233 (bI (c[i]'(by omega)))]:=j;refine⟨c[i]'(by omega),(j.box 2 rfl).aF _ rfl,(Bb _ L[i] E (Fix.row (j.fF 1 rfl) z)).mono ?_⟩;rintro _ V ⟨u,rfl,R⟩;have G:=(j.cX R).bo 3 [1,0,2];refine⟨u,rfl,G.GY ac fa (by simp;omega) fun T h8 M=>?_⟩;refine⟨(T,i+1),by dsimp only;rw[aj _];rfl,⟨by dsimp only;omega,?_⟩,by dsimp only;omega⟩;dsimp only;rw[aH _ _ (show i<(L.map dI).length by simp;omega),yc];exact M.cj [0,1]
 ·rw[qi (by simp;omega)]at k;exact⟨o,rfl,k.cj [0]⟩
end
section
variable {B:aA} {h0 h:Heap} {As:List HP} {a pw:Addr} {d:bv} {w:Pow}
theorem Tu{m:aD}{l:cv}{c:aU}(h:c∈sv m l):c.length<=64:=by
 unfold sv at h;obtain⟨r,_,rfl⟩:=qC.1 h;unfold dI;split
 ·rename_i a;refine Nat.le_of_eq (na (by decide) (by decide) ?_);have:=nZ a;omega
 ·simp
theorem NI(s b:Sl)(x:cy)(m:aD)(j:bZ h a 208 (gB pw d s b))(p:fo h s 1 az d.l)(ok:eM d)(o:gn h x m)(i:dM m):
  ab xv 183 #[xm (some a),gm x] h fun v h'=>∃r:Sl,v=r/\Sp h h' [dR r (jH m d.l)]:=by
 refine Oz (some a) x ?_;unfold HW;have n:=ok.len;have g:=ok.room;refine(Sp.refl h).boxed fun q k e=>?_;have e:Sp h k [ar q 136 (bh x)]:=e;refine⟨x,(e.box 0 rfl).aF _ rfl,x,(e.box 0 rfl).aF _ rfl,(pB x m k (o.up e.ag) i).mono ?_⟩;rintro _ E ⟨r,rfl,w⟩;have f:=e.cX w;have c:=f.box 1 rfl;refine⟨r,rfl,⟨c.cell0 rfl,c.cell rfl,c.cell rfl,c.cell rfl,c.cell rfl,c.cell rfl,c.cell rfl,c.cell rfl,trivial⟩,(Wh s b x m (j.ag f.ag j.lt) (p.up f.ag) ok (o.up f.ag) i).mono ?_⟩;rintro _ h3 ⟨u,rfl,B⟩;have y:=(f.cX B).bo 2 [1,0];have A:=kG m i;have z:=Dq m d.l;refine⟨u,rfl,trivial,y.adi ac fa ⟨_,_,rfl,rfl⟩ (by omega) fun D F t=>?_⟩;exact⟨trivial,D,rfl,t.cj [0]⟩
theorem NJ(s b:Sl)(x:cy)(m:aD)(n:Int)(p:bZ h a 208 (gB pw d s b))(w:fo h s 1 az d.l)(k:s.len=d.l.length)(ok:eM d)(B:gn h x m)(u:dM m):
  ab xv 179 #[xm (some a),gm x,xk xq n] h fun v h'=>v=xo (mI m d n)/\Sp h h' []:=by
 refine Ea (some a) x n ?_;unfold AU;have q:=ok.len;have j:=ok.room;refine(Sp.refl h).boxed fun y A f=>?_;have f:Sp h A [ar y 136 (bh x)]:=f;have c:=p.ag f.ag p.lt;refine aT (bF (fun e=>by cases e) fun _=>(Gd s b c).mono ?_);rintro _ _ ⟨rfl,rfl⟩;refine⟨_,rfl,bF (fun e=>⟨by unfold mI;rw[e];rfl,.zip f.ag⟩) fun e=>?_⟩;have t:mI m d n=(gu d d.l.length n||gu d (jH m d.l).length n):=by unfold mI;rw[e];rfl
 refine(ND s b c k).mono ?_;rintro _ _ ⟨rfl,rfl⟩;refine⟨_,rfl,(Be s b d.l.length n c ok.room).mono ?_⟩;rintro _ _ ⟨rfl,rfl⟩;refine⟨_,rfl,bF (fun g=>⟨by rw[t,g];rfl,.zip f.ag⟩) fun g=>?_⟩;refine⟨x,(f.box 0 rfl).aF _ rfl,(NI s b x m c (w.up f.ag) ok (B.up f.ag) u).mono ?_⟩;rintro _ E ⟨r,rfl,i⟩;have o:=(aa.EY i).1;have z:(jH m d.l).length<=4000:=by
  have:=kG m u;have:=Dq m d.l;unfold jH;rw[qw];omega
 have D:=f.cX i;refine⟨r,rfl,(Be s b r.len n (c.ag i.ag c.lt) ok.room).mono ?_⟩;rintro _ _ ⟨rfl,rfl⟩;exact⟨_,rfl,by rw[t,g,vR,o],.zip D.ag⟩
theorem Rg(x:cy)(n:Int)(h:Heap):ab xv 179 #[xm none,gm x,xk xq n] h fun v h'=>v=xo false/\Sp h h' []:=by
 refine Ea none x n ?_;unfold AU;refine(Sp.refl h).boxed fun b c a=>?_;exact aT (bF (fun _=>⟨rfl,.zip a.ag⟩) fun e=>by cases e)
theorem YM(x:cy)(m:aD)(n:Int)(K:St B h0 As fun h=>gn h x m)(I:dM m)(H:aa B h0 h (mg pw a d::ez 131 pw w::As)):
  ab xv 106 #[xm (some a),gm x,xk xq n] h fun v h'=>v=xk xq (gE m w d n).1/\aa B h0 h' (mg pw a (gE m w d n).2.2::ez 131 pw (gE m w d n).2.1::As):=by
 refine DW (some a) x n ?_;unfold AR;refine(Sp.refl h).boxed fun N u G=>?_;have G:Sp h u [ar N 136 (bh x)]:=G;have o:=(H.cX G).bo 3 [1,2,0];have f:∀(e:Int) {h':Heap},aR (fun b=>b<u.size) u h'->gE m w d n=(e,w,d)->(Value.int .i64 e=xk xq (gE m w d n).1/\aa B h0 h' (mg pw a (gE m w d n).2.2::ez 131 pw (gE m w d n).2.1::As)):=fun e {h'} R Q=>by
  rw[Q];exact⟨rfl,((o.up R).bo 3 [0,1])⟩
 obtain⟨ok,s,b,g⟩:=(id o).uc;have q:=g.box 0 rfl;have M:fo u s 1 az d.l:=(g.bo 2 [1]).MU fun _=>rfl;have p:=(aa.EY (g.bo 2 [1])).1;have L:=ok.len;have F:=ok.room;refine aT (aT (bF (fun e=>by cases e) fun _=>(Gd s b q).mono ?_));rintro _ _ ⟨rfl,rfl⟩;refine⟨_,rfl,bF (fun e=>f 5 (aR.refl _ _) (by unfold gE;rw[if_pos e])) fun e=>?_⟩;refine⟨x,(o.box 2 rfl).aF _ rfl,(NJ s b x m n q M p ok (K.at [_,_,_] o) I).mono ?_⟩;rintro _ T ⟨rfl,k⟩;have y:=g.up k.ag;have j:=q.ag k.ag q.lt;have J:=o.up k.ag;refine⟨_,rfl,be (fun t=>f 7 k.ag (by unfold gE;rw[if_neg (by simp[e]),if_pos (by simp[t])])) fun t=>?_⟩;refine(ND s b j p).mono ?_;rintro _ _ ⟨rfl,rfl⟩;refine⟨_,rfl,(Be s b d.l.length n j ok.room).mono ?_⟩;rintro _ _ ⟨rfl,rfl⟩;refine⟨_,rfl,bF (fun A=>f 0 k.ag (by unfold gE;rw[if_neg (by simp[e]),if_neg (by simp[t]),if_pos A])) fun A=>?_⟩;have em:gE m w d n=d.rewrite w (jH m d.l):=by unfold gE;rw[if_neg (by simp[e]),if_neg (by simp[t]),if_neg (by simp[A])]
 rw[em];have P:(jH m d.l).length<=4000:=by
  have:=kG m I;have:=Dq m d.l;unfold jH;rw[qw];omega
 have E:∀c∈jH m d.l,c.length<=64:=fun c i=>by
  unfold jH at i;rcases qF.1 i with i|i
  ·exact Nat.le_of_eq (CI i)
  ·exact Tu i
 refine⟨x,(J.box 2 rfl).aF _ rfl,(NI s b x m j ((y.bo 2 [1]).MU fun _=>rfl) ok (K.at [_,_,_] J) I).mono ?_⟩;rintro _ h3 ⟨r,rfl,S⟩;obtain⟨rs,D⟩:=(J.cX S).aaV fun _=>rfl;have D:=D.bo 4 [1,2,0];refine⟨r,rfl,(Rf r (jH m d.l) D (St.kK 0 rfl fun h' z=>?_) (by omega) fun c i=>zk (E c i) (by decide)).mono ?_⟩
 ·exact⟨rs,z.1,z.2.1,z.2.2⟩
 rintro _ U ⟨rfl,O⟩;exact⟨_,rfl,rfl,O.bo 3 [0,1]⟩
end
section
variable {B:aA} {h0 h:Heap} {As:List HP} {a pw b:Addr} {x:cy} {offs:Int} {da:List aP} {w:Pow} {ds:aX} {d:bv}
theorem aa.abg(n:Nat)(e:n<64)(g:ds[n]?=some none)(H:aa B h0 h (bx bS a pw (bh x) offs da w ds::mg pw b d::As)){K:Unit->Heap->Prop}
  (f:∀h',aa B h0 h' (bx bS a pw (bh x) offs (da.set n (some b)) w (ds.set n (some d))::As)->K () h'):
  ae xv (qf 100 (xm (some ((a.add 10).add n))) (xm (some b))) h K:=by
 obtain⟨ok,i⟩:=Go.Vc.aa.wt H;have j:(a.add 10).add n=a.add (10+n):=by unfold Addr.add;simp[Nat.add_assoc]
 rw[j];refine i.storeAt ac 0 rfl rfl rfl rfl rfl (by simp[ok.la];omega) fun h' c=>f h' ?_;rw[zu,YE ok.l8]at c;exact aa.adz ok e g c
end
end Go.Qw
namespace Wl
open Go
theorem uv(ds:aX)(n:Nat)(d:bv)(s:Int)(b:n<64)(c:ds.length=64):bR (jb ds (n:Int) d) s=if s=(n:Int)then some d else bR ds s:=by
 unfold bR jb;rw[qp];by_cases h:0<=s/\s<64
 ·rw[if_pos h,if_pos h,qV];by_cases a:s=(n:Int)
  ·subst a;rw[if_pos rfl,qp,if_pos rfl,if_pos (by omega)];rfl
  ·rw[if_neg a,if_neg (by omega)]
 ·rw[if_neg h,if_neg h,if_neg (by omega)]
theorem kH{ds:aX}{s:Int}{d:bv}(h:bR ds s=some d):∃n:Nat,s=(n:Int)/\n<64:=by
 unfold bR at h;by_cases a:0<=s/\s<64
 ·exact⟨s.toNat,by omega,by omega⟩
 ·rw[if_neg a]at h;cases h
structure Fit (ds:aX) (S Q:aB):Prop where
 len:ds.length=64
 at_:∀s∈S,∃d,bR ds s=some d/\d.lost=false/\d.l.length+Q.count s<=d.room
theorem Tv{d:bv}{n:Nat}(w:Pow)(b:aU)(a:d.lost=false)(g:d.l.length+(n+1)<=d.room)(f:b.length=64):
  ((d.append w b).1=0∨(d.append w b).1=14)/\(d.append w b).2.2.lost=false/\(d.append w b).2.2.l.length+n<=(d.append w b).2.2.room:=by
 unfold bv.append;rw[if_neg (by omega),if_neg (by simp[a]),if_neg (by omega)];by_cases e:w.off
 ·rw[if_pos e];exact⟨.inr rfl,a,by dsimp only;omega⟩
 ·rw[if_neg e];by_cases c:w.step.1
  ·rw[if_pos c];exact⟨.inl rfl,a,by simp;omega⟩
  ·rw[if_neg c];exact⟨.inr rfl,a,by simp;omega⟩
theorem YN{d:bv}(w:Pow)(a:d.lost=false):((d.sync w).1=0∨(d.sync w).1=14)/\(d.sync w).2.2.lost=false/\(d.sync w).2.2.l=d.l/\(d.sync w).2.2.room=d.room:=by
 unfold bv.sync;rw[if_neg (by simp[a])];by_cases b:w.step.1
 ·rw[if_pos b];exact⟨.inl rfl,a,rfl,rfl⟩
 ·rw[if_neg b];exact⟨.inr rfl,a,rfl,rfl⟩
theorem OI{ds:aX}{S Q:aB}{x:Int}(w:Pow)(b:aU)(F:Fit ds S (x::Q))(l:x∈S)(i:b.length=64):
  ((eu w ds x b).1=0∨(eu w ds x b).1=14)/\Fit (eu w ds x b).2.2 S Q:=by
 obtain⟨d,f,k,o⟩:=F.at_ x l;rw[List.count_cons_self]at o;obtain⟨n,rfl,q⟩:=kH f;have A:=Tv w b k (n:=Q.count (n:Int)) (by omega) i;have e:eu w ds (n:Int) b=((d.append w b).1,(d.append w b).2.1,jb ds (n:Int) (d.append w b).2.2):=by unfold eu;rw[f]
 rw[e];refine⟨A.1,by unfold jb;rw[zr];exact F.len,fun s m=>?_⟩;rw[uv _ _ _ _ q F.len];by_cases a:s=(n:Int)
 ·subst a;rw[if_pos rfl];exact⟨_,rfl,A.2⟩
 ·rw[if_neg a];obtain⟨j,g,p,c⟩:=F.at_ s m;rw[List.count_cons_of_ne (fun h=>a h.symm)]at c;exact⟨j,g,p,c⟩
theorem Tw{ds:aX}{S:aB}{x:Int}(w:Pow)(F:Fit ds S [])(i:x∈S):((fU w ds x).1=0∨(fU w ds x).1=14)/\Fit (fU w ds x).2.2 S []:=by
 obtain⟨d,b,g,k⟩:=F.at_ x i;obtain⟨n,rfl,l⟩:=kH b;obtain⟨c,A2,h,f⟩:=YN w g;have e:fU w ds (n:Int)=((d.sync w).1,(d.sync w).2.1,jb ds (n:Int) (d.sync w).2.2):=by unfold fU;rw[b]
 rw[e];refine⟨c,by unfold jb;rw[zr];exact F.len,fun s j=>?_⟩;rw[uv _ _ _ _ l F.len];by_cases a:s=(n:Int)
 ·subst a;rw[if_pos rfl];exact⟨_,rfl,A2,by rw[h,f];exact k⟩
 ·rw[if_neg a];exact F.at_ s j
end Wl
namespace Go.Vc
open Go Wl Go.Qw
theorem Mp(l:aB)(k:Nat):(bi l k).Nodup:=by
 unfold bi;refine List.Pairwise.filter _ (List.pairwise_map.2 ?_);exact(List.nodup_range (n:=k)).imp fun h=>by omega
theorem Wi{l:aB}(h:(fy l).2=true):(fy l).1=bi l l.length/\l.length<=64/\∀n:Nat,l.getD n 0<=512:=by
 unfold fy at h⊢;by_cases a:l.all (fh · 0 512)=true
 ·rw[if_pos a]at h⊢;refine⟨rfl,by simp at h;exact h.1,fun n=>?_⟩;rw[qe];by_cases b:n<l.length
  ·rw[qd b];have:=qN.1 a _ (qh b);unfold fh at this;simp at this⊢;omega
  ·rw[za (by omega)];simp
 ·rw[if_neg a]at h;cases h
theorem Rh(l:aB)(i n:Nat)(g:i<(bi l l.length).length)(e:(bi l l.length)[i]=(n:Int))(d:n<64):(gr l i)[n]?=some none:=by
 unfold gr;rw[qO,zl d,qR,if_neg];intro f;obtain⟨j,h,c⟩:=List.mem_take_iff_getElem.1 f;have:=EU (Mp l l.length) (a:=j) (b:=i) (by omega) g (by rw[c,e]);omega
theorem Bf(m:aD):∀S:aB,(bE m S).length=S.length*(bf m).length
 |[]=>by simp[bE]
 |n::S=>by
  have e:bE m (n::S)=(bf m).map (fun c=>(n,c))++bE m S:=by unfold bE;rw[zq]
  rw[e,qw,qD,Bf m S,zi,zK,Nat.add_comm]
theorem Wj(p:Pm)(extra:Int)(l:aB)(a:l.length<=64):dM (de p extra l):=⟨by have:=ww l l.length;simp[de];omega,by simp[de],by simp[de]⟩
end Go.Vc
namespace Go.Qw
open Go Go.Vc Go.Proofs Wl
section
variable {B:aA} {h0 h:Heap} {As:List HP} {pw:Addr} {w:Pow}
theorem Tx(p:Pm)(extra:Int)(s:Sl)(l:aB)(hS:St B h0 As fun h=>Rd h s 1 aC l)(hl:l.length<=2^20)(H:aa B h0 h (ez 131 pw w::As)):
  ab xv 46 #[ir p,xk xq extra,xm (some pw),s] h fun v h'=>
   ((cT p extra w l).1≠0->v=.tuple #[xm none,xk xq (cT p extra w l).1]/\aa B h0 h' As)/\
   ((cT p extra w l).1=0->∃(a:Addr) (x:cy) (da:List aP),v=.tuple #[xm (some a),xk xq 0]/\aa B h0 h' (bx bS a pw (bh x) w.offs da (cT p extra w l).2.1 (cT p extra w l).2.2::fS x (de p extra l)::As)):=by
 refine IS p extra (some pw) s ?_;unfold BC;refine H.boxed fun a1 h1 H1=>?_;have H1:=H1.bH;refine(mV s l h1 (hS.at [_,_] H1) hl).mono ?_;rintro _ h2 ⟨r,rfl,R2⟩;have H2:=H1.cX R2;refine⟨(r,(fy l).2),rfl,?_⟩;have o:∀{h':Heap},aa B h0 h' As->((fy l).2&&(bA p&&fh extra 0 16))=false->
   ((cT p extra w l).1≠0->Value.tuple #[xm none,xk xq 1]=.tuple #[xm none,xk xq (cT p extra w l).1]/\aa B h0 h' As)/\
   ((cT p extra w l).1=0->∃(a:Addr) (x:cy) (da:List aP),Value.tuple #[xm none,xk xq 1]=.tuple #[xm (some a),xk xq 0]/\aa B h0 h' (bx bS a pw (bh x) w.offs da (cT p extra w l).2.1 (cT p extra w l).2.2::fS x (de p extra l)::As)):=fun{h'} H' hc=>by
  have e:cT p extra w l=(1,w,[]):=by unfold cT;rw[hc];rfl
  rw[e];exact⟨fun _=>⟨rfl,H'⟩,fun h=>absurd h (show¬(1:Int)=0 by decide)⟩
 refine aT (be (fun e=>o H2.rest.rest.rest (by rw[e];rfl)) fun e=>?_);have ep:(fy l).2=true:=by simpa using e
 obtain⟨a3,A,F⟩:=Wi ep;refine⟨p,(H2.box 1 rfl).aF _ rfl,(dz p h2).mono ?_⟩;rintro _ h3 ⟨rfl,R3⟩;have D:aa B h0 h3 (an 3 r 1 aC (fy l).1::ar a1 25 [xk xq p.1,xk xq p.2.1,xk xq p.2.2]::ez 131 pw w::As):=by
  have:=H2.comp R3;rw[qU]at this;exact this
 refine⟨_,rfl,be (fun e2=>o D.rest.rest.rest (by rw[e2];simp)) fun e2=>?_⟩;have em:bA p=true:=by simpa using e2
 refine ai (fun e3=>o D.rest.rest.rest (by unfold fh;simp;omega)) fun e3=>ai (fun e4=>o D.rest.rest.rest (by unfold fh;simp;omega)) fun e4=>bF (fun e5=>by cases e5) fun _=>?_;rw[a3]at D;refine aT ⟨p,(D.box 1 rfl).aF _ rfl,?_⟩;obtain⟨lw,b3,ax⟩:=(D.bo 3 [2,1,0]).BZ;refine(NB lw (ax.box 0 rfl)).mono ?_;rintro _ h4 ⟨rfl,rfl⟩;have K:=D.box 1 rfl;refine⟨_,rfl,⟨K.cell0 rfl,K.cell rfl,K.cell rfl,trivial⟩,?_⟩;obtain⟨m,N⟩:∃m,m=de p extra l:=⟨_,rfl⟩
 refine⟨_,YD (1,0,p.1,p.2.1,p.2.2,extra,r,⟨none,0,0⟩) pw w.offs,?_⟩;refine D.boxed fun a9 h6 f=>?_;obtain⟨x,hx⟩:∃x:cy,x=(1,0,p.1,p.2.1,p.2.2,extra,r,⟨none,0,0⟩):=⟨_,rfl⟩
 rw[<-hx]at f;have J:(Value.agg (dD (bh x) pw w.offs (qg 64 none)).toArray).cells.toList=dD (bh x) pw w.offs (qg 64 none):=by simp[Value.cells]
 rw[J]at f;have f:=f.bH;have L:=f.box 2 rfl;refine⟨⟨L.cell0 rfl,L.cell rfl,L.cell rfl,trivial⟩,?_⟩;have f:aa B h0 h6 (ar a9 138 (dD (bh x) pw w.offs (qg 64 none))::ez 131 pw w::an 3 r 1 aC (bi l l.length)::As):=f.bo 4 [0,3,1];have f:=aa.YC (k:=bS) (h8:=by simp) f;obtain⟨P,j⟩:∃P,P=bi l l.length:=⟨_,rfl⟩
 rw[<-j]at f;have hz:dM m:=N▸Wj p extra l A;have bd:P.length<=64:=by rw[j];exact zk (ww _ _) A
 have V:∀{h':Heap} {Bs:List HP} {X:HP},aa B h0 h' (X::an 3 r 1 aC P::Bs)->gn h' x m:=fun{h' Bs X} H'=>by
  have hs:=H'.seq 1 rfl fun _=>rfl;have hc:=(H'.own 1 rfl).cap;subst hx;subst N;exact⟨rfl,rfl,rfl,rfl,by show Seq _ _ r 1 aC (bi l l.length);rw[<-j];exact hs,cg.nil _ _ _ _,hc,ql _⟩
 have U:((fy l).2&&(bA p&&fh extra 0 16))=true:=by
  rw[ep,em];unfold fh;simp;omega
 have R:(P.any fun i=>decide (l.getD i.toNat 0<((bf m).length:Int)))=true->cT p extra w l=(7,w,[]):=fun hh=>by
  unfold cT;rw[if_pos U,<-j,<-N,if_pos hh]
 have am:(P.any fun i=>decide (l.getD i.toNat 0<((bf m).length:Int)))=false->cT p extra w l=layAll (bE m P) w (gr l P.length):=fun hh=>by
  unfold cT;rw[if_pos U,<-j,<-N,hh,if_neg (by decide)]
 have I:∀i (M:i<P.length),∃n:Nat,n<l.length/\P[i]=(n:Int)/\0<l.getD n 0:=by
  subst j;exact fun i M=>Tm l l.length i M
 refine au (fun i:Nat=>(i:Int)) (fun i h'=>i<=P.length/\((P.take i).any fun i=>decide (l.getD i.toNat 0<((bf m).length:Int)))=false/\aa B h0 h' (bx bS a9 pw (bh x) w.offs (qg 64 none) w (qg 64 none)::an 3 r 1 aC P::As)) (fun i=>P.length-i) 0 rfl ⟨by omega,by simp,f⟩ ?_;rintro i h7 ⟨M,g,E⟩;dsimp only at*;obtain⟨b4,a6⟩:=aa.dj E;have br:r.len=P.length:=(E.own 1 rfl).len;refine ai (fun e5=>?_) (fun e5=>?_)
 ·have c:i<P.length:=by omega
  obtain⟨n,O,z,Y⟩:=I i c;refine(E.seq 1 rfl fun _=>rfl).bt i rfl c (n:Int) (by rw[z];rfl) ?_;refine(hS.at [_,_] E).JB n rfl O (l.getD n 0) (by rw[getD_lt O];rfl) fun bs T=>?_;refine⟨a9,rfl,x,a6.aF _ (by rfl),(pB x m h7 (V E) hz).mono ?_⟩;rintro _ h9 ⟨u,rfl,R9⟩;have H9:=E.cX R9;have bl:=(aa.EY H9).1;refine⟨u,rfl,nY R9.ag ⟨T,trivial⟩,?_⟩;refine ai (fun e6=>?_) (fun e6=>?_)
  ·rw[R (yb.2 ⟨P[i],qh c,by rw[z,qp];exact decide_eq_true (by omega)⟩)];exact⟨fun _=>⟨rfl,H9.rest.rest.rest⟩,fun h=>absurd h (show¬(7:Int)=0 by decide)⟩
  ·refine⟨i+1,by rw[aj _];rfl,⟨by omega,?_,H9.rest⟩,by omega⟩;rw[aH _ _ c,y7,g,vR,List.any_cons,List.any_nil,Bool.or_false,z,qp];exact decide_eq_false (by omega)
 ·have G:i=P.length:=by omega
  subst G;rw[qX]at g;have ay:=am g;rw[<-Rc l]at E;refine au (fun t:Nat×List aP=>(t.1:Int)) (fun t h'=>t.1<=P.length/\aa B h0 h' (bx bS a9 pw (bh x) w.offs t.2 w (gr l t.1)::an 3 r 1 aC P::As)) (fun t=>P.length-t.1) (0,qg 64 none) rfl ⟨by simp,E⟩ ?_;rintro⟨i,da⟩ Z ⟨M,d⟩;dsimp only at*;obtain⟨b1,W⟩:=aa.dj d;refine ai (fun e6=>?_) (fun e6=>?_)
  ·have c:i<P.length:=by omega
   obtain⟨n,O,z,Y⟩:=I i c;have bk:=F n;refine(d.seq 1 rfl fun _=>rfl).bt i rfl c (n:Int) (by rw[z];rfl) ?_;refine(hS.at [_,_] d).bt n rfl O (l.getD n 0) (by rw[getD_lt O];rfl) ?_;refine⟨a9,rfl,(VT (l.getD n 0) pw Z).mono ?_⟩;rintro _ b0 ⟨Q1,_⟩;obtain⟨b,rfl,a2⟩:=Q1 (by omega);have a8:=(d.cX a2).bo 2 [1,0];refine⟨_,rfl,trivial,⟨by omega,by omega⟩,?_⟩;rw[qp,wc];have ap:i<(bi l l.length).length:=by rw[<-j];exact c
   have ah:(bi l l.length)[i]=(n:Int):=by rw[<-z];simp only[j]
   refine Go.Qw.aa.abg n (by omega) (Rh l i n ap ah (by omega)) a8 fun b5 a0=>?_;refine⟨trivial,(i+1,da.set n (some b)),by dsimp only;rw[aj _];rfl,⟨by dsimp only;omega,?_⟩,by dsimp only;omega⟩;dsimp only;rw[<-Re l i n ap ah (by omega)];exact a0
  ·have G:i=P.length:=by omega
   subst G;refine⟨a9,rfl,x,W.aF _ (by rfl),(Ie x m r P Z (V d) hz (d.seq 1 rfl fun _=>rfl) (by omega)).mono ?_⟩;rintro _ b2 ⟨u,ys,rfl,a7⟩;have a4:=(d.cX a7).bo 2 [1,0];refine⟨u,rfl,?_⟩;have S:=kG m hz;refine(Gh u ys (bE m P) (St.kK 0 rfl fun _ Q=>Q) ?_ ?_ a4).mono ?_
   ·rw[Bf];have:=zJ bd S;omega
   ·intro y hy;obtain⟨bb,a5⟩:=jT hy;obtain⟨i,M,e⟩:=qE bb;obtain⟨n,O,z,_⟩:=I i M;rw[<-e,z,a5];exact⟨⟨by omega,by omega⟩,by decide⟩
   rintro _ bq ⟨rfl,ad⟩;rw[ay];refine⟨_,rfl,bV (fun e7=>⟨fun _=>⟨rfl,ad.rest.rest.rest⟩,fun h=>absurd h e7⟩) fun e7=>⟨fun h=>absurd e7 h,fun _=>⟨a9,x,da,rfl,?_⟩⟩⟩;rw[<-N];exact ad.GX.ga 1 rfl fun q Q=>by
    subst hx;subst N;exact⟨rfl,rfl,rfl,rfl,by show Seq _ _ r 1 aC (bi l l.length);rw[<-j];exact Q.1.seq (fun _=>rfl) Q.2,cg.nil _ _ _ _,Q.1.cap,ql _⟩
end
end Go.Qw
namespace Wl
open Go
def mj(m:aD)(ds:aX)(k n:Int):Bool:=match bR ds k with|some d=>mI m d n|none=>false
def cU(m:aD)(ds:aX)(l:aB)(N:Int->Int):Bool:=l.all fun k=>mj m ds k (N k)
def fl(m:aD)(w:Pow)(ds:aX)(k n:Int):Int×Pow×aX:=
 match bR ds k with
 |none=>(5,w,ds)
 |some d=>((gE m w d n).1,(gE m w d n).2.1,jb ds k (gE m w d n).2.2)
def makes(m:aD)(N:Int->Int):aB->Pow->aX->Int×Pow×aX
 |[],w,ds=>(0,w,ds)
 |k::l,w,ds=>if(fl m w ds k (N k)).1=0 then makes m N l (fl m w ds k (N k)).2.1 (fl m w ds k (N k)).2.2 else fl m w ds k (N k)
end Wl
namespace Go.Qw
open Go Go.Vc Go.Proofs Wl
theorem NK(f:FuncId)(pre post:Array Value)(P:Int->Bool)(s:Sl)(l:aB)(h:Heap)(w:C.fns[f]?=some true)(n:Rd h s 1 aC l)(x:l.length<=2^30)
  (r:∀k∈l,∀h',Sp h h' []->ab xv f (pre.toList++[Value.int .i64 k]++post.toList).toArray h' fun v e=>v=xo (P k)/\Sp h' e []):
  ab xv 173 #[s,.func (.func f) pre post] h fun v h'=>v=xo (l.any P)/\Sp h h' []:=by
 refine jr s (f,pre,post) ?_;unfold gA;refine(gM s (f,pre,post) (R:=fun v h'=>(∃i:Int,v=xk xq i/\decide (i>=0)=l.any P)/\Sp h h' []) ?_).mono ?_
 ·unfold fN;have t:=n.len;refine au (fun i:Nat=>(i:Int)) (fun i h'=>i<=l.length/\(l.take i).any P=false/\Sp h h' []) (fun i=>l.length-i) 0 rfl ⟨by omega,by simp,Sp.refl h⟩ ?_;rintro i m ⟨j,a,c⟩;refine ai (fun g=>?_) (fun g=>?_)
  ·have b:i<l.length:=by
    have q:(i:Int)<(s.len:Int):=g;omega
   refine(Seq.up n c.ag).bt i rfl b l[i] rfl (eS w ?_);refine(r l[i] (qh b) m c).mono ?_;rintro _ y ⟨rfl,p⟩;have o:=c.up p.ag;refine⟨_,rfl,bF (fun d=>⟨⟨i,rfl,?_⟩,o⟩) (fun d=>?_)⟩
   ·rw[yb.2 ⟨_,qh b,d⟩];exact decide_eq_true (by omega)
   ·refine⟨i+1,by rw[aj _];rfl,⟨by omega,?_,o⟩,by omega⟩;rw[aH _ _ b,y7,a,List.any_cons,List.any_nil,d];rfl
  ·have q:¬(i:Int)<(s.len:Int):=g;rw[qi (by omega)]at a;exact⟨⟨-1,rfl,by rw[a];rfl⟩,c⟩
 ·rintro _ m ⟨⟨i,rfl,j⟩,u⟩;exact⟨i,rfl,by rw[j],u⟩
section
variable {B:aA} {h0 h:Heap} {As:List HP} {a pw:Addr} {offs:Int} {da:List aP} {w:Pow} {ds:aX}
def Wk(f:FuncId)(pre post:Array Value)(N:Int->Int)(l:aB)(h:Heap):Prop:=∀k∈l,ab xv f (pre.toList++[Value.int .i64 k]++post.toList).toArray h fun v h'=>v=xk xq (N k)/\Sp h h' []
theorem Wm(f:FuncId)(pre post:Array Value)(N:Int->Int)(x:cy)(m:aD)(s:Sl)(l:aB)(hf:C.fns[f]?=some true)(R:St B h0 As fun h=>gn h x m/\Wk f pre post N l h)(hz:dM m)(hs:Rd h s 1 aC l)(W:l.length<=2^30)(z:∀k∈l,0<=k/\k<64)(H:aa B h0 h (bx bS a pw (bh x) offs da w ds::As)):
  ab xv 153 #[xm (some a),s,.func (.func f) pre post] h fun v h'=>v=xo (cU m ds l N)/\Sp h h' []:=by
 refine Dd (some a) s (f,pre,post) ?_;unfold sf;refine(Sp.refl h).boxed fun q h1 R1=>R1.boxed fun T F r=>?_;have H2:aa B h0 F (bx bS a pw (bh x) offs da w ds::As):=H.up r.ag;have g:bZ F q 97 [xm (some a)]:=r.box 0 rfl;have S:=r.box 1 rfl;refine(NK 231 #[] #[xm (some q),xm (some T)] (fun k=>!mj m ds k (N k)) s l F (by rfl) (hs.up r.ag) W ?_).mono ?_
 ·intro k U h3 i;have E:=H2.up i.ag;have Q:=(g.ag i.ag g.lt).cell0 rfl;have Y:=(S.ag i.ag S.lt).cell0 rfl;obtain⟨ok,u⟩:=aa.dj E;have P:=z k U;refine AX k q T ?_;unfold pu;obtain⟨n,rfl⟩:∃n:Nat,k=n:=⟨k.toNat,by omega⟩
  have I:n<da.length:=by rw[ok.la];omega
  have X:cellOf h3 ((a.add 10).add ((n:Int).toNat*1))=some (.pointer da[n]):=by
   rw[qp,wc];refine u.wn 10 n ?_;rw[su ok.l8,qd I];rfl
  obtain⟨ad,A⟩:=R.at [_] E;refine⟨some a,Q,a,rfl,⟨by omega,by omega⟩,da[n],X,some a,Q,a,rfl,x,u.aF _ rfl,(f,pre,post),Y,eS hf ?_⟩;refine(A n U).mono ?_;rintro _ L ⟨rfl,t⟩;have M:=E.up t.ag;have p:=((g.ag i.ag g.lt).ag t.ag (g.ag i.ag g.lt).lt).cell0 rfl;have c:=u.ag t.ag u.lt;have G:cellOf L ((a.add 10).add ((n:Int).toNat*1))=some (.pointer da[n]):=by
   rw[qp,wc];refine c.wn 10 n ?_;rw[su ok.l8,qd I];rfl
  refine⟨_,rfl,⟨c.cell0 rfl,c.cell rfl,c.cell rfl,c.cell rfl,c.cell rfl,c.cell rfl,c.cell rfl,c.cell rfl,p,G,p,trivial⟩,?_⟩;have K:nR da (n:Int)=da[n]:=by unfold nR;rw[if_pos (by omega),qp,qd I];rfl
  rw[<-K];have fin:∀{J:Bool} {o:Heap},J=mj m ds n (N n)->Sp L o []->aq.ok [(q,xm (some a)),(q,xm (some a))] o/\(Value.bool (!J)=xo (!mj m ds n (N n))/\Sp h3 o []):=fun{J o} he j=>by
   have O:=(g.ag i.ag g.lt).ag t.ag (g.ag i.ag g.lt).lt;have:=(O.ag j.ag O.lt).cell0 rfl;exact⟨⟨this,this,trivial⟩,by rw[he],.zip (aa.up t j.ag).ag⟩
  rcases nS ok (n:Int)with⟨e1,e2⟩|⟨n',d,b,e0,e1,e2,e3,e4,e5⟩
  ·rw[e2];refine(Rg x _ L).mono ?_;rintro _ o ⟨rfl,j⟩;exact⟨_,rfl,fin (by unfold mj;rw[e1]) j⟩
  ·rw[e5];obtain⟨b',e,H5⟩:=Go.Vc.aa.mh M e2;rw[e4]at e;injection e with e
   injection e with e
   subst e;obtain⟨D,V,Z,y⟩:=aa.uc H5;refine(NJ V Z x m (N n) (y.box 0 rfl) ((y.bo 2 [1]).MU fun _=>rfl) (aa.EY (y.bo 2 [1])).1 D (R.at [_] M).1 hz).mono ?_;rintro _ o ⟨rfl,j⟩;exact⟨_,rfl,fin (by unfold mj;rw[e3]) j⟩
 ·rintro _ h3 ⟨rfl,i⟩;refine⟨_,rfl,?_,.zip (aa.up r i.ag).ag⟩;unfold cU;rw[List.not_any_eq_all_not];simp
theorem Ri(x:cy)(n:Int)(h:Heap):ab xv 106 #[xm none,gm x,xk xq n] h fun v h'=>v=xk xq 5/\Sp h h' []:=by
 refine DW none x n ?_;unfold AR;refine(Sp.refl h).boxed fun b c a=>?_;exact aT (aT (bF (fun _=>bF (fun _=>⟨rfl,.zip a.ag⟩) fun e=>by cases e) fun e=>by cases e))
theorem Wn(m:aD)(N:Int->Int)(l:aB)(w:Pow)(ds:aX)(i:Nat)(a:i<l.length):makes m N (l.drop i) w ds=if(fl m w ds l[i] (N l[i])).1=0 then makes m N (l.drop (i+1)) (fl m w ds l[i] (N l[i])).2.1 (fl m w ds l[i] (N l[i])).2.2 else fl m w ds l[i] (N l[i]):=by
 rw[qS a];rfl
theorem Wo(f:FuncId)(pre post:Array Value)(N:Int->Int)(x:cy)(m:aD)(s:Sl)(l:aB)(hf:C.fns[f]?=some true)(J:St B h0 As fun h=>gn h x m/\Wk f pre post N l h/\Rd h s 1 aC l)(hz:dM m)(hl:l.length<=2^30)(G:∀k∈l,0<=k/\k<64)(H:aa B h0 h (bx bS a pw (bh x) offs da w ds::As)):
  ab xv 154 #[xm (some a),s,.func (.func f) pre post] h fun v h'=>v=xk xq (makes m N l w ds).1/\aa B h0 h' (bx bS a pw (bh x) offs da (makes m N l w ds).2.1 (makes m N l w ds).2.2::As):=by
 refine BN (some a) s (f,pre,post) ?_;unfold pN;have ad:=(J.at [_] H).2.2.len;obtain⟨Z,P⟩:∃Z,Z=makes m N l w ds:=⟨_,rfl⟩
 rw[<-P];refine au (fun t:Nat×Pow×aX=>(t.1:Int)) (fun t h'=>t.1<=l.length/\Z=makes m N (l.drop t.1) t.2.1 t.2.2/\aa B h0 h' (bx bS a pw (bh x) offs da t.2.1 t.2.2::As)) (fun t=>l.length-t.1) (0,w,ds) rfl ⟨by simp,P,H⟩ ?_;rintro⟨i,A,y⟩ h1 ⟨hi,p,F⟩;dsimp only at*;refine ai (fun e=>?_) fun e=>?_
 ·have q:i<l.length:=by omega
  rw[Wn _ _ _ _ _ _ q]at p;obtain⟨ah,K,L⟩:=J.at [_] F;refine L.bt i rfl q l[i] rfl (aT ?_);have D:=G l[i] (qh q);obtain⟨k,M⟩:∃k,k=l[i]:=⟨_,rfl⟩
  have I:k∈l:=by rw[M];exact qh q
  rw[<-M]at p D;rw[<-M];obtain⟨n,rfl⟩:∃n:Nat,k=n:=⟨k.toNat,by omega⟩
  obtain⟨ok,z⟩:=aa.dj F;have S:n<da.length:=by rw[ok.la];omega
  have Q:∀{h':Heap},bZ h' a 138 (dD (bh x) pw offs da)->cellOf h' ((a.add 10).add ((n:Int).toNat*1))=some (.pointer da[n]):=fun{h'} z=>by
   rw[qp,wc];refine z.wn 10 n ?_;rw[su ok.l8,qd S];rfl
  refine⟨a,rfl,⟨by omega,by omega⟩,da[n],Q z,a,rfl,x,z.aF _ rfl,eS hf ?_⟩;refine(K n I).mono ?_;rintro _ h2 ⟨rfl,R⟩;have T:=F.up R.ag;have g:=z.ag R.ag z.lt;refine⟨_,rfl,⟨g.cell0 rfl,g.cell rfl,g.cell rfl,g.cell rfl,g.cell rfl,g.cell rfl,g.cell rfl,g.cell rfl,Q g,trivial⟩,?_⟩;have O:nR da (n:Int)=da[n]:=by unfold nR;rw[if_pos (by omega),qp,qd S];rfl
  rw[<-O];obtain⟨c,o⟩:∃c,c=fl m A y n (N n):=⟨_,rfl⟩
  rw[<-o]at p;have fin:∀{h3:Heap},aa B h0 h3 (bx bS a pw (bh x) offs da c.2.1 c.2.2::As)->aq.ok [] h3/\Br (c.1 !=(0:Int)) (Value.int .i64 c.1=xk xq Z.1/\aa B h0 h3 (bx bS a pw (bh x) offs da Z.2.1 Z.2.2::As))
    (∃r:Nat×Pow×aX,qc xq ((i:Int)+1)=(r.1:Int)/\(r.1<=l.length/\Z=makes m N (l.drop r.1) r.2.1 r.2.2/\aa B h0 h3 (bx bS a pw (bh x) offs da r.2.1 r.2.2::As))/\l.length-r.1<l.length-i):=fun{h3} H3=>by
   refine⟨trivial,bV (fun u=>?_) fun u=>?_⟩
   ·rw[if_neg u]at p;rw[p];exact⟨rfl,H3⟩
   ·rw[if_pos u]at p;exact⟨(i+1,c.2.1,c.2.2),by dsimp only;rw[aj _];rfl,⟨by dsimp only;omega,p,H3⟩,by dsimp only;omega⟩
  rcases nS ok (n:Int)with⟨e1,u⟩|⟨n',d,b,e0,e1,u,e3,e4,e5⟩
  ·rw[u];have E:c=(5,A,y):=by rw[o];unfold fl;rw[e1]
   refine(Ri x _ h2).mono ?_;rintro _ h3 ⟨rfl,R3⟩;exact⟨c.1,by rw[E],fin (h3:=h3) (by rw[E];exact T.up R3.ag)⟩
  ·rw[e5];have W:n=n':=by omega
   subst W;obtain⟨b',j,Y⟩:=Go.Vc.aa.mh T u;rw[e4]at j;injection j with j
   injection j with j
   subst j;have E:c=((gE m A d (N n)).1,(gE m A d (N n)).2.1,y.set n (some (gE m A d (N n)).2.2)):=by rw[o];unfold fl;rw[e3];simp only[jb,qp]
   refine(YM x m (N n) (fun Bs h' X=>(J (Bs++[_]) h' (by rw[qo];exact X)).1) hz Y).mono ?_;rintro _ h3 ⟨rfl,U⟩;have V:=Go.Vc.aa.Ji (k:=bS) (n:=n) e4 U;exact⟨c.1,by rw[E],fin (h3:=h3) (by rw[E];exact V)⟩
 ·rw[zh (by omega)]at p;rw[p];exact⟨rfl,F⟩
end
def abh(a b:eC):Int:=if eG a.1 b.1 then-1 else if je a.1 b.1 then 0 else 1
def iV(a b:eC):Bool:=je a.1 b.1
theorem Rj(a b:eC):abh a b<0↔¬iV b a=true:=by
 unfold abh iV je;cases h:eG a.1 b.1<;>simp;split<;>omega
theorem Gq:Ord iV:=⟨fun a b c=>Ff a.1 b.1 c.1,fun a b=>Fg a.1 b.1⟩
abbrev Rk(x:eC):Value:=xp #[xn x.1,xk xq x.2.1,xk xq x.2.2.1,x.2.2.2]
theorem OJ(x y:ByteArray)(h:Heap):ab xv 230 #[xn x,xn y] h fun v h'=>v=xk xq (if eG x y then-1 else if je x y then 0 else 1)/\h'=h:=by
 refine AW x y ?_;unfold pr;have a:∀z:ByteArray,ab xv 293 #[xn z] h fun v h'=>v=xo false/\h'=h:=fun z=>by
  refine Dm z ?_;unfold sq;exact⟨by simp,rfl⟩
 refine(a x).mono ?_;rintro _ _ ⟨rfl,rfl⟩;refine⟨_,rfl,(a y).mono ?_⟩;rintro _ _ ⟨rfl,rfl⟩;refine⟨_,rfl,bF (fun e=>by cases e) fun _=>bF (fun e=>by cases e) fun _=>?_⟩;have c:Op.bytesLess x.toList y.toList=eG x y:=rfl;rw[OX,c];have d:(!Op.bytesLess y.toList x.toList)=je x y:=rfl;rw[d];refine bF (fun e=>⟨by rw[e];rfl,rfl⟩) fun e=>be (fun b=>⟨by rw[e,b];rfl,rfl⟩) fun b=>⟨by rw[e,b];rfl,rfl⟩
theorem Wp(a b:eC)(h:Heap):ab xv 229 #[Rk a,Rk b] h fun v h'=>v=xk xq (abh a b)/\Sp h h' []:=by
 refine Jb a b ?_;unfold BU;refine(Sp.refl h).boxed fun g i f=>f.boxed fun e d c=>?_;have c:Sp h d [ar g 170 (cl a),ar e 170 (cl b)]:=c;refine⟨a.1,(c.box 0 rfl).cell0 rfl,b.1,(c.box 1 rfl).cell0 rfl,(OJ a.1 b.1 d).mono ?_⟩;rintro _ _ ⟨rfl,rfl⟩;exact⟨_,rfl,rfl,.zip c.ag⟩
abbrev sY(s:Sl)(d:List eC):HP:=an 170 s 4 cl d
section
variable {B:aA} {h0 h h':Heap} {As:List HP} {s:Sl} {d:List eC}
theorem Tz{b d:List eC}{y:eC}(c:Sd iV (b++d))(g:∀z∈b,iV z y=true)(f:∀z∈d,¬iV z y=true):Sd iV (b++y::d):=
 Sd.app Gq c.left (zM.2 ⟨fun z a=>Gq.Fb (f z a),c.right⟩) fun x e z a=>by
  rcases q8.1 a with rfl|a
  ·exact g x e
  ·exact c.GZ x e z a
theorem KL(X M Y:List eC)(a b:Int)(ha:a=(X.length:Int))(hb:b=(X.length+M.length:Nat))(am:X.length+M.length+Y.length<=2^40)(H:aa B h0 h (sY s (X++(M++Y))::As)):
  ab xv 322 #[s,xk xq a,xk xq b,.func (.func 229) #[] #[]] h fun v h'=>v=.tuple #[]/\∃M',Sd iV M'/\bY iV M M'/\aa B h0 h' (sY s (X++(M'++Y))::As):=by
 refine kA s a b (229,#[],#[]) ?_;unfold gw;subst ha;subst hb;rw[aj ((X.length:Int)+1)];refine au (fun t:Nat×List eC=>((X.length+1+t.1:Nat):Int)) (fun t h'=>(t.1+1<=M.length∨t.1=0)/\Sd iV t.2/\bY iV (M.take (t.1+1)) t.2/\t.2.length=(M.take (t.1+1)).length/\aa B h0 h' (sY s (X++(t.2++(M.drop (t.1+1)++Y)))::As)) (fun t=>M.length-t.1) (0,M.take 1) rfl ?_ ?_
 ·refine⟨.inr rfl,?_,bY.refl _,rfl,?_⟩
  ·cases M with
   |nil=>exact List.Pairwise.nil
   |cons x M=>exact zM.2 ⟨fun _ h=>by simp at h,by simp⟩
  ·rw[<-qo (M.take (0+1)),List.take_append_drop];exact H
 rintro⟨t,P⟩ h1 ⟨ht,A,E,ad,N⟩;dsimp only at*;refine ai (fun e=>?_) (fun e=>?_)
 ·have J:t+1<M.length:=by omega
  obtain⟨y,hy⟩:∃y,y=M[t+1]:=⟨_,rfl⟩
  have K:P.length=t+1:=by rw[ad];simp;omega
  have eD:M.drop (t+1)=y::M.drop (t+1+1):=by rw[qS J,hy]
  rw[eD]at N;refine au (fun u:List eC×List eC=>((X.length+u.1.length:Nat):Int)) (fun u h'=>u.1++u.2=P/\(∀z∈u.2,¬iV z y=true)/\aa B h0 h' (sY s (X++(u.1++(y::(u.2++(M.drop (t+1+1)++Y)))))::As)) (fun u=>u.1.length) (P,[]) (by dsimp only;rw[K];congr 1;omega) ⟨by simp,by simp,by simpa using N⟩ ?_;rintro⟨c,d⟩ V ⟨L,f,G⟩;dsimp only at*;have ah:c.length+d.length=t+1:=by rw[<-K,<-L,qw]
  have l:∀{h':Heap},(∀z∈c,iV z y=true)->aa B h0 h' (sY s (X++(c++(y::(d++(M.drop (t+1+1)++Y)))))::As)->
    ∃k:Nat×List eC,qc xq (((X.length+1+t:Nat):Int)+1)=((X.length+1+k.1:Nat):Int)/\((k.1+1<=M.length∨k.1=0)/\Sd iV k.2/\bY iV (M.take (k.1+1)) k.2/\k.2.length=(M.take (k.1+1)).length/\aa B h0 h' (sY s (X++(k.2++(M.drop (k.1+1)++Y)))::As))/\M.length-k.1<M.length-t:=fun{h'} hle H'=>by
   refine⟨(t+1,c++y::d),by dsimp only;rw[aj _];omega,⟨.inl (by dsimp only;omega),?_,?_,?_,?_⟩,by dsimp only;omega⟩
   ·exact Tz (by rw[L];exact A) hle f
   ·dsimp only;rw[aH M (t+1) J,<-hy];have h1:bY iV (M.take (t+1)++[y]) (P++[y]):=E.app (bY.refl _);refine h1.trans ?_;rw[<-L,qo];have V:bY iV (d++[y]) ([y]++d):=bY.XF Gq fun x hx z S=>by rw[qG.1 S];exact f x hx
    exact(bY.refl _).app V
   ·dsimp only;simp;omega
   ·dsimp only;have:X++((c++y::d)++(M.drop (t+1+1)++Y))=X++(c++(y::(d++(M.drop (t+1+1)++Y)))):=by simp
    rw[this];exact H'
  obtain⟨D,R⟩:∃D,D=X++(c++(y::(d++(M.drop (t+1+1)++Y)))):=⟨_,rfl⟩
  refine bO (fun _ h'=>∃(Q:List eC) (z:eC),c=Q++[z]/\¬iV z y=true/\aa B h0 h' (sY s D::As)) ?_ ?_
  ·rw[<-R]at G l;refine ai (fun T=>?_) (fun T=>⟨trivial,l (fun z S=>?_) G⟩)
   ·have I:c≠[]:=fun h=>by rw[h]at T;simp at T
    obtain⟨Q,z,n⟩:∃(Q:List eC) (z:eC),c=Q++[z]:=⟨c.dropLast,c.getLast I,(List.dropLast_concat_getLast I).symm⟩
    have W:c.length=Q.length+1:=by rw[n];simp
    have g1:D[X.length+c.length]?=some y:=by
     rw[R,qj (by omega),show X.length+c.length-X.length=c.length by omega,qj (by omega),zd];rfl
    have g2:D[X.length+c.length-1]?=some z:=by
     rw[R,qj (by omega),show X.length+c.length-1-X.length=Q.length by omega,n,qo,qj (ql _),zd];rfl
    obtain⟨O,q⟩:=qn.1 g1;obtain⟨U,r⟩:=qn.1 g2;refine(G.seq 0 rfl fun _=>rfl).ea (g:=cl) _ rfl O y (by rw[q]) ?_;have Z:qc xq (((X.length+c.length:Nat):Int)-1)=((X.length+c.length-1:Nat):Int):=by rw[aj _];omega
    rw[Z];refine(G.seq 0 rfl fun _=>rfl).ea (g:=cl) _ rfl U z (by rw[r]) (eS (by rfl) ?_);refine(Wp y z V).mono ?_;rintro _ h3 ⟨rfl,R3⟩;have F:=G.up R3.ag;refine⟨_,rfl,trivial,ai (fun e3=>⟨Q,z,n,(Rj y z).1 e3,F⟩) fun e3=>l (fun w m=>?_) F⟩;have o:iV z y=true:=by
     by_cases hc:iV z y=true
     ·exact hc
     ·exact absurd ((Rj y z).2 hc) e3
    rw[n]at m;rcases qF.1 m with m|m
    ·refine Gq.trans _ _ _ ?_ o;have:Sd iV (Q++[z]):=by rw[<-n];exact Sd.left (v:=d) (by rw[L];exact A)
     exact this.GZ w m z (by simp)
    ·rw[qG.1 m];exact o
   ·have:c=[]:=by
     cases c with
     |nil=>rfl
     |cons x P=>exfalso;simp only[zi]at T;omega
    rw[this]at S;cases S
  ·rintro _ h3 ⟨Q,z,n,o,F⟩;have W:c.length=Q.length+1:=by rw[n];simp
   have p:D=(X++Q)++z::([]++y::(d++(M.drop (t+1+1)++Y))):=by rw[R,n];simp
   obtain⟨q1,q2,q3,q4⟩:=QU (X++Q) [] (d++(M.drop (t+1+1)++Y)) z y (i:=X.length+c.length-1) (j:=X.length+c.length) (by simp;omega) (by simp;omega);rw[<-p]at q1 q2 q3 q4;obtain⟨U,r⟩:=qn.1 q1;obtain⟨O,q⟩:=qn.1 q2;have Z:qc xq (((X.length+c.length:Nat):Int)-1)=((X.length+c.length-1:Nat):Int):=by rw[aj _];omega
   rw[Z];refine(F.seq 0 rfl fun _=>rfl).ea (g:=cl) _ rfl U z (by rw[r]) ?_;refine(F.seq 0 rfl fun _=>rfl).ea (g:=cl) _ rfl O y (by rw[q]) ?_;refine F.set ac 0 rfl (fun _=>rfl) rfl (X.length+c.length) rfl O z rfl rfl rfl fun h4 H4=>⟨trivial,?_⟩
   refine H4.set ac 0 rfl (fun _=>rfl) rfl (X.length+c.length-1) rfl (by simpa using U) y rfl rfl rfl fun h5 H5=>⟨trivial,?_⟩
   refine⟨(Q,z::d),by dsimp only;congr 1;omega,⟨by dsimp only;rw[<-L,n];simp,?_,?_⟩,by dsimp only;omega⟩
   ·dsimp only;intro w m;rcases q8.1 m with rfl|m
    ·exact o
    ·exact f w m
   ·dsimp only;have:X++(Q++(y::(z::d++(M.drop (t+1+1)++Y))))=(X++Q)++y::([]++z::(d++(M.drop (t+1+1)++Y))):=by simp
    rw[this,<-q4];exact H5
 ·refine⟨rfl,P,A,?_,?_⟩
  ·rw[qi (by omega)]at E;exact E
  ·rw[zh (by omega)]at N;simpa using N
theorem Rl(r:Nat)(h:Heap)(c:r<=2^32):ab xv 168 #[xk xu r] h fun v h'=>(∃k:Int,v=xk xq k)/\h'=h:=by
 intro w a;refine(Tryz.bits_Len (r:Int) w (by omega) (by omega)).mono ?_;rintro e b ⟨rfl,rfl⟩;exact⟨_,rfl,cM.refl _,⟨_,rfl⟩,a⟩
theorem Wq(d:List eC)(m:d.length<=12)(H:aa B h0 h (sY s d::As)):
  ab xv 228 #[s,.func (.func 229) #[] #[]] h fun v h'=>v=.tuple #[]/\aa B h0 h' (sY s (d.mergeSort iV)::As):=by
 refine li s (229,#[],#[]) ?_;unfold gT;have c:=(H.own 0 rfl).len;have a:∀k:Int,ab xv 292 #[s,xk xq 0,xk xq (s.len:Nat),xk xq k,.func (.func 229) #[] #[]] h fun v h'=>v=.tuple #[]/\aa B h0 h' (sY s (d.mergeSort iV)::As):=fun k=>by
  refine mB s 0 (s.len:Nat) k (229,#[],#[]) ?_;unfold iS;refine au (fun _:Unit=>((0:Int),((s.len:Nat):Int),k,true,true)) (fun _ h'=>h'=h) (fun _=>0) () rfl rfl ?_;rintro _ g rfl;refine ai (fun _=>?_) fun e=>absurd (show qc xq (((s.len:Nat):Int)-0)<=12 by rw[aj _];omega) e;refine(KL [] d [] 0 (s.len:Nat) rfl (by simp[c]) (by simp;omega) (by simpa using H)).mono ?_;rintro _ l ⟨rfl,M,j,i,b⟩;refine⟨(),rfl,rfl,?_⟩;rw[<-Vp Gq j i];simpa using b
 have f:qc xu ((s.len:Nat):Int)=((s.len:Nat):Int):=by unfold qc;simp[qk,yC];omega
 rw[f];refine(Rl s.len h (by omega)).mono ?_;rintro _ g ⟨⟨k,rfl⟩,rfl⟩;refine⟨k,rfl,(a k).mono ?_⟩;rintro _ l ⟨rfl,b⟩;exact⟨(),rfl,rfl,b⟩
end
section
variable {B:aA} {h0 h:Heap} {As:List HP}
def Cg:cy:=(0,0,0,0,0,0,⟨none,0,0⟩,⟨none,0,0⟩)
theorem TA{m:aD}{e:Wl.cm}{xe:eC}{L:List (eC×Wl.cm)}{pool:List (Sl×aB)}(k:L.map zE=m.aL)(i:∀p∈L,Hp pool p)(h:Hp pool (xe,e)):
  ∃g:List (eC×Wl.cm),g.map qK=(L.map qK++[xe]).mergeSort iV/\g.map zE=(m.aL++[e]).mergeSort tH/\∀p∈g,Hp pool p:=by
 have c:∀p∈L++[(xe,e)],Hp pool p:=fun p d=>by
  rcases qF.1 d with d|d
  ·exact i p d
  ·rw[qG.1 d];exact h
 refine⟨(L++[(xe,e)]).mergeSort fun a b=>iV a.1 b.1,?_,?_,fun p d=>c p ((wB _ _).mem_iff.1 d)⟩
 ·rw[vy (r:=fun a b=>iV a.1 b.1) (s:=iV) (f:=qK) (fun a _ b _=>rfl),qW];rfl
 ·rw[vy (r:=fun a b=>iV a.1 b.1) (s:=tH) (f:=zE) (fun a l b j=>by unfold iV tH;rw[(c a l).1.1,(c b j).1.1]),qW,k];rfl
theorem YO(x:cy)(m:aD)(xe:eC)(e:Wl.cm)(S:gn h x m)(V:dM m)(hs:0<=m.seq/\m.seq<=2^40)(hn:0<=m.next/\m.next<=2^40)(Y:m.aL.length<=11)(R:xe.1=e.name/\xe.2.1=e.object/\xe.2.2.1=e.length)(H:aa B h0 h (nL xe.2.2.2 1 aC e.tries::As)):
  ab xv 151 #[gm x,Rk xe] h fun v h'=>∃y:cy,v=gm y/\aa B h0 h' (fS y (df m e)::As):=by
 refine LX x xe ?_;unfold FN;refine(Sp.refl h).boxed fun M Z P=>P.boxed fun g h2 X=>X.alloc ac rfl fun a3 h3 l=>?_;have l:Sp h h3 [ar M 136 (bh x),ar g 170 (cl xe),ar a3 136 (bh Cg)]:=l;refine⟨x,(l.box 0 rfl).aF _ rfl,(Ca x m h3 (S.up l.ag) V).mono ?_⟩;rintro _ h4 ⟨y,L,pool,rfl,r,D,A,Q⟩;have N:=((l.cj [1,2]).comp Q).front;refine⟨y,rfl,N.alloc ac rfl fun i h5 u=>?_⟩;have u:=u.bH;refine u.storeAll ac 0 rfl rfl (bh y) rfl rfl rfl rfl fun O q=>?_;have q:Sp h O [ar i 136 (bh y),fH 1 aC pool,an 3 y.2.2.2.2.2.2.1 1 aC m.drives,an 170 y.2.2.2.2.2.2.2 4 cl (L.map qK),ar g 170 (cl xe),ar a3 136 (bh Cg)]:=q;refine⟨y.1,(q.box 0 rfl).cell0 rfl,?_⟩;have T:qc xq (y.1+1)=m.seq+1:=by rw[r.1,aj _]
 have J:qc xq (y.2.1+1)=m.next+1:=by rw[r.2.1,aj _]
 rw[T];refine q.ja ac 0 rfl rfl [xk xq (m.seq+1)] rfl rfl rfl (by simp[Value.cells]) fun W n=>?_;have n:Sp h W [ar i 136 (xk xq (m.seq+1)::(bh y).drop 1),fH 1 aC pool,an 3 y.2.2.2.2.2.2.1 1 aC m.drives,an 170 y.2.2.2.2.2.2.2 4 cl (L.map qK),ar g 170 (cl xe),ar a3 136 (bh Cg)]:=n;refine⟨y.2.1,(n.box 0 rfl).cell rfl,?_⟩;rw[J];refine n.store ac 0 rfl rfl 1 [xk xq (m.next+1)] rfl rfl rfl (by simp[Value.cells]) fun h8 k=>?_;have k:Sp h h8 [ar i 136 (xk xq (m.seq+1)::xk xq (m.next+1)::(bh y).drop 2),fH 1 aC pool,an 3 y.2.2.2.2.2.2.1 1 aC m.drives,an 170 y.2.2.2.2.2.2.2 4 cl (L.map qK),ar g 170 (cl xe),ar a3 136 (bh Cg)]:=k;have U:L.length=m.aL.length:=by rw[<-D,qD]
 refine⟨y.2.2.2.2.2.2.2,(k.box 0 rfl).cell rfl,xe,(k.box 4 rfl).aF _ rfl,?_⟩;refine k.push ac 3 rfl aaS rfl (by decide) (fun _=>rfl) Uw xe rfl (by decide) (by simp;omega) fun o F t=>?_;refine t.store ac 0 rfl rfl 7 [o] rfl rfl rfl (by simp[Value.cells]) fun z c=>?_;obtain⟨a,b⟩:∃a:cy,a=(m.seq+1,m.next+1,y.2.2.1,y.2.2.2.1,y.2.2.2.2.1,y.2.2.2.2.2.1,y.2.2.2.2.2.2.1,o):=⟨_,rfl⟩
 have G:a.2.2.2.2.2.2.1=y.2.2.2.2.2.2.1:=by rw[b]
 have I:a.2.2.2.2.2.2.2=o:=by rw[b]
 have c:Sp h z [ar i 136 (bh a),fH 1 aC pool,an 3 a.2.2.2.2.2.2.1 1 aC m.drives,an 170 a.2.2.2.2.2.2.2 4 cl (L.map qK++[xe]),ar g 170 (cl xe),ar a3 136 (bh Cg)]:=by rw[G,I,b];exact c
 refine⟨a.2.2.2.2.2.2.2,(c.box 0 rfl).cell rfl,?_⟩;have c:=c.bo 6 [3,0,1,2,4,5];refine(Wq (L.map qK++[xe]) (by simp;omega) c).mono ?_;rintro _ w ⟨rfl,d⟩;have d:Sp h w [sY a.2.2.2.2.2.2.2 ((L.map qK++[xe]).mergeSort iV),ar i 136 (bh a),fH 1 aC pool,an 3 a.2.2.2.2.2.2.1 1 aC m.drives,ar g 170 (cl xe),ar a3 136 (bh Cg)]:=d;refine⟨(),rfl,a,(d.box 1 rfl).aF _ rfl,?_⟩;refine d.storeAll ac 5 rfl rfl (bh a) rfl rfl rfl rfl fun j f=>?_;have f:Sp h j [sY a.2.2.2.2.2.2.2 ((L.map qK++[xe]).mergeSort iV),ar i 136 (bh a),fH 1 aC pool,an 3 a.2.2.2.2.2.2.1 1 aC m.drives,ar g 170 (cl xe),ar a3 136 (bh a)]:=f;refine⟨a,(f.box 5 rfl).aF _ rfl,a,rfl,?_⟩;obtain⟨L',l1,l2,K⟩:=TA (pool:=(xe.2.2.2,e.tries)::pool) (m:=m) (e:=e) (xe:=xe) D (fun p E=>⟨(A p E).1,qY _ (A p E).2⟩) ⟨R,q0⟩;have s:=((H.comp (f.cj [2,3,0])).front).bo 4 [0,3,1,2];have s:aa B h0 j (fH 1 aC ((xe.2.2.2,e.tries)::pool)::an 3 a.2.2.2.2.2.2.1 1 aC m.drives::an 170 a.2.2.2.2.2.2.2 4 cl ((L.map qK++[xe]).mergeSort iV)::As):=aa.Uy s;rw[<-l1]at s;refine aa.QS (m:=df m e) ⟨by rw[b];rfl,by rw[b];rfl,by rw[b];exact r.2.2.1,by rw[b];exact r.2.2.2⟩ l2 K s
end
section
variable {B:aA} {h0 h:Heap} {As:List HP} {a pw:Addr} {offs:Int} {da:List aP} {w:Pow} {ds:aX}
theorem aa.YP{x y:cy}(H:aa B h0 h (bx bS a pw (bh x) offs da w ds::As)){K:Unit->Heap->Prop}(b:∀h',aa B h0 h' (bx bS a pw (bh y) offs da w ds::As)->K () h'):
  ae xv (qf 136 (xm (some a)) (gm y)) h K:=by
 obtain⟨ok,d⟩:=Go.Vc.aa.wt H;refine d.ja ac 0 rfl rfl (bh y) rfl rfl rfl (by simp) fun h' c=>b h' ?_;exact aa.Az (k:=bS) ⟨rfl,ok.la,ok.ls,ok.same⟩ c
theorem Wr(x z:cy)(b:aD)(s:Sl)(l:aB)(m:St B h0 As fun h=>gn h z b/\Rd h s 1 aC l)(n:dM b)(t:l.length<=2^10)(i:∀k∈l,0<=k/\k<64)(H:aa B h0 h (bx bS a pw (bh x) offs da w ds::As)):
  ab xv 155 #[xm (some a),gm z,s] h fun v h'=>v=xk xq (layAll (bE b l) w ds).1/\
   ((layAll (bE b l) w ds).1≠0->aa B h0 h' (bx bS a pw (bh x) offs da (layAll (bE b l) w ds).2.1 (layAll (bE b l) w ds).2.2::As))/\
   ((layAll (bE b l) w ds).1=0->∃y,aa B h0 h' (bx bS a pw (bh y) offs da (layAll (bE b l) w ds).2.1 (layAll (bE b l) w ds).2.2::fS y b::As)):=by
 refine De (some a) z s ?_;unfold sg;refine H.boxed fun A I d=>?_;have d:=d.bH;refine⟨z,(d.box 0 rfl).aF _ rfl,(Ie z b s l I (m.at [_,_] d).1 n (m.at [_,_] d).2 t).mono ?_⟩;rintro _ L ⟨r,u,rfl,F⟩;have K:=(d.cX F).bo 3 [2,0,1];have f:=kG b n;have p:=zJ t f;refine⟨r,rfl,(Gh r u (bE b l) (St.kK 0 rfl fun _ j=>j) (by rw[Bf];omega) (fun q j=>?_) K).mono ?_⟩
 ·obtain⟨o,g⟩:=jT j;rw[g];exact⟨i _ o,by decide⟩
 rintro _ h3 ⟨rfl,c⟩;obtain⟨R,E⟩:∃R,R=layAll (bE b l) w ds:=⟨_,rfl⟩
 rw[<-E]at c⊢;refine⟨_,rfl,bV (fun e=>⟨rfl,fun _=>c.bo 3 [0],fun h=>absurd h e⟩) fun e=>?_⟩;have c:aa B h0 h3 (bx bS a pw (bh x) offs da R.2.1 R.2.2::cS kv 2 piv r u (bE b l)::ar A 136 (bh z)::As):=c;refine⟨z,(c.box 2 rfl).aF _ rfl,(VV z b h3 (m.at [_,_,_] c).1 n).mono ?_⟩;rintro _ N ⟨y,rfl,G⟩;have D:=(c.cX G).bo 4 [1,0];refine⟨y,rfl,a,rfl,aa.YP D fun M J=>?_⟩;exact⟨by rw[e],fun h=>absurd e h,fun _=>⟨y,J⟩⟩
def dX(name:ByteArray)(e:Wl.cm):Bool:=e.name.toList==name.toList
theorem find_spec(x:cy)(m:aD)(name:ByteArray)(r:gn h x m)(t:dM m)(H:aa B h0 h (bx bS a pw (bh x) offs da w ds::As)):
  ab xv 157 #[xm (some a),xn name] h fun v h'=>(∃i:Int,v=xk xq i/\Wc (dX name) m.aL i)/\Sp h h' []:=by
 refine Df (some a) name ?_;unfold sh;refine(Sp.refl h).boxed fun d n b=>?_;have k:bZ n d 9 [xn name]:=b.box 0 rfl;obtain⟨ok,j⟩:=aa.dj H;have f:=j.ag b.ag j.lt;have c:=t.ob;refine⟨a,rfl,x.2.2.2.2.2.2.2,f.cell rfl,?_⟩;refine(If 233 #[] #[xm (some d)] (dX name) x.2.2.2.2.2.2.2 m.aL n (by rfl) (r.up b.ag).aL c ?_).mono ?_
 ·intro u E o e s z;refine AY u d ?_;unfold pv;refine(Sp.refl o).boxed fun y h3 g=>?_;have l:=(k.ag e.ag k.lt)
  have p:=l.ag g.ag l.lt;refine⟨u.1,(g.box 0 rfl).cell0 rfl,name,p.cell0 rfl,?_,.zip g.ag⟩;unfold dX;rw[s.1.1]
 ·rintro _ o ⟨⟨i,rfl,q⟩,e⟩;exact⟨i,rfl,⟨i,rfl,q⟩,.zip (aa.up b e.ag).ag⟩
theorem NL{b:aV}(H:aa B h0 h (bx bS a pw b offs da w ds::As)):ab xv 156 #[xm (some a)] h fun v h'=>v=xo (fO w offs)/\h'=h:=by
 refine Ex (some a) ?_;unfold tk;refine bF (fun e=>by cases e) fun _=>(Mn H).mono ?_;rintro _ _ ⟨rfl,rfl⟩;exact⟨_,rfl,rfl,rfl⟩
def cQ(m:aD)(down:Bool)(ds:aX)(name:ByteArray)(n:Nat):Int:=
 if down then 14 else if !lH name then 3 else if m.aL.any (dX name)then 4
 else if m.p.1*m.p.2.2*8<(n:Int)∨12<=m.aL.length then 6
 else if bg ds m.drives=[]∨16777215<m.next∨2147483647<=m.seq then 7 else 0
theorem Rm(x:cy)(m:aD)(name:ByteArray)(s:Sl)(n:Nat)(hn:s.len=n)(z:name.size<=2^40)(Q:gn h x m)(J:dM m)(U:bA m.p=true)(H:aa B h0 h (bx bS a pw (bh x) offs da w ds::As)):
  ab xv 147 #[xm (some a),xn name,s] h fun v h'=>v=xk xq (cQ m (fO w offs) ds name n)/\Sp h h' []:=by
 refine xV (some a) name s ?_;unfold oz;have S:=(bC m.p).1 U;refine(NL H).mono ?_;rintro _ E ⟨rfl,rfl⟩;refine⟨_,rfl,bF (fun e=>⟨by unfold cQ;rw[e];rfl,Sp.refl _⟩) fun o=>?_⟩;refine(NE name E z).mono ?_;rintro _ h2 ⟨rfl,l⟩;refine⟨_,rfl,be (fun e=>⟨by unfold cQ;rw[o,e];rfl,l⟩) fun y=>?_⟩;have K:=H.up l.ag;have k:=Q.up l.ag;refine(find_spec x m name k J K).mono ?_;rintro _ h3 ⟨⟨i,rfl,P⟩,F⟩;have G:Sp E h3 []:=.zip (aa.up l F.ag).ag;have d:=Rb P;refine⟨i,rfl,bF (fun e=>⟨by unfold cQ;rw[o,y,<-d,e];rfl,G⟩) fun O=>?_⟩;rw[O]at d;have I:=K.up F.ag;have b:=k.up F.ag;obtain⟨ok,f⟩:=aa.dj I;have N:=cg.len b.aL;have q:x.2.2.1=m.p.1:=congrArg (·.1) b.p;have D:x.2.2.2.2.1=m.p.2.2:=congrArg (·.2.2) b.p;have hk:m.p.1*m.p.2.2<=16*24:=Int.mul_le_mul (by omega) (by omega) (by omega) (by omega);have L:0<=m.p.1*m.p.2.2:=vB (by omega) (by omega);refine bO (fun(t:Bool) h'=>t=decide (m.p.1*m.p.2.2*8<(n:Int)∨12<=m.aL.length)/\h'=h3) ?_ ?_
 ·refine⟨a,rfl,x.2.2.1,f.cell rfl,a,rfl,x.2.2.2.2.1,by rw[addr_add];exact f.cell rfl,?_⟩;rw[q,D,aj (m.p.1*m.p.2.2),aj (m.p.1*m.p.2.2*8)];refine ai (fun e=>⟨(decide_eq_true (.inl (by omega))).symm,rfl⟩) fun e=>?_;refine⟨a,rfl,x.2.2.2.2.2.2.2,f.cell rfl,?_,rfl⟩;rw[decide_eq_decide];omega
 rintro t _ ⟨rfl,rfl⟩;refine ai (fun e=>⟨by unfold cQ;rw[o,y,<-d,if_pos e];rfl,G⟩) fun M=>?_;have W:cQ m (fO w offs) ds name n=if bg ds m.drives=[]∨16777215<m.next∨2147483647<=m.seq then 7 else 0:=by
  unfold cQ;rw[o,y,<-d,if_neg M];rfl
 rw[W];refine(gO x m b J I).mono ?_;rintro _ X ⟨r,rfl,A⟩;have j:=(A.own 0 rfl).len;have c:Sp E X []:=.zip (aa.up G A.ag).ag;have g:=f.ag A.ag f.lt;refine⟨r,rfl,cz (fun e=>⟨by rw[if_pos (.inl (qT (by omega)))],c⟩) fun e=>?_⟩;have u:bg ds m.drives≠[]:=fun R=>by rw[R]at j;simp at j;omega
 refine⟨a,rfl,x.2.1,g.cell rfl,ai (fun e=>⟨by rw[if_pos (.inr (.inl (by rw[<-b.next];omega)))],c⟩) fun Y=>?_⟩;have V:=b.next;have T:=b.seq;refine⟨a,rfl,x.1,g.cell0 rfl,ai (fun e=>⟨by rw[if_pos (.inr (.inr (by omega)))],c⟩) fun Z=>⟨?_,c⟩⟩;rw[if_neg];rintro(h|h|h)
 ·exact u h
 ·omega
 ·omega
end
theorem Rn:∃i a,C.T.get 23=some i/\i.cu=.slice a:=⟨_,_,rfl,rfl⟩
def oG(A B:aQ)(k:Nat):aQ:=dU (A.take k) (B.take k)++A.drop k
theorem sw{A B:aQ}(h:B.length=A.length)(k:Nat):(oG A B k).length=A.length:=by simp[oG,dU,h];omega
theorem YQ{A B:aQ}(h:B.length=A.length){k:Nat}(a:k<A.length):(oG A B k)[k]?=some A[k]:=by
 have:(dU (A.take k) (B.take k)).length=k:=by simp[dU];omega
 rw[oG,qj (by omega),this,zd,wq,yf,qd a]
theorem YR{A B:aQ}(h:B.length=A.length){k:Nat}(a:k<A.length):(oG A B k).set k (A[k]++B[k]'(by omega))=oG A B (k+1):=by
 have b:(dU (A.take k) (B.take k)).length=k:=by simp[dU];omega
 rw[oG,q7 _ _ (by omega),b,zd,qS a,zu,oG,aH _ _ a,aH _ _ (show k<B.length by omega),dU,dU,yT (by simp;omega),qo];rfl
theorem YS{A B:aQ}(h:B.length=A.length):oG A B A.length=dU A B:=by
 rw[oG,qX,<-h,qX,h,List.drop_length,qU]
theorem Ws(f:Addr)(a b:Sl)(A B:aQ)(n w:Nat)(h:Heap)(hf:gp h f)(K:fo h a 1 az A)(P:fo h b 1 az B)(hl:A.length=n)(a0:B.length=n)(g:aY n A)(L:aY w B)(a6:1<=n)(hn:n+w<=64)(hr:bT A=n):
  ab xv 19 #[xm (some f),a,b] h fun v h'=>∃r:Sl,v=.tuple #[r,xk xq 0]/\Sp h h' [dJ 23 r 1 az (fC n A B)]:=by
 have d:B.length=A.length:=by omega
 have ad:=K.len;have y:=P.len;refine DQ (some f) a b ?_;unfold AQ;refine aT ?_;refine(mi a A n h K g).mono ?_;rintro v h1 ⟨rfl,rfl⟩;refine⟨_,rfl,be (fun e=>by cases e) fun _=>?_⟩;refine(mi b B w h1 P L).mono ?_;rintro v H ⟨rfl,rfl⟩;refine⟨_,rfl,be (fun e=>by cases e) fun _=>?_⟩;refine bV (fun e=>absurd (by rw[ad,y,d]) e) fun _=>?_;refine cz (fun e=>by omega) fun _=>?_;refine(rm a A H K).mono ?_;rintro v h3 ⟨rfl,rfl⟩;have Z:dn A=n:=by
  cases A with
  |nil=>simp at hl;omega
  |cons x t=>rw[dn,bj (by simp)];exact g _ (by simp)
 refine⟨_,rfl,?_⟩;rw[Z];refine(xx a A n h3 K g).mono ?_;rintro v h4 ⟨r,rs,rfl,bk,R4⟩;refine⟨r,rfl,?_⟩;have ax:=(R4.own 0 rfl).len;refine au (fun t:Nat×List Sl=>(t.1:Int)) (fun t h'=>t.1<=n/\t.2.length=n/\Sp h3 h' (jU r t.2 (oG A B t.1))) (fun t=>n-t.1) (0,rs) rfl ⟨by simp,by dsimp only;omega,by simpa[oG,dU]using R4⟩ ?_;rintro⟨k,rs⟩ h5 ⟨hk,a8,q⟩;dsimp only at*;have l:rs.length=(oG A B k).length:=by rw[sw d];omega
 refine ai (fun e=>?_) (fun e=>?_)
 ·have p:k<n:=by omega
  have E:k<A.length:=by omega
  have G:=ky (a:=r) l k (by rw[sw d];omega);have eg:(oG A B k)[k]'(by rw[sw d];omega)=A[k]:=by
   have:=YQ d E;rw[qd (by rw[sw d];omega)]at this;exact zO.inj this
  rw[eg]at G;have l1:A[k].length=n:=g _ (qh _);have l2:(B[k]'(by omega)).length=w:=L _ (qh _);refine(q.seq 0 rfl (fun _=>rfl)).jN k rfl (by omega) fun a1 O W=>?_;refine(P.up q.ag).get k rfl (by omega) fun rb U=>?_;refine q.append ac (k+1) G fi Rn rfl (by decide) (fun _=>rfl) U fT (by omega) fun I h6 H6=>⟨trivial,?_⟩
  refine H6.set ac 0 rfl (fun _=>rfl) rfl k rfl (by omega) I rfl rfl rfl fun h7 H7=>⟨trivial,?_⟩
  refine⟨(k+1,rs.set k I),by dsimp only;rw[aj _];rfl,⟨by dsimp only;omega,by dsimp only;simp;omega,?_⟩,by dsimp only;omega⟩;dsimp only;rw[<-YR d E];show Sp h3 h7 (an 23 r 1 bD (rs.set k I)::bz 5 1 az (rs.set k I) ((oG A B k).set k _));rw[<-iN l];exact H7
 ·have Y:k=A.length:=by omega
  subst Y;rw[YS d]at q;refine(sX f h5).mono ?_;rintro v h6 ⟨rfl,rfl⟩;refine⟨some f,rfl,?_⟩;have j:=lU d.symm g L;have a3:=lr d.symm;refine(Bd (m:=dU A B) (n:=n+w) hf hf.lt (by omega) j (by omega) (by omega) (by omega) q).mono ?_;rintro v h7 ⟨i,rfl,ay,o⟩;rw[IF d.symm g,hr];refine⟨_,rfl,?_⟩;dsimp only;have am:=(o.own 0 rfl).cap;have a5:=(o.own 0 rfl).len;have H:=fK j n;refine ai (fun e=>absurd (show(n:Int)<(n:Int)from e) (by omega)) fun _=>?_;refine⟨⟨wu _,yQ.2 (show n<=r.len by omega)⟩,?_⟩;refine au (fun _:Unit=>(0:Int)) (fun _ h'=>h'=h7) (fun _=>0) () rfl rfl ?_;rintro _ h8 rfl;rw[qp];refine ai (fun e=>by omega) fun _=>?_;refine⟨⟨wu _,yQ.2 (show n<=r.cap by omega)⟩,?_⟩;obtain⟨M,J⟩:∃M,M=(bu (dU A B) n).2:=⟨_,rfl⟩
  have bb:M.length=n:=by have:=H.2;rw[<-J]at this;omega
  have ah:aY (n+w) M:=by rw[J];exact H.1
  have F:∀k (hk:k<n),(fC n A B).take (k+1)=(fC n A B).take k++[(M[k]'(by omega)).drop n]:=fun k hk=>by
   have e1:fC n A B=M.map (List.drop n):=by rw[fC,<-J,qi (by omega)]
   rw[e1,aH _ _ (by simp;omega),yc]
  have a4:(fC n A B).length=n:=(uq d.symm g L hr).1;rw[<-J]at o;refine au (fun t:Sl×Nat=>(t.1,(t.2:Int))) (fun t h'=>t.2<=n/\Sp h8 h' [dJ 23 t.1 1 az ((fC n A B).take t.2)]) (fun t=>n-t.2) (⟨none,0,0⟩,0) rfl ⟨by simp,(Sp.refl h8).CB 23 1 az⟩ ?_;rintro⟨s,k⟩ h9 ⟨bd,N⟩;dsimp only at*;have Q:=o.comp N;have S:i.length=M.length:=by omega
  refine ai (fun e=>?_) (fun e=>?_)
  ·have p:k<n:=by omega
   have G:=ky (a:=r) S k (by omega);have u:(jU r i M++[dJ 23 s 1 az ((fC n A B).take k)])[k+1]?=some (an 5 (i[k]'(by omega)) 1 az (M[k]'(by omega))):=by
    rw[qm (by simp[bz];omega)];exact G
   have a2:(M[k]'(by omega)).length=n+w:=ah _ (qh _);have z:=Q.own (k+1) u;have T:=Q.seq (k+1) u (fun _=>rfl);have ap:=z.len;have D:=(Q.seq 0 rfl (fun _=>rfl)).take n (by omega);rw[qi (by omega)]at D;refine D.jN k rfl (by omega) fun a1 O W=>?_;refine⟨⟨wu _,yQ.2 (by omega)⟩,?_⟩;refine(fm _ _ h9 (T.drop n z.cap) (by simp;omega)).mono ?_;rintro v a9 ⟨c,rfl,R⟩;have V:=(N.comp R).freeze 1 rfl (fun _=>rfl);refine⟨c,rfl,?_⟩;refine V.nX ac 0 1 (by decide) rfl rfl fa (by simp;omega) fun s' a7 X=>?_;refine⟨(s',k+1),by dsimp only;rw[aj _];rfl,⟨by dsimp only;omega,?_⟩,by dsimp only;omega⟩;dsimp only;rw[F k p];exact X.del 1
  ·rw[qi (by omega)]at N;refine⟨s,rfl,?_⟩;have:=(Sp.zip o.ag).comp N;exact this
def mq(p:Pm)(seed:Int)(l:Nat):Int:=if bA p&&decide ((l:Int)=p.1*p.2.2)then(if dQ p seed (dH p)then 0 else 8)else 1
abbrev Dr(p:Pm)(seed:Int)(m:Sl):aV:=[xk xq p.1,xk xq p.2.1,xk xq p.2.2,xk xt seed,m]
theorem Ro(p:Pm)(seed:Int)(data:Sl)(d:Row)(h:Heap)(hd:Rd h data 1 az d)(hc:data.len<=data.cap):
  ab xv 7 #[ir p,xk xt seed,data] h fun v h'=>
   (mq p seed d.length=0->∃(b:Addr) (m:Sl),v=.tuple #[xm (some b),xk xq 0]/\Sp h h' [dJ 23 m 1 az (dE p seed d),ar b 57 (Dr p seed m)])/\
   (mq p seed d.length≠0->v=.tuple #[xm none,xk xq (mq p seed d.length)]/\Sp h h' []):=by
 have am:=hd.len;refine LM p seed data ?_;unfold Fy;refine(Sp.refl h).boxed fun a h1 H1=>?_;refine aT ?_;refine⟨p,(H1.box 0 rfl).aF _ rfl,(dz p h1).mono ?_⟩;rintro v h2 ⟨rfl,R2⟩;have M:=H1.comp R2;have W:∀{h3:Heap} (x:Int),x≠0->mq p seed d.length=x->Sp h h3 [ar a 25 [xk xq p.1,xk xq p.2.1,xk xq p.2.2]]->
   (mq p seed d.length=0->∃(b:Addr) (m:Sl),Value.tuple #[xm none,xk xq x]=.tuple #[xm (some b),xk xq 0]/\Sp h h3 [dJ 23 m 1 az (dE p seed d),ar b 57 (Dr p seed m)])/\
   (mq p seed d.length≠0->Value.tuple #[xm none,xk xq x]=.tuple #[xm none,xk xq (mq p seed d.length)]/\Sp h h3 []):=fun x hx P H=>by
  refine⟨fun e=>absurd (P.symm.trans e) hx,fun _=>⟨by rw[P],.zip H.ag⟩⟩
 refine⟨_,rfl,be (fun e=>W 1 (by decide) (by rw[mq,e];rfl) M) fun S=>?_⟩;have a1:=(bC p).1 S;obtain⟨K,hK⟩:∃K:Nat,p.1=K:=⟨p.1.toNat,by omega⟩
 obtain⟨u,hH⟩:∃H:Nat,p.2.1=H:=⟨p.2.1.toNat,by omega⟩
 obtain⟨w,N⟩:∃w:Nat,p.2.2=w:=⟨p.2.2.toNat,by omega⟩
 have a0:K*w<=16*24:=zJ (by omega) (by omega);have L:p.1*p.2.2=((K*w:Nat):Int):=by rw[hK,N,zW]
 refine⟨p.1,(M.box 0 rfl).cell0 rfl,p.2.2,(M.box 0 rfl).cell rfl,?_⟩;rw[L,aj _];refine bV (fun e=>W 1 (by decide) (by rw[mq,S,decide_eq_false (by rw[L];intro e2;exact e (by rw[am];exact e2))];rfl) M) fun el=>?_;have G:d.length=K*w:=by omega
 refine⟨p,(M.box 0 rfl).aF _ rfl,(Dp p seed h2).mono ?_⟩;rintro v h3 ⟨rfl,R3⟩;have Y:=M.comp R3;have y:mq p seed d.length=if dQ p seed (dH p)then 0 else 8:=by rw[mq,S,decide_eq_true (by rw[L,G])];rfl
 refine⟨_,rfl,be (fun e=>W 8 (by decide) (by rw[y,e];rfl) Y) fun hf=>?_⟩;rw[hf,if_pos rfl]at y;have B:bM p seed d K u w (K+u):=⟨S,hf,hK,hH,N,rfl,by omega,by omega,by omega,by omega,by omega,by omega,G⟩
 refine⟨p.2.1,(Y.box 0 rfl).cell rfl,?_⟩;refine au (fun t:Sl×List Sl=>(t.1,(t.2.length:Int))) (fun t h'=>t.2.length<=u/\Sp h h' (ar a 25 [xk xq p.1,xk xq p.2.1,xk xq p.2.2]::jU t.1 t.2 (qg t.2.length (aM w)))) (fun t=>u-t.2.length) (⟨none,0,0⟩,[]) rfl ⟨by simp,Y.nil 23 1 bD⟩ ?_;rintro⟨s,rs⟩ h4 ⟨hk,O⟩;dsimp only at*;refine ai (fun e=>?_) (fun e=>?_)
 ·refine⟨p.2.2,(O.box 0 rfl).cell rfl,?_⟩;refine O.make ac az fi (by decide) 0 rfl rfl w w N N (ql _) (by omega) fun z U ap ay D=>?_;refine D.push ac 1 rfl fa rfl (by decide) (fun _=>rfl) kY z rfl (by decide) (by omega) fun s' X H6=>?_;refine⟨(s',rs++[z]),by dsimp only;rw[aj _];simp,⟨by simp;omega,?_⟩,by simp;omega⟩;dsimp only;have e7:jU s' (rs++[z]) (qg rs.length (aM w)++[aM w])=an 23 s' 1 bD (rs++[z])::(bz 5 1 az rs (qg rs.length (aM w))++[an 5 z 1 az (aM w)]):=congrArg _ (oN (by simp) z (aM w));rw[show(rs++[z]).length=rs.length+1 by simp,List.replicate_succ',e7];exact H6
 ·have I:rs.length=u:=by omega
  rw[I]at O;refine⟨p.1,(O.box 0 rfl).cell0 rfl,?_⟩;let own:=bz 5 1 az rs (qg u (aM w));refine au (fun t:Sl×Nat=>(t.1,(t.2:Int))) (fun t h'=>t.2<=K/\Sp h h' (ar a 25 [xk xq p.1,xk xq p.2.1,xk xq p.2.2]::an 23 t.1 1 bD (rs++(qy t.2).map (Lz data w))::own)) (fun t=>K-t.2) (s,0) rfl ⟨by simp,by simpa using O⟩ ?_;rintro⟨t,k⟩ U ⟨ax,D⟩;dsimp only at*;refine ai (fun e2=>?_) (fun e2=>?_)
  ·have ad:k<K:=by omega
   have m1:(k+1)*w<=K*w:=zp w ad;have m2:k*w<=(k+1)*w:=zp w (by omega);refine⟨p.2.2,(D.box 0 rfl).cell rfl,p.2.2,(D.box 0 rfl).cell rfl,?_⟩;rw[aj ((k:Int)+1)];have e5:(k:Int)*p.2.2=((k*w:Nat):Int):=by rw[N,zW]
   have e6:((k:Int)+1)*p.2.2=(((k+1)*w:Nat):Int):=by rw[N,zW];rfl
   rw[e5,e6,kJ _,kJ _,qp,qp];refine⟨⟨wu _,yQ.2 m2,yQ.2 (by omega)⟩,?_⟩;refine D.push ac 1 rfl fa rfl (by decide) (fun _=>rfl) kY (Lz data w k) rfl (by decide) (by simp;omega) fun t' X H6=>?_;refine⟨(t',k+1),rfl,⟨by dsimp only;omega,?_⟩,by dsimp only;omega⟩;dsimp only;rw[zt,qW,<-qo];exact H6
  ·have V:k=K:=by omega
   subst V;refine aT ?_;have E:fo U t 1 az (jf k u w d):=by
    refine⟨rs++(qy k).map (Lz data w),D.seq 1 rfl (fun _=>rfl),by rw[Fk];simp;omega,fun i r l o n=>?_⟩;by_cases F:i<u
    ·rw[qm (by omega),qd (by omega)]at o;rw[jf,qm (by simpa using F)]at n;have hz:l=aM w:=by simp[F]at n;exact n.symm
     have hr:rs[i]'(by omega)=r:=zO.inj o;have g:(ar a 25 [xk xq p.1,xk xq p.2.1,xk xq p.2.2]::an 23 t 1 bD (rs++(qy k).map (Lz data w))::own)[i+2]?=some (an 5 (rs[i]'(by omega)) 1 az ((qg u (aM w))[i]'(by simpa using F))):=gU (by simpa using I) i (by simpa using F);have:=D.seq (i+2) g (fun _=>rfl);rw[List.getElem_replicate,hr]at this;rw[hz];exact this
    ·obtain⟨j,rfl⟩:∃j,i=u+j:=⟨i-u,by omega⟩
     rw[qj (by omega),I,zn]at o;rw[jf,qj (by simp),List.length_replicate,zn]at n;have hj:j<k:=by
      have:=(qn.1 o).1;simpa using this
     simp[hj]at o n;have m1:(j+1)*w<=k*w:=zp w hj;rw[<-o,<-n];exact(Seq.up hd D.ag).piece hc w j (by omega)
   have c:=D.box 0 rfl;refine⟨p,c.aF _ rfl,p,c.aF _ rfl,(uh U).mono ?_⟩;rintro v X ⟨f,rfl,R6⟩;have q:=c.ag R6.ag c.lt;refine⟨some f,rfl,⟨q.cell0 rfl,q.cell rfl,q.cell rfl,q.cell0 rfl,q.cell rfl,q.cell rfl,trivial⟩,(KK p X).mono ?_⟩;rintro v h7 ⟨r7,rfl,R7⟩;have Z:=R6.comp R7;have J:=c.ag Z.ag c.lt;refine⟨r7,rfl,⟨J.cell0 rfl,J.cell rfl,J.cell rfl,trivial⟩,?_⟩;refine(Ig p seed r7 (dH p) h7 (Z.seq 1 rfl (fun _=>rfl)) (by rw[dH,fB];omega)).mono ?_;rintro v h8 ⟨r8,rfl,R8⟩;have R:=Z.comp R8;refine⟨r8,rfl,trivial,?_⟩;refine(Ws f r8 t _ _ (k+u) w h8 (R.box 0 rfl) (R.DJ 2 rfl) (E.up R.ag) B.Fj (by rw[Fk]) B.Hj (tI B.len) (by omega) (by omega) B.LH).mono ?_;rintro v h9 ⟨r9,rfl,R9⟩;have Q9:=R.comp R9;refine⟨(r9,0),rfl,trivial,?_⟩;refine bV (fun e=>absurd rfl e) fun _=>?_;have ah:=c.ag Q9.ag c.lt;refine⟨p,ah.aF _ rfl,?_⟩;refine Q9.boxed (t:=57) fun b a2 T=>?_;refine⟨fun _=>⟨b,r9,rfl,?_⟩,fun e=>absurd y e⟩;have Q:=(Sp.zip D.ag).comp T;rw[<-B.DL]at Q;exact Q.take 3 (fun i A F=>by
    cases i with
    |zero=>exact F
    |succ i=>cases i with
     |zero=>exact F
     |succ i=>simp at F)
def Mq(h:Heap)(b:Addr)(p:Pm)(seed:Int)(M:aQ):Prop:=∃m:Sl,bZ h b 57 (Dr p seed m)/\fo h m 1 az M
theorem Mq.up{h h':Heap}{b:Addr}{p:Pm}{seed:Int}{M:aQ}(d:Mq h b p seed M)(a:aR (fun b=>b<h.size) h h'):Mq h' b p seed M:=by
 obtain⟨m,c,e⟩:=d;exact⟨m,c.ag a c.lt,e.up a⟩
theorem TB{a t:Row}(b:a.length=t.length){k:Nat}(d:k<t.length):(zm (fun x y=>y^^^Gf.mul 1 x) (a.take k) (t.take k)++t.drop k).set k (t[k]^^^(a[k]'(by omega)))=zm (fun x y=>y^^^Gf.mul 1 x) (a.take (k+1)) (t.take (k+1))++t.drop (k+1):=by
 have:=xy (c:=1) b d;rw[Gf.one_mul]at this;exact this
theorem aeV{a t:Row}(d:a.length=t.length){k:Nat}(c:k<t.length):(zm (fun x y=>y^^^Gf.mul 1 x) (a.take k) (t.take k)++t.drop k)[k]?=some t[k]:=by
 have b:(zm (fun x y=>y^^^Gf.mul 1 x) (a.take k) (t.take k)).length=k:=by simp;omega
 rw[qj (by omega),b,zd,wq,yf,qd c]
theorem TC(b:Addr)(p:Pm)(seed id:Int)(M:aQ)(n w:Nat)(h:Heap)(Z:Mq h b p seed M)(H:bA p=true)(T:p.2.2=w)(hn:(bn p).toNat=n)(U:aY w M)(hl:M.length=n):
  ab xv 14 #[xm (some b),xk xq id] h fun v h'=>∃r:Sl,v=r/\Sp h h' [an 5 r 1 az (if bp id then ff w M (cA n seed id)else[])]:=by
 obtain⟨m,f,W⟩:=Z;have ad:=W.len;have a2:=(bC p).1 H;have hc:bn p=p.1+p.2.1:=by rw[bn,if_pos H]
 refine xN (some b) id ?_;unfold om;have P:bp id=false->∃r:Sl,Value.slice none 0 0=xl r.ptr r.len r.cap/\Sp h h [an 5 r 1 az (if bp id then ff w M (cA n seed id)else[])]:=fun e=>by
  rw[e];exact⟨⟨none,0,0⟩,rfl,(Sp.refl h).nil 5 1 az⟩
 refine aT (bF (fun e=>by cases e) fun _=>ai (fun e=>P (by simp[bp];omega)) fun e1=>ai (fun e=>P (by simp[bp];omega)) fun X=>?_);have hid:bp id=true:=by simp[bp];omega
 refine⟨b,rfl,p.2.2,f.cell rfl,?_⟩;refine(Sp.refl h).make ac az fi (by decide) 0 rfl rfl w w T T (ql _) (by omega) fun o h1 a3 ax O=>?_;have D:=f.ag O.ag f.lt;refine⟨b,rfl,p,D.aF _ rfl,b,rfl,seed,D.cell rfl,(AB p seed id h1).mono ?_⟩;rintro v h2 ⟨c,rfl,Y⟩;rw[H,hid,vQ,if_pos rfl,hn]at Y;rw[hid,if_pos rfl];have I:=O.comp Y;obtain⟨d,l⟩:∃d,d=cA n seed id:=⟨_,rfl⟩
 have z:∀x∈d,0<=x/\x<(n:Int):=fun x V=>kB (by omega) (by omega) (by rw[<-l];exact V);have Q:d.length<=n:=by rw[l];exact rN (by omega) (by omega) _ _
 rw[<-l]at I⊢;have a0:=(I.seq 1 rfl (fun _=>rfl)).len;refine⟨c,rfl,trivial,?_⟩;refine au (fun i:Nat=>(i:Int)) (fun i h'=>i<=d.length/\Sp h h' [an 5 o 1 az (ff w M (d.take i)),an 3 c 1 aC d]) (fun i=>d.length-i) 0 rfl ⟨by omega,I⟩ ?_;rintro i h3 ⟨E,j⟩;refine ai (fun e=>?_) (fun e=>?_)
 ·have q:i<d.length:=by omega
  have V:=z _ (qh q);refine(j.seq 1 rfl (fun _=>rfl)).bt i rfl q _ rfl ?_;have L:=f.ag j.ag f.lt;refine⟨b,rfl,m,L.cell rfl,?_⟩;obtain⟨a4,N⟩:=W;refine(N.ag j.ag).get d[i].toNat (by omega) (by omega) fun r R J=>?_;have B:=N.row _ r _ J (qd (show d[i].toNat<M.length by omega));obtain⟨row,g⟩:∃row,row=M[d[i].toNat]'(by omega):=⟨_,rfl⟩
  have a1:row.length=w:=by rw[g];exact U _ (qh _)
  rw[<-g]at R B;obtain⟨S,G⟩:∃S,S=ff w M (d.take i):=⟨_,rfl⟩
  have ap:S.length=w:=by rw[G];exact pd U hl z i E
  have am:=R.len;have X:ff w M (d.take (i+1))=ck 1 row S:=by rw[aH _ _ q,CP,G,g,bj (by omega)]
  rw[<-G]at j;refine au (fun k:Nat=>(k:Int)) (fun k h'=>k<=w/\Sp h h' [an 5 o 1 az (zm (fun x y=>y^^^Gf.mul 1 x) (row.take k) (S.take k)++S.drop k),an 3 c 1 aC d]) (fun k=>w-k) 0 rfl ⟨by omega,by simpa using j⟩ ?_;rintro k h4 ⟨hk,s⟩;have K:=B.ag s.ag;have ah:(zm (fun x y=>y^^^Gf.mul 1 x) (row.take k) (S.take k)++S.drop k).length=w:=by simp;omega
  refine ai (fun e3=>?_) (fun e3=>?_)
  ·have ay:k<w:=by omega
   have u:(zm (fun x y=>y^^^Gf.mul 1 x) (row.take k) (S.take k)++S.drop k)[k]'(by omega)=S[k]'(by omega):=by
    have:=aeV (a:=row) (t:=S) (by omega) (show k<S.length by omega);rw[qd (by omega)]at this;exact zO.inj this
   refine K.bt k rfl (by omega) _ rfl ?_;refine(s.seq 0 rfl (fun _=>rfl)).bt k rfl (by omega) _ rfl ?_;rw[u,ny];refine s.set ac 0 rfl (fun _=>rfl) rfl k rfl (by omega) _ rfl rfl rfl fun h5 H5=>?_;refine⟨k+1,by rw[aj _];rfl,⟨by omega,?_⟩,by omega⟩;rw[<-TB (by omega) (show k<S.length by omega)];exact H5
  ·have F:k=w:=by omega
   subst F;rw[qi (by omega),qi (by omega),zh (by omega),qU]at s;refine⟨i+1,by rw[aj _];rfl,⟨by omega,?_⟩,by omega⟩;rw[X];exact s
 ·rw[qi (by omega)]at j;exact⟨o,rfl,j.take 0 (fun i A E=>by cases i with|zero=>exact E|succ i=>simp at E)⟩
def Pa(l:Row)(n:Nat):Row:=l.take n++(qg n 0).drop l.length
theorem YT(l:Row)(n:Nat):(Pa l n).length=n:=by simp[Pa];omega
theorem _root_.Wl.bM.mq{p:Pm}{seed:Int}{d:Row}{K H w n:Nat}(B:bM p seed d K H w n):mq p seed d.length=0:=by
 rw[Go.Qw.mq,B.may,B.full,B.len,B.k,B.s,decide_eq_true (by rw[zW])];rfl
theorem _root_.Wl.bM.congr{p:Pm}{seed:Int}{d a:Row}{K H w n:Nat}(B:bM p seed d K H w n)(h:a.length=K*w):bM p seed a K H w n:=
 ⟨B.may,B.full,B.k,B.h,B.s,B.n,B.k1,B.k2,B.h1,B.h2,B.w1,B.w2,h⟩
theorem aeW{p:Pm}{seed:Int}{d:Row}{K H w n:Nat}(B:bM p seed d K H w n)(data:Sl)(h:Heap)(e:Rd h data 1 az d)(c:data.len<=data.cap):
  ab xv 7 #[ir p,xk xt seed,data] h fun v h'=>
   ∃(b:Addr) (m:Sl),v=.tuple #[xm (some b),xk xq 0]/\Sp h h' [dJ 23 m 1 az (dE p seed d),ar b 57 (Dr p seed m)]:=
 (Ro p seed data d h e c).mono fun _ _ a=>a.1 B.mq
theorem _root_.Wl.bM.symbol{p:Pm}{seed:Int}{d:Row}{K H w n:Nat}(B:bM p seed d K H w n)(b:Addr)(id:Int)(h:Heap)(a:Mq h b p seed (dE p seed d)):
  ab xv 14 #[xm (some b),xk xq id] h fun v h'=>∃r:Sl,v=r/\Sp h h' [an 5 r 1 az (if bp id then ff w (dE p seed d) (cA n seed id)else[])]:=
 TC b p seed id _ n w h a B.may B.s B.nD B.rT.2 B.rT.1
def Ch(s:DM):aV:=[.complex .f64 s.ax s.ay,.complex .f64 s.sx s.sy,xk xq s.left,xk xq s.leg,xo s.second]
theorem oH{o:Option Nat}(h:o.isSome=true):o=some (o.getD 0):=by
 cases o with
 |none=>cases h
 |some x=>rfl
theorem Wt(h:Heap):ab xv 318 #[] h fun v h'=>∃a:Addr,v=xm (some a)/\Sp h h' [ar a 377 (Ch fs0)]:=by
 refine KC ?_;unfold Em;refine(Sp.refl h).boxed (t:=377) fun a c b=>?_;exact⟨a,rfl,b⟩
theorem YU(a b:Nat)(h:Heap)(j:(gf.mul a 0).isSome=true)(f:(gf.mul b pe).isSome=true)(h3:(gf.sub (sN a 0) (sN b pe)).isSome=true)(d:(gf.mul a pe).isSome=true)(i:(gf.mul b 0).isSome=true)(c:(gf.add (sN a pe) (sN b 0)).isSome=true):
  ab xv 345 #[.complex .f64 a b,xk xq 1] h fun v h'=>v=.complex .f64 (tx a b) (ty a b)/\h'=h:=by
 refine Mi (a,b) 1 ?_;unfold FZ;refine⟨by decide,by decide,?_⟩;refine au (fun k:Nat=>(if k=0 then(a,b)else(tx a b,ty a b),(k:Int))) (fun k h'=>k<=1/\h'=h) (fun k=>1-k) 0 rfl ⟨by omega,rfl⟩ ?_;rintro k h' ⟨l,rfl⟩;have g:zZ (qc xq (zZ 1 4+4)) 4=1:=by decide
 dsimp only;rw[g];refine ai (fun e=>?_) (fun e=>?_)
 ·have:k=0:=by omega
  subst this;refine⟨(tx a b,ty a b),adl (oH j) (oH f) (oH h3) (oH d) (oH i) (oH c),?_⟩;exact⟨1,rfl,⟨by omega,rfl⟩,by omega⟩
 ·have:k=1:=by omega
  subst this;exact⟨rfl,rfl⟩
theorem abi(a:Addr)(s:DM)(h:Heap)(d:bZ h a 377 (Ch s))(c:s.ok=true):ab xv 319 #[xm (some a)] h fun v h'=>v=.tuple #[]/\bZ h' a 377 (Ch s.on)/\aR (fun b=>b≠a.block) h h':=by
 simp only[DM.ok,qA,decide_eq_true_eq]at c;obtain⟨⟨⟨⟨⟨⟨⟨⟨⟨⟨⟨z,J⟩,y⟩,t⟩,u⟩,E⟩,F⟩,G⟩,L⟩,K⟩,A⟩,I⟩:=c;refine EC (some a) ?_;unfold tv;have w:aa (fun b=>b<h.size/\¬b=a.block) h h [ar a 377 (Ch s)]:=.PB (fun b=>b=a.block) (fun b n=>by rw[n];exact d.lt) ⟨d,rfl⟩;have fin:∀{h':Heap},aa (fun b=>b<h.size/\¬b=a.block) h h' [ar a 377 (Ch s.on)]->Value.tuple #[]=.tuple #[]/\bZ h' a 377 (Ch s.on)/\aR (fun b=>b≠a.block) h h':=fun H=>
  ⟨rfl,H.box 0 rfl,H.ag.1,fun k r i=>H.ag.2 k r ⟨r,i⟩⟩
 refine⟨a,rfl,(s.ax,s.ay),d.cell0 rfl,a,rfl,(s.sx,s.sy),d.cell rfl,(nQ s.ax s.sx,nQ s.ay s.sy),adj (oH z) (oH J),a,rfl,?_⟩;refine w.ja ac 0 rfl rfl [.complex .f64 (nQ s.ax s.sx) (nQ s.ay s.sy)] rfl rfl rfl (by simp[Ch]) fun N q=>⟨trivial,?_⟩
 refine⟨a,rfl,s.left,(q.box 0 rfl).cell (j:=2) rfl,a,rfl,?_⟩;rw[aj (s.left-1)];refine q.storeAt ac 0 rfl rfl (off:=2) rfl rfl rfl (by simp[Ch]) fun D g=>?_;refine⟨a,rfl,s.left-1,(g.box 0 rfl).cell (j:=2) rfl,?_⟩;refine ai (fun e=>?_) (fun e=>?_)
 ·have l:Ch s.on=[.complex .f64 (nQ s.ax s.sx) (nQ s.ay s.sy),.complex .f64 s.sx s.sy,xk xq (s.left-1),xk xq s.leg,xo s.second]:=by rw[DM.on,if_pos e];rfl
  refine fin ?_;rw[l];exact g
 ·refine⟨a,rfl,(s.sx,s.sy),(g.box 0 rfl).cell (j:=1) rfl,(YU s.sx s.sy D y t u E F G).mono ?_⟩;rintro v h3 ⟨rfl,rfl⟩;refine⟨(tx s.sx s.sy,ty s.sx s.sy),rfl,a,rfl,?_⟩;refine g.storeAt ac 0 rfl rfl (off:=1) rfl rfl rfl (by simp[Ch]) fun Q f=>?_;refine bO (fun _ h'=>aa (fun b=>b<h.size/\¬b=a.block) h h' [ar a 377 [.complex .f64 (nQ s.ax s.sx) (nQ s.ay s.sy),.complex .f64 (tx s.sx s.sy) (ty s.sx s.sy),xk xq (s.left-1),xk xq (if s.second then s.leg+1 else s.leg),xo s.second]]) ?_ ?_
  ·refine⟨a,rfl,s.second,(f.box 0 rfl).cell (j:=4) rfl,bF (fun m=>?_) (fun m=>?_)⟩
   ·refine⟨a,rfl,s.leg,(f.box 0 rfl).cell (j:=3) rfl,a,rfl,?_⟩;rw[aj (s.leg+1)];refine f.storeAt ac 0 rfl rfl (off:=3) rfl rfl rfl (by simp[Ch]) fun O B=>?_;rw[if_pos m];exact B
   ·rw[if_neg (by rw[m];decide)];exact f
  ·rintro _ M p;refine⟨a,rfl,s.second,(p.box 0 rfl).cell (j:=4) rfl,a,rfl,?_⟩;refine p.storeAt ac 0 rfl rfl (off:=4) rfl rfl rfl (by simp) fun P o=>?_;refine⟨a,rfl,_,(o.box 0 rfl).cell (j:=3) rfl,a,rfl,?_⟩;refine o.storeAt ac 0 rfl rfl (off:=2) rfl rfl rfl (by simp) fun h8 x=>?_;have l:Ch s.on=[.complex .f64 (nQ s.ax s.sx) (nQ s.ay s.sy),.complex .f64 (tx s.sx s.sy) (ty s.sx s.sy),xk xq (if s.second then s.leg+1 else s.leg),xk xq (if s.second then s.leg+1 else s.leg),xo (!s.second)]:=by rw[DM.on,if_neg e];rfl
   refine fin ?_;rw[l];exact x
theorem UA(n:Nat)(h:Heap)(j:n<64):ab xv 283 #[xk xq n] h fun v h'=>v=.complex .f64 (jY n).ax (jY n).ay/\Sp h h' []:=by
 refine QO n ?_;unfold KA;refine ai (fun e=>by omega) fun _=>ai (fun e=>by omega) fun _=>?_;refine(Wt h).mono ?_;rintro v i ⟨a,rfl,g⟩;refine⟨some a,rfl,?_⟩;refine au (fun k:Nat=>(k:Int)) (fun k h'=>k<=n/\Sp h h' [ar a 377 (Ch (jY k))]) (fun k=>n-k) 0 rfl ⟨by omega,g⟩ ?_;rintro k f ⟨l,b⟩;refine cz (fun e=>?_) (fun e=>?_)
 ·have:k=n:=by omega
  subst this;exact⟨a,rfl,((jY k).ax,(jY k).ay),(b.box 0 rfl).cell0 rfl,rfl,.zip b.ag⟩
 ·refine(abi a (jY k) f (b.box 0 rfl) (afE k (by omega))).mono ?_;rintro v h3 ⟨rfl,d,c⟩;refine⟨(),rfl,k+1,by rw[aj _];rfl,⟨by omega,b.nW 0 rfl c d⟩,by omega⟩
theorem NM{a b:Int}(e:-4<=a:=by omega)(d:a<=4:=by omega)(h3:-4<=b:=by omega)(c:b<=4:=by omega):gf.sub (cJ a) (cJ b)=some (cJ (a-b)):=by
 have:=aep (a+4).toNat (by omega) (b+4).toNat (by omega);rw[show((a+4).toNat:Int)-4=a by omega,show((b+4).toNat:Int)-4=b by omega,show((a+4).toNat:Int)-((b+4).toNat:Int)=a-b by omega]at this;exact this
theorem NN{a:Int}(c:-8<=a:=by omega)(b:a<=8:=by omega):gf.mul (cJ a) (cJ a)=some (cJ (a*a)):=by
 have:=aeq (a+8).toNat (by omega);rw[show((a+8).toNat:Int)-8=a by omega]at this;exact this
theorem Rp(a:Int):((a.natAbs:Nat):Int)*(a.natAbs:Nat)=a*a:=Int.natAbs_mul_self
theorem YV{a b:Int}(e:-8<=a)(d:a<=8)(h3:-8<=b)(c:b<=8):gf.add (cJ (a*a)) (cJ (b*b))=some (cJ (a*a+b*b)):=by
 have:=aer a.natAbs (by omega) b.natAbs (by omega);rw[Rp,Rp]at this;exact this
def Gr(i j:Nat):Int:=((fD i).x-(fD j).x)*((fD i).x-(fD j).x)+((fD i).y-(fD j).y)*((fD i).y-(fD j).y)
theorem acK{a:Int}(c:-8<=a)(b:a<=8):0<=a*a/\a*a<=64:=by
 rw[<-Rp,<-zW];have:a.natAbs*a.natAbs<=8*8:=zJ (by omega) (by omega);omega
theorem AD{n:Nat}(h:n<64):(jY n).ax=cJ (fD n).x/\(jY n).ay=cJ (fD n).y/\-4<=(fD n).x/\(fD n).x<=4/\-4<=(fD n).y/\(fD n).y<=4:=by
 have:=aeo n h;simp only[qA,decide_eq_true_eq,beq_iff_eq]at this;obtain⟨⟨⟨⟨⟨a,b⟩,c⟩,d⟩,e⟩,f⟩:=this;exact⟨a,b,c,d,e,f⟩
theorem YW{i j:Nat}(d:i<64)(c:j<64):0<=Gr i j/\Gr i j<=128:=by
 have a:=AD d;have b:=AD c;have f:=acK (a:=(fD i).x-(fD j).x) (by omega) (by omega);have e:=acK (a:=(fD i).y-(fD j).y) (by omega) (by omega);unfold Gr;omega
theorem abj(i j:Nat)(h:Heap)(f:i<64)(d:j<64):ab xv 284 #[.complex .f64 (jY i).ax (jY i).ay,.complex .f64 (jY j).ax (jY j).ay] h fun v h'=>v=.float .f64 (cJ (Gr i j))/\h'=h:=by
 have a:=AD f;have b:=AD d;refine OE ((jY i).ax,(jY i).ay) ((jY j).ax,(jY j).ay) ?_;unfold Ib;have c:gf.sub (jY i).ax (jY j).ax=some (cJ ((fD i).x-(fD j).x)):=by rw[a.1,b.1];exact NM
 have e:gf.sub (jY i).ay (jY j).ay=some (cJ ((fD i).y-(fD j).y)):=by rw[a.2.1,b.2.1];exact NM
 refine⟨(cJ ((fD i).x-(fD j).x),cJ ((fD i).y-(fD j).y)),adk c e,_,NN,_,NN,_,YV (by omega) (by omega) (by omega) (by omega),rfl,rfl⟩
abbrev acL:bN C.toBq 38 3 1 [xk xq 0] 8:=⟨_,_,rfl,rfl,rfl,rfl,rfl,rfl⟩
def ms(a b:Int):Int:=if a<b then-1 else if a>b then 1 else 0
theorem Rq(m:Nat)(h:Heap)(a:m<129):ab xv 321 #[.float .f64 (cJ (m:Nat))] h fun v h'=>v=xo false/\h'=h:=by
 refine BY _ ?_;unfold pR;have:=XV m a m a;rw[show(FloatKind.format .f64).order (cJ (m:Nat)) (cJ (m:Nat))=some (compare m m)from this,Nat.compare_eq_eq.2 rfl];exact⟨rfl,rfl⟩
theorem YX(m n:Nat)(h:Heap)(c:m<129)(b:n<129):ab xv 288 #[.float .f64 (cJ (m:Nat)),.float .f64 (cJ (n:Nat))] h fun v h'=>v=xk xq (ms m n)/\h'=h:=by
 refine yP _ _ ?_;unfold oF;refine(Rq m h c).mono ?_;rintro v a ⟨rfl,rfl⟩;refine⟨_,rfl,(Rq n a b).mono ?_⟩;rintro v f ⟨rfl,rfl⟩;refine⟨_,rfl,bF (fun e=>by cases e) fun _=>bF (fun e=>by cases e) fun _=>?_⟩;have d:(FloatKind.format .f64).order (cJ (m:Nat)) (cJ (n:Nat))=some (compare m n):=XV m c n b;rw[d];rcases Nat.lt_trichotomy m n with a|a|a
 ·rw[Nat.compare_eq_lt.2 a];refine bF (fun _=>⟨by rw[ms,if_pos (by omega)],rfl⟩) (fun e=>by cases e)
 ·subst a;rw[Nat.compare_eq_eq.2 rfl];refine bF (fun e=>by cases e) fun _=>bF (fun e=>by cases e) fun _=>⟨by rw[ms,if_neg (by omega),if_neg (by omega)],rfl⟩
 ·rw[Nat.compare_eq_gt.2 a];refine bF (fun e=>by cases e) fun _=>bF (fun _=>⟨by rw[ms,if_neg (by omega),if_pos (by omega)],rfl⟩) (fun e=>by cases e)
theorem NO(m:Int)(h:Heap):ab xv 304 #[xk xq m] h fun v h'=>v=xo false/\h'=h:=by
 refine tu _ ?_;unfold pA;exact⟨by simp,rfl⟩
theorem YY(m n:Int)(h:Heap):ab xv 289 #[xk xq m,xk xq n] h fun v h'=>v=xk xq (ms m n)/\h'=h:=by
 refine pQ _ _ ?_;unfold mU;refine(NO m h).mono ?_;rintro v b ⟨rfl,rfl⟩;refine⟨_,rfl,(NO n b).mono ?_⟩;rintro v c ⟨rfl,rfl⟩;refine⟨_,rfl,bF (fun e=>by cases e) fun _=>bF (fun e=>by cases e) fun _=>?_⟩;refine ai (fun e=>⟨by rw[ms,if_pos e],rfl⟩) fun e=>ai (fun a=>⟨by rw[ms,if_neg e,if_pos a],rfl⟩) fun a=>⟨by rw[ms,if_neg e,if_neg a],rfl⟩
def UB(a b:Int):Int:=if a≠0 then a else b
theorem adA(s:Sl)(a b:Int)(h:Heap)(f:Rd h s 1 aC [a,b]):ab xv 287 #[s] h fun v h'=>v=xk xq (UB a b)/\h'=h:=by
 refine BV s ?_;unfold wb;have l:s.len=2:=f.len;refine au (fun k:Nat=>(k:Int)) (fun k h'=>h'=h/\k<=2/\(1<=k->a=0)/\(2<=k->b=0)) (fun k=>2-k) 0 rfl ⟨rfl,by omega,by omega,by omega⟩ ?_;rintro k h' ⟨rfl,m,g,j⟩;refine ai (fun e=>?_) (fun e=>?_)
 ·rcases(show k=0∨k=1 by omega)with rfl|rfl
  ·refine f.bt 0 rfl (by simp) a rfl ?_;refine bV (fun c=>⟨by rw[UB,if_pos c],rfl⟩) (fun c=>?_);exact⟨1,rfl,⟨rfl,by omega,fun _=>c,by omega⟩,by omega⟩
  ·refine f.bt 1 rfl (by simp) b rfl ?_;have d:=g (by omega);refine bV (fun c=>⟨by rw[UB,if_neg (by simp[d])],rfl⟩) (fun c=>?_);exact⟨2,rfl,⟨rfl,by omega,fun _=>d,fun _=>c⟩,by omega⟩
 ·have d:=g (by omega);have i:=j (by omega);exact⟨by rw[UB,if_neg (by simp[d]),i],rfl⟩
abbrev Fr:=Int×Fin 129
def xA(x:Fr):aV:=[xk xq x.1,.float .f64 (cJ ((x.2:Nat):Int))]
def xB(x y:Fr):Int:=UB (ms (x.2:Nat) (y.2:Nat)) (ms x.1 y.1)
theorem Rr(x y:Fr)(h:Heap):ab xv 286 #[xp (xA x).toArray,xp (xA y).toArray] h fun v h'=>v=xk xq (xB x y)/\aR (fun b=>b<h.size) h h':=by
 refine Hw (x.1,cJ ((x.2:Nat):Int)) (y.1,cJ ((y.2:Nat):Int)) ?_;unfold Aw;refine(Sp.refl h).boxed (t:=348) fun a k e=>?_;refine e.boxed (t:=348) fun b f c=>?_;refine⟨_,(c.box 0 rfl).cell (j:=1) rfl,_,(c.box 1 rfl).cell (j:=1) rfl,_,(c.box 0 rfl).cell0 rfl,_,(c.box 1 rfl).cell0 rfl,?_⟩;refine(YX x.2 y.2 f x.2.isLt y.2.isLt).mono ?_;rintro v h3 ⟨rfl,rfl⟩;refine⟨_,rfl,⟨(c.box 1 rfl).cell0 rfl,(c.box 0 rfl).cell0 rfl,trivial⟩,(YY _ _ h3).mono ?_⟩;rintro v l ⟨rfl,rfl⟩;refine⟨_,rfl,trivial,?_⟩;refine c.lit ac aC acL rfl [ms (x.2:Nat) (y.2:Nat),ms x.1 y.1] rfl (show 2*1<=2^20 by decide) rfl fun s g d=>⟨trivial,?_⟩
 refine(adA s _ _ g (d.seq 2 rfl (fun _=>rfl))).mono ?_;rintro v i ⟨rfl,rfl⟩;exact⟨_,rfl,trivial,rfl,d.ag⟩
theorem UC{a b:Int}:ms a b<0↔a<b:=by unfold ms;split<;>(try split)<;>omega
theorem NP{a b:Int}:ms a b=0↔a=b:=by unfold ms;split<;>(try split)<;>omega
theorem acM{x y:Fr}:ltOf xB x y=true↔((x.2:Nat):Int)<(y.2:Nat)∨(((x.2:Nat):Int)=(y.2:Nat)/\x.1<y.1):=by
 have h0:ltOf xB x y=true↔xB x y<0:=by simp[ltOf]
 rw[h0,xB,UB];by_cases h:ms (x.2:Nat) (y.2:Nat)=0
 ·rw[if_neg (by simp[h]),UC];have:=NP.1 h;constructor
  ·exact fun a=>.inr ⟨this,a⟩
  ·rintro(a|a)
   ·omega
   ·exact a.2
 ·rw[if_pos h,UC];have b:((x.2:Nat):Int)≠(y.2:Nat):=fun e=>h (NP.2 e);constructor
  ·exact .inl
  ·rintro(a|a)
   ·exact a
   ·exact absurd a.1 b
theorem Gs{x y:Fr}:ltOf xB x y=false↔¬(((x.2:Nat):Int)<(y.2:Nat)∨(((x.2:Nat):Int)=(y.2:Nat)/\x.1<y.1)):=by
 rw[<-acM];simp
theorem aeX:Sort.SWO (ltOf xB) where
 irrefl x:=Gs.2 (by omega)
 trans x y z h1 h2:=by rw[acM]at*;omega
 ntrans x y z h1 h2:=by rw[Gs]at*;omega
theorem aeY(x y:Fr)(b:ltOf xB x y=false)(a:ltOf xB y x=false):x=y:=by
 rw[Gs]at b a;refine yD (by omega) (Fin.ext (by omega))
theorem Rs{e:TypeId}{s:Sl}{l:List Fr}{h:Heap}(f:Own h e s 2 xA l)(a:l.length<2^40):
  ab xv 285 #[s,.func (.func 286) #[] #[]] h fun v h'=>v=.tuple #[]/\Own h' e s 2 xA (l.mergeSort fun x y=>!(ltOf xB) y x)/\aR (fun b=>¬s.on b) h h':=by
 have n:∀x:Fr,(xA x).length=2:=fun _=>rfl;refine Oi (P:=xv) (id_:=285) (g:=286) (enc:=xA) (k:=2) (cf:=xB) n ?_ ?_ (fun x y h=>Rr x y h) f a
 ·intro fp cap l w j i d m;have:=AnyQ.slices_SortFunc_total Tryz.Uv 2 Tryz.aex Tryz.ads xA (fun _=>rfl) (fun x v c=>by simp[xA]at c;rcases c with rfl|rfl<;>rfl) xB aeX 286 #[] fp 0 cap l.toArray w (enters_of Tryz.adt (by kernel_rfl) rfl) (by simpa using j) i d (by simpa using m) aeY;simp at this;exact this
 ·intro p cap w;exact AnyF.slices_SortFunc_none Tryz.Uv p cap _ w
def xC(a:aB)(n:Int):aB:=if 0<=n/\n<64/\a.contains n=false then a++[n]else a
def gF(l:aB):aB:=l.foldl xC []
theorem AE(l:aB){k:Nat}(a:k<l.length:=by omega):gF (l.take (k+1))=xC (gF (l.take k)) l[k]:=by
 rw[gF,aH _ _ a,zI];rfl
theorem Ru(l:aB):∀k,k<=l.length->∀x,x∈gF (l.take k)↔x∈l.take k/\0<=x/\x<64
 |0,_,x=>by simp[gF]
 |k+1,hk,x=>by
  have c:=Ru l k (by omega);rw[AE l,aH _ _ (show k<l.length by omega),xC];by_cases h:0<=l[k]/\l[k]<64/\(gF (l.take k)).contains l[k]=false
  ·rw[if_pos h,qF,qF,qG,c x];constructor
   ·rintro(a|rfl)
    ·exact⟨.inl a.1,a.2⟩
    ·exact⟨.inr rfl,h.1,h.2.1⟩
   ·rintro⟨a|a,b⟩
    ·exact .inl ⟨a,b⟩
    ·exact .inr a
  ·rw[if_neg h,qF,qG,c x];constructor
   ·rintro a;exact⟨.inl a.1,a.2⟩
   ·rintro⟨a|rfl,b⟩
    ·exact⟨a,b⟩
    ·have:(gF (l.take k)).contains l[k]=true:=by
      cases hc:(gF (l.take k)).contains l[k]with
      |true=>rfl
      |false=>exact absurd ⟨b.1,b.2,hc⟩ h
     exact(c _).1 (by simpa using this)
theorem KM(l:aB):∀k,k<=l.length->(gF (l.take k)).Nodup
 |0,_=>by simp[gF]
 |k+1,hk=>by
  have c:=KM l k (by omega);rw[AE l,xC];split
  ·rename_i h;rw[List.nodup_append];refine⟨c,by simp,fun a e b d=>?_⟩;rw[qG.1 d];rintro rfl;have:=h.2.2;rw[List.contains_eq_mem]at this;simp[e]at this
  ·exact c
theorem abk(l:aB)(k:Nat):(gF (l.take k)).length<=k:=by
 induction k with
 |zero=>simp[gF]
 |succ k ih=>
  by_cases a:k<l.length
  ·rw[AE l a,xC];split
   ·simp;omega
   ·omega
  ·rw[qi (by omega)]at ih⊢;omega
def Ds(c:Nat)(n:Int):Fr:=(n,Fin.ofNat 129 (Gr n.toNat c).toNat)
theorem aeZ{c:Nat}{n:Int}(a:c<64)(d:0<=n)(b:n<64):(((Ds c n).2:Nat):Int)=Gr n.toNat c:=by
 have:=YW (i:=n.toNat) (j:=c) (by omega) a;show(((Gr n.toNat c).toNat%129:Nat):Int)=_;omega
def sA(c:Nat)(l:aB):aB:=(((gF l).map (Ds c)).mergeSort fun x y=>!(ltOf xB) y x).map (·.1)
def gH(a block:Int)(l:aB):aB:=if 0<=a/\a<=16777215/\0<=block/\block<8 then sA ((8*a+block)%64).toNat l else[]
def rE(a:aB):aV:=(qy 64).map fun i:Nat=>xo (a.contains (i:Int))
theorem adB(a:aB){n:Int}(c:0<=n)(b:n<64):(rE a)[n.toNat]?=some (xo (a.contains n)):=by
 rw[rE,qO,zl (by omega),qR,show((n.toNat:Nat):Int)=n by omega]
theorem abl(a:aB){n:Int}(d:0<=n)(c:n<64):(rE a).set n.toNat (xo true)=rE (a++[n]):=by
 apply zx;intro i;rw[qV,rE,rE,qO,qO,qD,zy];by_cases b:i<64
 ·rw[zl b,qR,qR];by_cases h:n.toNat=i
  ·rw[if_pos h,if_pos (by omega),show((i:Nat):Int)=n by omega];simp
  ·rw[if_neg h];have:(a++[n]).contains (i:Int)=a.contains (i:Int):=by
    rw[List.contains_eq_mem,List.contains_eq_mem];simp;omega
   rw[this]
 ·rw[if_neg (by omega),za (by simp;omega)];rfl
abbrev eFr:bN C.toBq 343 348 2 [xk xq 0,.float .f64 0] 16:=⟨_,_,rfl,rfl,rfl,rfl,rfl,rfl⟩
theorem afa:∀x,∀c∈xA x,c.oneCell'=true:=by
 intro x c a;simp[xA]at a;rcases a with rfl|rfl<;>rfl
theorem TD(b block:Int)(live:Sl)(l:aB)(h:Heap)(T:Rd h live 1 aC l)(am:l.length<=2^30):
  ab xv 225 #[xk xq b,xk xq block,live] h fun v h'=>∃r:Sl,v=r/\Sp h h' [an 3 r 1 aC (gH b block l)]:=by
 have ah:=T.len;refine Ku b block live ?_;unfold Eg;have F:¬(0<=b/\b<=16777215/\0<=block/\block<8)->∃r:Sl,Value.slice none 0 0=xl r.ptr r.len r.cap/\Sp h h [an 3 r 1 aC (gH b block l)]:=fun Q=>by
  rw[gH,if_neg Q];exact⟨⟨none,0,0⟩,rfl,(Sp.refl h).nil 3 1 aC⟩
 refine aT (ai (fun e=>F (by omega)) fun e1=>ai (fun e=>F (by omega)) fun e2=>ai (fun e=>F (by omega)) fun e3=>ai (fun e=>F (by omega)) fun e4=>?_);have O:0<=b/\b<=16777215/\0<=block/\block<8:=by omega
 rw[gH,if_pos O];rw[aj (8*b),aj (8*b+block),yE (by omega)];obtain⟨c,hc⟩:∃c:Nat,(8*b+block)%64=c:=⟨((8*b+block)%64).toNat,by omega⟩
 have j:c<64:=by omega
 rw[hc,qp];refine⟨by decide,(UA c h j).mono ?_⟩;rintro v h2 ⟨rfl,R2⟩;refine⟨((jY c).ax,(jY c).ay),rfl,?_⟩;refine R2.alloc ac rfl fun a h3 Z=>?_;have L:Sp h h3 [ar a 344 (rE []),an 348 ⟨none,0,0⟩ 2 xA []]:=Z.nil 348 2 xA;refine au (fun t:Sl×Nat=>(t.1,(t.2:Int))) (fun t h'=>t.2<=l.length/\Sp h h' [ar a 344 (rE (gF (l.take t.2))),an 348 t.1 2 xA ((gF (l.take t.2)).map (Ds c))]) (fun t=>l.length-t.2) (⟨none,0,0⟩,0) rfl ⟨by simp,L⟩ ?_;rintro⟨s,k⟩ h4 ⟨hk,m⟩;dsimp only at*;have E:=abk l k;refine ai (fun e=>?_) (fun e=>?_)
 ·have z:k<l.length:=by omega
  have H:=AE l z;obtain⟨f,B⟩:∃f,f=gF (l.take k):=⟨_,rfl⟩
  rw[<-B]at m E H;refine(Seq.up T m.ag).bt k rfl z _ rfl ?_;obtain⟨x,hx⟩:∃x,x=l[k]:=⟨_,rfl⟩
  rw[<-hx]at H⊢;refine bO (fun t h'=>(t=true↔0<=x/\x<64/\f.contains x=false)/\h'=h4) ?_ ?_
  ·refine ai (fun q=>ai (fun p=>?_) (fun p=>⟨⟨fun e=>(by cases e),fun w=>absurd w.2.1 p⟩,rfl⟩)) (fun q=>⟨⟨fun e=>(by cases e),fun w=>absurd w.1 q⟩,rfl⟩);refine⟨⟨q,p⟩,f.contains x,?_,?_,rfl⟩
   ·rw[wc];exact(m.box 0 rfl).cell (adB f q p)
   ·cases f.contains x<;>simp<;>omega
  ·rintro t X ⟨U,rfl⟩;refine bF (fun e=>?_) (fun e=>?_)
   ·obtain⟨q,p,x2⟩:=U.1 e;refine⟨⟨q,p⟩,?_⟩;rw[wc];refine m.storeAt ac 0 rfl rfl rfl rfl rfl (by simp[rE];omega) fun M u=>?_;have R:Sp h M [ar a 344 (rE (f++[x])),an 348 s 2 xA (f.map (Ds c))]:=by
     rw[<-abl f q p];exact u
    obtain⟨n,Q⟩:∃n:Nat,x=n:=⟨x.toNat,by omega⟩
    subst Q;refine(UA n M (by omega)).mono ?_;rintro v V ⟨rfl,Y⟩;refine⟨((jY n).ax,(jY n).ay),rfl,(abj n c V (by omega) j).mono ?_⟩;rintro v h8 ⟨rfl,rfl⟩;have G:=R.up Y.ag;have ev:cJ (Gr n c)=cJ (((Ds c (n:Int)).2:Nat):Int):=by rw[aeZ j (by omega) (by omega),qp]
    refine⟨_,rfl,?_⟩;rw[ev];refine G.push ac 1 rfl eFr rfl (by decide) (fun _=>rfl) afa (Ds c (n:Int)) rfl (by decide) (by simp;omega) fun s' h9 S=>?_;refine⟨(s',k+1),by dsimp only;rw[aj _];rfl,⟨by dsimp only;omega,?_⟩,by dsimp only;omega⟩;dsimp only;rw[H,xC,if_pos ⟨q,p,x2⟩,qW];exact S
   ·refine⟨(s,k+1),by dsimp only;rw[aj _];rfl,⟨by dsimp only;omega,?_⟩,by dsimp only;omega⟩;dsimp only;rw[H,xC,if_neg (fun w=>by rw[U.2 w]at e;cases e)];exact m
 have P:k=l.length:=by omega
 subst P;rw[qX]at m E;refine(Rs (m.own 1 rfl) (by simp;omega)).mono ?_;rintro v X ⟨rfl,K,I⟩;have N:=m.lp 1 rfl I K;obtain⟨d,g⟩:∃d,d=((gF l).map (Ds c)).mergeSort fun x y=>!(ltOf xB) y x:=⟨_,rfl⟩
 have ad:d.length=(gF l).length:=by rw[g,wZ,qD]
 have eo:sA c l=d.map (·.1):=by rw[sA,<-g]
 rw[<-g]at N;have W:=(N.own 1 rfl).len;rw[eo];refine⟨(),rfl,?_⟩;refine au (fun t:Sl×Nat=>(t.1,(t.2:Int))) (fun t h'=>t.2<=d.length/\Sp h h' [an 348 s 2 xA d,an 3 t.1 1 aC ((d.take t.2).map (·.1))]) (fun t=>d.length-t.2) (⟨none,0,0⟩,0) rfl ⟨by simp,(N.del 0).nil 3 1 aC⟩ ?_;rintro⟨o,i⟩ M ⟨J,u⟩;dsimp only at*;refine ai (fun e=>?_) (fun e=>?_)
 ·have D:i<d.length:=by omega
  refine(u.seq 0 rfl (fun _=>rfl)).ea i rfl D (d[i].1,cJ ((d[i].2:Nat):Int)) rfl ?_;refine u.alloc ac rfl fun y V H7=>?_;refine H7.storeAll ac 2 rfl rfl [xk xq d[i].1,.float .f64 (cJ ((d[i].2:Nat):Int))] rfl rfl rfl rfl fun h8 G=>?_;refine⟨d[i].1,(G.box 2 rfl).cell0 rfl,?_⟩;refine G.push ac 1 rfl acL rfl (by decide) (fun _=>rfl) gJ d[i].1 rfl (by decide) (by simp;omega) fun o' h9 S=>?_;refine⟨(o',i+1),by dsimp only;rw[aj _];rfl,⟨by dsimp only;omega,?_⟩,by dsimp only;omega⟩;dsimp only;rw[aH _ _ D,qW];exact S.del 2
 ·rw[qi (by omega)]at u;exact⟨o,rfl,u.take 1 (fun i A J=>by cases i with|zero=>exact J|succ i=>simp at J)⟩
theorem abm(l:aB)(x:Int):x∈gF l↔x∈l/\0<=x/\x<64:=by
 have:=Ru l l.length (ql _) x
 rwa [qX]at this
theorem adC(l:aB):(gF l).Nodup:=by
 have:=KM l l.length (ql _)
 rwa [qX]at this
theorem KN(c:Nat)(l:aB):(sA c l).Perm (gF l):=by
 have h:=(wB ((gF l).map (Ds c)) fun x y=>!(ltOf xB) y x).map (·.1);rw[w5]at h;have e:((fun x:Fr=>x.1)∘Ds c)=id:=rfl;rw[e,List.map_id]at h;exact h
theorem NQ(c:Nat)(l:aB)(x:Int):x∈sA c l↔x∈l/\0<=x/\x<64:=by rw[(KN c l).mem_iff,abm]
theorem abn(c:Nat)(l:aB):(sA c l).Nodup:=(KN c l).nodup_iff.2 (adC l)
def Pb(l:aB)(i:Nat):Int:=l.getD i 0
def sB(o:aB)(id:Int):Int:=if o=[]∨id<0 then-1 else Pb o (id%(o.length:Int)).toNat
theorem adD(s:Sl)(o:aB)(id:Int)(h:Heap)(g:Rd h s 1 aC o):ab xv 226 #[s,xk xq id] h fun v h'=>v=xk xq (sB o id)/\h'=h:=by
 have f:=g.len;refine QN s id ?_;unfold Kv;refine aT (cz (fun e=>⟨by rw[sB,if_pos (.inl (qT (by omega)))],rfl⟩) fun e=>ai (fun c=>⟨by rw[sB,if_pos (.inr c)],rfl⟩) fun c=>?_);refine⟨e,?_⟩;have b:¬(o=[]∨id<0):=by
  rintro(rfl|h2)
  ·simp at f;omega
  ·exact c h2
 have d:zZ id ((s.len:Nat):Int)=((id%(o.length:Int)).toNat:Int):=by
  rw[yE (by omega),f];have:=yJ id (show(o.length:Int)≠0 by omega);omega
 have a:(id%(o.length:Int)).toNat<o.length:=by
  have:=w7 id (show(0:Int)<o.length by omega);omega
 rw[d];refine g.bt _ rfl a _ rfl ⟨?_,rfl⟩;rw[sB,if_neg b,Pb,qe,qd a];rfl
def xD(p:Pm)(seed:Int)(d:Row)(id:Int):aU:=if bp id then ff p.2.2.toNat (dE p seed d) (cA (bn p).toNat seed id)else[]
def kV(m:aD)(o b seed:Int)(d:Row)(id:Int):cV:=⟨o,b,id,m.p,seed,xD m.p seed d id⟩
def KO(m:aD)(o b seed:Int)(d:Row)(a:aB)(id:Int):Int×aU:=(sB a id,dI (kV m o b seed d id))
def mu(m:aD)(o:Int)(a:aB)(b:cv)(live:aB)(i:Nat):List (Int×aU):=
 (qy (m.p.1+m.extra).toNat).map fun id:Nat=>KO m o i (cE o i (a.getD i 0)) (b.getD i []) (gH o i live) id
def cR(m:aD)(o:Int)(a:aB)(b:cv)(live:aB)(n:Nat):List (Int×aU):=(qy n).flatMap (mu m o a b live)
theorem sZ(m:aD)(o:Int)(a:aB)(b:cv)(live:aB)(n:Nat):cR m o a b live (n+1)=cR m o a b live n++mu m o a b live n:=by
 unfold cR;rw[zt,ze,zq,yj,qU]
theorem Dt(m:aD)(o:Int)(a:aB)(b:cv)(live:aB)(i:Nat):(mu m o a b live i).length=(m.p.1+m.extra).toNat:=by simp[mu]
theorem xE(m:aD)(o:Int)(a:aB)(b:cv)(live:aB):∀n,(cR m o a b live n).length=n*(m.p.1+m.extra).toNat
 |0=>by simp[cR]
 |n+1=>by rw[sZ,qw,xE m o a b live n,Dt,zK]
theorem lA(o b t:Int):0<=cE o b t/\cE o b t<4294967296:=by unfold cE;omega
section
variable {B:aA} {h0 h:Heap} {As:List HP} {a pw:Addr} {offs:Int} {da:List aP} {w:Pow} {ds:aX}
theorem OK(x:cy)(m:aD)(xe:eC)(e:Wl.cm)(s:Sl)(b:aU)(hS:St B h0 As fun h=>gn h x m/\fg nw h xe e/\Rd h s 1 az b)(cn:s.len<=s.cap)(hz:dM m)(R:bA m.p=true)(dy:0<=m.extra/\m.extra<=16)(du:b.length<=2^20)
  (ht:ct m.p e.object (splitB m.p b).length=some e.tries) (H:aa B h0 h (bx bS a pw (bh x) offs da w ds::As)):
  ab xv 150 #[xm (some a),Rk xe,s] h fun v h'=>∃(r:Sl) (ys:List (Int×Sl)),v=.tuple #[r,xo true]/\
   aa B h0 h' (bx bS a pw (bh x) offs da w ds::cS kv 2 piv r ys (cR m e.object e.tries (splitB m.p b) (bg ds m.drives) (splitB m.p b).length)::As):=by
 refine xW (some a) xe s ?_;unfold oA;refine H.boxed fun O h1 U=>?_;have U:=U.bH;have U:aa B h0 h1 (bx bS a pw (bh x) offs da w ds::ar O 170 (cl xe)::As):=U.bo 2 [1,0];refine(gO x m (hS.at [_,_] U).1 hz U).mono ?_;rintro _ h2 ⟨Y,rfl,R2⟩;have H2:=(U.cX R2).bo 3 [1,0,2];obtain⟨ok,a7⟩:=aa.dj H2;obtain⟨b7,d2,b4⟩:=hS.at [_,_,_] H2;have a2:(x.2.2.1,x.2.2.2.1,x.2.2.2.2.1)=m.p:=b7.p;have d5:=(bC m.p).1 R;obtain⟨s1,s2,s3⟩:=kw R;obtain⟨c1,c2,c3⟩:=lj R b.length;have b9:(bg ds m.drives).length<=m.drives.length:=zc _ _;have d3:=hz.dr;obtain⟨live,ah⟩:∃live,live=bg ds m.drives:=⟨_,rfl⟩
 rw[<-ah]at H2 b9⊢;obtain⟨g,E⟩:∃g,g=splitB m.p b:=⟨_,rfl⟩
 have b0:g.length<=2^20:=by rw[E];unfold splitB;simp;omega
 have a6:∀r∈g,r.length=dp m.p:=by
  rw[E];intro r hr;unfold splitB at hr;obtain⟨i,_,rfl⟩:=qC.1 hr;exact Gj _ _ _
 refine⟨Y,rfl,a,rfl,(x.2.2.1,x.2.2.2.1,x.2.2.2.2.1),⟨by rw[addr_add];exact a7.cell rfl,by rw[addr_add];exact a7.cell rfl,by rw[addr_add];exact a7.cell rfl,trivial⟩,?_⟩;rw[a2];refine(Tn m.p s b h2 R b4 cn (by omega)).mono ?_;rintro _ h3 ⟨q,rfl,R3⟩;rw[<-E]at R3 ht⊢;obtain⟨rs,Z⟩:=Go.Qw.aa.acJ (H2.cX R3) fun _=>rfl;have Z:=(Z.Vd 211 2 piv kv).bH;have Z:aa B h0 h3 (bx bS a pw (bh x) offs da w ds::dK 211 ⟨none,0,0⟩ 2 piv kv (cR m e.object e.tries g live 0)::cS (nF 1 az) 1 bD q rs g::an 3 Y 1 aC live::ar O 170 (cl xe)::As):=Z.bo 5 [2,0,1,3,4];have dk:=(Z.fF 2 rfl).1.len;have d1:=(Z.fF 2 rfl).2.1;have d4:=iH ht;refine⟨q,rfl,?_⟩;obtain⟨k,F⟩:∃k:Nat,k=(m.p.1+m.extra).toNat:=⟨_,rfl⟩
 have J:k<=32:=by omega
 refine au (fun t:Sl×Nat=>(t.1,(t.2:Int))) (fun t h'=>t.2<=g.length/\aa B h0 h' (bx bS a pw (bh x) offs da w ds::dK 211 t.1 2 piv kv (cR m e.object e.tries g live t.2)::cS (nF 1 az) 1 bD q rs g::an 3 Y 1 aC live::ar O 170 (cl xe)::As)) (fun t=>g.length-t.2) (⟨none,0,0⟩,0) rfl ⟨by simp,Z⟩ ?_;rintro⟨o,i⟩ h4 ⟨hi,H4⟩;dsimp only at*;refine ai (fun e1=>?_) (fun e1=>?_)
 ·have a5:i<g.length:=by omega
  have F4:=H4.fF 2 rfl;have a4:=H4.box 4 rfl;obtain⟨cd,a9,dl⟩:=hS.at [_,_,_,_,_] H4;obtain⟨_,b1⟩:=aa.dj H4;obtain⟨t,bq,c0⟩:=AA ht i (by omega);have b2:e.tries.getD i 0=(t:Int):=by rw[qe,qd (by omega)];exact bq
  have cs:g.getD i []=g[i]:=by rw[qe,qd a5];rfl
  have M:∀{h':Heap},bZ h' O 170 (cl xe)->cellOf h' (O.add 1)=some (xk xq e.object):=fun{h'} hb=>by rw[<-a9.1.2.1];exact hb.cell rfl
  have cp:∀{h':Heap},bZ h' a 138 (dD (bh x) pw offs da)->al h' (a.add 2) 0 [xk xq m.p.1,xk xq m.p.2.1,xk xq m.p.2.2]:=fun{h'} hb=>by
   rw[<-a2];exact⟨by rw[addr_add];exact hb.cell rfl,by rw[addr_add];exact hb.cell rfl,by rw[addr_add];exact hb.cell rfl,trivial⟩
  have a8:=Fix.row F4 a5;refine F4.1.bt i rfl (by omega) (rs[i]'(by omega)) rfl ?_;refine⟨e.object,M a4,xe.2.2.2,a4.cell rfl,?_⟩;refine Seq.bt (f:=aC) a9.2 i rfl (by omega) (t:Int) (by rw[bq];rfl) ?_;refine(uf _ _ _ h4).mono ?_;rintro _ _ ⟨rfl,rfl⟩;refine⟨_,rfl,⟨a4.cell rfl,trivial⟩,a,rfl,m.p,cp b1,?_⟩;obtain⟨seed,l⟩:∃seed,seed=cE e.object i t:=⟨_,rfl⟩
  have hg:=(Gk c0).2.1;have ax:dQ m.p seed (dH m.p)=true:=by rw[l];exact hg
  obtain⟨K,Hh,w',n,BK⟩:=abZ (seed:=seed) (d:=g[i]) R ax (by rw[a6 _ (qh a5),s3]);rw[<-l];refine(aeW BK (rs[i]'(by omega)) _ a8.1 a8.2).mono ?_;rintro _ h6 ⟨X,mm,rfl,R6⟩;have H6:=(H4.comp R6).front;have H6:aa B h0 h6 (bx bS a pw (bh x) offs da w ds::dK 211 o 2 piv kv (cR m e.object e.tries g live i)::cS (nF 1 az) 1 bD q rs g::an 3 Y 1 aC live::ar O 170 (cl xe)::dJ 23 mm 1 az (dE m.p seed g[i])::ar X 57 (Dr m.p seed mm)::As):=H6.bo 7 [2,3,4,5,6,0,1];refine⟨(some X,0),rfl,bV (fun e2=>absurd rfl e2) fun _=>?_⟩;have c4:=H6.box 4 rfl;refine⟨e.object,M c4,(TD e.object i Y live h6 (H6.seq 3 rfl fun _=>rfl) (by omega)).mono ?_⟩;rintro _ h7 ⟨N,rfl,R7⟩;have H7:=(H6.cX R7).bo 8 [1,2,3,4,5,6,7,0];obtain⟨c,y⟩:∃c,c=gH e.object i live:=⟨_,rfl⟩
  rw[<-y]at H7;have bs:=(aa.dj H7).2;have b5:x.2.2.1=m.p.1:=congrArg (·.1) a2;refine⟨N,rfl,a,rfl,x.2.2.1,bs.cell rfl,a,rfl,x.2.2.2.2.2.1,bs.cell rfl,?_⟩;have en:qc xq (x.2.2.1+x.2.2.2.2.2.1)=(k:Int):=by rw[b5,cd.extra,aj _];omega
  rw[en];have S:mu m e.object e.tries g live i=(qy k).map fun id:Nat=>KO m e.object i seed g[i] c id:=by
   unfold mu;rw[b2,cs,<-l,<-y,<-F]
  have cc:(mu m e.object e.tries g live i).length=k:=by rw[Dt,<-F]
  obtain⟨A,I⟩:∃A,A=cR m e.object e.tries g live i:=⟨_,rfl⟩
  have ec:A.length<=2^26:=by
   rw[I,xE,<-F];have:=zJ (show i<=2^20 by omega) J;omega
  obtain⟨Q,hQ⟩:∃Q,Q=mu m e.object e.tries g live i:=⟨_,rfl⟩
  rw[<-hQ]at S cc;rw[<-I]at H7;refine au (fun t:Sl×Nat=>(t.1,(t.2:Int))) (fun t h'=>t.2<=k/\aa B h0 h' (bx bS a pw (bh x) offs da w ds::dK 211 t.1 2 piv kv (A++Q.take t.2)::cS (nF 1 az) 1 bD q rs g::an 3 Y 1 aC live::ar O 170 (cl xe)::dJ 23 mm 1 az (dE m.p seed g[i])::ar X 57 (Dr m.p seed mm)::an 3 N 1 aC c::As)) (fun t=>k-t.2) (o,0) rfl ⟨by simp,by simpa using H7⟩ ?_;rintro⟨o2,id⟩ h8 ⟨hid,T⟩;dsimp only at*;refine ai (fun e3=>?_) fun e3=>?_
  ·have dd:id<k:=by omega
   have ad:=T.box 4 rfl;have W:=(aa.dj T).2;have G:Mq h8 X m.p seed (dE m.p seed g[i]):=⟨mm,T.box 6 rfl,T.DJ 5 rfl⟩
   have P:xD m.p seed g[i] id=if bp id then ff w' (dE m.p seed g[i]) (cA n seed id)else[]:=by
    unfold xD;rw[BK.nD,show m.p.2.2.toNat=w' by have:=BK.s;omega]
   have held:∀{h':Heap},aR (fun b=>b<h8.size) h8 h'->aq.ok [((a.add 2),xk xq m.p.1),((a.add 2).add 1,xk xq m.p.2.1),((a.add 2).add 2,xk xq m.p.2.2),(O.add 1,xk xq e.object)] h':=fun{h'} R=>by
    obtain⟨q1,q2,q3,_⟩:=cp (W.ag R W.lt);exact⟨q1,q2,q3,M (ad.ag R ad.lt),trivial⟩
   refine bO (fun(br:Addr) h'=>∃r:Sl,aa B h0 h' (ar br 233 (bI (e.object,(i:Int),(id:Int),m.p.1,m.p.2.1,m.p.2.2,seed,r))::an 5 r 1 az (xD m.p seed g[i] id)::bx bS a pw (bh x) offs da w ds::dK 211 o2 2 piv kv (A++Q.take id)::cS (nF 1 az) 1 bD q rs g::an 3 Y 1 aC live::ar O 170 (cl xe)::dJ 23 mm 1 az (dE m.p seed g[i])::ar X 57 (Dr m.p seed mm)::an 3 N 1 aC c::As)) ?_ ?_
   ·refine⟨e.object,M ad,a,rfl,m.p,cp W,?_,?_⟩
    ·refine(BK.symbol X id h8 G).mono ?_;rintro _ h9 ⟨r,rfl,R9⟩;rw[<-P]at R9;have H9:=T.cX R9;refine⟨r,rfl,held R9.ag,H9.EV ac rfl fun a28 d7 c8 a0=>⟨held (aa.up R9 c8).ag,?_⟩⟩;have a0:=a0.bH;refine a0.storeAll ac 0 rfl rfl (bI (e.object,(i:Int),(id:Int),m.p.1,m.p.2.1,m.p.2.2,seed,r)) rfl rfl rfl rfl fun d6 cf=>⟨trivial,r,cf⟩
    ·refine T.EV ac rfl fun d0 c6 am V=>⟨held am,?_⟩
     have V:=V.bH;refine(BK.symbol X id c6 (G.up am)).mono ?_;rintro _ d8 ⟨r,rfl,a3⟩;rw[<-P]at a3;have b6:=(V.cX a3).bo 2 [1,0];refine⟨r,rfl,held (aa.up (Sp.zip am) a3.ag).ag,?_⟩;refine b6.storeAll ac 0 rfl rfl (bI (e.object,(i:Int),(id:Int),m.p.1,m.p.2.1,m.p.2.2,seed,r)) rfl rfl rfl rfl fun dx cr=>⟨trivial,r,cr⟩
   ·rintro br c7 ⟨r,L⟩;have j:=L.box 0 rfl;have ap:=lA e.object i t;rw[<-l]at ap;refine⟨(e.object,(i:Int),(id:Int),m.p.1,m.p.2.1,m.p.2.2,seed,r),j.aF _ rfl,(adD N c id c7 (L.seq 9 rfl fun _=>rfl)).mono ?_⟩;rintro _ c9 ⟨rfl,rfl⟩;refine⟨_,rfl,⟨j.cell0 rfl,j.cell rfl,j.cell rfl,j.cell rfl,j.cell rfl,j.cell rfl,j.cell rfl,j.cell rfl,trivial⟩,?_⟩;refine(Bb (e.object,(i:Int),(id:Int),m.p.1,m.p.2.1,m.p.2.2,seed,r) (kV m e.object i seed g[i] id) c9 ⟨⟨rfl,rfl,rfl,rfl,rfl,ap.1,ap.2⟩,L.seq 1 rfl fun _=>rfl⟩).mono ?_;rintro _ d9 ⟨u,rfl,b3⟩;have bb:=(L.cX b3).ga 0 rfl (D:=EA kv (sB c id,u) (KO m e.object i seed g[i] c id)) fun z hz=>⟨rfl,hz.1.seq (fun _=>rfl) hz.2⟩
    have bd:Q[id]'(by omega)=KO m e.object i seed g[i] c id:=by simp[S]
    refine⟨u,rfl,trivial,?_⟩;refine bb.pW ac piv QZ rfl [(sB c id,u)] rfl (show 1*2<=2^20 by decide) rfl trivial ?_;refine aa.JC ac bb 4 0 (by decide) (a:=(sB c id,u)) rfl rfl QZ rfl (by decide) (fun _=>rfl) Mk (parts:=#[(0,xp #[xk xq (sB c id),u])]) (by kernel_rfl) (by decide) (by simp;omega) fun o3 eb cq=>⟨trivial,?_⟩
    refine⟨(o3,id+1),by dsimp only;rw[aj _];rfl,⟨by dsimp only;omega,?_⟩,by dsimp only;omega⟩;dsimp only;rw[aH Q id,bd,<-qo];exact cq.rest.rest.rest
  ·have ay:id=k:=by omega
   subst ay;rw[qi (by omega)]at T;refine⟨(o2,i+1),by dsimp only;rw[aj _];rfl,⟨by dsimp only;omega,?_⟩,by dsimp only;omega⟩;dsimp only;rw[sZ,<-I,<-hQ];exact T.bo 8 [0,1,2,3,4]
 ·have ay:i=g.length:=by omega
  subst ay;obtain⟨ys,H5⟩:=H4.PG 1 rfl fun _=>rfl;exact⟨o,ys,rfl,H5.bo 5 [0,1]⟩
end
end Go.Qw
namespace Wl
open Go
def iJ(a:Nat)(l:List (Int×aU))(k:Int):Int:=(a:Int)+(l.filter fun y=>decide (y.1=k)).length
end Wl
namespace Go.Qw
open Go Go.Vc Go.Proofs Wl
theorem YZ(k:Int)(d c:Addr)(a:Nat)(r:Sl)(o:List (Int×Sl))(l:List (Int×aU))(h:Heap)(D:a<=2^30)(E:l.length<=2^30)(p:bZ h d 3 [xk xq a])(t:bZ h c 143 [r])(s:mY kv 2 piv h r o l):
  ab xv 152 #[xk xq k,xm (some d),xm (some c)] h fun v h'=>v=xk xq (iJ a l k)/\Sp h h' []:=by
 refine BM k d c ?_;unfold pM;have A:=s.1.len;have x:=s.2.1;refine⟨(a:Int),p.cell0 rfl,r,t.cell0 rfl,?_⟩;refine au (fun i:Nat=>(iJ a (l.take i) k,(i:Int))) (fun i h'=>i<=l.length/\Sp h h' []) (fun i=>l.length-i) 0 (by simp[iJ]) ⟨by omega,Sp.refl h⟩ ?_;rintro i G ⟨F,q⟩;dsimp only;have w:(((l.take i).filter fun y=>decide (y.1=k)).length:Int)<=i:=by
  have:=zc (fun y:Int×aU=>decide (y.1=k)) (l.take i);simp at this;omega
 refine ai (fun e=>?_) fun e=>?_
 ·have n:i<l.length:=by omega
  have j:=mY.up s q.ag;refine j.1.ea (g:=piv) i rfl (by omega) (o[i]'(by omega)) rfl ?_;refine q.alloc ac rfl fun z H B=>?_;refine B.storeAll ac 0 rfl rfl (piv (o[i]'(by omega))) rfl rfl rfl rfl fun h3 m=>?_;have m:Sp h h3 [ar z 211 (piv (o[i]'(by omega)))]:=m;have f:=Fix.row j n;have b:iJ a (l.take (i+1)) k=iJ a (l.take i) k+(if l[i].1=k then 1 else 0):=by
   unfold iJ;rw[aH _ _ n,zg,qw,zo,y6];split
   ·rename_i u;rw[if_pos (of_decide_eq_true u)];simp;omega
   ·rename_i u;rw[if_neg (by simpa using u)];simp
  refine⟨l[i].1,by rw[<-f.1];exact(m.box 0 rfl).cell0 rfl,cz (fun g=>?_) fun g=>?_⟩
  ·refine⟨i+1,?_,⟨by omega,.zip m.ag⟩,by omega⟩;rw[b,if_pos g,aj (iJ a (l.take i) k+1) (by unfold iJ;omega) (by unfold iJ;omega),aj _];rfl
  ·refine⟨i+1,?_,⟨by omega,.zip m.ag⟩,by omega⟩;rw[b,if_neg g,Int.add_zero,aj _];rfl
 ·rw[qi (by omega)];exact⟨rfl,q⟩
def cK(m:aD)(offs:Int)(w:Pow)(ds:aX)(name:ByteArray)(b:aU):Int×aD×Pow×aX:=
 if cQ m (fO w offs) ds name b.length≠0 then(cQ m (fO w offs) ds name b.length,m,w,ds)else
 match ct m.p m.next (splitB m.p b).length with
 |none=>(8,m,w,ds)
 |some t=>
  let live:=bg ds m.drives;let l:=cR m m.next t (splitB m.p b) live (splitB m.p b).length;let n:=df m ⟨name,m.next,b.length,t⟩;let N:=iJ (bf n).length l
  if cU m ds live N=false then(7,m,w,ds)else
  if(makes m N live w ds).1≠0 then((makes m N live w ds).1,m,(makes m N live w ds).2)else
  let a:=layAll l (makes m N live w ds).2.1 (makes m N live w ds).2.2
  if a.1≠0 then(a.1,m,a.2)else
  ((layAll (bE n live) a.2.1 a.2.2).1,if(layAll (bE n live) a.2.1 a.2.2).1=0 then n else m,(layAll (bE n live) a.2.1 a.2.2).2)
theorem kz{m:aD}{d:Bool}{ds:aX}{name:ByteArray}{n:Nat}(h:cQ m d ds name n=0):
  d=false/\lH name=true/\m.aL.any (dX name)=false/\¬(m.p.1*m.p.2.2*8<(n:Int)∨12<=m.aL.length)/\¬(bg ds m.drives=[]∨16777215<m.next∨2147483647<=m.seq):=by
 unfold cQ at h;split at h
 ·cases h
 ·rename_i e;split at h
  ·cases h
  ·rename_i b;split at h
   ·cases h
   ·rename_i h3;split at h
    ·cases h
    ·rename_i a;split at h
     ·cases h
     ·rename_i c;exact⟨by simpa using e,by simpa using b,by simpa using h3,a,c⟩
theorem Ci{m:aD}{b:aU}(a:bA m.p=true)(h:¬m.p.1*m.p.2.2*8<(b.length:Int)):(splitB m.p b).length<=8:=by
 obtain⟨i,f,d⟩:=kw a;obtain⟨e,g,c⟩:=lj a b.length;unfold splitB;rw[qD,zy];refine Nat.le_of_not_lt fun h8=>?_;have:=c 8 (by omega);rw[<-d]at h;omega
theorem afb{o:aB}(b:o≠[])(id:Nat):sB o id∈o:=by
 unfold sB Pb;rw[if_neg (by rintro(h|h);exact b h;omega)];have c:0<o.length:=by cases o with|nil=>exact absurd rfl b|cons=>simp
 have a:((id:Int)%(o.length:Int)).toNat<o.length:=by
  have:=w7 (id:Int) (show(0:Int)<o.length by omega);have:=yJ (id:Int) (show(o.length:Int)≠0 by omega);omega
 rw[qe,qd a];exact qh a
theorem Rv{m:aD}{o:Int}{c:aB}{q:cv}{live:aB}(s:0<=o/\o<=16777215)(p:live≠[])(f:∀k∈live,0<=k/\k<64){n:Nat}(t:n<=8){y:Int×aU}(d:y∈cR m o c q live n):y.1∈live/\y.2.length<=64:=by
 unfold cR at d;obtain⟨i,j,d⟩:=zQ.1 d;have j:=qI.1 j;unfold mu at d;obtain⟨id,_,rfl⟩:=qC.1 d;refine⟨?_,?_⟩
 ·show sB _ _∈live;have e:gH o i live=sA ((8*o+i)%64).toNat live:=by unfold gH;rw[if_pos (by omega)]
  have b:∀a,a∈gH o i live↔a∈live/\0<=a/\a<64:=fun a=>by rw[e];exact NQ _ _ _
  have g:gH o i live≠[]:=fun h=>by
   cases live with
   |nil=>exact p rfl
   |cons a l=>
    have:=(b a).2 ⟨q0,f a q0⟩;rw[h]at this;cases this
  exact((b _).1 (afb g id)).1
 ·show(dI _).length<=64;unfold dI;split
  ·rename_i r;refine Nat.le_of_eq (na (by decide) (by decide) ?_);have:=nZ r;omega
  ·simp
theorem adE{m:aD}{e:Wl.cm}(b:dM m)(g:m.aL.length<=11)(c:e.name.size<=2^30)(d:e.tries.length<=2^30):dM (df m e):=by
 refine⟨b.dr,?_,fun f a=>?_⟩
 ·show((m.aL++[e]).mergeSort tH).length<=2^30;rw[wZ];simp;omega
 ·have a:f∈(m.aL++[e]).mergeSort tH:=a;rcases qF.1 ((wB _ _).mem_iff.1 a)with h|h
  ·exact b.nm f h
  ·rw[qG.1 h];exact⟨c,d⟩
section
variable {B:aA} {h0 h:Heap} {As:List HP} {a pw:Addr} {offs:Int} {da:List aP} {w:Pow} {ds:aX}
theorem abo(x:cy)(m:aD)(name:ByteArray)(s:Sl)(b:aU)(hS:St B h0 As fun h=>Rd h s 1 az b)(c6:s.len<=s.cap)(hn:name.size<=2^40)(W:dM m)(hp:bA m.p=true)(cs:0<=m.extra/\m.extra<=16)(c0:∀k∈m.drives,0<=k/\k<64)(c2:m.drives.length<=64)(dr:0<=m.seq)(a7:0<=m.next)(cf:b.length<=2^20)
  (H:aa B h0 h (bx bS a pw (bh x) offs da w ds::fS x m::As)):
  ab xv 86 #[xm (some a),xn name,s] h fun v h'=>v=xk xq (cK m offs w ds name b).1/\
   ∃y,aa B h0 h' (bx bS a pw (bh y) offs da (cK m offs w ds name b).2.2.1 (cK m offs w ds name b).2.2.2::fS y (cK m offs w ds name b).2.1::As):=by
 refine Eu (some a) name s ?_;unfold tf;have a0:=(hS.at [_,_] H).len;refine(Rm x m name s b.length a0 hn (H.at 1 rfl) W hp H).mono ?_;rintro _ h1 ⟨rfl,R1⟩;have H1:=H.up R1.ag;refine⟨_,rfl,bV (fun e=>?_) fun e1=>?_⟩
 ·have ep:cK m offs w ds name b=(cQ m (fO w offs) ds name b.length,m,w,ds):=by unfold cK;rw[if_pos e]
  rw[ep];exact⟨rfl,x,H1⟩
 obtain⟨z1,z2,z3,z4,z5⟩:=kz e1;have cr:¬m.p.1*m.p.2.2*8<(b.length:Int):=fun h=>z4 (.inl h);have b2:m.aL.length<=11:=by have:¬12<=m.aL.length:=fun h=>z4 (.inr h);omega
 have d0:bg ds m.drives≠[]:=fun h=>z5 (.inl h);have cc:m.next<=16777215:=by have:¬16777215<m.next:=fun h=>z5 (.inr (.inl h));omega
 have ei:m.seq<=2147483646:=by have:¬2147483647<=m.seq:=fun h=>z5 (.inr (.inr h));omega
 have h8:=Ci hp cr;have d4:name.size<=12:=by unfold lH at z2;simp at z2;omega
 have c9:=(aa.dj H1).2;have b0:gn h1 x m:=H1.at 1 rfl;refine⟨a,rfl,x.2.1,c9.cell rfl,H1.alloc ac rfl fun a4 h2 H2=>?_⟩;have H2:=H2.bH;refine H2.storeAll ac 0 rfl rfl (cl (name,x.2.1,(s.len:Int),⟨none,0,0⟩)) rfl rfl rfl rfl fun h3 H3=>?_;have H3:aa B h0 h3 (ar a4 170 (cl (name,m.next,(b.length:Int),⟨none,0,0⟩))::bx bS a pw (bh x) offs da w ds::fS x m::As):=by rw[<-b0.next,<-a0];exact H3
 have cp:∀{h':Heap},bZ h' a 138 (dD (bh x) pw offs da)->al h' (a.add 2) 0 [xk xq m.p.1,xk xq m.p.2.1,xk xq m.p.2.2]:=fun{h'} hb=>by
  rw[<-b0.p];exact⟨by rw[addr_add];exact hb.cell rfl,by rw[addr_add];exact hb.cell rfl,by rw[addr_add];exact hb.cell rfl,trivial⟩
 obtain⟨nb,L⟩:∃nb,nb=(splitB m.p b).length:=⟨_,rfl⟩
 have bd:countP m.p (s.len:Nat)=(nb:Int):=by
  have:=(lj hp b.length).1;rw[L,a0];unfold splitB;rw[qD,zy];omega
 refine bO (fun(t:Sl×Bool) h'=>(ct m.p m.next nb=none->t.2=false/\aa B h0 h' (bx bS a pw (bh x) offs da w ds::fS x m::As))/\(∀l,ct m.p m.next nb=some l->t.2=true/\aa B h0 h' (an 3 t.1 1 aC l::ar a4 170 (cl (name,m.next,(b.length:Int),⟨none,0,0⟩))::bx bS a pw (bh x) offs da w ds::fS x m::As))) ?_ ?_
 ·have c3:=H3.box 0 rfl;have X:=(aa.dj (H3.bo 3 [1,0,2])).2;refine⟨a,rfl,m.p,cp X,m.next,c3.cell rfl,a,rfl,m.p,cp X,(ue m.p s.len h3).mono ?_⟩;rintro _ h4 ⟨rfl,R4⟩;have H4:=H3.up R4.ag;have b6:=X.ag R4.ag X.lt;obtain⟨q1,q2,q3,_⟩:=cp b6;refine⟨_,rfl,⟨(H4.box 0 rfl).cell rfl,q1,q2,q3,trivial⟩,?_⟩;rw[bd];refine(Wg m.p m.next nb h4 (by omega)).mono ?_;rintro _ h5 ⟨T0,T1⟩;cases ht:ct m.p m.next nb with
  |none=>
   obtain⟨rfl,R5⟩:=T0 ht;exact⟨(⟨none,0,0⟩,false),rfl,trivial,fun _=>⟨rfl,(H4.up R5.ag).bo 3 [1,2]⟩,fun l h=>by cases h⟩
  |some l=>
   obtain⟨r,rfl,R5⟩:=T1 l ht;exact⟨(r,true),rfl,trivial,fun h=>(by cases h),fun l' h=>(by injection h with h;subst h;exact⟨rfl,H4.cX R5⟩)⟩
 rintro⟨j,tb⟩ h6 ⟨T0,T1⟩;dsimp only at T0 T1⊢;cases ht:ct m.p m.next nb with
 |none=>
  obtain⟨rfl,H6⟩:=T0 ht;have ep:cK m offs w ds name b=(8,m,w,ds):=by
   unfold cK;rw[if_neg (by rw[e1];decide),<-L,ht]
  rw[ep];exact be (fun _=>⟨rfl,x,H6⟩) fun e=>by cases e
 |some t=>
  obtain⟨rfl,H6⟩:=T1 t ht;refine be (fun e=>by cases e) fun _=>?_;have ew:=iH ht;refine H6.store ac 1 rfl rfl 3 [j] rfl rfl rfl (by simp) fun h7 H7=>?_;obtain⟨e,he⟩:∃e:Wl.cm,e=⟨name,m.next,b.length,t⟩:=⟨_,rfl⟩
  have H7:aa B h0 h7 (an 3 j 1 aC e.tries::ar a4 170 (cl (name,m.next,(b.length:Int),j))::bx bS a pw (bh x) offs da w ds::fS x m::As):=by rw[he];exact H7
  have H7:=H7.bo 4 [2,3,0,1];have du:St B h0 (fS x m::an 3 j 1 aC e.tries::ar a4 170 (cl (name,m.next,(b.length:Int),j))::As) fun h=>gn h x m/\fg nw h (name,m.next,(b.length:Int),j) e/\Rd h s 1 az b:=fun Bs h' i=>
   ⟨(St.kK 0 rfl fun _ o=>o) Bs h' i,(St.kK (A:=an 3 j 1 aC e.tries) (Q:=fun h=>fg nw h (name,m.next,(b.length:Int),j) e) 1 rfl fun h' o=>⟨by rw[he];exact⟨rfl,rfl,rfl⟩,o.1.seq (fun _=>rfl) o.2⟩) Bs h' i,(hS.cons.cons.cons) Bs h' i⟩
  refine⟨(name,m.next,(b.length:Int),j),(H7.box 3 rfl).aF _ rfl,?_⟩;refine(OK x m (name,m.next,(b.length:Int),j) e s b du c6 W hp cs cf (by rw[he,<-L];exact ht) H7).mono ?_;rintro _ d8 ⟨r,ys,rfl,H8⟩;obtain⟨live,c⟩:∃live,live=bg ds m.drives:=⟨_,rfl⟩
  obtain⟨l,hl⟩:∃l,l=cR m m.next t (splitB m.p b) live nb:=⟨_,rfl⟩
  have b3:cR m e.object e.tries (splitB m.p b) (bg ds m.drives) (splitB m.p b).length=l:=by rw[hl,he,<-c,<-L]
  rw[b3]at H8;refine⟨(r,true),rfl,H8.alloc ac rfl fun f h9 H9=>?_⟩;have H9:=H9.bH;refine H9.storeAll ac 0 rfl rfl [r] rfl rfl rfl rfl fun a1 q=>?_;refine be (fun e=>by cases e) fun _=>?_;obtain⟨n,U⟩:∃n,n=df m e:=⟨_,rfl⟩
  have q:aa B h0 a1 (ar f 143 [r]::bx bS a pw (bh x) offs da w ds::cS kv 2 piv r ys l::fS x m::an 3 j 1 aC e.tries::ar a4 170 (cl (name,m.next,(b.length:Int),j))::As):=q;have q:aa B h0 a1 (nL j 1 aC e.tries::bx bS a pw (bh x) offs da w ds::fS x m::cS kv 2 piv r ys l::ar f 143 [r]::ar a4 170 (cl (name,m.next,(b.length:Int),j))::As):=(q.freeze 4 rfl fun _=>rfl).bo 6 [4,1,3,2,0,5];have dd:((name,m.next,(b.length:Int),j):eC).1=e.name/\((name,m.next,(b.length:Int),j):eC).2.1=e.object/\((name,m.next,(b.length:Int),j):eC).2.2.1=e.length:=by rw[he];exact⟨rfl,rfl,rfl⟩
  have J:∀{h':Heap} {Cs:List HP},aa B h0 h' (nL j 1 aC e.tries::Cs)->gn h' x m->ab xv 151 #[gm x,Rk (name,m.next,(b.length:Int),j)] h' fun v dk=>∃y:cy,v=gm y/\aa B h0 dk (fS y n::Cs):=fun{h' Cs} i hx'=>by
   rw[U];exact YO x m _ e hx' W ⟨dr,by omega⟩ ⟨a7,by omega⟩ b2 dd i
  have K:=(aa.dj (q.bo 2 [1,0])).2;have M:=q.box 5 rfl;have a5:gn a1 x m:=q.at 2 rfl;refine bO (fun(t:Addr×Sl) h'=>∃y,aa B h0 h' (bx bS a pw (bh x) offs da w ds::fS x m::cS kv 2 piv r ys l::ar f 143 [r]::ar t.1 136 (bh y)::fS y n::an 3 t.2 1 aC live::As)) ?_ ?_
  ·refine⟨a,rfl,x,K.aF _ rfl,(name,m.next,(b.length:Int),j),M.aF _ rfl,?_,?_⟩
   ·refine(J q a5).mono ?_;rintro _ ef ⟨y,rfl,I⟩;have I:=I.bo 6 [1,2,3,4,0];refine⟨y,rfl,trivial,?_,?_⟩
    ·refine(gO x m (I.at 1 rfl) W I).mono ?_;rintro _ eo ⟨G,rfl,bq⟩;rw[<-c]at bq;have b9:=I.cX bq;refine⟨G,rfl,trivial,b9.alloc ac rfl fun ec ej ay=>⟨trivial,?_⟩⟩;have ay:=ay.bH;refine ay.storeAll ac 0 rfl rfl (bh y) rfl rfl rfl rfl fun d7 c8=>⟨trivial,y,?_⟩
     exact c8.bo 7 [2,3,4,5,0,6,1]
    ·refine I.alloc ac rfl fun a22 er S=>⟨trivial,?_⟩
     have S:=S.bH;have ad:=S.bo 6 [1,2,3,4,5,0];refine(gO x m (ad.at 1 rfl) W ad).mono ?_;rintro _ et ⟨G,rfl,bl⟩;rw[<-c]at bl;have cn:=(S.cX bl).bo 2 [1,0];refine⟨G,rfl,trivial,cn.storeAll ac 0 rfl rfl (bh y) rfl rfl rfl rfl fun ek cq=>⟨trivial,y,?_⟩⟩;exact cq.bo 7 [2,3,4,5,0,6,1]
   ·refine q.EV ac rfl fun d5 d3 bk Z=>?_;have d:=K.ag bk K.lt;have F:=M.ag bk M.lt;refine⟨⟨F.cell0 rfl,F.cell rfl,F.cell rfl,F.cell rfl,d.cell0 rfl,d.cell rfl,d.cell rfl,d.cell rfl,d.cell rfl,d.cell rfl,d.cell rfl,d.cell rfl,trivial⟩,?_⟩;have Z:=(Z.bH).bo 7 [1,0,2,3,4,5];refine(J Z (Z.at 3 rfl)).mono ?_;rintro _ eq ⟨y,rfl,c7⟩;have O:=c7.bo 6 [2,3,4,5,0,1];refine⟨y,rfl,trivial,(gO x m (O.at 1 rfl) W O).mono ?_⟩;rintro _ es ⟨G,rfl,br⟩;rw[<-c]at br;have c4:=(O.cX br).bo 7 [6,0,1,2,3,4,5];refine⟨G,rfl,trivial,c4.storeAll ac 0 rfl rfl (bh y) rfl rfl rfl rfl fun eb dy=>⟨trivial,y,?_⟩⟩;exact dy.bo 7 [2,3,4,5,0,6,1]
  rintro⟨am,G⟩ b7 ⟨y,R⟩;dsimp only at R⊢;have a2:dM n:=by rw[U];exact adE W b2 (by rw[he];show name.size<=2^30;omega) (by rw[he];show t.length<=2^30;omega)
  have d1:n.drives=m.drives:=by rw[U];rfl
  have ed:live.length<=64:=by rw[c];exact zk (zc _ _) c2
  have D:∀k∈live,0<=k/\k<64:=fun k hk=>by rw[c]at hk;exact c0 k (qJ.1 hk).1
  have a8:(m.p.1+m.extra).toNat<=32:=by have:=(bC m.p).1 hp;omega
  have eg:l.length<=256:=by
   rw[hl,xE];exact zJ (show nb<=8 by omega) a8
  have dx:∀z∈l,(0<=z.1/\z.1<64)/\z.2.length<=2^20:=fun z bb=>by
   rw[hl]at bb;obtain⟨p1,p2⟩:=Rv (m:=m) ⟨a7,cc⟩ (by rw[c];exact d0) D (show nb<=8 by omega) bb;exact⟨D _ p1,zk p2 (by decide)⟩
  refine⟨y,(R.box 4 rfl).aF _ rfl,(pB y n b7 (R.at 5 rfl) a2).mono ?_⟩;rintro _ en ⟨pg,rfl,a3⟩;have ah:=(aa.EY a3).1;have a6:=kG n a2;obtain⟨pn,bs⟩:∃pn,pn=(bf n).length:=⟨_,rfl⟩
  rw[<-bs]at ah a6;have b4:=R.up a3.ag;refine⟨pg,rfl,b4.alloc ac rfl fun u d2 ap=>?_⟩;have ap:=ap.bH;refine ap.storeAll ac 0 rfl rfl [xk xq (pg.len:Int)] rfl rfl rfl rfl fun dl E=>?_;rw[ah]at E;have E:aa B h0 dl (bx bS a pw (bh x) offs da w ds::fS x m::cS kv 2 piv r ys l::ar f 143 [r]::ar am 136 (bh y)::fS y n::an 3 G 1 aC live::ar u 3 [xk xq (pn:Int)]::As):=E.bo 8 [1,2,3,4,5,6,7,0];obtain⟨N,hN⟩:∃N,N=iJ pn l:=⟨_,rfl⟩
  obtain⟨T,P⟩:∃T,T=fS x m::cS kv 2 piv r ys l::ar f 143 [r]::ar am 136 (bh y)::fS y n::an 3 G 1 aC live::ar u 3 [xk xq (pn:Int)]::As:=⟨_,rfl⟩
  have tX:St B h0 T fun h=>gn h x m:=by rw[P];exact St.kK 0 rfl fun _ o=>o
  have tF:St B h0 T fun h=>mY kv 2 piv h r ys l:=by rw[P];exact St.kK 1 rfl fun _ o=>o
  have tB:St B h0 T fun h=>bZ h f 143 [r]:=by rw[P];exact St.kK (A:=ar f 143 [r]) 2 rfl fun _ o=>o.1
  have tM:St B h0 T fun h=>bZ h am 136 (bh y):=by rw[P];exact St.kK (A:=ar am 136 (bh y)) 3 rfl fun _ o=>o.1
  have tY:St B h0 T fun h=>gn h y n:=by rw[P];exact St.kK 4 rfl fun _ o=>o
  have tL:St B h0 T fun h=>Rd h G 1 aC live:=by rw[P];exact St.kK (A:=an 3 G 1 aC live) 5 rfl fun _ o=>o.1.seq (fun _=>rfl) o.2
  have tN:St B h0 T fun h=>bZ h u 3 [xk xq (pn:Int)]:=by rw[P];exact St.kK (A:=ar u 3 [xk xq (pn:Int)]) 6 rfl fun _ o=>o.1
  have tT:St B h0 T fun h=>Wk 152 #[] #[xm (some u),xm (some f)] N live h:=fun Bs h' i k hk=>by
   rw[hN];exact YZ k u f pn r ys l h' (by omega) (by omega) (tN Bs h' i) (tB Bs h' i) (tF Bs h' i)
  have fin:∀{h':Heap} {z:cy} {w':Pow} {ax:aX},aa B h0 h' (bx bS a pw (bh x) offs da w' ax::T)->aa B h0 h' (bx bS a pw (bh x) offs da w' ax::fS x m::As):=fun{h' z w' ax} i=>by
   rw[P]at i;exact i.bo 8 [0,1]
  rw[<-P]at E;have ep:cK m offs w ds name b=(if cU m ds live N=false then(7,m,w,ds)else if(makes m N live w ds).1≠0 then((makes m N live w ds).1,m,(makes m N live w ds).2)else
    if(layAll l (makes m N live w ds).2.1 (makes m N live w ds).2.2).1≠0 then((layAll l (makes m N live w ds).2.1 (makes m N live w ds).2.2).1,m,(layAll l (makes m N live w ds).2.1 (makes m N live w ds).2.2).2)else
    ((layAll (bE n live) (layAll l (makes m N live w ds).2.1 (makes m N live w ds).2.2).2.1 (layAll l (makes m N live w ds).2.1 (makes m N live w ds).2.2).2.2).1,if(layAll (bE n live) (layAll l (makes m N live w ds).2.1 (makes m N live w ds).2.2).2.1 (layAll l (makes m N live w ds).2.1 (makes m N live w ds).2.2).2.2).1=0 then n else m,(layAll (bE n live) (layAll l (makes m N live w ds).2.1 (makes m N live w ds).2.2).2.1 (layAll l (makes m N live w ds).2.1 (makes m N live w ds).2.2).2.2).2)):=by
   rw[hN,bs,hl,U,he,c];unfold cK;rw[if_neg (by rw[e1];decide),<-L,ht]
  rw[ep];refine(Wm 152 #[] #[xm (some u),xm (some f)] N x m G live (by rfl) (fun Bs h' i=>⟨tX Bs h' i,tT Bs h' i⟩) W (tL.at [_] E) (by omega) D E).mono ?_;rintro _ d9 ⟨rfl,c1⟩;have b1:=E.up c1.ag;refine⟨_,rfl,be (fun g=>?_) fun g=>?_⟩
  ·rw[if_pos g];exact⟨rfl,x,fin (z:=x) b1⟩
  rw[if_neg (by rw[g];decide)];refine(Wo 152 #[] #[xm (some u),xm (some f)] N x m G live (by rfl) (fun Bs h' i=>⟨tX Bs h' i,tT Bs h' i,tL Bs h' i⟩) W (by omega) D b1).mono ?_;rintro _ el ⟨rfl,Y⟩;obtain⟨m1,b5⟩:∃m1,m1=makes m N live w ds:=⟨_,rfl⟩
  rw[<-b5]at Y⊢;refine⟨_,rfl,bV (fun g2=>?_) fun g2=>?_⟩
  ·rw[if_pos g2];exact⟨rfl,x,fin (z:=x) Y⟩
  rw[if_neg (by simpa using g2)];refine⟨r,(tB.at [_] Y).cell0 rfl,(Gh r ys l tF (by omega) dx Y).mono ?_⟩;rintro _ eh ⟨rfl,V⟩;obtain⟨r2,cd⟩:∃r2,r2=layAll l m1.2.1 m1.2.2:=⟨_,rfl⟩
  rw[<-cd]at V⊢;refine⟨_,rfl,bV (fun g3=>?_) fun g3=>?_⟩
  ·rw[if_pos g3];exact⟨rfl,x,fin (z:=x) V⟩
  rw[if_neg (by simpa using g3)];refine⟨y,(tM.at [_] V).aF _ rfl,(Wr x y n G live (fun Bs h' i=>⟨tY Bs h' i,tL Bs h' i⟩) a2 (by omega) D V).mono ?_⟩;rintro _ d6 ⟨rfl,Q1,Q0⟩;refine⟨_,rfl,rfl,?_⟩;by_cases g4:(layAll (bE n live) r2.2.1 r2.2.2).1=0
  ·obtain⟨y2,a9⟩:=Q0 g4;rw[if_pos g4];rw[P]at a9;exact⟨y2,a9.bo 9 [0,1]⟩
  ·rw[if_neg g4];exact⟨x,fin (z:=x) (Q1 g4)⟩
end
end Go.Qw
namespace Go.Vc
open Go Wl Go.Qw
section
variable {α:Type} {B:aA} {h0 h:Heap} {As:List HP} {k:Nat} {f:α->aV} {L M:List (Sl×List α)}
theorem aa.abp(H:aa B h0 h (fH k f L::fH k f M::As)):aa B h0 h (fH k f (L++M)::As):=by
 have g:aa B h0 h ((fH k f M).sep (fH k f L)::As):=H.oO;refine g.ga 0 rfl fun q ⟨j,i,_,b,c,d,e⟩ y a=>?_;rcases qF.1 a with a|a
 ·exact(e y a).mono c
 ·exact(d y a).mono b
end
end Go.Vc
namespace Wl
open Go
def Du(o b:Int)(eP:List cV):List (Int×aU):=(eP.filter fun r=>decide (r.object=o)&&decide (r.block=b)).map fun r=>(r.id,r.data)
def xF(m:aD)(o b:Int)(l:cv):List (Int×aU):=((jm m l).filter fun r=>decide (r.object=o)&&decide (r.block=b)).map fun r=>(r.id,r.data)
def sC(m:aD)(ds:aX)(o b:Int)(k:Int):List (Int×aU):=match bR ds k with|some d=>xF m o b d.l|none=>[]
def gX(m:aD)(ds:aX)(a:aB)(o b:Int):List (Int×aU):=a.flatMap (sC m ds o b)
end Wl
namespace Go.Qw
open Go Go.Vc Go.Proofs Wl
abbrev afZ:bN C.toBq 58 77 2 [xk xq 0,xl none 0 0] 32:=⟨_,_,rfl,rfl,rfl,rfl,rfl,rfl⟩
def Wu(pool:List (Sl×aU))(p:(Int×Sl)×(Int×aU)):Prop:=p.1.1=p.2.1/\(p.1.2,p.2.2)∈pool
section
variable {B:aA} {h0 h:Heap} {As:List HP} {a pw:Addr} {offs:Int} {da:List aP} {w:Pow} {ds:aX} {mc:aV}
theorem Rw(x:cy)(m:aD)(s:Sl)(c:aB)(o b:Int)(hx:gn h x m)(hz:dM m)(hs:Rd h s 1 aC c)(hl:c.length<=2^10)(hd:∀k∈c,∃d,bR ds k=some d)(H:aa B h0 h (bx bS a pw mc offs da w ds::As)):
  ab xv 159 #[.func (.func 84) #[xm (some a)] #[],s,gm x,xk xq o,xk xq b] h fun v h'=>∃(r:Sl) (ys:List (Int×Sl)),v=r/\Sp h h' [cS kv 2 piv r ys (gX m ds c o b)]:=by
 refine Kk (84,#[xm (some a)],#[]) s x o b ?_;unfold DZ;have bk:=hs.len;refine(Sp.refl h).boxed fun a1 N H1=>?_;have H1:Sp h N [ar a1 136 (bh x)]:=H1;have H1:Sp h N [an 77 ⟨none,0,0⟩ 2 piv (([]:List ((Int×Sl)×(Int×aU))).map qK),fH 1 az [],ar a1 136 (bh x)]:=((H1.Ux 1 az).nil 77 2 piv).cj [2,0,1];refine au (fun t:Sl×Nat×List ((Int×Sl)×(Int×aU))×List (Sl×aU)=>(t.1,(t.2.1:Int))) (fun t h'=>t.2.1<=c.length/\t.2.2.1.length<=t.2.1*512/\t.2.2.1.map zE=gX m ds (c.take t.2.1) o b/\(∀p∈t.2.2.1,Wu t.2.2.2 p)/\Sp h h' [an 77 t.1 2 piv (t.2.2.1.map qK),fH 1 az t.2.2.2,ar a1 136 (bh x)]) (fun t=>c.length-t.2.1) (⟨none,0,0⟩,0,[],[]) rfl ⟨by simp,by simp,by simp[gX],by simp,H1⟩ ?_;rintro⟨u,i,L,P⟩ h2 ⟨hi,bl,M,X,Y⟩;dsimp only at*;refine ai (fun e=>?_) fun e=>?_
 ·have V:i<c.length:=by omega
  refine(Seq.up hs Y.ag).bt i rfl V c[i] rfl (aT ?_);obtain⟨d,A⟩:=hd c[i] (qh V);have Hc:=H.up Y.ag;obtain⟨ok,hb⟩:=aa.dj Hc;have f:=Y.box 2 rfl;refine⟨x,f.aF _ rfl,eS (by rfl) ?_⟩;refine(rC c[i] ok hb).mono ?_;rintro _ h3 ⟨rfl,rfl⟩;refine⟨_,rfl,⟨f.cell0 rfl,f.cell rfl,f.cell rfl,f.cell rfl,f.cell rfl,f.cell rfl,f.cell rfl,f.cell rfl,trivial⟩,?_⟩;rcases nS ok c[i]with⟨c1,c2⟩|⟨n,d',bb,c0,c1,c2,c3,c4,c5⟩
  ·rw[A]at c1;cases c1
  have am:d=d':=by rw[c3]at A;injection A with A;exact A.symm
  subst am;rw[c5];obtain⟨br,E,H3⟩:=Go.Vc.aa.mh Hc c2;rw[c4]at E;injection E with E
  injection E with E
  subst E;obtain⟨W,sd,bd,ah⟩:=aa.uc H3;have a7:=W.len;have a6:=W.room;refine(Gi bb pw d sd bd x m h3 (ah.box 0 rfl) ((ah.bo 2 [1]).MU fun _=>rfl) W (hx.up Y.ag) hz).mono ?_;rintro _ h4 ⟨r7,F,rfl,R4⟩;have a4:=AC m d.l;obtain⟨eP,G⟩:∃eP,eP=jm m d.l:=⟨_,rfl⟩
  rw[<-G]at R4 a4;have H4:=(Y.cX R4).bo 4 [1,2,0,3];have F4:=H4.fF 2 rfl;have bs:=F4.2.1;have b1:=F4.1.len;refine⟨r7,rfl,trivial,?_⟩;have ad:sC m ds o b c[i]=Du o b eP:=by unfold sC;rw[A];show xF m o b d.l=_;unfold xF Du;rw[G]
  have S:gX m ds (c.take (i+1)) o b=gX m ds (c.take i) o b++Du o b eP:=by
   unfold gX;rw[aH _ _ V,ze,zq,yj,qU,ad]
  obtain⟨Q,hQ⟩:∃Q:List (Sl×aU),Q=(F.zip eP).map fun z=>(z.1.2.2.2.2.2.2.2,z.2.data):=⟨_,rfl⟩
  refine au (fun t:Sl×Nat×List ((Int×Sl)×(Int×aU))=>(t.1,(t.2.1:Int))) (fun t h'=>t.2.1<=eP.length/\t.2.2.length<=L.length+t.2.1/\t.2.2.map zE=gX m ds (c.take i) o b++Du o b (eP.take t.2.1)/\(∀p∈t.2.2,Wu (P++Q) p)/\Sp h h' [an 77 t.1 2 piv (t.2.2.map qK),fH 1 az P,cS eJ 8 bI r7 F eP,ar a1 136 (bh x)]) (fun t=>eP.length-t.2.1) (u,0,L) rfl ⟨by simp,by simp,by simp[Du,M],fun p O=>⟨(X p O).1,List.mem_append_left _ (X p O).2⟩,H4⟩ ?_;rintro⟨Z,j,L2⟩ h5 ⟨hj,a9,J,T,H5⟩;dsimp only at*;have F5:=H5.fF 2 rfl;refine ai (fun e2=>?_) fun e2=>?_
  ·have ap:j<eP.length:=by omega
   have ax:=Fix.row F5 ap;obtain⟨⟨g1,g2,g3,g4,g5,g6,g7⟩,g8⟩:=ax;refine F5.1.ea (g:=bI) j rfl (by omega) (F[j]'(by omega)) rfl ?_;refine H5.alloc ac rfl fun ay h6 H6=>?_;refine H6.storeAll ac 4 rfl rfl (bI (F[j]'(by omega))) rfl rfl rfl rfl fun h7 U=>?_;have U:Sp h h7 [an 77 Z 2 piv (L2.map qK),fH 1 az P,cS eJ 8 bI r7 F eP,ar a1 136 (bh x),ar ay 233 (bI (F[j]'(by omega)))]:=U;have K:=U.box 4 rfl;have R:Du o b (eP.take (j+1))=Du o b (eP.take j)++(if(decide (eP[j].object=o)&&decide (eP[j].block=b))=true then[(eP[j].id,eP[j].data)]else[]):=by
    unfold Du;rw[aH _ _ ap,zg,qW,zo,y6];split<;>rfl
   have skip:(decide (eP[j].object=o)&&decide (eP[j].block=b))=false->∃I:Sl×Nat×List ((Int×Sl)×(Int×aU)),((⟨Z.ptr,Z.len,Z.cap⟩:Sl),qc xq ((j:Int)+1))=(I.1,(I.2.1:Int))/\(I.2.1<=eP.length/\I.2.2.length<=L.length+I.2.1/\I.2.2.map zE=gX m ds (c.take i) o b++Du o b (eP.take I.2.1)/\(∀p∈I.2.2,Wu (P++Q) p)/\Sp h h7 [an 77 I.1 2 piv (I.2.2.map qK),fH 1 az P,cS eJ 8 bI r7 F eP,ar a1 136 (bh x)])/\eP.length-I.2.1<eP.length-j:=fun hc=>
    ⟨(Z,j+1,L2),by dsimp only;rw[aj _];rfl,⟨by dsimp only;omega,by dsimp only;omega,by dsimp only;rw[R,hc];simpa using J,T,U.cj [0,1,2,3]⟩,by dsimp only;omega⟩
   refine⟨eP[j].object,by rw[<-g1];exact K.cell0 rfl,cz (fun q1=>?_) fun q1=>skip (by rw[decide_eq_false q1];rfl)⟩;refine⟨eP[j].block,by rw[<-g2];exact K.cell rfl,cz (fun q2=>?_) fun q2=>skip (by rw[decide_eq_false q2,Bool.and_false])⟩;refine⟨eP[j].id,by rw[<-g3];exact K.cell rfl,(F[j]'(by omega)).2.2.2.2.2.2.2,K.cell rfl,?_⟩;refine U.push ac 0 rfl afZ rfl (by decide) (fun _=>rfl) Mk (eP[j].id,(F[j]'(by omega)).2.2.2.2.2.2.2) (by kernel_rfl) (by decide) (by simp;omega) fun u3 b0 a5=>?_;refine⟨(u3,j+1,L2++[((eP[j].id,(F[j]'(by omega)).2.2.2.2.2.2.2),(eP[j].id,eP[j].data))]),by dsimp only;rw[aj _];rfl,⟨by dsimp only;omega,by simp;omega,?_,fun p O=>?_,?_⟩,by dsimp only;omega⟩
   ·dsimp only;rw[qW,J,R,if_pos (by rw[decide_eq_true q1,decide_eq_true q2];rfl),qo];rfl
   ·rcases qF.1 O with O|O
    ·exact T p O
    ·rw[qG.1 O];refine⟨rfl,List.mem_append_right _ ?_⟩;rw[hQ];refine qC.2 ⟨(F[j]'(by omega),eP[j]),?_,rfl⟩;rw[<-yX (h:=by simp;omega)];exact qh _
   ·dsimp only;rw[qW];exact a5.cj [0,1,2,3]
  ·have a3:j=eP.length:=by omega
   subst a3;rw[qX,<-S]at J;have a8:=F5.2.1;have H6:=(H5.ga 2 rfl (D:=fH 1 az Q) fun q hq y hy=>by
    rw[hQ]at hy;obtain⟨z,a0,rfl⟩:=qC.1 hy;obtain⟨k,hk,rfl⟩:=qE a0;have a2:k<eP.length:=by simp at hk;omega
    have:=(Fix.row hq a2).2;rw[yX];exact this).cj [1,2,0,3]
   have U:=aa.abp H6;refine⟨(Z,i+1,L2,P++Q),by dsimp only;rw[aj _];rfl,⟨by dsimp only;omega,by dsimp only;omega,J,T,U.cj [1,0,2]⟩,by dsimp only;omega⟩
 ·rw[qi (by omega)]at M;refine⟨u,L.map qK,rfl,?_⟩;have H3:=((Y.freeze 0 rfl fun _=>rfl).cj [1,0]).oO;refine H3.ga 0 rfl fun q ⟨q1,q2,_,bq,cq,z1,z2⟩=>?_;refine⟨z1.mono bq,by rw[<-M];simp,fun j r e N h2=>?_⟩;rw[<-M]at h2;rw[qO]at N h2;cases hj:L[j]? with
  |none=>rw[hj]at N;cases N
  |some p=>
   rw[hj]at N h2;have e1:=zO.inj (show some p.1=some r from N);have e2:=zO.inj (show some p.2=some e from h2);subst e1;subst e2;obtain⟨k1,k2⟩:=X p (List.mem_of_getElem? hj);exact⟨k1,(z2 _ k2).mono cq⟩
end
end Go.Qw
namespace Wl
open Go
end Wl
namespace Go.Qw
open Go Go.Vc Go.Proofs Wl
section
variable {B:aA} {h0 h:Heap} {As:List HP} {a pw:Addr} {offs:Int} {da:List aP} {w:Pow} {ds:aX}
theorem Wv(m:aD)(o b:Int)(l:cv):(xF m o b l).length<=l.length:=by
 unfold xF;rw[qD];exact zk (zc _ _) (AC m l)
end
end Go.Qw
namespace Wl
open Go
def Pow.calm(w:Pow):Prop:=w.off=false/\w.fuse=none
theorem xG:Pow.new.calm:=⟨rfl,rfl⟩
theorem sD{w:Pow}(h:w.calm):w.step=(true,w):=by unfold Pow.step;rw[if_neg (by simp[h.1]),h.2]
theorem Ih{w:Pow}(h:w.calm)(ds:aX)(x:Int)(b:aU):(eu w ds x b).2.1=w:=by
 unfold eu;cases bR ds x with
 |none=>rfl
 |some d=>
  dsimp only;unfold bv.append;split
  ·rfl
  ·split
   ·rfl
   ·split
    ·rfl
    ·split
     ·rfl
     ·rw[sD h];rfl
theorem NR{w:Pow}(h:w.calm)(ds:aX)(x:Int):(fU w ds x).2.1=w:=by
 unfold fU;cases bR ds x with
 |none=>rfl
 |some d=>
  dsimp only;unfold bv.sync;split
  ·rfl
  ·rw[sD h];rfl
theorem pD{w:Pow}(h:w.calm):∀(l:List (Int×aU)) (ds:aX),(kg l w ds).2.1=w
 |[],_=>rfl
 |x::l,ds=>by
  rw[uE,Ih h];split
  ·exact pD h l _
  ·exact Ih h _ _ _
theorem KP{w:Pow}(h:w.calm):∀(l:aB) (ds:aX),(jZ l w ds).2.1=w
 |[],_=>rfl
 |x::l,ds=>by
  rw[CD,NR h];split
  ·exact KP h l _
  ·exact NR h _ _
theorem abq{w:Pow}(h:w.calm)(l:List (Int×aU))(ds:aX):(layAll l w ds).2.1=w:=by
 unfold layAll;dsimp only;rw[pD h];split
 ·exact KP h _ _
 ·exact pD h _ _
theorem TE{w:Pow}{d:bv}{n:Nat}{b:aU}(h:w.calm)(a:d.lost=false)(e:d.l.length+(n+1)<=d.room)(c:b.length=64):d.append w b=(0,w,{d with l:=d.l++[b],wait:=d.wait+1,laid:=[],has:=false}):=by
 unfold bv.append;rw[if_neg (by omega),if_neg (by simp[a]),if_neg (by omega),if_neg (by simp[h.1]),sD h];rfl
theorem Za{w:Pow}{d:bv}(h:w.calm)(a:d.lost=false):d.sync w=(0,w,{d with wait:=0,laid:=[],has:=false}):=by
 unfold bv.sync;rw[if_neg (by simp[a]),sD h];rfl
theorem afc{ds:aX}{s:Int}{d:bv}(h:bR ds s=some d):0<=s/\s<64:=by
 obtain⟨n,rfl,a⟩:=kH h;omega
def KQ(ds:aX)(P:List (Int×aU))(s:Int):Option bv:=
 (bR ds s).map fun d=>{d with l:=d.l++(P.filter (fun x=>decide (x.1=s))).map zE,wait:=d.wait+(P.filter (fun x=>decide (x.1=s))).length,laid:=if(P.filter (fun x=>decide (x.1=s))).isEmpty then d.laid else[],has:=if(P.filter (fun x=>decide (x.1=s))).isEmpty then d.has else false}
theorem Gt{w:Pow}(h:w.calm){S:aB}:∀(P:List (Int×aU)) (ds:aX),Fit ds S (P.map qK)->(∀x∈P,x.1∈S/\x.2.length=64)->
  (kg P w ds).1=0/\Fit (kg P w ds).2.2 S []/\∀s,bR (kg P w ds).2.2 s=KQ ds P s
 |[],ds,F,_=>⟨rfl,F,fun s=>by unfold KQ;show bR ds s=_;cases bR ds s<;>simp⟩
 |x::P,ds,F,hP=>by
  obtain⟨d,g,m,q⟩:=F.at_ x.1 (hP x (q0 ..)).1;rw[wj,List.count_cons_self]at q;have i:=(hP x (q0 ..)).2;obtain⟨n,j,a⟩:=kH g;have c:=TE (n:=(P.map qK).count x.1) h m (by omega) i;have e:eu w ds x.1 x.2=(0,w,jb ds x.1 {d with l:=d.l++[x.2],wait:=d.wait+1,laid:=[],has:=false}):=by
   unfold eu;rw[g];dsimp only;rw[c]
  obtain⟨_,f⟩:=OI w x.2 (x:=x.1) (Q:=P.map qK) F (hP x (q0 ..)).1 i;rw[uE,e];rw[e]at f;dsimp only at f⊢;rw[if_pos rfl];obtain⟨r,o,a3⟩:=Gt h P _ f fun y k=>hP y (qY _ k);refine⟨r,o,fun s=>?_⟩;rw[a3 s];unfold KQ;rw[j,uv _ _ _ _ a F.len,<-j];by_cases b:s=x.1
  ·rw[if_pos b,b,g];simp only[qR,zo,decide_true,if_true,wj,zi,qo,List.singleton_append,List.isEmpty_cons,Bool.false_eq_true,if_false];congr 1;simp only[bv.mk.injEq,true_and,and_true];refine⟨by omega,?_,?_⟩<;>split<;>rfl
  ·rw[if_neg b];simp only[zo,decide_eq_true_eq,if_neg (show¬x.1=s from fun p=>b p.symm)]
theorem KR{w:Pow}(h:w.calm){S:aB}:∀(l:aB) (ds:aX),Fit ds S []->(∀x∈l,x∈S)->
  (jZ l w ds).1=0/\Fit (jZ l w ds).2.2 S []/\∀s,bR (jZ l w ds).2.2 s=(bR ds s).map fun d=>if s∈l then{d with wait:=0,laid:=[],has:=false}else d
 |[],ds,F,_=>⟨rfl,F,fun s=>by show bR ds s=_;cases bR ds s<;>simp⟩
 |x::l,ds,F,hl=>by
  obtain⟨d,f,j,o⟩:=F.at_ x (hl x (q0 ..));obtain⟨n,g,a⟩:=kH f;have e:fU w ds x=(0,w,jb ds x {d with wait:=0,laid:=[],has:=false}):=by
   unfold fU;rw[f];dsimp only;rw[Za h j]
  obtain⟨_,c⟩:=Tw w F (hl x (q0 ..));rw[CD,e];rw[e]at c;dsimp only at c⊢;rw[if_pos rfl];obtain⟨m,k,a3⟩:=KR h l _ c fun y i=>hl y (qY _ i);refine⟨m,k,fun s=>?_⟩;rw[a3 s,g,uv _ _ _ _ a F.len,<-g];by_cases b:s=x
  ·subst b;rw[if_pos rfl,f];simp only[qR,q8,true_or,if_true];congr 1;split<;>rfl
  ·rw[if_neg b];cases bR ds s with
   |none=>rfl
   |some d'=>simp[b]
end Wl
namespace Go.Qw
open Go Go.Vc Go.Proofs Wl
section
variable {B:aA} {h0 h h':Heap} {As:List HP} {a:Addr} {w:Pow}
end
section
variable {B:aA} {h0 h h':Heap} {As:List HP} {a pw:Addr} {d:bv} {w:Pow}
end
section
variable {B:aA} {h0 h h':Heap} {As:List HP}
end
theorem nz(p:Pm)(h:Heap):ab xv 66 #[ir p] h fun v h'=>v=xo (bA p)/\Sp h h' []:=by
 refine xO p ?_;unfold oq;refine(Sp.refl h).boxed fun a d j=>?_;have e:=j.box 0 rfl;have c:Sp h d []:=.zip j.ag;have i:cellOf d a=some (xk xq p.1):=e.cell0 rfl;have f:cellOf d (a.add 1)=some (xk xq p.2.1):=e.cell rfl;have g:cellOf d (a.add 2)=some (xk xq p.2.2):=e.cell rfl;unfold bA;refine⟨_,i,ai (fun b=>?_) (fun b=>⟨by rw[decide_eq_false b];rfl,c⟩)⟩;rw[decide_eq_true b];refine⟨_,i,ai (fun b=>?_) (fun b=>⟨by rw[decide_eq_false b];rfl,c⟩)⟩;rw[decide_eq_true b];refine⟨_,f,ai (fun b=>?_) (fun b=>⟨by rw[decide_eq_false b];rfl,c⟩)⟩;rw[decide_eq_true b];refine⟨_,f,ai (fun b=>?_) (fun b=>⟨by rw[decide_eq_false b];rfl,c⟩)⟩;rw[decide_eq_true b];refine⟨_,g,ai (fun b=>?_) (fun b=>⟨by rw[decide_eq_false b];rfl,c⟩)⟩;rw[decide_eq_true b];exact⟨_,g,rfl,c⟩
end Go.Qw
namespace Wl
open Go
end Wl
namespace Go.Qw
open Go Go.Vc Go.Proofs Wl
end Go.Qw
namespace Wl
open Go
end Wl
namespace Go.Qw
open Go Go.Vc Go.Proofs Wl
end Go.Qw
namespace Wl
open Go
def Has(ds:aX)(S:aB):Prop:=ds.length=64/\∀s∈S,∃d,bR ds s=some d
theorem Has.set{ds:aX}{S:aB}{n:Nat}{d:bv}(F:Has ds S)(a:n<64):Has (jb ds (n:Int) d) S:=by
 refine⟨by unfold jb;rw[zr];exact F.1,fun s b=>?_⟩;rw[uv _ _ _ _ a F.1];by_cases h:s=(n:Int)
 ·rw[if_pos h];exact⟨_,rfl⟩
 ·rw[if_neg h];exact F.2 s b
theorem Has.append{ds:aX}{S:aB}(F:Has ds S)(w:Pow)(x:Int)(b:aU):Has (eu w ds x b).2.2 S:=by
 unfold eu;cases hd:bR ds x with
 |none=>exact F
 |some d=>
  obtain⟨n,rfl,a⟩:=kH hd;exact F.set a
theorem Has.sync{ds:aX}{S:aB}(F:Has ds S)(w:Pow)(x:Int):Has (fU w ds x).2.2 S:=by
 unfold fU;cases hd:bR ds x with
 |none=>exact F
 |some d=>
  obtain⟨n,rfl,a⟩:=kH hd;exact F.set a
end Wl
namespace Go.Vc
open Go Wl
end Go.Vc
namespace Go.Qw
open Go Go.Vc Go.Proofs Wl
section
variable {B:aA} {h0 h h':Heap} {As:List HP} {a pw:Addr} {mc:aV} {offs:Int} {da:List aP} {w:Pow} {ds:aX}
end
section
variable {B:aA} {h0 h h':Heap} {As:List HP} {a pw:Addr} {mc:aV} {offs:Int} {da:List aP} {w:Pow} {ds:aX}
end
end Go.Qw
namespace Go.Vc
open Go Wl Go.Qw
def Bg(p:Pm)(extra:Int)(l:aB):Int:=
 if(fy l).2&&(bA p&&fh extra 0 16)then
  if(bi l l.length).any fun i=>decide (l.getD i.toNat 0<((bf (de p extra l)).length:Int))then 7 else 0
 else 1
theorem Ww(p:Pm)(extra:Int)(w:Pow)(l:aB):cT p extra w l=if Bg p extra l=0 then layAll (bE (de p extra l) (bi l l.length)) w (gr l (bi l l.length).length)else(Bg p extra l,w,[]):=by
 unfold cT Bg;by_cases h:((fy l).2&&(bA p&&fh extra 0 16))=true
 ·rw[if_pos h,if_pos h];by_cases a:((bi l l.length).any fun i=>decide (l.getD i.toNat 0<((bf (de p extra l)).length:Int)))=true
  ·rw[if_pos a,if_pos a];rfl
  ·rw[if_neg a,if_neg a];rfl
 ·rw[if_neg h,if_neg h];rfl
theorem KS{p:Pm}{extra:Int}{l:aB}(h:Bg p extra l=0):bA p=true/\0<=extra/\extra<=16/\(fy l).2=true/\((bi l l.length).any fun i=>decide (l.getD i.toNat 0<((bf (de p extra l)).length:Int)))=false:=by
 unfold Bg at h;by_cases a:((fy l).2&&(bA p&&fh extra 0 16))=true
 ·rw[if_pos a]at h;by_cases b:((bi l l.length).any fun i=>decide (l.getD i.toNat 0<((bf (de p extra l)).length:Int)))=true
  ·rw[if_pos b]at h;cases h
  ·unfold fh at a;simp only[qA,decide_eq_true_eq]at a;exact⟨a.2.1,a.2.2.1,a.2.2.2,a.1,by simpa using b⟩
 ·rw[if_neg a]at h;cases h
end Go.Vc
namespace Go.Qw
open Go Go.Vc Go.Proofs Wl
end Go.Qw
namespace Wl
def mv(m:aD)(l:cv):Bool:=bQ m&&(bf m).all fun p=>decide (p∈l)
end Wl
namespace Go.Qw
open Go Go.Vc Go.Proofs Wl
theorem Zb(a:Addr)(e:Sl)(p:aU)(l:Sl)(b:Cells)(h:Heap)(o:bZ h a 23 [e])(q:Rd h e 1 az p)(m:fo h l 1 az b)(w:b.length<=2^30):
  ab xv 294 #[l,.func (.func 295) #[] #[xm (some a)]] h fun v h'=>v=xo (decide (p∈b))/\h'=h:=by
 refine me l (295,#[],#[xm (some a)]) ?_;unfold iz;refine(nv l (295,#[],#[xm (some a)]) (R:=fun v h'=>(∃i:Int,v=xk xq i/\(decide (i>=0)=decide (p∈b)))/\h'=h) ?_).mono ?_
 ·unfold jt;have t:=m.len;refine au (fun i:Nat=>(i:Int)) (fun i h'=>i<=b.length/\p∉b.take i/\h'=h) (fun i=>b.length-i) 0 rfl ⟨by omega,by simp,rfl⟩ ?_;rintro i j ⟨n,c,rfl⟩;refine ai (fun k=>?_) (fun k=>?_)
  ·have d:i<b.length:=by
    have s:(i:Int)<(l.len:Int):=k;omega
   refine m.get i rfl d fun r u=>eS (by rfl) ?_;refine(Jc r a (R:=fun v h'=>v=xo (decide (b[i]=p))/\h'=j) ?_).mono ?_
   ·unfold BW;refine⟨e,o.cell0 rfl,(ws r e b[i] p j u q).mono ?_⟩;rintro _ _ ⟨rfl,rfl⟩;exact⟨_,rfl,rfl,rfl⟩
   ·rintro _ _ ⟨rfl,rfl⟩;refine⟨_,rfl,ai (fun g=>⟨⟨i,rfl,?_⟩,rfl⟩) (fun g=>?_)⟩
    ·rw[decide_eq_true (show(i:Int)>=0 by omega),decide_eq_true (by rw[<-g];exact qh d)]
    ·refine⟨i+1,by rw[aj _];rfl,⟨by omega,fun f=>?_,rfl⟩,by omega⟩;rw[aH _ _ d]at f;rcases qF.1 f with f|f
     ·exact c f
     ·exact g (qG.1 f).symm
  ·have s:¬(i:Int)<(l.len:Int):=k;rw[qi (by omega)]at c;exact⟨⟨-1,rfl,by rw[decide_eq_false c];rfl⟩,rfl⟩
 ·rintro _ j ⟨⟨i,rfl,n⟩,rfl⟩;exact⟨i,rfl,by rw[n],rfl⟩
theorem Wx(a pw:Addr)(d:bv)(s b:Sl)(x:cy)(m:aD)(h:Heap)(K:bZ h a 208 (gB pw d s b))(R:fo h s 1 az d.l)(ok:eM d)(N:gn h x m)(I:dM m):
  ab xv 235 #[xm (some a),gm x] h fun v h'=>v=xo (mv m d.l)/\Sp h h' []:=by
 refine Mc (some a) x ?_;unfold FS;have M:=ok.len;have G:=ok.room;refine(Sp.refl h).boxed fun z L y=>?_;have y:Sp h L [ar z 136 (bh x)]:=y;refine⟨x,(y.box 0 rfl).aF _ rfl,(QR x m L (N.up y.ag) I).mono ?_⟩;rintro _ W ⟨rfl,S⟩;have B:Sp h W [ar z 136 (bh x)]:=y.up S.ag;refine⟨_,rfl,be (fun g=>⟨by unfold mv;rw[g];rfl,.zip B.ag⟩) fun g=>?_⟩;refine(QQ s b (K.ag B.ag K.lt) (R.up B.ag) ok).mono ?_;rintro _ h3 ⟨q,rfl,X⟩;have F:Sp h h3 [ar z 136 (bh x),dR q d.l]:=B.comp X;refine⟨q,rfl,x,(F.box 0 rfl).aF _ rfl,(pB x m h3 (N.up F.ag) I).mono ?_⟩;rintro _ Y ⟨o,rfl,T⟩;have w:Sp h Y [ar z 136 (bh x),dR q d.l,dR o (bf m)]:=F.comp T;have H:=kG m I;obtain⟨c,k⟩:∃c,c=bf m:=⟨_,rfl⟩
 rw[<-k]at w H;have Q:=(aa.EY (w.bo 3 [2])).1;refine⟨o,rfl,?_⟩;obtain⟨rs,w⟩:=(w.cj [2,1]).aaV fun _=>rfl;refine au (fun i:Nat=>(i:Int)) (fun i h'=>i<=c.length/\((c.take i).all fun p=>decide (p∈d.l))=true/\Sp h h' [cS (ft 1 az) 1 bD o rs c,dR q d.l]) (fun i=>c.length-i) 0 rfl ⟨by omega,by simp,w⟩ ?_;rintro i h5 ⟨hi,f,A⟩;have V:=(A.fF 0 rfl).2.1;refine ai (fun e=>?_) (fun e=>?_)
 ·have n:i<c.length:=by
   have U:(i:Int)<(o.len:Int):=e;omega
  refine(A.fF 0 rfl).1.nM i rfl (by omega) ?_;obtain⟨r,O⟩:∃r,r=rs[i]'(by omega):=⟨_,rfl⟩
  rw[<-O];refine A.alloc ac rfl fun u Z P=>?_;refine P.storeAll ac 2 rfl rfl [r] rfl rfl rfl rfl fun J j=>?_;have j:Sp h J [cS (ft 1 az) 1 bD o rs c,dR q d.l,ar u 23 [r]]:=j;have t:Rd J r 1 az c[i]:=by rw[O];exact Fix.row (j.fF 0 rfl) n
  have E:=aa.MU (j.bo 2 [1]) fun _=>rfl;refine(Zb u r c[i] q d.l J (j.box 2 rfl) t E (by omega)).mono ?_;rintro _ h8 ⟨rfl,rfl⟩;refine⟨_,rfl,be (fun D=>⟨?_,.zip j.ag⟩) fun D=>?_⟩
  ·have:mv m d.l=false:=by
    unfold mv;rw[g,zU,<-k];exact yt.2 ⟨c[i],qh n,by rw[D];simp⟩
   rw[this]
  ·refine⟨i+1,by rw[aj _];rfl,⟨by omega,?_,j.cj [0,1]⟩,by omega⟩;rw[aH _ _ n,List.all_append,f,vS,List.all_nil,D];rfl
 ·have:i=c.length:=by
   have U:¬(i:Int)<(o.len:Int):=e;omega
  subst this;rw[qX]at f;exact⟨by unfold mv;rw[g,<-k,f];rfl,.zip A.ag⟩
end Go.Qw
namespace Go.Vc
open Go Wl Go.Qw
theorem abr{w:Pow}(h:w.calm){S:aB}(P:List (Int×aU))(ds:aX)(F:Fit ds S (P.map qK))(c:∀x∈P,x.1∈S/\x.2.length=64):
  (layAll P w ds).1=0/\Fit (layAll P w ds).2.2 S []/\∀s,bR (layAll P w ds).2.2 s=(KQ ds P s).map fun d=>if s∈fJ (P.map qK)then{d with wait:=0,laid:=[],has:=false}else d:=by
 obtain⟨l,k,a3⟩:=Gt h P ds F c;have e:=pD h P ds;unfold layAll;dsimp only;rw[if_pos l,e];obtain⟨f,j,g⟩:=KR h (S:=S) (fJ (P.map qK)) (kg P w ds).2.2 k fun x b=>by
  unfold fJ at b;have a:=(qJ.1 b).2;obtain⟨y,i,rfl⟩:=qC.1 (of_decide_eq_true a);exact(c y i).1
 exact⟨f,j,fun s=>by rw[g s,a3 s]⟩
theorem Er(l:aB)(k:Nat):(bi l k).Pairwise (·<·):=by
 unfold bi;refine List.Pairwise.filter _ (List.pairwise_map.2 ?_);exact(List.pairwise_lt_range (n:=k)).imp fun h=>by omega
theorem adF{l:aB}{a:Int}(f:l.Pairwise (·<·))(d:∀x∈l,0<=x/\x<=a):oT l a=true:=by
 unfold oT;refine sM fun i c=>?_;unfold jd fh;have e:l.getD i 0=l[i]:=by rw[qe,qd c];rfl
 have:=d l[i] (qh c);rw[e,decide_eq_true this.1,decide_eq_true this.2,zU,zU];by_cases h0:i=0
 ·rw[decide_eq_true h0];rfl
 ·have b:l.getD (i-1) 0=l[i-1]:=by rw[qe,qd (by omega)];rfl
  rw[b,decide_eq_true (List.pairwise_iff_getElem.1 f (i-1) i (by omega) c (by omega)),Bool.or_true]
theorem Rx{p:Pm}{extra:Int}{l:aB}(h:l.length<=64)(d:Bg p extra l=0):bQ (de p extra l)=true:=by
 obtain⟨f,c,h3,_⟩:=KS d;have b:kb (de p extra l)=true:=by
  unfold kb fh de;simp[f,c,h3]
 have e:oT (de p extra l).drives 63=true:=adF (Er l l.length) fun x a=>by
  obtain⟨n,g,rfl,_⟩:=(wT l l.length x).1 a;omega
 unfold bQ;rw[b,e];rfl
end Go.Vc
namespace Wl
open Go
theorem Zc{ds:aX}{k:Int}{d:bv}(h:bR ds k=some d):jb ds k d=ds:=by
 unfold bR at h;split at h
 ·rename_i b;unfold jb;cases hx:ds[k.toNat]? with
  |none=>rw[hx]at h;cases h
  |some o=>
   rw[hx]at h;have h:o=some d:=h;subst h;obtain⟨c,a⟩:=qn.1 hx;rw[<-a,List.set_getElem_self]
 ·cases h
theorem roomy{m:aD}{w:Pow}{N:Int->Int}:∀{live:aB} {ds:aX},(∀k∈live,∃d,bR ds k=some d/\d.lost=false/\0<=N k/\(d.l.length:Int)+N k<=d.room)->cU m ds live N=true/\makes m N live w ds=(0,w,ds)
 |[],ds,_=>⟨rfl,rfl⟩
 |k::live,ds,h=>by
  obtain⟨d,a,f,h3,n⟩:=h k q0;obtain⟨b,i⟩:=roomy (m:=m) (w:=w) (N:=N) (live:=live) (ds:=ds) fun k g=>h k (qY _ g);have e:gu d d.l.length (N k)=true:=decide_eq_true (by omega);have c:mI m d (N k)=true:=by unfold mI;rw[f,e];rfl
  have j:fl m w ds k (N k)=(0,w,ds):=by
   unfold fl;rw[a];have:gE m w d (N k)=(0,w,d):=by unfold gE;rw[if_neg (by simp[f]),if_neg (by simp[c]),if_pos e]
   dsimp only;rw[this];dsimp only;rw[Zc a]
  refine⟨?_,?_⟩
  ·unfold cU at b⊢;rw[vS,b,Bool.and_true];unfold mj;rw[a];exact c
  ·show(if(fl m w ds k (N k)).1=0 then makes m N live (fl m w ds k (N k)).2.1 (fl m w ds k (N k)).2.2 else fl m w ds k (N k))=_;rw[j];exact i
end Wl
namespace Go.Vc
open Go Wl Go.Qw
theorem Zd(l:List (Int×aU))(k:Int):(l.map qK).count k=(l.filter fun y=>decide (y.1=k)).length:=by
 induction l with
 |nil=>rfl
 |cons y l ih=>
  rw[wj,List.count_cons,ih,zo];by_cases h:y.1=k
  ·rw[if_pos (decide_eq_true h),if_pos (by simpa using h)];rfl
  ·rw[if_neg (by simpa using h),if_neg (by simpa using h)];rfl
theorem Gu(n:aD)(k:Int):∀{live:aB},live.Nodup->k∈live->((bE n live).filter fun y=>decide (y.1=k)).map zE=bf n
 |[],_,hk=>by cases hk
 |x::live,hnd,hk=>by
  have e:bE n (x::live)=(bf n).map (fun c=>(x,c))++bE n live:=by unfold bE;rw[zq]
  obtain⟨i,b⟩:=yK.1 hnd;rw[e,zg,qW];by_cases a:x=k
  ·subst a;have g:((bf n).map (fun c=>(x,c))).filter (fun y=>decide (y.1=x))=(bf n).map (fun c=>(x,c)):=List.filter_eq_self.2 fun y d=>by
    obtain⟨c,_,rfl⟩:=qC.1 d;exact decide_eq_true rfl
   have j:(bE n live).filter (fun y=>decide (y.1=x))=[]:=wP.2 fun y d=>by
    have:=(jT d).1;have f:y.1≠x:=fun h=>i (h▸this);simpa using f
   rw[g,j,vj,qU,w5];exact List.map_id _
  ·have g:((bf n).map (fun c=>(x,c))).filter (fun y=>decide (y.1=k))=[]:=wP.2 fun y d=>by
    obtain⟨c,_,rfl⟩:=qC.1 d;simpa using a
   rw[g,vj,List.nil_append];rcases q8.1 hk with h|h
   ·exact absurd h.symm a
   ·exact Gu n k b h
end Go.Vc
namespace Go.Qw
open Go Go.Vc Go.Proofs Wl
theorem adG{p:Pm}{seed:Int}{d:Row}{K H w n:Nat}(B:bM p seed d K H w n)(id:Int):xD p seed d id=if bp id then ff w (dE p seed d) (cA n seed id)else[]:=by
 unfold xD;rw[B.nD,show p.2.2.toNat=w by have:=B.s;omega]
theorem Ry{m:aD}{o i seed:Int}{d:Row}{id:Int}{K H w n:Nat}(B:bM m.p seed d K H w n)(c:0<=o/\o<=16777215)(a:0<=i/\i<=7)(hid:0<=id/\id<=65535):iC (kV m o i seed d id)=true:=by
 rw[jO];refine⟨c,a,hid,B.may,?_⟩;have b:bp id=true:=by unfold bp;rw[decide_eq_true hid.1,decide_eq_true hid.2];rfl
 show((xD m.p seed d id).length:Int)=m.p.2.2;rw[adG B id,if_pos b,B.Qc id,B.s]
def rn(m:aD)(o:Int)(a:aB)(b:cv)(live:aB)(k:Int)(i:Nat):List cV:=
 ((qy (m.p.1+m.extra).toNat).filter fun id=>decide (sB (gH o i live) (id:Nat)=k)).map fun id:Nat=>kV m o i (cE o i (a.getD i 0)) (b.getD i []) id
def gP(m:aD)(o:Int)(a:aB)(b:cv)(live:aB)(k:Int)(n:Nat):List cV:=(qy n).flatMap (rn m o a b live k)
theorem Rz(m:aD)(o:Int)(a:aB)(b:cv)(live:aB)(k:Int)(n:Nat):gP m o a b live k (n+1)=gP m o a b live k n++rn m o a b live k n:=by
 unfold gP;rw[zt,ze,zq,yj,qU]
theorem Gv(m:aD)(o:Int)(a:aB)(b:cv)(live:aB)(k:Int)(i:Nat):((mu m o a b live i).filter fun y=>decide (y.1=k)).map zE=(rn m o a b live k i).map dI:=by
 unfold mu rn;rw[List.filter_map,w5,w5];rfl
theorem Es(m:aD)(o:Int)(a:aB)(b:cv)(live:aB)(k:Int):∀n,((cR m o a b live n).filter fun y=>decide (y.1=k)).map zE=(gP m o a b live k n).map dI
 |0=>by simp[cR,gP]
 |n+1=>by rw[sZ,Rz,zg,qW,qW,Es m o a b live k n,Gv]
theorem Wy{m:aD}{o:Int}{a:aB}{b:cv}{live:aB}{k:Int}{i:Nat}{r:cV}(h:r∈rn m o a b live k i):∃id:Nat,r=kV m o i (cE o i (a.getD i 0)) (b.getD i []) id/\id<(m.p.1+m.extra).toNat:=by
 unfold rn at h;obtain⟨id,c,rfl⟩:=qC.1 h;exact⟨id,rfl,qI.1 (qJ.1 c).1⟩
theorem KT{m:aD}{o:Int}{a:aB}{b:cv}{live:aB}{k:Int}{n:Nat}{r:cV}(h:r∈gP m o a b live k n):∃(i id:Nat),r=kV m o i (cE o i (a.getD i 0)) (b.getD i []) id/\i<n/\id<(m.p.1+m.extra).toNat:=by
 unfold gP at h;obtain⟨i,d,e⟩:=zQ.1 h;obtain⟨id,c,h3⟩:=Wy e;exact⟨i,id,c,qI.1 d,h3⟩
end Go.Qw
namespace Wl
open Go
def dS(m:aD)(d:bv)(n:Int):bv:=if gu d d.l.length n then d else{d with l:=jH m d.l,wait:=0,laid:=[],has:=false}
theorem Wz{m:aD}{r:cV}(h:dv m r=true):iC r=true:=by
 unfold dv at h;simp only[qA]at h;exact h.1
theorem abs{l:List cV}{r:cV}(h:r∈oW l):r∈l:=by
 unfold oW at h;obtain⟨i,a,rfl⟩:=qC.1 h;have a:=qI.1 (qJ.1 a).1;rw[qe,qd a];exact qh a
theorem WA{m:aD}{c:aU}{r:cV}(h:dP m c=some r):cP c=some r/\dv m r=true:=by
 unfold dP at h;cases hc:cP c with
 |none=>rw[hc]at h;cases h
 |some x=>
  rw[hc]at h;dsimp only at h;by_cases a:dv m x=true
  ·rw[if_pos a]at h;injection h with h;subst h;exact⟨rfl,a⟩
  ·rw[if_neg a]at h;cases h
theorem Dv{m:aD}{l:cv}{r:cV}(h:r∈jm m l):∃c∈l,cP c=some r/\dv m r=true:=by
 have h:=yB.1 (abs h);obtain⟨c,a,b⟩:=List.mem_filterMap.1 h;exact⟨c,a,WA b⟩
theorem WB(m:aD)(l:cv):∀c∈jH m l,c.length=64:=fun c a=>by
 rcases qF.1 a with h|h
 ·exact CI h
 ·obtain⟨r,b,rfl⟩:=qC.1 h;obtain⟨_,_,_,d⟩:=Dv b;exact PS (Wz d)
theorem RB{w:Pow}(a:w.calm){d:bv}{l:cv}(e:∀c∈l,c.length=64)(g:d.lost=false)(h:l.length<=d.room):d.rewrite w l=(0,w,{d with l:=l,wait:=0,laid:=[],has:=false}):=by
 unfold bv.rewrite;have:l.all (fun b=>decide (b.length=64))=true:=qN.2 fun c f=>decide_eq_true (e c f);rw[if_neg (by simp[this]),if_neg (by simp[g]),if_neg (by omega),if_neg (by simp[a.1]),sD a];rfl
theorem WC{w:Pow}(e:w.calm){m:aD}{d:bv}{n:Int}(h:mI m d n=true):gE m w d n=(0,w,dS m d n):=by
 have h0:=h;unfold mI at h;rw[qA,wv,ye]at h;obtain⟨c,b⟩:=h;unfold gE dS;rw[if_neg (by simp[c]),if_neg (by simp[h0])];by_cases a:gu d d.l.length n=true
 ·rw[if_pos a,if_pos a]
 ·rw[if_neg a,if_neg a];have h3:gu d (jH m d.l).length n=true:=by
   rcases b with b|b
   ·exact absurd b a
   ·exact b
  unfold gu at h3;rw[decide_eq_true_eq]at h3;exact RB e (WB m d.l) c (by omega)
theorem RC(m:aD)(ds:aX)(k:Int)(l:aB)(N:Int->Int):cU m ds (k::l) N=(mj m ds k (N k)&&cU m ds l N):=vS
theorem Bh{m:aD}{ds:aX}{k n:Int}(h:mj m ds k n=true):∃d,bR ds k=some d/\mI m d n=true:=by
 unfold mj at h;cases hd:bR ds k with
 |none=>rw[hd]at h;cases h
 |some d=>rw[hd]at h;exact⟨d,rfl,h⟩
theorem abt(ds:aX)(k:Int)(d:bv):(jb ds k d).length=ds.length:=by unfold jb;simp
theorem abu{ds:aX}{k:Int}{c d:bv}(a:ds.length=64)(e:bR ds k=some c)(s:Int):bR (jb ds k d) s=if s=k then some d else bR ds s:=by
 obtain⟨n,rfl,b⟩:=kH e;exact uv ds n d s b a
theorem OL{m:aD}{ds a:aX}{l:aB}{N:Int->Int}(h:∀k∈l,bR ds k=bR a k):cU m ds l N=cU m a l N:=by
 unfold cU;rw[Bool.eq_iff_iff,qN,qN];refine forall_congr' fun k=>forall_congr' fun b=>?_;unfold mj;rw[h k b]
theorem Dw{w:Pow}(l:w.calm){m:aD}{N:Int->Int}:∀{live:aB} {ds:aX},live.Nodup->ds.length=64->cU m ds live N=true->
  ∃a,makes m N live w ds=(0,w,a)/\a.length=64/\∀k,bR a k=(bR ds k).map fun d=>if k∈live then dS m d (N k)else d
 |[],ds,_,h64,_=>⟨ds,rfl,h64,fun k=>by cases bR ds k<;>simp⟩
 |k::live,ds,hnd,h64,hf=>by
  rw[RC,qA]at hf;obtain⟨b,c⟩:=yK.1 hnd;obtain⟨d,j,i⟩:=Bh hf.1;have e:fl m w ds k (N k)=(0,w,jb ds k (dS m d (N k))):=by
   unfold fl;rw[j];dsimp only;rw[WC l i]
  have g:=abu (d:=dS m d (N k)) h64 j;have h:cU m (jb ds k (dS m d (N k))) live N=true:=by
   rw[<-OL (ds:=ds) fun s f=>?_]
   ·exact hf.2
   ·rw[g,if_neg (fun o:s=k=>b (o▸f))]
  obtain⟨a,n,p,h3⟩:=Dw l c (by rw[abt];exact h64) h;refine⟨a,?_,p,fun s=>?_⟩
  ·show(if(fl m w ds k (N k)).1=0 then makes m N live (fl m w ds k (N k)).2.1 (fl m w ds k (N k)).2.2 else fl m w ds k (N k))=_;rw[e];exact n
  ·rw[h3 s,g];by_cases f:s=k
   ·subst f;rw[if_pos rfl,j];simp[b]
   ·rw[if_neg f];simp[f]
theorem KU{m:aD}{d:bv}{n:Int}(h:mI m d n=true):(dS m d n).lost=false/\(dS m d n).room=d.room/\((dS m d n).l.length:Int)+max n 0<=d.room:=by
 unfold mI at h;rw[qA,wv,ye]at h;obtain⟨c,b⟩:=h;unfold dS;by_cases a:gu d d.l.length n=true
 ·rw[if_pos a];unfold gu at a;rw[decide_eq_true_eq]at a;exact⟨c,rfl,by omega⟩
 ·rw[if_neg a];have h3:gu d (jH m d.l).length n=true:=by
   rcases b with b|b
   ·exact absurd b a
   ·exact b
  unfold gu at h3;rw[decide_eq_true_eq]at h3;exact⟨c,rfl,by dsimp only;omega⟩
theorem TF(a:ByteArray):eG a a=false:=XH _
theorem Ze{a b:ByteArray}(h:je a b=true)(c:a≠b):eG a b=true:=by
 rcases(JK a b).1 h with h|h
 ·exact h
 ·exact absurd (CR h) c
theorem Gw{a b:ByteArray}(h:eG a b=true):a≠b:=fun e=>by subst e;rw[TF]at h;cases h
theorem afd:Ord tH:=⟨fun a b c e d=>Ff _ _ _ e d,fun a b=>Fg _ _⟩
theorem nT{m:aD}{x e:cm}:e∈(df m x).aL↔e∈m.aL∨e=x:=by
 show e∈(m.aL++[x]).mergeSort tH↔_;rw[yB];simp
end Wl
namespace Go.Qw
open Go Go.Vc Go.Proofs Wl
theorem Zf{name:ByteArray}{l:List Wl.cm}(h:l.any (dX name)=false):∀e∈l,e.name≠name:=fun e b a=>by
 have:=wV.1 h e b;unfold dX at this;rw[a]at this;simp at this
theorem Zg{m:aD}{x:Wl.cm}(F:bQ m=true)(f:lH x.name=true)(g:∀e∈m.aL,e.name≠x.name)(i:x.object=m.next)(I:m.aL.length<=11)(J:m.next<=16777215)(L:m.seq<=2147483646)
  (n:0<=x.length/\x.length<=m.p.1*m.p.2.2*8) (G:∀t∈x.tries,0<=t/\t<=15) (D:(x.tries.length:Int)=countP m.p x.length):bQ (df m x)=true:=by
 obtain⟨A,E,h3,N,s,v,H⟩:=(cD m).1 F;obtain⟨M,K,a3,a4⟩:=(dW m).1 A;have c:(df m x).aL.Perm (m.aL++[x]):=wB _ _;have j:∀e∈m.aL,e.object<m.next:=fun e k=>((iv m e).1 (s e k)).2.1.2;refine(cD _).2 ⟨(dW _).2 ⟨⟨?_,?_⟩,⟨?_,?_⟩,a3,a4⟩,E,h3,?_,fun e k=>?_,?_,?_⟩
 ·show 1<=m.seq+1;omega
 ·show m.seq+1<=_;omega
 ·show 0<=m.next+1;omega
 ·show m.next+1<=_;omega
 ·rw[c.length_eq];simp;omega
 ·rcases nT.1 k with k|rfl
  ·obtain⟨y,B,z,w,u⟩:=(iv m e).1 (s e k);exact(iv _ e).2 ⟨y,⟨B.1,by show _<m.next+1;omega⟩,z,w,u⟩
  ·exact(iv _ _).2 ⟨f,⟨by omega,by show _<m.next+1;omega⟩,n,G,D⟩
 ·have d:(m.aL++[x]).Pairwise (fun a b:Wl.cm=>a.name≠b.name):=wL.2 ⟨v.imp fun h=>Gw h,List.pairwise_singleton _ _,fun a r b q=>by rw[qG.1 q];exact g a r⟩;have l:=(c.pairwise_iff (R:=fun a b:Wl.cm=>a.name≠b.name) fun{a b} h=>Ne.symm h).2 d;have o:(df m x).aL.Pairwise (fun a b=>tH a b=true):=(Fc afd (m.aL++[x])).1;exact(o.and l).imp fun h=>Ze h.1 h.2
 ·have d:(m.aL++[x]).Pairwise (fun a b:Wl.cm=>a.object≠b.object):=wL.2 ⟨H,List.pairwise_singleton _ _,fun a r b q=>by rw[qG.1 q,i];have:=j a r;omega⟩;exact(c.pairwise_iff (R:=fun a b:Wl.cm=>a.object≠b.object) fun{a b} h=>Ne.symm h).2 d
theorem TG{p:Pm}{o:Int}{n:Nat}{t:aB}(h:ct p o n=some t):∀x∈t,0<=x/\x<=15:=fun x b=>by
 obtain⟨i,d,rfl⟩:=qE b;obtain⟨k,c,a⟩:=AA h i d;have:=(Gk a).1;rw[c];omega
theorem Gx{p:Pm}(a:bA p=true)(b:aU):((splitB p b).length:Int)=countP p b.length:=by
 have:=(lj a b.length).1;unfold splitB;rw[qD,zy];omega
theorem abv{m:aD}{d:Bool}{ds:aX}{name:ByteArray}{b:aU}{t:aB}(f:bQ m=true)(l:cQ m d ds name b.length=0)(g:ct m.p m.next (splitB m.p b).length=some t):bQ (df m ⟨name,m.next,b.length,t⟩)=true:=by
 obtain⟨n,j,z3,z4,z5⟩:=kz l;have i:¬m.p.1*m.p.2.2*8<(b.length:Int):=fun h=>z4 (.inl h);have e:m.aL.length<=11:=by have:¬12<=m.aL.length:=fun h=>z4 (.inr h);omega
 have c:m.next<=16777215:=by have:¬16777215<m.next:=fun h=>z5 (.inr (.inl h));omega
 have a:m.seq<=2147483646:=by have:¬2147483647<=m.seq:=fun h=>z5 (.inr (.inr h));omega
 have k:=((dW m).1 ((cD m).1 f).1).2.2.1;refine Zg f j (Zf z3) rfl e c a ⟨by show 0<=(b.length:Int);omega,by show(b.length:Int)<=_;omega⟩ (TG g) ?_;show(t.length:Int)=countP m.p b.length;rw[iH g,Gx k]
end Go.Qw
namespace Wl
open Go
def eE(a:cv)(d:bv):bv:=if a.isEmpty then d else{d with l:=d.l++a,wait:=0,laid:=[],has:=false}
def jV(P:List (Int×aU))(s:Int):cv:=(P.filter fun x=>decide (x.1=s)).map zE
theorem RD{P:List (Int×aU)}{s:Int}(h:∀x∈P,x.1≠s):jV P s=[]:=by
 unfold jV;rw[wP.2 fun x a=>by simpa using h x a];rfl
theorem RE(P:List (Int×aU))(s:Int):(jV P s).length=(P.map qK).count s:=by
 unfold jV;rw[qD];exact(Go.Vc.Zd P s).symm
theorem Ii{l:aB}{s:Int}(h:0<=s/\s<64):s∈fJ l↔s∈l:=by
 unfold fJ;rw[qJ,decide_eq_true_eq];refine⟨fun h=>h.2,fun h'=>⟨?_,h'⟩⟩;exact qC.2 ⟨s.toNat,qI.2 (by omega),by omega⟩
theorem KV{w:Pow}(n:w.calm){ds:aX}{P:List (Int×aU)}(m:ds.length=64)
  (a:∀x∈P,x.2.length=64/\∃d,bR ds x.1=some d/\d.lost=false/\d.l.length+(jV P x.1).length<=d.room):
  ∃b,layAll P w ds=(0,w,b)/\b.length=64/\∀s,bR b s=(bR ds s).map (eE (jV P s)):=by
 have F:Fit ds (P.map qK) (P.map qK):=⟨m,fun k r=>by
  obtain⟨x,g,rfl⟩:=qC.1 r;obtain⟨_,d,i,j,h3⟩:=a x g;rw[RE]at h3;exact⟨d,i,j,h3⟩⟩
 obtain⟨t,p,a3⟩:=Go.Vc.abr n P ds F fun x g=>⟨qC.2 ⟨x,g,rfl⟩,(a x g).1⟩
 refine⟨(layAll P w ds).2.2,?_,p.len,fun s=>?_⟩
 ·have j:=abq n P ds;exact yD t (yD j rfl)
 ·rw[a3 s];unfold KQ;cases hd:bR ds s with
  |none=>rfl
  |some d=>
   obtain⟨e,f⟩:=afc hd;rw[qR,qR,qR];congr 1;unfold eE;have o:s∈P.map qK↔(jV P s).isEmpty=false:=by
    rw[<-List.count_pos_iff,<-RE];cases hc:jV P s<;>simp
   by_cases c:(jV P s).isEmpty=true
   ·have h0:jV P s=[]:=List.isEmpty_iff.1 c;have i:(P.filter fun x=>decide (x.1=s))=[]:=List.map_eq_nil_iff.1 h0;rw[if_neg (fun h=>by rw[Ii ⟨e,f⟩,o]at h;rw[h]at c;cases c),if_pos c,i];simp
   ·have q:(jV P s).isEmpty=false:=by simpa using c
    rw[if_pos ((Ii ⟨e,f⟩).2 (o.2 q)),if_neg c];rfl
end Wl
namespace Go.Qw
open Go Go.Vc Go.Proofs Wl
theorem oI{n:aD}{live:aB}(a:live.Nodup)(s:Int):jV (bE n live) s=if s∈live then bf n else[]:=by
 by_cases h:s∈live
 ·rw[if_pos h];exact Gu n s a h
 ·rw[if_neg h];exact RD fun x b c=>h (c▸(jT b).1)
theorem RF(m:aD)(o:Int)(a:aB)(b:cv)(live:aB)(k:Int)(n:Nat):jV (cR m o a b live n) k=(gP m o a b live k n).map dI:=Es m o a b live k n
theorem RG{m:aD}(h:bQ m=true):bf m≠[]:=by
 unfold bf gV gC;rw[if_pos h];intro e;have:=congrArg vT e;simp[ci]at this;omega
theorem Gy{ds:aX}{l:aB}(h:l.Nodup):(bg ds l).Nodup:=h.filter _
theorem xH{ds:aX}{l:aB}{k:Int}(h:k∈bg ds l):k∈l/\∃d,bR ds k=some d/\d.lost=false:=by
 obtain⟨b,a⟩:=qJ.1 h;unfold isLive at a;cases hd:bR ds k with
 |none=>rw[hd]at a;cases a
 |some d=>rw[hd]at a;exact⟨b,d,rfl,by simpa using a⟩
theorem Cj(a:cv)(d:bv):(eE a d).l=d.l++a:=by
 unfold eE;by_cases h:a.isEmpty=true
 ·rw[if_pos h,List.isEmpty_iff.1 h,qU]
 ·rw[if_neg h]
theorem sE(a:cv)(d:bv):(eE a d).lost=d.lost/\(eE a d).room=d.room:=by
 unfold eE;split<;>exact⟨rfl,rfl⟩
theorem abw{a b:cv}(h:b≠[])(d:bv):eE b (eE a d)=eE (a++b) d:=by
 have e:∀c:cv,c≠[]->∀d,eE c d={d with l:=d.l++c,wait:=0,laid:=[],has:=false}:=fun c g d=>by
  unfold eE;rw[if_neg (by simpa using g)]
 by_cases f:a=[]
 ·subst f;rfl
 ·rw[e a f,e b h,e (a++b) (by simp[h])];simp
theorem Gz(a:Nat)(l:List (Int×aU))(k:Int):iJ a l k=a+(jV l k).length:=by unfold iJ jV;rw[qD]
theorem UD{p:Pm}{o:Int}{b:aU}{t:aB}(c:bA p=true)(d:ct p o (splitB p b).length=some t){i:Nat}(h:i<(splitB p b).length):∃K H w n,bM p (cE o i (t.getD i 0)) ((splitB p b).getD i []) K H w n:=by
 have m:=iH d;obtain⟨k,j,a⟩:=AA d i (by omega);have f:Do p o i k=true:=(Gk a).2.1;have e:t.getD i 0=(k:Int):=by rw[kl 0];exact j
 rw[e];refine abZ c f ?_;have l:=(bC p).1 c;have q:0<=p.1*p.2.2:=vB (by omega) (by omega);have g:(splitB p b)[i]=ug (dp p) b i:=by simp[splitB]
 rw[kl [] h,g,Gj];unfold dp;omega
theorem Mr{m:aD}{b:aU}{t:aB}(f:bQ m=true)(d:m.next<=16777215)(h8:(splitB m.p b).length<=8)(e:ct m.p m.next (splitB m.p b).length=some t){i id:Nat}(g:i<(splitB m.p b).length)(hid:id<(m.p.1+m.extra).toNat):
  iC (kV m m.next i (cE m.next i (t.getD i 0)) ((splitB m.p b).getD i []) id)=true:=by
 have a:=((dW m).1 ((cD m).1 f).1)
 have c:=(bC m.p).1 a.2.2.1;obtain⟨K,H,w,n,B⟩:=UD a.2.2.1 e g;exact Ry B ⟨a.2.1.1,d⟩ (by omega) (by omega)
theorem NS{m:aD}{offs:Int}{w:Pow}{ds:aX}{name:ByteArray}{b:aU}(J:w.calm)(Q:ds.length=64)(v:bQ m=true):
  (cQ m (fO w offs) ds name b.length≠0->cK m offs w ds name b=(cQ m (fO w offs) ds name b.length,m,w,ds))/\
  (cQ m (fO w offs) ds name b.length=0->(ct m.p m.next (splitB m.p b).length=none->cK m offs w ds name b=(8,m,w,ds))/\∀t,ct m.p m.next (splitB m.p b).length=some t->
   let live:=bg ds m.drives;let l:=cR m m.next t (splitB m.p b) live (splitB m.p b).length;let n:=df m ⟨name,m.next,b.length,t⟩;let N:=iJ (bf n).length l
   bQ n=true/\(cU m ds live N=false->cK m offs w ds name b=(7,m,w,ds))/\(cU m ds live N=true->∃g,cK m offs w ds name b=(0,n,w,g)/\g.length=64/\
    ∀k,bR g k=(bR ds k).map fun d=>if k∈live then eE ((gP m m.next t (splitB m.p b) live k (splitB m.p b).length).map dI++bf n) (dS m d (N k))else d)):=by
 refine⟨fun h=>by unfold cK;rw[if_pos h],fun h=>⟨fun D=>by unfold cK;rw[if_neg (by simpa using h),D],fun t D=>?_⟩⟩;intro live l n N;have E:bQ n=true:=abv v h D;obtain⟨z1,z2,z3,z4,z5⟩:=kz h;have u:=((dW m).1 ((cD m).1 v).1)
 have M:¬m.p.1*m.p.2.2*8<(b.length:Int):=fun h=>z4 (.inl h);have h8:=Ci u.2.2.1 M;have I:live≠[]:=fun h=>z5 (.inl h);have A:0<=m.next/\m.next<=16777215:=⟨u.2.1.1,by have:¬16777215<m.next:=fun h=>z5 (.inr (.inl h));omega⟩
 have f:live.Nodup:=Gy (CQ v);have F:∀k∈live,0<=k/\k<64:=fun k a=>ne v k (xH a).1;have e:cK m offs w ds name b=(if cU m ds live N=false then(7,m,w,ds)else if(makes m N live w ds).1≠0 then((makes m N live w ds).1,m,(makes m N live w ds).2)else
   if(layAll l (makes m N live w ds).2.1 (makes m N live w ds).2.2).1≠0 then((layAll l (makes m N live w ds).2.1 (makes m N live w ds).2.2).1,m,(layAll l (makes m N live w ds).2.1 (makes m N live w ds).2.2).2)else
   ((layAll (bE n live) (layAll l (makes m N live w ds).2.1 (makes m N live w ds).2.2).2.1 (layAll l (makes m N live w ds).2.1 (makes m N live w ds).2.2).2.2).1,if(layAll (bE n live) (layAll l (makes m N live w ds).2.1 (makes m N live w ds).2.2).2.1 (layAll l (makes m N live w ds).2.1 (makes m N live w ds).2.2).2.2).1=0 then n else m,(layAll (bE n live) (layAll l (makes m N live w ds).2.1 (makes m N live w ds).2.2).2.1 (layAll l (makes m N live w ds).2.1 (makes m N live w ds).2.2).2.2).2)):=by
  unfold cK;rw[if_neg (by simpa using h),D]
 refine⟨E,fun B=>by rw[e,if_pos B],fun B=>?_⟩;rw[e,if_neg (by rw[B];decide)];obtain⟨U,Z,m2,S⟩:=Dw J (N:=N) f Q B;rw[Z];dsimp only;rw[if_neg (by simp)];have z:∀y∈l,y.1∈live:=fun y r=>(Rv A I F h8 r).1;have s:∀y∈l,y.2.length=64:=fun y r=>by
  obtain⟨i,hi,r⟩:=zQ.1 r;obtain⟨id,hid,rfl⟩:=qC.1 r;exact PS (Mr v A.2 h8 D (qI.1 hi) (qI.1 hid))
 have c:∀k∈live,∃d,bR U k=some d/\d.lost=false/\(d.l.length:Int)+max (N k) 0<=d.room:=fun k a=>by
  obtain⟨_,d,hd,X⟩:=xH a;have G:=qN.1 B k a;obtain⟨d',H,R⟩:=Bh G;obtain⟨r1,Y,r3⟩:=KU R;refine⟨dS m d' (N k),?_,r1,by rw[Y];exact r3⟩;rw[S k,H,qR,if_pos a]
 obtain⟨V,l1,l2,T⟩:=KV J (ds:=U) (P:=l) m2 fun x j=>by
  obtain⟨d,L,O,f3⟩:=c x.1 (z x j);refine⟨s x j,d,L,O,?_⟩;have:N x.1=_:=Gz _ _ _;omega
 rw[l1];dsimp only;rw[if_neg (by simp)];obtain⟨d3,W,p2,p3⟩:=KV J (ds:=V) (P:=bE n live) l2 fun x j=>by
  obtain⟨q,o⟩:=jT j;obtain⟨d,L,O,f3⟩:=c x.1 q;refine⟨o,eE (jV l x.1) d,by rw[T,L,qR],by rw[(sE _ _).1];exact O,?_⟩;have:N x.1=_:=Gz _ _ _;rw[(sE _ _).2,Cj,oI f,if_pos q,qw];omega
 rw[W];refine⟨d3,rfl,p2,fun k=>?_⟩;rw[p3 k,T k,S k,Option.map_map,Option.map_map];congr 1;funext d;show eE (jV (bE n live) k) (eE (jV l k) (if k∈live then dS m d (N k)else d))=_;rw[oI f];by_cases a:k∈live
 ·rw[if_pos a,if_pos a,if_pos a];have K:jV l k=(gP m m.next t (splitB m.p b) live k (splitB m.p b).length).map dI:=RF _ _ _ _ _ _ _;rw[K,abw (RG E)]
 ·rw[if_neg a,if_neg a,if_neg a,RD (P:=l) fun x j (he:x.1=k)=>a (he▸z x j)];rfl
theorem KW(l:aB)(c:l.length<=64)(s:Int):bR (gr l (bi l l.length).length) s=if s∈bi l l.length then some (bv.new (l.getD s.toNat 0).toNat)else none:=by
 by_cases a:0<=s/\s<64
 ·unfold bR gr;rw[if_pos a,qO,zl (by omega),qR,qi (ql _)];have e:((s.toNat:Nat):Int)=s:=by omega
  rw[e];by_cases h:s∈bi l l.length
  ·rw[if_pos h];rfl
  ·rw[if_neg h];rfl
 ·rw[if_neg (fun h=>?_)]
  ·unfold bR;rw[if_neg a]
  ·obtain⟨n,b,rfl,_⟩:=(wT l l.length s).1 h;omega
theorem Zh{p:Pm}{extra:Int}{l:aB}(d:l.length<=64)(f:Bg p extra l=0):
  ∃D,cT p extra Pow.new l=(0,Pow.new,D)/\D.length=64/\∀s,bR D s=if s∈bi l l.length then some ⟨(l.getD s.toNat 0).toNat,bf (de p extra l),0,[],false,false⟩else none:=by
 have m:=Rx d f;have b:(bi l l.length).Nodup:=(Er l l.length).imp fun h e=>by omega
 have c:=(KS f).2.2.2.2;rw[Ww,if_pos f];obtain⟨D,i,k,h3⟩:=KV xG (ds:=gr l (bi l l.length).length) (P:=bE (de p extra l) (bi l l.length)) (Tl _ _) fun x j=>by
  obtain⟨a,g⟩:=jT j;refine⟨g,bv.new (l.getD x.1.toNat 0).toNat,by rw[KW l d,if_pos a],rfl,?_⟩;rw[oI b,if_pos a];have:=wV.1 c x.1 a;simp only[decide_eq_true_eq]at this;show 0+_<=(l.getD x.1.toNat 0).toNat;omega
 refine⟨D,i,k,fun s=>?_⟩;rw[h3,KW l d,oI b];by_cases h:s∈bi l l.length
 ·rw[if_pos h,if_pos h,if_pos h,qR];unfold eE;rw[if_neg (by simpa using RG m)];rfl
 ·rw[if_neg h,if_neg h,if_neg h];rfl
theorem WD(m:aD):(bf m).length=((gC m).length+47)/48:=by unfold bf gV;rw[qD,zy]
theorem afe(x:Wl.cm):(iB x).length=6+x.name.size+x.tries.length:=by
 unfold iB;simp[ci];omega
theorem Zi{m:aD}(h:bQ m=true):(gC m).length=14+m.drives.length+(m.aL.flatMap iB).length:=by
 unfold gC;rw[if_pos h];simp only[qw,ci,zi,List.length_nil,qD];omega
theorem ui{p:Pm}{n:Int}(h:n<=p.1*p.2.2*8):countP p n<=8:=by
 unfold countP;split
 ·rename_i a;rw[qA,decide_eq_true_eq]at a;have:=(bC p).1 a.1;have b:0<p.1*p.2.2:=Int.mul_pos (by omega) (by omega);have:(n-1)/(p.1*p.2.2)<8:=Int.ediv_lt_of_lt_mul b (by rw[Int.mul_comm 8];omega);omega
 ·decide
theorem adH{m:aD}{x:Wl.cm}(h:gd m x=true):(iB x).length<=26:=by
 obtain⟨a,d,h3,c,e⟩:=(iv m x).1 h;have:=ui h3.2;have b:x.name.size<=12:=by unfold lH at a;simp at a;omega
 rw[afe];omega
theorem Hs{α β:Type}{f:α->List β}{c:Nat}:∀{l:List α},(∀x∈l,(f x).length<=c)->(l.flatMap f).length<=l.length*c
 |[],_=>by simp
 |x::l,h=>by
  have d:=h x q0;have b:=Hs (l:=l) fun y a=>h y (qY _ a);rw[zq,qw,zi,zK];omega
theorem abx{m:aD}(h:bQ m=true):(bf m).length*48<=61+m.drives.length+m.aL.length*26:=by
 have:=Hs (f:=iB) (l:=m.aL) fun x a=>adH (((cD m).1 h).2.2.2.2.1 x a);have b:=Zi h;rw[WD];omega
theorem Zj{m:aD}(h:bQ m=true):(bf m).length<=9:=by
 have b:=abx h;have a:=rU h;have h3:=((cD m).1 h).2.2.2.1;omega
theorem TH{α β:Type}(f:α->List β)(c:Nat)(n:Nat)(l:List α)(h:∀x∈l,(f x).length<=c)(a:l.length<=n):(l.flatMap f).length<=n*c:=zk (Hs h) (zp c a)
theorem TJ(m:aD)(o:Int)(a:aB)(b:cv)(live:aB)(k:Int)(n:Nat):(gP m o a b live k n).length<=n*(m.p.1+m.extra).toNat:=by
 unfold gP;refine TH _ _ n _ (fun i _=>?_) (by simp);have:=congrArg vT (Gv m o a b live k i);rw[qD,qD]at this;rw[<-this];refine zk (zc _ _) ?_;rw[Dt];exact ql _
def oJ(m:aD)(offs:Int)(w:Pow)(ds:aX)(n:aD):Int×aD×Pow×aX:=
 if fO w offs then(14,m,w,ds)else if !bQ n||decide (n.seq≠m.seq+1)then(1,m,w,ds)else
 let live:=bg ds n.drives;let N:Int->Int:=fun _=>((bf n).length:Int)
 if live=[]∨cU m ds live N=false then(7,m,w,ds)else
 if(makes m N live w ds).1≠0 then((makes m N live w ds).1,m,(makes m N live w ds).2)else
 let a:=layAll (bE n live) (makes m N live w ds).2.1 (makes m N live w ds).2.2
 (a.1,if a.1=0 then n else m,a.2)
theorem Ms{m:aD}(h:bQ m=true):dM m:=by
 obtain⟨q,l,h3,k,c,g,p⟩:=(cD m).1 h;have o:=rU h;refine⟨by omega,by omega,fun e d=>?_⟩;obtain⟨a,i,b,j,n⟩:=(iv m e).1 (c e d);have:=ui b.2;have f:e.name.size<=12:=by unfold lH at a;simp at a;omega
 omega
section
variable {B:aA} {h0 h:Heap} {As:List HP} {a pw:Addr} {offs:Int} {da:List aP} {w:Pow} {ds:aX}
end
end Go.Qw
namespace Go.Vc
open Go Wl
section
variable {k:Kit} {B:aA} {h0 h:Heap} {As:List HP} {a pw b:Addr} {mc:aV} {offs:Int} {da:List aP} {w:Pow} {ds:aX} {d:bv} {n:Nat}
end
end Go.Vc
