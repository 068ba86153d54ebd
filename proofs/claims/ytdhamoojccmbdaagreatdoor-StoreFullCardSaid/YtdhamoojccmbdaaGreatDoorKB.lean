/- Part of the proofs that the laws of this seat answer true whatever the input reads, and leave it as it was; no condition. -/
import Derived.Test.YtdhamoojccmbdaaGreatDoorKA
import Derived.Test.YtdhamoojccmbdaaGreatDoorPlA
import Derived.Test.YtdhamoojccmbdaaGreatDoorPlD
import Derived.Test.YtdhamoojccmbdaaGreatDoorPlG
import Derived.Test.YtdhamoojccmbdaaGreatDoorTabS
import Derived.Test.YtdhamoojccmbdaaGreatDoorShelfA
import Derived.Test.YtdhamoojccmbdaaGreatDoorShelfB
import Derived.Test.YtdhamoojccmbdaaGreatDoorPlH
import Derived.Test.YtdhamoojccmbdaaGreatDoorPlI
set_option linter.unusedVariables false
set_option maxHeartbeats 2000000
set_option linter.unusedSimpArgs false
open Go.Proofs.Tryz renaming prog -> vV
open Go.Value renaming agg -> vQ, bool -> vP, int -> vL, pointer -> vN, slice -> vM, string -> vO
open Go.IntKind renaming bits -> qk, i64 -> vR, signed -> yI, u32 -> vT, u64 -> vU, u8 -> vS, wrap -> qc
open Option renaming isNone -> zg, isSome_iff_exists -> y8, map_some -> qO, some -> zJ
open Nat renaming add_assoc -> yn, add_sub_cancel_left -> zk, add_zero -> yl, le_refl -> ql, le_trans -> zl, lt_succ_iff_lt_or_eq -> zn, lt_trichotomy -> yd, mod_lt -> yE, mul_le_mul -> wb, mul_le_mul_right -> zG, mul_one -> wN, sub_self -> zf, succ_mul -> zI, zero_le -> w8
open Int renaming emod_lt_of_pos -> z8, emod_nonneg -> wY, mul_le_mul -> wu, mul_nonneg -> vm, mul_pos -> vF, natCast_mul -> wz, natCast_nonneg -> zT, ofNat_le -> yD, tmod -> zW, tmod_eq_emod_of_nonneg -> yu, toNat_natCast -> qp
open Bool renaming and_eq_false_iff -> yR, and_eq_true -> qy, and_self -> vG, eq_iff_iff -> yQ, false_eq_true -> zd, false_or -> vx, not_eq_true' -> wV, or_eq_true -> wx, true_and -> zS
open List renaming all_append -> yz, all_cons -> vI, all_eq_false -> ye, all_eq_true -> qM, any_append -> yP, any_eq_false -> zZ, any_eq_true -> wR, append_assoc -> qo, append_nil -> qP, drop -> vK, drop_eq_getElem_cons -> qT, drop_of_length_le -> q9, eq_nil_of_length_eq_zero -> qW, ext_getElem -> we, ext_getElem? -> zH, filter_append -> zh, filter_cons -> zm, filter_eq_nil_iff -> wA, filter_eq_self -> wg, filter_nil -> yO, find?_eq_none -> wL, find?_eq_some_iff_append -> wD, flatMap_append -> zb, flatMap_cons -> zr, flatMap_nil -> wO, foldl_append -> wE, getD_eq_getElem?_getD -> qe, getElem?_append_left -> qn, getElem?_append_right -> qj, getElem?_cons_succ -> qz, getElem?_drop -> wq, getElem?_eq_getElem -> qd, getElem?_eq_none -> ze, getElem?_eq_some_iff -> qm, getElem?_map -> qN, getElem?_range -> zo, getElem?_replicate -> zX, getElem?_set -> qZ, getElem_append_right -> z7, getElem_map -> zY, getElem_mem -> qg, getElem_of_mem -> qF, getElem_zip -> yK, length -> vg, length_append -> qu, length_cons -> zi, length_drop -> qY, length_eq_zero_iff -> vi, length_filter_le -> q7, length_map -> qw, length_mergeSort -> wj, length_nil -> yj, length_range -> zt, length_replicate -> yx, length_set -> zE, length_take -> qX, map_append -> qQ, map_cons -> w4, map_map -> wK, map_mergeSort -> vf, map_nil -> vn, mem_append -> qE, mem_append_left -> yA, mem_append_right -> wF, mem_cons -> zc, mem_cons_of_mem -> qU, mem_cons_self -> q8, mem_filter -> qI, mem_flatMap -> zO, mem_map -> qx, mem_mergeSort -> yt, mem_of_getElem? -> ya, mem_range -> qH, mem_singleton -> qG, mem_take_iff_getElem -> wZ, mergeSort_perm -> yk, nil_append -> zV, nodup_cons -> yi, nodup_range -> vu, pairwise_append -> wQ, pairwise_cons -> zL, pairwise_iff_getElem -> zq, pairwise_map -> vk, range -> qC, range_succ -> zF, replicate -> qh, replicate_succ -> yG, set_append_right -> za, set_cons_zero -> zw, take_append_drop -> qD, take_length -> qR, take_of_length_le -> qi, zipWith -> zj, zipWith_append -> yH
open Go.Instr renaming storeAt -> qf
open Prod renaming ext -> yL, fst -> qK, snd -> zA
set_option maxRecDepth 100000
namespace Go.Proofs.YtdhamoojccmbdaaGreatDoor
open Go Go.Vc Go.Proofs Wl
theorem acz{α:Type}{h:Heap}{e:TypeId}{s:Sl}{k:Nat}{f:α->List Value}{l:List α}(a:Own h e s k f l)(c:l≠[]):s.ptr.isNone=false:=by
 rcases a.head with⟨_,_,h3⟩|⟨b,rest,h1,_⟩
 ·exact absurd h3 c
 ·rw[h1];rfl
theorem acA(p:Pm)(seed id:Int)(h:Heap):ac vV aaa #[kB p,vL vT seed,vL vR id] h fun v h'=>∃r:Sl,v=vM r.ptr r.len r.cap/\
  Sp h h' [an aD r 1 aC (if bM p&&bR id then rv (bX p).toNat seed id else[])]/\r.ptr.isNone=!(bM p&&bR id):=by
 refine XO p seed id ?_;unfold SO;refine(Sp.refl h).boxed fun a R G=>?_;refine ba ?_;refine⟨p,(G.box 0 rfl).aQ _ rfl,(dN p R).mono ?_⟩;rintro v z ⟨rfl,J⟩;have q:=G.comp J;have u:(bM p&&bR id)=false->Sp h z [an aD ⟨none,0,0⟩ 1 aC (if bM p&&bR id then rv (bX p).toNat seed id else[])]/\zg (none:Option Addr)=!(bM p&&bR id):=fun K=>by
  rw[K];exact⟨(q.nil aD 1 aC).take 1 (fun i A g=>by cases i with|zero=>exact g|succ i=>simp at g),rfl⟩
 refine⟨_,rfl,bg (fun e=>⟨⟨none,0,0⟩,rfl,u (by rw[e];rfl)⟩) fun k=>?_⟩;refine ak (fun e=>⟨⟨none,0,0⟩,rfl,u (by simp[bR];omega)⟩) fun V=>?_;refine ak (fun e=>⟨⟨none,0,0⟩,rfl,u (by simp[bR];omega)⟩) fun H=>?_;have hid:bR id=true:=by simp[bR];omega
 refine⟨p,(q.box 0 rfl).aQ _ rfl,(lA p z).mono ?_⟩;rintro v h3 ⟨rfl,O⟩;have I:=q.comp O;have P:=(bU p).1 k;have W:bX p=p.1+p.2.1:=by rw[bX,if_pos k]
 obtain⟨n,F⟩:∃n:Nat,bX p=n:=⟨(bX p).toNat,by omega⟩
 refine⟨_,rfl,?_⟩;dsimp only;rw[F];refine I.make ae aC fP (by decide) 0 rfl rfl n n rfl rfl (ql _) (by omega) fun v M X Q D=>?_;refine⟨p,(D.box 0 rfl).aQ _ rfl,(AN p seed id M).mono ?_⟩;rintro w U ⟨c,rfl,m⟩;rw[k,hid,F,qp]at m;rw[k,hid,qp];have s:=D.comp m;have j:=s.seq 2 rfl (fun _=>rfl);have t:=j.len;obtain⟨b,d⟩:∃b,b=cV n seed id:=⟨_,rfl⟩
 have o:∀x∈b,0<=x/\x<(n:Int):=fun x E=>mg (by omega) (by omega) (by rw[<-d];exact E);have B:b.length<=n:=by rw[d];exact Ak (by omega) (by omega) _ _
 simp only[vG,if_true,<-d]at s j t m;refine⟨c,rfl,?_⟩;refine av (fun i:Nat=>(i:Int)) (fun i h'=>i<=b.length/\Sp h h' [au a aT [vL vR p.1,vL vR p.2.1,vL vR p.2.2],an aD v 1 aC (fB n (b.take i)),an aS c 1 aE b]) (fun i=>b.length-i) 0 rfl ⟨by omega,s⟩ ?_;rintro i N ⟨g,l⟩;refine ak (fun e=>?_) (fun e=>?_)
 ·have f:i<b.length:=by omega
  have E:=o _ (qg f);refine(l.seq 2 rfl (fun _=>rfl)).bv i rfl f _ rfl ?_;refine l.set ae 1 rfl (fun _=>rfl) rfl b[i].toNat (by omega) (by rw[ru];omega) 1 rfl rfl rfl fun T L=>?_;refine⟨i+1,by rw[wrap_small _ (by omega) (by omega)];rfl,⟨by omega,?_⟩,by omega⟩;have H:fB n (b.take (i+1))=(fB n (b.take i)).set b[i].toNat 1:=by rw[aH _ _ f,fB,wE];rfl
  rw[H];exact L
 ·rw[qi (by omega)]at l;have y:Sp h N [an aD v 1 aC (fB n b)]:=(l.del 2).take 1 (fun i A g=>by cases i with|zero=>exact g|succ i=>simp at g);refine⟨v,rfl,?_,acz (y.own 0 rfl) (fun S=>?_)⟩
  ·rw[d]at y;exact y
  ·have:=ru n b;rw[S]at this;simp at this;omega
theorem EX(p:Pm)(h:Heap):ac vV Vb #[kB p] h fun v h'=>∃r:Sl,v=vM r.ptr r.len r.cap/\Sp h h' [fI aF r 1 aC (if bM p then bw p.1.toNat p.2.1.toNat else[])]:=by
 refine SN p ?_;unfold LJ;refine(Sp.refl h).boxed fun a Y F=>?_;refine⟨p,(F.box 0 rfl).aQ _ rfl,(dN p Y).mono ?_⟩;rintro v N ⟨rfl,J⟩;have B:=F.comp J;refine⟨_,rfl,bg (fun e=>⟨⟨none,0,0⟩,rfl,?_⟩) fun w=>?_⟩
 ·rw[e];exact(B.KA aF 1 aC).take 1 (fun i A c=>by cases i with|zero=>exact c|succ i=>simp at c)
 have W:=(bU p).1 w;have hc:bX p=p.1+p.2.1:=by rw[bX,if_pos w]
 obtain⟨K,hK⟩:∃K:Nat,p.1=K:=⟨p.1.toNat,by omega⟩
 obtain⟨b,R⟩:∃H:Nat,p.2.1=H:=⟨p.2.1.toNat,by omega⟩
 refine(uC N).mono ?_;rintro v h3 ⟨f,rfl,S⟩;have z:=(B.comp S).KA aF 1 aC;refine⟨some f,rfl,_,(z.box 0 rfl).cell rfl,?_⟩;refine av (fun t:Sl×Nat=>(t.1,(t.2:Int))) (fun t h'=>t.2<=b/\Sp h h' [au a aT [vL vR p.1,vL vR p.2.1,vL vR p.2.2],au f gu di,fI aF t.1 1 aC ((bw K b).take t.2)]) (fun t=>b-t.2) (⟨none,0,0⟩,0) rfl ⟨by simp,z⟩ ?_;rintro⟨s,k⟩ Q ⟨hk,g⟩;dsimp only at*;refine ak (fun e=>?_) (fun e=>?_)
 ·have X:k<b:=by omega
  refine ba ⟨p,(g.box 0 rfl).aQ _ rfl,p.1,(g.box 0 rfl).cell0 rfl,?_⟩;refine(lA p Q).mono ?_;rintro v V ⟨rfl,G⟩;have D:=g.comp G;refine⟨_,rfl,⟨(D.box 0 rfl).cell0 rfl,trivial⟩,?_⟩;dsimp only;rw[wrap_small (p.1+k) (by omega) (by omega),hc];refine(aat _ _ V).mono ?_;rintro v h6 ⟨u,rfl,o⟩;rw[if_pos (by omega)]at o;have Z:(p.1+p.2.1).toNat=K+b:=by omega
  have e2:(p.1+(k:Int)).toNat=K+k:=by omega
  rw[Z,e2]at o;have x:=D.comp o;refine⟨u,rfl,⟨(x.box 0 rfl).cell0 rfl,trivial⟩,p.1,(x.box 0 rfl).cell0 rfl,?_⟩;let rowAt:Nat->List UInt8:=fun j=>(qC j).map (fun i=>Gf.pw ((k+1)*(i+1)%255))++((qh (K+b) (0:UInt8)).set (K+k) 1).drop j;refine av (fun j:Nat=>(j:Int)) (fun j h'=>j<=K/\Sp h h' [au a aT [vL vR p.1,vL vR p.2.1,vL vR p.2.2],au f gu di,fI aF s 1 aC ((bw K b).take k),an aD u 1 aC (rowAt j)]) (fun j=>K-j) 0 rfl ⟨by omega,x⟩ ?_;rintro j L ⟨hj,n⟩;refine ak (fun T=>?_) (fun T=>?_)
  ·have m:j<K:=by omega
   have hm:(k+1)*(j+1)<=4*16:=wb (by omega) (by omega);have O:qc vR (qc vR ((k:Int)+1)*qc vR ((j:Int)+1))=(((k+1)*(j+1):Nat):Int):=by
    rw[wrap_small ((k:Int)+1) (by omega) (by omega),wrap_small ((j:Int)+1) (by omega) (by omega),show((k:Int)+1)*((j:Int)+1)=(((k+1)*(j+1):Nat):Int)by rw[wz];rfl];exact ug _ (by omega)
   rw[O];refine(acy f _ L (n.box 1 rfl)).mono ?_;rintro v h8 ⟨rfl,rfl⟩;refine⟨_,rfl,?_⟩;have E:(rowAt j).length=K+b:=by simp[rowAt];omega
   refine n.set ae 3 rfl (fun _=>rfl) rfl j rfl (by omega) _ rfl rfl rfl fun U y=>?_;refine⟨j+1,by rw[wrap_small _ (by omega) (by omega)];rfl,⟨by omega,?_⟩,by omega⟩;have q:(rowAt j).set j (Gf.pw ((((k+1)*(j+1):Nat):Int)%255).toNat)=rowAt (j+1):=by
    have e6:((((k+1)*(j+1):Nat):Int)%255).toNat=(k+1)*(j+1)%255:=by omega
    rw[e6];simp only[rowAt];rw[za _ _ (by simp),qw,zt,zf,qT (by simp;omega),zw,zF,qQ,qo];rfl
   rw[<-q];exact y
  ·have m:j=K:=by omega
   subst m;have q:rowAt j=kQ j b k:=by
    simp only[rowAt,kQ];congr 1;apply zH;intro i;rw[wq,qZ,qN];by_cases c:i<b
    ·rw[zo c,qO,zX];by_cases d:i=k
     ·subst d;simp[c]
     ·rw[if_neg (by omega),if_pos (by omega),if_neg d]
    ·rw[ze (l:=qC b) (by simp;omega),if_neg (by omega),zX,if_neg (by omega)];rfl
   rw[q]at n;have H8:=n.freeze 3 rfl (fun _=>rfl);have P:((bw j b).take k).length=k:=by simp[bw];omega
   refine H8.uI ae 2 3 (by decide) rfl rfl fq (by omega) fun I U y=>?_;refine⟨(I,k+1),by dsimp only;rw[wrap_small _ (by omega) (by omega)];rfl,⟨by dsimp only;omega,?_⟩,by dsimp only;omega⟩;have M:(bw j b).take (k+1)=(bw j b).take k++[kQ j b k]:=by
    rw[aH _ _ (by simp[bw];omega)];simp[bw]
   dsimp only;rw[M];exact y.del 3
 ·refine⟨s,rfl,?_⟩;rw[if_pos w,hK,R,qp,qp];rw[qi (by simp[bw];omega)]at g;exact g.take 2 (fun i A c=>by cases i with|zero=>exact c|succ i=>simp at c)
theorem Mh(p:Pm)(h:Heap):ac vV Lx #[kB p] h fun v h'=>∃r:Sl,v=vM r.ptr r.len r.cap/\Sp h h' [an aS r 1 aE (upto (max 0 (min p.1 16)).toNat)]:=by
 refine JN p ?_;unfold Cu;refine(Sp.refl h).boxed fun a q f=>?_;refine⟨p.1,(f.box 0 rfl).cell0 rfl,?_⟩;have em:(if(if(16:Int)<p.1 then(16:Int)else p.1)>(0:Int)then(if(16:Int)<p.1 then(16:Int)else p.1)else(0:Int))=((max 0 (min p.1 16)).toNat:Int):=by
  split<;>split<;>omega
 rw[em];generalize o:(max 0 (min p.1 16)).toNat=N;have d:N<=16:=by omega
 refine av (fun t:Sl×Nat=>(t.1,(t.2:Int))) (fun t h'=>t.2<=N/\Sp h h' [emp,an aS t.1 1 aE (upto t.2)]) (fun t=>N-t.2) (⟨none,0,0⟩,0) rfl ⟨by simp,(f.gf 0 rfl fun _ _=>trivial).nil aS 1 aE⟩ ?_;rintro⟨s,k⟩ m ⟨n,c⟩;dsimp only at*;refine ak (fun e=>?_) (fun e=>?_)
 ·refine c.push ae 1 rfl nw rfl (by decide) (fun _=>rfl) ja (k:Int) rfl (by decide) (by rw[gi];omega) fun g h3 j=>?_;refine⟨(g,k+1),by dsimp only;rw[wrap_small _ (by omega) (by omega)];rfl,⟨by dsimp only;omega,?_⟩,by dsimp only;omega⟩;have l:upto (k+1)=upto k++[(k:Int)]:=by simp[upto,zF]
  dsimp only;rw[l];exact j
 ·have:k=N:=by omega
  subst this;exact⟨s,rfl,c.take 1 (fun i A b=>by cases i with|zero=>exact b|succ i=>simp at b)⟩
theorem Jg(p:Pm)(seed:Int)(ids:Sl)(l:List Int)(h:Heap)(B:Rd h ids 1 aE l)(E:l.length<=2^30):ac vV JM #[kB p,vL vT seed,vM ids.ptr ids.len ids.cap] h fun v h'=>∃r:Sl,v=vM r.ptr r.len r.cap/\Sp h h' [fI aF r 1 aC (dI p seed l)]:=by
 refine Is p seed ids ?_;unfold AE;refine(Sp.refl h).boxed fun a y D=>?_;refine⟨p,(D.box 0 rfl).aQ _ rfl,(EX p y).mono ?_⟩;rintro v H ⟨r,rfl,G⟩;have x:=D.comp G;refine⟨r,rfl,?_⟩;have z:=B.len;let at_:Nat->List (List UInt8):=fun k=>dI p seed (l.take k);have h0:(if bM p then bw p.1.toNat p.2.1.toNat else[])=at_ 0:=by simp[at_,dI]
 rw[h0]at x;refine av (fun t:Sl×Nat=>(t.1,(t.2:Int))) (fun t h'=>t.2<=l.length/\Sp h h' [au a aT [vL vR p.1,vL vR p.2.1,vL vR p.2.2],fI aF t.1 1 aC (at_ t.2)]) (fun t=>l.length-t.2) (r,0) rfl ⟨by simp,x⟩ ?_;rintro⟨s,k⟩ h3 ⟨M,g⟩;dsimp only at*;refine ak (fun e=>?_) (fun e=>?_)
 ·have d:k<l.length:=by omega
  refine(Seq.up B g.ai).bv k rfl d _ rfl ?_;refine⟨p,(g.box 0 rfl).aQ _ rfl,(acA p seed l[k] h3).mono ?_⟩;rintro v L ⟨w,rfl,K,c⟩;have n:=(g.comp K).freeze 2 rfl (fun _=>rfl);refine⟨w,rfl,?_⟩;have o:(at_ k).length<=4+k∨at_ k=[]:=by
   by_cases q:bM p
   ·left;have:=(bU p).1 q;have y:=q7 bR (l.take k);have H:=List.length_take_le k l;simp only[at_,dI,q,if_true,qu,qw,bw,zt];omega
   ·right;simp[at_,dI,q]
  have m:(at_ k).length+1<=2^32:=by
   rcases o with h|h
   ·omega
   ·rw[h];simp
  dsimp only;refine bg (fun f=>?_) (fun f=>?_)
  ·rw[c]at f;have b:(bM p&&bR l[k])=true:=by simpa using f
   rw[b,if_pos rfl]at n;refine n.uI ae 1 2 (by decide) rfl rfl fq m fun F N J=>?_;refine⟨(F,k+1),by dsimp only;rw[wrap_small _ (by omega) (by omega)];rfl,⟨by dsimp only;omega,?_⟩,by dsimp only;omega⟩;rw[qy]at b;have j:at_ (k+1)=at_ k++[rv (bX p).toNat seed l[k]]:=by
    simp only[at_,dI,b.1,if_true];rw[vX d,if_pos b.2,qQ,qo];rfl
   dsimp only;rw[j];exact J.del 2
  ·rw[c]at f;have b:(bM p&&bR l[k])=false:=by
    cases hh:(bM p&&bR l[k])with
    |false=>rfl
    |true=>rw[hh]at f;cases f
   refine⟨(s,k+1),by dsimp only;rw[wrap_small _ (by omega) (by omega)];rfl,⟨by dsimp only;omega,?_⟩,by dsimp only;omega⟩;have j:at_ (k+1)=at_ k:=by
    simp only[at_,dI];rw[yR]at b;rcases b with h|h
    ·simp[h]
    ·have I:(l.take (k+1)).filter bR=(l.take k).filter bR:=by rw[vX d,if_neg (by simp[h])]
     rw[I]
   dsimp only;rw[j];exact n.del 2
 ·refine⟨s,rfl,?_⟩;have j:at_ k=dI p seed l:=by simp only[at_];rw[qi (by omega)]
  rw[j]at g;exact g.take 1 (fun i A u=>by cases i with|zero=>exact u|succ i=>simp at u)
theorem mG(a:Sl)(m:aR)(n:Nat)(h:Heap)(b:gg h a 1 aC m)(f:be n m)(q:n<=64)(l:m.length<=2^30):ac vV XL #[vM a.ptr a.len a.cap] h fun v h'=>v=vP true/\h'=h:=by
 refine UW a ?_;unfold Pa;have s:=b.len;refine av (fun k:Nat=>(k:Int)) (fun k h'=>h'=h/\k<=m.length) (fun k=>m.length-k) 0 rfl ⟨rfl,by omega⟩ ?_;rintro k h' ⟨rfl,o⟩;refine ak (fun e=>?_) (fun e=>⟨rfl,rfl⟩);have d:k<m.length:=by omega
 refine b.get k rfl d fun r g=>?_;refine b.get 0 rfl (by omega) fun p c=>?_;have j:=g.len;have i:=c.len;rw[f _ (qg _)]at j i;refine bQ (fun e=>by omega) fun _=>ak (fun e=>by omega) fun _=>?_;exact⟨k+1,by rw[wrap_small _ (by omega) (by omega)];rfl,⟨rfl,by omega⟩,by omega⟩
theorem xC(a:Sl)(m:aR)(n:Nat)(h:Heap)(d:gg h a 1 aC m)(f:be n m)(D:n<=64)(y:m.length<=2^30):ac vV XM #[vM a.ptr a.len a.cap] h fun v h'=>∃(r:Sl) (rs:List Sl),v=vM r.ptr r.len r.cap/\rs.length=m.length/\Sp h h' (an aF r 1 bI rs::bP aD 1 aC rs m):=by
 refine UX a ?_;unfold Pb;have F:=d.len;refine(Sp.refl h).make ae bI fq (by decide) ⟨none,0,0⟩ rfl rfl 0 m.length rfl (by omega) (by omega) (by omega) fun s B q E x=>?_;refine av (fun t:Sl×List Sl=>(t.1,(t.2.length:Int))) (fun t h'=>t.2.length<=m.length/\Sp h h' (an aF t.1 1 bI t.2::bP aD 1 aC t.2 (m.take t.2.length))) (fun t=>m.length-t.2.length) (s,[]) rfl ⟨by simp,by simpa[bP]using x⟩ ?_;rintro⟨s,rs⟩ l ⟨A,c⟩;dsimp only at*;refine ak (fun e=>?_) (fun e=>?_)
 ·have b:rs.length<m.length:=by omega
  refine(d.up c.ai).get rs.length rfl b fun r k=>?_;have p:m[rs.length].length=n:=f _ (qg _);refine(fH r _ l k (by omega)).mono ?_;rintro v h3 ⟨w,rfl,u⟩;have j:=c.comp u;refine⟨w,rfl,?_⟩;refine j.push ae 0 rfl fq rfl (by decide) (fun _=>rfl) me w rfl (by decide) (by omega) fun g z o=>?_;refine⟨(g,rs++[w]),by dsimp only;rw[wrap_small _ (by omega) (by omega)];simp,⟨by simp;omega,?_⟩,by simp;omega⟩;dsimp only;rw[show(rs++[w]).length=rs.length+1 by simp,aH _ _ b,uU (by rw[qX];omega)];exact o
 ·have i:m.take rs.length=m:=qi (by omega);rw[i]at c;exact⟨s,rs,rfl,by omega,c⟩
theorem rP(a:Sl)(m:aR)(h:Heap)(b:gg h a 1 aC m):ac vV SJ #[vM a.ptr a.len a.cap] h fun v h'=>v=vL vR (fG m)/\h'=h:=by
 refine Qq a ?_;unfold IZ;have d:=b.len;refine cx (fun e=>?_) (fun e=>?_)
 ·have:m=[]:=qW (by omega);subst this;exact⟨rfl,rfl⟩
 ·refine b.get 0 rfl (by omega) fun r c=>⟨?_,rfl⟩
  rw[c.len,fG,bt (by omega)]
theorem Tj{r:Row}{c:Nat}(h:c<r.length):aM r c=r[c]:=by rw[aM,qe,qd h];rfl
theorem Vw(a:Sl)(m:aR)(n b bp:Nat)(h:Heap)(q:gg h a 1 aC m)(s:be n m)(y:bp<n)(x:m.length<=2^30):
  ac vV Qv #[vM a.ptr a.len a.cap,vL vR b,vL vR bp] h fun v h'=>v=vL vR (match ir m b bp with|some i=>(i:Int)|none=>-1)/\h'=h:=by
 refine NX a b bp ?_;unfold GX;have z:=q.len;refine av (fun k:Nat=>(k:Int)) (fun k h'=>h'=h/\b<=k/\k<=max b m.length/\∀j,j<k->(decide (b<=j)&&(aM (az m j) bp !=0))=false) (fun k=>m.length-k) b rfl ⟨rfl,by omega,by omega,fun j g=>by rw[decide_eq_false (by omega)];rfl⟩ ?_;rintro k h' ⟨rfl,l,t,g⟩;refine ak (fun e=>?_) (fun e=>?_)
 ·rw[ir,Xg (fun j f=>g j (by omega))];exact⟨rfl,rfl⟩
 ·have d:k<m.length:=by omega
  have w:m[k].length=n:=s _ (qg _);refine q.get k rfl d fun r u=>?_;refine u.bv bp rfl (by omega) _ rfl ?_;have c:aM (az m k) bp=m[k][bp]'(by omega):=by rw[bt d,Tj (by omega)]
  refine bQ (fun p=>?_) (fun p=>?_)
  ·have o:(decide (b<=k)&&(aM (az m k) bp !=0))=true:=by
    rw[decide_eq_true l,c];simp;exact fun h0=>p (by rw[h0];rfl)
   rw[ir,Xh d g o];exact⟨rfl,rfl⟩
  ·refine⟨k+1,by rw[wrap_small _ (by omega) (by omega)];rfl,⟨rfl,by omega,by omega,fun j f=>?_⟩,by omega⟩;rcases zn.1 f with h1|rfl
   ·exact g j h1
   ·rw[c,DX.1 p];simp
theorem Ya(f:Addr)(c:UInt8)(a:Sl)(l:Row)(h:Heap)(i:gA h f)(j:Rd h a 1 aC l)(t:l.length<=2^30):ac vV SQ #[vN (some f),vL vS c.toNat,vM a.ptr a.len a.cap] h fun v h'=>∃r:Sl,v=vM r.ptr r.len r.cap/\Sp h h' [an aD r 1 aC (scaleB c l)]:=by
 refine Qw (some f) _ a ?_;unfold Jb;have A:=j.len;refine(QA f h).mono ?_;rintro v m ⟨rfl,rfl⟩;refine⟨some f,rfl,?_⟩;refine(Sp.refl m).make ae aC fP (by decide) 0 rfl rfl l.length l.length (by omega) (by omega) (ql _) (by omega) fun s u p z n=>?_;refine av (fun k:Nat=>(k:Int)) (fun k h'=>k<=l.length/\Sp m h' [an aD s 1 aC ((l.take k).map (Gf.mul c)++qh (l.length-k) 0)]) (fun k=>l.length-k) 0 rfl ⟨by omega,by simpa using n⟩ ?_;rintro k h3 ⟨x,b⟩;refine ak (fun e=>?_) (fun e=>?_)
 ·have d:k<l.length:=by omega
  refine(Seq.up j b.ai).bv k rfl d _ rfl ?_;refine(Kg f c l[k] h3 (i.ai b.ai i.lt)).mono ?_;rintro v w ⟨rfl,rfl⟩;refine⟨_,rfl,?_⟩;refine b.set ae 0 rfl (fun _=>rfl) rfl k rfl (by simp;omega) _ rfl rfl rfl fun y o=>?_;refine⟨k+1,by rw[wrap_small _ (by omega) (by omega)];rfl,⟨by omega,?_⟩,by omega⟩;have g:((l.take k).map (Gf.mul c)).length=k:=by simp;omega
  have q:((l.take k).map (Gf.mul c)++qh (l.length-k) 0).set k (Gf.mul c l[k])=(l.take (k+1)).map (Gf.mul c)++qh (l.length-(k+1)) 0:=by
   rw[za _ _ (by omega),g,zf,show l.length-k=l.length-(k+1)+1 by omega,yG,zw,aH _ _ d,qQ,qo];rfl
  rw[<-q];exact o
 ·have:k=l.length:=by omega
  subst this;refine⟨s,rfl,?_⟩;rw[qi (ql _),zf,List.replicate_zero,qP]at b;exact b
theorem xD{c:UInt8}{a t:Row}(d:a.length=t.length){k:Nat}(b:k<t.length):(zj (fun x y=>y^^^Gf.mul c x) (a.take k) (t.take k)++t.drop k).set k (t[k]^^^Gf.mul c (a[k]'(by omega)))=zj (fun x y=>y^^^Gf.mul c x) (a.take (k+1)) (t.take (k+1))++t.drop (k+1):=by
 have e:(zj (fun x y=>y^^^Gf.mul c x) (a.take k) (t.take k)).length=k:=by simp;omega
 rw[za _ _ (by omega),e,zf,qT b,zw,aH _ _ b,aH _ _ (show k<a.length by omega),yH (by simp;omega)];simp
theorem acB(f:Addr)(c:UInt8)(a to:Sl)(d lt:Row)(h:Heap)(E:gA h f)(r:¬to.on f.block)(z:Seq h (fun b=>¬to.on b) a 1 aC d)(s:Own h aD to 1 aC lt)(m:d.length=lt.length)(H:d.length<=2^30):
  ac vV LO #[vN (some f),vL vS c.toNat,vM a.ptr a.len a.cap,vM to.ptr to.len to.cap] h fun v h'=>v=.tuple #[]/\Own h' aD to 1 aC (cW c d lt)/\aU (fun b=>¬to.on b) h h':=by
 refine Ve (some f) _ a to ?_;unfold Pd;have J:=z.len;have B:=s.len;refine cx (fun e=>?_) (fun _=>?_)
 ·have G:c=0:=DX.1 e;subst G;have:cW 0 d lt=lt:=by
   apply we (by rw[bY m]);intro i A D;simp[cW,Gf.zero_mul]
  exact⟨rfl,by rw[this];exact s,aU.refl _ _⟩
 ·refine av (fun k:Nat=>(k:Int)) (fun k h'=>k<=d.length/\Own h' aD to 1 aC (zj (fun x y=>y^^^Gf.mul c x) (d.take k) (lt.take k)++lt.drop k)/\aU (fun b=>¬to.on b) h h') (fun k=>d.length-k) 0 rfl ⟨by omega,by simpa using s,aU.refl _ _⟩ ?_;rintro k A ⟨I,g,j⟩;refine ak (fun e=>?_) (fun e=>?_)
  ·have w:k<d.length:=by omega
   have u:k<lt.length:=by omega
   have n:(zj (fun x y=>y^^^Gf.mul c x) (d.take k) (lt.take k)).length=k:=by simp;omega
   have F:(zj (fun x y=>y^^^Gf.mul c x) (d.take k) (lt.take k)++lt.drop k).length=lt.length:=by rw[qu,n,qY];omega
   refine(z.ai j).bv k rfl w _ rfl ?_;have l:(zj (fun x y=>y^^^Gf.mul c x) (d.take k) (lt.take k)++lt.drop k)[k]'(by omega)=lt[k]:=by
    rw[z7 (by omega)];simp[n]
   refine(g.seq (p:=fun _=>True) (fun _=>rfl) fun _ _=>trivial).QN k rfl (by omega) _ rfl fun ax o=>?_;rw[l]at o⊢;refine(Kg f c d[k] A (E.ai j r)).mono ?_;rintro v D ⟨rfl,rfl⟩;refine⟨_,rfl,⟨o,trivial⟩,?_⟩;dsimp only;rw[pN];refine g.set ae (fun _=>rfl) rfl k rfl (by omega) _ rfl rfl rfl fun h3 q t _=>⟨trivial,?_⟩
   refine⟨k+1,by rw[wrap_small _ (by omega) (by omega)];rfl,⟨by omega,?_,j.trans t⟩,by omega⟩;rw[<-xD m u];exact q
  ·have:k=d.length:=by omega
   subst this;rw[qi (ql _),qi (by omega),q9 (by omega),qP]at g;exact⟨rfl,g,j⟩
abbrev ny(a:Sl)(rs:List Sl)(m:aR):List HP:=an aF a 1 bI rs::bP aD 1 aC rs m
theorem oN{a:Sl}{rs:List Sl}{m:aR}(b:rs.length=m.length)(i:Nat)(c:i<m.length):(ny a rs m)[i+1]?=some (an aD (rs[i]'(by omega)) 1 aC m[i]):=by
 rw[qz];exact jU b i c
theorem rQ{h h':Heap}{a:Addr}{v:Value}(c:cellOf h a=some v)(d:aU (fun b=>b<h.size) h h'):cellOf h' a=some v:=d.cell (cS c) c
theorem aax{B:aA}{y:Heap}{f:Addr}(P:gA y f)(I:B f.block){a:Sl}{n c bp:Nat}{rs:List Sl}{m:aR}(hl:rs.length=m.length)(U:be n m)(hc:bp<n)(hn:n<=64)(X:c<m.length)(hs:m.length<=2^30)
  {h:Heap} (H:aa B y h (ny a rs m)) {K:Heap->Prop} (hk:∀h',aa B y h' (ny a rs (dZ c bp m m.length))->K h'):
 aL (σ:=Int) (fun d W i=>
 Br (decide (d<((a.len:Nat):Int)))
 (Br (d !=(c:Int))
 (∃u:Addr,(a.ptr=some u/\0<=d/\d<((a.len:Nat):Int))/\
 ∃g:Sl,cellOf i (u.add (d.toNat*1))=some (vM g.ptr g.len g.cap)/\
 ∃E:Addr,(g.ptr=some E/\0<=(bp:Int)/\(bp:Int)<((g.len:Nat):Int))/\
 ∃J:Int,cellOf i (E.add ((bp:Int).toNat*1))=some (vL vS J)/\
 ∃a25:Addr,(a.ptr=some a25/\0<=(c:Int)/\(c:Int)<((a.len:Nat):Int))/\
 ∃l:Sl,cellOf i (a25.add ((c:Int).toNat*1))=some (vM l.ptr l.len l.cap)/\
 ∃D:Addr,(a.ptr=some D/\0<=d/\d<((a.len:Nat):Int))/\
 ∃j:Sl,cellOf i (D.add (d.toNat*1))=some (vM j.ptr j.len j.cap)/\
 af vV LO #[(vN (some f)),(vL vS J),(vM l.ptr l.len l.cap),(vM j.ptr j.len j.cap)] (.many []) i fun _ z=>
 (aq.ok [(u.add (d.toNat*1),(vM g.ptr g.len g.cap))] z)/\
 W (qc vR (d+(1:Int))) z)
 (W (qc vR (d+(1:Int))) i))
 (K i)) (0:Int) h:=by
 have ad:a.len=m.length:=by rw[(H.own 0 rfl).len,hl]
 refine av (fun k:Nat=>(k:Int)) (fun k h'=>k<=m.length/\aa B y h' (ny a rs (dZ c bp m k))) (fun k=>m.length-k) 0 rfl ⟨by omega,by rw[Zj];exact H⟩ ?_;rintro k Z ⟨ab,o⟩;have M:=nZ c bp m k;have r:rs.length=(dZ c bp m k).length:=by rw[M];exact hl
 refine ak (fun e=>?_) (fun e=>?_)
 ·have x:k<m.length:=by omega
  refine bQ (fun e2=>?_) (fun e2=>?_)
  ·have w:k≠c:=fun hh=>e2 (by rw[hh]);have R:az (dZ c bp m k) k=az m k:=by rw[rx x,if_neg (by omega)]
   have Q:az (dZ c bp m k) c=az m c:=by rw[rx X,if_neg (by omega)]
   have e4:(dZ c bp m k)[k]'(by omega)=az m k:=by rw[<-R,bt]
   have e5:(dZ c bp m k)[c]'(by omega)=az m c:=by rw[<-Q,bt]
   have t:=oN (a:=a) r k (by omega);have Y:=oN (a:=a) r c (by omega);rw[e4]at t;rw[e5]at Y;have lk:=bZ U x;have lt:=bZ U X;have q:=o.off (k+1) 0 (by omega) t rfl;have s:=q.1.seq (fun _=>rfl) q.2;refine s.oV k rfl (by omega) fun a1 O N=>?_;have T:=o.seq (k+1) t (fun _=>rfl);refine T.bv bp rfl (by omega) _ rfl ?_;refine s.oV c rfl (by omega) fun _ _ _=>?_;refine s.oV k rfl (by omega) fun _ _ _=>?_;have F:(tu (rs[c]'(by omega)) 1 aC (az m c)).p Z (fun b=>¬(rs[k]'(by omega)).on b):=by
    have:=o.off (k+1) (c+1) (by omega) t Y;exact(this.1.seq (fun _=>rfl) this.2).mono fun b hb=>hb.2
   refine(acB f _ _ _ (az m c) (az m k) Z (P.ai o.ai I) (o.base (k+1) t I) F (o.own (k+1) t) (by omega) (by omega)).mono ?_;rintro v h2 ⟨rfl,L,A⟩;have V:=o.oq (k+1) t A L;have S:=A.cell N.2 O;refine⟨(),rfl,⟨S,trivial⟩,?_⟩;refine⟨k+1,by rw[wrap_small _ (by omega) (by omega)];rfl,⟨by omega,?_⟩,by omega⟩;rw[Zk x w];show aa B y h2 (an aF a 1 bI rs::bP aD 1 aC rs ((dZ c bp m k).set k _));rw[<-Rp r k (by omega)];have G:(az m k)[bp]'(by omega)=aM (az m k) bp:=(Tj (by omega)).symm;rw[G]at V;exact V
  ·have w:k=c:=by omega
   subst w;exact⟨k+1,by rw[wrap_small _ (by omega) (by omega)];rfl,⟨by omega,by rw[Zl];exact o⟩,by omega⟩
 ·have:k=m.length:=by omega
  subst this;exact hk _ o
theorem Tk{rs:List Sl}{m:aR}(a:rs.length=m.length)(i j:Nat)(b:i<m.length)(c:j<m.length):
  ((bP aD 1 aC rs m).set i (an aD (rs[j]'(by omega)) 1 aC m[j])).set j (an aD (rs[i]'(by omega)) 1 aC m[i])=bP aD 1 aC ((rs.set i (rs[j]'(by omega))).set j (rs[i]'(by omega))) (iH m i j):=by
 rw[lC a,lC (by simpa using a),iH,bt b,bt c]
theorem BJ{B:aA}{s:Heap}{f:Addr}(S:gA s f)(U:B f.block){a:Sl}{n cD:Nat}{rs:List Sl}{m:aR}(hl:rs.length=m.length)(hm:be n m)(hc:cD<=n)(hn:n<=64)(hs:m.length<=2^30)
  {h:Heap} (H:aa B s h (ny a rs m)):ac vV Qr #[vN (some f),vM a.ptr a.len a.cap,vL vR cD] h fun v h'=>
   ∃M:List Sl,v=vL vR (bC m cD).1/\M.length=m.length/\aa B s h' (ny a M (bC m cD).2):=by
 have am:a.len=m.length:=by rw[(H.own 0 rfl).len,hl]
 refine NS (some f) a cD ?_;unfold GO;refine av (fun t:List Sl×Nat=>(((bC m t.2).1:Int),(t.2:Int))) (fun t h'=>t.2<=cD/\t.1.length=m.length/\aa B s h' (ny a t.1 (bC m t.2).2)) (fun t=>cD-t.2) (rs,0) rfl ⟨by simp,hl,H⟩ ?_;rintro⟨c,bp⟩ h1 ⟨hk,O,J⟩;dsimp only at*;have u:=ia hm bp;have E:=Dm m bp;obtain⟨st,y⟩:∃st,st=bC m bp:=⟨_,rfl⟩
 rw[<-y]at u E J⊢;obtain⟨b,l⟩:=st;dsimp only at u E J⊢;have w:c.length=l.length:=by omega
 have d:bC m (bp+1)=iI (b,l) bp:=by rw[bC,<-y]
 refine ak (fun e=>?_) (fun e=>?_)
 ·have R:bp<n:=by omega
  have P:gg h1 a 1 aC l:=J.Rq w (fun _=>rfl);refine(Vw a l n b bp h1 P u.1 R (by omega)).mono ?_;rintro v h2 ⟨rfl,rfl⟩;refine⟨_,rfl,?_⟩;dsimp only;cases hb:ir l b bp with
  |none=>
   refine ak (fun _=>?_) (fun Y=>absurd (by decide) Y);refine⟨(c,bp+1),?_,⟨by dsimp only;omega,O,?_⟩,by dsimp only;omega⟩
   ·dsimp only;rw[d,iI,hb,wrap_small _ (by omega) (by omega)];rfl
   ·dsimp only;rw[d,iI,hb];exact J
  |some i=>
   have hh:=se hb;refine ak (fun Y=>absurd (show((i:Nat):Int)<0 from Y) (by omega)) (fun _=>?_);dsimp only;have K:b<l.length:=by omega
   have hi:=hh.2.1;have T:=J.seq 0 rfl (fun _=>rfl);refine ba ?_;refine T.oV i rfl (by omega) fun _ _ _=>?_;refine T.oV b rfl (by omega) fun _ _ _=>?_;refine J.set ae 0 rfl (fun _=>rfl) rfl b rfl (by omega) (c[i]'(by omega)) rfl rfl rfl fun h3 H3=>⟨trivial,?_⟩
   refine H3.set ae 0 rfl (fun _=>rfl) rfl i rfl (by simp;omega) (c[b]'(by omega)) rfl rfl rfl fun W H4=>⟨trivial,?_⟩
   have o:aa B s W (ny a ((c.set b (c[i]'(by omega))).set i (c[b]'(by omega))) (iH l b i)):=by
    have:=H4.adA (b+1) (i+1) (A:=an aD (c[b]'(by omega)) 1 aC l[b]) (A2:=an aD (c[i]'(by omega)) 1 aC l[i]) (jU w b K) (jU w i hi);show aa B s W (an aF a 1 bI _::bP aD 1 aC _ _);rw[<-Tk w b i K hi];exact this
   obtain⟨j,z⟩:∃j,j=(c.set b (c[i]'(by omega))).set i (c[b]'(by omega)):=⟨_,rfl⟩
   rw[<-z]at o;have ao:j.length=l.length:=by rw[z];simp;omega
   obtain⟨g,x⟩:∃g,g=iH l b i:=⟨_,rfl⟩
   have F:be n g:=by rw[x];exact FQ u.1 K hi
   have N:g.length=l.length:=by rw[x];exact kI _ _ _
   rw[<-x]at o;have q:j.length=g.length:=by omega
   have k:b<g.length:=by omega
   refine ba ?_;have gt:=oN (a:=a) q b k;have lt:g[b].length=n:=F _ (qg _);have L:=o.seq 0 rfl (fun _=>rfl);refine L.oV b rfl (by omega) fun ap D _=>?_;have G:=o.seq (b+1) gt (fun _=>rfl);refine G.bv bp rfl (by omega) _ rfl ?_;refine L.oV b rfl (by omega) fun ah V _=>?_;have Q:gA W f:=S.ai o.ai U;refine(acx f _ W Q).mono ?_;rintro v h5 ⟨rfl,rfl⟩;refine⟨_,rfl,⟨V,D,trivial⟩,?_⟩;refine(Ya f _ _ _ h5 Q G (by omega)).mono ?_;rintro v h6 ⟨r,rfl,R6⟩;refine⟨r,rfl,⟨rQ D R6.ai,trivial⟩,?_⟩;have H6:=o.comp R6;dsimp only;refine H6.set ae 0 rfl (fun _=>rfl) rfl b rfl (by omega) r rfl rfl rfl fun Z H7=>⟨trivial,?_⟩
   have ab:g[b]=az g b:=(bt k).symm;have X:(g[b])[bp]'(by omega)=aM (az g b) bp:=by rw[Tj (by rw[bt k];omega)];simp only[bt k]
   have ad:aa B s Z (ny a (j.set b r) (jo b bp g)):=by
    have h8:aa B s Z ((an aF a 1 bI (j.set b r)::bP aD 1 aC j g)++[an aD r 1 aC (scaleB (Gf.inv ((g[b])[bp]'(by omega))) g[b])]):=H7;have h9:=h8.aff (b+1) (by simp[Uq q];omega);rw[X,ab]at h9;show aa B s Z (an aF a 1 bI _::bP aD 1 aC _ (g.set b _));rw[<-lC q];exact h9
   have I:(jo b bp g).length=g.length:=nY _ _ _;refine aax S U (by simp;omega) (Am F k) R hn (by omega) (by omega) ad fun h8 H8=>?_;have p:iI (b,l) bp=(b+1,dZ b bp (jo b bp g) l.length):=by
    rw[iI];dsimp only;rw[hb,x]
   refine⟨(j.set b r,bp+1),?_,⟨by dsimp only;omega,by simp;omega,?_⟩,by dsimp only;omega⟩
   ·dsimp only;rw[d,p,wrap_small _ (by omega) (by omega),wrap_small _ (by omega) (by omega)];rfl
   ·dsimp only;rw[d,p];rw[I,N]at H8;exact H8
 ·have:bp=cD:=by omega
  subst this;exact⟨c,by rw[<-y],O,by rw[<-y];exact J⟩
theorem Vx(f:Addr)(a:Sl)(m:aR)(n:Nat)(h:Heap)(w:gA h f)(y:gg h a 1 aC m)(g:be n m)(q:n<=64)(k:m.length<=2^30):
  ac vV Qy #[vN (some f),vM a.ptr a.len a.cap] h fun v h'=>∃(r:Sl) (rs:List Sl),v=vM r.ptr r.len r.cap/\r.len=cG m/\rs.length=m.length/\r.len<=m.length/\Sp h h' (ny ⟨r.ptr,m.length,r.cap⟩ rs (bC m (fG m)).2):=by
 refine Oa (some f) a ?_;unfold Ha;refine(mG a m n h y g q k).mono ?_;rintro v B ⟨rfl,rfl⟩;refine⟨_,rfl,bg (fun e=>by cases e) fun _=>?_⟩;refine(xC a m n B y g q k).mono ?_;rintro v A ⟨r,rs,rfl,z,u⟩;refine⟨r,rfl,(tJ f A).mono ?_⟩;rintro v h3 ⟨rfl,rfl⟩;refine⟨some f,rfl,(rP r m h3 (u.Rq z (fun _=>rfl))).mono ?_⟩;rintro v E ⟨rfl,rfl⟩;have D:fG m<=n:=by
  cases m with
  |nil=>simp[fG,az]
  |cons x t=>rw[fG,bt (by simp)];exact Nat.le_of_eq (g _ (by simp))
 refine⟨_,rfl,(BJ w w.lt z g D q k u).mono ?_⟩;rintro v F ⟨o,rfl,i,j⟩;have b:=Dm m (fG m);rw[(ia g _).2]at b;have s:=(j.own 0 rfl).cap;have d:=(j.own 0 rfl).len;refine⟨_,rfl,⟨zT _,yD.2 (show(bC m (fG m)).1<=r.cap by omega)⟩,⟨r.ptr,(bC m (fG m)).1,r.cap⟩,o,by simp,rfl,i,b,?_⟩;have:r=⟨r.ptr,m.length,r.cap⟩:=by
  obtain⟨p,l,c⟩:=r;simp only at d⊢;rw[<-i,<-d]
 rw[<-this];exact j
theorem aay(f:Addr)(a:Sl)(m:aR)(n:Nat)(h:Heap)(e:gA h f)(i:gg h a 1 aC m)(b:be n m)(j:n<=64)(c:m.length<=2^30):
  ac vV Vd #[vN (some f),vM a.ptr a.len a.cap] h fun v h'=>v=vL vR (cG m)/\Sp h h' []:=by
 refine SP (some f) a ?_;unfold LL;refine(Vx f a m n h e i b j c).mono ?_;rintro v k ⟨r,rs,rfl,d,_,_,g⟩;exact⟨r,rfl,by rw[d],.zip g.ai⟩
theorem Kh(p:Pm)(seed:Int)(ids:Sl)(l:List Int)(h:Heap)(t:Rd h ids 1 aE l)(i:l.length<=2^29):ac vV NP #[kB p,vL vT seed,vM ids.ptr ids.len ids.cap] h fun v h'=>v=vL vR (KQ p seed l)/\Sp h h' []:=by
 refine LA p seed ids ?_;unfold EO;refine(Sp.refl h).boxed fun a q g=>?_;refine⟨p,(g.box 0 rfl).aQ _ rfl,(uC q).mono ?_⟩;rintro v k ⟨f,rfl,j⟩;have c:=g.comp j;have d:=c.box 0 rfl;refine⟨some f,rfl,⟨d.cell0 rfl,d.cell rfl,d.cell rfl,trivial⟩,?_⟩;refine(Jg p seed ids l k (Seq.up t c.ai) (by omega)).mono ?_;rintro v h3 ⟨r,rfl,o⟩;have b:=c.comp o;refine⟨r,rfl,trivial,?_⟩;have s:=abU p seed l;have e:(bX p).toNat<=64:=by
  unfold bX;split
  ·rename_i n;have:=(bU p).1 n;omega
  ·omega
 refine(aay f r _ _ h3 (b.box 1 rfl) (b.IH 2 rfl) (mi p seed l) e (by omega)).mono ?_;rintro v u ⟨rfl,m⟩;exact⟨_,rfl,trivial,rfl,.zip (b.comp m).ai⟩
theorem Pp(p:Pm)(seed:Int)(ids:Sl)(l:List Int)(h:Heap)(q:Rd h ids 1 aE l)(d:l.length<=2^29):ac vV NG #[kB p,vL vT seed,vM ids.ptr ids.len ids.cap] h fun v h'=>v=vP (fJ p seed l)/\Sp h h' []:=by
 refine Lr p seed ids ?_;unfold EI;refine(Sp.refl h).boxed fun a o i=>?_;refine⟨p,(i.box 0 rfl).aQ _ rfl,(dN p o).mono ?_⟩;rintro v k ⟨rfl,j⟩;have c:=i.comp j;refine⟨_,rfl,trivial,bA (fun e=>?_) (fun e=>⟨trivial,trivial,by rw[fJ,e];rfl,.zip c.ai⟩)⟩;have g:=c.box 0 rfl;refine⟨p,g.aQ _ rfl,p,g.aQ _ rfl,(Kh p seed ids l k (Seq.up q c.ai) d).mono ?_⟩;rintro v h3 ⟨rfl,n⟩;have f:=c.comp n;have b:=f.box 0 rfl;refine⟨_,rfl,⟨b.cell0 rfl,b.cell rfl,b.cell rfl,trivial⟩,(lA p h3).mono ?_⟩;rintro v r ⟨rfl,m⟩;exact⟨_,rfl,trivial,by rw[fJ,e];rfl,.zip (f.comp m).ai⟩
theorem Mi(p:Pm)(seed:Int)(h:Heap):ac vV Lw #[kB p,vL vT seed] h fun v h'=>v=vP (fJ p seed (eC p))/\Sp h h' []:=by
 refine JL p seed ?_;unfold Ct;refine(Sp.refl h).boxed fun a f e=>?_;have d:=e.box 0 rfl;refine⟨p,d.aQ _ rfl,p,d.aQ _ rfl,(Mh p f).mono ?_⟩;rintro v g ⟨r,rfl,j⟩;have c:=e.comp j;have b:=c.box 0 rfl;refine⟨r,rfl,⟨b.cell0 rfl,b.cell rfl,b.cell rfl,trivial⟩,(Pp p seed r _ g (c.seq 1 rfl (fun _=>rfl)) (by rw[gi];omega)).mono ?_⟩;rintro v h3 ⟨rfl,i⟩;exact⟨_,rfl,trivial,rfl,.zip (c.comp i).ai⟩
theorem acC(p:Pm)(o b:Int)(h:Heap):ac vV Sw #[kB p,vL vR o,vL vR b] h fun v h'=>
  v=.tuple #[vL vR (((pM p o b).getD 0:Nat):Int),vP (pM p o b).isSome]/\Sp h h' []:=by
 refine Qb p o b ?_;unfold IT;refine(Sp.refl h).boxed fun u B r=>?_;have r:Sp h B [au u aT [vL vR p.1,vL vR p.2.1,vL vR p.2.2]]:=r;refine av (fun i:Nat=>(i:Int)) (fun i h'=>i<=16/\(∀k,k<i->Mf p o b k=false)/\Sp h h' [au u aT [vL vR p.1,vL vR p.2.1,vL vR p.2.2]]) (fun i=>16-i) 0 rfl ⟨by omega,fun k f=>absurd f (Nat.not_lt_zero k),r⟩ ?_;rintro i y ⟨D,c,l⟩;refine ak (fun e=>?_) fun e=>?_
 ·have A:i<16:=by omega
  have a:=l.box 0 rfl;refine⟨p,a.aQ _ rfl,(uA _ _ _ y).mono ?_⟩;rintro _ h3 ⟨rfl,rfl⟩;refine⟨_,rfl,⟨a.cell0 rfl,a.cell rfl,a.cell rfl,trivial⟩,(Mi p _ h3).mono ?_⟩;rintro _ E ⟨rfl,z⟩;have t:=l.up z.ai;refine⟨_,rfl,trivial,bA (fun g=>?_) fun g=>?_⟩
  ·have m:pM p o b=some i:=by
    unfold pM;refine wD.2 ⟨g,qC i,(qC (15-i)).map (·+(i+1)),?_,fun k f=>?_⟩
    ·apply zH;intro j;by_cases w:j<i
     ·rw[qn (by simpa using w),zo (by omega),zo w]
     ·rw[qj (by simp;omega),zt];by_cases s:j=i
      ·subst s;rw[zf,zo (by omega)];rfl
      ·obtain⟨d,x⟩:∃d,j=i+(d+1):=⟨j-i-1,by omega⟩
       subst x;rw[zk,qz,qN];by_cases q:d<15-i
       ·rw[zo q,zo (by omega)];simp;omega
       ·rw[ze (by simp;omega),ze (by simp;omega)];rfl
    ·rw[c k (qH.1 f)];rfl
   rw[m];exact⟨rfl,.zip t.ai⟩
  ·refine⟨i+1,by rw[Go.Vc.wrap_small _ (by omega) (by omega)];rfl,⟨by omega,fun k f=>?_,t⟩,by omega⟩;by_cases n:k<i
   ·exact c k n
   ·have:k=i:=by omega
    subst this;exact g
 ·have m:pM p o b=none:=by
   unfold pM;rw[wL];intro k f;rw[c k (by have:=qH.1 f;omega)];simp
  rw[m];exact⟨rfl,.zip l.ai⟩
theorem Yb(p:Pm)(o:Int)(n:Nat)(h:Heap)(J:n<=2^30):ac vV Nt #[kB p,vL vR o,vL vR n] h fun v h'=>
  (cy p o n=none->v=.tuple #[vM none 0 0,vP false]/\Sp h h' [])/\
  (∀l,cy p o n=some l->∃r:Sl,v=.tuple #[vM r.ptr r.len r.cap,vP true]/\Sp h h' [an aS r 1 aE l]):=by
 refine Lc p o n ?_;unfold Ew;refine(Sp.refl h).boxed fun w E m=>?_;have m:Sp h E [an aS ⟨none,0,0⟩ 1 aE [],au w aT [vL vR p.1,vL vR p.2.1,vL vR p.2.2]]:=(m.nil aS 1 aE).bV [1,0];refine av (fun t:Sl×Nat×List Int=>(t.1,(t.2.1:Int))) (fun t h'=>t.2.1<=n/\cy p o t.2.1=some t.2.2/\Sp h h' [an aS t.1 1 aE t.2.2,au w aT [vL vR p.1,vL vR p.2.1,vL vR p.2.2]]) (fun t=>n-t.2.1) (⟨none,0,0⟩,0,[]) rfl ⟨by simp,rfl,m⟩ ?_;rintro⟨s,i,l⟩ y ⟨F,c,k⟩;dsimp only at*;have z:=iP c;have b:∀j,pM p o i=none->j<=n-(i+1)->cy p o (i+1+j)=none:=fun j f=>by
  induction j with
  |zero=>intro _;show cy p o (i+1)=none;unfold cy;rw[c,f];rfl
  |succ j ih=>intro H;show cy p o ((i+1+j)+1)=none;unfold cy;rw[ih (by omega)];rfl
 refine ak (fun e=>?_) fun e=>?_
 ·have D:i<n:=by omega
  refine⟨p,(k.box 1 rfl).aQ _ rfl,(acC p o i y).mono ?_⟩;rintro _ h3 ⟨rfl,B⟩;have q:=k.up B.ai;refine⟨(_,_),rfl,bg (fun g=>?_) fun g=>?_⟩
  ·have a:cy p o n=none:=by
    have:=b (n-(i+1)) (Option.isSome_eq_false_iff.1 g|>Option.isNone_iff_eq_none.1) (ql _);rw[show i+1+(n-(i+1))=n by omega]at this;exact this
   rw[a];exact⟨fun _=>⟨rfl,.zip q.ai⟩,fun l h=>by cases h⟩
  ·obtain⟨t,u⟩:∃t,pM p o i=some t:=y8.1 g;rw[u];refine q.push ae 0 rfl nw rfl (by decide) (fun _=>rfl) ja (t:Int) rfl (by decide) (by omega) fun x I A=>?_;refine⟨(x,i+1,l++[(t:Int)]),by dsimp only;rw[Go.Vc.wrap_small _ (by omega) (by omega)];rfl,⟨by dsimp only;omega,?_,A⟩,by dsimp only;omega⟩;show cy p o (i+1)=_;unfold cy;rw[c,u];rfl
 ·have d:i=n:=by omega
  subst d;rw[c];exact⟨fun h=>(by cases h),fun G h=>(by injection h with h;subst h;exact⟨s,rfl,k.bV [0]⟩)⟩
end Go.Proofs.YtdhamoojccmbdaaGreatDoor
namespace Wl
open Go
def ta(m:aG)(l:List (List UInt8)):List (List UInt8):=(kR m l).map dJ
def jP(m:aG)(l:List (List UInt8)):List (List UInt8):=bh m++ta m l
def gZ(d:bE)(a:Nat)(n:Int):Bool:=decide (max n 0<=(d.room:Int)-a)
def pO(m:aG)(d:bE)(n:Int):Bool:=!d.lost&&(gZ d d.l.length n||gZ d (jP m d.l).length n)
def iy(m:aG)(w:Pow)(d:bE)(n:Int):Int×Pow×bE:=
 if d.lost then(5,w,d)else if !pO m d n then(7,w,d)else if gZ d d.l.length n then(0,w,d)else d.rewrite w (jP m d.l)
theorem acD(l:List dj):(vZ l).length<=l.length:=by
 unfold vZ;rw[qw];exact zl (q7 _ _) (by simp)
theorem AO(m:aG)(l:List (List UInt8)):(kR m l).length<=l.length:=by
 unfold kR;refine zl (acD _) ?_;rw[wj];exact List.length_filterMap_le _ _
theorem DY(m:aG)(l:List (List UInt8)):(ta m l).length<=l.length:=by unfold ta;rw[qw];exact AO m l
end Wl
namespace Go.Proofs.YtdhamoojccmbdaaGreatDoor
open Go Go.Vc Go.Proofs Wl
section
variable {B:aA} {h0 h:Heap} {As:List HP} {a pw:Addr} {d:bE} {w:Pow}
theorem gc.rewrite{l:List (List UInt8)}(h:gc d):gc (d.rewrite w l).2.2:=by
 unfold bE.rewrite;split
 ·exact h
 ·rename_i b;split
  ·exact h
  ·split
   ·exact h
   ·rename_i e;have a:∀c∈l,c.length=64:=by simpa using b
    split
    ·exact h
    ·split
     ·exact⟨w8 _,by dsimp only;omega,h.room,a,w8 _,by simp⟩
     ·exact⟨h.wait,h.len,h.room,h.cell,by dsimp only;omega,a⟩
theorem Tl(x:Sl)(l:List (List UInt8))(H:aa B h0 h (mE pw a d::dU bG pw w::As))(M:St B h0 As fun h=>gg h x 1 aC l)(P:l.length<=2^20)(u:∀c∈l,c.length<=2^20):
  ac vV Bi #[vN (some a),vM x.ptr x.len x.cap] h fun v h'=>v=vL vR (d.rewrite w l).1/\aa B h0 h' (mE pw a (d.rewrite w l).2.2::dU bG pw (d.rewrite w l).2.1::As):=by
 refine xU (some a) x ?_;unfold oC;have O:=M.at [_,_] H;have W:=O.len;have o:=gc.rewrite (w:=w) (l:=l) (And.left (id H).ux);have j:∀(e:Int),d.rewrite w l=(e,w,d)->(Value.int .i64 e=vL vR (d.rewrite w l).1/\aa B h0 h (mE pw a (d.rewrite w l).2.2::dU bG pw (d.rewrite w l).2.1::As)):=fun e R=>by
  rw[R];exact⟨rfl,H⟩
 refine av (fun i:Nat=>(i:Int)) (fun i h'=>i<=l.length/\(∀c∈l.take i,c.length=64)/\h'=h) (fun i=>l.length-i) 0 rfl ⟨by omega,by simp,rfl⟩ ?_;rintro i h1 ⟨hi,f,rfl⟩;refine ak (fun e=>?_) fun e=>?_
 ·have p:i<l.length:=by omega
  refine O.get i rfl p fun r T=>?_;have U:=T.len;refine bQ (fun Y=>j 1 ?_) fun Y=>?_
  ·unfold bE.rewrite;rw[if_pos];rw[wV,ye];exact⟨l[i],qg p,by simp;omega⟩
  ·refine⟨i+1,by rw[Go.Vc.wrap_small _ (by omega) (by omega)];rfl,⟨by omega,fun c k=>?_,rfl⟩,by omega⟩;rw[aH _ _ p]at k;rcases qE.1 k with k|k
   ·exact f c k
   ·rw[qG.1 k];omega
 have f:∀c∈l,c.length=64:=by rw[qi (by omega)]at f;exact f
 have m:(!l.all fun b=>decide (b.length=64))=false:=by
  rw[Bool.not_eq_false',qM];exact fun c k=>decide_eq_true (f c k)
 have z:d.rewrite w l=(if d.lost then(5,w,d)else if d.room<l.length then(7,w,d)else if w.off then(14,w,d)else if w.step.1 then(0,w.step.2,{d with l:=l,wait:=0,laid:=[],has:=false})else(14,w.step.2,{d with laid:=l,has:=true})):=by
  unfold bE.rewrite;rw[m];rfl
 obtain⟨ok,s,b,K⟩:=H.ux;have A:=K.box 0 rfl;refine ba (ba (bA (fun e=>by cases e) fun _=>⟨a,rfl,d.lost,A.cell rfl,bA (fun e=>j 5 (by rw[z,if_pos e])) fun g=>?_⟩));refine⟨a,rfl,(d.room:Int),A.cell rfl,ak (fun e=>j 7 (by rw[z,if_neg (by simp[g]),if_pos (by omega)])) fun D=>?_⟩;obtain⟨Z,Q,I⟩:=(K.bo 4 [3,0,1,2]).CL;refine⟨a,rfl,some pw,A.cell0 rfl,(Ik Z (I.box 0 rfl)).mono ?_⟩;rintro _ h2 ⟨rfl,rfl⟩;refine⟨_,rfl,bg (fun e=>j 14 ?_) fun y=>?_⟩
 ·rw[z,if_neg (by simp[g]),if_neg (by omega),if_pos (by simpa using e)]
 have n:w.off=false:=by simpa using y
 have q:d.rewrite w l=(if w.step.1 then(0,w.step.2,{d with l:=l,wait:=0,laid:=[],has:=false})else(14,w.step.2,{d with laid:=l,has:=true})):=by
  rw[z,if_neg (by simp[g]),if_neg (by omega),if_neg (by simp[n])]
 refine⟨a,rfl,some pw,A.cell0 rfl,(Hb (K.bo 4 [3,0,1,2])).mono ?_⟩;rintro _ N ⟨rfl,F⟩;have t:=M.at [_,_,_,_] F;refine⟨_,rfl,bg (fun e=>?_) fun e=>?_⟩
 ·rw[q,if_neg (by simp[e])]at o⊢;refine(JZ x l N t P u).mono ?_;rintro _ V ⟨r,rfl,G⟩;have J:=(F.cY G).bo 5 [2,3,0,1];refine⟨r,rfl,a,rfl,J.store ae 0 rfl rfl 4 [vM r.ptr r.len r.cap] rfl rfl rfl (by simp[gJ]) fun S E=>?_⟩;refine⟨a,rfl,E.store ae 0 rfl rfl 5 [vP true] rfl rfl rfl (by simp[gJ]) fun h8 L=>⟨rfl,?_⟩⟩;exact aa.Hd (s:=s) (b:=r) o L
 ·rw[q,if_pos e]at o⊢;refine(JZ x l N t P u).mono ?_;rintro _ V ⟨r,rfl,G⟩;have J:=(F.cY G).bo 5 [2,0,4,1];refine⟨r,rfl,a,rfl,J.store ae 0 rfl rfl 2 [vM r.ptr r.len r.cap] rfl rfl rfl (by simp[gJ]) fun S E=>?_⟩;refine⟨a,rfl,E.store ae 0 rfl rfl 3 [vL vR 0] rfl rfl rfl (by simp[gJ]) fun h8 L=>?_⟩;refine(He (d:={d with l:=l,wait:=0}) r b _ L ⟨w8 _,by dsimp only;omega,ok.room,f,ok.laid,ok.cellL⟩ rfl).mono ?_;rintro _ h9 ⟨rfl,X⟩;exact⟨0,rfl,rfl,X⟩
theorem BL(s b:Sl)(c:Nat)(n:Int)(e:cw h a cC (gJ pw d s b))(f:d.room<=512)(g:c<=2^40):ac vV NO #[vN (some a),vL vR c,vL vR n] h fun v h'=>v=vP (gZ d c n)/\h'=h:=by
 refine Lz (some a) c n ?_;unfold EN;refine(aac s b e).mono ?_;rintro _ _ ⟨rfl,rfl⟩;refine⟨_,rfl,?_,rfl⟩;rw[Go.Vc.wrap_small ((d.room:Int)-c) (by omega) (by omega)];unfold gZ;congr 1;rw[decide_eq_decide];split<;>omega
theorem Yc(s b:Sl)(x:cg)(m:aG)(D:cw h a cC (gJ pw d s b))(S:gg h s 1 aC d.l)(ok:gc d)(P:eG h x m)(H:db m):
  ac vV Qe #[vN (some a),ft x] h fun v h'=>∃r:Sl,v=vM r.ptr r.len r.cap/\Sp h h' [dP r (ta m d.l)]:=by
 refine NC (some a) x ?_;unfold GA;have F:=ok.len;have w:=ok.room;refine(Sp.refl h).boxed fun W O j=>?_;refine⟨x,(j.box 0 rfl).aQ _ rfl,(Hl a pw d s b x m O (D.ai j.ai D.lt) (S.up j.ai) ok (P.up j.ai) H).mono ?_⟩;rintro _ V ⟨r,c,rfl,G⟩;have p:=(j.cY G).FN aF aD 1 aC;refine⟨r,rfl,?_⟩;have q:=AO m d.l;obtain⟨L,A⟩:∃L,L=kR m d.l:=⟨_,rfl⟩
 have y:(ta m d.l)=L.map dJ:=by unfold ta;rw[A]
 rw[<-A]at p q;rw[y];have B:=p.eJ 1 rfl;have I:=B.2.1;have n:=B.1.len;refine av (fun t:Sl×Nat=>(t.1,(t.2:Int))) (fun t h'=>t.2<=L.length/\Sp h h' [dP t.1 ((L.map dJ).take t.2),cH eI 8 bD r c L]) (fun t=>L.length-t.2) (⟨none,0,0⟩,0) rfl ⟨by simp,p.bV [0,1]⟩ ?_;rintro⟨o,i⟩ h3 ⟨U,k⟩;dsimp only at*;have Q:=k.eJ 1 rfl;refine ak (fun e=>?_) (fun e=>?_)
 ·have z:i<L.length:=by omega
  refine Q.1.dD (g:=bD) i rfl (by omega) (c[i]'(by omega)) rfl ?_;refine k.alloc ae rfl fun K X J=>?_;refine J.storeAll ae 2 rfl rfl (bD (c[i]'(by omega))) rfl rfl rfl rfl fun E f=>?_;have f:Sp h E [dP o ((L.map dJ).take i),cH eI 8 bD r c L,au K aZ (bD (c[i]'(by omega)))]:=f;refine⟨c[i]'(by omega),(f.box 2 rfl).aQ _ rfl,(BH _ L[i] E (Fix.row (f.eJ 1 rfl) z)).mono ?_⟩;rintro _ Y ⟨u,rfl,M⟩;have N:=(f.cY M).bo 3 [1,0,2];refine⟨u,rfl,N.HU ae fq (by simp;omega) fun R h8 T=>?_⟩;refine⟨(R,i+1),by dsimp only;rw[Go.Vc.wrap_small _ (by omega) (by omega)];rfl,⟨by dsimp only;omega,?_⟩,by dsimp only;omega⟩;dsimp only;rw[aH _ _ (show i<(L.map dJ).length by simp;omega),zY];exact T.bV [0,1]
 ·rw[qi (by simp;omega)]at k;exact⟨o,rfl,k.bV [0]⟩
end
section
variable {B:aA} {h0 h:Heap} {As:List HP} {a pw:Addr} {d:bE} {w:Pow}
theorem Vy{m:aG}{l:List (List UInt8)}{c:List UInt8}(h:c∈ta m l):c.length<=64:=by
 unfold ta at h;obtain⟨r,_,rfl⟩:=qx.1 h;unfold dJ;split
 ·rename_i a;refine Nat.le_of_eq (nF (by decide) (by decide) ?_);have:=ot a;omega
 ·simp
theorem Pq(s b:Sl)(x:cg)(m:aG)(j:cw h a cC (gJ pw d s b))(D:gg h s 1 aC d.l)(ok:gc d)(k:eG h x m)(g:db m):
  ac vV Sy #[vN (some a),ft x] h fun v h'=>∃r:Sl,v=vM r.ptr r.len r.cap/\Sp h h' [dP r (jP m d.l)]:=by
 refine Qd (some a) x ?_;unfold IU;have o:=ok.len;have i:=ok.room;refine(Sp.refl h).boxed fun y n e=>?_;have e:Sp h n [au y aB (aV x)]:=e;refine⟨x,(e.box 0 rfl).aQ _ rfl,x,(e.box 0 rfl).aQ _ rfl,(mV x m n (k.up e.ai) g).mono ?_⟩;rintro _ E ⟨r,rfl,t⟩;have f:=e.cY t;have c:=f.box 1 rfl;refine⟨r,rfl,⟨c.cell0 rfl,c.cell rfl,c.cell rfl,c.cell rfl,c.cell rfl,c.cell rfl,c.cell rfl,c.cell rfl,trivial⟩,(Yc s b x m (j.ai f.ai j.lt) (D.up f.ai) ok (k.up f.ai) g).mono ?_⟩;rintro _ h3 ⟨u,rfl,B⟩;have q:=(f.cY B).bo 2 [1,0];have A:=jM m g;have z:=DY m d.l;refine⟨u,rfl,trivial,q.aej ae fq ⟨_,_,rfl,rfl⟩ (by omega) fun p F w=>?_⟩;exact⟨trivial,p,rfl,w.bV [0]⟩
theorem Pr(s b:Sl)(x:cg)(m:aG)(n:Int)(q:cw h a cC (gJ pw d s b))(D:gg h s 1 aC d.l)(j:s.len=d.l.length)(ok:gc d)(A:eG h x m)(p:db m):
  ac vV Gy #[vN (some a),ft x,vL vR n] h fun v h'=>v=vP (pO m d n)/\Sp h h' []:=by
 refine EF (some a) x n ?_;unfold Bp;have u:=ok.len;have k:=ok.room;refine(Sp.refl h).boxed fun y B f=>?_;have f:Sp h B [au y aB (aV x)]:=f;have c:=q.ai f.ai q.lt;refine ba (bA (fun e=>by cases e) fun _=>(Hg s b c).mono ?_);rintro _ _ ⟨rfl,rfl⟩;refine⟨_,rfl,bA (fun e=>⟨by unfold pO;rw[e];rfl,.zip f.ai⟩) fun e=>?_⟩;have t:pO m d n=(gZ d d.l.length n||gZ d (jP m d.l).length n):=by unfold pO;rw[e];rfl
 refine(Pj s b c j).mono ?_;rintro _ _ ⟨rfl,rfl⟩;refine⟨_,rfl,(BL s b d.l.length n c ok.room (by omega)).mono ?_⟩;rintro _ _ ⟨rfl,rfl⟩;refine⟨_,rfl,bA (fun o=>⟨by rw[t,o];rfl,.zip f.ai⟩) fun o=>?_⟩;refine⟨x,(f.box 0 rfl).aQ _ rfl,(Pq s b x m c (D.up f.ai) ok (A.up f.ai) p).mono ?_⟩;rintro _ E ⟨r,rfl,g⟩;have i:=(aa.Dk g).1;have z:(jP m d.l).length<=4000:=by
  have:=jM m p;have:=DY m d.l;unfold jP;rw[qu];omega
 have w:=f.cY g;refine⟨r,rfl,(BL s b r.len n (c.ai g.ai c.lt) ok.room (by omega)).mono ?_⟩;rintro _ _ ⟨rfl,rfl⟩;exact⟨_,rfl,by rw[t,o,vx,i],.zip w.ai⟩
theorem Tm(x:cg)(n:Int)(h:Heap):ac vV Gy #[vN none,ft x,vL vR n] h fun v h'=>v=vP false/\Sp h h' []:=by
 refine EF none x n ?_;unfold Bp;refine(Sp.refl h).boxed fun c b a=>?_;exact ba (bA (fun _=>⟨rfl,.zip a.ai⟩) fun e=>by cases e)
theorem aaz(x:cg)(m:aG)(n:Int)(K:St B h0 As fun h=>eG h x m)(z:db m)(H:aa B h0 h (mE pw a d::dU bG pw w::As)):
  ac vV Gz #[vN (some a),ft x,vL vR n] h fun v h'=>v=vL vR (iy m w d n).1/\aa B h0 h' (mE pw a (iy m w d n).2.2::dU bG pw (iy m w d n).2.1::As):=by
 refine EG (some a) x n ?_;unfold Bq;refine(Sp.refl h).boxed fun O t G=>?_;have G:Sp h t [au O aB (aV x)]:=G;have p:=(H.cY G).bo 3 [1,2,0];have f:∀(e:Int) {h':Heap},aU (fun b=>b<t.size) t h'->iy m w d n=(e,w,d)->(Value.int .i64 e=vL vR (iy m w d n).1/\aa B h0 h' (mE pw a (iy m w d n).2.2::dU bG pw (iy m w d n).2.1::As)):=fun e {h'} Q M=>by
  rw[M];exact⟨rfl,((p.up Q).bo 3 [0,1])⟩
 obtain⟨ok,s,b,g⟩:=(id p).ux;have q:=g.box 0 rfl;have S:gg t s 1 aC d.l:=(g.bo 2 [1]).OE fun _=>rfl;have o:=(aa.Dk (g.bo 2 [1])).1;have L:=ok.len;have I:=ok.room;refine ba (ba (bA (fun e=>by cases e) fun _=>(Hg s b q).mono ?_));rintro _ _ ⟨rfl,rfl⟩;refine⟨_,rfl,bA (fun e=>f 5 (aU.refl _ _) (by unfold iy;rw[if_pos e])) fun e=>?_⟩;refine⟨x,(p.box 2 rfl).aQ _ rfl,(Pr s b x m n q S o ok (K.at [_,_,_] p) z).mono ?_⟩;rintro _ T ⟨rfl,k⟩;have E:=g.up k.ai;have j:=q.ai k.ai q.lt;have A:=p.up k.ai;refine⟨_,rfl,bg (fun u=>f 7 k.ai (by unfold iy;rw[if_neg (by simp[e]),if_pos (by simp[u])])) fun u=>?_⟩;refine(Pj s b j o).mono ?_;rintro _ _ ⟨rfl,rfl⟩;refine⟨_,rfl,(BL s b d.l.length n j ok.room (by omega)).mono ?_⟩;rintro _ _ ⟨rfl,rfl⟩;refine⟨_,rfl,bA (fun J=>f 0 k.ai (by unfold iy;rw[if_neg (by simp[e]),if_neg (by simp[u]),if_pos J])) fun J=>?_⟩;have em:iy m w d n=d.rewrite w (jP m d.l):=by unfold iy;rw[if_neg (by simp[e]),if_neg (by simp[u]),if_neg (by simp[J])]
 rw[em];have P:(jP m d.l).length<=4000:=by
  have:=jM m z;have:=DY m d.l;unfold jP;rw[qu];omega
 have D:∀c∈jP m d.l,c.length<=64:=fun c i=>by
  unfold jP at i;rcases qE.1 i with i|i
  ·exact Nat.le_of_eq (Do i)
  ·exact Vy i
 refine⟨x,(A.box 2 rfl).aQ _ rfl,(Pq s b x m j ((E.bo 2 [1]).OE fun _=>rfl) ok (K.at [_,_,_] A) z).mono ?_⟩;rintro _ h3 ⟨r,rfl,R⟩;obtain⟨rs,y⟩:=(A.cY R).act fun _=>rfl;have y:=y.bo 4 [1,2,0];refine⟨r,rfl,(Tl r (jP m d.l) y (St.gK 0 rfl fun h' F=>?_) (by omega) fun c i=>zl (D c i) (by decide)).mono ?_⟩
 ·exact⟨rs,F.1,F.2.1,F.2.2⟩
 rintro _ U ⟨rfl,N⟩;exact⟨_,rfl,rfl,N.bo 3 [0,1]⟩
end
section
variable {B:aA} {h0 h:Heap} {As:List HP} {a pw b:Addr} {x:cg} {offs:Int} {da:List (Option Addr)} {w:Pow} {ds:bc} {d:bE}
theorem aa.acE(n:Nat)(e:n<64)(f:ds[n]?=some none)(H:aa B h0 h (bm bz a pw (aV x) offs da w ds::mE pw b d::As)){K:Unit->Heap->Prop}
  (j:∀h',aa B h0 h' (bm bz a pw (aV x) offs (da.set n (some b)) w (ds.set n (some d))::As)->K () h'):
  ag vV (qf Ip (vN (some ((a.add 10).add n))) (vN (some b))) h K:=by
 obtain⟨ok,g⟩:=Go.Vc.aa.xz H;have i:(a.add 10).add n=a.add (10+n):=by unfold Addr.add;simp[yn]
 rw[i];refine g.storeAt ae 0 rfl rfl rfl rfl rfl (by simp[ok.la];omega) fun h' c=>j h' ?_;rw[zw,aar ok.l8]at c;exact aa.aeC ok e f c
end
end Go.Proofs.YtdhamoojccmbdaaGreatDoor
namespace Wl
open Go
theorem CR(ds:bc)(n:Nat)(d:bE)(s:Int)(b:n<64)(c:ds.length=64):cb (kO ds (n:Int) d) s=if s=(n:Int)then some d else cb ds s:=by
 unfold cb kO;rw[qp];by_cases h:0<=s/\s<64
 ·rw[if_pos h,if_pos h,qZ];by_cases a:s=(n:Int)
  ·subst a;rw[if_pos rfl,qp,if_pos rfl,if_pos (by omega)];rfl
  ·rw[if_neg a,if_neg (by omega)]
 ·rw[if_neg h,if_neg h,if_neg (by omega)]
theorem oO{ds:bc}{s:Int}{d:bE}(h:cb ds s=some d):∃n:Nat,s=(n:Int)/\n<64:=by
 unfold cb at h;by_cases a:0<=s/\s<64
 ·exact⟨s.toNat,by omega,by omega⟩
 ·rw[if_neg a]at h;cases h
structure Fit (ds:bc) (S Q:List Int):Prop where
 len:ds.length=64
 at_:∀s∈S,∃d,cb ds s=some d/\d.lost=false/\d.l.length+Q.count s<=d.room
theorem Vz{d:bE}{n:Nat}(w:Pow)(b:List UInt8)(a:d.lost=false)(f:d.l.length+(n+1)<=d.room)(g:b.length=64):
  ((d.append w b).1=0∨(d.append w b).1=14)/\(d.append w b).2.2.lost=false/\(d.append w b).2.2.l.length+n<=(d.append w b).2.2.room:=by
 unfold bE.append;rw[if_neg (by omega),if_neg (by simp[a]),if_neg (by omega)];by_cases e:w.off
 ·rw[if_pos e];exact⟨.inr rfl,a,by dsimp only;omega⟩
 ·rw[if_neg e];by_cases c:w.step.1
  ·rw[if_pos c];exact⟨.inl rfl,a,by simp;omega⟩
  ·rw[if_neg c];exact⟨.inr rfl,a,by simp;omega⟩
theorem aaA{d:bE}(w:Pow)(a:d.lost=false):((d.sync w).1=0∨(d.sync w).1=14)/\(d.sync w).2.2.lost=false/\(d.sync w).2.2.l=d.l/\(d.sync w).2.2.room=d.room:=by
 unfold bE.sync;rw[if_neg (by simp[a])];by_cases b:w.step.1
 ·rw[if_pos b];exact⟨.inl rfl,a,rfl,rfl⟩
 ·rw[if_neg b];exact⟨.inr rfl,a,rfl,rfl⟩
theorem QC{ds:bc}{S Q:List Int}{x:Int}(w:Pow)(b:List UInt8)(F:Fit ds S (x::Q))(l:x∈S)(k:b.length=64):
  ((fe w ds x b).1=0∨(fe w ds x b).1=14)/\Fit (fe w ds x b).2.2 S Q:=by
 obtain⟨d,c,o,j⟩:=F.at_ x l;rw[List.count_cons_self]at j;obtain⟨n,rfl,m⟩:=oO c;have A:=Vz w b o (n:=Q.count (n:Int)) (by omega) k;have e:fe w ds (n:Int) b=((d.append w b).1,(d.append w b).2.1,kO ds (n:Int) (d.append w b).2.2):=by unfold fe;rw[c]
 rw[e];refine⟨A.1,by unfold kO;rw[zE];exact F.len,fun s i=>?_⟩;rw[CR _ _ _ _ m F.len];by_cases a:s=(n:Int)
 ·subst a;rw[if_pos rfl];exact⟨_,rfl,A.2⟩
 ·rw[if_neg a];obtain⟨p,g,q,f⟩:=F.at_ s i;rw[List.count_cons_of_ne (fun h=>a h.symm)]at f;exact⟨p,g,q,f⟩
theorem VA{ds:bc}{S:List Int}{x:Int}(w:Pow)(F:Fit ds S [])(h:x∈S):((gP w ds x).1=0∨(gP w ds x).1=14)/\Fit (gP w ds x).2.2 S []:=by
 obtain⟨d,b,j,f⟩:=F.at_ x h;obtain⟨n,rfl,i⟩:=oO b;obtain⟨l,A2,g,k⟩:=aaA w j;have e:gP w ds (n:Int)=((d.sync w).1,(d.sync w).2.1,kO ds (n:Int) (d.sync w).2.2):=by unfold gP;rw[b]
 rw[e];refine⟨l,by unfold kO;rw[zE];exact F.len,fun s c=>?_⟩;rw[CR _ _ _ _ i F.len];by_cases a:s=(n:Int)
 ·subst a;rw[if_pos rfl];exact⟨_,rfl,A2,by rw[g,k];exact f⟩
 ·rw[if_neg a];exact F.at_ s c
end Wl
namespace Go.Vc
open Go Wl Go.Proofs.YtdhamoojccmbdaaGreatDoor
theorem Ol(l:List Int)(k:Nat):(bj l k).Nodup:=by
 unfold bj;refine List.Pairwise.filter _ (vk.2 ?_);exact(vu (n:=k)).imp fun h=>by omega
theorem Yd{l:List Int}(h:(eO l).2=true):(eO l).1=bj l l.length/\l.length<=64/\∀n:Nat,l.getD n 0<=512:=by
 unfold eO at h⊢;by_cases a:l.all (eS · 0 512)=true
 ·rw[if_pos a]at h⊢;refine⟨rfl,by simp at h;exact h.1,fun n=>?_⟩;rw[qe];by_cases b:n<l.length
  ·rw[qd b];have:=qM.1 a _ (qg b);unfold eS at this;simp at this⊢;omega
  ·rw[ze (by omega)];simp
 ·rw[if_neg a]at h;cases h
theorem Tn(l:List Int)(i n:Nat)(g:i<(bj l l.length).length)(e:(bj l l.length)[i]=(n:Int))(d:n<64):(gD l i)[n]?=some none:=by
 unfold gD;rw[qN,zo d,qO,if_neg];intro f;obtain⟨j,h,c⟩:=wZ.1 f;have:=FK (Ol l l.length) (a:=j) (b:=i) (by omega) g (by rw[c,e]);omega
theorem BM(m:aG):∀S:List Int,(bx m S).length=S.length*(bh m).length
 |[]=>by simp[bx]
 |n::S=>by
  have e:bx m (n::S)=(bh m).map (fun c=>(n,c))++bx m S:=by unfold bx;rw[zr]
  rw[e,qu,qw,BM m S,zi,zI,Nat.add_comm]
theorem Mj(p:Pm)(extra:Int)(l:List Int)(a:l.length<=64):db (cu p extra l):=⟨by have:=pL l l.length;simp[cu];omega,by simp[cu],by simp[cu]⟩
end Go.Vc
namespace Go.Proofs.YtdhamoojccmbdaaGreatDoor
open Go Go.Vc Go.Proofs Wl
section
variable {B:aA} {h0 h:Heap} {As:List HP} {pw:Addr} {w:Pow}
theorem Jh(p:Pm)(extra:Int)(s:Sl)(l:List Int)(hS:St B h0 As fun h=>Rd h s 1 aE l)(hl:l.length<=2^20)(H:aa B h0 h (dU bG pw w::As)):
  ac vV AB #[kB p,vL vR extra,vN (some pw),vM s.ptr s.len s.cap] h fun v h'=>
   ((eP p extra w l).1≠0->v=.tuple #[vN none,vL vR (eP p extra w l).1]/\aa B h0 h' As)/\
   ((eP p extra w l).1=0->∃(a:Addr) (x:cg) (da:List (Option Addr)),v=.tuple #[vN (some a),vL vR 0]/\aa B h0 h' (bm bz a pw (aV x) w.offs da (eP p extra w l).2.1 (eP p extra w l).2.2::cO x (cu p extra l)::As)):=by
 refine JD p extra (some pw) s ?_;unfold Cb;refine H.boxed fun a1 h1 H1=>?_;have H1:=H1.bL;refine(nB s l h1 (hS.at [_,_] H1) hl).mono ?_;rintro _ h2 ⟨r,rfl,R2⟩;have H2:=H1.cY R2;refine⟨(r,(eO l).2),rfl,?_⟩;have j:∀{h':Heap},aa B h0 h' As->((eO l).2&&(bM p&&eS extra 0 16))=false->
   ((eP p extra w l).1≠0->Value.tuple #[vN none,vL vR 1]=.tuple #[vN none,vL vR (eP p extra w l).1]/\aa B h0 h' As)/\
   ((eP p extra w l).1=0->∃(a:Addr) (x:cg) (da:List (Option Addr)),Value.tuple #[vN none,vL vR 1]=.tuple #[vN (some a),vL vR 0]/\aa B h0 h' (bm bz a pw (aV x) w.offs da (eP p extra w l).2.1 (eP p extra w l).2.2::cO x (cu p extra l)::As)):=fun{h'} H' hc=>by
  have e:eP p extra w l=(1,w,[]):=by unfold eP;rw[hc];rfl
  rw[e];exact⟨fun _=>⟨rfl,H'⟩,fun h=>absurd h (show¬(1:Int)=0 by decide)⟩
 refine ba (bg (fun e=>j H2.rest.rest.rest (by rw[e];rfl)) fun e=>?_);have ep:(eO l).2=true:=by simpa using e
 obtain⟨ay,z,I⟩:=Yd ep;refine⟨p,(H2.box 1 rfl).aQ _ rfl,(dN p h2).mono ?_⟩;rintro _ h3 ⟨rfl,R3⟩;have D:aa B h0 h3 (an aS r 1 aE (eO l).1::au a1 aT [vL vR p.1,vL vR p.2.1,vL vR p.2.2]::dU bG pw w::As):=by
  have:=H2.comp R3;rw[qP]at this;exact this
 refine⟨_,rfl,bg (fun e2=>j D.rest.rest.rest (by rw[e2];simp)) fun e2=>?_⟩;have em:bM p=true:=by simpa using e2
 refine ak (fun e3=>j D.rest.rest.rest (by unfold eS;simp;omega)) fun e3=>ak (fun e4=>j D.rest.rest.rest (by unfold eS;simp;omega)) fun e4=>bA (fun e5=>by cases e5) fun _=>?_;rw[ay]at D;refine ba ⟨p,(D.box 1 rfl).aQ _ rfl,?_⟩;obtain⟨lw,b0,a5⟩:=(D.bo 3 [2,1,0]).CL;refine(Pe lw (a5.box 0 rfl)).mono ?_;rintro _ h4 ⟨rfl,rfl⟩;have G:=D.box 1 rfl;refine⟨_,rfl,⟨G.cell0 rfl,G.cell rfl,G.cell rfl,trivial⟩,?_⟩;obtain⟨m,M⟩:∃m,m=cu p extra l:=⟨_,rfl⟩
 refine⟨_,aaq (1,0,p.1,p.2.1,p.2.2,extra,r,⟨none,0,0⟩) pw w.offs,?_⟩;refine D.boxed fun a9 h6 g=>?_;obtain⟨x,hx⟩:∃x:cg,x=(1,0,p.1,p.2.1,p.2.2,extra,r,⟨none,0,0⟩):=⟨_,rfl⟩
 rw[<-hx]at g;have K:(Value.agg (dz (aV x) pw w.offs (qh 64 none)).toArray).cells.toList=dz (aV x) pw w.offs (qh 64 none):=by simp[Value.cells]
 rw[K]at g;have g:=g.bL;have L:=g.box 2 rfl;refine⟨⟨L.cell0 rfl,L.cell rfl,L.cell rfl,trivial⟩,?_⟩;have g:aa B h0 h6 (au a9 fK (dz (aV x) pw w.offs (qh 64 none))::dU bG pw w::an aS r 1 aE (bj l l.length)::As):=g.bo 4 [0,3,1];have g:=aa.aap (k:=bz) (h8:=by simp) g;obtain⟨P,o⟩:∃P,P=bj l l.length:=⟨_,rfl⟩
 rw[<-o]at g;have hz:db m:=M▸Mj p extra l z;have a2:P.length<=64:=by rw[o];exact zl (pL _ _) z
 have ad:∀{h':Heap} {Bs:List HP} {X:HP},aa B h0 h' (X::an aS r 1 aE P::Bs)->eG h' x m:=fun{h' Bs X} H'=>by
  have hs:=H'.seq 1 rfl fun _=>rfl;have hc:=(H'.own 1 rfl).cap;subst hx;subst M;exact⟨rfl,rfl,rfl,rfl,by show Seq _ _ r 1 aE (bj l l.length);rw[<-o];exact hs,cm.nil _ _ _ _,hc,ql _⟩
 have Z:((eO l).2&&(bM p&&eS extra 0 16))=true:=by
  rw[ep,em];unfold eS;simp;omega
 have W:(P.any fun i=>decide (l.getD i.toNat 0<((bh m).length:Int)))=true->eP p extra w l=(7,w,[]):=fun hh=>by
  unfold eP;rw[if_pos Z,<-o,<-M,if_pos hh]
 have Y:(P.any fun i=>decide (l.getD i.toNat 0<((bh m).length:Int)))=false->eP p extra w l=layAll (bx m P) w (gD l P.length):=fun hh=>by
  unfold eP;rw[if_pos Z,<-o,<-M,hh,if_neg (by decide)]
 have F:∀i (O:i<P.length),∃n:Nat,n<l.length/\P[i]=(n:Int)/\0<l.getD n 0:=by
  subst o;exact fun i O=>Vq l l.length i O
 refine av (fun i:Nat=>(i:Int)) (fun i h'=>i<=P.length/\((P.take i).any fun i=>decide (l.getD i.toNat 0<((bh m).length:Int)))=false/\aa B h0 h' (bm bz a9 pw (aV x) w.offs (qh 64 none) w (qh 64 none)::an aS r 1 aE P::As)) (fun i=>P.length-i) 0 rfl ⟨by omega,by simp,g⟩ ?_;rintro i h7 ⟨O,f,A⟩;dsimp only at*;obtain⟨bk,ao⟩:=aa.cJ A;have b3:r.len=P.length:=(A.own 1 rfl).len;refine ak (fun e5=>?_) (fun e5=>?_)
 ·have c:i<P.length:=by omega
  obtain⟨n,N,E,V⟩:=F i c;refine(A.seq 1 rfl fun _=>rfl).bv i rfl c (n:Int) (by rw[E];rfl) ?_;refine(hS.at [_,_] A).QN n rfl N (l.getD n 0) (by rw[getD_lt N];rfl) fun bl ah=>?_;refine⟨a9,rfl,x,ao.aQ _ (by rfl),(mV x m h7 (ad A) hz).mono ?_⟩;rintro _ h9 ⟨u,rfl,R9⟩;have H9:=A.cY R9;have br:=(aa.Dk H9).1;refine⟨u,rfl,jE R9.ai ⟨ah,trivial⟩,?_⟩;refine ak (fun e6=>?_) (fun e6=>?_)
  ·rw[W (wR.2 ⟨P[i],qg c,by rw[E,qp];exact decide_eq_true (by omega)⟩)];exact⟨fun _=>⟨rfl,H9.rest.rest.rest⟩,fun h=>absurd h (show¬(7:Int)=0 by decide)⟩
  ·refine⟨i+1,by rw[Go.Vc.wrap_small _ (by omega) (by omega)];rfl,⟨by omega,?_,H9.rest⟩,by omega⟩;rw[aH _ _ c,yP,f,vx,List.any_cons,List.any_nil,Bool.or_false,E,qp];exact decide_eq_false (by omega)
 ·have J:i=P.length:=by omega
  subst J;rw[qR]at f;have a0:=Y f;rw[<-Th l]at A;refine av (fun t:Nat×List (Option Addr)=>(t.1:Int)) (fun t h'=>t.1<=P.length/\aa B h0 h' (bm bz a9 pw (aV x) w.offs t.2 w (gD l t.1)::an aS r 1 aE P::As)) (fun t=>P.length-t.1) (0,qh 64 none) rfl ⟨by simp,A⟩ ?_;rintro⟨i,da⟩ am ⟨O,d⟩;dsimp only at*;obtain⟨b4,Q⟩:=aa.cJ d;refine ak (fun e6=>?_) (fun e6=>?_)
  ·have c:i<P.length:=by omega
   obtain⟨n,N,E,V⟩:=F i c;have bb:=I n;refine(d.seq 1 rfl fun _=>rfl).bv i rfl c (n:Int) (by rw[E];rfl) ?_;refine(hS.at [_,_] d).bv n rfl N (l.getD n 0) (by rw[getD_lt N];rfl) ?_;refine⟨a9,rfl,(XQ (l.getD n 0) pw am).mono ?_⟩;rintro _ bd ⟨Q1,_⟩;obtain⟨b,rfl,a4⟩:=Q1 (by omega);have a8:=(d.cY a4).bo 2 [1,0];refine⟨_,rfl,trivial,⟨by omega,by omega⟩,?_⟩;rw[qp,wN];have U:i<(bj l l.length).length:=by rw[<-o];exact c
   have R:(bj l l.length)[i]=(n:Int):=by rw[<-E];simp only[o]
   refine Go.Proofs.YtdhamoojccmbdaaGreatDoor.aa.acE n (by omega) (Tn l i n U R (by omega)) a8 fun b2 ax=>?_;refine⟨trivial,(i+1,da.set n (some b)),by dsimp only;rw[Go.Vc.wrap_small _ (by omega) (by omega)];rfl,⟨by dsimp only;omega,?_⟩,by dsimp only;omega⟩;dsimp only;rw[<-Ti l i n U R (by omega)];exact ax
  ·have J:i=P.length:=by omega
   subst J;refine⟨a9,rfl,x,Q.aQ _ (by rfl),(Je x m r P am (ad d) hz (d.seq 1 rfl fun _=>rfl) (by omega)).mono ?_⟩;rintro _ b1 ⟨u,ys,rfl,a6⟩;have a7:=(d.cY a6).bo 2 [1,0];refine⟨u,rfl,?_⟩;have ab:=jM m hz;refine(Hk u ys (bx m P) (St.gK 0 rfl fun _ T=>T) ?_ ?_ a7).mono ?_
   ·rw[BM];have:=wb a2 ab;omega
   ·intro y hy;obtain⟨a3,ap⟩:=ka hy;obtain⟨i,O,e⟩:=qF a3;obtain⟨n,N,E,_⟩:=F i O;rw[<-e,E,ap];exact⟨⟨by omega,by omega⟩,by decide⟩
   rintro _ bq ⟨rfl,S⟩;rw[a0];refine⟨_,rfl,bQ (fun e7=>⟨fun _=>⟨rfl,S.rest.rest.rest⟩,fun h=>absurd h e7⟩) fun e7=>⟨fun h=>absurd e7 h,fun _=>⟨a9,x,da,rfl,?_⟩⟩⟩;rw[<-M];exact S.HS.gf 1 rfl fun q T=>by
    subst hx;subst M;exact⟨rfl,rfl,rfl,rfl,by show Seq _ _ r 1 aE (bj l l.length);rw[<-o];exact T.1.seq (fun _=>rfl) T.2,cm.nil _ _ _ _,T.1.cap,ql _⟩
end
end Go.Proofs.YtdhamoojccmbdaaGreatDoor
namespace Wl
open Go
def nR(m:aG)(ds:bc)(k n:Int):Bool:=match cb ds k with|some d=>pO m d n|none=>false
def df(m:aG)(ds:bc)(l:List Int)(N:Int->Int):Bool:=l.all fun k=>nR m ds k (N k)
def iq(m:aG)(w:Pow)(ds:bc)(k n:Int):Int×Pow×bc:=
 match cb ds k with
 |none=>(5,w,ds)
 |some d=>((iy m w d n).1,(iy m w d n).2.1,kO ds k (iy m w d n).2.2)
def makes(m:aG)(N:Int->Int):List Int->Pow->bc->Int×Pow×bc
 |[],w,ds=>(0,w,ds)
 |k::l,w,ds=>if(iq m w ds k (N k)).1=0 then makes m N l (iq m w ds k (N k)).2.1 (iq m w ds k (N k)).2.2 else iq m w ds k (N k)
end Wl
namespace Go.Proofs.YtdhamoojccmbdaaGreatDoor
open Go Go.Vc Go.Proofs Wl
theorem Ps(f:FuncId)(pre post:Array Value)(P:Int->Bool)(s:Sl)(l:List Int)(h:Heap)(q:C.fns[f]?=some true)(j:Rd h s 1 aE l)(y:l.length<=2^30)
  (w:∀k∈l,∀h',Sp h h' []->ac vV f (pre.toList++[Value.int .i64 k]++post.toList).toArray h' fun v d=>v=vP (P k)/\Sp h' d []):
  ac vV jK #[vM s.ptr s.len s.cap,.func (.func f) pre post] h fun v h'=>v=vP (l.any P)/\Sp h h' []:=by
 refine jv s (f,pre,post) ?_;unfold gI;refine(gX s (f,pre,post) (R:=fun v h'=>(∃i:Int,v=vL vR i/\decide (i>=0)=l.any P)/\Sp h h' []) ?_).mono ?_
 ·unfold fL;have t:=j.len;refine av (fun i:Nat=>(i:Int)) (fun i h'=>i<=l.length/\(l.take i).any P=false/\Sp h h' []) (fun i=>l.length-i) 0 rfl ⟨by omega,by simp,Sp.refl h⟩ ?_;rintro i o ⟨m,a,c⟩;refine ak (fun e=>?_) (fun e=>?_)
  ·have b:i<l.length:=by
    have u:(i:Int)<(s.len:Int):=e;omega
   refine(Seq.up j c.ai).bv i rfl b l[i] rfl (eU q ?_);refine(w l[i] (qg b) o c).mono ?_;rintro _ x ⟨rfl,p⟩;have n:=c.up p.ai;refine⟨_,rfl,bA (fun g=>⟨⟨i,rfl,?_⟩,n⟩) (fun g=>?_)⟩
   ·rw[wR.2 ⟨_,qg b,g⟩];exact decide_eq_true (by omega)
   ·refine⟨i+1,by rw[Go.Vc.wrap_small _ (by omega) (by omega)];rfl,⟨by omega,?_,n⟩,by omega⟩;rw[aH _ _ b,yP,a,List.any_cons,List.any_nil,g];rfl
  ·have u:¬(i:Int)<(s.len:Int):=e;rw[qi (by omega)]at a;exact⟨⟨-1,rfl,by rw[a];rfl⟩,c⟩
 ·rintro _ o ⟨⟨i,rfl,m⟩,r⟩;exact⟨i,rfl,by rw[m],r⟩
section
variable {B:aA} {h0 h:Heap} {As:List HP} {a pw:Addr} {offs:Int} {da:List (Option Addr)} {w:Pow} {ds:bc}
def QR(f:FuncId)(pre post:Array Value)(N:Int->Int)(l:List Int)(h:Heap):Prop:=∀k∈l,ac vV f (pre.toList++[Value.int .i64 k]++post.toList).toArray h fun v h'=>v=vL vR (N k)/\Sp h h' []
theorem Mk(f:FuncId)(pre post:Array Value)(N:Int->Int)(x:cg)(m:aG)(s:Sl)(l:List Int)(hf:C.fns[f]?=some true)(M:St B h0 As fun h=>eG h x m/\QR f pre post N l h)(Y:db m)(V:Rd h s 1 aE l)(hl:l.length<=2^30)(y:∀k∈l,0<=k/\k<64)(H:aa B h0 h (bm bz a pw (aV x) offs da w ds::As)):
  ac vV Fh #[vN (some a),vM s.ptr s.len s.cap,.func (.func f) pre post] h fun v h'=>v=vP (df m ds l N)/\Sp h h' []:=by
 refine DI (some a) s (f,pre,post) ?_;unfold sK;refine(Sp.refl h).boxed fun r h1 R1=>R1.boxed fun T A p=>?_;have Z:aa B h0 A (bm bz a pw (aV x) offs da w ds::As):=H.up p.ai;have g:cw A r nj [vN (some a)]:=p.box 0 rfl;have Q:=p.box 1 rfl;refine(Ps Cp #[] #[vN (some r),vN (some T)] (fun k=>!nR m ds k (N k)) s l A (by rfl) (V.up p.ai) hl ?_).mono ?_
 ·intro k R h3 i;have z:=Z.up i.ai;have O:=(g.ai i.ai g.lt).cell0 rfl;have c2:=(Q.ai i.ai Q.lt).cell0 rfl;obtain⟨ok,u⟩:=aa.cJ z;have S:=y k R;refine Bo k r T ?_;unfold py;obtain⟨n,rfl⟩:∃n:Nat,k=n:=⟨k.toNat,by omega⟩
  have J:n<da.length:=by rw[ok.la];omega
  have cd:cellOf h3 ((a.add 10).add ((n:Int).toNat*1))=some (.pointer da[n]):=by
   rw[qp,wN];refine u.xx 10 n ?_;rw[sZ ok.l8,qd J];rfl
  obtain⟨X,G⟩:=M.at [_] z;refine⟨some a,O,a,rfl,⟨by omega,by omega⟩,da[n],cd,some a,O,a,rfl,x,u.aQ _ rfl,(f,pre,post),c2,eU hf ?_⟩;refine(G n R).mono ?_;rintro _ D ⟨rfl,t⟩;have P:=z.up t.ai;have q:=((g.ai i.ai g.lt).ai t.ai (g.ai i.ai g.lt).lt).cell0 rfl;have c:=u.ai t.ai u.lt;have E:cellOf D ((a.add 10).add ((n:Int).toNat*1))=some (.pointer da[n]):=by
   rw[qp,wN];refine c.xx 10 n ?_;rw[sZ ok.l8,qd J];rfl
  refine⟨_,rfl,⟨c.cell0 rfl,c.cell rfl,c.cell rfl,c.cell rfl,c.cell rfl,c.cell rfl,c.cell rfl,c.cell rfl,q,E,q,trivial⟩,?_⟩;have L:og da (n:Int)=da[n]:=by unfold og;rw[if_pos (by omega),qp,qd J];rfl
  rw[<-L];have fin:∀{F:Bool} {o:Heap},F=nR m ds n (N n)->Sp D o []->aq.ok [(r,vN (some a)),(r,vN (some a))] o/\(Value.bool (!F)=vP (!nR m ds n (N n))/\Sp h3 o []):=fun{F o} he j=>by
   have U:=(g.ai i.ai g.lt).ai t.ai (g.ai i.ai g.lt).lt;have:=(U.ai j.ai U.lt).cell0 rfl;exact⟨⟨this,this,trivial⟩,by rw[he],.zip (aa.up t j.ai).ai⟩
  rcases oh ok (n:Int)with⟨e1,e2⟩|⟨n',d,b,e0,e1,e2,e3,e4,e5⟩
  ·rw[e2];refine(Tm x _ D).mono ?_;rintro _ o ⟨rfl,j⟩;exact⟨_,rfl,fin (by unfold nR;rw[e1]) j⟩
  ·rw[e5];obtain⟨b',e,H5⟩:=Go.Vc.aa.mF P e2;rw[e4]at e;injection e with e
   injection e with e
   subst e;obtain⟨K,sd,W,I⟩:=aa.ux H5;refine(Pr sd W x m (N n) (I.box 0 rfl) ((I.bo 2 [1]).OE fun _=>rfl) (aa.Dk (I.bo 2 [1])).1 K (M.at [_] P).1 Y).mono ?_;rintro _ o ⟨rfl,j⟩;exact⟨_,rfl,fin (by unfold nR;rw[e3]) j⟩
 ·rintro _ h3 ⟨rfl,i⟩;refine⟨_,rfl,?_,.zip (aa.up p i.ai).ai⟩;unfold df;rw[List.not_any_eq_all_not];simp
theorem To(x:cg)(n:Int)(h:Heap):ac vV Gz #[vN none,ft x,vL vR n] h fun v h'=>v=vL vR 5/\Sp h h' []:=by
 refine EG none x n ?_;unfold Bq;refine(Sp.refl h).boxed fun c b a=>?_;exact ba (ba (bA (fun _=>bA (fun _=>⟨rfl,.zip a.ai⟩) fun e=>by cases e) fun e=>by cases e))
theorem Ye(m:aG)(N:Int->Int)(l:List Int)(w:Pow)(ds:bc)(i:Nat)(a:i<l.length):makes m N (l.drop i) w ds=if(iq m w ds l[i] (N l[i])).1=0 then makes m N (l.drop (i+1)) (iq m w ds l[i] (N l[i])).2.1 (iq m w ds l[i] (N l[i])).2.2 else iq m w ds l[i] (N l[i]):=by
 rw[qT a];rfl
theorem Ml(f:FuncId)(pre post:Array Value)(N:Int->Int)(x:cg)(m:aG)(s:Sl)(l:List Int)(W:C.fns[f]?=some true)(G:St B h0 As fun h=>eG h x m/\QR f pre post N l h/\Rd h s 1 aE l)(U:db m)(hl:l.length<=2^30)(I:∀k∈l,0<=k/\k<64)(H:aa B h0 h (bm bz a pw (aV x) offs da w ds::As)):
  ac vV DJ #[vN (some a),vM s.ptr s.len s.cap,.func (.func f) pre post] h fun v h'=>v=vL vR (makes m N l w ds).1/\aa B h0 h' (bm bz a pw (aV x) offs da (makes m N l w ds).2.1 (makes m N l w ds).2.2::As):=by
 refine Cg (some a) s (f,pre,post) ?_;unfold ra;have ab:=(G.at [_] H).2.2.len;obtain⟨Z,P⟩:∃Z,Z=makes m N l w ds:=⟨_,rfl⟩
 rw[<-P];refine av (fun t:Nat×Pow×bc=>(t.1:Int)) (fun t h'=>t.1<=l.length/\Z=makes m N (l.drop t.1) t.2.1 t.2.2/\aa B h0 h' (bm bz a pw (aV x) offs da t.2.1 t.2.2::As)) (fun t=>l.length-t.1) (0,w,ds) rfl ⟨by simp,P,H⟩ ?_;rintro⟨i,E,u⟩ h1 ⟨hi,p,F⟩;dsimp only at*;refine ak (fun e=>?_) fun e=>?_
 ·have q:i<l.length:=by omega
  rw[Ye _ _ _ _ _ _ q]at p;obtain⟨ad,L,K⟩:=G.at [_] F;refine K.bv i rfl q l[i] rfl (ba ?_);have D:=I l[i] (qg q);obtain⟨k,M⟩:∃k,k=l[i]:=⟨_,rfl⟩
  have J:k∈l:=by rw[M];exact qg q
  rw[<-M]at p D;rw[<-M];obtain⟨n,rfl⟩:∃n:Nat,k=n:=⟨k.toNat,by omega⟩
  obtain⟨ok,z⟩:=aa.cJ F;have T:n<da.length:=by rw[ok.la];omega
  have S:∀{h':Heap},cw h' a fK (dz (aV x) pw offs da)->cellOf h' ((a.add 10).add ((n:Int).toNat*1))=some (.pointer da[n]):=fun{h'} z=>by
   rw[qp,wN];refine z.xx 10 n ?_;rw[sZ ok.l8,qd T];rfl
  refine⟨a,rfl,⟨by omega,by omega⟩,da[n],S z,a,rfl,x,z.aQ _ rfl,eU W ?_⟩;refine(L n J).mono ?_;rintro _ V ⟨rfl,Q⟩;have R:=F.up Q.ai;have g:=z.ai Q.ai z.lt;refine⟨_,rfl,⟨g.cell0 rfl,g.cell rfl,g.cell rfl,g.cell rfl,g.cell rfl,g.cell rfl,g.cell rfl,g.cell rfl,S g,trivial⟩,?_⟩;have O:og da (n:Int)=da[n]:=by unfold og;rw[if_pos (by omega),qp,qd T];rfl
  rw[<-O];obtain⟨c,o⟩:∃c,c=iq m E u n (N n):=⟨_,rfl⟩
  rw[<-o]at p;have fin:∀{h3:Heap},aa B h0 h3 (bm bz a pw (aV x) offs da c.2.1 c.2.2::As)->aq.ok [] h3/\Br (c.1 !=(0:Int)) (Value.int .i64 c.1=vL vR Z.1/\aa B h0 h3 (bm bz a pw (aV x) offs da Z.2.1 Z.2.2::As))
    (∃r:Nat×Pow×bc,qc vR ((i:Int)+1)=(r.1:Int)/\(r.1<=l.length/\Z=makes m N (l.drop r.1) r.2.1 r.2.2/\aa B h0 h3 (bm bz a pw (aV x) offs da r.2.1 r.2.2::As))/\l.length-r.1<l.length-i):=fun{h3} H3=>by
   refine⟨trivial,bQ (fun y=>?_) fun y=>?_⟩
   ·rw[if_neg y]at p;rw[p];exact⟨rfl,H3⟩
   ·rw[if_pos y]at p;exact⟨(i+1,c.2.1,c.2.2),by dsimp only;rw[Go.Vc.wrap_small _ (by omega) (by omega)];rfl,⟨by dsimp only;omega,p,H3⟩,by dsimp only;omega⟩
  rcases oh ok (n:Int)with⟨e1,y⟩|⟨n',d,b,e0,e1,y,e3,e4,e5⟩
  ·rw[y];have A:c=(5,E,u):=by rw[o];unfold iq;rw[e1]
   refine(To x _ V).mono ?_;rintro _ h3 ⟨rfl,R3⟩;exact⟨c.1,by rw[A],fin (h3:=h3) (by rw[A];exact R.up R3.ai)⟩
  ·rw[e5];have en:n=n':=by omega
   subst en;obtain⟨b',j,Y⟩:=Go.Vc.aa.mF R y;rw[e4]at j;injection j with j
   injection j with j
   subst j;have A:c=((iy m E d (N n)).1,(iy m E d (N n)).2.1,u.set n (some (iy m E d (N n)).2.2)):=by rw[o];unfold iq;rw[e3];simp only[kO,qp]
   refine(aaz x m (N n) (fun Bs h' hh=>(G (Bs++[_]) h' (by rw[qo];exact hh)).1) U Y).mono ?_;rintro _ h3 ⟨rfl,H6⟩;have X:=Go.Vc.aa.Ke (k:=bz) (n:=n) e4 H6;exact⟨c.1,by rw[A],fin (h3:=h3) (by rw[A];exact X)⟩
 ·rw[q9 (by omega)]at p;rw[p];exact⟨rfl,F⟩
end
def acF(a b:dV):Int:=if ez a.1 b.1 then-1 else if jh a.1 b.1 then 0 else 1
def iY(a b:dV):Bool:=jh a.1 b.1
theorem Tp(a b:dV):acF a b<0↔¬iY b a=true:=by
 unfold acF iY jh;cases h:ez a.1 b.1<;>simp;split<;>omega
theorem Hr:Ord iY:=⟨fun a b c=>FV a.1 b.1 c.1,fun a b=>FW a.1 b.1⟩
abbrev Tq(x:dV):Value:=vQ #[vO x.1,vL vR x.2.1,vL vR x.2.2.1,vM x.2.2.2.ptr x.2.2.2.len x.2.2.2.cap]
theorem QD(x y:ByteArray)(h:Heap):ac vV Co #[vO x,vO y] h fun v h'=>v=vL vR (if ez x y then-1 else if jh x y then 0 else 1)/\h'=h:=by
 refine Bn x y ?_;unfold px;have a:∀z:ByteArray,ac vV Fq #[vO z] h fun v h'=>v=vP false/\h'=h:=fun z=>by
  refine DR z ?_;unfold sV;exact⟨by simp,rfl⟩
 refine(a x).mono ?_;rintro _ _ ⟨rfl,rfl⟩;refine⟨_,rfl,(a y).mono ?_⟩;rintro _ _ ⟨rfl,rfl⟩;refine⟨_,rfl,bA (fun e=>by cases e) fun _=>bA (fun e=>by cases e) fun _=>?_⟩;have d:Op.bytesLess x.toList y.toList=ez x y:=rfl;rw[QO,d];have c:(!Op.bytesLess y.toList x.toList)=jh x y:=rfl;rw[c];refine bA (fun e=>⟨by rw[e];rfl,rfl⟩) fun e=>bg (fun b=>⟨by rw[e,b];rfl,rfl⟩) fun b=>⟨by rw[e,b];rfl,rfl⟩
theorem Yf(a b:dV)(h:Heap):ac vV gv #[Tq a,Tq b] h fun v h'=>v=vL vR (acF a b)/\Sp h h' []:=by
 refine JJ a b ?_;unfold Cn;refine(Sp.refl h).boxed fun e i f=>f.boxed fun g d c=>?_;have c:Sp h d [au e aX (bH a),au g aX (bH b)]:=c;refine⟨a.1,(c.box 0 rfl).cell0 rfl,b.1,(c.box 1 rfl).cell0 rfl,(QD a.1 b.1 d).mono ?_⟩;rintro _ _ ⟨rfl,rfl⟩;exact⟨_,rfl,rfl,.zip c.ai⟩
abbrev tK(s:Sl)(d:List dV):HP:=an aX s 4 bH d
section
variable {B:aA} {h0 h h':Heap} {As:List HP} {s:Sl} {d:List dV}
theorem VB{c d:List dV}{y:dV}(b:Sd iY (c++d))(f:∀z∈c,iY z y=true)(g:∀z∈d,¬iY z y=true):Sd iY (c++y::d):=
 Sd.app Hr b.left (zL.2 ⟨fun z a=>Hr.FT (g z a),b.right⟩) fun x e z a=>by
  rcases zc.1 a with rfl|a
  ·exact f x e
  ·exact b.HZ x e z a
theorem Mm(X M Y:List dV)(a b:Int)(ha:a=(X.length:Int))(hb:b=(X.length+M.length:Nat))(ad:X.length+M.length+Y.length<=2^40)(H:aa B h0 h (tK s (X++(M++Y))::As)):
  ac vV kX #[vM s.ptr s.len s.cap,vL vR a,vL vR b,.func (.func gv) #[] #[]] h fun v h'=>v=.tuple #[]/\∃W,Sd iY W/\cj iY M W/\aa B h0 h' (tK s (X++(W++Y))::As):=by
 refine kG s a b (gv,#[],#[]) ?_;unfold gF;subst ha;subst hb;rw[Go.Vc.wrap_small ((X.length:Int)+1) (by omega) (by omega)];refine av (fun t:Nat×List dV=>((X.length+1+t.1:Nat):Int)) (fun t h'=>(t.1+1<=M.length∨t.1=0)/\Sd iY t.2/\cj iY (M.take (t.1+1)) t.2/\t.2.length=(M.take (t.1+1)).length/\aa B h0 h' (tK s (X++(t.2++(M.drop (t.1+1)++Y)))::As)) (fun t=>M.length-t.1) (0,M.take 1) rfl ?_ ?_
 ·refine⟨.inr rfl,?_,cj.refl _,rfl,?_⟩
  ·cases M with
   |nil=>exact List.Pairwise.nil
   |cons x M=>exact zL.2 ⟨fun _ h=>by simp at h,by simp⟩
  ·rw[<-qo (M.take (0+1)),qD];exact H
 rintro⟨t,P⟩ h1 ⟨ht,r,A,V,R⟩;dsimp only at*;refine ak (fun e=>?_) (fun e=>?_)
 ·have G:t+1<M.length:=by omega
  obtain⟨y,hy⟩:∃y,y=M[t+1]:=⟨_,rfl⟩
  have J:P.length=t+1:=by rw[V];simp;omega
  have eD:M.drop (t+1)=y::M.drop (t+1+1):=by rw[qT G,hy]
  rw[eD]at R;refine av (fun u:List dV×List dV=>((X.length+u.1.length:Nat):Int)) (fun u h'=>u.1++u.2=P/\(∀z∈u.2,¬iY z y=true)/\aa B h0 h' (tK s (X++(u.1++(y::(u.2++(M.drop (t+1+1)++Y)))))::As)) (fun u=>u.1.length) (P,[]) (by dsimp only;rw[J];congr 1;omega) ⟨by simp,by simp,by simpa using R⟩ ?_;rintro⟨c,d⟩ h2 ⟨I,f,K⟩;dsimp only at*;have ah:c.length+d.length=t+1:=by rw[<-J,<-I,qu]
  have k:∀{h':Heap},(∀z∈c,iY z y=true)->aa B h0 h' (tK s (X++(c++(y::(d++(M.drop (t+1+1)++Y)))))::As)->
    ∃l:Nat×List dV,qc vR (((X.length+1+t:Nat):Int)+1)=((X.length+1+l.1:Nat):Int)/\((l.1+1<=M.length∨l.1=0)/\Sd iY l.2/\cj iY (M.take (l.1+1)) l.2/\l.2.length=(M.take (l.1+1)).length/\aa B h0 h' (tK s (X++(l.2++(M.drop (l.1+1)++Y)))::As))/\M.length-l.1<M.length-t:=fun{h'} hle H'=>by
   refine⟨(t+1,c++y::d),by dsimp only;rw[Go.Vc.wrap_small _ (by omega) (by omega)];omega,⟨.inl (by dsimp only;omega),?_,?_,?_,?_⟩,by dsimp only;omega⟩
   ·exact VB (by rw[I];exact r) hle f
   ·dsimp only;rw[aH M (t+1) G,<-hy];have h1:cj iY (M.take (t+1)++[y]) (P++[y]):=A.app (cj.refl _);refine h1.trans ?_;rw[<-I,qo];have h2:cj iY (d++[y]) ([y]++d):=cj.Zs Hr fun x hx z N=>by rw[qG.1 N];exact f x hx
    exact(cj.refl _).app h2
   ·dsimp only;simp;omega
   ·dsimp only;have:X++((c++y::d)++(M.drop (t+1+1)++Y))=X++(c++(y::(d++(M.drop (t+1+1)++Y)))):=by simp
    rw[this];exact H'
  obtain⟨D,U⟩:∃D,D=X++(c++(y::(d++(M.drop (t+1+1)++Y)))):=⟨_,rfl⟩
  refine cl (fun _ h'=>∃(Q:List dV) (z:dV),c=Q++[z]/\¬iY z y=true/\aa B h0 h' (tK s D::As)) ?_ ?_
  ·rw[<-U]at K k;refine ak (fun S=>?_) (fun S=>⟨trivial,k (fun z N=>?_) K⟩)
   ·have L:c≠[]:=fun h=>by rw[h]at S;simp at S
    obtain⟨Q,z,n⟩:∃(Q:List dV) (z:dV),c=Q++[z]:=⟨c.dropLast,c.getLast L,(List.dropLast_concat_getLast L).symm⟩
    have ab:c.length=Q.length+1:=by rw[n];simp
    have g1:D[X.length+c.length]?=some y:=by
     rw[U,qj (by omega),show X.length+c.length-X.length=c.length by omega,qj (by omega),zf];rfl
    have g2:D[X.length+c.length-1]?=some z:=by
     rw[U,qj (by omega),show X.length+c.length-1-X.length=Q.length by omega,n,qo,qj (ql _),zf];rfl
    obtain⟨O,q⟩:=qm.1 g1;obtain⟨T,p⟩:=qm.1 g2;refine(K.seq 0 rfl fun _=>rfl).dD (g:=bH) _ rfl O y (by rw[q]) ?_;have Z:qc vR (((X.length+c.length:Nat):Int)-1)=((X.length+c.length-1:Nat):Int):=by rw[Go.Vc.wrap_small _ (by omega) (by omega)];omega
    rw[Z];refine(K.seq 0 rfl fun _=>rfl).dD (g:=bH) _ rfl T z (by rw[p]) (eU (by rfl) ?_);refine(Yf y z h2).mono ?_;rintro _ h3 ⟨rfl,R3⟩;have F:=K.up R3.ai;refine⟨_,rfl,trivial,ak (fun e3=>⟨Q,z,n,(Tp y z).1 e3,F⟩) fun e3=>k (fun w m=>?_) F⟩;have o:iY z y=true:=by
     by_cases hc:iY z y=true
     ·exact hc
     ·exact absurd ((Tp y z).2 hc) e3
    rw[n]at m;rcases qE.1 m with m|m
    ·refine Hr.trans _ _ _ ?_ o;have:Sd iY (Q++[z]):=by rw[<-n];exact Sd.left (v:=d) (by rw[I];exact r)
     exact this.HZ w m z (by simp)
    ·rw[qG.1 m];exact o
   ·have:c=[]:=by
     cases c with
     |nil=>rfl
     |cons x P=>exfalso;simp only[zi]at S;omega
    rw[this]at N;cases N
  ·rintro _ h3 ⟨Q,z,n,o,F⟩;have ab:c.length=Q.length+1:=by rw[n];simp
   have E:D=(X++Q)++z::([]++y::(d++(M.drop (t+1+1)++Y))):=by rw[U,n];simp
   obtain⟨q1,q2,q3,q4⟩:=SZ (X++Q) [] (d++(M.drop (t+1+1)++Y)) z y (i:=X.length+c.length-1) (j:=X.length+c.length) (by simp;omega) (by simp;omega);rw[<-E]at q1 q2 q3 q4;obtain⟨T,p⟩:=qm.1 q1;obtain⟨O,q⟩:=qm.1 q2;have Z:qc vR (((X.length+c.length:Nat):Int)-1)=((X.length+c.length-1:Nat):Int):=by rw[Go.Vc.wrap_small _ (by omega) (by omega)];omega
   rw[Z];refine(F.seq 0 rfl fun _=>rfl).dD (g:=bH) _ rfl T z (by rw[p]) ?_;refine(F.seq 0 rfl fun _=>rfl).dD (g:=bH) _ rfl O y (by rw[q]) ?_;refine F.set ae 0 rfl (fun _=>rfl) rfl (X.length+c.length) rfl O z rfl rfl rfl fun h4 H4=>⟨trivial,?_⟩
   refine H4.set ae 0 rfl (fun _=>rfl) rfl (X.length+c.length-1) rfl (by simpa using T) y rfl rfl rfl fun h5 H5=>⟨trivial,?_⟩
   refine⟨(Q,z::d),by dsimp only;congr 1;omega,⟨by dsimp only;rw[<-I,n];simp,?_,?_⟩,by dsimp only;omega⟩
   ·dsimp only;intro w m;rcases zc.1 m with rfl|m
    ·exact o
    ·exact f w m
   ·dsimp only;have:X++(Q++(y::(z::d++(M.drop (t+1+1)++Y))))=(X++Q)++y::([]++z::(d++(M.drop (t+1+1)++Y))):=by simp
    rw[this,<-q4];exact H5
 ·refine⟨rfl,P,r,?_,?_⟩
  ·rw[qi (by omega)]at A;exact A
  ·rw[q9 (by omega)]at R;simpa using R
theorem Tr(r:Nat)(h:Heap)(c:r<=2^32):ac vV xq #[vL vU r] h fun v h'=>(∃k:Int,v=vL vR k)/\h'=h:=by
 intro w a;refine(Tryz.bits_Len (r:Int) w (by omega) (by omega)).mono ?_;rintro e b ⟨rfl,rfl⟩;exact⟨_,rfl,cN.refl _,⟨_,rfl⟩,a⟩
theorem Yg(d:List dV)(m:d.length<=12)(H:aa B h0 h (tK s d::As)):
  ac vV lK #[vM s.ptr s.len s.cap,.func (.func gv) #[] #[]] h fun v h'=>v=.tuple #[]/\aa B h0 h' (tK s (d.mergeSort iY)::As):=by
 refine lr s (gv,#[],#[]) ?_;unfold hJ;have l:=(H.own 0 rfl).len;have a:∀k:Int,ac vV nt #[vM s.ptr s.len s.cap,vL vR 0,vL vR (s.len:Nat),vL vR k,.func (.func gv) #[] #[]] h fun v h'=>v=.tuple #[]/\aa B h0 h' (tK s (d.mergeSort iY)::As):=fun k=>by
  refine mR s 0 (s.len:Nat) k (gv,#[],#[]) ?_;unfold iV;refine av (fun _:Unit=>((0:Int),((s.len:Nat):Int),k,true,true)) (fun _ h'=>h'=h) (fun _=>0) () rfl rfl ?_;rintro _ j rfl;refine ak (fun _=>?_) fun e=>absurd (show qc vR (((s.len:Nat):Int)-0)<=12 by rw[Go.Vc.wrap_small _ (by omega) (by omega)];omega) e;refine(Mm [] d [] 0 (s.len:Nat) rfl (by simp[l]) (by simp;omega) (by simpa using H)).mono ?_;rintro _ i ⟨rfl,M,c,g,b⟩;refine⟨(),rfl,rfl,?_⟩;rw[<-adD Hr c g];simpa using b
 have f:qc vU ((s.len:Nat):Int)=((s.len:Nat):Int):=by unfold qc;simp[qk,yI];omega
 rw[f];refine(Tr s.len h (by omega)).mono ?_;rintro _ j ⟨⟨k,rfl⟩,rfl⟩;refine⟨k,rfl,(a k).mono ?_⟩;rintro _ i ⟨rfl,b⟩;exact⟨(),rfl,rfl,b⟩
end
section
variable {B:aA} {h0 h:Heap} {As:List HP}
def CS:cg:=(0,0,0,0,0,0,⟨none,0,0⟩,⟨none,0,0⟩)
theorem VC{m:aG}{e:Wl.bW}{xe:dV}{L:List (dV×Wl.bW)}{pool:List (Sl×List Int)}(h:L.map zA=m.objs)(i:∀p∈L,Il pool p)(j:Il pool (xe,e)):
  ∃g:List (dV×Wl.bW),g.map qK=(L.map qK++[xe]).mergeSort iY/\g.map zA=(m.objs++[e]).mergeSort sf/\∀p∈g,Il pool p:=by
 have c:∀p∈L++[(xe,e)],Il pool p:=fun p d=>by
  rcases qE.1 d with d|d
  ·exact i p d
  ·rw[qG.1 d];exact j
 refine⟨(L++[(xe,e)]).mergeSort fun a b=>iY a.1 b.1,?_,?_,fun p d=>c p ((yk _ _).mem_iff.1 d)⟩
 ·rw[vf (r:=fun a b=>iY a.1 b.1) (s:=iY) (f:=qK) (fun a _ b _=>rfl),qQ];rfl
 ·rw[vf (r:=fun a b=>iY a.1 b.1) (s:=sf) (f:=zA) (fun a l b k=>by unfold iY sf;rw[(c a l).1.1,(c b k).1.1]),qQ,h];rfl
theorem aaB(x:cg)(m:aG)(xe:dV)(e:Wl.bW)(U:eG h x m)(G:db m)(Y:0<=m.seq/\m.seq<=2^40)(hn:0<=m.next/\m.next<=2^40)(ho:m.objs.length<=11)(J:xe.1=e.name/\xe.2.1=e.object/\xe.2.2.1=e.length)(H:aa B h0 h (tu xe.2.2.2 1 aE e.tries::As)):
  ac vV Ex #[ft x,Tq xe] h fun v h'=>∃y:cg,v=ft y/\aa B h0 h' (cO y (dg m e)::As):=by
 refine Nu x xe ?_;unfold Gr;refine(Sp.refl h).boxed fun O h1 W=>W.boxed fun g Z I=>I.alloc ae rfl fun a3 h3 j=>?_;have j:Sp h h3 [au O aB (aV x),au g aX (bH xe),au a3 aB (aV CS)]:=j;refine⟨x,(j.box 0 rfl).aQ _ rfl,(rJ x m h3 (U.up j.ai) G).mono ?_⟩;rintro _ h4 ⟨y,L,pool,rfl,n,A,D,R⟩;have M:=((j.bV [1,2]).comp R).front;refine⟨y,rfl,M.alloc ae rfl fun i h5 w=>?_⟩;have w:=w.bL;refine w.storeAll ae 0 rfl rfl (aV y) rfl rfl rfl rfl fun Q r=>?_;have r:Sp h Q [au i aB (aV y),eM 1 aE pool,an aS y.2.2.2.2.2.2.1 1 aE m.drives,an aX y.2.2.2.2.2.2.2 4 bH (L.map qK),au g aX (bH xe),au a3 aB (aV CS)]:=r;refine⟨y.1,(r.box 0 rfl).cell0 rfl,?_⟩;have T:qc vR (y.1+1)=m.seq+1:=by rw[n.1,Go.Vc.wrap_small _ (by omega) (by omega)]
 have X:qc vR (y.2.1+1)=m.next+1:=by rw[n.2.1,Go.Vc.wrap_small _ (by omega) (by omega)]
 rw[T];refine r.jD ae 0 rfl rfl [vL vR (m.seq+1)] rfl rfl rfl (by simp[Value.cells]) fun K q=>?_;have q:Sp h K [au i aB (vL vR (m.seq+1)::(aV y).drop 1),eM 1 aE pool,an aS y.2.2.2.2.2.2.1 1 aE m.drives,an aX y.2.2.2.2.2.2.2 4 bH (L.map qK),au g aX (bH xe),au a3 aB (aV CS)]:=q;refine⟨y.2.1,(q.box 0 rfl).cell rfl,?_⟩;rw[X];refine q.store ae 0 rfl rfl 1 [vL vR (m.next+1)] rfl rfl rfl (by simp[Value.cells]) fun h8 l=>?_;have l:Sp h h8 [au i aB (vL vR (m.seq+1)::vL vR (m.next+1)::(aV y).drop 2),eM 1 aE pool,an aS y.2.2.2.2.2.2.1 1 aE m.drives,an aX y.2.2.2.2.2.2.2 4 bH (L.map qK),au g aX (bH xe),au a3 aB (aV CS)]:=l;have F:L.length=m.objs.length:=by rw[<-A,qw]
 refine⟨y.2.2.2.2.2.2.2,(l.box 0 rfl).cell rfl,xe,(l.box 4 rfl).aQ _ rfl,?_⟩;refine l.push ae 3 rfl Oe rfl (by decide) (fun _=>rfl) Od xe rfl (by decide) (by simp;omega) fun o V z=>?_;refine z.store ae 0 rfl rfl 7 [vM o.ptr o.len o.cap] rfl rfl rfl (by simp[Value.cells]) fun u c=>?_;obtain⟨a,b⟩:∃a:cg,a=(m.seq+1,m.next+1,y.2.2.1,y.2.2.2.1,y.2.2.2.2.1,y.2.2.2.2.2.1,y.2.2.2.2.2.2.1,o):=⟨_,rfl⟩
 have S:a.2.2.2.2.2.2.1=y.2.2.2.2.2.2.1:=by rw[b]
 have P:a.2.2.2.2.2.2.2=o:=by rw[b]
 have c:Sp h u [au i aB (aV a),eM 1 aE pool,an aS a.2.2.2.2.2.2.1 1 aE m.drives,an aX a.2.2.2.2.2.2.2 4 bH (L.map qK++[xe]),au g aX (bH xe),au a3 aB (aV CS)]:=by rw[S,P,b];exact c
 refine⟨a.2.2.2.2.2.2.2,(c.box 0 rfl).cell rfl,?_⟩;have c:=c.bo 6 [3,0,1,2,4,5];refine(Yg (L.map qK++[xe]) (by simp;omega) c).mono ?_;rintro _ t ⟨rfl,d⟩;have d:Sp h t [tK a.2.2.2.2.2.2.2 ((L.map qK++[xe]).mergeSort iY),au i aB (aV a),eM 1 aE pool,an aS a.2.2.2.2.2.2.1 1 aE m.drives,au g aX (bH xe),au a3 aB (aV CS)]:=d;refine⟨(),rfl,a,(d.box 1 rfl).aQ _ rfl,?_⟩;refine d.storeAll ae 5 rfl rfl (aV a) rfl rfl rfl rfl fun k f=>?_;have f:Sp h k [tK a.2.2.2.2.2.2.2 ((L.map qK++[xe]).mergeSort iY),au i aB (aV a),eM 1 aE pool,an aS a.2.2.2.2.2.2.1 1 aE m.drives,au g aX (bH xe),au a3 aB (aV a)]:=f;refine⟨a,(f.box 5 rfl).aQ _ rfl,a,rfl,?_⟩;obtain⟨L',l1,l2,N⟩:=VC (pool:=(xe.2.2.2,e.tries)::pool) (m:=m) (e:=e) (xe:=xe) A (fun p E=>⟨(D p E).1,qU _ (D p E).2⟩) ⟨J,q8⟩;have s:=((H.comp (f.bV [2,3,0])).front).bo 4 [0,3,1,2];have s:aa B h0 k (eM 1 aE ((xe.2.2.2,e.tries)::pool)::an aS a.2.2.2.2.2.2.1 1 aE m.drives::an aX a.2.2.2.2.2.2.2 4 bH ((L.map qK++[xe]).mergeSort iY)::As):=aa.Wx s;rw[<-l1]at s;refine aa.Kd (m:=dg m e) ⟨by rw[b];rfl,by rw[b];rfl,by rw[b];exact n.2.2.1,by rw[b];exact n.2.2.2⟩ l2 N s
end
section
variable {B:aA} {h0 h:Heap} {As:List HP} {a pw:Addr} {offs:Int} {da:List (Option Addr)} {w:Pow} {ds:bc}
theorem aa.aaC{x y:cg}(H:aa B h0 h (bm bz a pw (aV x) offs da w ds::As)){K:Unit->Heap->Prop}(b:∀h',aa B h0 h' (bm bz a pw (aV y) offs da w ds::As)->K () h'):
  ag vV (qf aB (vN (some a)) (ft y)) h K:=by
 obtain⟨ok,c⟩:=Go.Vc.aa.xz H;refine c.jD ae 0 rfl rfl (aV y) rfl rfl rfl (by simp) fun h' d=>b h' ?_;exact aa.AL (k:=bz) ⟨rfl,ok.la,ok.ls,ok.same⟩ d
theorem Mn(x z:cg)(b:aG)(s:Sl)(l:List Int)(g:St B h0 As fun h=>eG h z b/\Rd h s 1 aE l)(j:db b)(u:l.length<=2^10)(i:∀k∈l,0<=k/\k<64)(H:aa B h0 h (bm bz a pw (aV x) offs da w ds::As)):
  ac vV Fi #[vN (some a),ft z,vM s.ptr s.len s.cap] h fun v h'=>v=vL vR (layAll (bx b l) w ds).1/\
   ((layAll (bx b l) w ds).1≠0->aa B h0 h' (bm bz a pw (aV x) offs da (layAll (bx b l) w ds).2.1 (layAll (bx b l) w ds).2.2::As))/\
   ((layAll (bx b l) w ds).1=0->∃y,aa B h0 h' (bm bz a pw (aV y) offs da (layAll (bx b l) w ds).2.1 (layAll (bx b l) w ds).2.2::cO y b::As)):=by
 refine DK (some a) z s ?_;unfold sM;refine H.boxed fun F K d=>?_;have d:=d.bL;refine⟨z,(d.box 0 rfl).aQ _ rfl,(Je z b s l K (g.at [_,_] d).1 j (g.at [_,_] d).2 u).mono ?_⟩;rintro _ L ⟨r,t,rfl,A⟩;have D:=(d.cY A).bo 3 [2,0,1];have f:=jM b j;have p:=wb u f;refine⟨r,rfl,(Hk r t (bx b l) (St.gK 0 rfl fun _ n=>n) (by rw[BM];omega) (fun q n=>?_) D).mono ?_⟩
 ·obtain⟨o,m⟩:=ka n;rw[m];exact⟨i _ o,by decide⟩
 rintro _ h3 ⟨rfl,c⟩;obtain⟨R,I⟩:∃R,R=layAll (bx b l) w ds:=⟨_,rfl⟩
 rw[<-I]at c⊢;refine⟨_,rfl,bQ (fun e=>⟨rfl,fun _=>c.bo 3 [0],fun h=>absurd h e⟩) fun e=>?_⟩;have c:aa B h0 h3 (bm bz a pw (aV x) offs da R.2.1 R.2.2::cH kC 2 piv r t (bx b l)::au F aB (aV z)::As):=c;refine⟨z,(c.box 2 rfl).aQ _ rfl,(LZ z b h3 (g.at [_,_,_] c).1 j).mono ?_⟩;rintro _ M ⟨y,rfl,J⟩;have E:=(c.cY J).bo 4 [1,0];refine⟨y,rfl,a,rfl,aa.aaC E fun N G=>?_⟩;exact⟨by rw[e],fun h=>absurd e h,fun _=>⟨y,G⟩⟩
def dm(name:ByteArray)(e:Wl.bW):Bool:=e.name.toList==name.toList
theorem find_spec(x:cg)(m:aG)(name:ByteArray)(r:eG h x m)(q:db m)(H:aa B h0 h (bm bz a pw (aV x) offs da w ds::As)):
  ac vV Fl #[vN (some a),vO name] h fun v h'=>(∃i:Int,v=vL vR i/\XX (dm name) m.objs i)/\Sp h h' []:=by
 refine DM (some a) name ?_;unfold sP;refine(Sp.refl h).boxed fun e n b=>?_;have o:cw n e fS [vO name]:=b.box 0 rfl;obtain⟨ok,l⟩:=aa.cJ H;have d:=l.ai b.ai l.lt;have g:=q.ob;refine⟨a,rfl,x.2.2.2.2.2.2.2,d.cell rfl,?_⟩;refine(Jf Cq #[] #[vN (some e)] (dm name) x.2.2.2.2.2.2.2 m.objs n (by rfl) (r.up b.ai).objs g ?_).mono ?_
 ·intro u E k c s y;refine Bu u e ?_;unfold pz;refine(Sp.refl k).boxed fun z h3 f=>?_;have j:=(o.ai c.ai o.lt)
  have t:=j.ai f.ai j.lt;refine⟨u.1,(f.box 0 rfl).cell0 rfl,name,t.cell0 rfl,?_,.zip f.ai⟩;unfold dm;rw[s.1.1]
 ·rintro _ k ⟨⟨i,rfl,p⟩,c⟩;exact⟨i,rfl,⟨i,rfl,p⟩,.zip (aa.up b c.ai).ai⟩
theorem td{b:List Value}(H:aa B h0 h (bm bz a pw b offs da w ds::As)):ac vV Gt #[vN (some a)] h fun v h'=>v=vP (fu w offs)/\h'=h:=by
 refine rc (some a) ?_;unfold nk;refine bA (fun e=>by cases e) fun _=>(CP H).mono ?_;rintro _ _ ⟨rfl,rfl⟩;exact⟨_,rfl,rfl,rfl⟩
def cP(m:aG)(down:Bool)(ds:bc)(name:ByteArray)(n:Nat):Int:=
 if down then 14 else if !jF name then 3 else if m.objs.any (dm name)then 4
 else if m.p.1*m.p.2.2*8<(n:Int)∨12<=m.objs.length then 6
 else if bi ds m.drives=[]∨16777215<m.next∨2147483647<=m.seq then 7 else 0
theorem Ts(x:cg)(m:aG)(name:ByteArray)(s:Sl)(n:Nat)(hn:s.len=n)(q:name.size<=2^40)(V:eG h x m)(J:db m)(R:bM m.p=true)(H:aa B h0 h (bm bz a pw (aV x) offs da w ds::As)):
  ac vV Bg #[vN (some a),vO name,vM s.ptr s.len s.cap] h fun v h'=>v=vL vR (cP m (fu w offs) ds name n)/\Sp h h' []:=by
 refine xS (some a) name s ?_;unfold oA;have N:=(bU m.p).1 R;refine(td H).mono ?_;rintro _ E ⟨rfl,rfl⟩;refine⟨_,rfl,bA (fun e=>⟨by unfold cP;rw[e];rfl,Sp.refl _⟩) fun o=>?_⟩;refine(Pk name E q).mono ?_;rintro _ Z ⟨rfl,l⟩;refine⟨_,rfl,bg (fun e=>⟨by unfold cP;rw[o,e];rfl,l⟩) fun G=>?_⟩;have K:=H.up l.ai;have f:=V.up l.ai;refine(find_spec x m name f J K).mono ?_;rintro _ h3 ⟨⟨i,rfl,L⟩,A⟩;have D:Sp E h3 []:=.zip (aa.up l A.ai).ai;have d:=Tg L;refine⟨i,rfl,bA (fun e=>⟨by unfold cP;rw[o,G,<-d,e];rfl,D⟩) fun U=>?_⟩;rw[U]at d;have I:=K.up A.ai;have b:=f.up A.ai;obtain⟨ok,k⟩:=aa.cJ I;have P:=cm.len b.objs;have y:x.2.2.1=m.p.1:=congrArg (·.1) b.p;have z:x.2.2.2.2.1=m.p.2.2:=congrArg (·.2.2) b.p;have hk:m.p.1*m.p.2.2<=16*24:=wu (by omega) (by omega) (by omega) (by omega);have T:0<=m.p.1*m.p.2.2:=vm (by omega) (by omega);refine cl (fun(t:Bool) h'=>t=decide (m.p.1*m.p.2.2*8<(n:Int)∨12<=m.objs.length)/\h'=h3) ?_ ?_
 ·refine⟨a,rfl,x.2.2.1,k.cell rfl,a,rfl,x.2.2.2.2.1,by rw[addr_add];exact k.cell rfl,?_⟩;rw[y,z,Go.Vc.wrap_small (m.p.1*m.p.2.2) (by omega) (by omega),Go.Vc.wrap_small (m.p.1*m.p.2.2*8) (by omega) (by omega)];refine ak (fun e=>⟨(decide_eq_true (.inl (by omega))).symm,rfl⟩) fun e=>?_;refine⟨a,rfl,x.2.2.2.2.2.2.2,k.cell rfl,?_,rfl⟩;rw[decide_eq_decide];omega
 rintro t _ ⟨rfl,rfl⟩;refine ak (fun e=>⟨by unfold cP;rw[o,G,<-d,if_pos e];rfl,D⟩) fun O=>?_;have M:cP m (fu w offs) ds name n=if bi ds m.drives=[]∨16777215<m.next∨2147483647<=m.seq then 7 else 0:=by
  unfold cP;rw[o,G,<-d,if_neg O];rfl
 rw[M];refine(fY x m b J I).mono ?_;rintro _ Q ⟨r,rfl,u⟩;have j:=(u.own 0 rfl).len;have c:Sp E Q []:=.zip (aa.up D u.ai).ai;have g:=k.ai u.ai k.lt;refine⟨r,rfl,cx (fun e=>⟨by rw[if_pos (.inl (qW (by omega)))],c⟩) fun e=>?_⟩;have F:bi ds m.drives≠[]:=fun W=>by rw[W]at j;simp at j;omega
 refine⟨a,rfl,x.2.1,g.cell rfl,ak (fun e=>⟨by rw[if_pos (.inr (.inl (by rw[<-b.next];omega)))],c⟩) fun e6=>?_⟩;have S:=b.next;have X:=b.seq;refine⟨a,rfl,x.1,g.cell0 rfl,ak (fun e=>⟨by rw[if_pos (.inr (.inr (by omega)))],c⟩) fun Y=>⟨?_,c⟩⟩;rw[if_neg];rintro(h|h|h)
 ·exact F h
 ·omega
 ·omega
end
theorem Tt:∃i a,C.T.get aF=some i/\i.cE=.slice a:=⟨_,_,rfl,rfl⟩
def oP(A B:aR)(k:Nat):aR:=dS (A.take k) (B.take k)++A.drop k
theorem te{A B:aR}(h:B.length=A.length)(k:Nat):(oP A B k).length=A.length:=by simp[oP,dS,h];omega
theorem aaD{A B:aR}(h:B.length=A.length){k:Nat}(a:k<A.length):(oP A B k)[k]?=some A[k]:=by
 have:(dS (A.take k) (B.take k)).length=k:=by simp[dS];omega
 rw[oP,qj (by omega),this,zf,wq,yl,qd a]
theorem aaE{A B:aR}(h:B.length=A.length){k:Nat}(a:k<A.length):(oP A B k).set k (A[k]++B[k]'(by omega))=oP A B (k+1):=by
 have b:(dS (A.take k) (B.take k)).length=k:=by simp[dS];omega
 rw[oP,za _ _ (by omega),b,zf,qT a,zw,oP,aH _ _ a,aH _ _ (show k<B.length by omega),dS,dS,yH (by simp;omega),qo];rfl
theorem aaF{A B:aR}(h:B.length=A.length):oP A B A.length=dS A B:=by
 rw[oP,qR,<-h,qR,h,List.drop_length,qP]
theorem Yh(f:Addr)(a b:Sl)(A B:aR)(n w:Nat)(h:Heap)(hf:gA h f)(N:gg h a 1 aC A)(hb:gg h b 1 aC B)(hl:A.length=n)(a4:B.length=n)(i:be n A)(J:be w B)(a9:1<=n)(hn:n+w<=64)(hr:cG A=n):
  ac vV GJ #[vN (some f),vM a.ptr a.len a.cap,vM b.ptr b.len b.cap] h fun v h'=>∃r:Sl,v=.tuple #[vM r.ptr r.len r.cap,vL vR 0]/\Sp h h' [fI aF r 1 aC (fw n A B)]:=by
 have d:B.length=A.length:=by omega
 have U:=N.len;have y:=hb.len;refine EM (some f) a b ?_;unfold Bx;refine ba ?_;refine(mG a A n h N i (by omega) (by omega)).mono ?_;rintro v h1 ⟨rfl,rfl⟩;refine⟨_,rfl,bg (fun e=>by cases e) fun _=>?_⟩;refine(mG b B w h1 hb J (by omega) (by omega)).mono ?_;rintro v L ⟨rfl,rfl⟩;refine⟨_,rfl,bg (fun e=>by cases e) fun _=>?_⟩;refine bQ (fun e=>absurd (by rw[U,y,d]) e) fun _=>?_;refine cx (fun e=>by omega) fun _=>?_;refine(rP a A L N).mono ?_;rintro v h3 ⟨rfl,rfl⟩;have T:fG A=n:=by
  cases A with
  |nil=>simp at hl;omega
  |cons x t=>rw[fG,bt (by simp)];exact i _ (by simp)
 refine⟨_,rfl,?_⟩;rw[T];refine(xC a A n h3 N i (by omega) (by omega)).mono ?_;rintro v h4 ⟨r,rs,rfl,a3,R4⟩;refine⟨r,rfl,?_⟩;have ah:=(R4.own 0 rfl).len;refine av (fun t:Nat×List Sl=>(t.1:Int)) (fun t h'=>t.1<=n/\t.2.length=n/\Sp h3 h' (ny r t.2 (oP A B t.1))) (fun t=>n-t.1) (0,rs) rfl ⟨by simp,by dsimp only;omega,by simpa[oP,dS]using R4⟩ ?_;rintro⟨k,rs⟩ h5 ⟨hk,a5,p⟩;dsimp only at*;have F:rs.length=(oP A B k).length:=by rw[te d];omega
 refine ak (fun e=>?_) (fun e=>?_)
 ·have q:k<n:=by omega
  have E:k<A.length:=by omega
  have I:=oN (a:=r) F k (by rw[te d];omega);have eg:(oP A B k)[k]'(by rw[te d];omega)=A[k]:=by
   have:=aaD d E;rw[qd (by rw[te d];omega)]at this;exact zJ.inj this
  rw[eg]at I;have l1:A[k].length=n:=i _ (qg _);have l2:(B[k]'(by omega)).length=w:=J _ (qg _);refine(p.seq 0 rfl (fun _=>rfl)).oV k rfl (by omega) fun a1 X P=>?_;refine(hb.up p.ai).get k rfl (by omega) fun rb R=>?_;refine p.append ae (k+1) I fP Tt rfl (by decide) (fun _=>rfl) R ge (by omega) fun K h6 H6=>⟨trivial,?_⟩
  refine H6.set ae 0 rfl (fun _=>rfl) rfl k rfl (by omega) K rfl rfl rfl fun W H7=>⟨trivial,?_⟩
  refine⟨(k+1,rs.set k K),by dsimp only;rw[wrap_small _ (by omega) (by omega)];rfl,⟨by dsimp only;omega,by dsimp only;simp;omega,?_⟩,by dsimp only;omega⟩;dsimp only;rw[<-aaE d E];show Sp h3 W (an aF r 1 bI (rs.set k K)::bP aD 1 aC (rs.set k K) ((oP A B k).set k _));rw[<-lC F];exact H7
 ·have S:k=A.length:=by omega
  subst S;rw[aaF d]at p;refine(tJ f h5).mono ?_;rintro v h6 ⟨rfl,rfl⟩;refine⟨some f,rfl,?_⟩;have j:=mj d.symm i J;have ay:=lD d.symm;refine(BJ (m:=dS A B) (n:=n+w) hf hf.lt (by omega) j (by omega) (by omega) (by omega) p).mono ?_;rintro v W ⟨g,rfl,am,l⟩;rw[Jx d.symm i,hr];refine⟨_,rfl,?_⟩;dsimp only;have ap:=(l.own 0 rfl).cap;have a8:=(l.own 0 rfl).len;have L:=ia j n;refine ak (fun e=>absurd (show(n:Int)<(n:Int)from e) (by omega)) fun _=>?_;refine⟨⟨zT _,yD.2 (show n<=r.len by omega)⟩,?_⟩;refine av (fun _:Unit=>(0:Int)) (fun _ h'=>h'=W) (fun _=>0) () rfl rfl ?_;rintro _ h8 rfl;rw[qp];refine ak (fun e=>by omega) fun _=>?_;refine⟨⟨zT _,yD.2 (show n<=r.cap by omega)⟩,?_⟩;obtain⟨M,H⟩:∃M,M=(bC (dS A B) n).2:=⟨_,rfl⟩
  have a0:M.length=n:=by have:=L.2;rw[<-H]at this;omega
  have Z:be (n+w) M:=by rw[H];exact L.1
  have D:∀k (hk:k<n),(fw n A B).take (k+1)=(fw n A B).take k++[(M[k]'(by omega)).drop n]:=fun k hk=>by
   have e1:fw n A B=M.map (vK n):=by rw[fw,<-H,qi (by omega)]
   rw[e1,aH _ _ (by simp;omega),zY]
  have a6:(fw n A B).length=n:=(uM d.symm i J hr).1;rw[<-H]at l;refine av (fun t:Sl×Nat=>(t.1,(t.2:Int))) (fun t h'=>t.2<=n/\Sp h8 h' [fI aF t.1 1 aC ((fw n A B).take t.2)]) (fun t=>n-t.2) (⟨none,0,0⟩,0) rfl ⟨by simp,(Sp.refl h8).KA aF 1 aC⟩ ?_;rintro⟨s,k⟩ h9 ⟨a7,G⟩;dsimp only at*;have Y:=l.comp G;have ab:g.length=M.length:=by omega
  refine ak (fun e=>?_) (fun e=>?_)
  ·have q:k<n:=by omega
   have I:=oN (a:=r) ab k (by omega);have u:(ny r g M++[fI aF s 1 aC ((fw n A B).take k)])[k+1]?=some (an aD (g[k]'(by omega)) 1 aC (M[k]'(by omega))):=by
    rw[qn (by simp[bP];omega)];exact I
   have a2:(M[k]'(by omega)).length=n+w:=Z _ (qg _);have o:=Y.own (k+1) u;have O:=Y.seq (k+1) u (fun _=>rfl);have ao:=o.len;have z:=(Y.seq 0 rfl (fun _=>rfl)).take n (by omega);rw[qi (by omega)]at z;refine z.oV k rfl (by omega) fun a1 X P=>?_;refine⟨⟨zT _,yD.2 (by omega)⟩,?_⟩;refine(fH _ _ h9 (O.drop n o.cap) (by simp;omega)).mono ?_;rintro v bb ⟨c,rfl,V⟩;have Q:=(G.comp V).freeze 1 rfl (fun _=>rfl);refine⟨c,rfl,?_⟩;refine Q.uI ae 0 1 (by decide) rfl rfl fq (by simp;omega) fun s' ax ad=>?_;refine⟨(s',k+1),by dsimp only;rw[wrap_small _ (by omega) (by omega)];rfl,⟨by dsimp only;omega,?_⟩,by dsimp only;omega⟩;dsimp only;rw[D k q];exact ad.del 1
  ·rw[qi (by omega)]at G;refine⟨s,rfl,?_⟩;have:=(Sp.zip l.ai).comp G;exact this
def ol(p:Pm)(seed:Int)(l:Nat):Int:=if bM p&&decide ((l:Int)=p.1*p.2.2)then(if fJ p seed (eC p)then 0 else 8)else 1
abbrev Ki(p:Pm)(seed:Int)(m:Sl):List Value:=[vL vR p.1,vL vR p.2.1,vL vR p.2.2,vL vT seed,vM m.ptr m.len m.cap]
theorem acG(p:Pm)(seed:Int)(data:Sl)(d:Row)(h:Heap)(hd:Rd h data 1 aC d)(hc:data.len<=data.cap):
  ac vV ED #[kB p,vL vT seed,vM data.ptr data.len data.cap] h fun v h'=>
   (ol p seed d.length=0->∃(b:Addr) (m:Sl),v=.tuple #[vN (some b),vL vR 0]/\Sp h h' [fI aF m 1 aC (eE p seed d),au b fV (Ki p seed m)])/\
   (ol p seed d.length≠0->v=.tuple #[vN none,vL vR (ol p seed d.length)]/\Sp h h' []):=by
 have ab:=hd.len;refine Nz p seed data ?_;unfold Gw;refine(Sp.refl h).boxed fun a h1 H1=>?_;refine ba ?_;refine⟨p,(H1.box 0 rfl).aQ _ rfl,(dN p h1).mono ?_⟩;rintro v h2 ⟨rfl,R2⟩;have M:=H1.comp R2;have no:∀{h3:Heap} (x:Int),x≠0->ol p seed d.length=x->Sp h h3 [au a aT [vL vR p.1,vL vR p.2.1,vL vR p.2.2]]->
   (ol p seed d.length=0->∃(b:Addr) (m:Sl),Value.tuple #[vN none,vL vR x]=.tuple #[vN (some b),vL vR 0]/\Sp h h3 [fI aF m 1 aC (eE p seed d),au b fV (Ki p seed m)])/\
   (ol p seed d.length≠0->Value.tuple #[vN none,vL vR x]=.tuple #[vN none,vL vR (ol p seed d.length)]/\Sp h h3 []):=fun x hx P H=>by
  refine⟨fun e=>absurd (P.symm.trans e) hx,fun _=>⟨by rw[P],.zip H.ai⟩⟩
 refine⟨_,rfl,bg (fun e=>no 1 (by decide) (by rw[ol,e];rfl) M) fun R=>?_⟩;have ap:=(bU p).1 R;obtain⟨K,hK⟩:∃K:Nat,p.1=K:=⟨p.1.toNat,by omega⟩
 obtain⟨u,hH⟩:∃H:Nat,p.2.1=H:=⟨p.2.1.toNat,by omega⟩
 obtain⟨w,N⟩:∃w:Nat,p.2.2=w:=⟨p.2.2.toNat,by omega⟩
 have ah:K*w<=16*24:=wb (by omega) (by omega);have L:p.1*p.2.2=((K*w:Nat):Int):=by rw[hK,N,wz]
 refine⟨p.1,(M.box 0 rfl).cell0 rfl,p.2.2,(M.box 0 rfl).cell rfl,?_⟩;rw[L,wrap_small _ (by omega) (by omega)];refine bQ (fun e=>no 1 (by decide) (by rw[ol,R,decide_eq_false (by rw[L];intro Y;exact e (by rw[ab];exact Y))];rfl) M) fun el=>?_;have F:d.length=K*w:=by omega
 refine⟨p,(M.box 0 rfl).aQ _ rfl,(Mi p seed h2).mono ?_⟩;rintro v h3 ⟨rfl,R3⟩;have H3:=M.comp R3;have y:ol p seed d.length=if fJ p seed (eC p)then 0 else 8:=by rw[ol,R,decide_eq_true (by rw[L,F])];rfl
 refine⟨_,rfl,bg (fun e=>no 8 (by decide) (by rw[y,e];rfl) H3) fun hf=>?_⟩;rw[hf,if_pos rfl]at y;have B:bT p seed d K u w (K+u):=⟨R,hf,hK,hH,N,rfl,by omega,by omega,by omega,by omega,by omega,by omega,F⟩
 refine⟨p.2.1,(H3.box 0 rfl).cell rfl,?_⟩;refine av (fun t:Sl×List Sl=>(t.1,(t.2.length:Int))) (fun t h'=>t.2.length<=u/\Sp h h' (au a aT [vL vR p.1,vL vR p.2.1,vL vR p.2.2]::ny t.1 t.2 (qh t.2.length (aK w)))) (fun t=>u-t.2.length) (⟨none,0,0⟩,[]) rfl ⟨by simp,H3.nil aF 1 bI⟩ ?_;rintro⟨s,rs⟩ h4 ⟨hk,O⟩;dsimp only at*;refine ak (fun e=>?_) (fun e=>?_)
 ·refine⟨p.2.2,(O.box 0 rfl).cell rfl,?_⟩;refine O.make ae aC fP (by decide) 0 rfl rfl w w N N (ql _) (by omega) fun z W ax ao D=>?_;refine D.push ae 1 rfl fq rfl (by decide) (fun _=>rfl) me z rfl (by decide) (by omega) fun U V H6=>?_;refine⟨(U,rs++[z]),by dsimp only;rw[wrap_small _ (by omega) (by omega)];simp,⟨by simp;omega,?_⟩,by simp;omega⟩;dsimp only;have e7:ny U (rs++[z]) (qh rs.length (aK w)++[aK w])=an aF U 1 bI (rs++[z])::(bP aD 1 aC rs (qh rs.length (aK w))++[an aD z 1 aC (aK w)]):=congrArg _ (uU (by simp) z (aK w));rw[show(rs++[z]).length=rs.length+1 by simp,List.replicate_succ',e7];exact H6
 ·have J:rs.length=u:=by omega
  rw[J]at O;refine⟨p.1,(O.box 0 rfl).cell0 rfl,?_⟩;let own:=bP aD 1 aC rs (qh u (aK w));refine av (fun t:Sl×Nat=>(t.1,(t.2:Int))) (fun t h'=>t.2<=K/\Sp h h' (au a aT [vL vR p.1,vL vR p.2.1,vL vR p.2.2]::an aF t.1 1 bI (rs++(qC t.2).map (Na data w))::own)) (fun t=>K-t.2) (s,0) rfl ⟨by simp,by simpa using O⟩ ?_;rintro⟨t,k⟩ W ⟨am,D⟩;dsimp only at*;refine ak (fun Y=>?_) (fun Y=>?_)
  ·have X:k<K:=by omega
   have m1:(k+1)*w<=K*w:=zG w X;have m2:k*w<=(k+1)*w:=zG w (by omega);refine⟨p.2.2,(D.box 0 rfl).cell rfl,p.2.2,(D.box 0 rfl).cell rfl,?_⟩;rw[wrap_small ((k:Int)+1) (by omega) (by omega)];have e5:(k:Int)*p.2.2=((k*w:Nat):Int):=by rw[N,wz]
   have e6:((k:Int)+1)*p.2.2=(((k+1)*w:Nat):Int):=by rw[N,wz];rfl
   rw[e5,e6,ug _ (by omega),ug _ (by omega),qp,qp];refine⟨⟨zT _,yD.2 m2,yD.2 (by omega)⟩,?_⟩;refine D.push ae 1 rfl fq rfl (by decide) (fun _=>rfl) me (Na data w k) rfl (by decide) (by simp;omega) fun t' V H6=>?_;refine⟨(t',k+1),rfl,⟨by dsimp only;omega,?_⟩,by dsimp only;omega⟩;dsimp only;rw[zF,qQ,<-qo];exact H6
  ·have T:k=K:=by omega
   subst T;refine ba ?_;have E:gg W t 1 aC (ji k u w d):=by
    refine⟨rs++(qC k).map (Na data w),D.seq 1 rfl (fun _=>rfl),by rw[FZ];simp;omega,fun i r l n q=>?_⟩;by_cases G:i<u
    ·rw[qn (by omega),qd (by omega)]at n;rw[ji,qn (by simpa using G)]at q;have hz:l=aK w:=by simp[G]at q;exact q.symm
     have hr:rs[i]'(by omega)=r:=zJ.inj n;have g:(au a aT [vL vR p.1,vL vR p.2.1,vL vR p.2.2]::an aF t 1 bI (rs++(qC k).map (Na data w))::own)[i+2]?=some (an aD (rs[i]'(by omega)) 1 aC ((qh u (aK w))[i]'(by simpa using G))):=jU (by simpa using J) i (by simpa using G);have:=D.seq (i+2) g (fun _=>rfl);rw[List.getElem_replicate,hr]at this;rw[hz];exact this
    ·obtain⟨j,rfl⟩:∃j,i=u+j:=⟨i-u,by omega⟩
     rw[qj (by omega),J,zk]at n;rw[ji,qj (by simp),yx,zk]at q;have hj:j<k:=by
      have:=(qm.1 n).1;simpa using this
     simp[hj]at n q;have m1:(j+1)*w<=k*w:=zG w hj;rw[<-n,<-q];exact(Seq.up hd D.ai).piece hc w j (by omega)
   have c:=D.box 0 rfl;refine⟨p,c.aQ _ rfl,p,c.aQ _ rfl,(uC W).mono ?_⟩;rintro v V ⟨f,rfl,R6⟩;have o:=c.ai R6.ai c.lt;refine⟨some f,rfl,⟨o.cell0 rfl,o.cell rfl,o.cell rfl,o.cell0 rfl,o.cell rfl,o.cell rfl,trivial⟩,(Mh p V).mono ?_⟩;rintro v h7 ⟨r7,rfl,R7⟩;have Q7:=R6.comp R7;have I:=c.ai Q7.ai c.lt;refine⟨r7,rfl,⟨I.cell0 rfl,I.cell rfl,I.cell rfl,trivial⟩,?_⟩;refine(Jg p seed r7 (eC p) h7 (Q7.seq 1 rfl (fun _=>rfl)) (by rw[eC,gi];omega)).mono ?_;rintro v h8 ⟨r8,rfl,R8⟩;have S:=Q7.comp R8;refine⟨r8,rfl,trivial,?_⟩;refine(Yh f r8 t _ _ (k+u) w h8 (S.box 0 rfl) (S.IH 2 rfl) (E.up S.ai) B.FY (by rw[FZ]) B.Ih (uk B.len) (by omega) (by omega) B.Ni).mono ?_;rintro v h9 ⟨r9,rfl,R9⟩;have Q9:=S.comp R9;refine⟨(r9,0),rfl,trivial,?_⟩;refine bQ (fun e=>absurd rfl e) fun _=>?_;have ad:=c.ai Q9.ai c.lt;refine⟨p,ad.aQ _ rfl,?_⟩;refine Q9.boxed (t:=fV) fun b ay Z=>?_;refine⟨fun _=>⟨b,r9,rfl,?_⟩,fun e=>absurd y e⟩;have Q:=(Sp.zip D.ai).comp Z;rw[<-B.En]at Q;exact Q.take 3 (fun i A G=>by
    cases i with
    |zero=>exact G
    |succ i=>cases i with
     |zero=>exact G
     |succ i=>simp at G)
def Om(h:Heap)(b:Addr)(p:Pm)(seed:Int)(M:aR):Prop:=∃m:Sl,cw h b fV (Ki p seed m)/\gg h m 1 aC M
theorem Om.up{h h':Heap}{b:Addr}{p:Pm}{seed:Int}{M:aR}(e:Om h b p seed M)(c:aU (fun b=>b<h.size) h h'):Om h' b p seed M:=by
 obtain⟨m,a,d⟩:=e;exact⟨m,a.ai c a.lt,d.up c⟩
theorem VD{a t:Row}(b:a.length=t.length){k:Nat}(d:k<t.length):(zj (fun x y=>y^^^Gf.mul 1 x) (a.take k) (t.take k)++t.drop k).set k (t[k]^^^(a[k]'(by omega)))=zj (fun x y=>y^^^Gf.mul 1 x) (a.take (k+1)) (t.take (k+1))++t.drop (k+1):=by
 have:=xD (c:=1) b d;rw[Gf.one_mul]at this;exact this
theorem afJ{a t:Row}(c:a.length=t.length){k:Nat}(b:k<t.length):(zj (fun x y=>y^^^Gf.mul 1 x) (a.take k) (t.take k)++t.drop k)[k]?=some t[k]:=by
 have d:(zj (fun x y=>y^^^Gf.mul 1 x) (a.take k) (t.take k)).length=k:=by simp;omega
 rw[qj (by omega),d,zf,wq,yl,qd b]
theorem VE(b:Addr)(p:Pm)(seed id:Int)(M:aR)(n w:Nat)(h:Heap)(hb:Om h b p seed M)(L:bM p=true)(Y:p.2.2=w)(Z:(bX p).toNat=n)(T:be w M)(hl:M.length=n):
  ac vV nM #[vN (some b),vL vR id] h fun v h'=>∃r:Sl,v=vM r.ptr r.len r.cap/\Sp h h' [an aD r 1 aC (if bR id then fl w M (cV n seed id)else[])]:=by
 obtain⟨m,f,N⟩:=hb;have ab:=N.len;have ax:=(bU p).1 L;have hc:bX p=p.1+p.2.1:=by rw[bX,if_pos L]
 refine xX (some b) id ?_;unfold oF;have X:bR id=false->∃r:Sl,Value.slice none 0 0=vM r.ptr r.len r.cap/\Sp h h [an aD r 1 aC (if bR id then fl w M (cV n seed id)else[])]:=fun e=>by
  rw[e];exact⟨⟨none,0,0⟩,rfl,(Sp.refl h).nil aD 1 aC⟩
 refine ba (bA (fun e=>by cases e) fun _=>ak (fun e=>X (by simp[bR];omega)) fun e1=>ak (fun e=>X (by simp[bR];omega)) fun W=>?_);have hid:bR id=true:=by simp[bR];omega
 refine⟨b,rfl,p.2.2,f.cell rfl,?_⟩;refine(Sp.refl h).make ae aC fP (by decide) 0 rfl rfl w w Y Y (ql _) (by omega) fun o h1 ap ay V=>?_;have D:=f.ai V.ai f.lt;refine⟨b,rfl,p,D.aQ _ rfl,b,rfl,seed,D.cell rfl,(AN p seed id h1).mono ?_⟩;rintro v h2 ⟨c,rfl,Q⟩;rw[L,hid,vG,if_pos rfl,Z]at Q;rw[hid,if_pos rfl];have G:=V.comp Q;obtain⟨d,q⟩:∃d,d=cV n seed id:=⟨_,rfl⟩
 have z:∀x∈d,0<=x/\x<(n:Int):=fun x P=>mg (by omega) (by omega) (by rw[<-q];exact P);have U:d.length<=n:=by rw[q];exact Ak (by omega) (by omega) _ _
 rw[<-q]at G⊢;have a1:=(G.seq 1 rfl (fun _=>rfl)).len;refine⟨c,rfl,trivial,?_⟩;refine av (fun i:Nat=>(i:Int)) (fun i h'=>i<=d.length/\Sp h h' [an aD o 1 aC (fl w M (d.take i)),an aS c 1 aE d]) (fun i=>d.length-i) 0 rfl ⟨by omega,G⟩ ?_;rintro i h3 ⟨E,j⟩;refine ak (fun e=>?_) (fun e=>?_)
 ·have l:i<d.length:=by omega
  have P:=z _ (qg l);refine(j.seq 1 rfl (fun _=>rfl)).bv i rfl l _ rfl ?_;have H:=f.ai j.ai f.lt;refine⟨b,rfl,m,H.cell rfl,?_⟩;obtain⟨ad,R⟩:=N;refine(R.ai j.ai).get d[i].toNat (by omega) (by omega) fun r O F=>?_;have s:=R.row _ r _ F (qd (show d[i].toNat<M.length by omega));obtain⟨row,g⟩:∃row,row=M[d[i].toNat]'(by omega):=⟨_,rfl⟩
  have a0:row.length=w:=by rw[g];exact T _ (qg _)
  rw[<-g]at O s;obtain⟨S,I⟩:∃S,S=fl w M (d.take i):=⟨_,rfl⟩
  have ao:S.length=w:=by rw[I];exact pi T hl z i E
  have ah:=O.len;have W:fl w M (d.take (i+1))=cW 1 row S:=by rw[aH _ _ l,Du,I,g,bt (by omega)]
  rw[<-I]at j;refine av (fun k:Nat=>(k:Int)) (fun k h'=>k<=w/\Sp h h' [an aD o 1 aC (zj (fun x y=>y^^^Gf.mul 1 x) (row.take k) (S.take k)++S.drop k),an aS c 1 aE d]) (fun k=>w-k) 0 rfl ⟨by omega,by simpa using j⟩ ?_;rintro k h4 ⟨hk,B⟩;have K:=s.ai B.ai;have a2:(zj (fun x y=>y^^^Gf.mul 1 x) (row.take k) (S.take k)++S.drop k).length=w:=by simp;omega
  refine ak (fun e3=>?_) (fun e3=>?_)
  ·have am:k<w:=by omega
   have u:(zj (fun x y=>y^^^Gf.mul 1 x) (row.take k) (S.take k)++S.drop k)[k]'(by omega)=S[k]'(by omega):=by
    have:=afJ (a:=row) (t:=S) (by omega) (show k<S.length by omega);rw[qd (by omega)]at this;exact zJ.inj this
   refine K.bv k rfl (by omega) _ rfl ?_;refine(B.seq 0 rfl (fun _=>rfl)).bv k rfl (by omega) _ rfl ?_;rw[u,pN];refine B.set ae 0 rfl (fun _=>rfl) rfl k rfl (by omega) _ rfl rfl rfl fun h5 H5=>?_;refine⟨k+1,by rw[wrap_small _ (by omega) (by omega)];rfl,⟨by omega,?_⟩,by omega⟩;rw[<-VD (by omega) (show k<S.length by omega)];exact H5
  ·have J:k=w:=by omega
   subst J;rw[qi (by omega),qi (by omega),q9 (by omega),qP]at B;refine⟨i+1,by rw[wrap_small _ (by omega) (by omega)];rfl,⟨by omega,?_⟩,by omega⟩;rw[W];exact B
 ·rw[qi (by omega)]at j;exact⟨o,rfl,j.take 0 (fun i A E=>by cases i with|zero=>exact E|succ i=>simp at E)⟩
theorem _root_.Wl.bT.ol{p:Pm}{seed:Int}{d:Row}{K H w n:Nat}(B:bT p seed d K H w n):ol p seed d.length=0:=by
 rw[Go.Proofs.YtdhamoojccmbdaaGreatDoor.ol,B.may,B.full,B.len,B.k,B.s,decide_eq_true (by rw[wz])];rfl
theorem afK{p:Pm}{seed:Int}{d:Row}{K H w n:Nat}(B:bT p seed d K H w n)(data:Sl)(h:Heap)(e:Rd h data 1 aC d)(a:data.len<=data.cap):
  ac vV ED #[kB p,vL vT seed,vM data.ptr data.len data.cap] h fun v h'=>
   ∃(b:Addr) (m:Sl),v=.tuple #[vN (some b),vL vR 0]/\Sp h h' [fI aF m 1 aC (eE p seed d),au b fV (Ki p seed m)]:=
 (acG p seed data d h e a).mono fun _ _ c=>c.1 B.ol
theorem _root_.Wl.bT.symbol{p:Pm}{seed:Int}{d:Row}{K H w n:Nat}(B:bT p seed d K H w n)(b:Addr)(id:Int)(h:Heap)(a:Om h b p seed (eE p seed d)):
  ac vV nM #[vN (some b),vL vR id] h fun v h'=>∃r:Sl,v=vM r.ptr r.len r.cap/\Sp h h' [an aD r 1 aC (if bR id then fl w (eE p seed d) (cV n seed id)else[])]:=
 VE b p seed id _ n w h a B.may B.s B.pj B.sw.2 B.sw.1
def CT(s:Eo):List Value:=[.complex .f64 s.ax s.ay,.complex .f64 s.sx s.sy,vL vR s.left,vL vR s.leg,vP s.second]
theorem oQ{o:Option Nat}(h:o.isSome=true):o=some (o.getD 0):=by
 cases o with
 |none=>cases h
 |some x=>rfl
theorem Yi(h:Heap):ac vV NT #[] h fun v h'=>∃a:Addr,v=vN (some a)/\Sp h h' [au a fp (CT fs0)]:=by
 refine LK ?_;unfold ER;refine(Sp.refl h).boxed (t:=fp) fun a c b=>?_;exact⟨a,rfl,b⟩
theorem aaG(a b:Nat)(h:Heap)(f:(gm.mul a 0).isSome=true)(g:(gm.mul b pk).isSome=true)(h3:(gm.sub (tz a 0) (tz b pk)).isSome=true)(j:(gm.mul a pk).isSome=true)(i:(gm.mul b 0).isSome=true)(c:(gm.add (tz a pk) (tz b 0)).isSome=true):
  ac vV Qx #[.complex .f64 a b,vL vR 1] h fun v h'=>v=.complex .f64 (tx a b) (ty a b)/\h'=h:=by
 refine NZ (a,b) 1 ?_;unfold GZ;refine⟨by decide,by decide,?_⟩;refine av (fun k:Nat=>(if k=0 then(a,b)else(tx a b,ty a b),(k:Int))) (fun k h'=>k<=1/\h'=h) (fun k=>1-k) 0 rfl ⟨by omega,rfl⟩ ?_;rintro k h' ⟨l,rfl⟩;have d:zW (qc vR (zW 1 4+4)) 4=1:=by decide
 dsimp only;rw[d];refine ak (fun e=>?_) (fun e=>?_)
 ·have:k=0:=by omega
  subst this;refine⟨(tx a b,ty a b),aem (oQ f) (oQ g) (oQ h3) (oQ j) (oQ i) (oQ c),?_⟩;exact⟨1,rfl,⟨by omega,rfl⟩,by omega⟩
 ·have:k=1:=by omega
  subst this;exact⟨rfl,rfl⟩
theorem acH(a:Addr)(s:Eo)(h:Heap)(g:cw h a fp (CT s))(c:s.ok=true):ac vV GP #[vN (some a)] h fun v h'=>v=.tuple #[]/\cw h' a fp (CT s.on)/\aU (fun b=>b≠a.block) h h':=by
 simp only[Eo.ok,qy,decide_eq_true_eq]at c;obtain⟨⟨⟨⟨⟨⟨⟨⟨⟨⟨⟨w,A⟩,D⟩,I⟩,J⟩,x⟩,G⟩,t⟩,Q⟩,E⟩,F⟩,B⟩:=c;refine Ft (some a) ?_;unfold ub;have u:aa (fun b=>b<h.size/\¬b=a.block) h h [au a fp (CT s)]:=.Ze (fun b=>b=a.block) (fun b l=>by rw[l];exact g.lt) ⟨g,rfl⟩;have fin:∀{h':Heap},aa (fun b=>b<h.size/\¬b=a.block) h h' [au a fp (CT s.on)]->Value.tuple #[]=.tuple #[]/\cw h' a fp (CT s.on)/\aU (fun b=>b≠a.block) h h':=fun H=>
  ⟨rfl,H.box 0 rfl,H.ai.1,fun k p m=>H.ai.2 k p ⟨p,m⟩⟩
 refine⟨a,rfl,(s.ax,s.ay),g.cell0 rfl,a,rfl,(s.sx,s.sy),g.cell rfl,(od s.ax s.sx,od s.ay s.sy),aek (oQ w) (oQ A),a,rfl,?_⟩;refine u.jD ae 0 rfl rfl [.complex .f64 (od s.ax s.sx) (od s.ay s.sy)] rfl rfl rfl (by simp[CT]) fun P r=>⟨trivial,?_⟩
 refine⟨a,rfl,s.left,(r.box 0 rfl).cell (j:=2) rfl,a,rfl,?_⟩;rw[Go.Vc.wrap_small (s.left-1) (by omega) (by omega)];refine r.storeAt ae 0 rfl rfl (off:=2) rfl rfl rfl (by simp[CT]) fun y d=>?_;refine⟨a,rfl,s.left-1,(d.box 0 rfl).cell (j:=2) rfl,?_⟩;refine ak (fun e=>?_) (fun e=>?_)
 ·have i:CT s.on=[.complex .f64 (od s.ax s.sx) (od s.ay s.sy),.complex .f64 s.sx s.sy,vL vR (s.left-1),vL vR s.leg,vP s.second]:=by rw[Eo.on,if_pos e];rfl
  refine fin ?_;rw[i];exact d
 ·refine⟨a,rfl,(s.sx,s.sy),(d.box 0 rfl).cell (j:=1) rfl,(aaG s.sx s.sy y D I J x G t).mono ?_⟩;rintro v h3 ⟨rfl,rfl⟩;refine⟨(tx s.sx s.sy,ty s.sx s.sy),rfl,a,rfl,?_⟩;refine d.storeAt ae 0 rfl rfl (off:=1) rfl rfl rfl (by simp[CT]) fun M f=>?_;refine cl (fun _ h'=>aa (fun b=>b<h.size/\¬b=a.block) h h' [au a fp [.complex .f64 (od s.ax s.sx) (od s.ay s.sy),.complex .f64 (tx s.sx s.sy) (ty s.sx s.sy),vL vR (s.left-1),vL vR (if s.second then s.leg+1 else s.leg),vP s.second]]) ?_ ?_
  ·refine⟨a,rfl,s.second,(f.box 0 rfl).cell (j:=4) rfl,bA (fun n=>?_) (fun n=>?_)⟩
   ·refine⟨a,rfl,s.leg,(f.box 0 rfl).cell (j:=3) rfl,a,rfl,?_⟩;rw[Go.Vc.wrap_small (s.leg+1) (by omega) (by omega)];refine f.storeAt ae 0 rfl rfl (off:=3) rfl rfl rfl (by simp[CT]) fun O z=>?_;rw[if_pos n];exact z
   ·rw[if_neg (by rw[n];decide)];exact f
  ·rintro _ N q;refine⟨a,rfl,s.second,(q.box 0 rfl).cell (j:=4) rfl,a,rfl,?_⟩;refine q.storeAt ae 0 rfl rfl (off:=4) rfl rfl rfl (by simp) fun L o=>?_;refine⟨a,rfl,_,(o.box 0 rfl).cell (j:=3) rfl,a,rfl,?_⟩;refine o.storeAt ae 0 rfl rfl (off:=2) rfl rfl rfl (by simp) fun h8 K=>?_;have i:CT s.on=[.complex .f64 (od s.ax s.sx) (od s.ay s.sy),.complex .f64 (tx s.sx s.sy) (ty s.sx s.sy),vL vR (if s.second then s.leg+1 else s.leg),vL vR (if s.second then s.leg+1 else s.leg),vP (!s.second)]:=by rw[Eo.on,if_neg e];rfl
   refine fin ?_;rw[i];exact K
theorem WA(n:Nat)(h:Heap)(j:n<64):ac vV US #[vL vR n] h fun v h'=>v=.complex .f64 (kf n).ax (kf n).ay/\Sp h h' []:=by
 refine SD n ?_;unfold Ly;refine ak (fun e=>by omega) fun _=>ak (fun e=>by omega) fun _=>?_;refine(Yi h).mono ?_;rintro v l ⟨a,rfl,g⟩;refine⟨some a,rfl,?_⟩;refine av (fun k:Nat=>(k:Int)) (fun k h'=>k<=n/\Sp h h' [au a fp (CT (kf k))]) (fun k=>n-k) 0 rfl ⟨by omega,g⟩ ?_;rintro k f ⟨i,b⟩;refine cx (fun e=>?_) (fun e=>?_)
 ·have:k=n:=by omega
  subst this;exact⟨a,rfl,((kf k).ax,(kf k).ay),(b.box 0 rfl).cell0 rfl,rfl,.zip b.ai⟩
 ·refine(acH a (kf k) f (b.box 0 rfl) (agr k (by omega))).mono ?_;rintro v h3 ⟨rfl,c,d⟩;refine⟨(),rfl,k+1,by rw[Go.Vc.wrap_small _ (by omega) (by omega)];rfl,⟨by omega,b.BU 0 rfl d c⟩,by omega⟩
theorem Pt{a b:Int}(c:-4<=a)(d:a<=4)(h3:-4<=b)(e:b<=4):gm.sub (cL a) (cL b)=some (cL (a-b)):=by
 have:=afq (a+4).toNat (by omega) (b+4).toNat (by omega);rw[show((a+4).toNat:Int)-4=a by omega,show((b+4).toNat:Int)-4=b by omega,show((a+4).toNat:Int)-((b+4).toNat:Int)=a-b by omega]at this;exact this
theorem Pu{a:Int}(c:-8<=a)(b:a<=8):gm.mul (cL a) (cL a)=some (cL (a*a)):=by
 have:=afr (a+8).toNat (by omega);rw[show((a+8).toNat:Int)-8=a by omega]at this;exact this
theorem Tu(a:Int):((a.natAbs:Nat):Int)*(a.natAbs:Nat)=a*a:=Int.natAbs_mul_self
theorem aaH{a b:Int}(c:-8<=a)(d:a<=8)(h3:-8<=b)(e:b<=8):gm.add (cL (a*a)) (cL (b*b))=some (cL (a*a+b*b)):=by
 have:=afs a.natAbs (by omega) b.natAbs (by omega);rw[Tu,Tu]at this;exact this
def Hs(i j:Nat):Int:=((fx i).x-(fx j).x)*((fx i).x-(fx j).x)+((fx i).y-(fx j).y)*((fx i).y-(fx j).y)
theorem adM{a:Int}(c:-8<=a)(b:a<=8):0<=a*a/\a*a<=64:=by
 rw[<-Tu,<-wz];have:a.natAbs*a.natAbs<=8*8:=wb (by omega) (by omega);omega
theorem AP{n:Nat}(h:n<64):(kf n).ax=cL (fx n).x/\(kf n).ay=cL (fx n).y/\-4<=(fx n).x/\(fx n).x<=4/\-4<=(fx n).y/\(fx n).y<=4:=by
 have:=afp n h;simp only[qy,decide_eq_true_eq,beq_iff_eq]at this;obtain⟨⟨⟨⟨⟨a,b⟩,c⟩,d⟩,e⟩,f⟩:=this;exact⟨a,b,c,d,e,f⟩
theorem aaI{i j:Nat}(c:i<64)(d:j<64):0<=Hs i j/\Hs i j<=128:=by
 have a:=AP c;have b:=AP d;have e:=adM (a:=(fx i).x-(fx j).x) (by omega) (by omega);have f:=adM (a:=(fx i).y-(fx j).y) (by omega) (by omega);unfold Hs;omega
theorem acI(i j:Nat)(h:Heap)(e:i<64)(f:j<64):ac vV SE #[.complex .f64 (kf i).ax (kf i).ay,.complex .f64 (kf j).ax (kf j).ay] h fun v h'=>v=.float .f64 (cL (Hs i j))/\h'=h:=by
 have a:=AP e;have b:=AP f;refine Qj ((kf i).ax,(kf i).ay) ((kf j).ax,(kf j).ay) ?_;unfold IW;have c:gm.sub (kf i).ax (kf j).ax=some (cL ((fx i).x-(fx j).x)):=by rw[a.1,b.1];exact Pt (by omega) (by omega) (by omega) (by omega)
 have d:gm.sub (kf i).ay (kf j).ay=some (cL ((fx i).y-(fx j).y)):=by rw[a.2.1,b.2.1];exact Pt (by omega) (by omega) (by omega) (by omega)
 refine⟨(cL ((fx i).x-(fx j).x),cL ((fx i).y-(fx j).y)),ael c d,_,Pu (by omega) (by omega),_,Pu (by omega) (by omega),_,aaH (by omega) (by omega) (by omega) (by omega),rfl,rfl⟩
abbrev adN:bN C.toBR oe aS 1 [vL vR 0] 8:=⟨_,_,rfl,rfl,rfl,rfl,rfl,rfl⟩
def mH(a b:Int):Int:=if a<b then-1 else if a>b then 1 else 0
theorem Tv(m:Nat)(h:Heap)(a:m<129):ac vV DS #[.float .f64 (cL (m:Nat))] h fun v h'=>v=vP false/\h'=h:=by
 refine CB _ ?_;unfold ri;have:=ZK m a m a;rw[show(FloatKind.format .f64).order (cL (m:Nat)) (cL (m:Nat))=some (compare m m)from this,Nat.compare_eq_eq.2 rfl];exact⟨rfl,rfl⟩
theorem aaJ(m n:Nat)(h:Heap)(b:m<129)(c:n<129):ac vV By #[.float .f64 (cL (m:Nat)),.float .f64 (cL (n:Nat))] h fun v h'=>v=vL vR (mH m n)/\h'=h:=by
 refine zU _ _ ?_;unfold oI;refine(Tv m h b).mono ?_;rintro v a ⟨rfl,rfl⟩;refine⟨_,rfl,(Tv n a c).mono ?_⟩;rintro v f ⟨rfl,rfl⟩;refine⟨_,rfl,bA (fun e=>by cases e) fun _=>bA (fun e=>by cases e) fun _=>?_⟩;have d:(FloatKind.format .f64).order (cL (m:Nat)) (cL (n:Nat))=some (compare m n):=ZK m b n c;rw[d];rcases yd m n with a|a|a
 ·rw[Nat.compare_eq_lt.2 a];refine bA (fun _=>⟨by rw[mH,if_pos (by omega)],rfl⟩) (fun e=>by cases e)
 ·subst a;rw[Nat.compare_eq_eq.2 rfl];refine bA (fun e=>by cases e) fun _=>bA (fun e=>by cases e) fun _=>⟨by rw[mH,if_neg (by omega),if_neg (by omega)],rfl⟩
 ·rw[Nat.compare_eq_gt.2 a];refine bA (fun e=>by cases e) fun _=>bA (fun _=>⟨by rw[mH,if_neg (by omega),if_pos (by omega)],rfl⟩) (fun e=>by cases e)
theorem Pv(m:Int)(h:Heap):ac vV xt #[vL vR m] h fun v h'=>v=vP false/\h'=h:=by
 refine uc _ ?_;unfold pF;exact⟨by simp,rfl⟩
theorem aaK(m n:Int)(h:Heap):ac vV sU #[vL vR m,vL vR n] h fun v h'=>v=vL vR (mH m n)/\h'=h:=by
 refine rg _ _ ?_;unfold np;refine(Pv m h).mono ?_;rintro v b ⟨rfl,rfl⟩;refine⟨_,rfl,(Pv n b).mono ?_⟩;rintro v c ⟨rfl,rfl⟩;refine⟨_,rfl,bA (fun e=>by cases e) fun _=>bA (fun e=>by cases e) fun _=>?_⟩;refine ak (fun e=>⟨by rw[mH,if_pos e],rfl⟩) fun e=>ak (fun a=>⟨by rw[mH,if_neg e,if_pos a],rfl⟩) fun a=>⟨by rw[mH,if_neg e,if_neg a],rfl⟩
def WB(a b:Int):Int:=if a≠0 then a else b
theorem aeD(s:Sl)(a b:Int)(h:Heap)(f:Rd h s 1 aE [a,b]):ac vV Qk #[vM s.ptr s.len s.cap] h fun v h'=>v=vL vR (WB a b)/\h'=h:=by
 refine Cv s ?_;unfold xp;have m:s.len=2:=f.len;refine av (fun k:Nat=>(k:Int)) (fun k h'=>h'=h/\k<=2/\(1<=k->a=0)/\(2<=k->b=0)) (fun k=>2-k) 0 rfl ⟨rfl,by omega,by omega,by omega⟩ ?_;rintro k h' ⟨rfl,l,g,i⟩;refine ak (fun e=>?_) (fun e=>?_)
 ·rcases(show k=0∨k=1 by omega)with rfl|rfl
  ·refine f.bv 0 rfl (by simp) a rfl ?_;refine bQ (fun c=>⟨by rw[WB,if_pos c],rfl⟩) (fun c=>?_);exact⟨1,rfl,⟨rfl,by omega,fun _=>c,by omega⟩,by omega⟩
  ·refine f.bv 1 rfl (by simp) b rfl ?_;have d:=g (by omega);refine bQ (fun c=>⟨by rw[WB,if_neg (by simp[d])],rfl⟩) (fun c=>?_);exact⟨2,rfl,⟨rfl,by omega,fun _=>d,fun _=>c⟩,by omega⟩
 ·have d:=g (by omega);have j:=i (by omega);exact⟨by rw[WB,if_neg (by simp[d]),j],rfl⟩
abbrev Fr:=Int×Fin 129
def xE(x:Fr):List Value:=[vL vR x.1,.float .f64 (cL ((x.2:Nat):Int))]
def xF(x y:Fr):Int:=WB (mH (x.2:Nat) (y.2:Nat)) (mH x.1 y.1)
theorem Tw(x y:Fr)(h:Heap):ac vV kW #[vQ (xE x).toArray,vQ (xE y).toArray] h fun v h'=>v=vL vR (xF x y)/\aU (fun b=>b<h.size) h h':=by
 refine It (x.1,cL ((x.2:Nat):Int)) (y.1,cL ((y.2:Nat):Int)) ?_;unfold AF;refine(Sp.refl h).boxed (t:=iU) fun a l g=>?_;refine g.boxed (t:=iU) fun b e c=>?_;refine⟨_,(c.box 0 rfl).cell (j:=1) rfl,_,(c.box 1 rfl).cell (j:=1) rfl,_,(c.box 0 rfl).cell0 rfl,_,(c.box 1 rfl).cell0 rfl,?_⟩;refine(aaJ x.2 y.2 e x.2.isLt y.2.isLt).mono ?_;rintro v h3 ⟨rfl,rfl⟩;refine⟨_,rfl,⟨(c.box 1 rfl).cell0 rfl,(c.box 0 rfl).cell0 rfl,trivial⟩,(aaK _ _ h3).mono ?_⟩;rintro v i ⟨rfl,rfl⟩;refine⟨_,rfl,trivial,?_⟩;refine c.lit ae aE adN rfl [mH (x.2:Nat) (y.2:Nat),mH x.1 y.1] rfl (show 2*1<=2^20 by decide) rfl fun s f d=>⟨trivial,?_⟩
 refine(aeD s _ _ f (d.seq 2 rfl (fun _=>rfl))).mono ?_;rintro v k ⟨rfl,rfl⟩;exact⟨_,rfl,trivial,rfl,d.ai⟩
theorem WC{a b:Int}:mH a b<0↔a<b:=by unfold mH;split<;>(try split)<;>omega
theorem Pw{a b:Int}:mH a b=0↔a=b:=by unfold mH;split<;>(try split)<;>omega
theorem adO{x y:Fr}:ltOf xF x y=true↔((x.2:Nat):Int)<(y.2:Nat)∨(((x.2:Nat):Int)=(y.2:Nat)/\x.1<y.1):=by
 have h0:ltOf xF x y=true↔xF x y<0:=by simp[ltOf]
 rw[h0,xF,WB];by_cases h:mH (x.2:Nat) (y.2:Nat)=0
 ·rw[if_neg (by simp[h]),WC];have:=Pw.1 h;constructor
  ·exact fun a=>.inr ⟨this,a⟩
  ·rintro(a|a)
   ·omega
   ·exact a.2
 ·rw[if_pos h,WC];have b:((x.2:Nat):Int)≠(y.2:Nat):=fun e=>h (Pw.2 e);constructor
  ·exact .inl
  ·rintro(a|a)
   ·exact a
   ·exact absurd a.1 b
theorem Ht{x y:Fr}:ltOf xF x y=false↔¬(((x.2:Nat):Int)<(y.2:Nat)∨(((x.2:Nat):Int)=(y.2:Nat)/\x.1<y.1)):=by
 rw[<-adO];simp
theorem afL:Sort.SWO (ltOf xF) where
 irrefl x:=Ht.2 (by omega)
 trans x y z h1 h2:=by rw[adO]at*;omega
 ntrans x y z h1 h2:=by rw[Ht]at*;omega
theorem afM(x y:Fr)(b:ltOf xF x y=false)(a:ltOf xF y x=false):x=y:=by
 rw[Ht]at b a;refine yL (by omega) (Fin.ext (by omega))
theorem Tx{e:TypeId}{s:Sl}{l:List Fr}{h:Heap}(n:Own h e s 2 xE l)(a:l.length<2^40):
  ac vV gQ #[vM s.ptr s.len s.cap,.func (.func kW) #[] #[]] h fun v h'=>v=.tuple #[]/\Own h' e s 2 xE (l.mergeSort fun x y=>!(ltOf xF) y x)/\aU (fun b=>¬s.on b) h h':=by
 have f:∀x:Fr,(xE x).length=2:=fun _=>rfl;refine PM (P:=vV) (id_:=gQ) (g:=kW) (enc:=xE) (k:=2) (cf:=xF) f ?_ ?_ (fun x y h=>Tw x y h) n a
 ·intro fh cap l w m i j d;have:=AnyQ.slices_SortFunc_total Tryz.Wv 2 Tryz.afx Tryz.aes xE (fun _=>rfl) (fun x v c=>by simp[xE]at c;rcases c with rfl|rfl<;>rfl) xF afL kW #[] fh 0 cap l.toArray w (enters_of Tryz.aet (by kernel_rfl) rfl) (by simpa using m) i j (by simpa using d) afM;simp at this;exact this
 ·intro p cap w;exact AnyF.slices_SortFunc_none Tryz.Wv p cap _ w
def xG(a:List Int)(n:Int):List Int:=if 0<=n/\n<64/\a.contains n=false then a++[n]else a
def gO(l:List Int):List Int:=l.foldl xG []
theorem AQ(l:List Int){k:Nat}(a:k<l.length):gO (l.take (k+1))=xG (gO (l.take k)) l[k]:=by
 rw[gO,aH _ _ a,wE];rfl
theorem Tz(l:List Int):∀k,k<=l.length->∀x,x∈gO (l.take k)↔x∈l.take k/\0<=x/\x<64
 |0,_,x=>by simp[gO]
 |k+1,hk,x=>by
  have c:=Tz l k (by omega);rw[AQ l (by omega),aH _ _ (show k<l.length by omega),xG];by_cases h:0<=l[k]/\l[k]<64/\(gO (l.take k)).contains l[k]=false
  ·rw[if_pos h,qE,qE,qG,c x];constructor
   ·rintro(a|rfl)
    ·exact⟨.inl a.1,a.2⟩
    ·exact⟨.inr rfl,h.1,h.2.1⟩
   ·rintro⟨a|a,b⟩
    ·exact .inl ⟨a,b⟩
    ·exact .inr a
  ·rw[if_neg h,qE,qG,c x];constructor
   ·rintro a;exact⟨.inl a.1,a.2⟩
   ·rintro⟨a|rfl,b⟩
    ·exact⟨a,b⟩
    ·have:(gO (l.take k)).contains l[k]=true:=by
      cases hc:(gO (l.take k)).contains l[k]with
      |true=>rfl
      |false=>exact absurd ⟨b.1,b.2,hc⟩ h
     exact(c _).1 (by simpa using this)
theorem Mo(l:List Int):∀k,k<=l.length->(gO (l.take k)).Nodup
 |0,_=>by simp[gO]
 |k+1,hk=>by
  have c:=Mo l k (by omega);rw[AQ l (by omega),xG];split
  ·rename_i h;rw[List.nodup_append];refine⟨c,by simp,fun a e b d=>?_⟩;rw[qG.1 d];rintro rfl;have:=h.2.2;rw[List.contains_eq_mem]at this;simp[e]at this
  ·exact c
theorem acJ(l:List Int)(k:Nat):(gO (l.take k)).length<=k:=by
 induction k with
 |zero=>simp[gO]
 |succ k ih=>
  by_cases a:k<l.length
  ·rw[AQ l a,xG];split
   ·simp;omega
   ·omega
  ·rw[qi (by omega)]at ih⊢;omega
def DZ(c:Nat)(n:Int):Fr:=(n,Fin.ofNat 129 (Hs n.toNat c).toNat)
theorem afN{c:Nat}{n:Int}(a:c<64)(b:0<=n)(d:n<64):(((DZ c n).2:Nat):Int)=Hs n.toNat c:=by
 have:=aaI (i:=n.toNat) (j:=c) (by omega) a;show(((Hs n.toNat c).toNat%129:Nat):Int)=_;omega
def tf(c:Nat)(l:List Int):List Int:=(((gO l).map (DZ c)).mergeSort fun x y=>!(ltOf xF) y x).map (·.1)
def gT(a block:Int)(l:List Int):List Int:=if 0<=a/\a<=16777215/\0<=block/\block<8 then tf ((8*a+block)%64).toNat l else[]
def sj(a:List Int):List Value:=(qC 64).map fun i:Nat=>vP (a.contains (i:Int))
theorem aeE(a:List Int){n:Int}(c:0<=n)(b:n<64):(sj a)[n.toNat]?=some (vP (a.contains n)):=by
 rw[sj,qN,zo (by omega),qO,show((n.toNat:Nat):Int)=n by omega]
theorem acK(a:List Int){n:Int}(c:0<=n)(d:n<64):(sj a).set n.toNat (vP true)=sj (a++[n]):=by
 apply zH;intro i;rw[qZ,sj,sj,qN,qN,qw,zt];by_cases b:i<64
 ·rw[zo b,qO,qO];by_cases h:n.toNat=i
  ·rw[if_pos h,if_pos (by omega),show((i:Nat):Int)=n by omega];simp
  ·rw[if_neg h];have:(a++[n]).contains (i:Int)=a.contains (i:Int):=by
    rw[List.contains_eq_mem,List.contains_eq_mem];simp;omega
   rw[this]
 ·rw[if_neg (by omega),ze (by simp;omega)];rfl
abbrev eFr:bN C.toBR Np iU 2 [vL vR 0,.float .f64 0] 16:=⟨_,_,rfl,rfl,rfl,rfl,rfl,rfl⟩
theorem afO:∀x,∀c∈xE x,c.oneCell'=true:=by
 intro x c a;simp[xE]at a;rcases a with rfl|rfl<;>rfl
theorem VF(b block:Int)(live:Sl)(l:List Int)(h:Heap)(V:Rd h live 1 aE l)(W:l.length<=2^30):
  ac vV NA #[vL vR b,vL vR block,vM live.ptr live.len live.cap] h fun v h'=>∃r:Sl,v=vM r.ptr r.len r.cap/\Sp h h' [an aS r 1 aE (gT b block l)]:=by
 have ad:=V.len;refine Ln b block live ?_;unfold EE;have G:¬(0<=b/\b<=16777215/\0<=block/\block<8)->∃r:Sl,Value.slice none 0 0=vM r.ptr r.len r.cap/\Sp h h [an aS r 1 aE (gT b block l)]:=fun L=>by
  rw[gT,if_neg L];exact⟨⟨none,0,0⟩,rfl,(Sp.refl h).nil aS 1 aE⟩
 refine ba (ak (fun e=>G (by omega)) fun e1=>ak (fun e=>G (by omega)) fun e2=>ak (fun e=>G (by omega)) fun e3=>ak (fun e=>G (by omega)) fun e4=>?_);have P:0<=b/\b<=16777215/\0<=block/\block<8:=by omega
 rw[gT,if_pos P];rw[Go.Vc.wrap_small (8*b) (by omega) (by omega),Go.Vc.wrap_small (8*b+block) (by omega) (by omega),yu (by omega)];obtain⟨c,hc⟩:∃c:Nat,(8*b+block)%64=c:=⟨((8*b+block)%64).toNat,by omega⟩
 have j:c<64:=by omega
 rw[hc,qp];refine⟨by decide,(WA c h j).mono ?_⟩;rintro v h2 ⟨rfl,R2⟩;refine⟨((kf c).ax,(kf c).ay),rfl,?_⟩;refine R2.alloc ae rfl fun a h3 H3=>?_;have R:Sp h h3 [au a Gn (sj []),an iU ⟨none,0,0⟩ 2 xE []]:=H3.nil iU 2 xE;refine av (fun t:Sl×Nat=>(t.1,(t.2:Int))) (fun t h'=>t.2<=l.length/\Sp h h' [au a Gn (sj (gO (l.take t.2))),an iU t.1 2 xE ((gO (l.take t.2)).map (DZ c))]) (fun t=>l.length-t.2) (⟨none,0,0⟩,0) rfl ⟨by simp,R⟩ ?_;rintro⟨s,k⟩ h4 ⟨hk,q⟩;dsimp only at*;have E:=acJ l k;refine ak (fun e=>?_) (fun e=>?_)
 ·have B:k<l.length:=by omega
  have F:=AQ l B;obtain⟨f,w⟩:∃f,f=gO (l.take k):=⟨_,rfl⟩
  rw[<-w]at q E F;refine(Seq.up V q.ai).bv k rfl B _ rfl ?_;obtain⟨x,hx⟩:∃x,x=l[k]:=⟨_,rfl⟩
  rw[<-hx]at F⊢;refine cl (fun t h'=>(t=true↔0<=x/\x<64/\f.contains x=false)/\h'=h4) ?_ ?_
  ·refine ak (fun p=>ak (fun m=>?_) (fun m=>⟨⟨fun e=>(by cases e),fun z=>absurd z.2.1 m⟩,rfl⟩)) (fun p=>⟨⟨fun e=>(by cases e),fun z=>absurd z.1 p⟩,rfl⟩);refine⟨⟨p,m⟩,f.contains x,?_,?_,rfl⟩
   ·rw[wN];exact(q.box 0 rfl).cell (aeE f p m)
   ·cases f.contains x<;>simp<;>omega
  ·rintro t h5 ⟨U,rfl⟩;refine bA (fun e=>?_) (fun e=>?_)
   ·obtain⟨p,m,x2⟩:=U.1 e;refine⟨⟨p,m⟩,?_⟩;rw[wN];refine q.storeAt ae 0 rfl rfl rfl rfl rfl (by simp[sj];omega) fun N u=>?_;have I:Sp h N [au a Gn (sj (f++[x])),an iU s 2 xE (f.map (DZ c))]:=by
     rw[<-acK f p m];exact u
    obtain⟨n,L⟩:∃n:Nat,x=n:=⟨x.toNat,by omega⟩
    subst L;refine(WA n N (by omega)).mono ?_;rintro v T ⟨rfl,Y⟩;refine⟨((kf n).ax,(kf n).ay),rfl,(acI n c T (by omega) j).mono ?_⟩;rintro v h8 ⟨rfl,rfl⟩;have H:=I.up Y.ai;have ev:cL (Hs n c)=cL (((DZ c (n:Int)).2:Nat):Int):=by rw[afN j (by omega) (by omega),qp]
    refine⟨_,rfl,?_⟩;rw[ev];refine H.push ae 1 rfl eFr rfl (by decide) (fun _=>rfl) afO (DZ c (n:Int)) rfl (by decide) (by simp;omega) fun s' Z K=>?_;refine⟨(s',k+1),by dsimp only;rw[Go.Vc.wrap_small _ (by omega) (by omega)];rfl,⟨by dsimp only;omega,?_⟩,by dsimp only;omega⟩;dsimp only;rw[F,xG,if_pos ⟨p,m,x2⟩,qQ];exact K
   ·refine⟨(s,k+1),by dsimp only;rw[Go.Vc.wrap_small _ (by omega) (by omega)];rfl,⟨by dsimp only;omega,?_⟩,by dsimp only;omega⟩;dsimp only;rw[F,xG,if_neg (fun z=>by rw[U.2 z]at e;cases e)];exact q
 have O:k=l.length:=by omega
 subst O;rw[qR]at q E;refine(Tx (q.own 1 rfl) (by simp;omega)).mono ?_;rintro v h5 ⟨rfl,Q,J⟩;have M:=q.oq 1 rfl J Q;obtain⟨d,g⟩:∃d,d=((gO l).map (DZ c)).mergeSort fun x y=>!(ltOf xF) y x:=⟨_,rfl⟩
 have ab:d.length=(gO l).length:=by rw[g,wj,qw]
 have eo:tf c l=d.map (·.1):=by rw[tf,<-g]
 rw[<-g]at M;have X:=(M.own 1 rfl).len;rw[eo];refine⟨(),rfl,?_⟩;refine av (fun t:Sl×Nat=>(t.1,(t.2:Int))) (fun t h'=>t.2<=d.length/\Sp h h' [an iU s 2 xE d,an aS t.1 1 aE ((d.take t.2).map (·.1))]) (fun t=>d.length-t.2) (⟨none,0,0⟩,0) rfl ⟨by simp,(M.del 0).nil aS 1 aE⟩ ?_;rintro⟨o,i⟩ N ⟨S,u⟩;dsimp only at*;refine ak (fun e=>?_) (fun e=>?_)
 ·have D:i<d.length:=by omega
  refine(u.seq 0 rfl (fun _=>rfl)).dD i rfl D (d[i].1,cL ((d[i].2:Nat):Int)) rfl ?_;refine u.alloc ae rfl fun y T H7=>?_;refine H7.storeAll ae 2 rfl rfl [vL vR d[i].1,.float .f64 (cL ((d[i].2:Nat):Int))] rfl rfl rfl rfl fun h8 H=>?_;refine⟨d[i].1,(H.box 2 rfl).cell0 rfl,?_⟩;refine H.push ae 1 rfl adN rfl (by decide) (fun _=>rfl) ja d[i].1 rfl (by decide) (by simp;omega) fun o' Z K=>?_;refine⟨(o',i+1),by dsimp only;rw[Go.Vc.wrap_small _ (by omega) (by omega)];rfl,⟨by dsimp only;omega,?_⟩,by dsimp only;omega⟩;dsimp only;rw[aH _ _ D,qQ];exact K.del 2
 ·rw[qi (by omega)]at u;exact⟨o,rfl,u.take 1 (fun i A S=>by cases i with|zero=>exact S|succ i=>simp at S)⟩
theorem acL(l:List Int)(x:Int):x∈gO l↔x∈l/\0<=x/\x<64:=by
 have:=Tz l l.length (ql _) x
 rwa [qR]at this
theorem aeF(l:List Int):(gO l).Nodup:=by
 have:=Mo l l.length (ql _)
 rwa [qR]at this
theorem Mp(c:Nat)(l:List Int):(tf c l).Perm (gO l):=by
 have h:=(yk ((gO l).map (DZ c)) fun x y=>!(ltOf xF) y x).map (·.1);rw[wK]at h;have e:((fun x:Fr=>x.1)∘DZ c)=id:=rfl;rw[e,List.map_id]at h;exact h
theorem Px(c:Nat)(l:List Int)(x:Int):x∈tf c l↔x∈l/\0<=x/\x<64:=by rw[(Mp c l).mem_iff,acL]
theorem acM(c:Nat)(l:List Int):(tf c l).Nodup:=(Mp c l).nodup_iff.2 (aeF l)
def QS(l:List Int)(i:Nat):Int:=l.getD i 0
def tg(o:List Int)(id:Int):Int:=if o=[]∨id<0 then-1 else QS o (id%(o.length:Int)).toNat
theorem aeG(s:Sl)(o:List Int)(id:Int)(h:Heap)(f:Rd h s 1 aE o):ac vV UP #[vM s.ptr s.len s.cap,vL vR id] h fun v h'=>v=vL vR (tg o id)/\h'=h:=by
 have g:=f.len;refine Sx s id ?_;unfold Lo;refine ba (cx (fun e=>⟨by rw[tg,if_pos (.inl (qW (by omega)))],rfl⟩) fun e=>ak (fun c=>⟨by rw[tg,if_pos (.inr c)],rfl⟩) fun c=>?_);refine⟨e,?_⟩;have b:¬(o=[]∨id<0):=by
  rintro(rfl|h2)
  ·simp at g;omega
  ·exact c h2
 have d:zW id ((s.len:Nat):Int)=((id%(o.length:Int)).toNat:Int):=by
  rw[yu (by omega),g];have:=wY id (show(o.length:Int)≠0 by omega);omega
 have a:(id%(o.length:Int)).toNat<o.length:=by
  have:=z8 id (show(0:Int)<o.length by omega);omega
 rw[d];refine f.bv _ rfl a _ rfl ⟨?_,rfl⟩;rw[tg,if_neg b,QS,qe,qd a];rfl
def xH(p:Pm)(seed:Int)(d:Row)(id:Int):List UInt8:=if bR id then fl p.2.2.toNat (eE p seed d) (cV (bX p).toNat seed id)else[]
def lc(m:aG)(o b seed:Int)(d:Row)(id:Int):dj:=⟨o,b,id,m.p,seed,xH m.p seed d id⟩
def Mq(m:aG)(o b seed:Int)(d:Row)(a:List Int)(id:Int):Int×List UInt8:=(tg a id,dJ (lc m o b seed d id))
def mI(m:aG)(o:Int)(a:List Int)(b:List (List UInt8))(live:List Int)(i:Nat):List (Int×List UInt8):=
 (qC (m.p.1+m.extra).toNat).map fun id:Nat=>Mq m o i (cK o i (a.getD i 0)) (b.getD i []) (gT o i live) id
def dp(m:aG)(o:Int)(a:List Int)(b:List (List UInt8))(live:List Int)(n:Nat):List (Int×List UInt8):=(qC n).flatMap (mI m o a b live)
theorem tO(m:aG)(o:Int)(a:List Int)(b:List (List UInt8))(live:List Int)(n:Nat):dp m o a b live (n+1)=dp m o a b live n++mI m o a b live n:=by
 unfold dp;rw[zF,zb,zr,wO,qP]
theorem Mr(m:aG)(o:Int)(a:List Int)(b:List (List UInt8))(live:List Int)(i:Nat):(mI m o a b live i).length=(m.p.1+m.extra).toNat:=by simp[mI]
theorem xI(m:aG)(o:Int)(a:List Int)(b:List (List UInt8))(live:List Int):∀n,(dp m o a b live n).length=n*(m.p.1+m.extra).toNat
 |0=>by simp[dp]
 |n+1=>by rw[tO,qu,xI m o a b live n,Mr,zI]
theorem lI(o b t:Int):0<=cK o b t/\cK o b t<4294967296:=by unfold cK;omega
section
variable {B:aA} {h0 h:Heap} {As:List HP} {a pw:Addr} {offs:Int} {da:List (Option Addr)} {w:Pow} {ds:bc}
theorem QE(x:cg)(m:aG)(xe:dV)(e:Wl.bW)(s:Sl)(b:List UInt8)(hS:St B h0 As fun h=>eG h x m/\fA nQ h xe e/\Rd h s 1 aC b)(cc:s.len<=s.cap)(hz:db m)(T:bM m.p=true)(dy:0<=m.extra/\m.extra<=16)(c8:b.length<=2^20)
  (ht:cy m.p e.object (bn m.p b).length=some e.tries) (H:aa B h0 h (bm bz a pw (aV x) offs da w ds::As)):
  ac vV Bh #[vN (some a),Tq xe,vM s.ptr s.len s.cap] h fun v h'=>∃(r:Sl) (ys:List (Int×Sl)),v=.tuple #[vM r.ptr r.len r.cap,vP true]/\
   aa B h0 h' (bm bz a pw (aV x) offs da w ds::cH kC 2 piv r ys (dp m e.object e.tries (bn m.p b) (bi ds m.drives) (bn m.p b).length)::As):=by
 refine xT (some a) xe s ?_;unfold oB;refine H.boxed fun O h1 H1=>?_;have H1:=H1.bL;have H1:aa B h0 h1 (bm bz a pw (aV x) offs da w ds::au O aX (bH xe)::As):=H1.bo 2 [1,0];refine(fY x m (hS.at [_,_] H1).1 hz H1).mono ?_;rintro _ h2 ⟨lv,rfl,R2⟩;have H2:=(H1.cY R2).bo 3 [1,0,2];obtain⟨ok,a3⟩:=aa.cJ H2;obtain⟨b7,d2,ch⟩:=hS.at [_,_,_] H2;have a0:(x.2.2.1,x.2.2.2.1,x.2.2.2.2.1)=m.p:=b7.p;have dd:=(bU m.p).1 T;obtain⟨s1,s2,s3⟩:=kD T;obtain⟨c1,c2,c3⟩:=ly T b.length;have cr:(bi ds m.drives).length<=m.drives.length:=q7 _ _;have du:=hz.dr;obtain⟨live,X⟩:∃live,live=bi ds m.drives:=⟨_,rfl⟩
 rw[<-X]at H2 cr⊢;obtain⟨g,F⟩:∃g,g=bn m.p b:=⟨_,rfl⟩
 have cn:g.length<=2^20:=by rw[F];unfold bn;simp;omega
 have am:∀r∈g,r.length=dn m.p:=by
  rw[F];intro r hr;unfold bn at hr;obtain⟨i,_,rfl⟩:=qx.1 hr;exact Hm _ _ _
 refine⟨lv,rfl,a,rfl,(x.2.2.1,x.2.2.2.1,x.2.2.2.2.1),⟨by rw[addr_add];exact a3.cell rfl,by rw[addr_add];exact a3.cell rfl,by rw[addr_add];exact a3.cell rfl,trivial⟩,?_⟩;rw[a0];refine(Vr m.p s b h2 T ch cc (by omega)).mono ?_;rintro _ h3 ⟨q,rfl,R3⟩;rw[<-F]at R3 ht⊢;obtain⟨rs,H3⟩:=Go.Proofs.YtdhamoojccmbdaaGreatDoor.aa.adL (H2.cY R3) fun _=>rfl;have H3:=(H3.Rr dF 2 piv kC).bL;have H3:aa B h0 h3 (bm bz a pw (aV x) offs da w ds::dv dF ⟨none,0,0⟩ 2 piv kC (dp m e.object e.tries g live 0)::cH (nT 1 aC) 1 bI q rs g::an aS lv 1 aE live::au O aX (bH xe)::As):=H3.bo 5 [2,0,1,3,4];have d1:=(H3.eJ 2 rfl).1.len;have d6:=(H3.eJ 2 rfl).2.1;have c9:=iP ht;refine⟨q,rfl,?_⟩;obtain⟨k,E⟩:∃k:Nat,k=(m.p.1+m.extra).toNat:=⟨_,rfl⟩
 have J:k<=32:=by omega
 refine av (fun t:Sl×Nat=>(t.1,(t.2:Int))) (fun t h'=>t.2<=g.length/\aa B h0 h' (bm bz a pw (aV x) offs da w ds::dv dF t.1 2 piv kC (dp m e.object e.tries g live t.2)::cH (nT 1 aC) 1 bI q rs g::an aS lv 1 aE live::au O aX (bH xe)::As)) (fun t=>g.length-t.2) (⟨none,0,0⟩,0) rfl ⟨by simp,H3⟩ ?_;rintro⟨o,i⟩ h4 ⟨hi,H4⟩;dsimp only at*;refine ak (fun e1=>?_) (fun e1=>?_)
 ·have ay:i<g.length:=by omega
  have F4:=H4.eJ 2 rfl;have ah:=H4.box 4 rfl;obtain⟨b2,a6,c7⟩:=hS.at [_,_,_,_,_] H4;obtain⟨_,b5⟩:=aa.cJ H4;obtain⟨t,bb,bq⟩:=AM ht i (by omega);have b0:e.tries.getD i 0=(t:Int):=by rw[qe,qd (by omega)];exact bb
  have b9:g.getD i []=g[i]:=by rw[qe,qd ay];rfl
  have N:∀{h':Heap},cw h' O aX (bH xe)->cellOf h' (O.add 1)=some (vL vR e.object):=fun{h'} hb=>by rw[<-a6.1.2.1];exact hb.cell rfl
  have cp:∀{h':Heap},cw h' a fK (dz (aV x) pw offs da)->aj h' (a.add 2) 0 [vL vR m.p.1,vL vR m.p.2.1,vL vR m.p.2.2]:=fun{h'} hb=>by
   rw[<-a0];exact⟨by rw[addr_add];exact hb.cell rfl,by rw[addr_add];exact hb.cell rfl,by rw[addr_add];exact hb.cell rfl,trivial⟩
  have a4:=Fix.row F4 ay;refine F4.1.bv i rfl (by omega) (rs[i]'(by omega)) rfl ?_;refine⟨e.object,N ah,xe.2.2.2,ah.cell rfl,?_⟩;refine Seq.bv (f:=aE) a6.2 i rfl (by omega) (t:Int) (by rw[bb];rfl) ?_;refine(uA _ _ _ h4).mono ?_;rintro _ _ ⟨rfl,rfl⟩;refine⟨_,rfl,⟨ah.cell rfl,trivial⟩,a,rfl,m.p,cp b5,?_⟩;obtain⟨seed,l⟩:∃seed,seed=cK e.object i t:=⟨_,rfl⟩
  have hg:=(Hn bq).2.1;have a2:fJ m.p seed (eC m.p)=true:=by rw[l];exact hg
  obtain⟨K,Hh,w',n,BK⟩:=adF (seed:=seed) (d:=g[i]) T a2 (by rw[am _ (qg ay),s3]);rw[<-l];refine(afK BK (rs[i]'(by omega)) _ a4.1 a4.2).mono ?_;rintro _ h6 ⟨Y,Z,rfl,R6⟩;have H6:=(H4.comp R6).front;have H6:aa B h0 h6 (bm bz a pw (aV x) offs da w ds::dv dF o 2 piv kC (dp m e.object e.tries g live i)::cH (nT 1 aC) 1 bI q rs g::an aS lv 1 aE live::au O aX (bH xe)::fI aF Z 1 aC (eE m.p seed g[i])::au Y fV (Ki m.p seed Z)::As):=H6.bo 7 [2,3,4,5,6,0,1];refine⟨(some Y,0),rfl,bQ (fun e2=>absurd rfl e2) fun _=>?_⟩;have cq:=H6.box 4 rfl;refine⟨e.object,N cq,(VF e.object i lv live h6 (H6.seq 3 rfl fun _=>rfl) (by omega)).mono ?_⟩;rintro _ h7 ⟨L,rfl,R7⟩;have H7:=(H6.cY R7).bo 8 [1,2,3,4,5,6,7,0];obtain⟨c,y⟩:∃c,c=gT e.object i live:=⟨_,rfl⟩
  rw[<-y]at H7;have a5:=(aa.cJ H7).2;have b6:x.2.2.1=m.p.1:=congrArg (·.1) a0;refine⟨L,rfl,a,rfl,x.2.2.1,a5.cell rfl,a,rfl,x.2.2.2.2.2.1,a5.cell rfl,?_⟩;have en:qc vR (x.2.2.1+x.2.2.2.2.2.1)=(k:Int):=by rw[b6,b2.extra,Go.Vc.wrap_small _ (by omega) (by omega)];omega
  rw[en];have P:mI m e.object e.tries g live i=(qC k).map fun id:Nat=>Mq m e.object i seed g[i] c id:=by
   unfold mI;rw[b0,b9,<-l,<-y,<-E]
  have bd:(mI m e.object e.tries g live i).length=k:=by rw[Mr,<-E]
  obtain⟨A,G⟩:∃A,A=dp m e.object e.tries g live i:=⟨_,rfl⟩
  have d5:A.length<=2^26:=by
   rw[G,xI,<-E];have:=wb (show i<=2^20 by omega) J;omega
  obtain⟨Q,hQ⟩:∃Q,Q=mI m e.object e.tries g live i:=⟨_,rfl⟩
  rw[<-hQ]at P bd;rw[<-G]at H7;refine av (fun t:Sl×Nat=>(t.1,(t.2:Int))) (fun t h'=>t.2<=k/\aa B h0 h' (bm bz a pw (aV x) offs da w ds::dv dF t.1 2 piv kC (A++Q.take t.2)::cH (nT 1 aC) 1 bI q rs g::an aS lv 1 aE live::au O aX (bH xe)::fI aF Z 1 aC (eE m.p seed g[i])::au Y fV (Ki m.p seed Z)::an aS L 1 aE c::As)) (fun t=>k-t.2) (o,0) rfl ⟨by simp,by simpa using H7⟩ ?_;rintro⟨o2,id⟩ h8 ⟨hid,R⟩;dsimp only at*;refine ak (fun e3=>?_) fun e3=>?_
  ·have c5:id<k:=by omega
   have ao:=R.box 4 rfl;have ad:=(aa.cJ R).2;have I:Om h8 Y m.p seed (eE m.p seed g[i]):=⟨Z,R.box 6 rfl,R.IH 5 rfl⟩
   have S:xH m.p seed g[i] id=if bR id then fl w' (eE m.p seed g[i]) (cV n seed id)else[]:=by
    unfold xH;rw[BK.pj,show m.p.2.2.toNat=w' by have:=BK.s;omega]
   have held:∀{h':Heap},aU (fun b=>b<h8.size) h8 h'->aq.ok [((a.add 2),vL vR m.p.1),((a.add 2).add 1,vL vR m.p.2.1),((a.add 2).add 2,vL vR m.p.2.2),(O.add 1,vL vR e.object)] h':=fun{h'} T=>by
    obtain⟨q1,q2,q3,_⟩:=cp (ad.ai T ad.lt);exact⟨q1,q2,q3,N (ao.ai T ao.lt),trivial⟩
   refine cl (fun(a9:Addr) h'=>∃r:Sl,aa B h0 h' (au a9 aZ (bD (e.object,(i:Int),(id:Int),m.p.1,m.p.2.1,m.p.2.2,seed,r))::an aD r 1 aC (xH m.p seed g[i] id)::bm bz a pw (aV x) offs da w ds::dv dF o2 2 piv kC (A++Q.take id)::cH (nT 1 aC) 1 bI q rs g::an aS lv 1 aE live::au O aX (bH xe)::fI aF Z 1 aC (eE m.p seed g[i])::au Y fV (Ki m.p seed Z)::an aS L 1 aE c::As)) ?_ ?_
   ·refine⟨e.object,N ao,a,rfl,m.p,cp ad,?_,?_⟩
    ·refine(BK.symbol Y id h8 I).mono ?_;rintro _ h9 ⟨r,rfl,R9⟩;rw[<-S]at R9;have H9:=R.cY R9;refine⟨r,rfl,held R9.ai,H9.FL ae rfl fun a28 d7 cs ab=>⟨held (aa.up R9 cs).ai,?_⟩⟩;have ab:=ab.bL;refine ab.storeAll ae 0 rfl rfl (bD (e.object,(i:Int),(id:Int),m.p.1,m.p.2.1,m.p.2.2,seed,r)) rfl rfl rfl rfl fun c6 c4=>⟨trivial,r,c4⟩
    ·refine R.FL ae rfl fun dk cf V W=>⟨held V,?_⟩
     have W:=W.bL;refine(BK.symbol Y id cf (I.up V)).mono ?_;rintro _ d3 ⟨r,rfl,ax⟩;rw[<-S]at ax;have c0:=(W.cY ax).bo 2 [1,0];refine⟨r,rfl,held (aa.up (Sp.zip V) ax.ai).ai,?_⟩;refine c0.storeAll ae 0 rfl rfl (bD (e.object,(i:Int),(id:Int),m.p.1,m.p.2.1,m.p.2.2,seed,r)) rfl rfl rfl rfl fun dx b3=>⟨trivial,r,b3⟩
   ·rintro a9 b4 ⟨r,M⟩;have j:=M.box 0 rfl;have U:=lI e.object i t;rw[<-l]at U;refine⟨(e.object,(i:Int),(id:Int),m.p.1,m.p.2.1,m.p.2.2,seed,r),j.aQ _ rfl,(aeG L c id b4 (M.seq 9 rfl fun _=>rfl)).mono ?_⟩;rintro _ br ⟨rfl,rfl⟩;refine⟨_,rfl,⟨j.cell0 rfl,j.cell rfl,j.cell rfl,j.cell rfl,j.cell rfl,j.cell rfl,j.cell rfl,j.cell rfl,trivial⟩,?_⟩;refine(BH (e.object,(i:Int),(id:Int),m.p.1,m.p.2.1,m.p.2.2,seed,r) (lc m e.object i seed g[i] id) br ⟨⟨rfl,rfl,rfl,rfl,rfl,U.1,U.2⟩,M.seq 1 rfl fun _=>rfl⟩).mono ?_;rintro _ d4 ⟨u,rfl,b1⟩;have a8:=(M.cY b1).gf 0 rfl (D:=EA kC (tg c id,u) (Mq m e.object i seed g[i] c id)) fun z hz=>⟨rfl,hz.1.seq (fun _=>rfl) hz.2⟩
    have a7:Q[id]'(by omega)=Mq m e.object i seed g[i] c id:=by simp[P]
    refine⟨u,rfl,trivial,?_⟩;refine a8.rp ae piv Te rfl [(tg c id,u)] rfl (show 1*2<=2^20 by decide) rfl trivial ?_;refine aa.HR ae a8 4 0 (by decide) (a:=(tg c id,u)) rfl rfl Te rfl (by decide) (fun _=>rfl) Of (parts:=#[(0,vQ #[vL vR (tg c id),vM u.ptr u.len u.cap])]) (by kernel_rfl) (by decide) (by simp;omega) fun o3 d0 cd=>⟨trivial,?_⟩
    refine⟨(o3,id+1),by dsimp only;rw[Go.Vc.wrap_small _ (by omega) (by omega)];rfl,⟨by dsimp only;omega,?_⟩,by dsimp only;omega⟩;dsimp only;rw[aH Q id (by omega),a7,<-qo];exact cd.rest.rest.rest
  ·have ap:id=k:=by omega
   subst ap;rw[qi (by omega)]at R;refine⟨(o2,i+1),by dsimp only;rw[Go.Vc.wrap_small _ (by omega) (by omega)];rfl,⟨by dsimp only;omega,?_⟩,by dsimp only;omega⟩;dsimp only;rw[tO,<-G,<-hQ];exact R.bo 8 [0,1,2,3,4]
 ·have ap:i=g.length:=by omega
  subst ap;obtain⟨ys,H5⟩:=H4.Nb 1 rfl fun _=>rfl;exact⟨o,ys,rfl,H5.bo 5 [0,1]⟩
end
end Go.Proofs.YtdhamoojccmbdaaGreatDoor
namespace Wl
open Go
def jQ(a:Nat)(l:List (Int×List UInt8))(k:Int):Int:=(a:Int)+(l.filter fun y=>decide (y.1=k)).length
end Wl
namespace Go.Proofs.YtdhamoojccmbdaaGreatDoor
open Go Go.Vc Go.Proofs Wl
theorem aaL(k:Int)(d c:Addr)(a:Nat)(r:Sl)(o:List (Int×Sl))(l:List (Int×List UInt8))(h:Heap)(D:a<=2^30)(H:l.length<=2^30)(q:cw h d aS [vL vR a])(u:cw h c fo [vM r.ptr r.len r.cap])(s:nE kC 2 piv h r o l):
  ac vV iL #[vL vR k,vN (some d),vN (some c)] h fun v h'=>v=vL vR (jQ a l k)/\Sp h h' []:=by
 refine Cf k d c ?_;unfold pZ;have A:=s.1.len;have z:=s.2.1;refine⟨(a:Int),q.cell0 rfl,r,u.cell0 rfl,?_⟩;refine av (fun i:Nat=>(jQ a (l.take i) k,(i:Int))) (fun i h'=>i<=l.length/\Sp h h' []) (fun i=>l.length-i) 0 (by simp[jQ]) ⟨by omega,Sp.refl h⟩ ?_;rintro i G ⟨E,t⟩;dsimp only;have w:(((l.take i).filter fun y=>decide (y.1=k)).length:Int)<=i:=by
  have:=q7 (fun y:Int×List UInt8=>decide (y.1=k)) (l.take i);simp at this;omega
 refine ak (fun e=>?_) fun e=>?_
 ·have n:i<l.length:=by omega
  have j:=nE.up s t.ai;refine j.1.dD (g:=piv) i rfl (by omega) (o[i]'(by omega)) rfl ?_;refine t.alloc ae rfl fun B F x=>?_;refine x.storeAll ae 0 rfl rfl (piv (o[i]'(by omega))) rfl rfl rfl rfl fun h3 f=>?_;have f:Sp h h3 [au B dF (piv (o[i]'(by omega)))]:=f;have m:=Fix.row j n;have b:jQ a (l.take (i+1)) k=jQ a (l.take i) k+(if l[i].1=k then 1 else 0):=by
   unfold jQ;rw[aH _ _ n,zh,qu,zm,yO];split
   ·rename_i p;rw[if_pos (of_decide_eq_true p)];simp;omega
   ·rename_i p;rw[if_neg (by simpa using p)];simp
  refine⟨l[i].1,by rw[<-m.1];exact(f.box 0 rfl).cell0 rfl,cx (fun g=>?_) fun g=>?_⟩
  ·refine⟨i+1,?_,⟨by omega,.zip f.ai⟩,by omega⟩;rw[b,if_pos g,Go.Vc.wrap_small (jQ a (l.take i) k+1) (by unfold jQ;omega) (by unfold jQ;omega),Go.Vc.wrap_small _ (by omega) (by omega)];rfl
  ·refine⟨i+1,?_,⟨by omega,.zip f.ai⟩,by omega⟩;rw[b,if_neg g,Int.add_zero,Go.Vc.wrap_small _ (by omega) (by omega)];rfl
 ·rw[qi (by omega)];exact⟨rfl,t⟩
def gB(m:aG)(offs:Int)(w:Pow)(ds:bc)(name:ByteArray)(b:List UInt8):Int×aG×Pow×bc:=
 if cP m (fu w offs) ds name b.length≠0 then(cP m (fu w offs) ds name b.length,m,w,ds)else
 match cy m.p m.next (bn m.p b).length with
 |none=>(8,m,w,ds)
 |some t=>
  let live:=bi ds m.drives;let l:=dp m m.next t (bn m.p b) live (bn m.p b).length;let n:=dg m ⟨name,m.next,b.length,t⟩;let N:=jQ (bh n).length l
  if df m ds live N=false then(7,m,w,ds)else
  if(makes m N live w ds).1≠0 then((makes m N live w ds).1,m,(makes m N live w ds).2)else
  let a:=layAll l (makes m N live w ds).2.1 (makes m N live w ds).2.2
  if a.1≠0 then(a.1,m,a.2)else
  ((layAll (bx n live) a.2.1 a.2.2).1,if(layAll (bx n live) a.2.1 a.2.2).1=0 then n else m,(layAll (bx n live) a.2.1 a.2.2).2)
theorem kE{m:aG}{d:Bool}{ds:bc}{name:ByteArray}{n:Nat}(h:cP m d ds name n=0):
  d=false/\jF name=true/\m.objs.any (dm name)=false/\¬(m.p.1*m.p.2.2*8<(n:Int)∨12<=m.objs.length)/\¬(bi ds m.drives=[]∨16777215<m.next∨2147483647<=m.seq):=by
 unfold cP at h;split at h
 ·cases h
 ·rename_i a;split at h
  ·cases h
  ·rename_i b;split at h
   ·cases h
   ·rename_i h3;split at h
    ·cases h
    ·rename_i c;split at h
     ·cases h
     ·rename_i e;exact⟨by simpa using a,by simpa using b,by simpa using h3,c,e⟩
theorem CU{m:aG}{b:List UInt8}(a:bM m.p=true)(h:¬m.p.1*m.p.2.2*8<(b.length:Int)):(bn m.p b).length<=8:=by
 obtain⟨e,d,c⟩:=kD a;obtain⟨f,g,c3⟩:=ly a b.length;unfold bn;rw[qw,zt];refine Nat.le_of_not_lt fun h8=>?_;have:=c3 8 (by omega);rw[<-c]at h;omega
theorem afP{o:List Int}(b:o≠[])(id:Nat):tg o id∈o:=by
 unfold tg QS;rw[if_neg (by rintro(h|h);exact b h;omega)];have c:0<o.length:=by cases o with|nil=>exact absurd rfl b|cons=>simp
 have a:((id:Int)%(o.length:Int)).toNat<o.length:=by
  have:=z8 (id:Int) (show(0:Int)<o.length by omega);have:=wY (id:Int) (show(o.length:Int)≠0 by omega);omega
 rw[qe,qd a];exact qg a
theorem TA{m:aG}{o:Int}{c:List Int}{q:List (List UInt8)}{live:List Int}(t:0<=o/\o<=16777215)(r:live≠[])(f:∀k∈live,0<=k/\k<64){n:Nat}(s:n<=8){y:Int×List UInt8}(e:y∈dp m o c q live n):y.1∈live/\y.2.length<=64:=by
 unfold dp at e;obtain⟨i,j,e⟩:=zO.1 e;have j:=qH.1 j;unfold mI at e;obtain⟨id,_,rfl⟩:=qx.1 e;refine⟨?_,?_⟩
 ·show tg _ _∈live;have d:gT o i live=tf ((8*o+i)%64).toNat live:=by unfold gT;rw[if_pos (by omega)]
  have b:∀a,a∈gT o i live↔a∈live/\0<=a/\a<64:=fun a=>by rw[d];exact Px _ _ _
  have g:gT o i live≠[]:=fun h=>by
   cases live with
   |nil=>exact r rfl
   |cons a l=>
    have:=(b a).2 ⟨q8,f a q8⟩;rw[h]at this;cases this
  exact((b _).1 (afP g id)).1
 ·show(dJ _).length<=64;unfold dJ;split
  ·rename_i p;refine Nat.le_of_eq (nF (by decide) (by decide) ?_);have:=ot p;omega
  ·simp
theorem aeH{m:aG}{e:Wl.bW}(b:db m)(g:m.objs.length<=11)(c:e.name.size<=2^30)(d:e.tries.length<=2^30):db (dg m e):=by
 refine⟨b.dr,?_,fun f a=>?_⟩
 ·show((m.objs++[e]).mergeSort sf).length<=2^30;rw[wj];simp;omega
 ·have a:f∈(m.objs++[e]).mergeSort sf:=a;rcases qE.1 ((yk _ _).mem_iff.1 a)with h|h
  ·exact b.nm f h
  ·rw[qG.1 h];exact⟨c,d⟩
section
variable {B:aA} {h0 h:Heap} {As:List HP} {a pw:Addr} {offs:Int} {da:List (Option Addr)} {w:Pow} {ds:bc}
theorem acN(x:cg)(m:aG)(name:ByteArray)(s:Sl)(b:List UInt8)(hS:St B h0 As fun h=>Rd h s 1 aC b)(c8:s.len<=s.cap)(hn:name.size<=2^40)(S:db m)(hp:bM m.p=true)(c2:0<=m.extra/\m.extra<=16)(c4:∀k∈m.drives,0<=k/\k<64)(c5:m.drives.length<=64)(dk:0<=m.seq)(bl:0<=m.next)(cc:b.length<=2^20)
  (H:aa B h0 h (bm bz a pw (aV x) offs da w ds::cO x m::As)):
  ac vV sD #[vN (some a),vO name,vM s.ptr s.len s.cap] h fun v h'=>v=vL vR (gB m offs w ds name b).1/\
   ∃y,aa B h0 h' (bm bz a pw (aV y) offs da (gB m offs w ds name b).2.2.1 (gB m offs w ds name b).2.2.2::cO y (gB m offs w ds name b).2.1::As):=by
 refine Fb (some a) name s ?_;unfold tV;have ax:=(hS.at [_,_] H).len;refine(Ts x m name s b.length ax hn (H.at 1 rfl) S hp H).mono ?_;rintro _ h1 ⟨rfl,R1⟩;have H1:=H.up R1.ai;refine⟨_,rfl,bQ (fun e=>?_) fun e1=>?_⟩
 ·have ep:gB m offs w ds name b=(cP m (fu w offs) ds name b.length,m,w,ds):=by unfold gB;rw[if_pos e]
  rw[ep];exact⟨rfl,x,H1⟩
 obtain⟨z1,z2,z3,z4,z5⟩:=kE e1;have cd:¬m.p.1*m.p.2.2*8<(b.length:Int):=fun h=>z4 (.inl h);have b2:m.objs.length<=11:=by have:¬12<=m.objs.length:=fun h=>z4 (.inr h);omega
 have b3:bi ds m.drives≠[]:=fun h=>z5 (.inl h);have b4:m.next<=16777215:=by have:¬16777215<m.next:=fun h=>z5 (.inr (.inl h));omega
 have ed:m.seq<=2147483646:=by have:¬2147483647<=m.seq:=fun h=>z5 (.inr (.inr h));omega
 have h8:=CU hp cd;have es:name.size<=12:=by unfold jF at z2;simp at z2;omega
 have b7:=(aa.cJ H1).2;have bq:eG h1 x m:=H1.at 1 rfl;refine⟨a,rfl,x.2.1,b7.cell rfl,H1.alloc ae rfl fun a4 h2 H2=>?_⟩;have H2:=H2.bL;refine H2.storeAll ae 0 rfl rfl (bH (name,x.2.1,(s.len:Int),⟨none,0,0⟩)) rfl rfl rfl rfl fun h3 H3=>?_;have H3:aa B h0 h3 (au a4 aX (bH (name,m.next,(b.length:Int),⟨none,0,0⟩))::bm bz a pw (aV x) offs da w ds::cO x m::As):=by rw[<-bq.next,<-ax];exact H3
 have cp:∀{h':Heap},cw h' a fK (dz (aV x) pw offs da)->aj h' (a.add 2) 0 [vL vR m.p.1,vL vR m.p.2.1,vL vR m.p.2.2]:=fun{h'} hb=>by
  rw[<-bq.p];exact⟨by rw[addr_add];exact hb.cell rfl,by rw[addr_add];exact hb.cell rfl,by rw[addr_add];exact hb.cell rfl,trivial⟩
 obtain⟨O,P⟩:∃O,O=(bn m.p b).length:=⟨_,rfl⟩
 have br:countP m.p (s.len:Nat)=(O:Int):=by
  have:=(ly hp b.length).1;rw[P,ax];unfold bn;rw[qw,zt];omega
 refine cl (fun(t:Sl×Bool) h'=>(cy m.p m.next O=none->t.2=false/\aa B h0 h' (bm bz a pw (aV x) offs da w ds::cO x m::As))/\(∀l,cy m.p m.next O=some l->t.2=true/\aa B h0 h' (an aS t.1 1 aE l::au a4 aX (bH (name,m.next,(b.length:Int),⟨none,0,0⟩))::bm bz a pw (aV x) offs da w ds::cO x m::As))) ?_ ?_
 ·have cn:=H3.box 0 rfl;have Z:=(aa.cJ (H3.bo 3 [1,0,2])).2;refine⟨a,rfl,m.p,cp Z,m.next,cn.cell rfl,a,rfl,m.p,cp Z,(uz m.p s.len h3 (by omega)).mono ?_⟩;rintro _ h4 ⟨rfl,R4⟩;have H4:=H3.up R4.ai;have cr:=Z.ai R4.ai Z.lt;obtain⟨q1,q2,q3,_⟩:=cp cr;refine⟨_,rfl,⟨(H4.box 0 rfl).cell rfl,q1,q2,q3,trivial⟩,?_⟩;rw[br];refine(Yb m.p m.next O h4 (by omega)).mono ?_;rintro _ h5 ⟨T0,T1⟩;cases ht:cy m.p m.next O with
  |none=>
   obtain⟨rfl,R5⟩:=T0 ht;exact⟨(⟨none,0,0⟩,false),rfl,trivial,fun _=>⟨rfl,(H4.up R5.ai).bo 3 [1,2]⟩,fun l h=>by cases h⟩
  |some l=>
   obtain⟨r,rfl,R5⟩:=T1 l ht;exact⟨(r,true),rfl,trivial,fun h=>(by cases h),fun l' h=>(by injection h with h;subst h;exact⟨rfl,H4.cY R5⟩)⟩
 rintro⟨j,tb⟩ h6 ⟨T0,T1⟩;dsimp only at T0 T1⊢;cases ht:cy m.p m.next O with
 |none=>
  obtain⟨rfl,H6⟩:=T0 ht;have ep:gB m offs w ds name b=(8,m,w,ds):=by
   unfold gB;rw[if_neg (by rw[e1];decide),<-P,ht]
  rw[ep];exact bg (fun _=>⟨rfl,x,H6⟩) fun e=>by cases e
 |some t=>
  obtain⟨rfl,H6⟩:=T1 t ht;refine bg (fun e=>by cases e) fun _=>?_;have d9:=iP ht;refine H6.store ae 1 rfl rfl 3 [vM j.ptr j.len j.cap] rfl rfl rfl (by simp) fun h7 H7=>?_;obtain⟨e,he⟩:∃e:Wl.bW,e=⟨name,m.next,b.length,t⟩:=⟨_,rfl⟩
  have H7:aa B h0 h7 (an aS j 1 aE e.tries::au a4 aX (bH (name,m.next,(b.length:Int),j))::bm bz a pw (aV x) offs da w ds::cO x m::As):=by rw[he];exact H7
  have H7:=H7.bo 4 [2,3,0,1];have cq:St B h0 (cO x m::an aS j 1 aE e.tries::au a4 aX (bH (name,m.next,(b.length:Int),j))::As) fun h=>eG h x m/\fA nQ h (name,m.next,(b.length:Int),j) e/\Rd h s 1 aC b:=fun Bs h' i=>
   ⟨(St.gK 0 rfl fun _ q=>q) Bs h' i,(St.gK (A:=an aS j 1 aE e.tries) (Q:=fun h=>fA nQ h (name,m.next,(b.length:Int),j) e) 1 rfl fun h' q=>⟨by rw[he];exact⟨rfl,rfl,rfl⟩,q.1.seq (fun _=>rfl) q.2⟩) Bs h' i,(hS.cons.cons.cons) Bs h' i⟩
  refine⟨(name,m.next,(b.length:Int),j),(H7.box 3 rfl).aQ _ rfl,?_⟩;refine(QE x m (name,m.next,(b.length:Int),j) e s b cq c8 S hp c2 cc (by rw[he,<-P];exact ht) H7).mono ?_;rintro _ en ⟨r,ys,rfl,H8⟩;obtain⟨live,c⟩:∃live,live=bi ds m.drives:=⟨_,rfl⟩
  obtain⟨l,hl⟩:∃l,l=dp m m.next t (bn m.p b) live O:=⟨_,rfl⟩
  have ch:dp m e.object e.tries (bn m.p b) (bi ds m.drives) (bn m.p b).length=l:=by rw[hl,he,<-c,<-P]
  rw[ch]at H8;refine⟨(r,true),rfl,H8.alloc ae rfl fun f h9 H9=>?_⟩;have H9:=H9.bL;refine H9.storeAll ae 0 rfl rfl [vM r.ptr r.len r.cap] rfl rfl rfl rfl fun a1 o=>?_;refine bg (fun e=>by cases e) fun _=>?_;obtain⟨n,ab⟩:∃n,n=dg m e:=⟨_,rfl⟩
  have o:aa B h0 a1 (au f fo [vM r.ptr r.len r.cap]::bm bz a pw (aV x) offs da w ds::cH kC 2 piv r ys l::cO x m::an aS j 1 aE e.tries::au a4 aX (bH (name,m.next,(b.length:Int),j))::As):=o;have o:aa B h0 a1 (tu j 1 aE e.tries::bm bz a pw (aV x) offs da w ds::cO x m::cH kC 2 piv r ys l::au f fo [vM r.ptr r.len r.cap]::au a4 aX (bH (name,m.next,(b.length:Int),j))::As):=(o.freeze 4 rfl fun _=>rfl).bo 6 [4,1,3,2,0,5];have dd:((name,m.next,(b.length:Int),j):dV).1=e.name/\((name,m.next,(b.length:Int),j):dV).2.1=e.object/\((name,m.next,(b.length:Int),j):dV).2.2.1=e.length:=by rw[he];exact⟨rfl,rfl,rfl⟩
  have L:∀{h':Heap} {Cs:List HP},aa B h0 h' (tu j 1 aE e.tries::Cs)->eG h' x m->ac vV Ex #[ft x,Tq (name,m.next,(b.length:Int),j)] h' fun v b6=>∃y:cg,v=ft y/\aa B h0 b6 (cO y n::Cs):=fun{h' Cs} i hx'=>by
   rw[ab];exact aaB x m _ e hx' S ⟨dk,by omega⟩ ⟨bl,by omega⟩ b2 dd i
  have J:=(aa.cJ (o.bo 2 [1,0])).2;have K:=o.box 5 rfl;have a3:eG a1 x m:=o.at 2 rfl;refine cl (fun(t:Addr×Sl) h'=>∃y,aa B h0 h' (bm bz a pw (aV x) offs da w ds::cO x m::cH kC 2 piv r ys l::au f fo [vM r.ptr r.len r.cap]::au t.1 aB (aV y)::cO y n::an aS t.2 1 aE live::As)) ?_ ?_
  ·refine⟨a,rfl,x,J.aQ _ rfl,(name,m.next,(b.length:Int),j),K.aQ _ rfl,?_,?_⟩
   ·refine(L o a3).mono ?_;rintro _ d2 ⟨y,rfl,I⟩;have I:=I.bo 6 [1,2,3,4,0];refine⟨y,rfl,trivial,?_,?_⟩
    ·refine(fY x m (I.at 1 rfl) S I).mono ?_;rintro _ eo ⟨G,rfl,a8⟩;rw[<-c]at a8;have b5:=I.cY a8;refine⟨G,rfl,trivial,b5.alloc ae rfl fun ef ej ay=>⟨trivial,?_⟩⟩;have ay:=ay.bL;refine ay.storeAll ae 0 rfl rfl (aV y) rfl rfl rfl rfl fun eg cf=>⟨trivial,y,?_⟩
     exact cf.bo 7 [2,3,4,5,0,6,1]
    ·refine I.alloc ae rfl fun a22 d8 Y=>⟨trivial,?_⟩
     have Y:=Y.bL;have ad:=Y.bo 6 [1,2,3,4,5,0];refine(fY x m (ad.at 1 rfl) S ad).mono ?_;rintro _ d6 ⟨G,rfl,bb⟩;rw[<-c]at bb;have d0:=(Y.cY bb).bo 2 [1,0];refine⟨G,rfl,trivial,d0.storeAll ae 0 rfl rfl (aV y) rfl rfl rfl rfl fun eq c1=>⟨trivial,y,?_⟩⟩;exact c1.bo 7 [2,3,4,5,0,6,1]
   ·refine o.FL ae rfl fun d3 d7 a5 X=>?_;have d:=J.ai a5 J.lt;have F:=K.ai a5 K.lt;refine⟨⟨F.cell0 rfl,F.cell rfl,F.cell rfl,F.cell rfl,d.cell0 rfl,d.cell rfl,d.cell rfl,d.cell rfl,d.cell rfl,d.cell rfl,d.cell rfl,d.cell rfl,trivial⟩,?_⟩;have X:=(X.bL).bo 7 [1,0,2,3,4,5];refine(L X (X.at 3 rfl)).mono ?_;rintro _ ei ⟨y,rfl,c9⟩;have M:=c9.bo 6 [2,3,4,5,0,1];refine⟨y,rfl,trivial,(fY x m (M.at 1 rfl) S M).mono ?_⟩;rintro _ et ⟨G,rfl,b0⟩;rw[<-c]at b0;have c6:=(M.cY b0).bo 7 [6,0,1,2,3,4,5];refine⟨G,rfl,trivial,c6.storeAll ae 0 rfl rfl (aV y) rfl rfl rfl rfl fun el c7=>⟨trivial,y,?_⟩⟩;exact c7.bo 7 [2,3,4,5,0,6,1]
  rintro⟨am,G⟩ c0 ⟨y,W⟩;dsimp only at W⊢;have a0:db n:=by rw[ab];exact aeH S b2 (by rw[he];show name.size<=2^30;omega) (by rw[he];show t.length<=2^30;omega)
  have d1:n.drives=m.drives:=by rw[ab];rfl
  have er:live.length<=64:=by rw[c];exact zl (q7 _ _) c5
  have D:∀k∈live,0<=k/\k<64:=fun k hk=>by rw[c]at hk;exact c4 k (qI.1 hk).1
  have bk:(m.p.1+m.extra).toNat<=32:=by have:=(bU m.p).1 hp;omega
  have eh:l.length<=256:=by
   rw[hl,xI];exact wb (show O<=8 by omega) bk
  have dr:∀z∈l,(0<=z.1/\z.1<64)/\z.2.length<=2^20:=fun z a7=>by
   rw[hl]at a7;obtain⟨p1,p2⟩:=TA (m:=m) ⟨bl,b4⟩ (by rw[c];exact b3) D (show O<=8 by omega) a7;exact⟨D _ p1,zl p2 (by decide)⟩
  refine⟨y,(W.box 4 rfl).aQ _ rfl,(mV y n c0 (W.at 5 rfl) a0).mono ?_⟩;rintro _ ec ⟨pg,rfl,a9⟩;have ah:=(aa.Dk a9).1;have b1:=jM n a0;obtain⟨pn,a2⟩:∃pn,pn=(bh n).length:=⟨_,rfl⟩
  rw[<-a2]at ah b1;have du:=W.up a9.ai;refine⟨pg,rfl,du.alloc ae rfl fun u d5 ap=>?_⟩;have ap:=ap.bL;refine ap.storeAll ae 0 rfl rfl [vL vR (pg.len:Int)] rfl rfl rfl rfl fun dy E=>?_;rw[ah]at E;have E:aa B h0 dy (bm bz a pw (aV x) offs da w ds::cO x m::cH kC 2 piv r ys l::au f fo [vM r.ptr r.len r.cap]::au am aB (aV y)::cO y n::an aS G 1 aE live::au u aS [vL vR (pn:Int)]::As):=E.bo 8 [1,2,3,4,5,6,7,0];obtain⟨N,hN⟩:∃N,N=jQ pn l:=⟨_,rfl⟩
  obtain⟨T,R⟩:∃T,T=cO x m::cH kC 2 piv r ys l::au f fo [vM r.ptr r.len r.cap]::au am aB (aV y)::cO y n::an aS G 1 aE live::au u aS [vL vR (pn:Int)]::As:=⟨_,rfl⟩
  have tX:St B h0 T fun h=>eG h x m:=by rw[R];exact St.gK 0 rfl fun _ q=>q
  have tF:St B h0 T fun h=>nE kC 2 piv h r ys l:=by rw[R];exact St.gK 1 rfl fun _ q=>q
  have tB:St B h0 T fun h=>cw h f fo [vM r.ptr r.len r.cap]:=by rw[R];exact St.gK (A:=au f fo [vM r.ptr r.len r.cap]) 2 rfl fun _ q=>q.1
  have tM:St B h0 T fun h=>cw h am aB (aV y):=by rw[R];exact St.gK (A:=au am aB (aV y)) 3 rfl fun _ q=>q.1
  have tY:St B h0 T fun h=>eG h y n:=by rw[R];exact St.gK 4 rfl fun _ q=>q
  have tL:St B h0 T fun h=>Rd h G 1 aE live:=by rw[R];exact St.gK (A:=an aS G 1 aE live) 5 rfl fun _ q=>q.1.seq (fun _=>rfl) q.2
  have tN:St B h0 T fun h=>cw h u aS [vL vR (pn:Int)]:=by rw[R];exact St.gK (A:=au u aS [vL vR (pn:Int)]) 6 rfl fun _ q=>q.1
  have tT:St B h0 T fun h=>QR iL #[] #[vN (some u),vN (some f)] N live h:=fun Bs h' i k hk=>by
   rw[hN];exact aaL k u f pn r ys l h' (by omega) (by omega) (tN Bs h' i) (tB Bs h' i) (tF Bs h' i)
  have fin:∀{h':Heap} {z:cg} {w':Pow} {ao:bc},aa B h0 h' (bm bz a pw (aV x) offs da w' ao::T)->aa B h0 h' (bm bz a pw (aV x) offs da w' ao::cO x m::As):=fun{h' z w' ao} i=>by
   rw[R]at i;exact i.bo 8 [0,1]
  rw[<-R]at E;have ep:gB m offs w ds name b=(if df m ds live N=false then(7,m,w,ds)else if(makes m N live w ds).1≠0 then((makes m N live w ds).1,m,(makes m N live w ds).2)else
    if(layAll l (makes m N live w ds).2.1 (makes m N live w ds).2.2).1≠0 then((layAll l (makes m N live w ds).2.1 (makes m N live w ds).2.2).1,m,(layAll l (makes m N live w ds).2.1 (makes m N live w ds).2.2).2)else
    ((layAll (bx n live) (layAll l (makes m N live w ds).2.1 (makes m N live w ds).2.2).2.1 (layAll l (makes m N live w ds).2.1 (makes m N live w ds).2.2).2.2).1,if(layAll (bx n live) (layAll l (makes m N live w ds).2.1 (makes m N live w ds).2.2).2.1 (layAll l (makes m N live w ds).2.1 (makes m N live w ds).2.2).2.2).1=0 then n else m,(layAll (bx n live) (layAll l (makes m N live w ds).2.1 (makes m N live w ds).2.2).2.1 (layAll l (makes m N live w ds).2.1 (makes m N live w ds).2.2).2.2).2)):=by
   rw[hN,a2,hl,ab,he,c];unfold gB;rw[if_neg (by rw[e1];decide),<-P,ht]
  rw[ep];refine(Mk iL #[] #[vN (some u),vN (some f)] N x m G live (by rfl) (fun Bs h' i=>⟨tX Bs h' i,tT Bs h' i⟩) S (tL.at [_] E) (by omega) D E).mono ?_;rintro _ ea ⟨rfl,cs⟩;have a6:=E.up cs.ai;refine⟨_,rfl,bg (fun g=>?_) fun g=>?_⟩
  ·rw[if_pos g];exact⟨rfl,x,fin (z:=x) a6⟩
  rw[if_neg (by rw[g];decide)];refine(Ml iL #[] #[vN (some u),vN (some f)] N x m G live (by rfl) (fun Bs h' i=>⟨tX Bs h' i,tT Bs h' i,tL Bs h' i⟩) S (by omega) D a6).mono ?_;rintro _ eb ⟨rfl,U⟩;obtain⟨m1,b9⟩:∃m1,m1=makes m N live w ds:=⟨_,rfl⟩
  rw[<-b9]at U⊢;refine⟨_,rfl,bQ (fun g2=>?_) fun g2=>?_⟩
  ·rw[if_pos g2];exact⟨rfl,x,fin (z:=x) U⟩
  rw[if_neg (by simpa using g2)];refine⟨r,(tB.at [_] U).cell0 rfl,(Hk r ys l tF (by omega) dr U).mono ?_⟩;rintro _ d4 ⟨rfl,V⟩;obtain⟨r2,dx⟩:∃r2,r2=layAll l m1.2.1 m1.2.2:=⟨_,rfl⟩
  rw[<-dx]at V⊢;refine⟨_,rfl,bQ (fun g3=>?_) fun g3=>?_⟩
  ·rw[if_pos g3];exact⟨rfl,x,fin (z:=x) V⟩
  rw[if_neg (by simpa using g3)];refine⟨y,(tM.at [_] V).aQ _ rfl,(Mn x y n G live (fun Bs h' i=>⟨tY Bs h' i,tL Bs h' i⟩) a0 (by omega) D V).mono ?_⟩;rintro _ ek ⟨rfl,Q1,Q0⟩;refine⟨_,rfl,rfl,?_⟩;by_cases g4:(layAll (bx n live) r2.2.1 r2.2.2).1=0
  ·obtain⟨y2,bd⟩:=Q0 g4;rw[if_pos g4];rw[R]at bd;exact⟨y2,bd.bo 9 [0,1]⟩
  ·rw[if_neg g4];exact⟨x,fin (z:=x) (Q1 g4)⟩
end
theorem Ms(n:Nat)(x:Int)(h:Heap)(p:n<=2^30):ac vV Bd #[vL vR n,vL vR x] h fun v h'=>∃(r:Sl) (l:List UInt8),v=vM r.ptr r.len r.cap/\l.length=n/\Sp h h' [an aD r 1 aC l]:=by
 refine xP n x ?_;unfold oy;refine av (fun t:Sl×Nat×List UInt8=>(t.1,(t.2.1:Int))) (fun t h'=>t.2.1<=n/\t.2.2.length=t.2.1/\Sp h h' [an aD t.1 1 aC t.2.2]) (fun t=>n-t.2.1) (⟨none,0,0⟩,0,[]) rfl ⟨by simp,rfl,(Sp.refl h).nil aD 1 aC⟩ ?_;rintro⟨o,i,l⟩ m ⟨j,g,a⟩;dsimp only at*;refine ak (fun e=>?_) fun e=>?_
 ·have d:i<n:=by omega
  refine⟨by decide,Int.tmod_nonneg _ (by omega),?_⟩;rw[dM];generalize b8 (qc vR _)=c;refine a.push ae 0 rfl fP rfl (by decide) (fun _=>rfl) ge c rfl (by decide) (by omega) fun f k b=>?_;refine⟨(f,i+1,l++[c]),by dsimp only;rw[Go.Vc.wrap_small _ (by omega) (by omega)];rfl,⟨by dsimp only;omega,?_,b⟩,by dsimp only;omega⟩;simp[g]
 ·exact⟨o,l,rfl,by omega,a⟩
end Go.Proofs.YtdhamoojccmbdaaGreatDoor
namespace Go.Vc
open Go Wl Go.Proofs.YtdhamoojccmbdaaGreatDoor
section
variable {α:Type} {B:aA} {h0 h:Heap} {As:List HP} {k:Nat} {f:α->List Value} {L M:List (Sl×List α)}
theorem aa.acO(H:aa B h0 h (eM k f L::eM k f M::As)):aa B h0 h (eM k f (L++M)::As):=by
 have g:aa B h0 h ((eM k f M).sep (eM k f L)::As):=H.oX;refine g.gf 0 rfl fun q ⟨i,j,_,b,c,d,e⟩ y a=>?_;rcases qE.1 a with a|a
 ·exact(e y a).mono c
 ·exact(d y a).mono b
end
end Go.Vc
namespace Wl
open Go
def Ea(o b:Int)(a:List dj):List (Int×List UInt8):=(a.filter fun r=>decide (r.object=o)&&decide (r.block=b)).map fun r=>(r.id,r.data)
def xJ(m:aG)(o b:Int)(l:List (List UInt8)):List (Int×List UInt8):=((kR m l).filter fun r=>decide (r.object=o)&&decide (r.block=b)).map fun r=>(r.id,r.data)
def th(m:aG)(ds:bc)(o b:Int)(k:Int):List (Int×List UInt8):=match cb ds k with|some d=>xJ m o b d.l|none=>[]
def ic(m:aG)(ds:bc)(a:List Int)(o b:Int):List (Int×List UInt8):=a.flatMap (th m ds o b)
end Wl
namespace Go.Proofs.YtdhamoojccmbdaaGreatDoor
open Go Go.Vc Go.Proofs Wl
abbrev agK:bN C.toBR KY jm 2 [vL vR 0,vM none 0 0] 32:=⟨_,_,rfl,rfl,rfl,rfl,rfl,rfl⟩
def Yj(pool:List (Sl×List UInt8))(p:(Int×Sl)×(Int×List UInt8)):Prop:=p.1.1=p.2.1/\(p.1.2,p.2.2)∈pool
section
variable {B:aA} {h0 h:Heap} {As:List HP} {a pw:Addr} {offs:Int} {da:List (Option Addr)} {w:Pow} {ds:bc} {mc:List Value}
theorem TB(x:cg)(m:aG)(s:Sl)(f:List Int)(o b:Int)(hx:eG h x m)(hz:db m)(hs:Rd h s 1 aE f)(hl:f.length<=2^10)(hd:∀k∈f,∃d,cb ds k=some d)(H:aa B h0 h (bm bz a pw mc offs da w ds::As)):
  ac vV Nw #[.func (.func cZ) #[vN (some a)] #[],vM s.ptr s.len s.cap,ft x,vL vR o,vL vR b] h fun v h'=>∃(r:Sl) (ys:List (Int×Sl)),v=vM r.ptr r.len r.cap/\Sp h h' [cH kC 2 piv r ys (ic m ds f o b)]:=by
 refine Lh (cZ,#[vN (some a)],#[]) s x o b ?_;unfold Ez;have br:=hs.len;refine(Sp.refl h).boxed fun a1 S H1=>?_;have H1:Sp h S [au a1 aB (aV x)]:=H1;have H1:Sp h S [an jm ⟨none,0,0⟩ 2 piv (([]:List ((Int×Sl)×(Int×List UInt8))).map qK),eM 1 aC [],au a1 aB (aV x)]:=((H1.Ww 1 aC).nil jm 2 piv).bV [2,0,1];refine av (fun t:Sl×Nat×List ((Int×Sl)×(Int×List UInt8))×List (Sl×List UInt8)=>(t.1,(t.2.1:Int))) (fun t h'=>t.2.1<=f.length/\t.2.2.1.length<=t.2.1*512/\t.2.2.1.map zA=ic m ds (f.take t.2.1) o b/\(∀p∈t.2.2.1,Yj t.2.2.2 p)/\Sp h h' [an jm t.1 2 piv (t.2.2.1.map qK),eM 1 aC t.2.2.2,au a1 aB (aV x)]) (fun t=>f.length-t.2.1) (⟨none,0,0⟩,0,[],[]) rfl ⟨by simp,by simp,by simp[ic],by simp,H1⟩ ?_;rintro⟨u,i,L,P⟩ h2 ⟨hi,a8,N,V,H2⟩;dsimp only at*;refine ak (fun e=>?_) fun e=>?_
 ·have X:i<f.length:=by omega
  refine(Seq.up hs H2.ai).bv i rfl X f[i] rfl (ba ?_);obtain⟨d,F⟩:=hd f[i] (qg X);have Hc:=H.up H2.ai;obtain⟨ok,hb⟩:=aa.cJ Hc;have A:=H2.box 2 rfl;refine⟨x,A.aQ _ rfl,eU (by rfl) ?_⟩;refine(sh f[i] ok hb).mono ?_;rintro _ h3 ⟨rfl,rfl⟩;refine⟨_,rfl,⟨A.cell0 rfl,A.cell rfl,A.cell rfl,A.cell rfl,A.cell rfl,A.cell rfl,A.cell rfl,A.cell rfl,trivial⟩,?_⟩;rcases oh ok f[i]with⟨c1,c2⟩|⟨n,d',bb,c0,c1,c2,c3,c4,c5⟩
  ·rw[F]at c1;cases c1
  have ad:d=d':=by rw[c3]at F;injection F with F;exact F.symm
  subst ad;rw[c5];obtain⟨bl,E,H3⟩:=Go.Vc.aa.mF Hc c2;rw[c4]at E;injection E with E
  injection E with E
  subst E;obtain⟨Y,sd,bd,ab⟩:=aa.ux H3;have a6:=Y.len;have a4:=Y.room;refine(Hl bb pw d sd bd x m h3 (ab.box 0 rfl) ((ab.bo 2 [1]).OE fun _=>rfl) Y (hx.up H2.ai) hz).mono ?_;rintro _ h4 ⟨r7,G,rfl,R4⟩;have a3:=AO m d.l;obtain⟨c,J⟩:∃c,c=kR m d.l:=⟨_,rfl⟩
  rw[<-J]at R4 a3;have H4:=(H2.cY R4).bo 4 [1,2,0,3];have F4:=H4.eJ 2 rfl;have a9:=F4.2.1;have bk:=F4.1.len;refine⟨r7,rfl,trivial,?_⟩;have ao:th m ds o b f[i]=Ea o b c:=by unfold th;rw[F];show xJ m o b d.l=_;unfold xJ Ea;rw[J]
  have W:ic m ds (f.take (i+1)) o b=ic m ds (f.take i) o b++Ea o b c:=by
   unfold ic;rw[aH _ _ X,zb,zr,wO,qP,ao]
  obtain⟨Q,hQ⟩:∃Q:List (Sl×List UInt8),Q=(G.zip c).map fun z=>(z.1.2.2.2.2.2.2.2,z.2.data):=⟨_,rfl⟩
  refine av (fun t:Sl×Nat×List ((Int×Sl)×(Int×List UInt8))=>(t.1,(t.2.1:Int))) (fun t h'=>t.2.1<=c.length/\t.2.2.length<=L.length+t.2.1/\t.2.2.map zA=ic m ds (f.take i) o b++Ea o b (c.take t.2.1)/\(∀p∈t.2.2,Yj (P++Q) p)/\Sp h h' [an jm t.1 2 piv (t.2.2.map qK),eM 1 aC P,cH eI 8 bD r7 G c,au a1 aB (aV x)]) (fun t=>c.length-t.2.1) (u,0,L) rfl ⟨by simp,by simp,by simp[Ea,N],fun p R=>⟨(V p R).1,yA _ (V p R).2⟩,H4⟩ ?_;rintro⟨Z,j,L2⟩ h5 ⟨hj,a7,M,T,H5⟩;dsimp only at*;have F5:=H5.eJ 2 rfl;refine ak (fun e2=>?_) fun e2=>?_
  ·have ah:j<c.length:=by omega
   have am:=Fix.row F5 ah;obtain⟨⟨g1,g2,g3,g4,g5,g6,g7⟩,g8⟩:=am;refine F5.1.dD (g:=bD) j rfl (by omega) (G[j]'(by omega)) rfl ?_;refine H5.alloc ae rfl fun ay h6 H6=>?_;refine H6.storeAll ae 4 rfl rfl (bD (G[j]'(by omega))) rfl rfl rfl rfl fun h7 U=>?_;have U:Sp h h7 [an jm Z 2 piv (L2.map qK),eM 1 aC P,cH eI 8 bD r7 G c,au a1 aB (aV x),au ay aZ (bD (G[j]'(by omega)))]:=U;have K:=U.box 4 rfl;have O:Ea o b (c.take (j+1))=Ea o b (c.take j)++(if(decide (c[j].object=o)&&decide (c[j].block=b))=true then[(c[j].id,c[j].data)]else[]):=by
    unfold Ea;rw[aH _ _ ah,zh,qQ,zm,yO];split<;>rfl
   have skip:(decide (c[j].object=o)&&decide (c[j].block=b))=false->∃I:Sl×Nat×List ((Int×Sl)×(Int×List UInt8)),((⟨Z.ptr,Z.len,Z.cap⟩:Sl),qc vR ((j:Int)+1))=(I.1,(I.2.1:Int))/\(I.2.1<=c.length/\I.2.2.length<=L.length+I.2.1/\I.2.2.map zA=ic m ds (f.take i) o b++Ea o b (c.take I.2.1)/\(∀p∈I.2.2,Yj (P++Q) p)/\Sp h h7 [an jm I.1 2 piv (I.2.2.map qK),eM 1 aC P,cH eI 8 bD r7 G c,au a1 aB (aV x)])/\c.length-I.2.1<c.length-j:=fun hc=>
    ⟨(Z,j+1,L2),by dsimp only;rw[Go.Vc.wrap_small _ (by omega) (by omega)];rfl,⟨by dsimp only;omega,by dsimp only;omega,by dsimp only;rw[O,hc];simpa using M,T,U.bV [0,1,2,3]⟩,by dsimp only;omega⟩
   refine⟨c[j].object,by rw[<-g1];exact K.cell0 rfl,cx (fun q1=>?_) fun q1=>skip (by rw[decide_eq_false q1];rfl)⟩;refine⟨c[j].block,by rw[<-g2];exact K.cell rfl,cx (fun q2=>?_) fun q2=>skip (by rw[decide_eq_false q2,Bool.and_false])⟩;refine⟨c[j].id,by rw[<-g3];exact K.cell rfl,(G[j]'(by omega)).2.2.2.2.2.2.2,K.cell rfl,?_⟩;refine U.push ae 0 rfl agK rfl (by decide) (fun _=>rfl) Of (c[j].id,(G[j]'(by omega)).2.2.2.2.2.2.2) (by kernel_rfl) (by decide) (by simp;omega) fun u3 b0 ax=>?_;refine⟨(u3,j+1,L2++[((c[j].id,(G[j]'(by omega)).2.2.2.2.2.2.2),(c[j].id,c[j].data))]),by dsimp only;rw[Go.Vc.wrap_small _ (by omega) (by omega)];rfl,⟨by dsimp only;omega,by simp;omega,?_,fun p R=>?_,?_⟩,by dsimp only;omega⟩
   ·dsimp only;rw[qQ,M,O,if_pos (by rw[decide_eq_true q1,decide_eq_true q2];rfl),qo];rfl
   ·rcases qE.1 R with R|R
    ·exact T p R
    ·rw[qG.1 R];refine⟨rfl,wF _ ?_⟩;rw[hQ];refine qx.2 ⟨(G[j]'(by omega),c[j]),?_,rfl⟩;rw[<-yK (h:=by simp;omega)];exact qg _
   ·dsimp only;rw[qQ];exact ax.bV [0,1,2,3]
  ·have ap:j=c.length:=by omega
   subst ap;rw[qR,<-W]at M;have a5:=F5.2.1;have H6:=(H5.gf 2 rfl (D:=eM 1 aC Q) fun q hq y hy=>by
    rw[hQ]at hy;obtain⟨z,a2,rfl⟩:=qx.1 hy;obtain⟨k,hk,rfl⟩:=qF a2;have a0:k<c.length:=by simp at hk;omega
    have:=(Fix.row hq a0).2;rw[yK];exact this).bV [1,2,0,3]
   have U:=aa.acO H6;refine⟨(Z,i+1,L2,P++Q),by dsimp only;rw[Go.Vc.wrap_small _ (by omega) (by omega)];rfl,⟨by dsimp only;omega,by dsimp only;omega,M,T,U.bV [1,0,2]⟩,by dsimp only;omega⟩
 ·rw[qi (by omega)]at N;refine⟨u,L.map qK,rfl,?_⟩;have H3:=((H2.freeze 0 rfl fun _=>rfl).bV [1,0]).oX;refine H3.gf 0 rfl fun q ⟨q1,q2,_,bq,cq,z1,z2⟩=>?_;refine⟨z1.mono bq,by rw[<-N];simp,fun j r e S h2=>?_⟩;rw[<-N]at h2;rw[qN]at S h2;cases hj:L[j]? with
  |none=>rw[hj]at S;cases S
  |some p=>
   rw[hj]at S h2;have e1:=zJ.inj (show some p.1=some r from S);have e2:=zJ.inj (show some p.2=some e from h2);subst e1;subst e2;obtain⟨k1,k2⟩:=V p (ya hj);exact⟨k1,(z2 _ k2).mono cq⟩
end
end Go.Proofs.YtdhamoojccmbdaaGreatDoor
namespace Wl
open Go
end Wl
namespace Go.Proofs.YtdhamoojccmbdaaGreatDoor
open Go Go.Vc Go.Proofs Wl
section
variable {B:aA} {h0 h:Heap} {As:List HP} {a pw:Addr} {offs:Int} {da:List (Option Addr)} {w:Pow} {ds:bc}
theorem Yk(m:aG)(o b:Int)(l:List (List UInt8)):(xJ m o b l).length<=l.length:=by
 unfold xJ;rw[qw];exact zl (q7 _ _) (AO m l)
end
end Go.Proofs.YtdhamoojccmbdaaGreatDoor
namespace Wl
open Go
def Pow.calm(w:Pow):Prop:=w.off=false/\w.fuse=none
theorem Eb:Pow.new.calm:=⟨rfl,rfl⟩
theorem tj{w:Pow}(h:w.calm):w.step=(true,w):=by unfold Pow.step;rw[if_neg (by simp[h.1]),h.2]
theorem Ji{w:Pow}(h:w.calm)(ds:bc)(x:Int)(b:List UInt8):(fe w ds x b).2.1=w:=by
 unfold fe;cases cb ds x with
 |none=>rfl
 |some d=>
  dsimp only;unfold bE.append;split
  ·rfl
  ·split
   ·rfl
   ·split
    ·rfl
    ·split
     ·rfl
     ·rw[tj h];rfl
theorem Py{w:Pow}(h:w.calm)(ds:bc)(x:Int):(gP w ds x).2.1=w:=by
 unfold gP;cases cb ds x with
 |none=>rfl
 |some d=>
  dsimp only;unfold bE.sync;split
  ·rfl
  ·rw[tj h];rfl
theorem pP{w:Pow}(h:w.calm):∀(l:List (Int×List UInt8)) (ds:bc),(kq l w ds).2.1=w
 |[],_=>rfl
 |x::l,ds=>by
  rw[uX,Ji h];split
  ·exact pP h l _
  ·exact Ji h _ _ _
theorem Mt{w:Pow}(h:w.calm):∀(l:List Int) (ds:bc),(kh l w ds).2.1=w
 |[],_=>rfl
 |x::l,ds=>by
  rw[Dl,Py h];split
  ·exact Mt h l _
  ·exact Py h _ _
theorem acP{w:Pow}(h:w.calm)(l:List (Int×List UInt8))(ds:bc):(layAll l w ds).2.1=w:=by
 unfold layAll;dsimp only;rw[pP h];split
 ·exact Mt h _ _
 ·exact pP h _ _
theorem VG{w:Pow}{d:bE}{n:Nat}{b:List UInt8}(h:w.calm)(a:d.lost=false)(c:d.l.length+(n+1)<=d.room)(e:b.length=64):d.append w b=(0,w,{d with l:=d.l++[b],wait:=d.wait+1,laid:=[],has:=false}):=by
 unfold bE.append;rw[if_neg (by omega),if_neg (by simp[a]),if_neg (by omega),if_neg (by simp[h.1]),tj h];rfl
theorem aaM{w:Pow}{d:bE}(h:w.calm)(a:d.lost=false):d.sync w=(0,w,{d with wait:=0,laid:=[],has:=false}):=by
 unfold bE.sync;rw[if_neg (by simp[a]),tj h];rfl
theorem afQ{ds:bc}{s:Int}{d:bE}(h:cb ds s=some d):0<=s/\s<64:=by
 obtain⟨n,rfl,a⟩:=oO h;omega
def Mu(ds:bc)(P:List (Int×List UInt8))(s:Int):Option bE:=
 (cb ds s).map fun d=>{d with l:=d.l++(P.filter (fun x=>decide (x.1=s))).map zA,wait:=d.wait+(P.filter (fun x=>decide (x.1=s))).length,laid:=if(P.filter (fun x=>decide (x.1=s))).isEmpty then d.laid else[],has:=if(P.filter (fun x=>decide (x.1=s))).isEmpty then d.has else false}
theorem Hu{w:Pow}(h:w.calm){S:List Int}:∀(P:List (Int×List UInt8)) (ds:bc),Fit ds S (P.map qK)->(∀x∈P,x.1∈S/\x.2.length=64)->
  (kq P w ds).1=0/\Fit (kq P w ds).2.2 S []/\∀s,cb (kq P w ds).2.2 s=Mu ds P s
 |[],ds,F,_=>⟨rfl,F,fun s=>by unfold Mu;show cb ds s=_;cases cb ds s<;>simp⟩
 |x::P,ds,F,hP=>by
  obtain⟨d,f,q,m⟩:=F.at_ x.1 (hP x (q8 ..)).1;rw[w4,List.count_cons_self]at m;have i:=(hP x (q8 ..)).2;obtain⟨n,j,a⟩:=oO f;have g:=VG (n:=(P.map qK).count x.1) h q (by omega) i;have e:fe w ds x.1 x.2=(0,w,kO ds x.1 {d with l:=d.l++[x.2],wait:=d.wait+1,laid:=[],has:=false}):=by
   unfold fe;rw[f];dsimp only;rw[g]
  obtain⟨_,c⟩:=QC w x.2 (x:=x.1) (Q:=P.map qK) F (hP x (q8 ..)).1 i;rw[uX,e];rw[e]at c;dsimp only at c⊢;rw[if_pos rfl];obtain⟨o,p,a3⟩:=Hu h P _ c fun y k=>hP y (qU _ k);refine⟨o,p,fun s=>?_⟩;rw[a3 s];unfold Mu;rw[j,CR _ _ _ _ a F.len,<-j];by_cases b:s=x.1
  ·rw[if_pos b,b,f];simp only[qO,zm,decide_true,if_true,w4,zi,qo,List.singleton_append,List.isEmpty_cons,zd,if_false];congr 1;simp only[bE.mk.injEq,true_and,and_true];refine⟨by omega,?_,?_⟩<;>split<;>rfl
  ·rw[if_neg b];simp only[zm,decide_eq_true_eq,if_neg (show¬x.1=s from fun r=>b r.symm)]
theorem Mw{w:Pow}(h:w.calm){S:List Int}:∀(l:List Int) (ds:bc),Fit ds S []->(∀x∈l,x∈S)->
  (kh l w ds).1=0/\Fit (kh l w ds).2.2 S []/\∀s,cb (kh l w ds).2.2 s=(cb ds s).map fun d=>if s∈l then{d with wait:=0,laid:=[],has:=false}else d
 |[],ds,F,_=>⟨rfl,F,fun s=>by show cb ds s=_;cases cb ds s<;>simp⟩
 |x::l,ds,F,hl=>by
  obtain⟨d,f,m,o⟩:=F.at_ x (hl x (q8 ..));obtain⟨n,g,a⟩:=oO f;have e:gP w ds x=(0,w,kO ds x {d with wait:=0,laid:=[],has:=false}):=by
   unfold gP;rw[f];dsimp only;rw[aaM h m]
  obtain⟨_,c⟩:=VA w F (hl x (q8 ..));rw[Dl,e];rw[e]at c;dsimp only at c⊢;rw[if_pos rfl];obtain⟨j,k,a3⟩:=Mw h l _ c fun y i=>hl y (qU _ i);refine⟨j,k,fun s=>?_⟩;rw[a3 s,g,CR _ _ _ _ a F.len,<-g];by_cases b:s=x
  ·subst b;rw[if_pos rfl,f];simp only[qO,zc,true_or,if_true];congr 1;split<;>rfl
  ·rw[if_neg b];cases cb ds s with
   |none=>rfl
   |some d'=>simp[b]
end Wl
namespace Go.Proofs.YtdhamoojccmbdaaGreatDoor
open Go Go.Vc Go.Proofs Wl
section
variable {B:aA} {h0 h h':Heap} {As:List HP} {a:Addr} {w:Pow}
end
section
variable {B:aA} {h0 h h':Heap} {As:List HP} {a pw:Addr} {d:bE} {w:Pow}
end
section
variable {B:aA} {h0 h h':Heap} {As:List HP}
end
end Go.Proofs.YtdhamoojccmbdaaGreatDoor
namespace Wl
open Go
end Wl
namespace Go.Proofs.YtdhamoojccmbdaaGreatDoor
open Go Go.Vc Go.Proofs Wl
end Go.Proofs.YtdhamoojccmbdaaGreatDoor
namespace Wl
open Go
end Wl
namespace Go.Proofs.YtdhamoojccmbdaaGreatDoor
open Go Go.Vc Go.Proofs Wl
end Go.Proofs.YtdhamoojccmbdaaGreatDoor
namespace Wl
open Go
end Wl
namespace Go.Vc
open Go Wl
end Go.Vc
namespace Go.Proofs.YtdhamoojccmbdaaGreatDoor
open Go Go.Vc Go.Proofs Wl
section
variable {B:aA} {h0 h h':Heap} {As:List HP} {a pw:Addr} {mc:List Value} {offs:Int} {da:List (Option Addr)} {w:Pow} {ds:bc}
end
section
variable {B:aA} {h0 h h':Heap} {As:List HP} {a pw:Addr} {mc:List Value} {offs:Int} {da:List (Option Addr)} {w:Pow} {ds:bc}
end
end Go.Proofs.YtdhamoojccmbdaaGreatDoor
namespace Go.Vc
open Go Wl Go.Proofs.YtdhamoojccmbdaaGreatDoor
def xK(p:Pm)(extra:Int)(l:List Int):Int:=
 if(eO l).2&&(bM p&&eS extra 0 16)then
  if(bj l l.length).any fun i=>decide (l.getD i.toNat 0<((bh (cu p extra l)).length:Int))then 7 else 0
 else 1
theorem Yl(p:Pm)(extra:Int)(w:Pow)(l:List Int):eP p extra w l=if xK p extra l=0 then layAll (bx (cu p extra l) (bj l l.length)) w (gD l (bj l l.length).length)else(xK p extra l,w,[]):=by
 unfold eP xK;by_cases h:((eO l).2&&(bM p&&eS extra 0 16))=true
 ·rw[if_pos h,if_pos h];by_cases a:((bj l l.length).any fun i=>decide (l.getD i.toNat 0<((bh (cu p extra l)).length:Int)))=true
  ·rw[if_pos a,if_pos a];rfl
  ·rw[if_neg a,if_neg a];rfl
 ·rw[if_neg h,if_neg h];rfl
theorem Mx{p:Pm}{extra:Int}{l:List Int}(h:xK p extra l=0):bM p=true/\0<=extra/\extra<=16/\(eO l).2=true/\((bj l l.length).any fun i=>decide (l.getD i.toNat 0<((bh (cu p extra l)).length:Int)))=false:=by
 unfold xK at h;by_cases a:((eO l).2&&(bM p&&eS extra 0 16))=true
 ·rw[if_pos a]at h;by_cases b:((bj l l.length).any fun i=>decide (l.getD i.toNat 0<((bh (cu p extra l)).length:Int)))=true
  ·rw[if_pos b]at h;cases h
  ·unfold eS at a;simp only[qy,decide_eq_true_eq]at a;exact⟨a.2.1,a.2.2.1,a.2.2.2,a.1,by simpa using b⟩
 ·rw[if_neg a]at h;cases h
end Go.Vc
namespace Go.Proofs.YtdhamoojccmbdaaGreatDoor
open Go Go.Vc Go.Proofs Wl
end Go.Proofs.YtdhamoojccmbdaaGreatDoor
namespace Wl
def mJ(m:aG)(l:List (List UInt8)):Bool:=bS m&&(bh m).all fun p=>decide (p∈l)
end Wl
namespace Go.Proofs.YtdhamoojccmbdaaGreatDoor
open Go Go.Vc Go.Proofs Wl
theorem aaN(a:Addr)(e:Sl)(p:List UInt8)(l:Sl)(b:Cells)(h:Heap)(t:cw h a aF [vM e.ptr e.len e.cap])(o:Rd h e 1 aC p)(n:gg h l 1 aC b)(w:b.length<=2^30):
  ac vV mP #[vM l.ptr l.len l.cap,.func (.func pu) #[] #[vN (some a)]] h fun v h'=>v=vP (decide (p∈b))/\h'=h:=by
 refine mv l (pu,#[],#[vN (some a)]) ?_;unfold iE;refine(nN l (pu,#[],#[vN (some a)]) (R:=fun v h'=>(∃i:Int,v=vL vR i/\(decide (i>=0)=decide (p∈b)))/\h'=h) ?_).mono ?_
 ·unfold jw;have s:=n.len;refine av (fun i:Nat=>(i:Int)) (fun i h'=>i<=b.length/\p∉b.take i/\h'=h) (fun i=>b.length-i) 0 rfl ⟨by omega,by simp,rfl⟩ ?_;rintro i j ⟨m,c,rfl⟩;refine ak (fun g=>?_) (fun g=>?_)
  ·have d:i<b.length:=by
    have u:(i:Int)<(l.len:Int):=g;omega
   refine n.get i rfl d fun r q=>eU (by rfl) ?_;refine(JF r a (R:=fun v h'=>v=vP (decide (b[i]=p))/\h'=j) ?_).mono ?_
   ·unfold Ch;refine⟨e,t.cell0 rfl,(xy r e b[i] p j q o).mono ?_⟩;rintro _ _ ⟨rfl,rfl⟩;exact⟨_,rfl,rfl,rfl⟩
   ·rintro _ _ ⟨rfl,rfl⟩;refine⟨_,rfl,ak (fun k=>⟨⟨i,rfl,?_⟩,rfl⟩) (fun k=>?_)⟩
    ·rw[decide_eq_true (show(i:Int)>=0 by omega),decide_eq_true (by rw[<-k];exact qg d)]
    ·refine⟨i+1,by rw[Go.Vc.wrap_small _ (by omega) (by omega)];rfl,⟨by omega,fun f=>?_,rfl⟩,by omega⟩;rw[aH _ _ d]at f;rcases qE.1 f with f|f
     ·exact c f
     ·exact k (qG.1 f).symm
  ·have u:¬(i:Int)<(l.len:Int):=g;rw[qi (by omega)]at c;exact⟨⟨-1,rfl,by rw[decide_eq_false c];rfl⟩,rfl⟩
 ·rintro _ j ⟨⟨i,rfl,m⟩,rfl⟩;exact⟨i,rfl,by rw[m],rfl⟩
theorem Ym(a pw:Addr)(d:bE)(s b:Sl)(x:cg)(m:aG)(h:Heap)(L:cw h a cC (gJ pw d s b))(Y:gg h s 1 aC d.l)(ok:gc d)(O:eG h x m)(E:db m):
  ac vV Eu #[vN (some a),ft x] h fun v h'=>v=vP (mJ m d.l)/\Sp h h' []:=by
 refine Nq (some a) x ?_;unfold Gp;have N:=ok.len;have I:=ok.room;refine(Sp.refl h).boxed fun A M y=>?_;have y:Sp h M [au A aB (aV x)]:=y;refine⟨x,(y.box 0 rfl).aQ _ rfl,(Ka x m M (O.up y.ai) E).mono ?_⟩;rintro _ R ⟨rfl,Q⟩;have z:Sp h R [au A aB (aV x)]:=y.up Q.ai;refine⟨_,rfl,bg (fun g=>⟨by unfold mJ;rw[g];rfl,.zip z.ai⟩) fun g=>?_⟩;refine(SY s b (L.ai z.ai L.lt) (Y.up z.ai) ok).mono ?_;rintro _ h3 ⟨o,rfl,U⟩;have D:Sp h h3 [au A aB (aV x),dP o d.l]:=z.comp U;refine⟨o,rfl,x,(D.box 0 rfl).aQ _ rfl,(mV x m h3 (O.up D.ai) E).mono ?_⟩;rintro _ S ⟨q,rfl,T⟩;have u:Sp h S [au A aB (aV x),dP o d.l,dP q (bh m)]:=D.comp T;have H:=jM m E;obtain⟨c,k⟩:∃c,c=bh m:=⟨_,rfl⟩
 rw[<-k]at u H;have V:=(aa.Dk (u.bo 3 [2])).1;refine⟨q,rfl,?_⟩;obtain⟨rs,u⟩:=(u.bV [2,1]).act fun _=>rfl;refine av (fun i:Nat=>(i:Int)) (fun i h'=>i<=c.length/\((c.take i).all fun p=>decide (p∈d.l))=true/\Sp h h' [cH (gh 1 aC) 1 bI q rs c,dP o d.l]) (fun i=>c.length-i) 0 rfl ⟨by omega,by simp,u⟩ ?_;rintro i h5 ⟨Z,f,B⟩;have P:=(B.eJ 0 rfl).2.1;refine ak (fun e=>?_) (fun e=>?_)
 ·have n:i<c.length:=by
   have X:(i:Int)<(q.len:Int):=e;omega
  refine(B.eJ 0 rfl).1.nX i rfl (by omega) ?_;obtain⟨r,K⟩:∃r,r=rs[i]'(by omega):=⟨_,rfl⟩
  rw[<-K];refine B.alloc ae rfl fun t h6 W=>?_;refine W.storeAll ae 2 rfl rfl [vM r.ptr r.len r.cap] rfl rfl rfl rfl fun F j=>?_;have j:Sp h F [cH (gh 1 aC) 1 bI q rs c,dP o d.l,au t aF [vM r.ptr r.len r.cap]]:=j;have w:Rd F r 1 aC c[i]:=by rw[K];exact Fix.row (j.eJ 0 rfl) n
  have G:=aa.OE (j.bo 2 [1]) fun _=>rfl;refine(aaN t r c[i] o d.l F (j.box 2 rfl) w G (by omega)).mono ?_;rintro _ h8 ⟨rfl,rfl⟩;refine⟨_,rfl,bg (fun J=>⟨?_,.zip j.ai⟩) fun J=>?_⟩
  ·have:mJ m d.l=false:=by
    unfold mJ;rw[g,zS,<-k];exact ye.2 ⟨c[i],qg n,by rw[J];simp⟩
   rw[this]
  ·refine⟨i+1,by rw[Go.Vc.wrap_small _ (by omega) (by omega)];rfl,⟨by omega,?_,j.bV [0,1]⟩,by omega⟩;rw[aH _ _ n,yz,f,vI,List.all_nil,J];rfl
 ·have:i=c.length:=by
   have X:¬(i:Int)<(q.len:Int):=e;omega
  subst this;rw[qR]at f;exact⟨by unfold mJ;rw[g,<-k,f];rfl,.zip B.ai⟩
end Go.Proofs.YtdhamoojccmbdaaGreatDoor
namespace Go.Vc
open Go Wl Go.Proofs.YtdhamoojccmbdaaGreatDoor
theorem acQ{w:Pow}(h:w.calm){S:List Int}(P:List (Int×List UInt8))(ds:bc)(F:Fit ds S (P.map qK))(b:∀x∈P,x.1∈S/\x.2.length=64):
  (layAll P w ds).1=0/\Fit (layAll P w ds).2.2 S []/\∀s,cb (layAll P w ds).2.2 s=(Mu ds P s).map fun d=>if s∈fE (P.map qK)then{d with wait:=0,laid:=[],has:=false}else d:=by
 obtain⟨g,j,a3⟩:=Hu h P ds F b;have l:=pP h P ds;unfold layAll;dsimp only;rw[if_pos g,l];obtain⟨k,i,f⟩:=Mw h (S:=S) (fE (P.map qK)) (kq P w ds).2.2 j fun x c=>by
  unfold fE at c;have a:=(qI.1 c).2;obtain⟨y,e,rfl⟩:=qx.1 (of_decide_eq_true a);exact(b y e).1
 exact⟨k,i,fun s=>by rw[f s,a3 s]⟩
theorem EY(l:List Int)(k:Nat):(bj l k).Pairwise (·<·):=by
 unfold bj;refine List.Pairwise.filter _ (vk.2 ?_);exact(List.pairwise_lt_range (n:=k)).imp fun h=>by omega
theorem aeI{l:List Int}{a:Int}(d:l.Pairwise (·<·))(e:∀x∈l,0<=x/\x<=a):oZ l a=true:=by
 unfold oZ;refine tw fun i b=>?_;unfold jg eS;have f:l.getD i 0=l[i]:=by rw[qe,qd b];rfl
 have:=e l[i] (qg b);rw[f,decide_eq_true this.1,decide_eq_true this.2,zS,zS];by_cases h0:i=0
 ·rw[decide_eq_true h0];rfl
 ·have c:l.getD (i-1) 0=l[i-1]:=by rw[qe,qd (by omega)];rfl
  rw[c,decide_eq_true (zq.1 d (i-1) i (by omega) b (by omega)),Bool.or_true]
theorem TC{p:Pm}{extra:Int}{l:List Int}(h:l.length<=64)(e:xK p extra l=0):bS (cu p extra l)=true:=by
 obtain⟨b,d,h3,_⟩:=Mx e;have f:ki (cu p extra l)=true:=by
  unfold ki eS cu;simp[b,d,h3]
 have c:oZ (cu p extra l).drives 63=true:=aeI (EY l l.length) fun x a=>by
  obtain⟨n,g,rfl,_⟩:=(xA l l.length x).1 a;omega
 unfold bS;rw[f,c];rfl
theorem QF(p:Pm)(extra:Int)(l:List Int)(b:l.length<=24):(bh (cu p extra l)).length<=1:=by
 unfold bh gM;rw[qw,zt];have a:=pL l l.length;have:(ga (cu p extra l)).length<=19+24:=by
  unfold ga;split
  ·simp only[qu,ci,zi,yj,qw,cu,wO];omega
  ·simp
 omega
end Go.Vc
namespace Wl
open Go
end Wl
namespace Go.Vc
open Go Wl Go.Proofs.YtdhamoojccmbdaaGreatDoor
theorem aaO(l:List (Int×List UInt8))(k:Int):(l.map qK).count k=(l.filter fun y=>decide (y.1=k)).length:=by
 induction l with
 |nil=>rfl
 |cons y l ih=>
  rw[w4,List.count_cons,ih,zm];by_cases h:y.1=k
  ·rw[if_pos (decide_eq_true h),if_pos (by simpa using h)];rfl
  ·rw[if_neg (by simpa using h),if_neg (by simpa using h)];rfl
theorem Hv(n:aG)(k:Int):∀{live:List Int},live.Nodup->k∈live->((bx n live).filter fun y=>decide (y.1=k)).map zA=bh n
 |[],_,hk=>by cases hk
 |x::live,hnd,hk=>by
  have e:bx n (x::live)=(bh n).map (fun c=>(x,c))++bx n live:=by unfold bx;rw[zr]
  obtain⟨i,b⟩:=yi.1 hnd;rw[e,zh,qQ];by_cases a:x=k
  ·subst a;have f:((bh n).map (fun c=>(x,c))).filter (fun y=>decide (y.1=x))=(bh n).map (fun c=>(x,c)):=wg.2 fun y d=>by
    obtain⟨c,_,rfl⟩:=qx.1 d;exact decide_eq_true rfl
   have j:(bx n live).filter (fun y=>decide (y.1=x))=[]:=wA.2 fun y d=>by
    have:=(ka d).1;have g:y.1≠x:=fun h=>i (h▸this);simpa using g
   rw[f,j,vn,qP,wK];exact List.map_id _
  ·have f:((bh n).map (fun c=>(x,c))).filter (fun y=>decide (y.1=k))=[]:=wA.2 fun y d=>by
    obtain⟨c,_,rfl⟩:=qx.1 d;simpa using a
   rw[f,vn,zV];rcases zc.1 hk with h|h
   ·exact absurd h.symm a
   ·exact Hv n k b h
end Go.Vc
namespace Go.Proofs.YtdhamoojccmbdaaGreatDoor
open Go Go.Vc Go.Proofs Wl
theorem aeJ{p:Pm}{seed:Int}{d:Row}{K H w n:Nat}(B:bT p seed d K H w n)(id:Int):xH p seed d id=if bR id then fl w (eE p seed d) (cV n seed id)else[]:=by
 unfold xH;rw[B.pj,show p.2.2.toNat=w by have:=B.s;omega]
theorem TD{m:aG}{o i seed:Int}{d:Row}{id:Int}{K H w n:Nat}(B:bT m.p seed d K H w n)(b:0<=o/\o<=16777215)(c:0<=i/\i<=7)(hid:0<=id/\id<=65535):iK (lc m o i seed d id)=true:=by
 rw[jV];refine⟨b,c,hid,B.may,?_⟩;have a:bR id=true:=by unfold bR;rw[decide_eq_true hid.1,decide_eq_true hid.2];rfl
 show((xH m.p seed d id).length:Int)=m.p.2.2;rw[aeJ B id,if_pos a,B.ZH id,B.s]
def rR(m:aG)(o:Int)(a:List Int)(b:List (List UInt8))(live:List Int)(k:Int)(i:Nat):List dj:=
 ((qC (m.p.1+m.extra).toNat).filter fun id=>decide (tg (gT o i live) (id:Nat)=k)).map fun id:Nat=>lc m o i (cK o i (a.getD i 0)) (b.getD i []) id
def jc(m:aG)(o:Int)(a:List Int)(b:List (List UInt8))(live:List Int)(k:Int)(n:Nat):List dj:=(qC n).flatMap (rR m o a b live k)
theorem TE(m:aG)(o:Int)(a:List Int)(b:List (List UInt8))(live:List Int)(k:Int)(n:Nat):jc m o a b live k (n+1)=jc m o a b live k n++rR m o a b live k n:=by
 unfold jc;rw[zF,zb,zr,wO,qP]
theorem TF(m:aG)(o:Int)(a:List Int)(b:List (List UInt8))(live:List Int)(k:Int)(i:Nat):((mI m o a b live i).filter fun y=>decide (y.1=k)).map zA=(rR m o a b live k i).map dJ:=by
 unfold mI rR;rw[List.filter_map,wK,wK];rfl
theorem EZ(m:aG)(o:Int)(a:List Int)(b:List (List UInt8))(live:List Int)(k:Int):∀n,((dp m o a b live n).filter fun y=>decide (y.1=k)).map zA=(jc m o a b live k n).map dJ
 |0=>by simp[dp,jc]
 |n+1=>by rw[tO,TE,zh,qQ,qQ,EZ m o a b live k n,TF]
theorem Yn{m:aG}{o:Int}{a:List Int}{b:List (List UInt8)}{live:List Int}{k:Int}{i:Nat}{r:dj}(h:r∈rR m o a b live k i):∃id:Nat,r=lc m o i (cK o i (a.getD i 0)) (b.getD i []) id/\id<(m.p.1+m.extra).toNat:=by
 unfold rR at h;obtain⟨id,c,rfl⟩:=qx.1 h;exact⟨id,rfl,qH.1 (qI.1 c).1⟩
theorem My{m:aG}{o:Int}{a:List Int}{b:List (List UInt8)}{live:List Int}{k:Int}{n:Nat}{r:dj}(h:r∈jc m o a b live k n):∃(i id:Nat),r=lc m o i (cK o i (a.getD i 0)) (b.getD i []) id/\i<n/\id<(m.p.1+m.extra).toNat:=by
 unfold jc at h;obtain⟨i,e,c⟩:=zO.1 h;obtain⟨id,d,h3⟩:=Yn c;exact⟨i,id,d,qH.1 e,h3⟩
end Go.Proofs.YtdhamoojccmbdaaGreatDoor
namespace Wl
open Go
def dQ(m:aG)(d:bE)(n:Int):bE:=if gZ d d.l.length n then d else{d with l:=jP m d.l,wait:=0,laid:=[],has:=false}
theorem Yo{m:aG}{r:dj}(h:dH m r=true):iK r=true:=by
 unfold dH at h;simp only[qy]at h;exact h.1
theorem acR{l:List dj}{r:dj}(h:r∈vZ l):r∈l:=by
 unfold vZ at h;obtain⟨i,a,rfl⟩:=qx.1 h;have a:=qH.1 (qI.1 a).1;rw[qe,qd a];exact qg a
theorem Yp{m:aG}{c:List UInt8}{r:dj}(h:jp m c=some r):dL c=some r/\dH m r=true:=by
 unfold jp at h;cases hc:dL c with
 |none=>rw[hc]at h;cases h
 |some x=>
  rw[hc]at h;dsimp only at h;by_cases a:dH m x=true
  ·rw[if_pos a]at h;injection h with h;subst h;exact⟨rfl,a⟩
  ·rw[if_neg a]at h;cases h
theorem Ec{m:aG}{l:List (List UInt8)}{r:dj}(h:r∈kR m l):∃c∈l,dL c=some r/\dH m r=true:=by
 have h:=yt.1 (acR h);obtain⟨c,a,b⟩:=List.mem_filterMap.1 h;exact⟨c,a,Yp b⟩
theorem Yq(m:aG)(l:List (List UInt8)):∀c∈jP m l,c.length=64:=fun c d=>by
 rcases qE.1 d with h|h
 ·exact Do h
 ·obtain⟨r,b,rfl⟩:=qx.1 h;obtain⟨_,_,_,a⟩:=Ec b;exact RH (Yo a)
theorem TG{w:Pow}(a:w.calm){d:bE}{l:List (List UInt8)}(g:∀c∈l,c.length=64)(e:d.lost=false)(h:l.length<=d.room):d.rewrite w l=(0,w,{d with l:=l,wait:=0,laid:=[],has:=false}):=by
 unfold bE.rewrite;have:l.all (fun b=>decide (b.length=64))=true:=qM.2 fun c f=>decide_eq_true (g c f);rw[if_neg (by simp[this]),if_neg (by simp[e]),if_neg (by omega),if_neg (by simp[a.1]),tj a];rfl
theorem Yr{w:Pow}(e:w.calm){m:aG}{d:bE}{n:Int}(h:pO m d n=true):iy m w d n=(0,w,dQ m d n):=by
 have h0:=h;unfold pO at h;rw[qy,wx,wV]at h;obtain⟨c,a⟩:=h;unfold iy dQ;rw[if_neg (by simp[c]),if_neg (by simp[h0])];by_cases b:gZ d d.l.length n=true
 ·rw[if_pos b,if_pos b]
 ·rw[if_neg b,if_neg b];have h3:gZ d (jP m d.l).length n=true:=by
   rcases a with a|a
   ·exact absurd a b
   ·exact a
  unfold gZ at h3;rw[decide_eq_true_eq]at h3;exact TG e (Yq m d.l) c (by omega)
theorem TH(m:aG)(ds:bc)(k:Int)(l:List Int)(N:Int->Int):df m ds (k::l) N=(nR m ds k (N k)&&df m ds l N):=vI
theorem BN{m:aG}{ds:bc}{k n:Int}(h:nR m ds k n=true):∃d,cb ds k=some d/\pO m d n=true:=by
 unfold nR at h;cases hd:cb ds k with
 |none=>rw[hd]at h;cases h
 |some d=>rw[hd]at h;exact⟨d,rfl,h⟩
theorem acS(ds:bc)(k:Int)(d:bE):(kO ds k d).length=ds.length:=by unfold kO;simp
theorem acT{ds:bc}{k:Int}{c d:bE}(a:ds.length=64)(e:cb ds k=some c)(s:Int):cb (kO ds k d) s=if s=k then some d else cb ds s:=by
 obtain⟨n,rfl,b⟩:=oO e;exact CR ds n d s b a
theorem QG{m:aG}{ds a:bc}{l:List Int}{N:Int->Int}(h:∀k∈l,cb ds k=cb a k):df m ds l N=df m a l N:=by
 unfold df;rw[yQ,qM,qM];refine forall_congr' fun k=>forall_congr' fun b=>?_;unfold nR;rw[h k b]
theorem Ed{w:Pow}(l:w.calm){m:aG}{N:Int->Int}:∀{live:List Int} {ds:bc},live.Nodup->ds.length=64->df m ds live N=true->
  ∃a,makes m N live w ds=(0,w,a)/\a.length=64/\∀k,cb a k=(cb ds k).map fun d=>if k∈live then dQ m d (N k)else d
 |[],ds,_,h64,_=>⟨ds,rfl,h64,fun k=>by cases cb ds k<;>simp⟩
 |k::live,ds,hnd,h64,hf=>by
  rw[TH,qy]at hf;obtain⟨f,g⟩:=yi.1 hnd;obtain⟨d,h,j⟩:=BN hf.1;have e:iq m w ds k (N k)=(0,w,kO ds k (dQ m d (N k))):=by
   unfold iq;rw[h];dsimp only;rw[Yr l j]
  have c:=acT (d:=dQ m d (N k)) h64 h;have i:df m (kO ds k (dQ m d (N k))) live N=true:=by
   rw[<-QG (ds:=ds) fun s b=>?_]
   ·exact hf.2
   ·rw[c,if_neg (fun p:s=k=>f (p▸b))]
  obtain⟨a,o,n,h3⟩:=Ed l g (by rw[acS];exact h64) i;refine⟨a,?_,n,fun s=>?_⟩
  ·show(if(iq m w ds k (N k)).1=0 then makes m N live (iq m w ds k (N k)).2.1 (iq m w ds k (N k)).2.2 else iq m w ds k (N k))=_;rw[e];exact o
  ·rw[h3 s,c];by_cases b:s=k
   ·subst b;rw[if_pos rfl,h];simp[f]
   ·rw[if_neg b];simp[b]
theorem Mz{m:aG}{d:bE}{n:Int}(h:pO m d n=true):(dQ m d n).lost=false/\(dQ m d n).room=d.room/\((dQ m d n).l.length:Int)+max n 0<=d.room:=by
 unfold pO at h;rw[qy,wx,wV]at h;obtain⟨c,a⟩:=h;unfold dQ;by_cases b:gZ d d.l.length n=true
 ·rw[if_pos b];unfold gZ at b;rw[decide_eq_true_eq]at b;exact⟨c,rfl,by omega⟩
 ·rw[if_neg b];have h3:gZ d (jP m d.l).length n=true:=by
   rcases a with a|a
   ·exact absurd a b
   ·exact a
  unfold gZ at h3;rw[decide_eq_true_eq]at h3;exact⟨c,rfl,by dsimp only;omega⟩
theorem VH(b:ByteArray):∀n i r,b.size-i=n->ByteArray.toList.loop b i r=r.reverse++b.data.toList.drop i:=by
 have c:b.data.toList.length=b.size:=rfl;intro n
 induction n with
 |zero=>
  intro i r h;rw[ByteArray.toList.loop,if_neg (by omega),List.drop_eq_nil_of_le (by rw[c];omega),qP]
 |succ n ih=>
  intro i r h;have a:i<b.size:=by omega
  rw[ByteArray.toList.loop,if_pos a,ih (i+1) _ (by omega)];have d:b.data.toList.drop i=b.get! i::b.data.toList.drop (i+1):=by
   rw[qT (by rw[c];exact a)];congr 1;show _=b.data[i]!;rw[getElem!_pos b.data i a,Array.getElem_toList]
  rw[d,List.reverse_cons,qo];rfl
theorem toList_eq(x:ByteArray):x.toList=x.data.toList:=by
 unfold ByteArray.toList;rw[VH x _ 0 [] rfl];rfl
theorem uD{a b:ByteArray}(h:a.toList=b.toList):a=b:=by
 rw[toList_eq,toList_eq]at h;cases a;cases b;congr;exact Array.toList_inj.1 h
theorem VI(a:ByteArray):ez a a=false:=Zv _
theorem aaP{a b:ByteArray}(h:jh a b=true)(c:a≠b):ez a b=true:=by
 rcases(KO a b).1 h with h|h
 ·exact h
 ·exact absurd (uD h) c
theorem AR{a b:ByteArray}(h:ez a b=true):a≠b:=fun e=>by subst e;rw[VI]at h;cases h
theorem afR:Ord sf:=⟨fun a b c d e=>FV _ _ _ d e,fun a b=>FW _ _⟩
theorem rS{m:aG}{x e:bW}:e∈(dg m x).objs↔e∈m.objs∨e=x:=by
 show e∈(m.objs++[x]).mergeSort sf↔_;rw[yt];simp
end Wl
namespace Go.Proofs.YtdhamoojccmbdaaGreatDoor
open Go Go.Vc Go.Proofs Wl
theorem aaQ{name:ByteArray}{l:List Wl.bW}(h:l.any (dm name)=false):∀e∈l,e.name≠name:=fun e b a=>by
 have:=zZ.1 h e b;unfold dm at this;rw[a]at this;simp at this
theorem aaR{m:aG}{x:Wl.bW}(u:bS m=true)(d:jF x.name=true)(j:∀e∈m.objs,e.name≠x.name)(l:x.object=m.next)(N:m.objs.length<=11)(M:m.next<=16777215)(I:m.seq<=2147483646)
  (k:0<=x.length/\x.length<=m.p.1*m.p.2.2*8) (z:∀t∈x.tries,0<=t/\t<=15) (G:(x.tries.length:Int)=countP m.p x.length):bS (dg m x)=true:=by
 obtain⟨E,A,h3,K,s,D,y⟩:=(ce m).1 u;obtain⟨J,L,a3,a4⟩:=(dK m).1 E;have c:(dg m x).objs.Perm (m.objs++[x]):=yk _ _;have i:∀e∈m.objs,e.object<m.next:=fun e g=>((gn m e).1 (s e g)).2.1.2;refine(ce _).2 ⟨(dK _).2 ⟨⟨?_,?_⟩,⟨?_,?_⟩,a3,a4⟩,A,h3,?_,fun e g=>?_,?_,?_⟩
 ·show 1<=m.seq+1;omega
 ·show m.seq+1<=_;omega
 ·show 0<=m.next+1;omega
 ·show m.next+1<=_;omega
 ·rw[c.length_eq];simp;omega
 ·rcases rS.1 g with g|rfl
  ·obtain⟨F,B,w,H,v⟩:=(gn m e).1 (s e g);exact(gn _ e).2 ⟨F,⟨B.1,by show _<m.next+1;omega⟩,w,H,v⟩
  ·exact(gn _ _).2 ⟨d,⟨by omega,by show _<m.next+1;omega⟩,k,z,G⟩
 ·have f:(m.objs++[x]).Pairwise (fun a b:Wl.bW=>a.name≠b.name):=wQ.2 ⟨D.imp fun h=>AR h,List.pairwise_singleton _ _,fun a o b q=>by rw[qG.1 q];exact j a o⟩;have n:=(c.pairwise_iff (R:=fun a b:Wl.bW=>a.name≠b.name) fun{a b} h=>Ne.symm h).2 f;have r:(dg m x).objs.Pairwise (fun a b=>sf a b=true):=(FU afR (m.objs++[x])).1;exact(r.and n).imp fun h=>aaP h.1 h.2
 ·have f:(m.objs++[x]).Pairwise (fun a b:Wl.bW=>a.object≠b.object):=wQ.2 ⟨y,List.pairwise_singleton _ _,fun a o b q=>by rw[qG.1 q,l];have:=i a o;omega⟩;exact(c.pairwise_iff (R:=fun a b:Wl.bW=>a.object≠b.object) fun{a b} h=>Ne.symm h).2 f
theorem VJ{p:Pm}{o:Int}{n:Nat}{t:List Int}(h:cy p o n=some t):∀x∈t,0<=x/\x<=15:=fun x b=>by
 obtain⟨i,c,rfl⟩:=qF b;obtain⟨k,d,a⟩:=AM h i c;have:=(Hn a).1;rw[d];omega
theorem Hw{p:Pm}(a:bM p=true)(b:List UInt8):((bn p b).length:Int)=countP p b.length:=by
 have:=(ly a b.length).1;unfold bn;rw[qw,zt];omega
theorem acU{m:aG}{d:Bool}{ds:bc}{name:ByteArray}{b:List UInt8}{t:List Int}(f:bS m=true)(j:cP m d ds name b.length=0)(g:cy m.p m.next (bn m.p b).length=some t):bS (dg m ⟨name,m.next,b.length,t⟩)=true:=by
 obtain⟨n,i,z3,z4,z5⟩:=kE j;have l:¬m.p.1*m.p.2.2*8<(b.length:Int):=fun h=>z4 (.inl h);have e:m.objs.length<=11:=by have:¬12<=m.objs.length:=fun h=>z4 (.inr h);omega
 have a:m.next<=16777215:=by have:¬16777215<m.next:=fun h=>z5 (.inr (.inl h));omega
 have c:m.seq<=2147483646:=by have:¬2147483647<=m.seq:=fun h=>z5 (.inr (.inr h));omega
 have k:=((dK m).1 ((ce m).1 f).1).2.2.1;refine aaR f i (aaQ z3) rfl e a c ⟨by show 0<=(b.length:Int);omega,by show(b.length:Int)<=_;omega⟩ (VJ g) ?_;show(t.length:Int)=countP m.p b.length;rw[iP g,Hw k]
end Go.Proofs.YtdhamoojccmbdaaGreatDoor
namespace Wl
open Go
def eu(a:List (List UInt8))(d:bE):bE:=if a.isEmpty then d else{d with l:=d.l++a,wait:=0,laid:=[],has:=false}
def kF(P:List (Int×List UInt8))(s:Int):List (List UInt8):=(P.filter fun x=>decide (x.1=s)).map zA
theorem TJ{P:List (Int×List UInt8)}{s:Int}(h:∀x∈P,x.1≠s):kF P s=[]:=by
 unfold kF;rw[wA.2 fun x a=>by simpa using h x a];rfl
theorem TK(P:List (Int×List UInt8))(s:Int):(kF P s).length=(P.map qK).count s:=by
 unfold kF;rw[qw];exact(Go.Vc.aaO P s).symm
theorem Jj{l:List Int}{s:Int}(h:0<=s/\s<64):s∈fE l↔s∈l:=by
 unfold fE;rw[qI,decide_eq_true_eq];refine⟨fun h=>h.2,fun h'=>⟨?_,h'⟩⟩;exact qx.2 ⟨s.toNat,qH.2 (by omega),by omega⟩
theorem MB{w:Pow}(o:w.calm){ds:bc}{P:List (Int×List UInt8)}(i:ds.length=64)
  (a:∀x∈P,x.2.length=64/\∃d,cb ds x.1=some d/\d.lost=false/\d.l.length+(kF P x.1).length<=d.room):
  ∃b,layAll P w ds=(0,w,b)/\b.length=64/\∀s,cb b s=(cb ds s).map (eu (kF P s)):=by
 have F:Fit ds (P.map qK) (P.map qK):=⟨i,fun k r=>by
  obtain⟨x,g,rfl⟩:=qx.1 r;obtain⟨_,d,m,j,h3⟩:=a x g;rw[TK]at h3;exact⟨d,m,j,h3⟩⟩
 obtain⟨q,t,a3⟩:=Go.Vc.acQ o P ds F fun x g=>⟨qx.2 ⟨x,g,rfl⟩,(a x g).1⟩
 refine⟨(layAll P w ds).2.2,?_,t.len,fun s=>?_⟩
 ·have j:=acP o P ds;exact yL q (yL j rfl)
 ·rw[a3 s];unfold Mu;cases hd:cb ds s with
  |none=>rfl
  |some d=>
   obtain⟨f,e⟩:=afQ hd;rw[qO,qO,qO];congr 1;unfold eu;have n:s∈P.map qK↔(kF P s).isEmpty=false:=by
    rw[<-List.count_pos_iff,<-TK];cases hc:kF P s<;>simp
   by_cases c:(kF P s).isEmpty=true
   ·have h0:kF P s=[]:=List.isEmpty_iff.1 c;have m:(P.filter fun x=>decide (x.1=s))=[]:=List.map_eq_nil_iff.1 h0;rw[if_neg (fun h=>by rw[Jj ⟨f,e⟩,n]at h;rw[h]at c;cases c),if_pos c,m];simp
   ·have p:(kF P s).isEmpty=false:=by simpa using c
    rw[if_pos ((Jj ⟨f,e⟩).2 (n.2 p)),if_neg c];rfl
end Wl
namespace Go.Proofs.YtdhamoojccmbdaaGreatDoor
open Go Go.Vc Go.Proofs Wl
theorem oR{n:aG}{live:List Int}(a:live.Nodup)(s:Int):kF (bx n live) s=if s∈live then bh n else[]:=by
 by_cases h:s∈live
 ·rw[if_pos h];exact Hv n s a h
 ·rw[if_neg h];exact TJ fun x b c=>h (c▸(ka b).1)
theorem acV(m:aG)(o:Int)(a:List Int)(b:List (List UInt8))(live:List Int)(k:Int)(n:Nat):kF (dp m o a b live n) k=(jc m o a b live k n).map dJ:=EZ m o a b live k n
theorem TL{m:aG}(h:bS m=true):bh m≠[]:=by
 unfold bh gM ga;rw[if_pos h];intro e;have:=congrArg vg e;simp[ci]at this;omega
theorem Hx{ds:bc}{l:List Int}(h:l.Nodup):(bi ds l).Nodup:=h.filter _
theorem xL{ds:bc}{l:List Int}{k:Int}(h:k∈bi ds l):k∈l/\∃d,cb ds k=some d/\d.lost=false:=by
 obtain⟨b,a⟩:=qI.1 h;unfold isLive at a;cases hd:cb ds k with
 |none=>rw[hd]at a;cases a
 |some d=>rw[hd]at a;exact⟨b,d,rfl,by simpa using a⟩
theorem CV(a:List (List UInt8))(d:bE):(eu a d).l=d.l++a:=by
 unfold eu;by_cases h:a.isEmpty=true
 ·rw[if_pos h,List.isEmpty_iff.1 h,qP]
 ·rw[if_neg h]
theorem tk(a:List (List UInt8))(d:bE):(eu a d).lost=d.lost/\(eu a d).room=d.room:=by
 unfold eu;split<;>exact⟨rfl,rfl⟩
theorem acW{a b:List (List UInt8)}(h:b≠[])(d:bE):eu b (eu a d)=eu (a++b) d:=by
 have e:∀c:List (List UInt8),c≠[]->∀d,eu c d={d with l:=d.l++c,wait:=0,laid:=[],has:=false}:=fun c g d=>by
  unfold eu;rw[if_neg (by simpa using g)]
 by_cases f:a=[]
 ·subst f;rfl
 ·rw[e a f,e b h,e (a++b) (by simp[h])];simp
theorem Pz(a:Nat)(l:List (Int×List UInt8))(k:Int):jQ a l k=a+(kF l k).length:=by unfold jQ kF;rw[qw]
theorem WD{p:Pm}{o:Int}{b:List UInt8}{t:List Int}(d:bM p=true)(c:cy p o (bn p b).length=some t){i:Nat}(f:i<(bn p b).length):∃K H w n,bT p (cK o i (t.getD i 0)) ((bn p b).getD i []) K H w n:=by
 have q:=iP c;obtain⟨k,h,a⟩:=AM c i (by omega);have j:Mf p o i k=true:=(Hn a).2.1;have e:t.getD i 0=(k:Int):=by rw[lm 0 (by omega)];exact h
 rw[e];refine adF d j ?_;have g:=(bU p).1 d;have m:0<=p.1*p.2.2:=vm (by omega) (by omega);have l:(bn p b)[i]=uB (dn p) b i:=by simp[bn]
 rw[lm [] f,l,Hm];unfold dn;omega
theorem On{m:aG}{b:List UInt8}{t:List Int}(c:bS m=true)(d:m.next<=16777215)(h8:(bn m.p b).length<=8)(e:cy m.p m.next (bn m.p b).length=some t){i id:Nat}(g:i<(bn m.p b).length)(hid:id<(m.p.1+m.extra).toNat):
  iK (lc m m.next i (cK m.next i (t.getD i 0)) ((bn m.p b).getD i []) id)=true:=by
 have a:=((dK m).1 ((ce m).1 c).1)
 have f:=(bU m.p).1 a.2.2.1;obtain⟨K,H,w,n,B⟩:=WD a.2.2.1 e g;exact TD B ⟨a.2.1.1,d⟩ (by omega) (by omega)
theorem aaS{m:aG}{offs:Int}{w:Pow}{ds:bc}{name:ByteArray}{b:List UInt8}(R:w.calm)(H:ds.length=64)(o:bS m=true):
  (cP m (fu w offs) ds name b.length≠0->gB m offs w ds name b=(cP m (fu w offs) ds name b.length,m,w,ds))/\
  (cP m (fu w offs) ds name b.length=0->(cy m.p m.next (bn m.p b).length=none->gB m offs w ds name b=(8,m,w,ds))/\∀t,cy m.p m.next (bn m.p b).length=some t->
   let live:=bi ds m.drives;let l:=dp m m.next t (bn m.p b) live (bn m.p b).length;let n:=dg m ⟨name,m.next,b.length,t⟩;let N:=jQ (bh n).length l
   bS n=true/\(df m ds live N=false->gB m offs w ds name b=(7,m,w,ds))/\(df m ds live N=true->∃f,gB m offs w ds name b=(0,n,w,f)/\f.length=64/\
    ∀k,cb f k=(cb ds k).map fun d=>if k∈live then eu ((jc m m.next t (bn m.p b) live k (bn m.p b).length).map dJ++bh n) (dQ m d (N k))else d)):=by
 refine⟨fun h=>by unfold gB;rw[if_pos h],fun h=>⟨fun v=>by unfold gB;rw[if_neg (by simpa using h),v],fun t v=>?_⟩⟩;intro live l n N;have u:bS n=true:=acU o h v;obtain⟨z1,z2,z3,z4,z5⟩:=kE h;have A:=((dK m).1 ((ce m).1 o).1)
 have Q:¬m.p.1*m.p.2.2*8<(b.length:Int):=fun h=>z4 (.inl h);have h8:=CU A.2.2.1 Q;have M:live≠[]:=fun h=>z5 (.inl h);have B:0<=m.next/\m.next<=16777215:=⟨A.2.1.1,by have:¬16777215<m.next:=fun h=>z5 (.inr (.inl h));omega⟩
 have g:live.Nodup:=Hx (Dv o);have F:∀k∈live,0<=k/\k<64:=fun k a=>lG o k (xL a).1;have e:gB m offs w ds name b=(if df m ds live N=false then(7,m,w,ds)else if(makes m N live w ds).1≠0 then((makes m N live w ds).1,m,(makes m N live w ds).2)else
   if(layAll l (makes m N live w ds).2.1 (makes m N live w ds).2.2).1≠0 then((layAll l (makes m N live w ds).2.1 (makes m N live w ds).2.2).1,m,(layAll l (makes m N live w ds).2.1 (makes m N live w ds).2.2).2)else
   ((layAll (bx n live) (layAll l (makes m N live w ds).2.1 (makes m N live w ds).2.2).2.1 (layAll l (makes m N live w ds).2.1 (makes m N live w ds).2.2).2.2).1,if(layAll (bx n live) (layAll l (makes m N live w ds).2.1 (makes m N live w ds).2.2).2.1 (layAll l (makes m N live w ds).2.1 (makes m N live w ds).2.2).2.2).1=0 then n else m,(layAll (bx n live) (layAll l (makes m N live w ds).2.1 (makes m N live w ds).2.2).2.1 (layAll l (makes m N live w ds).2.1 (makes m N live w ds).2.2).2.2).2)):=by
  unfold gB;rw[if_neg (by simpa using h),v]
 refine⟨u,fun z=>by rw[e,if_pos z],fun z=>?_⟩;rw[e,if_neg (by rw[z];decide)];obtain⟨S,m1,m2,T⟩:=Ed R (N:=N) g H z;rw[m1];dsimp only;rw[if_neg (by simp)];have q:∀y∈l,y.1∈live:=fun y s=>(TA B M F h8 s).1;have r:∀y∈l,y.2.length=64:=fun y s=>by
  obtain⟨i,W,s⟩:=zO.1 s;obtain⟨id,hid,rfl⟩:=qx.1 s;exact RH (On o B.2 h8 v (qH.1 W) (qH.1 hid))
 have c:∀k∈live,∃d,cb S k=some d/\d.lost=false/\(d.l.length:Int)+max (N k) 0<=d.room:=fun k a=>by
  obtain⟨_,d,hd,Z⟩:=xL a;have L:=qM.1 z k a;obtain⟨d',K,J⟩:=BN L;obtain⟨V,r2,Y⟩:=Mz J;refine⟨dQ m d' (N k),?_,V,by rw[r2];exact Y⟩;rw[T k,K,qO,if_pos a]
 obtain⟨d2,l1,l2,U⟩:=MB R (ds:=S) (P:=l) m2 fun x j=>by
  obtain⟨d,G,O,f3⟩:=c x.1 (q x j);refine⟨r x j,d,G,O,?_⟩;have:N x.1=_:=Pz _ _ _;omega
 rw[l1];dsimp only;rw[if_neg (by simp)];obtain⟨d3,p1,p2,p3⟩:=MB R (ds:=d2) (P:=bx n live) l2 fun x j=>by
  obtain⟨D,E⟩:=ka j;obtain⟨d,G,O,f3⟩:=c x.1 D;refine⟨E,eu (kF l x.1) d,by rw[U,G,qO],by rw[(tk _ _).1];exact O,?_⟩;have:N x.1=_:=Pz _ _ _;rw[(tk _ _).2,CV,oR g,if_pos D,qu];omega
 rw[p1];refine⟨d3,rfl,p2,fun k=>?_⟩;rw[p3 k,U k,T k,Option.map_map,Option.map_map];congr 1;funext d;show eu (kF (bx n live) k) (eu (kF l k) (if k∈live then dQ m d (N k)else d))=_;rw[oR g];by_cases a:k∈live
 ·rw[if_pos a,if_pos a,if_pos a];have I:kF l k=(jc m m.next t (bn m.p b) live k (bn m.p b).length).map dJ:=acV _ _ _ _ _ _ _;rw[I,acW (TL u)]
 ·rw[if_neg a,if_neg a,if_neg a,TJ (P:=l) fun x j (X:x.1=k)=>a (X▸q x j)];rfl
theorem MC(l:List Int)(c:l.length<=64)(s:Int):cb (gD l (bj l l.length).length) s=if s∈bj l l.length then some (bE.new (l.getD s.toNat 0).toNat)else none:=by
 by_cases a:0<=s/\s<64
 ·unfold cb gD;rw[if_pos a,qN,zo (by omega),qO,qi (ql _)];have e:((s.toNat:Nat):Int)=s:=by omega
  rw[e];by_cases h:s∈bj l l.length
  ·rw[if_pos h];rfl
  ·rw[if_neg h];rfl
 ·rw[if_neg (fun h=>?_)]
  ·unfold cb;rw[if_neg a]
  ·obtain⟨n,b,rfl,_⟩:=(xA l l.length s).1 h;omega
theorem aaT{p:Pm}{extra:Int}{l:List Int}(g:l.length<=64)(f:xK p extra l=0):
  ∃D,eP p extra Pow.new l=(0,Pow.new,D)/\D.length=64/\∀s,cb D s=if s∈bj l l.length then some ⟨(l.getD s.toNat 0).toNat,bh (cu p extra l),0,[],false,false⟩else none:=by
 have i:=TC g f;have c:(bj l l.length).Nodup:=(EY l l.length).imp fun h e=>by omega
 have b:=(Mx f).2.2.2.2;rw[Yl,if_pos f];obtain⟨D,m,j,h3⟩:=MB Eb (ds:=gD l (bj l l.length).length) (P:=bx (cu p extra l) (bj l l.length)) (Vp _ _) fun x k=>by
  obtain⟨a,d⟩:=ka k;refine⟨d,bE.new (l.getD x.1.toNat 0).toNat,by rw[MC l g,if_pos a],rfl,?_⟩;rw[oR c,if_pos a];have:=zZ.1 b x.1 a;simp only[decide_eq_true_eq]at this;show 0+_<=(l.getD x.1.toNat 0).toNat;omega
 refine⟨D,m,j,fun s=>?_⟩;rw[h3,MC l g,oR c];by_cases h:s∈bj l l.length
 ·rw[if_pos h,if_pos h,if_pos h,qO];unfold eu;rw[if_neg (by simpa using TL i)];rfl
 ·rw[if_neg h,if_neg h,if_neg h];rfl
theorem Ys(m:aG):(bh m).length=((ga m).length+47)/48:=by unfold bh gM;rw[qw,zt]
theorem afS(x:Wl.bW):(iJ x).length=6+x.name.size+x.tries.length:=by
 unfold iJ;simp[ci];omega
theorem aaU{m:aG}(h:bS m=true):(ga m).length=14+m.drives.length+(m.objs.flatMap iJ).length:=by
 unfold ga;rw[if_pos h];simp only[qu,ci,zi,yj,qw];omega
theorem uE{p:Pm}{n:Int}(h:n<=p.1*p.2.2*8):countP p n<=8:=by
 unfold countP;split
 ·rename_i a;rw[qy,decide_eq_true_eq]at a;have:=(bU p).1 a.1;have b:0<p.1*p.2.2:=vF (by omega) (by omega);have:(n-1)/(p.1*p.2.2)<8:=Int.ediv_lt_of_lt_mul b (by rw[Int.mul_comm 8];omega);omega
 ·decide
theorem aeK{m:aG}{x:Wl.bW}(h:gj m x=true):(iJ x).length<=26:=by
 obtain⟨a,c,h3,d,e⟩:=(gn m x).1 h;have:=uE h3.2;have b:x.name.size<=12:=by unfold jF at a;simp at a;omega
 rw[afS];omega
theorem Oo{α β:Type}{f:α->List β}{c:Nat}:∀{l:List α},(∀x∈l,(f x).length<=c)->(l.flatMap f).length<=l.length*c
 |[],_=>by simp
 |x::l,h=>by
  have b:=h x q8;have d:=Oo (l:=l) fun y a=>h y (qU _ a);rw[zr,qu,zi,zI];omega
theorem acX{m:aG}(h:bS m=true):(bh m).length*48<=61+m.drives.length+m.objs.length*26:=by
 have:=Oo (f:=iJ) (l:=m.objs) fun x a=>aeK (((ce m).1 h).2.2.2.2.1 x a);have b:=aaU h;rw[Ys];omega
theorem afT{m:aG}(h:bS m=true):(bh m).length<=9:=by
 have a:=acX h;have b:=mq h;have h3:=((ce m).1 h).2.2.2.1;omega
def dO(m:aG)(offs:Int)(w:Pow)(ds:bc)(n:aG):Int×aG×Pow×bc:=
 if fu w offs then(14,m,w,ds)else if !bS n||decide (n.seq≠m.seq+1)then(1,m,w,ds)else
 let live:=bi ds n.drives;let N:Int->Int:=fun _=>((bh n).length:Int)
 if live=[]∨df m ds live N=false then(7,m,w,ds)else
 if(makes m N live w ds).1≠0 then((makes m N live w ds).1,m,(makes m N live w ds).2)else
 let a:=layAll (bx n live) (makes m N live w ds).2.1 (makes m N live w ds).2.2
 (a.1,if a.1=0 then n else m,a.2)
theorem rT{m:aG}(h:bS m=true):db m:=by
 obtain⟨j,l,h3,o,c,g,q⟩:=(ce m).1 h;have n:=mq h;refine⟨by omega,by omega,fun e b=>?_⟩;obtain⟨a,p,d,i,f⟩:=(gn m e).1 (c e b);have:=uE d.2;have k:e.name.size<=12:=by unfold jF at a;simp at a;omega
 omega
section
variable {B:aA} {h0 h:Heap} {As:List HP} {a pw:Addr} {offs:Int} {da:List (Option Addr)} {w:Pow} {ds:bc}
theorem VK(x:cg)(m:aG)(z:cg)(n:aG)(hS:St B h0 As fun h=>eG h z n)(hz:db m)(l:db n)(ax:-1<=m.seq/\m.seq<=2^40)
  (H:aa B h0 h (bm bz a pw (aV x) offs da w ds::cO x m::As)):
  ac vV Ci #[vN (some a),ft z] h fun v h'=>v=vL vR (dO m offs w ds n).1/\
   ∃y,aa B h0 h' (bm bz a pw (aV y) offs da (dO m offs w ds n).2.2.1 (dO m offs w ds n).2.2.2::cO y (dO m offs w ds n).2.1::As):=by
 refine Bl (some a) z ?_;unfold pv;refine H.boxed fun F M i=>(td i).mono ?_;have i:=i.bL;rintro _ M ⟨rfl,rfl⟩;have i:aa B h0 M (au F aB (aV z)::bm bz a pw (aV x) offs da w ds::cO x m::As):=i;have D:eG M z n:=hS.at [_,_,_] i;have ad:eG M x m:=i.at 2 rfl;refine⟨_,rfl,bA (fun e=>?_) fun e1=>?_⟩
 ·have L:dO m offs w ds n=(14,m,w,ds):=by unfold dO;rw[if_pos e]
  rw[L];exact⟨rfl,x,i.bo 3 [1,2]⟩
 refine ba ?_;refine⟨z,(i.box 0 rfl).aQ _ rfl,(Ka z n M D l).mono ?_⟩;rintro _ h3 ⟨rfl,R3⟩;have E:=i.up R3.ai;have ao:=D.up R3.ai;have no:∀{h':Heap},aa B h0 h' (au F aB (aV z)::bm bz a pw (aV x) offs da w ds::cO x m::As)->(bS n=false∨n.seq≠m.seq+1)->(Value.int .i64 1=vL vR (dO m offs w ds n).1/\∃y,aa B h0 h' (bm bz a pw (aV y) offs da (dO m offs w ds n).2.2.1 (dO m offs w ds n).2.2.2::cO y (dO m offs w ds n).2.1::As)):=fun{h'} d hc=>by
  have L:dO m offs w ds n=(1,m,w,ds):=by
   unfold dO;rw[if_neg (by rw[e1];decide),if_pos];rcases hc with hc|hc
   ·rw[hc];rfl
   ·rw[decide_eq_true hc,Bool.or_true]
  rw[L];exact⟨rfl,x,d.bo 3 [1,2]⟩
 refine⟨_,rfl,trivial,bg (fun e=>no E (.inl e)) fun Y=>?_⟩;have J:=E.box 0 rfl;have am:=(aa.cJ (E.bo 2 [1,0])).2;refine⟨z.1,J.cell0 rfl,a,rfl,x.1,am.cell0 rfl,?_⟩;rw[D.seq,ad.seq,Go.Vc.wrap_small (m.seq+1) (by omega) (by omega)];refine bQ (fun e=>no E (.inr e)) fun e3=>?_;refine⟨_,J.cell rfl,?_⟩;have ab:=mq Y;have Z:∀k∈n.drives,0<=k/\k<64:=lG Y;refine(Ma z.2.2.2.2.2.2.1 n.drives ao.drives (by omega) (E.bo 2 [1,0])).mono ?_;rintro _ h5 ⟨q,rfl,R5⟩;obtain⟨live,b⟩:∃live,live=bi ds n.drives:=⟨_,rfl⟩
 rw[<-b]at R5;have a0:live.length<=64:=by rw[b];exact zl (q7 _ _) ab
 have f:∀k∈live,0<=k/\k<64:=fun k S=>by rw[b]at S;exact Z k (qI.1 S).1
 have W:=(E.cY R5).bo 4 [2,3,0,1];refine⟨q,rfl,z,(W.box 3 rfl).aQ _ rfl,(mV z n h5 (hS.at [_,_,_,_] W) l).mono ?_⟩;rintro _ h6 ⟨pg,rfl,R6⟩;have t:=(aa.Dk R6).1;have K:=jM n l;obtain⟨s,G⟩:∃s,s=(bh n).length:=⟨_,rfl⟩
 rw[<-G]at t K;have H6:=W.up R6.ai;refine⟨pg,rfl,H6.alloc ae rfl fun c h7 V=>?_⟩;have V:=V.bL;refine V.storeAll ae 0 rfl rfl [vL vR (pg.len:Int)] rfl rfl rfl rfl fun h8 j=>?_;rw[t]at j;have j:aa B h0 h8 (bm bz a pw (aV x) offs da w ds::cO x m::au c aS [vL vR (s:Int)]::an aS q 1 aE live::au F aB (aV z)::As):=j.bo 5 [1,2,0,3,4];obtain⟨T,r⟩:∃T,T=cO x m::au c aS [vL vR (s:Int)]::an aS q 1 aE live::au F aB (aV z)::As:=⟨_,rfl⟩
 have tX:St B h0 T fun h=>eG h x m:=by rw[r];exact St.gK 0 rfl fun _ p=>p
 have tN:St B h0 T fun h=>cw h c aS [vL vR (s:Int)]:=by rw[r];exact St.gK (A:=au c aS [vL vR (s:Int)]) 1 rfl fun _ p=>p.1
 have Q:St B h0 T fun h=>Rd h q 1 aE live:=by rw[r];exact St.gK (A:=an aS q 1 aE live) 2 rfl fun _ p=>p.1.seq (fun _=>rfl) p.2
 have tM:St B h0 T fun h=>cw h F aB (aV z):=by rw[r];exact St.gK (A:=au F aB (aV z)) 3 rfl fun _ p=>p.1
 have tY:St B h0 T fun h=>eG h z n:=by rw[r];exact hS.cons.cons.cons.cons
 obtain⟨N,hN⟩:∃N:Int->Int,N=fun _=>(s:Int):=⟨_,rfl⟩
 have tT:St B h0 T fun h=>QR jx #[] #[vN (some c)] N live h:=fun Bs h' d k S=>by
  refine xm k c ?_;unfold nO;exact⟨(s:Int),(tN Bs h' d).cell0 rfl,by rw[hN],Sp.refl h'⟩
 have fin:∀{h':Heap} {w':Pow} {u:bc},aa B h0 h' (bm bz a pw (aV x) offs da w' u::T)->aa B h0 h' (bm bz a pw (aV x) offs da w' u::cO x m::As):=fun{h' w' u} d=>by
  rw[r]at d;exact d.bo 5 [0,1]
 rw[<-r]at j;have L:dO m offs w ds n=(if live=[]∨df m ds live N=false then(7,m,w,ds)else
   if(makes m N live w ds).1≠0 then((makes m N live w ds).1,m,(makes m N live w ds).2)else
   ((layAll (bx n live) (makes m N live w ds).2.1 (makes m N live w ds).2.2).1,if(layAll (bx n live) (makes m N live w ds).2.1 (makes m N live w ds).2.2).1=0 then n else m,(layAll (bx n live) (makes m N live w ds).2.1 (makes m N live w ds).2.2).2)):=by
  rw[hN,G,b];unfold dO;rw[if_neg (by rw[e1];decide),if_neg (by rw[Y,decide_eq_false (by simpa using e3)];decide)]
 rw[L];have O:=(Q.at [_] j).len;refine ba (cx (fun e=>?_) fun e4=>?_)
 ·have:live=[]:=vi.1 (by omega);rw[if_pos (.inl this)];exact⟨rfl,x,fin j⟩
 have ah:live≠[]:=fun h=>e4 (by rw[O,h];rfl);refine(Mk jx #[] #[vN (some c)] N x m q live (by rfl) (fun Bs h' d=>⟨tX Bs h' d,tT Bs h' d⟩) hz (Q.at [_] j) (by omega) f j).mono ?_;rintro _ h9 ⟨rfl,R9⟩;have H9:=j.up R9.ai;refine⟨_,rfl,bg (fun g=>?_) fun g=>?_⟩
 ·rw[if_pos (.inr g)];exact⟨rfl,x,fin H9⟩
 rw[if_neg (by rintro(h|h);exact ah h;rw[g]at h;cases h)];refine(Ml jx #[] #[vN (some c)] N x m q live (by rfl) (fun Bs h' d=>⟨tX Bs h' d,tT Bs h' d,Q Bs h' d⟩) hz (by omega) f H9).mono ?_;rintro _ ap ⟨rfl,o⟩;obtain⟨P,U⟩:∃P,P=makes m N live w ds:=⟨_,rfl⟩
 rw[<-U]at o⊢;refine⟨_,rfl,bQ (fun X=>?_) fun X=>?_⟩
 ·rw[if_pos X];exact⟨rfl,x,fin o⟩
 rw[if_neg (by simpa using X)];refine⟨z,(tM.at [_] o).aQ _ rfl,(Mn x z n q live (fun Bs h' d=>⟨tY Bs h' d,Q Bs h' d⟩) l (by omega) f o).mono ?_⟩;rintro _ ay ⟨rfl,Q1,Q0⟩;refine⟨_,rfl,rfl,?_⟩;by_cases R:(layAll (bx n live) P.2.1 P.2.2).1=0
 ·obtain⟨y2,I⟩:=Q0 R;rw[if_pos R];rw[r]at I;exact⟨y2,I.bo 6 [0,1]⟩
 ·rw[if_neg R];exact⟨x,fin (Q1 R)⟩
end
theorem afU{a:List Int}(b:a≠[])(id:Nat):tg a id=a[id%a.length]'(yE _ (by cases a with|nil=>exact absurd rfl b|cons=>simp)):=by
 have d:0<a.length:=by cases a with|nil=>exact absurd rfl b|cons=>simp
 have c:=yE id d;unfold tg QS;rw[if_neg (by rintro(h|h);exact b h;omega)];have e:((id:Int)%(a.length:Int)).toNat=id%a.length:=by omega
 rw[e,qe,qd c];rfl
def CW(a b c:Int):Int×Int×Int:=(1+a%6,1+b%3,1+c%9)
theorem Yt(a b c:Int)(h:Heap):ac vV xR #[vL vR a,vL vR b,vL vR c] h fun v h'=>v=kB (CW a b c)/\Sp h h' []:=by
 refine xi a b c ?_;unfold nJ;refine(Sp.refl h).alloc ae rfl fun x e g=>?_;refine(bK a 6 e (by decide) (by decide)).mono ?_;rintro v f ⟨rfl,rfl⟩;refine⟨_,rfl,(bK b 3 f (by decide) (by decide)).mono ?_⟩;rintro v h3 ⟨rfl,rfl⟩;refine⟨_,rfl,(bK c 9 h3 (by decide) (by decide)).mono ?_⟩;rintro v i ⟨rfl,rfl⟩;refine⟨_,rfl,?_⟩;dsimp only;rw[wrap_small _ (by omega) (by omega),wrap_small _ (by omega) (by omega),wrap_small _ (by omega) (by omega)];refine g.storeAll ae 0 rfl rfl [vL vR (1+a%6),vL vR (1+b%3),vL vR (1+c%9)] rfl rfl rfl rfl fun j d=>?_;exact⟨CW a b c,(d.box 0 rfl).aQ _ rfl,rfl,.zip d.ai⟩
end Go.Proofs.YtdhamoojccmbdaaGreatDoor
