/- Lemmas for the proof of the law; no condition. -/
import Derived.Test.YtnjommcknbionaaGreatDoorKA
import Derived.Test.YtnjommcknbionaaGreatDoorShelfB
import Derived.Test.YtnjommcknbionaaGreatDoorPlH
import Derived.Test.YtnjommcknbionaaGreatDoorPlI
set_option linter.unusedVariables false
set_option maxHeartbeats 2000000
set_option linter.unusedSimpArgs false
open Go.Proofs.Tryz renaming prog -> vV
open Go.Value renaming agg -> vQ, bool -> vP, int -> vL, pointer -> vN, slice -> vM, string -> vO
open Go.IntKind renaming bits -> qf, i64 -> vR, signed -> wS, u32 -> vT, u64 -> vU, u8 -> vS, wrap -> qc
open Nat renaming add_sub_cancel_left -> zd, add_zero -> wH, le_refl -> qt, le_trans -> zh, mul_le_mul -> wE, mul_le_mul_right -> ze, mul_one -> zN, sub_self -> q5, succ_mul -> zy, zero_le -> zJ
open Int renaming emod_lt_of_pos -> wK, emod_nonneg -> yg, fdiv -> qD, mul_nonneg -> ve, natCast_mul -> zW, natCast_nonneg -> yb, ofNat_le -> vf, tmod -> zQ, tmod_eq_emod_of_nonneg -> ya, toNat_natCast -> qo
open Bool renaming and_eq_true -> qA, and_self -> vF, false_or -> vm, not_eq_true' -> yj, or_eq_true -> zV, true_and -> zK
open List renaming all_eq_true -> qT, any_append -> vp, any_cons -> vG, any_eq_false -> wA, any_eq_true -> yK, any_nil -> vJ, append_assoc -> qm, append_nil -> qU, drop_eq_getElem_cons -> qL, drop_of_length_le -> q9, eq_nil_of_length_eq_zero -> qM, ext_getElem? -> zq, filter_append -> zf, filter_cons -> zu, filter_eq_nil_iff -> w4, flatMap_append -> q7, flatMap_cons -> zg, flatMap_nil -> wM, foldl_append -> zT, getD_eq_getElem?_getD -> qg, getElem?_append_left -> ql, getElem?_append_right -> qh, getElem?_cons_succ -> qw, getElem?_drop -> wh, getElem?_eq_getElem -> qd, getElem?_eq_none -> qX, getElem?_eq_some_iff -> qk, getElem?_map -> qN, getElem?_range -> q8, getElem?_replicate -> wW, getElem?_set -> qW, getElem_map -> yJ, getElem_mem -> qn, getElem_of_mem -> qQ, length -> vn, length_append -> qp, length_cons -> zc, length_filter_le -> zt, length_map -> qC, length_mergeSort -> wD, length_nil -> wZ, length_range -> zm, length_replicate -> yd, length_set -> qZ, map_append -> zi, map_cons -> zS, map_map -> wJ, map_mergeSort -> yZ, map_nil -> vw, mem_append -> qE, mem_cons -> zl, mem_cons_of_mem -> zj, mem_cons_self -> qV, mem_filter -> q6, mem_flatMap -> zZ, mem_map -> qH, mem_mergeSort -> yw, mem_range -> qF, mem_singleton -> qB, mergeSort_perm -> wx, nodup_cons -> yx, pairwise_append -> wk, pairwise_cons -> zL, pairwise_lt_range -> va, pairwise_map -> y9, range -> qz, range_succ -> zx, replicate -> qi, set_append_right -> qY, set_cons_zero -> zM, take_length -> za, take_of_length_le -> qj, zipWith -> zI, zipWith_append -> yO
open Option renaming map_some -> qK, some -> wL
open Go.Instr renaming storeAt -> qe
open Prod renaming ext -> yR, fst -> qP, snd -> zF
open BitVec renaming ofInt -> qq, ofNat -> zC
set_option maxRecDepth 100000
namespace Go.Qw
open Go Go.Vc Go.Proofs Wl
theorem RO{α:Type}{h:Heap}{e:TypeId}{s:Sl}{k:Nat}{f:α->aM}{l:List α}(a:Own h e s k f l)(c:l≠[]):s.ptr.isNone=false:=by
 rcases a.head with⟨_,_,h3⟩|⟨b,rest,h1,_⟩
 ·exact absurd h3 c
 ·rw[h1];rfl
theorem RP(p:Pm)(seed id:Int)(h:Heap):ab vV 255 #[jH p,vL vT seed,vL vR id] h fun v h'=>∃r:Sl,v=r/\
  Sp h h' [ao 5 r 1 av (if bC p&&bD id then lr (ck p).toNat seed id else[])]/\r.ptr.isNone=!(bC p&&bD id):=by
 refine Nc p seed id ?_;unfold Jq;refine(Sp.refl h).boxed fun a R B=>?_;refine aP ?_;refine⟨p,(B.box 0 rfl).aI _ rfl,(dO p R).mono ?_⟩;rintro v z ⟨rfl,J⟩;have q:=B.comp J;have m:(bC p&&bD id)=false->Sp h z [ao 5 ⟨none,0,0⟩ 1 av (if bC p&&bD id then lr (ck p).toNat seed id else[])]/\Option.isNone (none:aK)=!(bC p&&bD id):=fun S=>by
  rw[S];exact⟨(q.nil 5 1 av).take 1 (fun i A g=>by cases i with|zero=>exact g|succ i=>simp at g),rfl⟩
 refine⟨_,rfl,bf (fun e=>⟨⟨none,0,0⟩,rfl,m (by rw[e];rfl)⟩) fun k=>?_⟩;refine aj (fun e=>⟨⟨none,0,0⟩,rfl,m (by simp[bD];omega)⟩) fun V=>?_;refine aj (fun e=>⟨⟨none,0,0⟩,rfl,m (by simp[bD];omega)⟩) fun D=>?_;have hid:bD id=true:=by simp[bD];omega
 refine⟨p,(q.box 0 rfl).aI _ rfl,(kI p z).mono ?_⟩;rintro v h3 ⟨rfl,M⟩;have L:=q.comp M;have N:=(bS p).1 k;have X:ck p=p.1+p.2.1:=by rw[ck,if_pos k]
 obtain⟨n,G⟩:∃n:Nat,ck p=n:=⟨(ck p).toNat,by omega⟩
 refine⟨_,rfl,?_⟩;dsimp only;rw[G];refine L.make af av fv (by decide) 0 rfl rfl n n rfl rfl (qt _) (by omega) fun v Q T O F=>?_;refine⟨p,(F.box 0 rfl).aI _ rfl,(GL p seed id Q).mono ?_⟩;rintro w U ⟨c,rfl,y⟩;rw[k,hid,G,qo]at y;rw[k,hid,qo];have u:=F.comp y;have j:=u.seq 2 rfl (fun _=>rfl);have t:=j.len;obtain⟨b,d⟩:∃b,b=dM n seed id:=⟨_,rfl⟩
 have o:∀x∈b,0<=x/\x<(n:Int):=fun x H=>pO (by omega) (by omega) (by rw[<-d];exact H);have E:b.length<=n:=by rw[d];exact Ge (by omega) (by omega) _ _
 simp only[vF,if_true,<-d]at u j t y;refine⟨c,rfl,?_⟩;refine aA (fun i:Nat=>(i:Int)) (fun i h'=>i<=b.length/\Sp h h' [ai a 24 [vL vR p.1,vL vR p.2.1,vL vR p.2.2],ao 5 v 1 av (eS n (b.take i)),ao 3 c 1 aG b]) (fun i=>b.length-i) 0 rfl ⟨by omega,u⟩ ?_;rintro i I ⟨g,l⟩;refine aj (fun e=>?_) (fun e=>?_)
 ·have f:i<b.length:=by omega
  have H:=o _ (qn f);refine(l.seq 2 rfl (fun _=>rfl)).cA i rfl f _ rfl ?_;refine l.set af 1 rfl (fun _=>rfl) rfl b[i].toNat (by omega) (by rw[mz];omega) 1 rfl rfl rfl fun W K=>?_;refine⟨i+1,by rw[ak _];rfl,⟨by omega,?_⟩,by omega⟩;have D:eS n (b.take (i+1))=(eS n (b.take i)).set b[i].toNat 1:=by rw[aO _ _ f,eS,zT];rfl
  rw[D];exact K
 ·rw[qj (by omega)]at l;have s:Sp h I [ao 5 v 1 av (eS n b)]:=(l.del 2).take 1 (fun i A g=>by cases i with|zero=>exact g|succ i=>simp at g);refine⟨v,rfl,?_,RO (s.own 0 rfl) (fun P=>?_)⟩
  ·rw[d]at s;exact s
  ·have:=mz n b;rw[P]at this;simp at this;omega
theorem Hz(p:Pm)(h:Heap):ab vV 241 #[jH p] h fun v h'=>∃r:Sl,v=r/\Sp h h' [gd 31 r 1 av (if bC p then bK p.1.toNat p.2.1.toNat else[])]:=by
 refine Jo p ?_;unfold Eb;refine(Sp.refl h).boxed fun a Y D=>?_;refine⟨p,(D.box 0 rfl).aI _ rfl,(dO p Y).mono ?_⟩;rintro v L ⟨rfl,G⟩;have z:=D.comp G;refine⟨_,rfl,bf (fun e=>⟨⟨none,0,0⟩,rfl,?_⟩) fun w=>?_⟩
 ·rw[e];exact(z.Mz 31 1 av).take 1 (fun i A c=>by cases i with|zero=>exact c|succ i=>simp at c)
 have O:=(bS p).1 w;have hc:ck p=p.1+p.2.1:=by rw[ck,if_pos w]
 obtain⟨K,hK⟩:∃K:Nat,p.1=K:=⟨p.1.toNat,by omega⟩
 obtain⟨b,hH⟩:∃H:Nat,p.2.1=H:=⟨p.2.1.toNat,by omega⟩
 refine(ud L).mono ?_;rintro v h3 ⟨f,rfl,J⟩;have B:=(z.comp J).Mz 31 1 av;refine⟨some f,rfl,_,(B.box 0 rfl).cell rfl,?_⟩;refine aA (fun t:Sl×Nat=>(t.1,(t.2:Int))) (fun t h'=>t.2<=b/\Sp h h' [ai a 24 [vL vR p.1,vL vR p.2.1,vL vR p.2.2],ai f 317 fp,gd 31 t.1 1 av ((bK K b).take t.2)]) (fun t=>b-t.2) (⟨none,0,0⟩,0) rfl ⟨by simp,B⟩ ?_;rintro⟨s,k⟩ S ⟨hk,g⟩;dsimp only at*;refine aj (fun e=>?_) (fun e=>?_)
 ·have ad:k<b:=by omega
  refine aP ⟨p,(g.box 0 rfl).aI _ rfl,p.1,(g.box 0 rfl).cell0 rfl,?_⟩;refine(kI p S).mono ?_;rintro v R ⟨rfl,W⟩;have F:=g.comp W;refine⟨_,rfl,⟨(F.box 0 rfl).cell0 rfl,trivial⟩,?_⟩;dsimp only;rw[ak (p.1+k),hc];refine(PG _ _ R).mono ?_;rintro v h6 ⟨u,rfl,q⟩;rw[if_pos (by omega)]at q;have X:(p.1+p.2.1).toNat=K+b:=by omega
  have N:(p.1+(k:Int)).toNat=K+k:=by omega
  rw[X,N]at q;have x:=F.comp q;refine⟨u,rfl,⟨(x.box 0 rfl).cell0 rfl,trivial⟩,p.1,(x.box 0 rfl).cell0 rfl,?_⟩;let rowAt:Nat->aQ:=fun j=>(qz j).map (fun i=>Gf.pw ((k+1)*(i+1)%255))++((qi (K+b) (0:UInt8)).set (K+k) 1).drop j;refine aA (fun j:Nat=>(j:Int)) (fun j h'=>j<=K/\Sp h h' [ai a 24 [vL vR p.1,vL vR p.2.1,vL vR p.2.2],ai f 317 fp,gd 31 s 1 av ((bK K b).take k),ao 5 u 1 av (rowAt j)]) (fun j=>K-j) 0 rfl ⟨by omega,x⟩ ?_;rintro j h7 ⟨hj,n⟩;refine aj (fun M=>?_) (fun M=>?_)
  ·have m:j<K:=by omega
   have hm:(k+1)*(j+1)<=4*16:=wE (by omega) (by omega);have Z:qc vR (qc vR ((k:Int)+1)*qc vR ((j:Int)+1))=(((k+1)*(j+1):Nat):Int):=by
    rw[ak ((k:Int)+1),ak ((j:Int)+1),show((k:Int)+1)*((j:Int)+1)=(((k+1)*(j+1):Nat):Int)by rw[zW];rfl];exact nX _
   rw[Z];refine(RN f _ h7 (n.box 1 rfl)).mono ?_;rintro v h8 ⟨rfl,rfl⟩;refine⟨_,rfl,?_⟩;have E:(rowAt j).length=K+b:=by simp[rowAt];omega
   refine n.set af 3 rfl (fun _=>rfl) rfl j rfl (by omega) _ rfl rfl rfl fun I y=>?_;refine⟨j+1,by rw[ak _];rfl,⟨by omega,?_⟩,by omega⟩;have o:(rowAt j).set j (Gf.pw ((((k+1)*(j+1):Nat):Int)%255).toNat)=rowAt (j+1):=by
    have T:((((k+1)*(j+1):Nat):Int)%255).toNat=(k+1)*(j+1)%255:=by omega
    rw[T];simp only[rowAt];rw[qY _ _ (by simp),qC,zm,q5,qL (by simp;omega),zM,zx,zi,qm];rfl
   rw[<-o];exact y
  ·have m:j=K:=by omega
   subst m;have o:rowAt j=iL j b k:=by
    simp only[rowAt,iL];congr 1;apply zq;intro i;rw[wh,qW,qN];by_cases c:i<b
    ·rw[q8 c,qK,wW];by_cases d:i=k
     ·subst d;simp[c]
     ·rw[if_neg (by omega),if_pos (by omega),if_neg d]
    ·rw[qX (l:=qz b) (by simp;omega),if_neg (by omega),wW,if_neg (by omega)];rfl
   rw[o]at n;have U:=n.freeze 3 rfl (fun _=>rfl);have V:((bK j b).take k).length=k:=by simp[bK];omega
   refine U.Fh af 2 3 (by decide) rfl rfl iQ (by omega) fun Q I y=>?_;refine⟨(Q,k+1),by dsimp only;rw[ak _];rfl,⟨by dsimp only;omega,?_⟩,by dsimp only;omega⟩;have P:(bK j b).take (k+1)=(bK j b).take k++[iL j b k]:=by
    rw[aO _ _ (by simp[bK];omega)];simp[bK]
   dsimp only;rw[P];exact y.del 3
 ·refine⟨s,rfl,?_⟩;rw[if_pos w,hK,hH,qo,qo];rw[qj (by simp[bK];omega)]at g;exact g.take 2 (fun i A c=>by cases i with|zero=>exact c|succ i=>simp at c)
theorem Eu(p:Pm)(h:Heap):ab vV 199 #[jH p] h fun v h'=>∃r:Sl,v=r/\Sp h h' [ao 3 r 1 aG (upto (max 0 (min p.1 16)).toNat)]:=by
 refine Cy p ?_;unfold so;refine(Sp.refl h).boxed fun a q c=>?_;refine⟨p.1,(c.box 0 rfl).cell0 rfl,?_⟩;have em:(if(if(16:Int)<p.1 then(16:Int)else p.1)>(0:Int)then(if(16:Int)<p.1 then(16:Int)else p.1)else(0:Int))=((max 0 (min p.1 16)).toNat:Int):=by
  split<;>split<;>omega
 rw[em];generalize m:(max 0 (min p.1 16)).toNat=N;have d:N<=16:=by omega
 refine aA (fun t:Sl×Nat=>(t.1,(t.2:Int))) (fun t h'=>t.2<=N/\Sp h h' [emp,ao 3 t.1 1 aG (upto t.2)]) (fun t=>N-t.2) (⟨none,0,0⟩,0) rfl ⟨by simp,(c.jo 0 rfl fun _ _=>trivial).nil 3 1 aG⟩ ?_;rintro⟨s,k⟩ n ⟨o,b⟩;dsimp only at*;refine aj (fun e=>?_) (fun e=>?_)
 ·refine b.push af 1 rfl mE rfl (by decide) (fun _=>rfl) jQ (k:Int) rfl (by decide) (by rw[fd];omega) fun l h3 g=>?_;refine⟨(l,k+1),by dsimp only;rw[ak _];rfl,⟨by dsimp only;omega,?_⟩,by dsimp only;omega⟩;have j:upto (k+1)=upto k++[(k:Int)]:=by simp[upto,zx]
  dsimp only;rw[j];exact g
 ·have:k=N:=by omega
  subst this;exact⟨s,rfl,b.take 1 (fun i A f=>by cases i with|zero=>exact f|succ i=>simp at f)⟩
theorem BL(p:Pm)(seed:Int)(d:Sl)(l:aB)(h:Heap)(y:Rd h d 1 aG l)(I:l.length<=2^30):ab vV 198 #[jH p,vL vT seed,d] h fun v h'=>∃r:Sl,v=r/\Sp h h' [gd 31 r 1 av (dY p seed l)]:=by
 refine Bb p seed d ?_;unfold pW;refine(Sp.refl h).boxed fun a E z=>?_;refine⟨p,(z.box 0 rfl).aI _ rfl,(Hz p E).mono ?_⟩;rintro v G ⟨r,rfl,F⟩;have x:=z.comp F;refine⟨r,rfl,?_⟩;have B:=y.len;let at_:Nat->cu:=fun k=>dY p seed (l.take k);have h0:(if bC p then bK p.1.toNat p.2.1.toNat else[])=at_ 0:=by simp[at_,dY]
 rw[h0]at x;refine aA (fun t:Sl×Nat=>(t.1,(t.2:Int))) (fun t h'=>t.2<=l.length/\Sp h h' [ai a 24 [vL vR p.1,vL vR p.2.1,vL vR p.2.2],gd 31 t.1 1 av (at_ t.2)]) (fun t=>l.length-t.2) (r,0) rfl ⟨by simp,x⟩ ?_;rintro⟨s,k⟩ h3 ⟨N,m⟩;dsimp only at*;refine aj (fun e=>?_) (fun e=>?_)
 ·have f:k<l.length:=by omega
  refine(Seq.up y m.ag).cA k rfl f _ rfl ?_;refine⟨p,(m.box 0 rfl).aI _ rfl,(RP p seed l[k] h3).mono ?_⟩;rintro v O ⟨w,rfl,K,c⟩;have u:=(m.comp K).freeze 2 rfl (fun _=>rfl);refine⟨w,rfl,?_⟩;have o:(at_ k).length<=4+k∨at_ k=[]:=by
   by_cases q:bC p
   ·left;have:=(bS p).1 q;have E:=zt bD (l.take k);have G:=List.length_take_le k l;simp only[at_,dY,q,if_true,qp,qC,bK,zm];omega
   ·right;simp[at_,dY,q]
  have j:(at_ k).length+1<=2^32:=by
   rcases o with h|h
   ·omega
   ·rw[h];simp
  dsimp only;refine bf (fun g=>?_) (fun g=>?_)
  ·rw[c]at g;have b:(bC p&&bD l[k])=true:=by simpa using g
   rw[b,if_pos rfl]at u;refine u.Fh af 1 2 (by decide) rfl rfl iQ j fun H M L=>?_;refine⟨(H,k+1),by dsimp only;rw[ak _];rfl,⟨by dsimp only;omega,?_⟩,by dsimp only;omega⟩;rw[qA]at b;have n:at_ (k+1)=at_ k++[lr (ck p).toNat seed l[k]]:=by
    simp only[at_,dY,b.1,if_true];rw[oO f,if_pos b.2,zi,qm];rfl
   dsimp only;rw[n];exact L.del 2
  ·rw[c]at g;have b:(bC p&&bD l[k])=false:=by
    cases hh:(bC p&&bD l[k])with
    |false=>rfl
    |true=>rw[hh]at g;cases g
   refine⟨(s,k+1),by dsimp only;rw[ak _];rfl,⟨by dsimp only;omega,?_⟩,by dsimp only;omega⟩;have n:at_ (k+1)=at_ k:=by
    simp only[at_,dY];rw[Bool.and_eq_false_iff]at b;rcases b with h|h
    ·simp[h]
    ·have J:(l.take (k+1)).filter bD=(l.take k).filter bD:=by rw[oO f,if_neg (by simp[h])]
     rw[J]
   dsimp only;rw[n];exact u.del 2
 ·refine⟨s,rfl,?_⟩;have n:at_ k=dY p seed l:=by simp only[at_];rw[qj (by omega)]
  rw[n]at m;exact m.take 1 (fun i A D=>by cases i with|zero=>exact D|succ i=>simp at D)
theorem po(a:Sl)(m:aT)(n:Nat)(h:Heap)(b:fC h a 1 av m)(i:aW n m)(s:n<=64:=by omega)(p:m.length<=2^30:=by omega):ab vV 247 #[a] h fun v h'=>v=vP true/\h'=h:=by
 refine KQ a ?_;unfold Gz;have l:=b.len;refine aA (fun k:Nat=>(k:Int)) (fun k h'=>h'=h/\k<=m.length) (fun k=>m.length-k) 0 rfl ⟨rfl,by omega⟩ ?_;rintro k h' ⟨rfl,q⟩;refine aj (fun e=>?_) (fun e=>⟨rfl,rfl⟩);have d:k<m.length:=by omega
 refine b.get k rfl d fun r f=>?_;refine b.get 0 rfl (by omega) fun o c=>?_;have j:=f.len;have g:=c.len;rw[i _ (qn _)]at j g;refine cq (fun e=>by omega) fun _=>aj (fun e=>by omega) fun _=>?_;exact⟨k+1,by rw[ak _];rfl,⟨rfl,by omega⟩,by omega⟩
theorem Ad(a:Sl)(m:aT)(n:Nat)(h:Heap)(d:fC h a 1 av m)(x:aW n m)(D:n<=64)(z:m.length<=2^30):ab vV 249 #[a] h fun v h'=>∃(r:Sl) (rs:List Sl),v=r/\rs.length=m.length/\Sp h h' (ao 31 r 1 cx rs::bv 5 1 av rs m):=by
 refine KR a ?_;unfold GA;have y:=d.len;refine(Sp.refl h).make af cx iQ (by decide) ⟨none,0,0⟩ rfl rfl 0 m.length rfl (by omega) (by omega) (by omega) fun s E u F l=>?_;refine aA (fun t:Sl×List Sl=>(t.1,(t.2.length:Int))) (fun t h'=>t.2.length<=m.length/\Sp h h' (ao 31 t.1 1 cx t.2::bv 5 1 av t.2 (m.take t.2.length))) (fun t=>m.length-t.2.length) (s,[]) rfl ⟨by simp,by simpa[bv]using l⟩ ?_;rintro⟨s,rs⟩ k ⟨A,c⟩;dsimp only at*;refine aj (fun e=>?_) (fun e=>?_)
 ·have b:rs.length<m.length:=by omega
  refine(d.up c.ag).get rs.length rfl b fun r g=>?_;have f:m[rs.length].length=n:=x _ (qn _);refine(ie r _ k g).mono ?_;rintro v h3 ⟨w,rfl,j⟩;have i:=c.comp j;refine⟨w,rfl,?_⟩;refine i.push af 0 rfl iQ rfl (by decide) (fun _=>rfl) oF w rfl (by decide) (by omega) fun p B q=>?_;refine⟨(p,rs++[w]),by dsimp only;rw[ak _];simp,⟨by simp;omega,?_⟩,by simp;omega⟩;dsimp only;rw[show(rs++[w]).length=rs.length+1 by simp,aO _ _ b,oI (by rw[List.length_take];omega)];exact q
 ·have o:m.take rs.length=m:=qj (by omega);rw[o]at c;exact⟨s,rs,rfl,by omega,c⟩
theorem sK(a:Sl)(m:aT)(h:Heap)(b:fC h a 1 av m):ab vV 248 #[a] h fun v h'=>v=vL vR (fe m)/\h'=h:=by
 refine Ht a ?_;unfold BE;have d:=b.len;refine bt (fun e=>?_) (fun e=>?_)
 ·have:m=[]:=qM (by omega);subst this;exact⟨rfl,rfl⟩
 ·refine b.get 0 rfl (by omega) fun r c=>⟨?_,rfl⟩
  rw[c.len,fe,bE (by omega)]
theorem JH{r:Row}{c:Nat}(h:c<r.length:=by omega):aJ r c=r[c]:=by rw[aJ,qg,qd h];rfl
theorem Li(a:Sl)(m:aT)(n b bp:Nat)(h:Heap)(q:fC h a 1 av m)(w:aW n m)(z:bp<n)(y:m.length<=2^30):
  ab vV 307 #[a,vL vR b,vL vR bp] h fun v h'=>v=vL vR (match fS m b bp with|some i=>(i:Int)|none=>-1)/\h'=h:=by
 refine FD a b bp ?_;unfold xR;have x:=q.len;refine aA (fun k:Nat=>(k:Int)) (fun k h'=>h'=h/\b<=k/\k<=max b m.length/\∀j,j<k->(decide (b<=j)&&(aJ (az m j) bp !=0))=false) (fun k=>m.length-k) b rfl ⟨rfl,by omega,by omega,fun j g=>by rw[decide_eq_false (by omega)];rfl⟩ ?_;rintro k h' ⟨rfl,o,t,g⟩;refine aj (fun e=>?_) (fun e=>?_)
 ·rw[fS,ME (fun j f=>g j (by omega))];exact⟨rfl,rfl⟩
 ·have d:k<m.length:=by omega
  have s:m[k].length=n:=w _ (qn _);refine q.get k rfl d fun r u=>?_;refine u.cA bp rfl (by omega) _ rfl ?_;have c:aJ (az m k) bp=m[k][bp]'(by omega):=by rw[bE d,JH]
  refine cq (fun p=>?_) (fun p=>?_)
  ·have l:(decide (b<=k)&&(aJ (az m k) bp !=0))=true:=by
    rw[decide_eq_true o,c];simp;exact fun h0=>p (by rw[h0];rfl)
   rw[fS,MF d g l];exact⟨rfl,rfl⟩
  ·refine⟨k+1,by rw[ak _];rfl,⟨rfl,by omega,by omega,fun j f=>?_⟩,by omega⟩;rcases Nat.lt_succ_iff_lt_or_eq.1 f with h1|rfl
   ·exact g j h1
   ·rw[c,Ac.1 p];simp
theorem No(f:Addr)(c:UInt8)(a:Sl)(l:Row)(h:Heap)(m:gc h f)(i:Rd h a 1 av l)(x:l.length<=2^30):ab vV 308 #[vN (some f),vL vS c.toNat,a] h fun v h'=>∃r:Sl,v=r/\Sp h h' [ao 5 r 1 av (scaleB c l)]:=by
 refine Hv (some f) _ a ?_;unfold BG;have t:=i.len;refine(Hx f h).mono ?_;rintro v j ⟨rfl,rfl⟩;refine⟨some f,rfl,?_⟩;refine(Sp.refl j).make af av fv (by decide) 0 rfl rfl l.length l.length (by omega) (by omega) (qt _) (by omega) fun s u p A n=>?_;refine aA (fun k:Nat=>(k:Int)) (fun k h'=>k<=l.length/\Sp j h' [ao 5 s 1 av ((l.take k).map (Gf.mul c)++qi (l.length-k) 0)]) (fun k=>l.length-k) 0 rfl ⟨by omega,by simpa using n⟩ ?_;rintro k h3 ⟨y,b⟩;refine aj (fun e=>?_) (fun e=>?_)
 ·have d:k<l.length:=by omega
  refine(Seq.up i b.ag).cA k rfl d _ rfl ?_;refine(JG f c l[k] h3 (m.ag b.ag m.lt)).mono ?_;rintro v z ⟨rfl,rfl⟩;refine⟨_,rfl,?_⟩;refine b.set af 0 rfl (fun _=>rfl) rfl k rfl (by simp;omega) _ rfl rfl rfl fun w q=>?_;refine⟨k+1,by rw[ak _];rfl,⟨by omega,?_⟩,by omega⟩;have g:((l.take k).map (Gf.mul c)).length=k:=by simp;omega
  have o:((l.take k).map (Gf.mul c)++qi (l.length-k) 0).set k (Gf.mul c l[k])=(l.take (k+1)).map (Gf.mul c)++qi (l.length-(k+1)) 0:=by
   rw[qY _ _ (by omega),g,q5,show l.length-k=l.length-(k+1)+1 by omega,List.replicate_succ,zM,aO _ _ d,zi,qm];rfl
  rw[<-o];exact q
 ·have:k=l.length:=by omega
  subst this;refine⟨s,rfl,?_⟩;rw[qj (qt _),q5,List.replicate_zero,qU]at b;exact b
theorem Ae{c:UInt8}{a t:Row}(d:a.length=t.length){k:Nat}(b:k<t.length):(zI (fun x y=>y^^^Gf.mul c x) (a.take k) (t.take k)++t.drop k).set k (t[k]^^^Gf.mul c (a[k]'(by omega)))=zI (fun x y=>y^^^Gf.mul c x) (a.take (k+1)) (t.take (k+1))++t.drop (k+1):=by
 have e:(zI (fun x y=>y^^^Gf.mul c x) (a.take k) (t.take k)).length=k:=by simp;omega
 rw[qY _ _ (by omega),e,q5,qL b,zM,aO _ _ b,aO _ _ (show k<a.length by omega),yO (by simp;omega)];simp
theorem RQ(f:Addr)(c:UInt8)(a to:Sl)(d lt:Row)(h:Heap)(G:gc h f)(s:¬to.on f.block)(z:Seq h (fun b=>¬to.on b) a 1 av d)(q:Own h 5 to 1 av lt)(m:d.length=lt.length)(I:d.length<=2^30):
  ab vV 310 #[vN (some f),vL vS c.toNat,a,to] h fun v h'=>v=.tuple #[]/\Own h' 5 to 1 av (cV c d lt)/\aH (fun b=>¬to.on b) h h':=by
 refine KT (some f) _ a to ?_;unfold GC;have H:=z.len;have D:=q.len;refine bt (fun e=>?_) (fun _=>?_)
 ·have F:c=0:=Ac.1 e;subst F;have:cV 0 d lt=lt:=by
   apply List.ext_getElem (by rw[bG m]);intro i A B;simp[cV,Gf.zero_mul]
  exact⟨rfl,by rw[this];exact q,aH.refl _ _⟩
 ·refine aA (fun k:Nat=>(k:Int)) (fun k h'=>k<=d.length/\Own h' 5 to 1 av (zI (fun x y=>y^^^Gf.mul c x) (d.take k) (lt.take k)++lt.drop k)/\aH (fun b=>¬to.on b) h h') (fun k=>d.length-k) 0 rfl ⟨by omega,by simpa using q,aH.refl _ _⟩ ?_;rintro k A ⟨J,g,j⟩;refine aj (fun e=>?_) (fun e=>?_)
  ·have w:k<d.length:=by omega
   have r:k<lt.length:=by omega
   have n:(zI (fun x y=>y^^^Gf.mul c x) (d.take k) (lt.take k)).length=k:=by simp;omega
   have E:(zI (fun x y=>y^^^Gf.mul c x) (d.take k) (lt.take k)++lt.drop k).length=lt.length:=by rw[qp,n,List.length_drop];omega
   refine(z.ag j).cA k rfl w _ rfl ?_;have o:(zI (fun x y=>y^^^Gf.mul c x) (d.take k) (lt.take k)++lt.drop k)[k]'(by omega)=lt[k]:=by
    rw[List.getElem_append_right (by omega)];simp[n]
   refine(g.seq (p:=fun _=>True) (fun _=>rfl) fun _ _=>trivial).lp k rfl (by omega) _ rfl fun ax l=>?_;rw[o]at l⊢;refine(JG f c d[k] A (G.ag j s)).mono ?_;rintro v B ⟨rfl,rfl⟩;refine⟨_,rfl,⟨l,trivial⟩,?_⟩;dsimp only;rw[pk];refine g.set af (fun _=>rfl) rfl k rfl (by omega) _ rfl rfl rfl fun h3 u t _=>⟨trivial,?_⟩
   refine⟨k+1,by rw[ak _];rfl,⟨by omega,?_,j.trans t⟩,by omega⟩;rw[<-Ae m r];exact u
  ·have:k=d.length:=by omega
   subst this;rw[qj (qt _),qj (by omega),q9 (by omega),qU]at g;exact⟨rfl,g,j⟩
abbrev lR(a:Sl)(rs:List Sl)(m:aT):List HP:=ao 31 a 1 cx rs::bv 5 1 av rs m
theorem sM{a:Sl}{rs:List Sl}{m:aT}(c:rs.length=m.length)(i:Nat)(b:i<m.length):(lR a rs m)[i+1]?=some (ao 5 (rs[i]'(by omega)) 1 av m[i]):=by
 rw[qw];exact fb c i b
theorem Uu{h c:Heap}{a:Addr}{v:Value}(d:cellOf h a=some v)(e:aH (fun b=>b<h.size) h c):cellOf c a=some v:=e.cell (lt_of_cell d) d
theorem PK{B:ap}{A:Heap}{f:Addr}(R:gc A f)(F:B f.block){a:Sl}{n c bp:Nat}{rs:List Sl}{m:aT}(W:rs.length=m.length)(Z:aW n m)(hc:bp<n)(hn:n<=64)(U:c<m.length)(hs:m.length<=2^30)
  {h:Heap} (H:aa B A h (lR a rs m)) {K:Heap->Prop} (hk:∀h',aa B A h' (lR a rs (dn c bp m m.length))->K h'):
 aS (σ:=Int) (fun d K4 i=>
 Br (decide (d<((a.len:Nat):Int)))
 (Br (d !=(c:Int))
 (∃w:Addr,(a.ptr=some w/\0<=d/\d<((a.len:Nat):Int))/\
 ∃g:Sl,cellOf i (w.add (d.toNat*1))=some (vM g.ptr g.len g.cap)/\
 ∃D:Addr,(g.ptr=some D/\0<=(bp:Int)/\(bp:Int)<((g.len:Nat):Int))/\
 ∃J:Int,cellOf i (D.add ((bp:Int).toNat*1))=some (vL vS J)/\
 ∃a25:Addr,(a.ptr=some a25/\0<=(c:Int)/\(c:Int)<((a.len:Nat):Int))/\
 ∃j:Sl,cellOf i (a25.add ((c:Int).toNat*1))=some (vM j.ptr j.len j.cap)/\
 ∃I:Addr,(a.ptr=some I/\0<=d/\d<((a.len:Nat):Int))/\
 ∃l:Sl,cellOf i (I.add (d.toNat*1))=some (vM l.ptr l.len l.cap)/\
 ac vV 310 #[(vN (some f)),(vL vS J),(vM j.ptr j.len j.cap),(vM l.ptr l.len l.cap)] (.many []) i fun _ y=>
 (ar.ok [(w.add (d.toNat*1),(vM g.ptr g.len g.cap))] y)/\
 K4 (qc vR (d+(1:Int))) y)
 (K4 (qc vR (d+(1:Int))) i))
 (K i)) (0:Int) h:=by
 have al:a.len=m.length:=by rw[(H.own 0 rfl).len,W]
 refine aA (fun k:Nat=>(k:Int)) (fun k h'=>k<=m.length/\aa B A h' (lR a rs (dn c bp m k))) (fun k=>m.length-k) 0 rfl ⟨by omega,by rw[OC];exact H⟩ ?_;rintro k h1 ⟨ad,o⟩;have N:=kM c bp m k;have t:rs.length=(dn c bp m k).length:=by rw[N];exact W
 refine aj (fun e=>?_) (fun e=>?_)
 ·have x:k<m.length:=by omega
  refine cq (fun Y=>?_) (fun Y=>?_)
  ·have s:k≠c:=fun hh=>Y (by rw[hh]);have M:az (dn c bp m k) k=az m k:=by rw[mA x,if_neg (by omega)]
   have S:az (dn c bp m k) c=az m c:=by rw[mA U,if_neg (by omega)]
   have e4:(dn c bp m k)[k]'(by omega)=az m k:=by rw[<-M,bE]
   have e5:(dn c bp m k)[c]'(by omega)=az m c:=by rw[<-S,bE]
   have u:=sM (a:=a) t k (by omega);have X:=sM (a:=a) t c (by omega);rw[e4]at u;rw[e5]at X;have lk:=bW Z x;have lt:=bW Z U;have q:=o.off (k+1) 0 (by omega) u rfl;have r:=q.1.seq (fun _=>rfl) q.2;refine r.rv k rfl (by omega) fun a1 L Q=>?_;have P:=o.seq (k+1) u (fun _=>rfl);refine P.cA bp rfl (by omega) _ rfl ?_;refine r.rv c rfl (by omega) fun _ _ _=>?_;refine r.rv k rfl (by omega) fun _ _ _=>?_;have z:(oG (rs[c]'(by omega)) 1 av (az m c)).p h1 (fun b=>¬(rs[k]'(by omega)).on b):=by
    have:=o.off (k+1) (c+1) (by omega) u X;exact(this.1.seq (fun _=>rfl) this.2).mono fun b hb=>hb.2
   refine(RQ f _ _ _ (az m c) (az m k) h1 (R.ag o.ag F) (o.base (k+1) u F) z (o.own (k+1) u) (by omega) (by omega)).mono ?_;rintro v h2 ⟨rfl,T,G⟩;have V:=o.jg (k+1) u G T;have O:=G.cell Q.2 L;refine⟨(),rfl,⟨O,trivial⟩,?_⟩;refine⟨k+1,by rw[ak _];rfl,⟨by omega,?_⟩,by omega⟩;rw[OD x s];show aa B A h2 (ao 31 a 1 cx rs::bv 5 1 av rs ((dn c bp m k).set k _));rw[<-Ir t k (by omega)];have E:(az m k)[bp]'(by omega)=aJ (az m k) bp:=(JH).symm;rw[E]at V;exact V
  ·have s:k=c:=by omega
   subst s;exact⟨k+1,by rw[ak _];rfl,⟨by omega,by rw[OE];exact o⟩,by omega⟩
 ·have:k=m.length:=by omega
  subst this;exact hk _ o
theorem JI{rs:List Sl}{m:aT}(a:rs.length=m.length)(i j:Nat)(c:i<m.length)(b:j<m.length):
  ((bv 5 1 av rs m).set i (ao 5 (rs[j]'(by omega)) 1 av m[j])).set j (ao 5 (rs[i]'(by omega)) 1 av m[i])=bv 5 1 av ((rs.set i (rs[j]'(by omega))).set j (rs[i]'(by omega))) (ge m i j):=by
 rw[ku a,ku (by simpa using a),ge,bE c,bE b]
theorem BM{B:ap}{x:Heap}{f:Addr}(O:gc x f)(S:B f.block){a:Sl}{n eZ:Nat}{rs:List Sl}{m:aT}(hl:rs.length=m.length)(hm:aW n m)(hc:eZ<=n)(hn:n<=64)(hs:m.length<=2^30)
  {h:Heap} (H:aa B x h (lR a rs m)):ab vV 250 #[vN (some f),a,vL vR eZ] h fun v h'=>
   ∃L:List Sl,v=vL vR (bu m eZ).1/\L.length=m.length/\aa B x h' (lR a L (bu m eZ).2):=by
 have ay:a.len=m.length:=by rw[(H.own 0 rfl).len,hl]
 refine FB (some f) a eZ ?_;unfold xN;refine aA (fun t:List Sl×Nat=>(((bu m t.2).1:Int),(t.2:Int))) (fun t h'=>t.2<=eZ/\t.1.length=m.length/\aa B x h' (lR a t.1 (bu m t.2).2)) (fun t=>eZ-t.2) (rs,0) rfl ⟨by simp,hl,H⟩ ?_;rintro⟨c,bp⟩ h1 ⟨hk,N,K⟩;dsimp only at*;have y:=gp hm bp;have F:=te m bp;obtain⟨X,u⟩:∃X,X=bu m bp:=⟨_,rfl⟩
 rw[<-u]at y F K⊢;obtain⟨b,l⟩:=X;dsimp only at y F K⊢;have w:c.length=l.length:=by omega
 have d:bu m (bp+1)=gf (b,l) bp:=by rw[bu,<-u]
 refine aj (fun e=>?_) (fun e=>?_)
 ·have Q:bp<n:=by omega
  have R:fC h1 a 1 av l:=K.Is w (fun _=>rfl);refine(Li a l n b bp h1 R y.1 Q (by omega)).mono ?_;rintro v h2 ⟨rfl,rfl⟩;refine⟨_,rfl,?_⟩;dsimp only;cases hb:fS l b bp with
  |none=>
   refine aj (fun _=>?_) (fun e2=>absurd (by decide) e2);refine⟨(c,bp+1),?_,⟨by dsimp only;omega,N,?_⟩,by dsimp only;omega⟩
   ·dsimp only;rw[d,gf,hb,ak _];rfl
   ·dsimp only;rw[d,gf,hb];exact K
  |some i=>
   have hh:=mR hb;refine aj (fun e2=>absurd (show((i:Nat):Int)<0 from e2) (by omega)) (fun _=>?_);dsimp only;have I:b<l.length:=by omega
   have Z:=hh.2.1;have V:=K.seq 0 rfl (fun _=>rfl);refine aP ?_;refine V.rv i rfl (by omega) fun _ _ _=>?_;refine V.rv b rfl (by omega) fun _ _ _=>?_;refine K.set af 0 rfl (fun _=>rfl) rfl b rfl (by omega) (c[i]'(by omega)) rfl rfl rfl fun h3 H3=>⟨trivial,?_⟩
   refine H3.set af 0 rfl (fun _=>rfl) rfl i rfl (by simp;omega) (c[b]'(by omega)) rfl rfl rfl fun W H4=>⟨trivial,?_⟩
   have o:aa B x W (lR a ((c.set b (c[i]'(by omega))).set i (c[b]'(by omega))) (ge l b i)):=by
    have:=H4.SN (b+1) (i+1) (A:=ao 5 (c[b]'(by omega)) 1 av l[b]) (A2:=ao 5 (c[i]'(by omega)) 1 av l[i]) (fb w b I) (fb w i Z);show aa B x W (ao 31 a 1 cx _::bv 5 1 av _ _);rw[<-JI w b i I Z];exact this
   obtain⟨j,E⟩:∃j,j=(c.set b (c[i]'(by omega))).set i (c[b]'(by omega)):=⟨_,rfl⟩
   rw[<-E]at o;have ax:j.length=l.length:=by rw[E];simp;omega
   obtain⟨g,s⟩:∃g,g=ge l b i:=⟨_,rfl⟩
   have D:aW n g:=by rw[s];exact xi y.1 I Z
   have M:g.length=l.length:=by rw[s];exact iE _ _ _
   rw[<-s]at o;have p:j.length=g.length:=by omega
   have k:b<g.length:=by omega
   refine aP ?_;have gt:=sM (a:=a) p b k;have lt:g[b].length=n:=D _ (qn _);have T:=o.seq 0 rfl (fun _=>rfl);refine T.rv b rfl (by omega) fun am G _=>?_;have z:=o.seq (b+1) gt (fun _=>rfl);refine z.cA bp rfl (by omega) _ rfl ?_;refine T.rv b rfl (by omega) fun a0 P _=>?_;have U:gc W f:=O.ag o.ag S;refine(RM f _ W U).mono ?_;rintro v h5 ⟨rfl,rfl⟩;refine⟨_,rfl,⟨P,G,trivial⟩,?_⟩;refine(No f _ _ _ h5 U z (by omega)).mono ?_;rintro v h6 ⟨r,rfl,R6⟩;refine⟨r,rfl,⟨Uu G R6.ag,trivial⟩,?_⟩;have H6:=o.comp R6;dsimp only;refine H6.set af 0 rfl (fun _=>rfl) rfl b rfl (by omega) r rfl rfl rfl fun h7 H7=>⟨trivial,?_⟩
   have Y:g[b]=az g b:=(bE k).symm;have al:(g[b])[bp]'(by omega)=aJ (az g b) bp:=by rw[JH (by rw[bE k];omega)];simp only[bE k]
   have ad:aa B x h7 (lR a (j.set b r) (gG b bp g)):=by
    have h8:aa B x h7 ((ao 31 a 1 cx (j.set b r)::bv 5 1 av j g)++[ao 5 r 1 av (scaleB (Gf.inv ((g[b])[bp]'(by omega))) g[b])]):=H7;have h9:=h8.UX (b+1) (by simp[jh p];omega);rw[al,Y]at h9;show aa B x h7 (ao 31 a 1 cx _::bv 5 1 av _ (g.set b _));rw[<-ku p];exact h9
   have J:(gG b bp g).length=g.length:=kL _ _ _;refine PK O S (by simp;omega) (pQ D k) Q hn (by omega) (by omega) ad fun h8 H8=>?_;have q:gf (b,l) bp=(b+1,dn b bp (gG b bp g) l.length):=by
    rw[gf];dsimp only;rw[hb,s]
   refine⟨(j.set b r,bp+1),?_,⟨by dsimp only;omega,by simp;omega,?_⟩,by dsimp only;omega⟩
   ·dsimp only;rw[d,q,ak _,ak _];rfl
   ·dsimp only;rw[d,q];rw[J,M]at H8;exact H8
 ·have:bp=eZ:=by omega
  subst this;exact⟨c,by rw[<-u],N,by rw[<-u];exact K⟩
theorem Lj(f:Addr)(a:Sl)(m:aT)(n:Nat)(h:Heap)(y:gc h f)(s:fC h a 1 av m)(i:aW n m)(q:n<=64)(k:m.length<=2^30):
  ab vV 297 #[vN (some f),a] h fun v h'=>∃(r:Sl) (rs:List Sl),v=r/\r.len=cR m/\rs.length=m.length/\r.len<=m.length/\Sp h h' (lR ⟨r.ptr,m.length,r.cap⟩ rs (bu m (fe m)).2):=by
 refine FC (some f) a ?_;unfold xQ;refine(po a m n h s i q k).mono ?_;rintro v B ⟨rfl,rfl⟩;refine⟨_,rfl,bf (fun e=>by cases e) fun _=>?_⟩;refine(Ad a m n B s i q k).mono ?_;rintro v A ⟨r,rs,rfl,w,u⟩;refine⟨r,rfl,(uQ f A).mono ?_⟩;rintro v h3 ⟨rfl,rfl⟩;refine⟨some f,rfl,(sK r m h3 (u.Is w (fun _=>rfl))).mono ?_⟩;rintro v F ⟨rfl,rfl⟩;have D:fe m<=n:=by
  cases m with
  |nil=>simp[fe,az]
  |cons x t=>rw[fe,bE (by simp)];exact Nat.le_of_eq (i _ (by simp))
 refine⟨_,rfl,(BM y y.lt w i D q k u).mono ?_⟩;rintro v E ⟨j,rfl,g,o⟩;have d:=te m (fe m);rw[(gp i _).2]at d;have z:=(o.own 0 rfl).cap;have b:=(o.own 0 rfl).len;refine⟨_,rfl,⟨yb _,vf.2 (show(bu m (fe m)).1<=r.cap by omega)⟩,⟨r.ptr,(bu m (fe m)).1,r.cap⟩,j,by simp,rfl,g,d,?_⟩;have:r=⟨r.ptr,m.length,r.cap⟩:=by
  obtain⟨p,l,c⟩:=r;simp only at b⊢;rw[<-g,<-b]
 rw[<-this];exact o
theorem PL(f:Addr)(a:Sl)(m:aT)(n:Nat)(h:Heap)(j:gc h f)(b:fC h a 1 av m)(d:aW n m)(i:n<=64)(e:m.length<=2^30):
  ab vV 269 #[vN (some f),a] h fun v h'=>v=vL vR (cR m)/\Sp h h' []:=by
 refine Jr (some f) a ?_;unfold Ee;refine(Lj f a m n h j b d i e).mono ?_;rintro v k ⟨r,rs,rfl,c,_,_,g⟩;exact⟨r,rfl,by rw[c],.zip g.ag⟩
theorem CL(p:Pm)(seed:Int)(b:Sl)(l:aB)(h:Heap)(k:Rd h b 1 aG l)(s:l.length<=2^29):ab vV 214 #[jH p,vL vT seed,b] h fun v h'=>v=vL vR (HQ p seed l)/\Sp h h' []:=by
 refine DW p seed b ?_;unfold uK;refine(Sp.refl h).boxed fun a t i=>?_;refine⟨p,(i.box 0 rfl).aI _ rfl,(ud t).mono ?_⟩;rintro v n ⟨f,rfl,j⟩;have c:=i.comp j;have g:=c.box 0 rfl;refine⟨some f,rfl,⟨g.cell0 rfl,g.cell rfl,g.cell rfl,trivial⟩,?_⟩;refine(BL p seed b l n (Seq.up k c.ag) (by omega)).mono ?_;rintro v h3 ⟨r,rfl,m⟩;have d:=c.comp m;refine⟨r,rfl,trivial,?_⟩;have q:=Rn p seed l;have e:(ck p).toNat<=64:=by
  unfold ck;split
  ·rename_i o;have:=(bS p).1 o;omega
  ·omega
 refine(PL f r _ _ h3 (d.box 1 rfl) (d.Di 2 rfl) (xt p seed l) e (by omega)).mono ?_;rintro v w ⟨rfl,u⟩;exact⟨_,rfl,trivial,rfl,.zip (d.comp u).ag⟩
theorem PM(p:Pm)(seed:Int)(b:Sl)(l:aB)(h:Heap)(m:Rd h b 1 aG l)(f:l.length<=2^29):ab vV 156 #[jH p,vL vT seed,b] h fun v h'=>v=vP (fz p seed l)/\Sp h h' []:=by
 refine DR p seed b ?_;unfold uG;refine(Sp.refl h).boxed fun a q i=>?_;refine⟨p,(i.box 0 rfl).aI _ rfl,(dO p q).mono ?_⟩;rintro v o ⟨rfl,k⟩;have d:=i.comp k;refine⟨_,rfl,trivial,bn (fun e=>?_) (fun e=>⟨trivial,trivial,by rw[fz,e];rfl,.zip d.ag⟩)⟩;have j:=d.box 0 rfl;refine⟨p,j.aI _ rfl,p,j.aI _ rfl,(CL p seed b l o (Seq.up m d.ag) f).mono ?_⟩;rintro v h3 ⟨rfl,n⟩;have g:=d.comp n;have c:=g.box 0 rfl;refine⟨_,rfl,⟨c.cell0 rfl,c.cell rfl,c.cell rfl,trivial⟩,(kI p h3).mono ?_⟩;rintro v s ⟨rfl,r⟩;exact⟨_,rfl,trivial,by rw[fz,e];rfl,.zip (g.comp r).ag⟩
theorem Ev(p:Pm)(seed:Int)(h:Heap):ab vV 195 #[jH p,vL vT seed] h fun v h'=>v=vP (fz p seed (dU p))/\Sp h h' []:=by
 refine Cx p seed ?_;unfold sn;refine(Sp.refl h).boxed fun a g d=>?_;have e:=d.box 0 rfl;refine⟨p,e.aI _ rfl,p,e.aI _ rfl,(Eu p g).mono ?_⟩;rintro v f ⟨r,rfl,i⟩;have c:=d.comp i;have b:=c.box 0 rfl;refine⟨r,rfl,⟨b.cell0 rfl,b.cell rfl,b.cell rfl,trivial⟩,(PM p seed r _ f (c.seq 1 rfl (fun _=>rfl)) (by rw[fd];omega)).mono ?_⟩;rintro v h3 ⟨rfl,j⟩;exact⟨_,rfl,trivial,rfl,.zip (c.comp j).ag⟩
theorem RR(p:Pm)(o b:Int)(h:Heap):ab vV 137 #[jH p,vL vR o,vL vR b] h fun v h'=>
  v=.tuple #[vL vR (((lQ p o b).getD 0:Nat):Int),vP (lQ p o b).isSome]/\Sp h h' []:=by
 refine Ho p o b ?_;unfold Bz;refine(Sp.refl h).boxed fun w A r=>?_;have r:Sp h A [ai w 24 [vL vR p.1,vL vR p.2.1,vL vR p.2.2]]:=r;refine aA (fun i:Nat=>(i:Int)) (fun i h'=>i<=16/\(∀k,k<i->Es p o b k=false)/\Sp h h' [ai w 24 [vL vR p.1,vL vR p.2.1,vL vR p.2.2]]) (fun i=>16-i) 0 rfl ⟨by omega,fun k f=>absurd f (Nat.not_lt_zero k),r⟩ ?_;rintro i y ⟨E,c,n⟩;refine aj (fun e=>?_) fun e=>?_
 ·have z:i<16:=by omega
  have a:=n.box 0 rfl;refine⟨p,a.aI _ rfl,(ub _ _ _ y).mono ?_⟩;rintro _ h3 ⟨rfl,rfl⟩;refine⟨_,rfl,⟨a.cell0 rfl,a.cell rfl,a.cell rfl,trivial⟩,(Ev p _ h3).mono ?_⟩;rintro _ D ⟨rfl,B⟩;have u:=n.up B.ag;refine⟨_,rfl,trivial,bn (fun g=>?_) fun g=>?_⟩
  ·have l:lQ p o b=some i:=by
    unfold lQ;refine List.find?_eq_some_iff_append.2 ⟨g,qz i,(qz (15-i)).map (·+(i+1)),?_,fun k f=>?_⟩
    ·apply zq;intro j;by_cases t:j<i
     ·rw[ql (by simpa using t),q8 (by omega),q8 t]
     ·rw[qh (by simp;omega),zm];by_cases q:j=i
      ·subst q;rw[q5,q8 (by omega)];rfl
      ·obtain⟨d,x⟩:∃d,j=i+(d+1):=⟨j-i-1,by omega⟩
       subst x;rw[zd,qw,qN];by_cases m:d<15-i
       ·rw[q8 m,q8 (by omega)];simp;omega
       ·rw[qX (by simp;omega),qX (by simp;omega)];rfl
    ·rw[c k (qF.1 f)];rfl
   rw[l];exact⟨rfl,.zip u.ag⟩
  ·refine⟨i+1,by rw[ak _];rfl,⟨by omega,fun k f=>?_,u⟩,by omega⟩;by_cases s:k<i
   ·exact c k s
   ·have:k=i:=by omega
    subst this;exact g
 ·have l:lQ p o b=none:=by
   unfold lQ;rw[List.find?_eq_none];intro k f;rw[c k (by have:=qF.1 f;omega)];simp
  rw[l];exact⟨rfl,.zip n.ag⟩
theorem Np(p:Pm)(o:Int)(n:Nat)(h:Heap)(J:n<=2^30):ab vV 82 #[jH p,vL vR o,vL vR n] h fun v h'=>
  (cy p o n=none->v=.tuple #[vM none 0 0,vP false]/\Sp h h' [])/\
  (∀l,cy p o n=some l->∃r:Sl,v=.tuple #[r,vP true]/\Sp h h' [ao 3 r 1 aG l]):=by
 refine DF p o n ?_;unfold uy;refine(Sp.refl h).boxed fun w D k=>?_;have k:Sp h D [ao 3 ⟨none,0,0⟩ 1 aG [],ai w 24 [vL vR p.1,vL vR p.2.1,vL vR p.2.2]]:=(k.nil 3 1 aG).cL [1,0];refine aA (fun t:Sl×Nat×aB=>(t.1,(t.2.1:Int))) (fun t h'=>t.2.1<=n/\cy p o t.2.1=some t.2.2/\Sp h h' [ao 3 t.1 1 aG t.2.2,ai w 24 [vL vR p.1,vL vR p.2.1,vL vR p.2.2]]) (fun t=>n-t.2.1) (⟨none,0,0⟩,0,[]) rfl ⟨by simp,rfl,k⟩ ?_;rintro⟨s,i,l⟩ y ⟨I,c,f⟩;dsimp only at*;have B:=gm c;have b:∀j,lQ p o i=none->j<=n-(i+1)->cy p o (i+1+j)=none:=fun j m=>by
  induction j with
  |zero=>intro _;show cy p o (i+1)=none;unfold cy;rw[c,m];rfl
  |succ j ih=>intro F;show cy p o ((i+1+j)+1)=none;unfold cy;rw[ih (by omega)];rfl
 refine aj (fun e=>?_) fun e=>?_
 ·have A:i<n:=by omega
  refine⟨p,(f.box 1 rfl).aI _ rfl,(RR p o i y).mono ?_⟩;rintro _ h3 ⟨rfl,x⟩;have u:=f.up x.ag;refine⟨(_,_),rfl,bf (fun g=>?_) fun g=>?_⟩
  ·have a:cy p o n=none:=by
    have:=b (n-(i+1)) (Option.isSome_eq_false_iff.1 g|>Option.isNone_iff_eq_none.1) (qt _);rw[show i+1+(n-(i+1))=n by omega]at this;exact this
   rw[a];exact⟨fun _=>⟨rfl,.zip u.ag⟩,fun l h=>by cases h⟩
  ·obtain⟨t,q⟩:∃t,lQ p o i=some t:=Option.isSome_iff_exists.1 g;rw[q];refine u.push af 0 rfl mE rfl (by decide) (fun _=>rfl) jQ (t:Int) rfl (by decide) (by omega) fun z G E=>?_;refine⟨(z,i+1,l++[(t:Int)]),by dsimp only;rw[ak _];rfl,⟨by dsimp only;omega,?_,E⟩,by dsimp only;omega⟩;show cy p o (i+1)=_;unfold cy;rw[c,q];rfl
 ·have d:i=n:=by omega
  subst d;rw[c];exact⟨fun h=>(by cases h),fun H h=>(by injection h with h;subst h;exact⟨s,rfl,f.cL [0]⟩)⟩
end Go.Qw
namespace Wl
open Go
def nE(m:aC)(l:cu):cu:=(gU m l).map cB
def it(m:aC)(l:cu):cu:=bc m++nE m l
def eN(d:bj)(a:Nat)(n:Int):Bool:=decide (max n 0<=(d.room:Int)-a)
def jZ(m:aC)(d:bj)(n:Int):Bool:=!d.lost&&(eN d d.l.length n||eN d (it m d.l).length n)
def fA(m:aC)(w:Pow)(d:bj)(n:Int):Int×Pow×bj:=
 if d.lost then(5,w,d)else if !jZ m d n then(7,w,d)else if eN d d.l.length n then(0,w,d)else d.rewrite w (it m d.l)
theorem RS(l:List cJ):(rx l).length<=l.length:=by
 unfold rx;rw[qC];exact zh (zt _ _) (by simp)
theorem rg(m:aC)(l:cu):(gU m l).length<=l.length:=by
 unfold gU;refine zh (RS _) ?_;rw[wD];exact List.length_filterMap_le _ _
theorem ue(m:aC)(l:cu):(nE m l).length<=l.length:=by unfold nE;rw[qC];exact rg m l
end Wl
namespace Go.Qw
open Go Go.Vc Go.Proofs Wl
section
variable {B:ap} {h0 h:Heap} {As:List HP} {a pw:Addr} {d:bj} {w:Pow}
theorem dA.rewrite{l:cu}(h:dA d):dA (d.rewrite w l).2.2:=by
 unfold bj.rewrite;split
 ·exact h
 ·rename_i b;split
  ·exact h
  ·split
   ·exact h
   ·rename_i e;have a:∀c∈l,c.length=64:=by simpa using b
    split
    ·exact h
    ·split
     ·exact⟨zJ _,by dsimp only;omega,h.room,a,zJ _,by simp⟩
     ·exact⟨h.wait,h.len,h.room,h.cell,by dsimp only;omega,a⟩
theorem JJ(x:Sl)(l:cu)(H:aa B h0 h (iC pw a d::dq 83 pw w::As))(M:St B h0 As fun h=>fC h x 1 av l)(N:l.length<=2^20)(u:∀c∈l,c.length<=2^20):
  ab vV 117 #[vN (some a),x] h fun v h'=>v=vL vR (d.rewrite w l).1/\aa B h0 h' (iC pw a (d.rewrite w l).2.2::dq 83 pw (d.rewrite w l).2.1::As):=by
 refine pH (some a) x ?_;unfold kX;have O:=M.at [_,_] H;have W:=O.len;have o:=dA.rewrite (w:=w) (l:=l) (And.left (id H).om);have j:∀(e:Int),d.rewrite w l=(e,w,d)->(Value.int .i64 e=vL vR (d.rewrite w l).1/\aa B h0 h (iC pw a (d.rewrite w l).2.2::dq 83 pw (d.rewrite w l).2.1::As)):=fun e Q=>by
  rw[Q];exact⟨rfl,H⟩
 refine aA (fun i:Nat=>(i:Int)) (fun i h'=>i<=l.length/\(∀c∈l.take i,c.length=64)/\h'=h) (fun i=>l.length-i) 0 rfl ⟨by omega,by simp,rfl⟩ ?_;rintro i h1 ⟨hi,f,rfl⟩;refine aj (fun e=>?_) fun e=>?_
 ·have m:i<l.length:=by omega
  refine O.get i rfl m fun r V=>?_;have R:=V.len;refine cq (fun X=>j 1 ?_) fun X=>?_
  ·unfold bj.rewrite;rw[if_pos];rw[yj,List.all_eq_false];exact⟨l[i],qn m,by simp;omega⟩
  ·refine⟨i+1,by rw[ak _];rfl,⟨by omega,fun c k=>?_,rfl⟩,by omega⟩;rw[aO _ _ m]at k;rcases qE.1 k with k|k
   ·exact f c k
   ·rw[qB.1 k];omega
 have f:∀c∈l,c.length=64:=by rw[qj (by omega)]at f;exact f
 have p:(!l.all fun b=>decide (b.length=64))=false:=by
  rw[Bool.not_eq_false',qT];exact fun c k=>decide_eq_true (f c k)
 have z:d.rewrite w l=(if d.lost then(5,w,d)else if d.room<l.length then(7,w,d)else if w.off then(14,w,d)else if w.step.1 then(0,w.step.2,{d with l:=l,wait:=0,laid:=[],has:=false})else(14,w.step.2,{d with laid:=l,has:=true})):=by
  unfold bj.rewrite;rw[p];rfl
 obtain⟨ok,s,b,G⟩:=H.om;have A:=G.box 0 rfl;refine aP (aP (bn (fun e=>by cases e) fun _=>⟨a,rfl,d.lost,A.cell rfl,bn (fun e=>j 5 (by rw[z,if_pos e])) fun g=>?_⟩));refine⟨a,rfl,(d.room:Int),A.cell rfl,aj (fun e=>j 7 (by rw[z,if_neg (by simp[g]),if_pos (by omega)])) fun F=>?_⟩;obtain⟨U,T,D⟩:=(G.bh 4 [3,0,1,2]).sD;refine⟨a,rfl,some pw,A.cell0 rfl,(AX U (D.box 0 rfl)).mono ?_⟩;rintro _ h2 ⟨rfl,rfl⟩;refine⟨_,rfl,bf (fun e=>j 14 ?_) fun y=>?_⟩
 ·rw[z,if_neg (by simp[g]),if_neg (by omega),if_pos (by simpa using e)]
 have n:w.off=false:=by simpa using y
 have q:d.rewrite w l=(if w.step.1 then(0,w.step.2,{d with l:=l,wait:=0,laid:=[],has:=false})else(14,w.step.2,{d with laid:=l,has:=true})):=by
  rw[z,if_neg (by simp[g]),if_neg (by omega),if_neg (by simp[n])]
 refine⟨a,rfl,some pw,A.cell0 rfl,(xT (G.bh 4 [3,0,1,2])).mono ?_⟩;rintro _ P ⟨rfl,L⟩;have t:=M.at [_,_,_,_] L;refine⟨_,rfl,bf (fun e=>?_) fun e=>?_⟩
 ·rw[q,if_neg (by simp[e])]at o⊢;refine(CH x l P t N u).mono ?_;rintro _ S ⟨r,rfl,I⟩;have J:=(L.cQ I).bh 5 [2,3,0,1];refine⟨r,rfl,a,rfl,J.store af 0 rfl rfl 4 [r] rfl rfl rfl (by simp[eC]) fun Y E=>?_⟩;refine⟨a,rfl,E.store af 0 rfl rfl 5 [vP true] rfl rfl rfl (by simp[eC]) fun h8 K=>⟨rfl,?_⟩⟩;exact aa.sE (s:=s) (b:=r) o K
 ·rw[q,if_pos e]at o⊢;refine(CH x l P t N u).mono ?_;rintro _ S ⟨r,rfl,I⟩;have J:=(L.cQ I).bh 5 [2,0,4,1];refine⟨r,rfl,a,rfl,J.store af 0 rfl rfl 2 [r] rfl rfl rfl (by simp[eC]) fun Y E=>?_⟩;refine⟨a,rfl,E.store af 0 rfl rfl 3 [vL vR 0] rfl rfl rfl (by simp[eC]) fun h8 K=>?_⟩;refine(xU (d:={d with l:=l,wait:=0}) r b _ K ⟨zJ _,by dsimp only;omega,ok.room,f,ok.laid,ok.cellL⟩ rfl).mono ?_;rintro _ h9 ⟨rfl,Z⟩;exact⟨0,rfl,rfl,Z⟩
theorem rK(s b:Sl)(c:Nat)(n:Int)(e:bV h a 74 (eC pw d s b))(f:d.room<=512)(g:c<=2^40:=by omega):ab vV 116 #[vN (some a),vL vR c,vL vR n] h fun v h'=>v=vP (eN d c n)/\h'=h:=by
 refine DK (some a) c n ?_;unfold uB;refine(Pp s b e).mono ?_;rintro _ _ ⟨rfl,rfl⟩;refine⟨_,rfl,?_,rfl⟩;rw[ak ((d.room:Int)-c)];unfold eN;congr 1;rw[decide_eq_decide];split<;>omega
theorem Nq(s b:Sl)(x:bZ)(m:aC)(F:bV h a 74 (eC pw d s b))(I:fC h s 1 av d.l)(ok:dA d)(K:fk h x m)(J:dB m):
  ab vV 189 #[vN (some a),fP x] h fun v h'=>∃r:Sl,v=r/\Sp h h' [dJ r (nE m d.l)]:=by
 refine Fz (some a) x ?_;unfold xK;have B:=ok.len;have w:=ok.room;refine(Sp.refl h).boxed fun W S f=>?_;refine⟨x,(f.box 0 rfl).aI _ rfl,(yq a pw d s b x m S (F.ag f.ag F.lt) (I.up f.ag) ok (K.up f.ag) J).mono ?_⟩;rintro _ V ⟨r,c,rfl,H⟩;have p:=(f.cQ H).Cf 31 5 1 av;refine⟨r,rfl,?_⟩;have n:=rg m d.l;obtain⟨L,E⟩:∃L,L=gU m d.l:=⟨_,rfl⟩
 have q:(nE m d.l)=L.map cB:=by unfold nE;rw[E]
 rw[<-E]at p n;rw[q];have A:=p.jR 1 rfl;have T:=A.2.1;have y:=A.1.len;refine aA (fun t:Sl×Nat=>(t.1,(t.2:Int))) (fun t h'=>t.2<=L.length/\Sp h h' [dJ t.1 ((L.map cB).take t.2),dX cX 8 ba r c L]) (fun t=>L.length-t.2) (⟨none,0,0⟩,0) rfl ⟨by simp,p.cL [0,1]⟩ ?_;rintro⟨o,i⟩ h3 ⟨Y,k⟩;dsimp only at*;have P:=k.jR 1 rfl;refine aj (fun e=>?_) (fun e=>?_)
 ·have z:i<L.length:=by omega
  refine P.1.fF (g:=ba) i rfl (by omega) (c[i]'(by omega)) rfl ?_;refine k.alloc af rfl fun M X O=>?_;refine O.storeAll af 2 rfl rfl (ba (c[i]'(by omega))) rfl rfl rfl rfl fun D j=>?_;have j:Sp h D [dJ o ((L.map cB).take i),dX cX 8 ba r c L,ai M 49 (ba (c[i]'(by omega)))]:=j;refine⟨c[i]'(by omega),(j.box 2 rfl).aI _ rfl,(rI _ L[i] D (Fix.row (j.jR 1 rfl) z)).mono ?_⟩;rintro _ U ⟨u,rfl,N⟩;have Q:=(j.cQ N).bh 3 [1,0,2];refine⟨u,rfl,Q.Dn af iQ (by simp;omega) fun G h8 R=>?_⟩;refine⟨(G,i+1),by dsimp only;rw[ak _];rfl,⟨by dsimp only;omega,?_⟩,by dsimp only;omega⟩;dsimp only;rw[aO _ _ (show i<(L.map cB).length by simp;omega),yJ];exact R.cL [0,1]
 ·rw[qj (by simp;omega)]at k;exact⟨o,rfl,k.cL [0]⟩
end
section
variable {B:ap} {h0 h:Heap} {As:List HP} {a pw:Addr} {d:bj} {w:Pow}
theorem Lk{m:aC}{l:cu}{c:aQ}(h:c∈nE m l):c.length<=64:=by
 unfold nE at h;obtain⟨r,_,rfl⟩:=qH.1 h;unfold cB;split
 ·rename_i a;refine Nat.le_of_eq (jk (by decide) (by decide) ?_);have:=kS a;omega
 ·simp
theorem GM(s b:Sl)(x:bZ)(m:aC)(k:bV h a 74 (eC pw d s b))(q:fC h s 1 av d.l)(ok:dA d)(o:fk h x m)(g:dB m):
  ab vV 118 #[vN (some a),fP x] h fun v h'=>∃r:Sl,v=r/\Sp h h' [dJ r (it m d.l)]:=by
 refine Hm (some a) x ?_;unfold Bx;have j:=ok.len;have i:=ok.room;refine(Sp.refl h).boxed fun D n e=>?_;have e:Sp h n [ai D 88 (aY x)]:=e;refine⟨x,(e.box 0 rfl).aI _ rfl,x,(e.box 0 rfl).aI _ rfl,(oq x m n (o.up e.ag) g).mono ?_⟩;rintro _ E ⟨r,rfl,p⟩;have f:=e.cQ p;have c:=f.box 1 rfl;refine⟨r,rfl,⟨c.cell0 rfl,c.cell rfl,c.cell rfl,c.cell rfl,c.cell rfl,c.cell rfl,c.cell rfl,c.cell rfl,trivial⟩,(Nq s b x m (k.ag f.ag k.lt) (q.up f.ag) ok (o.up f.ag) g).mono ?_⟩;rintro _ h3 ⟨u,rfl,y⟩;have t:=(f.cQ y).bh 2 [1,0];have B:=jJ m g;have w:=ue m d.l;refine⟨u,rfl,trivial,t.Ud af iQ ⟨_,_,rfl,rfl⟩ (by omega) fun z F A=>?_⟩;exact⟨trivial,z,rfl,A.cL [0]⟩
theorem GN(s b:Sl)(x:bZ)(m:aC)(n:Int)(t:bV h a 74 (eC pw d s b))(y:fC h s 1 av d.l)(k:s.len=d.l.length)(ok:dA d)(D:fk h x m)(p:dB m):
  ab vV 115 #[vN (some a),fP x,vL vR n] h fun v h'=>v=vP (jZ m d n)/\Sp h h' []:=by
 refine uA (some a) x n ?_;unfold rE;have q:=ok.len;have o:=ok.room;refine(Sp.refl h).boxed fun A B f=>?_;have f:Sp h B [ai A 88 (aY x)]:=f;have c:=t.ag f.ag t.lt;refine aP (bn (fun e=>by cases e) fun _=>(xW s b c).mono ?_);rintro _ _ ⟨rfl,rfl⟩;refine⟨_,rfl,bn (fun e=>⟨by unfold jZ;rw[e];rfl,.zip f.ag⟩) fun e=>?_⟩;have u:jZ m d n=(eN d d.l.length n||eN d (it m d.l).length n):=by unfold jZ;rw[e];rfl
 refine(xV s b c k).mono ?_;rintro _ _ ⟨rfl,rfl⟩;refine⟨_,rfl,(rK s b d.l.length n c ok.room).mono ?_⟩;rintro _ _ ⟨rfl,rfl⟩;refine⟨_,rfl,bn (fun j=>⟨by rw[u,j];rfl,.zip f.ag⟩) fun j=>?_⟩;refine⟨x,(f.box 0 rfl).aI _ rfl,(GM s b x m c (y.up f.ag) ok (D.up f.ag) p).mono ?_⟩;rintro _ E ⟨r,rfl,i⟩;have g:=(aa.tc i).1;have z:(it m d.l).length<=4000:=by
  have:=jJ m p;have:=ue m d.l;unfold it;rw[qp];omega
 have w:=f.cQ i;refine⟨r,rfl,(rK s b r.len n (c.ag i.ag c.lt) ok.room).mono ?_⟩;rintro _ _ ⟨rfl,rfl⟩;exact⟨_,rfl,by rw[u,j,vm,g],.zip w.ag⟩
theorem JK(x:bZ)(n:Int)(h:Heap):ab vV 115 #[vN none,fP x,vL vR n] h fun v h'=>v=vP false/\Sp h h' []:=by
 refine uA none x n ?_;unfold rE;refine(Sp.refl h).boxed fun c b a=>?_;exact aP (bn (fun _=>⟨rfl,.zip a.ag⟩) fun e=>by cases e)
theorem PN(x:bZ)(m:aC)(n:Int)(K:St B h0 As fun h=>fk h x m)(z:dB m)(H:aa B h0 h (iC pw a d::dq 83 pw w::As)):
  ab vV 62 #[vN (some a),fP x,vL vR n] h fun v h'=>v=vL vR (fA m w d n).1/\aa B h0 h' (iC pw a (fA m w d n).2.2::dq 83 pw (fA m w d n).2.1::As):=by
 refine ux (some a) x n ?_;unfold rD;refine(Sp.refl h).boxed fun S u I=>?_;have I:Sp h u [ai S 88 (aY x)]:=I;have o:=(H.cQ I).bh 3 [1,2,0];have f:∀(e:Int) {h':Heap},aH (fun b=>b<u.size) u h'->fA m w d n=(e,w,d)->(Value.int .i64 e=vL vR (fA m w d n).1/\aa B h0 h' (iC pw a (fA m w d n).2.2::dq 83 pw (fA m w d n).2.1::As)):=fun e {h'} P M=>by
  rw[M];exact⟨rfl,((o.up P).bh 3 [0,1])⟩
 obtain⟨ok,s,b,g⟩:=(id o).om;have t:=g.box 0 rfl;have N:fC u s 1 av d.l:=(g.bh 2 [1]).Ow fun _=>rfl;have p:=(aa.tc (g.bh 2 [1])).1;have L:=ok.len;have G:=ok.room;refine aP (aP (bn (fun e=>by cases e) fun _=>(xW s b t).mono ?_));rintro _ _ ⟨rfl,rfl⟩;refine⟨_,rfl,bn (fun e=>f 5 (aH.refl _ _) (by unfold fA;rw[if_pos e])) fun e=>?_⟩;refine⟨x,(o.box 2 rfl).aI _ rfl,(GN s b x m n t N p ok (K.at [_,_,_] o) z).mono ?_⟩;rintro _ T ⟨rfl,k⟩;have D:=g.up k.ag;have j:=t.ag k.ag t.lt;have y:=o.up k.ag;refine⟨_,rfl,bf (fun q=>f 7 k.ag (by unfold fA;rw[if_neg (by simp[e]),if_pos (by simp[q])])) fun q=>?_⟩;refine(xV s b j p).mono ?_;rintro _ _ ⟨rfl,rfl⟩;refine⟨_,rfl,(rK s b d.l.length n j ok.room).mono ?_⟩;rintro _ _ ⟨rfl,rfl⟩;refine⟨_,rfl,bn (fun E=>f 0 k.ag (by unfold fA;rw[if_neg (by simp[e]),if_neg (by simp[q]),if_pos E])) fun E=>?_⟩;have em:fA m w d n=d.rewrite w (it m d.l):=by unfold fA;rw[if_neg (by simp[e]),if_neg (by simp[q]),if_neg (by simp[E])]
 rw[em];have R:(it m d.l).length<=4000:=by
  have:=jJ m z;have:=ue m d.l;unfold it;rw[qp];omega
 have J:∀c∈it m d.l,c.length<=64:=fun c i=>by
  unfold it at i;rcases qE.1 i with i|i
  ·exact Nat.le_of_eq (lA i)
  ·exact Lk i
 refine⟨x,(y.box 2 rfl).aI _ rfl,(GM s b x m j ((D.bh 2 [1]).Ow fun _=>rfl) ok (K.at [_,_,_] y) z).mono ?_⟩;rintro _ h3 ⟨r,rfl,O⟩;obtain⟨rs,A⟩:=(y.cQ O).VD fun _=>rfl;have A:=A.bh 4 [1,2,0];refine⟨r,rfl,(JJ r (it m d.l) A (St.il 0 rfl fun h' F=>?_) (by omega) fun c i=>zh (J c i) (by decide)).mono ?_⟩
 ·exact⟨rs,F.1,F.2.1,F.2.2⟩
 rintro _ U ⟨rfl,Q⟩;exact⟨_,rfl,rfl,Q.bh 3 [0,1]⟩
end
section
variable {B:ap} {h0 h:Heap} {As:List HP} {a pw b:Addr} {x:bZ} {offs:Int} {da:List aK} {w:Pow} {ds:aR} {d:bj}
theorem aa.RT(n:Nat)(g:n<64)(i:ds[n]?=some none)(H:aa B h0 h (bi bz a pw (aY x) offs da w ds::iC pw b d::As)){K:Unit->Heap->Prop}
  (j:∀h',aa B h0 h' (bi bz a pw (aY x) offs (da.set n (some b)) w (ds.set n (some d))::As)->K () h'):
  ae vV (qe 45 (vN (some ((a.add 10).add n))) (vN (some b))) h K:=by
 obtain⟨ok,e⟩:=Go.Vc.aa.pi H;have f:(a.add 10).add n=a.add (10+n):=by unfold Addr.add;simp[Nat.add_assoc]
 rw[f];refine e.storeAt af 0 rfl rfl rfl rfl rfl (by simp[ok.la];omega) fun h' c=>j h' ?_;rw[zM,PE ok.l8]at c;exact aa.Ut ok g i c
end
end Go.Qw
namespace Wl
open Go
theorem oA(ds:aR)(n:Nat)(d:bj)(s:Int)(b:n<64)(c:ds.length=64):bF (eV ds (n:Int) d) s=if s=(n:Int)then some d else bF ds s:=by
 unfold bF eV;rw[qo];by_cases h:0<=s/\s<64
 ·rw[if_pos h,if_pos h,qW];by_cases a:s=(n:Int)
  ·subst a;rw[if_pos rfl,qo,if_pos rfl,if_pos (by omega)];rfl
  ·rw[if_neg a,if_neg (by omega)]
 ·rw[if_neg h,if_neg h,if_neg (by omega)]
theorem gZ{ds:aR}{s:Int}{d:bj}(h:bF ds s=some d):∃n:Nat,s=(n:Int)/\n<64:=by
 unfold bF at h;by_cases a:0<=s/\s<64
 ·exact⟨s.toNat,by omega,by omega⟩
 ·rw[if_neg a]at h;cases h
structure Fit (ds:aR) (S Q:aB):Prop where
 len:ds.length=64
 at_:∀s∈S,∃d,bF ds s=some d/\d.lost=false/\d.l.length+Q.count s<=d.room
theorem Ll{d:bj}{n:Nat}(w:Pow)(b:aQ)(a:d.lost=false)(f:d.l.length+(n+1)<=d.room)(g:b.length=64):
  ((d.append w b).1=0∨(d.append w b).1=14)/\(d.append w b).2.2.lost=false/\(d.append w b).2.2.l.length+n<=(d.append w b).2.2.room:=by
 unfold bj.append;rw[if_neg (by omega),if_neg (by simp[a]),if_neg (by omega)];by_cases c:w.off
 ·rw[if_pos c];exact⟨.inr rfl,a,by dsimp only;omega⟩
 ·rw[if_neg c];by_cases e:w.step.1
  ·rw[if_pos e];exact⟨.inl rfl,a,by simp;omega⟩
  ·rw[if_neg e];exact⟨.inr rfl,a,by simp;omega⟩
theorem PO{d:bj}(w:Pow)(a:d.lost=false):((d.sync w).1=0∨(d.sync w).1=14)/\(d.sync w).2.2.lost=false/\(d.sync w).2.2.l=d.l/\(d.sync w).2.2.room=d.room:=by
 unfold bj.sync;rw[if_neg (by simp[a])];by_cases b:w.step.1
 ·rw[if_pos b];exact⟨.inl rfl,a,rfl,rfl⟩
 ·rw[if_neg b];exact⟨.inr rfl,a,rfl,rfl⟩
theorem HA{ds:aR}{S Q:aB}{x:Int}(w:Pow)(b:aQ)(F:Fit ds S (x::Q))(q:x∈S)(l:b.length=64):
  ((dm w ds x b).1=0∨(dm w ds x b).1=14)/\Fit (dm w ds x b).2.2 S Q:=by
 obtain⟨d,c,p,j⟩:=F.at_ x q;rw[List.count_cons_self]at j;obtain⟨n,rfl,o⟩:=gZ c;have A:=Ll w b p (n:=Q.count (n:Int)) (by omega) l;have e:dm w ds (n:Int) b=((d.append w b).1,(d.append w b).2.1,eV ds (n:Int) (d.append w b).2.2):=by unfold dm;rw[c]
 rw[e];refine⟨A.1,by unfold eV;rw[qZ];exact F.len,fun s m=>?_⟩;rw[oA _ _ _ _ o F.len];by_cases a:s=(n:Int)
 ·subst a;rw[if_pos rfl];exact⟨_,rfl,A.2⟩
 ·rw[if_neg a];obtain⟨k,g,i,f⟩:=F.at_ s m;rw[List.count_cons_of_ne (fun h=>a h.symm)]at f;exact⟨k,g,i,f⟩
theorem Lm{ds:aR}{S:aB}{x:Int}(w:Pow)(F:Fit ds S [])(l:x∈S):((eK w ds x).1=0∨(eK w ds x).1=14)/\Fit (eK w ds x).2.2 S []:=by
 obtain⟨d,b,i,f⟩:=F.at_ x l;obtain⟨n,rfl,h⟩:=gZ b;obtain⟨j,A2,k,c⟩:=PO w i;have e:eK w ds (n:Int)=((d.sync w).1,(d.sync w).2.1,eV ds (n:Int) (d.sync w).2.2):=by unfold eK;rw[b]
 rw[e];refine⟨j,by unfold eV;rw[qZ];exact F.len,fun s g=>?_⟩;rw[oA _ _ _ _ h F.len];by_cases a:s=(n:Int)
 ·subst a;rw[if_pos rfl];exact⟨_,rfl,A2,by rw[k,c];exact f⟩
 ·rw[if_neg a];exact F.at_ s g
end Wl
namespace Go.Vc
open Go Wl Go.Qw
theorem FJ(l:aB)(k:Nat):(aX l k).Nodup:=by
 unfold aX;refine List.Pairwise.filter _ (y9.2 ?_);exact(List.nodup_range (n:=k)).imp fun h=>by omega
theorem Nr{l:aB}(h:(dD l).2=true):(dD l).1=aX l l.length/\l.length<=64/\∀n:Nat,l.getD n 0<=512:=by
 unfold dD at h⊢;by_cases a:l.all (dE · 0 512)=true
 ·rw[if_pos a]at h⊢;refine⟨rfl,by simp at h;exact h.1,fun n=>?_⟩;rw[qg];by_cases b:n<l.length
  ·rw[qd b];have:=qT.1 a _ (qn b);unfold dE at this;simp at this⊢;omega
  ·rw[qX (by omega)];simp
 ·rw[if_neg a]at h;cases h
theorem JL(l:aB)(i n:Nat)(e:i<(aX l l.length).length)(f:(aX l l.length)[i]=(n:Int))(d:n<64):(ft l i)[n]?=some none:=by
 unfold ft;rw[qN,q8 d,qK,if_neg];intro g;obtain⟨j,h,c⟩:=List.mem_take_iff_getElem.1 g;have:=xg (FJ l l.length) (a:=j) (b:=i) (by omega) e (by rw[c,f]);omega
theorem rL(m:aC):∀S:aB,(bA m S).length=S.length*(bc m).length
 |[]=>by simp[bA]
 |n::S=>by
  have e:bA m (n::S)=(bc m).map (fun c=>(n,c))++bA m S:=by unfold bA;rw[zg]
  rw[e,qp,qC,rL m S,zc,zy,Nat.add_comm]
theorem Ns(p:Pm)(extra:Int)(l:aB)(a:l.length<=64):dB (bY p extra l):=⟨by have:=lP l l.length;simp[bY];omega,by simp[bY],by simp[bY]⟩
end Go.Vc
namespace Go.Qw
open Go Go.Vc Go.Proofs Wl
section
variable {B:ap} {h0 h:Heap} {As:List HP} {pw:Addr} {w:Pow}
theorem Ln(p:Pm)(extra:Int)(s:Sl)(l:aB)(hS:St B h0 As fun h=>Rd h s 1 aG l)(hl:l.length<=2^20)(H:aa B h0 h (dq 83 pw w::As)):
  ab vV 18 #[jH p,vL vR extra,vN (some pw),s] h fun v h'=>
   ((cm p extra w l).1≠0->v=.tuple #[vN none,vL vR (cm p extra w l).1]/\aa B h0 h' As)/\
   ((cm p extra w l).1=0->∃(a:Addr) (x:bZ) (da:List aK),v=.tuple #[vN (some a),vL vR 0]/\aa B h0 h' (bi bz a pw (aY x) w.offs da (cm p extra w l).2.1 (cm p extra w l).2.2::fa x (bY p extra l)::As)):=by
 refine Ct p extra (some pw) s ?_;unfold rY;refine H.boxed fun a1 h1 H1=>?_;have H1:=H1.cn;refine(ko s l h1 (hS.at [_,_] H1) hl).mono ?_;rintro _ h2 ⟨r,rfl,R2⟩;have H2:=H1.cQ R2;refine⟨(r,(dD l).2),rfl,?_⟩;have j:∀{h':Heap},aa B h0 h' As->((dD l).2&&(bC p&&dE extra 0 16))=false->
   ((cm p extra w l).1≠0->Value.tuple #[vN none,vL vR 1]=.tuple #[vN none,vL vR (cm p extra w l).1]/\aa B h0 h' As)/\
   ((cm p extra w l).1=0->∃(a:Addr) (x:bZ) (da:List aK),Value.tuple #[vN none,vL vR 1]=.tuple #[vN (some a),vL vR 0]/\aa B h0 h' (bi bz a pw (aY x) w.offs da (cm p extra w l).2.1 (cm p extra w l).2.2::fa x (bY p extra l)::As)):=fun{h'} H' hc=>by
  have e:cm p extra w l=(1,w,[]):=by unfold cm;rw[hc];rfl
  rw[e];exact⟨fun _=>⟨rfl,H'⟩,fun h=>absurd h (show¬(1:Int)=0 by decide)⟩
 refine aP (bf (fun e=>j H2.rest.rest.rest (by rw[e];rfl)) fun e=>?_);have ep:(dD l).2=true:=by simpa using e
 obtain⟨a6,D,L⟩:=Nr ep;refine⟨p,(H2.box 1 rfl).aI _ rfl,(dO p h2).mono ?_⟩;rintro _ h3 ⟨rfl,R3⟩;have A:aa B h0 h3 (ao 3 r 1 aG (dD l).1::ai a1 24 [vL vR p.1,vL vR p.2.1,vL vR p.2.2]::dq 83 pw w::As):=by
  have:=H2.comp R3;rw[qU]at this;exact this
 refine⟨_,rfl,bf (fun e2=>j A.rest.rest.rest (by rw[e2];simp)) fun e2=>?_⟩;have em:bC p=true:=by simpa using e2
 refine aj (fun e3=>j A.rest.rest.rest (by unfold dE;simp;omega)) fun e3=>aj (fun e4=>j A.rest.rest.rest (by unfold dE;simp;omega)) fun e4=>bn (fun e5=>by cases e5) fun _=>?_;rw[a6]at A;refine aP ⟨p,(A.box 1 rfl).aI _ rfl,?_⟩;obtain⟨lw,bs,a0⟩:=(A.bh 3 [2,1,0]).sD;refine(GD lw (a0.box 0 rfl)).mono ?_;rintro _ h4 ⟨rfl,rfl⟩;have I:=A.box 1 rfl;refine⟨_,rfl,⟨I.cell0 rfl,I.cell rfl,I.cell rfl,trivial⟩,?_⟩;obtain⟨m,O⟩:∃m,m=bY p extra l:=⟨_,rfl⟩
 refine⟨_,PD (1,0,p.1,p.2.1,p.2.2,extra,r,⟨none,0,0⟩) pw w.offs,?_⟩;refine A.boxed fun a9 h6 f=>?_;obtain⟨x,hx⟩:∃x:bZ,x=(1,0,p.1,p.2.1,p.2.2,extra,r,⟨none,0,0⟩):=⟨_,rfl⟩
 rw[<-hx]at f;have J:(Value.agg (cT (aY x) pw w.offs (qi 64 none)).toArray).cells.toList=cT (aY x) pw w.offs (qi 64 none):=by simp[Value.cells]
 rw[J]at f;have f:=f.cn;have F:=f.box 2 rfl;refine⟨⟨F.cell0 rfl,F.cell rfl,F.cell rfl,trivial⟩,?_⟩;have f:aa B h0 h6 (ai a9 90 (cT (aY x) pw w.offs (qi 64 none))::dq 83 pw w::ao 3 r 1 aG (aX l l.length)::As):=f.bh 4 [0,3,1];have f:=aa.PC (k:=bz) (h8:=by simp) f;obtain⟨P,o⟩:∃P,P=aX l l.length:=⟨_,rfl⟩
 rw[<-o]at f;have hz:dB m:=O▸Ns p extra l D;have ay:P.length<=64:=by rw[o];exact zh (lP _ _) D
 have al:∀{h':Heap} {Bs:List HP} {X:HP},aa B h0 h' (X::ao 3 r 1 aG P::Bs)->fk h' x m:=fun{h' Bs X} H'=>by
  have hs:=H'.seq 1 rfl fun _=>rfl;have hc:=(H'.own 1 rfl).cap;subst hx;subst O;exact⟨rfl,rfl,rfl,rfl,by show Seq _ _ r 1 aG (aX l l.length);rw[<-o];exact hs,cP.nil _ _ _ _,hc,qt _⟩
 have R:((dD l).2&&(bC p&&dE extra 0 16))=true:=by
  rw[ep,em];unfold dE;simp;omega
 have ax:(P.any fun i=>decide (l.getD i.toNat 0<((bc m).length:Int)))=true->cm p extra w l=(7,w,[]):=fun hh=>by
  unfold cm;rw[if_pos R,<-o,<-O,if_pos hh]
 have W:(P.any fun i=>decide (l.getD i.toNat 0<((bc m).length:Int)))=false->cm p extra w l=layAll (bA m P) w (ft l P.length):=fun hh=>by
  unfold cm;rw[if_pos R,<-o,<-O,hh,if_neg (by decide)]
 have K:∀i (M:i<P.length),∃n:Nat,n<l.length/\P[i]=(n:Int)/\0<l.getD n 0:=by
  subst o;exact fun i M=>Lc l l.length i M
 refine aA (fun i:Nat=>(i:Int)) (fun i h'=>i<=P.length/\((P.take i).any fun i=>decide (l.getD i.toNat 0<((bc m).length:Int)))=false/\aa B h0 h' (bi bz a9 pw (aY x) w.offs (qi 64 none) w (qi 64 none)::ao 3 r 1 aG P::As)) (fun i=>P.length-i) 0 rfl ⟨by omega,by simp,f⟩ ?_;rintro i h7 ⟨M,g,z⟩;dsimp only at*;obtain⟨b7,a8⟩:=aa.cK z;have b1:r.len=P.length:=(z.own 1 rfl).len;refine aj (fun e5=>?_) (fun e5=>?_)
 ·have c:i<P.length:=by omega
  obtain⟨n,N,E,am⟩:=K i c;refine(z.seq 1 rfl fun _=>rfl).cA i rfl c (n:Int) (by rw[E];rfl) ?_;refine(hS.at [_,_] z).lp n rfl N (l.getD n 0) (by rw[getD_lt N];rfl) fun b4 U=>?_;refine⟨a9,rfl,x,a8.aI _ (by rfl),(oq x m h7 (al z) hz).mono ?_⟩;rintro _ h9 ⟨u,rfl,R9⟩;have H9:=z.cQ R9;have br:=(aa.tc H9).1;refine⟨u,rfl,go R9.ag ⟨U,trivial⟩,?_⟩;refine aj (fun e6=>?_) (fun e6=>?_)
  ·rw[ax (yK.2 ⟨P[i],qn c,by rw[E,qo];exact decide_eq_true (by omega)⟩)];exact⟨fun _=>⟨rfl,H9.rest.rest.rest⟩,fun h=>absurd h (show¬(7:Int)=0 by decide)⟩
  ·refine⟨i+1,by rw[ak _];rfl,⟨by omega,?_,H9.rest⟩,by omega⟩;rw[aO _ _ c,vp,g,vm,vG,vJ,Bool.or_false,E,qo];exact decide_eq_false (by omega)
 ·have G:i=P.length:=by omega
  subst G;rw[za]at g;have bb:=W g;rw[<-JE l]at z;refine aA (fun t:Nat×List aK=>(t.1:Int)) (fun t h'=>t.1<=P.length/\aa B h0 h' (bi bz a9 pw (aY x) w.offs t.2 w (ft l t.1)::ao 3 r 1 aG P::As)) (fun t=>P.length-t.1) (0,qi 64 none) rfl ⟨by simp,z⟩ ?_;rintro⟨i,da⟩ Q ⟨M,d⟩;dsimp only at*;obtain⟨b3,T⟩:=aa.cK d;refine aj (fun e6=>?_) (fun e6=>?_)
  ·have c:i<P.length:=by omega
   obtain⟨n,N,E,am⟩:=K i c;have bl:=L n;refine(d.seq 1 rfl fun _=>rfl).cA i rfl c (n:Int) (by rw[E];rfl) ?_;refine(hS.at [_,_] d).cA n rfl N (l.getD n 0) (by rw[getD_lt N];rfl) ?_;refine⟨a9,rfl,(Nd (l.getD n 0) pw Q).mono ?_⟩;rintro _ b2 ⟨Q1,_⟩;obtain⟨b,rfl,a3⟩:=Q1 (by omega);have a7:=(d.cQ a3).bh 2 [1,0];refine⟨_,rfl,trivial,⟨by omega,by omega⟩,?_⟩;rw[qo,zN];have V:i<(aX l l.length).length:=by rw[<-o];exact c
   have ad:(aX l l.length)[i]=(n:Int):=by rw[<-E];simp only[o]
   refine Go.Qw.aa.RT n (by omega) (JL l i n V ad (by omega)) a7 fun b6 a5=>?_;refine⟨trivial,(i+1,da.set n (some b)),by dsimp only;rw[ak _];rfl,⟨by dsimp only;omega,?_⟩,by dsimp only;omega⟩;dsimp only;rw[<-JF l i n V ad (by omega)];exact a5
  ·have G:i=P.length:=by omega
   subst G;refine⟨a9,rfl,x,T.aI _ (by rfl),(BI x m r P Q (al d) hz (d.seq 1 rfl fun _=>rfl) (by omega)).mono ?_⟩;rintro _ b0 ⟨u,ys,rfl,bd⟩;have a2:=(d.cQ bd).bh 2 [1,0];refine⟨u,rfl,?_⟩;have Z:=jJ m hz;refine(yo u ys (bA m P) (St.il 0 rfl fun _ Y=>Y) ?_ ?_ a2).mono ?_
   ·rw[rL];have:=wE ay Z;omega
   ·intro y hy;obtain⟨a4,bk⟩:=jm hy;obtain⟨i,M,e⟩:=qQ a4;obtain⟨n,N,E,_⟩:=K i M;rw[<-e,E,bk];exact⟨⟨by omega,by omega⟩,by decide⟩
   rintro _ b5 ⟨rfl,S⟩;rw[bb];refine⟨_,rfl,cq (fun e7=>⟨fun _=>⟨rfl,S.rest.rest.rest⟩,fun h=>absurd h e7⟩) fun e7=>⟨fun h=>absurd e7 h,fun _=>⟨a9,x,da,rfl,?_⟩⟩⟩;rw[<-O];exact S.AH.jo 1 rfl fun q Y=>by
    subst hx;subst O;exact⟨rfl,rfl,rfl,rfl,by show Seq _ _ r 1 aG (aX l l.length);rw[<-o];exact Y.1.seq (fun _=>rfl) Y.2,cP.nil _ _ _ _,Y.1.cap,qt _⟩
end
end Go.Qw
namespace Wl
open Go
def jL(m:aC)(ds:aR)(k n:Int):Bool:=match bF ds k with|some d=>jZ m d n|none=>false
def eO(m:aC)(ds:aR)(l:aB)(N:Int->Int):Bool:=l.all fun k=>jL m ds k (N k)
def dP(m:aC)(w:Pow)(ds:aR)(k n:Int):Int×Pow×aR:=
 match bF ds k with
 |none=>(5,w,ds)
 |some d=>((fA m w d n).1,(fA m w d n).2.1,eV ds k (fA m w d n).2.2)
def makes(m:aC)(N:Int->Int):aB->Pow->aR->Int×Pow×aR
 |[],w,ds=>(0,w,ds)
 |k::l,w,ds=>if(dP m w ds k (N k)).1=0 then makes m N l (dP m w ds k (N k)).2.1 (dP m w ds k (N k)).2.2 else dP m w ds k (N k)
end Wl
namespace Go.Qw
open Go Go.Vc Go.Proofs Wl
theorem PP(f:FuncId)(pre post:Array Value)(P:Int->Bool)(s:Sl)(l:aB)(h:Heap)(u:C.fns[f]?=some true)(m:Rd h s 1 aG l)(x:l.length<=2^30)
  (w:∀k∈l,∀h',Sp h h' []->ab vV f (pre.toList++[Value.int .i64 k]++post.toList).toArray h' fun v e=>v=vP (P k)/\Sp h' e []):
  ab vV 109 #[s,.func (.func f) pre post] h fun v h'=>v=vP (l.any P)/\Sp h h' []:=by
 refine gM s (f,pre,post) ?_;unfold fw;refine(iA s (f,pre,post) (R:=fun v h'=>(∃i:Int,v=vL vR i/\decide (i>=0)=l.any P)/\Sp h h' []) ?_).mono ?_
 ·unfold fY;have r:=m.len;refine aA (fun i:Nat=>(i:Int)) (fun i h'=>i<=l.length/\(l.take i).any P=false/\Sp h h' []) (fun i=>l.length-i) 0 rfl ⟨by omega,by simp,Sp.refl h⟩ ?_;rintro i o ⟨n,a,c⟩;refine aj (fun g=>?_) (fun g=>?_)
  ·have b:i<l.length:=by
    have q:(i:Int)<(s.len:Int):=g;omega
   refine(Seq.up m c.ag).cA i rfl b l[i] rfl (fZ u ?_);refine(w l[i] (qn b) o c).mono ?_;rintro _ y ⟨rfl,p⟩;have j:=c.up p.ag;refine⟨_,rfl,bn (fun d=>⟨⟨i,rfl,?_⟩,j⟩) (fun d=>?_)⟩
   ·rw[yK.2 ⟨_,qn b,d⟩];exact decide_eq_true (by omega)
   ·refine⟨i+1,by rw[ak _];rfl,⟨by omega,?_,j⟩,by omega⟩;rw[aO _ _ b,vp,a,vG,vJ,d];rfl
  ·have q:¬(i:Int)<(s.len:Int):=g;rw[qj (by omega)]at a;exact⟨⟨-1,rfl,by rw[a];rfl⟩,c⟩
 ·rintro _ o ⟨⟨i,rfl,n⟩,t⟩;exact⟨i,rfl,by rw[n],t⟩
section
variable {B:ap} {h0 h:Heap} {As:List HP} {a pw:Addr} {offs:Int} {da:List aK} {w:Pow} {ds:aR}
def Nt(f:FuncId)(pre post:Array Value)(N:Int->Int)(l:aB)(h:Heap):Prop:=∀k∈l,ab vV f (pre.toList++[Value.int .i64 k]++post.toList).toArray h fun v h'=>v=vL vR (N k)/\Sp h h' []
theorem Nu(f:FuncId)(pre post:Array Value)(N:Int->Int)(x:bZ)(m:aC)(s:Sl)(l:aB)(hf:C.fns[f]?=some true)(M:St B h0 As fun h=>fk h x m/\Nt f pre post N l h)(Z:dB m)(hs:Rd h s 1 aG l)(Y:l.length<=2^30)(z:∀k∈l,0<=k/\k<64)(H:aa B h0 h (bi bz a pw (aY x) offs da w ds::As)):
  ab vV 87 #[vN (some a),s,.func (.func f) pre post] h fun v h'=>v=vP (eO m ds l N)/\Sp h h' []:=by
 refine tI (some a) s (f,pre,post) ?_;unfold nu;refine(Sp.refl h).boxed fun r h1 R1=>R1.boxed fun O D q=>?_;have X:aa B h0 D (bi bz a pw (aY x) offs da w ds::As):=H.up q.ag;have g:bV D r 60 [vN (some a)]:=q.box 0 rfl;have P:=q.box 1 rfl;refine(PP 148 #[] #[vN (some r),vN (some O)] (fun k=>!jL m ds k (N k)) s l D (by rfl) (hs.up q.ag) Y ?_).mono ?_
 ·intro k T h3 i;have A:=X.up i.ag;have S:=(g.ag i.ag g.lt).cell0 rfl;have V:=(P.ag i.ag P.lt).cell0 rfl;obtain⟨ok,u⟩:=aa.cK A;have U:=z k T;refine rG k r O ?_;unfold lL;obtain⟨n,rfl⟩:∃n:Nat,k=n:=⟨k.toNat,by omega⟩
  have K:n<da.length:=by rw[ok.la];omega
  have cd:cellOf h3 ((a.add 10).add ((n:Int).toNat*1))=some (.pointer da[n]):=by
   rw[qo,zN];refine u.at2 10 n ?_;rw[nD ok.l8,qd K];rfl
  obtain⟨W,J⟩:=M.at [_] A;refine⟨some a,S,a,rfl,⟨by omega,by omega⟩,da[n],cd,some a,S,a,rfl,x,u.aI _ rfl,(f,pre,post),V,fZ hf ?_⟩;refine(J n T).mono ?_;rintro _ I ⟨rfl,t⟩;have R:=A.up t.ag;have p:=((g.ag i.ag g.lt).ag t.ag (g.ag i.ag g.lt).lt).cell0 rfl;have c:=u.ag t.ag u.lt;have y:cellOf I ((a.add 10).add ((n:Int).toNat*1))=some (.pointer da[n]):=by
   rw[qo,zN];refine c.at2 10 n ?_;rw[nD ok.l8,qd K];rfl
  refine⟨_,rfl,⟨c.cell0 rfl,c.cell rfl,c.cell rfl,c.cell rfl,c.cell rfl,c.cell rfl,c.cell rfl,c.cell rfl,p,y,p,trivial⟩,?_⟩;have G:gl da (n:Int)=da[n]:=by unfold gl;rw[if_pos (by omega),qo,qd K];rfl
  rw[<-G];have fin:∀{L:Bool} {j:Heap},L=jL m ds n (N n)->Sp I j []->ar.ok [(r,vN (some a)),(r,vN (some a))] j/\(Value.bool (!L)=vP (!jL m ds n (N n))/\Sp h3 j []):=fun{L j} he o=>by
   have Q:=(g.ag i.ag g.lt).ag t.ag (g.ag i.ag g.lt).lt;have:=(Q.ag o.ag Q.lt).cell0 rfl;exact⟨⟨this,this,trivial⟩,by rw[he],.zip (aa.up t o.ag).ag⟩
  rcases mI ok (n:Int)with⟨e1,e2⟩|⟨n',d,b,e0,e1,e2,e3,e4,e5⟩
  ·rw[e2];refine(JK x _ I).mono ?_;rintro _ j ⟨rfl,o⟩;exact⟨_,rfl,fin (by unfold jL;rw[e1]) o⟩
  ·rw[e5];obtain⟨b',e,H5⟩:=Go.Vc.aa.jI R e2;rw[e4]at e;injection e with e
   injection e with e
   subst e;obtain⟨E,sd,bd,F⟩:=aa.om H5;refine(GN sd bd x m (N n) (F.box 0 rfl) ((F.bh 2 [1]).Ow fun _=>rfl) (aa.tc (F.bh 2 [1])).1 E (M.at [_] R).1 Z).mono ?_;rintro _ j ⟨rfl,o⟩;exact⟨_,rfl,fin (by unfold jL;rw[e3]) o⟩
 ·rintro _ h3 ⟨rfl,i⟩;refine⟨_,rfl,?_,.zip (aa.up q i.ag).ag⟩;unfold eO;rw[List.not_any_eq_all_not];simp
theorem JM(x:bZ)(n:Int)(h:Heap):ab vV 62 #[vN none,fP x,vL vR n] h fun v h'=>v=vL vR 5/\Sp h h' []:=by
 refine ux none x n ?_;unfold rD;refine(Sp.refl h).boxed fun c b a=>?_;exact aP (aP (bn (fun _=>bn (fun _=>⟨rfl,.zip a.ag⟩) fun e=>by cases e) fun e=>by cases e))
theorem Nv(m:aC)(N:Int->Int)(l:aB)(w:Pow)(ds:aR)(i:Nat)(a:i<l.length):makes m N (l.drop i) w ds=if(dP m w ds l[i] (N l[i])).1=0 then makes m N (l.drop (i+1)) (dP m w ds l[i] (N l[i])).2.1 (dP m w ds l[i] (N l[i])).2.2 else dP m w ds l[i] (N l[i]):=by
 rw[qL a];rfl
theorem Nw(f:FuncId)(pre post:Array Value)(N:Int->Int)(x:bZ)(m:aC)(s:Sl)(l:aB)(hf:C.fns[f]?=some true)(I:St B h0 As fun h=>fk h x m/\Nt f pre post N l h/\Rd h s 1 aG l)(W:dB m)(hl:l.length<=2^30)(J:∀k∈l,0<=k/\k<64)(H:aa B h0 h (bi bz a pw (aY x) offs da w ds::As)):
  ab vV 88 #[vN (some a),s,.func (.func f) pre post] h fun v h'=>v=vL vR (makes m N l w ds).1/\aa B h0 h' (bi bz a pw (aY x) offs da (makes m N l w ds).2.1 (makes m N l w ds).2.2::As):=by
 refine sg (some a) s (f,pre,post) ?_;unfold mg;have ad:=(I.at [_] H).2.2.len;obtain⟨Z,S⟩:∃Z,Z=makes m N l w ds:=⟨_,rfl⟩
 rw[<-S];refine aA (fun t:Nat×Pow×aR=>(t.1:Int)) (fun t h'=>t.1<=l.length/\Z=makes m N (l.drop t.1) t.2.1 t.2.2/\aa B h0 h' (bi bz a pw (aY x) offs da t.2.1 t.2.2::As)) (fun t=>l.length-t.1) (0,w,ds) rfl ⟨by simp,S,H⟩ ?_;rintro⟨i,E,u⟩ h1 ⟨hi,p,F⟩;dsimp only at*;refine aj (fun e=>?_) fun e=>?_
 ·have q:i<l.length:=by omega
  rw[Nv _ _ _ _ _ _ q]at p;obtain⟨al,K,G⟩:=I.at [_] F;refine G.cA i rfl q l[i] rfl (aP ?_);have D:=J l[i] (qn q);obtain⟨k,L⟩:∃k,k=l[i]:=⟨_,rfl⟩
  have O:k∈l:=by rw[L];exact qn q
  rw[<-L]at p D;rw[<-L];obtain⟨n,rfl⟩:∃n:Nat,k=n:=⟨k.toNat,by omega⟩
  obtain⟨ok,z⟩:=aa.cK F;have T:n<da.length:=by rw[ok.la];omega
  have R:∀{h':Heap},bV h' a 90 (cT (aY x) pw offs da)->cellOf h' ((a.add 10).add ((n:Int).toNat*1))=some (.pointer da[n]):=fun{h'} z=>by
   rw[qo,zN];refine z.at2 10 n ?_;rw[nD ok.l8,qd T];rfl
  refine⟨a,rfl,⟨by omega,by omega⟩,da[n],R z,a,rfl,x,z.aI _ rfl,fZ hf ?_⟩;refine(K n O).mono ?_;rintro _ Y ⟨rfl,P⟩;have Q:=F.up P.ag;have g:=z.ag P.ag z.lt;refine⟨_,rfl,⟨g.cell0 rfl,g.cell rfl,g.cell rfl,g.cell rfl,g.cell rfl,g.cell rfl,g.cell rfl,g.cell rfl,R g,trivial⟩,?_⟩;have M:gl da (n:Int)=da[n]:=by unfold gl;rw[if_pos (by omega),qo,qd T];rfl
  rw[<-M];obtain⟨c,o⟩:∃c,c=dP m E u n (N n):=⟨_,rfl⟩
  rw[<-o]at p;have fin:∀{h3:Heap},aa B h0 h3 (bi bz a pw (aY x) offs da c.2.1 c.2.2::As)->ar.ok [] h3/\Br (c.1 !=(0:Int)) (Value.int .i64 c.1=vL vR Z.1/\aa B h0 h3 (bi bz a pw (aY x) offs da Z.2.1 Z.2.2::As))
    (∃r:Nat×Pow×aR,qc vR ((i:Int)+1)=(r.1:Int)/\(r.1<=l.length/\Z=makes m N (l.drop r.1) r.2.1 r.2.2/\aa B h0 h3 (bi bz a pw (aY x) offs da r.2.1 r.2.2::As))/\l.length-r.1<l.length-i):=fun{h3} H3=>by
   refine⟨trivial,cq (fun y=>?_) fun y=>?_⟩
   ·rw[if_neg y]at p;rw[p];exact⟨rfl,H3⟩
   ·rw[if_pos y]at p;exact⟨(i+1,c.2.1,c.2.2),by dsimp only;rw[ak _];rfl,⟨by dsimp only;omega,p,H3⟩,by dsimp only;omega⟩
  rcases mI ok (n:Int)with⟨e1,y⟩|⟨n',d,b,e0,e1,y,e3,e4,e5⟩
  ·rw[y];have A:c=(5,E,u):=by rw[o];unfold dP;rw[e1]
   refine(JM x _ Y).mono ?_;rintro _ h3 ⟨rfl,X⟩;exact⟨c.1,by rw[A],fin (h3:=h3) (by rw[A];exact Q.up X.ag)⟩
  ·rw[e5];have U:n=n':=by omega
   subst U;obtain⟨b',j,H5⟩:=Go.Vc.aa.jI Q y;rw[e4]at j;injection j with j
   injection j with j
   subst j;have A:c=((fA m E d (N n)).1,(fA m E d (N n)).2.1,u.set n (some (fA m E d (N n)).2.2)):=by rw[o];unfold dP;rw[e3];simp only[eV,qo]
   refine(PN x m (N n) (fun Bs h' hh=>(I (Bs++[_]) h' (by rw[qm];exact hh)).1) W H5).mono ?_;rintro _ h3 ⟨rfl,H6⟩;have V:=Go.Vc.aa.ua (k:=bz) (n:=n) e4 H6;exact⟨c.1,by rw[A],fin (h3:=h3) (by rw[A];exact V)⟩
 ·rw[q9 (by omega)]at p;rw[p];exact⟨rfl,F⟩
end
def RU(a b:dt):Int:=if dw a.1 b.1 then-1 else if gA a.1 b.1 then 0 else 1
def gv(a b:dt):Bool:=gA a.1 b.1
theorem JN(a b:dt):RU a b<0↔¬gv b a=true:=by
 unfold RU gv gA;cases h:dw a.1 b.1<;>simp;split<;>omega
theorem Af:Ord gv:=⟨fun a b c=>xq a.1 b.1 c.1,fun a b=>xr a.1 b.1⟩
abbrev JO(x:dt):Value:=vQ #[vO x.1,vL vR x.2.1,vL vR x.2.2.1,x.2.2.2]
theorem HB(x y:ByteArray)(h:Heap):ab vV 147 #[vO x,vO y] h fun v h'=>v=vL vR (if dw x y then-1 else if gA x y then 0 else 1)/\h'=h:=by
 refine rF x y ?_;unfold lK;have a:∀z:ByteArray,ab vV 210 #[vO z] h fun v h'=>v=vP false/\h'=h:=fun z=>by
  refine tV z ?_;unfold nC;exact⟨by simp,rfl⟩
 refine(a x).mono ?_;rintro _ _ ⟨rfl,rfl⟩;refine⟨_,rfl,(a y).mono ?_⟩;rintro _ _ ⟨rfl,rfl⟩;refine⟨_,rfl,bn (fun e=>by cases e) fun _=>bn (fun e=>by cases e) fun _=>?_⟩;have d:Op.bytesLess x.toList y.toList=dw x y:=rfl;rw[HO,d];have c:(!Op.bytesLess y.toList x.toList)=gA x y:=rfl;rw[c];refine bn (fun e=>⟨by rw[e];rfl,rfl⟩) fun e=>bf (fun b=>⟨by rw[e,b];rfl,rfl⟩) fun b=>⟨by rw[e,b];rfl,rfl⟩
theorem Nx(a b:dt)(h:Heap):ab vV 146 #[JO a,JO b] h fun v h'=>v=vL vR (RU a b)/\Sp h h' []:=by
 refine Cw a b ?_;unfold sk;refine(Sp.refl h).boxed fun g i e=>e.boxed fun f d c=>?_;have c:Sp h d [ai g 123 (bI a),ai f 123 (bI b)]:=c;refine⟨a.1,(c.box 0 rfl).cell0 rfl,b.1,(c.box 1 rfl).cell0 rfl,(HB a.1 b.1 d).mono ?_⟩;rintro _ _ ⟨rfl,rfl⟩;exact⟨_,rfl,rfl,.zip c.ag⟩
abbrev nP(s:Sl)(d:List dt):HP:=ao 123 s 4 bI d
section
variable {B:ap} {h0 h h':Heap} {As:List HP} {s:Sl} {d:List dt}
theorem Lo{b c:List dt}{y:dt}(d:Sd gv (b++c))(g:∀z∈b,gv z y=true)(f:∀z∈c,¬gv z y=true):Sd gv (b++y::c):=
 Sd.app Af d.left (zL.2 ⟨fun z a=>Af.xm (f z a),d.right⟩) fun x e z a=>by
  rcases zl.1 a with rfl|a
  ·exact g x e
  ·exact d.AO x e z a
theorem Ew(X M Y:List dt)(a b:Int)(ha:a=(X.length:Int))(hb:b=(X.length+M.length:Nat))(ad:X.length+M.length+Y.length<=2^40)(H:aa B h0 h (nP s (X++(M++Y))::As)):
  ab vV 260 #[s,vL vR a,vL vR b,.func (.func 146) #[] #[]] h fun v h'=>v=.tuple #[]/\∃M',Sd gv M'/\bJ gv M M'/\aa B h0 h' (nP s (X++(M'++Y))::As):=by
 refine iD s a b (146,#[],#[]) ?_;unfold fu;subst ha;subst hb;rw[ak ((X.length:Int)+1)];refine aA (fun t:Nat×List dt=>((X.length+1+t.1:Nat):Int)) (fun t h'=>(t.1+1<=M.length∨t.1=0)/\Sd gv t.2/\bJ gv (M.take (t.1+1)) t.2/\t.2.length=(M.take (t.1+1)).length/\aa B h0 h' (nP s (X++(t.2++(M.drop (t.1+1)++Y)))::As)) (fun t=>M.length-t.1) (0,M.take 1) rfl ?_ ?_
 ·refine⟨.inr rfl,?_,bJ.refl _,rfl,?_⟩
  ·cases M with
   |nil=>exact List.Pairwise.nil
   |cons x M=>exact zL.2 ⟨fun _ h=>by simp at h,by simp⟩
  ·rw[<-qm (M.take (0+1)),List.take_append_drop];exact H
 rintro⟨t,P⟩ h1 ⟨ht,r,p,V,T⟩;dsimp only at*;refine aj (fun e=>?_) (fun e=>?_)
 ·have I:t+1<M.length:=by omega
  obtain⟨y,hy⟩:∃y,y=M[t+1]:=⟨_,rfl⟩
  have G:P.length=t+1:=by rw[V];simp;omega
  have eD:M.drop (t+1)=y::M.drop (t+1+1):=by rw[qL I,hy]
  rw[eD]at T;refine aA (fun u:List dt×List dt=>((X.length+u.1.length:Nat):Int)) (fun u h'=>u.1++u.2=P/\(∀z∈u.2,¬gv z y=true)/\aa B h0 h' (nP s (X++(u.1++(y::(u.2++(M.drop (t+1+1)++Y)))))::As)) (fun u=>u.1.length) (P,[]) (by dsimp only;rw[G];congr 1;omega) ⟨by simp,by simp,by simpa using T⟩ ?_;rintro⟨c,d⟩ h2 ⟨L,f,K⟩;dsimp only at*;have al:c.length+d.length=t+1:=by rw[<-G,<-L,qp]
  have k:∀{h':Heap},(∀z∈c,gv z y=true)->aa B h0 h' (nP s (X++(c++(y::(d++(M.drop (t+1+1)++Y)))))::As)->
    ∃l:Nat×List dt,qc vR (((X.length+1+t:Nat):Int)+1)=((X.length+1+l.1:Nat):Int)/\((l.1+1<=M.length∨l.1=0)/\Sd gv l.2/\bJ gv (M.take (l.1+1)) l.2/\l.2.length=(M.take (l.1+1)).length/\aa B h0 h' (nP s (X++(l.2++(M.drop (l.1+1)++Y)))::As))/\M.length-l.1<M.length-t:=fun{h'} hle H'=>by
   refine⟨(t+1,c++y::d),by dsimp only;rw[ak _];omega,⟨.inl (by dsimp only;omega),?_,?_,?_,?_⟩,by dsimp only;omega⟩
   ·exact Lo (by rw[L];exact r) hle f
   ·dsimp only;rw[aO M (t+1) I,<-hy];have h1:bJ gv (M.take (t+1)++[y]) (P++[y]):=p.app (bJ.refl _);refine h1.trans ?_;rw[<-L,qm];have h2:bJ gv (d++[y]) ([y]++d):=bJ.OL Af fun x hx z S=>by rw[qB.1 S];exact f x hx
    exact(bJ.refl _).app h2
   ·dsimp only;simp;omega
   ·dsimp only;have:X++((c++y::d)++(M.drop (t+1+1)++Y))=X++(c++(y::(d++(M.drop (t+1+1)++Y)))):=by simp
    rw[this];exact H'
  obtain⟨D,R⟩:∃D,D=X++(c++(y::(d++(M.drop (t+1+1)++Y)))):=⟨_,rfl⟩
  refine cg (fun _ h'=>∃(Q:List dt) (z:dt),c=Q++[z]/\¬gv z y=true/\aa B h0 h' (nP s D::As)) ?_ ?_
  ·rw[<-R]at K k;refine aj (fun U=>?_) (fun U=>⟨trivial,k (fun z S=>?_) K⟩)
   ·have J:c≠[]:=fun h=>by rw[h]at U;simp at U
    obtain⟨Q,z,o⟩:∃(Q:List dt) (z:dt),c=Q++[z]:=⟨c.dropLast,c.getLast J,(List.dropLast_concat_getLast J).symm⟩
    have W:c.length=Q.length+1:=by rw[o];simp
    have g1:D[X.length+c.length]?=some y:=by
     rw[R,qh (by omega),show X.length+c.length-X.length=c.length by omega,qh (by omega),q5];rfl
    have g2:D[X.length+c.length-1]?=some z:=by
     rw[R,qh (by omega),show X.length+c.length-1-X.length=Q.length by omega,o,qm,qh (qt _),q5];rfl
    obtain⟨N,E⟩:=qk.1 g1;obtain⟨O,A⟩:=qk.1 g2;refine(K.seq 0 rfl fun _=>rfl).fF (g:=bI) _ rfl N y (by rw[E]) ?_;have ej:qc vR (((X.length+c.length:Nat):Int)-1)=((X.length+c.length-1:Nat):Int):=by rw[ak _];omega
    rw[ej];refine(K.seq 0 rfl fun _=>rfl).fF (g:=bI) _ rfl O z (by rw[A]) (fZ (by rfl) ?_);refine(Nx y z h2).mono ?_;rintro _ h3 ⟨rfl,R3⟩;have F:=K.up R3.ag;refine⟨_,rfl,trivial,aj (fun Z=>⟨Q,z,o,(JN y z).1 Z,F⟩) fun Z=>k (fun w m=>?_) F⟩;have n:gv z y=true:=by
     by_cases hc:gv z y=true
     ·exact hc
     ·exact absurd ((JN y z).2 hc) Z
    rw[o]at m;rcases qE.1 m with m|m
    ·refine Af.trans _ _ _ ?_ n;have:Sd gv (Q++[z]):=by rw[<-o];exact Sd.left (v:=d) (by rw[L];exact r)
     exact this.AO w m z (by simp)
    ·rw[qB.1 m];exact n
   ·have:c=[]:=by
     cases c with
     |nil=>rfl
     |cons x P=>exfalso;simp only[zc]at U;omega
    rw[this]at S;cases S
  ·rintro _ h3 ⟨Q,z,o,n,F⟩;have W:c.length=Q.length+1:=by rw[o];simp
   have q:D=(X++Q)++z::([]++y::(d++(M.drop (t+1+1)++Y))):=by rw[R,o];simp
   obtain⟨q1,q2,q3,q4⟩:=Jx (X++Q) [] (d++(M.drop (t+1+1)++Y)) z y (i:=X.length+c.length-1) (j:=X.length+c.length) (by simp;omega) (by simp;omega);rw[<-q]at q1 q2 q3 q4;obtain⟨O,A⟩:=qk.1 q1;obtain⟨N,E⟩:=qk.1 q2;have ej:qc vR (((X.length+c.length:Nat):Int)-1)=((X.length+c.length-1:Nat):Int):=by rw[ak _];omega
   rw[ej];refine(F.seq 0 rfl fun _=>rfl).fF (g:=bI) _ rfl O z (by rw[A]) ?_;refine(F.seq 0 rfl fun _=>rfl).fF (g:=bI) _ rfl N y (by rw[E]) ?_;refine F.set af 0 rfl (fun _=>rfl) rfl (X.length+c.length) rfl N z rfl rfl rfl fun h4 H4=>⟨trivial,?_⟩
   refine H4.set af 0 rfl (fun _=>rfl) rfl (X.length+c.length-1) rfl (by simpa using O) y rfl rfl rfl fun h5 H5=>⟨trivial,?_⟩
   refine⟨(Q,z::d),by dsimp only;congr 1;omega,⟨by dsimp only;rw[<-L,o];simp,?_,?_⟩,by dsimp only;omega⟩
   ·dsimp only;intro w m;rcases zl.1 m with rfl|m
    ·exact n
    ·exact f w m
   ·dsimp only;have:X++(Q++(y::(z::d++(M.drop (t+1+1)++Y))))=(X++Q)++y::([]++z::(d++(M.drop (t+1+1)++Y))):=by simp
    rw[this,<-q4];exact H5
 ·refine⟨rfl,P,r,?_,?_⟩
  ·rw[qj (by omega)]at p;exact p
  ·rw[q9 (by omega)]at T;simpa using T
theorem JP(r:Nat)(h:Heap)(b:r<=2^32):ab vV 104 #[vL vU r] h fun v h'=>(∃k:Int,v=vL vR k)/\h'=h:=by
 intro w a;refine(Tryz.bits_Len (r:Int) w (by omega) (by omega)).mono ?_;rintro e c ⟨rfl,rfl⟩;exact⟨_,rfl,ct.refl _,⟨_,rfl⟩,a⟩
theorem Ny(d:List dt)(m:d.length<=12)(H:aa B h0 h (nP s d::As)):
  ab vV 145 #[s,.func (.func 146) #[] #[]] h fun v h'=>v=.tuple #[]/\aa B h0 h' (nP s (d.mergeSort gv)::As):=by
 refine je s (146,#[],#[]) ?_;unfold fJ;have g:=(H.own 0 rfl).len;have a:∀k:Int,ab vV 209 #[s,vL vR 0,vL vR (s.len:Nat),vL vR k,.func (.func 146) #[] #[]] h fun v h'=>v=.tuple #[]/\aa B h0 h' (nP s (d.mergeSort gv)::As):=fun k=>by
  refine jT s 0 (s.len:Nat) k (146,#[],#[]) ?_;unfold gq;refine aA (fun _:Unit=>((0:Int),((s.len:Nat):Int),k,true,true)) (fun _ h'=>h'=h) (fun _=>0) () rfl rfl ?_;rintro _ l rfl;refine aj (fun _=>?_) fun e=>absurd (show qc vR (((s.len:Nat):Int)-0)<=12 by rw[ak _];omega) e;refine(Ew [] d [] 0 (s.len:Nat) rfl (by simp[g]) (by simp;omega) (by simpa using H)).mono ?_;rintro _ i ⟨rfl,M,j,c,b⟩;refine⟨(),rfl,rfl,?_⟩;rw[<-MJ Af j c];simpa using b
 have f:qc vU ((s.len:Nat):Int)=((s.len:Nat):Int):=by unfold qc;simp[qf,wS];omega
 rw[f];refine(JP s.len h (by omega)).mono ?_;rintro _ l ⟨⟨k,rfl⟩,rfl⟩;refine⟨k,rfl,(a k).mono ?_⟩;rintro _ i ⟨rfl,b⟩;exact⟨(),rfl,rfl,b⟩
end
section
variable {B:ap} {h0 h:Heap} {As:List HP}
def sN:bZ:=(0,0,0,0,0,0,⟨none,0,0⟩,⟨none,0,0⟩)
theorem Lp{m:aC}{e:Wl.ca}{xe:dt}{L:List (dt×Wl.ca)}{pool:List (Sl×aB)}(i:L.map zF=m.aF)(j:∀p∈L,AY pool p)(k:AY pool (xe,e)):
  ∃g:List (dt×Wl.ca),g.map qP=(L.map qP++[xe]).mergeSort gv/\g.map zF=(m.aF++[e]).mergeSort lB/\∀p∈g,AY pool p:=by
 have c:∀p∈L++[(xe,e)],AY pool p:=fun p d=>by
  rcases qE.1 d with d|d
  ·exact j p d
  ·rw[qB.1 d];exact k
 refine⟨(L++[(xe,e)]).mergeSort fun a b=>gv a.1 b.1,?_,?_,fun p d=>c p ((wx _ _).mem_iff.1 d)⟩
 ·rw[yZ (r:=fun a b=>gv a.1 b.1) (s:=gv) (f:=qP) (fun a _ b _=>rfl),zi];rfl
 ·rw[yZ (r:=fun a b=>gv a.1 b.1) (s:=lB) (f:=zF) (fun a h b l=>by unfold gv lB;rw[(c a h).1.1,(c b l).1.1]),zi,i];rfl
theorem PQ(x:bZ)(m:aC)(xe:dt)(e:Wl.ca)(P:fk h x m)(M:dB m)(hs:0<=m.seq/\m.seq<=2^40)(hn:0<=m.next/\m.next<=2^40)(ho:m.aF.length<=11)(F:xe.1=e.name/\xe.2.1=e.object/\xe.2.2.1=e.length)(H:aa B h0 h (oG xe.2.2.2 1 aG e.tries::As)):
  ab vV 85 #[fP x,JO xe] h fun v h'=>∃y:bZ,v=fP y/\aa B h0 h' (fa y (fy m e)::As):=by
 refine Ft x xe ?_;unfold xD;refine(Sp.refl h).boxed fun T h1 Q=>Q.boxed fun g h2 K=>K.alloc af rfl fun a3 h3 k=>?_;have k:Sp h h3 [ai T 88 (aY x),ai g 123 (bI xe),ai a3 88 (aY sN)]:=k;refine⟨x,(k.box 0 rfl).aI _ rfl,(sF x m h3 (P.up k.ag) M).mono ?_⟩;rintro _ h4 ⟨y,L,pool,rfl,s,D,E,Z⟩;have S:=((k.cL [1,2]).comp Z).front;refine⟨y,rfl,S.alloc af rfl fun i h5 z=>?_⟩;have z:=z.cn;refine z.storeAll af 0 rfl rfl (aY y) rfl rfl rfl rfl fun I q=>?_;have q:Sp h I [ai i 88 (aY y),iS 1 aG pool,ao 3 y.2.2.2.2.2.2.1 1 aG m.drives,ao 123 y.2.2.2.2.2.2.2 4 bI (L.map qP),ai g 123 (bI xe),ai a3 88 (aY sN)]:=q;refine⟨y.1,(q.box 0 rfl).cell0 rfl,?_⟩;have W:qc vR (y.1+1)=m.seq+1:=by rw[s.1,ak _]
 have R:qc vR (y.2.1+1)=m.next+1:=by rw[s.2.1,ak _]
 rw[W];refine q.kr af 0 rfl rfl [vL vR (m.seq+1)] rfl rfl rfl (by simp[Value.cells]) fun X n=>?_;have n:Sp h X [ai i 88 (vL vR (m.seq+1)::(aY y).drop 1),iS 1 aG pool,ao 3 y.2.2.2.2.2.2.1 1 aG m.drives,ao 123 y.2.2.2.2.2.2.2 4 bI (L.map qP),ai g 123 (bI xe),ai a3 88 (aY sN)]:=n;refine⟨y.2.1,(n.box 0 rfl).cell rfl,?_⟩;rw[R];refine n.store af 0 rfl rfl 1 [vL vR (m.next+1)] rfl rfl rfl (by simp[Value.cells]) fun h8 l=>?_;have l:Sp h h8 [ai i 88 (vL vR (m.seq+1)::vL vR (m.next+1)::(aY y).drop 2),iS 1 aG pool,ao 3 y.2.2.2.2.2.2.1 1 aG m.drives,ao 123 y.2.2.2.2.2.2.2 4 bI (L.map qP),ai g 123 (bI xe),ai a3 88 (aY sN)]:=l;have V:L.length=m.aF.length:=by rw[<-D,qC]
 refine⟨y.2.2.2.2.2.2.2,(l.box 0 rfl).cell rfl,xe,(l.box 4 rfl).aI _ rfl,?_⟩;refine l.push af 3 rfl RF rfl (by decide) (fun _=>rfl) LZ xe rfl (by decide) (by simp;omega) fun o G t=>?_;refine t.store af 0 rfl rfl 7 [o] rfl rfl rfl (by simp[Value.cells]) fun u c=>?_;obtain⟨a,b⟩:∃a:bZ,a=(m.seq+1,m.next+1,y.2.2.1,y.2.2.2.1,y.2.2.2.2.1,y.2.2.2.2.2.1,y.2.2.2.2.2.2.1,o):=⟨_,rfl⟩
 have N:a.2.2.2.2.2.2.1=y.2.2.2.2.2.2.1:=by rw[b]
 have J:a.2.2.2.2.2.2.2=o:=by rw[b]
 have c:Sp h u [ai i 88 (aY a),iS 1 aG pool,ao 3 a.2.2.2.2.2.2.1 1 aG m.drives,ao 123 a.2.2.2.2.2.2.2 4 bI (L.map qP++[xe]),ai g 123 (bI xe),ai a3 88 (aY sN)]:=by rw[N,J,b];exact c
 refine⟨a.2.2.2.2.2.2.2,(c.box 0 rfl).cell rfl,?_⟩;have c:=c.bh 6 [3,0,1,2,4,5];refine(Ny (L.map qP++[xe]) (by simp;omega) c).mono ?_;rintro _ w ⟨rfl,d⟩;have d:Sp h w [nP a.2.2.2.2.2.2.2 ((L.map qP++[xe]).mergeSort gv),ai i 88 (aY a),iS 1 aG pool,ao 3 a.2.2.2.2.2.2.1 1 aG m.drives,ai g 123 (bI xe),ai a3 88 (aY sN)]:=d;refine⟨(),rfl,a,(d.box 1 rfl).aI _ rfl,?_⟩;refine d.storeAll af 5 rfl rfl (aY a) rfl rfl rfl rfl fun j f=>?_;have f:Sp h j [nP a.2.2.2.2.2.2.2 ((L.map qP++[xe]).mergeSort gv),ai i 88 (aY a),iS 1 aG pool,ao 3 a.2.2.2.2.2.2.1 1 aG m.drives,ai g 123 (bI xe),ai a3 88 (aY a)]:=f;refine⟨a,(f.box 5 rfl).aI _ rfl,a,rfl,?_⟩;obtain⟨L',O,U,Y⟩:=Lp (pool:=(xe.2.2.2,e.tries)::pool) (m:=m) (e:=e) (xe:=xe) D (fun p A=>⟨(E p A).1,zj _ (E p A).2⟩) ⟨F,qV⟩;have r:=((H.comp (f.cL [2,3,0])).front).bh 4 [0,3,1,2];have r:aa B h0 j (iS 1 aG ((xe.2.2.2,e.tries)::pool)::ao 3 a.2.2.2.2.2.2.1 1 aG m.drives::ao 123 a.2.2.2.2.2.2.2 4 bI ((L.map qP++[xe]).mergeSort gv)::As):=aa.Ma r;rw[<-O]at r;refine aa.Jw (m:=fy m e) ⟨by rw[b];rfl,by rw[b];rfl,by rw[b];exact s.2.2.1,by rw[b];exact s.2.2.2⟩ U Y r
end
section
variable {B:ap} {h0 h:Heap} {As:List HP} {a pw:Addr} {offs:Int} {da:List aK} {w:Pow} {ds:aR}
theorem aa.PR{x y:bZ}(H:aa B h0 h (bi bz a pw (aY x) offs da w ds::As)){K:Unit->Heap->Prop}(d:∀h',aa B h0 h' (bi bz a pw (aY y) offs da w ds::As)->K () h'):
  ae vV (qe 88 (vN (some a)) (fP y)) h K:=by
 obtain⟨ok,b⟩:=Go.Vc.aa.pi H;refine b.kr af 0 rfl rfl (aY y) rfl rfl rfl (by simp) fun h' c=>d h' ?_;exact aa.re (k:=bz) ⟨rfl,ok.la,ok.ls,ok.same⟩ c
theorem Nz(x z:bZ)(b:aC)(s:Sl)(l:aB)(g:St B h0 As fun h=>fk h z b/\Rd h s 1 aG l)(j:dB b)(t:l.length<=2^10)(i:∀k∈l,0<=k/\k<64)(H:aa B h0 h (bi bz a pw (aY x) offs da w ds::As)):
  ab vV 89 #[vN (some a),fP z,s] h fun v h'=>v=vL vR (layAll (bA b l) w ds).1/\
   ((layAll (bA b l) w ds).1≠0->aa B h0 h' (bi bz a pw (aY x) offs da (layAll (bA b l) w ds).2.1 (layAll (bA b l) w ds).2.2::As))/\
   ((layAll (bA b l) w ds).1=0->∃y,aa B h0 h' (bi bz a pw (aY y) offs da (layAll (bA b l) w ds).2.1 (layAll (bA b l) w ds).2.2::fa y b::As)):=by
 refine tJ (some a) z s ?_;unfold nv;refine H.boxed fun G I d=>?_;have d:=d.cn;refine⟨z,(d.box 0 rfl).aI _ rfl,(BI z b s l I (g.at [_,_] d).1 j (g.at [_,_] d).2 t).mono ?_⟩;rintro _ L ⟨r,u,rfl,A⟩;have D:=(d.cQ A).bh 3 [2,0,1];have f:=jJ b j;have p:=wE t f;refine⟨r,rfl,(yo r u (bA b l) (St.il 0 rfl fun _ m=>m) (by rw[rL];omega) (fun q m=>?_) D).mono ?_⟩
 ·obtain⟨n,o⟩:=jm m;rw[o];exact⟨i _ n,by decide⟩
 rintro _ h3 ⟨rfl,c⟩;obtain⟨R,F⟩:∃R,R=layAll (bA b l) w ds:=⟨_,rfl⟩
 rw[<-F]at c⊢;refine⟨_,rfl,cq (fun e=>⟨rfl,fun _=>c.bh 3 [0],fun h=>absurd h e⟩) fun e=>?_⟩;have c:aa B h0 h3 (bi bz a pw (aY x) offs da R.2.1 R.2.2::dX jq 2 piv r u (bA b l)::ai G 88 (aY z)::As):=c;refine⟨z,(c.box 2 rfl).aI _ rfl,(Ng z b h3 (g.at [_,_,_] c).1 j).mono ?_⟩;rintro _ N ⟨y,rfl,J⟩;have E:=(c.cQ J).bh 4 [1,0];refine⟨y,rfl,a,rfl,aa.PR E fun M K=>?_⟩;exact⟨by rw[e],fun h=>absurd e h,fun _=>⟨y,K⟩⟩
def dQ(name:ByteArray)(e:Wl.ca):Bool:=e.name.toList==name.toList
theorem find_spec(x:bZ)(m:aC)(name:ByteArray)(s:fk h x m)(p:dB m)(H:aa B h0 h (bi bz a pw (aY x) offs da w ds::As)):
  ab vV 91 #[vN (some a),vO name] h fun v h'=>(∃i:Int,v=vL vR i/\Nl (dQ name) m.aF i)/\Sp h h' []:=by
 refine tK (some a) name ?_;unfold nw;refine(Sp.refl h).boxed fun f o b=>?_;have k:bV o f 9 [vO name]:=b.box 0 rfl;obtain⟨ok,l⟩:=aa.cK H;have e:=l.ag b.ag l.lt;have g:=p.ob;refine⟨a,rfl,x.2.2.2.2.2.2.2,e.cell rfl,?_⟩;refine(BJ 150 #[] #[vN (some f)] (dQ name) x.2.2.2.2.2.2.2 m.aF o (by rfl) (s.up b.ag).aF g ?_).mono ?_
 ·intro u E j c t z;refine rH u f ?_;unfold lM;refine(Sp.refl j).boxed fun y h3 d=>?_;have n:=(k.ag c.ag k.lt)
  have q:=n.ag d.ag n.lt;refine⟨u.1,(d.box 0 rfl).cell0 rfl,name,q.cell0 rfl,?_,.zip d.ag⟩;unfold dQ;rw[t.1.1]
 ·rintro _ j ⟨⟨i,rfl,r⟩,c⟩;exact⟨i,rfl,⟨i,rfl,r⟩,.zip (aa.up b c.ag).ag⟩
theorem GO{b:aM}(H:aa B h0 h (bi bz a pw b offs da w ds::As)):ab vV 90 #[vN (some a)] h fun v h'=>v=vP (fm w offs)/\h'=h:=by
 refine mh (some a) ?_;unfold kj;refine bn (fun e=>by cases e) fun _=>(jY H).mono ?_;rintro _ _ ⟨rfl,rfl⟩;exact⟨_,rfl,rfl,rfl⟩
def du(m:aC)(down:Bool)(ds:aR)(name:ByteArray)(n:Nat):Int:=
 if down then 14 else if !gH name then 3 else if m.aF.any (dQ name)then 4
 else if m.p.1*m.p.2.2*8<(n:Int)∨12<=m.aF.length then 6
 else if bB ds m.drives=[]∨16777215<m.next∨2147483647<=m.seq then 7 else 0
theorem JQ(x:bZ)(m:aC)(name:ByteArray)(s:Sl)(n:Nat)(hn:s.len=n)(E:name.size<=2^40)(N:fk h x m)(J:dB m)(R:bC m.p=true)(H:aa B h0 h (bi bz a pw (aY x) offs da w ds::As)):
  ab vV 81 #[vN (some a),vO name,s] h fun v h'=>v=vL vR (du m (fm w offs) ds name n)/\Sp h h' []:=by
 refine pF (some a) name s ?_;unfold kV;have U:=(bS m.p).1 R;refine(GO H).mono ?_;rintro _ F ⟨rfl,rfl⟩;refine⟨_,rfl,bn (fun e=>⟨by unfold du;rw[e];rfl,Sp.refl _⟩) fun o=>?_⟩;refine(GH name F E).mono ?_;rintro _ Y ⟨rfl,l⟩;refine⟨_,rfl,bf (fun e=>⟨by unfold du;rw[o,e];rfl,l⟩) fun A=>?_⟩;have I:=H.up l.ag;have k:=N.up l.ag;refine(find_spec x m name k J I).mono ?_;rintro _ h3 ⟨⟨i,rfl,V⟩,z⟩;have y:Sp F h3 []:=.zip (aa.up l z.ag).ag;have c:=JD V;refine⟨i,rfl,bn (fun e=>⟨by unfold du;rw[o,A,<-c,e];rfl,y⟩) fun Q=>?_⟩;rw[Q]at c;have K:=I.up z.ag;have b:=k.up z.ag;obtain⟨ok,j⟩:=aa.cK K;have L:=cP.len b.aF;have D:x.2.2.1=m.p.1:=congrArg (·.1) b.p;have q:x.2.2.2.2.1=m.p.2.2:=congrArg (·.2.2) b.p;have Z:m.p.1*m.p.2.2<=16*24:=Int.mul_le_mul (by omega) (by omega) (by omega) (by omega);have O:0<=m.p.1*m.p.2.2:=ve (by omega) (by omega);refine cg (fun(t:Bool) h'=>t=decide (m.p.1*m.p.2.2*8<(n:Int)∨12<=m.aF.length)/\h'=h3) ?_ ?_
 ·refine⟨a,rfl,x.2.2.1,j.cell rfl,a,rfl,x.2.2.2.2.1,by rw[addr_add];exact j.cell rfl,?_⟩;rw[D,q,ak (m.p.1*m.p.2.2),ak (m.p.1*m.p.2.2*8)];refine aj (fun e=>⟨(decide_eq_true (.inl (by omega))).symm,rfl⟩) fun e=>?_;refine⟨a,rfl,x.2.2.2.2.2.2.2,j.cell rfl,?_,rfl⟩;rw[decide_eq_decide];omega
 rintro t _ ⟨rfl,rfl⟩;refine aj (fun e=>⟨by unfold du;rw[o,A,<-c,if_pos e];rfl,y⟩) fun W=>?_;have P:du m (fm w offs) ds name n=if bB ds m.drives=[]∨16777215<m.next∨2147483647<=m.seq then 7 else 0:=by
  unfold du;rw[o,A,<-c,if_neg W];rfl
 rw[P];refine(fI x m b J K).mono ?_;rintro _ T ⟨r,rfl,G⟩;have f:=(G.own 0 rfl).len;have d:Sp F T []:=.zip (aa.up y G.ag).ag;have g:=j.ag G.ag j.lt;refine⟨r,rfl,bt (fun e=>⟨by rw[if_pos (.inl (qM (by omega)))],d⟩) fun e=>?_⟩;have u:bB ds m.drives≠[]:=fun S=>by rw[S]at f;simp at f;omega
 refine⟨a,rfl,x.2.1,g.cell rfl,aj (fun e=>⟨by rw[if_pos (.inr (.inl (by rw[<-b.next];omega)))],d⟩) fun e6=>?_⟩;have M:=b.next;have X:=b.seq;refine⟨a,rfl,x.1,g.cell0 rfl,aj (fun e=>⟨by rw[if_pos (.inr (.inr (by omega)))],d⟩) fun e7=>⟨?_,d⟩⟩;rw[if_neg];rintro(h|h|h)
 ·exact u h
 ·omega
 ·omega
end
theorem VH:∃i a,C.T.get 31=some i/\i.cj=.slice a:=⟨_,_,rfl,rfl⟩
def pq(A B:aT)(k:Nat):aT:=dG (A.take k) (B.take k)++A.drop k
theorem Ex{A B:aT}(h:B.length=A.length)(k:Nat):(pq A B k).length=A.length:=by simp[pq,dG,h];omega
theorem VI{A B:aT}(h:B.length=A.length){k:Nat}(a:k<A.length):(pq A B k)[k]?=some A[k]:=by
 have:(dG (A.take k) (B.take k)).length=k:=by simp[dG];omega
 rw[pq,qh (by omega),this,q5,wh,wH,qd a]
theorem VJ{A B:aT}(h:B.length=A.length){k:Nat}(a:k<A.length):(pq A B k).set k (A[k]++B[k]'(by omega))=pq A B (k+1):=by
 have b:(dG (A.take k) (B.take k)).length=k:=by simp[dG];omega
 rw[pq,qY _ _ (by omega),b,q5,qL a,zM,pq,aO _ _ a,aO _ _ (show k<B.length by omega),dG,dG,yO (by simp;omega),qm];rfl
theorem VK{A B:aT}(h:B.length=A.length):pq A B A.length=dG A B:=by
 rw[pq,za,<-h,za,h,List.drop_length,qU]
theorem NA(f:Addr)(a b:Sl)(A B:aT)(n w:Nat)(h:Heap)(hf:gc h f)(G:fC h a 1 av A)(S:fC h b 1 av B)(hl:A.length=n)(a7:B.length=n)(i:aW n A)(H:aW w B)(bb:1<=n)(hn:n+w<=64)(hr:cR A=n):
  ab vV 196 #[vN (some f),a,b] h fun v h'=>∃r:Sl,v=.tuple #[r,vL vR 0]/\Sp h h' [gd 31 r 1 av (iN n A B)]:=by
 have d:B.length=A.length:=by omega
 have ad:=G.len;have l:=S.len;refine Hr (some f) a b ?_;unfold BC;refine aP ?_;refine(po a A n h G i).mono ?_;rintro v h1 ⟨rfl,rfl⟩;refine⟨_,rfl,bf (fun e=>by cases e) fun _=>?_⟩;refine(po b B w h1 S H).mono ?_;rintro v J ⟨rfl,rfl⟩;refine⟨_,rfl,bf (fun e=>by cases e) fun _=>?_⟩;refine cq (fun e=>absurd (by rw[ad,l,d]) e) fun _=>?_;refine bt (fun e=>by omega) fun _=>?_;refine(sK a A J G).mono ?_;rintro v h3 ⟨rfl,rfl⟩;have X:fe A=n:=by
  cases A with
  |nil=>simp at hl;omega
  |cons x t=>rw[fe,bE (by simp)];exact i _ (by simp)
 refine⟨_,rfl,?_⟩;rw[X];refine(Ad a A n h3 G i (by omega) (by omega)).mono ?_;rintro v h4 ⟨r,rs,rfl,bl,R4⟩;refine⟨r,rfl,?_⟩;have am:=(R4.own 0 rfl).len;refine aA (fun t:Nat×List Sl=>(t.1:Int)) (fun t h'=>t.1<=n/\t.2.length=n/\Sp h3 h' (lR r t.2 (pq A B t.1))) (fun t=>n-t.1) (0,rs) rfl ⟨by simp,by dsimp only;omega,by simpa[pq,dG]using R4⟩ ?_;rintro⟨k,rs⟩ h5 ⟨hk,a5,z⟩;dsimp only at*;have j:rs.length=(pq A B k).length:=by rw[Ex d];omega
 refine aj (fun e=>?_) (fun e=>?_)
 ·have u:k<n:=by omega
  have E:k<A.length:=by omega
  have I:=sM (a:=r) j k (by rw[Ex d];omega);have eg:(pq A B k)[k]'(by rw[Ex d];omega)=A[k]:=by
   have:=VI d E;rw[qd (by rw[Ex d];omega)]at this;exact wL.inj this
  rw[eg]at I;have l1:A[k].length=n:=i _ (qn _);have l2:(B[k]'(by omega)).length=w:=H _ (qn _);refine(z.seq 0 rfl (fun _=>rfl)).rv k rfl (by omega) fun a1 Y T=>?_;refine(S.up z.ag).get k rfl (by omega) fun rb R=>?_;refine z.append af (k+1) I fv VH rfl (by decide) (fun _=>rfl) R dN (by omega) fun L h6 H6=>⟨trivial,?_⟩
  refine H6.set af 0 rfl (fun _=>rfl) rfl k rfl (by omega) L rfl rfl rfl fun h7 H7=>⟨trivial,?_⟩
  refine⟨(k+1,rs.set k L),by dsimp only;rw[ak _];rfl,⟨by dsimp only;omega,by dsimp only;simp;omega,?_⟩,by dsimp only;omega⟩;dsimp only;rw[<-VJ d E];show Sp h3 h7 (ao 31 r 1 cx (rs.set k L)::bv 5 1 av (rs.set k L) ((pq A B k).set k _));rw[<-ku j];exact H7
 ·have P:k=A.length:=by omega
  subst P;rw[VK d]at z;refine(uQ f h5).mono ?_;rintro v h6 ⟨rfl,rfl⟩;refine⟨some f,rfl,?_⟩;have D:=kO d.symm i H;have a9:=jS d.symm;refine(BM (m:=dG A B) (n:=n+w) hf hf.lt (by omega) D (by omega) (by omega) (by omega) z).mono ?_;rintro v h7 ⟨g,rfl,ax,q⟩;rw[II d.symm i,hr];refine⟨_,rfl,?_⟩;dsimp only;have a0:=(q.own 0 rfl).cap;have a3:=(q.own 0 rfl).len;have J:=gp D n;refine aj (fun e=>absurd (show(n:Int)<(n:Int)from e) (by omega)) fun _=>?_;refine⟨⟨yb _,vf.2 (show n<=r.len by omega)⟩,?_⟩;refine aA (fun _:Unit=>(0:Int)) (fun _ h'=>h'=h7) (fun _=>0) () rfl rfl ?_;rintro _ h8 rfl;rw[qo];refine aj (fun e=>by omega) fun _=>?_;refine⟨⟨yb _,vf.2 (show n<=r.cap by omega)⟩,?_⟩;obtain⟨M,K⟩:∃M,M=(bu (dG A B) n).2:=⟨_,rfl⟩
  have bk:M.length=n:=by have:=J.2;rw[<-K]at this;omega
  have O:aW (n+w) M:=by rw[K];exact J.1
  have y:∀k (hk:k<n),(iN n A B).take (k+1)=(iN n A B).take k++[(M[k]'(by omega)).drop n]:=fun k hk=>by
   have e1:iN n A B=M.map (List.drop n):=by rw[iN,<-K,qj (by omega)]
   rw[e1,aO _ _ (by simp;omega),yJ]
  have a8:(iN n A B).length=n:=(AU d.symm i H hr).1;rw[<-K]at q;refine aA (fun t:Sl×Nat=>(t.1,(t.2:Int))) (fun t h'=>t.2<=n/\Sp h8 h' [gd 31 t.1 1 av ((iN n A B).take t.2)]) (fun t=>n-t.2) (⟨none,0,0⟩,0) rfl ⟨by simp,(Sp.refl h8).Mz 31 1 av⟩ ?_;rintro⟨s,k⟩ h9 ⟨a4,N⟩;dsimp only at*;have Q:=q.comp N;have Z:g.length=M.length:=by omega
  refine aj (fun e=>?_) (fun e=>?_)
  ·have u:k<n:=by omega
   have I:=sM (a:=r) Z k (by omega);have p:(lR r g M++[gd 31 s 1 av ((iN n A B).take k)])[k+1]?=some (ao 5 (g[k]'(by omega)) 1 av (M[k]'(by omega))):=by
    rw[ql (by simp[bv];omega)];exact I
   have bd:(M[k]'(by omega)).length=n+w:=O _ (qn _);have o:=Q.own (k+1) p;have al:=Q.seq (k+1) p (fun _=>rfl);have ay:=o.len;have F:=(Q.seq 0 rfl (fun _=>rfl)).take n (by omega);rw[qj (by omega)]at F;refine F.rv k rfl (by omega) fun a1 Y T=>?_;refine⟨⟨yb _,vf.2 (by omega)⟩,?_⟩;refine(ie _ _ h9 (al.drop n o.cap) (by simp;omega)).mono ?_;rintro v a2 ⟨c,rfl,U⟩;have V:=(N.comp U).freeze 1 rfl (fun _=>rfl);refine⟨c,rfl,?_⟩;refine V.Fh af 0 1 (by decide) rfl rfl iQ (by simp;omega) fun s' a6 W=>?_;refine⟨(s',k+1),by dsimp only;rw[ak _];rfl,⟨by dsimp only;omega,?_⟩,by dsimp only;omega⟩;dsimp only;rw[y k u];exact W.del 1
  ·rw[qj (by omega)]at N;refine⟨s,rfl,?_⟩;have:=(Sp.zip q.ag).comp N;exact this
def kQ(p:Pm)(seed:Int)(l:Nat):Int:=if bC p&&decide ((l:Int)=p.1*p.2.2)then(if fz p seed (dU p)then 0 else 8)else 1
abbrev CM(p:Pm)(seed:Int)(m:Sl):aM:=[vL vR p.1,vL vR p.2.1,vL vR p.2.2,vL vT seed,m]
theorem RV(p:Pm)(seed:Int)(data:Sl)(d:Row)(h:Heap)(hd:Rd h data 1 av d)(hc:data.len<=data.cap):
  ab vV 140 #[jH p,vL vT seed,data] h fun v h'=>
   (kQ p seed d.length=0->∃(b:Addr) (m:Sl),v=.tuple #[vN (some b),vL vR 0]/\Sp h h' [gd 31 m 1 av (dz p seed d),ai b 249 (CM p seed m)])/\
   (kQ p seed d.length≠0->v=.tuple #[vN none,vL vR (kQ p seed d.length)]/\Sp h h' []):=by
 have am:=hd.len;refine Fu p seed data ?_;unfold xE;refine(Sp.refl h).boxed fun a h1 H1=>?_;refine aP ?_;refine⟨p,(H1.box 0 rfl).aI _ rfl,(dO p h1).mono ?_⟩;rintro v h2 ⟨rfl,R2⟩;have N:=H1.comp R2;have W:∀{h3:Heap} (x:Int),x≠0->kQ p seed d.length=x->Sp h h3 [ai a 24 [vL vR p.1,vL vR p.2.1,vL vR p.2.2]]->
   (kQ p seed d.length=0->∃(b:Addr) (m:Sl),Value.tuple #[vN none,vL vR x]=.tuple #[vN (some b),vL vR 0]/\Sp h h3 [gd 31 m 1 av (dz p seed d),ai b 249 (CM p seed m)])/\
   (kQ p seed d.length≠0->Value.tuple #[vN none,vL vR x]=.tuple #[vN none,vL vR (kQ p seed d.length)]/\Sp h h3 []):=fun x hx P H=>by
  refine⟨fun e=>absurd (P.symm.trans e) hx,fun _=>⟨by rw[P],.zip H.ag⟩⟩
 refine⟨_,rfl,bf (fun e=>W 1 (by decide) (by rw[kQ,e];rfl) N) fun S=>?_⟩;have a2:=(bS p).1 S;obtain⟨K,hK⟩:∃K:Nat,p.1=K:=⟨p.1.toNat,by omega⟩
 obtain⟨u,hH⟩:∃H:Nat,p.2.1=H:=⟨p.2.1.toNat,by omega⟩
 obtain⟨w,M⟩:∃w:Nat,p.2.2=w:=⟨p.2.2.toNat,by omega⟩
 have ax:K*w<=16*24:=wE (by omega) (by omega);have L:p.1*p.2.2=((K*w:Nat):Int):=by rw[hK,M,zW]
 refine⟨p.1,(N.box 0 rfl).cell0 rfl,p.2.2,(N.box 0 rfl).cell rfl,?_⟩;rw[L,ak _];refine cq (fun e=>W 1 (by decide) (by rw[kQ,S,decide_eq_false (by rw[L];intro e2;exact e (by rw[am];exact e2))];rfl) N) fun el=>?_;have G:d.length=K*w:=by omega
 refine⟨p,(N.box 0 rfl).aI _ rfl,(Ev p seed h2).mono ?_⟩;rintro v h3 ⟨rfl,R3⟩;have V:=N.comp R3;have y:kQ p seed d.length=if fz p seed (dU p)then 0 else 8:=by rw[kQ,S,decide_eq_true (by rw[L,G])];rfl
 refine⟨_,rfl,bf (fun e=>W 8 (by decide) (by rw[y,e];rfl) V) fun hf=>?_⟩;rw[hf,if_pos rfl]at y;have B:bx p seed d K u w (K+u):=⟨S,hf,hK,hH,M,rfl,by omega,by omega,by omega,by omega,by omega,by omega,G⟩
 refine⟨p.2.1,(V.box 0 rfl).cell rfl,?_⟩;refine aA (fun t:Sl×List Sl=>(t.1,(t.2.length:Int))) (fun t h'=>t.2.length<=u/\Sp h h' (ai a 24 [vL vR p.1,vL vR p.2.1,vL vR p.2.2]::lR t.1 t.2 (qi t.2.length (aZ w)))) (fun t=>u-t.2.length) (⟨none,0,0⟩,[]) rfl ⟨by simp,V.nil 31 1 cx⟩ ?_;rintro⟨s,rs⟩ h4 ⟨hk,O⟩;dsimp only at*;refine aj (fun e=>?_) (fun e=>?_)
 ·refine⟨p.2.2,(O.box 0 rfl).cell rfl,?_⟩;refine O.make af av fv (by decide) 0 rfl rfl w w M M (qt _) (by omega) fun z h5 a3 a0 D=>?_;refine D.push af 1 rfl iQ rfl (by decide) (fun _=>rfl) oF z rfl (by decide) (by omega) fun s' T X=>?_;refine⟨(s',rs++[z]),by dsimp only;rw[ak _];simp,⟨by simp;omega,?_⟩,by simp;omega⟩;dsimp only;have e7:lR s' (rs++[z]) (qi rs.length (aZ w)++[aZ w])=ao 31 s' 1 cx (rs++[z])::(bv 5 1 av rs (qi rs.length (aZ w))++[ao 5 z 1 av (aZ w)]):=congrArg _ (oI (by simp) z (aZ w));rw[show(rs++[z]).length=rs.length+1 by simp,List.replicate_succ',e7];exact X
 ·have J:rs.length=u:=by omega
  rw[J]at O;refine⟨p.1,(O.box 0 rfl).cell0 rfl,?_⟩;let own:=bv 5 1 av rs (qi u (aZ w));refine aA (fun t:Sl×Nat=>(t.1,(t.2:Int))) (fun t h'=>t.2<=K/\Sp h h' (ai a 24 [vL vR p.1,vL vR p.2.1,vL vR p.2.2]::ao 31 t.1 1 cx (rs++(qz t.2).map (Fi data w))::own)) (fun t=>K-t.2) (s,0) rfl ⟨by simp,by simpa using O⟩ ?_;rintro⟨t,k⟩ h5 ⟨a1,D⟩;dsimp only at*;refine aj (fun e2=>?_) (fun e2=>?_)
  ·have Y:k<K:=by omega
   have m1:(k+1)*w<=K*w:=ze w Y;have m2:k*w<=(k+1)*w:=ze w (by omega);refine⟨p.2.2,(D.box 0 rfl).cell rfl,p.2.2,(D.box 0 rfl).cell rfl,?_⟩;rw[ak ((k:Int)+1)];have e5:(k:Int)*p.2.2=((k*w:Nat):Int):=by rw[M,zW]
   have e6:((k:Int)+1)*p.2.2=(((k+1)*w:Nat):Int):=by rw[M,zW];rfl
   rw[e5,e6,nX _,nX _,qo,qo];refine⟨⟨yb _,vf.2 m2,vf.2 (by omega)⟩,?_⟩;refine D.push af 1 rfl iQ rfl (by decide) (fun _=>rfl) oF (Fi data w k) rfl (by decide) (by simp;omega) fun t' T X=>?_;refine⟨(t',k+1),rfl,⟨by dsimp only;omega,?_⟩,by dsimp only;omega⟩;dsimp only;rw[zx,zi,<-qm];exact X
  ·have U:k=K:=by omega
   subst U;refine aP ?_;have E:fC h5 t 1 av (gB k u w d):=by
    refine⟨rs++(qz k).map (Fi data w),D.seq 1 rfl (fun _=>rfl),by rw[xv];simp;omega,fun i r l q n=>?_⟩;by_cases F:i<u
    ·rw[ql (by omega),qd (by omega)]at q;rw[gB,ql (by simpa using F)]at n;have hz:l=aZ w:=by simp[F]at n;exact n.symm
     have hr:rs[i]'(by omega)=r:=wL.inj q;have g:(ai a 24 [vL vR p.1,vL vR p.2.1,vL vR p.2.2]::ao 31 t 1 cx (rs++(qz k).map (Fi data w))::own)[i+2]?=some (ao 5 (rs[i]'(by omega)) 1 av ((qi u (aZ w))[i]'(by simpa using F))):=fb (by simpa using J) i (by simpa using F);have:=D.seq (i+2) g (fun _=>rfl);rw[List.getElem_replicate,hr]at this;rw[hz];exact this
    ·obtain⟨j,rfl⟩:∃j,i=u+j:=⟨i-u,by omega⟩
     rw[qh (by omega),J,zd]at q;rw[gB,qh (by simp),yd,zd]at n;have hj:j<k:=by
      have:=(qk.1 q).1;simpa using this
     simp[hj]at q n;have m1:(j+1)*w<=k*w:=ze w hj;rw[<-q,<-n];exact(Seq.up hd D.ag).piece hc w j (by omega)
   have c:=D.box 0 rfl;refine⟨p,c.aI _ rfl,p,c.aI _ rfl,(ud h5).mono ?_⟩;rintro v T ⟨f,rfl,R6⟩;have o:=c.ag R6.ag c.lt;refine⟨some f,rfl,⟨o.cell0 rfl,o.cell rfl,o.cell rfl,o.cell0 rfl,o.cell rfl,o.cell rfl,trivial⟩,(Eu p T).mono ?_⟩;rintro v h7 ⟨r7,rfl,R7⟩;have Z:=R6.comp R7;have I:=c.ag Z.ag c.lt;refine⟨r7,rfl,⟨I.cell0 rfl,I.cell rfl,I.cell rfl,trivial⟩,?_⟩;refine(BL p seed r7 (dU p) h7 (Z.seq 1 rfl (fun _=>rfl)) (by rw[dU,fd];omega)).mono ?_;rintro v h8 ⟨r8,rfl,R8⟩;have R:=Z.comp R8;refine⟨r8,rfl,trivial,?_⟩;refine(NA f r8 t _ _ (k+u) w h8 (R.box 0 rfl) (R.Di 2 rfl) (E.up R.ag) B.xu (by rw[xv]) B.AW (nZ B.len) (by omega) (by omega) B.MS).mono ?_;rintro v h9 ⟨r9,rfl,R9⟩;have Q9:=R.comp R9;refine⟨(r9,0),rfl,trivial,?_⟩;refine cq (fun e=>absurd rfl e) fun _=>?_;have ad:=c.ag Q9.ag c.lt;refine⟨p,ad.aI _ rfl,?_⟩;refine Q9.boxed (t:=249) fun b ay al=>?_;refine⟨fun _=>⟨b,r9,rfl,?_⟩,fun e=>absurd y e⟩;have Q:=(Sp.zip D.ag).comp al;rw[<-B.uq]at Q;exact Q.take 3 (fun i A F=>by
    cases i with
    |zero=>exact F
    |succ i=>cases i with
     |zero=>exact F
     |succ i=>simp at F)
def FK(h:Heap)(b:Addr)(p:Pm)(seed:Int)(M:aT):Prop:=∃m:Sl,bV h b 249 (CM p seed m)/\fC h m 1 av M
theorem FK.up{h a:Heap}{b:Addr}{p:Pm}{seed:Int}{M:aT}(f:FK h b p seed M)(c:aH (fun b=>b<h.size) h a):FK a b p seed M:=by
 obtain⟨m,d,e⟩:=f;exact⟨m,d.ag c d.lt,e.up c⟩
theorem Lq{a t:Row}(b:a.length=t.length){k:Nat}(d:k<t.length):(zI (fun x y=>y^^^Gf.mul 1 x) (a.take k) (t.take k)++t.drop k).set k (t[k]^^^(a[k]'(by omega)))=zI (fun x y=>y^^^Gf.mul 1 x) (a.take (k+1)) (t.take (k+1))++t.drop (k+1):=by
 have:=Ae (c:=1) b d;rw[Gf.one_mul]at this;exact this
theorem VL{a t:Row}(b:a.length=t.length){k:Nat}(d:k<t.length):(zI (fun x y=>y^^^Gf.mul 1 x) (a.take k) (t.take k)++t.drop k)[k]?=some t[k]:=by
 have c:(zI (fun x y=>y^^^Gf.mul 1 x) (a.take k) (t.take k)).length=k:=by simp;omega
 rw[qh (by omega),c,q5,wh,wH,qd d]
theorem Lr(b:Addr)(p:Pm)(seed id:Int)(M:aT)(n w:Nat)(h:Heap)(hb:FK h b p seed M)(G:bC p=true)(Q:p.2.2=w)(hn:(ck p).toNat=n)(U:aW w M)(hl:M.length=n):
  ab vV 142 #[vN (some b),vL vR id] h fun v h'=>∃r:Sl,v=r/\Sp h h' [ao 5 r 1 av (if bD id then eI w M (dM n seed id)else[])]:=by
 obtain⟨m,g,T⟩:=hb;have a4:=T.len;have ay:=(bS p).1 G;have hc:ck p=p.1+p.2.1:=by rw[ck,if_pos G]
 refine pJ (some b) id ?_;unfold kZ;have P:bD id=false->∃r:Sl,Value.slice none 0 0=vM r.ptr r.len r.cap/\Sp h h [ao 5 r 1 av (if bD id then eI w M (dM n seed id)else[])]:=fun e=>by
  rw[e];exact⟨⟨none,0,0⟩,rfl,(Sp.refl h).nil 5 1 av⟩
 refine aP (bn (fun e=>by cases e) fun _=>aj (fun e=>P (by simp[bD];omega)) fun e1=>aj (fun e=>P (by simp[bD];omega)) fun W=>?_);have hid:bD id=true:=by simp[bD];omega
 refine⟨b,rfl,p.2.2,g.cell rfl,?_⟩;refine(Sp.refl h).make af av fv (by decide) 0 rfl rfl w w Q Q (qt _) (by omega) fun o h1 Z am V=>?_;have B:=g.ag V.ag g.lt;refine⟨b,rfl,p,B.aI _ rfl,b,rfl,seed,B.cell rfl,(GL p seed id h1).mono ?_⟩;rintro v h2 ⟨c,rfl,N⟩;rw[G,hid,vF,if_pos rfl,hn]at N;rw[hid,if_pos rfl];have J:=V.comp N;obtain⟨d,l⟩:∃d,d=dM n seed id:=⟨_,rfl⟩
 have u:∀x∈d,0<=x/\x<(n:Int):=fun x Y=>pO (by omega) (by omega) (by rw[<-l];exact Y);have X:d.length<=n:=by rw[l];exact Ge (by omega) (by omega) _ _
 rw[<-l]at J⊢;have a3:=(J.seq 1 rfl (fun _=>rfl)).len;refine⟨c,rfl,trivial,?_⟩;refine aA (fun i:Nat=>(i:Int)) (fun i h'=>i<=d.length/\Sp h h' [ao 5 o 1 av (eI w M (d.take i)),ao 3 c 1 aG d]) (fun i=>d.length-i) 0 rfl ⟨by omega,J⟩ ?_;rintro i h3 ⟨E,j⟩;refine aj (fun e=>?_) (fun e=>?_)
 ·have q:i<d.length:=by omega
  have Y:=u _ (qn q);refine(j.seq 1 rfl (fun _=>rfl)).cA i rfl q _ rfl ?_;have H:=g.ag j.ag g.lt;refine⟨b,rfl,m,H.cell rfl,?_⟩;obtain⟨ad,R⟩:=T;refine(R.ag j.ag).get d[i].toNat (by omega) (by omega) fun r O L=>?_;have s:=R.row _ r _ L (qd (show d[i].toNat<M.length by omega));obtain⟨row,f⟩:∃row,row=M[d[i].toNat]'(by omega):=⟨_,rfl⟩
  have al:row.length=w:=by rw[f];exact U _ (qn _)
  rw[<-f]at O s;obtain⟨S,F⟩:∃S,S=eI w M (d.take i):=⟨_,rfl⟩
  have a2:S.length=w:=by rw[F];exact oT U hl u i E
  have a1:=O.len;have W:eI w M (d.take (i+1))=cV 1 row S:=by rw[aO _ _ q,Co,F,f,bE (by omega)]
  rw[<-F]at j;refine aA (fun k:Nat=>(k:Int)) (fun k h'=>k<=w/\Sp h h' [ao 5 o 1 av (zI (fun x y=>y^^^Gf.mul 1 x) (row.take k) (S.take k)++S.drop k),ao 3 c 1 aG d]) (fun k=>w-k) 0 rfl ⟨by omega,by simpa using j⟩ ?_;rintro k h4 ⟨hk,z⟩;have K:=s.ag z.ag;have a0:(zI (fun x y=>y^^^Gf.mul 1 x) (row.take k) (S.take k)++S.drop k).length=w:=by simp;omega
  refine aj (fun e3=>?_) (fun e3=>?_)
  ·have ax:k<w:=by omega
   have D:(zI (fun x y=>y^^^Gf.mul 1 x) (row.take k) (S.take k)++S.drop k)[k]'(by omega)=S[k]'(by omega):=by
    have:=VL (a:=row) (t:=S) (by omega) (show k<S.length by omega);rw[qd (by omega)]at this;exact wL.inj this
   refine K.cA k rfl (by omega) _ rfl ?_;refine(z.seq 0 rfl (fun _=>rfl)).cA k rfl (by omega) _ rfl ?_;rw[D,pk];refine z.set af 0 rfl (fun _=>rfl) rfl k rfl (by omega) _ rfl rfl rfl fun h5 H5=>?_;refine⟨k+1,by rw[ak _];rfl,⟨by omega,?_⟩,by omega⟩;rw[<-Lq (by omega) (show k<S.length by omega)];exact H5
  ·have I:k=w:=by omega
   subst I;rw[qj (by omega),qj (by omega),q9 (by omega),qU]at z;refine⟨i+1,by rw[ak _];rfl,⟨by omega,?_⟩,by omega⟩;rw[W];exact z
 ·rw[qj (by omega)]at j;exact⟨o,rfl,j.take 0 (fun i A E=>by cases i with|zero=>exact E|succ i=>simp at E)⟩
theorem _root_.Wl.bx.kQ{p:Pm}{seed:Int}{d:Row}{K H w n:Nat}(B:bx p seed d K H w n):kQ p seed d.length=0:=by
 rw[Go.Qw.kQ,B.may,B.full,B.len,B.k,B.s,decide_eq_true (by rw[zW])];rfl
theorem _root_.Wl.bx.congr{p:Pm}{seed:Int}{d a:Row}{K H w n:Nat}(B:bx p seed d K H w n)(h:a.length=K*w):bx p seed a K H w n:=
 ⟨B.may,B.full,B.k,B.h,B.s,B.n,B.k1,B.k2,B.h1,B.h2,B.w1,B.w2,h⟩
theorem VM{p:Pm}{seed:Int}{d:Row}{K H w n:Nat}(B:bx p seed d K H w n)(data:Sl)(h:Heap)(c:Rd h data 1 av d)(e:data.len<=data.cap):
  ab vV 140 #[jH p,vL vT seed,data] h fun v h'=>
   ∃(b:Addr) (m:Sl),v=.tuple #[vN (some b),vL vR 0]/\Sp h h' [gd 31 m 1 av (dz p seed d),ai b 249 (CM p seed m)]:=
 (RV p seed data d h c e).mono fun _ _ a=>a.1 B.kQ
theorem _root_.Wl.bx.symbol{p:Pm}{seed:Int}{d:Row}{K H w n:Nat}(B:bx p seed d K H w n)(b:Addr)(id:Int)(h:Heap)(a:FK h b p seed (dz p seed d)):
  ab vV 142 #[vN (some b),vL vR id] h fun v h'=>∃r:Sl,v=r/\Sp h h' [ao 5 r 1 av (if bD id then eI w (dz p seed d) (dM n seed id)else[])]:=
 Lr b p seed id _ n w h a B.may B.s B.lE B.ng.2 B.ng.1
def sO(s:ur):aM:=[.complex .f64 s.ax s.ay,.complex .f64 s.sx s.sy,vL vR s.left,vL vR s.leg,vP s.second]
theorem ld{o:Option Nat}(h:o.isSome=true):o=some (o.getD 0):=by
 cases o with
 |none=>cases h
 |some x=>rfl
theorem NB(h:Heap):ab vV 256 #[] h fun v h'=>∃a:Addr,v=vN (some a)/\Sp h h' [ai a 322 (sO Wy)]:=by
 refine Ed ?_;unfold uN;refine(Sp.refl h).boxed (t:=322) fun a c b=>?_;exact⟨a,rfl,b⟩
theorem PS(a b:Nat)(h:Heap)(i:(fh.mul a 0).isSome=true)(c:(fh.mul b lF).isSome=true)(h3:(fh.sub (nM a 0) (nM b lF)).isSome=true)(d:(fh.mul a lF).isSome=true)(j:(fh.mul b 0).isSome=true)(f:(fh.add (nM a lF) (nM b 0)).isSome=true):
  ab vV 314 #[.complex .f64 a b,vL vR 1] h fun v h'=>v=.complex .f64 (tx a b) (ty a b)/\h'=h:=by
 refine FE (a,b) 1 ?_;unfold xS;refine⟨by decide,by decide,?_⟩;refine aA (fun k:Nat=>(if k=0 then(a,b)else(tx a b,ty a b),(k:Int))) (fun k h'=>k<=1/\h'=h) (fun k=>1-k) 0 rfl ⟨by omega,rfl⟩ ?_;rintro k h' ⟨l,rfl⟩;have g:zQ (qc vR (zQ 1 4+4)) 4=1:=by decide
 dsimp only;rw[g];refine aj (fun e=>?_) (fun e=>?_)
 ·have:k=0:=by omega
  subst this;refine⟨(tx a b,ty a b),Ug (ld i) (ld c) (ld h3) (ld d) (ld j) (ld f),?_⟩;exact⟨1,rfl,⟨by omega,rfl⟩,by omega⟩
 ·have:k=1:=by omega
  subst this;exact⟨rfl,rfl⟩
theorem RW(a:Addr)(s:ur)(h:Heap)(g:bV h a 322 (sO s))(c:s.ok=true):ab vV 257 #[vN (some a)] h fun v h'=>v=.tuple #[]/\bV h' a 322 (sO s.on)/\aH (fun b=>b≠a.block) h h':=by
 simp only[ur.ok,qA,decide_eq_true_eq]at c;obtain⟨⟨⟨⟨⟨⟨⟨⟨⟨⟨⟨w,A⟩,F⟩,D⟩,I⟩,J⟩,t⟩,z⟩,M⟩,E⟩,G⟩,u⟩:=c;refine uX (some a) ?_;unfold nV;have y:aa (fun b=>b<h.size/\¬b=a.block) h h [ai a 322 (sO s)]:=.Ou (fun b=>b=a.block) (fun b n=>by rw[n];exact g.lt) ⟨g,rfl⟩;have fin:∀{h':Heap},aa (fun b=>b<h.size/\¬b=a.block) h h' [ai a 322 (sO s.on)]->Value.tuple #[]=.tuple #[]/\bV h' a 322 (sO s.on)/\aH (fun b=>b≠a.block) h h':=fun H=>
  ⟨rfl,H.box 0 rfl,H.ag.1,fun k r l=>H.ag.2 k r ⟨r,l⟩⟩
 refine⟨a,rfl,(s.ax,s.ay),g.cell0 rfl,a,rfl,(s.sx,s.sy),g.cell rfl,(kP s.ax s.sx,kP s.ay s.sy),Ue (ld w) (ld A),a,rfl,?_⟩;refine y.kr af 0 rfl rfl [.complex .f64 (kP s.ax s.sx) (kP s.ay s.sy)] rfl rfl rfl (by simp[sO]) fun P p=>⟨trivial,?_⟩
 refine⟨a,rfl,s.left,(p.box 0 rfl).cell (j:=2) rfl,a,rfl,?_⟩;rw[ak (s.left-1)];refine p.storeAt af 0 rfl rfl (off:=2) rfl rfl rfl (by simp[sO]) fun x d=>?_;refine⟨a,rfl,s.left-1,(d.box 0 rfl).cell (j:=2) rfl,?_⟩;refine aj (fun e=>?_) (fun e=>?_)
 ·have i:sO s.on=[.complex .f64 (kP s.ax s.sx) (kP s.ay s.sy),.complex .f64 s.sx s.sy,vL vR (s.left-1),vL vR s.leg,vP s.second]:=by rw[ur.on,if_pos e];rfl
  refine fin ?_;rw[i];exact d
 ·refine⟨a,rfl,(s.sx,s.sy),(d.box 0 rfl).cell (j:=1) rfl,(PS s.sx s.sy x F D I J t z).mono ?_⟩;rintro v h3 ⟨rfl,rfl⟩;refine⟨(tx s.sx s.sy,ty s.sx s.sy),rfl,a,rfl,?_⟩;refine d.storeAt af 0 rfl rfl (off:=1) rfl rfl rfl (by simp[sO]) fun O f=>?_;refine cg (fun _ h'=>aa (fun b=>b<h.size/\¬b=a.block) h h' [ai a 322 [.complex .f64 (kP s.ax s.sx) (kP s.ay s.sy),.complex .f64 (tx s.sx s.sy) (ty s.sx s.sy),vL vR (s.left-1),vL vR (if s.second then s.leg+1 else s.leg),vP s.second]]) ?_ ?_
  ·refine⟨a,rfl,s.second,(f.box 0 rfl).cell (j:=4) rfl,bn (fun m=>?_) (fun m=>?_)⟩
   ·refine⟨a,rfl,s.leg,(f.box 0 rfl).cell (j:=3) rfl,a,rfl,?_⟩;rw[ak (s.leg+1)];refine f.storeAt af 0 rfl rfl (off:=3) rfl rfl rfl (by simp[sO]) fun N K=>?_;rw[if_pos m];exact K
   ·rw[if_neg (by rw[m];decide)];exact f
  ·rintro _ L q;refine⟨a,rfl,s.second,(q.box 0 rfl).cell (j:=4) rfl,a,rfl,?_⟩;refine q.storeAt af 0 rfl rfl (off:=4) rfl rfl rfl (by simp) fun Q o=>?_;refine⟨a,rfl,_,(o.box 0 rfl).cell (j:=3) rfl,a,rfl,?_⟩;refine o.storeAt af 0 rfl rfl (off:=2) rfl rfl rfl (by simp) fun h8 B=>?_;have i:sO s.on=[.complex .f64 (kP s.ax s.sx) (kP s.ay s.sy),.complex .f64 (tx s.sx s.sy) (ty s.sx s.sy),vL vR (if s.second then s.leg+1 else s.leg),vL vR (if s.second then s.leg+1 else s.leg),vP (!s.second)]:=by rw[ur.on,if_neg e];rfl
   refine fin ?_;rw[i];exact B
theorem Me(n:Nat)(h:Heap)(j:n<64):ab vV 200 #[vL vR n] h fun v h'=>v=.complex .f64 (ig n).ax (ig n).ay/\Sp h h' []:=by
 refine Jl n ?_;unfold DV;refine aj (fun e=>by omega) fun _=>aj (fun e=>by omega) fun _=>?_;refine(NB h).mono ?_;rintro v l ⟨a,rfl,g⟩;refine⟨some a,rfl,?_⟩;refine aA (fun k:Nat=>(k:Int)) (fun k h'=>k<=n/\Sp h h' [ai a 322 (sO (ig k))]) (fun k=>n-k) 0 rfl ⟨by omega,g⟩ ?_;rintro k f ⟨i,b⟩;refine bt (fun e=>?_) (fun e=>?_)
 ·have:k=n:=by omega
  subst this;exact⟨a,rfl,((ig k).ax,(ig k).ay),(b.box 0 rfl).cell0 rfl,rfl,.zip b.ag⟩
 ·refine(RW a (ig k) f (b.box 0 rfl) (Wj k (by omega))).mono ?_;rintro v h3 ⟨rfl,d,c⟩;refine⟨(),rfl,k+1,by rw[ak _];rfl,⟨by omega,b.rS 0 rfl c d⟩,by omega⟩
theorem GP{a b:Int}(e:-4<=a:=by omega)(c:a<=4:=by omega)(h3:-4<=b:=by omega)(d:b<=4:=by omega):fh.sub (cl a) (cl b)=some (cl (a-b)):=by
 have:=Vh (a+4).toNat (by omega) (b+4).toNat (by omega);rw[show((a+4).toNat:Int)-4=a by omega,show((b+4).toNat:Int)-4=b by omega,show((a+4).toNat:Int)-((b+4).toNat:Int)=a-b by omega]at this;exact this
theorem GQ{a:Int}(b:-8<=a:=by omega)(c:a<=8:=by omega):fh.mul (cl a) (cl a)=some (cl (a*a)):=by
 have:=Vi (a+8).toNat (by omega);rw[show((a+8).toNat:Int)-8=a by omega]at this;exact this
theorem JR(a:Int):((a.natAbs:Nat):Int)*(a.natAbs:Nat)=a*a:=Int.natAbs_mul_self
theorem PT{a b:Int}(e:-8<=a)(c:a<=8)(h3:-8<=b)(d:b<=8):fh.add (cl (a*a)) (cl (b*b))=some (cl (a*a+b*b)):=by
 have:=Vj a.natAbs (by omega) b.natAbs (by omega);rw[JR,JR]at this;exact this
def Ag(i j:Nat):Int:=((dZ i).x-(dZ j).x)*((dZ i).x-(dZ j).x)+((dZ i).y-(dZ j).y)*((dZ i).y-(dZ j).y)
theorem TE{a:Int}(b:-8<=a)(c:a<=8):0<=a*a/\a*a<=64:=by
 rw[<-JR,<-zW];have:a.natAbs*a.natAbs<=8*8:=wE (by omega) (by omega);omega
theorem rh{n:Nat}(h:n<64):(ig n).ax=cl (dZ n).x/\(ig n).ay=cl (dZ n).y/\-4<=(dZ n).x/\(dZ n).x<=4/\-4<=(dZ n).y/\(dZ n).y<=4:=by
 have:=Vg n h;simp only[qA,decide_eq_true_eq,beq_iff_eq]at this;obtain⟨⟨⟨⟨⟨a,b⟩,c⟩,d⟩,e⟩,f⟩:=this;exact⟨a,b,c,d,e,f⟩
theorem PU{i j:Nat}(d:i<64)(c:j<64):0<=Ag i j/\Ag i j<=128:=by
 have a:=rh d;have b:=rh c;have f:=TE (a:=(dZ i).x-(dZ j).x) (by omega) (by omega);have e:=TE (a:=(dZ i).y-(dZ j).y) (by omega) (by omega);unfold Ag;omega
theorem RX(i j:Nat)(h:Heap)(d:i<64)(c:j<64):ab vV 201 #[.complex .f64 (ig i).ax (ig i).ay,.complex .f64 (ig j).ax (ig j).ay] h fun v h'=>v=.float .f64 (cl (Ag i j))/\h'=h:=by
 have a:=rh d;have b:=rh c;refine Hs ((ig i).ax,(ig i).ay) ((ig j).ax,(ig j).ay) ?_;unfold BD;have f:fh.sub (ig i).ax (ig j).ax=some (cl ((dZ i).x-(dZ j).x)):=by rw[a.1,b.1];exact GP
 have e:fh.sub (ig i).ay (ig j).ay=some (cl ((dZ i).y-(dZ j).y)):=by rw[a.2.1,b.2.1];exact GP
 refine⟨(cl ((dZ i).x-(dZ j).x),cl ((dZ i).y-(dZ j).y)),Uf f e,_,GQ,_,GQ,_,PT (by omega) (by omega) (by omega) (by omega),rfl,rfl⟩
abbrev TF:bP C.torQ 22 3 1 [vL vR 0] 8:=⟨_,_,rfl,rfl,rfl,rfl,rfl,rfl⟩
def jM(a b:Int):Int:=if a<b then-1 else if a>b then 1 else 0
theorem JS(m:Nat)(h:Heap)(a:m<129):ab vV 259 #[.float .f64 (cl (m:Nat))] h fun v h'=>v=vP false/\h'=h:=by
 refine su _ ?_;unfold mj;have:=Pa m a m a;rw[show(FloatKind.format .f64).order (cl (m:Nat)) (cl (m:Nat))=some (compare m m)from this,Nat.compare_eq_eq.2 rfl];exact⟨rfl,rfl⟩
theorem PW(m n:Nat)(h:Heap)(c:m<129)(b:n<129):ab vV 205 #[.float .f64 (cl (m:Nat)),.float .f64 (cl (n:Nat))] h fun v h'=>v=vL vR (jM m n)/\h'=h:=by
 refine pK _ _ ?_;unfold lc;refine(JS m h c).mono ?_;rintro v a ⟨rfl,rfl⟩;refine⟨_,rfl,(JS n a b).mono ?_⟩;rintro v f ⟨rfl,rfl⟩;refine⟨_,rfl,bn (fun e=>by cases e) fun _=>bn (fun e=>by cases e) fun _=>?_⟩;have d:(FloatKind.format .f64).order (cl (m:Nat)) (cl (n:Nat))=some (compare m n):=Pa m c n b;rw[d];rcases Nat.lt_trichotomy m n with a|a|a
 ·rw[Nat.compare_eq_lt.2 a];refine bn (fun _=>⟨by rw[jM,if_pos (by omega)],rfl⟩) (fun e=>by cases e)
 ·subst a;rw[Nat.compare_eq_eq.2 rfl];refine bn (fun e=>by cases e) fun _=>bn (fun e=>by cases e) fun _=>⟨by rw[jM,if_neg (by omega),if_neg (by omega)],rfl⟩
 ·rw[Nat.compare_eq_gt.2 a];refine bn (fun e=>by cases e) fun _=>bn (fun _=>⟨by rw[jM,if_neg (by omega),if_pos (by omega)],rfl⟩) (fun e=>by cases e)
theorem GR(m:Int)(h:Heap):ab vV 236 #[vL vR m] h fun v h'=>v=vP false/\h'=h:=by
 refine nU _ ?_;unfold lN;exact⟨by simp,rfl⟩
theorem PX(m n:Int)(h:Heap):ab vV 206 #[vL vR m,vL vR n] h fun v h'=>v=vL vR (jM m n)/\h'=h:=by
 refine mi _ _ ?_;unfold kl;refine(GR m h).mono ?_;rintro v b ⟨rfl,rfl⟩;refine⟨_,rfl,(GR n b).mono ?_⟩;rintro v c ⟨rfl,rfl⟩;refine⟨_,rfl,bn (fun e=>by cases e) fun _=>bn (fun e=>by cases e) fun _=>?_⟩;refine aj (fun e=>⟨by rw[jM,if_pos e],rfl⟩) fun e=>aj (fun a=>⟨by rw[jM,if_neg e,if_pos a],rfl⟩) fun a=>⟨by rw[jM,if_neg e,if_neg a],rfl⟩
def Mf(a b:Int):Int:=if a≠0 then a else b
theorem Uv(s:Sl)(a b:Int)(h:Heap)(f:Rd h s 1 aG [a,b]):ab vV 204 #[s] h fun v h'=>v=vL vR (Mf a b)/\h'=h:=by
 refine sq s ?_;unfold pd;have l:s.len=2:=f.len;refine aA (fun k:Nat=>(k:Int)) (fun k h'=>h'=h/\k<=2/\(1<=k->a=0)/\(2<=k->b=0)) (fun k=>2-k) 0 rfl ⟨rfl,by omega,by omega,by omega⟩ ?_;rintro k h' ⟨rfl,m,g,i⟩;refine aj (fun e=>?_) (fun e=>?_)
 ·rcases(show k=0∨k=1 by omega)with rfl|rfl
  ·refine f.cA 0 rfl (by simp) a rfl ?_;refine cq (fun c=>⟨by rw[Mf,if_pos c],rfl⟩) (fun c=>?_);exact⟨1,rfl,⟨rfl,by omega,fun _=>c,by omega⟩,by omega⟩
  ·refine f.cA 1 rfl (by simp) b rfl ?_;have d:=g (by omega);refine cq (fun c=>⟨by rw[Mf,if_neg (by simp[d])],rfl⟩) (fun c=>?_);exact⟨2,rfl,⟨rfl,by omega,fun _=>d,fun _=>c⟩,by omega⟩
 ·have d:=g (by omega);have j:=i (by omega);exact⟨by rw[Mf,if_neg (by simp[d]),j],rfl⟩
abbrev Fr:=Int×Fin 129
def pr(x:Fr):aM:=[vL vR x.1,.float .f64 (cl ((x.2:Nat):Int))]
def pu(x y:Fr):Int:=Mf (jM (x.2:Nat) (y.2:Nat)) (jM x.1 y.1)
theorem JT(x y:Fr)(h:Heap):ab vV 203 #[vQ (pr x).toArray,vQ (pr y).toArray] h fun v h'=>v=vL vR (pu x y)/\aH (fun b=>b<h.size) h h':=by
 refine Bc (x.1,cl ((x.2:Nat):Int)) (y.1,cl ((y.2:Nat):Int)) ?_;unfold pX;refine(Sp.refl h).boxed (t:=257) fun a l f=>?_;refine f.boxed (t:=257) fun b e c=>?_;refine⟨_,(c.box 0 rfl).cell (j:=1) rfl,_,(c.box 1 rfl).cell (j:=1) rfl,_,(c.box 0 rfl).cell0 rfl,_,(c.box 1 rfl).cell0 rfl,?_⟩;refine(PW x.2 y.2 e x.2.isLt y.2.isLt).mono ?_;rintro v h3 ⟨rfl,rfl⟩;refine⟨_,rfl,⟨(c.box 1 rfl).cell0 rfl,(c.box 0 rfl).cell0 rfl,trivial⟩,(PX _ _ h3).mono ?_⟩;rintro v k ⟨rfl,rfl⟩;refine⟨_,rfl,trivial,?_⟩;refine c.lit af aG TF rfl [jM (x.2:Nat) (y.2:Nat),jM x.1 y.1] rfl (show 2*1<=2^20 by decide) rfl fun s g d=>⟨trivial,?_⟩
 refine(Uv s _ _ g (d.seq 2 rfl (fun _=>rfl))).mono ?_;rintro v i ⟨rfl,rfl⟩;exact⟨_,rfl,trivial,rfl,d.ag⟩
theorem Mg{a b:Int}:jM a b<0↔a<b:=by unfold jM;split<;>(try split)<;>omega
theorem GS{a b:Int}:jM a b=0↔a=b:=by unfold jM;split<;>(try split)<;>omega
theorem TG{x y:Fr}:ltOf pu x y=true↔((x.2:Nat):Int)<(y.2:Nat)∨(((x.2:Nat):Int)=(y.2:Nat)/\x.1<y.1):=by
 have h0:ltOf pu x y=true↔pu x y<0:=by simp[ltOf]
 rw[h0,pu,Mf];by_cases h:jM (x.2:Nat) (y.2:Nat)=0
 ·rw[if_neg (by simp[h]),Mg];have:=GS.1 h;constructor
  ·exact fun a=>.inr ⟨this,a⟩
  ·rintro(a|a)
   ·omega
   ·exact a.2
 ·rw[if_pos h,Mg];have b:((x.2:Nat):Int)≠(y.2:Nat):=fun e=>h (GS.2 e);constructor
  ·exact .inl
  ·rintro(a|a)
   ·exact a
   ·exact absurd a.1 b
theorem Ah{x y:Fr}:ltOf pu x y=false↔¬(((x.2:Nat):Int)<(y.2:Nat)∨(((x.2:Nat):Int)=(y.2:Nat)/\x.1<y.1)):=by
 rw[<-TG];simp
theorem VN:Sort.SWO (ltOf pu) where
 irrefl x:=Ah.2 (by omega)
 trans x y z h1 h2:=by rw[TG]at*;omega
 ntrans x y z h1 h2:=by rw[Ah]at*;omega
theorem VO(x y:Fr)(a:ltOf pu x y=false)(b:ltOf pu y x=false):x=y:=by
 rw[Ah]at a b;refine yR (by omega) (Fin.ext (by omega))
theorem JU{e:TypeId}{s:Sl}{l:List Fr}{h:Heap}(d:Own h e s 2 pr l)(a:l.length<2^40):
  ab vV 202 #[s,.func (.func 203) #[] #[]] h fun v h'=>v=.tuple #[]/\Own h' e s 2 pr (l.mergeSort fun x y=>!(ltOf pu) y x)/\aH (fun b=>¬s.on b) h h':=by
 have j:∀x:Fr,(pr x).length=2:=fun _=>rfl;refine Hc (P:=vV) (id_:=202) (g:=203) (enc:=pr) (k:=2) (cf:=pu) j ?_ ?_ (fun x y h=>JT x y h) d a
 ·intro eu cap l w m n i f;have:=AnyQ.slices_SortFunc_total Tryz.LY 2 Tryz.Vl Tryz.Ul pr (fun _=>rfl) (fun x v c=>by simp[pr]at c;rcases c with rfl|rfl<;>rfl) pu VN 203 #[] eu 0 cap l.toArray w (enters_of Tryz.Um (by kernel_rfl) rfl) (by simpa using m) n i (by simpa using f) VO;simp at this;exact this
 ·intro p cap w;exact AnyF.slices_SortFunc_none Tryz.LY p cap _ w
def pv(a:aB)(n:Int):aB:=if 0<=n/\n<64/\a.contains n=false then a++[n]else a
def fB(l:aB):aB:=l.foldl pv []
theorem ri(l:aB){k:Nat}(a:k<l.length:=by omega):fB (l.take (k+1))=pv (fB (l.take k)) l[k]:=by
 rw[fB,aO _ _ a,zT];rfl
theorem JV(l:aB):∀k,k<=l.length->∀x,x∈fB (l.take k)↔x∈l.take k/\0<=x/\x<64
 |0,_,x=>by simp[fB]
 |k+1,hk,x=>by
  have c:=JV l k (by omega);rw[ri l,aO _ _ (show k<l.length by omega),pv];by_cases h:0<=l[k]/\l[k]<64/\(fB (l.take k)).contains l[k]=false
  ·rw[if_pos h,qE,qE,qB,c x];constructor
   ·rintro(a|rfl)
    ·exact⟨.inl a.1,a.2⟩
    ·exact⟨.inr rfl,h.1,h.2.1⟩
   ·rintro⟨a|a,b⟩
    ·exact .inl ⟨a,b⟩
    ·exact .inr a
  ·rw[if_neg h,qE,qB,c x];constructor
   ·rintro a;exact⟨.inl a.1,a.2⟩
   ·rintro⟨a|rfl,b⟩
    ·exact⟨a,b⟩
    ·have:(fB (l.take k)).contains l[k]=true:=by
      cases hc:(fB (l.take k)).contains l[k]with
      |true=>rfl
      |false=>exact absurd ⟨b.1,b.2,hc⟩ h
     exact(c _).1 (by simpa using this)
theorem Ey(l:aB):∀k,k<=l.length->(fB (l.take k)).Nodup
 |0,_=>by simp[fB]
 |k+1,hk=>by
  have c:=Ey l k (by omega);rw[ri l,pv];split
  ·rename_i h;rw[List.nodup_append];refine⟨c,by simp,fun a d b e=>?_⟩;rw[qB.1 e];rintro rfl;have:=h.2.2;rw[List.contains_eq_mem]at this;simp[d]at this
  ·exact c
theorem RY(l:aB)(k:Nat):(fB (l.take k)).length<=k:=by
 induction k with
 |zero=>simp[fB]
 |succ k ih=>
  by_cases a:k<l.length
  ·rw[ri l a,pv];split
   ·simp;omega
   ·omega
  ·rw[qj (by omega)]at ih⊢;omega
def uf(c:Nat)(n:Int):Fr:=(n,Fin.ofNat 129 (Ag n.toNat c).toNat)
theorem VP{c:Nat}{n:Int}(a:c<64)(d:0<=n)(b:n<64):(((uf c n).2:Nat):Int)=Ag n.toNat c:=by
 have:=PU (i:=n.toNat) (j:=c) (by omega) a;show(((Ag n.toNat c).toNat%129:Nat):Int)=_;omega
def nF(c:Nat)(l:aB):aB:=(((fB l).map (uf c)).mergeSort fun x y=>!(ltOf pu) y x).map (·.1)
def eP(a block:Int)(l:aB):aB:=if 0<=a/\a<=16777215/\0<=block/\block<8 then nF ((8*a+block)%64).toNat l else[]
def mX(a:aB):aM:=(qz 64).map fun i:Nat=>vP (a.contains (i:Int))
theorem Uw(a:aB){n:Int}(b:0<=n)(c:n<64):(mX a)[n.toNat]?=some (vP (a.contains n)):=by
 rw[mX,qN,q8 (by omega),qK,show((n.toNat:Nat):Int)=n by omega]
theorem RZ(a:aB){n:Int}(d:0<=n)(c:n<64):(mX a).set n.toNat (vP true)=mX (a++[n]):=by
 apply zq;intro i;rw[qW,mX,mX,qN,qN,qC,zm];by_cases b:i<64
 ·rw[q8 b,qK,qK];by_cases h:n.toNat=i
  ·rw[if_pos h,if_pos (by omega),show((i:Nat):Int)=n by omega];simp
  ·rw[if_neg h];have:(a++[n]).contains (i:Int)=a.contains (i:Int):=by
    rw[List.contains_eq_mem,List.contains_eq_mem];simp;omega
   rw[this]
 ·rw[if_neg (by omega),qX (by simp;omega)];rfl
abbrev WN:bP C.torQ 252 257 2 [vL vR 0,.float .f64 0] 16:=⟨_,_,rfl,rfl,rfl,rfl,rfl,rfl⟩
theorem VQ:∀x,∀c∈pr x,c.oneCell'=true:=by
 intro x c a;simp[pr]at a;rcases a with rfl|rfl<;>rfl
theorem Ls(b block:Int)(live:Sl)(l:aB)(h:Heap)(U:Rd h live 1 aG l)(Z:l.length<=2^30):
  ab vV 141 #[vL vR b,vL vR block,live] h fun v h'=>∃r:Sl,v=r/\Sp h h' [ao 3 r 1 aG (eP b block l)]:=by
 have am:=U.len;refine DP b block live ?_;unfold uF;have F:¬(0<=b/\b<=16777215/\0<=block/\block<8)->∃r:Sl,Value.slice none 0 0=vM r.ptr r.len r.cap/\Sp h h [ao 3 r 1 aG (eP b block l)]:=fun N=>by
  rw[eP,if_neg N];exact⟨⟨none,0,0⟩,rfl,(Sp.refl h).nil 3 1 aG⟩
 refine aP (aj (fun e=>F (by omega)) fun e1=>aj (fun e=>F (by omega)) fun e2=>aj (fun e=>F (by omega)) fun e3=>aj (fun e=>F (by omega)) fun e4=>?_);have K:0<=b/\b<=16777215/\0<=block/\block<8:=by omega
 rw[eP,if_pos K];rw[ak (8*b),ak (8*b+block),ya (by omega)];obtain⟨c,hc⟩:∃c:Nat,(8*b+block)%64=c:=⟨((8*b+block)%64).toNat,by omega⟩
 have g:c<64:=by omega
 rw[hc,qo];refine⟨by decide,(Me c h g).mono ?_⟩;rintro v h2 ⟨rfl,W⟩;refine⟨((ig c).ax,(ig c).ay),rfl,?_⟩;refine W.alloc af rfl fun a h3 Y=>?_;have J:Sp h h3 [ai a 253 (mX []),ao 257 ⟨none,0,0⟩ 2 pr []]:=Y.nil 257 2 pr;refine aA (fun t:Sl×Nat=>(t.1,(t.2:Int))) (fun t h'=>t.2<=l.length/\Sp h h' [ai a 253 (mX (fB (l.take t.2))),ao 257 t.1 2 pr ((fB (l.take t.2)).map (uf c))]) (fun t=>l.length-t.2) (⟨none,0,0⟩,0) rfl ⟨by simp,J⟩ ?_;rintro⟨s,k⟩ h4 ⟨hk,p⟩;dsimp only at*;have z:=RY l k;refine aj (fun e=>?_) (fun e=>?_)
 ·have B:k<l.length:=by omega
  have G:=ri l B;obtain⟨f,E⟩:∃f,f=fB (l.take k):=⟨_,rfl⟩
  rw[<-E]at p z G;refine(Seq.up U p.ag).cA k rfl B _ rfl ?_;obtain⟨x,hx⟩:∃x,x=l[k]:=⟨_,rfl⟩
  rw[<-hx]at G⊢;refine cg (fun t h'=>(t=true↔0<=x/\x<64/\f.contains x=false)/\h'=h4) ?_ ?_
  ·refine aj (fun q=>aj (fun m=>?_) (fun m=>⟨⟨fun e=>(by cases e),fun D=>absurd D.2.1 m⟩,rfl⟩)) (fun q=>⟨⟨fun e=>(by cases e),fun D=>absurd D.1 q⟩,rfl⟩);refine⟨⟨q,m⟩,f.contains x,?_,?_,rfl⟩
   ·rw[zN];exact(p.box 0 rfl).cell (Uw f q m)
   ·cases f.contains x<;>simp<;>omega
  ·rintro t h5 ⟨T,rfl⟩;refine bn (fun e=>?_) (fun e=>?_)
   ·obtain⟨q,m,x2⟩:=T.1 e;refine⟨⟨q,m⟩,?_⟩;rw[zN];refine p.storeAt af 0 rfl rfl rfl rfl rfl (by simp[mX];omega) fun I u=>?_;have O:Sp h I [ai a 253 (mX (f++[x])),ao 257 s 2 pr (f.map (uf c))]:=by
     rw[<-RZ f q m];exact u
    obtain⟨n,N⟩:∃n:Nat,x=n:=⟨x.toNat,by omega⟩
    subst N;refine(Me n I (by omega)).mono ?_;rintro v V ⟨rfl,R7⟩;refine⟨((ig n).ax,(ig n).ay),rfl,(RX n c V (by omega) g).mono ?_⟩;rintro v h8 ⟨rfl,rfl⟩;have H:=O.up R7.ag;have ev:cl (Ag n c)=cl (((uf c (n:Int)).2:Nat):Int):=by rw[VP g (by omega) (by omega),qo]
    refine⟨_,rfl,?_⟩;rw[ev];refine H.push af 1 rfl WN rfl (by decide) (fun _=>rfl) VQ (uf c (n:Int)) rfl (by decide) (by simp;omega) fun s' h9 S=>?_;refine⟨(s',k+1),by dsimp only;rw[ak _];rfl,⟨by dsimp only;omega,?_⟩,by dsimp only;omega⟩;dsimp only;rw[G,pv,if_pos ⟨q,m,x2⟩,zi];exact S
   ·refine⟨(s,k+1),by dsimp only;rw[ak _];rfl,⟨by dsimp only;omega,?_⟩,by dsimp only;omega⟩;dsimp only;rw[G,pv,if_neg (fun D=>by rw[T.2 D]at e;cases e)];exact p
 have L:k=l.length:=by omega
 subst L;rw[za]at p z;refine(JU (p.own 1 rfl) (by simp;omega)).mono ?_;rintro v h5 ⟨rfl,R,P⟩;have Q:=p.jg 1 rfl P R;obtain⟨d,j⟩:∃d,d=((fB l).map (uf c)).mergeSort fun x y=>!(ltOf pu) y x:=⟨_,rfl⟩
 have al:d.length=(fB l).length:=by rw[j,wD,qC]
 have eo:nF c l=d.map (·.1):=by rw[nF,<-j]
 rw[<-j]at Q;have ad:=(Q.own 1 rfl).len;rw[eo];refine⟨(),rfl,?_⟩;refine aA (fun t:Sl×Nat=>(t.1,(t.2:Int))) (fun t h'=>t.2<=d.length/\Sp h h' [ao 257 s 2 pr d,ao 3 t.1 1 aG ((d.take t.2).map (·.1))]) (fun t=>d.length-t.2) (⟨none,0,0⟩,0) rfl ⟨by simp,(Q.del 0).nil 3 1 aG⟩ ?_;rintro⟨o,i⟩ I ⟨M,u⟩;dsimp only at*;refine aj (fun e=>?_) (fun e=>?_)
 ·have w:i<d.length:=by omega
  refine(u.seq 0 rfl (fun _=>rfl)).fF i rfl w (d[i].1,cl ((d[i].2:Nat):Int)) rfl ?_;refine u.alloc af rfl fun y V X=>?_;refine X.storeAll af 2 rfl rfl [vL vR d[i].1,.float .f64 (cl ((d[i].2:Nat):Int))] rfl rfl rfl rfl fun h8 H=>?_;refine⟨d[i].1,(H.box 2 rfl).cell0 rfl,?_⟩;refine H.push af 1 rfl TF rfl (by decide) (fun _=>rfl) jQ d[i].1 rfl (by decide) (by simp;omega) fun o' h9 S=>?_;refine⟨(o',i+1),by dsimp only;rw[ak _];rfl,⟨by dsimp only;omega,?_⟩,by dsimp only;omega⟩;dsimp only;rw[aO _ _ w,zi];exact S.del 2
 ·rw[qj (by omega)]at u;exact⟨o,rfl,u.take 1 (fun i A M=>by cases i with|zero=>exact M|succ i=>simp at M)⟩
theorem Sa(l:aB)(x:Int):x∈fB l↔x∈l/\0<=x/\x<64:=by
 have:=JV l l.length (qt _) x
 rwa [za]at this
theorem Ux(l:aB):(fB l).Nodup:=by
 have:=Ey l l.length (qt _)
 rwa [za]at this
theorem Ez(c:Nat)(l:aB):(nF c l).Perm (fB l):=by
 have h:=(wx ((fB l).map (uf c)) fun x y=>!(ltOf pu) y x).map (·.1);rw[wJ]at h;have e:((fun x:Fr=>x.1)∘uf c)=id:=rfl;rw[e,List.map_id]at h;exact h
theorem GU(c:Nat)(l:aB)(x:Int):x∈nF c l↔x∈l/\0<=x/\x<64:=by rw[(Ez c l).mem_iff,Sa]
theorem Sb(c:Nat)(l:aB):(nF c l).Nodup:=(Ez c l).nodup_iff.2 (Ux l)
def NC(l:aB)(i:Nat):Int:=l.getD i 0
def nG(o:aB)(id:Int):Int:=if o=[]∨id<0 then-1 else NC o (id%(o.length:Int)).toNat
theorem Uy(s:Sl)(o:aB)(id:Int)(h:Heap)(f:Rd h s 1 aG o):ab vV 143 #[s,vL vR id] h fun v h'=>v=vL vR (nG o id)/\h'=h:=by
 have g:=f.len;refine Jj s id ?_;unfold DQ;refine aP (bt (fun e=>⟨by rw[nG,if_pos (.inl (qM (by omega)))],rfl⟩) fun e=>aj (fun b=>⟨by rw[nG,if_pos (.inr b)],rfl⟩) fun b=>?_);refine⟨e,?_⟩;have d:¬(o=[]∨id<0):=by
  rintro(rfl|h2)
  ·simp at g;omega
  ·exact b h2
 have c:zQ id ((s.len:Nat):Int)=((id%(o.length:Int)).toNat:Int):=by
  rw[ya (by omega),g];have:=yg id (show(o.length:Int)≠0 by omega);omega
 have a:(id%(o.length:Int)).toNat<o.length:=by
  have:=wK id (show(0:Int)<o.length by omega);omega
 rw[c];refine f.cA _ rfl a _ rfl ⟨?_,rfl⟩;rw[nG,if_neg d,NC,qg,qd a];rfl
def ug(p:Pm)(seed:Int)(d:Row)(id:Int):aQ:=if bD id then eI p.2.2.toNat (dz p seed d) (dM (ck p).toNat seed id)else[]
def km(m:aC)(o b seed:Int)(d:Row)(id:Int):cJ:=⟨o,b,id,m.p,seed,ug m.p seed d id⟩
def EB(m:aC)(o b seed:Int)(d:Row)(a:aB)(id:Int):Int×aQ:=(nG a id,cB (km m o b seed d id))
def jN(m:aC)(o:Int)(a:aB)(bl:cu)(live:aB)(i:Nat):List (Int×aQ):=
 (qz (m.p.1+m.extra).toNat).map fun id:Nat=>EB m o i (cY o i (a.getD i 0)) (bl.getD i []) (eP o i live) id
def cW(m:aC)(o:Int)(a:aB)(bl:cu)(live:aB)(n:Nat):List (Int×aQ):=(qz n).flatMap (jN m o a bl live)
theorem nQ(m:aC)(o:Int)(a:aB)(bl:cu)(live:aB)(n:Nat):cW m o a bl live (n+1)=cW m o a bl live n++jN m o a bl live n:=by
 unfold cW;rw[zx,q7,zg,wM,qU]
theorem uh(m:aC)(o:Int)(a:aB)(bl:cu)(live:aB)(i:Nat):(jN m o a bl live i).length=(m.p.1+m.extra).toNat:=by simp[jN]
theorem px(m:aC)(o:Int)(a:aB)(bl:cu)(live:aB):∀n,(cW m o a bl live n).length=n*(m.p.1+m.extra).toNat
 |0=>by simp[cW]
 |n+1=>by rw[nQ,qp,px m o a bl live n,uh,zy]
theorem BN(o b t:Int):0<=cY o b t/\cY o b t<4294967296:=by unfold cY;omega
section
variable {B:ap} {h0 h:Heap} {As:List HP} {a pw:Addr} {offs:Int} {da:List aK} {w:Pow} {ds:aR}
theorem HC(x:bZ)(m:aC)(xe:dt)(e:Wl.ca)(s:Sl)(b:aQ)(hS:St B h0 As fun h=>fk h x m/\js kE h xe e/\Rd h s 1 av b)(c6:s.len<=s.cap)(hz:dB m)(P:bC m.p=true)(d6:0<=m.extra/\m.extra<=16)(d3:b.length<=2^20)
  (ht:cy m.p e.object (splitB m.p b).length=some e.tries) (H:aa B h0 h (bi bz a pw (aY x) offs da w ds::As)):
  ab vV 84 #[vN (some a),JO xe,s] h fun v h'=>∃(r:Sl) (ys:List (Int×Sl)),v=.tuple #[r,vP true]/\
   aa B h0 h' (bi bz a pw (aY x) offs da w ds::dX jq 2 piv r ys (cW m e.object e.tries (splitB m.p b) (bB ds m.drives) (splitB m.p b).length)::As):=by
 refine pG (some a) xe s ?_;unfold kW;refine H.boxed fun M h1 H1=>?_;have H1:=H1.cn;have H1:aa B h0 h1 (bi bz a pw (aY x) offs da w ds::ai M 123 (bI xe)::As):=H1.bh 2 [1,0];refine(fI x m (hS.at [_,_] H1).1 hz H1).mono ?_;rintro _ h2 ⟨lv,rfl,R2⟩;have H2:=(H1.cQ R2).bh 3 [1,0,2];obtain⟨ok,a0⟩:=aa.cK H2;obtain⟨b9,ef,cc⟩:=hS.at [_,_,_] H2;have X:(x.2.2.1,x.2.2.2.1,x.2.2.2.2.1)=m.p:=b9.p;have d4:=(bS m.p).1 P;obtain⟨s1,s2,s3⟩:=jK P;obtain⟨c1,c2,c3⟩:=jf P b.length;have c8:(bB ds m.drives).length<=m.drives.length:=zt _ _;have ed:=hz.dr;obtain⟨live,V⟩:∃live,live=bB ds m.drives:=⟨_,rfl⟩
 rw[<-V]at H2 c8⊢;obtain⟨bl,E⟩:∃bl,bl=splitB m.p b:=⟨_,rfl⟩
 have b4:bl.length<=2^20:=by rw[E];unfold splitB;simp;omega
 have a2:∀r∈bl,r.length=cZ m.p:=by
  rw[E];intro r hr;unfold splitB at hr;obtain⟨i,_,rfl⟩:=qH.1 hr;exact yz _ _ _
 refine⟨lv,rfl,a,rfl,(x.2.2.1,x.2.2.2.1,x.2.2.2.2.1),⟨by rw[addr_add];exact a0.cell rfl,by rw[addr_add];exact a0.cell rfl,by rw[addr_add];exact a0.cell rfl,trivial⟩,?_⟩;rw[X];refine(Ld m.p s b h2 P cc c6 (by omega)).mono ?_;rintro _ h3 ⟨q,rfl,R3⟩;rw[<-E]at R3 ht⊢;obtain⟨rs,T⟩:=Go.Qw.aa.TD (H2.cQ R3) fun _=>rfl;have T:=(T.WD 137 2 piv jq).cn;have T:aa B h0 h3 (bi bz a pw (aY x) offs da w ds::lq 137 ⟨none,0,0⟩ 2 piv jq (cW m e.object e.tries bl live 0)::dX (kH 1 av) 1 cx q rs bl::ao 3 lv 1 aG live::ai M 123 (bI xe)::As):=T.bh 5 [2,0,1,3,4];have d8:=(T.jR 2 rfl).1.len;have d1:=(T.jR 2 rfl).2.1;have d2:=gm ht;refine⟨q,rfl,?_⟩;obtain⟨j,G⟩:∃j:Nat,j=(m.p.1+m.extra).toNat:=⟨_,rfl⟩
 have J:j<=32:=by omega
 refine aA (fun t:Sl×Nat=>(t.1,(t.2:Int))) (fun t h'=>t.2<=bl.length/\aa B h0 h' (bi bz a pw (aY x) offs da w ds::lq 137 t.1 2 piv jq (cW m e.object e.tries bl live t.2)::dX (kH 1 av) 1 cx q rs bl::ao 3 lv 1 aG live::ai M 123 (bI xe)::As)) (fun t=>bl.length-t.2) (⟨none,0,0⟩,0) rfl ⟨by simp,T⟩ ?_;rintro⟨o,i⟩ h4 ⟨hi,H4⟩;dsimp only at*;refine aj (fun e1=>?_) (fun e1=>?_)
 ·have U:i<bl.length:=by omega
  have F4:=H4.jR 2 rfl;have ad:=H4.box 4 rfl;obtain⟨c5,bb,ec⟩:=hS.at [_,_,_,_,_] H4;obtain⟨_,c7⟩:=aa.cK H4;obtain⟨t,a9,b7⟩:=rf ht i (by omega);have cs:e.tries.getD i 0=(t:Int):=by rw[qg,qd (by omega)];exact a9
  have cd:bl.getD i []=bl[i]:=by rw[qg,qd U];rfl
  have L:∀{h':Heap},bV h' M 123 (bI xe)->cellOf h' (M.add 1)=some (vL vR e.object):=fun{h'} hb=>by rw[<-bb.1.2.1];exact hb.cell rfl
  have cp:∀{h':Heap},bV h' a 90 (cT (aY x) pw offs da)->ah h' (a.add 2) 0 [vL vR m.p.1,vL vR m.p.2.1,vL vR m.p.2.2]:=fun{h'} hb=>by
   rw[<-X];exact⟨by rw[addr_add];exact hb.cell rfl,by rw[addr_add];exact hb.cell rfl,by rw[addr_add];exact hb.cell rfl,trivial⟩
  have a8:=Fix.row F4 U;refine F4.1.cA i rfl (by omega) (rs[i]'(by omega)) rfl ?_;refine⟨e.object,L ad,xe.2.2.2,ad.cell rfl,?_⟩;refine Seq.cA (f:=aG) bb.2 i rfl (by omega) (t:Int) (by rw[a9];rfl) ?_;refine(ub _ _ _ h4).mono ?_;rintro _ _ ⟨rfl,rfl⟩;refine⟨_,rfl,⟨ad.cell rfl,trivial⟩,a,rfl,m.p,cp c7,?_⟩;obtain⟨seed,k⟩:∃seed,seed=cY e.object i t:=⟨_,rfl⟩
  have hg:=(zn b7).2.1;have ax:fz m.p seed (dU m.p)=true:=by rw[k];exact hg
  obtain⟨K,Hh,w',n,BK⟩:=SR (seed:=seed) (d:=bl[i]) P ax (by rw[a2 _ (qn U),s3]);rw[<-k];refine(VM BK (rs[i]'(by omega)) _ a8.1 a8.2).mono ?_;rintro _ h6 ⟨bk,mm,rfl,R6⟩;have H6:=(H4.comp R6).front;have H6:aa B h0 h6 (bi bz a pw (aY x) offs da w ds::lq 137 o 2 piv jq (cW m e.object e.tries bl live i)::dX (kH 1 av) 1 cx q rs bl::ao 3 lv 1 aG live::ai M 123 (bI xe)::gd 31 mm 1 av (dz m.p seed bl[i])::ai bk 249 (CM m.p seed mm)::As):=H6.bh 7 [2,3,4,5,6,0,1];refine⟨(some bk,0),rfl,cq (fun e2=>absurd rfl e2) fun _=>?_⟩;have b3:=H6.box 4 rfl;refine⟨e.object,L b3,(Ls e.object i lv live h6 (H6.seq 3 rfl fun _=>rfl) (by omega)).mono ?_⟩;rintro _ h7 ⟨I,rfl,R7⟩;have H7:=(H6.cQ R7).bh 8 [1,2,3,4,5,6,7,0];obtain⟨c,l⟩:∃c,c=eP e.object i live:=⟨_,rfl⟩
  rw[<-l]at H7;have a7:=(aa.cK H7).2;have b0:x.2.2.1=m.p.1:=congrArg (·.1) X;refine⟨I,rfl,a,rfl,x.2.2.1,a7.cell rfl,a,rfl,x.2.2.2.2.2.1,a7.cell rfl,?_⟩;have en:qc vR (x.2.2.1+x.2.2.2.2.2.1)=(j:Int):=by rw[b0,c5.extra,ak _];omega
  rw[en];have R:jN m e.object e.tries bl live i=(qz j).map fun id:Nat=>EB m e.object i seed bl[i] c id:=by
   unfold jN;rw[cs,cd,<-k,<-l,<-G]
  have c9:(jN m e.object e.tries bl live i).length=j:=by rw[uh,<-G]
  obtain⟨A,F⟩:∃A,A=cW m e.object e.tries bl live i:=⟨_,rfl⟩
  have d0:A.length<=2^26:=by
   rw[F,px,<-G];have:=wE (show i<=2^20 by omega) J;omega
  obtain⟨Q,hQ⟩:∃Q,Q=jN m e.object e.tries bl live i:=⟨_,rfl⟩
  rw[<-hQ]at R c9;rw[<-F]at H7;refine aA (fun t:Sl×Nat=>(t.1,(t.2:Int))) (fun t h'=>t.2<=j/\aa B h0 h' (bi bz a pw (aY x) offs da w ds::lq 137 t.1 2 piv jq (A++Q.take t.2)::dX (kH 1 av) 1 cx q rs bl::ao 3 lv 1 aG live::ai M 123 (bI xe)::gd 31 mm 1 av (dz m.p seed bl[i])::ai bk 249 (CM m.p seed mm)::ao 3 I 1 aG c::As)) (fun t=>j-t.2) (o,0) rfl ⟨by simp,by simpa using H7⟩ ?_;rintro⟨o2,id⟩ h8 ⟨hid,S⟩;dsimp only at*;refine aj (fun e3=>?_) fun e3=>?_
  ·have dd:id<j:=by omega
   have am:=S.box 4 rfl;have a3:=(aa.cK S).2;have y:FK h8 bk m.p seed (dz m.p seed bl[i]):=⟨mm,S.box 6 rfl,S.Di 5 rfl⟩
   have O:ug m.p seed bl[i] id=if bD id then eI w' (dz m.p seed bl[i]) (dM n seed id)else[]:=by
    unfold ug;rw[BK.lE,show m.p.2.2.toNat=w' by have:=BK.s;omega]
   have held:∀{h':Heap},aH (fun b=>b<h8.size) h8 h'->ar.ok [((a.add 2),vL vR m.p.1),((a.add 2).add 1,vL vR m.p.2.1),((a.add 2).add 2,vL vR m.p.2.2),(M.add 1,vL vR e.object)] h':=fun{h'} P=>by
    obtain⟨q1,q2,q3,_⟩:=cp (a3.ag P a3.lt);exact⟨q1,q2,q3,L (am.ag P am.lt),trivial⟩
   refine cg (fun(a5:Addr) h'=>∃r:Sl,aa B h0 h' (ai a5 49 (ba (e.object,(i:Int),(id:Int),m.p.1,m.p.2.1,m.p.2.2,seed,r))::ao 5 r 1 av (ug m.p seed bl[i] id)::bi bz a pw (aY x) offs da w ds::lq 137 o2 2 piv jq (A++Q.take id)::dX (kH 1 av) 1 cx q rs bl::ao 3 lv 1 aG live::ai M 123 (bI xe)::gd 31 mm 1 av (dz m.p seed bl[i])::ai bk 249 (CM m.p seed mm)::ao 3 I 1 aG c::As)) ?_ ?_
   ·refine⟨e.object,L am,a,rfl,m.p,cp a3,?_,?_⟩
    ·refine(BK.symbol bk id h8 y).mono ?_;rintro _ h9 ⟨r,rfl,R9⟩;rw[<-O]at R9;have H9:=S.cQ R9;refine⟨r,rfl,held R9.ag,H9.rU af rfl fun a28 dk c0 Y=>⟨held (aa.up R9 c0).ag,?_⟩⟩;have Y:=Y.cn;refine Y.storeAll af 0 rfl rfl (ba (e.object,(i:Int),(id:Int),m.p.1,m.p.2.1,m.p.2.2,seed,r)) rfl rfl rfl rfl fun d5 b6=>⟨trivial,r,b6⟩
    ·refine S.rU af rfl fun dx c4 ay W=>⟨held ay,?_⟩
     have W:=W.cn;refine(BK.symbol bk id c4 (y.up ay)).mono ?_;rintro _ dy ⟨r,rfl,al⟩;rw[<-O]at al;have b2:=(W.cQ al).bh 2 [1,0];refine⟨r,rfl,held (aa.up (Sp.zip ay) al.ag).ag,?_⟩;refine b2.storeAll af 0 rfl rfl (ba (e.object,(i:Int),(id:Int),m.p.1,m.p.2.1,m.p.2.2,seed,r)) rfl rfl rfl rfl fun eb bs=>⟨trivial,r,bs⟩
   ·rintro a5 cf ⟨r,N⟩;have g:=N.box 0 rfl;have a4:=BN e.object i t;rw[<-k]at a4;refine⟨(e.object,(i:Int),(id:Int),m.p.1,m.p.2.1,m.p.2.2,seed,r),g.aI _ rfl,(Uy I c id cf (N.seq 9 rfl fun _=>rfl)).mono ?_⟩;rintro _ b5 ⟨rfl,rfl⟩;refine⟨_,rfl,⟨g.cell0 rfl,g.cell rfl,g.cell rfl,g.cell rfl,g.cell rfl,g.cell rfl,g.cell rfl,g.cell rfl,trivial⟩,?_⟩;refine(rI (e.object,(i:Int),(id:Int),m.p.1,m.p.2.1,m.p.2.2,seed,r) (km m e.object i seed bl[i] id) b5 ⟨⟨rfl,rfl,rfl,rfl,rfl,a4.1,a4.2⟩,N.seq 1 rfl fun _=>rfl⟩).mono ?_;rintro _ d7 ⟨u,rfl,br⟩;have bd:=(N.cQ br).jo 0 rfl (D:=EA jq (nG c id,u) (EB m e.object i seed bl[i] c id)) fun z hz=>⟨rfl,hz.1.seq (fun _=>rfl) hz.2⟩
    have a6:Q[id]'(by omega)=EB m e.object i seed bl[i] c id:=by simp[R]
    refine⟨u,rfl,trivial,?_⟩;refine bd.rT af piv JB rfl [(nG c id,u)] rfl (show 1*2<=2^20 by decide) rfl trivial ?_;refine aa.Wg af bd 4 0 (by decide) (a:=(nG c id,u)) rfl rfl JB rfl (by decide) (fun _=>rfl) Mc (parts:=#[(0,vQ #[vL vR (nG c id),u])]) (by kernel_rfl) (by decide) (by simp;omega) fun o3 d9 b1=>⟨trivial,?_⟩
    refine⟨(o3,id+1),by dsimp only;rw[ak _];rfl,⟨by dsimp only;omega,?_⟩,by dsimp only;omega⟩;dsimp only;rw[aO Q id,a6,<-qm];exact b1.rest.rest.rest
  ·have Z:id=j:=by omega
   subst Z;rw[qj (by omega)]at S;refine⟨(o2,i+1),by dsimp only;rw[ak _];rfl,⟨by dsimp only;omega,?_⟩,by dsimp only;omega⟩;dsimp only;rw[nQ,<-F,<-hQ];exact S.bh 8 [0,1,2,3,4]
 ·have Z:i=bl.length:=by omega
  subst Z;obtain⟨ys,H5⟩:=H4.WE 1 rfl fun _=>rfl;exact⟨o,ys,rfl,H5.bh 5 [0,1]⟩
end
end Go.Qw
namespace Wl
open Go
def iu(a:Nat)(l:List (Int×aQ))(k:Int):Int:=(a:Int)+(l.filter fun y=>decide (y.1=k)).length
end Wl
namespace Go.Qw
open Go Go.Vc Go.Proofs Wl
theorem PY(k:Int)(c d:Addr)(a:Nat)(r:Sl)(o:List (Int×Sl))(l:List (Int×aQ))(h:Heap)(B:a<=2^30)(E:l.length<=2^30)(s:bV h c 3 [vL vR a])(p:bV h d 94 [r])(u:mb jq 2 piv h r o l):
  ab vV 86 #[vL vR k,vN (some c),vN (some d)] h fun v h'=>v=vL vR (iu a l k)/\Sp h h' []:=by
 refine sf k c d ?_;unfold mf;have x:=u.1.len;have D:=u.2.1;refine⟨(a:Int),s.cell0 rfl,r,p.cell0 rfl,?_⟩;refine aA (fun i:Nat=>(iu a (l.take i) k,(i:Int))) (fun i h'=>i<=l.length/\Sp h h' []) (fun i=>l.length-i) 0 (by simp[iu]) ⟨by omega,Sp.refl h⟩ ?_;rintro i H ⟨G,t⟩;dsimp only;have w:(((l.take i).filter fun y=>decide (y.1=k)).length:Int)<=i:=by
  have:=zt (fun y:Int×aQ=>decide (y.1=k)) (l.take i);simp at this;omega
 refine aj (fun e=>?_) fun e=>?_
 ·have n:i<l.length:=by omega
  have m:=mb.up u t.ag;refine m.1.fF (g:=piv) i rfl (by omega) (o[i]'(by omega)) rfl ?_;refine t.alloc af rfl fun z F A=>?_;refine A.storeAll af 0 rfl rfl (piv (o[i]'(by omega))) rfl rfl rfl rfl fun h3 j=>?_;have j:Sp h h3 [ai z 137 (piv (o[i]'(by omega)))]:=j;have f:=Fix.row m n;have b:iu a (l.take (i+1)) k=iu a (l.take i) k+(if l[i].1=k then 1 else 0):=by
   unfold iu;rw[aO _ _ n,zf,qp,zu,List.filter_nil];split
   ·rename_i q;rw[if_pos (of_decide_eq_true q)];simp;omega
   ·rename_i q;rw[if_neg (by simpa using q)];simp
  refine⟨l[i].1,by rw[<-f.1];exact(j.box 0 rfl).cell0 rfl,bt (fun g=>?_) fun g=>?_⟩
  ·refine⟨i+1,?_,⟨by omega,.zip j.ag⟩,by omega⟩;rw[b,if_pos g,ak (iu a (l.take i) k+1) (by unfold iu;omega) (by unfold iu;omega),ak _];rfl
  ·refine⟨i+1,?_,⟨by omega,.zip j.ag⟩,by omega⟩;rw[b,if_neg g,Int.add_zero,ak _];rfl
 ·rw[qj (by omega)];exact⟨rfl,t⟩
def cF(m:aC)(offs:Int)(w:Pow)(ds:aR)(name:ByteArray)(b:aQ):Int×aC×Pow×aR:=
 if du m (fm w offs) ds name b.length≠0 then(du m (fm w offs) ds name b.length,m,w,ds)else
 match cy m.p m.next (splitB m.p b).length with
 |none=>(8,m,w,ds)
 |some t=>
  let live:=bB ds m.drives;let l:=cW m m.next t (splitB m.p b) live (splitB m.p b).length;let n:=fy m ⟨name,m.next,b.length,t⟩;let N:=iu (bc n).length l
  if eO m ds live N=false then(7,m,w,ds)else
  if(makes m N live w ds).1≠0 then((makes m N live w ds).1,m,(makes m N live w ds).2)else
  let a:=layAll l (makes m N live w ds).2.1 (makes m N live w ds).2.2
  if a.1≠0 then(a.1,m,a.2)else
  ((layAll (bA n live) a.2.1 a.2.2).1,if(layAll (bA n live) a.2.1 a.2.2).1=0 then n else m,(layAll (bA n live) a.2.1 a.2.2).2)
theorem py{m:aC}{d:Bool}{ds:aR}{name:ByteArray}{n:Nat}(h:du m d ds name n=0):
  d=false/\gH name=true/\m.aF.any (dQ name)=false/\¬(m.p.1*m.p.2.2*8<(n:Int)∨12<=m.aF.length)/\¬(bB ds m.drives=[]∨16777215<m.next∨2147483647<=m.seq):=by
 unfold du at h;split at h
 ·cases h
 ·rename_i c;split at h
  ·cases h
  ·rename_i a;split at h
   ·cases h
   ·rename_i h3;split at h
    ·cases h
    ·rename_i b;split at h
     ·cases h
     ·rename_i e;exact⟨by simpa using c,by simpa using a,by simpa using h3,b,e⟩
theorem Mh{m:aC}{b:aQ}(a:bC m.p=true)(h:¬m.p.1*m.p.2.2*8<(b.length:Int)):(splitB m.p b).length<=8:=by
 obtain⟨d,f,c⟩:=jK a;obtain⟨g,e,c3⟩:=jf a b.length;unfold splitB;rw[qC,zm];refine Nat.le_of_not_lt fun h8=>?_;have:=c3 8 (by omega);rw[<-c]at h;omega
theorem PZ{o:aB}(b:o≠[])(id:Nat):nG o id∈o:=by
 unfold nG NC;rw[if_neg (by rintro(h|h);exact b h;omega)];have c:0<o.length:=by cases o with|nil=>exact absurd rfl b|cons=>simp
 have a:((id:Int)%(o.length:Int)).toNat<o.length:=by
  have:=wK (id:Int) (show(0:Int)<o.length by omega);have:=yg (id:Int) (show(o.length:Int)≠0 by omega);omega
 rw[qg,qd a];exact qn a
theorem JW{m:aC}{o:Int}{c:aB}{bl:cu}{live:aB}(r:0<=o/\o<=16777215)(p:live≠[])(f:∀k∈live,0<=k/\k<64){n:Nat}(s:n<=8){y:Int×aQ}(e:y∈cW m o c bl live n):y.1∈live/\y.2.length<=64:=by
 unfold cW at e;obtain⟨i,j,e⟩:=zZ.1 e;have j:=qF.1 j;unfold jN at e;obtain⟨id,_,rfl⟩:=qH.1 e;refine⟨?_,?_⟩
 ·show nG _ _∈live;have d:eP o i live=nF ((8*o+i)%64).toNat live:=by unfold eP;rw[if_pos (by omega)]
  have b:∀a,a∈eP o i live↔a∈live/\0<=a/\a<64:=fun a=>by rw[d];exact GU _ _ _
  have g:eP o i live≠[]:=fun h=>by
   cases live with
   |nil=>exact p rfl
   |cons a l=>
    have:=(b a).2 ⟨qV,f a qV⟩;rw[h]at this;cases this
  exact((b _).1 (PZ g id)).1
 ·show(cB _).length<=64;unfold cB;split
  ·rename_i q;refine Nat.le_of_eq (jk (by decide) (by decide) ?_);have:=kS q;omega
  ·simp
theorem Uz{m:aC}{e:Wl.ca}(b:dB m)(g:m.aF.length<=11)(d:e.name.size<=2^30)(c:e.tries.length<=2^30):dB (fy m e):=by
 refine⟨b.dr,?_,fun f a=>?_⟩
 ·show((m.aF++[e]).mergeSort lB).length<=2^30;rw[wD];simp;omega
 ·have a:f∈(m.aF++[e]).mergeSort lB:=a;rcases qE.1 ((wx _ _).mem_iff.1 a)with h|h
  ·exact b.nm f h
  ·rw[qB.1 h];exact⟨d,c⟩
section
variable {B:ap} {h0 h:Heap} {As:List HP} {a pw:Addr} {offs:Int} {da:List aK} {w:Pow} {ds:aR}
theorem Se(x:bZ)(m:aC)(name:ByteArray)(s:Sl)(b:aQ)(hS:St B h0 As fun h=>Rd h s 1 av b)(d5:s.len<=s.cap)(hn:name.size<=2^40)(Z:dB m)(hp:bC m.p=true)(dd:0<=m.extra/\m.extra<=16)(c1:∀k∈m.drives,0<=k/\k<64)(d1:m.drives.length<=64)(d8:0<=m.seq)(a8:0<=m.next)(c6:b.length<=2^20)
  (H:aa B h0 h (bi bz a pw (aY x) offs da w ds::fa x m::As)):
  ab vV 42 #[vN (some a),vO name,s] h fun v h'=>v=vL vR (cF m offs w ds name b).1/\
   ∃y,aa B h0 h' (bi bz a pw (aY y) offs da (cF m offs w ds name b).2.2.1 (cF m offs w ds name b).2.2.2::fa y (cF m offs w ds name b).2.1::As):=by
 refine uV (some a) name s ?_;unfold nS;have a3:=(hS.at [_,_] H).len;refine(JQ x m name s b.length a3 hn (H.at 1 rfl) Z hp H).mono ?_;rintro _ h1 ⟨rfl,R1⟩;have H1:=H.up R1.ag;refine⟨_,rfl,cq (fun e=>?_) fun e1=>?_⟩
 ·have ep:cF m offs w ds name b=(du m (fm w offs) ds name b.length,m,w,ds):=by unfold cF;rw[if_pos e]
  rw[ep];exact⟨rfl,x,H1⟩
 obtain⟨z1,z2,z3,z4,z5⟩:=py e1;have dy:¬m.p.1*m.p.2.2*8<(b.length:Int):=fun h=>z4 (.inl h);have b2:m.aF.length<=11:=by have:¬12<=m.aF.length:=fun h=>z4 (.inr h);omega
 have d0:bB ds m.drives≠[]:=fun h=>z5 (.inl h);have cf:m.next<=16777215:=by have:¬16777215<m.next:=fun h=>z5 (.inr (.inl h));omega
 have ei:m.seq<=2147483646:=by have:¬2147483647<=m.seq:=fun h=>z5 (.inr (.inr h));omega
 have h8:=Mh hp dy;have ed:name.size<=12:=by unfold gH at z2;simp at z2;omega
 have d6:=(aa.cK H1).2;have a6:fk h1 x m:=H1.at 1 rfl;refine⟨a,rfl,x.2.1,d6.cell rfl,H1.alloc af rfl fun a4 h2 H2=>?_⟩;have H2:=H2.cn;refine H2.storeAll af 0 rfl rfl (bI (name,x.2.1,(s.len:Int),⟨none,0,0⟩)) rfl rfl rfl rfl fun h3 H3=>?_;have H3:aa B h0 h3 (ai a4 123 (bI (name,m.next,(b.length:Int),⟨none,0,0⟩))::bi bz a pw (aY x) offs da w ds::fa x m::As):=by rw[<-a6.next,<-a3];exact H3
 have cp:∀{h':Heap},bV h' a 90 (cT (aY x) pw offs da)->ah h' (a.add 2) 0 [vL vR m.p.1,vL vR m.p.2.1,vL vR m.p.2.2]:=fun{h'} hb=>by
  rw[<-a6.p];exact⟨by rw[addr_add];exact hb.cell rfl,by rw[addr_add];exact hb.cell rfl,by rw[addr_add];exact hb.cell rfl,trivial⟩
 obtain⟨L,P⟩:∃L,L=(splitB m.p b).length:=⟨_,rfl⟩
 have bk:countP m.p (s.len:Nat)=(L:Int):=by
  have:=(jf hp b.length).1;rw[P,a3];unfold splitB;rw[qC,zm];omega
 refine cg (fun(t:Sl×Bool) h'=>(cy m.p m.next L=none->t.2=false/\aa B h0 h' (bi bz a pw (aY x) offs da w ds::fa x m::As))/\(∀l,cy m.p m.next L=some l->t.2=true/\aa B h0 h' (ao 3 t.1 1 aG l::ai a4 123 (bI (name,m.next,(b.length:Int),⟨none,0,0⟩))::bi bz a pw (aY x) offs da w ds::fa x m::As))) ?_ ?_
 ·have c8:=H3.box 0 rfl;have V:=(aa.cK (H3.bh 3 [1,0,2])).2;refine⟨a,rfl,m.p,cp V,m.next,c8.cell rfl,a,rfl,m.p,cp V,(tW m.p s.len h3).mono ?_⟩;rintro _ h4 ⟨rfl,R4⟩;have H4:=H3.up R4.ag;have d4:=V.ag R4.ag V.lt;obtain⟨q1,q2,q3,_⟩:=cp d4;refine⟨_,rfl,⟨(H4.box 0 rfl).cell rfl,q1,q2,q3,trivial⟩,?_⟩;rw[bk];refine(Np m.p m.next L h4 (by omega)).mono ?_;rintro _ h5 ⟨T0,T1⟩;cases ht:cy m.p m.next L with
  |none=>
   obtain⟨rfl,R5⟩:=T0 ht;exact⟨(⟨none,0,0⟩,false),rfl,trivial,fun _=>⟨rfl,(H4.up R5.ag).bh 3 [1,2]⟩,fun l h=>by cases h⟩
  |some l=>
   obtain⟨r,rfl,R5⟩:=T1 l ht;exact⟨(r,true),rfl,trivial,fun h=>(by cases h),fun l' h=>(by injection h with h;subst h;exact⟨rfl,H4.cQ R5⟩)⟩
 rintro⟨j,tb⟩ h6 ⟨T0,T1⟩;dsimp only at T0 T1⊢;cases ht:cy m.p m.next L with
 |none=>
  obtain⟨rfl,H6⟩:=T0 ht;have ep:cF m offs w ds name b=(8,m,w,ds):=by
   unfold cF;rw[if_neg (by rw[e1];decide),<-P,ht]
  rw[ep];exact bf (fun _=>⟨rfl,x,H6⟩) fun e=>by cases e
 |some t=>
  obtain⟨rfl,H6⟩:=T1 t ht;refine bf (fun e=>by cases e) fun _=>?_;have ej:=gm ht;refine H6.store af 1 rfl rfl 3 [j] rfl rfl rfl (by simp) fun h7 H7=>?_;obtain⟨e,he⟩:∃e:Wl.ca,e=⟨name,m.next,b.length,t⟩:=⟨_,rfl⟩
  have H7:aa B h0 h7 (ao 3 j 1 aG e.tries::ai a4 123 (bI (name,m.next,(b.length:Int),j))::bi bz a pw (aY x) offs da w ds::fa x m::As):=by rw[he];exact H7
  have H7:=H7.bh 4 [2,3,0,1];have b6:St B h0 (fa x m::ao 3 j 1 aG e.tries::ai a4 123 (bI (name,m.next,(b.length:Int),j))::As) fun h=>fk h x m/\js kE h (name,m.next,(b.length:Int),j) e/\Rd h s 1 av b:=fun Bs h' i=>
   ⟨(St.il 0 rfl fun _ q=>q) Bs h' i,(St.il (A:=ao 3 j 1 aG e.tries) (Q:=fun h=>js kE h (name,m.next,(b.length:Int),j) e) 1 rfl fun h' q=>⟨by rw[he];exact⟨rfl,rfl,rfl⟩,q.1.seq (fun _=>rfl) q.2⟩) Bs h' i,(hS.cons.cons.cons) Bs h' i⟩
  refine⟨(name,m.next,(b.length:Int),j),(H7.box 3 rfl).aI _ rfl,?_⟩;refine(HC x m (name,m.next,(b.length:Int),j) e s b b6 d5 Z hp dd c6 (by rw[he,<-P];exact ht) H7).mono ?_;rintro _ e2 ⟨r,ys,rfl,H8⟩;obtain⟨live,c⟩:∃live,live=bB ds m.drives:=⟨_,rfl⟩
  obtain⟨l,hl⟩:∃l,l=cW m m.next t (splitB m.p b) live L:=⟨_,rfl⟩
  have c0:cW m e.object e.tries (splitB m.p b) (bB ds m.drives) (splitB m.p b).length=l:=by rw[hl,he,<-c,<-P]
  rw[c0]at H8;refine⟨(r,true),rfl,H8.alloc af rfl fun f h9 H9=>?_⟩;have H9:=H9.cn;refine H9.storeAll af 0 rfl rfl [r] rfl rfl rfl rfl fun ay o=>?_;refine bf (fun e=>by cases e) fun _=>?_;obtain⟨n,X⟩:∃n,n=fy m e:=⟨_,rfl⟩
  have o:aa B h0 ay (ai f 94 [r]::bi bz a pw (aY x) offs da w ds::dX jq 2 piv r ys l::fa x m::ao 3 j 1 aG e.tries::ai a4 123 (bI (name,m.next,(b.length:Int),j))::As):=o;have o:aa B h0 ay (oG j 1 aG e.tries::bi bz a pw (aY x) offs da w ds::fa x m::dX jq 2 piv r ys l::ai f 94 [r]::ai a4 123 (bI (name,m.next,(b.length:Int),j))::As):=(o.freeze 4 rfl fun _=>rfl).bh 6 [4,1,3,2,0,5];have d3:((name,m.next,(b.length:Int),j):dt).1=e.name/\((name,m.next,(b.length:Int),j):dt).2.1=e.object/\((name,m.next,(b.length:Int),j):dt).2.2.1=e.length:=by rw[he];exact⟨rfl,rfl,rfl⟩
  have O:∀{h':Heap} {Cs:List HP},aa B h0 h' (oG j 1 aG e.tries::Cs)->fk h' x m->ab vV 85 #[fP x,JO (name,m.next,(b.length:Int),j)] h' fun v dx=>∃y:bZ,v=fP y/\aa B h0 dx (fa y n::Cs):=fun{h' Cs} i hx'=>by
   rw[X];exact PQ x m _ e hx' Z ⟨d8,by omega⟩ ⟨a8,by omega⟩ b2 d3 i
  have M:=(aa.cK (o.bh 2 [1,0])).2;have K:=o.box 5 rfl;have a9:fk ay x m:=o.at 2 rfl;refine cg (fun(t:Addr×Sl) h'=>∃y,aa B h0 h' (bi bz a pw (aY x) offs da w ds::fa x m::dX jq 2 piv r ys l::ai f 94 [r]::ai t.1 88 (aY y)::fa y n::ao 3 t.2 1 aG live::As)) ?_ ?_
  ·refine⟨a,rfl,x,M.aI _ rfl,(name,m.next,(b.length:Int),j),K.aI _ rfl,?_,?_⟩
   ·refine(O o a9).mono ?_;rintro _ el ⟨y,rfl,G⟩;have G:=G.bh 6 [1,2,3,4,0];refine⟨y,rfl,trivial,?_,?_⟩
    ·refine(fI x m (G.at 1 rfl) Z G).mono ?_;rintro _ e5 ⟨I,rfl,bl⟩;rw[<-c]at bl;have cs:=G.cQ bl;refine⟨I,rfl,trivial,cs.alloc af rfl fun e0 ec a1=>⟨trivial,?_⟩⟩;have a1:=a1.cn;refine a1.storeAll af 0 rfl rfl (aY y) rfl rfl rfl rfl fun ew b7=>⟨trivial,y,?_⟩
     exact b7.bh 7 [2,3,4,5,0,6,1]
    ·refine G.alloc af rfl fun a22 er Y=>⟨trivial,?_⟩
     have Y:=Y.cn;have al:=Y.bh 6 [1,2,3,4,5,0];refine(fI x m (al.at 1 rfl) Z al).mono ?_;rintro _ eh ⟨I,rfl,b0⟩;rw[<-c]at b0;have c5:=(Y.cQ b0).bh 2 [1,0];refine⟨I,rfl,trivial,c5.storeAll af 0 rfl rfl (aY y) rfl rfl rfl rfl fun en c4=>⟨trivial,y,?_⟩⟩;exact c4.bh 7 [2,3,4,5,0,6,1]
   ·refine o.rU af rfl fun e3 et bb U=>?_;have d:=M.ag bb M.lt;have F:=K.ag bb K.lt;refine⟨⟨F.cell0 rfl,F.cell rfl,F.cell rfl,F.cell rfl,d.cell0 rfl,d.cell rfl,d.cell rfl,d.cell rfl,d.cell rfl,d.cell rfl,d.cell rfl,d.cell rfl,trivial⟩,?_⟩;have U:=(U.cn).bh 7 [1,0,2,3,4,5];refine(O U (U.at 3 rfl)).mono ?_;rintro _ es ⟨y,rfl,b9⟩;have J:=b9.bh 6 [2,3,4,5,0,1];refine⟨y,rfl,trivial,(fI x m (J.at 1 rfl) Z J).mono ?_⟩;rintro _ ek ⟨I,rfl,bd⟩;rw[<-c]at bd;have c7:=(J.cQ bd).bh 7 [6,0,1,2,3,4,5];refine⟨I,rfl,trivial,c7.storeAll af 0 rfl rfl (aY y) rfl rfl rfl rfl fun e4 cc=>⟨trivial,y,?_⟩⟩;exact cc.bh 7 [2,3,4,5,0,6,1]
  rintro⟨am,I⟩ dk ⟨y,W⟩;dsimp only at W⊢;have a2:dB n:=by rw[X];exact Uz Z b2 (by rw[he];show name.size<=2^30;omega) (by rw[he];show t.length<=2^30;omega)
  have d9:n.drives=m.drives:=by rw[X];rfl
  have e8:live.length<=64:=by rw[c];exact zh (zt _ _) d1
  have u:∀k∈live,0<=k/\k<64:=fun k hk=>by rw[c]at hk;exact c1 k (q6.1 hk).1
  have b3:(m.p.1+m.extra).toNat<=32:=by have:=(bS m.p).1 hp;omega
  have e7:l.length<=256:=by
   rw[hl,px];exact wE (show L<=8 by omega) b3
  have c2:∀z∈l,(0<=z.1/\z.1<64)/\z.2.length<=2^20:=fun z b1=>by
   rw[hl]at b1;obtain⟨p1,p2⟩:=JW (m:=m) ⟨a8,cf⟩ (by rw[c];exact d0) u (show L<=8 by omega) b1;exact⟨u _ p1,zh p2 (by decide)⟩
  refine⟨y,(W.box 4 rfl).aI _ rfl,(oq y n dk (W.at 5 rfl) a2).mono ?_⟩;rintro _ eg ⟨pg,rfl,br⟩;have ax:=(aa.tc br).1;have bs:=jJ n a2;obtain⟨pn,b5⟩:∃pn,pn=(bc n).length:=⟨_,rfl⟩
  rw[<-b5]at ax bs;have cd:=W.up br.ag;refine⟨pg,rfl,cd.alloc af rfl fun D eb a5=>?_⟩;have a5:=a5.cn;refine a5.storeAll af 0 rfl rfl [vL vR (pg.len:Int)] rfl rfl rfl rfl fun d7 E=>?_;rw[ax]at E;have E:aa B h0 d7 (bi bz a pw (aY x) offs da w ds::fa x m::dX jq 2 piv r ys l::ai f 94 [r]::ai am 88 (aY y)::fa y n::ao 3 I 1 aG live::ai D 3 [vL vR (pn:Int)]::As):=E.bh 8 [1,2,3,4,5,6,7,0];obtain⟨N,hN⟩:∃N,N=iu pn l:=⟨_,rfl⟩
  obtain⟨T,R⟩:∃T,T=fa x m::dX jq 2 piv r ys l::ai f 94 [r]::ai am 88 (aY y)::fa y n::ao 3 I 1 aG live::ai D 3 [vL vR (pn:Int)]::As:=⟨_,rfl⟩
  have tX:St B h0 T fun h=>fk h x m:=by rw[R];exact St.il 0 rfl fun _ q=>q
  have tF:St B h0 T fun h=>mb jq 2 piv h r ys l:=by rw[R];exact St.il 1 rfl fun _ q=>q
  have tB:St B h0 T fun h=>bV h f 94 [r]:=by rw[R];exact St.il (A:=ai f 94 [r]) 2 rfl fun _ q=>q.1
  have tM:St B h0 T fun h=>bV h am 88 (aY y):=by rw[R];exact St.il (A:=ai am 88 (aY y)) 3 rfl fun _ q=>q.1
  have tY:St B h0 T fun h=>fk h y n:=by rw[R];exact St.il 4 rfl fun _ q=>q
  have tL:St B h0 T fun h=>Rd h I 1 aG live:=by rw[R];exact St.il (A:=ao 3 I 1 aG live) 5 rfl fun _ q=>q.1.seq (fun _=>rfl) q.2
  have tN:St B h0 T fun h=>bV h D 3 [vL vR (pn:Int)]:=by rw[R];exact St.il (A:=ai D 3 [vL vR (pn:Int)]) 6 rfl fun _ q=>q.1
  have tT:St B h0 T fun h=>Nt 86 #[] #[vN (some D),vN (some f)] N live h:=fun Bs h' i k hk=>by
   rw[hN];exact PY k D f pn r ys l h' (by omega) (by omega) (tN Bs h' i) (tB Bs h' i) (tF Bs h' i)
  have fin:∀{h':Heap} {z:bZ} {w':Pow} {a0:aR},aa B h0 h' (bi bz a pw (aY x) offs da w' a0::T)->aa B h0 h' (bi bz a pw (aY x) offs da w' a0::fa x m::As):=fun{h' z w' a0} i=>by
   rw[R]at i;exact i.bh 8 [0,1]
  rw[<-R]at E;have ep:cF m offs w ds name b=(if eO m ds live N=false then(7,m,w,ds)else if(makes m N live w ds).1≠0 then((makes m N live w ds).1,m,(makes m N live w ds).2)else
    if(layAll l (makes m N live w ds).2.1 (makes m N live w ds).2.2).1≠0 then((layAll l (makes m N live w ds).2.1 (makes m N live w ds).2.2).1,m,(layAll l (makes m N live w ds).2.1 (makes m N live w ds).2.2).2)else
    ((layAll (bA n live) (layAll l (makes m N live w ds).2.1 (makes m N live w ds).2.2).2.1 (layAll l (makes m N live w ds).2.1 (makes m N live w ds).2.2).2.2).1,if(layAll (bA n live) (layAll l (makes m N live w ds).2.1 (makes m N live w ds).2.2).2.1 (layAll l (makes m N live w ds).2.1 (makes m N live w ds).2.2).2.2).1=0 then n else m,(layAll (bA n live) (layAll l (makes m N live w ds).2.1 (makes m N live w ds).2.2).2.1 (layAll l (makes m N live w ds).2.1 (makes m N live w ds).2.2).2.2).2)):=by
   rw[hN,b5,hl,X,he,c];unfold cF;rw[if_neg (by rw[e1];decide),<-P,ht]
  rw[ep];refine(Nu 86 #[] #[vN (some D),vN (some f)] N x m I live (by rfl) (fun Bs h' i=>⟨tX Bs h' i,tT Bs h' i⟩) Z (tL.at [_] E) (by omega) u E).mono ?_;rintro _ eo ⟨rfl,c9⟩;have a7:=E.up c9.ag;refine⟨_,rfl,bf (fun g=>?_) fun g=>?_⟩
  ·rw[if_pos g];exact⟨rfl,x,fin (z:=x) a7⟩
  rw[if_neg (by rw[g];decide)];refine(Nw 86 #[] #[vN (some D),vN (some f)] N x m I live (by rfl) (fun Bs h' i=>⟨tX Bs h' i,tT Bs h' i,tL Bs h' i⟩) Z (by omega) u a7).mono ?_;rintro _ ef ⟨rfl,S⟩;obtain⟨m1,d2⟩:∃m1,m1=makes m N live w ds:=⟨_,rfl⟩
  rw[<-d2]at S⊢;refine⟨_,rfl,cq (fun g2=>?_) fun g2=>?_⟩
  ·rw[if_pos g2];exact⟨rfl,x,fin (z:=x) S⟩
  rw[if_neg (by simpa using g2)];refine⟨r,(tB.at [_] S).cell0 rfl,(yo r ys l tF (by omega) c2 S).mono ?_⟩;rintro _ e6 ⟨rfl,ad⟩;obtain⟨r2,dr⟩:∃r2,r2=layAll l m1.2.1 m1.2.2:=⟨_,rfl⟩
  rw[<-dr]at ad⊢;refine⟨_,rfl,cq (fun g3=>?_) fun g3=>?_⟩
  ·rw[if_pos g3];exact⟨rfl,x,fin (z:=x) ad⟩
  rw[if_neg (by simpa using g3)];refine⟨y,(tM.at [_] ad).aI _ rfl,(Nz x y n I live (fun Bs h' i=>⟨tY Bs h' i,tL Bs h' i⟩) a2 (by omega) u ad).mono ?_⟩;rintro _ eq ⟨rfl,Q1,Q0⟩;refine⟨_,rfl,rfl,?_⟩;by_cases g4:(layAll (bA n live) r2.2.1 r2.2.2).1=0
  ·obtain⟨y2,b4⟩:=Q0 g4;rw[if_pos g4];rw[R]at b4;exact⟨y2,b4.bh 9 [0,1]⟩
  ·rw[if_neg g4];exact⟨x,fin (z:=x) (Q1 g4)⟩
end
theorem ND(n:Nat)(x:Int)(h:Heap)(m:n<=2^30):ab vV 7 #[vL vR n,vL vR x] h fun v h'=>∃(r:Sl) (l:aQ),v=r/\l.length=n/\Sp h h' [ao 5 r 1 av l]:=by
 refine pD n x ?_;unfold kT;refine aA (fun t:Sl×Nat×aQ=>(t.1,(t.2.1:Int))) (fun t h'=>t.2.1<=n/\t.2.2.length=t.2.1/\Sp h h' [ao 5 t.1 1 av t.2.2]) (fun t=>n-t.2.1) (⟨none,0,0⟩,0,[]) rfl ⟨by simp,rfl,(Sp.refl h).nil 5 1 av⟩ ?_;rintro⟨o,i,l⟩ p ⟨k,f,a⟩;dsimp only at*;refine aj (fun e=>?_) fun e=>?_
 ·have g:i<n:=by omega
  refine⟨by decide,Int.tmod_nonneg _ (by omega),?_⟩;rw[bX];generalize b8 (qc vR _)=c;refine a.push af 0 rfl fv rfl (by decide) (fun _=>rfl) dN c rfl (by decide) (by omega) fun b j d=>?_;refine⟨(b,i+1,l++[c]),by dsimp only;rw[ak _];rfl,⟨by dsimp only;omega,?_,d⟩,by dsimp only;omega⟩;simp[f]
 ·exact⟨o,l,rfl,by omega,a⟩
end Go.Qw
namespace Go.Vc
open Go Wl Go.Qw
section
variable {α:Type} {B:ap} {h0 h:Heap} {As:List HP} {k:Nat} {f:α->aM} {L M:List (Sl×List α)}
end
end Go.Vc
namespace Wl
open Go
def Qa(m:aC)(o b:Int)(l:cu):List (Int×aQ):=((gU m l).filter fun r=>decide (r.object=o)&&decide (r.block=b)).map fun r=>(r.id,r.data)
def EC(m:aC)(ds:aR)(o b:Int)(k:Int):List (Int×aQ):=match bF ds k with|some d=>Qa m o b d.l|none=>[]
def ui(m:aC)(ds:aR)(a:aB)(o b:Int):List (Int×aQ):=a.flatMap (EC m ds o b)
end Wl
namespace Go.Qw
open Go Go.Vc Go.Proofs Wl
section
variable {B:ap} {h0 h:Heap} {As:List HP} {a pw:Addr} {offs:Int} {da:List aK} {w:Pow} {ds:aR} {mc:aM}
end
end Go.Qw
namespace Wl
open Go
end Wl
namespace Go.Qw
open Go Go.Vc Go.Proofs Wl
section
variable {B:ap} {h0 h:Heap} {As:List HP} {a pw:Addr} {offs:Int} {da:List aK} {w:Pow} {ds:aR}
end
end Go.Qw
namespace Wl
open Go
def Pow.calm(w:Pow):Prop:=w.off=false/\w.fuse=none
theorem JX:Pow.new.calm:=⟨rfl,rfl⟩
theorem nH{w:Pow}(h:w.calm):w.step=(true,w):=by unfold Pow.step;rw[if_neg (by simp[h.1]),h.2]
theorem BO{w:Pow}(h:w.calm)(ds:aR)(x:Int)(b:aQ):(dm w ds x b).2.1=w:=by
 unfold dm;cases bF ds x with
 |none=>rfl
 |some d=>
  dsimp only;unfold bj.append;split
  ·rfl
  ·split
   ·rfl
   ·split
    ·rfl
    ·split
     ·rfl
     ·rw[nH h];rfl
theorem GV{w:Pow}(h:w.calm)(ds:aR)(x:Int):(eK w ds x).2.1=w:=by
 unfold eK;cases bF ds x with
 |none=>rfl
 |some d=>
  dsimp only;unfold bj.sync;split
  ·rfl
  ·rw[nH h];rfl
theorem lS{w:Pow}(h:w.calm):∀(l:List (Int×aQ)) (ds:aR),(iw l w ds).2.1=w
 |[],_=>rfl
 |x::l,ds=>by
  rw[oK,BO h];split
  ·exact lS h l _
  ·exact BO h _ _ _
theorem ED{w:Pow}(h:w.calm):∀(l:aB) (ds:aR),(ip l w ds).2.1=w
 |[],_=>rfl
 |x::l,ds=>by
  rw[td,GV h];split
  ·exact ED h l _
  ·exact GV h _ _
theorem Sf{w:Pow}(h:w.calm)(l:List (Int×aQ))(ds:aR):(layAll l w ds).2.1=w:=by
 unfold layAll;dsimp only;rw[lS h];split
 ·exact ED h _ _
 ·exact lS h _ _
theorem Lt{w:Pow}{d:bj}{n:Nat}{b:aQ}(h:w.calm)(a:d.lost=false)(c:d.l.length+(n+1)<=d.room)(e:b.length=64):d.append w b=(0,w,{d with l:=d.l++[b],wait:=d.wait+1,laid:=[],has:=false}):=by
 unfold bj.append;rw[if_neg (by omega),if_neg (by simp[a]),if_neg (by omega),if_neg (by simp[h.1]),nH h];rfl
theorem Qb{w:Pow}{d:bj}(h:w.calm)(a:d.lost=false):d.sync w=(0,w,{d with wait:=0,laid:=[],has:=false}):=by
 unfold bj.sync;rw[if_neg (by simp[a]),nH h];rfl
theorem VR{ds:aR}{s:Int}{d:bj}(h:bF ds s=some d):0<=s/\s<64:=by
 obtain⟨n,rfl,a⟩:=gZ h;omega
def EE(ds:aR)(P:List (Int×aQ))(s:Int):Option bj:=
 (bF ds s).map fun d=>{d with l:=d.l++(P.filter (fun x=>decide (x.1=s))).map zF,wait:=d.wait+(P.filter (fun x=>decide (x.1=s))).length,laid:=if(P.filter (fun x=>decide (x.1=s))).isEmpty then d.laid else[],has:=if(P.filter (fun x=>decide (x.1=s))).isEmpty then d.has else false}
theorem Ai{w:Pow}(h:w.calm){S:aB}:∀(P:List (Int×aQ)) (ds:aR),Fit ds S (P.map qP)->(∀x∈P,x.1∈S/\x.2.length=64)->
  (iw P w ds).1=0/\Fit (iw P w ds).2.2 S []/\∀s,bF (iw P w ds).2.2 s=EE ds P s
 |[],ds,F,_=>⟨rfl,F,fun s=>by unfold EE;show bF ds s=_;cases bF ds s<;>simp⟩
 |x::P,ds,F,hP=>by
  obtain⟨d,f,q,m⟩:=F.at_ x.1 (hP x (qV ..)).1;rw[zS,List.count_cons_self]at m;have i:=(hP x (qV ..)).2;obtain⟨n,j,a⟩:=gZ f;have c:=Lt (n:=(P.map qP).count x.1) h q (by omega) i;have e:dm w ds x.1 x.2=(0,w,eV ds x.1 {d with l:=d.l++[x.2],wait:=d.wait+1,laid:=[],has:=false}):=by
   unfold dm;rw[f];dsimp only;rw[c]
  obtain⟨_,g⟩:=HA w x.2 (x:=x.1) (Q:=P.map qP) F (hP x (qV ..)).1 i;rw[oK,e];rw[e]at g;dsimp only at g⊢;rw[if_pos rfl];obtain⟨p,k,a3⟩:=Ai h P _ g fun y r=>hP y (zj _ r);refine⟨p,k,fun s=>?_⟩;rw[a3 s];unfold EE;rw[j,oA _ _ _ _ a F.len,<-j];by_cases b:s=x.1
  ·rw[if_pos b,b,f];simp only[qK,zu,decide_true,if_true,zS,zc,qm,List.singleton_append,List.isEmpty_cons,Bool.false_eq_true,if_false];congr 1;simp only[bj.mk.injEq,true_and,and_true];refine⟨by omega,?_,?_⟩<;>split<;>rfl
  ·rw[if_neg b];simp only[zu,decide_eq_true_eq,if_neg (show¬x.1=s from fun o=>b o.symm)]
theorem EF{w:Pow}(h:w.calm){S:aB}:∀(l:aB) (ds:aR),Fit ds S []->(∀x∈l,x∈S)->
  (ip l w ds).1=0/\Fit (ip l w ds).2.2 S []/\∀s,bF (ip l w ds).2.2 s=(bF ds s).map fun d=>if s∈l then{d with wait:=0,laid:=[],has:=false}else d
 |[],ds,F,_=>⟨rfl,F,fun s=>by show bF ds s=_;cases bF ds s<;>simp⟩
 |x::l,ds,F,hl=>by
  obtain⟨d,b,k,o⟩:=F.at_ x (hl x (qV ..));obtain⟨n,g,a⟩:=gZ b;have e:eK w ds x=(0,w,eV ds x {d with wait:=0,laid:=[],has:=false}):=by
   unfold eK;rw[b];dsimp only;rw[Qb h k]
  obtain⟨_,f⟩:=Lm w F (hl x (qV ..));rw[td,e];rw[e]at f;dsimp only at f⊢;rw[if_pos rfl];obtain⟨j,i,a3⟩:=EF h l _ f fun y m=>hl y (zj _ m);refine⟨j,i,fun s=>?_⟩;rw[a3 s,g,oA _ _ _ _ a F.len,<-g];by_cases c:s=x
  ·subst c;rw[if_pos rfl,b];simp only[qK,zl,true_or,if_true];congr 1;split<;>rfl
  ·rw[if_neg c];cases bF ds s with
   |none=>rfl
   |some d'=>simp[c]
end Wl
namespace Go.Qw
open Go Go.Vc Go.Proofs Wl
section
variable {B:ap} {h0 h h':Heap} {As:List HP} {a:Addr} {w:Pow}
end
section
variable {B:ap} {h0 h h':Heap} {As:List HP} {a pw:Addr} {d:bj} {w:Pow}
end
theorem Qc(b:Sl)(l:aQ)(h:Heap)(q:Rd h b 1 av l)(D:l.length<=2^40):ab vV 129 #[b] h fun v h'=>v=vL vT (gT l).toNat/\h'=h:=by
 refine pI b ?_;unfold kY;have B:=q.len;refine aA (fun t:Nat=>(((fK (l.take t)).toNat:Int),(t:Int))) (fun t h'=>t<=l.length/\h'=h) (fun t=>l.length-t) 0 rfl ⟨by omega,rfl⟩ ?_;rintro i y ⟨F,rfl⟩;refine aj (fun e=>?_) (fun e=>?_)
 ·have d:i<l.length:=by
   have r:(i:Int)<(b.len:Int):=e;omega
  refine q.cA i rfl d (l[i].toNat:Int) rfl ?_;have z:qc vT (l[i].toNat:Int)=((zC 32 l[i].toNat).toNat:Int):=by rw[Gg,BitVec.ofInt_natCast]
  rw[z,AM];refine aA (fun k:Nat=>(((cG k (fK (l.take i)^^^zC 32 l[i].toNat)).toNat:Int),(k:Int))) (fun k h'=>k<=8/\h'=y) (fun k=>8-k) 0 rfl ⟨by omega,rfl⟩ ?_;rintro k p ⟨E,rfl⟩;obtain⟨c,o⟩:∃c,c=cG k (fK (l.take i)^^^zC 32 l[i].toNat):=⟨_,rfl⟩
  dsimp only;rw[<-o];refine aj (fun u=>?_) (fun u=>?_)
  ·have a:∀n:ga,n=fD c->∃f:Nat,(((n.toNat:Nat):Int),qc vR ((k:Int)+1))=(((cG f (fK (l.take i)^^^zC 32 l[i].toNat)).toNat:Int),(f:Int))/\(f<=8/\p=p)/\8-f<8-k:=fun n x=>
    ⟨k+1,by rw[ak _,x,o];rfl,⟨by omega,rfl⟩,by omega⟩
   have s:qc vT ((qq (qf vT) (c.toNat:Int)&&&qq (qf vT) (1:Int)).toNat:Nat)=((c&&&1#32).toNat:Int):=SP c 1#32;have A:qc vT ((qq (qf vT) ((c>>>1).toNat:Int)^^^qq (qf vT) (3988292384:Int)).toNat:Nat)=(((c>>>1)^^^3988292384#32).toNat:Int):=AM (c>>>1) 3988292384#32;rw[s,LO,A];refine bt (fun g=>⟨by decide,a _ ?_⟩) (fun g=>⟨by decide,a _ ?_⟩)
   ·unfold fD;rw[if_pos ((AN c).1 g)]
   ·unfold fD;rw[if_neg (fun w=>g ((AN c).2 w))]
  ·have j:k=8:=by omega
   subst j;refine⟨i+1,?_,⟨by omega,rfl⟩,by omega⟩;rw[ak _,aO _ _ d,Dr,o];rfl
 ·have m:i=l.length:=by
   have r:¬(i:Int)<(b.len:Int):=e;omega
  subst m;refine⟨?_,rfl⟩;rw[za];exact congrArg (Value.int .u32) (AM 4294967295#32 (fK l))
theorem NE(n:Int)(k t:Nat)(a:t<k):(bm n k).take t++[b8 (qD n (2^(8*(k-1-t))))]=(bm n k).take (t+1):=by
 rw[aO _ _ (by rw[bq];exact a)];congr 2;simp[bm]
section
variable {B:ap} {h0 h h':Heap} {As:List HP}
theorem ou(s:Sl)(l:aQ)(n:Int)(k:Nat)(p:k<=4)(m:l.length<=2^30)(H:aa B h0 h (ao 5 s 1 av l::As)):
  ab vV 76 #[s,vL vR n,vL vR k] h fun v h'=>∃r:Sl,v=r/\aa B h0 h' (ao 5 r 1 av (l++bm n k)::As):=by
 refine oX s n k ?_;unfold kB;rw[ak ((k:Int)-1)];refine aA (fun t:Sl×Nat=>(t.1,(k:Int)-1-t.2)) (fun t h'=>t.2<=k/\aa B h0 h' (ao 5 t.1 1 av (l++(bm n k).take t.2)::As)) (fun t=>k-t.2) (s,0) (by simp) ⟨by simp,by simpa using H⟩ ?_;rintro⟨r,t⟩ q ⟨j,b⟩;dsimp only at*;refine aj (fun e=>?_) (fun e=>?_)
 ·have a:t<k:=by omega
  have i:qc vR ((8:Int)*((k:Int)-1-t))=((8*(k-1-t):Nat):Int):=by
   rw[ak _];omega
  rw[i,qo];have f:min (8*(k-1-t)) (qf vR)=8*(k-1-t):=by
   have:qf vR=64:=rfl;omega
  rw[f,bX];refine⟨by omega,?_⟩;refine b.push af 0 rfl fv rfl (by decide) (fun _=>rfl) dN (b8 (qD n (2^(8*(k-1-t))))) rfl (by decide) (by simp[bq];omega) fun g o c=>?_;refine⟨(g,t+1),?_,⟨by dsimp only;omega,?_⟩,by dsimp only;omega⟩
  ·dsimp only;have d:qc vR ((k:Int)-1-t-1)=(k:Int)-1-((t+1:Nat):Int):=by
    rw[ak _];omega
   rw[d]
  ·dsimp only;rw[<-NE n k t a,<-qm];exact c
 ·have:t=k:=by omega
  subst this;rw[qj (by rw[bq];omega)]at b;exact⟨r,rfl,b⟩
end
theorem GW(kind:Int)(a:Sl)(l:aQ)(h:Heap)(u:Rd h a 1 av l)(N:l.length<=2^40:=by omega):ab vV 74 #[vL vR kind,a] h fun v h'=>∃r:Sl,v=r/\Sp h h' [ao 5 r 1 av (cb kind l)]:=by
 refine nt kind a ?_;unfold ju;have K:=u.len;have b:¬(1<=kind/\kind<=255/\l.length<=55)->∃r:Sl,Value.slice none 0 0=vM r.ptr r.len r.cap/\Sp h h [ao 5 r 1 av (cb kind l)]:=fun e=>by
  unfold cb;rw[if_neg e];exact⟨⟨none,0,0⟩,rfl,(Sp.refl h).nil 5 1 av⟩
 refine aP (aj (fun e=>b (by omega)) fun O=>aj (fun e=>b (by omega)) fun M=>aj (fun e=>b (by omega)) fun L=>?_);rw[bX];refine(Sp.refl h).lit af av fv rfl [87,115,1,b8 kind] rfl (show 4*1<=2^20 by decide) rfl fun v3 h3 q=>?_;refine q.append af 0 rfl fv ⟨_,_,rfl,rfl⟩ rfl (by decide) (fun _=>rfl) (Seq.up u q.ag) dN (by simp;omega) fun s F n=>?_;have n:Sp h F [ao 5 s 1 av ([87,115,1,b8 kind]++l)]:=n;refine aA (fun t:Sl×Nat=>t.1) (fun t h'=>t.2<=55-l.length/\Sp h h' [ao 5 t.1 1 av ([87,115,1,b8 kind]++l++qi t.2 0)]) (fun t=>55-l.length-t.2) (s,0) rfl ⟨by simp,by simpa using n⟩ ?_;rintro⟨E,j⟩ A ⟨I,d⟩;dsimp only at*;have o:=(d.own 0 rfl).len;simp only[qp,zc,wZ,yd]at o;refine aj (fun e=>?_) (fun e=>?_)
 ·refine d.push af 0 rfl fv rfl (by decide) (fun _=>rfl) dN 0 rfl (by decide) (by simp;omega) fun H y B=>?_;refine⟨(H,j+1),rfl,⟨by dsimp only;omega,?_⟩,by dsimp only;omega⟩;dsimp only;rw[List.replicate_succ',<-qm];exact B
 ·have i:j=55-l.length:=by omega
  subst i;have D:[87,115,1,b8 kind]++l++qi (55-l.length) 0=ci kind l:=rfl;rw[D]at d;have k:(ci kind l).length=59:=lu (by omega);refine(Qc E (ci kind l) A (d.seq 0 rfl fun _=>rfl) (by omega)).mono ?_;rintro _ y ⟨rfl,rfl⟩;obtain⟨c,x⟩:∃c,c=gT (ci kind l):=⟨_,rfl⟩
  rw[<-x];refine⟨_,rfl,by decide,by decide,by decide,?_⟩;have z:min (8:Int).toNat (qf vT)=8:=rfl;have g:min (16:Int).toNat (qf vT)=16:=rfl;have f:min (24:Int).toNat (qf vT)=24:=rfl;rw[z,g,f,bX,bX,bX,bX];refine d.lit af av fv rfl [b8 (c.toNat:Int),b8 (qD (c.toNat:Int) (2^8)),b8 (qD (c.toNat:Int) (2^16)),b8 (qD (c.toNat:Int) (2^24)),165] rfl (show 5*1<=2^20 by decide) rfl fun J P p=>?_;refine p.append af 0 rfl fv ⟨_,_,rfl,rfl⟩ rfl (by decide) (fun _=>rfl) (p.seq 1 rfl fun _=>rfl) dN (by simp[k]) fun G h8 w=>⟨G,rfl,?_⟩
  have m:ci kind l++[b8 (c.toNat:Int),b8 (qD (c.toNat:Int) (2^8)),b8 (qD (c.toNat:Int) (2^16)),b8 (qD (c.toNat:Int) (2^24)),165]=cb kind l:=by
   unfold cb;rw[if_pos ⟨by omega,by omega,by omega⟩,<-x];simp[hJ,zx]
  rw[m]at w;exact w.cL [0]
theorem BP(p:Pm)(h:Heap):ab vV 31 #[jH p] h fun v h'=>v=vP (bC p)/\Sp h h' []:=by
 refine pE p ?_;unfold kU;refine(Sp.refl h).boxed fun a d f=>?_;have e:=f.box 0 rfl;have c:Sp h d []:=.zip f.ag;have g:cellOf d a=some (vL vR p.1):=e.cell0 rfl;have j:cellOf d (a.add 1)=some (vL vR p.2.1):=e.cell rfl;have i:cellOf d (a.add 2)=some (vL vR p.2.2):=e.cell rfl;unfold bC;refine⟨_,g,aj (fun b=>?_) (fun b=>⟨by rw[decide_eq_false b];rfl,c⟩)⟩;rw[decide_eq_true b];refine⟨_,g,aj (fun b=>?_) (fun b=>⟨by rw[decide_eq_false b];rfl,c⟩)⟩;rw[decide_eq_true b];refine⟨_,j,aj (fun b=>?_) (fun b=>⟨by rw[decide_eq_false b];rfl,c⟩)⟩;rw[decide_eq_true b];refine⟨_,j,aj (fun b=>?_) (fun b=>⟨by rw[decide_eq_false b];rfl,c⟩)⟩;rw[decide_eq_true b];refine⟨_,i,aj (fun b=>?_) (fun b=>⟨by rw[decide_eq_false b];rfl,c⟩)⟩;rw[decide_eq_true b];exact⟨_,i,rfl,c⟩
end Go.Qw
namespace Wl
open Go
end Wl
namespace Go.Qw
open Go Go.Vc Go.Proofs Wl
end Go.Qw
namespace Wl
open Go
end Wl
namespace Go.Qw
open Go Go.Vc Go.Proofs Wl
end Go.Qw
namespace Wl
open Go
def Has(ds:aR)(S:aB):Prop:=ds.length=64/\∀s∈S,∃d,bF ds s=some d
theorem Has.set{ds:aR}{S:aB}{n:Nat}{d:bj}(F:Has ds S)(a:n<64):Has (eV ds (n:Int) d) S:=by
 refine⟨by unfold eV;rw[qZ];exact F.1,fun s b=>?_⟩;rw[oA _ _ _ _ a F.1];by_cases h:s=(n:Int)
 ·rw[if_pos h];exact⟨_,rfl⟩
 ·rw[if_neg h];exact F.2 s b
theorem Has.append{ds:aR}{S:aB}(F:Has ds S)(w:Pow)(x:Int)(b:aQ):Has (dm w ds x b).2.2 S:=by
 unfold dm;cases hd:bF ds x with
 |none=>exact F
 |some d=>
  obtain⟨n,rfl,a⟩:=gZ hd;exact F.set a
theorem Has.sync{ds:aR}{S:aB}(F:Has ds S)(w:Pow)(x:Int):Has (eK w ds x).2.2 S:=by
 unfold eK;cases hd:bF ds x with
 |none=>exact F
 |some d=>
  obtain⟨n,rfl,a⟩:=gZ hd;exact F.set a
end Wl
namespace Go.Vc
open Go Wl
end Go.Vc
namespace Go.Qw
open Go Go.Vc Go.Proofs Wl
section
variable {B:ap} {h0 h h':Heap} {As:List HP} {a pw:Addr} {mc:aM} {offs:Int} {da:List aK} {w:Pow} {ds:aR}
end
section
variable {B:ap} {h0 h h':Heap} {As:List HP} {a pw:Addr} {mc:aM} {offs:Int} {da:List aK} {w:Pow} {ds:aR}
end
end Go.Qw
namespace Go.Vc
open Go Wl Go.Qw
def pz(p:Pm)(extra:Int)(l:aB):Int:=
 if(dD l).2&&(bC p&&dE extra 0 16)then
  if(aX l l.length).any fun i=>decide (l.getD i.toNat 0<((bc (bY p extra l)).length:Int))then 7 else 0
 else 1
theorem NF(p:Pm)(extra:Int)(w:Pow)(l:aB):cm p extra w l=if pz p extra l=0 then layAll (bA (bY p extra l) (aX l l.length)) w (ft l (aX l l.length).length)else(pz p extra l,w,[]):=by
 unfold cm pz;by_cases h:((dD l).2&&(bC p&&dE extra 0 16))=true
 ·rw[if_pos h,if_pos h];by_cases a:((aX l l.length).any fun i=>decide (l.getD i.toNat 0<((bc (bY p extra l)).length:Int)))=true
  ·rw[if_pos a,if_pos a];rfl
  ·rw[if_neg a,if_neg a];rfl
 ·rw[if_neg h,if_neg h];rfl
theorem EG{p:Pm}{extra:Int}{l:aB}(h:pz p extra l=0):bC p=true/\0<=extra/\extra<=16/\(dD l).2=true/\((aX l l.length).any fun i=>decide (l.getD i.toNat 0<((bc (bY p extra l)).length:Int)))=false:=by
 unfold pz at h;by_cases a:((dD l).2&&(bC p&&dE extra 0 16))=true
 ·rw[if_pos a]at h;by_cases b:((aX l l.length).any fun i=>decide (l.getD i.toNat 0<((bc (bY p extra l)).length:Int)))=true
  ·rw[if_pos b]at h;cases h
  ·unfold dE at a;simp only[qA,decide_eq_true_eq]at a;exact⟨a.2.1,a.2.2.1,a.2.2.2,a.1,by simpa using b⟩
 ·rw[if_neg a]at h;cases h
end Go.Vc
namespace Go.Qw
open Go Go.Vc Go.Proofs Wl
end Go.Qw
namespace Wl
def VS(m:aC)(l:cu):Bool:=bN m&&(bc m).all fun p=>decide (p∈l)
end Wl
namespace Go.Qw
open Go Go.Vc Go.Proofs Wl
end Go.Qw
namespace Go.Vc
open Go Wl Go.Qw
theorem Sg{w:Pow}(h:w.calm){S:aB}(P:List (Int×aQ))(ds:aR)(F:Fit ds S (P.map qP))(b:∀x∈P,x.1∈S/\x.2.length=64):
  (layAll P w ds).1=0/\Fit (layAll P w ds).2.2 S []/\∀s,bF (layAll P w ds).2.2 s=(EE ds P s).map fun d=>if s∈ey (P.map qP)then{d with wait:=0,laid:=[],has:=false}else d:=by
 obtain⟨i,e,a3⟩:=Ai h P ds F b;have k:=lS h P ds;unfold layAll;dsimp only;rw[if_pos i,k];obtain⟨g,f,j⟩:=EF h (S:=S) (ey (P.map qP)) (iw P w ds).2.2 e fun x c=>by
  unfold ey at c;have a:=(q6.1 c).2;obtain⟨y,l,rfl⟩:=qH.1 (of_decide_eq_true a);exact(b y l).1
 exact⟨g,f,fun s=>by rw[j s,a3 s]⟩
theorem uR(l:aB)(k:Nat):(aX l k).Pairwise (·<·):=by
 unfold aX;refine List.Pairwise.filter _ (y9.2 ?_);exact(va (n:=k)).imp fun h=>by omega
theorem UA{l:aB}{a:Int}(e:l.Pairwise (·<·))(d:∀x∈l,0<=x/\x<=a):ly l a=true:=by
 unfold ly;refine nL fun i b=>?_;unfold gz dE;have f:l.getD i 0=l[i]:=by rw[qg,qd b];rfl
 have:=d l[i] (qn b);rw[f,decide_eq_true this.1,decide_eq_true this.2,zK,zK];by_cases h0:i=0
 ·rw[decide_eq_true h0];rfl
 ·have c:l.getD (i-1) 0=l[i-1]:=by rw[qg,qd (by omega)];rfl
  rw[c,decide_eq_true (List.pairwise_iff_getElem.1 e (i-1) i (by omega) b (by omega)),Bool.or_true]
theorem JY{p:Pm}{extra:Int}{l:aB}(h:l.length<=64)(e:pz p extra l=0):bN (bY p extra l)=true:=by
 obtain⟨d,a,h3,_⟩:=EG e;have c:ir (bY p extra l)=true:=by
  unfold ir dE bY;simp[d,a,h3]
 have b:ly (bY p extra l).drives 63=true:=UA (uR l l.length) fun x f=>by
  obtain⟨n,g,rfl,_⟩:=(pj l l.length x).1 f;omega
 unfold bN;rw[c,b];rfl
theorem uS(p:Pm)(extra:Int)(l:aB)(b:l.length<=24):(bc (bY p extra l)).length<=1:=by
 unfold bc fx;rw[qC,zm];have a:=lP l l.length;have:(eT (bY p extra l)).length<=19+24:=by
  unfold eT;split
  ·simp only[qp,bq,zc,wZ,qC,bY,wM];omega
  ·simp
 omega
end Go.Vc
namespace Wl
open Go
theorem Qd{ds:aR}{k:Int}{d:bj}(h:bF ds k=some d):eV ds k d=ds:=by
 unfold bF at h;split at h
 ·rename_i c;unfold eV;cases hx:ds[k.toNat]? with
  |none=>rw[hx]at h;cases h
  |some o=>
   rw[hx]at h;have h:o=some d:=h;subst h;obtain⟨b,a⟩:=qk.1 hx;rw[<-a,List.set_getElem_self]
 ·cases h
theorem roomy{m:aC}{w:Pow}{N:Int->Int}:∀{live:aB} {ds:aR},(∀k∈live,∃d,bF ds k=some d/\d.lost=false/\0<=N k/\(d.l.length:Int)+N k<=d.room)->eO m ds live N=true/\makes m N live w ds=(0,w,ds)
 |[],ds,_=>⟨rfl,rfl⟩
 |k::live,ds,h=>by
  obtain⟨d,a,b,h3,n⟩:=h k qV;obtain⟨e,j⟩:=roomy (m:=m) (w:=w) (N:=N) (live:=live) (ds:=ds) fun k i=>h k (zj _ i);have f:eN d d.l.length (N k)=true:=decide_eq_true (by omega);have c:jZ m d (N k)=true:=by unfold jZ;rw[b,f];rfl
  have g:dP m w ds k (N k)=(0,w,ds):=by
   unfold dP;rw[a];have:fA m w d (N k)=(0,w,d):=by unfold fA;rw[if_neg (by simp[b]),if_neg (by simp[c]),if_pos f]
   dsimp only;rw[this];dsimp only;rw[Qd a]
  refine⟨?_,?_⟩
  ·unfold eO at e⊢;rw[List.all_cons,e,Bool.and_true];unfold jL;rw[a];exact c
  ·show(if(dP m w ds k (N k)).1=0 then makes m N live (dP m w ds k (N k)).2.1 (dP m w ds k (N k)).2.2 else dP m w ds k (N k))=_;rw[g];exact j
end Wl
namespace Go.Vc
open Go Wl Go.Qw
theorem Qe(l:List (Int×aQ))(k:Int):(l.map qP).count k=(l.filter fun y=>decide (y.1=k)).length:=by
 induction l with
 |nil=>rfl
 |cons y l ih=>
  rw[zS,List.count_cons,ih,zu];by_cases h:y.1=k
  ·rw[if_pos (decide_eq_true h),if_pos (by simpa using h)];rfl
  ·rw[if_neg (by simpa using h),if_neg (by simpa using h)];rfl
theorem Aj(n:aC)(k:Int):∀{live:aB},live.Nodup->k∈live->((bA n live).filter fun y=>decide (y.1=k)).map zF=bc n
 |[],_,hk=>by cases hk
 |x::live,hnd,hk=>by
  have e:bA n (x::live)=(bc n).map (fun c=>(x,c))++bA n live:=by unfold bA;rw[zg]
  obtain⟨j,b⟩:=yx.1 hnd;rw[e,zf,zi];by_cases a:x=k
  ·subst a;have f:((bc n).map (fun c=>(x,c))).filter (fun y=>decide (y.1=x))=(bc n).map (fun c=>(x,c)):=List.filter_eq_self.2 fun y d=>by
    obtain⟨c,_,rfl⟩:=qH.1 d;exact decide_eq_true rfl
   have i:(bA n live).filter (fun y=>decide (y.1=x))=[]:=w4.2 fun y d=>by
    have:=(jm d).1;have g:y.1≠x:=fun h=>j (h▸this);simpa using g
   rw[f,i,vw,qU,wJ];exact List.map_id _
  ·have f:((bc n).map (fun c=>(x,c))).filter (fun y=>decide (y.1=k))=[]:=w4.2 fun y d=>by
    obtain⟨c,_,rfl⟩:=qH.1 d;simpa using a
   rw[f,vw,List.nil_append];rcases zl.1 hk with h|h
   ·exact absurd h.symm a
   ·exact Aj n k b h
end Go.Vc
namespace Go.Qw
open Go Go.Vc Go.Proofs Wl
theorem UB{p:Pm}{seed:Int}{d:Row}{K H w n:Nat}(B:bx p seed d K H w n)(id:Int):ug p seed d id=if bD id then eI w (dz p seed d) (dM n seed id)else[]:=by
 unfold ug;rw[B.lE,show p.2.2.toNat=w by have:=B.s;omega]
theorem Sh{m:aC}{o i seed:Int}{d:Row}{id:Int}{K H w n:Nat}(B:bx m.p seed d K H w n)(a:0<=o/\o<=16777215)(b:0<=i/\i<=7)(hid:0<=id/\id<=65535):eX (km m o i seed d id)=true:=by
 rw[fX];refine⟨a,b,hid,B.may,?_⟩;have c:bD id=true:=by unfold bD;rw[decide_eq_true hid.1,decide_eq_true hid.2];rfl
 show((ug m.p seed d id).length:Int)=m.p.2.2;rw[UB B id,if_pos c,B.OY id,B.s]
theorem UC{m:aC}{o i seed:Int}{d:Row}{id a:Int}(h:id<a):Dz (km m o i seed d id) (km m o i seed d a):=by
 unfold Dz kw jt km;dsimp only;exact⟨decide_eq_true (by omega),decide_eq_false (by omega)⟩
theorem HD{m:aC}{o i c seed a:Int}{d e:Row}{id b:Int}(h:i<c):Dz (km m o i seed d id) (km m o c a e b):=by
 unfold Dz kw jt km;dsimp only;exact⟨decide_eq_true (by omega),decide_eq_false (by omega)⟩
def lh(m:aC)(o:Int)(a:aB)(bl:cu)(live:aB)(k:Int)(i:Nat):List cJ:=
 ((qz (m.p.1+m.extra).toNat).filter fun id=>decide (nG (eP o i live) (id:Nat)=k)).map fun id:Nat=>km m o i (cY o i (a.getD i 0)) (bl.getD i []) id
def dj(m:aC)(o:Int)(a:aB)(bl:cu)(live:aB)(k:Int)(n:Nat):List cJ:=(qz n).flatMap (lh m o a bl live k)
theorem Ak(m:aC)(o:Int)(a:aB)(bl:cu)(live:aB)(k:Int)(n:Nat):dj m o a bl live k (n+1)=dj m o a bl live k n++lh m o a bl live k n:=by
 unfold dj;rw[zx,q7,zg,wM,qU]
theorem Al(m:aC)(o:Int)(a:aB)(bl:cu)(live:aB)(k:Int)(i:Nat):((jN m o a bl live i).filter fun y=>decide (y.1=k)).map zF=(lh m o a bl live k i).map cB:=by
 unfold jN lh;rw[List.filter_map,wJ,wJ];rfl
theorem uT(m:aC)(o:Int)(a:aB)(bl:cu)(live:aB)(k:Int):∀n,((cW m o a bl live n).filter fun y=>decide (y.1=k)).map zF=(dj m o a bl live k n).map cB
 |0=>by simp[cW,dj]
 |n+1=>by rw[nQ,Ak,zf,zi,zi,uT m o a bl live k n,Al]
theorem EH{m:aC}{o:Int}{a:aB}{bl:cu}{live:aB}{k:Int}{i:Nat}{r:cJ}(h:r∈lh m o a bl live k i):∃id:Nat,r=km m o i (cY o i (a.getD i 0)) (bl.getD i []) id/\id<(m.p.1+m.extra).toNat:=by
 unfold lh at h;obtain⟨id,b,rfl⟩:=qH.1 h;exact⟨id,rfl,qF.1 (q6.1 b).1⟩
theorem EI{m:aC}{o:Int}{a:aB}{bl:cu}{live:aB}{k:Int}{n:Nat}{r:cJ}(h:r∈dj m o a bl live k n):∃(i id:Nat),r=km m o i (cY o i (a.getD i 0)) (bl.getD i []) id/\i<n/\id<(m.p.1+m.extra).toNat:=by
 unfold dj at h;obtain⟨i,c,d⟩:=zZ.1 h;obtain⟨id,b,h3⟩:=EH d;exact⟨i,id,b,qF.1 c,h3⟩
theorem sP(m:aC)(o:Int)(c:aB)(bl:cu)(live:aB)(k:Int):∀n,(dj m o c bl live k n).Pairwise Dz
 |0=>by simp[dj]
 |n+1=>by
  rw[Ak];refine wk.2 ⟨sP m o c bl live k n,?_,fun a d b f=>?_⟩
  ·unfold lh;refine y9.2 ((List.Pairwise.filter _ va).imp fun h=>UC (by omega))
  ·obtain⟨i,id,rfl,g,_⟩:=EI d;obtain⟨e,rfl,_⟩:=EH f;exact HD (by omega)
end Go.Qw
namespace Wl
open Go
def iU(m:aC)(d:bj)(n:Int):bj:=if eN d d.l.length n then d else{d with l:=it m d.l,wait:=0,laid:=[],has:=false}
theorem EJ{m:aC}{r:cJ}(h:di m r=true):eX r=true:=by
 unfold di at h;simp only[qA]at h;exact h.1
theorem Si{l:List cJ}{r:cJ}(h:r∈rx l):r∈l:=by
 unfold rx at h;obtain⟨i,a,rfl⟩:=qH.1 h;have a:=qF.1 (q6.1 a).1;rw[qg,qd a];exact qn a
theorem NG{m:aC}{c:aQ}{r:cJ}(h:cM m c=some r):bR c=some r/\di m r=true:=by
 unfold cM at h;cases hc:bR c with
 |none=>rw[hc]at h;cases h
 |some x=>
  rw[hc]at h;dsimp only at h;by_cases a:di m x=true
  ·rw[if_pos a]at h;injection h with h;subst h;exact⟨rfl,a⟩
  ·rw[if_neg a]at h;cases h
theorem EK{m:aC}{l:cu}{r:cJ}(h:r∈gU m l):∃c∈l,bR c=some r/\di m r=true:=by
 have h:=yw.1 (Si h);obtain⟨c,a,b⟩:=List.mem_filterMap.1 h;exact⟨c,a,NG b⟩
theorem NH(m:aC)(l:cu):∀c∈it m l,c.length=64:=fun c d=>by
 rcases qE.1 d with h|h
 ·exact lA h
 ·obtain⟨r,a,rfl⟩:=qH.1 h;obtain⟨_,_,_,b⟩:=EK a;exact Ck (EJ b)
theorem JZ{w:Pow}(a:w.calm){d:bj}{l:cu}(g:∀c∈l,c.length=64)(e:d.lost=false)(h:l.length<=d.room):d.rewrite w l=(0,w,{d with l:=l,wait:=0,laid:=[],has:=false}):=by
 unfold bj.rewrite;have:l.all (fun b=>decide (b.length=64))=true:=qT.2 fun c f=>decide_eq_true (g c f);rw[if_neg (by simp[this]),if_neg (by simp[e]),if_neg (by omega),if_neg (by simp[a.1]),nH a];rfl
theorem NI{w:Pow}(e:w.calm){m:aC}{d:bj}{n:Int}(h:jZ m d n=true):fA m w d n=(0,w,iU m d n):=by
 have h0:=h;unfold jZ at h;rw[qA,zV,yj]at h;obtain⟨c,a⟩:=h;unfold fA iU;rw[if_neg (by simp[c]),if_neg (by simp[h0])];by_cases b:eN d d.l.length n=true
 ·rw[if_pos b,if_pos b]
 ·rw[if_neg b,if_neg b];have h3:eN d (it m d.l).length n=true:=by
   rcases a with a|a
   ·exact absurd a b
   ·exact a
  unfold eN at h3;rw[decide_eq_true_eq]at h3;exact JZ e (NH m d.l) c (by omega)
theorem Ka(m:aC)(ds:aR)(k:Int)(l:aB)(N:Int->Int):eO m ds (k::l) N=(jL m ds k (N k)&&eO m ds l N):=List.all_cons
theorem BQ{m:aC}{ds:aR}{k n:Int}(h:jL m ds k n=true):∃d,bF ds k=some d/\jZ m d n=true:=by
 unfold jL at h;cases hd:bF ds k with
 |none=>rw[hd]at h;cases h
 |some d=>rw[hd]at h;exact⟨d,rfl,h⟩
theorem CN(ds:aR)(k:Int)(d:bj):(eV ds k d).length=ds.length:=by unfold eV;simp
theorem Kb{ds:aR}{k:Int}{b d:bj}(a:ds.length=64)(e:bF ds k=some b)(s:Int):bF (eV ds k d) s=if s=k then some d else bF ds s:=by
 obtain⟨n,rfl,c⟩:=gZ e;exact oA ds n d s c a
theorem HE{m:aC}{ds a:aR}{l:aB}{N:Int->Int}(h:∀k∈l,bF ds k=bF a k):eO m ds l N=eO m a l N:=by
 unfold eO;rw[Bool.eq_iff_iff,qT,qT];refine forall_congr' fun k=>forall_congr' fun b=>?_;unfold jL;rw[h k b]
theorem EL{w:Pow}(l:w.calm){m:aC}{N:Int->Int}:∀{live:aB} {ds:aR},live.Nodup->ds.length=64->eO m ds live N=true->
  ∃a,makes m N live w ds=(0,w,a)/\a.length=64/\∀k,bF a k=(bF ds k).map fun d=>if k∈live then iU m d (N k)else d
 |[],ds,_,h64,_=>⟨ds,rfl,h64,fun k=>by cases bF ds k<;>simp⟩
 |k::live,ds,hnd,h64,hf=>by
  rw[Ka,qA]at hf;obtain⟨f,b⟩:=yx.1 hnd;obtain⟨d,h,i⟩:=BQ hf.1;have e:dP m w ds k (N k)=(0,w,eV ds k (iU m d (N k))):=by
   unfold dP;rw[h];dsimp only;rw[NI l i]
  have c:=Kb (d:=iU m d (N k)) h64 h;have j:eO m (eV ds k (iU m d (N k))) live N=true:=by
   rw[<-HE (ds:=ds) fun s g=>?_]
   ·exact hf.2
   ·rw[c,if_neg (fun o:s=k=>f (o▸g))]
  obtain⟨a,p,n,h3⟩:=EL l b (by rw[CN];exact h64) j;refine⟨a,?_,n,fun s=>?_⟩
  ·show(if(dP m w ds k (N k)).1=0 then makes m N live (dP m w ds k (N k)).2.1 (dP m w ds k (N k)).2.2 else dP m w ds k (N k))=_;rw[e];exact p
  ·rw[h3 s,c];by_cases g:s=k
   ·subst g;rw[if_pos rfl,h];simp[f]
   ·rw[if_neg g];simp[g]
theorem NJ{m:aC}{d:bj}{n:Int}(h:jZ m d n=true):(iU m d n).lost=false/\(iU m d n).room=d.room/\((iU m d n).l.length:Int)+max n 0<=d.room:=by
 unfold jZ at h;rw[qA,zV,yj]at h;obtain⟨c,a⟩:=h;unfold iU;by_cases b:eN d d.l.length n=true
 ·rw[if_pos b];unfold eN at b;rw[decide_eq_true_eq]at b;exact⟨c,rfl,by omega⟩
 ·rw[if_neg b];have h3:eN d (it m d.l).length n=true:=by
   rcases a with a|a
   ·exact absurd a b
   ·exact a
  unfold eN at h3;rw[decide_eq_true_eq]at h3;exact⟨c,rfl,by dsimp only;omega⟩
theorem Lu(b:ByteArray):∀n i r,b.size-i=n->ByteArray.toList.loop b i r=r.reverse++b.data.toList.drop i:=by
 have c:b.data.toList.length=b.size:=rfl;intro n
 induction n with
 |zero=>
  intro i r h;rw[ByteArray.toList.loop,if_neg (by omega),List.drop_eq_nil_of_le (by rw[c];omega),qU]
 |succ n ih=>
  intro i r h;have a:i<b.size:=by omega
  rw[ByteArray.toList.loop,if_pos a,ih (i+1) _ (by omega)];have d:b.data.toList.drop i=b.get! i::b.data.toList.drop (i+1):=by
   rw[qL (by rw[c];exact a)];congr 1;show _=b.data[i]!;rw[getElem!_pos b.data i a,Array.getElem_toList]
  rw[d,List.reverse_cons,qm];rfl
theorem toList_eq(x:ByteArray):x.toList=x.data.toList:=by
 unfold ByteArray.toList;rw[Lu x _ 0 [] rfl];rfl
theorem ov{a b:ByteArray}(h:a.toList=b.toList):a=b:=by
 rw[toList_eq,toList_eq]at h;cases a;cases b;congr;exact Array.toList_inj.1 h
theorem Lv(a:ByteArray):dw a a=false:=ON _
theorem Qf{a b:ByteArray}(h:gA a b=true)(c:a≠b):dw a b=true:=by
 rcases(Du a b).1 h with h|h
 ·exact h
 ·exact absurd (ov h) c
theorem Am{a b:ByteArray}(h:dw a b=true):a≠b:=fun e=>by subst e;rw[Lv]at h;cases h
theorem VT:Ord lB:=⟨fun a b c e d=>xq _ _ _ e d,fun a b=>xr _ _⟩
theorem Kc{m:aC}{x e:ca}:e∈(fy m x).aF↔e∈m.aF∨e=x:=by
 show e∈(m.aF++[x]).mergeSort lB↔_;rw[yw];simp
end Wl
namespace Go.Qw
open Go Go.Vc Go.Proofs Wl
theorem Qg{name:ByteArray}{l:List Wl.ca}(h:l.any (dQ name)=false):∀e∈l,e.name≠name:=fun e a b=>by
 have:=wA.1 h e a;unfold dQ at this;rw[b]at this;simp at this
theorem Qh{m:aC}{x:Wl.ca}(D:bN m=true)(d:gH x.name=true)(g:∀e∈m.aF,e.name≠x.name)(j:x.object=m.next)(J:m.aF.length<=11)(N:m.next<=16777215)(K:m.seq<=2147483646)
  (n:0<=x.length/\x.length<=m.p.1*m.p.2.2*8) (u:∀t∈x.tries,0<=t/\t<=15) (H:(x.tries.length:Int)=countP m.p x.length):bN (fy m x)=true:=by
 obtain⟨F,y,h3,M,s,v,G⟩:=(dp m).1 D;obtain⟨L,I,a3,a4⟩:=(gW m).1 F;have c:(fy m x).aF.Perm (m.aF++[x]):=wx _ _;have k:∀e∈m.aF,e.object<m.next:=fun e i=>((jB m e).1 (s e i)).2.1.2;refine(dp _).2 ⟨(gW _).2 ⟨⟨?_,?_⟩,⟨?_,?_⟩,a3,a4⟩,y,h3,?_,fun e i=>?_,?_,?_⟩
 ·show 1<=m.seq+1;omega
 ·show m.seq+1<=_;omega
 ·show 0<=m.next+1;omega
 ·show m.next+1<=_;omega
 ·rw[c.length_eq];simp;omega
 ·rcases Kc.1 i with i|rfl
  ·obtain⟨B,w,E,z,A⟩:=(jB m e).1 (s e i);exact(jB _ e).2 ⟨B,⟨w.1,by show _<m.next+1;omega⟩,E,z,A⟩
  ·exact(jB _ _).2 ⟨d,⟨by omega,by show _<m.next+1;omega⟩,n,u,H⟩
 ·have f:(m.aF++[x]).Pairwise (fun a b:Wl.ca=>a.name≠b.name):=wk.2 ⟨v.imp fun h=>Am h,List.pairwise_singleton _ _,fun a o b q=>by rw[qB.1 q];exact g a o⟩;have l:=(c.pairwise_iff (R:=fun a b:Wl.ca=>a.name≠b.name) fun{a b} h=>Ne.symm h).2 f;have r:(fy m x).aF.Pairwise (fun a b=>lB a b=true):=(xn VT (m.aF++[x])).1;exact(r.and l).imp fun h=>Qf h.1 h.2
 ·have f:(m.aF++[x]).Pairwise (fun a b:Wl.ca=>a.object≠b.object):=wk.2 ⟨G,List.pairwise_singleton _ _,fun a o b q=>by rw[qB.1 q,j];have:=k a o;omega⟩;exact(c.pairwise_iff (R:=fun a b:Wl.ca=>a.object≠b.object) fun{a b} h=>Ne.symm h).2 f
theorem Lw{p:Pm}{o:Int}{n:Nat}{t:aB}(h:cy p o n=some t):∀x∈t,0<=x/\x<=15:=fun x d=>by
 obtain⟨i,b,rfl⟩:=qQ d;obtain⟨k,c,a⟩:=rf h i b;have:=(zn a).1;rw[c];omega
theorem pA{p:Pm}(a:bC p=true)(b:aQ):((splitB p b).length:Int)=countP p b.length:=by
 have:=(jf a b.length).1;unfold splitB;rw[qC,zm];omega
theorem Sj{m:aC}{d:Bool}{ds:aR}{name:ByteArray}{b:aQ}{t:aB}(g:bN m=true)(j:du m d ds name b.length=0)(f:cy m.p m.next (splitB m.p b).length=some t):bN (fy m ⟨name,m.next,b.length,t⟩)=true:=by
 obtain⟨n,l,z3,z4,z5⟩:=py j;have i:¬m.p.1*m.p.2.2*8<(b.length:Int):=fun h=>z4 (.inl h);have c:m.aF.length<=11:=by have:¬12<=m.aF.length:=fun h=>z4 (.inr h);omega
 have e:m.next<=16777215:=by have:¬16777215<m.next:=fun h=>z5 (.inr (.inl h));omega
 have a:m.seq<=2147483646:=by have:¬2147483647<=m.seq:=fun h=>z5 (.inr (.inr h));omega
 have k:=((gW m).1 ((dp m).1 g).1).2.2.1;refine Qh g l (Qg z3) rfl c e a ⟨by show 0<=(b.length:Int);omega,by show(b.length:Int)<=_;omega⟩ (Lw f) ?_;show(t.length:Int)=countP m.p b.length;rw[gm f,pA k]
end Go.Qw
namespace Wl
open Go
def eE(a:cu)(d:bj):bj:=if a.isEmpty then d else{d with l:=d.l++a,wait:=0,laid:=[],has:=false}
def iV(P:List (Int×aQ))(s:Int):cu:=(P.filter fun x=>decide (x.1=s)).map zF
theorem Kd{P:List (Int×aQ)}{s:Int}(h:∀x∈P,x.1≠s):iV P s=[]:=by
 unfold iV;rw[w4.2 fun x a=>by simpa using h x a];rfl
theorem Ke(P:List (Int×aQ))(s:Int):(iV P s).length=(P.map qP).count s:=by
 unfold iV;rw[qC];exact(Go.Vc.Qe P s).symm
theorem BR{l:aB}{s:Int}(h:0<=s/\s<64):s∈ey l↔s∈l:=by
 unfold ey;rw[q6,decide_eq_true_eq];refine⟨fun h=>h.2,fun h'=>⟨?_,h'⟩⟩;exact qH.2 ⟨s.toNat,qF.2 (by omega),by omega⟩
theorem Kf{w:Pow}(o:w.calm){ds:aR}{P:List (Int×aQ)}(j:ds.length=64)
  (a:∀x∈P,x.2.length=64/\∃d,bF ds x.1=some d/\d.lost=false/\d.l.length+(iV P x.1).length<=d.room):
  ∃b,layAll P w ds=(0,w,b)/\b.length=64/\∀s,bF b s=(bF ds s).map (eE (iV P s)):=by
 have F:Fit ds (P.map qP) (P.map qP):=⟨j,fun k r=>by
  obtain⟨x,g,rfl⟩:=qH.1 r;obtain⟨_,d,m,i,h3⟩:=a x g;rw[Ke]at h3;exact⟨d,m,i,h3⟩⟩
 obtain⟨q,p,a3⟩:=Go.Vc.Sg o P ds F fun x g=>⟨qH.2 ⟨x,g,rfl⟩,(a x g).1⟩
 refine⟨(layAll P w ds).2.2,?_,p.len,fun s=>?_⟩
 ·have i:=Sf o P ds;exact yR q (yR i rfl)
 ·rw[a3 s];unfold EE;cases hd:bF ds s with
  |none=>rfl
  |some d=>
   obtain⟨f,e⟩:=VR hd;rw[qK,qK,qK];congr 1;unfold eE;have n:s∈P.map qP↔(iV P s).isEmpty=false:=by
    rw[<-List.count_pos_iff,<-Ke];cases hc:iV P s<;>simp
   by_cases c:(iV P s).isEmpty=true
   ·have h0:iV P s=[]:=List.isEmpty_iff.1 c;have m:(P.filter fun x=>decide (x.1=s))=[]:=List.map_eq_nil_iff.1 h0;rw[if_neg (fun h=>by rw[BR ⟨f,e⟩,n]at h;rw[h]at c;cases c),if_pos c,m];simp
   ·have t:(iV P s).isEmpty=false:=by simpa using c
    rw[if_pos ((BR ⟨f,e⟩).2 (n.2 t)),if_neg c];rfl
end Wl
namespace Go.Qw
open Go Go.Vc Go.Proofs Wl
theorem rj{n:aC}{live:aB}(a:live.Nodup)(s:Int):iV (bA n live) s=if s∈live then bc n else[]:=by
 by_cases h:s∈live
 ·rw[if_pos h];exact Aj n s a h
 ·rw[if_neg h];exact Kd fun x c b=>h (b▸(jm c).1)
theorem Kg(m:aC)(o:Int)(a:aB)(bl:cu)(live:aB)(k:Int)(n:Nat):iV (cW m o a bl live n) k=(dj m o a bl live k n).map cB:=uT m o a bl live k n
theorem CO{m:aC}(h:bN m=true):bc m≠[]:=by
 unfold bc fx eT;rw[if_pos h];intro e;have:=congrArg vn e;simp[bq]at this;omega
theorem Kh{ds:aR}{l:aB}(h:l.Nodup):(bB ds l).Nodup:=h.filter _
theorem CP{ds:aR}{l:aB}{k:Int}(h:k∈bB ds l):k∈l/\∃d,bF ds k=some d/\d.lost=false:=by
 obtain⟨b,a⟩:=q6.1 h;unfold isLive at a;cases hd:bF ds k with
 |none=>rw[hd]at a;cases a
 |some d=>rw[hd]at a;exact⟨b,d,rfl,by simpa using a⟩
theorem Qi(a:cu)(d:bj):(eE a d).l=d.l++a:=by
 unfold eE;by_cases h:a.isEmpty=true
 ·rw[if_pos h,List.isEmpty_iff.1 h,qU]
 ·rw[if_neg h]
theorem An(a:cu)(d:bj):(eE a d).lost=d.lost/\(eE a d).room=d.room:=by
 unfold eE;split<;>exact⟨rfl,rfl⟩
theorem Sk{b a:cu}(h:a≠[])(d:bj):eE a (eE b d)=eE (b++a) d:=by
 have e:∀c:cu,c≠[]->∀d,eE c d={d with l:=d.l++c,wait:=0,laid:=[],has:=false}:=fun c g d=>by
  unfold eE;rw[if_neg (by simpa using g)]
 by_cases f:b=[]
 ·subst f;rfl
 ·rw[e b f,e a h,e (b++a) (by simp[h])];simp
theorem Ao(a:Nat)(l:List (Int×aQ))(k:Int):iu a l k=a+(iV l k).length:=by unfold iu iV;rw[qC]
theorem Mi{p:Pm}{o:Int}{b:aQ}{t:aB}(d:bC p=true)(c:cy p o (splitB p b).length=some t){i:Nat}(l:i<(splitB p b).length):∃K H w n,bx p (cY o i (t.getD i 0)) ((splitB p b).getD i []) K H w n:=by
 have m:=gm c;obtain⟨k,j,a⟩:=rf c i (by omega);have h:Es p o i k=true:=(zn a).2.1;have e:t.getD i 0=(k:Int):=by rw[gV 0];exact j
 rw[e];refine SR d h ?_;have f:=(bS p).1 d;have q:0<=p.1*p.2.2:=ve (by omega) (by omega);have g:(splitB p b)[i]=ot (cZ p) b i:=by simp[splitB]
 rw[gV [] l,g,yz];unfold cZ;omega
theorem Mj{m:aC}{b:aQ}{t:aB}(f:bN m=true)(g:m.next<=16777215)(h8:(splitB m.p b).length<=8)(c:cy m.p m.next (splitB m.p b).length=some t){i id:Nat}(e:i<(splitB m.p b).length)(hid:id<(m.p.1+m.extra).toNat):
  eX (km m m.next i (cY m.next i (t.getD i 0)) ((splitB m.p b).getD i []) id)=true:=by
 have a:=((gW m).1 ((dp m).1 f).1)
 have d:=(bS m.p).1 a.2.2.1;obtain⟨K,H,w,n,B⟩:=Mi a.2.2.1 c e;exact Sh B ⟨a.2.1.1,g⟩ (by omega) (by omega)
theorem Qj{m:aC}{offs:Int}{w:Pow}{ds:aR}{name:ByteArray}{b:aQ}(Q:w.calm)(M:ds.length=64)(B:bN m=true):
  (du m (fm w offs) ds name b.length≠0->cF m offs w ds name b=(du m (fm w offs) ds name b.length,m,w,ds))/\
  (du m (fm w offs) ds name b.length=0->(cy m.p m.next (splitB m.p b).length=none->cF m offs w ds name b=(8,m,w,ds))/\∀t,cy m.p m.next (splitB m.p b).length=some t->
   let live:=bB ds m.drives;let l:=cW m m.next t (splitB m.p b) live (splitB m.p b).length;let n:=fy m ⟨name,m.next,b.length,t⟩;let N:=iu (bc n).length l
   bN n=true/\(eO m ds live N=false->cF m offs w ds name b=(7,m,w,ds))/\(eO m ds live N=true->∃f,cF m offs w ds name b=(0,n,w,f)/\f.length=64/\
    ∀k,bF f k=(bF ds k).map fun d=>if k∈live then eE ((dj m m.next t (splitB m.p b) live k (splitB m.p b).length).map cB++bc n) (iU m d (N k))else d)):=by
 refine⟨fun h=>by unfold cF;rw[if_pos h],fun h=>⟨fun o=>by unfold cF;rw[if_neg (by simpa using h),o],fun t o=>?_⟩⟩;intro live l n N;have s:bN n=true:=Sj B h o;obtain⟨z1,z2,z3,z4,z5⟩:=py h;have r:=((gW m).1 ((dp m).1 B).1)
 have I:¬m.p.1*m.p.2.2*8<(b.length:Int):=fun h=>z4 (.inl h);have h8:=Mh r.2.2.1 I;have G:live≠[]:=fun h=>z5 (.inl h);have z:0<=m.next/\m.next<=16777215:=⟨r.2.1.1,by have:¬16777215<m.next:=fun h=>z5 (.inr (.inl h));omega⟩
 have g:live.Nodup:=Kh (MW B);have H:∀k∈live,0<=k/\k<64:=fun k a=>mT B k (CP a).1;have e:cF m offs w ds name b=(if eO m ds live N=false then(7,m,w,ds)else if(makes m N live w ds).1≠0 then((makes m N live w ds).1,m,(makes m N live w ds).2)else
   if(layAll l (makes m N live w ds).2.1 (makes m N live w ds).2.2).1≠0 then((layAll l (makes m N live w ds).2.1 (makes m N live w ds).2.2).1,m,(layAll l (makes m N live w ds).2.1 (makes m N live w ds).2.2).2)else
   ((layAll (bA n live) (layAll l (makes m N live w ds).2.1 (makes m N live w ds).2.2).2.1 (layAll l (makes m N live w ds).2.1 (makes m N live w ds).2.2).2.2).1,if(layAll (bA n live) (layAll l (makes m N live w ds).2.1 (makes m N live w ds).2.2).2.1 (layAll l (makes m N live w ds).2.1 (makes m N live w ds).2.2).2.2).1=0 then n else m,(layAll (bA n live) (layAll l (makes m N live w ds).2.1 (makes m N live w ds).2.2).2.1 (layAll l (makes m N live w ds).2.1 (makes m N live w ds).2.2).2.2).2)):=by
  unfold cF;rw[if_neg (by simpa using h),o]
 refine⟨s,fun D=>by rw[e,if_pos D],fun D=>?_⟩;rw[e,if_neg (by rw[D];decide)];obtain⟨S,m1,m2,T⟩:=EL Q (N:=N) g M D;rw[m1];dsimp only;rw[if_neg (by simp)];have u:∀y∈l,y.1∈live:=fun y E=>(JW z G H h8 E).1;have q:∀y∈l,y.2.length=64:=fun y E=>by
  obtain⟨i,hi,E⟩:=zZ.1 E;obtain⟨id,hid,rfl⟩:=qH.1 E;exact Ck (Mj B z.2 h8 o (qF.1 hi) (qF.1 hid))
 have c:∀k∈live,∃d,bF S k=some d/\d.lost=false/\(d.l.length:Int)+max (N k) 0<=d.room:=fun k a=>by
  obtain⟨_,d,hd,ad⟩:=CP a;have R:=qT.1 D k a;obtain⟨d',J,O⟩:=BQ R;obtain⟨W,r2,r3⟩:=NJ O;refine⟨iU m d' (N k),?_,W,by rw[r2];exact r3⟩;rw[T k,J,qK,if_pos a]
 obtain⟨Z,Y,l2,U⟩:=Kf Q (ds:=S) (P:=l) m2 fun x j=>by
  obtain⟨d,F,K,f3⟩:=c x.1 (u x j);refine⟨q x j,d,F,K,?_⟩;have:N x.1=_:=Ao _ _ _;omega
 rw[Y];dsimp only;rw[if_neg (by simp)];obtain⟨d3,p1,p2,X⟩:=Kf Q (ds:=Z) (P:=bA n live) l2 fun x j=>by
  obtain⟨v,A⟩:=jm j;obtain⟨d,F,K,f3⟩:=c x.1 v;refine⟨A,eE (iV l x.1) d,by rw[U,F,qK],by rw[(An _ _).1];exact K,?_⟩;have:N x.1=_:=Ao _ _ _;rw[(An _ _).2,Qi,rj g,if_pos v,qp];omega
 rw[p1];refine⟨d3,rfl,p2,fun k=>?_⟩;rw[X k,U k,T k,Option.map_map,Option.map_map];congr 1;funext d;show eE (iV (bA n live) k) (eE (iV l k) (if k∈live then iU m d (N k)else d))=_;rw[rj g];by_cases a:k∈live
 ·rw[if_pos a,if_pos a,if_pos a];have L:iV l k=(dj m m.next t (splitB m.p b) live k (splitB m.p b).length).map cB:=Kg _ _ _ _ _ _ _;rw[L,Sk (CO s)]
 ·rw[if_neg a,if_neg a,if_neg a,Kd (P:=l) fun x j (V:x.1=k)=>a (V▸u x j)];rfl
theorem EM(l:aB)(c:l.length<=64)(s:Int):bF (ft l (aX l l.length).length) s=if s∈aX l l.length then some (bj.new (l.getD s.toNat 0).toNat)else none:=by
 by_cases a:0<=s/\s<64
 ·unfold bF ft;rw[if_pos a,qN,q8 (by omega),qK,qj (qt _)];have e:((s.toNat:Nat):Int)=s:=by omega
  rw[e];by_cases h:s∈aX l l.length
  ·rw[if_pos h];rfl
  ·rw[if_neg h];rfl
 ·rw[if_neg (fun h=>?_)]
  ·unfold bF;rw[if_neg a]
  ·obtain⟨n,b,rfl,_⟩:=(pj l l.length s).1 h;omega
theorem Qk{p:Pm}{extra:Int}{l:aB}(d:l.length<=64)(f:pz p extra l=0):
  ∃D,cm p extra Pow.new l=(0,Pow.new,D)/\D.length=64/\∀s,bF D s=if s∈aX l l.length then some ⟨(l.getD s.toNat 0).toNat,bc (bY p extra l),0,[],false,false⟩else none:=by
 have j:=JY d f;have c:(aX l l.length).Nodup:=(uR l l.length).imp fun h e=>by omega
 have b:=(EG f).2.2.2.2;rw[NF,if_pos f];obtain⟨D,k,i,h3⟩:=Kf JX (ds:=ft l (aX l l.length).length) (P:=bA (bY p extra l) (aX l l.length)) (Lb _ _) fun x m=>by
  obtain⟨a,g⟩:=jm m;refine⟨g,bj.new (l.getD x.1.toNat 0).toNat,by rw[EM l d,if_pos a],rfl,?_⟩;rw[rj c,if_pos a];have:=wA.1 b x.1 a;simp only[decide_eq_true_eq]at this;show 0+_<=(l.getD x.1.toNat 0).toNat;omega
 refine⟨D,k,i,fun s=>?_⟩;rw[h3,EM l d,rj c];by_cases h:s∈aX l l.length
 ·rw[if_pos h,if_pos h,if_pos h,qK];unfold eE;rw[if_neg (by simpa using CO j)];rfl
 ·rw[if_neg h,if_neg h,if_neg h];rfl
theorem NK(m:aC):(bc m).length=((eT m).length+47)/48:=by unfold bc fx;rw[qC,zm]
theorem VU(x:Wl.ca):(gg x).length=6+x.name.size+x.tries.length:=by
 unfold gg;simp[bq];omega
theorem Ql{m:aC}(h:bN m=true):(eT m).length=14+m.drives.length+(m.aF.flatMap gg).length:=by
 unfold eT;rw[if_pos h];simp only[qp,bq,zc,wZ,qC];omega
theorem uj{p:Pm}{n:Int}(h:n<=p.1*p.2.2*8):countP p n<=8:=by
 unfold countP;split
 ·rename_i a;rw[qA,decide_eq_true_eq]at a;have:=(bS p).1 a.1;have b:0<p.1*p.2.2:=Int.mul_pos (by omega) (by omega);have:(n-1)/(p.1*p.2.2)<8:=Int.ediv_lt_of_lt_mul b (by rw[Int.mul_comm 8];omega);omega
 ·decide
theorem UD{m:aC}{x:Wl.ca}(h:fE m x=true):(gg x).length<=26:=by
 obtain⟨a,b,h3,c,e⟩:=(jB m x).1 h;have:=uj h3.2;have d:x.name.size<=12:=by unfold gH at a;simp at a;omega
 rw[VU];omega
theorem FL{α β:Type}{f:α->List β}{c:Nat}:∀{l:List α},(∀x∈l,(f x).length<=c)->(l.flatMap f).length<=l.length*c
 |[],_=>by simp
 |x::l,h=>by
  have d:=h x qV;have b:=FL (l:=l) fun y a=>h y (zj _ a);rw[zg,qp,zc,zy];omega
theorem Sm{m:aC}(h:bN m=true):(bc m).length*48<=61+m.drives.length+m.aF.length*26:=by
 have:=FL (f:=gg) (l:=m.aF) fun x a=>UD (((dp m).1 h).2.2.2.2.1 x a);have b:=Ql h;rw[NK];omega
theorem EN{m:aC}(h:bN m=true):(bc m).length<=9:=by
 have b:=Sm h;have a:=nh h;have h3:=((dp m).1 h).2.2.2.1;omega
theorem Lx{α β:Type}(f:α->List β)(c:Nat)(n:Nat)(l:List α)(h:∀x∈l,(f x).length<=c)(a:l.length<=n):(l.flatMap f).length<=n*c:=zh (FL h) (ze c a)
theorem BS(m:aC)(o:Int)(a:aB)(bl:cu)(live:aB)(k:Int)(n:Nat):(dj m o a bl live k n).length<=n*(m.p.1+m.extra).toNat:=by
 unfold dj;refine Lx _ _ n _ (fun i _=>?_) (by simp);have:=congrArg vn (Al m o a bl live k i);rw[qC,qC]at this;rw[<-this];refine zh (zt _ _) ?_;rw[uh];exact qt _
end Go.Qw
