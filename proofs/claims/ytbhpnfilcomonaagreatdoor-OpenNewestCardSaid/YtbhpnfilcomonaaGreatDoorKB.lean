/- Lemmas for the proof of the law; no condition. -/
import Derived.Test.YtbhpnfilcomonaaGreatDoorKA
import Derived.Test.YtbhpnfilcomonaaGreatDoorShelfB
import Derived.Test.YtbhpnfilcomonaaGreatDoorPlH
import Derived.Test.YtbhpnfilcomonaaGreatDoorPlI
set_option linter.unusedVariables false
set_option maxHeartbeats 2000000
set_option linter.unusedSimpArgs false
open Go.Proofs.Tryz renaming prog -> xa
open Go.Value renaming agg -> vV, bool -> vU, int -> vQ, pointer -> vS, slice -> vR, string -> vT
open Go.IntKind renaming bits -> qj, i64 -> vW, signed -> yp, u32 -> vY, u64 -> vZ, u8 -> vX, wrap -> qc
open Nat renaming add_sub_cancel_left -> zg, add_zero -> wT, le_refl -> qp, le_trans -> zH, mul_le_mul -> wm, mul_le_mul_right -> zm, mul_one -> wO, sub_self -> qZ, succ_mul -> zU, zero_le -> zo
open Int renaming emod_lt_of_pos -> yb, emod_nonneg -> yD, mul_nonneg -> vk, natCast_mul -> wc, natCast_nonneg -> yC, ofNat_le -> yQ, tmod -> zY, tmod_eq_emod_of_nonneg -> ye, toNat_natCast -> qq
open Bool renaming and_eq_true -> qz, and_self -> vK, false_or -> yZ, not_eq_true' -> wW, or_eq_true -> zV, true_and -> z8
open List renaming all_cons -> vM, all_eq_false -> yJ, all_eq_true -> qU, any_append -> vx, any_cons -> vL, any_eq_false -> wM, any_eq_true -> yu, append_assoc -> qm, append_nil -> qM, drop_eq_getElem_cons -> qS, drop_of_length_le -> zd, eq_nil_of_length_eq_zero -> qK, ext_getElem? -> zr, filter_append -> zn, filter_cons -> zx, filter_eq_nil_iff -> w6, flatMap_append -> qY, flatMap_cons -> zf, flatMap_nil -> wx, foldl_append -> wz, getD_eq_getElem?_getD -> qf, getElem?_append_left -> ql, getElem?_append_right -> qg, getElem?_cons_succ -> qo, getElem?_drop -> wo, getElem?_eq_getElem -> qd, getElem?_eq_none -> qX, getElem?_eq_some_iff -> qk, getElem?_map -> qP, getElem?_range -> zb, getElem?_replicate -> wg, getElem?_set -> qW, getElem_map -> yt, getElem_mem -> qn, getElem_of_mem -> qN, length -> yw, length_append -> qw, length_cons -> zi, length_filter_le -> zJ, length_map -> qC, length_mergeSort -> zT, length_nil -> yE, length_range -> zt, length_set -> zy, map_append -> za, map_cons -> z6, map_map -> we, map_mergeSort -> yd, mem_append -> qH, mem_cons -> zj, mem_cons_of_mem -> q0, mem_cons_self -> qT, mem_filter -> zh, mem_flatMap -> zL, mem_map -> qE, mem_mergeSort -> wq, mem_range -> qF, mem_singleton -> qB, mergeSort_perm -> wN, nodup_cons -> yl, pairwise_append -> wI, pairwise_cons -> zF, range -> qD, range_succ -> zE, replicate -> qh, set_append_right -> q9, set_cons_zero -> zR, take_length -> zc, take_of_length_le -> qi, zipWith -> zP, zipWith_append -> yV
open Option renaming map_some -> qJ, some -> wG
open Go.Instr renaming storeAt -> qe
open Prod renaming ext -> y6, fst -> qx, snd -> ze
set_option maxRecDepth 100000
namespace Go.Qw
open Go Go.Vc Go.Proofs Wl
theorem Ub{α:Type}{h:Heap}{e:TypeId}{s:Sl}{k:Nat}{f:α->aQ}{l:List α}(a:Own h e s k f l)(c:l≠[]):s.ptr.isNone=false:=by
 rcases a.head with⟨_,_,h3⟩|⟨b,rest,h1,_⟩
 ·exact absurd h3 c
 ·rw[h1];rfl
theorem Uc(p:Pm)(seed id:Int)(h:Heap):ac xa 135 #[kP p,vQ vY seed,vQ vW id] h fun v h'=>∃r:Sl,v=r/\
  Sp h h' [aj 5 r 1 aw (if bV p&&cg id then nc (cG p).toNat seed id else[])]/\r.ptr.isNone=!(bV p&&cg id):=by
 refine Pd p seed id ?_;unfold KV;refine(Sp.refl h).boxed fun a P F=>?_;refine aU ?_;refine⟨p,(F.box 0 rfl).aF _ rfl,(dR p P).mono ?_⟩;rintro v D ⟨rfl,O⟩;have y:=F.comp O;have o:(bV p&&cg id)=false->Sp h D [aj 5 ⟨none,0,0⟩ 1 aw (if bV p&&cg id then nc (cG p).toNat seed id else[])]/\Option.isNone (none:aM)=!(bV p&&cg id):=fun I=>by
  rw[I];exact⟨(y.nil 5 1 aw).take 1 (fun i A g=>by cases i with|zero=>exact g|succ i=>simp at g),rfl⟩
 refine⟨_,rfl,aW (fun e=>⟨⟨none,0,0⟩,rfl,o (by rw[e];rfl)⟩) fun k=>?_⟩;refine al (fun e=>⟨⟨none,0,0⟩,rfl,o (by simp[cg];omega)⟩) fun U=>?_;refine al (fun e=>⟨⟨none,0,0⟩,rfl,o (by simp[cg];omega)⟩) fun H=>?_;have hid:cg id=true:=by simp[cg];omega
 refine⟨p,(y.box 0 rfl).aF _ rfl,(lu p D).mono ?_⟩;rintro v h3 ⟨rfl,Q⟩;have M:=y.comp Q;have S:=(cb p).1 k;have V:cG p=p.1+p.2.1:=by rw[cG,if_pos k]
 obtain⟨n,G⟩:∃n:Nat,cG p=n:=⟨(cG p).toNat,by omega⟩
 refine⟨_,rfl,?_⟩;dsimp only;rw[G];refine M.make af aw iA (by decide) 0 rfl rfl n n rfl rfl (qp _) (by omega) fun v R T N E=>?_;refine⟨p,(E.box 0 rfl).aF _ rfl,(Ih p seed id R).mono ?_⟩;rintro w X ⟨c,rfl,u⟩;rw[k,hid,G,qq]at u;rw[k,hid,qq];have m:=E.comp u;have j:=m.seq 2 rfl (fun _=>rfl);have s:=j.len;obtain⟨b,d⟩:∃b,b=eO n seed id:=⟨_,rfl⟩
 have q:∀x∈b,0<=x/\x<(n:Int):=fun x B=>rv (by omega) (by omega) (by rw[<-d];exact B);have z:b.length<=n:=by rw[d];exact Hy (by omega) (by omega) _ _
 simp only[vK,if_true,<-d]at m j s u;refine⟨c,rfl,?_⟩;refine az (fun i:Nat=>(i:Int)) (fun i h'=>i<=b.length/\Sp h h' [ag a 24 [vQ vW p.1,vQ vW p.2.1,vQ vW p.2.2],aj 5 v 1 aw (fl n (b.take i)),aj 3 c 1 aE b]) (fun i=>b.length-i) 0 rfl ⟨by omega,m⟩ ?_;rintro i L ⟨g,l⟩;refine al (fun e=>?_) (fun e=>?_)
 ·have f:i<b.length:=by omega
  have B:=q _ (qn f);refine(l.seq 2 rfl (fun _=>rfl)).cK i rfl f _ rfl ?_;refine l.set af 1 rfl (fun _=>rfl) rfl b[i].toNat (by omega) (by rw[na];omega) 1 rfl rfl rfl fun W J=>?_;refine⟨i+1,by rw[an _];rfl,⟨by omega,?_⟩,by omega⟩;have H:fl n (b.take (i+1))=(fl n (b.take i)).set b[i].toNat 1:=by rw[aK _ _ f,fl,wz];rfl
  rw[H];exact J
 ·rw[qi (by omega)]at l;have t:Sp h L [aj 5 v 1 aw (fl n b)]:=(l.del 2).take 1 (fun i A g=>by cases i with|zero=>exact g|succ i=>simp at g);refine⟨v,rfl,?_,Ub (t.own 0 rfl) (fun K=>?_)⟩
  ·rw[d]at t;exact t
  ·have:=na n b;rw[K]at this;simp at this;omega
theorem Jd(p:Pm)(h:Heap):ac xa 134 #[kP p] h fun v h'=>∃r:Sl,v=r/\Sp h h' [gz 38 r 1 aw (if bV p then bT p.1.toNat p.2.1.toNat else[])]:=by
 refine KU p ?_;unfold Fc;refine(Sp.refl h).boxed fun a T F=>?_;refine⟨p,(F.box 0 rfl).aF _ rfl,(dR p T).mono ?_⟩;rintro v L ⟨rfl,O⟩;have D:=F.comp O;refine⟨_,rfl,aW (fun e=>⟨⟨none,0,0⟩,rfl,?_⟩) fun w=>?_⟩
 ·rw[e];exact(D.Ow 38 1 aw).take 1 (fun i A c=>by cases i with|zero=>exact c|succ i=>simp at c)
 have ad:=(cb p).1 w;have Y:cG p=p.1+p.2.1:=by rw[cG,if_pos w]
 obtain⟨K,M⟩:∃K:Nat,p.1=K:=⟨p.1.toNat,by omega⟩
 obtain⟨b,hH⟩:∃H:Nat,p.2.1=H:=⟨p.2.1.toNat,by omega⟩
 refine(uU L).mono ?_;rintro v h3 ⟨f,rfl,X⟩;have B:=(D.comp X).Ow 38 1 aw;refine⟨some f,rfl,_,(B.box 0 rfl).cell rfl,?_⟩;refine az (fun t:Sl×Nat=>(t.1,(t.2:Int))) (fun t h'=>t.2<=b/\Sp h h' [ag a 24 [vQ vW p.1,vQ vW p.2.1,vQ vW p.2.2],ag f 187 fI,gz 38 t.1 1 aw ((bT K b).take t.2)]) (fun t=>b-t.2) (⟨none,0,0⟩,0) rfl ⟨by simp,B⟩ ?_;rintro⟨s,k⟩ h4 ⟨hk,m⟩;dsimp only at*;refine al (fun e=>?_) (fun e=>?_)
 ·have N:k<b:=by omega
  refine aU ⟨p,(m.box 0 rfl).aF _ rfl,p.1,(m.box 0 rfl).cell0 rfl,?_⟩;refine(lu p h4).mono ?_;rintro v h5 ⟨rfl,W⟩;have z:=m.comp W;refine⟨_,rfl,⟨(z.box 0 rfl).cell0 rfl,trivial⟩,?_⟩;dsimp only;rw[an (p.1+k),Y];refine(RG _ _ h5).mono ?_;rintro v h6 ⟨u,rfl,q⟩;rw[if_pos (by omega)]at q;have P:(p.1+p.2.1).toNat=K+b:=by omega
  have e2:(p.1+(k:Int)).toNat=K+k:=by omega
  rw[P,e2]at q;have x:=z.comp q;refine⟨u,rfl,⟨(x.box 0 rfl).cell0 rfl,trivial⟩,p.1,(x.box 0 rfl).cell0 rfl,?_⟩;let rowAt:Nat->aL:=fun j=>(qD j).map (fun i=>Gf.pw ((k+1)*(i+1)%255))++((qh (K+b) (0:UInt8)).set (K+k) 1).drop j;refine az (fun j:Nat=>(j:Int)) (fun j h'=>j<=K/\Sp h h' [ag a 24 [vQ vW p.1,vQ vW p.2.1,vQ vW p.2.2],ag f 187 fI,gz 38 s 1 aw ((bT K b).take k),aj 5 u 1 aw (rowAt j)]) (fun j=>K-j) 0 rfl ⟨by omega,x⟩ ?_;rintro j Z ⟨hj,n⟩;refine al (fun U=>?_) (fun U=>?_)
  ·have d:j<K:=by omega
   have hm:(k+1)*(j+1)<=4*16:=wm (by omega) (by omega);have Q:qc vW (qc vW ((k:Int)+1)*qc vW ((j:Int)+1))=(((k+1)*(j+1):Nat):Int):=by
    rw[an ((k:Int)+1),an ((j:Int)+1),show((k:Int)+1)*((j:Int)+1)=(((k+1)*(j+1):Nat):Int)by rw[wc];rfl];exact oF _
   rw[Q];refine(Ua f _ Z (n.box 1 rfl)).mono ?_;rintro v h8 ⟨rfl,rfl⟩;refine⟨_,rfl,?_⟩;have E:(rowAt j).length=K+b:=by simp[rowAt];omega
   refine n.set af 3 rfl (fun _=>rfl) rfl j rfl (by omega) _ rfl rfl rfl fun J o=>?_;refine⟨j+1,by rw[an _];rfl,⟨by omega,?_⟩,by omega⟩;have y:(rowAt j).set j (Gf.pw ((((k+1)*(j+1):Nat):Int)%255).toNat)=rowAt (j+1):=by
    have S:((((k+1)*(j+1):Nat):Int)%255).toNat=(k+1)*(j+1)%255:=by omega
    rw[S];simp only[rowAt];rw[q9 _ _ (by simp),qC,zt,qZ,qS (by simp;omega),zR,zE,za,qm];rfl
   rw[<-y];exact o
  ·have d:j=K:=by omega
   subst d;have y:rowAt j=jq j b k:=by
    simp only[rowAt,jq];congr 1;apply zr;intro i;rw[wo,qW,qP];by_cases c:i<b
    ·rw[zb c,qJ,wg];by_cases g:i=k
     ·subst g;simp[c]
     ·rw[if_neg (by omega),if_pos (by omega),if_neg g]
    ·rw[qX (l:=qD b) (by simp;omega),if_neg (by omega),wg,if_neg (by omega)];rfl
   rw[y]at n;have I:=n.freeze 3 rfl (fun _=>rfl);have G:((bT j b).take k).length=k:=by simp[bT];omega
   refine I.Gp af 2 3 (by decide) rfl rfl jy (by omega) fun R J o=>?_;refine⟨(R,k+1),by dsimp only;rw[an _];rfl,⟨by dsimp only;omega,?_⟩,by dsimp only;omega⟩;have V:(bT j b).take (k+1)=(bT j b).take k++[jq j b k]:=by
    rw[aK _ _ (by simp[bT];omega)];simp[bT]
   dsimp only;rw[V];exact o.del 3
 ·refine⟨s,rfl,?_⟩;rw[if_pos w,M,hH,qq,qq];rw[qi (by simp[bT];omega)]at m;exact m.take 2 (fun i A c=>by cases i with|zero=>exact c|succ i=>simp at c)
theorem FE(p:Pm)(h:Heap):ac xa 103 #[kP p] h fun v h'=>∃r:Sl,v=r/\Sp h h' [aj 3 r 1 aE (upto (max 0 (min p.1 16)).toNat)]:=by
 refine DC p ?_;unfold tc;refine(Sp.refl h).boxed fun a n f=>?_;refine⟨p.1,(f.box 0 rfl).cell0 rfl,?_⟩;have em:(if(if(16:Int)<p.1 then(16:Int)else p.1)>(0:Int)then(if(16:Int)<p.1 then(16:Int)else p.1)else(0:Int))=((max 0 (min p.1 16)).toNat:Int):=by
  split<;>split<;>omega
 rw[em];generalize q:(max 0 (min p.1 16)).toNat=N;have b:N<=16:=by omega
 refine az (fun t:Sl×Nat=>(t.1,(t.2:Int))) (fun t h'=>t.2<=N/\Sp h h' [emp,aj 3 t.1 1 aE (upto t.2)]) (fun t=>N-t.2) (⟨none,0,0⟩,0) rfl ⟨by simp,(f.gn 0 rfl fun _ _=>trivial).nil 3 1 aE⟩ ?_;rintro⟨s,k⟩ m ⟨o,c⟩;dsimp only at*;refine al (fun e=>?_) (fun e=>?_)
 ·refine c.push af 1 rfl kS rfl (by decide) (fun _=>rfl) iU (k:Int) rfl (by decide) (by rw[fw];omega) fun j h3 g=>?_;refine⟨(j,k+1),by dsimp only;rw[an _];rfl,⟨by dsimp only;omega,?_⟩,by dsimp only;omega⟩;have l:upto (k+1)=upto k++[(k:Int)]:=by simp[upto,zE]
  dsimp only;rw[l];exact g
 ·have:k=N:=by omega
  subst this;exact⟨s,rfl,c.take 1 (fun i A d=>by cases i with|zero=>exact d|succ i=>simp at d)⟩
theorem CQ(p:Pm)(seed:Int)(f:Sl)(l:aD)(h:Heap)(x:Rd h f 1 aE l)(I:l.length<=2^30):ac xa 102 #[kP p,vQ vY seed,f] h fun v h'=>∃r:Sl,v=r/\Sp h h' [gz 38 r 1 aw (eI p seed l)]:=by
 refine Cb p seed f ?_;unfold rG;refine(Sp.refl h).boxed fun a y E=>?_;refine⟨p,(E.box 0 rfl).aF _ rfl,(Jd p y).mono ?_⟩;rintro v J ⟨r,rfl,K⟩;have z:=E.comp K;refine⟨r,rfl,?_⟩;have B:=x.len;let at_:Nat->bR:=fun k=>eI p seed (l.take k);have h0:(if bV p then bT p.1.toNat p.2.1.toNat else[])=at_ 0:=by simp[at_,eI]
 rw[h0]at z;refine az (fun t:Sl×Nat=>(t.1,(t.2:Int))) (fun t h'=>t.2<=l.length/\Sp h h' [ag a 24 [vQ vW p.1,vQ vW p.2.1,vQ vW p.2.2],gz 38 t.1 1 aw (at_ t.2)]) (fun t=>l.length-t.2) (r,0) rfl ⟨by simp,z⟩ ?_;rintro⟨s,k⟩ h3 ⟨M,j⟩;dsimp only at*;refine al (fun e=>?_) (fun e=>?_)
 ·have d:k<l.length:=by omega
  refine(Seq.up x j.ah).cK k rfl d _ rfl ?_;refine⟨p,(j.box 0 rfl).aF _ rfl,(Uc p seed l[k] h3).mono ?_⟩;rintro v N ⟨w,rfl,H,c⟩;have o:=(j.comp H).freeze 2 rfl (fun _=>rfl);refine⟨w,rfl,?_⟩;have u:(at_ k).length<=4+k∨at_ k=[]:=by
   by_cases q:bV p
   ·left;have:=(cb p).1 q;have y:=zJ cg (l.take k);have J:=List.length_take_le k l;simp only[at_,eI,q,if_true,qw,qC,bT,zt];omega
   ·right;simp[at_,eI,q]
  have n:(at_ k).length+1<=2^32:=by
   rcases u with h|h
   ·omega
   ·rw[h];simp
  dsimp only;refine aW (fun g=>?_) (fun g=>?_)
  ·rw[c]at g;have b:(bV p&&cg l[k])=true:=by simpa using g
   rw[b,if_pos rfl]at o;refine o.Gp af 1 2 (by decide) rfl rfl jy n fun L O G=>?_;refine⟨(L,k+1),by dsimp only;rw[an _];rfl,⟨by dsimp only;omega,?_⟩,by dsimp only;omega⟩;rw[qz]at b;have m:at_ (k+1)=at_ k++[nc (cG p).toNat seed l[k]]:=by
    simp only[at_,eI,b.1,if_true];rw[pA d,if_pos b.2,za,qm];rfl
   dsimp only;rw[m];exact G.del 2
  ·rw[c]at g;have b:(bV p&&cg l[k])=false:=by
    cases hh:(bV p&&cg l[k])with
    |false=>rfl
    |true=>rw[hh]at g;cases g
   refine⟨(s,k+1),by dsimp only;rw[an _];rfl,⟨by dsimp only;omega,?_⟩,by dsimp only;omega⟩;have m:at_ (k+1)=at_ k:=by
    simp only[at_,eI];rw[Bool.and_eq_false_iff]at b;rcases b with h|h
    ·simp[h]
    ·have F:(l.take (k+1)).filter cg=(l.take k).filter cg:=by rw[pA d,if_neg (by simp[h])]
     rw[F]
   dsimp only;rw[m];exact o.del 2
 ·refine⟨s,rfl,?_⟩;have m:at_ k=eI p seed l:=by simp only[at_];rw[qi (by omega)]
  rw[m]at j;exact j.take 1 (fun i A D=>by cases i with|zero=>exact D|succ i=>simp at D)
theorem pY(a:Sl)(m:aX)(n:Nat)(h:Heap)(d:dU h a 1 aw m)(j:aZ n m)(p:n<=64:=by omega)(s:m.length<=2^30:=by omega):ac xa 126 #[a] h fun v h'=>v=vU true/\h'=h:=by
 refine MG a ?_;unfold HT;have o:=d.len;refine az (fun k:Nat=>(k:Int)) (fun k h'=>h'=h/\k<=m.length) (fun k=>m.length-k) 0 rfl ⟨rfl,by omega⟩ ?_;rintro k h' ⟨rfl,q⟩;refine al (fun e=>?_) (fun e=>⟨rfl,rfl⟩);have b:k<m.length:=by omega
 refine d.get k rfl b fun r g=>?_;refine d.get 0 rfl (by omega) fun l c=>?_;have i:=g.len;have f:=c.len;rw[j _ (qn _)]at i f;refine ci (fun e=>by omega) fun _=>al (fun e=>by omega) fun _=>?_;exact⟨k+1,by rw[an _];rfl,⟨rfl,by omega⟩,by omega⟩
theorem Bb(a:Sl)(m:aX)(n:Nat)(h:Heap)(d:dU h a 1 aw m)(u:aZ n m)(z:n<=64)(B:m.length<=2^30):ac xa 128 #[a] h fun v h'=>∃(r:Sl) (rs:List Sl),v=r/\rs.length=m.length/\Sp h h' (aj 38 r 1 cF rs::bx 5 1 aw rs m):=by
 refine MH a ?_;unfold HU;have y:=d.len;refine(Sp.refl h).make af cF jy (by decide) ⟨none,0,0⟩ rfl rfl 0 m.length rfl (by omega) (by omega) (by omega) fun s A k E q=>?_;refine az (fun t:Sl×List Sl=>(t.1,(t.2.length:Int))) (fun t h'=>t.2.length<=m.length/\Sp h h' (aj 38 t.1 1 cF t.2::bx 5 1 aw t.2 (m.take t.2.length))) (fun t=>m.length-t.2.length) (s,[]) rfl ⟨by simp,by simpa[bx]using q⟩ ?_;rintro⟨s,rs⟩ g ⟨D,c⟩;dsimp only at*;refine al (fun e=>?_) (fun e=>?_)
 ·have b:rs.length<m.length:=by omega
  refine(d.up c.ah).get rs.length rfl b fun r j=>?_;have l:m[rs.length].length=n:=u _ (qn _);refine(jQ r _ g j).mono ?_;rintro v h3 ⟨w,rfl,p⟩;have f:=c.comp p;refine⟨w,rfl,?_⟩;refine f.push af 0 rfl jy rfl (by decide) (fun _=>rfl) pm w rfl (by decide) (by omega) fun o F i=>?_;refine⟨(o,rs++[w]),by dsimp only;rw[an _];simp,⟨by simp;omega,?_⟩,by simp;omega⟩;dsimp only;rw[show(rs++[w]).length=rs.length+1 by simp,aK _ _ b,pr (by rw[List.length_take];omega)];exact i
 ·have x:m.take rs.length=m:=qi (by omega);rw[x]at c;exact⟨s,rs,rfl,by omega,c⟩
theorem tI(a:Sl)(m:aX)(h:Heap)(b:dU h a 1 aw m):ac xa 127 #[a] h fun v h'=>v=vQ vW (fx m)/\h'=h:=by
 refine IV a ?_;unfold CI;have d:=b.len;refine dN (fun e=>?_) (fun e=>?_)
 ·have:m=[]:=qK (by omega);subst this;exact⟨rfl,rfl⟩
 ·refine b.get 0 rfl (by omega) fun r c=>⟨?_,rfl⟩
  rw[c.len,fx,bI (by omega)]
theorem Lp{r:Row}{c:Nat}(h:c<r.length:=by omega):aJ r c=r[c]:=by rw[aJ,qf,qd h];rfl
theorem MY(a:Sl)(m:aX)(n b bu:Nat)(h:Heap)(q:dU h a 1 aw m)(w:aZ n m)(y:bu<n)(z:m.length<=2^30):
  ac xa 178 #[a,vQ vW b,vQ vW bu] h fun v h'=>v=vQ vW (match ge m b bu with|some i=>(i:Int)|none=>-1)/\h'=h:=by
 refine GM a b bu ?_;unfold AH;have x:=q.len;refine az (fun k:Nat=>(k:Int)) (fun k h'=>h'=h/\b<=k/\k<=max b m.length/\∀j,j<k->(decide (b<=j)&&(aJ (aC m j) bu !=0))=false) (fun k=>m.length-k) b rfl ⟨rfl,by omega,by omega,fun j g=>by rw[decide_eq_false (by omega)];rfl⟩ ?_;rintro k h' ⟨rfl,l,s,g⟩;refine al (fun e=>?_) (fun e=>?_)
 ·rw[ge,OF (fun j f=>g j (by omega))];exact⟨rfl,rfl⟩
 ·have d:k<m.length:=by omega
  have u:m[k].length=n:=w _ (qn _);refine q.get k rfl d fun r t=>?_;refine t.cK bu rfl (by omega) _ rfl ?_;have c:aJ (aC m k) bu=m[k][bu]'(by omega):=by rw[bI d,Lp]
  refine ci (fun p=>?_) (fun p=>?_)
  ·have o:(decide (b<=k)&&(aJ (aC m k) bu !=0))=true:=by
    rw[decide_eq_true l,c];simp;exact fun h0=>p (by rw[h0];rfl)
   rw[ge,OG d g o];exact⟨rfl,rfl⟩
  ·refine⟨k+1,by rw[an _];rfl,⟨rfl,by omega,by omega,fun j f=>?_⟩,by omega⟩;rcases Nat.lt_succ_iff_lt_or_eq.1 f with h1|rfl
   ·exact g j h1
   ·rw[c,Ba.1 p];simp
theorem Pr(f:Addr)(c:UInt8)(a:Sl)(l:Row)(h:Heap)(i:ib h f)(m:Rd h a 1 aw l)(z:l.length<=2^30):ac xa 179 #[vS (some f),vQ vX c.toNat,a] h fun v h'=>∃r:Sl,v=r/\Sp h h' [aj 5 r 1 aw (scaleB c l)]:=by
 refine IY (some f) _ a ?_;unfold CL;have t:=m.len;refine(Jb f h).mono ?_;rintro v j ⟨rfl,rfl⟩;refine⟨some f,rfl,?_⟩;refine(Sp.refl j).make af aw iA (by decide) 0 rfl rfl l.length l.length (by omega) (by omega) (qp _) (by omega) fun s u o x p=>?_;refine az (fun k:Nat=>(k:Int)) (fun k h'=>k<=l.length/\Sp j h' [aj 5 s 1 aw ((l.take k).map (Gf.mul c)++qh (l.length-k) 0)]) (fun k=>l.length-k) 0 rfl ⟨by omega,by simpa using p⟩ ?_;rintro k h3 ⟨w,b⟩;refine al (fun e=>?_) (fun e=>?_)
 ·have d:k<l.length:=by omega
  refine(Seq.up m b.ah).cK k rfl d _ rfl ?_;refine(Lo f c l[k] h3 (i.ah b.ah i.lt)).mono ?_;rintro v y ⟨rfl,rfl⟩;refine⟨_,rfl,?_⟩;refine b.set af 0 rfl (fun _=>rfl) rfl k rfl (by simp;omega) _ rfl rfl rfl fun A n=>?_;refine⟨k+1,by rw[an _];rfl,⟨by omega,?_⟩,by omega⟩;have g:((l.take k).map (Gf.mul c)).length=k:=by simp;omega
  have q:((l.take k).map (Gf.mul c)++qh (l.length-k) 0).set k (Gf.mul c l[k])=(l.take (k+1)).map (Gf.mul c)++qh (l.length-(k+1)) 0:=by
   rw[q9 _ _ (by omega),g,qZ,show l.length-k=l.length-(k+1)+1 by omega,List.replicate_succ,zR,aK _ _ d,za,qm];rfl
  rw[<-q];exact n
 ·have:k=l.length:=by omega
  subst this;refine⟨s,rfl,?_⟩;rw[qi (qp _),qZ,List.replicate_zero,qM]at b;exact b
theorem Bc{c:UInt8}{a t:Row}(d:a.length=t.length){k:Nat}(b:k<t.length):(zP (fun x y=>y^^^Gf.mul c x) (a.take k) (t.take k)++t.drop k).set k (t[k]^^^Gf.mul c (a[k]'(by omega)))=zP (fun x y=>y^^^Gf.mul c x) (a.take (k+1)) (t.take (k+1))++t.drop (k+1):=by
 have e:(zP (fun x y=>y^^^Gf.mul c x) (a.take k) (t.take k)).length=k:=by simp;omega
 rw[q9 _ _ (by omega),e,qZ,qS b,zR,aK _ _ b,aK _ _ (show k<a.length by omega),yV (by simp;omega)];simp
theorem Ud(f:Addr)(c:UInt8)(a to:Sl)(d lt:Row)(h:Heap)(D:ib h f)(q:¬to.on f.block)(A:Seq h (fun b=>¬to.on b) a 1 aw d)(u:Own h 5 to 1 aw lt)(o:d.length=lt.length)(J:d.length<=2^30):
  ac xa 181 #[vS (some f),vQ vX c.toNat,a,to] h fun v h'=>v=.tuple #[]/\Own h' 5 to 1 aw (cX c d lt)/\aG (fun b=>¬to.on b) h h':=by
 refine MJ (some f) _ a to ?_;unfold HW;have H:=A.len;have E:=u.len;refine dN (fun e=>?_) (fun _=>?_)
 ·have G:c=0:=Ba.1 e;subst G;have:cX 0 d lt=lt:=by
   apply List.ext_getElem (by rw[bO o]);intro i z F;simp[cX,Gf.zero_mul]
  exact⟨rfl,by rw[this];exact u,aG.refl _ _⟩
 ·refine az (fun k:Nat=>(k:Int)) (fun k h'=>k<=d.length/\Own h' 5 to 1 aw (zP (fun x y=>y^^^Gf.mul c x) (d.take k) (lt.take k)++lt.drop k)/\aG (fun b=>¬to.on b) h h') (fun k=>d.length-k) 0 rfl ⟨by omega,by simpa using u,aG.refl _ _⟩ ?_;rintro k z ⟨I,g,j⟩;refine al (fun e=>?_) (fun e=>?_)
  ·have r:k<d.length:=by omega
   have s:k<lt.length:=by omega
   have n:(zP (fun x y=>y^^^Gf.mul c x) (d.take k) (lt.take k)).length=k:=by simp;omega
   have B:(zP (fun x y=>y^^^Gf.mul c x) (d.take k) (lt.take k)++lt.drop k).length=lt.length:=by rw[qw,n,List.length_drop];omega
   refine(A.ah j).cK k rfl r _ rfl ?_;have l:(zP (fun x y=>y^^^Gf.mul c x) (d.take k) (lt.take k)++lt.drop k)[k]'(by omega)=lt[k]:=by
    rw[List.getElem_append_right (by omega)];simp[n]
   refine(g.seq (p:=fun _=>True) (fun _=>rfl) fun _ _=>trivial).kA k rfl (by omega) _ rfl fun ax m=>?_;rw[l]at m⊢;refine(Lo f c d[k] z (D.ah j q)).mono ?_;rintro v F ⟨rfl,rfl⟩;refine⟨_,rfl,⟨m,trivial⟩,?_⟩;dsimp only;rw[tG];refine g.set af (fun _=>rfl) rfl k rfl (by omega) _ rfl rfl rfl fun h3 t w _=>⟨trivial,?_⟩
   refine⟨k+1,by rw[an _];rfl,⟨by omega,?_,j.trans w⟩,by omega⟩;rw[<-Bc o s];exact t
  ·have:k=d.length:=by omega
   subst this;rw[qi (qp _),qi (by omega),zd (by omega),qM]at g;exact⟨rfl,g,j⟩
abbrev mI(a:Sl)(rs:List Sl)(m:aX):List HP:=aj 38 a 1 cF rs::bx 5 1 aw rs m
theorem tJ{a:Sl}{rs:List Sl}{m:aX}(c:rs.length=m.length)(i:Nat)(b:i<m.length):(mI a rs m)[i+1]?=some (aj 5 (rs[i]'(by omega)) 1 aw m[i]):=by
 rw[qo];exact gO c i b
theorem Wp{h c:Heap}{a:Addr}{v:Value}(d:cellOf h a=some v)(e:aG (fun b=>b<h.size) h c):cellOf c a=some v:=e.cell (cC d) d
theorem RK{B:ap}{E:Heap}{f:Addr}(N:ib E f)(J:B f.block){a:Sl}{n c bu:Nat}{rs:List Sl}{m:aX}(V:rs.length=m.length)(X:aZ n m)(hc:bu<n)(hn:n<=64)(Y:c<m.length)(hs:m.length<=2^30)
  {h:Heap} (H:aa B E h (mI a rs m)) {K:Heap->Prop} (hk:∀h',aa B E h' (mI a rs (dv c bu m m.length))->K h'):
 aN (σ:=Int) (fun d U i=>
 Br (decide (d<((a.len:Nat):Int)))
 (Br (d !=(c:Int))
 (∃r:Addr,(a.ptr=some r/\0<=d/\d<((a.len:Nat):Int))/\
 ∃g:Sl,cellOf i (r.add (d.toNat*1))=some (vR g.ptr g.len g.cap)/\
 ∃y:Addr,(g.ptr=some y/\0<=(bu:Int)/\(bu:Int)<((g.len:Nat):Int))/\
 ∃F:Int,cellOf i (y.add ((bu:Int).toNat*1))=some (vQ vX F)/\
 ∃a25:Addr,(a.ptr=some a25/\0<=(c:Int)/\(c:Int)<((a.len:Nat):Int))/\
 ∃l:Sl,cellOf i (a25.add ((c:Int).toNat*1))=some (vR l.ptr l.len l.cap)/\
 ∃A:Addr,(a.ptr=some A/\0<=d/\d<((a.len:Nat):Int))/\
 ∃j:Sl,cellOf i (A.add (d.toNat*1))=some (vR j.ptr j.len j.cap)/\
 ae xa 181 #[(vS (some f)),(vQ vX F),(vR l.ptr l.len l.cap),(vR j.ptr j.len j.cap)] (.many []) i fun _ z=>
 (aB.ok [(r.add (d.toNat*1),(vR g.ptr g.len g.cap))] z)/\
 U (qc vW (d+(1:Int))) z)
 (U (qc vW (d+(1:Int))) i))
 (K i)) (0:Int) h:=by
 have am:a.len=m.length:=by rw[(H.own 0 rfl).len,V]
 refine az (fun k:Nat=>(k:Int)) (fun k h'=>k<=m.length/\aa B E h' (mI a rs (dv c bu m k))) (fun k=>m.length-k) 0 rfl ⟨by omega,by rw[QF];exact H⟩ ?_;rintro k Z ⟨ad,o⟩;have L:=lC c bu m k;have w:rs.length=(dv c bu m k).length:=by rw[L];exact V
 refine al (fun e=>?_) (fun e=>?_)
 ·have t:k<m.length:=by omega
  refine ci (fun e2=>?_) (fun e2=>?_)
  ·have u:k≠c:=fun hh=>e2 (by rw[hh]);have R:aC (dv c bu m k) k=aC m k:=by rw[ne t,if_neg (by omega)]
   have Q:aC (dv c bu m k) c=aC m c:=by rw[ne Y,if_neg (by omega)]
   have e4:(dv c bu m k)[k]'(by omega)=aC m k:=by rw[<-R,bI]
   have e5:(dv c bu m k)[c]'(by omega)=aC m c:=by rw[<-Q,bI]
   have x:=tJ (a:=a) w k (by omega);have W:=tJ (a:=a) w c (by omega);rw[e4]at x;rw[e5]at W;have lk:=cj X t;have lt:=cj X Y;have q:=o.off (k+1) 0 (by omega) x rfl;have s:=q.1.seq (fun _=>rfl) q.2;refine s.si k rfl (by omega) fun a1 O S=>?_;have M:=o.seq (k+1) x (fun _=>rfl);refine M.cK bu rfl (by omega) _ rfl ?_;refine s.si c rfl (by omega) fun _ _ _=>?_;refine s.si k rfl (by omega) fun _ _ _=>?_;have D:(jo (rs[c]'(by omega)) 1 aw (aC m c)).p Z (fun b=>¬(rs[k]'(by omega)).on b):=by
    have:=o.off (k+1) (c+1) (by omega) x W;exact(this.1.seq (fun _=>rfl) this.2).mono fun b hb=>hb.2
   refine(Ud f _ _ _ (aC m c) (aC m k) Z (N.ah o.ah J) (o.base (k+1) x J) D (o.own (k+1) x) (by omega) (by omega)).mono ?_;rintro v h2 ⟨rfl,T,I⟩;have H2:=o.jN (k+1) x I T;have P:=I.cell S.2 O;refine⟨(),rfl,⟨P,trivial⟩,?_⟩;refine⟨k+1,by rw[an _];rfl,⟨by omega,?_⟩,by omega⟩;rw[QG t u];show aa B E h2 (aj 38 a 1 cF rs::bx 5 1 aw rs ((dv c bu m k).set k _));rw[<-JT w k (by omega)];have G:(aC m k)[bu]'(by omega)=aJ (aC m k) bu:=(Lp).symm;rw[G]at H2;exact H2
  ·have u:k=c:=by omega
   subst u;exact⟨k+1,by rw[an _];rfl,⟨by omega,by rw[QH];exact o⟩,by omega⟩
 ·have:k=m.length:=by omega
  subst this;exact hk _ o
theorem Lq{rs:List Sl}{m:aX}(a:rs.length=m.length)(i j:Nat)(c:i<m.length)(b:j<m.length):
  ((bx 5 1 aw rs m).set i (aj 5 (rs[j]'(by omega)) 1 aw m[j])).set j (aj 5 (rs[i]'(by omega)) 1 aw m[i])=bx 5 1 aw ((rs.set i (rs[j]'(by omega))).set j (rs[i]'(by omega))) (gA m i j):=by
 rw[kW a,kW (by simpa using a),gA,bI c,bI b]
theorem CR{B:ap}{u:Heap}{f:Addr}(O:ib u f)(R:B f.block){a:Sl}{n fp:Nat}{rs:List Sl}{m:aX}(hl:rs.length=m.length)(hm:aZ n m)(hc:fp<=n)(hn:n<=64)(hs:m.length<=2^30)
  {h:Heap} (H:aa B u h (mI a rs m)):ac xa 129 #[vS (some f),a,vQ vW fp] h fun v h'=>
   ∃L:List Sl,v=vQ vW (bz m fp).1/\L.length=m.length/\aa B u h' (mI a L (bz m fp).2):=by
 have am:a.len=m.length:=by rw[(H.own 0 rfl).len,hl]
 refine GJ (some f) a fp ?_;unfold AC;refine az (fun t:List Sl×Nat=>(((bz m t.2).1:Int),(t.2:Int))) (fun t h'=>t.2<=fp/\t.1.length=m.length/\aa B u h' (mI a t.1 (bz m t.2).2)) (fun t=>fp-t.2) (rs,0) rfl ⟨by simp,hl,H⟩ ?_;rintro⟨c,bu⟩ h1 ⟨hk,N,J⟩;dsimp only at*;have w:=gP hm bu;have D:=un m bu;obtain⟨Y,x⟩:∃Y,Y=bz m bu:=⟨_,rfl⟩
 rw[<-x]at w D J⊢;obtain⟨b,l⟩:=Y;dsimp only at w D J⊢;have s:c.length=l.length:=by omega
 have g:bz m (bu+1)=gB (b,l) bu:=by rw[bz,<-x]
 refine al (fun e=>?_) (fun e=>?_)
 ·have P:bu<n:=by omega
  have Q:dU h1 a 1 aw l:=J.JU s (fun _=>rfl);refine(MY a l n b bu h1 Q w.1 P (by omega)).mono ?_;rintro v h2 ⟨rfl,rfl⟩;refine⟨_,rfl,?_⟩;dsimp only;cases hb:ge l b bu with
  |none=>
   refine al (fun _=>?_) (fun e2=>absurd (by decide) e2);refine⟨(c,bu+1),?_,⟨by dsimp only;omega,N,?_⟩,by dsimp only;omega⟩
   ·dsimp only;rw[g,gB,hb,an _];rfl
   ·dsimp only;rw[g,gB,hb];exact J
  |some i=>
   have hh:=nD hb;refine al (fun e2=>absurd (show((i:Nat):Int)<0 from e2) (by omega)) (fun _=>?_);dsimp only;have K:b<l.length:=by omega
   have hi:=hh.2.1;have U:=J.seq 0 rfl (fun _=>rfl);refine aU ?_;refine U.si i rfl (by omega) fun _ _ _=>?_;refine U.si b rfl (by omega) fun _ _ _=>?_;refine J.set af 0 rfl (fun _=>rfl) rfl b rfl (by omega) (c[i]'(by omega)) rfl rfl rfl fun h3 H3=>⟨trivial,?_⟩
   refine H3.set af 0 rfl (fun _=>rfl) rfl i rfl (by simp;omega) (c[b]'(by omega)) rfl rfl rfl fun W H4=>⟨trivial,?_⟩
   have o:aa B u W (mI a ((c.set b (c[i]'(by omega))).set i (c[b]'(by omega))) (gA l b i)):=by
    have:=H4.UQ (b+1) (i+1) (A:=aj 5 (c[b]'(by omega)) 1 aw l[b]) (A2:=aj 5 (c[i]'(by omega)) 1 aw l[i]) (gO s b K) (gO s i hi);show aa B u W (aj 38 a 1 cF _::bx 5 1 aw _ _);rw[<-Lq s b i K hi];exact this
   obtain⟨k,E⟩:∃k,k=(c.set b (c[i]'(by omega))).set i (c[b]'(by omega)):=⟨_,rfl⟩
   rw[<-E]at o;have a0:k.length=l.length:=by rw[E];simp;omega
   obtain⟨d,y⟩:∃d,d=gA l b i:=⟨_,rfl⟩
   have z:aZ n d:=by rw[y];exact zS w.1 K hi
   have V:d.length=l.length:=by rw[y];exact jg _ _ _
   rw[<-y]at o;have q:k.length=d.length:=by omega
   have j:b<d.length:=by omega
   refine aU ?_;have gt:=tJ (a:=a) q b j;have lt:d[b].length=n:=z _ (qn _);have T:=o.seq 0 rfl (fun _=>rfl);refine T.si b rfl (by omega) fun ax G _=>?_;have F:=o.seq (b+1) gt (fun _=>rfl);refine F.cK bu rfl (by omega) _ rfl ?_;refine T.si b rfl (by omega) fun ay M _=>?_;have S:ib W f:=O.ah o.ah R;refine(TZ f _ W S).mono ?_;rintro v h5 ⟨rfl,rfl⟩;refine⟨_,rfl,⟨M,G,trivial⟩,?_⟩;refine(Pr f _ _ _ h5 S F (by omega)).mono ?_;rintro v h6 ⟨r,rfl,R6⟩;refine⟨r,rfl,⟨Wp G R6.ah,trivial⟩,?_⟩;have H6:=o.comp R6;dsimp only;refine H6.set af 0 rfl (fun _=>rfl) rfl b rfl (by omega) r rfl rfl rfl fun h7 H7=>⟨trivial,?_⟩
   have Z:d[b]=aC d b:=(bI j).symm;have ad:(d[b])[bu]'(by omega)=aJ (aC d b) bu:=by rw[Lp (by rw[bI j];omega)];simp only[bI j]
   have X:aa B u h7 (mI a (k.set b r) (ig b bu d)):=by
    have h8:aa B u h7 ((aj 38 a 1 cF (k.set b r)::bx 5 1 aw k d)++[aj 5 r 1 aw (scaleB (Gf.inv ((d[b])[bu]'(by omega))) d[b])]):=H7;have h9:=h8.WW (b+1) (by simp[Cq q];omega);rw[ad,Z]at h9;show aa B u h7 (aj 38 a 1 cF _::bx 5 1 aw _ (d.set b _));rw[<-kW q];exact h9
   have I:(ig b bu d).length=d.length:=lB _ _ _;refine RK O R (by simp;omega) (ry z j) P hn (by omega) (by omega) X fun h8 H8=>?_;have p:gB (b,l) bu=(b+1,dv b bu (ig b bu d) l.length):=by
    rw[gB];dsimp only;rw[hb,y]
   refine⟨(k.set b r,bu+1),?_,⟨by dsimp only;omega,by simp;omega,?_⟩,by dsimp only;omega⟩
   ·dsimp only;rw[g,p,an _,an _];rfl
   ·dsimp only;rw[g,p];rw[I,V]at H8;exact H8
 ·have:bu=fp:=by omega
  subst this;exact⟨c,by rw[<-x],N,by rw[<-x];exact J⟩
theorem MZ(f:Addr)(a:Sl)(m:aX)(n:Nat)(h:Heap)(s:ib h f)(z:dU h a 1 aw m)(i:aZ n m)(k:n<=64)(q:m.length<=2^30):
  ac xa 241 #[vS (some f),a] h fun v h'=>∃(r:Sl) (rs:List Sl),v=r/\r.len=cU m/\rs.length=m.length/\r.len<=m.length/\Sp h h' (mI ⟨r.ptr,m.length,r.cap⟩ rs (bz m (fx m)).2):=by
 refine GQ (some f) a ?_;unfold AN;refine(pY a m n h z i k q).mono ?_;rintro v D ⟨rfl,rfl⟩;refine⟨_,rfl,aW (fun e=>by cases e) fun _=>?_⟩;refine(Bb a m n D z i k q).mono ?_;rintro v B ⟨r,rs,rfl,u,y⟩;refine⟨r,rfl,(xy f B).mono ?_⟩;rintro v h3 ⟨rfl,rfl⟩;refine⟨some f,rfl,(tI r m h3 (y.JU u (fun _=>rfl))).mono ?_⟩;rintro v E ⟨rfl,rfl⟩;have A:fx m<=n:=by
  cases m with
  |nil=>simp[fx,aC]
  |cons x t=>rw[fx,bI (by simp)];exact Nat.le_of_eq (i _ (by simp))
 refine⟨_,rfl,(CR s s.lt u i A k q y).mono ?_⟩;rintro v F ⟨j,rfl,g,o⟩;have b:=un m (fx m);rw[(gP i _).2]at b;have w:=(o.own 0 rfl).cap;have d:=(o.own 0 rfl).len;refine⟨_,rfl,⟨yC _,yQ.2 (show(bz m (fx m)).1<=r.cap by omega)⟩,⟨r.ptr,(bz m (fx m)).1,r.cap⟩,j,by simp,rfl,g,b,?_⟩;have:r=⟨r.ptr,m.length,r.cap⟩:=by
  obtain⟨p,l,c⟩:=r;simp only at d⊢;rw[<-g,<-d]
 rw[<-this];exact o
theorem RL(f:Addr)(a:Sl)(m:aX)(n:Nat)(h:Heap)(b:ib h f)(g:dU h a 1 aw m)(e:aZ n m)(j:n<=64)(i:m.length<=2^30):
  ac xa 218 #[vS (some f),a] h fun v h'=>v=vQ vW (cU m)/\Sp h h' []:=by
 refine La (some f) a ?_;unfold Fs;refine(MZ f a m n h b g e j i).mono ?_;rintro v k ⟨r,rs,rfl,c,_,_,d⟩;exact⟨r,rfl,by rw[c],.zip d.ah⟩
theorem DS(p:Pm)(seed:Int)(b:Sl)(l:aD)(h:Heap)(m:Rd h b 1 aE l)(n:l.length<=2^29):ac xa 177 #[kP p,vQ vY seed,b] h fun v h'=>v=vQ vW (Jt p seed l)/\Sp h h' []:=by
 refine Fm p seed b ?_;unfold xu;refine(Sp.refl h).boxed fun a t i=>?_;refine⟨p,(i.box 0 rfl).aF _ rfl,(uU t).mono ?_⟩;rintro v o ⟨f,rfl,s⟩;have g:=i.comp s;have e:=g.box 0 rfl;refine⟨some f,rfl,⟨e.cell0 rfl,e.cell rfl,e.cell rfl,trivial⟩,?_⟩;refine(CQ p seed b l o (Seq.up m g.ah) (by omega)).mono ?_;rintro v h3 ⟨r,rfl,u⟩;have c:=g.comp u;refine⟨r,rfl,trivial,?_⟩;have j:=Tv p seed l;have d:(cG p).toNat<=64:=by
  unfold cG;split
  ·rename_i q;have:=(cb p).1 q;omega
  ·omega
 refine(RL f r _ _ h3 (c.box 1 rfl) (c.Ek 2 rfl) (Ah p seed l) d (by omega)).mono ?_;rintro v w ⟨rfl,k⟩;exact⟨_,rfl,trivial,rfl,.zip (c.comp k).ah⟩
theorem RM(p:Pm)(seed:Int)(b:Sl)(l:aD)(h:Heap)(m:Rd h b 1 aE l)(f:l.length<=2^29):ac xa 125 #[kP p,vQ vY seed,b] h fun v h'=>v=vU (jt p seed l)/\Sp h h' []:=by
 refine Fa p seed b ?_;unfold xl;refine(Sp.refl h).boxed fun a q j=>?_;refine⟨p,(j.box 0 rfl).aF _ rfl,(dR p q).mono ?_⟩;rintro v n ⟨rfl,o⟩;have d:=j.comp o;refine⟨_,rfl,trivial,bq (fun e=>?_) (fun e=>⟨trivial,trivial,by rw[jt,e];rfl,.zip d.ah⟩)⟩;have i:=d.box 0 rfl;refine⟨p,i.aF _ rfl,p,i.aF _ rfl,(DS p seed b l n (Seq.up m d.ah) f).mono ?_⟩;rintro v h3 ⟨rfl,r⟩;have g:=d.comp r;have c:=g.box 0 rfl;refine⟨_,rfl,⟨c.cell0 rfl,c.cell rfl,c.cell rfl,trivial⟩,(lu p h3).mono ?_⟩;rintro v s ⟨rfl,k⟩;exact⟨_,rfl,trivial,by rw[jt,e];rfl,.zip (g.comp k).ah⟩
theorem FF(p:Pm)(seed:Int)(h:Heap):ac xa 99 #[kP p,vQ vY seed] h fun v h'=>v=vU (jt p seed (ea p))/\Sp h h' []:=by
 refine DB p seed ?_;unfold ta;refine(Sp.refl h).boxed fun a j d=>?_;have e:=d.box 0 rfl;refine⟨p,e.aF _ rfl,p,e.aF _ rfl,(FE p j).mono ?_⟩;rintro v f ⟨r,rfl,g⟩;have c:=d.comp g;have b:=c.box 0 rfl;refine⟨r,rfl,⟨b.cell0 rfl,b.cell rfl,b.cell rfl,trivial⟩,(RM p seed r _ f (c.seq 1 rfl (fun _=>rfl)) (by rw[fw];omega)).mono ?_⟩;rintro v h3 ⟨rfl,i⟩;exact⟨_,rfl,trivial,rfl,.zip (c.comp i).ah⟩
theorem Ue(p:Pm)(o b:Int)(h:Heap):ac xa 60 #[kP p,vQ vW o,vQ vW b] h fun v h'=>
  v=.tuple #[vQ vW (((mG p o b).getD 0:Nat):Int),vU (mG p o b).isSome]/\Sp h h' []:=by
 refine IN p o b ?_;unfold CB;refine(Sp.refl h).boxed fun w A s=>?_;have s:Sp h A [ag w 24 [vQ vW p.1,vQ vW p.2.1,vQ vW p.2.2]]:=s;refine az (fun i:Nat=>(i:Int)) (fun i h'=>i<=16/\(∀k,k<i->FC p o b k=false)/\Sp h h' [ag w 24 [vQ vW p.1,vQ vW p.2.1,vQ vW p.2.2]]) (fun i=>16-i) 0 rfl ⟨by omega,fun k f=>absurd f (Nat.not_lt_zero k),s⟩ ?_;rintro i y ⟨D,c,q⟩;refine al (fun e=>?_) fun e=>?_
 ·have z:i<16:=by omega
  have a:=q.box 0 rfl;refine⟨p,a.aF _ rfl,(uR _ _ _ y).mono ?_⟩;rintro _ h3 ⟨rfl,rfl⟩;refine⟨_,rfl,⟨a.cell0 rfl,a.cell rfl,a.cell rfl,trivial⟩,(FF p _ h3).mono ?_⟩;rintro _ E ⟨rfl,x⟩;have t:=q.up x.ah;refine⟨_,rfl,trivial,bq (fun g=>?_) fun g=>?_⟩
  ·have n:mG p o b=some i:=by
    unfold mG;refine List.find?_eq_some_iff_append.2 ⟨g,qD i,(qD (15-i)).map (·+(i+1)),?_,fun k f=>?_⟩
    ·apply zr;intro j;by_cases u:j<i
     ·rw[ql (by simpa using u),zb (by omega),zb u]
     ·rw[qg (by simp;omega),zt];by_cases m:j=i
      ·subst m;rw[qZ,zb (by omega)];rfl
      ·obtain⟨d,B⟩:∃d,j=i+(d+1):=⟨j-i-1,by omega⟩
       subst B;rw[zg,qo,qP];by_cases r:d<15-i
       ·rw[zb r,zb (by omega)];simp;omega
       ·rw[qX (by simp;omega),qX (by simp;omega)];rfl
    ·rw[c k (qF.1 f)];rfl
   rw[n];exact⟨rfl,.zip t.ah⟩
  ·refine⟨i+1,by rw[an _];rfl,⟨by omega,fun k f=>?_,t⟩,by omega⟩;by_cases l:k<i
   ·exact c k l
   ·have:k=i:=by omega
    subst this;exact g
 ·have n:mG p o b=none:=by
   unfold mG;rw[List.find?_eq_none];intro k f;rw[c k (by have:=qF.1 f;omega)];simp
  rw[n];exact⟨rfl,.zip q.ah⟩
theorem Ps(p:Pm)(o:Int)(n:Nat)(h:Heap)(J:n<=2^30):ac xa 30 #[kP p,vQ vW o,vQ vW n] h fun v h'=>
  (ck p o n=none->v=.tuple #[vR none 0 0,vU false]/\Sp h h' [])/\
  (∀l,ck p o n=some l->∃r:Sl,v=.tuple #[r,vU true]/\Sp h h' [aj 3 r 1 aE l]):=by
 refine EI p o n ?_;unfold ws;refine(Sp.refl h).boxed fun w D m=>?_;have m:Sp h D [aj 3 ⟨none,0,0⟩ 1 aE [],ag w 24 [vQ vW p.1,vQ vW p.2.1,vQ vW p.2.2]]:=(m.nil 3 1 aE).ca [1,0];refine az (fun t:Sl×Nat×aD=>(t.1,(t.2.1:Int))) (fun t h'=>t.2.1<=n/\ck p o t.2.1=some t.2.2/\Sp h h' [aj 3 t.1 1 aE t.2.2,ag w 24 [vQ vW p.1,vQ vW p.2.1,vQ vW p.2.2]]) (fun t=>n-t.2.1) (⟨none,0,0⟩,0,[]) rfl ⟨by simp,rfl,m⟩ ?_;rintro⟨s,i,l⟩ z ⟨H,c,f⟩;dsimp only at*;have x:=jA c;have b:∀j,mG p o i=none->j<=n-(i+1)->ck p o (i+1+j)=none:=fun j k=>by
  induction j with
  |zero=>intro _;show ck p o (i+1)=none;unfold ck;rw[c,k];rfl
  |succ j ih=>intro G;show ck p o ((i+1+j)+1)=none;unfold ck;rw[ih (by omega)];rfl
 refine al (fun e=>?_) fun e=>?_
 ·have B:i<n:=by omega
  refine⟨p,(f.box 1 rfl).aF _ rfl,(Ue p o i z).mono ?_⟩;rintro _ h3 ⟨rfl,E⟩;have q:=f.up E.ah;refine⟨(_,_),rfl,aW (fun g=>?_) fun g=>?_⟩
  ·have a:ck p o n=none:=by
    have:=b (n-(i+1)) (Option.isSome_eq_false_iff.1 g|>Option.isNone_iff_eq_none.1) (qp _);rw[show i+1+(n-(i+1))=n by omega]at this;exact this
   rw[a];exact⟨fun _=>⟨rfl,.zip q.ah⟩,fun l h=>by cases h⟩
  ·obtain⟨t,u⟩:∃t,mG p o i=some t:=Option.isSome_iff_exists.1 g;rw[u];refine q.push af 0 rfl kS rfl (by decide) (fun _=>rfl) iU (t:Int) rfl (by decide) (by omega) fun A I y=>?_;refine⟨(A,i+1,l++[(t:Int)]),by dsimp only;rw[an _];rfl,⟨by dsimp only;omega,?_,y⟩,by dsimp only;omega⟩;show ck p o (i+1)=_;unfold ck;rw[c,u];rfl
 ·have d:i=n:=by omega
  subst d;rw[c];exact⟨fun h=>(by cases h),fun F h=>(by injection h with h;subst h;exact⟨s,rfl,f.ca [0]⟩)⟩
end Go.Qw
namespace Wl
open Go
def jc(m:ar)(l:bR):bR:=(mg m l).map dp
def eU(m:ar)(l:bR):bR:=aP m++jc m l
def fi(d:bf)(a:Nat)(n:Int):Bool:=decide (max n 0<=(d.room:Int)-a)
def kJ(m:ar)(d:bf)(n:Int):Bool:=!d.lost&&(fi d d.l.length n||fi d (eU m d.l).length n)
def fQ(m:ar)(w:Pow)(d:bf)(n:Int):Int×Pow×bf:=
 if d.lost then(5,w,d)else if !kJ m d n then(7,w,d)else if fi d d.l.length n then(0,w,d)else d.rewrite w (eU m d.l)
theorem Uf(l:List di):(Do l).length<=l.length:=by
 unfold Do;rw[qC];exact zH (zJ _ _) (by simp)
theorem Ii(m:ar)(l:bR):(mg m l).length<=l.length:=by
 unfold mg;refine zH (Uf _) ?_;rw[zT];exact List.length_filterMap_le _ _
theorem oS(m:ar)(l:bR):(jc m l).length<=l.length:=by unfold jc;rw[qC];exact Ii m l
end Wl
namespace Go.Qw
open Go Go.Vc Go.Proofs Wl
section
variable {B:ap} {h0 h:Heap} {As:List HP} {a pw:Addr} {d:bf} {w:Pow}
theorem dc.rewrite{l:bR}(h:dc d):dc (d.rewrite w l).2.2:=by
 unfold bf.rewrite;split
 ·exact h
 ·rename_i b;split
  ·exact h
  ·split
   ·exact h
   ·rename_i e;have a:∀c∈l,c.length=64:=by simpa using b
    split
    ·exact h
    ·split
     ·exact⟨zo _,by dsimp only;omega,h.room,a,zo _,by simp⟩
     ·exact⟨h.wait,h.len,h.room,h.cell,by dsimp only;omega,a⟩
theorem Bd(x:Sl)(l:bR)(H:aa B h0 h (fq pw a d::bP 56 pw w::As))(O:St B h0 As fun h=>dU h x 1 aw l)(N:l.length<=2^20)(t:∀c∈l,c.length<=2^20):
  ac xa 44 #[vS (some a),x] h fun v h'=>v=vQ vW (d.rewrite w l).1/\aa B h0 h' (fq pw a (d.rewrite w l).2.2::bP 56 pw (d.rewrite w l).2.1::As):=by
 refine rl (some a) x ?_;unfold lS;have M:=O.at [_,_] H;have R:=M.len;have p:=dc.rewrite (w:=w) (l:=l) (And.left (id H).nF);have j:∀(e:Int),d.rewrite w l=(e,w,d)->(Value.int .i64 e=vQ vW (d.rewrite w l).1/\aa B h0 h (fq pw a (d.rewrite w l).2.2::bP 56 pw (d.rewrite w l).2.1::As)):=fun e X=>by
  rw[X];exact⟨rfl,H⟩
 refine az (fun i:Nat=>(i:Int)) (fun i h'=>i<=l.length/\(∀c∈l.take i,c.length=64)/\h'=h) (fun i=>l.length-i) 0 rfl ⟨by omega,by simp,rfl⟩ ?_;rintro i h1 ⟨hi,f,rfl⟩;refine al (fun e=>?_) fun e=>?_
 ·have n:i<l.length:=by omega
  refine M.get i rfl n fun r U=>?_;have V:=U.len;refine ci (fun Z=>j 1 ?_) fun Z=>?_
  ·unfold bf.rewrite;rw[if_pos];rw[wW,yJ];exact⟨l[i],qn n,by simp;omega⟩
  ·refine⟨i+1,by rw[an _];rfl,⟨by omega,fun c k=>?_,rfl⟩,by omega⟩;rw[aK _ _ n]at k;rcases qH.1 k with k|k
   ·exact f c k
   ·rw[qB.1 k];omega
 have f:∀c∈l,c.length=64:=by rw[qi (by omega)]at f;exact f
 have m:(!l.all fun b=>decide (b.length=64))=false:=by
  rw[Bool.not_eq_false',qU];exact fun c k=>decide_eq_true (f c k)
 have A:d.rewrite w l=(if d.lost then(5,w,d)else if d.room<l.length then(7,w,d)else if w.off then(14,w,d)else if w.step.1 then(0,w.step.2,{d with l:=l,wait:=0,laid:=[],has:=false})else(14,w.step.2,{d with laid:=l,has:=true})):=by
  unfold bf.rewrite;rw[m];rfl
 obtain⟨ok,s,b,L⟩:=H.nF;have z:=L.box 0 rfl;refine aU (aU (bq (fun e=>by cases e) fun _=>⟨a,rfl,d.lost,z.cell rfl,bq (fun e=>j 5 (by rw[A,if_pos e])) fun g=>?_⟩));refine⟨a,rfl,(d.room:Int),z.cell rfl,al (fun e=>j 7 (by rw[A,if_neg (by simp[g]),if_pos (by omega)])) fun I=>?_⟩;obtain⟨W,T,G⟩:=(L.bj 4 [3,0,1,2]).pd;refine⟨a,rfl,some pw,z.cell0 rfl,(BX W (G.box 0 rfl)).mono ?_⟩;rintro _ h2 ⟨rfl,rfl⟩;refine⟨_,rfl,aW (fun e=>j 14 ?_) fun q=>?_⟩
 ·rw[A,if_neg (by simp[g]),if_neg (by omega),if_pos (by simpa using e)]
 have o:w.off=false:=by simpa using q
 have y:d.rewrite w l=(if w.step.1 then(0,w.step.2,{d with l:=l,wait:=0,laid:=[],has:=false})else(14,w.step.2,{d with laid:=l,has:=true})):=by
  rw[A,if_neg (by simp[g]),if_neg (by omega),if_neg (by simp[o])]
 refine⟨a,rfl,some pw,z.cell0 rfl,(AP (L.bj 4 [3,0,1,2])).mono ?_⟩;rintro _ P ⟨rfl,D⟩;have u:=O.at [_,_,_,_] D;refine⟨_,rfl,aW (fun e=>?_) fun e=>?_⟩
 ·rw[y,if_neg (by simp[e])]at p⊢;refine(pU x l P u N t).mono ?_;rintro _ S ⟨r,rfl,J⟩;have K:=(D.cM J).bj 5 [2,3,0,1];refine⟨r,rfl,a,rfl,K.store af 0 rfl rfl 4 [r] rfl rfl rfl (by simp[eK]) fun Y F=>?_⟩;refine⟨a,rfl,F.store af 0 rfl rfl 5 [vU true] rfl rfl rfl (by simp[eK]) fun h8 E=>⟨rfl,?_⟩⟩;exact aa.tv (s:=s) (b:=r) p E
 ·rw[y,if_pos e]at p⊢;refine(pU x l P u N t).mono ?_;rintro _ S ⟨r,rfl,J⟩;have K:=(D.cM J).bj 5 [2,0,4,1];refine⟨r,rfl,a,rfl,K.store af 0 rfl rfl 2 [r] rfl rfl rfl (by simp[eK]) fun Y F=>?_⟩;refine⟨a,rfl,F.store af 0 rfl rfl 3 [vQ vW 0] rfl rfl rfl (by simp[eK]) fun h8 E=>?_⟩;refine(AQ (d:={d with l:=l,wait:=0}) r b _ E ⟨zo _,by dsimp only;omega,ok.room,f,ok.laid,ok.cellL⟩ rfl).mono ?_;rintro _ h9 ⟨rfl,Q⟩;exact⟨0,rfl,rfl,Q⟩
theorem sC(s b:Sl)(c:Nat)(n:Int)(e:bZ h a 70 (eK pw d s b))(g:d.room<=512)(f:c<=2^40:=by omega):ac xa 118 #[vS (some a),vQ vW c,vQ vW n] h fun v h'=>v=vU (fi d c n)/\h'=h:=by
 refine EZ (some a) c n ?_;unfold xk;refine(AR s b e).mono ?_;rintro _ _ ⟨rfl,rfl⟩;refine⟨_,rfl,?_,rfl⟩;rw[an ((d.room:Int)-c)];unfold fi;congr 1;rw[decide_eq_decide];split<;>omega
theorem FG(s b:Sl)(x:bn)(m:ar)(D:bZ h a 70 (eK pw d s b))(J:dU h s 1 aw d.l)(ok:dc d)(I:eS h x m)(T:cn m):
  ac xa 79 #[vS (some a),cN x] h fun v h'=>∃r:Sl,v=r/\Sp h h' [cz r (jc m d.l)]:=by
 refine GF (some a) x ?_;unfold Ax;have E:=ok.len;have n:=ok.room;refine(Sp.refl h).boxed fun W R j=>?_;refine⟨x,(j.box 0 rfl).aF _ rfl,(Ll a pw d s b x m R (D.ah j.ah D.lt) (J.up j.ah) ok (I.up j.ah) T).mono ?_⟩;rintro _ V ⟨r,c,rfl,P⟩;have z:=(j.cM P).Di 38 5 1 aw;refine⟨r,rfl,?_⟩;have q:=Ii m d.l;obtain⟨L,A⟩:∃L,L=mg m d.l:=⟨_,rfl⟩
 have p:(jc m d.l)=L.map dp:=by unfold jc;rw[A]
 rw[<-A]at z q;rw[p];have B:=z.jY 1 rfl;have G:=B.2.1;have y:=B.1.len;refine az (fun t:Sl×Nat=>(t.1,(t.2:Int))) (fun t h'=>t.2<=L.length/\Sp h h' [cz t.1 ((L.map dp).take t.2),eG ey 8 bD r c L]) (fun t=>L.length-t.2) (⟨none,0,0⟩,0) rfl ⟨by simp,z.ca [0,1]⟩ ?_;rintro⟨o,i⟩ h3 ⟨X,k⟩;dsimp only at*;have N:=k.jY 1 rfl;refine al (fun e=>?_) (fun e=>?_)
 ·have w:i<L.length:=by omega
  refine N.1.dE (g:=bD) i rfl (by omega) (c[i]'(by omega)) rfl ?_;refine k.alloc af rfl fun K Y M=>?_;refine M.storeAll af 2 rfl rfl (bD (c[i]'(by omega))) rfl rfl rfl rfl fun F f=>?_;have f:Sp h F [cz o ((L.map dp).take i),eG ey 8 bD r c L,ag K 119 (bD (c[i]'(by omega)))]:=f;refine⟨c[i]'(by omega),(f.box 2 rfl).aF _ rfl,(sA _ L[i] F (Fix.row (f.jY 1 rfl) w)).mono ?_⟩;rintro _ U ⟨u,rfl,O⟩;have S:=(f.cM O).bj 3 [1,0,2];refine⟨u,rfl,S.Ep af jy (by simp;omega) fun Q h8 H=>?_⟩;refine⟨(Q,i+1),by dsimp only;rw[an _];rfl,⟨by dsimp only;omega,?_⟩,by dsimp only;omega⟩;dsimp only;rw[aK _ _ (show i<(L.map dp).length by simp;omega),yt];exact H.ca [0,1]
 ·rw[qi (by simp;omega)]at k;exact⟨o,rfl,k.ca [0]⟩
end
section
variable {B:ap} {h0 h:Heap} {As:List HP} {a pw:Addr} {d:bf} {w:Pow}
theorem Na{m:ar}{l:bR}{c:aL}(h:c∈jc m l):c.length<=64:=by
 unfold jc at h;obtain⟨r,_,rfl⟩:=qE.1 h;unfold dp;split
 ·rename_i a;refine Nat.le_of_eq (kX (by decide) (by decide) ?_);have:=lM a;omega
 ·simp
theorem Be(s b:Sl)(x:bn)(m:ar)(n:bZ h a 70 (eK pw d s b))(p:dU h s 1 aw d.l)(ok:dc d)(j:eS h x m)(g:cn m):
  ac xa 77 #[vS (some a),cN x] h fun v h'=>∃r:Sl,v=r/\Sp h h' [cz r (eU m d.l)]:=by
 refine IQ (some a) x ?_;unfold CD;have o:=ok.len;have i:=ok.room;refine(Sp.refl h).boxed fun D k e=>?_;have e:Sp h k [ag D 47 (aq x)]:=e;refine⟨x,(e.box 0 rfl).aF _ rfl,x,(e.box 0 rfl).aF _ rfl,(kG x m k (j.up e.ah) g).mono ?_⟩;rintro _ E ⟨r,rfl,z⟩;have f:=e.cM z;have c:=f.box 1 rfl;refine⟨r,rfl,⟨c.cell0 rfl,c.cell rfl,c.cell rfl,c.cell rfl,c.cell rfl,c.cell rfl,c.cell rfl,c.cell rfl,trivial⟩,(FG s b x m (n.ah f.ah n.lt) (p.up f.ah) ok (j.up f.ah) g).mono ?_⟩;rintro _ h3 ⟨u,rfl,B⟩;have q:=(f.cM B).bj 2 [1,0];have w:=jk m g;have y:=oS m d.l;refine⟨u,rfl,trivial,q.VX af jy ⟨_,_,rfl,rfl⟩ (by omega) fun A F t=>?_⟩;exact⟨trivial,A,rfl,t.ca [0]⟩
theorem Ij(s b:Sl)(x:bn)(m:ar)(n:Int)(q:bZ h a 70 (eK pw d s b))(y:dU h s 1 aw d.l)(g:s.len=d.l.length)(ok:dc d)(w:eS h x m)(u:cn m):
  ac xa 74 #[vS (some a),cN x,vQ vW n] h fun v h'=>v=vU (kJ m d n)/\Sp h h' []:=by
 refine xg (some a) x n ?_;unfold sr;have t:=ok.len;have k:=ok.room;refine(Sp.refl h).boxed fun D z f=>?_;have f:Sp h z [ag D 47 (aq x)]:=f;have c:=q.ah f.ah q.lt;refine aU (bq (fun e=>by cases e) fun _=>(ol s b c).mono ?_);rintro _ _ ⟨rfl,rfl⟩;refine⟨_,rfl,bq (fun e=>⟨by unfold kJ;rw[e];rfl,.zip f.ah⟩) fun e=>?_⟩;have p:kJ m d n=(fi d d.l.length n||fi d (eU m d.l).length n):=by unfold kJ;rw[e];rfl
 refine(HZ s b c g).mono ?_;rintro _ _ ⟨rfl,rfl⟩;refine⟨_,rfl,(sC s b d.l.length n c ok.room).mono ?_⟩;rintro _ _ ⟨rfl,rfl⟩;refine⟨_,rfl,bq (fun o=>⟨by rw[p,o];rfl,.zip f.ah⟩) fun o=>?_⟩;refine⟨x,(f.box 0 rfl).aF _ rfl,(Be s b x m c (y.up f.ah) ok (w.up f.ah) u).mono ?_⟩;rintro _ E ⟨r,rfl,i⟩;have j:=(aa.sj i).1;have A:(eU m d.l).length<=4000:=by
  have:=jk m u;have:=oS m d.l;unfold eU;rw[qw];omega
 have B:=f.cM i;refine⟨r,rfl,(sC s b r.len n (c.ah i.ah c.lt) ok.room).mono ?_⟩;rintro _ _ ⟨rfl,rfl⟩;exact⟨_,rfl,by rw[p,o,yZ,j],.zip B.ah⟩
theorem Lr(x:bn)(n:Int)(h:Heap):ac xa 74 #[vS none,cN x,vQ vW n] h fun v h'=>v=vU false/\Sp h h' []:=by
 refine xg none x n ?_;unfold sr;refine(Sp.refl h).boxed fun b c a=>?_;exact aU (bq (fun _=>⟨rfl,.zip a.ah⟩) fun e=>by cases e)
theorem RN(x:bn)(m:ar)(n:Int)(K:St B h0 As fun h=>eS h x m)(I:cn m)(H:aa B h0 h (fq pw a d::bP 56 pw w::As)):
  ac xa 75 #[vS (some a),cN x,vQ vW n] h fun v h'=>v=vQ vW (fQ m w d n).1/\aa B h0 h' (fq pw a (fQ m w d n).2.2::bP 56 pw (fQ m w d n).2.1::As):=by
 refine xh (some a) x n ?_;unfold ss;refine(Sp.refl h).boxed fun S q E=>?_;have E:Sp h q [ag S 47 (aq x)]:=E;have p:=(H.cM E).bj 3 [1,2,0];have f:∀(e:Int) {h':Heap},aG (fun b=>b<q.size) q h'->fQ m w d n=(e,w,d)->(Value.int .i64 e=vQ vW (fQ m w d n).1/\aa B h0 h' (fq pw a (fQ m w d n).2.2::bP 56 pw (fQ m w d n).2.1::As)):=fun e {h'} O P=>by
  rw[P];exact⟨rfl,((p.up O).bj 3 [0,1])⟩
 obtain⟨ok,s,b,g⟩:=(id p).nF;have t:=g.box 0 rfl;have M:dU q s 1 aw d.l:=(g.bj 2 [1]).yI fun _=>rfl;have k:=(aa.sj (g.bj 2 [1])).1;have L:=ok.len;have y:=ok.room;refine aU (aU (bq (fun e=>by cases e) fun _=>(ol s b t).mono ?_));rintro _ _ ⟨rfl,rfl⟩;refine⟨_,rfl,bq (fun e=>f 5 (aG.refl _ _) (by unfold fQ;rw[if_pos e])) fun e=>?_⟩;refine⟨x,(p.box 2 rfl).aF _ rfl,(Ij s b x m n t M k ok (K.at [_,_,_] p) I).mono ?_⟩;rintro _ T ⟨rfl,o⟩;have J:=g.up o.ah;have j:=t.ah o.ah t.lt;have G:=p.up o.ah;refine⟨_,rfl,aW (fun u=>f 7 o.ah (by unfold fQ;rw[if_neg (by simp[e]),if_pos (by simp[u])])) fun u=>?_⟩;refine(HZ s b j k).mono ?_;rintro _ _ ⟨rfl,rfl⟩;refine⟨_,rfl,(sC s b d.l.length n j ok.room).mono ?_⟩;rintro _ _ ⟨rfl,rfl⟩;refine⟨_,rfl,bq (fun F=>f 0 o.ah (by unfold fQ;rw[if_neg (by simp[e]),if_neg (by simp[u]),if_pos F])) fun F=>?_⟩;have em:fQ m w d n=d.rewrite w (eU m d.l):=by unfold fQ;rw[if_neg (by simp[e]),if_neg (by simp[u]),if_neg (by simp[F])]
 rw[em];have Q:(eU m d.l).length<=4000:=by
  have:=jk m I;have:=oS m d.l;unfold eU;rw[qw];omega
 have D:∀c∈eU m d.l,c.length<=64:=fun c i=>by
  unfold eU at i;rcases qH.1 i with i|i
  ·exact Nat.le_of_eq (uq i)
  ·exact Na i
 refine⟨x,(G.box 2 rfl).aF _ rfl,(Be s b x m j ((J.bj 2 [1]).yI fun _=>rfl) ok (K.at [_,_,_] G) I).mono ?_⟩;rintro _ h3 ⟨r,rfl,R⟩;obtain⟨rs,A⟩:=(G.cM R).Pn fun _=>rfl;have A:=A.bj 4 [1,2,0];refine⟨r,rfl,(Bd r (eU m d.l) A (St.iv 0 rfl fun h' z=>?_) (by omega) fun c i=>zH (D c i) (by decide)).mono ?_⟩
 ·exact⟨rs,z.1,z.2.1,z.2.2⟩
 rintro _ U ⟨rfl,N⟩;exact⟨_,rfl,rfl,N.bj 3 [0,1]⟩
end
section
variable {B:ap} {h0 h:Heap} {As:List HP} {a pw b:Addr} {x:bn} {offs:Int} {da:List aM} {w:Pow} {ds:aS} {d:bf}
theorem aa.Ug(n:Nat)(j:n<64)(e:ds[n]?=some none)(H:aa B h0 h (bm bh a pw (aq x) offs da w ds::fq pw b d::As)){K:Unit->Heap->Prop}
  (f:∀h',aa B h0 h' (bm bh a pw (aq x) offs (da.set n (some b)) w (ds.set n (some d))::As)->K () h'):
  ab xa (qe 34 (vS (some ((a.add 10).add n))) (vS (some b))) h K:=by
 obtain⟨ok,i⟩:=Go.Vc.aa.pV H;have g:(a.add 10).add n=a.add (10+n):=by unfold Addr.add;simp[Nat.add_assoc]
 rw[g];refine i.storeAt af 0 rfl rfl rfl rfl rfl (by simp[ok.la];omega) fun h' c=>f h' ?_;rw[zR,RE ok.l8]at c;exact aa.Wo ok j e c
end
end Go.Qw
namespace Wl
open Go
theorem lW(ds:aS)(n:Nat)(d:bf)(s:Int)(c:n<64)(b:ds.length=64):bs (fO ds (n:Int) d) s=if s=(n:Int)then some d else bs ds s:=by
 unfold bs fO;rw[qq];by_cases h:0<=s/\s<64
 ·rw[if_pos h,if_pos h,qW];by_cases a:s=(n:Int)
  ·subst a;rw[if_pos rfl,qq,if_pos rfl,if_pos (by omega)];rfl
  ·rw[if_neg a,if_neg (by omega)]
 ·rw[if_neg h,if_neg h,if_neg (by omega)]
theorem jl{ds:aS}{s:Int}{d:bf}(h:bs ds s=some d):∃n:Nat,s=(n:Int)/\n<64:=by
 unfold bs at h;by_cases a:0<=s/\s<64
 ·exact⟨s.toNat,by omega,by omega⟩
 ·rw[if_neg a]at h;cases h
structure Fit (ds:aS) (S Q:aD):Prop where
 len:ds.length=64
 at_:∀s∈S,∃d,bs ds s=some d/\d.lost=false/\d.l.length+Q.count s<=d.room
theorem Nb{d:bf}{n:Nat}(w:Pow)(b:aL)(a:d.lost=false)(f:d.l.length+(n+1)<=d.room)(g:b.length=64):
  ((d.append w b).1=0∨(d.append w b).1=14)/\(d.append w b).2.2.lost=false/\(d.append w b).2.2.l.length+n<=(d.append w b).2.2.room:=by
 unfold bf.append;rw[if_neg (by omega),if_neg (by simp[a]),if_neg (by omega)];by_cases c:w.off
 ·rw[if_pos c];exact⟨.inr rfl,a,by dsimp only;omega⟩
 ·rw[if_neg c];by_cases e:w.step.1
  ·rw[if_pos e];exact⟨.inl rfl,a,by simp;omega⟩
  ·rw[if_neg e];exact⟨.inr rfl,a,by simp;omega⟩
theorem RO{d:bf}(w:Pow)(a:d.lost=false):((d.sync w).1=0∨(d.sync w).1=14)/\(d.sync w).2.2.lost=false/\(d.sync w).2.2.l=d.l/\(d.sync w).2.2.room=d.room:=by
 unfold bf.sync;rw[if_neg (by simp[a])];by_cases b:w.step.1
 ·rw[if_pos b];exact⟨.inl rfl,a,rfl,rfl⟩
 ·rw[if_neg b];exact⟨.inr rfl,a,rfl,rfl⟩
theorem Je{ds:aS}{S Q:aD}{x:Int}(w:Pow)(b:aL)(F:Fit ds S (x::Q))(i:x∈S)(m:b.length=64):
  ((du w ds x b).1=0∨(du w ds x b).1=14)/\Fit (du w ds x b).2.2 S Q:=by
 obtain⟨d,f,l,j⟩:=F.at_ x i;rw[List.count_cons_self]at j;obtain⟨n,rfl,q⟩:=jl f;have A:=Nb w b l (n:=Q.count (n:Int)) (by omega) m;have e:du w ds (n:Int) b=((d.append w b).1,(d.append w b).2.1,fO ds (n:Int) (d.append w b).2.2):=by unfold du;rw[f]
 rw[e];refine⟨A.1,by unfold fO;rw[zy];exact F.len,fun s p=>?_⟩;rw[lW _ _ _ _ q F.len];by_cases a:s=(n:Int)
 ·subst a;rw[if_pos rfl];exact⟨_,rfl,A.2⟩
 ·rw[if_neg a];obtain⟨o,g,k,c⟩:=F.at_ s p;rw[List.count_cons_of_ne (fun h=>a h.symm)]at c;exact⟨o,g,k,c⟩
theorem Nc{ds:aS}{S:aD}{x:Int}(w:Pow)(F:Fit ds S [])(f:x∈S):((fd w ds x).1=0∨(fd w ds x).1=14)/\Fit (fd w ds x).2.2 S []:=by
 obtain⟨d,b,j,i⟩:=F.at_ x f;obtain⟨n,rfl,l⟩:=jl b;obtain⟨c,A2,h,g⟩:=RO w j;have e:fd w ds (n:Int)=((d.sync w).1,(d.sync w).2.1,fO ds (n:Int) (d.sync w).2.2):=by unfold fd;rw[b]
 rw[e];refine⟨c,by unfold fO;rw[zy];exact F.len,fun s k=>?_⟩;rw[lW _ _ _ _ l F.len];by_cases a:s=(n:Int)
 ·subst a;rw[if_pos rfl];exact⟨_,rfl,A2,by rw[h,g];exact i⟩
 ·rw[if_neg a];exact F.at_ s k
end Wl
namespace Go.Vc
open Go Wl Go.Qw
theorem Hb(l:aD)(k:Nat):(ba l k).Nodup:=by
 unfold ba;refine List.Pairwise.filter _ (List.pairwise_map.2 ?_);exact(List.nodup_range (n:=k)).imp fun h=>by omega
theorem Pt{l:aD}(h:(dB l).2=true):(dB l).1=ba l l.length/\l.length<=64/\∀n:Nat,l.getD n 0<=512:=by
 unfold dB at h⊢;by_cases a:l.all (dC · 0 512)=true
 ·rw[if_pos a]at h⊢;refine⟨rfl,by simp at h;exact h.1,fun n=>?_⟩;rw[qf];by_cases b:n<l.length
  ·rw[qd b];have:=qU.1 a _ (qn b);unfold dC at this;simp at this⊢;omega
  ·rw[qX (by omega)];simp
 ·rw[if_neg a]at h;cases h
theorem Ls(l:aD)(i n:Nat)(f:i<(ba l l.length).length)(g:(ba l l.length)[i]=(n:Int))(d:n<64):(fL l i)[n]?=some none:=by
 unfold fL;rw[qP,zb d,qJ,if_neg];intro e;obtain⟨j,h,c⟩:=List.mem_take_iff_getElem.1 e;have:=yH (Hb l l.length) (a:=j) (b:=i) (by omega) f (by rw[c,g]);omega
theorem sD(m:ar):∀S:aD,(bF m S).length=S.length*(aP m).length
 |[]=>by simp[bF]
 |n::S=>by
  have e:bF m (n::S)=(aP m).map (fun c=>(n,c))++bF m S:=by unfold bF;rw[zf]
  rw[e,qw,qC,sD m S,zi,zU,Nat.add_comm]
theorem Pu(p:Pm)(extra:Int)(l:aD)(a:l.length<=64):cn (cu p extra l):=⟨by have:=mF l l.length;simp[cu];omega,by simp[cu],by simp[cu]⟩
end Go.Vc
namespace Go.Qw
open Go Go.Vc Go.Proofs Wl
section
variable {B:ap} {h0 h:Heap} {As:List HP} {pw:Addr} {w:Pow}
theorem Nd(p:Pm)(extra:Int)(s:Sl)(l:aD)(hS:St B h0 As fun h=>Rd h s 1 aE l)(hl:l.length<=2^20)(H:aa B h0 h (bP 56 pw w::As)):
  ac xa 6 #[kP p,vQ vW extra,vS (some pw),s] h fun v h'=>
   ((dY p extra w l).1≠0->v=.tuple #[vS none,vQ vW (dY p extra w l).1]/\aa B h0 h' As)/\
   ((dY p extra w l).1=0->∃(a:Addr) (x:bn) (da:List aM),v=.tuple #[vS (some a),vQ vW 0]/\aa B h0 h' (bm bh a pw (aq x) w.offs da (dY p extra w l).2.1 (dY p extra w l).2.2::bt x (cu p extra l)::As)):=by
 refine Dw p extra (some pw) s ?_;unfold sP;refine H.boxed fun a1 h1 H1=>?_;have H1:=H1.cl;refine(kT s l h1 (hS.at [_,_] H1) hl).mono ?_;rintro _ h2 ⟨r,rfl,R2⟩;have H2:=H1.cM R2;refine⟨(r,(dB l).2),rfl,?_⟩;have j:∀{h':Heap},aa B h0 h' As->((dB l).2&&(bV p&&dC extra 0 16))=false->
   ((dY p extra w l).1≠0->Value.tuple #[vS none,vQ vW 1]=.tuple #[vS none,vQ vW (dY p extra w l).1]/\aa B h0 h' As)/\
   ((dY p extra w l).1=0->∃(a:Addr) (x:bn) (da:List aM),Value.tuple #[vS none,vQ vW 1]=.tuple #[vS (some a),vQ vW 0]/\aa B h0 h' (bm bh a pw (aq x) w.offs da (dY p extra w l).2.1 (dY p extra w l).2.2::bt x (cu p extra l)::As)):=fun{h'} H' hc=>by
  have e:dY p extra w l=(1,w,[]):=by unfold dY;rw[hc];rfl
  rw[e];exact⟨fun _=>⟨rfl,H'⟩,fun h=>absurd h (show¬(1:Int)=0 by decide)⟩
 refine aU (aW (fun e=>j H2.rest.rest.rest (by rw[e];rfl)) fun e=>?_);have ep:(dB l).2=true:=by simpa using e
 obtain⟨bl,z,F⟩:=Pt ep;refine⟨p,(H2.box 1 rfl).aF _ rfl,(dR p h2).mono ?_⟩;rintro _ h3 ⟨rfl,R3⟩;have E:aa B h0 h3 (aj 3 r 1 aE (dB l).1::ag a1 24 [vQ vW p.1,vQ vW p.2.1,vQ vW p.2.2]::bP 56 pw w::As):=by
  have:=H2.comp R3;rw[qM]at this;exact this
 refine⟨_,rfl,aW (fun e2=>j E.rest.rest.rest (by rw[e2];simp)) fun e2=>?_⟩;have em:bV p=true:=by simpa using e2
 refine al (fun e3=>j E.rest.rest.rest (by unfold dC;simp;omega)) fun e3=>al (fun e4=>j E.rest.rest.rest (by unfold dC;simp;omega)) fun e4=>bq (fun e5=>by cases e5) fun _=>?_;rw[bl]at E;refine aU ⟨p,(E.box 1 rfl).aF _ rfl,?_⟩;obtain⟨lw,b0,a4⟩:=(E.bj 3 [2,1,0]).pd;refine(AO lw (a4.box 0 rfl)).mono ?_;rintro _ h4 ⟨rfl,rfl⟩;have G:=E.box 1 rfl;refine⟨_,rfl,⟨G.cell0 rfl,G.cell rfl,G.cell rfl,trivial⟩,?_⟩;obtain⟨m,O⟩:∃m,m=cu p extra l:=⟨_,rfl⟩
 refine⟨_,Ie (1,0,p.1,p.2.1,p.2.2,extra,r,⟨none,0,0⟩) pw w.offs,?_⟩;refine E.boxed fun a9 h6 g=>?_;obtain⟨x,hx⟩:∃x:bn,x=(1,0,p.1,p.2.1,p.2.2,extra,r,⟨none,0,0⟩):=⟨_,rfl⟩
 rw[<-hx]at g;have J:(Value.agg (bL (aq x) pw w.offs (qh 64 none)).toArray).cells.toList=bL (aq x) pw w.offs (qh 64 none):=by simp[Value.cells]
 rw[J]at g;have g:=g.cl;have K:=g.box 2 rfl;refine⟨⟨K.cell0 rfl,K.cell rfl,K.cell rfl,trivial⟩,?_⟩;have g:aa B h0 h6 (ag a9 63 (bL (aq x) pw w.offs (qh 64 none))::bP 56 pw w::aj 3 r 1 aE (ba l l.length)::As):=g.bj 4 [0,3,1];have g:=aa.RD (k:=bh) (h8:=by simp) g;obtain⟨P,o⟩:∃P,P=ba l l.length:=⟨_,rfl⟩
 rw[<-o]at g;have hz:cn m:=O▸Pu p extra l z;have a0:P.length<=64:=by rw[o];exact zH (mF _ _) z
 have am:∀{h':Heap} {Bs:List HP} {X:HP},aa B h0 h' (X::aj 3 r 1 aE P::Bs)->eS h' x m:=fun{h' Bs X} H'=>by
  have hs:=H'.seq 1 rfl fun _=>rfl;have hc:=(H'.own 1 rfl).cap;subst hx;subst O;exact⟨rfl,rfl,rfl,rfl,by show Seq _ _ r 1 aE (ba l l.length);rw[<-o];exact hs,cS.nil _ _ _ _,hc,qp _⟩
 have T:((dB l).2&&(bV p&&dC extra 0 16))=true:=by
  rw[ep,em];unfold dC;simp;omega
 have S:(P.any fun i=>decide (l.getD i.toNat 0<((aP m).length:Int)))=true->dY p extra w l=(7,w,[]):=fun hh=>by
  unfold dY;rw[if_pos T,<-o,<-O,if_pos hh]
 have Q:(P.any fun i=>decide (l.getD i.toNat 0<((aP m).length:Int)))=false->dY p extra w l=layAll (bF m P) w (fL l P.length):=fun hh=>by
  unfold dY;rw[if_pos T,<-o,<-O,hh,if_neg (by decide)]
 have L:∀i (N:i<P.length),∃n:Nat,n<l.length/\P[i]=(n:Int)/\0<l.getD n 0:=by
  subst o;exact fun i N=>MS l l.length i N
 refine az (fun i:Nat=>(i:Int)) (fun i h'=>i<=P.length/\((P.take i).any fun i=>decide (l.getD i.toNat 0<((aP m).length:Int)))=false/\aa B h0 h' (bm bh a9 pw (aq x) w.offs (qh 64 none) w (qh 64 none)::aj 3 r 1 aE P::As)) (fun i=>P.length-i) 0 rfl ⟨by omega,by simp,g⟩ ?_;rintro i h7 ⟨N,f,D⟩;dsimp only at*;obtain⟨b9,a6⟩:=aa.db D;have b6:r.len=P.length:=(D.own 1 rfl).len;refine al (fun e5=>?_) (fun e5=>?_)
 ·have c:i<P.length:=by omega
  obtain⟨n,M,A,ad⟩:=L i c;refine(D.seq 1 rfl fun _=>rfl).cK i rfl c (n:Int) (by rw[A];rfl) ?_;refine(hS.at [_,_] D).kA n rfl M (l.getD n 0) (by rw[getD_lt M];rfl) fun b2 Y=>?_;refine⟨a9,rfl,x,a6.aF _ (by rfl),(kG x m h7 (am D) hz).mono ?_⟩;rintro _ h9 ⟨u,rfl,R9⟩;have H9:=D.cM R9;have b3:=(aa.sj H9).1;refine⟨u,rfl,yx R9.ah ⟨Y,trivial⟩,?_⟩;refine al (fun e6=>?_) (fun e6=>?_)
  ·rw[S (yu.2 ⟨P[i],qn c,by rw[A,qq];exact decide_eq_true (by omega)⟩)];exact⟨fun _=>⟨rfl,H9.rest.rest.rest⟩,fun h=>absurd h (show¬(7:Int)=0 by decide)⟩
  ·refine⟨i+1,by rw[an _];rfl,⟨by omega,?_,H9.rest⟩,by omega⟩;rw[aK _ _ c,vx,f,yZ,vL,List.any_nil,Bool.or_false,A,qq];exact decide_eq_false (by omega)
 ·have I:i=P.length:=by omega
  subst I;rw[zc]at f;have bb:=Q f;rw[<-Lm l]at D;refine az (fun t:Nat×List aM=>(t.1:Int)) (fun t h'=>t.1<=P.length/\aa B h0 h' (bm bh a9 pw (aq x) w.offs t.2 w (fL l t.1)::aj 3 r 1 aE P::As)) (fun t=>P.length-t.1) (0,qh 64 none) rfl ⟨by simp,D⟩ ?_;rintro⟨i,da⟩ Z ⟨N,d⟩;dsimp only at*;obtain⟨b5,R⟩:=aa.db d;refine al (fun e6=>?_) (fun e6=>?_)
  ·have c:i<P.length:=by omega
   obtain⟨n,M,A,ad⟩:=L i c;have br:=F n;refine(d.seq 1 rfl fun _=>rfl).cK i rfl c (n:Int) (by rw[A];rfl) ?_;refine(hS.at [_,_] d).cK n rfl M (l.getD n 0) (by rw[getD_lt M];rfl) ?_;refine⟨a9,rfl,(Fv (l.getD n 0) pw Z).mono ?_⟩;rintro _ b7 ⟨Q1,_⟩;obtain⟨b,rfl,a2⟩:=Q1 (by omega);have a5:=(d.cM a2).bj 2 [1,0];refine⟨_,rfl,trivial,⟨by omega,by omega⟩,?_⟩;rw[qq,wO];have ax:i<(ba l l.length).length:=by rw[<-o];exact c
   have ay:(ba l l.length)[i]=(n:Int):=by rw[<-A];simp only[o]
   refine Go.Qw.aa.Ug n (by omega) (Ls l i n ax ay (by omega)) a5 fun bw a3=>?_;refine⟨trivial,(i+1,da.set n (some b)),by dsimp only;rw[an _];rfl,⟨by dsimp only;omega,?_⟩,by dsimp only;omega⟩;dsimp only;rw[<-Ln l i n ax ay (by omega)];exact a3
  ·have I:i=P.length:=by omega
   subst I;refine⟨a9,rfl,x,R.aF _ (by rfl),(CO x m r P Z (am d) hz (d.seq 1 rfl fun _=>rfl) (by omega)).mono ?_⟩;rintro _ b1 ⟨u,ys,rfl,bd⟩;have a7:=(d.cM bd).bj 2 [1,0];refine⟨u,rfl,?_⟩;have V:=jk m hz;refine(AW u ys (bF m P) (St.iv 0 rfl fun _ W=>W) ?_ ?_ a7).mono ?_
   ·rw[sD];have:=wm a0 V;omega
   ·intro y hy;obtain⟨bk,a8⟩:=jR hy;obtain⟨i,N,e⟩:=qN bk;obtain⟨n,M,A,_⟩:=L i N;rw[<-e,A,a8];exact⟨⟨by omega,by omega⟩,by decide⟩
   rintro _ b4 ⟨rfl,U⟩;rw[bb];refine⟨_,rfl,ci (fun e7=>⟨fun _=>⟨rfl,U.rest.rest.rest⟩,fun h=>absurd h e7⟩) fun e7=>⟨fun h=>absurd e7 h,fun _=>⟨a9,x,da,rfl,?_⟩⟩⟩;rw[<-O];exact U.BI.gn 1 rfl fun q W=>by
    subst hx;subst O;exact⟨rfl,rfl,rfl,rfl,by show Seq _ _ r 1 aE (ba l l.length);rw[<-o];exact W.1.seq (fun _=>rfl) W.2,cS.nil _ _ _ _,W.1.cap,qp _⟩
end
end Go.Qw
namespace Wl
open Go
def kr(m:ar)(ds:aS)(k n:Int):Bool:=match bs ds k with|some d=>kJ m d n|none=>false
def dZ(m:ar)(ds:aS)(l:aD)(N:Int->Int):Bool:=l.all fun k=>kr m ds k (N k)
def dS(m:ar)(w:Pow)(ds:aS)(k n:Int):Int×Pow×aS:=
 match bs ds k with
 |none=>(5,w,ds)
 |some d=>((fQ m w d n).1,(fQ m w d n).2.1,fO ds k (fQ m w d n).2.2)
def makes(m:ar)(N:Int->Int):aD->Pow->aS->Int×Pow×aS
 |[],w,ds=>(0,w,ds)
 |k::l,w,ds=>if(dS m w ds k (N k)).1=0 then makes m N l (dS m w ds k (N k)).2.1 (dS m w ds k (N k)).2.2 else dS m w ds k (N k)
end Wl
namespace Go.Qw
open Go Go.Vc Go.Proofs Wl
theorem RP(f:FuncId)(pre post:Array Value)(P:Int->Bool)(s:Sl)(l:aD)(h:Heap)(p:C.fns[f]?=some true)(m:Rd h s 1 aE l)(x:l.length<=2^30)
  (w:∀k∈l,∀h',Sp h h' []->ac xa f (pre.toList++[Value.int .i64 k]++post.toList).toArray h' fun v d=>v=vU (P k)/\Sp h' d []):
  ac xa 72 #[s,.func (.func f) pre post] h fun v h'=>v=vU (l.any P)/\Sp h h' []:=by
 refine im s (f,pre,post) ?_;unfold fP;refine(iZ s (f,pre,post) (R:=fun v h'=>(∃i:Int,v=vQ vW i/\decide (i>=0)=l.any P)/\Sp h h' []) ?_).mono ?_
 ·unfold gp;have r:=m.len;refine az (fun i:Nat=>(i:Int)) (fun i h'=>i<=l.length/\(l.take i).any P=false/\Sp h h' []) (fun i=>l.length-i) 0 rfl ⟨by omega,by simp,Sp.refl h⟩ ?_;rintro i j ⟨o,a,c⟩;refine al (fun e=>?_) (fun e=>?_)
  ·have b:i<l.length:=by
    have q:(i:Int)<(s.len:Int):=e;omega
   refine(Seq.up m c.ah).cK i rfl b l[i] rfl (eZ p ?_);refine(w l[i] (qn b) j c).mono ?_;rintro _ y ⟨rfl,t⟩;have n:=c.up t.ah;refine⟨_,rfl,bq (fun g=>⟨⟨i,rfl,?_⟩,n⟩) (fun g=>?_)⟩
   ·rw[yu.2 ⟨_,qn b,g⟩];exact decide_eq_true (by omega)
   ·refine⟨i+1,by rw[an _];rfl,⟨by omega,?_,n⟩,by omega⟩;rw[aK _ _ b,vx,a,vL,List.any_nil,g];rfl
  ·have q:¬(i:Int)<(s.len:Int):=e;rw[qi (by omega)]at a;exact⟨⟨-1,rfl,by rw[a];rfl⟩,c⟩
 ·rintro _ j ⟨⟨i,rfl,o⟩,u⟩;exact⟨i,rfl,by rw[o],u⟩
section
variable {B:ap} {h0 h:Heap} {As:List HP} {a pw:Addr} {offs:Int} {da:List aM} {w:Pow} {ds:aS}
def Pv(f:FuncId)(pre post:Array Value)(N:Int->Int)(l:aD)(h:Heap):Prop:=∀k∈l,ac xa f (pre.toList++[Value.int .i64 k]++post.toList).toArray h fun v h'=>v=vQ vW (N k)/\Sp h h' []
theorem Pw(f:FuncId)(pre post:Array Value)(N:Int->Int)(x:bn)(m:ar)(s:Sl)(l:aD)(V:C.fns[f]?=some true)(P:St B h0 As fun h=>eS h x m/\Pv f pre post N l h)(hz:cn m)(hs:Rd h s 1 aE l)(X:l.length<=2^30)(z:∀k∈l,0<=k/\k<64)(H:aa B h0 h (bm bh a pw (aq x) offs da w ds::As)):
  ac xa 35 #[vS (some a),s,.func (.func f) pre post] h fun v h'=>v=vU (dZ m ds l N)/\Sp h h' []:=by
 refine uF (some a) s (f,pre,post) ?_;unfold nV;refine(Sp.refl h).boxed fun r h1 R1=>R1.boxed fun O E q=>?_;have H2:aa B h0 E (bm bh a pw (aq x) offs da w ds::As):=H.up q.ah;have g:bZ E r 29 [vS (some a)]:=q.box 0 rfl;have R:=q.box 1 rfl;refine(RP 73 #[] #[vS (some r),vS (some O)] (fun k=>!kr m ds k (N k)) s l E (by rfl) (hs.up q.ah) X ?_).mono ?_
 ·intro k S h3 i;have D:=H2.up i.ah;have Q:=(g.ah i.ah g.lt).cell0 rfl;have Z:=(R.ah i.ah R.lt).cell0 rfl;obtain⟨ok,u⟩:=aa.db D;have U:=z k S;refine sq k r O ?_;unfold my;obtain⟨n,rfl⟩:∃n:Nat,k=n:=⟨k.toNat,by omega⟩
  have K:n<da.length:=by rw[ok.la];omega
  have cd:cellOf h3 ((a.add 10).add ((n:Int).toNat*1))=some (.pointer da[n]):=by
   rw[qq,wO];refine u.rN 10 n ?_;rw[rQ ok.l8,qd K];rfl
  obtain⟨Y,L⟩:=P.at [_] D;refine⟨some a,Q,a,rfl,⟨by omega,by omega⟩,da[n],cd,some a,Q,a,rfl,x,u.aF _ rfl,(f,pre,post),Z,eZ V ?_⟩;refine(L n S).mono ?_;rintro _ J ⟨rfl,p⟩;have M:=D.up p.ah;have t:=((g.ah i.ah g.lt).ah p.ah (g.ah i.ah g.lt).lt).cell0 rfl;have c:=u.ah p.ah u.lt;have I:cellOf J ((a.add 10).add ((n:Int).toNat*1))=some (.pointer da[n]):=by
   rw[qq,wO];refine c.rN 10 n ?_;rw[rQ ok.l8,qd K];rfl
  refine⟨_,rfl,⟨c.cell0 rfl,c.cell rfl,c.cell rfl,c.cell rfl,c.cell rfl,c.cell rfl,c.cell rfl,c.cell rfl,t,I,t,trivial⟩,?_⟩;have F:gH da (n:Int)=da[n]:=by unfold gH;rw[if_pos (by omega),qq,qd K];rfl
  rw[<-F];have fin:∀{A:Bool} {o:Heap},A=kr m ds n (N n)->Sp J o []->aB.ok [(r,vS (some a)),(r,vS (some a))] o/\(Value.bool (!A)=vU (!kr m ds n (N n))/\Sp h3 o []):=fun{A o} he j=>by
   have T:=(g.ah i.ah g.lt).ah p.ah (g.ah i.ah g.lt).lt;have:=(T.ah j.ah T.lt).cell0 rfl;exact⟨⟨this,this,trivial⟩,by rw[he],.zip (aa.up p j.ah).ah⟩
  rcases lH ok (n:Int)with⟨e1,e2⟩|⟨n',d,b,e0,e1,e2,e3,e4,e5⟩
  ·rw[e2];refine(Lr x _ J).mono ?_;rintro _ o ⟨rfl,j⟩;exact⟨_,rfl,fin (by unfold kr;rw[e1]) j⟩
  ·rw[e5];obtain⟨b',e,W⟩:=Go.Vc.aa.kq M e2;rw[e4]at e;injection e with e
   injection e with e
   subst e;obtain⟨y,sd,bd,G⟩:=aa.nF W;refine(Ij sd bd x m (N n) (G.box 0 rfl) ((G.bj 2 [1]).yI fun _=>rfl) (aa.sj (G.bj 2 [1])).1 y (P.at [_] M).1 hz).mono ?_;rintro _ o ⟨rfl,j⟩;exact⟨_,rfl,fin (by unfold kr;rw[e3]) j⟩
 ·rintro _ h3 ⟨rfl,i⟩;refine⟨_,rfl,?_,.zip (aa.up q i.ah).ah⟩;unfold dZ;rw[List.not_any_eq_all_not];simp
theorem Lt(x:bn)(n:Int)(h:Heap):ac xa 75 #[vS none,cN x,vQ vW n] h fun v h'=>v=vQ vW 5/\Sp h h' []:=by
 refine xh none x n ?_;unfold ss;refine(Sp.refl h).boxed fun b c a=>?_;exact aU (aU (bq (fun _=>bq (fun _=>⟨rfl,.zip a.ah⟩) fun e=>by cases e) fun e=>by cases e))
theorem Px(m:ar)(N:Int->Int)(l:aD)(w:Pow)(ds:aS)(i:Nat)(a:i<l.length):makes m N (l.drop i) w ds=if(dS m w ds l[i] (N l[i])).1=0 then makes m N (l.drop (i+1)) (dS m w ds l[i] (N l[i])).2.1 (dS m w ds l[i] (N l[i])).2.2 else dS m w ds l[i] (N l[i]):=by
 rw[qS a];rfl
theorem Py(f:FuncId)(pre post:Array Value)(N:Int->Int)(x:bn)(m:ar)(s:Sl)(l:aD)(U:C.fns[f]?=some true)(L:St B h0 As fun h=>eS h x m/\Pv f pre post N l h/\Rd h s 1 aE l)(hz:cn m)(hl:l.length<=2^30)(I:∀k∈l,0<=k/\k<64)(H:aa B h0 h (bm bh a pw (aq x) offs da w ds::As)):
  ac xa 36 #[vS (some a),s,.func (.func f) pre post] h fun v h'=>v=vQ vW (makes m N l w ds).1/\aa B h0 h' (bm bh a pw (aq x) offs da (makes m N l w ds).2.1 (makes m N l w ds).2.2::As):=by
 refine sV (some a) s (f,pre,post) ?_;unfold mS;have ad:=(L.at [_] H).2.2.len;obtain⟨Z,P⟩:∃Z,Z=makes m N l w ds:=⟨_,rfl⟩
 rw[<-P];refine az (fun t:Nat×Pow×aS=>(t.1:Int)) (fun t h'=>t.1<=l.length/\Z=makes m N (l.drop t.1) t.2.1 t.2.2/\aa B h0 h' (bm bh a pw (aq x) offs da t.2.1 t.2.2::As)) (fun t=>l.length-t.1) (0,w,ds) rfl ⟨by simp,P,H⟩ ?_;rintro⟨i,A,u⟩ h1 ⟨hi,q,F⟩;dsimp only at*;refine al (fun e=>?_) fun e=>?_
 ·have p:i<l.length:=by omega
  rw[Px _ _ _ _ _ _ p]at q;obtain⟨V,K,G⟩:=L.at [_] F;refine G.cK i rfl p l[i] rfl (aU ?_);have E:=I l[i] (qn p);obtain⟨k,O⟩:∃k,k=l[i]:=⟨_,rfl⟩
  have J:k∈l:=by rw[O];exact qn p
  rw[<-O]at q E;rw[<-O];obtain⟨n,rfl⟩:∃n:Nat,k=n:=⟨k.toNat,by omega⟩
  obtain⟨ok,z⟩:=aa.db F;have R:n<da.length:=by rw[ok.la];omega
  have S:∀{h':Heap},bZ h' a 63 (bL (aq x) pw offs da)->cellOf h' ((a.add 10).add ((n:Int).toNat*1))=some (.pointer da[n]):=fun{h'} z=>by
   rw[qq,wO];refine z.rN 10 n ?_;rw[rQ ok.l8,qd R];rfl
  refine⟨a,rfl,⟨by omega,by omega⟩,da[n],S z,a,rfl,x,z.aF _ rfl,eZ U ?_⟩;refine(K n J).mono ?_;rintro _ h2 ⟨rfl,Q⟩;have T:=F.up Q.ah;have g:=z.ah Q.ah z.lt;refine⟨_,rfl,⟨g.cell0 rfl,g.cell rfl,g.cell rfl,g.cell rfl,g.cell rfl,g.cell rfl,g.cell rfl,g.cell rfl,S g,trivial⟩,?_⟩;have M:gH da (n:Int)=da[n]:=by unfold gH;rw[if_pos (by omega),qq,qd R];rfl
  rw[<-M];obtain⟨c,o⟩:∃c,c=dS m A u n (N n):=⟨_,rfl⟩
  rw[<-o]at q;have fin:∀{h3:Heap},aa B h0 h3 (bm bh a pw (aq x) offs da c.2.1 c.2.2::As)->aB.ok [] h3/\Br (c.1 !=(0:Int)) (Value.int .i64 c.1=vQ vW Z.1/\aa B h0 h3 (bm bh a pw (aq x) offs da Z.2.1 Z.2.2::As))
    (∃r:Nat×Pow×aS,qc vW ((i:Int)+1)=(r.1:Int)/\(r.1<=l.length/\Z=makes m N (l.drop r.1) r.2.1 r.2.2/\aa B h0 h3 (bm bh a pw (aq x) offs da r.2.1 r.2.2::As))/\l.length-r.1<l.length-i):=fun{h3} H3=>by
   refine⟨trivial,ci (fun y=>?_) fun y=>?_⟩
   ·rw[if_neg y]at q;rw[q];exact⟨rfl,H3⟩
   ·rw[if_pos y]at q;exact⟨(i+1,c.2.1,c.2.2),by dsimp only;rw[an _];rfl,⟨by dsimp only;omega,q,H3⟩,by dsimp only;omega⟩
  rcases lH ok (n:Int)with⟨e1,y⟩|⟨n',d,b,e0,e1,y,e3,e4,e5⟩
  ·rw[y];have D:c=(5,A,u):=by rw[o];unfold dS;rw[e1]
   refine(Lt x _ h2).mono ?_;rintro _ h3 ⟨rfl,R3⟩;exact⟨c.1,by rw[D],fin (h3:=h3) (by rw[D];exact T.up R3.ah)⟩
  ·rw[e5];have en:n=n':=by omega
   subst en;obtain⟨b',j,W⟩:=Go.Vc.aa.kq T y;rw[e4]at j;injection j with j
   injection j with j
   subst j;have D:c=((fQ m A d (N n)).1,(fQ m A d (N n)).2.1,u.set n (some (fQ m A d (N n)).2.2)):=by rw[o];unfold dS;rw[e3];simp only[fO,qq]
   refine(RN x m (N n) (fun Bs h' Y=>(L (Bs++[_]) h' (by rw[qm];exact Y)).1) hz W).mono ?_;rintro _ h3 ⟨rfl,H6⟩;have X:=Go.Vc.aa.DQ (k:=bh) (n:=n) e4 H6;exact⟨c.1,by rw[D],fin (h3:=h3) (by rw[D];exact X)⟩
 ·rw[zd (by omega)]at q;rw[q];exact⟨rfl,F⟩
end
def Uh(a b:dh):Int:=if dz a.1 b.1 then-1 else if hJ a.1 b.1 then 0 else 1
def gV(a b:dh):Bool:=hJ a.1 b.1
theorem Lu(a b:dh):Uh a b<0↔¬gV b a=true:=by
 unfold Uh gV hJ;cases h:dz a.1 b.1<;>simp;split<;>omega
theorem Bf:Ord gV:=⟨fun a b c=>Af a.1 b.1 c.1,fun a b=>Ag a.1 b.1⟩
abbrev Lv(x:dh):Value:=vV #[vT x.1,vQ vW x.2.1,vQ vW x.2.2.1,x.2.2.2]
theorem Jf(x y:ByteArray)(h:Heap):ac xa 71 #[vT x,vT y] h fun v h'=>v=vQ vW (if dz x y then-1 else if hJ x y then 0 else 1)/\h'=h:=by
 refine sp x y ?_;unfold mw;have a:∀z:ByteArray,ac xa 116 #[vT z] h fun v h'=>v=vU false/\h'=h:=fun z=>by
  refine uN z ?_;unfold og;exact⟨by simp,rfl⟩
 refine(a x).mono ?_;rintro _ _ ⟨rfl,rfl⟩;refine⟨_,rfl,(a y).mono ?_⟩;rintro _ _ ⟨rfl,rfl⟩;refine⟨_,rfl,bq (fun e=>by cases e) fun _=>bq (fun e=>by cases e) fun _=>?_⟩;have d:Op.bytesLess x.toList y.toList=dz x y:=rfl;rw[Js,d];have c:(!Op.bytesLess y.toList x.toList)=hJ x y:=rfl;rw[c];refine bq (fun e=>⟨by rw[e];rfl,rfl⟩) fun e=>aW (fun b=>⟨by rw[e,b];rfl,rfl⟩) fun b=>⟨by rw[e,b];rfl,rfl⟩
theorem Pz(a b:dh)(h:Heap):ac xa 70 #[Lv a,Lv b] h fun v h'=>v=vQ vW (Uh a b)/\Sp h h' []:=by
 refine DA a b ?_;unfold sZ;refine(Sp.refl h).boxed fun f i g=>g.boxed fun e d c=>?_;have c:Sp h d [ag f 73 (bv a),ag e 73 (bv b)]:=c;refine⟨a.1,(c.box 0 rfl).cell0 rfl,b.1,(c.box 1 rfl).cell0 rfl,(Jf a.1 b.1 d).mono ?_⟩;rintro _ _ ⟨rfl,rfl⟩;exact⟨_,rfl,rfl,.zip c.ah⟩
abbrev ou(s:Sl)(d:List dh):HP:=aj 73 s 4 bv d
section
variable {B:ap} {h0 h h':Heap} {As:List HP} {s:Sl} {d:List dh}
theorem Nf{c b:List dh}{y:dh}(d:Sd gV (c++b))(g:∀z∈c,gV z y=true)(f:∀z∈b,¬gV z y=true):Sd gV (c++y::b):=
 Sd.app Bf d.left (zF.2 ⟨fun z a=>Bf.sO (f z a),d.right⟩) fun x e z a=>by
  rcases zj.1 a with rfl|a
  ·exact g x e
  ·exact d.rB x e z a
theorem FH(X M Y:List dh)(a b:Int)(ha:a=(X.length:Int))(hb:b=(X.length+M.length:Nat))(am:X.length+M.length+Y.length<=2^40)(H:aa B h0 h (ou s (X++(M++Y))::As)):
  ac xa 147 #[s,vQ vW a,vQ vW b,.func (.func 70) #[] #[]] h fun v h'=>v=.tuple #[]/\∃Z,Sd gV Z/\bG gV M Z/\aa B h0 h' (ou s (X++(Z++Y))::As):=by
 refine je s a b (70,#[],#[]) ?_;unfold fN;subst ha;subst hb;rw[an ((X.length:Int)+1)];refine az (fun t:Nat×List dh=>((X.length+1+t.1:Nat):Int)) (fun t h'=>(t.1+1<=M.length∨t.1=0)/\Sd gV t.2/\bG gV (M.take (t.1+1)) t.2/\t.2.length=(M.take (t.1+1)).length/\aa B h0 h' (ou s (X++(t.2++(M.drop (t.1+1)++Y)))::As)) (fun t=>M.length-t.1) (0,M.take 1) rfl ?_ ?_
 ·refine⟨.inr rfl,?_,bG.refl _,rfl,?_⟩
  ·cases M with
   |nil=>exact List.Pairwise.nil
   |cons x M=>exact zF.2 ⟨fun _ h=>by simp at h,by simp⟩
  ·rw[<-qm (M.take (0+1)),List.take_append_drop];exact H
 rintro⟨t,P⟩ h1 ⟨ht,p,E,V,S⟩;dsimp only at*;refine al (fun e=>?_) (fun e=>?_)
 ·have K:t+1<M.length:=by omega
  obtain⟨y,hy⟩:∃y,y=M[t+1]:=⟨_,rfl⟩
  have G:P.length=t+1:=by rw[V];simp;omega
  have eD:M.drop (t+1)=y::M.drop (t+1+1):=by rw[qS K,hy]
  rw[eD]at S;refine az (fun u:List dh×List dh=>((X.length+u.1.length:Nat):Int)) (fun u h'=>u.1++u.2=P/\(∀z∈u.2,¬gV z y=true)/\aa B h0 h' (ou s (X++(u.1++(y::(u.2++(M.drop (t+1+1)++Y)))))::As)) (fun u=>u.1.length) (P,[]) (by dsimp only;rw[G];congr 1;omega) ⟨by simp,by simp,by simpa using S⟩ ?_;rintro⟨c,d⟩ h2 ⟨J,f,L⟩;dsimp only at*;have ax:c.length+d.length=t+1:=by rw[<-G,<-J,qw]
  have k:∀{h':Heap},(∀z∈c,gV z y=true)->aa B h0 h' (ou s (X++(c++(y::(d++(M.drop (t+1+1)++Y)))))::As)->
    ∃l:Nat×List dh,qc vW (((X.length+1+t:Nat):Int)+1)=((X.length+1+l.1:Nat):Int)/\((l.1+1<=M.length∨l.1=0)/\Sd gV l.2/\bG gV (M.take (l.1+1)) l.2/\l.2.length=(M.take (l.1+1)).length/\aa B h0 h' (ou s (X++(l.2++(M.drop (l.1+1)++Y)))::As))/\M.length-l.1<M.length-t:=fun{h'} hle H'=>by
   refine⟨(t+1,c++y::d),by dsimp only;rw[an _];omega,⟨.inl (by dsimp only;omega),?_,?_,?_,?_⟩,by dsimp only;omega⟩
   ·exact Nf (by rw[J];exact p) hle f
   ·dsimp only;rw[aK M (t+1) K,<-hy];have h1:bG gV (M.take (t+1)++[y]) (P++[y]):=E.app (bG.refl _);refine h1.trans ?_;rw[<-J,qm];have h2:bG gV (d++[y]) ([y]++d):=bG.NM Bf fun x hx z U=>by rw[qB.1 U];exact f x hx
    exact(bG.refl _).app h2
   ·dsimp only;simp;omega
   ·dsimp only;have:X++((c++y::d)++(M.drop (t+1+1)++Y))=X++(c++(y::(d++(M.drop (t+1+1)++Y)))):=by simp
    rw[this];exact H'
  obtain⟨D,O⟩:∃D,D=X++(c++(y::(d++(M.drop (t+1+1)++Y)))):=⟨_,rfl⟩
  refine cv (fun _ h'=>∃(Q:List dh) (z:dh),c=Q++[z]/\¬gV z y=true/\aa B h0 h' (ou s D::As)) ?_ ?_
  ·rw[<-O]at L k;refine al (fun R=>?_) (fun R=>⟨trivial,k (fun z U=>?_) L⟩)
   ·have I:c≠[]:=fun h=>by rw[h]at R;simp at R
    obtain⟨Q,z,n⟩:∃(Q:List dh) (z:dh),c=Q++[z]:=⟨c.dropLast,c.getLast I,(List.dropLast_concat_getLast I).symm⟩
    have ad:c.length=Q.length+1:=by rw[n];simp
    have g1:D[X.length+c.length]?=some y:=by
     rw[O,qg (by omega),show X.length+c.length-X.length=c.length by omega,qg (by omega),qZ];rfl
    have g2:D[X.length+c.length-1]?=some z:=by
     rw[O,qg (by omega),show X.length+c.length-1-X.length=Q.length by omega,n,qm,qg (qp _),qZ];rfl
    obtain⟨N,A⟩:=qk.1 g1;obtain⟨T,q⟩:=qk.1 g2;refine(L.seq 0 rfl fun _=>rfl).dE (g:=bv) _ rfl N y (by rw[A]) ?_;have ej:qc vW (((X.length+c.length:Nat):Int)-1)=((X.length+c.length-1:Nat):Int):=by rw[an _];omega
    rw[ej];refine(L.seq 0 rfl fun _=>rfl).dE (g:=bv) _ rfl T z (by rw[q]) (eZ (by rfl) ?_);refine(Pz y z h2).mono ?_;rintro _ h3 ⟨rfl,R3⟩;have F:=L.up R3.ah;refine⟨_,rfl,trivial,al (fun W=>⟨Q,z,n,(Lu y z).1 W,F⟩) fun W=>k (fun w m=>?_) F⟩;have o:gV z y=true:=by
     by_cases hc:gV z y=true
     ·exact hc
     ·exact absurd ((Lu y z).2 hc) W
    rw[n]at m;rcases qH.1 m with m|m
    ·refine Bf.trans _ _ _ ?_ o;have:Sd gV (Q++[z]):=by rw[<-n];exact Sd.left (v:=d) (by rw[J];exact p)
     exact this.rB w m z (by simp)
    ·rw[qB.1 m];exact o
   ·have:c=[]:=by
     cases c with
     |nil=>rfl
     |cons x P=>exfalso;simp only[zi]at R;omega
    rw[this]at U;cases U
  ·rintro _ h3 ⟨Q,z,n,o,F⟩;have ad:c.length=Q.length+1:=by rw[n];simp
   have r:D=(X++Q)++z::([]++y::(d++(M.drop (t+1+1)++Y))):=by rw[O,n];simp
   obtain⟨q1,q2,q3,q4⟩:=GV (X++Q) [] (d++(M.drop (t+1+1)++Y)) z y (i:=X.length+c.length-1) (j:=X.length+c.length) (by simp;omega) (by simp;omega);rw[<-r]at q1 q2 q3 q4;obtain⟨T,q⟩:=qk.1 q1;obtain⟨N,A⟩:=qk.1 q2;have ej:qc vW (((X.length+c.length:Nat):Int)-1)=((X.length+c.length-1:Nat):Int):=by rw[an _];omega
   rw[ej];refine(F.seq 0 rfl fun _=>rfl).dE (g:=bv) _ rfl T z (by rw[q]) ?_;refine(F.seq 0 rfl fun _=>rfl).dE (g:=bv) _ rfl N y (by rw[A]) ?_;refine F.set af 0 rfl (fun _=>rfl) rfl (X.length+c.length) rfl N z rfl rfl rfl fun h4 H4=>⟨trivial,?_⟩
   refine H4.set af 0 rfl (fun _=>rfl) rfl (X.length+c.length-1) rfl (by simpa using T) y rfl rfl rfl fun h5 H5=>⟨trivial,?_⟩
   refine⟨(Q,z::d),by dsimp only;congr 1;omega,⟨by dsimp only;rw[<-J,n];simp,?_,?_⟩,by dsimp only;omega⟩
   ·dsimp only;intro w m;rcases zj.1 m with rfl|m
    ·exact o
    ·exact f w m
   ·dsimp only;have:X++(Q++(y::(z::d++(M.drop (t+1+1)++Y))))=(X++Q)++y::([]++z::(d++(M.drop (t+1+1)++Y))):=by simp
    rw[this,<-q4];exact H5
 ·refine⟨rfl,P,p,?_,?_⟩
  ·rw[qi (by omega)]at E;exact E
  ·rw[zd (by omega)]at S;simpa using S
theorem Lw(r:Nat)(h:Heap)(c:r<=2^32):ac xa 115 #[vQ vZ r] h fun v h'=>(∃k:Int,v=vQ vW k)/\h'=h:=by
 intro w a;refine(Tryz.bits_Len (r:Int) w (by omega) (by omega)).mono ?_;rintro e b ⟨rfl,rfl⟩;exact⟨_,rfl,cA.refl _,⟨_,rfl⟩,a⟩
theorem PA(d:List dh)(m:d.length<=12)(H:aa B h0 h (ou s d::As)):
  ac xa 69 #[s,.func (.func 70) #[] #[]] h fun v h'=>v=.tuple #[]/\aa B h0 h' (ou s (d.mergeSort gV)::As):=by
 refine jK s (70,#[],#[]) ?_;unfold fV;have c:=(H.own 0 rfl).len;have a:∀k:Int,ac xa 114 #[s,vQ vW 0,vQ vW (s.len:Nat),vQ vW k,.func (.func 70) #[] #[]] h fun v h'=>v=.tuple #[]/\aa B h0 h' (ou s (d.mergeSort gV)::As):=fun k=>by
  refine kC s 0 (s.len:Nat) k (70,#[],#[]) ?_;unfold gS;refine az (fun _:Unit=>((0:Int),((s.len:Nat):Int),k,true,true)) (fun _ h'=>h'=h) (fun _=>0) () rfl rfl ?_;rintro _ j rfl;refine al (fun _=>?_) fun e=>absurd (show qc vW (((s.len:Nat):Int)-0)<=12 by rw[an _];omega) e;refine(FH [] d [] 0 (s.len:Nat) rfl (by simp[c]) (by simp;omega) (by simpa using H)).mono ?_;rintro _ f ⟨rfl,M,l,i,b⟩;refine⟨(),rfl,rfl,?_⟩;rw[<-OM Bf l i];simpa using b
 have g:qc vZ ((s.len:Nat):Int)=((s.len:Nat):Int):=by unfold qc;simp[qj,yp];omega
 rw[g];refine(Lw s.len h (by omega)).mono ?_;rintro _ j ⟨⟨k,rfl⟩,rfl⟩;refine⟨k,rfl,(a k).mono ?_⟩;rintro _ f ⟨rfl,b⟩;exact⟨(),rfl,rfl,b⟩
end
section
variable {B:ap} {h0 h:Heap} {As:List HP}
def tK:bn:=(0,0,0,0,0,0,⟨none,0,0⟩,⟨none,0,0⟩)
theorem Ng{m:ar}{e:Wl.cE}{xe:dh}{L:List (dh×Wl.cE)}{pool:List (Sl×aD)}(k:L.map ze=m.aH)(h:∀p∈L,BY pool p)(i:BY pool (xe,e)):
  ∃g:List (dh×Wl.cE),g.map qx=(L.map qx++[xe]).mergeSort gV/\g.map ze=(m.aH++[e]).mergeSort oI/\∀p∈g,BY pool p:=by
 have c:∀p∈L++[(xe,e)],BY pool p:=fun p d=>by
  rcases qH.1 d with d|d
  ·exact h p d
  ·rw[qB.1 d];exact i
 refine⟨(L++[(xe,e)]).mergeSort fun a b=>gV a.1 b.1,?_,?_,fun p d=>c p ((wN _ _).mem_iff.1 d)⟩
 ·rw[yd (r:=fun a b=>gV a.1 b.1) (s:=gV) (f:=qx) (fun a _ b _=>rfl),za];rfl
 ·rw[yd (r:=fun a b=>gV a.1 b.1) (s:=oI) (f:=ze) (fun a j b l=>by unfold gV oI;rw[(c a j).1.1,(c b l).1.1]),za,k];rfl
theorem RQ(x:bn)(m:ar)(xe:dh)(e:Wl.cE)(K:eS h x m)(T:cn m)(hs:0<=m.seq/\m.seq<=2^40)(hn:0<=m.next/\m.next<=2^40)(ho:m.aH.length<=11)(Q:xe.1=e.name/\xe.2.1=e.object/\xe.2.2.1=e.length)(H:aa B h0 h (jo xe.2.2.2 1 aE e.tries::As)):
  ac xa 33 #[cN x,Lv xe] h fun v h'=>∃y:bn,v=cN y/\aa B h0 h' (bt y (dK m e)::As):=by
 refine GB x xe ?_;unfold Ar;refine(Sp.refl h).boxed fun X h1 Y=>Y.boxed fun g h2 S=>S.alloc af rfl fun a3 h3 k=>?_;have k:Sp h h3 [ag X 47 (aq x),ag g 73 (bv xe),ag a3 47 (aq tK)]:=k;refine⟨x,(k.box 0 rfl).aF _ rfl,(tw x m h3 (K.up k.ah) T).mono ?_⟩;rintro _ h4 ⟨y,L,pool,rfl,q,E,D,J⟩;have N:=((k.ca [1,2]).comp J).front;refine⟨y,rfl,N.alloc af rfl fun i h5 t=>?_⟩;have t:=t.cl;refine t.storeAll af 0 rfl rfl (aq y) rfl rfl rfl rfl fun M s=>?_;have s:Sp h M [ag i 47 (aq y),cQ 1 aE pool,aj 3 y.2.2.2.2.2.2.1 1 aE m.drives,aj 73 y.2.2.2.2.2.2.2 4 bv (L.map qx),ag g 73 (bv xe),ag a3 47 (aq tK)]:=s;refine⟨y.1,(s.box 0 rfl).cell0 rfl,?_⟩;have P:qc vW (y.1+1)=m.seq+1:=by rw[q.1,an _]
 have Z:qc vW (y.2.1+1)=m.next+1:=by rw[q.2.1,an _]
 rw[P];refine s.pk af 0 rfl rfl [vQ vW (m.seq+1)] rfl rfl rfl (by simp[Value.cells]) fun U r=>?_;have r:Sp h U [ag i 47 (vQ vW (m.seq+1)::(aq y).drop 1),cQ 1 aE pool,aj 3 y.2.2.2.2.2.2.1 1 aE m.drives,aj 73 y.2.2.2.2.2.2.2 4 bv (L.map qx),ag g 73 (bv xe),ag a3 47 (aq tK)]:=r;refine⟨y.2.1,(r.box 0 rfl).cell rfl,?_⟩;rw[Z];refine r.store af 0 rfl rfl 1 [vQ vW (m.next+1)] rfl rfl rfl (by simp[Value.cells]) fun h8 j=>?_;have j:Sp h h8 [ag i 47 (vQ vW (m.seq+1)::vQ vW (m.next+1)::(aq y).drop 2),cQ 1 aE pool,aj 3 y.2.2.2.2.2.2.1 1 aE m.drives,aj 73 y.2.2.2.2.2.2.2 4 bv (L.map qx),ag g 73 (bv xe),ag a3 47 (aq tK)]:=j;have I:L.length=m.aH.length:=by rw[<-E,qC]
 refine⟨y.2.2.2.2.2.2.2,(j.box 0 rfl).cell rfl,xe,(j.box 4 rfl).aF _ rfl,?_⟩;refine j.push af 3 rfl TQ rfl (by decide) (fun _=>rfl) GS xe rfl (by decide) (by simp;omega) fun o R w=>?_;refine w.store af 0 rfl rfl 7 [o] rfl rfl rfl (by simp[Value.cells]) fun u c=>?_;obtain⟨a,b⟩:∃a:bn,a=(m.seq+1,m.next+1,y.2.2.1,y.2.2.2.1,y.2.2.2.2.1,y.2.2.2.2.2.1,y.2.2.2.2.2.2.1,o):=⟨_,rfl⟩
 have V:a.2.2.2.2.2.2.1=y.2.2.2.2.2.2.1:=by rw[b]
 have F:a.2.2.2.2.2.2.2=o:=by rw[b]
 have c:Sp h u [ag i 47 (aq a),cQ 1 aE pool,aj 3 a.2.2.2.2.2.2.1 1 aE m.drives,aj 73 a.2.2.2.2.2.2.2 4 bv (L.map qx++[xe]),ag g 73 (bv xe),ag a3 47 (aq tK)]:=by rw[V,F,b];exact c
 refine⟨a.2.2.2.2.2.2.2,(c.box 0 rfl).cell rfl,?_⟩;have c:=c.bj 6 [3,0,1,2,4,5];refine(PA (L.map qx++[xe]) (by simp;omega) c).mono ?_;rintro _ z ⟨rfl,f⟩;have f:Sp h z [ou a.2.2.2.2.2.2.2 ((L.map qx++[xe]).mergeSort gV),ag i 47 (aq a),cQ 1 aE pool,aj 3 a.2.2.2.2.2.2.1 1 aE m.drives,ag g 73 (bv xe),ag a3 47 (aq tK)]:=f;refine⟨(),rfl,a,(f.box 1 rfl).aF _ rfl,?_⟩;refine f.storeAll af 5 rfl rfl (aq a) rfl rfl rfl rfl fun l d=>?_;have d:Sp h l [ou a.2.2.2.2.2.2.2 ((L.map qx++[xe]).mergeSort gV),ag i 47 (aq a),cQ 1 aE pool,aj 3 a.2.2.2.2.2.2.1 1 aE m.drives,ag g 73 (bv xe),ag a3 47 (aq a)]:=d;refine⟨a,(d.box 5 rfl).aF _ rfl,a,rfl,?_⟩;obtain⟨L',W,O,G⟩:=Ng (pool:=(xe.2.2.2,e.tries)::pool) (m:=m) (e:=e) (xe:=xe) E (fun p A=>⟨(D p A).1,q0 _ (D p A).2⟩) ⟨Q,qT⟩;have n:=((H.comp (d.ca [2,3,0])).front).bj 4 [0,3,1,2];have n:aa B h0 l (cQ 1 aE ((xe.2.2.2,e.tries)::pool)::aj 3 a.2.2.2.2.2.2.1 1 aE m.drives::aj 73 a.2.2.2.2.2.2.2 4 bv ((L.map qx++[xe]).mergeSort gV)::As):=aa.GU n;rw[<-W]at n;refine aa.Ld (m:=dK m e) ⟨by rw[b];rfl,by rw[b];rfl,by rw[b];exact q.2.2.1,by rw[b];exact q.2.2.2⟩ O G n
end
section
variable {B:ap} {h0 h:Heap} {As:List HP} {a pw:Addr} {offs:Int} {da:List aM} {w:Pow} {ds:aS}
theorem aa.RR{x y:bn}(H:aa B h0 h (bm bh a pw (aq x) offs da w ds::As)){K:Unit->Heap->Prop}(b:∀h',aa B h0 h' (bm bh a pw (aq y) offs da w ds::As)->K () h'):
  ab xa (qe 47 (vS (some a)) (cN y)) h K:=by
 obtain⟨ok,d⟩:=Go.Vc.aa.pV H;refine d.pk af 0 rfl rfl (aq y) rfl rfl rfl (by simp) fun h' c=>b h' ?_;exact aa.rP (k:=bh) ⟨rfl,ok.la,ok.ls,ok.same⟩ c
theorem PB(x z:bn)(b:ar)(s:Sl)(l:aD)(m:St B h0 As fun h=>eS h z b/\Rd h s 1 aE l)(o:cn b)(p:l.length<=2^10)(i:∀k∈l,0<=k/\k<64)(H:aa B h0 h (bm bh a pw (aq x) offs da w ds::As)):
  ac xa 37 #[vS (some a),cN z,s] h fun v h'=>v=vQ vW (layAll (bF b l) w ds).1/\
   ((layAll (bF b l) w ds).1≠0->aa B h0 h' (bm bh a pw (aq x) offs da (layAll (bF b l) w ds).2.1 (layAll (bF b l) w ds).2.2::As))/\
   ((layAll (bF b l) w ds).1=0->∃y,aa B h0 h' (bm bh a pw (aq y) offs da (layAll (bF b l) w ds).2.1 (layAll (bF b l) w ds).2.2::bt y b::As)):=by
 refine uG (some a) z s ?_;unfold nW;refine H.boxed fun K I d=>?_;have d:=d.cl;refine⟨z,(d.box 0 rfl).aF _ rfl,(CO z b s l I (m.at [_,_] d).1 o (m.at [_,_] d).2 p).mono ?_⟩;rintro _ L ⟨r,u,rfl,G⟩;have J:=(d.cM G).bj 3 [2,0,1];have f:=jk b o;have t:=wm p f;refine⟨r,rfl,(AW r u (bF b l) (St.iv 0 rfl fun _ j=>j) (by rw[sD];omega) (fun q j=>?_) J).mono ?_⟩
 ·obtain⟨n,g⟩:=jR j;rw[g];exact⟨i _ n,by decide⟩
 rintro _ h3 ⟨rfl,c⟩;obtain⟨R,F⟩:∃R,R=layAll (bF b l) w ds:=⟨_,rfl⟩
 rw[<-F]at c⊢;refine⟨_,rfl,ci (fun e=>⟨rfl,fun _=>c.bj 3 [0],fun h=>absurd h e⟩) fun e=>?_⟩;have c:aa B h0 h3 (bm bh a pw (aq x) offs da R.2.1 R.2.2::eG jV 2 piv r u (bF b l)::ag K 47 (aq z)::As):=c;refine⟨z,(c.box 2 rfl).aF _ rfl,(oR z b h3 (m.at [_,_,_] c).1 o).mono ?_⟩;rintro _ M ⟨y,rfl,D⟩;have E:=(c.cM D).bj 4 [1,0];refine⟨y,rfl,a,rfl,aa.RR E fun N A=>?_⟩;exact⟨by rw[e],fun h=>absurd e h,fun _=>⟨y,A⟩⟩
def mJ(name:ByteArray)(e:Wl.cE):Bool:=e.name.toList==name.toList
theorem find_spec(x:bn)(m:ar)(name:ByteArray)(p:eS h x m)(q:cn m)(H:aa B h0 h (bm bh a pw (aq x) offs da w ds::As)):
  ac xa 59 #[vS (some a),vT name] h fun v h'=>(∃i:Int,v=vQ vW i/\TW (mJ name) m.aH i)/\Sp h h' []:=by
 refine uI (some a) name ?_;unfold nZ;refine(Sp.refl h).boxed fun f l b=>?_;have k:bZ l f 9 [vT name]:=b.box 0 rfl;obtain⟨ok,o⟩:=aa.db H;have g:=o.ah b.ah o.lt;have c:=q.ob;refine⟨a,rfl,x.2.2.2.2.2.2.2,g.cell rfl,?_⟩;refine(CP 98 #[] #[vS (some f)] (mJ name) x.2.2.2.2.2.2.2 m.aH l (by rfl) (p.up b.ah).aH c ?_).mono ?_
 ·intro u E j d t z;refine su u f ?_;unfold mA;refine(Sp.refl j).boxed fun y h3 e=>?_;have n:=(k.ah d.ah k.lt)
  have r:=n.ah e.ah n.lt;refine⟨u.1,(e.box 0 rfl).cell0 rfl,name,r.cell0 rfl,?_,.zip e.ah⟩;unfold mJ;rw[t.1.1]
 ·rintro _ j ⟨⟨i,rfl,s⟩,d⟩;exact⟨i,rfl,⟨i,rfl,s⟩,.zip (aa.up b d.ah).ah⟩
theorem RS{b:aQ}(H:aa B h0 h (bm bh a pw b offs da w ds::As)):ac xa 57 #[vS (some a)] h fun v h'=>v=vU (iD w offs)/\h'=h:=by
 refine xG (some a) ?_;unfold oz;refine bq (fun e=>by cases e) fun _=>(GZ H).mono ?_;rintro _ _ ⟨rfl,rfl⟩;exact⟨_,rfl,rfl,rfl⟩
def cO(m:ar)(down:Bool)(ds:aS)(name:ByteArray)(n:Nat):Int:=
 if down then 14 else if !gC name then 3 else if m.aH.any (mJ name)then 4
 else if m.p.1*m.p.2.2*8<(n:Int)∨12<=m.aH.length then 6
 else if bS ds m.drives=[]∨16777215<m.next∨2147483647<=m.seq then 7 else 0
theorem Lx(x:bn)(m:ar)(name:ByteArray)(s:Sl)(n:Nat)(hn:s.len=n)(y:name.size<=2^40)(N:eS h x m)(K:cn m)(R:bV m.p=true)(H:aa B h0 h (bm bh a pw (aq x) offs da w ds::As)):
  ac xa 29 #[vS (some a),vT name,s] h fun v h'=>v=vQ vW (cO m (iD w offs) ds name n)/\Sp h h' []:=by
 refine rj (some a) name s ?_;unfold lQ;have L:=(cb m.p).1 R;refine(RS H).mono ?_;rintro _ z ⟨rfl,rfl⟩;refine⟨_,rfl,bq (fun e=>⟨by unfold cO;rw[e];rfl,Sp.refl _⟩) fun o=>?_⟩;refine(Ia name z y).mono ?_;rintro _ Y ⟨rfl,l⟩;refine⟨_,rfl,aW (fun e=>⟨by unfold cO;rw[o,e];rfl,l⟩) fun G=>?_⟩;have J:=H.up l.ah;have j:=N.up l.ah;refine(find_spec x m name j K J).mono ?_;rintro _ h3 ⟨⟨i,rfl,V⟩,D⟩;have u:Sp z h3 []:=.zip (aa.up l D.ah).ah;have d:=Lk V;refine⟨i,rfl,bq (fun e=>⟨by unfold cO;rw[o,G,<-d,e];rfl,u⟩) fun U=>?_⟩;rw[U]at d;have I:=J.up D.ah;have b:=j.up D.ah;obtain⟨ok,g⟩:=aa.db I;have T:=cS.len b.aH;have F:x.2.2.1=m.p.1:=congrArg (·.1) b.p;have E:x.2.2.2.2.1=m.p.2.2:=congrArg (·.2.2) b.p;have hk:m.p.1*m.p.2.2<=16*24:=Int.mul_le_mul (by omega) (by omega) (by omega) (by omega);have P:0<=m.p.1*m.p.2.2:=vk (by omega) (by omega);refine cv (fun(t:Bool) h'=>t=decide (m.p.1*m.p.2.2*8<(n:Int)∨12<=m.aH.length)/\h'=h3) ?_ ?_
 ·refine⟨a,rfl,x.2.2.1,g.cell rfl,a,rfl,x.2.2.2.2.1,by rw[addr_add];exact g.cell rfl,?_⟩;rw[F,E,an (m.p.1*m.p.2.2),an (m.p.1*m.p.2.2*8)];refine al (fun e=>⟨(decide_eq_true (.inl (by omega))).symm,rfl⟩) fun e=>?_;refine⟨a,rfl,x.2.2.2.2.2.2.2,g.cell rfl,?_,rfl⟩;rw[decide_eq_decide];omega
 rintro t _ ⟨rfl,rfl⟩;refine al (fun e=>⟨by unfold cO;rw[o,G,<-d,if_pos e];rfl,u⟩) fun S=>?_;have W:cO m (iD w offs) ds name n=if bS ds m.drives=[]∨16777215<m.next∨2147483647<=m.seq then 7 else 0:=by
  unfold cO;rw[o,G,<-d,if_neg S];rfl
 rw[W];refine(gW x m b K I).mono ?_;rintro _ X ⟨r,rfl,q⟩;have f:=(q.own 0 rfl).len;have c:Sp z X []:=.zip (aa.up u q.ah).ah;have k:=g.ah q.ah g.lt;refine⟨r,rfl,dN (fun e=>⟨by rw[if_pos (.inl (qK (by omega)))],c⟩) fun e=>?_⟩;have A:bS ds m.drives≠[]:=fun M=>by rw[M]at f;simp at f;omega
 refine⟨a,rfl,x.2.1,k.cell rfl,al (fun e=>⟨by rw[if_pos (.inr (.inl (by rw[<-b.next];omega)))],c⟩) fun Z=>?_⟩;have O:=b.next;have Q:=b.seq;refine⟨a,rfl,x.1,k.cell0 rfl,al (fun e=>⟨by rw[if_pos (.inr (.inr (by omega)))],c⟩) fun e7=>⟨?_,c⟩⟩;rw[if_neg];rintro(h|h|h)
 ·exact A h
 ·omega
 ·omega
end
theorem XF:∃i a,C.T.get 38=some i/\i.cr=.slice a:=⟨_,_,rfl,rfl⟩
def pZ(A B:aX)(k:Nat):aX:=dG (A.take k) (B.take k)++A.drop k
theorem FI{A B:aX}(h:B.length=A.length)(k:Nat):(pZ A B k).length=A.length:=by simp[pZ,dG,h];omega
theorem XG{A B:aX}(h:B.length=A.length){k:Nat}(a:k<A.length):(pZ A B k)[k]?=some A[k]:=by
 have:(dG (A.take k) (B.take k)).length=k:=by simp[dG];omega
 rw[pZ,qg (by omega),this,qZ,wo,wT,qd a]
theorem XH{A B:aX}(h:B.length=A.length){k:Nat}(a:k<A.length):(pZ A B k).set k (A[k]++B[k]'(by omega))=pZ A B (k+1):=by
 have b:(dG (A.take k) (B.take k)).length=k:=by simp[dG];omega
 rw[pZ,q9 _ _ (by omega),b,qZ,qS a,zR,pZ,aK _ _ a,aK _ _ (show k<B.length by omega),dG,dG,yV (by simp;omega),qm];rfl
theorem XI{A B:aX}(h:B.length=A.length):pZ A B A.length=dG A B:=by
 rw[pZ,zc,<-h,zc,h,List.drop_length,qM]
theorem PC(f:Addr)(a b:Sl)(A B:aX)(n w:Nat)(h:Heap)(hf:ib h f)(L:dU h a 1 aw A)(U:dU h b 1 aw B)(hl:A.length=n)(bd:B.length=n)(i:aZ n A)(H:aZ w B)(bw:1<=n)(hn:n+w<=64)(hr:cU A=n):
  ac xa 100 #[vS (some f),a,b] h fun v h'=>∃r:Sl,v=.tuple #[r,vQ vW 0]/\Sp h h' [gz 38 r 1 aw (ju n A B)]:=by
 have d:B.length=A.length:=by omega
 have P:=L.len;have z:=U.len;refine IS (some f) a b ?_;unfold CF;refine aU ?_;refine(pY a A n h L i).mono ?_;rintro v h1 ⟨rfl,rfl⟩;refine⟨_,rfl,aW (fun e=>by cases e) fun _=>?_⟩;refine(pY b B w h1 U H).mono ?_;rintro v K ⟨rfl,rfl⟩;refine⟨_,rfl,aW (fun e=>by cases e) fun _=>?_⟩;refine ci (fun e=>absurd (by rw[P,z,d]) e) fun _=>?_;refine dN (fun e=>by omega) fun _=>?_;refine(tI a A K L).mono ?_;rintro v h3 ⟨rfl,rfl⟩;have Z:fx A=n:=by
  cases A with
  |nil=>simp at hl;omega
  |cons x t=>rw[fx,bI (by simp)];exact i _ (by simp)
 refine⟨_,rfl,?_⟩;rw[Z];refine(Bb a A n h3 L i (by omega) (by omega)).mono ?_;rintro v h4 ⟨r,rs,rfl,bl,R4⟩;refine⟨r,rfl,?_⟩;have a2:=(R4.own 0 rfl).len;refine az (fun t:Nat×List Sl=>(t.1:Int)) (fun t h'=>t.1<=n/\t.2.length=n/\Sp h3 h' (mI r t.2 (pZ A B t.1))) (fun t=>n-t.1) (0,rs) rfl ⟨by simp,by dsimp only;omega,by simpa[pZ,dG]using R4⟩ ?_;rintro⟨k,rs⟩ h5 ⟨hk,a9,l⟩;dsimp only at*;have F:rs.length=(pZ A B k).length:=by rw[FI d];omega
 refine al (fun e=>?_) (fun e=>?_)
 ·have E:k<n:=by omega
  have j:k<A.length:=by omega
  have N:=tJ (a:=r) F k (by rw[FI d];omega);have eg:(pZ A B k)[k]'(by rw[FI d];omega)=A[k]:=by
   have:=XG d j;rw[qd (by rw[FI d];omega)]at this;exact wG.inj this
  rw[eg]at N;have l1:A[k].length=n:=i _ (qn _);have l2:(B[k]'(by omega)).length=w:=H _ (qn _);refine(l.seq 0 rfl (fun _=>rfl)).si k rfl (by omega) fun a1 Y W=>?_;refine(U.up l.ah).get k rfl (by omega) fun rb S=>?_;refine l.append af (k+1) N iA XF rfl (by decide) (fun _=>rfl) S fX (by omega) fun J h6 H6=>⟨trivial,?_⟩
  refine H6.set af 0 rfl (fun _=>rfl) rfl k rfl (by omega) J rfl rfl rfl fun R H7=>⟨trivial,?_⟩
  refine⟨(k+1,rs.set k J),by dsimp only;rw[an _];rfl,⟨by dsimp only;omega,by dsimp only;simp;omega,?_⟩,by dsimp only;omega⟩;dsimp only;rw[<-XH d j];show Sp h3 R (aj 38 r 1 cF (rs.set k J)::bx 5 1 aw (rs.set k J) ((pZ A B k).set k _));rw[<-kW F];exact H7
 ·have V:k=A.length:=by omega
  subst V;rw[XI d]at l;refine(xy f h5).mono ?_;rintro v h6 ⟨rfl,rfl⟩;refine⟨some f,rfl,?_⟩;have o:=lF d.symm i H;have a6:=kB d.symm;refine(CR (m:=dG A B) (n:=n+w) hf hf.lt (by omega) o (by omega) (by omega) (by omega) l).mono ?_;rintro v R ⟨g,rfl,ay,y⟩;rw[Kn d.symm i,hr];refine⟨_,rfl,?_⟩;dsimp only;have a0:=(y.own 0 rfl).cap;have bk:=(y.own 0 rfl).len;have K:=gP o n;refine al (fun e=>absurd (show(n:Int)<(n:Int)from e) (by omega)) fun _=>?_;refine⟨⟨yC _,yQ.2 (show n<=r.len by omega)⟩,?_⟩;refine az (fun _:Unit=>(0:Int)) (fun _ h'=>h'=R) (fun _=>0) () rfl rfl ?_;rintro _ h8 rfl;rw[qq];refine al (fun e=>by omega) fun _=>?_;refine⟨⟨yC _,yQ.2 (show n<=r.cap by omega)⟩,?_⟩;obtain⟨M,I⟩:∃M,M=(bz (dG A B) n).2:=⟨_,rfl⟩
  have a5:M.length=n:=by have:=K.2;rw[<-I]at this;omega
  have X:aZ (n+w) M:=by rw[I];exact K.1
  have p:∀k (hk:k<n),(ju n A B).take (k+1)=(ju n A B).take k++[(M[k]'(by omega)).drop n]:=fun k hk=>by
   have e1:ju n A B=M.map (List.drop n):=by rw[ju,<-I,qi (by omega)]
   rw[e1,aK _ _ (by simp;omega),yt]
  have a7:(ju n A B).length=n:=(BU d.symm i H hr).1;rw[<-I]at y;refine az (fun t:Sl×Nat=>(t.1,(t.2:Int))) (fun t h'=>t.2<=n/\Sp h8 h' [gz 38 t.1 1 aw ((ju n A B).take t.2)]) (fun t=>n-t.2) (⟨none,0,0⟩,0) rfl ⟨by simp,(Sp.refl h8).Ow 38 1 aw⟩ ?_;rintro⟨s,k⟩ h9 ⟨a4,G⟩;dsimp only at*;have Q:=y.comp G;have ad:g.length=M.length:=by omega
  refine al (fun e=>?_) (fun e=>?_)
  ·have E:k<n:=by omega
   have N:=tJ (a:=r) ad k (by omega);have q:(mI r g M++[gz 38 s 1 aw ((ju n A B).take k)])[k+1]?=some (aj 5 (g[k]'(by omega)) 1 aw (M[k]'(by omega))):=by
    rw[ql (by simp[bx];omega)];exact N
   have bb:(M[k]'(by omega)).length=n+w:=X _ (qn _);have u:=Q.own (k+1) q;have O:=Q.seq (k+1) q (fun _=>rfl);have a3:=u.len;have D:=(Q.seq 0 rfl (fun _=>rfl)).take n (by omega);rw[qi (by omega)]at D;refine D.si k rfl (by omega) fun a1 Y W=>?_;refine⟨⟨yC _,yQ.2 (by omega)⟩,?_⟩;refine(jQ _ _ h9 (O.drop n u.cap) (by simp;omega)).mono ?_;rintro v a8 ⟨c,rfl,ax⟩;have am:=(G.comp ax).freeze 1 rfl (fun _=>rfl);refine⟨c,rfl,?_⟩;refine am.Gp af 0 1 (by decide) rfl rfl jy (by simp;omega) fun s' br T=>?_;refine⟨(s',k+1),by dsimp only;rw[an _];rfl,⟨by dsimp only;omega,?_⟩,by dsimp only;omega⟩;dsimp only;rw[p k E];exact T.del 1
  ·rw[qi (by omega)]at G;refine⟨s,rfl,?_⟩;have:=(Sp.zip y.ah).comp G;exact this
def lI(p:Pm)(seed:Int)(l:Nat):Int:=if bV p&&decide ((l:Int)=p.1*p.2.2)then(if jt p seed (ea p)then 0 else 8)else 1
abbrev DT(p:Pm)(seed:Int)(m:Sl):aQ:=[vQ vW p.1,vQ vW p.2.1,vQ vW p.2.2,vQ vY seed,m]
theorem Ui(p:Pm)(seed:Int)(data:Sl)(d:Row)(h:Heap)(hd:Rd h data 1 aw d)(hc:data.len<=data.cap):
  ac xa 64 #[kP p,vQ vY seed,data] h fun v h'=>
   (lI p seed d.length=0->∃(b:Addr) (m:Sl),v=.tuple #[vS (some b),vQ vW 0]/\Sp h h' [gz 38 m 1 aw (dP p seed d),ag b 152 (DT p seed m)])/\
   (lI p seed d.length≠0->v=.tuple #[vS none,vQ vW (lI p seed d.length)]/\Sp h h' []):=by
 have Y:=hd.len;refine GC p seed data ?_;unfold Au;refine(Sp.refl h).boxed fun a h1 H1=>?_;refine aU ?_;refine⟨p,(H1.box 0 rfl).aF _ rfl,(dR p h1).mono ?_⟩;rintro v h2 ⟨rfl,R2⟩;have N:=H1.comp R2;have Z:∀{h3:Heap} (x:Int),x≠0->lI p seed d.length=x->Sp h h3 [ag a 24 [vQ vW p.1,vQ vW p.2.1,vQ vW p.2.2]]->
   (lI p seed d.length=0->∃(b:Addr) (m:Sl),Value.tuple #[vS none,vQ vW x]=.tuple #[vS (some b),vQ vW 0]/\Sp h h3 [gz 38 m 1 aw (dP p seed d),ag b 152 (DT p seed m)])/\
   (lI p seed d.length≠0->Value.tuple #[vS none,vQ vW x]=.tuple #[vS none,vQ vW (lI p seed d.length)]/\Sp h h3 []):=fun x hx O H=>by
  refine⟨fun e=>absurd (O.symm.trans e) hx,fun _=>⟨by rw[O],.zip H.ah⟩⟩
 refine⟨_,rfl,aW (fun e=>Z 1 (by decide) (by rw[lI,e];rfl) N) fun R=>?_⟩;have a4:=(cb p).1 R;obtain⟨K,hK⟩:∃K:Nat,p.1=K:=⟨p.1.toNat,by omega⟩
 obtain⟨u,hH⟩:∃H:Nat,p.2.1=H:=⟨p.2.1.toNat,by omega⟩
 obtain⟨w,M⟩:∃w:Nat,p.2.2=w:=⟨p.2.2.toNat,by omega⟩
 have ay:K*w<=16*24:=wm (by omega) (by omega);have J:p.1*p.2.2=((K*w:Nat):Int):=by rw[hK,M,wc]
 refine⟨p.1,(N.box 0 rfl).cell0 rfl,p.2.2,(N.box 0 rfl).cell rfl,?_⟩;rw[J,an _];refine ci (fun e=>Z 1 (by decide) (by rw[lI,R,decide_eq_false (by rw[J];intro V;exact e (by rw[Y];exact V))];rfl) N) fun el=>?_;have G:d.length=K*w:=by omega
 refine⟨p,(N.box 0 rfl).aF _ rfl,(FF p seed h2).mono ?_⟩;rintro v h3 ⟨rfl,R3⟩;have X:=N.comp R3;have y:lI p seed d.length=if jt p seed (ea p)then 0 else 8:=by rw[lI,R,decide_eq_true (by rw[J,G])];rfl
 refine⟨_,rfl,aW (fun e=>Z 8 (by decide) (by rw[y,e];rfl) X) fun hf=>?_⟩;rw[hf,if_pos rfl]at y;have B:bE p seed d K u w (K+u):=⟨R,hf,hK,hH,M,rfl,by omega,by omega,by omega,by omega,by omega,by omega,G⟩
 refine⟨p.2.1,(X.box 0 rfl).cell rfl,?_⟩;refine az (fun t:Sl×List Sl=>(t.1,(t.2.length:Int))) (fun t h'=>t.2.length<=u/\Sp h h' (ag a 24 [vQ vW p.1,vQ vW p.2.1,vQ vW p.2.2]::mI t.1 t.2 (qh t.2.length (be w)))) (fun t=>u-t.2.length) (⟨none,0,0⟩,[]) rfl ⟨by simp,X.nil 38 1 cF⟩ ?_;rintro⟨s,rs⟩ h4 ⟨hk,P⟩;dsimp only at*;refine al (fun e=>?_) (fun e=>?_)
 ·refine⟨p.2.2,(P.box 0 rfl).cell rfl,?_⟩;refine P.make af aw iA (by decide) 0 rfl rfl w w M M (qp _) (by omega) fun z h5 a3 a2 D=>?_;refine D.push af 1 rfl jy rfl (by decide) (fun _=>rfl) pm z rfl (by decide) (by omega) fun s' T W=>?_;refine⟨(s',rs++[z]),by dsimp only;rw[an _];simp,⟨by simp;omega,?_⟩,by simp;omega⟩;dsimp only;have e7:mI s' (rs++[z]) (qh rs.length (be w)++[be w])=aj 38 s' 1 cF (rs++[z])::(bx 5 1 aw rs (qh rs.length (be w))++[aj 5 z 1 aw (be w)]):=congrArg _ (pr (by simp) z (be w));rw[show(rs++[z]).length=rs.length+1 by simp,List.replicate_succ',e7];exact W
 ·have L:rs.length=u:=by omega
  rw[L]at P;refine⟨p.1,(P.box 0 rfl).cell0 rfl,?_⟩;let own:=bx 5 1 aw rs (qh u (be w));refine az (fun t:Sl×Nat=>(t.1,(t.2:Int))) (fun t h'=>t.2<=K/\Sp h h' (ag a 24 [vQ vW p.1,vQ vW p.2.1,vQ vW p.2.2]::aj 38 t.1 1 cF (rs++(qD t.2).map (Gq data w))::own)) (fun t=>K-t.2) (s,0) rfl ⟨by simp,by simpa using P⟩ ?_;rintro⟨t,k⟩ h5 ⟨a1,D⟩;dsimp only at*;refine al (fun V=>?_) (fun V=>?_)
  ·have am:k<K:=by omega
   have m1:(k+1)*w<=K*w:=zm w am;have m2:k*w<=(k+1)*w:=zm w (by omega);refine⟨p.2.2,(D.box 0 rfl).cell rfl,p.2.2,(D.box 0 rfl).cell rfl,?_⟩;rw[an ((k:Int)+1)];have e5:(k:Int)*p.2.2=((k*w:Nat):Int):=by rw[M,wc]
   have e6:((k:Int)+1)*p.2.2=(((k+1)*w:Nat):Int):=by rw[M,wc];rfl
   rw[e5,e6,oF _,oF _,qq,qq];refine⟨⟨yC _,yQ.2 m2,yQ.2 (by omega)⟩,?_⟩;refine D.push af 1 rfl jy rfl (by decide) (fun _=>rfl) pm (Gq data w k) rfl (by decide) (by simp;omega) fun t' T W=>?_;refine⟨(t',k+1),rfl,⟨by dsimp only;omega,?_⟩,by dsimp only;omega⟩;dsimp only;rw[zE,za,<-qm];exact W
  ·have ax:k=K:=by omega
   subst ax;refine aU ?_;have E:dU h5 t 1 aw (hO k u w d):=by
    refine⟨rs++(qD k).map (Gq data w),D.seq 1 rfl (fun _=>rfl),by rw[Aj];simp;omega,fun i r l q o=>?_⟩;by_cases F:i<u
    ·rw[ql (by omega),qd (by omega)]at q;rw[hO,ql (by simpa using F)]at o;have hz:l=be w:=by simp[F]at o;exact o.symm
     have hr:rs[i]'(by omega)=r:=wG.inj q;have g:(ag a 24 [vQ vW p.1,vQ vW p.2.1,vQ vW p.2.2]::aj 38 t 1 cF (rs++(qD k).map (Gq data w))::own)[i+2]?=some (aj 5 (rs[i]'(by omega)) 1 aw ((qh u (be w))[i]'(by simpa using F))):=gO (by simpa using L) i (by simpa using F);have:=D.seq (i+2) g (fun _=>rfl);rw[List.getElem_replicate,hr]at this;rw[hz];exact this
    ·obtain⟨j,rfl⟩:∃j,i=u+j:=⟨i-u,by omega⟩
     rw[qg (by omega),L,zg]at q;rw[hO,qg (by simp),List.length_replicate,zg]at o;have hj:j<k:=by
      have:=(qk.1 q).1;simpa using this
     simp[hj]at q o;have m1:(j+1)*w<=k*w:=zm w hj;rw[<-q,<-o];exact(Seq.up hd D.ah).piece hc w j (by omega)
   have c:=D.box 0 rfl;refine⟨p,c.aF _ rfl,p,c.aF _ rfl,(uU h5).mono ?_⟩;rintro v T ⟨f,rfl,R6⟩;have n:=c.ah R6.ah c.lt;refine⟨some f,rfl,⟨n.cell0 rfl,n.cell rfl,n.cell rfl,n.cell0 rfl,n.cell rfl,n.cell rfl,trivial⟩,(FE p T).mono ?_⟩;rintro v h7 ⟨r7,rfl,R7⟩;have Q7:=R6.comp R7;have I:=c.ah Q7.ah c.lt;refine⟨r7,rfl,⟨I.cell0 rfl,I.cell rfl,I.cell rfl,trivial⟩,?_⟩;refine(CQ p seed r7 (ea p) h7 (Q7.seq 1 rfl (fun _=>rfl)) (by rw[ea,fw];omega)).mono ?_;rintro v h8 ⟨r8,rfl,R8⟩;have S:=Q7.comp R8;refine⟨r8,rfl,trivial,?_⟩;refine(PC f r8 t _ _ (k+u) w h8 (S.box 0 rfl) (S.Ek 2 rfl) (E.up S.ah) B.Ai (by rw[Aj]) B.BW (oJ B.len) (by omega) (by omega) B.OV).mono ?_;rintro v h9 ⟨r9,rfl,R9⟩;have Q9:=S.comp R9;refine⟨(r9,0),rfl,trivial,?_⟩;refine ci (fun e=>absurd rfl e) fun _=>?_;have ad:=c.ah Q9.ah c.lt;refine⟨p,ad.aF _ rfl,?_⟩;refine Q9.boxed (t:=152) fun b a0 U=>?_;refine⟨fun _=>⟨b,r9,rfl,?_⟩,fun e=>absurd y e⟩;have Q:=(Sp.zip D.ah).comp U;rw[<-B.vw]at Q;exact Q.take 3 (fun i A F=>by
    cases i with
    |zero=>exact F
    |succ i=>cases i with
     |zero=>exact F
     |succ i=>simp at F)
def Hc(h:Heap)(b:Addr)(p:Pm)(seed:Int)(M:aX):Prop:=∃m:Sl,bZ h b 152 (DT p seed m)/\dU h m 1 aw M
theorem Hc.up{h a:Heap}{b:Addr}{p:Pm}{seed:Int}{M:aX}(f:Hc h b p seed M)(d:aG (fun b=>b<h.size) h a):Hc a b p seed M:=by
 obtain⟨m,c,e⟩:=f;exact⟨m,c.ah d c.lt,e.up d⟩
theorem Nh{a t:Row}(b:a.length=t.length){k:Nat}(d:k<t.length):(zP (fun x y=>y^^^Gf.mul 1 x) (a.take k) (t.take k)++t.drop k).set k (t[k]^^^(a[k]'(by omega)))=zP (fun x y=>y^^^Gf.mul 1 x) (a.take (k+1)) (t.take (k+1))++t.drop (k+1):=by
 have:=Bc (c:=1) b d;rw[Gf.one_mul]at this;exact this
theorem XJ{a t:Row}(c:a.length=t.length){k:Nat}(b:k<t.length):(zP (fun x y=>y^^^Gf.mul 1 x) (a.take k) (t.take k)++t.drop k)[k]?=some t[k]:=by
 have d:(zP (fun x y=>y^^^Gf.mul 1 x) (a.take k) (t.take k)).length=k:=by simp;omega
 rw[qg (by omega),d,qZ,wo,wT,qd b]
theorem Ni(b:Addr)(p:Pm)(seed id:Int)(M:aX)(n w:Nat)(h:Heap)(hb:Hc h b p seed M)(F:bV p=true)(T:p.2.2=w)(hn:(cG p).toNat=n)(U:aZ w M)(hl:M.length=n):
  ac xa 66 #[vS (some b),vQ vW id] h fun v h'=>∃r:Sl,v=r/\Sp h h' [aj 5 r 1 aw (if cg id then fA w M (eO n seed id)else[])]:=by
 obtain⟨m,f,Y⟩:=hb;have ay:=Y.len;have a5:=(cb p).1 F;have hc:cG p=p.1+p.2.1:=by rw[cG,if_pos F]
 refine rm (some b) id ?_;unfold lT;have V:cg id=false->∃r:Sl,Value.slice none 0 0=vR r.ptr r.len r.cap/\Sp h h [aj 5 r 1 aw (if cg id then fA w M (eO n seed id)else[])]:=fun e=>by
  rw[e];exact⟨⟨none,0,0⟩,rfl,(Sp.refl h).nil 5 1 aw⟩
 refine aU (bq (fun e=>by cases e) fun _=>al (fun e=>V (by simp[cg];omega)) fun e1=>al (fun e=>V (by simp[cg];omega)) fun N=>?_);have hid:cg id=true:=by simp[cg];omega
 refine⟨b,rfl,p.2.2,f.cell rfl,?_⟩;refine(Sp.refl h).make af aw iA (by decide) 0 rfl rfl w w T T (qp _) (by omega) fun o h1 a2 am P=>?_;have D:=f.ah P.ah f.lt;refine⟨b,rfl,p,D.aF _ rfl,b,rfl,seed,D.cell rfl,(Ih p seed id h1).mono ?_⟩;rintro v h2 ⟨c,rfl,X⟩;rw[F,hid,vK,if_pos rfl,hn]at X;rw[hid,if_pos rfl];have L:=P.comp X;obtain⟨d,l⟩:∃d,d=eO n seed id:=⟨_,rfl⟩
 have s:∀x∈d,0<=x/\x<(n:Int):=fun x R=>rv (by omega) (by omega) (by rw[<-l];exact R);have Q:d.length<=n:=by rw[l];exact Hy (by omega) (by omega) _ _
 rw[<-l]at L⊢;have a0:=(L.seq 1 rfl (fun _=>rfl)).len;refine⟨c,rfl,trivial,?_⟩;refine az (fun i:Nat=>(i:Int)) (fun i h'=>i<=d.length/\Sp h h' [aj 5 o 1 aw (fA w M (d.take i)),aj 3 c 1 aE d]) (fun i=>d.length-i) 0 rfl ⟨by omega,L⟩ ?_;rintro i h3 ⟨E,q⟩;refine al (fun e=>?_) (fun e=>?_)
 ·have j:i<d.length:=by omega
  have R:=s _ (qn j);refine(q.seq 1 rfl (fun _=>rfl)).cK i rfl j _ rfl ?_;have I:=f.ah q.ah f.lt;refine⟨b,rfl,m,I.cell rfl,?_⟩;obtain⟨ad,O⟩:=Y;refine(O.ah q.ah).get d[i].toNat (by omega) (by omega) fun r W J=>?_;have u:=O.row _ r _ J (qd (show d[i].toNat<M.length by omega));obtain⟨row,g⟩:∃row,row=M[d[i].toNat]'(by omega):=⟨_,rfl⟩
  have a1:row.length=w:=by rw[g];exact U _ (qn _)
  rw[<-g]at W u;obtain⟨S,K⟩:∃S,S=fA w M (d.take i):=⟨_,rfl⟩
  have Z:S.length=w:=by rw[K];exact pF U hl s i E
  have ax:=W.len;have N:fA w M (d.take (i+1))=cX 1 row S:=by rw[aK _ _ j,Ds,K,g,bI (by omega)]
  rw[<-K]at q;refine az (fun k:Nat=>(k:Int)) (fun k h'=>k<=w/\Sp h h' [aj 5 o 1 aw (zP (fun x y=>y^^^Gf.mul 1 x) (row.take k) (S.take k)++S.drop k),aj 3 c 1 aE d]) (fun k=>w-k) 0 rfl ⟨by omega,by simpa using q⟩ ?_;rintro k h4 ⟨hk,B⟩;have H:=u.ah B.ah;have a3:(zP (fun x y=>y^^^Gf.mul 1 x) (row.take k) (S.take k)++S.drop k).length=w:=by simp;omega
  refine al (fun e3=>?_) (fun e3=>?_)
  ·have a4:k<w:=by omega
   have z:(zP (fun x y=>y^^^Gf.mul 1 x) (row.take k) (S.take k)++S.drop k)[k]'(by omega)=S[k]'(by omega):=by
    have:=XJ (a:=row) (t:=S) (by omega) (show k<S.length by omega);rw[qd (by omega)]at this;exact wG.inj this
   refine H.cK k rfl (by omega) _ rfl ?_;refine(B.seq 0 rfl (fun _=>rfl)).cK k rfl (by omega) _ rfl ?_;rw[z,tG];refine B.set af 0 rfl (fun _=>rfl) rfl k rfl (by omega) _ rfl rfl rfl fun h5 H5=>?_;refine⟨k+1,by rw[an _];rfl,⟨by omega,?_⟩,by omega⟩;rw[<-Nh (by omega) (show k<S.length by omega)];exact H5
  ·have G:k=w:=by omega
   subst G;rw[qi (by omega),qi (by omega),zd (by omega),qM]at B;refine⟨i+1,by rw[an _];rfl,⟨by omega,?_⟩,by omega⟩;rw[N];exact B
 ·rw[qi (by omega)]at q;exact⟨o,rfl,q.take 0 (fun i A E=>by cases i with|zero=>exact E|succ i=>simp at E)⟩
theorem _root_.Wl.bE.lI{p:Pm}{seed:Int}{d:Row}{K H w n:Nat}(B:bE p seed d K H w n):lI p seed d.length=0:=by
 rw[Go.Qw.lI,B.may,B.full,B.len,B.k,B.s,decide_eq_true (by rw[wc])];rfl
theorem _root_.Wl.bE.congr{p:Pm}{seed:Int}{d a:Row}{K H w n:Nat}(B:bE p seed d K H w n)(h:a.length=K*w):bE p seed a K H w n:=
 ⟨B.may,B.full,B.k,B.h,B.s,B.n,B.k1,B.k2,B.h1,B.h2,B.w1,B.w2,h⟩
theorem XK{p:Pm}{seed:Int}{d:Row}{K H w n:Nat}(B:bE p seed d K H w n)(data:Sl)(h:Heap)(a:Rd h data 1 aw d)(c:data.len<=data.cap):
  ac xa 64 #[kP p,vQ vY seed,data] h fun v h'=>
   ∃(b:Addr) (m:Sl),v=.tuple #[vS (some b),vQ vW 0]/\Sp h h' [gz 38 m 1 aw (dP p seed d),ag b 152 (DT p seed m)]:=
 (Ui p seed data d h a c).mono fun _ _ e=>e.1 B.lI
theorem _root_.Wl.bE.symbol{p:Pm}{seed:Int}{d:Row}{K H w n:Nat}(B:bE p seed d K H w n)(b:Addr)(id:Int)(h:Heap)(a:Hc h b p seed (dP p seed d)):
  ac xa 66 #[vS (some b),vQ vW id] h fun v h'=>∃r:Sl,v=r/\Sp h h' [aj 5 r 1 aw (if cg id then fA w (dP p seed d) (eO n seed id)else[])]:=
 Ni b p seed id _ n w h a B.may B.s B.mj B.nQ.2 B.nQ.1
def tO(s:wd):aQ:=[.complex .f64 s.ax s.ay,.complex .f64 s.sx s.sy,vQ vW s.left,vQ vW s.leg,vU s.second]
theorem lX{o:Option Nat}(h:o.isSome=true):o=some (o.getD 0):=by
 cases o with
 |none=>cases h
 |some x=>rfl
theorem PD(h:Heap):ac xa 136 #[] h fun v h'=>∃a:Addr,v=vS (some a)/\Sp h h' [ag a 193 (tO Yv)]:=by
 refine Fe ?_;unfold xn;refine(Sp.refl h).boxed (t:=193) fun a c b=>?_;exact⟨a,rfl,b⟩
theorem RT(a b:Nat)(h:Heap)(f:(fB.mul a 0).isSome=true)(c:(fB.mul b mq).isSome=true)(h3:(fB.sub (ot a 0) (ot b mq)).isSome=true)(g:(fB.mul a mq).isSome=true)(i:(fB.mul b 0).isSome=true)(j:(fB.add (ot a mq) (ot b 0)).isSome=true):
  ac xa 187 #[.complex .f64 a b,vQ vW 1] h fun v h'=>v=.complex .f64 (tx a b) (ty a b)/\h'=h:=by
 refine GN (a,b) 1 ?_;unfold AI;refine⟨by decide,by decide,?_⟩;refine az (fun k:Nat=>(if k=0 then(a,b)else(tx a b,ty a b),(k:Int))) (fun k h'=>k<=1/\h'=h) (fun k=>1-k) 0 rfl ⟨by omega,rfl⟩ ?_;rintro k h' ⟨l,rfl⟩;have d:zY (qc vW (zY 1 4+4)) 4=1:=by decide
 dsimp only;rw[d];refine al (fun e=>?_) (fun e=>?_)
 ·have:k=0:=by omega
  subst this;refine⟨(tx a b,ty a b),Wa (lX f) (lX c) (lX h3) (lX g) (lX i) (lX j),?_⟩;exact⟨1,rfl,⟨by omega,rfl⟩,by omega⟩
 ·have:k=1:=by omega
  subst this;exact⟨rfl,rfl⟩
theorem Uj(a:Addr)(s:wd)(h:Heap)(f:bZ h a 193 (tO s))(c:s.ok=true):ac xa 137 #[vS (some a)] h fun v h'=>v=.tuple #[]/\bZ h' a 193 (tO s.on)/\aG (fun b=>b≠a.block) h h':=by
 simp only[wd.ok,qz,decide_eq_true_eq]at c;obtain⟨⟨⟨⟨⟨⟨⟨⟨⟨⟨⟨t,D⟩,I⟩,G⟩,K⟩,E⟩,J⟩,F⟩,N⟩,A⟩,B⟩,x⟩:=c;refine xI (some a) ?_;unfold oB;have z:aa (fun b=>b<h.size/\¬b=a.block) h h [ag a 193 (tO s)]:=.Qz (fun b=>b=a.block) (fun b m=>by rw[m];exact f.lt) ⟨f,rfl⟩;have fin:∀{h':Heap},aa (fun b=>b<h.size/\¬b=a.block) h h' [ag a 193 (tO s.on)]->Value.tuple #[]=.tuple #[]/\bZ h' a 193 (tO s.on)/\aG (fun b=>b≠a.block) h h':=fun H=>
  ⟨rfl,H.box 0 rfl,H.ah.1,fun k q l=>H.ah.2 k q ⟨q,l⟩⟩
 refine⟨a,rfl,(s.ax,s.ay),f.cell0 rfl,a,rfl,(s.sx,s.sy),f.cell rfl,(lG s.ax s.sx,lG s.ay s.sy),VY (lX t) (lX D),a,rfl,?_⟩;refine z.pk af 0 rfl rfl [.complex .f64 (lG s.ax s.sx) (lG s.ay s.sy)] rfl rfl rfl (by simp[tO]) fun M r=>⟨trivial,?_⟩
 refine⟨a,rfl,s.left,(r.box 0 rfl).cell (j:=2) rfl,a,rfl,?_⟩;rw[an (s.left-1)];refine r.storeAt af 0 rfl rfl (off:=2) rfl rfl rfl (by simp[tO]) fun y g=>?_;refine⟨a,rfl,s.left-1,(g.box 0 rfl).cell (j:=2) rfl,?_⟩;refine al (fun e=>?_) (fun e=>?_)
 ·have i:tO s.on=[.complex .f64 (lG s.ax s.sx) (lG s.ay s.sy),.complex .f64 s.sx s.sy,vQ vW (s.left-1),vQ vW s.leg,vU s.second]:=by rw[wd.on,if_pos e];rfl
  refine fin ?_;rw[i];exact g
 ·refine⟨a,rfl,(s.sx,s.sy),(g.box 0 rfl).cell (j:=1) rfl,(RT s.sx s.sy y I G K E J F).mono ?_⟩;rintro v h3 ⟨rfl,rfl⟩;refine⟨(tx s.sx s.sy,ty s.sx s.sy),rfl,a,rfl,?_⟩;refine g.storeAt af 0 rfl rfl (off:=1) rfl rfl rfl (by simp[tO]) fun P d=>?_;refine cv (fun _ h'=>aa (fun b=>b<h.size/\¬b=a.block) h h' [ag a 193 [.complex .f64 (lG s.ax s.sx) (lG s.ay s.sy),.complex .f64 (tx s.sx s.sy) (ty s.sx s.sy),vQ vW (s.left-1),vQ vW (if s.second then s.leg+1 else s.leg),vU s.second]]) ?_ ?_
  ·refine⟨a,rfl,s.second,(d.box 0 rfl).cell (j:=4) rfl,bq (fun n=>?_) (fun n=>?_)⟩
   ·refine⟨a,rfl,s.leg,(d.box 0 rfl).cell (j:=3) rfl,a,rfl,?_⟩;rw[an (s.leg+1)];refine d.storeAt af 0 rfl rfl (off:=3) rfl rfl rfl (by simp[tO]) fun Q u=>?_;rw[if_pos n];exact u
   ·rw[if_neg (by rw[n];decide)];exact d
  ·rintro _ L p;refine⟨a,rfl,s.second,(p.box 0 rfl).cell (j:=4) rfl,a,rfl,?_⟩;refine p.storeAt af 0 rfl rfl (off:=4) rfl rfl rfl (by simp) fun O o=>?_;refine⟨a,rfl,_,(o.box 0 rfl).cell (j:=3) rfl,a,rfl,?_⟩;refine o.storeAt af 0 rfl rfl (off:=2) rfl rfl rfl (by simp) fun h8 w=>?_;have i:tO s.on=[.complex .f64 (lG s.ax s.sx) (lG s.ay s.sy),.complex .f64 (tx s.sx s.sy) (ty s.sx s.sy),vQ vW (if s.second then s.leg+1 else s.leg),vQ vW (if s.second then s.leg+1 else s.leg),vU (!s.second)]:=by rw[wd.on,if_neg e];rfl
   refine fin ?_;rw[i];exact w
theorem Ob(n:Nat)(h:Heap)(l:n<64):ac xa 104 #[vQ vW n] h fun v h'=>v=.complex .f64 (iM n).ax (iM n).ay/\Sp h h' []:=by
 refine KS n ?_;unfold EY;refine al (fun e=>by omega) fun _=>al (fun e=>by omega) fun _=>?_;refine(PD h).mono ?_;rintro v i ⟨a,rfl,g⟩;refine⟨some a,rfl,?_⟩;refine az (fun k:Nat=>(k:Int)) (fun k h'=>k<=n/\Sp h h' [ag a 193 (tO (iM k))]) (fun k=>n-k) 0 rfl ⟨by omega,g⟩ ?_;rintro k f ⟨j,b⟩;refine dN (fun e=>?_) (fun e=>?_)
 ·have:k=n:=by omega
  subst this;exact⟨a,rfl,((iM k).ax,(iM k).ay),(b.box 0 rfl).cell0 rfl,rfl,.zip b.ah⟩
 ·refine(Uj a (iM k) f (b.box 0 rfl) (Yk k (by omega))).mono ?_;rintro v h3 ⟨rfl,c,d⟩;refine⟨(),rfl,k+1,by rw[an _];rfl,⟨by omega,b.oY 0 rfl d c⟩,by omega⟩
theorem Ik{a b:Int}(d:-4<=a:=by omega)(c:a<=4:=by omega)(h3:-4<=b:=by omega)(e:b<=4:=by omega):fB.sub (ct a) (ct b)=some (ct (a-b)):=by
 have:=Xf (a+4).toNat (by omega) (b+4).toNat (by omega);rw[show((a+4).toNat:Int)-4=a by omega,show((b+4).toNat:Int)-4=b by omega,show((a+4).toNat:Int)-((b+4).toNat:Int)=a-b by omega]at this;exact this
theorem Il{a:Int}(c:-8<=a:=by omega)(b:a<=8:=by omega):fB.mul (ct a) (ct a)=some (ct (a*a)):=by
 have:=Xg (a+8).toNat (by omega);rw[show((a+8).toNat:Int)-8=a by omega]at this;exact this
theorem Ly(a:Int):((a.natAbs:Nat):Int)*(a.natAbs:Nat)=a*a:=Int.natAbs_mul_self
theorem RU{a b:Int}(d:-8<=a)(c:a<=8)(h3:-8<=b)(e:b<=8):fB.add (ct (a*a)) (ct (b*b))=some (ct (a*a+b*b)):=by
 have:=Xh a.natAbs (by omega) b.natAbs (by omega);rw[Ly,Ly]at this;exact this
def Bg(i j:Nat):Int:=((eJ i).x-(eJ j).x)*((eJ i).x-(eJ j).x)+((eJ i).y-(eJ j).y)*((eJ i).y-(eJ j).y)
theorem Vt{a:Int}(c:-8<=a)(b:a<=8):0<=a*a/\a*a<=64:=by
 rw[<-Ly,<-wc];have:a.natAbs*a.natAbs<=8*8:=wm (by omega) (by omega);omega
theorem rS{n:Nat}(h:n<64):(iM n).ax=ct (eJ n).x/\(iM n).ay=ct (eJ n).y/\-4<=(eJ n).x/\(eJ n).x<=4/\-4<=(eJ n).y/\(eJ n).y<=4:=by
 have:=Xe n h;simp only[qz,decide_eq_true_eq,beq_iff_eq]at this;obtain⟨⟨⟨⟨⟨a,b⟩,c⟩,d⟩,e⟩,f⟩:=this;exact⟨a,b,c,d,e,f⟩
theorem RV{i j:Nat}(d:i<64)(c:j<64):0<=Bg i j/\Bg i j<=128:=by
 have a:=rS d;have b:=rS c;have f:=Vt (a:=(eJ i).x-(eJ j).x) (by omega) (by omega);have e:=Vt (a:=(eJ i).y-(eJ j).y) (by omega) (by omega);unfold Bg;omega
theorem Uk(i j:Nat)(h:Heap)(e:i<64)(d:j<64):ac xa 105 #[.complex .f64 (iM i).ax (iM i).ay,.complex .f64 (iM j).ax (iM j).ay] h fun v h'=>v=.float .f64 (ct (Bg i j))/\h'=h:=by
 have a:=rS e;have b:=rS d;refine IT ((iM i).ax,(iM i).ay) ((iM j).ax,(iM j).ay) ?_;unfold CG;have f:fB.sub (iM i).ax (iM j).ax=some (ct ((eJ i).x-(eJ j).x)):=by rw[a.1,b.1];exact Ik
 have c:fB.sub (iM i).ay (iM j).ay=some (ct ((eJ i).y-(eJ j).y)):=by rw[a.2.1,b.2.1];exact Ik
 refine⟨(ct ((eJ i).x-(eJ j).x),ct ((eJ i).y-(eJ j).y)),VZ f c,_,Il,_,Il,_,RU (by omega) (by omega) (by omega) (by omega),rfl,rfl⟩
abbrev Vu:bN C.tosH 22 3 1 [vQ vW 0] 8:=⟨_,_,rfl,rfl,rfl,rfl,rfl,rfl⟩
def ku(a b:Int):Int:=if a<b then-1 else if a>b then 1 else 0
theorem Lz(m:Nat)(h:Heap)(a:m<129):ac xa 139 #[.float .f64 (ct (m:Nat))] h fun v h'=>v=vU false/\h'=h:=by
 refine tg _ ?_;unfold mU;have:=Rh m a m a;rw[show(FloatKind.format .f64).order (ct (m:Nat)) (ct (m:Nat))=some (compare m m)from this,Nat.compare_eq_eq.2 rfl];exact⟨rfl,rfl⟩
theorem RW(m n:Nat)(h:Heap)(c:m<129)(b:n<129):ac xa 109 #[.float .f64 (ct (m:Nat)),.float .f64 (ct (n:Nat))] h fun v h'=>v=vQ vW (ku m n)/\h'=h:=by
 refine rn _ _ ?_;unfold lU;refine(Lz m h c).mono ?_;rintro v a ⟨rfl,rfl⟩;refine⟨_,rfl,(Lz n a b).mono ?_⟩;rintro v f ⟨rfl,rfl⟩;refine⟨_,rfl,bq (fun e=>by cases e) fun _=>bq (fun e=>by cases e) fun _=>?_⟩;have d:(FloatKind.format .f64).order (ct (m:Nat)) (ct (n:Nat))=some (compare m n):=Rh m c n b;rw[d];rcases Nat.lt_trichotomy m n with a|a|a
 ·rw[Nat.compare_eq_lt.2 a];refine bq (fun _=>⟨by rw[ku,if_pos (by omega)],rfl⟩) (fun e=>by cases e)
 ·subst a;rw[Nat.compare_eq_eq.2 rfl];refine bq (fun e=>by cases e) fun _=>bq (fun e=>by cases e) fun _=>⟨by rw[ku,if_neg (by omega),if_neg (by omega)],rfl⟩
 ·rw[Nat.compare_eq_gt.2 a];refine bq (fun e=>by cases e) fun _=>bq (fun _=>⟨by rw[ku,if_neg (by omega),if_pos (by omega)],rfl⟩) (fun e=>by cases e)
theorem Im(m:Int)(h:Heap):ac xa 140 #[vQ vW m] h fun v h'=>v=vU false/\h'=h:=by
 refine oC _ ?_;unfold mB;exact⟨by simp,rfl⟩
theorem RX(m n:Int)(h:Heap):ac xa 110 #[vQ vW m,vQ vW n] h fun v h'=>v=vQ vW (ku m n)/\h'=h:=by
 refine mT _ _ ?_;unfold kR;refine(Im m h).mono ?_;rintro v b ⟨rfl,rfl⟩;refine⟨_,rfl,(Im n b).mono ?_⟩;rintro v c ⟨rfl,rfl⟩;refine⟨_,rfl,bq (fun e=>by cases e) fun _=>bq (fun e=>by cases e) fun _=>?_⟩;refine al (fun e=>⟨by rw[ku,if_pos e],rfl⟩) fun e=>al (fun a=>⟨by rw[ku,if_neg e,if_pos a],rfl⟩) fun a=>⟨by rw[ku,if_neg e,if_neg a],rfl⟩
def Oc(a b:Int):Int:=if a≠0 then a else b
theorem Wq(s:Sl)(a b:Int)(h:Heap)(f:Rd h s 1 aE [a,b]):ac xa 108 #[s] h fun v h'=>v=vQ vW (Oc a b)/\h'=h:=by
 refine td s ?_;unfold pP;have l:s.len=2:=f.len;refine az (fun k:Nat=>(k:Int)) (fun k h'=>h'=h/\k<=2/\(1<=k->a=0)/\(2<=k->b=0)) (fun k=>2-k) 0 rfl ⟨rfl,by omega,by omega,by omega⟩ ?_;rintro k h' ⟨rfl,m,g,i⟩;refine al (fun e=>?_) (fun e=>?_)
 ·rcases(show k=0∨k=1 by omega)with rfl|rfl
  ·refine f.cK 0 rfl (by simp) a rfl ?_;refine ci (fun c=>⟨by rw[Oc,if_pos c],rfl⟩) (fun c=>?_);exact⟨1,rfl,⟨rfl,by omega,fun _=>c,by omega⟩,by omega⟩
  ·refine f.cK 1 rfl (by simp) b rfl ?_;have d:=g (by omega);refine ci (fun c=>⟨by rw[Oc,if_neg (by simp[d])],rfl⟩) (fun c=>?_);exact⟨2,rfl,⟨rfl,by omega,fun _=>d,fun _=>c⟩,by omega⟩
 ·have d:=g (by omega);have j:=i (by omega);exact⟨by rw[Oc,if_neg (by simp[d]),j],rfl⟩
abbrev Fr:=Int×Fin 129
def qr(x:Fr):aQ:=[vQ vW x.1,.float .f64 (ct ((x.2:Nat):Int))]
def ra(x y:Fr):Int:=Oc (ku (x.2:Nat) (y.2:Nat)) (ku x.1 y.1)
theorem LA(x y:Fr)(h:Heap):ac xa 107 #[vV (qr x).toArray,vV (qr y).toArray] h fun v h'=>v=vQ vW (ra x y)/\aG (fun b=>b<h.size) h h':=by
 refine Cc (x.1,ct ((x.2:Nat):Int)) (y.1,ct ((y.2:Nat):Int)) ?_;unfold rH;refine(Sp.refl h).boxed (t:=160) fun a k f=>?_;refine f.boxed (t:=160) fun b e c=>?_;refine⟨_,(c.box 0 rfl).cell (j:=1) rfl,_,(c.box 1 rfl).cell (j:=1) rfl,_,(c.box 0 rfl).cell0 rfl,_,(c.box 1 rfl).cell0 rfl,?_⟩;refine(RW x.2 y.2 e x.2.isLt y.2.isLt).mono ?_;rintro v h3 ⟨rfl,rfl⟩;refine⟨_,rfl,⟨(c.box 1 rfl).cell0 rfl,(c.box 0 rfl).cell0 rfl,trivial⟩,(RX _ _ h3).mono ?_⟩;rintro v l ⟨rfl,rfl⟩;refine⟨_,rfl,trivial,?_⟩;refine c.lit af aE Vu rfl [ku (x.2:Nat) (y.2:Nat),ku x.1 y.1] rfl (show 2*1<=2^20 by decide) rfl fun s g d=>⟨trivial,?_⟩
 refine(Wq s _ _ g (d.seq 2 rfl (fun _=>rfl))).mono ?_;rintro v i ⟨rfl,rfl⟩;exact⟨_,rfl,trivial,rfl,d.ah⟩
theorem Od{a b:Int}:ku a b<0↔a<b:=by unfold ku;split<;>(try split)<;>omega
theorem Io{a b:Int}:ku a b=0↔a=b:=by unfold ku;split<;>(try split)<;>omega
theorem Vv{x y:Fr}:ltOf ra x y=true↔((x.2:Nat):Int)<(y.2:Nat)∨(((x.2:Nat):Int)=(y.2:Nat)/\x.1<y.1):=by
 have h0:ltOf ra x y=true↔ra x y<0:=by simp[ltOf]
 rw[h0,ra,Oc];by_cases h:ku (x.2:Nat) (y.2:Nat)=0
 ·rw[if_neg (by simp[h]),Od];have:=Io.1 h;constructor
  ·exact fun a=>.inr ⟨this,a⟩
  ·rintro(a|a)
   ·omega
   ·exact a.2
 ·rw[if_pos h,Od];have b:((x.2:Nat):Int)≠(y.2:Nat):=fun e=>h (Io.2 e);constructor
  ·exact .inl
  ·rintro(a|a)
   ·exact a
   ·exact absurd a.1 b
theorem Bh{x y:Fr}:ltOf ra x y=false↔¬(((x.2:Nat):Int)<(y.2:Nat)∨(((x.2:Nat):Int)=(y.2:Nat)/\x.1<y.1)):=by
 rw[<-Vv];simp
theorem XL:Sort.SWO (ltOf ra) where
 irrefl x:=Bh.2 (by omega)
 trans x y z h1 h2:=by rw[Vv]at*;omega
 ntrans x y z h1 h2:=by rw[Bh]at*;omega
theorem XM(x y:Fr)(b:ltOf ra x y=false)(a:ltOf ra y x=false):x=y:=by
 rw[Bh]at b a;refine y6 (by omega) (Fin.ext (by omega))
theorem LB{e:TypeId}{s:Sl}{l:List Fr}{h:Heap}(f:Own h e s 2 qr l)(c:l.length<2^40):
  ac xa 106 #[s,.func (.func 107) #[] #[]] h fun v h'=>v=.tuple #[]/\Own h' e s 2 qr (l.mergeSort fun x y=>!(ltOf ra) y x)/\aG (fun b=>¬s.on b) h h':=by
 have j:∀x:Fr,(qr x).length=2:=fun _=>rfl;refine ID (P:=xa) (id_:=106) (g:=107) (enc:=qr) (k:=2) (cf:=ra) j ?_ ?_ (fun x y h=>LA x y h) f c
 ·intro a cap l w n o i m;have:=AnyQ.slices_SortFunc_total Tryz.NV 2 Tryz.Xl Tryz.Wf qr (fun _=>rfl) (fun x v d=>by simp[qr]at d;rcases d with rfl|rfl<;>rfl) ra XL 107 #[] a 0 cap l.toArray w (enters_of Tryz.Wg (by kernel_rfl) rfl) (by simpa using n) o i (by simpa using m) XM;simp at this;exact this
 ·intro p cap w;exact AnyF.slices_SortFunc_none Tryz.NV p cap _ w
def tQ(a:aD)(n:Int):aD:=if 0<=n/\n<64/\a.contains n=false then a++[n]else a
def gK(l:aD):aD:=l.foldl tQ []
theorem Bi(l:aD){k:Nat}(a:k<l.length):gK (l.take (k+1))=tQ (gK (l.take k)) l[k]:=by
 rw[gK,aK _ _ a,wz];rfl
theorem LC(l:aD):∀k,k<=l.length->∀x,x∈gK (l.take k)↔x∈l.take k/\0<=x/\x<64
 |0,_,x=>by simp[gK]
 |k+1,hk,x=>by
  have c:=LC l k (by omega);rw[Bi l (by omega),aK _ _ (show k<l.length by omega),tQ];by_cases h:0<=l[k]/\l[k]<64/\(gK (l.take k)).contains l[k]=false
  ·rw[if_pos h,qH,qH,qB,c x];constructor
   ·rintro(a|rfl)
    ·exact⟨.inl a.1,a.2⟩
    ·exact⟨.inr rfl,h.1,h.2.1⟩
   ·rintro⟨a|a,b⟩
    ·exact .inl ⟨a,b⟩
    ·exact .inr a
  ·rw[if_neg h,qH,qB,c x];constructor
   ·rintro a;exact⟨.inl a.1,a.2⟩
   ·rintro⟨a|rfl,b⟩
    ·exact⟨a,b⟩
    ·have:(gK (l.take k)).contains l[k]=true:=by
      cases hc:(gK (l.take k)).contains l[k]with
      |true=>rfl
      |false=>exact absurd ⟨b.1,b.2,hc⟩ h
     exact(c _).1 (by simpa using this)
theorem Ul(l:aD)(k:Nat):(gK (l.take k)).length<=k:=by
 induction k with
 |zero=>simp[gK]
 |succ k ih=>
  by_cases a:k<l.length
  ·rw[Bi l a,tQ];split
   ·simp;omega
   ·omega
  ·rw[qi (by omega)]at ih⊢;omega
def uV(c:Nat)(n:Int):Fr:=(n,Fin.ofNat 129 (Bg n.toNat c).toNat)
theorem XN{c:Nat}{n:Int}(a:c<64)(d:0<=n)(b:n<64):(((uV c n).2:Nat):Int)=Bg n.toNat c:=by
 have:=RV (i:=n.toNat) (j:=c) (by omega) a;show(((Bg n.toNat c).toNat%129:Nat):Int)=_;omega
def tR(c:Nat)(l:aD):aD:=(((gK l).map (uV c)).mergeSort fun x y=>!(ltOf ra) y x).map (·.1)
def kv(a block:Int)(l:aD):aD:=if 0<=a/\a<=16777215/\0<=block/\block<8 then tR ((8*a+block)%64).toNat l else[]
def nJ(a:aD):aQ:=(qD 64).map fun i:Nat=>vU (a.contains (i:Int))
theorem Wr(a:aD){n:Int}(c:0<=n)(b:n<64):(nJ a)[n.toNat]?=some (vU (a.contains n)):=by
 rw[nJ,qP,zb (by omega),qJ,show((n.toNat:Nat):Int)=n by omega]
theorem Um(a:aD){n:Int}(d:0<=n)(c:n<64):(nJ a).set n.toNat (vU true)=nJ (a++[n]):=by
 apply zr;intro i;rw[qW,nJ,nJ,qP,qP,qC,zt];by_cases b:i<64
 ·rw[zb b,qJ,qJ];by_cases h:n.toNat=i
  ·rw[if_pos h,if_pos (by omega),show((i:Nat):Int)=n by omega];simp
  ·rw[if_neg h];have:(a++[n]).contains (i:Int)=a.contains (i:Int):=by
    rw[List.contains_eq_mem,List.contains_eq_mem];simp;omega
   rw[this]
 ·rw[if_neg (by omega),qX (by simp;omega)];rfl
abbrev YM:bN C.tosH 155 160 2 [vQ vW 0,.float .f64 0] 16:=⟨_,_,rfl,rfl,rfl,rfl,rfl,rfl⟩
theorem XO:∀x,∀c∈qr x,c.oneCell'=true:=by
 intro x c a;simp[qr]at a;rcases a with rfl|rfl<;>rfl
theorem Nj(b block:Int)(live:Sl)(l:aD)(h:Heap)(V:Rd h live 1 aE l)(ad:l.length<=2^30):
  ac xa 65 #[vQ vW b,vQ vW block,live] h fun v h'=>∃r:Sl,v=r/\Sp h h' [aj 3 r 1 aE (kv b block l)]:=by
 have am:=V.len;refine ET b block live ?_;unfold xf;have H:¬(0<=b/\b<=16777215/\0<=block/\block<8)->∃r:Sl,Value.slice none 0 0=vR r.ptr r.len r.cap/\Sp h h [aj 3 r 1 aE (kv b block l)]:=fun K=>by
  rw[kv,if_neg K];exact⟨⟨none,0,0⟩,rfl,(Sp.refl h).nil 3 1 aE⟩
 refine aU (al (fun e=>H (by omega)) fun e1=>al (fun e=>H (by omega)) fun e2=>al (fun e=>H (by omega)) fun e3=>al (fun e=>H (by omega)) fun e4=>?_);have M:0<=b/\b<=16777215/\0<=block/\block<8:=by omega
 rw[kv,if_pos M];rw[an (8*b),an (8*b+block),ye (by omega)];obtain⟨c,Z⟩:∃c:Nat,(8*b+block)%64=c:=⟨((8*b+block)%64).toNat,by omega⟩
 have j:c<64:=by omega
 rw[Z,qq];refine⟨by decide,(Ob c h j).mono ?_⟩;rintro v h2 ⟨rfl,R2⟩;refine⟨((iM c).ax,(iM c).ay),rfl,?_⟩;refine R2.alloc af rfl fun a h3 H3=>?_;have Q:Sp h h3 [ag a 156 (nJ []),aj 160 ⟨none,0,0⟩ 2 qr []]:=H3.nil 160 2 qr;refine az (fun t:Sl×Nat=>(t.1,(t.2:Int))) (fun t h'=>t.2<=l.length/\Sp h h' [ag a 156 (nJ (gK (l.take t.2))),aj 160 t.1 2 qr ((gK (l.take t.2)).map (uV c))]) (fun t=>l.length-t.2) (⟨none,0,0⟩,0) rfl ⟨by simp,Q⟩ ?_;rintro⟨s,k⟩ h4 ⟨hk,p⟩;dsimp only at*;have D:=Ul l k;refine al (fun e=>?_) (fun e=>?_)
 ·have E:k<l.length:=by omega
  have G:=Bi l E;obtain⟨f,w⟩:∃f,f=gK (l.take k):=⟨_,rfl⟩
  rw[<-w]at p D G;refine(Seq.up V p.ah).cK k rfl E _ rfl ?_;obtain⟨x,hx⟩:∃x,x=l[k]:=⟨_,rfl⟩
  rw[<-hx]at G⊢;refine cv (fun t h'=>(t=true↔0<=x/\x<64/\f.contains x=false)/\h'=h4) ?_ ?_
  ·refine al (fun m=>al (fun q=>?_) (fun q=>⟨⟨fun e=>(by cases e),fun B=>absurd B.2.1 q⟩,rfl⟩)) (fun m=>⟨⟨fun e=>(by cases e),fun B=>absurd B.1 m⟩,rfl⟩);refine⟨⟨m,q⟩,f.contains x,?_,?_,rfl⟩
   ·rw[wO];exact(p.box 0 rfl).cell (Wr f m q)
   ·cases f.contains x<;>simp<;>omega
  ·rintro t h5 ⟨U,rfl⟩;refine bq (fun e=>?_) (fun e=>?_)
   ·obtain⟨m,q,x2⟩:=U.1 e;refine⟨⟨m,q⟩,?_⟩;rw[wO];refine p.storeAt af 0 rfl rfl rfl rfl rfl (by simp[nJ];omega) fun J u=>?_;have R:Sp h J [ag a 156 (nJ (f++[x])),aj 160 s 2 qr (f.map (uV c))]:=by
     rw[<-Um f m q];exact u
    obtain⟨n,K⟩:∃n:Nat,x=n:=⟨x.toNat,by omega⟩
    subst K;refine(Ob n J (by omega)).mono ?_;rintro v T ⟨rfl,R7⟩;refine⟨((iM n).ax,(iM n).ay),rfl,(Uk n c T (by omega) j).mono ?_⟩;rintro v h8 ⟨rfl,rfl⟩;have F:=R.up R7.ah;have ev:ct (Bg n c)=ct (((uV c (n:Int)).2:Nat):Int):=by rw[XN j (by omega) (by omega),qq]
    refine⟨_,rfl,?_⟩;rw[ev];refine F.push af 1 rfl YM rfl (by decide) (fun _=>rfl) XO (uV c (n:Int)) rfl (by decide) (by simp;omega) fun s' X I=>?_;refine⟨(s',k+1),by dsimp only;rw[an _];rfl,⟨by dsimp only;omega,?_⟩,by dsimp only;omega⟩;dsimp only;rw[G,tQ,if_pos ⟨m,q,x2⟩,za];exact I
   ·refine⟨(s,k+1),by dsimp only;rw[an _];rfl,⟨by dsimp only;omega,?_⟩,by dsimp only;omega⟩;dsimp only;rw[G,tQ,if_neg (fun B=>by rw[U.2 B]at e;cases e)];exact p
 have N:k=l.length:=by omega
 subst N;rw[zc]at p D;refine(LB (p.own 1 rfl) (by simp;omega)).mono ?_;rintro v h5 ⟨rfl,P,S⟩;have L:=p.jN 1 rfl S P;obtain⟨d,g⟩:∃d,d=((gK l).map (uV c)).mergeSort fun x y=>!(ltOf ra) y x:=⟨_,rfl⟩
 have a0:d.length=(gK l).length:=by rw[g,zT,qC]
 have W:tR c l=d.map (·.1):=by rw[tR,<-g]
 rw[<-g]at L;have a1:=(L.own 1 rfl).len;rw[W];refine⟨(),rfl,?_⟩;refine az (fun t:Sl×Nat=>(t.1,(t.2:Int))) (fun t h'=>t.2<=d.length/\Sp h h' [aj 160 s 2 qr d,aj 3 t.1 1 aE ((d.take t.2).map (·.1))]) (fun t=>d.length-t.2) (⟨none,0,0⟩,0) rfl ⟨by simp,(L.del 0).nil 3 1 aE⟩ ?_;rintro⟨o,i⟩ J ⟨O,u⟩;dsimp only at*;refine al (fun e=>?_) (fun e=>?_)
 ·have z:i<d.length:=by omega
  refine(u.seq 0 rfl (fun _=>rfl)).dE i rfl z (d[i].1,ct ((d[i].2:Nat):Int)) rfl ?_;refine u.alloc af rfl fun y T H7=>?_;refine H7.storeAll af 2 rfl rfl [vQ vW d[i].1,.float .f64 (ct ((d[i].2:Nat):Int))] rfl rfl rfl rfl fun h8 F=>?_;refine⟨d[i].1,(F.box 2 rfl).cell0 rfl,?_⟩;refine F.push af 1 rfl Vu rfl (by decide) (fun _=>rfl) iU d[i].1 rfl (by decide) (by simp;omega) fun Y X I=>?_;refine⟨(Y,i+1),by dsimp only;rw[an _];rfl,⟨by dsimp only;omega,?_⟩,by dsimp only;omega⟩;dsimp only;rw[aK _ _ z,za];exact I.del 2
 ·rw[qi (by omega)]at u;exact⟨o,rfl,u.take 1 (fun i A O=>by cases i with|zero=>exact O|succ i=>simp at O)⟩
theorem Un(l:aD)(x:Int):x∈gK l↔x∈l/\0<=x/\x<64:=by
 have:=LC l l.length (qp _) x
 rwa [zc]at this
theorem PE(c:Nat)(l:aD):(tR c l).Perm (gK l):=by
 have h:=(wN ((gK l).map (uV c)) fun x y=>!(ltOf ra) y x).map (·.1);rw[we]at h;have e:((fun x:Fr=>x.1)∘uV c)=id:=rfl;rw[e,List.map_id]at h;exact h
theorem RY(c:Nat)(l:aD)(x:Int):x∈tR c l↔x∈l/\0<=x/\x<64:=by rw[(PE c l).mem_iff,Un]
def PF(l:aD)(i:Nat):Int:=l.getD i 0
def tU(o:aD)(id:Int):Int:=if o=[]∨id<0 then-1 else PF o (id%(o.length:Int)).toNat
theorem Ws(s:Sl)(o:aD)(id:Int)(h:Heap)(f:Rd h s 1 aE o):ac xa 67 #[s,vQ vW id] h fun v h'=>v=vQ vW (tU o id)/\h'=h:=by
 have g:=f.len;refine KP s id ?_;unfold EU;refine aU (dN (fun e=>⟨by rw[tU,if_pos (.inl (qK (by omega)))],rfl⟩) fun e=>al (fun d=>⟨by rw[tU,if_pos (.inr d)],rfl⟩) fun d=>?_);refine⟨e,?_⟩;have c:¬(o=[]∨id<0):=by
  rintro(rfl|h2)
  ·simp at g;omega
  ·exact d h2
 have b:zY id ((s.len:Nat):Int)=((id%(o.length:Int)).toNat:Int):=by
  rw[ye (by omega),g];have:=yD id (show(o.length:Int)≠0 by omega);omega
 have a:(id%(o.length:Int)).toNat<o.length:=by
  have:=yb id (show(0:Int)<o.length by omega);omega
 rw[b];refine f.cK _ rfl a _ rfl ⟨?_,rfl⟩;rw[tU,if_neg c,PF,qf,qd a];rfl
def sE(p:Pm)(seed:Int)(d:Row)(id:Int):aL:=if cg id then fA p.2.2.toNat (dP p seed d) (eO (cG p).toNat seed id)else[]
def uW(m:ar)(o b seed:Int)(d:Row)(id:Int):di:=⟨o,b,id,m.p,seed,sE m.p seed d id⟩
def FJ(m:ar)(o b seed:Int)(d:Row)(a:aD)(id:Int):Int×aL:=(tU a id,dp (uW m o b seed d id))
def kw(m:ar)(o:Int)(a:aD)(b:bR)(live:aD)(i:Nat):List (Int×aL):=
 (qD (m.p.1+m.extra).toNat).map fun id:Nat=>FJ m o i (iy o i (a.getD i 0)) (b.getD i []) (kv o i live) id
def cI(m:ar)(o:Int)(a:aD)(b:bR)(live:aD)(n:Nat):List (Int×aL):=(qD n).flatMap (kw m o a b live)
theorem ov(m:ar)(o:Int)(a:aD)(b:bR)(live:aD)(n:Nat):cI m o a b live (n+1)=cI m o a b live n++kw m o a b live n:=by
 unfold cI;rw[zE,qY,zf,wx,qM]
theorem uX(m:ar)(o:Int)(a:aD)(b:bR)(live:aD)(i:Nat):(kw m o a b live i).length=(m.p.1+m.extra).toNat:=by simp[kw]
theorem rc(m:ar)(o:Int)(a:aD)(b:bR)(live:aD):∀n,(cI m o a b live n).length=n*(m.p.1+m.extra).toNat
 |0=>by simp[cI]
 |n+1=>by rw[ov,qw,rc m o a b live n,uX,zU]
theorem CS(o b t:Int):0<=iy o b t/\iy o b t<4294967296:=by unfold iy;omega
section
variable {B:ap} {h0 h:Heap} {As:List HP} {a pw:Addr} {offs:Int} {da:List aM} {w:Pow} {ds:aS}
theorem Jg(x:bn)(m:ar)(xe:dh)(e:Wl.cE)(s:Sl)(b:aL)(hS:St B h0 As fun h=>eS h x m/\nN fE h xe e/\Rd h s 1 aw b)(b3:s.len<=s.cap)(hz:cn m)(R:bV m.p=true)(d4:0<=m.extra/\m.extra<=16)(d5:b.length<=2^20)
  (ht:ck m.p e.object (aT m.p b).length=some e.tries) (H:aa B h0 h (bm bh a pw (aq x) offs da w ds::As)):
  ac xa 32 #[vS (some a),Lv xe,s] h fun v h'=>∃(r:Sl) (ys:List (Int×Sl)),v=.tuple #[r,vU true]/\
   aa B h0 h' (bm bh a pw (aq x) offs da w ds::eG jV 2 piv r ys (cI m e.object e.tries (aT m.p b) (bS ds m.drives) (aT m.p b).length)::As):=by
 refine rk (some a) xe s ?_;unfold lR;refine H.boxed fun M h1 H1=>?_;have H1:=H1.cl;have H1:aa B h0 h1 (bm bh a pw (aq x) offs da w ds::ag M 73 (bv xe)::As):=H1.bj 2 [1,0];refine(gW x m (hS.at [_,_] H1).1 hz H1).mono ?_;rintro _ h2 ⟨lv,rfl,R2⟩;have H2:=(H1.cM R2).bj 3 [1,0,2];obtain⟨ok,a0⟩:=aa.db H2;obtain⟨b9,dx,c4⟩:=hS.at [_,_,_] H2;have Z:(x.2.2.1,x.2.2.2.1,x.2.2.2.2.1)=m.p:=b9.p;have dy:=(cb m.p).1 R;obtain⟨s1,s2,s3⟩:=mH R;obtain⟨c1,c2,c3⟩:=jL R b.length;have cc:(bS ds m.drives).length<=m.drives.length:=zJ _ _;have dj:=hz.dr;obtain⟨live,U⟩:∃live,live=bS ds m.drives:=⟨_,rfl⟩
 rw[<-U]at H2 cc⊢;obtain⟨g,E⟩:∃g,g=aT m.p b:=⟨_,rfl⟩
 have b6:g.length<=2^20:=by rw[E];unfold aT;simp;omega
 have a2:∀r∈g,r.length=eT m.p:=by
  rw[E];intro r hr;unfold aT at hr;obtain⟨i,_,rfl⟩:=qE.1 hr;exact If _ _ _
 refine⟨lv,rfl,a,rfl,(x.2.2.1,x.2.2.2.1,x.2.2.2.2.1),⟨by rw[addr_add];exact a0.cell rfl,by rw[addr_add];exact a0.cell rfl,by rw[addr_add];exact a0.cell rfl,trivial⟩,?_⟩;rw[Z];refine(MT m.p s b h2 R c4 b3 (by omega)).mono ?_;rintro _ h3 ⟨q,rfl,R3⟩;rw[<-E]at R3 ht⊢;obtain⟨rs,H3⟩:=Go.Qw.aa.Vs (H2.cM R3) fun _=>rfl;have H3:=(H3.Ox 80 2 piv jV).cl;have H3:aa B h0 h3 (bm bh a pw (aq x) offs da w ds::cR 80 ⟨none,0,0⟩ 2 piv jV (cI m e.object e.tries g live 0)::eG (lq 1 aw) 1 cF q rs g::aj 3 lv 1 aE live::ag M 73 (bv xe)::As):=H3.bj 5 [2,0,1,3,4];have d3:=(H3.jY 2 rfl).1.len;have d6:=(H3.jY 2 rfl).2.1;have dk:=jA ht;refine⟨q,rfl,?_⟩;obtain⟨k,I⟩:∃k:Nat,k=(m.p.1+m.extra).toNat:=⟨_,rfl⟩
 have L:k<=32:=by omega
 refine az (fun t:Sl×Nat=>(t.1,(t.2:Int))) (fun t h'=>t.2<=g.length/\aa B h0 h' (bm bh a pw (aq x) offs da w ds::cR 80 t.1 2 piv jV (cI m e.object e.tries g live t.2)::eG (lq 1 aw) 1 cF q rs g::aj 3 lv 1 aE live::ag M 73 (bv xe)::As)) (fun t=>g.length-t.2) (⟨none,0,0⟩,0) rfl ⟨by simp,H3⟩ ?_;rintro⟨o,i⟩ h4 ⟨hi,H4⟩;dsimp only at*;refine al (fun e1=>?_) (fun e1=>?_)
 ·have X:i<g.length:=by omega
  have F4:=H4.jY 2 rfl;have a3:=H4.box 4 rfl;obtain⟨b1,a9,d8⟩:=hS.at [_,_,_,_,_] H4;obtain⟨_,b5⟩:=aa.db H4;obtain⟨t,bb,c9⟩:=rR ht i (by omega);have cs:e.tries.getD i 0=(t:Int):=by rw[qf,qd (by omega)];exact bb
  have ch:g.getD i []=g[i]:=by rw[qf,qd X];rfl
  have N:∀{h':Heap},bZ h' M 73 (bv xe)->cellOf h' (M.add 1)=some (vQ vW e.object):=fun{h'} hb=>by rw[<-a9.1.2.1];exact hb.cell rfl
  have cp:∀{h':Heap},bZ h' a 63 (bL (aq x) pw offs da)->ai h' (a.add 2) 0 [vQ vW m.p.1,vQ vW m.p.2.1,vQ vW m.p.2.2]:=fun{h'} hb=>by
   rw[<-Z];exact⟨by rw[addr_add];exact hb.cell rfl,by rw[addr_add];exact hb.cell rfl,by rw[addr_add];exact hb.cell rfl,trivial⟩
  have a7:=Fix.row F4 X;refine F4.1.cK i rfl (by omega) (rs[i]'(by omega)) rfl ?_;refine⟨e.object,N a3,xe.2.2.2,a3.cell rfl,?_⟩;refine Seq.cK (f:=aE) a9.2 i rfl (by omega) (t:Int) (by rw[bb];rfl) ?_;refine(uR _ _ _ h4).mono ?_;rintro _ _ ⟨rfl,rfl⟩;refine⟨_,rfl,⟨a3.cell rfl,trivial⟩,a,rfl,m.p,cp b5,?_⟩;obtain⟨seed,l⟩:∃seed,seed=iy e.object i t:=⟨_,rfl⟩
  have hg:=(AX c9).2.1;have am:jt m.p seed (ea m.p)=true:=by rw[l];exact hg
  obtain⟨K,Hh,w',n,BK⟩:=UV (seed:=seed) (d:=g[i]) R am (by rw[a2 _ (qn X),s3]);rw[<-l];refine(XK BK (rs[i]'(by omega)) _ a7.1 a7.2).mono ?_;rintro _ h6 ⟨bk,mm,rfl,R6⟩;have H6:=(H4.comp R6).front;have H6:aa B h0 h6 (bm bh a pw (aq x) offs da w ds::cR 80 o 2 piv jV (cI m e.object e.tries g live i)::eG (lq 1 aw) 1 cF q rs g::aj 3 lv 1 aE live::ag M 73 (bv xe)::gz 38 mm 1 aw (dP m.p seed g[i])::ag bk 152 (DT m.p seed mm)::As):=H6.bj 7 [2,3,4,5,6,0,1];refine⟨(some bk,0),rfl,ci (fun e2=>absurd rfl e2) fun _=>?_⟩;have c5:=H6.box 4 rfl;refine⟨e.object,N c5,(Nj e.object i lv live h6 (H6.seq 3 rfl fun _=>rfl) (by omega)).mono ?_⟩;rintro _ h7 ⟨O,rfl,R7⟩;have H7:=(H6.cM R7).bj 8 [1,2,3,4,5,6,7,0];obtain⟨c,y⟩:∃c,c=kv e.object i live:=⟨_,rfl⟩
  rw[<-y]at H7;have a6:=(aa.db H7).2;have b4:x.2.2.1=m.p.1:=congrArg (·.1) Z;refine⟨O,rfl,a,rfl,x.2.2.1,a6.cell rfl,a,rfl,x.2.2.2.2.2.1,a6.cell rfl,?_⟩;have en:qc vW (x.2.2.1+x.2.2.2.2.2.1)=(k:Int):=by rw[b4,b1.extra,an _];omega
  rw[en];have S:kw m e.object e.tries g live i=(qD k).map fun id:Nat=>FJ m e.object i seed g[i] c id:=by
   unfold kw;rw[cs,ch,<-l,<-y,<-I]
  have b0:(kw m e.object e.tries g live i).length=k:=by rw[uX,<-I]
  obtain⟨F,G⟩:∃F,F=cI m e.object e.tries g live i:=⟨_,rfl⟩
  have d7:F.length<=2^26:=by
   rw[G,rc,<-I];have:=wm (show i<=2^20 by omega) L;omega
  obtain⟨Q,hQ⟩:∃Q,Q=kw m e.object e.tries g live i:=⟨_,rfl⟩
  rw[<-hQ]at S b0;rw[<-G]at H7;refine az (fun t:Sl×Nat=>(t.1,(t.2:Int))) (fun t h'=>t.2<=k/\aa B h0 h' (bm bh a pw (aq x) offs da w ds::cR 80 t.1 2 piv jV (F++Q.take t.2)::eG (lq 1 aw) 1 cF q rs g::aj 3 lv 1 aE live::ag M 73 (bv xe)::gz 38 mm 1 aw (dP m.p seed g[i])::ag bk 152 (DT m.p seed mm)::aj 3 O 1 aE c::As)) (fun t=>k-t.2) (o,0) rfl ⟨by simp,by simpa using H7⟩ ?_;rintro⟨o2,id⟩ h8 ⟨hid,P⟩;dsimp only at*;refine al (fun e3=>?_) fun e3=>?_
  ·have dd:id<k:=by omega
   have ay:=P.box 4 rfl;have ax:=(aa.db P).2;have A:Hc h8 bk m.p seed (dP m.p seed g[i]):=⟨mm,P.box 6 rfl,P.Ek 5 rfl⟩
   have T:sE m.p seed g[i] id=if cg id then fA w' (dP m.p seed g[i]) (eO n seed id)else[]:=by
    unfold sE;rw[BK.mj,show m.p.2.2.toNat=w' by have:=BK.s;omega]
   have held:∀{h':Heap},aG (fun b=>b<h8.size) h8 h'->aB.ok [((a.add 2),vQ vW m.p.1),((a.add 2).add 1,vQ vW m.p.2.1),((a.add 2).add 2,vQ vW m.p.2.2),(M.add 1,vQ vW e.object)] h':=fun{h'} R=>by
    obtain⟨q1,q2,q3,_⟩:=cp (ax.ah R ax.lt);exact⟨q1,q2,q3,N (ay.ah R ay.lt),trivial⟩
   refine cv (fun(a8:Addr) h'=>∃r:Sl,aa B h0 h' (ag a8 119 (bD (e.object,(i:Int),(id:Int),m.p.1,m.p.2.1,m.p.2.2,seed,r))::aj 5 r 1 aw (sE m.p seed g[i] id)::bm bh a pw (aq x) offs da w ds::cR 80 o2 2 piv jV (F++Q.take id)::eG (lq 1 aw) 1 cF q rs g::aj 3 lv 1 aE live::ag M 73 (bv xe)::gz 38 mm 1 aw (dP m.p seed g[i])::ag bk 152 (DT m.p seed mm)::aj 3 O 1 aE c::As)) ?_ ?_
   ·refine⟨e.object,N ay,a,rfl,m.p,cp ax,?_,?_⟩
    ·refine(BK.symbol bk id h8 A).mono ?_;rintro _ h9 ⟨r,rfl,R9⟩;rw[<-T]at R9;have H9:=P.cM R9;refine⟨r,rfl,held R9.ah,H9.JW af rfl fun a28 d2 cd a4=>⟨held (aa.up R9 cd).ah,?_⟩⟩;have a4:=a4.cl;refine a4.storeAll af 0 rfl rfl (bD (e.object,(i:Int),(id:Int),m.p.1,m.p.2.1,m.p.2.2,seed,r)) rfl rfl rfl rfl fun d9 cf=>⟨trivial,r,cf⟩
    ·refine P.JW af rfl fun dw b2 Y W=>⟨held Y,?_⟩
     have W:=W.cl;refine(BK.symbol bk id b2 (A.up Y)).mono ?_;rintro _ dl ⟨r,rfl,a5⟩;rw[<-T]at a5;have c0:=(W.cM a5).bj 2 [1,0];refine⟨r,rfl,held (aa.up (Sp.zip Y) a5.ah).ah,?_⟩;refine c0.storeAll af 0 rfl rfl (bD (e.object,(i:Int),(id:Int),m.p.1,m.p.2.1,m.p.2.2,seed,r)) rfl rfl rfl rfl fun d1 b7=>⟨trivial,r,b7⟩
   ·rintro a8 c8 ⟨r,J⟩;have j:=J.box 0 rfl;have V:=CS e.object i t;rw[<-l]at V;refine⟨(e.object,(i:Int),(id:Int),m.p.1,m.p.2.1,m.p.2.2,seed,r),j.aF _ rfl,(Ws O c id c8 (J.seq 9 rfl fun _=>rfl)).mono ?_⟩;rintro _ c7 ⟨rfl,rfl⟩;refine⟨_,rfl,⟨j.cell0 rfl,j.cell rfl,j.cell rfl,j.cell rfl,j.cell rfl,j.cell rfl,j.cell rfl,j.cell rfl,trivial⟩,?_⟩;refine(sA (e.object,(i:Int),(id:Int),m.p.1,m.p.2.1,m.p.2.2,seed,r) (uW m e.object i seed g[i] id) c7 ⟨⟨rfl,rfl,rfl,rfl,rfl,V.1,V.2⟩,J.seq 1 rfl fun _=>rfl⟩).mono ?_;rintro _ eb ⟨u,rfl,bw⟩;have bd:=(J.cM bw).gn 0 rfl (D:=EA jV (tU c id,u) (FJ m e.object i seed g[i] c id)) fun z hz=>⟨rfl,hz.1.seq (fun _=>rfl) hz.2⟩
    have br:Q[id]'(by omega)=FJ m e.object i seed g[i] c id:=by simp[S]
    refine⟨u,rfl,trivial,?_⟩;refine bd.sJ af piv Li rfl [(tU c id,u)] rfl (show 1*2<=2^20 by decide) rfl trivial ?_;refine aa.Oy af bd 4 0 (by decide) (a:=(tU c id,u)) rfl rfl Li rfl (by decide) (fun _=>rfl) NZ (parts:=#[(0,vV #[vQ vW (tU c id),u])]) (by kernel_rfl) (by decide) (by simp;omega) fun o3 d0 c6=>⟨trivial,?_⟩
    refine⟨(o3,id+1),by dsimp only;rw[an _];rfl,⟨by dsimp only;omega,?_⟩,by dsimp only;omega⟩;dsimp only;rw[aK Q id,br,<-qm];exact c6.rest.rest.rest
  ·have ad:id=k:=by omega
   subst ad;rw[qi (by omega)]at P;refine⟨(o2,i+1),by dsimp only;rw[an _];rfl,⟨by dsimp only;omega,?_⟩,by dsimp only;omega⟩;dsimp only;rw[ov,<-G,<-hQ];exact P.bj 8 [0,1,2,3,4]
 ·have ad:i=g.length:=by omega
  subst ad;obtain⟨ys,H5⟩:=H4.YA 1 rfl fun _=>rfl;exact⟨o,ys,rfl,H5.bj 5 [0,1]⟩
end
end Go.Qw
namespace Wl
open Go
def gM(pages:Nat)(l:List (Int×aL))(k:Int):Int:=(pages:Int)+(l.filter fun y=>decide (y.1=k)).length
end Wl
namespace Go.Qw
open Go Go.Vc Go.Proofs Wl
theorem RZ(k:Int)(b c:Addr)(pages:Nat)(r:Sl)(n:List (Int×Sl))(l:List (Int×aL))(h:Heap)(x:pages<=2^30)(D:l.length<=2^30)(p:bZ h b 3 [vQ vW pages])(q:bZ h c 67 [r])(o:mO jV 2 piv h r n l):
  ac xa 34 #[vQ vW k,vS (some b),vS (some c)] h fun v h'=>v=vQ vW (gM pages l k)/\Sp h h' []:=by
 refine sU k b c ?_;unfold mR;have z:=o.1.len;have B:=o.2.1;refine⟨(pages:Int),p.cell0 rfl,r,q.cell0 rfl,?_⟩;refine az (fun i:Nat=>(gM pages (l.take i) k,(i:Int))) (fun i h'=>i<=l.length/\Sp h h' []) (fun i=>l.length-i) 0 (by simp[gM]) ⟨by omega,Sp.refl h⟩ ?_;rintro i F ⟨G,t⟩;dsimp only;have u:(((l.take i).filter fun y=>decide (y.1=k)).length:Int)<=i:=by
  have:=zJ (fun y:Int×aL=>decide (y.1=k)) (l.take i);simp at this;omega
 refine al (fun e=>?_) fun e=>?_
 ·have f:i<l.length:=by omega
  have m:=mO.up o t.ah;refine m.1.dE (g:=piv) i rfl (by omega) (n[i]'(by omega)) rfl ?_;refine t.alloc af rfl fun w E A=>?_;refine A.storeAll af 0 rfl rfl (piv (n[i]'(by omega))) rfl rfl rfl rfl fun h3 d=>?_;have d:Sp h h3 [ag w 80 (piv (n[i]'(by omega)))]:=d;have j:=Fix.row m f;have a:gM pages (l.take (i+1)) k=gM pages (l.take i) k+(if l[i].1=k then 1 else 0):=by
   unfold gM;rw[aK _ _ f,zn,qw,zx,List.filter_nil];split
   ·rename_i s;rw[if_pos (of_decide_eq_true s)];simp;omega
   ·rename_i s;rw[if_neg (by simpa using s)];simp
  refine⟨l[i].1,by rw[<-j.1];exact(d.box 0 rfl).cell0 rfl,dN (fun g=>?_) fun g=>?_⟩
  ·refine⟨i+1,?_,⟨by omega,.zip d.ah⟩,by omega⟩;rw[a,if_pos g,an (gM pages (l.take i) k+1) (by unfold gM;omega) (by unfold gM;omega),an _];rfl
  ·refine⟨i+1,?_,⟨by omega,.zip d.ah⟩,by omega⟩;rw[a,if_neg g,Int.add_zero,an _];rfl
 ·rw[qi (by omega)];exact⟨rfl,t⟩
def cZ(m:ar)(offs:Int)(w:Pow)(ds:aS)(name:ByteArray)(b:aL):Int×ar×Pow×aS:=
 if cO m (iD w offs) ds name b.length≠0 then(cO m (iD w offs) ds name b.length,m,w,ds)else
 match ck m.p m.next (aT m.p b).length with
 |none=>(8,m,w,ds)
 |some t=>
  let live:=bS ds m.drives;let l:=cI m m.next t (aT m.p b) live (aT m.p b).length;let n:=dK m ⟨name,m.next,b.length,t⟩;let N:=gM (aP n).length l
  if dZ m ds live N=false then(7,m,w,ds)else
  if(makes m N live w ds).1≠0 then((makes m N live w ds).1,m,(makes m N live w ds).2)else
  let a:=layAll l (makes m N live w ds).2.1 (makes m N live w ds).2.2
  if a.1≠0 then(a.1,m,a.2)else
  ((layAll (bF n live) a.2.1 a.2.2).1,if(layAll (bF n live) a.2.1 a.2.2).1=0 then n else m,(layAll (bF n live) a.2.1 a.2.2).2)
theorem mK{m:ar}{d:Bool}{ds:aS}{name:ByteArray}{n:Nat}(h:cO m d ds name n=0):
  d=false/\gC name=true/\m.aH.any (mJ name)=false/\¬(m.p.1*m.p.2.2*8<(n:Int)∨12<=m.aH.length)/\¬(bS ds m.drives=[]∨16777215<m.next∨2147483647<=m.seq):=by
 unfold cO at h;split at h
 ·cases h
 ·rename_i b;split at h
  ·cases h
  ·rename_i a;split at h
   ·cases h
   ·rename_i h3;split at h
    ·cases h
    ·rename_i c;split at h
     ·cases h
     ·rename_i e;exact⟨by simpa using b,by simpa using a,by simpa using h3,c,e⟩
theorem Hd{m:ar}{b:aL}(a:bV m.p=true)(h:¬m.p.1*m.p.2.2*8<(b.length:Int)):(aT m.p b).length<=8:=by
 obtain⟨d,e,c⟩:=mH a;obtain⟨f,g,c3⟩:=jL a b.length;unfold aT;rw[qC,zt];refine Nat.le_of_not_lt fun h8=>?_;have:=c3 8 (by omega);rw[<-c]at h;omega
theorem XP{o:aD}(b:o≠[])(id:Nat):tU o id∈o:=by
 unfold tU PF;rw[if_neg (by rintro(h|h);exact b h;omega)];have c:0<o.length:=by cases o with|nil=>exact absurd rfl b|cons=>simp
 have a:((id:Int)%(o.length:Int)).toNat<o.length:=by
  have:=yb (id:Int) (show(0:Int)<o.length by omega);have:=yD (id:Int) (show(o.length:Int)≠0 by omega);omega
 rw[qf,qd a];exact qn a
theorem LD{m:ar}{o:Int}{c:aD}{q:bR}{live:aD}(s:0<=o/\o<=16777215)(p:live≠[])(f:∀k∈live,0<=k/\k<64){n:Nat}(t:n<=8){y:Int×aL}(e:y∈cI m o c q live n):y.1∈live/\y.2.length<=64:=by
 unfold cI at e;obtain⟨i,j,e⟩:=zL.1 e;have j:=qF.1 j;unfold kw at e;obtain⟨id,_,rfl⟩:=qE.1 e;refine⟨?_,?_⟩
 ·show tU _ _∈live;have d:kv o i live=tR ((8*o+i)%64).toNat live:=by unfold kv;rw[if_pos (by omega)]
  have b:∀a,a∈kv o i live↔a∈live/\0<=a/\a<64:=fun a=>by rw[d];exact RY _ _ _
  have g:kv o i live≠[]:=fun h=>by
   cases live with
   |nil=>exact p rfl
   |cons a l=>
    have:=(b a).2 ⟨qT,f a qT⟩;rw[h]at this;cases this
  exact((b _).1 (XP g id)).1
 ·show(dp _).length<=64;unfold dp;split
  ·rename_i r;refine Nat.le_of_eq (kX (by decide) (by decide) ?_);have:=lM r;omega
  ·simp
theorem Wt{m:ar}{e:Wl.cE}(b:cn m)(g:m.aH.length<=11)(d:e.name.size<=2^30)(c:e.tries.length<=2^30):cn (dK m e):=by
 refine⟨b.dr,?_,fun f a=>?_⟩
 ·show((m.aH++[e]).mergeSort oI).length<=2^30;rw[zT];simp;omega
 ·have a:f∈(m.aH++[e]).mergeSort oI:=a;rcases qH.1 ((wN _ _).mem_iff.1 a)with h|h
  ·exact b.nm f h
  ·rw[qB.1 h];exact⟨d,c⟩
section
variable {B:ap} {h0 h:Heap} {As:List HP} {a pw:Addr} {offs:Int} {da:List aM} {w:Pow} {ds:aS}
theorem Uo(x:bn)(m:ar)(name:ByteArray)(s:Sl)(b:aL)(hS:St B h0 As fun h=>Rd h s 1 aw b)(b9:s.len<=s.cap)(hn:name.size<=2^40)(Z:cn m)(hp:bV m.p=true)(dj:0<=m.extra/\m.extra<=16)(c6:∀k∈m.drives,0<=k/\k<64)(dr:m.drives.length<=64)(d3:0<=m.seq)(b3:0<=m.next)(dl:b.length<=2^20)
  (H:aa B h0 h (bm bh a pw (aq x) offs da w ds::bt x m::As)):
  ac xa 10 #[vS (some a),vT name,s] h fun v h'=>v=vQ vW (cZ m offs w ds name b).1/\
   ∃y,aa B h0 h' (bm bh a pw (aq y) offs da (cZ m offs w ds name b).2.2.1 (cZ m offs w ds name b).2.2.2::bt y (cZ m offs w ds name b).2.1::As):=by
 refine xE (some a) name s ?_;unfold ox;have a1:=(hS.at [_,_] H).len;refine(Lx x m name s b.length a1 hn (H.at 1 rfl) Z hp H).mono ?_;rintro _ h1 ⟨rfl,R1⟩;have H1:=H.up R1.ah;refine⟨_,rfl,ci (fun e=>?_) fun e1=>?_⟩
 ·have ep:cZ m offs w ds name b=(cO m (iD w offs) ds name b.length,m,w,ds):=by unfold cZ;rw[if_pos e]
  rw[ep];exact⟨rfl,x,H1⟩
 obtain⟨z1,z2,z3,z4,z5⟩:=mK e1;have d4:¬m.p.1*m.p.2.2*8<(b.length:Int):=fun h=>z4 (.inl h);have a8:m.aH.length<=11:=by have:¬12<=m.aH.length:=fun h=>z4 (.inr h);omega
 have c8:bS ds m.drives≠[]:=fun h=>z5 (.inl h);have ch:m.next<=16777215:=by have:¬16777215<m.next:=fun h=>z5 (.inr (.inl h));omega
 have ef:m.seq<=2147483646:=by have:¬2147483647<=m.seq:=fun h=>z5 (.inr (.inr h));omega
 have h8:=Hd hp d4;have er:name.size<=12:=by unfold gC at z2;simp at z2;omega
 have d1:=(aa.db H1).2;have b1:eS h1 x m:=H1.at 1 rfl;refine⟨a,rfl,x.2.1,d1.cell rfl,H1.alloc af rfl fun a4 h2 H2=>?_⟩;have H2:=H2.cl;refine H2.storeAll af 0 rfl rfl (bv (name,x.2.1,(s.len:Int),⟨none,0,0⟩)) rfl rfl rfl rfl fun h3 H3=>?_;have H3:aa B h0 h3 (ag a4 73 (bv (name,m.next,(b.length:Int),⟨none,0,0⟩))::bm bh a pw (aq x) offs da w ds::bt x m::As):=by rw[<-b1.next,<-a1];exact H3
 have cp:∀{h':Heap},bZ h' a 63 (bL (aq x) pw offs da)->ai h' (a.add 2) 0 [vQ vW m.p.1,vQ vW m.p.2.1,vQ vW m.p.2.2]:=fun{h'} hb=>by
  rw[<-b1.p];exact⟨by rw[addr_add];exact hb.cell rfl,by rw[addr_add];exact hb.cell rfl,by rw[addr_add];exact hb.cell rfl,trivial⟩
 obtain⟨O,P⟩:∃O,O=(aT m.p b).length:=⟨_,rfl⟩
 have b2:countP m.p (s.len:Nat)=(O:Int):=by
  have:=(jL hp b.length).1;rw[P,a1];unfold aT;rw[qC,zt];omega
 refine cv (fun(t:Sl×Bool) h'=>(ck m.p m.next O=none->t.2=false/\aa B h0 h' (bm bh a pw (aq x) offs da w ds::bt x m::As))/\(∀l,ck m.p m.next O=some l->t.2=true/\aa B h0 h' (aj 3 t.1 1 aE l::ag a4 73 (bv (name,m.next,(b.length:Int),⟨none,0,0⟩))::bm bh a pw (aq x) offs da w ds::bt x m::As))) ?_ ?_
 ·have c7:=H3.box 0 rfl;have Y:=(aa.db (H3.bj 3 [1,0,2])).2;refine⟨a,rfl,m.p,cp Y,m.next,c7.cell rfl,a,rfl,m.p,cp Y,(oQ m.p s.len h3).mono ?_⟩;rintro _ h4 ⟨rfl,R4⟩;have H4:=H3.up R4.ah;have c1:=Y.ah R4.ah Y.lt;obtain⟨q1,q2,q3,_⟩:=cp c1;refine⟨_,rfl,⟨(H4.box 0 rfl).cell rfl,q1,q2,q3,trivial⟩,?_⟩;rw[b2];refine(Ps m.p m.next O h4 (by omega)).mono ?_;rintro _ h5 ⟨T0,T1⟩;cases ht:ck m.p m.next O with
  |none=>
   obtain⟨rfl,R5⟩:=T0 ht;exact⟨(⟨none,0,0⟩,false),rfl,trivial,fun _=>⟨rfl,(H4.up R5.ah).bj 3 [1,2]⟩,fun l h=>by cases h⟩
  |some l=>
   obtain⟨r,rfl,R5⟩:=T1 l ht;exact⟨(r,true),rfl,trivial,fun h=>(by cases h),fun l' h=>(by injection h with h;subst h;exact⟨rfl,H4.cM R5⟩)⟩
 rintro⟨j,tb⟩ h6 ⟨T0,T1⟩;dsimp only at T0 T1⊢;cases ht:ck m.p m.next O with
 |none=>
  obtain⟨rfl,H6⟩:=T0 ht;have ep:cZ m offs w ds name b=(8,m,w,ds):=by
   unfold cZ;rw[if_neg (by rw[e1];decide),<-P,ht]
  rw[ep];exact aW (fun _=>⟨rfl,x,H6⟩) fun e=>by cases e
 |some t=>
  obtain⟨rfl,H6⟩:=T1 t ht;refine aW (fun e=>by cases e) fun _=>?_;have d7:=jA ht;refine H6.store af 1 rfl rfl 3 [j] rfl rfl rfl (by simp) fun h7 H7=>?_;obtain⟨e,he⟩:∃e:Wl.cE,e=⟨name,m.next,b.length,t⟩:=⟨_,rfl⟩
  have H7:aa B h0 h7 (aj 3 j 1 aE e.tries::ag a4 73 (bv (name,m.next,(b.length:Int),j))::bm bh a pw (aq x) offs da w ds::bt x m::As):=by rw[he];exact H7
  have H7:=H7.bj 4 [2,3,0,1];have cs:St B h0 (bt x m::aj 3 j 1 aE e.tries::ag a4 73 (bv (name,m.next,(b.length:Int),j))::As) fun h=>eS h x m/\nN fE h (name,m.next,(b.length:Int),j) e/\Rd h s 1 aw b:=fun Bs h' i=>
   ⟨(St.iv 0 rfl fun _ o=>o) Bs h' i,(St.iv (A:=aj 3 j 1 aE e.tries) (Q:=fun h=>nN fE h (name,m.next,(b.length:Int),j) e) 1 rfl fun h' o=>⟨by rw[he];exact⟨rfl,rfl,rfl⟩,o.1.seq (fun _=>rfl) o.2⟩) Bs h' i,(hS.cons.cons.cons) Bs h' i⟩
  refine⟨(name,m.next,(b.length:Int),j),(H7.box 3 rfl).aF _ rfl,?_⟩;refine(Jg x m (name,m.next,(b.length:Int),j) e s b cs b9 Z hp dj dl (by rw[he,<-P];exact ht) H7).mono ?_;rintro _ eo ⟨r,ys,rfl,H8⟩;obtain⟨live,c⟩:∃live,live=bS ds m.drives:=⟨_,rfl⟩
  obtain⟨l,hl⟩:∃l,l=cI m m.next t (aT m.p b) live O:=⟨_,rfl⟩
  have dd:cI m e.object e.tries (aT m.p b) (bS ds m.drives) (aT m.p b).length=l:=by rw[hl,he,<-c,<-P]
  rw[dd]at H8;refine⟨(r,true),rfl,H8.alloc af rfl fun f h9 H9=>?_⟩;have H9:=H9.cl;refine H9.storeAll af 0 rfl rfl [r] rfl rfl rfl rfl fun a3 q=>?_;refine aW (fun e=>by cases e) fun _=>?_;obtain⟨n,S⟩:∃n,n=dK m e:=⟨_,rfl⟩
  have q:aa B h0 a3 (ag f 67 [r]::bm bh a pw (aq x) offs da w ds::eG jV 2 piv r ys l::bt x m::aj 3 j 1 aE e.tries::ag a4 73 (bv (name,m.next,(b.length:Int),j))::As):=q;have q:aa B h0 a3 (jo j 1 aE e.tries::bm bh a pw (aq x) offs da w ds::bt x m::eG jV 2 piv r ys l::ag f 67 [r]::ag a4 73 (bv (name,m.next,(b.length:Int),j))::As):=(q.freeze 4 rfl fun _=>rfl).bj 6 [4,1,3,2,0,5];have d5:((name,m.next,(b.length:Int),j):dh).1=e.name/\((name,m.next,(b.length:Int),j):dh).2.1=e.object/\((name,m.next,(b.length:Int),j):dh).2.2.1=e.length:=by rw[he];exact⟨rfl,rfl,rfl⟩
  have J:∀{h':Heap} {Cs:List HP},aa B h0 h' (jo j 1 aE e.tries::Cs)->eS h' x m->ac xa 33 #[cN x,Lv (name,m.next,(b.length:Int),j)] h' fun v cd=>∃y:bn,v=cN y/\aa B h0 cd (bt y n::Cs):=fun{h' Cs} i hx'=>by
   rw[S];exact RQ x m _ e hx' Z ⟨d3,by omega⟩ ⟨b3,by omega⟩ a8 d5 i
  have M:=(aa.db (q.bj 2 [1,0])).2;have K:=q.box 5 rfl;have a7:eS a3 x m:=q.at 2 rfl;refine cv (fun(t:Addr×Sl) h'=>∃y,aa B h0 h' (bm bh a pw (aq x) offs da w ds::bt x m::eG jV 2 piv r ys l::ag f 67 [r]::ag t.1 47 (aq y)::bt y n::aj 3 t.2 1 aE live::As)) ?_ ?_
  ·refine⟨a,rfl,x,M.aF _ rfl,(name,m.next,(b.length:Int),j),K.aF _ rfl,?_,?_⟩
   ·refine(J q a7).mono ?_;rintro _ e0 ⟨y,rfl,G⟩;have G:=G.bj 6 [1,2,3,4,0];refine⟨y,rfl,trivial,?_,?_⟩
    ·refine(gW x m (G.at 1 rfl) Z G).mono ?_;rintro _ d8 ⟨I,rfl,bw⟩;rw[<-c]at bw;have c2:=G.cM bw;refine⟨I,rfl,trivial,c2.alloc af rfl fun ez eb a6=>⟨trivial,?_⟩⟩;have a6:=a6.cl;refine a6.storeAll af 0 rfl rfl (aq y) rfl rfl rfl rfl fun el c5=>⟨trivial,y,?_⟩
     exact c5.bj 7 [2,3,4,5,0,6,1]
    ·refine G.alloc af rfl fun a22 e3 V=>⟨trivial,?_⟩
     have V:=V.cl;have ay:=V.bj 6 [1,2,3,4,5,0];refine(gW x m (ay.at 1 rfl) Z ay).mono ?_;rintro _ ew ⟨I,rfl,b0⟩;rw[<-c]at b0;have c9:=(V.cM b0).bj 2 [1,0];refine⟨I,rfl,trivial,c9.storeAll af 0 rfl rfl (aq y) rfl rfl rfl rfl fun e2 dx=>⟨trivial,y,?_⟩⟩;exact dx.bj 7 [2,3,4,5,0,6,1]
   ·refine q.JW af rfl fun ed en bl W=>?_;have d:=M.ah bl M.lt;have F:=K.ah bl K.lt;refine⟨⟨F.cell0 rfl,F.cell rfl,F.cell rfl,F.cell rfl,d.cell0 rfl,d.cell rfl,d.cell rfl,d.cell rfl,d.cell rfl,d.cell rfl,d.cell rfl,d.cell rfl,trivial⟩,?_⟩;have W:=(W.cl).bj 7 [1,0,2,3,4,5];refine(J W (W.at 3 rfl)).mono ?_;rintro _ ej ⟨y,rfl,dw⟩;have L:=dw.bj 6 [2,3,4,5,0,1];refine⟨y,rfl,trivial,(gW x m (L.at 1 rfl) Z L).mono ?_⟩;rintro _ ec ⟨I,rfl,a9⟩;rw[<-c]at a9;have cf:=(L.cM a9).bj 7 [6,0,1,2,3,4,5];refine⟨I,rfl,trivial,cf.storeAll af 0 rfl rfl (aq y) rfl rfl rfl rfl fun et b7=>⟨trivial,y,?_⟩⟩;exact b7.bj 7 [2,3,4,5,0,6,1]
  rintro⟨am,I⟩ dy ⟨y,ad⟩;dsimp only at ad⊢;have a2:cn n:=by rw[S];exact Wt Z a8 (by rw[he];show name.size<=2^30;omega) (by rw[he];show t.length<=2^30;omega)
  have d6:n.drives=m.drives:=by rw[S];rfl
  have eh:live.length<=64:=by rw[c];exact zH (zJ _ _) dr
  have D:∀k∈live,0<=k/\k<64:=fun k hk=>by rw[c]at hk;exact c6 k (zh.1 hk).1
  have b6:(m.p.1+m.extra).toNat<=32:=by have:=(cb m.p).1 hp;omega
  have ek:l.length<=256:=by
   rw[hl,rc];exact wm (show O<=8 by omega) b6
  have cc:∀z∈l,(0<=z.1/\z.1<64)/\z.2.length<=2^20:=fun z b4=>by
   rw[hl]at b4;obtain⟨p1,p2⟩:=LD (m:=m) ⟨b3,ch⟩ (by rw[c];exact c8) D (show O<=8 by omega) b4;exact⟨D _ p1,zH p2 (by decide)⟩
  refine⟨y,(ad.box 4 rfl).aF _ rfl,(kG y n dy (ad.at 5 rfl) a2).mono ?_⟩;rintro _ eg ⟨pg,rfl,b5⟩;have ax:=(aa.sj b5).1;have bb:=jk n a2;obtain⟨pn,bd⟩:∃pn,pn=(aP n).length:=⟨_,rfl⟩
  rw[<-bd]at ax bb;have d2:=ad.up b5.ah;refine⟨pg,rfl,d2.alloc af rfl fun u es a5=>?_⟩;have a5:=a5.cl;refine a5.storeAll af 0 rfl rfl [vQ vW (pg.len:Int)] rfl rfl rfl rfl fun c0 E=>?_;rw[ax]at E;have E:aa B h0 c0 (bm bh a pw (aq x) offs da w ds::bt x m::eG jV 2 piv r ys l::ag f 67 [r]::ag am 47 (aq y)::bt y n::aj 3 I 1 aE live::ag u 3 [vQ vW (pn:Int)]::As):=E.bj 8 [1,2,3,4,5,6,7,0];obtain⟨N,hN⟩:∃N,N=gM pn l:=⟨_,rfl⟩
  obtain⟨T,R⟩:∃T,T=bt x m::eG jV 2 piv r ys l::ag f 67 [r]::ag am 47 (aq y)::bt y n::aj 3 I 1 aE live::ag u 3 [vQ vW (pn:Int)]::As:=⟨_,rfl⟩
  have tX:St B h0 T fun h=>eS h x m:=by rw[R];exact St.iv 0 rfl fun _ o=>o
  have tF:St B h0 T fun h=>mO jV 2 piv h r ys l:=by rw[R];exact St.iv 1 rfl fun _ o=>o
  have tB:St B h0 T fun h=>bZ h f 67 [r]:=by rw[R];exact St.iv (A:=ag f 67 [r]) 2 rfl fun _ o=>o.1
  have tM:St B h0 T fun h=>bZ h am 47 (aq y):=by rw[R];exact St.iv (A:=ag am 47 (aq y)) 3 rfl fun _ o=>o.1
  have tY:St B h0 T fun h=>eS h y n:=by rw[R];exact St.iv 4 rfl fun _ o=>o
  have tL:St B h0 T fun h=>Rd h I 1 aE live:=by rw[R];exact St.iv (A:=aj 3 I 1 aE live) 5 rfl fun _ o=>o.1.seq (fun _=>rfl) o.2
  have tN:St B h0 T fun h=>bZ h u 3 [vQ vW (pn:Int)]:=by rw[R];exact St.iv (A:=ag u 3 [vQ vW (pn:Int)]) 6 rfl fun _ o=>o.1
  have tT:St B h0 T fun h=>Pv 34 #[] #[vS (some u),vS (some f)] N live h:=fun Bs h' i k hk=>by
   rw[hN];exact RZ k u f pn r ys l h' (by omega) (by omega) (tN Bs h' i) (tB Bs h' i) (tF Bs h' i)
  have fin:∀{h':Heap} {z:bn} {w':Pow} {a0:aS},aa B h0 h' (bm bh a pw (aq x) offs da w' a0::T)->aa B h0 h' (bm bh a pw (aq x) offs da w' a0::bt x m::As):=fun{h' z w' a0} i=>by
   rw[R]at i;exact i.bj 8 [0,1]
  rw[<-R]at E;have ep:cZ m offs w ds name b=(if dZ m ds live N=false then(7,m,w,ds)else if(makes m N live w ds).1≠0 then((makes m N live w ds).1,m,(makes m N live w ds).2)else
    if(layAll l (makes m N live w ds).2.1 (makes m N live w ds).2.2).1≠0 then((layAll l (makes m N live w ds).2.1 (makes m N live w ds).2.2).1,m,(layAll l (makes m N live w ds).2.1 (makes m N live w ds).2.2).2)else
    ((layAll (bF n live) (layAll l (makes m N live w ds).2.1 (makes m N live w ds).2.2).2.1 (layAll l (makes m N live w ds).2.1 (makes m N live w ds).2.2).2.2).1,if(layAll (bF n live) (layAll l (makes m N live w ds).2.1 (makes m N live w ds).2.2).2.1 (layAll l (makes m N live w ds).2.1 (makes m N live w ds).2.2).2.2).1=0 then n else m,(layAll (bF n live) (layAll l (makes m N live w ds).2.1 (makes m N live w ds).2.2).2.1 (layAll l (makes m N live w ds).2.1 (makes m N live w ds).2.2).2.2).2)):=by
   rw[hN,bd,hl,S,he,c];unfold cZ;rw[if_neg (by rw[e1];decide),<-P,ht]
  rw[ep];refine(Pw 34 #[] #[vS (some u),vS (some f)] N x m I live (by rfl) (fun Bs h' i=>⟨tX Bs h' i,tT Bs h' i⟩) Z (tL.at [_] E) (by omega) D E).mono ?_;rintro _ ei ⟨rfl,d0⟩;have br:=E.up d0.ah;refine⟨_,rfl,aW (fun g=>?_) fun g=>?_⟩
  ·rw[if_pos g];exact⟨rfl,x,fin (z:=x) br⟩
  rw[if_neg (by rw[g];decide)];refine(Py 34 #[] #[vS (some u),vS (some f)] N x m I live (by rfl) (fun Bs h' i=>⟨tX Bs h' i,tT Bs h' i,tL Bs h' i⟩) Z (by omega) D br).mono ?_;rintro _ eq ⟨rfl,U⟩;obtain⟨m1,dk⟩:∃m1,m1=makes m N live w ds:=⟨_,rfl⟩
  rw[<-dk]at U⊢;refine⟨_,rfl,ci (fun g2=>?_) fun g2=>?_⟩
  ·rw[if_pos g2];exact⟨rfl,x,fin (z:=x) U⟩
  rw[if_neg (by simpa using g2)];refine⟨r,(tB.at [_] U).cell0 rfl,(AW r ys l tF (by omega) cc U).mono ?_⟩;rintro _ d9 ⟨rfl,X⟩;obtain⟨r2,c4⟩:∃r2,r2=layAll l m1.2.1 m1.2.2:=⟨_,rfl⟩
  rw[<-c4]at X⊢;refine⟨_,rfl,ci (fun g3=>?_) fun g3=>?_⟩
  ·rw[if_pos g3];exact⟨rfl,x,fin (z:=x) X⟩
  rw[if_neg (by simpa using g3)];refine⟨y,(tM.at [_] X).aF _ rfl,(PB x y n I live (fun Bs h' i=>⟨tY Bs h' i,tL Bs h' i⟩) a2 (by omega) D X).mono ?_⟩;rintro _ ee ⟨rfl,Q1,Q0⟩;refine⟨_,rfl,rfl,?_⟩;by_cases g4:(layAll (bF n live) r2.2.1 r2.2.2).1=0
  ·obtain⟨y2,bk⟩:=Q0 g4;rw[if_pos g4];rw[R]at bk;exact⟨y2,bk.bj 9 [0,1]⟩
  ·rw[if_neg g4];exact⟨x,fin (z:=x) (Q1 g4)⟩
end
theorem PG(n:Nat)(x:Int)(h:Heap)(p:n<=2^30):ac xa 11 #[vQ vW n,vQ vW x] h fun v h'=>∃(r:Sl) (l:aL),v=r/\l.length=n/\Sp h h' [aj 5 r 1 aw l]:=by
 refine rh n x ?_;unfold lO;refine az (fun t:Sl×Nat×aL=>(t.1,(t.2.1:Int))) (fun t h'=>t.2.1<=n/\t.2.2.length=t.2.1/\Sp h h' [aj 5 t.1 1 aw t.2.2]) (fun t=>n-t.2.1) (⟨none,0,0⟩,0,[]) rfl ⟨by simp,rfl,(Sp.refl h).nil 5 1 aw⟩ ?_;rintro⟨o,i,l⟩ k ⟨m,b,a⟩;dsimp only at*;refine al (fun e=>?_) fun e=>?_
 ·have f:i<n:=by omega
  refine⟨by decide,Int.tmod_nonneg _ (by omega),?_⟩;rw[df];generalize b8 (qc vW _)=c;refine a.push af 0 rfl iA rfl (by decide) (fun _=>rfl) fX c rfl (by decide) (by omega) fun d j g=>?_;refine⟨(d,i+1,l++[c]),by dsimp only;rw[an _];rfl,⟨by dsimp only;omega,?_,g⟩,by dsimp only;omega⟩;simp[b]
 ·exact⟨o,l,rfl,by omega,a⟩
end Go.Qw
namespace Go.Vc
open Go Wl Go.Qw
section
variable {α:Type} {B:ap} {h0 h:Heap} {As:List HP} {k:Nat} {f:α->aQ} {L M:List (Sl×List α)}
end
end Go.Vc
namespace Wl
open Go
end Wl
namespace Go.Qw
open Go Go.Vc Go.Proofs Wl
section
variable {B:ap} {h0 h:Heap} {As:List HP} {a pw:Addr} {offs:Int} {da:List aM} {w:Pow} {ds:aS} {mc:aQ}
end
end Go.Qw
namespace Wl
open Go
end Wl
namespace Go.Qw
open Go Go.Vc Go.Proofs Wl
section
variable {B:ap} {h0 h:Heap} {As:List HP} {a pw:Addr} {offs:Int} {da:List aM} {w:Pow} {ds:aS}
end
end Go.Qw
namespace Wl
open Go
def Pow.calm(w:Pow):Prop:=w.off=false/\w.fuse=none
theorem uY:Pow.new.calm:=⟨rfl,rfl⟩
theorem om{w:Pow}(h:w.calm):w.step=(true,w):=by unfold Pow.step;rw[if_neg (by simp[h.1]),h.2]
theorem CT{w:Pow}(h:w.calm)(ds:aS)(x:Int)(b:aL):(du w ds x b).2.1=w:=by
 unfold du;cases bs ds x with
 |none=>rfl
 |some d=>
  dsimp only;unfold bf.append;split
  ·rfl
  ·split
   ·rfl
   ·split
    ·rfl
    ·split
     ·rfl
     ·rw[om h];rfl
theorem Ip{w:Pow}(h:w.calm)(ds:aS)(x:Int):(fd w ds x).2.1=w:=by
 unfold fd;cases bs ds x with
 |none=>rfl
 |some d=>
  dsimp only;unfold bf.sync;split
  ·rfl
  ·rw[om h];rfl
theorem mL{w:Pow}(h:w.calm):∀(l:List (Int×aL)) (ds:aS),(iV l w ds).2.1=w
 |[],_=>rfl
 |x::l,ds=>by
  rw[pv,CT h];split
  ·exact mL h l _
  ·exact CT h _ _ _
theorem FK{w:Pow}(h:w.calm):∀(l:aD) (ds:aS),(iO l w ds).2.1=w
 |[],_=>rfl
 |x::l,ds=>by
  rw[um,Ip h];split
  ·exact FK h l _
  ·exact Ip h _ _
theorem Up{w:Pow}(h:w.calm)(l:List (Int×aL))(ds:aS):(layAll l w ds).2.1=w:=by
 unfold layAll;dsimp only;rw[mL h];split
 ·exact FK h _ _
 ·exact mL h _ _
theorem Nk{w:Pow}{d:bf}{n:Nat}{b:aL}(h:w.calm)(a:d.lost=false)(c:d.l.length+(n+1)<=d.room)(e:b.length=64):d.append w b=(0,w,{d with l:=d.l++[b],wait:=d.wait+1,laid:=[],has:=false}):=by
 unfold bf.append;rw[if_neg (by omega),if_neg (by simp[a]),if_neg (by omega),if_neg (by simp[h.1]),om h];rfl
theorem Sa{w:Pow}{d:bf}(h:w.calm)(a:d.lost=false):d.sync w=(0,w,{d with wait:=0,laid:=[],has:=false}):=by
 unfold bf.sync;rw[if_neg (by simp[a]),om h];rfl
theorem XQ{ds:aS}{s:Int}{d:bf}(h:bs ds s=some d):0<=s/\s<64:=by
 obtain⟨n,rfl,a⟩:=jl h;omega
def FL(ds:aS)(P:List (Int×aL))(s:Int):Option bf:=
 (bs ds s).map fun d=>{d with l:=d.l++(P.filter (fun x=>decide (x.1=s))).map ze,wait:=d.wait+(P.filter (fun x=>decide (x.1=s))).length,laid:=if(P.filter (fun x=>decide (x.1=s))).isEmpty then d.laid else[],has:=if(P.filter (fun x=>decide (x.1=s))).isEmpty then d.has else false}
theorem Bj{w:Pow}(h:w.calm){S:aD}:∀(P:List (Int×aL)) (ds:aS),Fit ds S (P.map qx)->(∀x∈P,x.1∈S/\x.2.length=64)->
  (iV P w ds).1=0/\Fit (iV P w ds).2.2 S []/\∀s,bs (iV P w ds).2.2 s=FL ds P s
 |[],ds,F,_=>⟨rfl,F,fun s=>by unfold FL;show bs ds s=_;cases bs ds s<;>simp⟩
 |x::P,ds,F,hP=>by
  obtain⟨d,f,q,m⟩:=F.at_ x.1 (hP x (qT ..)).1;rw[z6,List.count_cons_self]at m;have i:=(hP x (qT ..)).2;obtain⟨n,j,a⟩:=jl f;have g:=Nk (n:=(P.map qx).count x.1) h q (by omega) i;have e:du w ds x.1 x.2=(0,w,fO ds x.1 {d with l:=d.l++[x.2],wait:=d.wait+1,laid:=[],has:=false}):=by
   unfold du;rw[f];dsimp only;rw[g]
  obtain⟨_,c⟩:=Je w x.2 (x:=x.1) (Q:=P.map qx) F (hP x (qT ..)).1 i;rw[pv,e];rw[e]at c;dsimp only at c⊢;rw[if_pos rfl];obtain⟨r,p,a3⟩:=Bj h P _ c fun y o=>hP y (q0 _ o);refine⟨r,p,fun s=>?_⟩;rw[a3 s];unfold FL;rw[j,lW _ _ _ _ a F.len,<-j];by_cases b:s=x.1
  ·rw[if_pos b,b,f];simp only[qJ,zx,decide_true,if_true,z6,zi,qm,List.singleton_append,List.isEmpty_cons,Bool.false_eq_true,if_false];congr 1;simp only[bf.mk.injEq,true_and,and_true];refine⟨by omega,?_,?_⟩<;>split<;>rfl
  ·rw[if_neg b];simp only[zx,decide_eq_true_eq,if_neg (show¬x.1=s from fun k=>b k.symm)]
theorem FM{w:Pow}(h:w.calm){S:aD}:∀(l:aD) (ds:aS),Fit ds S []->(∀x∈l,x∈S)->
  (iO l w ds).1=0/\Fit (iO l w ds).2.2 S []/\∀s,bs (iO l w ds).2.2 s=(bs ds s).map fun d=>if s∈l then{d with wait:=0,laid:=[],has:=false}else d
 |[],ds,F,_=>⟨rfl,F,fun s=>by show bs ds s=_;cases bs ds s<;>simp⟩
 |x::l,ds,F,hl=>by
  obtain⟨d,c,k,o⟩:=F.at_ x (hl x (qT ..));obtain⟨n,g,a⟩:=jl c;have e:fd w ds x=(0,w,fO ds x {d with wait:=0,laid:=[],has:=false}):=by
   unfold fd;rw[c];dsimp only;rw[Sa h k]
  obtain⟨_,b⟩:=Nc w F (hl x (qT ..));rw[um,e];rw[e]at b;dsimp only at b⊢;rw[if_pos rfl];obtain⟨m,j,a3⟩:=FM h l _ b fun y i=>hl y (q0 _ i);refine⟨m,j,fun s=>?_⟩;rw[a3 s,g,lW _ _ _ _ a F.len,<-g];by_cases f:s=x
  ·subst f;rw[if_pos rfl,c];simp only[qJ,zj,true_or,if_true];congr 1;split<;>rfl
  ·rw[if_neg f];cases bs ds s with
   |none=>rfl
   |some d'=>simp[f]
end Wl
namespace Go.Qw
open Go Go.Vc Go.Proofs Wl
section
variable {B:ap} {h0 h h':Heap} {As:List HP} {a:Addr} {w:Pow}
end
section
variable {B:ap} {h0 h h':Heap} {As:List HP} {a pw:Addr} {d:bf} {w:Pow}
end
section
variable {B:ap} {h0 h h':Heap} {As:List HP}
end
end Go.Qw
namespace Wl
open Go
end Wl
namespace Go.Qw
open Go Go.Vc Go.Proofs Wl
end Go.Qw
namespace Wl
open Go
end Wl
namespace Go.Qw
open Go Go.Vc Go.Proofs Wl
end Go.Qw
namespace Wl
open Go
def Has(ds:aS)(S:aD):Prop:=ds.length=64/\∀s∈S,∃d,bs ds s=some d
theorem Has.set{ds:aS}{S:aD}{n:Nat}{d:bf}(F:Has ds S)(b:n<64):Has (fO ds (n:Int) d) S:=by
 refine⟨by unfold fO;rw[zy];exact F.1,fun s a=>?_⟩;rw[lW _ _ _ _ b F.1];by_cases h:s=(n:Int)
 ·rw[if_pos h];exact⟨_,rfl⟩
 ·rw[if_neg h];exact F.2 s a
theorem Has.append{ds:aS}{S:aD}(F:Has ds S)(w:Pow)(x:Int)(b:aL):Has (du w ds x b).2.2 S:=by
 unfold du;cases hd:bs ds x with
 |none=>exact F
 |some d=>
  obtain⟨n,rfl,a⟩:=jl hd;exact F.set a
theorem Has.sync{ds:aS}{S:aD}(F:Has ds S)(w:Pow)(x:Int):Has (fd w ds x).2.2 S:=by
 unfold fd;cases hd:bs ds x with
 |none=>exact F
 |some d=>
  obtain⟨n,rfl,a⟩:=jl hd;exact F.set a
end Wl
namespace Go.Vc
open Go Wl
end Go.Vc
namespace Go.Qw
open Go Go.Vc Go.Proofs Wl
section
variable {B:ap} {h0 h h':Heap} {As:List HP} {a pw:Addr} {mc:aQ} {offs:Int} {da:List aM} {w:Pow} {ds:aS}
end
section
variable {B:ap} {h0 h h':Heap} {As:List HP} {a pw:Addr} {mc:aQ} {offs:Int} {da:List aM} {w:Pow} {ds:aS}
end
end Go.Qw
namespace Go.Vc
open Go Wl Go.Qw
def re(p:Pm)(extra:Int)(l:aD):Int:=
 if(dB l).2&&(bV p&&dC extra 0 16)then
  if(ba l l.length).any fun i=>decide (l.getD i.toNat 0<((aP (cu p extra l)).length:Int))then 7 else 0
 else 1
theorem PH(p:Pm)(extra:Int)(w:Pow)(l:aD):dY p extra w l=if re p extra l=0 then layAll (bF (cu p extra l) (ba l l.length)) w (fL l (ba l l.length).length)else(re p extra l,w,[]):=by
 unfold dY re;by_cases h:((dB l).2&&(bV p&&dC extra 0 16))=true
 ·rw[if_pos h,if_pos h];by_cases a:((ba l l.length).any fun i=>decide (l.getD i.toNat 0<((aP (cu p extra l)).length:Int)))=true
  ·rw[if_pos a,if_pos a];rfl
  ·rw[if_neg a,if_neg a];rfl
 ·rw[if_neg h,if_neg h];rfl
theorem FN{p:Pm}{extra:Int}{l:aD}(h:re p extra l=0):bV p=true/\0<=extra/\extra<=16/\(dB l).2=true/\((ba l l.length).any fun i=>decide (l.getD i.toNat 0<((aP (cu p extra l)).length:Int)))=false:=by
 unfold re at h;by_cases a:((dB l).2&&(bV p&&dC extra 0 16))=true
 ·rw[if_pos a]at h;by_cases b:((ba l l.length).any fun i=>decide (l.getD i.toNat 0<((aP (cu p extra l)).length:Int)))=true
  ·rw[if_pos b]at h;cases h
  ·unfold dC at a;simp only[qz,decide_eq_true_eq]at a;exact⟨a.2.1,a.2.2.1,a.2.2.2,a.1,by simpa using b⟩
 ·rw[if_neg a]at h;cases h
end Go.Vc
namespace Go.Qw
open Go Go.Vc Go.Proofs Wl
end Go.Qw
namespace Wl
def fT(m:ar)(l:bR):Bool:=bB m&&(aP m).all fun p=>decide (p∈l)
end Wl
namespace Go.Qw
open Go Go.Vc Go.Proofs Wl
theorem Sb(a:Addr)(e:Sl)(p:aL)(l:Sl)(b:Cells)(h:Heap)(u:bZ h a 38 [e])(t:Rd h e 1 aw p)(m:dU h l 1 aw b)(w:b.length<=2^30):
  ac xa 49 #[l,.func (.func 50) #[] #[vS (some a)]] h fun v h'=>v=vU (decide (p∈b))/\h'=h:=by
 refine km l (50,#[],#[vS (some a)]) ?_;unfold gu;refine(li l (50,#[],#[vS (some a)]) (R:=fun v h'=>(∃i:Int,v=vQ vW i/\(decide (i>=0)=decide (p∈b)))/\h'=h) ?_).mono ?_
 ·unfold io;have o:=m.len;refine az (fun i:Nat=>(i:Int)) (fun i h'=>i<=b.length/\p∉b.take i/\h'=h) (fun i=>b.length-i) 0 rfl ⟨by omega,by simp,rfl⟩ ?_;rintro i j ⟨n,d,rfl⟩;refine al (fun g=>?_) (fun g=>?_)
  ·have c:i<b.length:=by
    have q:(i:Int)<(l.len:Int):=g;omega
   refine m.get i rfl c fun r s=>eZ (by rfl) ?_;refine(Dz r a (R:=fun v h'=>v=vU (decide (b[i]=p))/\h'=j) ?_).mono ?_
   ·unfold sX;refine⟨e,u.cell0 rfl,(jb r e b[i] p j s t).mono ?_⟩;rintro _ _ ⟨rfl,rfl⟩;exact⟨_,rfl,rfl,rfl⟩
   ·rintro _ _ ⟨rfl,rfl⟩;refine⟨_,rfl,al (fun k=>⟨⟨i,rfl,?_⟩,rfl⟩) (fun k=>?_)⟩
    ·rw[decide_eq_true (show(i:Int)>=0 by omega),decide_eq_true (by rw[<-k];exact qn c)]
    ·refine⟨i+1,by rw[an _];rfl,⟨by omega,fun f=>?_,rfl⟩,by omega⟩;rw[aK _ _ c]at f;rcases qH.1 f with f|f
     ·exact d f
     ·exact k (qB.1 f).symm
  ·have q:¬(i:Int)<(l.len:Int):=g;rw[qi (by omega)]at d;exact⟨⟨-1,rfl,by rw[decide_eq_false d];rfl⟩,rfl⟩
 ·rintro _ j ⟨⟨i,rfl,n⟩,rfl⟩;exact⟨i,rfl,by rw[n],rfl⟩
theorem PI(a pw:Addr)(d:bf)(s b:Sl)(x:bn)(m:ar)(h:Heap)(N:bZ h a 70 (eK pw d s b))(R:dU h s 1 aw d.l)(ok:dc d)(K:eS h x m)(H:cn m):
  ac xa 17 #[vS (some a),cN x] h fun v h'=>v=vU (fT m d.l)/\Sp h h' []:=by
 refine Gz (some a) x ?_;unfold Ap;have O:=ok.len;have D:=ok.room;refine(Sp.refl h).boxed fun B M y=>?_;have y:Sp h M [ag B 47 (aq x)]:=y;refine⟨x,(y.box 0 rfl).aF _ rfl,(DN x m M (K.up y.ah) H).mono ?_⟩;rintro _ S ⟨rfl,U⟩;have A:Sp h S [ag B 47 (aq x)]:=y.up U.ah;refine⟨_,rfl,aW (fun g=>⟨by unfold fT;rw[g];rfl,.zip A.ah⟩) fun g=>?_⟩;refine(uP s b (N.ah A.ah N.lt) (R.up A.ah) ok).mono ?_;rintro _ h3 ⟨o,rfl,W⟩;have F:Sp h h3 [ag B 47 (aq x),cz o d.l]:=A.comp W;refine⟨o,rfl,x,(F.box 0 rfl).aF _ rfl,(kG x m h3 (K.up F.ah) H).mono ?_⟩;rintro _ Y ⟨q,rfl,Q⟩;have t:Sp h Y [ag B 47 (aq x),cz o d.l,cz q (aP m)]:=F.comp Q;have I:=jk m H;obtain⟨c,k⟩:∃c,c=aP m:=⟨_,rfl⟩
 rw[<-k]at t I;have T:=(aa.sj (t.bj 3 [2])).1;refine⟨q,rfl,?_⟩;obtain⟨rs,t⟩:=(t.ca [2,1]).Pn fun _=>rfl;refine az (fun i:Nat=>(i:Int)) (fun i h'=>i<=c.length/\((c.take i).all fun p=>decide (p∈d.l))=true/\Sp h h' [eG (Gr 1 aw) 1 cF q rs c,cz o d.l]) (fun i=>c.length-i) 0 rfl ⟨by omega,by simp,t⟩ ?_;rintro i h5 ⟨hi,f,z⟩;have X:=(z.jY 0 rfl).2.1;refine al (fun e=>?_) (fun e=>?_)
 ·have n:i<c.length:=by
   have P:(i:Int)<(q.len:Int):=e;omega
  refine(z.jY 0 rfl).1.Tk i rfl (by omega) ?_;obtain⟨r,L⟩:∃r,r=rs[i]'(by omega):=⟨_,rfl⟩
  rw[<-L];refine z.alloc af rfl fun w Z V=>?_;refine V.storeAll af 2 rfl rfl [r] rfl rfl rfl rfl fun J j=>?_;have j:Sp h J [eG (Gr 1 aw) 1 cF q rs c,cz o d.l,ag w 38 [r]]:=j;have u:Rd J r 1 aw c[i]:=by rw[L];exact Fix.row (j.jY 0 rfl) n
  have E:=aa.yI (j.bj 2 [1]) fun _=>rfl;refine(Sb w r c[i] o d.l J (j.box 2 rfl) u E (by omega)).mono ?_;rintro _ h8 ⟨rfl,rfl⟩;refine⟨_,rfl,aW (fun G=>⟨?_,.zip j.ah⟩) fun G=>?_⟩
  ·have:fT m d.l=false:=by
    unfold fT;rw[g,z8,<-k];exact yJ.2 ⟨c[i],qn n,by rw[G];simp⟩
   rw[this]
  ·refine⟨i+1,by rw[an _];rfl,⟨by omega,?_,j.ca [0,1]⟩,by omega⟩;rw[aK _ _ n,List.all_append,f,vM,List.all_nil,G];rfl
 ·have:i=c.length:=by
   have P:¬(i:Int)<(q.len:Int):=e;omega
  subst this;rw[zc]at f;exact⟨by unfold fT;rw[g,<-k,f];rfl,.zip z.ah⟩
end Go.Qw
namespace Go.Vc
open Go Wl Go.Qw
theorem Uq{w:Pow}(h:w.calm){S:aD}(P:List (Int×aL))(ds:aS)(F:Fit ds S (P.map qx))(b:∀x∈P,x.1∈S/\x.2.length=64):
  (layAll P w ds).1=0/\Fit (layAll P w ds).2.2 S []/\∀s,bs (layAll P w ds).2.2 s=(FL ds P s).map fun d=>if s∈eX (P.map qx)then{d with wait:=0,laid:=[],has:=false}else d:=by
 obtain⟨l,g,a3⟩:=Bj h P ds F b;have e:=mL h P ds;unfold layAll;dsimp only;rw[if_pos l,e];obtain⟨i,j,k⟩:=FM h (S:=S) (eX (P.map qx)) (iV P w ds).2.2 g fun x c=>by
  unfold eX at c;have a:=(zh.1 c).2;obtain⟨y,f,rfl⟩:=qE.1 (of_decide_eq_true a);exact(b y f).1
 exact⟨i,j,fun s=>by rw[k s,a3 s]⟩
theorem xz(l:aD)(k:Nat):(ba l k).Pairwise (·<·):=by
 unfold ba;refine List.Pairwise.filter _ (List.pairwise_map.2 ?_);exact(List.pairwise_lt_range (n:=k)).imp fun h=>by omega
theorem Wu{l:aD}{a:Int}(e:l.Pairwise (·<·))(d:∀x∈l,0<=x/\x<=a):md l a=true:=by
 unfold md;refine oq fun i c=>?_;unfold gZ dC;have f:l.getD i 0=l[i]:=by rw[qf,qd c];rfl
 have:=d l[i] (qn c);rw[f,decide_eq_true this.1,decide_eq_true this.2,z8,z8];by_cases h0:i=0
 ·rw[decide_eq_true h0];rfl
 ·have b:l.getD (i-1) 0=l[i-1]:=by rw[qf,qd (by omega)];rfl
  rw[b,decide_eq_true (List.pairwise_iff_getElem.1 e (i-1) i (by omega) c (by omega)),Bool.or_true]
theorem LF{p:Pm}{extra:Int}{l:aD}(g:l.length<=64)(b:re p extra l=0):bB (cu p extra l)=true:=by
 obtain⟨f,a,h3,_⟩:=FN b;have c:iQ (cu p extra l)=true:=by
  unfold iQ dC cu;simp[f,a,h3]
 have e:md (cu p extra l).drives 63=true:=Wu (xz l l.length) fun x d=>by
  obtain⟨n,h,rfl,_⟩:=(pW l l.length x).1 d;omega
 unfold bB;rw[c,e];rfl
theorem Jh(p:Pm)(extra:Int)(l:aD)(b:l.length<=24):(aP (cu p extra l)).length<=1:=by
 unfold aP cD;rw[qC,zt];have a:=mF l l.length;have:(bo (cu p extra l)).length<=19+24:=by
  unfold bo;split
  ·simp only[qw,bM,zi,yE,qC,cu,wx];omega
  ·simp
 omega
end Go.Vc
namespace Wl
open Go
theorem Se{ds:aS}{k:Int}{d:bf}(h:bs ds k=some d):fO ds k d=ds:=by
 unfold bs at h;split at h
 ·rename_i b;unfold fO;cases hx:ds[k.toNat]? with
  |none=>rw[hx]at h;cases h
  |some o=>
   rw[hx]at h;have h:o=some d:=h;subst h;obtain⟨c,a⟩:=qk.1 hx;rw[<-a,List.set_getElem_self]
 ·cases h
theorem roomy{m:ar}{w:Pow}{N:Int->Int}:∀{live:aD} {ds:aS},(∀k∈live,∃d,bs ds k=some d/\d.lost=false/\0<=N k/\(d.l.length:Int)+N k<=d.room)->dZ m ds live N=true/\makes m N live w ds=(0,w,ds)
 |[],ds,_=>⟨rfl,rfl⟩
 |k::live,ds,h=>by
  obtain⟨d,a,b,h3,n⟩:=h k qT;obtain⟨e,j⟩:=roomy (m:=m) (w:=w) (N:=N) (live:=live) (ds:=ds) fun k i=>h k (q0 _ i);have f:fi d d.l.length (N k)=true:=decide_eq_true (by omega);have c:kJ m d (N k)=true:=by unfold kJ;rw[b,f];rfl
  have g:dS m w ds k (N k)=(0,w,ds):=by
   unfold dS;rw[a];have:fQ m w d (N k)=(0,w,d):=by unfold fQ;rw[if_neg (by simp[b]),if_neg (by simp[c]),if_pos f]
   dsimp only;rw[this];dsimp only;rw[Se a]
  refine⟨?_,?_⟩
  ·unfold dZ at e⊢;rw[vM,e,Bool.and_true];unfold kr;rw[a];exact c
  ·show(if(dS m w ds k (N k)).1=0 then makes m N live (dS m w ds k (N k)).2.1 (dS m w ds k (N k)).2.2 else dS m w ds k (N k))=_;rw[g];exact j
end Wl
namespace Go.Vc
open Go Wl Go.Qw
theorem Sf(l:List (Int×aL))(k:Int):(l.map qx).count k=(l.filter fun y=>decide (y.1=k)).length:=by
 induction l with
 |nil=>rfl
 |cons y l ih=>
  rw[z6,List.count_cons,ih,zx];by_cases h:y.1=k
  ·rw[if_pos (decide_eq_true h),if_pos (by simpa using h)];rfl
  ·rw[if_neg (by simpa using h),if_neg (by simpa using h)];rfl
theorem Bl(n:ar)(k:Int):∀{live:aD},live.Nodup->k∈live->((bF n live).filter fun y=>decide (y.1=k)).map ze=aP n
 |[],_,hk=>by cases hk
 |x::live,hnd,hk=>by
  have e:bF n (x::live)=(aP n).map (fun c=>(x,c))++bF n live:=by unfold bF;rw[zf]
  obtain⟨j,d⟩:=yl.1 hnd;rw[e,zn,za];by_cases a:x=k
  ·subst a;have f:((aP n).map (fun c=>(x,c))).filter (fun y=>decide (y.1=x))=(aP n).map (fun c=>(x,c)):=List.filter_eq_self.2 fun y b=>by
    obtain⟨c,_,rfl⟩:=qE.1 b;exact decide_eq_true rfl
   have i:(bF n live).filter (fun y=>decide (y.1=x))=[]:=w6.2 fun y b=>by
    have:=(jR b).1;have g:y.1≠x:=fun h=>j (h▸this);simpa using g
   rw[f,i,List.map_nil,qM,we];exact List.map_id _
  ·have f:((aP n).map (fun c=>(x,c))).filter (fun y=>decide (y.1=k))=[]:=w6.2 fun y b=>by
    obtain⟨c,_,rfl⟩:=qE.1 b;simpa using a
   rw[f,List.map_nil,List.nil_append];rcases zj.1 hk with h|h
   ·exact absurd h.symm a
   ·exact Bl n k d h
end Go.Vc
namespace Go.Qw
open Go Go.Vc Go.Proofs Wl
theorem Wv{p:Pm}{seed:Int}{d:Row}{K H w n:Nat}(B:bE p seed d K H w n)(id:Int):sE p seed d id=if cg id then fA w (dP p seed d) (eO n seed id)else[]:=by
 unfold sE;rw[B.mj,show p.2.2.toNat=w by have:=B.s;omega]
theorem Ur{m:ar}{o i seed:Int}{d:Row}{id:Int}{K H w n:Nat}(B:bE m.p seed d K H w n)(a:0<=o/\o<=16777215)(b:0<=i/\i<=7)(hid:0<=id/\id<=65535):hF (uW m o i seed d id)=true:=by
 rw[jr];refine⟨a,b,hid,B.may,?_⟩;have c:cg id=true:=by unfold cg;rw[decide_eq_true hid.1,decide_eq_true hid.2];rfl
 show((sE m.p seed d id).length:Int)=m.p.2.2;rw[Wv B id,if_pos c,B.Rf id,B.s]
def pe(m:ar)(o:Int)(a:aD)(b:bR)(live:aD)(k:Int)(i:Nat):List di:=
 ((qD (m.p.1+m.extra).toNat).filter fun id=>decide (tU (kv o i live) (id:Nat)=k)).map fun id:Nat=>uW m o i (iy o i (a.getD i 0)) (b.getD i []) id
def fj(m:ar)(o:Int)(a:aD)(b:bR)(live:aD)(k:Int)(n:Nat):List di:=(qD n).flatMap (pe m o a b live k)
theorem LG(m:ar)(o:Int)(a:aD)(b:bR)(live:aD)(k:Int)(n:Nat):fj m o a b live k (n+1)=fj m o a b live k n++pe m o a b live k n:=by
 unfold fj;rw[zE,qY,zf,wx,qM]
theorem Bm(m:ar)(o:Int)(a:aD)(b:bR)(live:aD)(k:Int)(i:Nat):((kw m o a b live i).filter fun y=>decide (y.1=k)).map ze=(pe m o a b live k i).map dp:=by
 unfold kw pe;rw[List.filter_map,we,we];rfl
theorem xA(m:ar)(o:Int)(a:aD)(b:bR)(live:aD)(k:Int):∀n,((cI m o a b live n).filter fun y=>decide (y.1=k)).map ze=(fj m o a b live k n).map dp
 |0=>by simp[cI,fj]
 |n+1=>by rw[ov,LG,zn,za,za,xA m o a b live k n,Bm]
theorem PJ{m:ar}{o:Int}{a:aD}{b:bR}{live:aD}{k:Int}{i:Nat}{r:di}(h:r∈pe m o a b live k i):∃id:Nat,r=uW m o i (iy o i (a.getD i 0)) (b.getD i []) id/\id<(m.p.1+m.extra).toNat:=by
 unfold pe at h;obtain⟨id,c,rfl⟩:=qE.1 h;exact⟨id,rfl,qF.1 (zh.1 c).1⟩
theorem FO{m:ar}{o:Int}{a:aD}{b:bR}{live:aD}{k:Int}{n:Nat}{r:di}(h:r∈fj m o a b live k n):∃(i id:Nat),r=uW m o i (iy o i (a.getD i 0)) (b.getD i []) id/\i<n/\id<(m.p.1+m.extra).toNat:=by
 unfold fj at h;obtain⟨i,d,e⟩:=zL.1 h;obtain⟨id,c,h3⟩:=PJ e;exact⟨i,id,c,qF.1 d,h3⟩
end Go.Qw
namespace Wl
open Go
def ik(m:ar)(d:bf)(n:Int):bf:=if fi d d.l.length n then d else{d with l:=eU m d.l,wait:=0,laid:=[],has:=false}
theorem PK{m:ar}{r:di}(h:ff m r=true):hF r=true:=by
 unfold ff at h;simp only[qz]at h;exact h.1
theorem Us{l:List di}{r:di}(h:r∈Do l):r∈l:=by
 unfold Do at h;obtain⟨i,a,rfl⟩:=qE.1 h;have a:=qF.1 (zh.1 a).1;rw[qf,qd a];exact qn a
theorem PL{m:ar}{c:aL}{r:di}(h:iR m c=some r):dJ c=some r/\ff m r=true:=by
 unfold iR at h;cases hc:dJ c with
 |none=>rw[hc]at h;cases h
 |some x=>
  rw[hc]at h;dsimp only at h;by_cases a:ff m x=true
  ·rw[if_pos a]at h;injection h with h;subst h;exact⟨rfl,a⟩
  ·rw[if_neg a]at h;cases h
theorem FP{m:ar}{l:bR}{r:di}(h:r∈mg m l):∃c∈l,dJ c=some r/\ff m r=true:=by
 have h:=wq.1 (Us h);obtain⟨c,a,b⟩:=List.mem_filterMap.1 h;exact⟨c,a,PL b⟩
theorem uZ(m:ar)(l:bR):∀c∈eU m l,c.length=64:=fun c a=>by
 rcases qH.1 a with h|h
 ·exact uq h
 ·obtain⟨r,b,rfl⟩:=qE.1 h;obtain⟨_,_,_,d⟩:=FP b;exact Kj (PK d)
theorem Bn{w:Pow}(a:w.calm){d:bf}{l:bR}(g:∀c∈l,c.length=64)(f:d.lost=false)(h:l.length<=d.room):d.rewrite w l=(0,w,{d with l:=l,wait:=0,laid:=[],has:=false}):=by
 unfold bf.rewrite;have:l.all (fun b=>decide (b.length=64))=true:=qU.2 fun c e=>decide_eq_true (g c e);rw[if_neg (by simp[this]),if_neg (by simp[f]),if_neg (by omega),if_neg (by simp[a.1]),om a];rfl
theorem PM{w:Pow}(e:w.calm){m:ar}{d:bf}{n:Int}(h:kJ m d n=true):fQ m w d n=(0,w,ik m d n):=by
 have h0:=h;unfold kJ at h;rw[qz,zV,wW]at h;obtain⟨c,a⟩:=h;unfold fQ ik;rw[if_neg (by simp[c]),if_neg (by simp[h0])];by_cases b:fi d d.l.length n=true
 ·rw[if_pos b,if_pos b]
 ·rw[if_neg b,if_neg b];have h3:fi d (eU m d.l).length n=true:=by
   rcases a with a|a
   ·exact absurd a b
   ·exact a
  unfold fi at h3;rw[decide_eq_true_eq]at h3;exact Bn e (uZ m d.l) c (by omega)
theorem LH(m:ar)(ds:aS)(k:Int)(l:aD)(N:Int->Int):dZ m ds (k::l) N=(kr m ds k (N k)&&dZ m ds l N):=vM
theorem CU{m:ar}{ds:aS}{k n:Int}(h:kr m ds k n=true):∃d,bs ds k=some d/\kJ m d n=true:=by
 unfold kr at h;cases hd:bs ds k with
 |none=>rw[hd]at h;cases h
 |some d=>rw[hd]at h;exact⟨d,rfl,h⟩
theorem LI(ds:aS)(k:Int)(d:bf):(fO ds k d).length=ds.length:=by unfold fO;simp
theorem LJ{ds:aS}{k:Int}{c d:bf}(a:ds.length=64)(b:bs ds k=some c)(s:Int):bs (fO ds k d) s=if s=k then some d else bs ds s:=by
 obtain⟨n,rfl,e⟩:=jl b;exact lW ds n d s e a
theorem Ji{m:ar}{ds a:aS}{l:aD}{N:Int->Int}(h:∀k∈l,bs ds k=bs a k):dZ m ds l N=dZ m a l N:=by
 unfold dZ;rw[Bool.eq_iff_iff,qU,qU];refine forall_congr' fun k=>forall_congr' fun b=>?_;unfold kr;rw[h k b]
theorem FQ{w:Pow}(l:w.calm){m:ar}{N:Int->Int}:∀{live:aD} {ds:aS},live.Nodup->ds.length=64->dZ m ds live N=true->
  ∃a,makes m N live w ds=(0,w,a)/\a.length=64/\∀k,bs a k=(bs ds k).map fun d=>if k∈live then ik m d (N k)else d
 |[],ds,_,h64,_=>⟨ds,rfl,h64,fun k=>by cases bs ds k<;>simp⟩
 |k::live,ds,hnd,h64,hf=>by
  rw[LH,qz]at hf;obtain⟨b,g⟩:=yl.1 hnd;obtain⟨d,i,j⟩:=CU hf.1;have e:dS m w ds k (N k)=(0,w,fO ds k (ik m d (N k))):=by
   unfold dS;rw[i];dsimp only;rw[PM l j]
  have c:=LJ (d:=ik m d (N k)) h64 i;have h:dZ m (fO ds k (ik m d (N k))) live N=true:=by
   rw[<-Ji (ds:=ds) fun s f=>?_]
   ·exact hf.2
   ·rw[c,if_neg (fun n:s=k=>b (n▸f))]
  obtain⟨a,p,o,h3⟩:=FQ l g (by rw[LI];exact h64) h;refine⟨a,?_,o,fun s=>?_⟩
  ·show(if(dS m w ds k (N k)).1=0 then makes m N live (dS m w ds k (N k)).2.1 (dS m w ds k (N k)).2.2 else dS m w ds k (N k))=_;rw[e];exact p
  ·rw[h3 s,c];by_cases f:s=k
   ·subst f;rw[if_pos rfl,i];simp[b]
   ·rw[if_neg f];simp[f]
theorem PN{m:ar}{d:bf}{n:Int}(h:kJ m d n=true):(ik m d n).lost=false/\(ik m d n).room=d.room/\((ik m d n).l.length:Int)+max n 0<=d.room:=by
 unfold kJ at h;rw[qz,zV,wW]at h;obtain⟨c,a⟩:=h;unfold ik;by_cases b:fi d d.l.length n=true
 ·rw[if_pos b];unfold fi at b;rw[decide_eq_true_eq]at b;exact⟨c,rfl,by omega⟩
 ·rw[if_neg b];have h3:fi d (eU m d.l).length n=true:=by
   rcases a with a|a
   ·exact absurd a b
   ·exact a
  unfold fi at h3;rw[decide_eq_true_eq]at h3;exact⟨c,rfl,by dsimp only;omega⟩
theorem Nl(b:ByteArray):∀n i r,b.size-i=n->ByteArray.toList.loop b i r=r.reverse++b.data.toList.drop i:=by
 have c:b.data.toList.length=b.size:=rfl;intro n
 induction n with
 |zero=>
  intro i r h;rw[ByteArray.toList.loop,if_neg (by omega),List.drop_eq_nil_of_le (by rw[c];omega),qM]
 |succ n ih=>
  intro i r h;have a:i<b.size:=by omega
  rw[ByteArray.toList.loop,if_pos a,ih (i+1) _ (by omega)];have d:b.data.toList.drop i=b.get! i::b.data.toList.drop (i+1):=by
   rw[qS (by rw[c];exact a)];congr 1;show _=b.data[i]!;rw[getElem!_pos b.data i a,Array.getElem_toList]
  rw[d,List.reverse_cons,qm];rfl
theorem toList_eq(x:ByteArray):x.toList=x.data.toList:=by
 unfold ByteArray.toList;rw[Nl x _ 0 [] rfl];rfl
theorem FR{a b:ByteArray}(h:a.toList=b.toList):a=b:=by
 rw[toList_eq,toList_eq]at h;cases a;cases b;congr;exact Array.toList_inj.1 h
theorem Nm(a:ByteArray):dz a a=false:=QR _
theorem Sg{a b:ByteArray}(h:hJ a b=true)(c:a≠b):dz a b=true:=by
 rcases(Ez a b).1 h with h|h
 ·exact h
 ·exact absurd (FR h) c
theorem Sh{a b:ByteArray}(h:dz a b=true):a≠b:=fun e=>by subst e;rw[Nm]at h;cases h
theorem XR:Ord oI:=⟨fun a b c e d=>Af _ _ _ e d,fun a b=>Ag _ _⟩
theorem DU{m:ar}{x e:cE}:e∈(dK m x).aH↔e∈m.aH∨e=x:=by
 show e∈(m.aH++[x]).mergeSort oI↔_;rw[wq];simp
end Wl
namespace Go.Qw
open Go Go.Vc Go.Proofs Wl
theorem Si{name:ByteArray}{l:List Wl.cE}(h:l.any (mJ name)=false):∀e∈l,e.name≠name:=fun e a b=>by
 have:=wM.1 h e a;unfold mJ at this;rw[b]at this;simp at this
theorem Sj{m:ar}{x:Wl.cE}(y:bB m=true)(f:gC x.name=true)(i:∀e∈m.aH,e.name≠x.name)(k:x.object=m.next)(J:m.aH.length<=11)(I:m.next<=16777215)(N:m.seq<=2147483646)
  (l:0<=x.length/\x.length<=m.p.1*m.p.2.2*8) (z:∀t∈x.tries,0<=t/\t<=15) (H:(x.tries.length:Int)=countP m.p x.length):bB (dK m x)=true:=by
 obtain⟨B,v,h3,M,s,u,G⟩:=(dQ m).1 y;obtain⟨L,K,a3,a4⟩:=(gQ m).1 B;have c:(dK m x).aH.Perm (m.aH++[x]):=wN _ _;have g:∀e∈m.aH,e.object<m.next:=fun e j=>((kg m e).1 (s e j)).2.1.2;refine(dQ _).2 ⟨(gQ _).2 ⟨⟨?_,?_⟩,⟨?_,?_⟩,a3,a4⟩,v,h3,?_,fun e j=>?_,?_,?_⟩
 ·show 1<=m.seq+1;omega
 ·show m.seq+1<=_;omega
 ·show 0<=m.next+1;omega
 ·show m.next+1<=_;omega
 ·rw[c.length_eq];simp;omega
 ·rcases DU.1 j with j|rfl
  ·obtain⟨w,A,D,F,E⟩:=(kg m e).1 (s e j);exact(kg _ e).2 ⟨w,⟨A.1,by show _<m.next+1;omega⟩,D,F,E⟩
  ·exact(kg _ _).2 ⟨f,⟨by omega,by show _<m.next+1;omega⟩,l,z,H⟩
 ·have d:(m.aH++[x]).Pairwise (fun a b:Wl.cE=>a.name≠b.name):=wI.2 ⟨u.imp fun h=>Sh h,List.pairwise_singleton _ _,fun a r b q=>by rw[qB.1 q];exact i a r⟩;have n:=(c.pairwise_iff (R:=fun a b:Wl.cE=>a.name≠b.name) fun{a b} h=>Ne.symm h).2 d;have o:(dK m x).aH.Pairwise (fun a b=>oI a b=true):=(Ac XR (m.aH++[x])).1;exact(o.and n).imp fun h=>Sg h.1 h.2
 ·have d:(m.aH++[x]).Pairwise (fun a b:Wl.cE=>a.object≠b.object):=wI.2 ⟨G,List.pairwise_singleton _ _,fun a r b q=>by rw[qB.1 q,k];have:=g a r;omega⟩;exact(c.pairwise_iff (R:=fun a b:Wl.cE=>a.object≠b.object) fun{a b} h=>Ne.symm h).2 d
theorem Nn{p:Pm}{o:Int}{n:Nat}{t:aD}(h:ck p o n=some t):∀x∈t,0<=x/\x<=15:=fun x d=>by
 obtain⟨i,c,rfl⟩:=qN d;obtain⟨k,b,a⟩:=rR h i c;have:=(AX a).1;rw[b];omega
theorem Bo{p:Pm}(a:bV p=true)(b:aL):((aT p b).length:Int)=countP p b.length:=by
 have:=(jL a b.length).1;unfold aT;rw[qC,zt];omega
theorem Ut{m:ar}{d:Bool}{ds:aS}{name:ByteArray}{b:aL}{t:aD}(g:bB m=true)(j:cO m d ds name b.length=0)(f:ck m.p m.next (aT m.p b).length=some t):bB (dK m ⟨name,m.next,b.length,t⟩)=true:=by
 obtain⟨n,i,z3,z4,z5⟩:=mK j;have l:¬m.p.1*m.p.2.2*8<(b.length:Int):=fun h=>z4 (.inl h);have a:m.aH.length<=11:=by have:¬12<=m.aH.length:=fun h=>z4 (.inr h);omega
 have c:m.next<=16777215:=by have:¬16777215<m.next:=fun h=>z5 (.inr (.inl h));omega
 have e:m.seq<=2147483646:=by have:¬2147483647<=m.seq:=fun h=>z5 (.inr (.inr h));omega
 have k:=((gQ m).1 ((dQ m).1 g).1).2.2.1;refine Sj g i (Si z3) rfl a c e ⟨by show 0<=(b.length:Int);omega,by show(b.length:Int)<=_;omega⟩ (Nn f) ?_;show(t.length:Int)=countP m.p b.length;rw[jA f,Bo k]
end Go.Qw
namespace Wl
open Go
def eV(a:bR)(d:bf):bf:=if a.isEmpty then d else{d with l:=d.l++a,wait:=0,laid:=[],has:=false}
def jB(P:List (Int×aL))(s:Int):bR:=(P.filter fun x=>decide (x.1=s)).map ze
theorem LK{P:List (Int×aL)}{s:Int}(h:∀x∈P,x.1≠s):jB P s=[]:=by
 unfold jB;rw[w6.2 fun x a=>by simpa using h x a];rfl
theorem LL(P:List (Int×aL))(s:Int):(jB P s).length=(P.map qx).count s:=by
 unfold jB;rw[qC];exact(Go.Vc.Sf P s).symm
theorem CV{l:aD}{s:Int}(h:0<=s/\s<64):s∈eX l↔s∈l:=by
 unfold eX;rw[zh,decide_eq_true_eq];refine⟨fun h=>h.2,fun h'=>⟨?_,h'⟩⟩;exact qE.2 ⟨s.toNat,qF.2 (by omega),by omega⟩
theorem LM{w:Pow}(n:w.calm){ds:aS}{P:List (Int×aL)}(i:ds.length=64)
  (a:∀x∈P,x.2.length=64/\∃d,bs ds x.1=some d/\d.lost=false/\d.l.length+(jB P x.1).length<=d.room):
  ∃b,layAll P w ds=(0,w,b)/\b.length=64/\∀s,bs b s=(bs ds s).map (eV (jB P s)):=by
 have F:Fit ds (P.map qx) (P.map qx):=⟨i,fun k r=>by
  obtain⟨x,g,rfl⟩:=qE.1 r;obtain⟨_,d,m,j,h3⟩:=a x g;rw[LL]at h3;exact⟨d,m,j,h3⟩⟩
 obtain⟨t,q,a3⟩:=Go.Vc.Uq n P ds F fun x g=>⟨qE.2 ⟨x,g,rfl⟩,(a x g).1⟩
 refine⟨(layAll P w ds).2.2,?_,q.len,fun s=>?_⟩
 ·have j:=Up n P ds;exact y6 t (y6 j rfl)
 ·rw[a3 s];unfold FL;cases hd:bs ds s with
  |none=>rfl
  |some d=>
   obtain⟨f,e⟩:=XQ hd;rw[qJ,qJ,qJ];congr 1;unfold eV;have o:s∈P.map qx↔(jB P s).isEmpty=false:=by
    rw[<-List.count_pos_iff,<-LL];cases hc:jB P s<;>simp
   by_cases c:(jB P s).isEmpty=true
   ·have h0:jB P s=[]:=List.isEmpty_iff.1 c;have m:(P.filter fun x=>decide (x.1=s))=[]:=List.map_eq_nil_iff.1 h0;rw[if_neg (fun h=>by rw[CV ⟨f,e⟩,o]at h;rw[h]at c;cases c),if_pos c,m];simp
   ·have p:(jB P s).isEmpty=false:=by simpa using c
    rw[if_pos ((CV ⟨f,e⟩).2 (o.2 p)),if_neg c];rfl
end Wl
namespace Go.Qw
open Go Go.Vc Go.Proofs Wl
theorem rT{n:ar}{live:aD}(a:live.Nodup)(s:Int):jB (bF n live) s=if s∈live then aP n else[]:=by
 by_cases h:s∈live
 ·rw[if_pos h];exact Bl n s a h
 ·rw[if_neg h];exact LK fun x c b=>h (b▸(jR c).1)
theorem LN(m:ar)(o:Int)(a:aD)(b:bR)(live:aD)(k:Int)(n:Nat):jB (cI m o a b live n) k=(fj m o a b live k n).map dp:=xA m o a b live k n
theorem LO{m:ar}(h:bB m=true):aP m≠[]:=by
 unfold aP cD bo;rw[if_pos h];intro e;have:=congrArg yw e;simp[bM]at this;omega
theorem LP{ds:aS}{l:aD}(h:l.Nodup):(bS ds l).Nodup:=h.filter _
theorem LQ{ds:aS}{l:aD}{k:Int}(h:k∈bS ds l):k∈l/\∃d,bs ds k=some d/\d.lost=false:=by
 obtain⟨b,a⟩:=zh.1 h;unfold isLive at a;cases hd:bs ds k with
 |none=>rw[hd]at a;cases a
 |some d=>rw[hd]at a;exact⟨b,d,rfl,by simpa using a⟩
theorem LR(a:bR)(d:bf):(eV a d).l=d.l++a:=by
 unfold eV;by_cases h:a.isEmpty=true
 ·rw[if_pos h,List.isEmpty_iff.1 h,qM]
 ·rw[if_neg h]
theorem rU(a:bR)(d:bf):(eV a d).lost=d.lost/\(eV a d).room=d.room:=by
 unfold eV;split<;>exact⟨rfl,rfl⟩
theorem Uu{a b:bR}(h:b≠[])(d:bf):eV b (eV a d)=eV (a++b) d:=by
 have e:∀c:bR,c≠[]->∀d,eV c d={d with l:=d.l++c,wait:=0,laid:=[],has:=false}:=fun c g d=>by
  unfold eV;rw[if_neg (by simpa using g)]
 by_cases f:a=[]
 ·subst f;rfl
 ·rw[e a f,e b h,e (a++b) (by simp[h])];simp
theorem Bp(pages:Nat)(l:List (Int×aL))(k:Int):gM pages l k=pages+(jB l k).length:=by unfold gM jB;rw[qC]
theorem Ww{p:Pm}{o:Int}{b:aL}{t:aD}(c:bV p=true)(d:ck p o (aT p b).length=some t){i:Nat}(h:i<(aT p b).length):∃K H w n,bE p (iy o i (t.getD i 0)) ((aT p b).getD i []) K H w n:=by
 have m:=jA d;obtain⟨k,g,a⟩:=rR d i (by omega);have f:FC p o i k=true:=(AX a).2.1;have e:t.getD i 0=(k:Int):=by rw[pG 0];exact g
 rw[e];refine UV c f ?_;have j:=(cb p).1 c;have q:0<=p.1*p.2.2:=vk (by omega) (by omega);have l:(aT p b)[i]=uT (eT p) b i:=by simp[aT]
 rw[pG [] h,l,If];unfold eT;omega
theorem He{m:ar}{b:aL}{t:aD}(g:bB m=true)(f:m.next<=16777215)(h8:(aT m.p b).length<=8)(d:ck m.p m.next (aT m.p b).length=some t){i id:Nat}(e:i<(aT m.p b).length)(hid:id<(m.p.1+m.extra).toNat):
  hF (uW m m.next i (iy m.next i (t.getD i 0)) ((aT m.p b).getD i []) id)=true:=by
 have a:=((gQ m).1 ((dQ m).1 g).1)
 have c:=(cb m.p).1 a.2.2.1;obtain⟨K,H,w,n,B⟩:=Ww a.2.2.1 d e;exact Ur B ⟨a.2.1.1,f⟩ (by omega) (by omega)
theorem Iq{m:ar}{offs:Int}{w:Pow}{ds:aS}{name:ByteArray}{b:aL}(J:w.calm)(G:ds.length=64)(E:bB m=true):
  (cO m (iD w offs) ds name b.length≠0->cZ m offs w ds name b=(cO m (iD w offs) ds name b.length,m,w,ds))/\
  (cO m (iD w offs) ds name b.length=0->(ck m.p m.next (aT m.p b).length=none->cZ m offs w ds name b=(8,m,w,ds))/\∀t,ck m.p m.next (aT m.p b).length=some t->
   let live:=bS ds m.drives;let l:=cI m m.next t (aT m.p b) live (aT m.p b).length;let n:=dK m ⟨name,m.next,b.length,t⟩;let N:=gM (aP n).length l
   bB n=true/\(dZ m ds live N=false->cZ m offs w ds name b=(7,m,w,ds))/\(dZ m ds live N=true->∃g,cZ m offs w ds name b=(0,n,w,g)/\g.length=64/\
    ∀k,bs g k=(bs ds k).map fun d=>if k∈live then eV ((fj m m.next t (aT m.p b) live k (aT m.p b).length).map dp++aP n) (ik m d (N k))else d)):=by
 refine⟨fun h=>by unfold cZ;rw[if_pos h],fun h=>⟨fun z=>by unfold cZ;rw[if_neg (by simpa using h),z],fun t z=>?_⟩⟩;intro live l n N;have B:bB n=true:=Ut E h z;obtain⟨z1,z2,z3,z4,z5⟩:=mK h;have D:=((gQ m).1 ((dQ m).1 E).1)
 have L:¬m.p.1*m.p.2.2*8<(b.length:Int):=fun h=>z4 (.inl h);have h8:=Hd D.2.2.1 L;have O:live≠[]:=fun h=>z5 (.inl h);have r:0<=m.next/\m.next<=16777215:=⟨D.2.1.1,by have:¬16777215<m.next:=fun h=>z5 (.inr (.inl h));omega⟩
 have f:live.Nodup:=LP (EE E);have H:∀k∈live,0<=k/\k<64:=fun k a=>jP E k (LQ a).1;have e:cZ m offs w ds name b=(if dZ m ds live N=false then(7,m,w,ds)else if(makes m N live w ds).1≠0 then((makes m N live w ds).1,m,(makes m N live w ds).2)else
   if(layAll l (makes m N live w ds).2.1 (makes m N live w ds).2.2).1≠0 then((layAll l (makes m N live w ds).2.1 (makes m N live w ds).2.2).1,m,(layAll l (makes m N live w ds).2.1 (makes m N live w ds).2.2).2)else
   ((layAll (bF n live) (layAll l (makes m N live w ds).2.1 (makes m N live w ds).2.2).2.1 (layAll l (makes m N live w ds).2.1 (makes m N live w ds).2.2).2.2).1,if(layAll (bF n live) (layAll l (makes m N live w ds).2.1 (makes m N live w ds).2.2).2.1 (layAll l (makes m N live w ds).2.1 (makes m N live w ds).2.2).2.2).1=0 then n else m,(layAll (bF n live) (layAll l (makes m N live w ds).2.1 (makes m N live w ds).2.2).2.1 (layAll l (makes m N live w ds).2.1 (makes m N live w ds).2.2).2.2).2)):=by
  unfold cZ;rw[if_neg (by simpa using h),z]
 refine⟨B,fun o=>by rw[e,if_pos o],fun o=>?_⟩;rw[e,if_neg (by rw[o];decide)];obtain⟨U,m1,X,T⟩:=FQ J (N:=N) f G o;rw[m1];dsimp only;rw[if_neg (by simp)];have v:∀y∈l,y.1∈live:=fun y s=>(LD r O H h8 s).1;have u:∀y∈l,y.2.length=64:=fun y s=>by
  obtain⟨i,hi,s⟩:=zL.1 s;obtain⟨id,hid,rfl⟩:=qE.1 s;exact Kj (He E r.2 h8 z (qF.1 hi) (qF.1 hid))
 have c:∀k∈live,∃d,bs U k=some d/\d.lost=false/\(d.l.length:Int)+max (N k) 0<=d.room:=fun k a=>by
  obtain⟨_,d,hd,Z⟩:=LQ a;have F:=qU.1 o k a;obtain⟨d',Q,R⟩:=CU F;obtain⟨Y,r2,r3⟩:=PN R;refine⟨ik m d' (N k),?_,Y,by rw[r2];exact r3⟩;rw[T k,Q,qJ,if_pos a]
 obtain⟨V,l1,l2,S⟩:=LM J (ds:=U) (P:=l) X fun x j=>by
  obtain⟨d,I,M,W⟩:=c x.1 (v x j);refine⟨u x j,d,I,M,?_⟩;have:N x.1=_:=Bp _ _ _;omega
 rw[l1];dsimp only;rw[if_neg (by simp)];obtain⟨d3,p1,p2,p3⟩:=LM J (ds:=V) (P:=bF n live) l2 fun x j=>by
  obtain⟨q,A⟩:=jR j;obtain⟨d,I,M,W⟩:=c x.1 q;refine⟨A,eV (jB l x.1) d,by rw[S,I,qJ],by rw[(rU _ _).1];exact M,?_⟩;have:N x.1=_:=Bp _ _ _;rw[(rU _ _).2,LR,rT f,if_pos q,qw];omega
 rw[p1];refine⟨d3,rfl,p2,fun k=>?_⟩;rw[p3 k,S k,T k,Option.map_map,Option.map_map];congr 1;funext d;show eV (jB (bF n live) k) (eV (jB l k) (if k∈live then ik m d (N k)else d))=_;rw[rT f];by_cases a:k∈live
 ·rw[if_pos a,if_pos a,if_pos a];have K:jB l k=(fj m m.next t (aT m.p b) live k (aT m.p b).length).map dp:=LN _ _ _ _ _ _ _;rw[K,Uu (LO B)]
 ·rw[if_neg a,if_neg a,if_neg a,LK (P:=l) fun x j (he:x.1=k)=>a (he▸v x j)];rfl
theorem FS(l:aD)(b:l.length<=64)(s:Int):bs (fL l (ba l l.length).length) s=if s∈ba l l.length then some (bf.new (l.getD s.toNat 0).toNat)else none:=by
 by_cases a:0<=s/\s<64
 ·unfold bs fL;rw[if_pos a,qP,zb (by omega),qJ,qi (qp _)];have e:((s.toNat:Nat):Int)=s:=by omega
  rw[e];by_cases h:s∈ba l l.length
  ·rw[if_pos h];rfl
  ·rw[if_neg h];rfl
 ·rw[if_neg (fun h=>?_)]
  ·unfold bs;rw[if_neg a]
  ·obtain⟨n,c,rfl,_⟩:=(pW l l.length s).1 h;omega
theorem Sk{p:Pm}{extra:Int}{l:aD}(d:l.length<=64)(f:re p extra l=0):
  ∃D,dY p extra Pow.new l=(0,Pow.new,D)/\D.length=64/\∀s,bs D s=if s∈ba l l.length then some ⟨(l.getD s.toNat 0).toNat,aP (cu p extra l),0,[],false,false⟩else none:=by
 have m:=LF d f;have b:(ba l l.length).Nodup:=(xz l l.length).imp fun h e=>by omega
 have c:=(FN f).2.2.2.2;rw[PH,if_pos f];obtain⟨D,k,j,h3⟩:=LM uY (ds:=fL l (ba l l.length).length) (P:=bF (cu p extra l) (ba l l.length)) (MR _ _) fun x i=>by
  obtain⟨a,g⟩:=jR i;refine⟨g,bf.new (l.getD x.1.toNat 0).toNat,by rw[FS l d,if_pos a],rfl,?_⟩;rw[rT b,if_pos a];have:=wM.1 c x.1 a;simp only[decide_eq_true_eq]at this;show 0+_<=(l.getD x.1.toNat 0).toNat;omega
 refine⟨D,k,j,fun s=>?_⟩;rw[h3,FS l d,rT b];by_cases h:s∈ba l l.length
 ·rw[if_pos h,if_pos h,if_pos h,qJ];unfold eV;rw[if_neg (by simpa using LO m)];rfl
 ·rw[if_neg h,if_neg h,if_neg h];rfl
theorem PO(m:ar):(aP m).length=((bo m).length+47)/48:=by unfold aP cD;rw[qC,zt]
theorem XS(x:Wl.cE):(dW x).length=6+x.name.size+x.tries.length:=by
 unfold dW;simp[bM];omega
theorem Sm{m:ar}(h:bB m=true):(bo m).length=14+m.drives.length+(m.aH.flatMap dW).length:=by
 unfold bo;rw[if_pos h];simp only[qw,bM,zi,yE,qC];omega
theorem FT{p:Pm}{n:Int}(h:n<=p.1*p.2.2*8):countP p n<=8:=by
 unfold countP;split
 ·rename_i a;rw[qz,decide_eq_true_eq]at a;have:=(cb p).1 a.1;have b:0<p.1*p.2.2:=Int.mul_pos (by omega) (by omega);have:(n-1)/(p.1*p.2.2)<8:=Int.ediv_lt_of_lt_mul b (by rw[Int.mul_comm 8];omega);omega
 ·decide
theorem Wx{m:ar}{x:Wl.cE}(h:fe m x=true):(dW x).length<=26:=by
 obtain⟨a,b,h3,c,d⟩:=(kg m x).1 h;have:=FT h3.2;have e:x.name.size<=12:=by unfold gC at a;simp at a;omega
 rw[XS];omega
theorem Hg{α β:Type}{f:α->List β}{c:Nat}:∀{l:List α},(∀x∈l,(f x).length<=c)->(l.flatMap f).length<=l.length*c
 |[],_=>by simp
 |x::l,h=>by
  have d:=h x qT;have b:=Hg (l:=l) fun y a=>h y (q0 _ a);rw[zf,qw,zi,zU];omega
theorem Uv{m:ar}(h:bB m=true):(aP m).length*48<=61+m.drives.length+m.aH.length*26:=by
 have:=Hg (f:=dW) (l:=m.aH) fun x a=>Wx (((dQ m).1 h).2.2.2.2.1 x a);have b:=Sm h;rw[PO];omega
theorem tV{m:ar}(h:bB m=true):(aP m).length<=9:=by
 have b:=Uv h;have a:=nR h;have h3:=((dQ m).1 h).2.2.2.1;omega
theorem No{α β:Type}(f:α->List β)(c:Nat)(n:Nat)(l:List α)(h:∀x∈l,(f x).length<=c)(a:l.length<=n):(l.flatMap f).length<=n*c:=zH (Hg h) (zm c a)
theorem CW(m:ar)(o:Int)(a:aD)(b:bR)(live:aD)(k:Int)(n:Nat):(fj m o a b live k n).length<=n*(m.p.1+m.extra).toNat:=by
 unfold fj;refine No _ _ n _ (fun i _=>?_) (by simp);have:=congrArg yw (Bm m o a b live k i);rw[qC,qC]at this;rw[<-this];refine zH (zJ _ _) ?_;rw[uX];exact qp _
theorem nr{m:ar}(h:bB m=true):cn m:=by
 obtain⟨n,f,h3,o,d,p,k⟩:=(dQ m).1 h;have g:=nR h;refine⟨by omega,by omega,fun e b=>?_⟩;obtain⟨a,l,c,j,i⟩:=(kg m e).1 (d e b);have:=FT c.2;have q:e.name.size<=12:=by unfold gC at a;simp at a;omega
 omega
section
variable {B:ap} {h0 h:Heap} {As:List HP} {a pw:Addr} {offs:Int} {da:List aM} {w:Pow} {ds:aS}
end
def Bq(a b c:Int):Int×Int×Int:=(1+a%6,1+b%3,1+c%9)
theorem PP(a b c:Int)(h:Heap):ac xa 20 #[vQ vW a,vQ vW b,vQ vW c] h fun v h'=>v=kP (Bq a b c)/\Sp h h' []:=by
 refine pK a b c ?_;unfold kZ;refine(Sp.refl h).alloc af rfl fun x f g=>?_;refine(dT a 6 f (by decide) (by decide)).mono ?_;rintro v e ⟨rfl,rfl⟩;refine⟨_,rfl,(dT b 3 e (by decide) (by decide)).mono ?_⟩;rintro v h3 ⟨rfl,rfl⟩;refine⟨_,rfl,(dT c 9 h3 (by decide) (by decide)).mono ?_⟩;rintro v i ⟨rfl,rfl⟩;refine⟨_,rfl,?_⟩;dsimp only;rw[an _,an _,an _];refine g.storeAll af 0 rfl rfl [vQ vW (1+a%6),vQ vW (1+b%3),vQ vW (1+c%9)] rfl rfl rfl rfl fun j d=>?_;exact⟨Bq a b c,(d.box 0 rfl).aF _ rfl,rfl,.zip d.ah⟩
theorem PQ{m:ar}{ds:aS}{name:ByteArray}{n:Nat}(c:gC name=true)(a:∀e∈m.aH,e.name≠name)(h3:(n:Int)<=m.p.1*m.p.2.2*8)(i:m.aH.length<=11)(f:bS ds m.drives≠[])(j:m.next<=16777215)(g:m.seq<=2147483646):cO m false ds name n=0:=by
 have d:m.aH.any (mJ name)=false:=wM.2 fun e b h=>a e b (FR (by unfold mJ at h;simpa using h));unfold cO;rw[if_neg (by decide),if_neg (by simp[c]),if_neg (by simp[d]),if_neg (by omega),if_neg (by rintro(h|h|h);exact f h;omega;omega)]
theorem PR{m:ar}{ds:aS}{live:aD}{N:Int->Int}(h:∀k∈live,∃d,bs ds k=some d/\d.lost=false/\0<=N k/\(d.l.length:Int)+N k<=d.room):dZ m ds live N=true:=(roomy (w:=Pow.new) h).1
theorem Np{m:ar}{d:bf}{n:Int}(h:(d.l.length:Int)+max n 0<=d.room):ik m d n=d:=by
 unfold ik;rw[if_pos (by unfold fi;exact decide_eq_true (by omega))]
end Go.Qw
