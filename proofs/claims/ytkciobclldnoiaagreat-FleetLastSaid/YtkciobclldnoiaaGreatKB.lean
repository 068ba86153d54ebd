/- Part of the proofs that the laws of this seat answer true whatever the input reads, and leave it as it was; no condition. -/
import Derived.Test.YtkciobclldnoiaaGreatKA
import Derived.Test.YtkciobclldnoiaaGreatPlA
import Derived.Test.YtkciobclldnoiaaGreatPlD
import Derived.Test.YtkciobclldnoiaaGreatPlG
import Derived.Test.YtkciobclldnoiaaGreatTabS
import Derived.Test.YtkciobclldnoiaaGreatShelfA
import Derived.Test.YtkciobclldnoiaaGreatShelfB
import Derived.Test.YtkciobclldnoiaaGreatPlH
import Derived.Test.YtkciobclldnoiaaGreatPlI
set_option linter.unusedVariables false
set_option linter.unusedSimpArgs false
namespace Go.Proofs.YtkciobclldnoiaaGreat
open Go Go.Vc Go.Proofs Wl
set_option maxRecDepth 100000
theorem MP {α:Type} {h:Heap} {e:TypeId} {s:Sl} {k:Nat} {f:α→List Value} {l:List α} (ho:Own h e s k f l) (hl:l≠[]):s.ptr.isNone=false:=by
 rcases ho.head with⟨_,_,h3⟩|⟨b,rest,h1,_⟩
 ·exact absurd h3 hl
 ·rw[h1];rfl
theorem MQ (p:Pm) (seed id:Int) (h:Heap):ab Tryz.prog KV #[kI p,.int .u32 seed,.int .i64 id] h fun v h'=>∃r:Sl,v=.slice r.ptr r.len r.cap∧
  Sp h h' [an aE r 1 aG (if bU p&&cv id then B0 (dc p).toNat seed id else[])]∧r.ptr.isNone=!(bU p&&cv id):=by
 refine JB p seed id ?_
 unfold FN
 refine(Sp.refl h).boxed fun a h1 H1=>?_
 refine aU ?_
 refine⟨p,(H1.box 0 rfl).aL _ rfl,(dN p h1).mono ?_⟩
 rintro v h2 ⟨rfl,R2⟩
 have H2:=H1.comp R2
 have no:(bU p&&cv id)=false→Sp h h2 [an aE ⟨none,0,0⟩ 1 aG (if bU p&&cv id then B0 (dc p).toNat seed id else[])]∧Option.isNone (none:Option Addr)=!(bU p&&cv id):=fun hf=>by
  rw[hf];exact⟨(H2.nil aE 1 aG).take 1 (fun i A hi=>by cases i with|zero=>exact hi|succ i=>simp at hi),rfl⟩
 refine⟨_,rfl,aX (fun e=>⟨⟨none,0,0⟩,rfl,no (by rw[e];rfl)⟩) fun hp=>?_⟩
 refine al (fun e=>⟨⟨none,0,0⟩,rfl,no (by simp[cv];omega)⟩) fun e1=>?_
 refine al (fun e=>⟨⟨none,0,0⟩,rfl,no (by simp[cv];omega)⟩) fun e2=>?_
 have hid:cv id=true:=by simp[cv];omega
 refine⟨p,(H2.box 0 rfl).aL _ rfl,(kK p h2).mono ?_⟩
 rintro v h3 ⟨rfl,R3⟩
 have H3:=H2.comp R3
 have hpp:=(cg p).1 hp
 have hc:dc p=p.1+p.2.1:=by rw[dc,if_pos hp]
 obtain⟨n,hn⟩:∃n:Nat,dc p=n:=⟨(dc p).toNat,by omega⟩
 refine⟨_,rfl,?_⟩
 dsimp only
 rw[hn]
 refine H3.make ag aG iq (by decide) 0 rfl rfl n n rfl rfl (Nat.le_refl _) (by omega) fun v h4 hl hcp H4=>?_
 refine⟨p,(H4.box 0 rfl).aL _ rfl,(Dq p seed id h4).mono ?_⟩
 rintro w h5 ⟨c,rfl,R5⟩
 rw[hp,hid,hn,Int.toNat_natCast]at R5
 rw[hp,hid,Int.toNat_natCast]
 have H5:=H4.comp R5
 have hcs:=H5.seq 2 rfl (fun _=>rfl)
 have hcl:=hcs.len
 obtain⟨cs,hcs'⟩:∃cs,cs=iT n seed id:=⟨_,rfl⟩
 have hin:∀x∈cs,0≤x∧x<(n:Int):=fun x hx=>vx (by omega) (by omega) (by rw[←hcs'];exact hx)
 have hcl2:cs.length≤n:=by rw[hcs'];exact C0 (by omega) (by omega) _ _
 simp only[Bool.and_self,if_true,←hcs']at H5 hcs hcl R5
 refine⟨c,rfl,?_⟩
 refine aB (fun i:Nat=>(i:Int)) (fun i h'=>i≤cs.length∧Sp h h' [aj a ba [.int .i64 p.1,.int .i64 p.2.1,.int .i64 p.2.2],an aE v 1 aG (qu n (cs.take i)),an aA c 1 av cs]) (fun i=>cs.length-i) 0 rfl ⟨by omega,H5⟩ ?_
 rintro i h6 ⟨hi,H6⟩
 refine al (fun e=>?_) (fun e=>?_)
 ·have hi':i<cs.length:=by omega
  have hx:=hin _ (List.getElem_mem hi')
  refine(H6.seq 2 rfl (fun _=>rfl)).cr i rfl hi' _ rfl ?_
  refine H6.set ag 1 rfl (fun _=>rfl) rfl cs[i].toNat (by omega) (by rw[yS];omega) 1 rfl rfl rfl fun h7 H7=>?_
  refine⟨i+1,by rw[wrap_small _ (by omega) (by omega)];rfl,⟨by omega,?_⟩,by omega⟩
  have e2:qu n (cs.take (i+1))=(qu n (cs.take i)).set cs[i].toNat 1:=by rw[aM _ _ hi',qu,List.foldl_append];rfl
  rw[e2];exact H7
 ·rw[List.take_of_length_le (by omega)]at H6
  have Hf:Sp h h6 [an aE v 1 aG (qu n cs)]:=(H6.del 2).take 1 (fun i A hi=>by cases i with|zero=>exact hi|succ i=>simp at hi)
  refine⟨v,rfl,?_,MP (Hf.own 0 rfl) (fun hh=>?_)⟩
  ·rw[hcs']at Hf;exact Hf
  ·have:=yS n cs;rw[hh]at this;simp at this;omega
theorem Ei (p:Pm) (h:Heap):ab Tryz.prog Hr #[kI p] h fun v h'=>∃r:Sl,v=.slice r.ptr r.len r.cap∧Sp h h' [fY aW r 1 aG (if bU p then cX p.1.toNat p.2.1.toNat else[])]:=by
 refine FM p ?_
 unfold AK
 refine(Sp.refl h).boxed fun a h1 H1=>?_
 refine⟨p,(H1.box 0 rfl).aL _ rfl,(dN p h1).mono ?_⟩
 rintro v h2 ⟨rfl,R2⟩
 have H2:=H1.comp R2
 refine⟨_,rfl,aX (fun e=>⟨⟨none,0,0⟩,rfl,?_⟩) fun hp=>?_⟩
 ·rw[e];exact(H2.I6 aW 1 aG).take 1 (fun i A hi=>by cases i with|zero=>exact hi|succ i=>simp at hi)
 have hpp:=(cg p).1 hp
 have hc:dc p=p.1+p.2.1:=by rw[dc,if_pos hp]
 obtain⟨K,hK⟩:∃K:Nat,p.1=K:=⟨p.1.toNat,by omega⟩
 obtain⟨Hh,hH⟩:∃H:Nat,p.2.1=H:=⟨p.2.1.toNat,by omega⟩
 refine(tV h2).mono ?_
 rintro v h3 ⟨f,rfl,R3⟩
 have H3:=(H2.comp R3).I6 aW 1 aG
 refine⟨some f,rfl,_,(H3.box 0 rfl).cell rfl,?_⟩
 refine aB (fun t:Sl×Nat=>(t.1,(t.2:Int))) (fun t h'=>t.2≤Hh∧Sp h h' [aj a ba [.int .i64 p.1,.int .i64 p.2.1,.int .i64 p.2.2],aj f oH fk,fY aW t.1 1 aG ((cX K Hh).take t.2)]) (fun t=>Hh-t.2) (⟨none,0,0⟩,0) rfl ⟨by simp,H3⟩ ?_
 rintro⟨s,k⟩ h4 ⟨hk,H4⟩
 dsimp only at*
 refine al (fun e=>?_) (fun e=>?_)
 ·have hk':k<Hh:=by omega
  refine aU ⟨p,(H4.box 0 rfl).aL _ rfl,p.1,(H4.box 0 rfl).cell0 rfl,?_⟩
  refine(kK p h4).mono ?_
  rintro v h5 ⟨rfl,R5⟩
  have H5:=H4.comp R5
  refine⟨_,rfl,⟨(H5.box 0 rfl).cell0 rfl,trivial⟩,?_⟩
  dsimp only
  rw[wrap_small (p.1+k) (by omega) (by omega),hc]
  refine(Ll _ _ h5).mono ?_
  rintro v h6 ⟨u,rfl,R6⟩
  rw[if_pos (by omega)]at R6
  have e1:(p.1+p.2.1).toNat=K+Hh:=by omega
  have e2:(p.1+(k:Int)).toNat=K+k:=by omega
  rw[e1,e2]at R6
  have H6:=H5.comp R6
  refine⟨u,rfl,⟨(H6.box 0 rfl).cell0 rfl,trivial⟩,p.1,(H6.box 0 rfl).cell0 rfl,?_⟩
  let rowAt:Nat→List UInt8:=fun j=>(List.range j).map (fun i=>Gf.pw ((k+1)*(i+1)%255))++((List.replicate (K+Hh) (0:UInt8)).set (K+k) 1).drop j
  refine aB (fun j:Nat=>(j:Int)) (fun j h'=>j≤K∧Sp h h' [aj a ba [.int .i64 p.1,.int .i64 p.2.1,.int .i64 p.2.2],aj f oH fk,fY aW s 1 aG ((cX K Hh).take k),an aE u 1 aG (rowAt j)]) (fun j=>K-j) 0 rfl ⟨by omega,H6⟩ ?_
  rintro j h7 ⟨hj,H7⟩
  refine al (fun e3=>?_) (fun e3=>?_)
  ·have hj':j<K:=by omega
   have hm:(k+1)*(j+1)≤4*16:=Nat.mul_le_mul (by omega) (by omega)
   have e4:IntKind.wrap .i64 (IntKind.wrap .i64 ((k:Int)+1)*IntKind.wrap .i64 ((j:Int)+1))=(((k+1)*(j+1):Nat):Int):=by
    rw[wrap_small ((k:Int)+1) (by omega) (by omega),wrap_small ((j:Int)+1) (by omega) (by omega),show((k:Int)+1)*((j:Int)+1)=(((k+1)*(j+1):Nat):Int)by rw[Int.natCast_mul];rfl]
    exact oB _ (by omega)
   rw[e4]
   refine(MO f _ h7 (H7.box 1 rfl)).mono ?_
   rintro v h8 ⟨rfl,rfl⟩
   refine⟨_,rfl,?_⟩
   have hlen:(rowAt j).length=K+Hh:=by simp[rowAt];omega
   refine H7.set ag 3 rfl (fun _=>rfl) rfl j rfl (by omega) _ rfl rfl rfl fun h9 H9=>?_
   refine⟨j+1,by rw[wrap_small _ (by omega) (by omega)];rfl,⟨by omega,?_⟩,by omega⟩
   have e5:(rowAt j).set j (Gf.pw ((((k+1)*(j+1):Nat):Int)%255).toNat)=rowAt (j+1):=by
    have e6:((((k+1)*(j+1):Nat):Int)%255).toNat=(k+1)*(j+1)%255:=by omega
    rw[e6]
    simp only[rowAt]
    rw[List.set_append_right _ _ (by simp),List.length_map,List.length_range,Nat.sub_self,List.drop_eq_getElem_cons (by simp;omega),List.set_cons_zero,List.range_succ,List.map_append,List.append_assoc]
    rfl
   rw[←e5];exact H9
  ·have hj':j=K:=by omega
   subst hj'
   have e5:rowAt j=jM j Hh k:=by
    simp only[rowAt,jM]
    congr 1
    apply List.ext_getElem?
    intro i
    rw[List.getElem?_drop,List.getElem?_set,List.getElem?_map]
    by_cases hi:i<Hh
    ·rw[List.getElem?_range hi,Option.map_some,List.getElem?_replicate]
     by_cases hik:i=k
     ·subst hik;simp[hi]
     ·rw[if_neg (by omega),if_pos (by omega),if_neg hik]
    ·rw[List.getElem?_eq_none (l:=List.range Hh) (by simp;omega),if_neg (by omega),List.getElem?_replicate,if_neg (by omega)];rfl
   rw[e5]at H7
   have H8:=H7.freeze 3 rfl (fun _=>rfl)
   have hll:((cX j Hh).take k).length=k:=by simp[cX];omega
   refine H8.BW ag 2 3 (by decide) rfl rfl iZ (by omega) fun s' h9 H9=>?_
   refine⟨(s',k+1),by dsimp only;rw[wrap_small _ (by omega) (by omega)];rfl,⟨by dsimp only;omega,?_⟩,by dsimp only;omega⟩
   have e7:(cX j Hh).take (k+1)=(cX j Hh).take k++[jM j Hh k]:=by
    rw[aM _ _ (by simp[cX];omega)];simp[cX]
   dsimp only
   rw[e7]
   exact H9.del 3
 ·refine⟨s,rfl,?_⟩
  rw[if_pos hp,hK,hH,Int.toNat_natCast,Int.toNat_natCast]
  rw[List.take_of_length_le (by simp[cX];omega)]at H4
  exact H4.take 2 (fun i A hi=>by cases i with|zero=>exact hi|succ i=>simp at hi)
end Go.Proofs.YtkciobclldnoiaaGreat
namespace Go.Proofs.YtkciobclldnoiaaGreat
open Go Go.Vc Go.Proofs Wl
set_option maxRecDepth 100000
theorem Be (p:Pm) (h:Heap):ab Tryz.prog AF #[kI p] h fun v h'=>∃r:Sl,v=.slice r.ptr r.len r.cap∧Sp h h' [an aA r 1 av (upto (max 0 (min p.1 16)).toNat)]:=by
 refine ze p ?_
 unfold sh
 refine(Sp.refl h).boxed fun a h1 H1=>?_
 refine⟨p.1,(H1.box 0 rfl).cell0 rfl,?_⟩
 have em:(if(if(16:Int)<p.1 then(16:Int)else p.1)>(0:Int)then(if(16:Int)<p.1 then(16:Int)else p.1)else(0:Int))=((max 0 (min p.1 16)).toNat:Int):=by
  split<;>split<;>omega
 rw[em]
 generalize hN:(max 0 (min p.1 16)).toNat=N
 have hN16:N≤16:=by omega
 refine aB (fun t:Sl×Nat=>(t.1,(t.2:Int))) (fun t h'=>t.2≤N∧Sp h h' [emp,an aA t.1 1 av (upto t.2)]) (fun t=>N-t.2) (⟨none,0,0⟩,0) rfl ⟨by simp,(H1.fZ 0 rfl fun _ _=>trivial).nil aA 1 av⟩ ?_
 rintro⟨s,k⟩ h2 ⟨hk,H2⟩
 dsimp only at*
 refine al (fun e=>?_) (fun e=>?_)
 ·refine H2.push ag 1 rfl iY rfl (by decide) (fun _=>rfl) jr (k:Int) rfl (by decide) (by rw[hY];omega) fun s' h3 H3=>?_
  refine⟨(s',k+1),by dsimp only;rw[wrap_small _ (by omega) (by omega)];rfl,⟨by dsimp only;omega,?_⟩,by dsimp only;omega⟩
  have e2:upto (k+1)=upto k++[(k:Int)]:=by simp[upto,List.range_succ]
  dsimp only;rw[e2];exact H3
 ·have:k=N:=by omega
  subst this
  exact⟨s,rfl,H2.take 1 (fun i A hi=>by cases i with|zero=>exact hi|succ i=>simp at hi)⟩
theorem yx (p:Pm) (seed:Int) (ids:Sl) (l:List Int) (h:Heap) (hl:Rd h ids 1 av l) (hsz:l.length≤2^30):ab Tryz.prog zd #[kI p,.int .u32 seed,.slice ids.ptr ids.len ids.cap] h fun v h'=>∃r:Sl,v=.slice r.ptr r.len r.cap∧Sp h h' [fY aW r 1 aG (gy p seed l)]:=by
 refine xI p seed ids ?_
 unfold qE
 refine(Sp.refl h).boxed fun a h1 H1=>?_
 refine⟨p,(H1.box 0 rfl).aL _ rfl,(Ei p h1).mono ?_⟩
 rintro v h2 ⟨r,rfl,R2⟩
 have H2:=H1.comp R2
 refine⟨r,rfl,?_⟩
 have hlen:=hl.len
 let at_:Nat→List (List UInt8):=fun k=>gy p seed (l.take k)
 have h0:(if bU p then cX p.1.toNat p.2.1.toNat else[])=at_ 0:=by simp[at_,gy]
 rw[h0]at H2
 refine aB (fun t:Sl×Nat=>(t.1,(t.2:Int))) (fun t h'=>t.2≤l.length∧Sp h h' [aj a ba [.int .i64 p.1,.int .i64 p.2.1,.int .i64 p.2.2],fY aW t.1 1 aG (at_ t.2)]) (fun t=>l.length-t.2) (r,0) rfl ⟨by simp,H2⟩ ?_
 rintro⟨s,k⟩ h3 ⟨hk,H3⟩
 dsimp only at*
 refine al (fun e=>?_) (fun e=>?_)
 ·have hk':k<l.length:=by omega
  refine(Seq.up hl H3.ah).cr k rfl hk' _ rfl ?_
  refine⟨p,(H3.box 0 rfl).aL _ rfl,(MQ p seed l[k] h3).mono ?_⟩
  rintro v h4 ⟨w,rfl,R4,hnil⟩
  have H4:=(H3.comp R4).freeze 2 rfl (fun _=>rfl)
  refine⟨w,rfl,?_⟩
  have hat:(at_ k).length≤4+k∨at_ k=[]:=by
   by_cases hp:bU p
   ·left
    have:=(cg p).1 hp
    have h1:=List.length_filter_le cv (l.take k)
    have h2:=List.length_take_le k l
    simp only[at_,gy,hp,if_true,List.length_append,List.length_map,cX,List.length_range]
    omega
   ·right;simp[at_,gy,hp]
  have hat':(at_ k).length+1≤2^32:=by
   rcases hat with h|h
   ·omega
   ·rw[h];simp
  dsimp only
  refine aX (fun e2=>?_) (fun e2=>?_)
  ·rw[hnil]at e2
   have hok:(bU p&&cv l[k])=true:=by simpa using e2
   rw[hok,if_pos rfl]at H4
   refine H4.BW ag 1 2 (by decide) rfl rfl iZ hat' fun s' h5 H5=>?_
   refine⟨(s',k+1),by dsimp only;rw[wrap_small _ (by omega) (by omega)];rfl,⟨by dsimp only;omega,?_⟩,by dsimp only;omega⟩
   rw[Bool.and_eq_true]at hok
   have e7:at_ (k+1)=at_ k++[B0 (dc p).toNat seed l[k]]:=by
    simp only[at_,gy,hok.1,if_true]
    rw[ph hk',if_pos hok.2,List.map_append,List.append_assoc];rfl
   dsimp only
   rw[e7];exact H5.del 2
  ·rw[hnil]at e2
   have hok:(bU p&&cv l[k])=false:=by
    cases hh:(bU p&&cv l[k])with
    |false=>rfl
    |true=>rw[hh]at e2;cases e2
   refine⟨(s,k+1),by dsimp only;rw[wrap_small _ (by omega) (by omega)];rfl,⟨by dsimp only;omega,?_⟩,by dsimp only;omega⟩
   have e7:at_ (k+1)=at_ k:=by
    simp only[at_,gy]
    rw[Bool.and_eq_false_iff]at hok
    rcases hok with h|h
    ·simp[h]
    ·have hf:(l.take (k+1)).filter cv=(l.take k).filter cv:=by rw[ph hk',if_neg (by simp[h])]
     rw[hf]
   dsimp only
   rw[e7];exact H4.del 2
 ·refine⟨s,rfl,?_⟩
  have e7:at_ k=gy p seed l:=by simp only[at_];rw[List.take_of_length_le (by omega)]
  rw[e7]at H3
  exact H3.take 1 (fun i A hi=>by cases i with|zero=>exact hi|succ i=>simp at hi)
theorem pW (a:Sl) (m:bz) (n:Nat) (h:Heap) (ha:fJ h a 1 aG m) (hm:bm n m) (hn:n≤64) (hs:m.length≤2^30):ab Tryz.prog Jy #[.slice a.ptr a.len a.cap] h fun v h'=>v=.bool true∧h'=h:=by
 refine Hn a ?_
 unfold Dd
 have hl:=ha.len
 refine aB (fun k:Nat=>(k:Int)) (fun k h'=>h'=h∧k≤m.length) (fun k=>m.length-k) 0 rfl ⟨rfl,by omega⟩ ?_
 rintro k h' ⟨rfl,hk⟩
 refine al (fun e=>?_) (fun e=>⟨rfl,rfl⟩)
 have hk':k<m.length:=by omega
 refine ha.get k rfl hk' fun r hr=>?_
 refine ha.get 0 rfl (by omega) fun r0 hr0=>?_
 have h1:=hr.len;have h2:=hr0.len
 rw[hm _ (List.getElem_mem _)]at h1 h2
 refine bP (fun e=>by omega) fun _=>al (fun e=>by omega) fun _=>?_
 exact⟨k+1,by rw[wrap_small _ (by omega) (by omega)];rfl,⟨rfl,by omega⟩,by omega⟩
theorem wM (a:Sl) (m:bz) (n:Nat) (h:Heap) (ha:fJ h a 1 aG m) (hm:bm n m) (hn:n≤64) (hs:m.length≤2^30):ab Tryz.prog Jz #[.slice a.ptr a.len a.cap] h fun v h'=>∃(r:Sl) (rs:List Sl),v=.slice r.ptr r.len r.cap∧rs.length=m.length∧Sp h h' (an aW r 1 cy rs::bG aE 1 aG rs m):=by
 refine Ho a ?_
 unfold De
 have hl:=ha.len
 refine(Sp.refl h).make ag cy iZ (by decide) ⟨none,0,0⟩ rfl rfl 0 m.length rfl (by omega) (by omega) (by omega) fun s h1 hsl hc H1=>?_
 refine aB (fun t:Sl×List Sl=>(t.1,(t.2.length:Int))) (fun t h'=>t.2.length≤m.length∧Sp h h' (an aW t.1 1 cy t.2::bG aE 1 aG t.2 (m.take t.2.length))) (fun t=>m.length-t.2.length) (s,[]) rfl ⟨by simp,by simpa[bG]using H1⟩ ?_
 rintro⟨s,rs⟩ h2 ⟨hk,H2⟩
 dsimp only at*
 refine al (fun e=>?_) (fun e=>?_)
 ·have hk':rs.length<m.length:=by omega
  refine(ha.up H2.ah).get rs.length rfl hk' fun r hr=>?_
  have hrl:m[rs.length].length=n:=hm _ (List.getElem_mem _)
  refine(jv r _ h2 hr (by omega)).mono ?_
  rintro v h3 ⟨w,rfl,R3⟩
  have H3:=H2.comp R3
  refine⟨w,rfl,?_⟩
  refine H3.push ag 0 rfl iZ rfl (by decide) (fun _=>rfl) o6 w rfl (by decide) (by omega) fun s' h4 H4=>?_
  refine⟨(s',rs++[w]),by dsimp only;rw[wrap_small _ (by omega) (by omega)];simp,⟨by simp;omega,?_⟩,by simp;omega⟩
  dsimp only
  rw[show(rs++[w]).length=rs.length+1 by simp,aM _ _ hk',pd (by rw[List.length_take];omega)]
  exact H4
 ·have e2:m.take rs.length=m:=List.take_of_length_le (by omega)
  rw[e2]at H2
  exact⟨s,rs,rfl,by omega,H2⟩
theorem sF (a:Sl) (m:bz) (h:Heap) (ha:fJ h a 1 aG m):ab Tryz.prog FJ #[.slice a.ptr a.len a.cap] h fun v h'=>v=.int .i64 (gz m)∧h'=h:=by
 refine D9 a ?_
 unfold yp
 have hl:=ha.len
 refine cY (fun e=>?_) (fun e=>?_)
 ·have:m=[]:=List.eq_nil_of_length_eq_zero (by omega)
  subst this
  exact⟨rfl,rfl⟩
 ·refine ha.get 0 rfl (by omega) fun r hr=>⟨?_,rfl⟩
  rw[hr.len,gz,dm (by omega)]
theorem Gh {r:Row} {c:Nat} (h:c<r.length):bp r c=r[c]:=by rw[bp,List.getD_eq_getElem?_getD,List.getElem?_eq_getElem h];rfl
theorem HQ (a:Sl) (m:bz) (n top bs:Nat) (h:Heap) (ha:fJ h a 1 aG m) (hm:bm n m) (hc:bs<n) (hs:m.length≤2^30):
  ab Tryz.prog Ec #[.slice a.ptr a.len a.cap,.int .i64 top,.int .i64 bs] h fun v h'=>v=.int .i64 (match fO m top bs with|some i=>(i:Int)|none=>-1)∧h'=h:=by
 refine CC a top bs ?_
 unfold wu
 have hl:=ha.len
 refine aB (fun k:Nat=>(k:Int)) (fun k h'=>h'=h∧top≤k∧k≤max top m.length∧∀j,j<k→(decide (top≤j)&&(bp (aT m j) bs !=0))=false) (fun k=>m.length-k) top rfl ⟨rfl,by omega,by omega,fun j hj=>by rw[decide_eq_false (by omega)];rfl⟩ ?_
 rintro k h' ⟨rfl,hk1,hk2,hj⟩
 refine al (fun e=>?_) (fun e=>?_)
 ·rw[fO,Je (fun j hj'=>hj j (by omega))];exact⟨rfl,rfl⟩
 ·have hk':k<m.length:=by omega
  have hrl:m[k].length=n:=hm _ (List.getElem_mem _)
  refine ha.get k rfl hk' fun r hr=>?_
  refine hr.cr bs rfl (by omega) _ rfl ?_
  have hcell:bp (aT m k) bs=m[k][bs]'(by omega):=by rw[dm hk',Gh (by omega)]
  refine bP (fun e2=>?_) (fun e2=>?_)
  ·have hne:(decide (top≤k)&&(bp (aT m k) bs !=0))=true:=by
    rw[decide_eq_true hk1,hcell];simp;exact fun h0=>e2 (by rw[h0];rfl)
   rw[fO,Jf hk' hj hne];exact⟨rfl,rfl⟩
  ·refine⟨k+1,by rw[wrap_small _ (by omega) (by omega)];rfl,⟨rfl,by omega,by omega,fun j hj'=>?_⟩,by omega⟩
   rcases Nat.lt_succ_iff_lt_or_eq.1 hj' with h1|rfl
   ·exact hj j h1
   ·rw[hcell,wL.1 e2];simp
theorem JL (f:Addr) (c:UInt8) (a:Sl) (l:Row) (h:Heap) (hf:iJ h f) (ha:Rd h a 1 aG l) (hs:l.length≤2^30):ab Tryz.prog FQ #[.pointer (some f),.int .u8 c.toNat,.slice a.ptr a.len a.cap] h fun v h'=>∃r:Sl,v=.slice r.ptr r.len r.cap∧Sp h h' [an aE r 1 aG (scaleB c l)]:=by
 refine Ed (some f) _ a ?_
 unfold yt
 have hl:=ha.len
 refine(Eg f h).mono ?_
 rintro v h1 ⟨rfl,rfl⟩
 refine⟨some f,rfl,?_⟩
 refine(Sp.refl h1).make ag aG iq (by decide) 0 rfl rfl l.length l.length (by omega) (by omega) (Nat.le_refl _) (by omega) fun s h2 hsl hc H2=>?_
 refine aB (fun k:Nat=>(k:Int)) (fun k h'=>k≤l.length∧Sp h1 h' [an aE s 1 aG ((l.take k).map (Gf.mul c)++List.replicate (l.length-k) 0)]) (fun k=>l.length-k) 0 rfl ⟨by omega,by simpa using H2⟩ ?_
 rintro k h3 ⟨hk,H3⟩
 refine al (fun e=>?_) (fun e=>?_)
 ·have hk':k<l.length:=by omega
  refine(Seq.up ha H3.ah).cr k rfl hk' _ rfl ?_
  refine(Gg f c l[k] h3 (hf.ah H3.ah hf.lt)).mono ?_
  rintro v h4 ⟨rfl,rfl⟩
  refine⟨_,rfl,?_⟩
  refine H3.set ag 0 rfl (fun _=>rfl) rfl k rfl (by simp;omega) _ rfl rfl rfl fun h5 H5=>?_
  refine⟨k+1,by rw[wrap_small _ (by omega) (by omega)];rfl,⟨by omega,?_⟩,by omega⟩
  have hlk:((l.take k).map (Gf.mul c)).length=k:=by simp;omega
  have e2:((l.take k).map (Gf.mul c)++List.replicate (l.length-k) 0).set k (Gf.mul c l[k])=(l.take (k+1)).map (Gf.mul c)++List.replicate (l.length-(k+1)) 0:=by
   rw[List.set_append_right _ _ (by omega),hlk,Nat.sub_self,show l.length-k=l.length-(k+1)+1 by omega,List.replicate_succ,List.set_cons_zero,aM _ _ hk',List.map_append,List.append_assoc];rfl
  rw[←e2];exact H5
 ·have:k=l.length:=by omega
  subst this
  refine⟨s,rfl,?_⟩
  rw[List.take_of_length_le (Nat.le_refl _),Nat.sub_self,List.replicate_zero,List.append_nil]at H3
  exact H3
theorem wN {c:UInt8} {a t:Row} (hat:a.length=t.length) {k:Nat} (hk:k<t.length):(List.zipWith (fun x y=>y^^^Gf.mul c x) (a.take k) (t.take k)++t.drop k).set k (t[k]^^^Gf.mul c (a[k]'(by omega)))=List.zipWith (fun x y=>y^^^Gf.mul c x) (a.take (k+1)) (t.take (k+1))++t.drop (k+1):=by
 have hl:(List.zipWith (fun x y=>y^^^Gf.mul c x) (a.take k) (t.take k)).length=k:=by simp;omega
 rw[List.set_append_right _ _ (by omega),hl,Nat.sub_self,List.drop_eq_getElem_cons hk,List.set_cons_zero,aM _ _ hk,aM _ _ (show k<a.length by omega),List.zipWith_append (by simp;omega)]
 simp
theorem MR (f:Addr) (c:UInt8) (a to:Sl) (la lt:Row) (h:Heap) (hf:iJ h f) (hfo:¬to.on f.block) (ha:Seq h (fun b=>¬to.on b) a 1 aG la) (ht:Own h aE to 1 aG lt) (hat:la.length=lt.length) (hs:la.length≤2^30):
  ab Tryz.prog AS #[.pointer (some f),.int .u8 c.toNat,.slice a.ptr a.len a.cap,.slice to.ptr to.len to.cap] h fun v h'=>v=.tuple #[]∧Own h' aE to 1 aG (dA c la lt)∧aH (fun b=>¬to.on b) h h':=by
 refine Hu (some f) _ a to ?_
 unfold Dg
 have hl:=ha.len;have htl:=ht.len
 refine cY (fun e=>?_) (fun _=>?_)
 ·have hc:c=0:=wL.1 e
  subst hc
  have:dA 0 la lt=lt:=by
   apply List.ext_getElem (by rw[bN hat])
   intro i h1 h2
   simp[dA,Gf.zero_mul]
  exact⟨rfl,by rw[this];exact ht,aH.refl _ _⟩
 ·refine aB (fun k:Nat=>(k:Int)) (fun k h'=>k≤la.length∧Own h' aE to 1 aG (List.zipWith (fun x y=>y^^^Gf.mul c x) (la.take k) (lt.take k)++lt.drop k)∧aH (fun b=>¬to.on b) h h') (fun k=>la.length-k) 0 rfl ⟨by omega,by simpa using ht,aH.refl _ _⟩ ?_
  rintro k h1 ⟨hk,ho1,hp1⟩
  refine al (fun e=>?_) (fun e=>?_)
  ·have hk':k<la.length:=by omega
   have hkt:k<lt.length:=by omega
   have hzl:(List.zipWith (fun x y=>y^^^Gf.mul c x) (la.take k) (lt.take k)).length=k:=by simp;omega
   have hll:(List.zipWith (fun x y=>y^^^Gf.mul c x) (la.take k) (lt.take k)++lt.drop k).length=lt.length:=by rw[List.length_append,hzl,List.length_drop];omega
   refine(ha.ah hp1).cr k rfl hk' _ rfl ?_
   have hval:(List.zipWith (fun x y=>y^^^Gf.mul c x) (la.take k) (lt.take k)++lt.drop k)[k]'(by omega)=lt[k]:=by
    rw[List.getElem_append_right (by omega)];simp[hzl]
   refine(ho1.seq (p:=fun _=>True) (fun _=>rfl) fun _ _=>trivial).I7 k rfl (by omega) _ rfl fun ax hax=>?_
   rw[hval]at hax⊢
   refine(Gg f c la[k] h1 (hf.ah hp1 hfo)).mono ?_
   rintro v h2 ⟨rfl,rfl⟩
   refine⟨_,rfl,⟨hax,trivial⟩,?_⟩
   dsimp only
   rw[sD]
   refine ho1.set ag (fun _=>rfl) rfl k rfl (by omega) _ rfl rfl rfl fun h3 ho3 hp3 _=>⟨trivial,?_⟩
   refine⟨k+1,by rw[wrap_small _ (by omega) (by omega)];rfl,⟨by omega,?_,hp1.trans hp3⟩,by omega⟩
   rw[←wN hat hkt];exact ho3
  ·have:k=la.length:=by omega
   subst this
   rw[List.take_of_length_le (Nat.le_refl _),List.take_of_length_le (by omega),List.drop_of_length_le (by omega),List.append_nil]at ho1
   exact⟨rfl,ho1,hp1⟩
end Go.Proofs.YtkciobclldnoiaaGreat
namespace Go.Proofs.YtkciobclldnoiaaGreat
open Go Go.Vc Go.Proofs Wl
set_option maxRecDepth 100000
abbrev lW (a:Sl) (rs:List Sl) (m:bz):List HP:=an aW a 1 cy rs::bG aE 1 aG rs m
theorem sG {a:Sl} {rs:List Sl} {m:bz} (hl:rs.length=m.length) (i:Nat) (hi:i<m.length):(lW a rs m)[i+1]?=some (an aE (rs[i]'(by omega)) 1 aG m[i]):=by
 rw[List.getElem?_cons_succ];exact hJ hl i hi
theorem Oj {h h':Heap} {a:Addr} {v:Value} (hc:cellOf h a=some v) (hp:aH (fun b=>b<h.size) h h'):cellOf h' a=some v:=hp.cell (cu hc) hc
theorem Lp {B:au} {h0:Heap} {f:Addr} (hf0:iJ h0 f) (hfB:B f.block) {a:Sl} {n top bs:Nat} {rs:List Sl} {m:bz} (hl:rs.length=m.length) (hm:bm n m) (hc:bs<n) (hn:n≤64) (ht:top<m.length) (hs:m.length≤2^30)
  {h:Heap} (H:aa B h0 h (lW a rs m)) {K:Heap→Prop} (hk:∀h',aa B h0 h' (lW a rs (dt top bs m m.length))→K h'):
 aO (σ:=Int) (fun s20 K4 h10=>
 Br (decide (s20<((a.len:Nat):Int)))
 (Br (s20 !=(top:Int))
 (∃a21:Addr,(a.ptr=some a21∧0≤s20∧s20<((a.len:Nat):Int))∧
 ∃x22:Sl,cellOf h10 (a21.add (s20.toNat*1))=some (.slice x22.ptr x22.len x22.cap)∧
 ∃a23:Addr,(x22.ptr=some a23∧0≤(bs:Int)∧(bs:Int)<((x22.len:Nat):Int))∧
 ∃x24:Int,cellOf h10 (a23.add ((bs:Int).toNat*1))=some (.int .u8 x24)∧
 ∃a25:Addr,(a.ptr=some a25∧0≤(top:Int)∧(top:Int)<((a.len:Nat):Int))∧
 ∃x26:Sl,cellOf h10 (a25.add ((top:Int).toNat*1))=some (.slice x26.ptr x26.len x26.cap)∧
 ∃a27:Addr,(a.ptr=some a27∧0≤s20∧s20<((a.len:Nat):Int))∧
 ∃x28:Sl,cellOf h10 (a27.add (s20.toNat*1))=some (.slice x28.ptr x28.len x28.cap)∧
 af Tryz.prog AS #[(.pointer (some f)),(.int .u8 x24),(.slice x26.ptr x26.len x26.cap),(.slice x28.ptr x28.len x28.cap)] (.many []) h10 fun _ h11=>
 (ak.ok [(a21.add (s20.toNat*1),(.slice x22.ptr x22.len x22.cap))] h11)∧
 K4 (IntKind.wrap .i64 (s20+(1:Int))) h11)
 (K4 (IntKind.wrap .i64 (s20+(1:Int))) h10))
 (K h10)) (0:Int) h:=by
 have hal:a.len=m.length:=by rw[(H.own 0 rfl).len,hl]
 refine aB (fun k:Nat=>(k:Int)) (fun k h'=>k≤m.length∧aa B h0 h' (lW a rs (dt top bs m k))) (fun k=>m.length-k) 0 rfl ⟨by omega,by rw[Ks];exact H⟩ ?_
 rintro k h1 ⟨hk1,H1⟩
 have hel:=kN top bs m k
 have hle:rs.length=(dt top bs m k).length:=by rw[hel];exact hl
 refine al (fun e=>?_) (fun e=>?_)
 ·have hk':k<m.length:=by omega
  refine bP (fun e2=>?_) (fun e2=>?_)
  ·have hkt:k≠top:=fun hh=>e2 (by rw[hh])
   have hrk:aT (dt top bs m k) k=aT m k:=by rw[mE hk',if_neg (by omega)]
   have hrt:aT (dt top bs m k) top=aT m top:=by rw[mE ht,if_neg (by omega)]
   have e4:(dt top bs m k)[k]'(by omega)=aT m k:=by rw[←hrk,dm]
   have e5:(dt top bs m k)[top]'(by omega)=aT m top:=by rw[←hrt,dm]
   have gk:=sG (a:=a) hle k (by omega)
   have gt:=sG (a:=a) hle top (by omega)
   rw[e4]at gk
   rw[e5]at gt
   have lk:=cN hm hk'
   have lt:=cN hm ht
   have hoff:=H1.off (k+1) 0 (by omega) gk rfl
   have hs1:=hoff.1.seq (fun _=>rfl) hoff.2
   refine hs1.qZ k rfl (by omega) fun a1 ha1 hb1=>?_
   have hrd:=H1.seq (k+1) gk (fun _=>rfl)
   refine hrd.cr bs rfl (by omega) _ rfl ?_
   refine hs1.qZ top rfl (by omega) fun _ _ _=>?_
   refine hs1.qZ k rfl (by omega) fun _ _ _=>?_
   have hrt2:(qY (rs[top]'(by omega)) 1 aG (aT m top)).p h1 (fun b=>¬(rs[k]'(by omega)).on b):=by
    have:=H1.off (k+1) (top+1) (by omega) gk gt
    exact(this.1.seq (fun _=>rfl) this.2).mono fun b hb=>hb.2
   refine(MR f _ _ _ (aT m top) (aT m k) h1 (hf0.ah H1.ah hfB) (H1.base (k+1) gk hfB) hrt2 (H1.own (k+1) gk) (by omega) (by omega)).mono ?_
   rintro v h2 ⟨rfl,ho2,hp2⟩
   have H2:=H1.js (k+1) gk hp2 ho2
   have ha2:=hp2.cell hb1.2 ha1
   refine⟨(),rfl,⟨ha2,trivial⟩,?_⟩
   refine⟨k+1,by rw[wrap_small _ (by omega) (by omega)];rfl,⟨by omega,?_⟩,by omega⟩
   rw[Kt hk' hkt]
   show aa B h0 h2 (an aW a 1 cy rs::bG aE 1 aG rs ((dt top bs m k).set k _))
   rw[←ER hle k (by omega)]
   have hcol:(aT m k)[bs]'(by omega)=bp (aT m k) bs:=(Gh (by omega)).symm
   rw[hcol]at H2
   exact H2
  ·have hkt:k=top:=by omega
   subst hkt
   exact⟨k+1,by rw[wrap_small _ (by omega) (by omega)];rfl,⟨by omega,by rw[Ku];exact H1⟩,by omega⟩
 ·have:k=m.length:=by omega
  subst this
  exact hk _ H1
theorem Gi {rs:List Sl} {m:bz} (hl:rs.length=m.length) (i j:Nat) (hi:i<m.length) (hj:j<m.length):
  ((bG aE 1 aG rs m).set i (an aE (rs[j]'(by omega)) 1 aG m[j])).set j (an aE (rs[i]'(by omega)) 1 aG m[i])=bG aE 1 aG ((rs.set i (rs[j]'(by omega))).set j (rs[i]'(by omega))) (ga m i j):=by
 rw[ky hl,ky (by simpa using hl),ga,dm hi,dm hj]
theorem yy {B:au} {h0:Heap} {f:Addr} (hf0:iJ h0 f) (hfB:B f.block) {a:Sl} {n pq:Nat} {rs:List Sl} {m:bz} (hl:rs.length=m.length) (hm:bm n m) (hc:pq≤n) (hn:n≤64) (hs:m.length≤2^30)
  {h:Heap} (H:aa B h0 h (lW a rs m)):ab Tryz.prog Ea #[.pointer (some f),.slice a.ptr a.len a.cap,.int .i64 pq] h fun v h'=>
   ∃rs':List Sl,v=.int .i64 (bB m pq).1∧rs'.length=m.length∧aa B h0 h' (lW a rs' (bB m pq).2):=by
 have hal:a.len=m.length:=by rw[(H.own 0 rfl).len,hl]
 refine Cy (some f) a pq ?_
 unfold wm
 refine aB (fun t:List Sl×Nat=>(((bB m t.2).1:Int),(t.2:Int))) (fun t h'=>t.2≤pq∧t.1.length=m.length∧aa B h0 h' (lW a t.1 (bB m t.2).2)) (fun t=>pq-t.2) (rs,0) rfl ⟨by simp,hl,H⟩ ?_
 rintro⟨rs1,bs⟩ h1 ⟨hk,hl1,H1⟩
 dsimp only at*
 have hev:=ia hm bs
 have htop:=tc m bs
 obtain⟨st,hst⟩:∃st,st=bB m bs:=⟨_,rfl⟩
 rw[←hst]at hev htop H1⊢
 obtain⟨top,m1⟩:=st
 dsimp only at hev htop H1⊢
 have hlm:rs1.length=m1.length:=by omega
 have hstep:bB m (bs+1)=gb (top,m1) bs:=by rw[bB,←hst]
 refine al (fun e=>?_) (fun e=>?_)
 ·have hcn:bs<n:=by omega
  have hrd2:fJ h1 a 1 aG m1:=H1.Ix hlm (fun _=>rfl)
  refine(HQ a m1 n top bs h1 hrd2 hev.1 hcn (by omega)).mono ?_
  rintro v h2 ⟨rfl,rfl⟩
  refine⟨_,rfl,?_⟩
  dsimp only
  cases hb:fO m1 top bs with
  |none=>
   refine al (fun _=>?_) (fun e2=>absurd (by decide) e2)
   refine⟨(rs1,bs+1),?_,⟨by dsimp only;omega,hl1,?_⟩,by dsimp only;omega⟩
   ·dsimp only;rw[hstep,gb,hb,wrap_small _ (by omega) (by omega)];rfl
   ·dsimp only;rw[hstep,gb,hb];exact H1
  |some i=>
   have hh:=nd hb
   refine al (fun e2=>absurd (show((i:Nat):Int)<0 from e2) (by omega)) (fun _=>?_)
   dsimp only
   have hti:top<m1.length:=by omega
   have hi:=hh.2.1
   have hsq:=H1.seq 0 rfl (fun _=>rfl)
   refine aU ?_
   refine hsq.qZ i rfl (by omega) fun _ _ _=>?_
   refine hsq.qZ top rfl (by omega) fun _ _ _=>?_
   refine H1.set ag 0 rfl (fun _=>rfl) rfl top rfl (by omega) (rs1[i]'(by omega)) rfl rfl rfl fun h3 H3=>⟨trivial,?_⟩
   refine H3.set ag 0 rfl (fun _=>rfl) rfl i rfl (by simp;omega) (rs1[top]'(by omega)) rfl rfl rfl fun h4 H4=>⟨trivial,?_⟩
   have H4':aa B h0 h4 (lW a ((rs1.set top (rs1[i]'(by omega))).set i (rs1[top]'(by omega))) (ga m1 top i)):=by
    have:=H4.Nt (top+1) (i+1) (A:=an aE (rs1[top]'(by omega)) 1 aG m1[top]) (A2:=an aE (rs1[i]'(by omega)) 1 aG m1[i]) (hJ hlm top hti) (hJ hlm i hi)
    show aa B h0 h4 (an aW a 1 cy _::bG aE 1 aG _ _)
    rw[←Gi hlm top i hti hi]
    exact this
   obtain⟨rs2,hrs2⟩:∃rs2,rs2=(rs1.set top (rs1[i]'(by omega))).set i (rs1[top]'(by omega)):=⟨_,rfl⟩
   rw[←hrs2]at H4'
   have hl2:rs2.length=m1.length:=by rw[hrs2];simp;omega
   obtain⟨m2,hm2⟩:∃m2,m2=ga m1 top i:=⟨_,rfl⟩
   have hev2:bm n m2:=by rw[hm2];exact vy hev.1 hti hi
   have hlm2:m2.length=m1.length:=by rw[hm2];exact iP _ _ _
   rw[←hm2]at H4'
   have hlr2:rs2.length=m2.length:=by omega
   have htm2:top<m2.length:=by omega
   refine aU ?_
   have gt:=sG (a:=a) hlr2 top htm2
   have lt:m2[top].length=n:=hev2 _ (List.getElem_mem _)
   have hs4:=H4'.seq 0 rfl (fun _=>rfl)
   refine hs4.qZ top rfl (by omega) fun a10 ha10 _=>?_
   have hrow:=H4'.seq (top+1) gt (fun _=>rfl)
   refine hrow.cr bs rfl (by omega) _ rfl ?_
   refine hs4.qZ top rfl (by omega) fun a14 ha14 _=>?_
   have hf4:iJ h4 f:=hf0.ah H4'.ah hfB
   refine(MN f _ h4 hf4).mono ?_
   rintro v h5 ⟨rfl,rfl⟩
   refine⟨_,rfl,⟨ha14,ha10,trivial⟩,?_⟩
   refine(JL f _ _ _ h5 hf4 hrow (by omega)).mono ?_
   rintro v h6 ⟨r,rfl,R6⟩
   refine⟨r,rfl,⟨Oj ha10 R6.ah,trivial⟩,?_⟩
   have H6:=H4'.comp R6
   dsimp only
   refine H6.set ag 0 rfl (fun _=>rfl) rfl top rfl (by omega) r rfl rfl rfl fun h7 H7=>⟨trivial,?_⟩
   have hrt:m2[top]=aT m2 top:=(dm htm2).symm
   have hct:(m2[top])[bs]'(by omega)=bp (aT m2 top) bs:=by rw[Gh (by rw[dm htm2];omega)];simp only[dm htm2]
   have H7':aa B h0 h7 (lW a (rs2.set top r) (gC top bs m2)):=by
    have h8:aa B h0 h7 ((an aW a 1 cy (rs2.set top r)::bG aE 1 aG rs2 m2)++[an aE r 1 aG (scaleB (Gf.inv ((m2[top])[bs]'(by omega))) m2[top])]):=H7
    have h9:=h8.OJ (top+1) (by simp[GW hlr2];omega)
    rw[hct,hrt]at h9
    show aa B h0 h7 (an aW a 1 cy _::bG aE 1 aG _ (m2.set top _))
    rw[←ky hlr2]
    exact h9
   have hlen3:(gC top bs m2).length=m2.length:=kM _ _ _
   refine Lp hf0 hfB (by simp;omega) (qw hev2 htm2) hcn hn (by omega) (by omega) H7' fun h8 H8=>?_
   have hsome:gb (top,m1) bs=(top+1,dt top bs (gC top bs m2) m1.length):=by
    rw[gb];dsimp only;rw[hb,hm2]
   refine⟨(rs2.set top r,bs+1),?_,⟨by dsimp only;omega,by simp;omega,?_⟩,by dsimp only;omega⟩
   ·dsimp only;rw[hstep,hsome,wrap_small _ (by omega) (by omega),wrap_small _ (by omega) (by omega)];rfl
   ·dsimp only;rw[hstep,hsome];rw[hlen3,hlm2]at H8;exact H8
 ·have:bs=pq:=by omega
  subst this
  exact⟨rs1,by rw[←hst],hl1,by rw[←hst];exact H1⟩
theorem HR (f:Addr) (a:Sl) (m:bz) (n:Nat) (h:Heap) (hf:iJ h f) (ha:fJ h a 1 aG m) (hm:bm n m) (hn:n≤64) (hs:m.length≤2^30):
  ab Tryz.prog Ef #[.pointer (some f),.slice a.ptr a.len a.cap] h fun v h'=>∃(r:Sl) (rs:List Sl),v=.slice r.ptr r.len r.cap∧r.len=eZ m∧rs.length=m.length∧r.len≤m.length∧Sp h h' (lW ⟨r.ptr,m.length,r.cap⟩ rs (bB m (gz m)).2):=by
 refine CE (some f) a ?_
 unfold wA
 refine(pW a m n h ha hm hn hs).mono ?_
 rintro v h1 ⟨rfl,rfl⟩
 refine⟨_,rfl,aX (fun e=>by cases e) fun _=>?_⟩
 refine(wM a m n h1 ha hm hn hs).mono ?_
 rintro v h2 ⟨r,rs,rfl,hl,R2⟩
 refine⟨r,rfl,(uO f h2).mono ?_⟩
 rintro v h3 ⟨rfl,rfl⟩
 refine⟨some f,rfl,(sF r m h3 (R2.Ix hl (fun _=>rfl))).mono ?_⟩
 rintro v h4 ⟨rfl,rfl⟩
 have hw:gz m≤n:=by
  cases m with
  |nil=>simp[gz,aT]
  |cons x t=>rw[gz,dm (by simp)];exact Nat.le_of_eq (hm _ (by simp))
 refine⟨_,rfl,(yy hf hf.lt hl hm hw hn hs R2).mono ?_⟩
 rintro v h5 ⟨rs',rfl,hl',R5⟩
 have htop:=tc m (gz m)
 rw[(ia hm _).2]at htop
 have hcap:=(R5.own 0 rfl).cap
 have hlen:=(R5.own 0 rfl).len
 refine⟨_,rfl,⟨Int.natCast_nonneg _,Int.ofNat_le.2 (show(bB m (gz m)).1≤r.cap by omega)⟩,⟨r.ptr,(bB m (gz m)).1,r.cap⟩,rs',by simp,rfl,hl',htop,?_⟩
 have:r=⟨r.ptr,m.length,r.cap⟩:=by
  obtain⟨p,l,c⟩:=r
  simp only at hlen⊢
  rw[←hl',←hlen]
 rw[←this];exact R5
theorem Lq (f:Addr) (a:Sl) (m:bz) (n:Nat) (h:Heap) (hf:iJ h f) (ha:fJ h a 1 aG m) (hm:bm n m) (hn:n≤64) (hs:m.length≤2^30):
  ab Tryz.prog Hx #[.pointer (some f),.slice a.ptr a.len a.cap] h fun v h'=>v=.int .i64 (eZ m)∧Sp h h' []:=by
 refine FU (some f) a ?_
 unfold AW
 refine(HR f a m n h hf ha hm hn hs).mono ?_
 rintro v h1 ⟨r,rs,rfl,hr,_,_,R1⟩
 exact⟨r,rfl,by rw[hr],.zip R1.ah⟩
end Go.Proofs.YtkciobclldnoiaaGreat
namespace Go.Proofs.YtkciobclldnoiaaGreat
open Go Go.Vc Go.Proofs Wl
set_option maxRecDepth 100000
theorem zu (p:Pm) (seed:Int) (ids:Sl) (l:List Int) (h:Heap) (hl:Rd h ids 1 av l) (hsz:l.length≤2^29):ab Tryz.prog CB #[kI p,.int .u32 seed,.slice ids.ptr ids.len ids.cap] h fun v h'=>v=.int .i64 (Jl p seed l)∧Sp h h' []:=by
 refine AQ p seed ids ?_
 unfold uK
 refine(Sp.refl h).boxed fun a h1 H1=>?_
 refine⟨p,(H1.box 0 rfl).aL _ rfl,(tV h1).mono ?_⟩
 rintro v h2 ⟨f,rfl,R2⟩
 have H2:=H1.comp R2
 have hb:=H2.box 0 rfl
 refine⟨some f,rfl,⟨hb.cell0 rfl,hb.cell rfl,hb.cell rfl,trivial⟩,?_⟩
 refine(yx p seed ids l h2 (Seq.up hl H2.ah) (by omega)).mono ?_
 rintro v h3 ⟨r,rfl,R3⟩
 have H3:=H2.comp R3
 refine⟨r,rfl,trivial,?_⟩
 have hml:=Mo p seed l
 have hcp:(dc p).toNat≤64:=by
  unfold dc
  split
  ·rename_i hp;have:=(cg p).1 hp;omega
  ·omega
 refine(Lq f r _ _ h3 (H3.box 1 rfl) (H3.zN 2 rfl) (C4 p seed l) hcp (by omega)).mono ?_
 rintro v h4 ⟨rfl,R4⟩
 exact⟨_,rfl,trivial,rfl,.zip (H3.comp R4).ah⟩
theorem Lr (p:Pm) (seed:Int) (ids:Sl) (l:List Int) (h:Heap) (hl:Rd h ids 1 av l) (hsz:l.length≤2^29):ab Tryz.prog Cx #[kI p,.int .u32 seed,.slice ids.ptr ids.len ids.cap] h fun v h'=>v=.bool (lE p seed l)∧Sp h h' []:=by
 refine AI p seed ids ?_
 unfold uH
 refine(Sp.refl h).boxed fun a h1 H1=>?_
 refine⟨p,(H1.box 0 rfl).aL _ rfl,(dN p h1).mono ?_⟩
 rintro v h2 ⟨rfl,R2⟩
 have H2:=H1.comp R2
 refine⟨_,rfl,trivial,bu (fun e=>?_) (fun e=>⟨trivial,trivial,by rw[lE,e];rfl,.zip H2.ah⟩)⟩
 have hb:=H2.box 0 rfl
 refine⟨p,hb.aL _ rfl,p,hb.aL _ rfl,(zu p seed ids l h2 (Seq.up hl H2.ah) hsz).mono ?_⟩
 rintro v h3 ⟨rfl,R3⟩
 have H3:=H2.comp R3
 have hb3:=H3.box 0 rfl
 refine⟨_,rfl,⟨hb3.cell0 rfl,hb3.cell rfl,hb3.cell rfl,trivial⟩,(kK p h3).mono ?_⟩
 rintro v h4 ⟨rfl,R4⟩
 exact⟨_,rfl,trivial,by rw[lE,e];rfl,.zip (H3.comp R4).ah⟩
theorem Bf (p:Pm) (seed:Int) (h:Heap):ab Tryz.prog AE #[kI p,.int .u32 seed] h fun v h'=>v=.bool (lE p seed (ey p))∧Sp h h' []:=by
 refine zc p seed ?_
 unfold sg
 refine(Sp.refl h).boxed fun a h1 H1=>?_
 have hb:=H1.box 0 rfl
 refine⟨p,hb.aL _ rfl,p,hb.aL _ rfl,(Be p h1).mono ?_⟩
 rintro v h2 ⟨r,rfl,R2⟩
 have H2:=H1.comp R2
 have hb2:=H2.box 0 rfl
 refine⟨r,rfl,⟨hb2.cell0 rfl,hb2.cell rfl,hb2.cell rfl,trivial⟩,(Lr p seed r _ h2 (H2.seq 1 rfl (fun _=>rfl)) (by rw[hY];omega)).mono ?_⟩
 rintro v h3 ⟨rfl,R3⟩
 exact⟨_,rfl,trivial,rfl,.zip (H2.comp R3).ah⟩
end Go.Proofs.YtkciobclldnoiaaGreat
namespace Go.Proofs.YtkciobclldnoiaaGreat
open Go Go.Vc Go.Proofs Wl
set_option maxRecDepth 100000
theorem MS (p:Pm) (o b:Int) (h:Heap):ab Tryz.prog Fy #[kI p,.int .i64 o,.int .i64 b] h fun v h'=>
  v=.tuple #[.int .i64 (((lU p o b).getD 0:Nat):Int),.bool (lU p o b).isSome]∧Sp h h' []:=by
 refine DV p o b ?_
 unfold yi
 refine(Sp.refl h).boxed fun a1 h1 H1=>?_
 have H1:Sp h h1 [aj a1 ba [.int .i64 p.1,.int .i64 p.2.1,.int .i64 p.2.2]]:=H1
 refine aB (fun i:Nat=>(i:Int)) (fun i h'=>i≤16∧(∀k,k<i→Bc p o b k=false)∧Sp h h' [aj a1 ba [.int .i64 p.1,.int .i64 p.2.1,.int .i64 p.2.2]]) (fun i=>16-i) 0 rfl ⟨by omega,fun k hk=>absurd hk (Nat.not_lt_zero k),H1⟩ ?_
 rintro i h2 ⟨hi,hno,H2⟩
 refine al (fun e=>?_) fun e=>?_
 ·have hi':i<16:=by omega
  have hb2:=H2.box 0 rfl
  refine⟨p,hb2.aL _ rfl,(tQ _ _ _ h2).mono ?_⟩
  rintro _ h3 ⟨rfl,rfl⟩
  refine⟨_,rfl,⟨hb2.cell0 rfl,hb2.cell rfl,hb2.cell rfl,trivial⟩,(Bf p _ h3).mono ?_⟩
  rintro _ h4 ⟨rfl,R4⟩
  have H4:=H2.up R4.ah
  refine⟨_,rfl,trivial,bu (fun g=>?_) fun g=>?_⟩
  ·have ht:lU p o b=some i:=by
    unfold lU
    refine List.find?_eq_some_iff_append.2 ⟨g,List.range i,(List.range (15-i)).map (·+(i+1)),?_,fun k hk=>?_⟩
    ·apply List.ext_getElem?
     intro j
     by_cases hj:j<i
     ·rw[List.getElem?_append_left (by simpa using hj),List.getElem?_range (by omega),List.getElem?_range hj]
     ·rw[List.getElem?_append_right (by simp;omega),List.length_range]
      by_cases hji:j=i
      ·subst hji;rw[Nat.sub_self,List.getElem?_range (by omega)];rfl
      ·obtain⟨d,hd⟩:∃d,j=i+(d+1):=⟨j-i-1,by omega⟩
       subst hd
       rw[Nat.add_sub_cancel_left,List.getElem?_cons_succ,List.getElem?_map]
       by_cases h16:d<15-i
       ·rw[List.getElem?_range h16,List.getElem?_range (by omega)];simp;omega
       ·rw[List.getElem?_eq_none (by simp;omega),List.getElem?_eq_none (by simp;omega)];rfl
    ·rw[hno k (List.mem_range.1 hk)];rfl
   rw[ht]
   exact⟨rfl,.zip H4.ah⟩
  ·refine⟨i+1,by rw[Go.Vc.wrap_small _ (by omega) (by omega)];rfl,⟨by omega,fun k hk=>?_,H4⟩,by omega⟩
   by_cases hki:k<i
   ·exact hno k hki
   ·have:k=i:=by omega
    subst this;exact g
 ·have ht:lU p o b=none:=by
   unfold lU
   rw[List.find?_eq_none]
   intro k hk
   rw[hno k (by have:=List.mem_range.1 hk;omega)];simp
  rw[ht]
  exact⟨rfl,.zip H2.ah⟩
theorem JM (p:Pm) (o:Int) (n:Nat) (h:Heap) (hn:n≤2^30):ab Tryz.prog Cd #[kI p,.int .i64 o,.int .i64 n] h fun v h'=>
  (cz p o n=none→v=.tuple #[.slice none 0 0,.bool false]∧Sp h h' [])∧
  (∀l,cz p o n=some l→∃r:Sl,v=.tuple #[.slice r.ptr r.len r.cap,.bool true]∧Sp h h' [an aA r 1 av l]):=by
 refine Al p o n ?_
 unfold uo
 refine(Sp.refl h).boxed fun a1 h1 H1=>?_
 have H1:Sp h h1 [an aA ⟨none,0,0⟩ 1 av [],aj a1 ba [.int .i64 p.1,.int .i64 p.2.1,.int .i64 p.2.2]]:=(H1.nil aA 1 av).cE [1,0]
 refine aB (fun t:Sl×Nat×List Int=>(t.1,(t.2.1:Int))) (fun t h'=>t.2.1≤n∧cz p o t.2.1=some t.2.2∧Sp h h' [an aA t.1 1 av t.2.2,aj a1 ba [.int .i64 p.1,.int .i64 p.2.1,.int .i64 p.2.2]]) (fun t=>n-t.2.1) (⟨none,0,0⟩,0,[]) rfl ⟨by simp,rfl,H1⟩ ?_
 rintro⟨s,i,l⟩ h2 ⟨hi,hl,H2⟩
 dsimp only at*
 have hll:=jf hl
 have fail:∀j,lU p o i=none→j≤n-(i+1)→cz p o (i+1+j)=none:=fun j hno=>by
  induction j with
  |zero=>intro _;show cz p o (i+1)=none;unfold cz;rw[hl,hno];rfl
  |succ j ih=>intro hj;show cz p o ((i+1+j)+1)=none;unfold cz;rw[ih (by omega)];rfl
 refine al (fun e=>?_) fun e=>?_
 ·have hi':i<n:=by omega
  refine⟨p,(H2.box 1 rfl).aL _ rfl,(MS p o i h2).mono ?_⟩
  rintro _ h3 ⟨rfl,R3⟩
  have H3:=H2.up R3.ah
  refine⟨(_,_),rfl,aX (fun g=>?_) fun g=>?_⟩
  ·have hnone:cz p o n=none:=by
    have:=fail (n-(i+1)) (Option.isSome_eq_false_iff.1 g|>Option.isNone_iff_eq_none.1) (Nat.le_refl _)
    rw[show i+1+(n-(i+1))=n by omega]at this;exact this
   rw[hnone]
   exact⟨fun _=>⟨rfl,.zip H3.ah⟩,fun l h=>by cases h⟩
  ·obtain⟨t,ht⟩:∃t,lU p o i=some t:=Option.isSome_iff_exists.1 g
   rw[ht]
   refine H3.push ag 0 rfl iY rfl (by decide) (fun _=>rfl) jr (t:Int) rfl (by decide) (by omega) fun s' h5 H5=>?_
   refine⟨(s',i+1,l++[(t:Int)]),by dsimp only;rw[Go.Vc.wrap_small _ (by omega) (by omega)];rfl,⟨by dsimp only;omega,?_,H5⟩,by dsimp only;omega⟩
   show cz p o (i+1)=_
   unfold cz;rw[hl,ht];rfl
 ·have hin:i=n:=by omega
  subst hin
  rw[hl]
  exact⟨fun h=>(by cases h),fun l' h=>(by injection h with h;subst h;exact⟨s,rfl,H2.cE [0]⟩)⟩
end Go.Proofs.YtkciobclldnoiaaGreat
namespace Wl
open Go
def nP (m:aF) (l:List (List UInt8)):List (List UInt8):=(fa m l).map dV
def iz (m:aF) (l:List (List UInt8)):List (List UInt8):=bh m++nP m l
def ee (d:bx) (there:Nat) (n:Int):Bool:=decide (max n 0≤(d.room:Int)-there)
def jg (m:aF) (d:bx) (n:Int):Bool:=!d.lost&&(ee d d.l.length n||ee d (iz m d.l).length n)
def eG (m:aF) (w:Pow) (d:bx) (n:Int):Int×Pow×bx:=
 if d.lost then(5,w,d)else if !jg m d n then(7,w,d)else if ee d d.l.length n then(0,w,d)else d.rewrite w (iz m d.l)
theorem MT (l:List db):(yV l).length≤l.length:=by
 unfold yV
 rw[List.length_map]
 exact Nat.le_trans (List.length_filter_le _ _) (by simp)
theorem nQ (m:aF) (l:List (List UInt8)):(fa m l).length≤l.length:=by
 unfold fa
 refine Nat.le_trans (MT _) ?_
 rw[List.length_mergeSort]
 exact List.length_filterMap_le _ _
theorem tW (m:aF) (l:List (List UInt8)):(nP m l).length≤l.length:=by unfold nP;rw[List.length_map];exact nQ m l
end Wl
namespace Go.Proofs.YtkciobclldnoiaaGreat
open Go Go.Vc Go.Proofs Wl
set_option maxRecDepth 100000
section
variable {B:au} {h0 h:Heap} {As:List HP} {a pw:Addr} {d:bx} {w:Pow}
theorem dC.rewrite {l:List (List UInt8)} (h:dC d):dC (d.rewrite w l).2.2:=by
 unfold bx.rewrite
 split
 ·exact h
 ·rename_i hc
  split
  ·exact h
  ·split
   ·exact h
   ·rename_i hr
    have hall:∀c∈l,c.length=64:=by simpa using hc
    split
    ·exact h
    ·split
     ·exact⟨Nat.zero_le _,by dsimp only;omega,h.room,hall,Nat.zero_le _,by simp⟩
     ·exact⟨h.wait,h.len,h.room,h.cell,by dsimp only;omega,hall⟩
theorem Gj (x:Sl) (l:List (List UInt8)) (H:aa B h0 h (jb pw a d::cR bt pw w::As)) (hS:St B h0 As fun h=>fJ h x 1 aG l) (hl:l.length≤2^20) (hcl:∀c∈l,c.length≤2^20):
  ab Tryz.prog rn #[.pointer (some a),.slice x.ptr x.len x.cap] h fun v h'=>v=.int .i64 (d.rewrite w l).1∧aa B h0 h' (jb pw a (d.rewrite w l).2.2::cR bt pw (d.rewrite w l).2.1::As):=by
 refine qm (some a) x ?_
 unfold lf
 have hx:=hS.at [_,_] H
 have hxl:=hx.len
 have okr:=dC.rewrite (w:=w) (l:=l) (And.left (id H).nf)
 have same:∀(e:Int),d.rewrite w l=(e,w,d)→(Value.int .i64 e=.int .i64 (d.rewrite w l).1∧aa B h0 h (jb pw a (d.rewrite w l).2.2::cR bt pw (d.rewrite w l).2.1::As)):=fun e he=>by
  rw[he];exact⟨rfl,H⟩
 refine aB (fun i:Nat=>(i:Int)) (fun i h'=>i≤l.length∧(∀c∈l.take i,c.length=64)∧h'=h) (fun i=>l.length-i) 0 rfl ⟨by omega,by simp,rfl⟩ ?_
 rintro i h1 ⟨hi,hall,rfl⟩
 refine al (fun e=>?_) fun e=>?_
 ·have hi':i<l.length:=by omega
  refine hx.get i rfl hi' fun r hr=>?_
  have hrl:=hr.len
  refine bP (fun e2=>same 1 ?_) fun e2=>?_
  ·unfold bx.rewrite
   rw[if_pos]
   rw[Bool.not_eq_true',List.all_eq_false]
   exact⟨l[i],List.getElem_mem hi',by simp;omega⟩
  ·refine⟨i+1,by rw[Go.Vc.wrap_small _ (by omega) (by omega)];rfl,⟨by omega,fun c hc=>?_,rfl⟩,by omega⟩
   rw[aM _ _ hi']at hc
   rcases List.mem_append.1 hc with hc|hc
   ·exact hall c hc
   ·rw[List.mem_singleton.1 hc];omega
 have hall:∀c∈l,c.length=64:=by rw[List.take_of_length_le (by omega)]at hall;exact hall
 have hallb:(!l.all fun b=>decide (b.length=64))=false:=by
  rw[Bool.not_eq_false',List.all_eq_true]
  exact fun c hc=>decide_eq_true (hall c hc)
 have er:d.rewrite w l=(if d.lost then(5,w,d)else if d.room<l.length then(7,w,d)else if w.off then(14,w,d)else if w.step.1 then(0,w.step.2,{d with l:=l,wait:=0,laid:=[],has:=false})else(14,w.step.2,{d with laid:=l,has:=true})):=by
  unfold bx.rewrite;rw[hallb];rfl
 obtain⟨ok,s,b,H1⟩:=H.nf
 have hb:=H1.box 0 rfl
 refine aU (aU (bu (fun e=>by cases e) fun _=>⟨a,rfl,d.lost,hb.cell rfl,bu (fun e=>same 5 (by rw[er,if_pos e])) fun elost=>?_⟩))
 refine⟨a,rfl,(d.room:Int),hb.cell rfl,al (fun e=>same 7 (by rw[er,if_neg (by simp[elost]),if_pos (by omega)])) fun eroom=>?_⟩
 obtain⟨lw,hlw,H1p⟩:=(H1.aS 4 [3,0,1,2]).su
 refine⟨a,rfl,some pw,hb.cell0 rfl,(xy lw (H1p.box 0 rfl)).mono ?_⟩
 rintro _ h2 ⟨rfl,rfl⟩
 refine⟨_,rfl,aX (fun e=>same 14 ?_) fun eoff=>?_⟩
 ·rw[er,if_neg (by simp[elost]),if_neg (by omega),if_pos (by simpa using e)]
 have eoff':w.off=false:=by simpa using eoff
 have er2:d.rewrite w l=(if w.step.1 then(0,w.step.2,{d with l:=l,wait:=0,laid:=[],has:=false})else(14,w.step.2,{d with laid:=l,has:=true})):=by
  rw[er,if_neg (by simp[elost]),if_neg (by omega),if_neg (by simp[eoff'])]
 refine⟨a,rfl,some pw,hb.cell0 rfl,(wC (H1.aS 4 [3,0,1,2])).mono ?_⟩
 rintro _ h5 ⟨rfl,H5⟩
 have hx5:=hS.at [_,_,_,_] H5
 refine⟨_,rfl,aX (fun e=>?_) fun e=>?_⟩
 ·rw[er2,if_neg (by simp[e])]at okr⊢
  refine(zo x l h5 hx5 hl hcl).mono ?_
  rintro _ h6 ⟨r,rfl,R6⟩
  have H6:=(H5.ck R6).aS 5 [2,3,0,1]
  refine⟨r,rfl,a,rfl,H6.store ag 0 rfl rfl 4 [.slice r.ptr r.len r.cap] rfl rfl rfl (by simp[ez]) fun h7 H7=>?_⟩
  refine⟨a,rfl,H7.store ag 0 rfl rfl 5 [.bool true] rfl rfl rfl (by simp[ez]) fun h8 H8=>⟨rfl,?_⟩⟩
  exact aa.sv (s:=s) (b:=r) okr H8
 ·rw[er2,if_pos e]at okr⊢
  refine(zo x l h5 hx5 hl hcl).mono ?_
  rintro _ h6 ⟨r,rfl,R6⟩
  have H6:=(H5.ck R6).aS 5 [2,0,4,1]
  refine⟨r,rfl,a,rfl,H6.store ag 0 rfl rfl 2 [.slice r.ptr r.len r.cap] rfl rfl rfl (by simp[ez]) fun h7 H7=>?_⟩
  refine⟨a,rfl,H7.store ag 0 rfl rfl 3 [.int .i64 0] rfl rfl rfl (by simp[ez]) fun h8 H8=>?_⟩
  refine(wD (d:={d with l:=l,wait:=0}) r b _ H8 ⟨Nat.zero_le _,by dsimp only;omega,ok.room,hall,ok.laid,ok.cellL⟩ rfl).mono ?_
  rintro _ h9 ⟨rfl,H9⟩
  exact⟨0,rfl,rfl,H9⟩
theorem ry (s b:Sl) (there:Nat) (n:Int) (hb:bK h a bX (ez pw d s b)) (hr:d.room≤512) (ht:there≤2^40):ab Tryz.prog Cu #[.pointer (some a),.int .i64 there,.int .i64 n] h fun v h'=>v=.bool (ee d there n)∧h'=h:=by
 refine AA (some a) there n ?_
 unfold uF
 refine(KX s b hb).mono ?_
 rintro _ _ ⟨rfl,rfl⟩
 refine⟨_,rfl,?_,rfl⟩
 rw[Go.Vc.wrap_small ((d.room:Int)-there) (by omega) (by omega)]
 unfold ee
 congr 1
 rw[decide_eq_decide]
 split<;>omega
theorem JN (s b:Sl) (x:bw) (m:aF) (hb:bK h a bX (ez pw d s b)) (hl:fJ h s 1 aG d.l) (ok:dC d) (hx:cL h x m) (hz:bR m):
  ab Tryz.prog D8 #[.pointer (some a),dj x] h fun v h'=>∃r:Sl,v=.slice r.ptr r.len r.cap∧Sp h h' [dZ r (nP m d.l)]:=by
 refine Cw (some a) x ?_
 unfold wk
 have hlen:=ok.len;have hroom:=ok.room
 refine(Sp.refl h).boxed fun a1 h1 H1=>?_
 refine⟨x,(H1.box 0 rfl).aL _ rfl,(pT a pw d s b x m h1 (hb.ah H1.ah hb.lt) (hl.up H1.ah) ok (hx.up H1.ah) hz).mono ?_⟩
 rintro _ h2 ⟨r,ys,rfl,R2⟩
 have H2:=(H1.ck R2).q5 aW aE 1 aG
 refine⟨r,rfl,?_⟩
 have hrl:=nQ m d.l
 obtain⟨L,hL⟩:∃L,L=fa m d.l:=⟨_,rfl⟩
 have hcp:(nP m d.l)=L.map dV:=by unfold nP;rw[hL]
 rw[←hL]at H2 hrl
 rw[hcp]
 have F2:=H2.fN 1 rfl
 have hyl:=F2.2.1
 have hrlen:=F2.1.len
 refine aB (fun t:Sl×Nat=>(t.1,(t.2:Int))) (fun t h'=>t.2≤L.length∧Sp h h' [dZ t.1 ((L.map dV).take t.2),cG cF 8 aV r ys L]) (fun t=>L.length-t.2) (⟨none,0,0⟩,0) rfl ⟨by simp,H2.cE [0,1]⟩ ?_
 rintro⟨o,i⟩ h3 ⟨hi,H3⟩
 dsimp only at*
 have F3:=H3.fN 1 rfl
 refine al (fun e=>?_) (fun e=>?_)
 ·have hi':i<L.length:=by omega
  refine F3.1.eu (g:=aV) i rfl (by omega) (ys[i]'(by omega)) rfl ?_
  refine H3.alloc ag rfl fun a7 h4 H4=>?_
  refine H4.storeAll ag 2 rfl rfl (aV (ys[i]'(by omega))) rfl rfl rfl rfl fun h5 H5=>?_
  have H5:Sp h h5 [dZ o ((L.map dV).take i),cG cF 8 aV r ys L,aj a7 aC (aV (ys[i]'(by omega)))]:=H5
  refine⟨ys[i]'(by omega),(H5.box 2 rfl).aL _ rfl,(nh _ L[i] h5 (Fix.row (H5.fN 1 rfl) hi')).mono ?_⟩
  rintro _ h6 ⟨u,rfl,R6⟩
  have H6:=(H5.ck R6).aS 3 [1,0,2]
  refine⟨u,rfl,H6.xo ag iZ (by simp;omega) fun o' h8 H8=>?_⟩
  refine⟨(o',i+1),by dsimp only;rw[Go.Vc.wrap_small _ (by omega) (by omega)];rfl,⟨by dsimp only;omega,?_⟩,by dsimp only;omega⟩
  dsimp only
  rw[aM _ _ (show i<(L.map dV).length by simp;omega),List.getElem_map]
  exact H8.cE [0,1]
 ·rw[List.take_of_length_le (by simp;omega)]at H3
  exact⟨o,rfl,H3.cE [0]⟩
end
end Go.Proofs.YtkciobclldnoiaaGreat
namespace Go.Proofs.YtkciobclldnoiaaGreat
open Go Go.Vc Go.Proofs Wl
set_option maxRecDepth 100000
section
variable {B:au} {h0 h:Heap} {As:List HP} {a pw:Addr} {d:bx} {w:Pow}
theorem HS {m:aF} {l:List (List UInt8)} {c:List UInt8} (h:c∈nP m l):c.length≤64:=by
 unfold nP at h
 obtain⟨r,_,rfl⟩:=List.mem_map.1 h
 unfold dV
 split
 ·rename_i hm
  refine Nat.le_of_eq (kA (by decide) (by decide) ?_)
  have:=qy hm
  omega
 ·simp
theorem Dr (s b:Sl) (x:bw) (m:aF) (hb:bK h a bX (ez pw d s b)) (hl:fJ h s 1 aG d.l) (ok:dC d) (hx:cL h x m) (hz:bR m):
  ab Tryz.prog FC #[.pointer (some a),dj x] h fun v h'=>∃r:Sl,v=.slice r.ptr r.len r.cap∧Sp h h' [dZ r (iz m d.l)]:=by
 refine D5 (some a) x ?_
 unfold yl
 have hlen:=ok.len;have hroom:=ok.room
 refine(Sp.refl h).boxed fun a1 h1 H1=>?_
 have H1:Sp h h1 [aj a1 ao (aD x)]:=H1
 refine⟨x,(H1.box 0 rfl).aL _ rfl,x,(H1.box 0 rfl).aL _ rfl,(ka x m h1 (hx.up H1.ah) hz).mono ?_⟩
 rintro _ h2 ⟨r,rfl,R2⟩
 have H2:=H1.ck R2
 have hb2:=H2.box 1 rfl
 refine⟨r,rfl,⟨hb2.cell0 rfl,hb2.cell rfl,hb2.cell rfl,hb2.cell rfl,hb2.cell rfl,hb2.cell rfl,hb2.cell rfl,hb2.cell rfl,trivial⟩,(JN s b x m (hb.ah H2.ah hb.lt) (hl.up H2.ah) ok (hx.up H2.ah) hz).mono ?_⟩
 rintro _ h3 ⟨u,rfl,R3⟩
 have H3:=(H2.ck R3).aS 2 [1,0]
 have hsl:=gY m hz
 have hcl:=tW m d.l
 refine⟨u,rfl,trivial,H3.N5 ag iZ ⟨_,_,rfl,rfl⟩ (by omega) fun s' h4 H4=>?_⟩
 exact⟨trivial,s',rfl,H4.cE [0]⟩
theorem wO (s b:Sl) (x:bw) (m:aF) (n:Int) (hb:bK h a bX (ez pw d s b)) (hl:fJ h s 1 aG d.l) (hsl:s.len=d.l.length) (ok:dC d) (hx:cL h x m) (hz:bR m):
  ab Tryz.prog we #[.pointer (some a),dj x,.int .i64 n] h fun v h'=>v=.bool (jg m d n)∧Sp h h' []:=by
 refine uC (some a) x n ?_
 unfold rm
 have hlen:=ok.len;have hroom:=ok.room
 refine(Sp.refl h).boxed fun a1 h1 H1=>?_
 have H1:Sp h h1 [aj a1 ao (aD x)]:=H1
 have hb1:=hb.ah H1.ah hb.lt
 refine aU (bu (fun e=>by cases e) fun _=>(qI s b hb1).mono ?_)
 rintro _ _ ⟨rfl,rfl⟩
 refine⟨_,rfl,bu (fun e=>⟨by unfold jg;rw[e];rfl,.zip H1.ah⟩) fun e=>?_⟩
 have ef:jg m d n=(ee d d.l.length n||ee d (iz m d.l).length n):=by unfold jg;rw[e];rfl
 refine(Dj s b hb1 hsl).mono ?_
 rintro _ _ ⟨rfl,rfl⟩
 refine⟨_,rfl,(ry s b d.l.length n hb1 ok.room (by omega)).mono ?_⟩
 rintro _ _ ⟨rfl,rfl⟩
 refine⟨_,rfl,bu (fun e2=>⟨by rw[ef,e2];rfl,.zip H1.ah⟩) fun e2=>?_⟩
 refine⟨x,(H1.box 0 rfl).aL _ rfl,(Dr s b x m hb1 (hl.up H1.ah) ok (hx.up H1.ah) hz).mono ?_⟩
 rintro _ h2 ⟨r,rfl,R2⟩
 have hrl:=(aa.sV R2).1
 have hkl:(iz m d.l).length≤4000:=by
  have:=gY m hz
  have:=tW m d.l
  unfold iz;rw[List.length_append];omega
 have H2:=H1.ck R2
 refine⟨r,rfl,(ry s b r.len n (hb1.ah R2.ah hb1.lt) ok.room (by omega)).mono ?_⟩
 rintro _ _ ⟨rfl,rfl⟩
 exact⟨_,rfl,by rw[ef,e2,Bool.false_or,hrl],.zip H2.ah⟩
theorem wP (x:bw) (n:Int) (h:Heap):ab Tryz.prog we #[.pointer none,dj x,.int .i64 n] h fun v h'=>v=.bool false∧Sp h h' []:=by
 refine uC none x n ?_
 unfold rm
 refine(Sp.refl h).boxed fun a1 h1 H1=>?_
 exact aU (bu (fun _=>⟨rfl,.zip H1.ah⟩) fun e=>by cases e)
theorem Dt (x:bw) (m:aF) (n:Int) (hS:St B h0 As fun h=>cL h x m) (hz:bR m) (H:aa B h0 h (jb pw a d::cR bt pw w::As)):
  ab Tryz.prog pF #[.pointer (some a),dj x,.int .i64 n] h fun v h'=>v=.int .i64 (eG m w d n).1∧aa B h0 h' (jb pw a (eG m w d n).2.2::cR bt pw (eG m w d n).2.1::As):=by
 refine ux (some a) x n ?_
 unfold ri
 refine(Sp.refl h).boxed fun a1 h1 R1=>?_
 have R1:Sp h h1 [aj a1 ao (aD x)]:=R1
 have H1:=(H.ck R1).aS 3 [1,2,0]
 have same:∀(e:Int) {h':Heap},aH (fun b=>b<h1.size) h1 h'→eG m w d n=(e,w,d)→(Value.int .i64 e=.int .i64 (eG m w d n).1∧aa B h0 h' (jb pw a (eG m w d n).2.2::cR bt pw (eG m w d n).2.1::As)):=fun e {h'} hp he=>by
  rw[he];exact⟨rfl,((H1.up hp).aS 3 [0,1])⟩
 obtain⟨ok,s,b,H1o⟩:=(id H1).nf
 have hb:=H1o.box 0 rfl
 have hl:fJ h1 s 1 aG d.l:=(H1o.aS 2 [1]).Iy fun _=>rfl
 have hsl:=(aa.sV (H1o.aS 2 [1])).1
 have hlen:=ok.len;have hroom:=ok.room
 refine aU (aU (bu (fun e=>by cases e) fun _=>(qI s b hb).mono ?_))
 rintro _ _ ⟨rfl,rfl⟩
 refine⟨_,rfl,bu (fun e=>same 5 (aH.refl _ _) (by unfold eG;rw[if_pos e])) fun e=>?_⟩
 refine⟨x,(H1.box 2 rfl).aL _ rfl,(wO s b x m n hb hl hsl ok (hS.at [_,_,_] H1) hz).mono ?_⟩
 rintro _ h2 ⟨rfl,R2⟩
 have H2o:=H1o.up R2.ah
 have hb2:=hb.ah R2.ah hb.lt
 have H2:=H1.up R2.ah
 refine⟨_,rfl,aX (fun e2=>same 7 R2.ah (by unfold eG;rw[if_neg (by simp[e]),if_pos (by simp[e2])])) fun e2=>?_⟩
 refine(Dj s b hb2 hsl).mono ?_
 rintro _ _ ⟨rfl,rfl⟩
 refine⟨_,rfl,(ry s b d.l.length n hb2 ok.room (by omega)).mono ?_⟩
 rintro _ _ ⟨rfl,rfl⟩
 refine⟨_,rfl,bu (fun e3=>same 0 R2.ah (by unfold eG;rw[if_neg (by simp[e]),if_neg (by simp[e2]),if_pos e3])) fun e3=>?_⟩
 have em:eG m w d n=d.rewrite w (iz m d.l):=by unfold eG;rw[if_neg (by simp[e]),if_neg (by simp[e2]),if_neg (by simp[e3])]
 rw[em]
 have hkl:(iz m d.l).length≤4000:=by
  have:=gY m hz
  have:=tW m d.l
  unfold iz;rw[List.length_append];omega
 have hkc:∀c∈iz m d.l,c.length≤64:=fun c hc=>by
  unfold iz at hc
  rcases List.mem_append.1 hc with hc|hc
  ·exact Nat.le_of_eq (te hc)
  ·exact HS hc
 refine⟨x,(H2.box 2 rfl).aL _ rfl,(Dr s b x m hb2 ((H2o.aS 2 [1]).Iy fun _=>rfl) ok (hS.at [_,_,_] H2) hz).mono ?_⟩
 rintro _ h3 ⟨r,rfl,R3⟩
 obtain⟨rs,H3⟩:=(H2.ck R3).O9 fun _=>rfl
 have H3:=H3.aS 4 [1,2,0]
 refine⟨r,rfl,(Gj r (iz m d.l) H3 (St.cQ 0 rfl fun h' hq=>?_) (by omega) fun c hc=>Nat.le_trans (hkc c hc) (by decide)).mono ?_⟩
 ·exact⟨rs,hq.1,hq.2.1,hq.2.2⟩
 rintro _ h4 ⟨rfl,H4⟩
 exact⟨_,rfl,rfl,H4.aS 3 [0,1]⟩
end
end Go.Proofs.YtkciobclldnoiaaGreat
namespace Go.Proofs.YtkciobclldnoiaaGreat
open Go Go.Vc Go.Proofs Wl
section
set_option maxRecDepth 20000
variable {B:au} {h0 h:Heap} {As:List HP} {a pw b:Addr} {x:bw} {offs:Int} {da:List (Option Addr)} {w:Pow} {ds:aN} {d:bx}
theorem aa.MU (n:Nat) (hn:n<64) (hd:ds[n]?=some none) (H:aa B h0 h (aI aR a pw (aD x) offs da w ds::jb pw b d::As)) {K:Unit→Heap→Prop}
  (hk:∀h',aa B h0 h' (aI aR a pw (aD x) offs (da.set n (some b)) w (ds.set n (some d))::As)→K () h'):
  ae Tryz.prog (Instr.storeAt xF (.pointer (some ((a.add 10).add n))) (.pointer (some b))) h K:=by
 obtain⟨ok,H1⟩:=Go.Vc.aa.mP H
 have he:(a.add 10).add n=a.add (10+n):=by unfold Addr.add;simp[Nat.add_assoc]
 rw[he]
 refine H1.storeAt ag 0 rfl rfl rfl rfl rfl (by simp[ok.la];omega) fun h' H2=>hk h' ?_
 rw[List.set_cons_zero,Lj ok.l8]at H2
 exact aa.Oi ok hn hd H2
end
end Go.Proofs.YtkciobclldnoiaaGreat
namespace Wl
open Go
theorem oV (ds:aN) (n:Nat) (d:bx) (s:Int) (hn:n<64) (hl:ds.length=64):bD (fC ds (n:Int) d) s=if s=(n:Int)then some d else bD ds s:=by
 unfold bD fC
 rw[Int.toNat_natCast]
 by_cases h:0≤s∧s<64
 ·rw[if_pos h,if_pos h,List.getElem?_set]
  by_cases hs:s=(n:Int)
  ·subst hs
   rw[if_pos rfl,Int.toNat_natCast,if_pos rfl,if_pos (by omega)];rfl
  ·rw[if_neg hs,if_neg (by omega)]
 ·rw[if_neg h,if_neg h,if_neg (by omega)]
theorem hF {ds:aN} {s:Int} {d:bx} (h:bD ds s=some d):∃n:Nat,s=(n:Int)∧n<64:=by
 unfold bD at h
 by_cases hs:0≤s∧s<64
 ·exact⟨s.toNat,by omega,by omega⟩
 ·rw[if_neg hs]at h;cases h
structure Fit (ds:aN) (S Q:List Int):Prop where
 len:ds.length=64
 at_:∀s∈S,∃d,bD ds s=some d∧d.lost=false∧d.l.length+Q.count s≤d.room
theorem HT {d:bx} {n:Nat} (w:Pow) (b:List UInt8) (h1:d.lost=false) (h2:d.l.length+(n+1)≤d.room) (hb:b.length=64):
  ((d.append w b).1=0∨(d.append w b).1=14)∧(d.append w b).2.2.lost=false∧(d.append w b).2.2.l.length+n≤(d.append w b).2.2.room:=by
 unfold bx.append
 rw[if_neg (by omega),if_neg (by simp[h1]),if_neg (by omega)]
 by_cases ho:w.off
 ·rw[if_pos ho];exact⟨.inr rfl,h1,by dsimp only;omega⟩
 ·rw[if_neg ho]
  by_cases hs:w.step.1
  ·rw[if_pos hs];exact⟨.inl rfl,h1,by simp;omega⟩
  ·rw[if_neg hs];exact⟨.inr rfl,h1,by simp;omega⟩
theorem Ls {d:bx} (w:Pow) (h1:d.lost=false):((d.sync w).1=0∨(d.sync w).1=14)∧(d.sync w).2.2.lost=false∧(d.sync w).2.2.l=d.l∧(d.sync w).2.2.room=d.room:=by
 unfold bx.sync
 rw[if_neg (by simp[h1])]
 by_cases hs:w.step.1
 ·rw[if_pos hs];exact⟨.inl rfl,h1,rfl,rfl⟩
 ·rw[if_neg hs];exact⟨.inr rfl,h1,rfl,rfl⟩
theorem Ej {ds:aN} {S Q:List Int} {x:Int} (w:Pow) (b:List UInt8) (F:Fit ds S (x::Q)) (hx:x∈S) (hb:b.length=64):
  ((dq w ds x b).1=0∨(dq w ds x b).1=14)∧Fit (dq w ds x b).2.2 S Q:=by
 obtain⟨d,hd,h1,h2⟩:=F.at_ x hx
 rw[List.count_cons_self]at h2
 obtain⟨n,rfl,hn⟩:=hF hd
 have A:=HT w b h1 (n:=Q.count (n:Int)) (by omega) hb
 have e:dq w ds (n:Int) b=((d.append w b).1,(d.append w b).2.1,fC ds (n:Int) (d.append w b).2.2):=by unfold dq;rw[hd]
 rw[e]
 refine⟨A.1,by unfold fC;rw[List.length_set];exact F.len,fun s hs=>?_⟩
 rw[oV _ _ _ _ hn F.len]
 by_cases hsn:s=(n:Int)
 ·subst hsn
  rw[if_pos rfl]
  exact⟨_,rfl,A.2⟩
 ·rw[if_neg hsn]
  obtain⟨d',g,g1,g2⟩:=F.at_ s hs
  rw[List.count_cons_of_ne (fun h=>hsn h.symm)]at g2
  exact⟨d',g,g1,g2⟩
theorem HU {ds:aN} {S:List Int} {x:Int} (w:Pow) (F:Fit ds S []) (hx:x∈S):((eN w ds x).1=0∨(eN w ds x).1=14)∧Fit (eN w ds x).2.2 S []:=by
 obtain⟨d,hd,h1,h2⟩:=F.at_ x hx
 obtain⟨n,rfl,hn⟩:=hF hd
 obtain⟨A1,A2,A3,A4⟩:=Ls w h1
 have e:eN w ds (n:Int)=((d.sync w).1,(d.sync w).2.1,fC ds (n:Int) (d.sync w).2.2):=by unfold eN;rw[hd]
 rw[e]
 refine⟨A1,by unfold fC;rw[List.length_set];exact F.len,fun s hs=>?_⟩
 rw[oV _ _ _ _ hn F.len]
 by_cases hsn:s=(n:Int)
 ·subst hsn
  rw[if_pos rfl]
  exact⟨_,rfl,A2,by rw[A3,A4];exact h2⟩
 ·rw[if_neg hsn];exact F.at_ s hs
end Wl
namespace Go.Vc
open Go Wl Go.Proofs.YtkciobclldnoiaaGreat
theorem CJ (l:List Int) (k:Nat):(aY l k).Nodup:=by
 unfold aY
 refine List.Pairwise.filter _ (List.pairwise_map.2 ?_)
 exact(List.nodup_range (n:=k)).imp fun h=>by omega
end Go.Vc
namespace Go.Vc
open Go Wl Go.Proofs.YtkciobclldnoiaaGreat
theorem JO {l:List Int} (h:(dE l).2=true):(dE l).1=aY l l.length∧l.length≤64∧∀n:Nat,l.getD n 0≤512:=by
 unfold dE at h⊢
 by_cases ha:l.all (dG · 0 512)=true
 ·rw[if_pos ha]at h⊢
  refine⟨rfl,by simp at h;exact h.1,fun n=>?_⟩
  rw[List.getD_eq_getElem?_getD]
  by_cases hn:n<l.length
  ·rw[List.getElem?_eq_getElem hn]
   have:=List.all_eq_true.1 ha _ (List.getElem_mem hn)
   unfold dG at this;simp at this⊢;omega
  ·rw[List.getElem?_eq_none (by omega)];simp
 ·rw[if_neg ha]at h;cases h
theorem Gk (l:List Int) (i n:Nat) (hi:i<(aY l l.length).length) (hn:(aY l l.length)[i]=(n:Int)) (h64:n<64):(fl l i)[n]?=some none:=by
 unfold fl
 rw[List.getElem?_map,List.getElem?_range h64,Option.map_some,if_neg]
 intro hc
 obtain⟨j,hj,hj2⟩:=List.mem_take_iff_getElem.1 hc
 have:=vv (CJ l l.length) (a:=j) (b:=i) (by omega) hi (by rw[hj2,hn])
 omega
theorem rz (m:aF):∀S:List Int,(bn m S).length=S.length*(bh m).length
 |[]=>by simp[bn]
 |n::S=>by
  have e:bn m (n::S)=(bh m).map (fun c=>(n,c))++bn m S:=by unfold bn;rw[List.flatMap_cons]
  rw[e,List.length_append,List.length_map,rz m S,List.length_cons,Nat.succ_mul,Nat.add_comm]
theorem Bg (p:Pm) (extra:Int) (l:List Int) (hl:l.length≤64):bR (bS p extra l):=⟨by have:=lT l l.length;simp[bS];omega,by simp[bS],by simp[bS]⟩
end Go.Vc
namespace Go.Proofs.YtkciobclldnoiaaGreat
open Go Go.Vc Go.Proofs Wl
section
set_option maxRecDepth 20000
variable {B:au} {h0 h:Heap} {As:List HP} {pw:Addr} {w:Pow}
theorem yz (p:Pm) (extra:Int) (s:Sl) (l:List Int) (hS:St B h0 As fun h=>Rd h s 1 av l) (hl:l.length≤2^20) (H:aa B h0 h (cR bt pw w::As)):
  ab Tryz.prog qB #[kI p,.int .i64 extra,.pointer (some pw),.slice s.ptr s.len s.cap] h fun v h'=>
   ((dn p extra w l).1≠0→v=.tuple #[.pointer none,.int .i64 (dn p extra w l).1]∧aa B h0 h' As)∧
   ((dn p extra w l).1=0→∃(a:Addr) (x:bw) (da:List (Option Addr)),v=.tuple #[.pointer (some a),.int .i64 0]∧aa B h0 h' (aI aR a pw (aD x) w.offs da (dn p extra w l).2.1 (dn p extra w l).2.2::bC x (bS p extra l)::As)):=by
 refine y6 p extra (some pw) s ?_
 unfold rL
 refine H.boxed fun a1 h1 H1=>?_
 have H1:=H1.bW
 refine(kr s l h1 (hS.at [_,_] H1) hl).mono ?_
 rintro _ h2 ⟨r,rfl,R2⟩
 have H2:=H1.ck R2
 refine⟨(r,(dE l).2),rfl,?_⟩
 have bad:∀{h':Heap},aa B h0 h' As→((dE l).2&&(bU p&&dG extra 0 16))=false→
   ((dn p extra w l).1≠0→Value.tuple #[.pointer none,.int .i64 1]=.tuple #[.pointer none,.int .i64 (dn p extra w l).1]∧aa B h0 h' As)∧
   ((dn p extra w l).1=0→∃(a:Addr) (x:bw) (da:List (Option Addr)),Value.tuple #[.pointer none,.int .i64 1]=.tuple #[.pointer (some a),.int .i64 0]∧aa B h0 h' (aI aR a pw (aD x) w.offs da (dn p extra w l).2.1 (dn p extra w l).2.2::bC x (bS p extra l)::As)):=fun{h'} H' hc=>by
  have e:dn p extra w l=(1,w,[]):=by unfold dn;rw[hc];rfl
  rw[e]
  exact⟨fun _=>⟨rfl,H'⟩,fun h=>absurd h (show¬(1:Int)=0 by decide)⟩
 refine aU (aX (fun e=>bad H2.rest.rest.rest (by rw[e];rfl)) fun e=>?_)
 have ep:(dE l).2=true:=by simpa using e
 obtain⟨ep1,el64,el512⟩:=JO ep
 refine⟨p,(H2.box 1 rfl).aL _ rfl,(dN p h2).mono ?_⟩
 rintro _ h3 ⟨rfl,R3⟩
 have H3:aa B h0 h3 (an aA r 1 av (dE l).1::aj a1 ba [.int .i64 p.1,.int .i64 p.2.1,.int .i64 p.2.2]::cR bt pw w::As):=by
  have:=H2.comp R3
  rw[List.append_nil]at this;exact this
 refine⟨_,rfl,aX (fun e2=>bad H3.rest.rest.rest (by rw[e2];simp)) fun e2=>?_⟩
 have em:bU p=true:=by simpa using e2
 refine al (fun e3=>bad H3.rest.rest.rest (by unfold dG;simp;omega)) fun e3=>al (fun e4=>bad H3.rest.rest.rest (by unfold dG;simp;omega)) fun e4=>bu (fun e5=>by cases e5) fun _=>?_
 rw[ep1]at H3
 refine aU ⟨p,(H3.box 1 rfl).aL _ rfl,?_⟩
 obtain⟨lw,hlw,H3p⟩:=(H3.aS 3 [2,1,0]).su
 refine(Dh lw (H3p.box 0 rfl)).mono ?_
 rintro _ h4 ⟨rfl,rfl⟩
 have hb3:=H3.box 1 rfl
 refine⟨_,rfl,⟨hb3.cell0 rfl,hb3.cell rfl,hb3.cell rfl,trivial⟩,?_⟩
 obtain⟨m,hm⟩:∃m,m=bS p extra l:=⟨_,rfl⟩
 refine⟨_,Li (1,0,p.1,p.2.1,p.2.2,extra,r,⟨none,0,0⟩) pw w.offs,?_⟩
 refine H3.boxed fun a9 h6 H6=>?_
 obtain⟨x,hx⟩:∃x:bw,x=(1,0,p.1,p.2.1,p.2.2,extra,r,⟨none,0,0⟩):=⟨_,rfl⟩
 rw[←hx]at H6
 have ecell:(Value.agg (cx (aD x) pw w.offs (List.replicate 64 none)).toArray).cells.toList=cx (aD x) pw w.offs (List.replicate 64 none):=by simp[Value.cells]
 rw[ecell]at H6
 have H6:=H6.bW
 have hb6:=H6.box 2 rfl
 refine⟨⟨hb6.cell0 rfl,hb6.cell rfl,hb6.cell rfl,trivial⟩,?_⟩
 have H6:aa B h0 h6 (aj a9 fm (cx (aD x) pw w.offs (List.replicate 64 none))::cR bt pw w::an aA r 1 av (aY l l.length)::As):=H6.aS 4 [0,3,1]
 have H6:=aa.Lh (k:=aR) (h8:=by simp) H6
 obtain⟨P,hP⟩:∃P,P=aY l l.length:=⟨_,rfl⟩
 rw[←hP]at H6
 have hz:bR m:=hm▸Bg p extra l el64
 have hPl:P.length≤64:=by rw[hP];exact Nat.le_trans (lT _ _) el64
 have hmx:∀{h':Heap} {Bs:List HP} {X:HP},aa B h0 h' (X::an aA r 1 av P::Bs)→cL h' x m:=fun{h' Bs X} H'=>by
  have hs:=H'.seq 1 rfl fun _=>rfl
  have hc:=(H'.own 1 rfl).cap
  subst hx;subst hm
  exact⟨rfl,rfl,rfl,rfl,by show Seq _ _ r 1 av (aY l l.length);rw[←hP];exact hs,cW.nil _ _ _ _,hc,Nat.le_refl _⟩
 have hok:((dE l).2&&(bU p&&dG extra 0 16))=true:=by
  rw[ep,em];unfold dG;simp;omega
 have fokP:(P.any fun i=>decide (l.getD i.toNat 0<((bh m).length:Int)))=true→dn p extra w l=(7,w,[]):=fun hh=>by
  unfold dn;rw[if_pos hok,←hP,←hm,if_pos hh]
 have fokN:(P.any fun i=>decide (l.getD i.toNat 0<((bh m).length:Int)))=false→dn p extra w l=layAll (bn m P) w (fl l P.length):=fun hh=>by
  unfold dn;rw[if_pos hok,←hP,←hm,hh,if_neg (by decide)]
 have hat:∀i (hi:i<P.length),∃n:Nat,n<l.length∧P[i]=(n:Int)∧0<l.getD n 0:=by
  subst hP;exact fun i hi=>HJ l l.length i hi
 refine aB (fun i:Nat=>(i:Int)) (fun i h'=>i≤P.length∧((P.take i).any fun i=>decide (l.getD i.toNat 0<((bh m).length:Int)))=false∧aa B h0 h' (aI aR a9 pw (aD x) w.offs (List.replicate 64 none) w (List.replicate 64 none)::an aA r 1 av P::As)) (fun i=>P.length-i) 0 rfl ⟨by omega,by simp,H6⟩ ?_
 rintro i h7 ⟨hi,hall,H7⟩
 dsimp only at*
 obtain⟨okc,hb7⟩:=aa.cb H7
 have hrl:r.len=P.length:=(H7.own 1 rfl).len
 refine al (fun e5=>?_) (fun e5=>?_)
 ·have hi':i<P.length:=by omega
  obtain⟨n,hn,en,hpos⟩:=hat i hi'
  refine(H7.seq 1 rfl fun _=>rfl).cr i rfl hi' (n:Int) (by rw[en];rfl) ?_
  refine(hS.at [_,_] H7).I7 n rfl hn (l.getD n 0) (by rw[getD_lt hn];rfl) fun a14 hc14=>?_
  refine⟨a9,rfl,x,hb7.aL _ (by rfl),(ka x m h7 (hmx H7) hz).mono ?_⟩
  rintro _ h9 ⟨u,rfl,R9⟩
  have H9:=H7.ck R9
  have hul:=(aa.sV H9).1
  refine⟨u,rfl,qt R9.ah ⟨hc14,trivial⟩,?_⟩
  refine al (fun e6=>?_) (fun e6=>?_)
  ·rw[fokP (List.any_eq_true.2 ⟨P[i],List.getElem_mem hi',by rw[en,Int.toNat_natCast];exact decide_eq_true (by omega)⟩)]
   exact⟨fun _=>⟨rfl,H9.rest.rest.rest⟩,fun h=>absurd h (show¬(7:Int)=0 by decide)⟩
  ·refine⟨i+1,by rw[Go.Vc.wrap_small _ (by omega) (by omega)];rfl,⟨by omega,?_,H9.rest⟩,by omega⟩
   rw[aM _ _ hi',List.any_append,hall,Bool.false_or,List.any_cons,List.any_nil,Bool.or_false,en,Int.toNat_natCast]
   exact decide_eq_false (by omega)
 ·have hPi:i=P.length:=by omega
  subst hPi
  rw[List.take_length]at hall
  have fok:=fokN hall
  rw[←Gd l]at H7
  refine aB (fun t:Nat×List (Option Addr)=>(t.1:Int)) (fun t h'=>t.1≤P.length∧aa B h0 h' (aI aR a9 pw (aD x) w.offs t.2 w (fl l t.1)::an aA r 1 av P::As)) (fun t=>P.length-t.1) (0,List.replicate 64 none) rfl ⟨by simp,H7⟩ ?_
  rintro⟨i,da⟩ h10 ⟨hi,H10⟩
  dsimp only at*
  obtain⟨okd,hb10⟩:=aa.cb H10
  refine al (fun e6=>?_) (fun e6=>?_)
  ·have hi':i<P.length:=by omega
   obtain⟨n,hn,en,hpos⟩:=hat i hi'
   have h512:=el512 n
   refine(H10.seq 1 rfl fun _=>rfl).cr i rfl hi' (n:Int) (by rw[en];rfl) ?_
   refine(hS.at [_,_] H10).cr n rfl hn (l.getD n 0) (by rw[getD_lt hn];rfl) ?_
   refine⟨a9,rfl,(JC (l.getD n 0) pw h10).mono ?_⟩
   rintro _ h11 ⟨Q1,_⟩
   obtain⟨b,rfl,R11⟩:=Q1 (by omega)
   have H11:=(H10.ck R11).aS 2 [1,0]
   refine⟨_,rfl,trivial,⟨by omega,by omega⟩,?_⟩
   rw[Int.toNat_natCast,Nat.mul_one]
   have hiQ:i<(aY l l.length).length:=by rw[←hP];exact hi'
   have enQ:(aY l l.length)[i]=(n:Int):=by rw[←en];simp only[hP]
   refine Go.Proofs.YtkciobclldnoiaaGreat.aa.MU n (by omega) (Gk l i n hiQ enQ (by omega)) H11 fun h12 H12=>?_
   refine⟨trivial,(i+1,da.set n (some b)),by dsimp only;rw[Go.Vc.wrap_small _ (by omega) (by omega)];rfl,⟨by dsimp only;omega,?_⟩,by dsimp only;omega⟩
   dsimp only
   rw[←Ge l i n hiQ enQ (by omega)]
   exact H12
  ·have hPi:i=P.length:=by omega
   subst hPi
   refine⟨a9,rfl,x,hb10.aL _ (by rfl),(yv x m r P h10 (hmx H10) hz (H10.seq 1 rfl fun _=>rfl) (by omega)).mono ?_⟩
   rintro _ h13 ⟨u,ys,rfl,R13⟩
   have H13:=(H10.ck R13).aS 2 [1,0]
   refine⟨u,rfl,?_⟩
   have hspl:=gY m hz
   refine(qM u ys (bn m P) (St.cQ 0 rfl fun _ hq=>hq) ?_ ?_ H13).mono ?_
   ·rw[rz]
    have:=Nat.mul_le_mul hPl hspl
    omega
   ·intro y hy
    obtain⟨hy1,hy2⟩:=il hy
    obtain⟨i,hi,e⟩:=List.getElem_of_mem hy1
    obtain⟨n,hn,en,_⟩:=hat i hi
    rw[←e,en,hy2]
    exact⟨⟨by omega,by omega⟩,by decide⟩
   rintro _ h14 ⟨rfl,H14⟩
   rw[fok]
   refine⟨_,rfl,bP (fun e7=>⟨fun _=>⟨rfl,H14.rest.rest.rest⟩,fun h=>absurd h e7⟩) fun e7=>⟨fun h=>absurd e7 h,fun _=>⟨a9,x,da,rfl,?_⟩⟩⟩
   rw[←hm]
   exact H14.xl.fZ 1 rfl fun q hq=>by
    subst hx;subst hm
    exact⟨rfl,rfl,rfl,rfl,by show Seq _ _ r 1 av (aY l l.length);rw[←hP];exact hq.1.seq (fun _=>rfl) hq.2,cW.nil _ _ _ _,hq.1.cap,Nat.le_refl _⟩
end
end Go.Proofs.YtkciobclldnoiaaGreat
namespace Wl
open Go
def eU (m:aF) (ds:aN) (k n:Int):Bool:=match bD ds k with|some d=>jg m d n|none=>false
def dp (m:aF) (ds:aN) (l:List Int) (N:Int→Int):Bool:=l.all fun k=>eU m ds k (N k)
def cJ (m:aF) (w:Pow) (ds:aN) (k n:Int):Int×Pow×aN:=
 match bD ds k with
 |none=>(5,w,ds)
 |some d=>((eG m w d n).1,(eG m w d n).2.1,fC ds k (eG m w d n).2.2)
def makes (m:aF) (N:Int→Int):List Int→Pow→aN→Int×Pow×aN
 |[],w,ds=>(0,w,ds)
 |k::l,w,ds=>if(cJ m w ds k (N k)).1=0 then makes m N l (cJ m w ds k (N k)).2.1 (cJ m w ds k (N k)).2.2 else cJ m w ds k (N k)
end Wl
namespace Go.Proofs.YtkciobclldnoiaaGreat
open Go Go.Vc Go.Proofs Wl
set_option maxRecDepth 100000
theorem Du (f:FuncId) (pre post:Array Value) (P:Int→Bool) (s:Sl) (l:List Int) (h:Heap) (hf:C.fns[f]?=some true) (hs:Rd h s 1 av l) (hl:l.length≤2^30)
  (hc:∀k∈l,∀h',Sp h h' []→ab Tryz.prog f (pre.toList++[Value.int .i64 k]++post.toList).toArray h' fun v h''=>v=.bool (P k)∧Sp h' h'' []):
  ab Tryz.prog gW #[.slice s.ptr s.len s.cap,.func (.func f) pre post] h fun v h'=>v=.bool (l.any P)∧Sp h h' []:=by
 refine gI s (f,pre,post) ?_
 unfold fq
 refine(fD s (f,pre,post) (R:=fun v h'=>(∃i:Int,v=.int .i64 i∧decide (i≥0)=l.any P)∧Sp h h' []) ?_).mono ?_
 ·unfold eF
  have hsl:=hs.len
  refine aB (fun i:Nat=>(i:Int)) (fun i h'=>i≤l.length∧(l.take i).any P=false∧Sp h h' []) (fun i=>l.length-i) 0 rfl ⟨by omega,by simp,Sp.refl h⟩ ?_
  rintro i h1 ⟨hi,hall,H1⟩
  refine al (fun e1=>?_) (fun e1=>?_)
  ·have hi':i<l.length:=by
    have e':(i:Int)<(s.len:Int):=e1
    omega
   refine(Seq.up hs H1.ah).cr i rfl hi' l[i] rfl (dU hf ?_)
   refine(hc l[i] (List.getElem_mem hi') h1 H1).mono ?_
   rintro _ h2 ⟨rfl,R2⟩
   have H2:=H1.up R2.ah
   refine⟨_,rfl,bu (fun e2=>⟨⟨i,rfl,?_⟩,H2⟩) (fun e2=>?_)⟩
   ·rw[List.any_eq_true.2 ⟨_,List.getElem_mem hi',e2⟩];exact decide_eq_true (by omega)
   ·refine⟨i+1,by rw[Go.Vc.wrap_small _ (by omega) (by omega)];rfl,⟨by omega,?_,H2⟩,by omega⟩
    rw[aM _ _ hi',List.any_append,hall,List.any_cons,List.any_nil,e2];rfl
  ·have e':¬(i:Int)<(s.len:Int):=e1
   rw[List.take_of_length_le (by omega)]at hall
   exact⟨⟨-1,rfl,by rw[hall];rfl⟩,H1⟩
 ·rintro _ h1 ⟨⟨i,rfl,hi⟩,R1⟩
  exact⟨i,rfl,by rw[hi],R1⟩
section
variable {B:au} {h0 h:Heap} {As:List HP} {a pw:Addr} {offs:Int} {da:List (Option Addr)} {w:Pow} {ds:aN}
def Ew (f:FuncId) (pre post:Array Value) (N:Int→Int) (l:List Int) (h:Heap):Prop:=∀k∈l,ab Tryz.prog f (pre.toList++[Value.int .i64 k]++post.toList).toArray h fun v h'=>v=.int .i64 (N k)∧Sp h h' []
theorem Bh (f:FuncId) (pre post:Array Value) (N:Int→Int) (x:bw) (m:aF) (s:Sl) (l:List Int) (hf:C.fns[f]?=some true) (hS:St B h0 As fun h=>cL h x m∧Ew f pre post N l h) (hz:bR m) (hs:Rd h s 1 av l) (hl:l.length≤2^30) (hin:∀k∈l,0≤k∧k<64) (H:aa B h0 h (aI aR a pw (aD x) offs da w ds::As)):
  ab Tryz.prog uW #[.pointer (some a),.slice s.ptr s.len s.cap,.func (.func f) pre post] h fun v h'=>v=.bool (dp m ds l N)∧Sp h h' []:=by
 refine tn (some a) s (f,pre,post) ?_
 unfold nC
 refine(Sp.refl h).boxed fun a1 h1 R1=>R1.boxed fun a2 h2 R2=>?_
 have H2:aa B h0 h2 (aI aR a pw (aD x) offs da w ds::As):=H.up R2.ah
 have b1:bK h2 a1 xE [.pointer (some a)]:=R2.box 0 rfl
 have b2:=R2.box 1 rfl
 refine(Du rY #[] #[.pointer (some a1),.pointer (some a2)] (fun k=>!eU m ds k (N k)) s l h2 (by rfl) (hs.up R2.ah) hl ?_).mono ?_
 ·intro k hk h3 R3
  have H3:=H2.up R3.ah
  have c1:=(b1.ah R3.ah b1.lt).cell0 rfl
  have c2:=(b2.ah R3.ah b2.lt).cell0 rfl
  obtain⟨ok,hb⟩:=aa.cb H3
  have hk64:=hin k hk
  refine rk k a1 a2 ?_
  unfold lM
  obtain⟨n,rfl⟩:∃n:Nat,k=n:=⟨k.toNat,by omega⟩
  have hn:n<da.length:=by rw[ok.la];omega
  have cd:cellOf h3 ((a.add 10).add ((n:Int).toNat*1))=some (.pointer da[n]):=by
   rw[Int.toNat_natCast,Nat.mul_one]
   refine hb.qJ 10 n ?_
   rw[qL ok.l8,List.getElem?_eq_getElem hn];rfl
  obtain⟨hx3,ht3⟩:=hS.at [_] H3
  refine⟨some a,c1,a,rfl,⟨by omega,by omega⟩,da[n],cd,some a,c1,a,rfl,x,hb.aL _ rfl,(f,pre,post),c2,dU hf ?_⟩
  refine(ht3 n hk).mono ?_
  rintro _ h4 ⟨rfl,R4⟩
  have H4:=H3.up R4.ah
  have c1':=((b1.ah R3.ah b1.lt).ah R4.ah (b1.ah R3.ah b1.lt).lt).cell0 rfl
  have hb4:=hb.ah R4.ah hb.lt
  have cd4:cellOf h4 ((a.add 10).add ((n:Int).toNat*1))=some (.pointer da[n]):=by
   rw[Int.toNat_natCast,Nat.mul_one]
   refine hb4.qJ 10 n ?_
   rw[qL ok.l8,List.getElem?_eq_getElem hn];rfl
  refine⟨_,rfl,⟨hb4.cell0 rfl,hb4.cell rfl,hb4.cell rfl,hb4.cell rfl,hb4.cell rfl,hb4.cell rfl,hb4.cell rfl,hb4.cell rfl,c1',cd4,c1',trivial⟩,?_⟩
  have hdn:ij da (n:Int)=da[n]:=by unfold ij;rw[if_pos (by omega),Int.toNat_natCast,List.getElem?_eq_getElem hn];rfl
  rw[←hdn]
  have fin:∀{bb:Bool} {h5:Heap},bb=eU m ds n (N n)→Sp h4 h5 []→ak.ok [(a1,.pointer (some a)),(a1,.pointer (some a))] h5∧(Value.bool (!bb)=.bool (!eU m ds n (N n))∧Sp h3 h5 []):=fun{bb h5} he R5=>by
   have b4:=(b1.ah R3.ah b1.lt).ah R4.ah (b1.ah R3.ah b1.lt).lt
   have:=(b4.ah R5.ah b4.lt).cell0 rfl
   exact⟨⟨this,this,trivial⟩,by rw[he],.zip (aa.up R4 R5.ah).ah⟩
  rcases jd ok (n:Int)with⟨e1,e2⟩|⟨n',d,b,e0,e1,e2,e3,e4,e5⟩
  ·rw[e2]
   refine(wP x _ h4).mono ?_
   rintro _ h5 ⟨rfl,R5⟩
   exact⟨_,rfl,fin (by unfold eU;rw[e1]) R5⟩
  ·rw[e5]
   obtain⟨b',hb',H5⟩:=Go.Vc.aa.gX H4 e2
   rw[e4]at hb'
   injection hb' with hb'
   injection hb' with hb'
   subst hb'
   obtain⟨okd,sd,bd,H6⟩:=aa.nf H5
   refine(wO sd bd x m (N n) (H6.box 0 rfl) ((H6.aS 2 [1]).Iy fun _=>rfl) (aa.sV (H6.aS 2 [1])).1 okd (hS.at [_] H4).1 hz).mono ?_
   rintro _ h5 ⟨rfl,R5⟩
   exact⟨_,rfl,fin (by unfold eU;rw[e3]) R5⟩
 ·rintro _ h3 ⟨rfl,R3⟩
  refine⟨_,rfl,?_,.zip (aa.up R2 R3.ah).ah⟩
  unfold dp
  rw[List.not_any_eq_all_not]
  simp
theorem wQ (x:bw) (n:Int) (h:Heap):ab Tryz.prog pF #[.pointer none,dj x,.int .i64 n] h fun v h'=>v=.int .i64 5∧Sp h h' []:=by
 refine ux none x n ?_
 unfold ri
 refine(Sp.refl h).boxed fun a1 h1 H1=>?_
 exact aU (aU (bu (fun _=>bu (fun _=>⟨rfl,.zip H1.ah⟩) fun e=>by cases e) fun e=>by cases e))
theorem Bi (m:aF) (N:Int→Int) (l:List Int) (w:Pow) (ds:aN) (i:Nat) (hi:i<l.length):makes m N (l.drop i) w ds=if(cJ m w ds l[i] (N l[i])).1=0 then makes m N (l.drop (i+1)) (cJ m w ds l[i] (N l[i])).2.1 (cJ m w ds l[i] (N l[i])).2.2 else cJ m w ds l[i] (N l[i]):=by
 rw[List.drop_eq_getElem_cons hi];rfl
theorem Bj (f:FuncId) (pre post:Array Value) (N:Int→Int) (x:bw) (m:aF) (s:Sl) (l:List Int) (hf:C.fns[f]?=some true) (hS:St B h0 As fun h=>cL h x m∧Ew f pre post N l h∧Rd h s 1 av l) (hz:bR m) (hl:l.length≤2^30) (hin:∀k∈l,0≤k∧k<64) (H:aa B h0 h (aI aR a pw (aD x) offs da w ds::As)):
  ab Tryz.prog tq #[.pointer (some a),.slice s.ptr s.len s.cap,.func (.func f) pre post] h fun v h'=>v=.int .i64 (makes m N l w ds).1∧aa B h0 h' (aI aR a pw (aD x) offs da (makes m N l w ds).2.1 (makes m N l w ds).2.2::As):=by
 refine rU (some a) s (f,pre,post) ?_
 unfold mq
 have hsl:=(hS.at [_] H).2.2.len
 obtain⟨Z,hZ⟩:∃Z,Z=makes m N l w ds:=⟨_,rfl⟩
 rw[←hZ]
 refine aB (fun t:Nat×Pow×aN=>(t.1:Int)) (fun t h'=>t.1≤l.length∧Z=makes m N (l.drop t.1) t.2.1 t.2.2∧aa B h0 h' (aI aR a pw (aD x) offs da t.2.1 t.2.2::As)) (fun t=>l.length-t.1) (0,w,ds) rfl ⟨by simp,hZ,H⟩ ?_
 rintro⟨i,w1,ds1⟩ h1 ⟨hi,hm,H1⟩
 dsimp only at*
 refine al (fun e=>?_) fun e=>?_
 ·have hi':i<l.length:=by omega
  rw[Bi _ _ _ _ _ _ hi']at hm
  obtain⟨hx1,ht1,hs1⟩:=hS.at [_] H1
  refine hs1.cr i rfl hi' l[i] rfl (aU ?_)
  have hk64:=hin l[i] (List.getElem_mem hi')
  obtain⟨k,hk⟩:∃k,k=l[i]:=⟨_,rfl⟩
  have hkm:k∈l:=by rw[hk];exact List.getElem_mem hi'
  rw[←hk]at hm hk64
  rw[←hk]
  obtain⟨n,rfl⟩:∃n:Nat,k=n:=⟨k.toNat,by omega⟩
  obtain⟨ok,hb⟩:=aa.cb H1
  have hn:n<da.length:=by rw[ok.la];omega
  have cd:∀{h':Heap},bK h' a fm (cx (aD x) pw offs da)→cellOf h' ((a.add 10).add ((n:Int).toNat*1))=some (.pointer da[n]):=fun{h'} hb=>by
   rw[Int.toNat_natCast,Nat.mul_one]
   refine hb.qJ 10 n ?_
   rw[qL ok.l8,List.getElem?_eq_getElem hn];rfl
  refine⟨a,rfl,⟨by omega,by omega⟩,da[n],cd hb,a,rfl,x,hb.aL _ rfl,dU hf ?_⟩
  refine(ht1 n hkm).mono ?_
  rintro _ h2 ⟨rfl,R2⟩
  have H2:=H1.up R2.ah
  have hb2:=hb.ah R2.ah hb.lt
  refine⟨_,rfl,⟨hb2.cell0 rfl,hb2.cell rfl,hb2.cell rfl,hb2.cell rfl,hb2.cell rfl,hb2.cell rfl,hb2.cell rfl,hb2.cell rfl,cd hb2,trivial⟩,?_⟩
  have hdn:ij da (n:Int)=da[n]:=by unfold ij;rw[if_pos (by omega),Int.toNat_natCast,List.getElem?_eq_getElem hn];rfl
  rw[←hdn]
  obtain⟨res,hres⟩:∃res,res=cJ m w1 ds1 n (N n):=⟨_,rfl⟩
  rw[←hres]at hm
  have fin:∀{h3:Heap},aa B h0 h3 (aI aR a pw (aD x) offs da res.2.1 res.2.2::As)→ak.ok [] h3∧Br (res.1 !=(0:Int)) (Value.int .i64 res.1=.int .i64 Z.1∧aa B h0 h3 (aI aR a pw (aD x) offs da Z.2.1 Z.2.2::As))
    (∃t':Nat×Pow×aN,IntKind.wrap .i64 ((i:Int)+1)=(t'.1:Int)∧(t'.1≤l.length∧Z=makes m N (l.drop t'.1) t'.2.1 t'.2.2∧aa B h0 h3 (aI aR a pw (aD x) offs da t'.2.1 t'.2.2::As))∧l.length-t'.1<l.length-i):=fun{h3} H3=>by
   refine⟨trivial,bP (fun e2=>?_) fun e2=>?_⟩
   ·rw[if_neg e2]at hm;rw[hm];exact⟨rfl,H3⟩
   ·rw[if_pos e2]at hm
    exact⟨(i+1,res.2.1,res.2.2),by dsimp only;rw[Go.Vc.wrap_small _ (by omega) (by omega)];rfl,⟨by dsimp only;omega,hm,H3⟩,by dsimp only;omega⟩
  rcases jd ok (n:Int)with⟨e1,e2⟩|⟨n',d,b,e0,e1,e2,e3,e4,e5⟩
  ·rw[e2]
   have es:res=(5,w1,ds1):=by rw[hres];unfold cJ;rw[e1]
   refine(wQ x _ h2).mono ?_
   rintro _ h3 ⟨rfl,R3⟩
   exact⟨res.1,by rw[es],fin (h3:=h3) (by rw[es];exact H2.up R3.ah)⟩
  ·rw[e5]
   have en:n=n':=by omega
   subst en
   obtain⟨b',hb',H5⟩:=Go.Vc.aa.gX H2 e2
   rw[e4]at hb'
   injection hb' with hb'
   injection hb' with hb'
   subst hb'
   have es:res=((eG m w1 d (N n)).1,(eG m w1 d (N n)).2.1,ds1.set n (some (eG m w1 d (N n)).2.2)):=by rw[hres];unfold cJ;rw[e3];simp only[fC,Int.toNat_natCast]
   refine(Dt x m (N n) (fun Bs h' hh=>(hS (Bs++[_]) h' (by rw[List.append_assoc];exact hh)).1) hz H5).mono ?_
   rintro _ h3 ⟨rfl,H6⟩
   have H7:=Go.Vc.aa.pR (k:=aR) (n:=n) e4 H6
   exact⟨res.1,by rw[es],fin (h3:=h3) (by rw[es];exact H7)⟩
 ·rw[List.drop_of_length_le (by omega)]at hm
  rw[hm]
  exact⟨rfl,H1⟩
end
end Go.Proofs.YtkciobclldnoiaaGreat
namespace Go.Proofs.YtkciobclldnoiaaGreat
open Go Go.Vc Go.Proofs Wl
set_option maxRecDepth 100000
def MV (a b:di):Int:=if dB a.1 b.1 then-1 else if gB a.1 b.1 then 0 else 1
def gu (a b:di):Bool:=gB a.1 b.1
theorem Gl (a b:di):MV a b<0↔¬gu b a=true:=by
 unfold MV gu gB
 cases h:dB a.1 b.1<;>simp
 split<;>omega
theorem wR:Ord gu:=⟨fun a b c=>vE a.1 b.1 c.1,fun a b=>vF a.1 b.1⟩
abbrev Gm (x:di):Value:=.agg #[.string x.1,.int .i64 x.2.1,.int .i64 x.2.2.1,.slice x.2.2.2.ptr x.2.2.2.len x.2.2.2.cap]
theorem Ek (x y:ByteArray) (h:Heap):ab Tryz.prog rX #[.string x,.string y] h fun v h'=>v=.int .i64 (if dB x y then-1 else if gB x y then 0 else 1)∧h'=h:=by
 refine rj x y ?_
 unfold lL
 have nan:∀z:ByteArray,ab Tryz.prog vg #[.string z] h fun v h'=>v=.bool false∧h'=h:=fun z=>by
  refine tI z ?_
  unfold nN
  exact⟨by simp,rfl⟩
 refine(nan x).mono ?_
 rintro _ _ ⟨rfl,rfl⟩
 refine⟨_,rfl,(nan y).mono ?_⟩
 rintro _ _ ⟨rfl,rfl⟩
 refine⟨_,rfl,bu (fun e=>by cases e) fun _=>bu (fun e=>by cases e) fun _=>?_⟩
 have e0:Op.bytesLess x.toList y.toList=dB x y:=rfl
 rw[Et,e0]
 have e1:(!Op.bytesLess y.toList x.toList)=gB x y:=rfl
 rw[e1]
 refine bu (fun e=>⟨by rw[e];rfl,rfl⟩) fun e=>aX (fun e2=>⟨by rw[e,e2];rfl,rfl⟩) fun e2=>⟨by rw[e,e2];rfl,rfl⟩
theorem JP (a b:di) (h:Heap):ab Tryz.prog fe #[Gm a,Gm b] h fun v h'=>v=.int .i64 (MV a b)∧Sp h h' []:=by
 refine y9 a b ?_
 unfold rW
 refine(Sp.refl h).boxed fun a1 h1 H1=>H1.boxed fun a2 h2 H2=>?_
 have H2:Sp h h2 [aj a1 aQ (bE a),aj a2 aQ (bE b)]:=H2
 refine⟨a.1,(H2.box 0 rfl).cell0 rfl,b.1,(H2.box 1 rfl).cell0 rfl,(Ek a.1 b.1 h2).mono ?_⟩
 rintro _ _ ⟨rfl,rfl⟩
 exact⟨_,rfl,rfl,.zip H2.ah⟩
abbrev og (s:Sl) (d:List di):HP:=an aQ s 4 bE d
end Go.Proofs.YtkciobclldnoiaaGreat
namespace Go.Proofs.YtkciobclldnoiaaGreat
open Go Go.Vc Go.Proofs Wl
set_option maxRecDepth 100000
section
variable {B:au} {h0 h h':Heap} {As:List HP} {s:Sl} {d:List di}
theorem HV {P1 P2:List di} {y:di} (hs:Sd gu (P1++P2)) (h1:∀z∈P1,gu z y=true) (h2:∀z∈P2,¬gu z y=true):Sd gu (P1++y::P2):=
 Sd.app wR hs.left (List.pairwise_cons.2 ⟨fun z hz=>wR.vB (h2 z hz),hs.right⟩) fun x hx z hz=>by
  rcases List.mem_cons.1 hz with rfl|hz
  ·exact h1 x hx
  ·exact hs.xt x hx z hz
theorem Bl (X M Y:List di) (a b:Int) (ha:a=(X.length:Int)) (hb:b=(X.length+M.length:Nat)) (hsz:X.length+M.length+Y.length≤2^40) (H:aa B h0 h (og s (X++(M++Y))::As)):
  ab Tryz.prog iX #[.slice s.ptr s.len s.cap,.int .i64 a,.int .i64 b,.func (.func fe) #[] #[]] h fun v h'=>v=.tuple #[]∧∃M',Sd gu M'∧bJ gu M M'∧aa B h0 h' (og s (X++(M'++Y))::As):=by
 refine iN s a b (fe,#[],#[]) ?_
 unfold fo
 subst ha;subst hb
 rw[Go.Vc.wrap_small ((X.length:Int)+1) (by omega) (by omega)]
 refine aB (fun t:Nat×List di=>((X.length+1+t.1:Nat):Int)) (fun t h'=>(t.1+1≤M.length∨t.1=0)∧Sd gu t.2∧bJ gu (M.take (t.1+1)) t.2∧t.2.length=(M.take (t.1+1)).length∧aa B h0 h' (og s (X++(t.2++(M.drop (t.1+1)++Y)))::As)) (fun t=>M.length-t.1) (0,M.take 1) rfl ?_ ?_
 ·refine⟨.inr rfl,?_,bJ.refl _,rfl,?_⟩
  ·cases M with
   |nil=>exact List.Pairwise.nil
   |cons x M=>exact List.pairwise_cons.2 ⟨fun _ h=>by simp at h,by simp⟩
  ·rw[←List.append_assoc (M.take (0+1)),List.take_append_drop];exact H
 rintro⟨t,P⟩ h1 ⟨ht,hsd,heq,hPl,H1⟩
 dsimp only at*
 refine al (fun e=>?_) (fun e=>?_)
 ·have ht1:t+1<M.length:=by omega
  obtain⟨y,hy⟩:∃y,y=M[t+1]:=⟨_,rfl⟩
  have hPt:P.length=t+1:=by rw[hPl];simp;omega
  have eD:M.drop (t+1)=y::M.drop (t+1+1):=by rw[List.drop_eq_getElem_cons ht1,hy]
  rw[eD]at H1
  refine aB (fun u:List di×List di=>((X.length+u.1.length:Nat):Int)) (fun u h'=>u.1++u.2=P∧(∀z∈u.2,¬gu z y=true)∧aa B h0 h' (og s (X++(u.1++(y::(u.2++(M.drop (t+1+1)++Y)))))::As)) (fun u=>u.1.length) (P,[]) (by dsimp only;rw[hPt];congr 1;omega) ⟨by simp,by simp,by simpa using H1⟩ ?_
  rintro⟨P1,P2⟩ h2 ⟨hP,hbig,H2⟩
  dsimp only at*
  have hPP:P1.length+P2.length=t+1:=by rw[←hPt,←hP,List.length_append]
  have done:∀{h':Heap},(∀z∈P1,gu z y=true)→aa B h0 h' (og s (X++(P1++(y::(P2++(M.drop (t+1+1)++Y)))))::As)→
    ∃t':Nat×List di,IntKind.wrap .i64 (((X.length+1+t:Nat):Int)+1)=((X.length+1+t'.1:Nat):Int)∧((t'.1+1≤M.length∨t'.1=0)∧Sd gu t'.2∧bJ gu (M.take (t'.1+1)) t'.2∧t'.2.length=(M.take (t'.1+1)).length∧aa B h0 h' (og s (X++(t'.2++(M.drop (t'.1+1)++Y)))::As))∧M.length-t'.1<M.length-t:=fun{h'} hle H'=>by
   refine⟨(t+1,P1++y::P2),by dsimp only;rw[Go.Vc.wrap_small _ (by omega) (by omega)];omega,⟨.inl (by dsimp only;omega),?_,?_,?_,?_⟩,by dsimp only;omega⟩
   ·exact HV (by rw[hP];exact hsd) hle hbig
   ·dsimp only
    rw[aM M (t+1) ht1,←hy]
    have h1:bJ gu (M.take (t+1)++[y]) (P++[y]):=heq.app (bJ.refl _)
    refine h1.trans ?_
    rw[←hP,List.append_assoc]
    have h2:bJ gu (P2++[y]) ([y]++P2):=bJ.KB wR fun x hx z hz=>by rw[List.mem_singleton.1 hz];exact hbig x hx
    exact(bJ.refl _).app h2
   ·dsimp only;simp;omega
   ·dsimp only
    have:X++((P1++y::P2)++(M.drop (t+1+1)++Y))=X++(P1++(y::(P2++(M.drop (t+1+1)++Y)))):=by simp
    rw[this];exact H'
  obtain⟨D,hD⟩:∃D,D=X++(P1++(y::(P2++(M.drop (t+1+1)++Y)))):=⟨_,rfl⟩
  refine cI (fun _ h'=>∃(Q:List di) (z:di),P1=Q++[z]∧¬gu z y=true∧aa B h0 h' (og s D::As)) ?_ ?_
  ·rw[←hD]at H2 done
   refine al (fun e2=>?_) (fun e2=>⟨trivial,done (fun z hz=>?_) H2⟩)
   ·have hne:P1≠[]:=fun h=>by rw[h]at e2;simp at e2
    obtain⟨Q,z,hQ⟩:∃(Q:List di) (z:di),P1=Q++[z]:=⟨P1.dropLast,P1.getLast hne,(List.dropLast_concat_getLast hne).symm⟩
    have hQl:P1.length=Q.length+1:=by rw[hQ];simp
    have g1:D[X.length+P1.length]?=some y:=by
     rw[hD,List.getElem?_append_right (by omega),show X.length+P1.length-X.length=P1.length by omega,List.getElem?_append_right (by omega),Nat.sub_self];rfl
    have g2:D[X.length+P1.length-1]?=some z:=by
     rw[hD,List.getElem?_append_right (by omega),show X.length+P1.length-1-X.length=Q.length by omega,hQ,List.append_assoc,List.getElem?_append_right (Nat.le_refl _),Nat.sub_self];rfl
    obtain⟨k1,k1'⟩:=List.getElem?_eq_some_iff.1 g1
    obtain⟨k2,k2'⟩:=List.getElem?_eq_some_iff.1 g2
    refine(H2.seq 0 rfl fun _=>rfl).eu (g:=bE) _ rfl k1 y (by rw[k1']) ?_
    have ej:IntKind.wrap .i64 (((X.length+P1.length:Nat):Int)-1)=((X.length+P1.length-1:Nat):Int):=by rw[Go.Vc.wrap_small _ (by omega) (by omega)];omega
    rw[ej]
    refine(H2.seq 0 rfl fun _=>rfl).eu (g:=bE) _ rfl k2 z (by rw[k2']) (dU (by rfl) ?_)
    refine(JP y z h2).mono ?_
    rintro _ h3 ⟨rfl,R3⟩
    have H3:=H2.up R3.ah
    refine⟨_,rfl,trivial,al (fun e3=>⟨Q,z,hQ,(Gl y z).1 e3,H3⟩) fun e3=>done (fun w hw=>?_) H3⟩
    have hzy:gu z y=true:=by
     by_cases hc:gu z y=true
     ·exact hc
     ·exact absurd ((Gl y z).2 hc) e3
    rw[hQ]at hw
    rcases List.mem_append.1 hw with hw|hw
    ·refine wR.trans _ _ _ ?_ hzy
     have:Sd gu (Q++[z]):=by rw[←hQ];exact Sd.left (v:=P2) (by rw[hP];exact hsd)
     exact this.xt w hw z (by simp)
    ·rw[List.mem_singleton.1 hw];exact hzy
   ·have:P1=[]:=by
     cases P1 with
     |nil=>rfl
     |cons x P=>exfalso;simp only[List.length_cons]at e2;omega
    rw[this]at hz;cases hz
  ·rintro _ h3 ⟨Q,z,hQ,hzy,H3⟩
   have hQl:P1.length=Q.length+1:=by rw[hQ];simp
   have eform:D=(X++Q)++z::([]++y::(P2++(M.drop (t+1+1)++Y))):=by rw[hD,hQ];simp
   obtain⟨q1,q2,q3,q4⟩:=FY (X++Q) [] (P2++(M.drop (t+1+1)++Y)) z y (i:=X.length+P1.length-1) (j:=X.length+P1.length) (by simp;omega) (by simp;omega)
   rw[←eform]at q1 q2 q3 q4
   obtain⟨k2,k2'⟩:=List.getElem?_eq_some_iff.1 q1
   obtain⟨k1,k1'⟩:=List.getElem?_eq_some_iff.1 q2
   have ej:IntKind.wrap .i64 (((X.length+P1.length:Nat):Int)-1)=((X.length+P1.length-1:Nat):Int):=by rw[Go.Vc.wrap_small _ (by omega) (by omega)];omega
   rw[ej]
   refine(H3.seq 0 rfl fun _=>rfl).eu (g:=bE) _ rfl k2 z (by rw[k2']) ?_
   refine(H3.seq 0 rfl fun _=>rfl).eu (g:=bE) _ rfl k1 y (by rw[k1']) ?_
   refine H3.set ag 0 rfl (fun _=>rfl) rfl (X.length+P1.length) rfl k1 z rfl rfl rfl fun h4 H4=>⟨trivial,?_⟩
   refine H4.set ag 0 rfl (fun _=>rfl) rfl (X.length+P1.length-1) rfl (by simpa using k2) y rfl rfl rfl fun h5 H5=>⟨trivial,?_⟩
   refine⟨(Q,z::P2),by dsimp only;congr 1;omega,⟨by dsimp only;rw[←hP,hQ];simp,?_,?_⟩,by dsimp only;omega⟩
   ·dsimp only
    intro w hw
    rcases List.mem_cons.1 hw with rfl|hw
    ·exact hzy
    ·exact hbig w hw
   ·dsimp only
    have:X++(Q++(y::(z::P2++(M.drop (t+1+1)++Y))))=(X++Q)++y::([]++z::(P2++(M.drop (t+1+1)++Y))):=by simp
    rw[this,←q4];exact H5
 ·refine⟨rfl,P,hsd,?_,?_⟩
  ·rw[List.take_of_length_le (by omega)]at heq;exact heq
  ·rw[List.drop_of_length_le (by omega)]at H1;simpa using H1
theorem Gn (r:Nat) (h:Heap) (hr:r≤2^32):ab Tryz.prog pH #[.int .u64 r] h fun v h'=>(∃k:Int,v=.int .i64 k)∧h'=h:=by
 intro w hw
 refine(Tryz.bits_Len (r:Int) w (by omega) (by omega)).mono ?_
 rintro e w' ⟨rfl,rfl⟩
 exact⟨_,rfl,cn.refl _,⟨_,rfl⟩,hw⟩
theorem JQ (d:List di) (hd:d.length≤12) (H:aa B h0 h (og s d::As)):
  ab Tryz.prog jy #[.slice s.ptr s.len s.cap,.func (.func fe) #[] #[]] h fun v h'=>v=.tuple #[]∧aa B h0 h' (og s (d.mergeSort gu)::As):=by
 refine jm s (fe,#[],#[]) ?_
 unfold fF
 have hl:=(H.own 0 rfl).len
 have hrun:∀k:Int,ab Tryz.prog kp #[.slice s.ptr s.len s.cap,.int .i64 0,.int .i64 (s.len:Nat),.int .i64 k,.func (.func fe) #[] #[]] h fun v h'=>v=.tuple #[]∧aa B h0 h' (og s (d.mergeSort gu)::As):=fun k=>by
  refine j7 s 0 (s.len:Nat) k (fe,#[],#[]) ?_
  unfold gq
  refine aB (fun _:Unit=>((0:Int),((s.len:Nat):Int),k,true,true)) (fun _ h'=>h'=h) (fun _=>0) () rfl rfl ?_
  rintro _ h1 rfl
  refine al (fun _=>?_) fun e=>absurd (show IntKind.wrap .i64 (((s.len:Nat):Int)-0)≤12 by rw[Go.Vc.wrap_small _ (by omega) (by omega)];omega) e
  refine(Bl [] d [] 0 (s.len:Nat) rfl (by simp[hl]) (by simp;omega) (by simpa using H)).mono ?_
  rintro _ h2 ⟨rfl,M,hs,he,H2⟩
  refine⟨(),rfl,rfl,?_⟩
  rw[←Nw wR hs he]
  simpa using H2
 have ew:IntKind.wrap .u64 ((s.len:Nat):Int)=((s.len:Nat):Int):=by unfold IntKind.wrap;simp[IntKind.bits,IntKind.signed];omega
 rw[ew]
 refine(Gn s.len h (by omega)).mono ?_
 rintro _ h1 ⟨⟨k,rfl⟩,rfl⟩
 refine⟨k,rfl,(hrun k).mono ?_⟩
 rintro _ h2 ⟨rfl,H2⟩
 exact⟨(),rfl,rfl,H2⟩
end
end Go.Proofs.YtkciobclldnoiaaGreat
namespace Go.Proofs.YtkciobclldnoiaaGreat
open Go Go.Vc Go.Proofs Wl
set_option maxRecDepth 100000
section
variable {B:au} {h0 h:Heap} {As:List HP}
def sH:bw:=(0,0,0,0,0,0,⟨none,0,0⟩,⟨none,0,0⟩)
theorem HW {m:aF} {e:Wl.cK} {xe:di} {L:List (di×Wl.cK)} {pool:List (Sl×List Int)} (hm:L.map Prod.snd=m.aJ) (hL:∀p∈L,tO pool p) (hx:tO pool (xe,e)):
  ∃L':List (di×Wl.cK),L'.map Prod.fst=(L.map Prod.fst++[xe]).mergeSort gu∧L'.map Prod.snd=(m.aJ++[e]).mergeSort oD∧∀p∈L',tO pool p:=by
 have hall:∀p∈L++[(xe,e)],tO pool p:=fun p hp=>by
  rcases List.mem_append.1 hp with hp|hp
  ·exact hL p hp
  ·rw[List.mem_singleton.1 hp];exact hx
 refine⟨(L++[(xe,e)]).mergeSort fun a b=>gu a.1 b.1,?_,?_,fun p hp=>hall p ((List.mergeSort_perm _ _).mem_iff.1 hp)⟩
 ·rw[List.map_mergeSort (r:=fun a b=>gu a.1 b.1) (s:=gu) (f:=Prod.fst) (fun a _ b _=>rfl),List.map_append];rfl
 ·rw[List.map_mergeSort (r:=fun a b=>gu a.1 b.1) (s:=oD) (f:=Prod.snd) (fun a ha b hb=>by unfold gu oD;rw[(hall a ha).1.1,(hall b hb).1.1]),List.map_append,hm];rfl
theorem Lt (x:bw) (m:aF) (xe:di) (e:Wl.cK) (hx:cL h x m) (hz:bR m) (hs:0≤m.seq∧m.seq≤2^40) (hn:0≤m.next∧m.next≤2^40) (ho:m.aJ.length≤11) (he:xe.1=e.name∧xe.2.1=e.object∧xe.2.2.1=e.length) (H:aa B h0 h (qY xe.2.2.2 1 av e.tries::As)):
  ab Tryz.prog ur #[dj x,Gm xe] h fun v h'=>∃y:bw,v=dj y∧aa B h0 h' (bC y (iy m e)::As):=by
 refine Cf x xe ?_
 unfold vR
 refine(Sp.refl h).boxed fun a1 h1 H1=>H1.boxed fun a2 h2 H2=>H2.alloc ag rfl fun a3 h3 H3=>?_
 have H3:Sp h h3 [aj a1 ao (aD x),aj a2 aQ (bE xe),aj a3 ao (aD sH)]:=H3
 refine⟨x,(H3.box 0 rfl).aL _ rfl,(mM x m h3 (hx.up H3.ah) hz).mono ?_⟩
 rintro _ h4 ⟨y,L,pool,rfl,hf,hm,hL,R4⟩
 have H4:=((H3.cE [1,2]).comp R4).front
 refine⟨y,rfl,H4.alloc ag rfl fun a6 h5 H5=>?_⟩
 have H5:=H5.bW
 refine H5.storeAll ag 0 rfl rfl (aD y) rfl rfl rfl rfl fun h6 H6=>?_
 have H6:Sp h h6 [aj a6 ao (aD y),dd 1 av pool,an aA y.2.2.2.2.2.2.1 1 av m.drives,an aQ y.2.2.2.2.2.2.2 4 bE (L.map Prod.fst),aj a2 aQ (bE xe),aj a3 ao (aD sH)]:=H6
 refine⟨y.1,(H6.box 0 rfl).cell0 rfl,?_⟩
 have e1:IntKind.wrap .i64 (y.1+1)=m.seq+1:=by rw[hf.1,Go.Vc.wrap_small _ (by omega) (by omega)]
 have e2:IntKind.wrap .i64 (y.2.1+1)=m.next+1:=by rw[hf.2.1,Go.Vc.wrap_small _ (by omega) (by omega)]
 rw[e1]
 refine H6.rF ag 0 rfl rfl [.int .i64 (m.seq+1)] rfl rfl rfl (by simp[Value.cells]) fun h7 H7=>?_
 have H7:Sp h h7 [aj a6 ao (.int .i64 (m.seq+1)::(aD y).drop 1),dd 1 av pool,an aA y.2.2.2.2.2.2.1 1 av m.drives,an aQ y.2.2.2.2.2.2.2 4 bE (L.map Prod.fst),aj a2 aQ (bE xe),aj a3 ao (aD sH)]:=H7
 refine⟨y.2.1,(H7.box 0 rfl).cell rfl,?_⟩
 rw[e2]
 refine H7.store ag 0 rfl rfl 1 [.int .i64 (m.next+1)] rfl rfl rfl (by simp[Value.cells]) fun h8 H8=>?_
 have H8:Sp h h8 [aj a6 ao (.int .i64 (m.seq+1)::.int .i64 (m.next+1)::(aD y).drop 2),dd 1 av pool,an aA y.2.2.2.2.2.2.1 1 av m.drives,an aQ y.2.2.2.2.2.2.2 4 bE (L.map Prod.fst),aj a2 aQ (bE xe),aj a3 ao (aD sH)]:=H8
 have hLl:L.length=m.aJ.length:=by rw[←hm,List.length_map]
 refine⟨y.2.2.2.2.2.2.2,(H8.box 0 rfl).cell rfl,xe,(H8.box 4 rfl).aL _ rfl,?_⟩
 refine H8.push ag 3 rfl MF rfl (by decide) (fun _=>rfl) IJ xe rfl (by decide) (by simp;omega) fun o h10 H10=>?_
 refine H10.store ag 0 rfl rfl 7 [.slice o.ptr o.len o.cap] rfl rfl rfl (by simp[Value.cells]) fun h11 H11=>?_
 obtain⟨y2,hy2⟩:∃y2:bw,y2=(m.seq+1,m.next+1,y.2.2.1,y.2.2.2.1,y.2.2.2.2.1,y.2.2.2.2.2.1,y.2.2.2.2.2.2.1,o):=⟨_,rfl⟩
 have ed:y2.2.2.2.2.2.2.1=y.2.2.2.2.2.2.1:=by rw[hy2]
 have eo:y2.2.2.2.2.2.2.2=o:=by rw[hy2]
 have H11:Sp h h11 [aj a6 ao (aD y2),dd 1 av pool,an aA y2.2.2.2.2.2.2.1 1 av m.drives,an aQ y2.2.2.2.2.2.2.2 4 bE (L.map Prod.fst++[xe]),aj a2 aQ (bE xe),aj a3 ao (aD sH)]:=by rw[ed,eo,hy2];exact H11
 refine⟨y2.2.2.2.2.2.2.2,(H11.box 0 rfl).cell rfl,?_⟩
 have H11:=H11.aS 6 [3,0,1,2,4,5]
 refine(JQ (L.map Prod.fst++[xe]) (by simp;omega) H11).mono ?_
 rintro _ h12 ⟨rfl,H12⟩
 have H12:Sp h h12 [og y2.2.2.2.2.2.2.2 ((L.map Prod.fst++[xe]).mergeSort gu),aj a6 ao (aD y2),dd 1 av pool,an aA y2.2.2.2.2.2.2.1 1 av m.drives,aj a2 aQ (bE xe),aj a3 ao (aD sH)]:=H12
 refine⟨(),rfl,y2,(H12.box 1 rfl).aL _ rfl,?_⟩
 refine H12.storeAll ag 5 rfl rfl (aD y2) rfl rfl rfl rfl fun h13 H13=>?_
 have H13:Sp h h13 [og y2.2.2.2.2.2.2.2 ((L.map Prod.fst++[xe]).mergeSort gu),aj a6 ao (aD y2),dd 1 av pool,an aA y2.2.2.2.2.2.2.1 1 av m.drives,aj a2 aQ (bE xe),aj a3 ao (aD y2)]:=H13
 refine⟨y2,(H13.box 5 rfl).aL _ rfl,y2,rfl,?_⟩
 obtain⟨L',l1,l2,l3⟩:=HW (pool:=(xe.2.2.2,e.tries)::pool) (m:=m) (e:=e) (xe:=xe) hm (fun p hp=>⟨(hL p hp).1,List.mem_cons_of_mem _ (hL p hp).2⟩) ⟨he,List.mem_cons_self⟩
 have HF:=((H.comp (H13.cE [2,3,0])).front).aS 4 [0,3,1,2]
 have HF:aa B h0 h13 (dd 1 av ((xe.2.2.2,e.tries)::pool)::an aA y2.2.2.2.2.2.2.1 1 av m.drives::an aQ y2.2.2.2.2.2.2.2 4 bE ((L.map Prod.fst++[xe]).mergeSort gu)::As):=aa.IL HF
 rw[←l1]at HF
 refine aa.zr (m:=iy m e) ⟨by rw[hy2];rfl,by rw[hy2];rfl,by rw[hy2];exact hf.2.2.1,by rw[hy2];exact hf.2.2.2⟩ l2 l3 HF
end
end Go.Proofs.YtkciobclldnoiaaGreat
namespace Go.Proofs.YtkciobclldnoiaaGreat
open Go Go.Vc Go.Proofs Wl
set_option maxRecDepth 100000
section
variable {B:au} {h0 h:Heap} {As:List HP} {a pw:Addr} {offs:Int} {da:List (Option Addr)} {w:Pow} {ds:aN}
theorem aa.Lu {x y:bw} (H:aa B h0 h (aI aR a pw (aD x) offs da w ds::As)) {K:Unit→Heap→Prop} (hk:∀h',aa B h0 h' (aI aR a pw (aD y) offs da w ds::As)→K () h'):
  ae Tryz.prog (Instr.storeAt ao (.pointer (some a)) (dj y)) h K:=by
 obtain⟨ok,H1⟩:=Go.Vc.aa.mP H
 refine H1.rF ag 0 rfl rfl (aD y) rfl rfl rfl (by simp) fun h' H2=>hk h' ?_
 exact aa.nO (k:=aR) ⟨rfl,ok.la,ok.ls,ok.same⟩ H2
theorem Bm (x z:bw) (mn:aF) (s:Sl) (l:List Int) (hS:St B h0 As fun h=>cL h z mn∧Rd h s 1 av l) (hz:bR mn) (hl:l.length≤2^10) (hin:∀k∈l,0≤k∧k<64) (H:aa B h0 h (aI aR a pw (aD x) offs da w ds::As)):
  ab Tryz.prog uX #[.pointer (some a),dj z,.slice s.ptr s.len s.cap] h fun v h'=>v=.int .i64 (layAll (bn mn l) w ds).1∧
   ((layAll (bn mn l) w ds).1≠0→aa B h0 h' (aI aR a pw (aD x) offs da (layAll (bn mn l) w ds).2.1 (layAll (bn mn l) w ds).2.2::As))∧
   ((layAll (bn mn l) w ds).1=0→∃y,aa B h0 h' (aI aR a pw (aD y) offs da (layAll (bn mn l) w ds).2.1 (layAll (bn mn l) w ds).2.2::bC y mn::As)):=by
 refine tt (some a) z s ?_
 unfold nD
 refine H.boxed fun a1 h1 H1=>?_
 have H1:=H1.bW
 refine⟨z,(H1.box 0 rfl).aL _ rfl,(yv z mn s l h1 (hS.at [_,_] H1).1 hz (hS.at [_,_] H1).2 hl).mono ?_⟩
 rintro _ h2 ⟨r,ys,rfl,R2⟩
 have H2:=(H1.ck R2).aS 3 [2,0,1]
 have hspl:=gY mn hz
 have hmul:=Nat.mul_le_mul hl hspl
 refine⟨r,rfl,(qM r ys (bn mn l) (St.cQ 0 rfl fun _ hq=>hq) (by rw[rz];omega) (fun q hq=>?_) H2).mono ?_⟩
 ·obtain⟨hy1,hy2⟩:=il hq
  rw[hy2]
  exact⟨hin _ hy1,by decide⟩
 rintro _ h3 ⟨rfl,H3⟩
 obtain⟨R,hR⟩:∃R,R=layAll (bn mn l) w ds:=⟨_,rfl⟩
 rw[←hR]at H3⊢
 refine⟨_,rfl,bP (fun e=>⟨rfl,fun _=>H3.aS 3 [0],fun h=>absurd h e⟩) fun e=>?_⟩
 have H3:aa B h0 h3 (aI aR a pw (aD x) offs da R.2.1 R.2.2::cG cT 2 piv r ys (bn mn l)::aj a1 ao (aD z)::As):=H3
 refine⟨z,(H3.box 2 rfl).aL _ rfl,(A7 z mn h3 (hS.at [_,_,_] H3).1 hz).mono ?_⟩
 rintro _ h4 ⟨y,rfl,R4⟩
 have H4:=(H3.ck R4).aS 4 [1,0]
 refine⟨y,rfl,a,rfl,aa.Lu H4 fun h5 H5=>?_⟩
 exact⟨by rw[e],fun h=>absurd e h,fun _=>⟨y,H5⟩⟩
def lX (name:ByteArray) (e:Wl.cK):Bool:=e.name.toList==name.toList
theorem find_spec (x:bw) (m:aF) (name:ByteArray) (hx:cL h x m) (hz:bR m) (H:aa B h0 h (aI aR a pw (aD x) offs da w ds::As)):
  ab Tryz.prog u7 #[.pointer (some a),.string name] h fun v h'=>(∃i:Int,v=.int .i64 i∧ML (lX name) m.aJ i)∧Sp h h' []:=by
 refine tw (some a) name ?_
 unfold nG
 refine(Sp.refl h).boxed fun a1 h1 R1=>?_
 have b1:bK h1 a1 MC [.string name]:=R1.box 0 rfl
 obtain⟨ok,hb⟩:=aa.cb H
 have hb1:=hb.ah R1.ah hb.lt
 have hob:=hz.ob
 refine⟨a,rfl,x.2.2.2.2.2.2.2,hb1.cell rfl,?_⟩
 refine(yw sf #[] #[.pointer (some a1)] (lX name) x.2.2.2.2.2.2.2 m.aJ h1 (by rfl) (hx.up R1.ah).aJ hob ?_).mono ?_
 ·intro u E h2 R2 hu hE
  refine rp u a1 ?_
  unfold lP
  refine(Sp.refl h2).boxed fun a2 h3 R3=>?_
  have b3:=(b1.ah R2.ah b1.lt)
  have b4:=b3.ah R3.ah b3.lt
  refine⟨u.1,(R3.box 0 rfl).cell0 rfl,name,b4.cell0 rfl,?_,.zip R3.ah⟩
  unfold lX
  rw[hu.1.1]
 ·rintro _ h2 ⟨⟨i,rfl,hi⟩,R2⟩
  exact⟨i,rfl,⟨i,rfl,hi⟩,.zip (aa.up R1 R2.ah).ah⟩
theorem Dv {mc:List Value} (H:aa B h0 h (aI aR a pw mc offs da w ds::As)):ab Tryz.prog vY #[.pointer (some a)] h fun v h'=>v=.bool (dT w offs)∧h'=h:=by
 refine u6 (some a) ?_
 unfold ov
 refine bu (fun e=>by cases e) fun _=>(sC H).mono ?_
 rintro _ _ ⟨rfl,rfl⟩
 exact⟨_,rfl,rfl,rfl⟩
def dw (m:aF) (down:Bool) (ds:aN) (name:ByteArray) (n:Nat):Int:=
 if down then 14 else if !gS name then 3 else if m.aJ.any (lX name)then 4
 else if m.p.1*m.p.2.2*8<(n:Int)∨12≤m.aJ.length then 6
 else if bg ds m.drives=[]∨16777215<m.next∨2147483647≤m.seq then 7 else 0
theorem Gp (x:bw) (m:aF) (name:ByteArray) (s:Sl) (n:Nat) (hn:s.len=n) (hns:name.size≤2^40) (hx:cL h x m) (hz:bR m) (hp:bU m.p=true) (H:aa B h0 h (aI aR a pw (aD x) offs da w ds::As)):
  ab Tryz.prog rf #[.pointer (some a),.string name,.slice s.ptr s.len s.cap] h fun v h'=>v=.int .i64 (dw m (dT w offs) ds name n)∧Sp h h' []:=by
 refine qi (some a) name s ?_
 unfold kW
 have hmp:=(cg m.p).1 hp
 refine(Dv H).mono ?_
 rintro _ h1 ⟨rfl,rfl⟩
 refine⟨_,rfl,bu (fun e=>⟨by unfold dw;rw[e];rfl,Sp.refl _⟩) fun e1=>?_⟩
 refine(Dk name h1 hns).mono ?_
 rintro _ h2 ⟨rfl,R2⟩
 refine⟨_,rfl,aX (fun e=>⟨by unfold dw;rw[e1,e];rfl,R2⟩) fun e2=>?_⟩
 have H2:=H.up R2.ah
 have hx2:=hx.up R2.ah
 refine(find_spec x m name hx2 hz H2).mono ?_
 rintro _ h3 ⟨⟨i,rfl,hi⟩,R3⟩
 have hP:Sp h1 h3 []:=.zip (aa.up R2 R3.ah).ah
 have hia:=Gc hi
 refine⟨i,rfl,bu (fun e=>⟨by unfold dw;rw[e1,e2,←hia,e];rfl,hP⟩) fun e3=>?_⟩
 rw[e3]at hia
 have H3:=H2.up R3.ah
 have hx3:=hx2.up R3.ah
 obtain⟨ok,hb⟩:=aa.cb H3
 have hol:=cW.len hx3.aJ
 have he5:x.2.2.1=m.p.1:=congrArg (·.1) hx3.p
 have he7:x.2.2.2.2.1=m.p.2.2:=congrArg (·.2.2) hx3.p
 have hk:m.p.1*m.p.2.2≤16*24:=Int.mul_le_mul (by omega) (by omega) (by omega) (by omega)
 have hk0:0≤m.p.1*m.p.2.2:=Int.mul_nonneg (by omega) (by omega)
 refine cI (fun(t:Bool) h'=>t=decide (m.p.1*m.p.2.2*8<(n:Int)∨12≤m.aJ.length)∧h'=h3) ?_ ?_
 ·refine⟨a,rfl,x.2.2.1,hb.cell rfl,a,rfl,x.2.2.2.2.1,by rw[addr_add];exact hb.cell rfl,?_⟩
  rw[he5,he7,Go.Vc.wrap_small (m.p.1*m.p.2.2) (by omega) (by omega),Go.Vc.wrap_small (m.p.1*m.p.2.2*8) (by omega) (by omega)]
  refine al (fun e=>⟨(decide_eq_true (.inl (by omega))).symm,rfl⟩) fun e=>?_
  refine⟨a,rfl,x.2.2.2.2.2.2.2,hb.cell rfl,?_,rfl⟩
  rw[decide_eq_decide];omega
 rintro t _ ⟨rfl,rfl⟩
 refine al (fun e=>⟨by unfold dw;rw[e1,e2,←hia,if_pos e];rfl,hP⟩) fun e4=>?_
 have er:dw m (dT w offs) ds name n=if bg ds m.drives=[]∨16777215<m.next∨2147483647≤m.seq then 7 else 0:=by
  unfold dw;rw[e1,e2,←hia,if_neg e4];rfl
 rw[er]
 refine(dS x m hx3 hz H3).mono ?_
 rintro _ h4 ⟨r,rfl,R4⟩
 have hrl:=(R4.own 0 rfl).len
 have hP4:Sp h1 h4 []:=.zip (aa.up hP R4.ah).ah
 have hb4:=hb.ah R4.ah hb.lt
 refine⟨r,rfl,cY (fun e=>⟨by rw[if_pos (.inl (List.eq_nil_of_length_eq_zero (by omega)))],hP4⟩) fun e=>?_⟩
 have hne:bg ds m.drives≠[]:=fun hh=>by rw[hh]at hrl;simp at hrl;omega
 refine⟨a,rfl,x.2.1,hb4.cell rfl,al (fun e=>⟨by rw[if_pos (.inr (.inl (by rw[←hx3.next];omega)))],hP4⟩) fun e6=>?_⟩
 have hnx:=hx3.next
 have hsq:=hx3.seq
 refine⟨a,rfl,x.1,hb4.cell0 rfl,al (fun e=>⟨by rw[if_pos (.inr (.inr (by omega)))],hP4⟩) fun e7=>⟨?_,hP4⟩⟩
 rw[if_neg]
 rintro(h|h|h)
 ·exact hne h
 ·omega
 ·omega
end
end Go.Proofs.YtkciobclldnoiaaGreat
namespace Go.Proofs.YtkciobclldnoiaaGreat
open Go Go.Vc Go.Proofs Wl
set_option maxRecDepth 100000
theorem Pc:∃i e2,C.T.get aW=some i∧i.bV=.slice e2:=⟨_,_,rfl,rfl⟩
def pX (A B:bz) (k:Nat):bz:=dM (A.take k) (B.take k)++A.drop k
theorem Bn {A B:bz} (h:B.length=A.length) (k:Nat):(pX A B k).length=A.length:=by simp[pX,dM,h];omega
theorem Pd {A B:bz} (h:B.length=A.length) {k:Nat} (hk:k<A.length):(pX A B k)[k]?=some A[k]:=by
 have:(dM (A.take k) (B.take k)).length=k:=by simp[dM];omega
 rw[pX,List.getElem?_append_right (by omega),this,Nat.sub_self,List.getElem?_drop,Nat.add_zero,List.getElem?_eq_getElem hk]
theorem Pe {A B:bz} (h:B.length=A.length) {k:Nat} (hk:k<A.length):(pX A B k).set k (A[k]++B[k]'(by omega))=pX A B (k+1):=by
 have hl:(dM (A.take k) (B.take k)).length=k:=by simp[dM];omega
 rw[pX,List.set_append_right _ _ (by omega),hl,Nat.sub_self,List.drop_eq_getElem_cons hk,List.set_cons_zero,pX,aM _ _ hk,aM _ _ (show k<B.length by omega),dM,dM,List.zipWith_append (by simp;omega),List.append_assoc]
 rfl
theorem Pf {A B:bz} (h:B.length=A.length):pX A B A.length=dM A B:=by
 rw[pX,List.take_length,←h,List.take_length,h,List.drop_length,List.append_nil]
set_option maxHeartbeats 1000000 in
theorem JR (f:Addr) (a b:Sl) (A B:bz) (n w:Nat) (h:Heap) (hf:iJ h f) (ha:fJ h a 1 aG A) (hb:fJ h b 1 aG B) (hl:A.length=n) (hlb:B.length=n) (hA:bm n A) (hB:bm w B) (hn1:1≤n) (hn:n+w≤64) (hr:eZ A=n):
  ab Tryz.prog FE #[.pointer (some f),.slice a.ptr a.len a.cap,.slice b.ptr b.len b.cap] h fun v h'=>∃r:Sl,v=.tuple #[.slice r.ptr r.len r.cap,.int .i64 0]∧Sp h h' [fY aW r 1 aG (jS n A B)]:=by
 have hlen:B.length=A.length:=by omega
 have hla:=ha.len;have hlb':=hb.len
 refine D6 (some f) a b ?_
 unfold ym
 refine aU ?_
 refine(pW a A n h ha hA (by omega) (by omega)).mono ?_
 rintro v h1 ⟨rfl,rfl⟩
 refine⟨_,rfl,aX (fun e=>by cases e) fun _=>?_⟩
 refine(pW b B w h1 hb hB (by omega) (by omega)).mono ?_
 rintro v h2 ⟨rfl,rfl⟩
 refine⟨_,rfl,aX (fun e=>by cases e) fun _=>?_⟩
 refine bP (fun e=>absurd (by rw[hla,hlb',hlen]) e) fun _=>?_
 refine cY (fun e=>by omega) fun _=>?_
 refine(sF a A h2 ha).mono ?_
 rintro v h3 ⟨rfl,rfl⟩
 have hwA:gz A=n:=by
  cases A with
  |nil=>simp at hl;omega
  |cons x t=>rw[gz,dm (by simp)];exact hA _ (by simp)
 refine⟨_,rfl,?_⟩
 rw[hwA]
 refine(wM a A n h3 ha hA (by omega) (by omega)).mono ?_
 rintro v h4 ⟨r,rs,rfl,hrs,R4⟩
 refine⟨r,rfl,?_⟩
 have hrl0:=(R4.own 0 rfl).len
 refine aB (fun t:Nat×List Sl=>(t.1:Int)) (fun t h'=>t.1≤n∧t.2.length=n∧Sp h3 h' (lW r t.2 (pX A B t.1))) (fun t=>n-t.1) (0,rs) rfl ⟨by simp,by dsimp only;omega,by simpa[pX,dM]using R4⟩ ?_
 rintro⟨k,rs⟩ h5 ⟨hk,hrk,H5⟩
 dsimp only at*
 have hle:rs.length=(pX A B k).length:=by rw[Bn hlen];omega
 refine al (fun e=>?_) (fun e=>?_)
 ·have hk':k<n:=by omega
  have hkA:k<A.length:=by omega
  have gk:=sG (a:=r) hle k (by rw[Bn hlen];omega)
  have eg:(pX A B k)[k]'(by rw[Bn hlen];omega)=A[k]:=by
   have:=Pd hlen hkA
   rw[List.getElem?_eq_getElem (by rw[Bn hlen];omega)]at this
   exact Option.some.inj this
  rw[eg]at gk
  have l1:A[k].length=n:=hA _ (List.getElem_mem _)
  have l2:(B[k]'(by omega)).length=w:=hB _ (List.getElem_mem _)
  refine(H5.seq 0 rfl (fun _=>rfl)).qZ k rfl (by omega) fun a1 ha1 hb1=>?_
  refine(hb.up H5.ah).get k rfl (by omega) fun rb hrb=>?_
  refine H5.append ag (k+1) gk iq Pc rfl (by decide) (fun _=>rfl) hrb fV (by omega) fun s6 h6 H6=>⟨trivial,?_⟩
  refine H6.set ag 0 rfl (fun _=>rfl) rfl k rfl (by omega) s6 rfl rfl rfl fun h7 H7=>⟨trivial,?_⟩
  refine⟨(k+1,rs.set k s6),by dsimp only;rw[wrap_small _ (by omega) (by omega)];rfl,⟨by dsimp only;omega,by dsimp only;simp;omega,?_⟩,by dsimp only;omega⟩
  dsimp only
  rw[←Pe hlen hkA]
  show Sp h3 h7 (an aW r 1 cy (rs.set k s6)::bG aE 1 aG (rs.set k s6) ((pX A B k).set k _))
  rw[←ky hle]
  exact H7
 ·have hkn:k=A.length:=by omega
  subst hkn
  rw[Pf hlen]at H5
  refine(uO f h5).mono ?_
  rintro v h6 ⟨rfl,rfl⟩
  refine⟨some f,rfl,?_⟩
  have hev:=mG hlen.symm hA hB
  have hal:=j4 hlen.symm
  refine(yy (m:=dM A B) (n:=n+w) hf hf.lt (by omega) hev (by omega) (by omega) (by omega) H5).mono ?_
  rintro v h7 ⟨rs',rfl,hrs',R7⟩
  rw[E9 hlen.symm hA,hr]
  refine⟨_,rfl,?_⟩
  dsimp only
  have hcap:=(R7.own 0 rfl).cap
  have hrl:=(R7.own 0 rfl).len
  have h2:=ia hev n
  refine al (fun e=>absurd (show(n:Int)<(n:Int)from e) (by omega)) fun _=>?_
  refine⟨⟨Int.natCast_nonneg _,Int.ofNat_le.2 (show n≤r.len by omega)⟩,?_⟩
  refine aB (fun _:Unit=>(0:Int)) (fun _ h'=>h'=h7) (fun _=>0) () rfl rfl ?_
  rintro _ h8 rfl
  rw[Int.toNat_natCast]
  refine al (fun e=>by omega) fun _=>?_
  refine⟨⟨Int.natCast_nonneg _,Int.ofNat_le.2 (show n≤r.cap by omega)⟩,?_⟩
  obtain⟨M,hM⟩:∃M,M=(bB (dM A B) n).2:=⟨_,rfl⟩
  have hMl:M.length=n:=by have:=h2.2;rw[←hM]at this;omega
  have hMe:bm (n+w) M:=by rw[hM];exact h2.1
  have hsol:∀k (hk:k<n),(jS n A B).take (k+1)=(jS n A B).take k++[(M[k]'(by omega)).drop n]:=fun k hk=>by
   have e1:jS n A B=M.map (List.drop n):=by rw[jS,←hM,List.take_of_length_le (by omega)]
   rw[e1,aM _ _ (by simp;omega),List.getElem_map]
  have hsl:(jS n A B).length=n:=(B7 hlen.symm hA hB hr).1
  rw[←hM]at R7
  refine aB (fun t:Sl×Nat=>(t.1,(t.2:Int))) (fun t h'=>t.2≤n∧Sp h8 h' [fY aW t.1 1 aG ((jS n A B).take t.2)]) (fun t=>n-t.2) (⟨none,0,0⟩,0) rfl ⟨by simp,(Sp.refl h8).I6 aW 1 aG⟩ ?_
  rintro⟨s,k⟩ h9 ⟨hk9,H9⟩
  dsimp only at*
  have HH:=R7.comp H9
  have hlM:rs'.length=M.length:=by omega
  refine al (fun e=>?_) (fun e=>?_)
  ·have hk':k<n:=by omega
   have gk:=sG (a:=r) hlM k (by omega)
   have gk':(lW r rs' M++[fY aW s 1 aG ((jS n A B).take k)])[k+1]?=some (an aE (rs'[k]'(by omega)) 1 aG (M[k]'(by omega))):=by
    rw[List.getElem?_append_left (by simp[bG];omega)];exact gk
   have hml:(M[k]'(by omega)).length=n+w:=hMe _ (List.getElem_mem _)
   have hso:=HH.own (k+1) gk'
   have hsr:=HH.seq (k+1) gk' (fun _=>rfl)
   have hsl2:=hso.len
   have hsq:=(HH.seq 0 rfl (fun _=>rfl)).take n (by omega)
   rw[List.take_of_length_le (by omega)]at hsq
   refine hsq.qZ k rfl (by omega) fun a1 ha1 hb1=>?_
   refine⟨⟨Int.natCast_nonneg _,Int.ofNat_le.2 (by omega)⟩,?_⟩
   refine(jv _ _ h9 (hsr.drop n hso.cap) (by simp;omega)).mono ?_
   rintro v h10 ⟨c,rfl,R10⟩
   have H10:=(H9.comp R10).freeze 1 rfl (fun _=>rfl)
   refine⟨c,rfl,?_⟩
   refine H10.BW ag 0 1 (by decide) rfl rfl iZ (by simp;omega) fun s' h11 H11=>?_
   refine⟨(s',k+1),by dsimp only;rw[wrap_small _ (by omega) (by omega)];rfl,⟨by dsimp only;omega,?_⟩,by dsimp only;omega⟩
   dsimp only
   rw[hsol k hk']
   exact H11.del 1
  ·rw[List.take_of_length_le (by omega)]at H9
   refine⟨s,rfl,?_⟩
   have:=(Sp.zip R7.ah).comp H9
   exact this
end Go.Proofs.YtkciobclldnoiaaGreat
namespace Go.Proofs.YtkciobclldnoiaaGreat
open Go Go.Vc Go.Proofs Wl
set_option maxRecDepth 100000
def kR (p:Pm) (seed:Int) (l:Nat):Int:=if bU p&&decide ((l:Int)=p.1*p.2.2)then(if lE p seed (ey p)then 0 else 8)else 1
abbrev zw (p:Pm) (seed:Int) (m:Sl):List Value:=[.int .i64 p.1,.int .i64 p.2.1,.int .i64 p.2.2,.int .u32 seed,.slice m.ptr m.len m.cap]
set_option maxHeartbeats 2000000 in
theorem MW (p:Pm) (seed:Int) (data:Sl) (d:Row) (h:Heap) (hd:Rd h data 1 aG d) (hc:data.len≤data.cap):
  ab Tryz.prog uA #[kI p,.int .u32 seed,.slice data.ptr data.len data.cap] h fun v h'=>
   (kR p seed d.length=0→∃(b:Addr) (m:Sl),v=.tuple #[.pointer (some b),.int .i64 0]∧Sp h h' [fY aW m 1 aG (iU p seed d),aj b eO (zw p seed m)])∧
   (kR p seed d.length≠0→v=.tuple #[.pointer none,.int .i64 (kR p seed d.length)]∧Sp h h' []):=by
 have hdl:=hd.len
 refine Co p seed data ?_
 unfold wb
 refine(Sp.refl h).boxed fun a h1 H1=>?_
 refine aU ?_
 refine⟨p,(H1.box 0 rfl).aL _ rfl,(dN p h1).mono ?_⟩
 rintro v h2 ⟨rfl,R2⟩
 have H2:=H1.comp R2
 have no:∀{h3:Heap} (x:Int),x≠0→kR p seed d.length=x→Sp h h3 [aj a ba [.int .i64 p.1,.int .i64 p.2.1,.int .i64 p.2.2]]→
   (kR p seed d.length=0→∃(b:Addr) (m:Sl),Value.tuple #[.pointer none,.int .i64 x]=.tuple #[.pointer (some b),.int .i64 0]∧Sp h h3 [fY aW m 1 aG (iU p seed d),aj b eO (zw p seed m)])∧
   (kR p seed d.length≠0→Value.tuple #[.pointer none,.int .i64 x]=.tuple #[.pointer none,.int .i64 (kR p seed d.length)]∧Sp h h3 []):=fun x hx hne H=>by
  refine⟨fun e=>absurd (hne.symm.trans e) hx,fun _=>⟨by rw[hne],.zip H.ah⟩⟩
 refine⟨_,rfl,aX (fun e=>no 1 (by decide) (by rw[kR,e];rfl) H2) fun hp=>?_⟩
 have hpp:=(cg p).1 hp
 obtain⟨K,hK⟩:∃K:Nat,p.1=K:=⟨p.1.toNat,by omega⟩
 obtain⟨Hh,hH⟩:∃H:Nat,p.2.1=H:=⟨p.2.1.toNat,by omega⟩
 obtain⟨w,hw⟩:∃w:Nat,p.2.2=w:=⟨p.2.2.toNat,by omega⟩
 have hKw:K*w≤16*24:=Nat.mul_le_mul (by omega) (by omega)
 have eKw:p.1*p.2.2=((K*w:Nat):Int):=by rw[hK,hw,Int.natCast_mul]
 refine⟨p.1,(H2.box 0 rfl).cell0 rfl,p.2.2,(H2.box 0 rfl).cell rfl,?_⟩
 rw[eKw,wrap_small _ (by omega) (by omega)]
 refine bP (fun e=>no 1 (by decide) (by rw[kR,hp,decide_eq_false (by rw[eKw];intro e2;exact e (by rw[hdl];exact e2))];rfl) H2) fun el=>?_
 have hlen:d.length=K*w:=by omega
 refine⟨p,(H2.box 0 rfl).aL _ rfl,(Bf p seed h2).mono ?_⟩
 rintro v h3 ⟨rfl,R3⟩
 have H3:=H2.comp R3
 have hnew:kR p seed d.length=if lE p seed (ey p)then 0 else 8:=by rw[kR,hp,decide_eq_true (by rw[eKw,hlen])];rfl
 refine⟨_,rfl,aX (fun e=>no 8 (by decide) (by rw[hnew,e];rfl) H3) fun hf=>?_⟩
 rw[hf,if_pos rfl]at hnew
 have B:bZ p seed d K Hh w (K+Hh):=⟨hp,hf,hK,hH,hw,rfl,by omega,by omega,by omega,by omega,by omega,by omega,hlen⟩
 refine⟨p.2.1,(H3.box 0 rfl).cell rfl,?_⟩
 refine aB (fun t:Sl×List Sl=>(t.1,(t.2.length:Int))) (fun t h'=>t.2.length≤Hh∧Sp h h' (aj a ba [.int .i64 p.1,.int .i64 p.2.1,.int .i64 p.2.2]::lW t.1 t.2 (List.replicate t.2.length (bY w)))) (fun t=>Hh-t.2.length) (⟨none,0,0⟩,[]) rfl ⟨by simp,H3.nil aW 1 cy⟩ ?_
 rintro⟨s,rs⟩ h4 ⟨hk,H4⟩
 dsimp only at*
 refine al (fun e=>?_) (fun e=>?_)
 ·refine⟨p.2.2,(H4.box 0 rfl).cell rfl,?_⟩
  refine H4.make ag aG iq (by decide) 0 rfl rfl w w hw hw (Nat.le_refl _) (by omega) fun z h5 hzl hzc H5=>?_
  refine H5.push ag 1 rfl iZ rfl (by decide) (fun _=>rfl) o6 z rfl (by decide) (by omega) fun s' h6 H6=>?_
  refine⟨(s',rs++[z]),by dsimp only;rw[wrap_small _ (by omega) (by omega)];simp,⟨by simp;omega,?_⟩,by simp;omega⟩
  dsimp only
  have e7:lW s' (rs++[z]) (List.replicate rs.length (bY w)++[bY w])=an aW s' 1 cy (rs++[z])::(bG aE 1 aG rs (List.replicate rs.length (bY w))++[an aE z 1 aG (bY w)]):=congrArg _ (pd (by simp) z (bY w))
  rw[show(rs++[z]).length=rs.length+1 by simp,List.replicate_succ',e7]
  exact H6
 ·have hrs:rs.length=Hh:=by omega
  rw[hrs]at H4
  refine⟨p.1,(H4.box 0 rfl).cell0 rfl,?_⟩
  let own:=bG aE 1 aG rs (List.replicate Hh (bY w))
  refine aB (fun t:Sl×Nat=>(t.1,(t.2:Int))) (fun t h'=>t.2≤K∧Sp h h' (aj a ba [.int .i64 p.1,.int .i64 p.2.1,.int .i64 p.2.2]::an aW t.1 1 cy (rs++(List.range t.2).map (BX data w))::own)) (fun t=>K-t.2) (s,0) rfl ⟨by simp,by simpa using H4⟩ ?_
  rintro⟨t,k⟩ h5 ⟨hk5,H5⟩
  dsimp only at*
  refine al (fun e2=>?_) (fun e2=>?_)
  ·have hk':k<K:=by omega
   have m1:(k+1)*w≤K*w:=Nat.mul_le_mul_right w hk'
   have m2:k*w≤(k+1)*w:=Nat.mul_le_mul_right w (by omega)
   refine⟨p.2.2,(H5.box 0 rfl).cell rfl,p.2.2,(H5.box 0 rfl).cell rfl,?_⟩
   rw[wrap_small ((k:Int)+1) (by omega) (by omega)]
   have e5:(k:Int)*p.2.2=((k*w:Nat):Int):=by rw[hw,Int.natCast_mul]
   have e6:((k:Int)+1)*p.2.2=(((k+1)*w:Nat):Int):=by rw[hw,Int.natCast_mul];rfl
   rw[e5,e6,oB _ (by omega),oB _ (by omega),Int.toNat_natCast,Int.toNat_natCast]
   refine⟨⟨Int.natCast_nonneg _,Int.ofNat_le.2 m2,Int.ofNat_le.2 (by omega)⟩,?_⟩
   refine H5.push ag 1 rfl iZ rfl (by decide) (fun _=>rfl) o6 (BX data w k) rfl (by decide) (by simp;omega) fun t' h6 H6=>?_
   refine⟨(t',k+1),rfl,⟨by dsimp only;omega,?_⟩,by dsimp only;omega⟩
   dsimp only
   rw[List.range_succ,List.map_append,←List.append_assoc]
   exact H6
  ·have hkK:k=K:=by omega
   subst hkK
   refine aU ?_
   have hright:fJ h5 t 1 aG (fx k Hh w d):=by
    refine⟨rs++(List.range k).map (BX data w),H5.seq 1 rfl (fun _=>rfl),by rw[vK];simp;omega,fun i r l h1' h2'=>?_⟩
    by_cases hi:i<Hh
    ·rw[List.getElem?_append_left (by omega),List.getElem?_eq_getElem (by omega)]at h1'
     rw[fx,List.getElem?_append_left (by simpa using hi)]at h2'
     have hz:l=bY w:=by simp[hi]at h2';exact h2'.symm
     have hr:rs[i]'(by omega)=r:=Option.some.inj h1'
     have g:(aj a ba [.int .i64 p.1,.int .i64 p.2.1,.int .i64 p.2.2]::an aW t 1 cy (rs++(List.range k).map (BX data w))::own)[i+2]?=some (an aE (rs[i]'(by omega)) 1 aG ((List.replicate Hh (bY w))[i]'(by simpa using hi))):=hJ (by simpa using hrs) i (by simpa using hi)
     have:=H5.seq (i+2) g (fun _=>rfl)
     rw[List.getElem_replicate,hr]at this
     rw[hz];exact this
    ·obtain⟨j,rfl⟩:∃j,i=Hh+j:=⟨i-Hh,by omega⟩
     rw[List.getElem?_append_right (by omega),hrs,Nat.add_sub_cancel_left]at h1'
     rw[fx,List.getElem?_append_right (by simp),List.length_replicate,Nat.add_sub_cancel_left]at h2'
     have hj:j<k:=by
      have:=(List.getElem?_eq_some_iff.1 h1').1
      simpa using this
     simp[hj]at h1' h2'
     have m1:(j+1)*w≤k*w:=Nat.mul_le_mul_right w hj
     rw[←h1',←h2']
     exact(Seq.up hd H5.ah).piece hc w j (by omega)
   have hb5:=H5.box 0 rfl
   refine⟨p,hb5.aL _ rfl,p,hb5.aL _ rfl,(tV h5).mono ?_⟩
   rintro v h6 ⟨f,rfl,R6⟩
   have hb6:=hb5.ah R6.ah hb5.lt
   refine⟨some f,rfl,⟨hb6.cell0 rfl,hb6.cell rfl,hb6.cell rfl,hb6.cell0 rfl,hb6.cell rfl,hb6.cell rfl,trivial⟩,(Be p h6).mono ?_⟩
   rintro v h7 ⟨r7,rfl,R7⟩
   have Q7:=R6.comp R7
   have hb7:=hb5.ah Q7.ah hb5.lt
   refine⟨r7,rfl,⟨hb7.cell0 rfl,hb7.cell rfl,hb7.cell rfl,trivial⟩,?_⟩
   refine(yx p seed r7 (ey p) h7 (Q7.seq 1 rfl (fun _=>rfl)) (by rw[ey,hY];omega)).mono ?_
   rintro v h8 ⟨r8,rfl,R8⟩
   have Q8:=Q7.comp R8
   refine⟨r8,rfl,trivial,?_⟩
   refine(JR f r8 t _ _ (k+Hh) w h8 (Q8.box 0 rfl) (Q8.zN 2 rfl) (hright.up Q8.ah) B.Aa (by rw[vK]) B.xx (oG B.len) (by omega) (by omega) B.Mx).mono ?_
   rintro v h9 ⟨r9,rfl,R9⟩
   have Q9:=Q8.comp R9
   refine⟨(r9,0),rfl,trivial,?_⟩
   refine bP (fun e=>absurd rfl e) fun _=>?_
   have hb9:=hb5.ah Q9.ah hb5.lt
   refine⟨p,hb9.aL _ rfl,?_⟩
   refine Q9.boxed (t:=eO) fun b h10 Q10=>?_
   refine⟨fun _=>⟨b,r9,rfl,?_⟩,fun e=>absurd hnew e⟩
   have Q:=(Sp.zip H5.ah).comp Q10
   rw[←B.uh]at Q
   exact Q.take 3 (fun i A hi=>by
    cases i with
    |zero=>exact hi
    |succ i=>cases i with
     |zero=>exact hi
     |succ i=>simp at hi)
end Go.Proofs.YtkciobclldnoiaaGreat
namespace Go.Proofs.YtkciobclldnoiaaGreat
open Go Go.Vc Go.Proofs Wl
set_option maxRecDepth 100000
def CK (h:Heap) (b:Addr) (p:Pm) (seed:Int) (M:bz):Prop:=∃m:Sl,bK h b eO (zw p seed m)∧fJ h m 1 aG M
theorem CK.up {h h':Heap} {b:Addr} {p:Pm} {seed:Int} {M:bz} (hb:CK h b p seed M) (hp:aH (fun b=>b<h.size) h h'):CK h' b p seed M:=by
 obtain⟨m,h1,h2⟩:=hb
 exact⟨m,h1.ah hp h1.lt,h2.up hp⟩
theorem HX {a t:Row} (hat:a.length=t.length) {k:Nat} (hk:k<t.length):(List.zipWith (fun x y=>y^^^Gf.mul 1 x) (a.take k) (t.take k)++t.drop k).set k (t[k]^^^(a[k]'(by omega)))=List.zipWith (fun x y=>y^^^Gf.mul 1 x) (a.take (k+1)) (t.take (k+1))++t.drop (k+1):=by
 have:=wN (c:=1) hat hk
 rw[Gf.one_mul]at this
 exact this
theorem Pg {a t:Row} (hat:a.length=t.length) {k:Nat} (hk:k<t.length):(List.zipWith (fun x y=>y^^^Gf.mul 1 x) (a.take k) (t.take k)++t.drop k)[k]?=some t[k]:=by
 have hl:(List.zipWith (fun x y=>y^^^Gf.mul 1 x) (a.take k) (t.take k)).length=k:=by simp;omega
 rw[List.getElem?_append_right (by omega),hl,Nat.sub_self,List.getElem?_drop,Nat.add_zero,List.getElem?_eq_getElem hk]
theorem HY (b:Addr) (p:Pm) (seed id:Int) (M:bz) (n w:Nat) (h:Heap) (hb:CK h b p seed M) (hp:bU p=true) (hw:p.2.2=w) (hn:(dc p).toNat=n) (hM:bm w M) (hl:M.length=n):
  ab Tryz.prog kH #[.pointer (some b),.int .i64 id] h fun v h'=>∃r:Sl,v=.slice r.ptr r.len r.cap∧Sp h h' [an aE r 1 aG (if cv id then kj w M (iT n seed id)else[])]:=by
 obtain⟨m,hb1,hm⟩:=hb
 have hml:=hm.len
 have hpp:=(cg p).1 hp
 have hc:dc p=p.1+p.2.1:=by rw[dc,if_pos hp]
 refine ql (some b) id ?_
 unfold kZ
 have no:cv id=false→∃r:Sl,Value.slice none 0 0=.slice r.ptr r.len r.cap∧Sp h h [an aE r 1 aG (if cv id then kj w M (iT n seed id)else[])]:=fun e=>by
  rw[e];exact⟨⟨none,0,0⟩,rfl,(Sp.refl h).nil aE 1 aG⟩
 refine aU (bu (fun e=>by cases e) fun _=>al (fun e=>no (by simp[cv];omega)) fun e1=>al (fun e=>no (by simp[cv];omega)) fun e2=>?_)
 have hid:cv id=true:=by simp[cv];omega
 refine⟨b,rfl,p.2.2,hb1.cell rfl,?_⟩
 refine(Sp.refl h).make ag aG iq (by decide) 0 rfl rfl w w hw hw (Nat.le_refl _) (by omega) fun o h1 hol hoc H1=>?_
 have hb2:=hb1.ah H1.ah hb1.lt
 refine⟨b,rfl,p,hb2.aL _ rfl,b,rfl,seed,hb2.cell rfl,(Dq p seed id h1).mono ?_⟩
 rintro v h2 ⟨c,rfl,R2⟩
 rw[hp,hid,Bool.and_self,if_pos rfl,hn]at R2
 rw[hid,if_pos rfl]
 have H2:=H1.comp R2
 obtain⟨cs,hcs⟩:∃cs,cs=iT n seed id:=⟨_,rfl⟩
 have hin:∀x∈cs,0≤x∧x<(n:Int):=fun x hx=>vx (by omega) (by omega) (by rw[←hcs];exact hx)
 have hcl2:cs.length≤n:=by rw[hcs];exact C0 (by omega) (by omega) _ _
 rw[←hcs]at H2⊢
 have hcl:=(H2.seq 1 rfl (fun _=>rfl)).len
 refine⟨c,rfl,trivial,?_⟩
 refine aB (fun i:Nat=>(i:Int)) (fun i h'=>i≤cs.length∧Sp h h' [an aE o 1 aG (kj w M (cs.take i)),an aA c 1 av cs]) (fun i=>cs.length-i) 0 rfl ⟨by omega,H2⟩ ?_
 rintro i h3 ⟨hi,H3⟩
 refine al (fun e=>?_) (fun e=>?_)
 ·have hi':i<cs.length:=by omega
  have hx:=hin _ (List.getElem_mem hi')
  refine(H3.seq 1 rfl (fun _=>rfl)).cr i rfl hi' _ rfl ?_
  have hb3:=hb1.ah H3.ah hb1.lt
  refine⟨b,rfl,m,hb3.cell rfl,?_⟩
  obtain⟨rsm,hq⟩:=hm
  refine(hq.ah H3.ah).get cs[i].toNat (by omega) (by omega) fun r hr hrs=>?_
  have hrb:=hq.row _ r _ hrs (List.getElem?_eq_getElem (show cs[i].toNat<M.length by omega))
  obtain⟨row,hrow⟩:∃row,row=M[cs[i].toNat]'(by omega):=⟨_,rfl⟩
  have hrl:row.length=w:=by rw[hrow];exact hM _ (List.getElem_mem _)
  rw[←hrow]at hr hrb
  obtain⟨S,hS⟩:∃S,S=kj w M (cs.take i):=⟨_,rfl⟩
  have hSl:S.length=w:=by rw[hS];exact vJ hM hl hin i hi
  have hrr:=hr.len
  have e2:kj w M (cs.take (i+1))=dA 1 row S:=by rw[aM _ _ hi',Fb,hS,hrow,dm (by omega)]
  rw[←hS]at H3
  refine aB (fun k:Nat=>(k:Int)) (fun k h'=>k≤w∧Sp h h' [an aE o 1 aG (List.zipWith (fun x y=>y^^^Gf.mul 1 x) (row.take k) (S.take k)++S.drop k),an aA c 1 av cs]) (fun k=>w-k) 0 rfl ⟨by omega,by simpa using H3⟩ ?_
  rintro k h4 ⟨hk,H4⟩
  have hr4:=hrb.ah H4.ah
  have hzl:(List.zipWith (fun x y=>y^^^Gf.mul 1 x) (row.take k) (S.take k)++S.drop k).length=w:=by simp;omega
  refine al (fun e3=>?_) (fun e3=>?_)
  ·have hk':k<w:=by omega
   have hval:(List.zipWith (fun x y=>y^^^Gf.mul 1 x) (row.take k) (S.take k)++S.drop k)[k]'(by omega)=S[k]'(by omega):=by
    have:=Pg (a:=row) (t:=S) (by omega) (show k<S.length by omega)
    rw[List.getElem?_eq_getElem (by omega)]at this
    exact Option.some.inj this
   refine hr4.cr k rfl (by omega) _ rfl ?_
   refine(H4.seq 0 rfl (fun _=>rfl)).cr k rfl (by omega) _ rfl ?_
   rw[hval,sD]
   refine H4.set ag 0 rfl (fun _=>rfl) rfl k rfl (by omega) _ rfl rfl rfl fun h5 H5=>?_
   refine⟨k+1,by rw[wrap_small _ (by omega) (by omega)];rfl,⟨by omega,?_⟩,by omega⟩
   rw[←HX (by omega) (show k<S.length by omega)];exact H5
  ·have hkw:k=w:=by omega
   subst hkw
   rw[List.take_of_length_le (by omega),List.take_of_length_le (by omega),List.drop_of_length_le (by omega),List.append_nil]at H4
   refine⟨i+1,by rw[wrap_small _ (by omega) (by omega)];rfl,⟨by omega,?_⟩,by omega⟩
   rw[e2];exact H4
 ·rw[List.take_of_length_le (by omega)]at H3
  exact⟨o,rfl,H3.take 0 (fun i A hi=>by cases i with|zero=>exact hi|succ i=>simp at hi)⟩
end Go.Proofs.YtkciobclldnoiaaGreat
namespace Go.Proofs.YtkciobclldnoiaaGreat
open Go Go.Vc Go.Proofs Wl
set_option maxRecDepth 100000
theorem _root_.Wl.bZ.kR {p:Pm} {seed:Int} {d:Row} {K H w n:Nat} (B:bZ p seed d K H w n):kR p seed d.length=0:=by
 rw[Go.Proofs.YtkciobclldnoiaaGreat.kR,B.may,B.full,B.len,B.k,B.s,decide_eq_true (by rw[Int.natCast_mul])];rfl
theorem _root_.Wl.bZ.congr {p:Pm} {seed:Int} {d d':Row} {K H w n:Nat} (B:bZ p seed d K H w n) (h:d'.length=K*w):bZ p seed d' K H w n:=
 ⟨B.may,B.full,B.k,B.h,B.s,B.n,B.k1,B.k2,B.h1,B.h2,B.w1,B.w2,h⟩
theorem Ph {p:Pm} {seed:Int} {d:Row} {K H w n:Nat} (B:bZ p seed d K H w n) (data:Sl) (h:Heap) (hd:Rd h data 1 aG d) (hc:data.len≤data.cap):
  ab Tryz.prog uA #[kI p,.int .u32 seed,.slice data.ptr data.len data.cap] h fun v h'=>
   ∃(b:Addr) (m:Sl),v=.tuple #[.pointer (some b),.int .i64 0]∧Sp h h' [fY aW m 1 aG (iU p seed d),aj b eO (zw p seed m)]:=
 (MW p seed data d h hd hc).mono fun _ _ hh=>hh.1 B.kR
theorem _root_.Wl.bZ.symbol {p:Pm} {seed:Int} {d:Row} {K H w n:Nat} (B:bZ p seed d K H w n) (b:Addr) (id:Int) (h:Heap) (hb:CK h b p seed (iU p seed d)):
  ab Tryz.prog kH #[.pointer (some b),.int .i64 id] h fun v h'=>∃r:Sl,v=.slice r.ptr r.len r.cap∧Sp h h' [an aE r 1 aG (if cv id then kj w (iU p seed d) (iT n seed id)else[])]:=
 HY b p seed id _ n w h hb B.may B.s B.xw B.Ab.2 B.Ab.1
end Go.Proofs.YtkciobclldnoiaaGreat
namespace Go.Proofs.YtkciobclldnoiaaGreat
open Go Go.Vc Go.Proofs Wl
set_option maxRecDepth 100000
def sI (s:ui):List Value:=[.complex .f64 s.ax s.ay,.complex .f64 s.sx s.sy,.int .i64 s.left,.int .i64 s.leg,.bool s.second]
theorem lj {o:Option Nat} (h:o.isSome=true):o=some (o.getD 0):=by
 cases o with
 |none=>cases h
 |some x=>rfl
theorem JS (h:Heap):ab Tryz.prog Cz #[] h fun v h'=>∃a:Addr,v=.pointer (some a)∧Sp h h' [aj a dR (sI PN)]:=by
 refine AL ?_
 unfold uI
 refine(Sp.refl h).boxed (t:=dR) fun a h1 H1=>?_
 exact⟨a,rfl,H1⟩
theorem Lv (a b:Nat) (h:Heap) (h1:(fb.mul a 0).isSome=true) (h2:(fb.mul b lF).isSome=true) (h3:(fb.sub (nY a 0) (nY b lF)).isSome=true) (h4:(fb.mul a lF).isSome=true) (h5:(fb.mul b 0).isSome=true) (h6:(fb.add (nY a lF) (nY b 0)).isSome=true):
  ab Tryz.prog Ee #[.complex .f64 a b,.int .i64 1] h fun v h'=>v=.complex .f64 (tx a b) (ty a b)∧h'=h:=by
 refine CD (a,b) 1 ?_
 unfold wv
 refine⟨by decide,by decide,?_⟩
 refine aB (fun k:Nat=>(if k=0 then(a,b)else(tx a b,ty a b),(k:Int))) (fun k h'=>k≤1∧h'=h) (fun k=>1-k) 0 rfl ⟨by omega,rfl⟩ ?_
 rintro k h' ⟨hk,rfl⟩
 have e1:Int.tmod (IntKind.wrap .i64 (Int.tmod 1 4+4)) 4=1:=by decide
 dsimp only
 rw[e1]
 refine al (fun e=>?_) (fun e=>?_)
 ·have:k=0:=by omega
  subst this
  refine⟨(tx a b,ty a b),N8 (lj h1) (lj h2) (lj h3) (lj h4) (lj h5) (lj h6),?_⟩
  exact⟨1,rfl,⟨by omega,rfl⟩,by omega⟩
 ·have:k=1:=by omega
  subst this
  exact⟨rfl,rfl⟩
theorem MX (a:Addr) (s:ui) (h:Heap) (hb:bK h a dR (sI s)) (hok:s.ok=true):ab Tryz.prog wo #[.pointer (some a)] h fun v h'=>v=.tuple #[]∧bK h' a dR (sI s.on)∧aH (fun b=>b≠a.block) h h':=by
 simp only[ui.ok,Bool.and_eq_true,decide_eq_true_eq]at hok
 obtain⟨⟨⟨⟨⟨⟨⟨⟨⟨⟨⟨k1,k2⟩,k3⟩,k4⟩,k5⟩,k6⟩,k7⟩,k8⟩,k9⟩,k10⟩,k11⟩,k12⟩:=hok
 refine vh (some a) ?_
 unfold oz
 have H0:aa (fun b=>b<h.size∧¬b=a.block) h h [aj a dR (sI s)]:=.Kk (fun b=>b=a.block) (fun b hb'=>by rw[hb'];exact hb.lt) ⟨hb,rfl⟩
 have fin:∀{h':Heap},aa (fun b=>b<h.size∧¬b=a.block) h h' [aj a dR (sI s.on)]→Value.tuple #[]=.tuple #[]∧bK h' a dR (sI s.on)∧aH (fun b=>b≠a.block) h h':=fun H=>
  ⟨rfl,H.box 0 rfl,H.ah.1,fun k hk hne=>H.ah.2 k hk ⟨hk,hne⟩⟩
 refine⟨a,rfl,(s.ax,s.ay),hb.cell0 rfl,a,rfl,(s.sx,s.sy),hb.cell rfl,(kQ s.ax s.sx,kQ s.ay s.sy),N6 (lj k1) (lj k2),a,rfl,?_⟩
 refine H0.rF ag 0 rfl rfl [.complex .f64 (kQ s.ax s.sx) (kQ s.ay s.sy)] rfl rfl rfl (by simp[sI]) fun h1 H1=>⟨trivial,?_⟩
 refine⟨a,rfl,s.left,(H1.box 0 rfl).cell (j:=2) rfl,a,rfl,?_⟩
 rw[Go.Vc.wrap_small (s.left-1) (by omega) (by omega)]
 refine H1.storeAt ag 0 rfl rfl (off:=2) rfl rfl rfl (by simp[sI]) fun h2 H2=>?_
 refine⟨a,rfl,s.left-1,(H2.box 0 rfl).cell (j:=2) rfl,?_⟩
 refine al (fun e=>?_) (fun e=>?_)
 ·have eo:sI s.on=[.complex .f64 (kQ s.ax s.sx) (kQ s.ay s.sy),.complex .f64 s.sx s.sy,.int .i64 (s.left-1),.int .i64 s.leg,.bool s.second]:=by rw[ui.on,if_pos e];rfl
  refine fin ?_
  rw[eo];exact H2
 ·refine⟨a,rfl,(s.sx,s.sy),(H2.box 0 rfl).cell (j:=1) rfl,(Lv s.sx s.sy h2 k3 k4 k5 k6 k7 k8).mono ?_⟩
  rintro v h3 ⟨rfl,rfl⟩
  refine⟨(tx s.sx s.sy,ty s.sx s.sy),rfl,a,rfl,?_⟩
  refine H2.storeAt ag 0 rfl rfl (off:=1) rfl rfl rfl (by simp[sI]) fun h4 H4=>?_
  refine cI (fun _ h'=>aa (fun b=>b<h.size∧¬b=a.block) h h' [aj a dR [.complex .f64 (kQ s.ax s.sx) (kQ s.ay s.sy),.complex .f64 (tx s.sx s.sy) (ty s.sx s.sy),.int .i64 (s.left-1),.int .i64 (if s.second then s.leg+1 else s.leg),.bool s.second]]) ?_ ?_
  ·refine⟨a,rfl,s.second,(H4.box 0 rfl).cell (j:=4) rfl,bu (fun e2=>?_) (fun e2=>?_)⟩
   ·refine⟨a,rfl,s.leg,(H4.box 0 rfl).cell (j:=3) rfl,a,rfl,?_⟩
    rw[Go.Vc.wrap_small (s.leg+1) (by omega) (by omega)]
    refine H4.storeAt ag 0 rfl rfl (off:=3) rfl rfl rfl (by simp[sI]) fun h5 H5=>?_
    rw[if_pos e2];exact H5
   ·rw[if_neg (by rw[e2];decide)];exact H4
  ·rintro _ h6 H6
   refine⟨a,rfl,s.second,(H6.box 0 rfl).cell (j:=4) rfl,a,rfl,?_⟩
   refine H6.storeAt ag 0 rfl rfl (off:=4) rfl rfl rfl (by simp) fun h7 H7=>?_
   refine⟨a,rfl,_,(H7.box 0 rfl).cell (j:=3) rfl,a,rfl,?_⟩
   refine H7.storeAt ag 0 rfl rfl (off:=2) rfl rfl rfl (by simp) fun h8 H8=>?_
   have eo:sI s.on=[.complex .f64 (kQ s.ax s.sx) (kQ s.ay s.sy),.complex .f64 (tx s.sx s.sy) (ty s.sx s.sy),.int .i64 (if s.second then s.leg+1 else s.leg),.int .i64 (if s.second then s.leg+1 else s.leg),.bool (!s.second)]:=by rw[ui.on,if_neg e];rfl
   refine fin ?_
   rw[eo];exact H8
theorem IP (n:Nat) (h:Heap) (hn:n<64):ab Tryz.prog Hj #[.int .i64 n] h fun v h'=>v=.complex .f64 (im n).ax (im n).ay∧Sp h h' []:=by
 refine FG n ?_
 unfold AG
 refine al (fun e=>by omega) fun _=>al (fun e=>by omega) fun _=>?_
 refine(JS h).mono ?_
 rintro v h1 ⟨a,rfl,R1⟩
 refine⟨some a,rfl,?_⟩
 refine aB (fun k:Nat=>(k:Int)) (fun k h'=>k≤n∧Sp h h' [aj a dR (sI (im k))]) (fun k=>n-k) 0 rfl ⟨by omega,R1⟩ ?_
 rintro k h2 ⟨hk,H2⟩
 refine cY (fun e=>?_) (fun e=>?_)
 ·have:k=n:=by omega
  subst this
  exact⟨a,rfl,((im k).ax,(im k).ay),(H2.box 0 rfl).cell0 rfl,rfl,.zip H2.ah⟩
 ·refine(MX a (im k) h2 (H2.box 0 rfl) (PF k (by omega))).mono ?_
  rintro v h3 ⟨rfl,hb3,hp3⟩
  refine⟨(),rfl,k+1,by rw[Go.Vc.wrap_small _ (by omega) (by omega)];rfl,⟨by omega,H2.rG 0 rfl hp3 hb3⟩,by omega⟩
end Go.Proofs.YtkciobclldnoiaaGreat
namespace Go.Proofs.YtkciobclldnoiaaGreat
open Go Go.Vc Go.Proofs Wl
set_option maxRecDepth 100000
theorem Dw {a b:Int} (h1:-4≤a) (h2:a≤4) (h3:-4≤b) (h4:b≤4):fb.sub (ca a) (ca b)=some (ca (a-b)):=by
 have:=OX (a+4).toNat (by omega) (b+4).toNat (by omega)
 rw[show((a+4).toNat:Int)-4=a by omega,show((b+4).toNat:Int)-4=b by omega,show((a+4).toNat:Int)-((b+4).toNat:Int)=a-b by omega]at this
 exact this
theorem Dx {a:Int} (h1:-8≤a) (h2:a≤8):fb.mul (ca a) (ca a)=some (ca (a*a)):=by
 have:=OY (a+8).toNat (by omega)
 rw[show((a+8).toNat:Int)-8=a by omega]at this
 exact this
theorem Gq (a:Int):((a.natAbs:Nat):Int)*(a.natAbs:Nat)=a*a:=Int.natAbs_mul_self
theorem Lw {a b:Int} (h1:-8≤a) (h2:a≤8) (h3:-8≤b) (h4:b≤8):fb.add (ca (a*a)) (ca (b*b))=some (ca (a*a+b*b)):=by
 have:=OZ a.natAbs (by omega) b.natAbs (by omega)
 rw[Gq,Gq]at this
 exact this
def wS (i j:Nat):Int:=((dW i).x-(dW j).x)*((dW i).x-(dW j).x)+((dW i).y-(dW j).y)*((dW i).y-(dW j).y)
theorem NI {a:Int} (h1:-8≤a) (h2:a≤8):0≤a*a∧a*a≤64:=by
 rw[←Gq,←Int.natCast_mul]
 have:a.natAbs*a.natAbs≤8*8:=Nat.mul_le_mul (by omega) (by omega)
 omega
theorem qP {n:Nat} (h:n<64):(im n).ax=ca (dW n).x∧(im n).ay=ca (dW n).y∧-4≤(dW n).x∧(dW n).x≤4∧-4≤(dW n).y∧(dW n).y≤4:=by
 have:=OW n h
 simp only[Bool.and_eq_true,decide_eq_true_eq,beq_iff_eq]at this
 obtain⟨⟨⟨⟨⟨a,b⟩,c⟩,d⟩,e⟩,f⟩:=this
 exact⟨a,b,c,d,e,f⟩
theorem Lx {i j:Nat} (hi:i<64) (hj:j<64):0≤wS i j∧wS i j≤128:=by
 have a:=qP hi
 have b:=qP hj
 have h1:=NI (a:=(dW i).x-(dW j).x) (by omega) (by omega)
 have h2:=NI (a:=(dW i).y-(dW j).y) (by omega) (by omega)
 unfold wS;omega
theorem MY (i j:Nat) (h:Heap) (hi:i<64) (hj:j<64):ab Tryz.prog FH #[.complex .f64 (im i).ax (im i).ay,.complex .f64 (im j).ax (im j).ay] h fun v h'=>v=.float .f64 (ca (wS i j))∧h'=h:=by
 have a:=qP hi
 have b:=qP hj
 refine D7 ((im i).ax,(im i).ay) ((im j).ax,(im j).ay) ?_
 unfold yo
 have hx:fb.sub (im i).ax (im j).ax=some (ca ((dW i).x-(dW j).x)):=by rw[a.1,b.1];exact Dw (by omega) (by omega) (by omega) (by omega)
 have hy:fb.sub (im i).ay (im j).ay=some (ca ((dW i).y-(dW j).y)):=by rw[a.2.1,b.2.1];exact Dw (by omega) (by omega) (by omega) (by omega)
 refine⟨(ca ((dW i).x-(dW j).x),ca ((dW i).y-(dW j).y)),N7 hx hy,_,Dx (by omega) (by omega),_,Dx (by omega) (by omega),_,Lw (by omega) (by omega) (by omega) (by omega),rfl,rfl⟩
abbrev NJ:bM C.torD fc aA 1 [.int .i64 0] 8:=⟨_,_,rfl,rfl,rfl,rfl,rfl,rfl⟩
def jY (a b:Int):Int:=if a<b then-1 else if a>b then 1 else 0
theorem Gr (m:Nat) (h:Heap) (hm:m<129):ab Tryz.prog tJ #[.float .f64 (ca (m:Nat))] h fun v h'=>v=.bool false∧h'=h:=by
 refine sj _ ?_
 unfold mz
 have:=KP m hm m hm
 rw[show(FloatKind.format .f64).order (ca (m:Nat)) (ca (m:Nat))=some (compare m m)from this,Nat.compare_eq_eq.2 rfl]
 exact⟨rfl,rfl⟩
theorem Ly (m n:Nat) (h:Heap) (hm:m<129) (hn:n<129):ab Tryz.prog rq #[.float .f64 (ca (m:Nat)),.float .f64 (ca (n:Nat))] h fun v h'=>v=.int .i64 (jY m n)∧h'=h:=by
 refine qn _ _ ?_
 unfold lh
 refine(Gr m h hm).mono ?_
 rintro v h1 ⟨rfl,rfl⟩
 refine⟨_,rfl,(Gr n h1 hn).mono ?_⟩
 rintro v h2 ⟨rfl,rfl⟩
 refine⟨_,rfl,bu (fun e=>by cases e) fun _=>bu (fun e=>by cases e) fun _=>?_⟩
 have ho:(FloatKind.format .f64).order (ca (m:Nat)) (ca (n:Nat))=some (compare m n):=KP m hm n hn
 rw[ho]
 rcases Nat.lt_trichotomy m n with h1|h1|h1
 ·rw[Nat.compare_eq_lt.2 h1]
  refine bu (fun _=>⟨by rw[jY,if_pos (by omega)],rfl⟩) (fun e=>by cases e)
 ·subst h1
  rw[Nat.compare_eq_eq.2 rfl]
  refine bu (fun e=>by cases e) fun _=>bu (fun e=>by cases e) fun _=>⟨by rw[jY,if_neg (by omega),if_neg (by omega)],rfl⟩
 ·rw[Nat.compare_eq_gt.2 h1]
  refine bu (fun e=>by cases e) fun _=>bu (fun _=>⟨by rw[jY,if_neg (by omega),if_pos (by omega)],rfl⟩) (fun e=>by cases e)
theorem Dy (m:Int) (h:Heap):ab Tryz.prog pN #[.int .i64 m] h fun v h'=>v=.bool false∧h'=h:=by
 refine oy _ ?_
 unfold lQ
 exact⟨by simp,rfl⟩
theorem Lz (m n:Int) (h:Heap):ab Tryz.prog nH #[.int .i64 m,.int .i64 n] h fun v h'=>v=.int .i64 (jY m n)∧h'=h:=by
 refine mu _ _ ?_
 unfold ko
 refine(Dy m h).mono ?_
 rintro v h1 ⟨rfl,rfl⟩
 refine⟨_,rfl,(Dy n h1).mono ?_⟩
 rintro v h2 ⟨rfl,rfl⟩
 refine⟨_,rfl,bu (fun e=>by cases e) fun _=>bu (fun e=>by cases e) fun _=>?_⟩
 refine al (fun e=>⟨by rw[jY,if_pos e],rfl⟩) fun e=>al (fun e2=>⟨by rw[jY,if_neg e,if_pos e2],rfl⟩) fun e2=>⟨by rw[jY,if_neg e,if_neg e2],rfl⟩
def IQ (a b:Int):Int:=if a≠0 then a else b
theorem Ol (s:Sl) (a b:Int) (h:Heap) (hs:Rd h s 1 av [a,b]):ab Tryz.prog D4 #[.slice s.ptr s.len s.cap] h fun v h'=>v=.int .i64 (IQ a b)∧h'=h:=by
 refine rZ s ?_
 unfold pL
 have hl:s.len=2:=hs.len
 refine aB (fun k:Nat=>(k:Int)) (fun k h'=>h'=h∧k≤2∧(1≤k→a=0)∧(2≤k→b=0)) (fun k=>2-k) 0 rfl ⟨rfl,by omega,by omega,by omega⟩ ?_
 rintro k h' ⟨rfl,hk,k1,k2⟩
 refine al (fun e=>?_) (fun e=>?_)
 ·rcases(show k=0∨k=1 by omega)with rfl|rfl
  ·refine hs.cr 0 rfl (by simp) a rfl ?_
   refine bP (fun e0=>⟨by rw[IQ,if_pos e0],rfl⟩) (fun e0=>?_)
   exact⟨1,rfl,⟨rfl,by omega,fun _=>e0,by omega⟩,by omega⟩
  ·refine hs.cr 1 rfl (by simp) b rfl ?_
   have ha:=k1 (by omega)
   refine bP (fun e0=>⟨by rw[IQ,if_neg (by simp[ha])],rfl⟩) (fun e0=>?_)
   exact⟨2,rfl,⟨rfl,by omega,fun _=>ha,fun _=>e0⟩,by omega⟩
 ·have ha:=k1 (by omega)
  have hb:=k2 (by omega)
  exact⟨by rw[IQ,if_neg (by simp[ha]),hb],rfl⟩
abbrev Fr:=Int×Fin 129
def pY (x:Fr):List Value:=[.int .i64 x.1,.float .f64 (ca ((x.2:Nat):Int))]
def pZ (x y:Fr):Int:=IQ (jY (x.2:Nat) (y.2:Nat)) (jY x.1 y.1)
theorem Gs (x y:Fr) (h:Heap):ab Tryz.prog iW #[.agg (pY x).toArray,.agg (pY y).toArray] h fun v h'=>v=.int .i64 (pZ x y)∧aH (fun b=>b<h.size) h h':=by
 refine xJ (x.1,ca ((x.2:Nat):Int)) (y.1,ca ((y.2:Nat):Int)) ?_
 unfold qF
 refine(Sp.refl h).boxed (t:=gm) fun a h1 H1=>?_
 refine H1.boxed (t:=gm) fun b h2 H2=>?_
 refine⟨_,(H2.box 0 rfl).cell (j:=1) rfl,_,(H2.box 1 rfl).cell (j:=1) rfl,_,(H2.box 0 rfl).cell0 rfl,_,(H2.box 1 rfl).cell0 rfl,?_⟩
 refine(Ly x.2 y.2 h2 x.2.isLt y.2.isLt).mono ?_
 rintro v h3 ⟨rfl,rfl⟩
 refine⟨_,rfl,⟨(H2.box 1 rfl).cell0 rfl,(H2.box 0 rfl).cell0 rfl,trivial⟩,(Lz _ _ h3).mono ?_⟩
 rintro v h4 ⟨rfl,rfl⟩
 refine⟨_,rfl,trivial,?_⟩
 refine H2.lit ag av NJ rfl [jY (x.2:Nat) (y.2:Nat),jY x.1 y.1] rfl (show 2*1≤2^20 by decide) rfl fun s h5 H5=>⟨trivial,?_⟩
 refine(Ol s _ _ h5 (H5.seq 2 rfl (fun _=>rfl))).mono ?_
 rintro v h6 ⟨rfl,rfl⟩
 exact⟨_,rfl,trivial,rfl,H5.ah⟩
theorem IS {a b:Int}:jY a b<0↔a<b:=by unfold jY;split<;>(try split)<;>omega
theorem Dz {a b:Int}:jY a b=0↔a=b:=by unfold jY;split<;>(try split)<;>omega
theorem NK {x y:Fr}:ltOf pZ x y=true↔((x.2:Nat):Int)<(y.2:Nat)∨(((x.2:Nat):Int)=(y.2:Nat)∧x.1<y.1):=by
 have h0:ltOf pZ x y=true↔pZ x y<0:=by simp[ltOf]
 rw[h0,pZ,IQ]
 by_cases h:jY (x.2:Nat) (y.2:Nat)=0
 ·rw[if_neg (by simp[h]),IS]
  have:=Dz.1 h
  constructor
  ·exact fun h2=>.inr ⟨this,h2⟩
  ·rintro(h2|h2)
   ·omega
   ·exact h2.2
 ·rw[if_pos h,IS]
  have hne:((x.2:Nat):Int)≠(y.2:Nat):=fun e=>h (Dz.2 e)
  constructor
  ·exact .inl
  ·rintro(h2|h2)
   ·exact h2
   ·exact absurd h2.1 hne
theorem wT {x y:Fr}:ltOf pZ x y=false↔¬(((x.2:Nat):Int)<(y.2:Nat)∨(((x.2:Nat):Int)=(y.2:Nat)∧x.1<y.1)):=by
 rw[←NK];simp
theorem Pj:Sort.SWO (ltOf pZ) where
 irrefl x:=wT.2 (by omega)
 trans x y z h1 h2:=by rw[NK]at*;omega
 ntrans x y z h1 h2:=by rw[wT]at*;omega
theorem Pk (x y:Fr) (h1:ltOf pZ x y=false) (h2:ltOf pZ y x=false):x=y:=by
 rw[wT]at h1 h2
 refine Prod.ext (by omega) (Fin.ext (by omega))
theorem Gt {e:TypeId} {s:Sl} {l:List Fr} {h:Heap} (ho:Own h e s 2 pY l) (hsz:l.length<2^40):
  ab Tryz.prog fy #[.slice s.ptr s.len s.cap,.func (.func iW) #[] #[]] h fun v h'=>v=.tuple #[]∧Own h' e s 2 pY (l.mergeSort fun x y=>!(ltOf pZ) y x)∧aH (fun b=>¬s.on b) h h':=by
 have hk:∀x:Fr,(pY x).length=2:=fun _=>rfl
 refine DG (P:=Tryz.prog) (id_:=fy) (g:=iW) (enc:=pY) (k:=2) (cf:=pZ) hk ?_ ?_ (fun x y h=>Gs x y h) ho hsz
 ·intro blk cap l w hc hH hb hz
  have:=AnyQ.slices_SortFunc_total Tryz.II 2 Tryz.O1 Tryz.Ob pY (fun _=>rfl) (fun x v hv=>by simp[pY]at hv;rcases hv with rfl|rfl<;>rfl) pZ Pj iW #[] blk 0 cap l.toArray w (enters_of Tryz.Oc (by kernel_rfl) rfl) (by simpa using hc) hH hb (by simpa using hz) Pk
  simp at this
  exact this
 ·intro p cap w
  exact AnyF.slices_SortFunc_none Tryz.II p cap _ w
end Go.Proofs.YtkciobclldnoiaaGreat
namespace Go.Proofs.YtkciobclldnoiaaGreat
open Go Go.Vc Go.Proofs Wl
set_option maxRecDepth 100000
def p7 (acc:List Int) (n:Int):List Int:=if 0≤n∧n<64∧acc.contains n=false then acc++[n]else acc
def fu (l:List Int):List Int:=l.foldl p7 []
theorem qQ (l:List Int) {k:Nat} (hk:k<l.length):fu (l.take (k+1))=p7 (fu (l.take k)) l[k]:=by
 rw[fu,aM _ _ hk,List.foldl_append];rfl
theorem Gu (l:List Int):∀k,k≤l.length→∀x,x∈fu (l.take k)↔x∈l.take k∧0≤x∧x<64
 |0,_,x=>by simp[fu]
 |k+1,hk,x=>by
  have ih:=Gu l k (by omega)
  rw[qQ l (by omega),aM _ _ (show k<l.length by omega),p7]
  by_cases h:0≤l[k]∧l[k]<64∧(fu (l.take k)).contains l[k]=false
  ·rw[if_pos h,List.mem_append,List.mem_append,List.mem_singleton,ih x]
   constructor
   ·rintro(h1|rfl)
    ·exact⟨.inl h1.1,h1.2⟩
    ·exact⟨.inr rfl,h.1,h.2.1⟩
   ·rintro⟨h1|h1,h2⟩
    ·exact .inl ⟨h1,h2⟩
    ·exact .inr h1
  ·rw[if_neg h,List.mem_append,List.mem_singleton,ih x]
   constructor
   ·rintro h1;exact⟨.inl h1.1,h1.2⟩
   ·rintro⟨h1|rfl,h2⟩
    ·exact⟨h1,h2⟩
    ·have:(fu (l.take k)).contains l[k]=true:=by
      cases hc:(fu (l.take k)).contains l[k]with
      |true=>rfl
      |false=>exact absurd ⟨h2.1,h2.2,hc⟩ h
     exact(ih _).1 (by simpa using this)
theorem Bo (l:List Int):∀k,k≤l.length→(fu (l.take k)).Nodup
 |0,_=>by simp[fu]
 |k+1,hk=>by
  have ih:=Bo l k (by omega)
  rw[qQ l (by omega),p7]
  split
  ·rename_i h
   rw[List.nodup_append]
   refine⟨ih,by simp,fun a ha b hb=>?_⟩
   rw[List.mem_singleton.1 hb]
   rintro rfl
   have:=h.2.2
   rw[List.contains_eq_mem]at this
   simp[ha]at this
  ·exact ih
theorem MZ (l:List Int) (k:Nat):(fu (l.take k)).length≤k:=by
 induction k with
 |zero=>simp[fu]
 |succ k ih=>
  by_cases hk:k<l.length
  ·rw[qQ l hk,p7]
   split
   ·simp;omega
   ·omega
  ·rw[List.take_of_length_le (by omega)]at ih⊢;omega
def tZ (c:Nat) (n:Int):Fr:=(n,Fin.ofNat 129 (wS n.toNat c).toNat)
theorem Pl {c:Nat} {n:Int} (hc:c<64) (h1:0≤n) (h2:n<64):(((tZ c n).2:Nat):Int)=wS n.toNat c:=by
 have:=Lx (i:=n.toNat) (j:=c) (by omega) hc
 show(((wS n.toNat c).toNat%129:Nat):Int)=_
 omega
def p8 (c:Nat) (l:List Int):List Int:=(((fu l).map (tZ c)).mergeSort fun x y=>!(ltOf pZ) y x).map (·.1)
def fz (object block:Int) (l:List Int):List Int:=if 0≤object∧object≤16777215∧0≤block∧block<8 then p8 ((8*object+block)%64).toNat l else[]
def ni (acc:List Int):List Value:=(List.range 64).map fun i:Nat=>.bool (acc.contains (i:Int))
theorem Om (acc:List Int) {n:Int} (h1:0≤n) (h2:n<64):(ni acc)[n.toNat]?=some (.bool (acc.contains n)):=by
 rw[ni,List.getElem?_map,List.getElem?_range (by omega),Option.map_some,show((n.toNat:Nat):Int)=n by omega]
theorem M0 (acc:List Int) {n:Int} (h1:0≤n) (h2:n<64):(ni acc).set n.toNat (.bool true)=ni (acc++[n]):=by
 apply List.ext_getElem?
 intro i
 rw[List.getElem?_set,ni,ni,List.getElem?_map,List.getElem?_map,List.length_map,List.length_range]
 by_cases hi:i<64
 ·rw[List.getElem?_range hi,Option.map_some,Option.map_some]
  by_cases h:n.toNat=i
  ·rw[if_pos h,if_pos (by omega),show((i:Nat):Int)=n by omega]
   simp
  ·rw[if_neg h]
   have:(acc++[n]).contains (i:Int)=acc.contains (i:Int):=by
    rw[List.contains_eq_mem,List.contains_eq_mem]
    simp;omega
   rw[this]
 ·rw[if_neg (by omega),List.getElem?_eq_none (by simp;omega)];rfl
abbrev PZ:bM C.torD B9 gm 2 [.int .i64 0,.float .f64 0] 16:=⟨_,_,rfl,rfl,rfl,rfl,rfl,rfl⟩
theorem Pn:∀x,∀c∈pY x,c.oneCell'=true:=by
 intro x c hc
 simp[pY]at hc
 rcases hc with rfl|rfl<;>rfl
set_option maxHeartbeats 2000000 in
theorem yA (object block:Int) (live:Sl) (l:List Int) (h:Heap) (hl:Rd h live 1 av l) (hsz:l.length≤2^30):
  ab Tryz.prog Cp #[.int .i64 object,.int .i64 block,.slice live.ptr live.len live.cap] h fun v h'=>∃r:Sl,v=.slice r.ptr r.len r.cap∧Sp h h' [an aA r 1 av (fz object block l)]:=by
 have hll:=hl.len
 refine Aw object block live ?_
 unfold uB
 have no:¬(0≤object∧object≤16777215∧0≤block∧block<8)→∃r:Sl,Value.slice none 0 0=.slice r.ptr r.len r.cap∧Sp h h [an aA r 1 av (fz object block l)]:=fun hn=>by
  rw[fz,if_neg hn];exact⟨⟨none,0,0⟩,rfl,(Sp.refl h).nil aA 1 av⟩
 refine aU (al (fun e=>no (by omega)) fun e1=>al (fun e=>no (by omega)) fun e2=>al (fun e=>no (by omega)) fun e3=>al (fun e=>no (by omega)) fun e4=>?_)
 have hin:0≤object∧object≤16777215∧0≤block∧block<8:=by omega
 rw[fz,if_pos hin]
 rw[Go.Vc.wrap_small (8*object) (by omega) (by omega),Go.Vc.wrap_small (8*object+block) (by omega) (by omega),Int.tmod_eq_emod_of_nonneg (by omega)]
 obtain⟨c,hc⟩:∃c:Nat,(8*object+block)%64=c:=⟨((8*object+block)%64).toNat,by omega⟩
 have hc64:c<64:=by omega
 rw[hc,Int.toNat_natCast]
 refine⟨by decide,(IP c h hc64).mono ?_⟩
 rintro v h2 ⟨rfl,R2⟩
 refine⟨((im c).ax,(im c).ay),rfl,?_⟩
 refine R2.alloc ag rfl fun a h3 H3=>?_
 have H3':Sp h h3 [aj a vN (ni []),an gm ⟨none,0,0⟩ 2 pY []]:=H3.nil gm 2 pY
 refine aB (fun t:Sl×Nat=>(t.1,(t.2:Int))) (fun t h'=>t.2≤l.length∧Sp h h' [aj a vN (ni (fu (l.take t.2))),an gm t.1 2 pY ((fu (l.take t.2)).map (tZ c))]) (fun t=>l.length-t.2) (⟨none,0,0⟩,0) rfl ⟨by simp,H3'⟩ ?_
 rintro⟨s,k⟩ h4 ⟨hk,H4⟩
 dsimp only at*
 have hpl:=MZ l k
 refine al (fun e=>?_) (fun e=>?_)
 ·have hk':k<l.length:=by omega
  have hs:=qQ l hk'
  obtain⟨acc,hacc⟩:∃acc,acc=fu (l.take k):=⟨_,rfl⟩
  rw[←hacc]at H4 hpl hs
  refine(Seq.up hl H4.ah).cr k rfl hk' _ rfl ?_
  obtain⟨x,hx⟩:∃x,x=l[k]:=⟨_,rfl⟩
  rw[←hx]at hs⊢
  refine cI (fun t h'=>(t=true↔0≤x∧x<64∧acc.contains x=false)∧h'=h4) ?_ ?_
  ·refine al (fun x0=>al (fun x1=>?_) (fun x1=>⟨⟨fun e=>(by cases e),fun hh=>absurd hh.2.1 x1⟩,rfl⟩)) (fun x0=>⟨⟨fun e=>(by cases e),fun hh=>absurd hh.1 x0⟩,rfl⟩)
   refine⟨⟨x0,x1⟩,acc.contains x,?_,?_,rfl⟩
   ·rw[Nat.mul_one];exact(H4.box 0 rfl).cell (Om acc x0 x1)
   ·cases acc.contains x<;>simp<;>omega
  ·rintro t h5 ⟨ht,rfl⟩
   refine bu (fun e=>?_) (fun e=>?_)
   ·obtain⟨x0,x1,x2⟩:=ht.1 e
    refine⟨⟨x0,x1⟩,?_⟩
    rw[Nat.mul_one]
    refine H4.storeAt ag 0 rfl rfl rfl rfl rfl (by simp[ni];omega) fun h6 H6=>?_
    have H6':Sp h h6 [aj a vN (ni (acc++[x])),an gm s 2 pY (acc.map (tZ c))]:=by
     rw[←M0 acc x0 x1];exact H6
    obtain⟨n,hn⟩:∃n:Nat,x=n:=⟨x.toNat,by omega⟩
    subst hn
    refine(IP n h6 (by omega)).mono ?_
    rintro v h7 ⟨rfl,R7⟩
    refine⟨((im n).ax,(im n).ay),rfl,(MY n c h7 (by omega) hc64).mono ?_⟩
    rintro v h8 ⟨rfl,rfl⟩
    have H8:=H6'.up R7.ah
    have ev:ca (wS n c)=ca (((tZ c (n:Int)).2:Nat):Int):=by rw[Pl hc64 (by omega) (by omega),Int.toNat_natCast]
    refine⟨_,rfl,?_⟩
    rw[ev]
    refine H8.push ag 1 rfl PZ rfl (by decide) (fun _=>rfl) Pn (tZ c (n:Int)) rfl (by decide) (by simp;omega) fun s' h9 H9=>?_
    refine⟨(s',k+1),by dsimp only;rw[Go.Vc.wrap_small _ (by omega) (by omega)];rfl,⟨by dsimp only;omega,?_⟩,by dsimp only;omega⟩
    dsimp only
    rw[hs,p7,if_pos ⟨x0,x1,x2⟩,List.map_append]
    exact H9
   ·refine⟨(s,k+1),by dsimp only;rw[Go.Vc.wrap_small _ (by omega) (by omega)];rfl,⟨by dsimp only;omega,?_⟩,by dsimp only;omega⟩
    dsimp only
    rw[hs,p7,if_neg (fun hh=>by rw[ht.2 hh]at e;cases e)]
    exact H4
 have hkl:k=l.length:=by omega
 subst hkl
 rw[List.take_length]at H4 hpl
 refine(Gt (H4.own 1 rfl) (by simp;omega)).mono ?_
 rintro v h5 ⟨rfl,ho5,hp5⟩
 have H5:=H4.js 1 rfl hp5 ho5
 obtain⟨srt,hsrt⟩:∃srt,srt=((fu l).map (tZ c)).mergeSort fun x y=>!(ltOf pZ) y x:=⟨_,rfl⟩
 have hsl:srt.length=(fu l).length:=by rw[hsrt,List.length_mergeSort,List.length_map]
 have eo:p8 c l=srt.map (·.1):=by rw[p8,←hsrt]
 rw[←hsrt]at H5
 have hfl:=(H5.own 1 rfl).len
 rw[eo]
 refine⟨(),rfl,?_⟩
 refine aB (fun t:Sl×Nat=>(t.1,(t.2:Int))) (fun t h'=>t.2≤srt.length∧Sp h h' [an gm s 2 pY srt,an aA t.1 1 av ((srt.take t.2).map (·.1))]) (fun t=>srt.length-t.2) (⟨none,0,0⟩,0) rfl ⟨by simp,(H5.del 0).nil aA 1 av⟩ ?_
 rintro⟨o,i⟩ h6 ⟨hi,H6⟩
 dsimp only at*
 refine al (fun e=>?_) (fun e=>?_)
 ·have hi':i<srt.length:=by omega
  refine(H6.seq 0 rfl (fun _=>rfl)).eu i rfl hi' (srt[i].1,ca ((srt[i].2:Nat):Int)) rfl ?_
  refine H6.alloc ag rfl fun y h7 H7=>?_
  refine H7.storeAll ag 2 rfl rfl [.int .i64 srt[i].1,.float .f64 (ca ((srt[i].2:Nat):Int))] rfl rfl rfl rfl fun h8 H8=>?_
  refine⟨srt[i].1,(H8.box 2 rfl).cell0 rfl,?_⟩
  refine H8.push ag 1 rfl NJ rfl (by decide) (fun _=>rfl) jr srt[i].1 rfl (by decide) (by simp;omega) fun o' h9 H9=>?_
  refine⟨(o',i+1),by dsimp only;rw[Go.Vc.wrap_small _ (by omega) (by omega)];rfl,⟨by dsimp only;omega,?_⟩,by dsimp only;omega⟩
  dsimp only
  rw[aM _ _ hi',List.map_append]
  exact H9.del 2
 ·rw[List.take_of_length_le (by omega)]at H6
  exact⟨o,rfl,H6.take 1 (fun i A hi=>by cases i with|zero=>exact hi|succ i=>simp at hi)⟩
end Go.Proofs.YtkciobclldnoiaaGreat
namespace Go.Proofs.YtkciobclldnoiaaGreat
open Go Go.Vc Go.Proofs Wl
set_option maxRecDepth 100000
theorem M3 (l:List Int) (x:Int):x∈fu l↔x∈l∧0≤x∧x<64:=by
 have:=Gu l l.length (Nat.le_refl _) x
 rwa [List.take_length]at this
theorem On (l:List Int):(fu l).Nodup:=by
 have:=Bo l l.length (Nat.le_refl _)
 rwa [List.take_length]at this
theorem Bp (c:Nat) (l:List Int):(p8 c l).Perm (fu l):=by
 have h:=(List.mergeSort_perm ((fu l).map (tZ c)) fun x y=>!(ltOf pZ) y x).map (·.1)
 rw[List.map_map]at h
 have e:((fun x:Fr=>x.1)∘tZ c)=id:=rfl
 rw[e,List.map_id]at h
 exact h
theorem DA (c:Nat) (l:List Int) (x:Int):x∈p8 c l↔x∈l∧0≤x∧x<64:=by rw[(Bp c l).mem_iff,M3]
theorem M4 (c:Nat) (l:List Int):(p8 c l).Nodup:=(Bp c l).nodup_iff.2 (On l)
def JT (l:List Int) (i:Nat):Int:=l.getD i 0
def lY (o:List Int) (id:Int):Int:=if o=[]∨id<0 then-1 else JT o (id%(o.length:Int)).toNat
theorem IT (s:Sl) (o:List Int) (id:Int) (h:Heap) (hs:Rd h s 1 av o):ab Tryz.prog Hg #[.slice s.ptr s.len s.cap,.int .i64 id] h fun v h'=>v=.int .i64 (lY o id)∧h'=h:=by
 have hl:=hs.len
 refine FA s id ?_
 unfold Ax
 refine aU (cY (fun e=>⟨by rw[lY,if_pos (.inl (List.eq_nil_of_length_eq_zero (by omega)))],rfl⟩) fun e=>al (fun e2=>⟨by rw[lY,if_pos (.inr e2)],rfl⟩) fun e2=>?_)
 refine⟨e,?_⟩
 have hne:¬(o=[]∨id<0):=by
  rintro(rfl|h2)
  ·simp at hl;omega
  ·exact e2 h2
 have hem:Int.tmod id ((s.len:Nat):Int)=((id%(o.length:Int)).toNat:Int):=by
  rw[Int.tmod_eq_emod_of_nonneg (by omega),hl]
  have:=Int.emod_nonneg id (show(o.length:Int)≠0 by omega)
  omega
 have hlt:(id%(o.length:Int)).toNat<o.length:=by
  have:=Int.emod_lt_of_pos id (show(0:Int)<o.length by omega)
  omega
 rw[hem]
 refine hs.cr _ rfl hlt _ rfl ⟨?_,rfl⟩
 rw[lY,if_neg hne,JT,List.getD_eq_getElem?_getD,List.getElem?_eq_getElem hlt];rfl
end Go.Proofs.YtkciobclldnoiaaGreat
namespace Go.Proofs.YtkciobclldnoiaaGreat
open Go Go.Vc Go.Proofs Wl
set_option maxRecDepth 100000
def zx (p:Pm) (seed:Int) (d:Row) (id:Int):List UInt8:=if cv id then kj p.2.2.toNat (iU p seed d) (iT (dc p).toNat seed id)else[]
def Gv (m:aF) (o b seed:Int) (d:Row) (id:Int):db:=⟨o,b,id,m.p,seed,zx m.p seed d id⟩
def Bq (m:aF) (o b seed:Int) (d:Row) (order:List Int) (id:Int):Int×List UInt8:=(lY order id,dV (Gv m o b seed d id))
def jZ (m:aF) (o:Int) (tries:List Int) (bl:List (List UInt8)) (live:List Int) (i:Nat):List (Int×List UInt8):=
 (List.range (m.p.1+m.extra).toNat).map fun id:Nat=>Bq m o i (jC o i (tries.getD i 0)) (bl.getD i []) (fz o i live) id
def cV (m:aF) (o:Int) (tries:List Int) (bl:List (List UInt8)) (live:List Int) (n:Nat):List (Int×List UInt8):=(List.range n).flatMap (jZ m o tries bl live)
theorem oh (m:aF) (o:Int) (tries:List Int) (bl:List (List UInt8)) (live:List Int) (n:Nat):cV m o tries bl live (n+1)=cV m o tries bl live n++jZ m o tries bl live n:=by
 unfold cV;rw[List.range_succ,List.flatMap_append,List.flatMap_cons,List.flatMap_nil,List.append_nil]
theorem ua (m:aF) (o:Int) (tries:List Int) (bl:List (List UInt8)) (live:List Int) (i:Nat):(jZ m o tries bl live i).length=(m.p.1+m.extra).toNat:=by simp[jZ]
theorem p9 (m:aF) (o:Int) (tries:List Int) (bl:List (List UInt8)) (live:List Int):∀n,(cV m o tries bl live n).length=n*(m.p.1+m.extra).toNat
 |0=>by simp[cV]
 |n+1=>by rw[oh,List.length_append,p9 m o tries bl live n,ua,Nat.succ_mul]
theorem HZ (o b t:Int):0≤jC o b t∧jC o b t<4294967296:=by unfold jC;omega
section
variable {B:au} {h0 h:Heap} {As:List HP} {a pw:Addr} {offs:Int} {da:List (Option Addr)} {w:Pow} {ds:aN}
theorem El (x:bw) (m:aF) (xe:di) (e:Wl.cK) (s:Sl) (b:List UInt8) (hS:St B h0 As fun h=>cL h x m∧ly kJ h xe e∧Rd h s 1 aG b) (hsc:s.len≤s.cap) (hz:bR m) (hp:bU m.p=true) (hx0:0≤m.extra∧m.extra≤16) (hbl:b.length≤2^20)
  (ht:cz m.p e.object (bj m.p b).length=some e.tries) (H:aa B h0 h (aI aR a pw (aD x) offs da w ds::As)):
  ab Tryz.prog rh #[.pointer (some a),Gm xe,.slice s.ptr s.len s.cap] h fun v h'=>∃(r:Sl) (ys:List (Int×Sl)),v=.tuple #[.slice r.ptr r.len r.cap,.bool true]∧
   aa B h0 h' (aI aR a pw (aD x) offs da w ds::cG cT 2 piv r ys (cV m e.object e.tries (bj m.p b) (bg ds m.drives) (bj m.p b).length)::As):=by
 refine qj (some a) xe s ?_
 unfold kX
 refine H.boxed fun a1 h1 H1=>?_
 have H1:=H1.bW
 have H1:aa B h0 h1 (aI aR a pw (aD x) offs da w ds::aj a1 aQ (bE xe)::As):=H1.aS 2 [1,0]
 refine(dS x m (hS.at [_,_] H1).1 hz H1).mono ?_
 rintro _ h2 ⟨lv,rfl,R2⟩
 have H2:=(H1.ck R2).aS 3 [1,0,2]
 obtain⟨ok,hb2⟩:=aa.cb H2
 obtain⟨hx2,he2,hs2⟩:=hS.at [_,_,_] H2
 have hpv:(x.2.2.1,x.2.2.2.1,x.2.2.2.2.1)=m.p:=hx2.p
 have hmp:=(cg m.p).1 hp
 obtain⟨s1,s2,s3⟩:=lV hp
 obtain⟨c1,c2,c3⟩:=jo hp b.length
 have hll:(bg ds m.drives).length≤m.drives.length:=List.length_filter_le _ _
 have hdr:=hz.dr
 obtain⟨live,hlive⟩:∃live,live=bg ds m.drives:=⟨_,rfl⟩
 rw[←hlive]at H2 hll⊢
 obtain⟨bl,hbl'⟩:∃bl,bl=bj m.p b:=⟨_,rfl⟩
 have hblen:bl.length≤2^20:=by rw[hbl'];unfold bj;simp;omega
 have hbrow:∀r∈bl,r.length=ea m.p:=by
  rw[hbl'];intro r hr;unfold bj at hr
  obtain⟨i,_,rfl⟩:=List.mem_map.1 hr
  exact Dn _ _ _
 refine⟨lv,rfl,a,rfl,(x.2.2.1,x.2.2.2.1,x.2.2.2.2.1),⟨by rw[addr_add];exact hb2.cell rfl,by rw[addr_add];exact hb2.cell rfl,by rw[addr_add];exact hb2.cell rfl,trivial⟩,?_⟩
 rw[hpv]
 refine(HK m.p s b h2 hp hs2 hsc (by omega)).mono ?_
 rintro _ h3 ⟨q,rfl,R3⟩
 rw[←hbl']at R3 ht⊢
 obtain⟨rs,H3⟩:=Go.Proofs.YtkciobclldnoiaaGreat.aa.Ev (H2.ck R3) fun _=>rfl
 have H3:=(H3.OK bo 2 piv cT).bW
 have H3:aa B h0 h3 (aI aR a pw (aD x) offs da w ds::dX bo ⟨none,0,0⟩ 2 piv cT (cV m e.object e.tries bl live 0)::cG (je 1 aG) 1 cy q rs bl::an aA lv 1 av live::aj a1 aQ (bE xe)::As):=H3.aS 5 [2,0,1,3,4]
 have hql:=(H3.fN 2 rfl).1.len
 have hrl:=(H3.fN 2 rfl).2.1
 have htl:=jf ht
 refine⟨q,rfl,?_⟩
 obtain⟨nid,hnid⟩:∃nid:Nat,nid=(m.p.1+m.extra).toNat:=⟨_,rfl⟩
 have hnid32:nid≤32:=by omega
 refine aB (fun t:Sl×Nat=>(t.1,(t.2:Int))) (fun t h'=>t.2≤bl.length∧aa B h0 h' (aI aR a pw (aD x) offs da w ds::dX bo t.1 2 piv cT (cV m e.object e.tries bl live t.2)::cG (je 1 aG) 1 cy q rs bl::an aA lv 1 av live::aj a1 aQ (bE xe)::As)) (fun t=>bl.length-t.2) (⟨none,0,0⟩,0) rfl ⟨by simp,H3⟩ ?_
 rintro⟨o,i⟩ h4 ⟨hi,H4⟩
 dsimp only at*
 refine al (fun e1=>?_) (fun e1=>?_)
 ·have hi':i<bl.length:=by omega
  have F4:=H4.fN 2 rfl
  have hb4:=H4.box 4 rfl
  obtain⟨hx4,he4,hs4⟩:=hS.at [_,_,_,_,_] H4
  obtain⟨_,hc4⟩:=aa.cb H4
  obtain⟨t,htt,htp⟩:=qO ht i (by omega)
  have hgt:e.tries.getD i 0=(t:Int):=by rw[List.getD_eq_getElem?_getD,List.getElem?_eq_getElem (by omega)];exact htt
  have hgb:bl.getD i []=bl[i]:=by rw[List.getD_eq_getElem?_getD,List.getElem?_eq_getElem hi'];rfl
  have c1':∀{h':Heap},bK h' a1 aQ (bE xe)→cellOf h' (a1.add 1)=some (.int .i64 e.object):=fun{h'} hb=>by rw[←he4.1.2.1];exact hb.cell rfl
  have cp:∀{h':Heap},bK h' a fm (cx (aD x) pw offs da)→ai h' (a.add 2) 0 [.int .i64 m.p.1,.int .i64 m.p.2.1,.int .i64 m.p.2.2]:=fun{h'} hb=>by
   rw[←hpv]
   exact⟨by rw[addr_add];exact hb.cell rfl,by rw[addr_add];exact hb.cell rfl,by rw[addr_add];exact hb.cell rfl,trivial⟩
  have hF4:=Fix.row F4 hi'
  refine F4.1.cr i rfl (by omega) (rs[i]'(by omega)) rfl ?_
  refine⟨e.object,c1' hb4,xe.2.2.2,hb4.cell rfl,?_⟩
  refine Seq.cr (f:=av) he4.2 i rfl (by omega) (t:Int) (by rw[htt];rfl) ?_
  refine(tQ _ _ _ h4).mono ?_
  rintro _ _ ⟨rfl,rfl⟩
  refine⟨_,rfl,⟨hb4.cell rfl,trivial⟩,a,rfl,m.p,cp hc4,?_⟩
  obtain⟨seed,hseed⟩:∃seed,seed=jC e.object i t:=⟨_,rfl⟩
  have hg:=(wI htp).2.1
  have hfull:lE m.p seed (ey m.p)=true:=by rw[hseed];exact hg
  obtain⟨K,Hh,w',n,BK⟩:=NA (seed:=seed) (d:=bl[i]) hp hfull (by rw[hbrow _ (List.getElem_mem hi'),s3])
  rw[←hseed]
  refine(Ph BK (rs[i]'(by omega)) _ hF4.1 hF4.2).mono ?_
  rintro _ h6 ⟨bk,mm,rfl,R6⟩
  have H6:=(H4.comp R6).front
  have H6:aa B h0 h6 (aI aR a pw (aD x) offs da w ds::dX bo o 2 piv cT (cV m e.object e.tries bl live i)::cG (je 1 aG) 1 cy q rs bl::an aA lv 1 av live::aj a1 aQ (bE xe)::fY aW mm 1 aG (iU m.p seed bl[i])::aj bk eO (zw m.p seed mm)::As):=H6.aS 7 [2,3,4,5,6,0,1]
  refine⟨(some bk,0),rfl,bP (fun e2=>absurd rfl e2) fun _=>?_⟩
  have hb6:=H6.box 4 rfl
  refine⟨e.object,c1' hb6,(yA e.object i lv live h6 (H6.seq 3 rfl fun _=>rfl) (by omega)).mono ?_⟩
  rintro _ h7 ⟨ord,rfl,R7⟩
  have H7:=(H6.ck R7).aS 8 [1,2,3,4,5,6,7,0]
  obtain⟨order,horder⟩:∃order,order=fz e.object i live:=⟨_,rfl⟩
  rw[←horder]at H7
  have hc7:=(aa.cb H7).2
  have hp1:x.2.2.1=m.p.1:=congrArg (·.1) hpv
  refine⟨ord,rfl,a,rfl,x.2.2.1,hc7.cell rfl,a,rfl,x.2.2.2.2.2.1,hc7.cell rfl,?_⟩
  have en:IntKind.wrap .i64 (x.2.2.1+x.2.2.2.2.2.1)=(nid:Int):=by rw[hp1,hx4.extra,Go.Vc.wrap_small _ (by omega) (by omega)];omega
  rw[en]
  have hblk:jZ m e.object e.tries bl live i=(List.range nid).map fun id:Nat=>Bq m e.object i seed bl[i] order id:=by
   unfold jZ;rw[hgt,hgb,←hseed,←horder,←hnid]
  have hBl:(jZ m e.object e.tries bl live i).length=nid:=by rw[ua,←hnid]
  obtain⟨pcs,hpcs⟩:∃pcs,pcs=cV m e.object e.tries bl live i:=⟨_,rfl⟩
  have hpl:pcs.length≤2^26:=by
   rw[hpcs,p9,←hnid]
   have:=Nat.mul_le_mul (show i≤2^20 by omega) hnid32
   omega
  obtain⟨Q,hQ⟩:∃Q,Q=jZ m e.object e.tries bl live i:=⟨_,rfl⟩
  rw[←hQ]at hblk hBl
  rw[←hpcs]at H7
  refine aB (fun t:Sl×Nat=>(t.1,(t.2:Int))) (fun t h'=>t.2≤nid∧aa B h0 h' (aI aR a pw (aD x) offs da w ds::dX bo t.1 2 piv cT (pcs++Q.take t.2)::cG (je 1 aG) 1 cy q rs bl::an aA lv 1 av live::aj a1 aQ (bE xe)::fY aW mm 1 aG (iU m.p seed bl[i])::aj bk eO (zw m.p seed mm)::an aA ord 1 av order::As)) (fun t=>nid-t.2) (o,0) rfl ⟨by simp,by simpa using H7⟩ ?_
  rintro⟨o2,id⟩ h8 ⟨hid,H8⟩
  dsimp only at*
  refine al (fun e3=>?_) fun e3=>?_
  ·have hid':id<nid:=by omega
   have hb8:=H8.box 4 rfl
   have hc8:=(aa.cb H8).2
   have hblkA:CK h8 bk m.p seed (iU m.p seed bl[i]):=⟨mm,H8.box 6 rfl,H8.zN 5 rfl⟩
   have hsym:zx m.p seed bl[i] id=if cv id then kj w' (iU m.p seed bl[i]) (iT n seed id)else[]:=by
    unfold zx;rw[BK.xw,show m.p.2.2.toNat=w' by have:=BK.s;omega]
   have held:∀{h':Heap},aH (fun b=>b<h8.size) h8 h'→ak.ok [((a.add 2),.int .i64 m.p.1),((a.add 2).add 1,.int .i64 m.p.2.1),((a.add 2).add 2,.int .i64 m.p.2.2),(a1.add 1,.int .i64 e.object)] h':=fun{h'} hp=>by
    obtain⟨q1,q2,q3,_⟩:=cp (hc8.ah hp hc8.lt)
    exact⟨q1,q2,q3,c1' (hb8.ah hp hb8.lt),trivial⟩
   refine cI (fun(adr:Addr) h'=>∃r:Sl,aa B h0 h' (aj adr aC (aV (e.object,(i:Int),(id:Int),m.p.1,m.p.2.1,m.p.2.2,seed,r))::an aE r 1 aG (zx m.p seed bl[i] id)::aI aR a pw (aD x) offs da w ds::dX bo o2 2 piv cT (pcs++Q.take id)::cG (je 1 aG) 1 cy q rs bl::an aA lv 1 av live::aj a1 aQ (bE xe)::fY aW mm 1 aG (iU m.p seed bl[i])::aj bk eO (zw m.p seed mm)::an aA ord 1 av order::As)) ?_ ?_
   ·refine⟨e.object,c1' hb8,a,rfl,m.p,cp hc8,?_,?_⟩
    ·refine(BK.symbol bk id h8 hblkA).mono ?_
     rintro _ h9 ⟨r,rfl,R9⟩
     rw[←hsym]at R9
     have H9:=H8.ck R9
     refine⟨r,rfl,held R9.ah,H9.ET ag rfl fun a28 h10 P10 H10=>⟨held (aa.up R9 P10).ah,?_⟩⟩
     have H10:=H10.bW
     refine H10.storeAll ag 0 rfl rfl (aV (e.object,(i:Int),(id:Int),m.p.1,m.p.2.1,m.p.2.2,seed,r)) rfl rfl rfl rfl fun h11 H11=>⟨trivial,r,H11⟩
    ·refine H8.ET ag rfl fun a29 h12 P12 H12=>⟨held P12,?_⟩
     have H12:=H12.bW
     refine(BK.symbol bk id h12 (hblkA.up P12)).mono ?_
     rintro _ h13 ⟨r,rfl,R13⟩
     rw[←hsym]at R13
     have H13:=(H12.ck R13).aS 2 [1,0]
     refine⟨r,rfl,held (aa.up (Sp.zip P12) R13.ah).ah,?_⟩
     refine H13.storeAll ag 0 rfl rfl (aV (e.object,(i:Int),(id:Int),m.p.1,m.p.2.1,m.p.2.2,seed,r)) rfl rfl rfl rfl fun h14 H14=>⟨trivial,r,H14⟩
   ·rintro adr h15 ⟨r,H15⟩
    have hb15:=H15.box 0 rfl
    have hsr:=HZ e.object i t
    rw[←hseed]at hsr
    refine⟨(e.object,(i:Int),(id:Int),m.p.1,m.p.2.1,m.p.2.2,seed,r),hb15.aL _ rfl,(IT ord order id h15 (H15.seq 9 rfl fun _=>rfl)).mono ?_⟩
    rintro _ h16 ⟨rfl,rfl⟩
    refine⟨_,rfl,⟨hb15.cell0 rfl,hb15.cell rfl,hb15.cell rfl,hb15.cell rfl,hb15.cell rfl,hb15.cell rfl,hb15.cell rfl,hb15.cell rfl,trivial⟩,?_⟩
    refine(nh (e.object,(i:Int),(id:Int),m.p.1,m.p.2.1,m.p.2.2,seed,r) (Gv m e.object i seed bl[i] id) h16 ⟨⟨rfl,rfl,rfl,rfl,rfl,hsr.1,hsr.2⟩,H15.seq 1 rfl fun _=>rfl⟩).mono ?_
    rintro _ h17 ⟨u,rfl,R17⟩
    have H17:=(H15.ck R17).fZ 0 rfl (D:=EA cT (lY order id,u) (Bq m e.object i seed bl[i] order id)) fun z hz=>⟨rfl,hz.1.seq (fun _=>rfl) hz.2⟩
    have hQid:Q[id]'(by omega)=Bq m e.object i seed bl[i] order id:=by simp[hblk]
    refine⟨u,rfl,trivial,?_⟩
    refine H17.oP ag piv wH rfl [(lY order id,u)] rfl (show 1*2≤2^20 by decide) rfl trivial ?_
    refine aa.Nv ag H17 4 0 (by decide) (a:=(lY order id,u)) rfl rfl wH rfl (by decide) (fun _=>rfl) xz (parts:=#[(0,.agg #[.int .i64 (lY order id),.slice u.ptr u.len u.cap])]) (by kernel_rfl) (by decide) (by simp;omega) fun o3 h19 H19=>⟨trivial,?_⟩
    refine⟨(o3,id+1),by dsimp only;rw[Go.Vc.wrap_small _ (by omega) (by omega)];rfl,⟨by dsimp only;omega,?_⟩,by dsimp only;omega⟩
    dsimp only
    rw[aM Q id (by omega),hQid,←List.append_assoc]
    exact H19.rest.rest.rest
  ·have hin:id=nid:=by omega
   subst hin
   rw[List.take_of_length_le (by omega)]at H8
   refine⟨(o2,i+1),by dsimp only;rw[Go.Vc.wrap_small _ (by omega) (by omega)];rfl,⟨by dsimp only;omega,?_⟩,by dsimp only;omega⟩
   dsimp only
   rw[oh,←hpcs,←hQ]
   exact H8.aS 8 [0,1,2,3,4]
 ·have hin:i=bl.length:=by omega
  subst hin
  obtain⟨ys,H5⟩:=H4.OL 1 rfl fun _=>rfl
  exact⟨o,ys,rfl,H5.aS 5 [0,1]⟩
end
end Go.Proofs.YtkciobclldnoiaaGreat
namespace Wl
open Go
def iA (pages:Nat) (l:List (Int×List UInt8)) (k:Int):Int:=(pages:Int)+(l.filter fun y=>decide (y.1=k)).length
end Wl
namespace Go.Proofs.YtkciobclldnoiaaGreat
open Go Go.Vc Go.Proofs Wl
set_option maxRecDepth 100000
theorem LA (k:Int) (a30 a15:Addr) (pages:Nat) (r:Sl) (ys:List (Int×Sl)) (l:List (Int×List UInt8)) (h:Heap) (hpg:pages≤2^30) (hl:l.length≤2^30) (b30:bK h a30 aA [.int .i64 pages]) (b15:bK h a15 dQ [.slice r.ptr r.len r.cap]) (hf:np cT 2 piv h r ys l):
  ab Tryz.prog gf #[.int .i64 k,.pointer (some a30),.pointer (some a15)] h fun v h'=>v=.int .i64 (iA pages l k)∧Sp h h' []:=by
 refine rT k a30 a15 ?_
 unfold mo
 have hrl:=hf.1.len
 have hyl:=hf.2.1
 refine⟨(pages:Int),b30.cell0 rfl,r,b15.cell0 rfl,?_⟩
 refine aB (fun i:Nat=>(iA pages (l.take i) k,(i:Int))) (fun i h'=>i≤l.length∧Sp h h' []) (fun i=>l.length-i) 0 (by simp[iA]) ⟨by omega,Sp.refl h⟩ ?_
 rintro i h1 ⟨hi,H1⟩
 dsimp only
 have hcnt:(((l.take i).filter fun y=>decide (y.1=k)).length:Int)≤i:=by
  have:=List.length_filter_le (fun y:Int×List UInt8=>decide (y.1=k)) (l.take i)
  simp at this;omega
 refine al (fun e=>?_) fun e=>?_
 ·have hi':i<l.length:=by omega
  have hf1:=np.up hf H1.ah
  refine hf1.1.eu (g:=piv) i rfl (by omega) (ys[i]'(by omega)) rfl ?_
  refine H1.alloc ag rfl fun a6 h2 H2=>?_
  refine H2.storeAll ag 0 rfl rfl (piv (ys[i]'(by omega))) rfl rfl rfl rfl fun h3 H3=>?_
  have H3:Sp h h3 [aj a6 bo (piv (ys[i]'(by omega)))]:=H3
  have hrow:=Fix.row hf1 hi'
  have hsnoc:iA pages (l.take (i+1)) k=iA pages (l.take i) k+(if l[i].1=k then 1 else 0):=by
   unfold iA
   rw[aM _ _ hi',List.filter_append,List.length_append,List.filter_cons,List.filter_nil]
   split
   ·rename_i hd;rw[if_pos (of_decide_eq_true hd)];simp;omega
   ·rename_i hd;rw[if_neg (by simpa using hd)];simp
  refine⟨l[i].1,by rw[←hrow.1];exact(H3.box 0 rfl).cell0 rfl,cY (fun g=>?_) fun g=>?_⟩
  ·refine⟨i+1,?_,⟨by omega,.zip H3.ah⟩,by omega⟩
   rw[hsnoc,if_pos g,Go.Vc.wrap_small (iA pages (l.take i) k+1) (by unfold iA;omega) (by unfold iA;omega),Go.Vc.wrap_small _ (by omega) (by omega)];rfl
  ·refine⟨i+1,?_,⟨by omega,.zip H3.ah⟩,by omega⟩
   rw[hsnoc,if_neg g,Int.add_zero,Go.Vc.wrap_small _ (by omega) (by omega)];rfl
 ·rw[List.take_of_length_le (by omega)]
  exact⟨rfl,H1⟩
def eC (m:aF) (offs:Int) (w:Pow) (ds:aN) (name:ByteArray) (b:List UInt8):Int×aF×Pow×aN:=
 if dw m (dT w offs) ds name b.length≠0 then(dw m (dT w offs) ds name b.length,m,w,ds)else
 match cz m.p m.next (bj m.p b).length with
 |none=>(8,m,w,ds)
 |some t=>
  let live:=bg ds m.drives
  let l:=cV m m.next t (bj m.p b) live (bj m.p b).length
  let n:=iy m ⟨name,m.next,b.length,t⟩
  let N:=iA (bh n).length l
  if dp m ds live N=false then(7,m,w,ds)else
  if(makes m N live w ds).1≠0 then((makes m N live w ds).1,m,(makes m N live w ds).2)else
  let r2:=layAll l (makes m N live w ds).2.1 (makes m N live w ds).2.2
  if r2.1≠0 then(r2.1,m,r2.2)else
  ((layAll (bn n live) r2.2.1 r2.2.2).1,if(layAll (bn n live) r2.2.1 r2.2.2).1=0 then n else m,(layAll (bn n live) r2.2.1 r2.2.2).2)
end Go.Proofs.YtkciobclldnoiaaGreat
namespace Go.Proofs.YtkciobclldnoiaaGreat
open Go Go.Vc Go.Proofs Wl
set_option maxRecDepth 100000
theorem qc {m:aF} {d:Bool} {ds:aN} {name:ByteArray} {n:Nat} (h:dw m d ds name n=0):
  d=false∧gS name=true∧m.aJ.any (lX name)=false∧¬(m.p.1*m.p.2.2*8<(n:Int)∨12≤m.aJ.length)∧¬(bg ds m.drives=[]∨16777215<m.next∨2147483647≤m.seq):=by
 unfold dw at h
 split at h
 ·cases h
 ·rename_i h1
  split at h
  ·cases h
  ·rename_i h2
   split at h
   ·cases h
   ·rename_i h3
    split at h
    ·cases h
    ·rename_i h4
     split at h
     ·cases h
     ·rename_i h5
      exact⟨by simpa using h1,by simpa using h2,by simpa using h3,h4,h5⟩
theorem IU {m:aF} {b:List UInt8} (hp:bU m.p=true) (h:¬m.p.1*m.p.2.2*8<(b.length:Int)):(bj m.p b).length≤8:=by
 obtain⟨s1,s2,s3⟩:=lV hp
 obtain⟨c1,c2,c3⟩:=jo hp b.length
 unfold bj
 rw[List.length_map,List.length_range]
 refine Nat.le_of_not_lt fun h8=>?_
 have:=c3 8 (by omega)
 rw[←s3]at h
 omega
theorem LB {o:List Int} (ho:o≠[]) (id:Nat):lY o id∈o:=by
 unfold lY JT
 rw[if_neg (by rintro(h|h);exact ho h;omega)]
 have hl:0<o.length:=by cases o with|nil=>exact absurd rfl ho|cons=>simp
 have hlt:((id:Int)%(o.length:Int)).toNat<o.length:=by
  have:=Int.emod_lt_of_pos (id:Int) (show(0:Int)<o.length by omega)
  have:=Int.emod_nonneg (id:Int) (show(o.length:Int)≠0 by omega)
  omega
 rw[List.getD_eq_getElem?_getD,List.getElem?_eq_getElem hlt]
 exact List.getElem_mem hlt
theorem Gw {m:aF} {o:Int} {tries:List Int} {bl:List (List UInt8)} {live:List Int} (ho:0≤o∧o≤16777215) (hl:live≠[]) (hin:∀k∈live,0≤k∧k<64) {n:Nat} (hn:n≤8) {y:Int×List UInt8} (hy:y∈cV m o tries bl live n):y.1∈live∧y.2.length≤64:=by
 unfold cV at hy
 obtain⟨i,hi,hy⟩:=List.mem_flatMap.1 hy
 have hi:=List.mem_range.1 hi
 unfold jZ at hy
 obtain⟨id,_,rfl⟩:=List.mem_map.1 hy
 refine⟨?_,?_⟩
 ·show lY _ _∈live
  have hord:fz o i live=p8 ((8*o+i)%64).toNat live:=by unfold fz;rw[if_pos (by omega)]
  have hmem:∀a,a∈fz o i live↔a∈live∧0≤a∧a<64:=fun a=>by rw[hord];exact DA _ _ _
  have hne:fz o i live≠[]:=fun h=>by
   cases live with
   |nil=>exact hl rfl
   |cons a l=>
    have:=(hmem a).2 ⟨List.mem_cons_self,hin a List.mem_cons_self⟩
    rw[h]at this;cases this
  exact((hmem _).1 (LB hne id)).1
 ·show(dV _).length≤64
  unfold dV
  split
  ·rename_i hm
   refine Nat.le_of_eq (kA (by decide) (by decide) ?_)
   have:=qy hm
   omega
  ·simp
theorem Oo {m:aF} {e:Wl.cK} (hz:bR m) (ho:m.aJ.length≤11) (hn:e.name.size≤2^30) (ht:e.tries.length≤2^30):bR (iy m e):=by
 refine⟨hz.dr,?_,fun f hf=>?_⟩
 ·show((m.aJ++[e]).mergeSort oD).length≤2^30
  rw[List.length_mergeSort];simp;omega
 ·have hf:f∈(m.aJ++[e]).mergeSort oD:=hf
  rcases List.mem_append.1 ((List.mergeSort_perm _ _).mem_iff.1 hf)with h|h
  ·exact hz.nm f h
  ·rw[List.mem_singleton.1 h];exact⟨hn,ht⟩
end Go.Proofs.YtkciobclldnoiaaGreat
namespace Go.Proofs.YtkciobclldnoiaaGreat
open Go Go.Vc Go.Proofs Wl
set_option maxRecDepth 100000
section
variable {B:au} {h0 h:Heap} {As:List HP} {a pw:Addr} {offs:Int} {da:List (Option Addr)} {w:Pow} {ds:aN}
theorem M5 (x:bw) (m:aF) (name:ByteArray) (s:Sl) (b:List UInt8) (hS:St B h0 As fun h=>Rd h s 1 aG b) (hsc:s.len≤s.cap) (hn:name.size≤2^40) (hz:bR m) (hp:bU m.p=true) (hx0:0≤m.extra∧m.extra≤16) (hin:∀k∈m.drives,0≤k∧k<64) (hdl:m.drives.length≤64) (hsq:0≤m.seq) (hnx:0≤m.next) (hbl:b.length≤2^20)
  (H:aa B h0 h (aI aR a pw (aD x) offs da w ds::bC x m::As)):
  ab Tryz.prog ny #[.pointer (some a),.string name,.slice s.ptr s.len s.cap] h fun v h'=>v=.int .i64 (eC m offs w ds name b).1∧
   ∃y,aa B h0 h' (aI aR a pw (aD y) offs da (eC m offs w ds name b).2.2.1 (eC m offs w ds name b).2.2.2::bC y (eC m offs w ds name b).2.1::As):=by
 refine uT (some a) name s ?_
 unfold om
 have hsl:=(hS.at [_,_] H).len
 refine(Gp x m name s b.length hsl hn (H.at 1 rfl) hz hp H).mono ?_
 rintro _ h1 ⟨rfl,R1⟩
 have H1:=H.up R1.ah
 refine⟨_,rfl,bP (fun e=>?_) fun e1=>?_⟩
 ·have ep:eC m offs w ds name b=(dw m (dT w offs) ds name b.length,m,w,ds):=by unfold eC;rw[if_pos e]
  rw[ep];exact⟨rfl,x,H1⟩
 obtain⟨z1,z2,z3,z4,z5⟩:=qc e1
 have z4a:¬m.p.1*m.p.2.2*8<(b.length:Int):=fun h=>z4 (.inl h)
 have z4b:m.aJ.length≤11:=by have:¬12≤m.aJ.length:=fun h=>z4 (.inr h);omega
 have z5a:bg ds m.drives≠[]:=fun h=>z5 (.inl h)
 have z5b:m.next≤16777215:=by have:¬16777215<m.next:=fun h=>z5 (.inr (.inl h));omega
 have z5c:m.seq≤2147483646:=by have:¬2147483647≤m.seq:=fun h=>z5 (.inr (.inr h));omega
 have h8:=IU hp z4a
 have hns:name.size≤12:=by unfold gS at z2;simp at z2;omega
 have hc1:=(aa.cb H1).2
 have hx1:cL h1 x m:=H1.at 1 rfl
 refine⟨a,rfl,x.2.1,hc1.cell rfl,H1.alloc ag rfl fun a4 h2 H2=>?_⟩
 have H2:=H2.bW
 refine H2.storeAll ag 0 rfl rfl (bE (name,x.2.1,(s.len:Int),⟨none,0,0⟩)) rfl rfl rfl rfl fun h3 H3=>?_
 have H3:aa B h0 h3 (aj a4 aQ (bE (name,m.next,(b.length:Int),⟨none,0,0⟩))::aI aR a pw (aD x) offs da w ds::bC x m::As):=by rw[←hx1.next,←hsl];exact H3
 have cp:∀{h':Heap},bK h' a fm (cx (aD x) pw offs da)→ai h' (a.add 2) 0 [.int .i64 m.p.1,.int .i64 m.p.2.1,.int .i64 m.p.2.2]:=fun{h'} hb=>by
  rw[←hx1.p]
  exact⟨by rw[addr_add];exact hb.cell rfl,by rw[addr_add];exact hb.cell rfl,by rw[addr_add];exact hb.cell rfl,trivial⟩
 obtain⟨nb,hnb⟩:∃nb,nb=(bj m.p b).length:=⟨_,rfl⟩
 have hcnt:countP m.p (s.len:Nat)=(nb:Int):=by
  have:=(jo hp b.length).1
  rw[hnb,hsl];unfold bj;rw[List.length_map,List.length_range];omega
 refine cI (fun(t:Sl×Bool) h'=>(cz m.p m.next nb=none→t.2=false∧aa B h0 h' (aI aR a pw (aD x) offs da w ds::bC x m::As))∧(∀l,cz m.p m.next nb=some l→t.2=true∧aa B h0 h' (an aA t.1 1 av l::aj a4 aQ (bE (name,m.next,(b.length:Int),⟨none,0,0⟩))::aI aR a pw (aD x) offs da w ds::bC x m::As))) ?_ ?_
 ·have hb3:=H3.box 0 rfl
  have hc3:=(aa.cb (H3.aS 3 [1,0,2])).2
  refine⟨a,rfl,m.p,cp hc3,m.next,hb3.cell rfl,a,rfl,m.p,cp hc3,(tK m.p s.len h3 (by omega)).mono ?_⟩
  rintro _ h4 ⟨rfl,R4⟩
  have H4:=H3.up R4.ah
  have hc4:=hc3.ah R4.ah hc3.lt
  obtain⟨q1,q2,q3,_⟩:=cp hc4
  refine⟨_,rfl,⟨(H4.box 0 rfl).cell rfl,q1,q2,q3,trivial⟩,?_⟩
  rw[hcnt]
  refine(JM m.p m.next nb h4 (by omega)).mono ?_
  rintro _ h5 ⟨T0,T1⟩
  cases ht:cz m.p m.next nb with
  |none=>
   obtain⟨rfl,R5⟩:=T0 ht
   exact⟨(⟨none,0,0⟩,false),rfl,trivial,fun _=>⟨rfl,(H4.up R5.ah).aS 3 [1,2]⟩,fun l h=>by cases h⟩
  |some l=>
   obtain⟨r,rfl,R5⟩:=T1 l ht
   exact⟨(r,true),rfl,trivial,fun h=>(by cases h),fun l' h=>(by injection h with h;subst h;exact⟨rfl,H4.ck R5⟩)⟩
 rintro⟨tr,tb⟩ h6 ⟨T0,T1⟩
 dsimp only at T0 T1⊢
 cases ht:cz m.p m.next nb with
 |none=>
  obtain⟨rfl,H6⟩:=T0 ht
  have ep:eC m offs w ds name b=(8,m,w,ds):=by
   unfold eC;rw[if_neg (by rw[e1];decide),←hnb,ht]
  rw[ep]
  exact aX (fun _=>⟨rfl,x,H6⟩) fun e=>by cases e
 |some t=>
  obtain⟨rfl,H6⟩:=T1 t ht
  refine aX (fun e=>by cases e) fun _=>?_
  have htl:=jf ht
  refine H6.store ag 1 rfl rfl 3 [.slice tr.ptr tr.len tr.cap] rfl rfl rfl (by simp) fun h7 H7=>?_
  obtain⟨e,he⟩:∃e:Wl.cK,e=⟨name,m.next,b.length,t⟩:=⟨_,rfl⟩
  have H7:aa B h0 h7 (an aA tr 1 av e.tries::aj a4 aQ (bE (name,m.next,(b.length:Int),tr))::aI aR a pw (aD x) offs da w ds::bC x m::As):=by rw[he];exact H7
  have H7:=H7.aS 4 [2,3,0,1]
  have hS7:St B h0 (bC x m::an aA tr 1 av e.tries::aj a4 aQ (bE (name,m.next,(b.length:Int),tr))::As) fun h=>cL h x m∧ly kJ h (name,m.next,(b.length:Int),tr) e∧Rd h s 1 aG b:=fun Bs h' H'=>
   ⟨(St.cQ 0 rfl fun _ hq=>hq) Bs h' H',(St.cQ (A:=an aA tr 1 av e.tries) (Q:=fun h=>ly kJ h (name,m.next,(b.length:Int),tr) e) 1 rfl fun h' hq=>⟨by rw[he];exact⟨rfl,rfl,rfl⟩,hq.1.seq (fun _=>rfl) hq.2⟩) Bs h' H',(hS.cons.cons.cons) Bs h' H'⟩
  refine⟨(name,m.next,(b.length:Int),tr),(H7.box 3 rfl).aL _ rfl,?_⟩
  refine(El x m (name,m.next,(b.length:Int),tr) e s b hS7 hsc hz hp hx0 hbl (by rw[he,←hnb];exact ht) H7).mono ?_
  rintro _ h8' ⟨r,ys,rfl,H8⟩
  obtain⟨live,hlive⟩:∃live,live=bg ds m.drives:=⟨_,rfl⟩
  obtain⟨l,hl⟩:∃l,l=cV m m.next t (bj m.p b) live nb:=⟨_,rfl⟩
  have hl':cV m e.object e.tries (bj m.p b) (bg ds m.drives) (bj m.p b).length=l:=by rw[hl,he,←hlive,←hnb]
  rw[hl']at H8
  refine⟨(r,true),rfl,H8.alloc ag rfl fun a15 h9 H9=>?_⟩
  have H9:=H9.bW
  refine H9.storeAll ag 0 rfl rfl [.slice r.ptr r.len r.cap] rfl rfl rfl rfl fun h10 H10=>?_
  refine aX (fun e=>by cases e) fun _=>?_
  obtain⟨n,hnd⟩:∃n,n=iy m e:=⟨_,rfl⟩
  have H10:aa B h0 h10 (aj a15 dQ [.slice r.ptr r.len r.cap]::aI aR a pw (aD x) offs da w ds::cG cT 2 piv r ys l::bC x m::an aA tr 1 av e.tries::aj a4 aQ (bE (name,m.next,(b.length:Int),tr))::As):=H10
  have H10:aa B h0 h10 (qY tr 1 av e.tries::aI aR a pw (aD x) offs da w ds::bC x m::cG cT 2 piv r ys l::aj a15 dQ [.slice r.ptr r.len r.cap]::aj a4 aQ (bE (name,m.next,(b.length:Int),tr))::As):=(H10.freeze 4 rfl fun _=>rfl).aS 6 [4,1,3,2,0,5]
  have hxe:((name,m.next,(b.length:Int),tr):di).1=e.name∧((name,m.next,(b.length:Int),tr):di).2.1=e.object∧((name,m.next,(b.length:Int),tr):di).2.2.1=e.length:=by rw[he];exact⟨rfl,rfl,rfl⟩
  have hwith:∀{h':Heap} {Cs:List HP},aa B h0 h' (qY tr 1 av e.tries::Cs)→cL h' x m→ab Tryz.prog ur #[dj x,Gm (name,m.next,(b.length:Int),tr)] h' fun v h''=>∃y:bw,v=dj y∧aa B h0 h'' (bC y n::Cs):=fun{h' Cs} H' hx'=>by
   rw[hnd];exact Lt x m _ e hx' hz ⟨hsq,by omega⟩ ⟨hnx,by omega⟩ z4b hxe H'
  have hc10:=(aa.cb (H10.aS 2 [1,0])).2
  have hb10:=H10.box 5 rfl
  have hx10:cL h10 x m:=H10.at 2 rfl
  refine cI (fun(t:Addr×Sl) h'=>∃y,aa B h0 h' (aI aR a pw (aD x) offs da w ds::bC x m::cG cT 2 piv r ys l::aj a15 dQ [.slice r.ptr r.len r.cap]::aj t.1 ao (aD y)::bC y n::an aA t.2 1 av live::As)) ?_ ?_
  ·refine⟨a,rfl,x,hc10.aL _ rfl,(name,m.next,(b.length:Int),tr),hb10.aL _ rfl,?_,?_⟩
   ·refine(hwith H10 hx10).mono ?_
    rintro _ h11 ⟨y,rfl,H11⟩
    have H11:=H11.aS 6 [1,2,3,4,0]
    refine⟨y,rfl,trivial,?_,?_⟩
    ·refine(dS x m (H11.at 1 rfl) hz H11).mono ?_
     rintro _ h12 ⟨lv,rfl,R12⟩
     rw[←hlive]at R12
     have H12:=H11.ck R12
     refine⟨lv,rfl,trivial,H12.alloc ag rfl fun a21 h13 H13=>⟨trivial,?_⟩⟩
     have H13:=H13.bW
     refine H13.storeAll ag 0 rfl rfl (aD y) rfl rfl rfl rfl fun h14 H14=>⟨trivial,y,?_⟩
     exact H14.aS 7 [2,3,4,5,0,6,1]
    ·refine H11.alloc ag rfl fun a22 h15 H15=>⟨trivial,?_⟩
     have H15:=H15.bW
     have H15c:=H15.aS 6 [1,2,3,4,5,0]
     refine(dS x m (H15c.at 1 rfl) hz H15c).mono ?_
     rintro _ h16 ⟨lv,rfl,R16⟩
     rw[←hlive]at R16
     have H16:=(H15.ck R16).aS 2 [1,0]
     refine⟨lv,rfl,trivial,H16.storeAll ag 0 rfl rfl (aD y) rfl rfl rfl rfl fun h17 H17=>⟨trivial,y,?_⟩⟩
     exact H17.aS 7 [2,3,4,5,0,6,1]
   ·refine H10.ET ag rfl fun a24 h18 P18 H18=>?_
    have hc18:=hc10.ah P18 hc10.lt
    have hb18:=hb10.ah P18 hb10.lt
    refine⟨⟨hb18.cell0 rfl,hb18.cell rfl,hb18.cell rfl,hb18.cell rfl,hc18.cell0 rfl,hc18.cell rfl,hc18.cell rfl,hc18.cell rfl,hc18.cell rfl,hc18.cell rfl,hc18.cell rfl,hc18.cell rfl,trivial⟩,?_⟩
    have H18:=(H18.bW).aS 7 [1,0,2,3,4,5]
    refine(hwith H18 (H18.at 3 rfl)).mono ?_
    rintro _ h19 ⟨y,rfl,H19⟩
    have H19c:=H19.aS 6 [2,3,4,5,0,1]
    refine⟨y,rfl,trivial,(dS x m (H19c.at 1 rfl) hz H19c).mono ?_⟩
    rintro _ h20 ⟨lv,rfl,R20⟩
    rw[←hlive]at R20
    have H20:=(H19c.ck R20).aS 7 [6,0,1,2,3,4,5]
    refine⟨lv,rfl,trivial,H20.storeAll ag 0 rfl rfl (aD y) rfl rfl rfl rfl fun h21 H21=>⟨trivial,y,?_⟩⟩
    exact H21.aS 7 [2,3,4,5,0,6,1]
  rintro⟨am,lv⟩ h22 ⟨y,H22⟩
  dsimp only at H22⊢
  have hzn:bR n:=by rw[hnd];exact Oo hz z4b (by rw[he];show name.size≤2^30;omega) (by rw[he];show t.length≤2^30;omega)
  have hndl:n.drives=m.drives:=by rw[hnd];rfl
  have hll:live.length≤64:=by rw[hlive];exact Nat.le_trans (List.length_filter_le _ _) hdl
  have hlin:∀k∈live,0≤k∧k<64:=fun k hk=>by rw[hlive]at hk;exact hin k (List.mem_filter.1 hk).1
  have hnid:(m.p.1+m.extra).toNat≤32:=by have:=(cg m.p).1 hp;omega
  have hln:l.length≤256:=by
   rw[hl,p9]
   exact Nat.mul_le_mul (show nb≤8 by omega) hnid
  have hlp:∀z∈l,(0≤z.1∧z.1<64)∧z.2.length≤2^20:=fun z hz'=>by
   rw[hl]at hz'
   obtain⟨p1,p2⟩:=Gw (m:=m) ⟨hnx,z5b⟩ (by rw[hlive];exact z5a) hlin (show nb≤8 by omega) hz'
   exact⟨hlin _ p1,Nat.le_trans p2 (by decide)⟩
  refine⟨y,(H22.box 4 rfl).aL _ rfl,(ka y n h22 (H22.at 5 rfl) hzn).mono ?_⟩
  rintro _ h23 ⟨pg,rfl,R23⟩
  have hpgl:=(aa.sV R23).1
  have hspl:=gY n hzn
  obtain⟨pn,hpn⟩:∃pn,pn=(bh n).length:=⟨_,rfl⟩
  rw[←hpn]at hpgl hspl
  have H23:=H22.up R23.ah
  refine⟨pg,rfl,H23.alloc ag rfl fun a30 h24 H24=>?_⟩
  have H24:=H24.bW
  refine H24.storeAll ag 0 rfl rfl [.int .i64 (pg.len:Int)] rfl rfl rfl rfl fun h25 H25=>?_
  rw[hpgl]at H25
  have H25:aa B h0 h25 (aI aR a pw (aD x) offs da w ds::bC x m::cG cT 2 piv r ys l::aj a15 dQ [.slice r.ptr r.len r.cap]::aj am ao (aD y)::bC y n::an aA lv 1 av live::aj a30 aA [.int .i64 (pn:Int)]::As):=H25.aS 8 [1,2,3,4,5,6,7,0]
  obtain⟨N,hN⟩:∃N,N=iA pn l:=⟨_,rfl⟩
  obtain⟨T,hT⟩:∃T,T=bC x m::cG cT 2 piv r ys l::aj a15 dQ [.slice r.ptr r.len r.cap]::aj am ao (aD y)::bC y n::an aA lv 1 av live::aj a30 aA [.int .i64 (pn:Int)]::As:=⟨_,rfl⟩
  have tX:St B h0 T fun h=>cL h x m:=by rw[hT];exact St.cQ 0 rfl fun _ hq=>hq
  have tF:St B h0 T fun h=>np cT 2 piv h r ys l:=by rw[hT];exact St.cQ 1 rfl fun _ hq=>hq
  have tB:St B h0 T fun h=>bK h a15 dQ [.slice r.ptr r.len r.cap]:=by rw[hT];exact St.cQ (A:=aj a15 dQ [.slice r.ptr r.len r.cap]) 2 rfl fun _ hq=>hq.1
  have tM:St B h0 T fun h=>bK h am ao (aD y):=by rw[hT];exact St.cQ (A:=aj am ao (aD y)) 3 rfl fun _ hq=>hq.1
  have tY:St B h0 T fun h=>cL h y n:=by rw[hT];exact St.cQ 4 rfl fun _ hq=>hq
  have tL:St B h0 T fun h=>Rd h lv 1 av live:=by rw[hT];exact St.cQ (A:=an aA lv 1 av live) 5 rfl fun _ hq=>hq.1.seq (fun _=>rfl) hq.2
  have tN:St B h0 T fun h=>bK h a30 aA [.int .i64 (pn:Int)]:=by rw[hT];exact St.cQ (A:=aj a30 aA [.int .i64 (pn:Int)]) 6 rfl fun _ hq=>hq.1
  have tT:St B h0 T fun h=>Ew gf #[] #[.pointer (some a30),.pointer (some a15)] N live h:=fun Bs h' H' k hk=>by
   rw[hN]
   exact LA k a30 a15 pn r ys l h' (by omega) (by omega) (tN Bs h' H') (tB Bs h' H') (tF Bs h' H')
  have fin:∀{h':Heap} {z:bw} {w':Pow} {ds':aN},aa B h0 h' (aI aR a pw (aD x) offs da w' ds'::T)→aa B h0 h' (aI aR a pw (aD x) offs da w' ds'::bC x m::As):=fun{h' z w' ds'} H'=>by
   rw[hT]at H'
   exact H'.aS 8 [0,1]
  rw[←hT]at H25
  have ep:eC m offs w ds name b=(if dp m ds live N=false then(7,m,w,ds)else if(makes m N live w ds).1≠0 then((makes m N live w ds).1,m,(makes m N live w ds).2)else
    if(layAll l (makes m N live w ds).2.1 (makes m N live w ds).2.2).1≠0 then((layAll l (makes m N live w ds).2.1 (makes m N live w ds).2.2).1,m,(layAll l (makes m N live w ds).2.1 (makes m N live w ds).2.2).2)else
    ((layAll (bn n live) (layAll l (makes m N live w ds).2.1 (makes m N live w ds).2.2).2.1 (layAll l (makes m N live w ds).2.1 (makes m N live w ds).2.2).2.2).1,if(layAll (bn n live) (layAll l (makes m N live w ds).2.1 (makes m N live w ds).2.2).2.1 (layAll l (makes m N live w ds).2.1 (makes m N live w ds).2.2).2.2).1=0 then n else m,(layAll (bn n live) (layAll l (makes m N live w ds).2.1 (makes m N live w ds).2.2).2.1 (layAll l (makes m N live w ds).2.1 (makes m N live w ds).2.2).2.2).2)):=by
   rw[hN,hpn,hl,hnd,he,hlive]
   unfold eC
   rw[if_neg (by rw[e1];decide),←hnb,ht]
  rw[ep]
  refine(Bh gf #[] #[.pointer (some a30),.pointer (some a15)] N x m lv live (by rfl) (fun Bs h' H'=>⟨tX Bs h' H',tT Bs h' H'⟩) hz (tL.at [_] H25) (by omega) hlin H25).mono ?_
  rintro _ h26 ⟨rfl,R26⟩
  have H26:=H25.up R26.ah
  refine⟨_,rfl,aX (fun g=>?_) fun g=>?_⟩
  ·rw[if_pos g];exact⟨rfl,x,fin (z:=x) H26⟩
  rw[if_neg (by rw[g];decide)]
  refine(Bj gf #[] #[.pointer (some a30),.pointer (some a15)] N x m lv live (by rfl) (fun Bs h' H'=>⟨tX Bs h' H',tT Bs h' H',tL Bs h' H'⟩) hz (by omega) hlin H26).mono ?_
  rintro _ h27 ⟨rfl,H27⟩
  obtain⟨m1,hm1⟩:∃m1,m1=makes m N live w ds:=⟨_,rfl⟩
  rw[←hm1]at H27⊢
  refine⟨_,rfl,bP (fun g2=>?_) fun g2=>?_⟩
  ·rw[if_pos g2];exact⟨rfl,x,fin (z:=x) H27⟩
  rw[if_neg (by simpa using g2)]
  refine⟨r,(tB.at [_] H27).cell0 rfl,(qM r ys l tF (by omega) hlp H27).mono ?_⟩
  rintro _ h28 ⟨rfl,H28⟩
  obtain⟨r2,hr2⟩:∃r2,r2=layAll l m1.2.1 m1.2.2:=⟨_,rfl⟩
  rw[←hr2]at H28⊢
  refine⟨_,rfl,bP (fun g3=>?_) fun g3=>?_⟩
  ·rw[if_pos g3];exact⟨rfl,x,fin (z:=x) H28⟩
  rw[if_neg (by simpa using g3)]
  refine⟨y,(tM.at [_] H28).aL _ rfl,(Bm x y n lv live (fun Bs h' H'=>⟨tY Bs h' H',tL Bs h' H'⟩) hzn (by omega) hlin H28).mono ?_⟩
  rintro _ h29 ⟨rfl,Q1,Q0⟩
  refine⟨_,rfl,rfl,?_⟩
  by_cases g4:(layAll (bn n live) r2.2.1 r2.2.2).1=0
  ·obtain⟨y2,H29⟩:=Q0 g4
   rw[if_pos g4]
   rw[hT]at H29
   exact⟨y2,H29.aS 9 [0,1]⟩
  ·rw[if_neg g4]
   exact⟨x,fin (z:=x) (Q1 g4)⟩
end
end Go.Proofs.YtkciobclldnoiaaGreat
namespace Go.Vc
open Go Wl Go.Proofs.YtkciobclldnoiaaGreat
section
variable {α:Type} {B:au} {h0 h:Heap} {As:List HP} {k:Nat} {f:α→List Value} {L M:List (Sl×List α)}
theorem aa.M6 (H:aa B h0 h (dd k f L::dd k f M::As)):aa B h0 h (dd k f (L++M)::As):=by
 have H1:aa B h0 h ((dd k f M).sep (dd k f L)::As):=H.lz
 refine H1.fZ 0 rfl fun q ⟨q1,q2,_,b,c,d,e⟩ y hy=>?_
 rcases List.mem_append.1 hy with hy|hy
 ·exact(e y hy).mono c
 ·exact(d y hy).mono b
end
end Go.Vc
namespace Wl
open Go
def ub (o b:Int) (recs:List db):List (Int×List UInt8):=(recs.filter fun r=>decide (r.object=o)&&decide (r.block=b)).map fun r=>(r.id,r.data)
def nR (m:aF) (o b:Int) (l:List (List UInt8)):List (Int×List UInt8):=((fa m l).filter fun r=>decide (r.object=o)&&decide (r.block=b)).map fun r=>(r.id,r.data)
def lZ (m:aF) (ds:aN) (o b:Int) (k:Int):List (Int×List UInt8):=match bD ds k with|some d=>nR m o b d.l|none=>[]
def jh (m:aF) (ds:aN) (slots:List Int) (o b:Int):List (Int×List UInt8):=slots.flatMap (lZ m ds o b)
end Wl
namespace Go.Proofs.YtkciobclldnoiaaGreat
open Go Go.Vc Go.Proofs Wl
set_option maxRecDepth 100000
abbrev PX:bM C.torD Ae fL 2 [.int .i64 0,.slice none 0 0] 32:=⟨_,_,rfl,rfl,rfl,rfl,rfl,rfl⟩
def JU (pool:List (Sl×List UInt8)) (p:(Int×Sl)×(Int×List UInt8)):Prop:=p.1.1=p.2.1∧(p.1.2,p.2.2)∈pool
section
variable {B:au} {h0 h:Heap} {As:List HP} {a pw:Addr} {offs:Int} {da:List (Option Addr)} {w:Pow} {ds:aN} {mc:List Value}
theorem Gx (x:bw) (m:aF) (s:Sl) (slots:List Int) (o b:Int) (hx:cL h x m) (hz:bR m) (hs:Rd h s 1 av slots) (hl:slots.length≤2^10) (hd:∀k∈slots,∃d,bD ds k=some d) (H:aa B h0 h (aI aR a pw mc offs da w ds::As)):
  ab Tryz.prog Cj #[.func (.func bQ) #[.pointer (some a)] #[],.slice s.ptr s.len s.cap,dj x,.int .i64 o,.int .i64 b] h fun v h'=>∃(r:Sl) (ys:List (Int×Sl)),v=.slice r.ptr r.len r.cap∧Sp h h' [cG cT 2 piv r ys (jh m ds slots o b)]:=by
 refine Ap (bQ,#[.pointer (some a)],#[]) s x o b ?_
 unfold uw
 have hsl:=hs.len
 refine(Sp.refl h).boxed fun a1 h1 H1=>?_
 have H1:Sp h h1 [aj a1 ao (aD x)]:=H1
 have H1:Sp h h1 [an fL ⟨none,0,0⟩ 2 piv (([]:List ((Int×Sl)×(Int×List UInt8))).map Prod.fst),dd 1 aG [],aj a1 ao (aD x)]:=((H1.IK 1 aG).nil fL 2 piv).cE [2,0,1]
 refine aB (fun t:Sl×Nat×List ((Int×Sl)×(Int×List UInt8))×List (Sl×List UInt8)=>(t.1,(t.2.1:Int))) (fun t h'=>t.2.1≤slots.length∧t.2.2.1.length≤t.2.1*512∧t.2.2.1.map Prod.snd=jh m ds (slots.take t.2.1) o b∧(∀p∈t.2.2.1,JU t.2.2.2 p)∧Sp h h' [an fL t.1 2 piv (t.2.2.1.map Prod.fst),dd 1 aG t.2.2.2,aj a1 ao (aD x)]) (fun t=>slots.length-t.2.1) (⟨none,0,0⟩,0,[],[]) rfl ⟨by simp,by simp,by simp[jh],by simp,H1⟩ ?_
 rintro⟨u,i,L,P⟩ h2 ⟨hi,hLl,hLs,hLp,H2⟩
 dsimp only at*
 refine al (fun e=>?_) fun e=>?_
 ·have hi':i<slots.length:=by omega
  refine(Seq.up hs H2.ah).cr i rfl hi' slots[i] rfl (aU ?_)
  obtain⟨d,hdd⟩:=hd slots[i] (List.getElem_mem hi')
  have Hc:=H.up H2.ah
  obtain⟨ok,hb⟩:=aa.cb Hc
  have hb1:=H2.box 2 rfl
  refine⟨x,hb1.aL _ rfl,dU (by rfl) ?_⟩
  refine(ik slots[i] ok hb).mono ?_
  rintro _ h3 ⟨rfl,rfl⟩
  refine⟨_,rfl,⟨hb1.cell0 rfl,hb1.cell rfl,hb1.cell rfl,hb1.cell rfl,hb1.cell rfl,hb1.cell rfl,hb1.cell rfl,hb1.cell rfl,trivial⟩,?_⟩
  rcases jd ok slots[i]with⟨c1,c2⟩|⟨n,d',bb,c0,c1,c2,c3,c4,c5⟩
  ·rw[hdd]at c1;cases c1
  have hdd':d=d':=by rw[c3]at hdd;injection hdd with hdd;exact hdd.symm
  subst hdd'
  rw[c5]
  obtain⟨bb',hb',H3⟩:=Go.Vc.aa.gX Hc c2
  rw[c4]at hb'
  injection hb' with hb'
  injection hb' with hb'
  subst hb'
  obtain⟨okd,sd,bd,H3o⟩:=aa.nf H3
  have hlen:=okd.len;have hroom:=okd.room
  refine(pT bb pw d sd bd x m h3 (H3o.box 0 rfl) ((H3o.aS 2 [1]).Iy fun _=>rfl) okd (hx.up H2.ah) hz).mono ?_
  rintro _ h4 ⟨r7,yr,rfl,R4⟩
  have hrl:=nQ m d.l
  obtain⟨recs,hrecs⟩:∃recs,recs=fa m d.l:=⟨_,rfl⟩
  rw[←hrecs]at R4 hrl
  have H4:=(H2.ck R4).aS 4 [1,2,0,3]
  have F4:=H4.fN 2 rfl
  have hyl:=F4.2.1
  have hr7:=F4.1.len
  refine⟨r7,rfl,trivial,?_⟩
  have hsym:lZ m ds o b slots[i]=ub o b recs:=by unfold lZ;rw[hdd];show nR m o b d.l=_;unfold nR ub;rw[hrecs]
  have hnext:jh m ds (slots.take (i+1)) o b=jh m ds (slots.take i) o b++ub o b recs:=by
   unfold jh;rw[aM _ _ hi',List.flatMap_append,List.flatMap_cons,List.flatMap_nil,List.append_nil,hsym]
  obtain⟨Q,hQ⟩:∃Q:List (Sl×List UInt8),Q=(yr.zip recs).map fun z=>(z.1.2.2.2.2.2.2.2,z.2.data):=⟨_,rfl⟩
  refine aB (fun t:Sl×Nat×List ((Int×Sl)×(Int×List UInt8))=>(t.1,(t.2.1:Int))) (fun t h'=>t.2.1≤recs.length∧t.2.2.length≤L.length+t.2.1∧t.2.2.map Prod.snd=jh m ds (slots.take i) o b++ub o b (recs.take t.2.1)∧(∀p∈t.2.2,JU (P++Q) p)∧Sp h h' [an fL t.1 2 piv (t.2.2.map Prod.fst),dd 1 aG P,cG cF 8 aV r7 yr recs,aj a1 ao (aD x)]) (fun t=>recs.length-t.2.1) (u,0,L) rfl ⟨by simp,by simp,by simp[ub,hLs],fun p hp=>⟨(hLp p hp).1,List.mem_append_left _ (hLp p hp).2⟩,H4⟩ ?_
  rintro⟨u2,j,L2⟩ h5 ⟨hj,hL2,hs2,hp2,H5⟩
  dsimp only at*
  have F5:=H5.fN 2 rfl
  refine al (fun e2=>?_) fun e2=>?_
  ·have hj':j<recs.length:=by omega
   have hrow:=Fix.row F5 hj'
   obtain⟨⟨g1,g2,g3,g4,g5,g6,g7⟩,g8⟩:=hrow
   refine F5.1.eu (g:=aV) j rfl (by omega) (yr[j]'(by omega)) rfl ?_
   refine H5.alloc ag rfl fun a12 h6 H6=>?_
   refine H6.storeAll ag 4 rfl rfl (aV (yr[j]'(by omega))) rfl rfl rfl rfl fun h7 H7=>?_
   have H7:Sp h h7 [an fL u2 2 piv (L2.map Prod.fst),dd 1 aG P,cG cF 8 aV r7 yr recs,aj a1 ao (aD x),aj a12 aC (aV (yr[j]'(by omega)))]:=H7
   have hb7:=H7.box 4 rfl
   have hsel:ub o b (recs.take (j+1))=ub o b (recs.take j)++(if(decide (recs[j].object=o)&&decide (recs[j].block=b))=true then[(recs[j].id,recs[j].data)]else[]):=by
    unfold ub;rw[aM _ _ hj',List.filter_append,List.map_append,List.filter_cons,List.filter_nil]
    split<;>rfl
   have skip:(decide (recs[j].object=o)&&decide (recs[j].block=b))=false→∃t':Sl×Nat×List ((Int×Sl)×(Int×List UInt8)),((⟨u2.ptr,u2.len,u2.cap⟩:Sl),IntKind.wrap .i64 ((j:Int)+1))=(t'.1,(t'.2.1:Int))∧(t'.2.1≤recs.length∧t'.2.2.length≤L.length+t'.2.1∧t'.2.2.map Prod.snd=jh m ds (slots.take i) o b++ub o b (recs.take t'.2.1)∧(∀p∈t'.2.2,JU (P++Q) p)∧Sp h h7 [an fL t'.1 2 piv (t'.2.2.map Prod.fst),dd 1 aG P,cG cF 8 aV r7 yr recs,aj a1 ao (aD x)])∧recs.length-t'.2.1<recs.length-j:=fun hc=>
    ⟨(u2,j+1,L2),by dsimp only;rw[Go.Vc.wrap_small _ (by omega) (by omega)];rfl,⟨by dsimp only;omega,by dsimp only;omega,by dsimp only;rw[hsel,hc];simpa using hs2,hp2,H7.cE [0,1,2,3]⟩,by dsimp only;omega⟩
   refine⟨recs[j].object,by rw[←g1];exact hb7.cell0 rfl,cY (fun q1=>?_) fun q1=>skip (by rw[decide_eq_false q1];rfl)⟩
   refine⟨recs[j].block,by rw[←g2];exact hb7.cell rfl,cY (fun q2=>?_) fun q2=>skip (by rw[decide_eq_false q2,Bool.and_false])⟩
   refine⟨recs[j].id,by rw[←g3];exact hb7.cell rfl,(yr[j]'(by omega)).2.2.2.2.2.2.2,hb7.cell rfl,?_⟩
   refine H7.push ag 0 rfl PX rfl (by decide) (fun _=>rfl) xz (recs[j].id,(yr[j]'(by omega)).2.2.2.2.2.2.2) (by kernel_rfl) (by decide) (by simp;omega) fun u3 h10 H10=>?_
   refine⟨(u3,j+1,L2++[((recs[j].id,(yr[j]'(by omega)).2.2.2.2.2.2.2),(recs[j].id,recs[j].data))]),by dsimp only;rw[Go.Vc.wrap_small _ (by omega) (by omega)];rfl,⟨by dsimp only;omega,by simp;omega,?_,fun p hp=>?_,?_⟩,by dsimp only;omega⟩
   ·dsimp only
    rw[List.map_append,hs2,hsel,if_pos (by rw[decide_eq_true q1,decide_eq_true q2];rfl),List.append_assoc];rfl
   ·rcases List.mem_append.1 hp with hp|hp
    ·exact hp2 p hp
    ·rw[List.mem_singleton.1 hp]
     refine⟨rfl,List.mem_append_right _ ?_⟩
     rw[hQ]
     refine List.mem_map.2 ⟨(yr[j]'(by omega),recs[j]),?_,rfl⟩
     rw[←List.getElem_zip (h:=by simp;omega)]
     exact List.getElem_mem _
   ·dsimp only
    rw[List.map_append]
    exact H10.cE [0,1,2,3]
  ·have hjr:j=recs.length:=by omega
   subst hjr
   rw[List.take_length,←hnext]at hs2
   have hyl5:=F5.2.1
   have H6:=(H5.fZ 2 rfl (D:=dd 1 aG Q) fun q hq y hy=>by
    rw[hQ]at hy
    obtain⟨z,hz1,rfl⟩:=List.mem_map.1 hy
    obtain⟨k,hk,rfl⟩:=List.getElem_of_mem hz1
    have hkr:k<recs.length:=by simp at hk;omega
    have:=(Fix.row hq hkr).2
    rw[List.getElem_zip]
    exact this).cE [1,2,0,3]
   have H7:=aa.M6 H6
   refine⟨(u2,i+1,L2,P++Q),by dsimp only;rw[Go.Vc.wrap_small _ (by omega) (by omega)];rfl,⟨by dsimp only;omega,by dsimp only;omega,hs2,hp2,H7.cE [1,0,2]⟩,by dsimp only;omega⟩
 ·rw[List.take_of_length_le (by omega)]at hLs
  refine⟨u,L.map Prod.fst,rfl,?_⟩
  have H3:=((H2.freeze 0 rfl fun _=>rfl).cE [1,0]).lz
  refine H3.fZ 0 rfl fun q ⟨q1,q2,_,bq,cq,z1,z2⟩=>?_
  refine⟨z1.mono bq,by rw[←hLs];simp,fun j r e h1 h2=>?_⟩
  rw[←hLs]at h2
  rw[List.getElem?_map]at h1 h2
  cases hj:L[j]? with
  |none=>rw[hj]at h1;cases h1
  |some p=>
   rw[hj]at h1 h2
   have e1:=Option.some.inj (show some p.1=some r from h1)
   have e2:=Option.some.inj (show some p.2=some e from h2)
   subst e1;subst e2
   obtain⟨k1,k2⟩:=hLp p (List.mem_of_getElem? hj)
   exact⟨k1,(z2 _ k2).mono cq⟩
end
end Go.Proofs.YtkciobclldnoiaaGreat
namespace Wl
open Go
def fA (m:aF) (ds:aN) (o b:Int) (live:List Int):List (List Int):=live.map fun k=>(jh m ds [k] o b).map Prod.fst
end Wl
namespace Go.Proofs.YtkciobclldnoiaaGreat
open Go Go.Vc Go.Proofs Wl
set_option maxRecDepth 100000
abbrev Po:bM C.torD G6 fc 1 [.slice none 0 0] 24:=⟨_,_,rfl,rfl,rfl,rfl,rfl,rfl⟩
section
variable {B:au} {h0 h:Heap} {As:List HP} {a pw:Addr} {offs:Int} {da:List (Option Addr)} {w:Pow} {ds:aN}
theorem Oq {k:Int} {l:List Int} (h:k∈bg ds l):∃d,bD ds k=some d∧d.lost=false:=by
 have h:=(List.mem_filter.1 h).2
 unfold isLive at h
 cases hd:bD ds k with
 |none=>rw[hd]at h;cases h
 |some d=>rw[hd]at h;exact⟨d,rfl,by simpa using h⟩
theorem Bt (m:aF) (o b:Int) (l:List (List UInt8)):(nR m o b l).length≤l.length:=by
 unfold nR
 rw[List.length_map]
 exact Nat.le_trans (List.length_filter_le _ _) (nQ m l)
theorem JV (x:bw) (m:aF) (o b:Int) (hx:cL h x m) (hz:bR m) (hdl:m.drives.length≤64) (hroom:∀k d,bD ds k=some d→d.l.length≤512) (H:aa B h0 h (aI aR a pw (aD x) offs da w ds::As)):
  ab Tryz.prog lH #[.pointer (some a),.int .i64 o,.int .i64 b] h fun v h'=>∃r:Sl,v=.slice r.ptr r.len r.cap∧Sp h h' [eV fc r aA 1 av (fA m ds o b (bg ds m.drives))]:=by
 refine rN (some a) o b ?_
 unfold mj
 refine(dS x m hx hz H).mono ?_
 rintro _ h1 ⟨lv,rfl,R1⟩
 have hll:(bg ds m.drives).length≤m.drives.length:=List.length_filter_le _ _
 have hla:∀k∈bg ds m.drives,∃d,bD ds k=some d:=fun k hk=>by obtain⟨d,h,_⟩:=Oq hk;exact⟨d,h⟩
 obtain⟨live,hlive⟩:∃live,live=bg ds m.drives:=⟨_,rfl⟩
 rw[←hlive]at R1 hll hla⊢
 have hlv:=(R1.own 0 rfl).len
 refine⟨lv,rfl,?_⟩
 have hwl:(fA m ds o b live).length=live.length:=by simp[fA]
 have H1:Sp h h1 [eV fc ⟨none,0,0⟩ aA 1 av ((fA m ds o b live).take 0),an aA lv 1 av live]:=R1.q5 fc aA 1 av
 refine aB (fun t:Sl×Nat=>(t.1,(t.2:Int))) (fun t h'=>t.2≤live.length∧Sp h h' [eV fc t.1 aA 1 av ((fA m ds o b live).take t.2),an aA lv 1 av live]) (fun t=>live.length-t.2) (⟨none,0,0⟩,0) rfl ⟨by simp,H1⟩ ?_
 rintro⟨u,i⟩ h2 ⟨hi,H2⟩
 dsimp only at*
 refine al (fun e=>?_) fun e=>?_
 ·have hi':i<live.length:=by omega
  refine(H2.seq 1 rfl fun _=>rfl).cr i rfl hi' live[i] rfl ?_
  refine H2.lit ag av iY rfl [live[i]] rfl (show 1*1≤2^20 by decide) rfl fun q h3 H3=>?_
  have H3:Sp h h3 [eV fc u aA 1 av ((fA m ds o b live).take i),an aA lv 1 av live,an aA q 1 av [live[i]]]:=H3
  have Hc:=H.up H3.ah
  have hcb:=(aa.cb Hc).2
  refine⟨a,rfl,x,hcb.aL _ rfl,?_⟩
  obtain⟨d,hd⟩:=hla live[i] (List.getElem_mem hi')
  refine(Gx x m q [live[i]] o b (hx.up H3.ah) hz (H3.seq 2 rfl fun _=>rfl) (by simp) (fun k hk=>by rw[List.mem_singleton.1 hk];exact⟨d,hd⟩) Hc).mono ?_
  rintro _ h4 ⟨r8,ys,rfl,R4⟩
  obtain⟨S,hSd⟩:∃S,S=jh m ds [live[i]] o b:=⟨_,rfl⟩
  have hSl:S.length≤512:=by
   rw[hSd];unfold jh lZ
   rw[List.flatMap_cons,List.flatMap_nil,List.append_nil,hd]
   exact Nat.le_trans (Bt _ _ _ _) (hroom _ _ hd)
  rw[←hSd]at R4
  have H4:=(H3.ck R4).aS 4 [1,2,0]
  have F4:=H4.fN 2 rfl
  have hyl:=F4.2.1
  have hrl:=F4.1.len
  refine⟨r8,rfl,?_⟩
  have H4:Sp h h4 [an aA ⟨none,0,0⟩ 1 av ((S.map Prod.fst).take 0),eV fc u aA 1 av ((fA m ds o b live).take i),an aA lv 1 av live,cG cT 2 piv r8 ys S]:=(H4.nil aA 1 av).cE [3,0,1,2]
  refine aB (fun t:Sl×Nat=>(t.1,(t.2:Int))) (fun t h'=>t.2≤S.length∧Sp h h' [an aA t.1 1 av ((S.map Prod.fst).take t.2),eV fc u aA 1 av ((fA m ds o b live).take i),an aA lv 1 av live,cG cT 2 piv r8 ys S]) (fun t=>S.length-t.2) (⟨none,0,0⟩,0) rfl ⟨by simp,H4⟩ ?_
  rintro⟨u2,j⟩ h5 ⟨hj,H5⟩
  dsimp only at*
  have F5:=H5.fN 3 rfl
  refine al (fun e2=>?_) fun e2=>?_
  ·have hj':j<S.length:=by omega
   have hrow:=Fix.row F5 hj'
   refine F5.1.eu (g:=piv) j rfl (by omega) (ys[j]'(by omega)) rfl ?_
   refine H5.alloc ag rfl fun a12 h6 H6=>?_
   refine H6.storeAll ag 4 rfl rfl (piv (ys[j]'(by omega))) rfl rfl rfl rfl fun h7 H7=>?_
   have H7:Sp h h7 [an aA u2 1 av ((S.map Prod.fst).take j),eV fc u aA 1 av ((fA m ds o b live).take i),an aA lv 1 av live,cG cT 2 piv r8 ys S,aj a12 fL (piv (ys[j]'(by omega)))]:=H7
   refine⟨S[j].1,by rw[←hrow.1];exact(H7.box 4 rfl).cell0 rfl,?_⟩
   refine H7.push ag 0 rfl iY rfl (by decide) (fun _=>rfl) jr S[j].1 rfl (by decide) (by simp;omega) fun u3 h9 H9=>?_
   refine⟨(u3,j+1),by dsimp only;rw[Go.Vc.wrap_small _ (by omega) (by omega)];rfl,⟨by dsimp only;omega,?_⟩,by dsimp only;omega⟩
   dsimp only
   rw[aM _ _ (show j<(S.map Prod.fst).length by simp;omega),List.getElem_map]
   exact H9.cE [0,1,2,3]
  ·rw[List.take_of_length_le (by simp;omega)]at H5
   refine(H5.aS 2 [1,0]).xo ag Po (by simp;omega) fun u3 h11 H11=>?_
   refine⟨(u3,i+1),by dsimp only;rw[Go.Vc.wrap_small _ (by omega) (by omega)];rfl,⟨by dsimp only;omega,?_⟩,by dsimp only;omega⟩
   dsimp only
   rw[aM _ _ (show i<(fA m ds o b live).length by omega)]
   have ew:(fA m ds o b live)[i]'(by omega)=S.map Prod.fst:=by simp[fA,hSd]
   rw[ew]
   exact H11.cE [0,1]
 ·rw[List.take_of_length_le (by omega)]at H2
  exact⟨u,rfl,H2.cE [0]⟩
end
end Go.Proofs.YtkciobclldnoiaaGreat
namespace Go.Proofs.YtkciobclldnoiaaGreat
open Go Go.Vc Go.Proofs Wl
set_option maxRecDepth 100000
theorem JW (n:Nat) (x:Int) (h:Heap) (hn:n≤2^30):ab Tryz.prog q8 #[.int .i64 n,.int .i64 x] h fun v h'=>∃(r:Sl) (l:List UInt8),v=.slice r.ptr r.len r.cap∧l.length=n∧Sp h h' [an aE r 1 aG l]:=by
 refine qg n x ?_
 unfold kV
 refine aB (fun t:Sl×Nat×List UInt8=>(t.1,(t.2.1:Int))) (fun t h'=>t.2.1≤n∧t.2.2.length=t.2.1∧Sp h h' [an aE t.1 1 aG t.2.2]) (fun t=>n-t.2.1) (⟨none,0,0⟩,0,[]) rfl ⟨by simp,rfl,(Sp.refl h).nil aE 1 aG⟩ ?_
 rintro⟨o,i,l⟩ h1 ⟨hi,hl,H1⟩
 dsimp only at*
 refine al (fun e=>?_) fun e=>?_
 ·have hi':i<n:=by omega
  refine⟨by decide,Int.tmod_nonneg _ (by omega),?_⟩
  rw[cZ]
  generalize b8 (IntKind.wrap .i64 _)=c
  refine H1.push ag 0 rfl iq rfl (by decide) (fun _=>rfl) fV c rfl (by decide) (by omega) fun o' h2 H2=>?_
  refine⟨(o',i+1,l++[c]),by dsimp only;rw[Go.Vc.wrap_small _ (by omega) (by omega)];rfl,⟨by dsimp only;omega,?_,H2⟩,by dsimp only;omega⟩
  simp[hl]
 ·exact⟨o,l,rfl,by omega,H1⟩
end Go.Proofs.YtkciobclldnoiaaGreat
namespace Wl
open Go
def Pow.calm (w:Pow):Prop:=w.off=false∧w.fuse=none
theorem zy:Pow.new.calm:=⟨rfl,rfl⟩
theorem nS {w:Pow} (h:w.calm):w.step=(true,w):=by unfold Pow.step;rw[if_neg (by simp[h.1]),h.2]
theorem yB {w:Pow} (h:w.calm) (ds:aN) (x:Int) (b:List UInt8):(dq w ds x b).2.1=w:=by
 unfold dq
 cases bD ds x with
 |none=>rfl
 |some d=>
  dsimp only
  unfold bx.append
  split
  ·rfl
  ·split
   ·rfl
   ·split
    ·rfl
    ·split
     ·rfl
     ·rw[nS h];rfl
theorem DB {w:Pow} (h:w.calm) (ds:aN) (x:Int):(eN w ds x).2.1=w:=by
 unfold eN
 cases bD ds x with
 |none=>rfl
 |some d=>
  dsimp only
  unfold bx.sync
  split
  ·rfl
  ·rw[nS h];rfl
theorem ma {w:Pow} (h:w.calm):∀(l:List (Int×List UInt8)) (ds:aN),(gO l w ds).2.1=w
 |[],_=>rfl
 |x::l,ds=>by
  rw[pf,yB h]
  split
  ·exact ma h l _
  ·exact yB h _ _ _
theorem Bu {w:Pow} (h:w.calm):∀(l:List Int) (ds:aN),(iv l w ds).2.1=w
 |[],_=>rfl
 |x::l,ds=>by
  rw[sW,DB h]
  split
  ·exact Bu h l _
  ·exact DB h _ _
theorem M7 {w:Pow} (h:w.calm) (l:List (Int×List UInt8)) (ds:aN):(layAll l w ds).2.1=w:=by
 unfold layAll
 dsimp only
 rw[ma h]
 split
 ·exact Bu h _ _
 ·exact ma h _ _
theorem Ia {w:Pow} {d:bx} {n:Nat} {b:List UInt8} (h:w.calm) (h1:d.lost=false) (h2:d.l.length+(n+1)≤d.room) (hb:b.length=64):d.append w b=(0,w,{d with l:=d.l++[b],wait:=d.wait+1,laid:=[],has:=false}):=by
 unfold bx.append
 rw[if_neg (by omega),if_neg (by simp[h1]),if_neg (by omega),if_neg (by simp[h.1]),nS h];rfl
theorem LC {w:Pow} {d:bx} (h:w.calm) (h1:d.lost=false):d.sync w=(0,w,{d with wait:=0,laid:=[],has:=false}):=by
 unfold bx.sync
 rw[if_neg (by simp[h1]),nS h];rfl
theorem Pp {ds:aN} {s:Int} {d:bx} (h:bD ds s=some d):0≤s∧s<64:=by
 obtain⟨n,rfl,hn⟩:=hF h
 omega
def Bv (ds:aN) (P:List (Int×List UInt8)) (s:Int):Option bx:=
 (bD ds s).map fun d=>{d with l:=d.l++(P.filter (fun x=>decide (x.1=s))).map Prod.snd,wait:=d.wait+(P.filter (fun x=>decide (x.1=s))).length,laid:=if(P.filter (fun x=>decide (x.1=s))).isEmpty then d.laid else[],has:=if(P.filter (fun x=>decide (x.1=s))).isEmpty then d.has else false}
theorem wU {w:Pow} (h:w.calm) {S:List Int}:∀(P:List (Int×List UInt8)) (ds:aN),Fit ds S (P.map Prod.fst)→(∀x∈P,x.1∈S∧x.2.length=64)→
  (gO P w ds).1=0∧Fit (gO P w ds).2.2 S []∧∀s,bD (gO P w ds).2.2 s=Bv ds P s
 |[],ds,F,_=>⟨rfl,F,fun s=>by unfold Bv;show bD ds s=_;cases bD ds s<;>simp⟩
 |x::P,ds,F,hP=>by
  obtain⟨d,hd,h1,h2⟩:=F.at_ x.1 (hP x (List.mem_cons_self ..)).1
  rw[List.map_cons,List.count_cons_self]at h2
  have hb:=(hP x (List.mem_cons_self ..)).2
  obtain⟨n,hn,hn64⟩:=hF hd
  have hap:=Ia (n:=(P.map Prod.fst).count x.1) h h1 (by omega) hb
  have e:dq w ds x.1 x.2=(0,w,fC ds x.1 {d with l:=d.l++[x.2],wait:=d.wait+1,laid:=[],has:=false}):=by
   unfold dq;rw[hd];dsimp only;rw[hap]
  obtain⟨_,F'⟩:=Ej w x.2 (x:=x.1) (Q:=P.map Prod.fst) F (hP x (List.mem_cons_self ..)).1 hb
  rw[pf,e]
  rw[e]at F'
  dsimp only at F'⊢
  rw[if_pos rfl]
  obtain⟨a1,a2,a3⟩:=wU h P _ F' fun y hy=>hP y (List.mem_cons_of_mem _ hy)
  refine⟨a1,a2,fun s=>?_⟩
  rw[a3 s]
  unfold Bv
  rw[hn,oV _ _ _ _ hn64 F.len,←hn]
  by_cases hs:s=x.1
  ·rw[if_pos hs,hs,hd]
   simp only[Option.map_some,List.filter_cons,decide_true,if_true,List.map_cons,List.length_cons,List.append_assoc,List.singleton_append,List.isEmpty_cons,Bool.false_eq_true,if_false]
   congr 1
   simp only[bx.mk.injEq,true_and,and_true]
   refine⟨by omega,?_,?_⟩<;>split<;>rfl
  ·rw[if_neg hs]
   simp only[List.filter_cons,decide_eq_true_eq,if_neg (show¬x.1=s from fun hh=>hs hh.symm)]
theorem Bw {w:Pow} (h:w.calm) {S:List Int}:∀(l:List Int) (ds:aN),Fit ds S []→(∀x∈l,x∈S)→
  (iv l w ds).1=0∧Fit (iv l w ds).2.2 S []∧∀s,bD (iv l w ds).2.2 s=(bD ds s).map fun d=>if s∈l then{d with wait:=0,laid:=[],has:=false}else d
 |[],ds,F,_=>⟨rfl,F,fun s=>by show bD ds s=_;cases bD ds s<;>simp⟩
 |x::l,ds,F,hl=>by
  obtain⟨d,hd,h1,h2⟩:=F.at_ x (hl x (List.mem_cons_self ..))
  obtain⟨n,hn,hn64⟩:=hF hd
  have e:eN w ds x=(0,w,fC ds x {d with wait:=0,laid:=[],has:=false}):=by
   unfold eN;rw[hd];dsimp only;rw[LC h h1]
  obtain⟨_,F'⟩:=HU w F (hl x (List.mem_cons_self ..))
  rw[sW,e]
  rw[e]at F'
  dsimp only at F'⊢
  rw[if_pos rfl]
  obtain⟨a1,a2,a3⟩:=Bw h l _ F' fun y hy=>hl y (List.mem_cons_of_mem _ hy)
  refine⟨a1,a2,fun s=>?_⟩
  rw[a3 s,hn,oV _ _ _ _ hn64 F.len,←hn]
  by_cases hs:s=x
  ·subst hs
   rw[if_pos rfl,hd]
   simp only[Option.map_some,List.mem_cons,true_or,if_true]
   congr 1
   split<;>rfl
  ·rw[if_neg hs]
   cases bD ds s with
   |none=>rfl
   |some d'=>simp[hs]
end Wl
namespace Go.Proofs.YtkciobclldnoiaaGreat
open Go Go.Vc Go.Proofs Wl
set_option maxRecDepth 100000
section
variable {B:au} {h0 h h':Heap} {As:List HP} {a:Addr} {w:Pow}
end
section
variable {B:au} {h0 h h':Heap} {As:List HP} {a pw:Addr} {d:bx} {w:Pow}
end
end Go.Proofs.YtkciobclldnoiaaGreat
namespace Go.Proofs.YtkciobclldnoiaaGreat
open Go Go.Vc Go.Proofs Wl
set_option maxRecDepth 100000
section
variable {B:au} {h0 h h':Heap} {As:List HP}
end
end Go.Proofs.YtkciobclldnoiaaGreat
namespace Go.Proofs.YtkciobclldnoiaaGreat
open Go Go.Vc Go.Proofs Wl
set_option maxRecDepth 100000
end Go.Proofs.YtkciobclldnoiaaGreat
namespace Wl
open Go
end Wl
namespace Go.Proofs.YtkciobclldnoiaaGreat
open Go Go.Vc Go.Proofs Wl
set_option maxRecDepth 100000
end Go.Proofs.YtkciobclldnoiaaGreat
namespace Wl
open Go
end Wl
namespace Go.Proofs.YtkciobclldnoiaaGreat
open Go Go.Vc Go.Proofs Wl
set_option maxRecDepth 100000
end Go.Proofs.YtkciobclldnoiaaGreat
namespace Go.Proofs.YtkciobclldnoiaaGreat
open Go Go.Vc Go.Proofs Wl
set_option maxRecDepth 100000
end Go.Proofs.YtkciobclldnoiaaGreat
namespace Wl
open Go
def Has (ds:aN) (S:List Int):Prop:=ds.length=64∧∀s∈S,∃d,bD ds s=some d
theorem Has.set {ds:aN} {S:List Int} {n:Nat} {d:bx} (F:Has ds S) (hn:n<64):Has (fC ds (n:Int) d) S:=by
 refine⟨by unfold fC;rw[List.length_set];exact F.1,fun s hs=>?_⟩
 rw[oV _ _ _ _ hn F.1]
 by_cases h:s=(n:Int)
 ·rw[if_pos h];exact⟨_,rfl⟩
 ·rw[if_neg h];exact F.2 s hs
theorem Has.append {ds:aN} {S:List Int} (F:Has ds S) (w:Pow) (x:Int) (b:List UInt8):Has (dq w ds x b).2.2 S:=by
 unfold dq
 cases hd:bD ds x with
 |none=>exact F
 |some d=>
  obtain⟨n,rfl,hn⟩:=hF hd
  exact F.set hn
theorem Has.sync {ds:aN} {S:List Int} (F:Has ds S) (w:Pow) (x:Int):Has (eN w ds x).2.2 S:=by
 unfold eN
 cases hd:bD ds x with
 |none=>exact F
 |some d=>
  obtain⟨n,rfl,hn⟩:=hF hd
  exact F.set hn
end Wl
namespace Go.Vc
open Go Wl
end Go.Vc
namespace Go.Proofs.YtkciobclldnoiaaGreat
open Go Go.Vc Go.Proofs Wl
set_option maxRecDepth 100000
section
variable {B:au} {h0 h h':Heap} {As:List HP} {a pw:Addr} {mc:List Value} {offs:Int} {da:List (Option Addr)} {w:Pow} {ds:aN}
end
end Go.Proofs.YtkciobclldnoiaaGreat
namespace Go.Proofs.YtkciobclldnoiaaGreat
open Go Go.Vc Go.Proofs Wl
set_option maxRecDepth 100000
section
variable {B:au} {h0 h h':Heap} {As:List HP} {a pw:Addr} {mc:List Value} {offs:Int} {da:List (Option Addr)} {w:Pow} {ds:aN}
end
end Go.Proofs.YtkciobclldnoiaaGreat
namespace Go.Vc
open Go Wl Go.Proofs.YtkciobclldnoiaaGreat
def qd (p:Pm) (extra:Int) (l:List Int):Int:=
 if(dE l).2&&(bU p&&dG extra 0 16)then
  if(aY l l.length).any fun i=>decide (l.getD i.toNat 0<((bh (bS p extra l)).length:Int))then 7 else 0
 else 1
theorem JX (p:Pm) (extra:Int) (w:Pow) (l:List Int):dn p extra w l=if qd p extra l=0 then layAll (bn (bS p extra l) (aY l l.length)) w (fl l (aY l l.length).length)else(qd p extra l,w,[]):=by
 unfold dn qd
 by_cases h:((dE l).2&&(bU p&&dG extra 0 16))=true
 ·rw[if_pos h,if_pos h]
  by_cases h2:((aY l l.length).any fun i=>decide (l.getD i.toNat 0<((bh (bS p extra l)).length:Int)))=true
  ·rw[if_pos h2,if_pos h2];rfl
  ·rw[if_neg h2,if_neg h2];rfl
 ·rw[if_neg h,if_neg h];rfl
theorem Bx {p:Pm} {extra:Int} {l:List Int} (h:qd p extra l=0):bU p=true∧0≤extra∧extra≤16∧(dE l).2=true∧((aY l l.length).any fun i=>decide (l.getD i.toNat 0<((bh (bS p extra l)).length:Int)))=false:=by
 unfold qd at h
 by_cases h1:((dE l).2&&(bU p&&dG extra 0 16))=true
 ·rw[if_pos h1]at h
  by_cases h2:((aY l l.length).any fun i=>decide (l.getD i.toNat 0<((bh (bS p extra l)).length:Int)))=true
  ·rw[if_pos h2]at h;cases h
  ·unfold dG at h1
   simp only[Bool.and_eq_true,decide_eq_true_eq]at h1
   exact⟨h1.2.1,h1.2.2.1,h1.2.2.2,h1.1,by simpa using h2⟩
 ·rw[if_neg h1]at h;cases h
end Go.Vc
namespace Go.Proofs.YtkciobclldnoiaaGreat
open Go Go.Vc Go.Proofs Wl
set_option maxRecDepth 20000
end Go.Proofs.YtkciobclldnoiaaGreat
namespace Wl
end Wl
namespace Go.Proofs.YtkciobclldnoiaaGreat
open Go Go.Vc Go.Proofs Wl
set_option maxRecDepth 100000
end Go.Proofs.YtkciobclldnoiaaGreat
namespace Go.Vc
open Go Wl Go.Proofs.YtkciobclldnoiaaGreat
theorem M8 {w:Pow} (h:w.calm) {S:List Int} (P:List (Int×List UInt8)) (ds:aN) (F:Fit ds S (P.map Prod.fst)) (hP:∀x∈P,x.1∈S∧x.2.length=64):
  (layAll P w ds).1=0∧Fit (layAll P w ds).2.2 S []∧∀s,bD (layAll P w ds).2.2 s=(Bv ds P s).map fun d=>if s∈dK (P.map Prod.fst)then{d with wait:=0,laid:=[],has:=false}else d:=by
 obtain⟨a1,a2,a3⟩:=wU h P ds F hP
 have hw:=ma h P ds
 unfold layAll
 dsimp only
 rw[if_pos a1,hw]
 obtain⟨b1,b2,b3⟩:=Bw h (S:=S) (dK (P.map Prod.fst)) (gO P w ds).2.2 a2 fun x hx=>by
  unfold dK at hx
  have hx':=(List.mem_filter.1 hx).2
  obtain⟨y,hy,rfl⟩:=List.mem_map.1 (of_decide_eq_true hx')
  exact(hP y hy).1
 exact⟨b1,b2,fun s=>by rw[b3 s,a3 s]⟩
theorem uP (l:List Int) (k:Nat):(aY l k).Pairwise (·<·):=by
 unfold aY
 refine List.Pairwise.filter _ (List.pairwise_map.2 ?_)
 exact(List.pairwise_lt_range (n:=k)).imp fun h=>by omega
theorem Ot {l:List Int} {most:Int} (h1:l.Pairwise (·<·)) (h2:∀x∈l,0≤x∧x≤most):lB l most=true:=by
 unfold lB
 refine nX fun i hi=>?_
 unfold gA dG
 have hg:l.getD i 0=l[i]:=by rw[List.getD_eq_getElem?_getD,List.getElem?_eq_getElem hi];rfl
 have:=h2 l[i] (List.getElem_mem hi)
 rw[hg,decide_eq_true this.1,decide_eq_true this.2,Bool.true_and,Bool.true_and]
 by_cases h0:i=0
 ·rw[decide_eq_true h0];rfl
 ·have hg':l.getD (i-1) 0=l[i-1]:=by rw[List.getD_eq_getElem?_getD,List.getElem?_eq_getElem (by omega)];rfl
  rw[hg',decide_eq_true (List.pairwise_iff_getElem.1 h1 (i-1) i (by omega) hi (by omega)),Bool.or_true]
theorem Gy {p:Pm} {extra:Int} {l:List Int} (hl:l.length≤64) (e0:qd p extra l=0):bO (bS p extra l)=true:=by
 obtain⟨h1,h2,h3,_⟩:=Bx e0
 have hh:iw (bS p extra l)=true:=by
  unfold iw dG bS
  simp[h1,h2,h3]
 have hr:lB (bS p extra l).drives 63=true:=Ot (uP l l.length) fun x hx=>by
  obtain⟨n,hn,rfl,_⟩:=(pU l l.length x).1 hx
  omega
 unfold bO
 rw[hh,hr];rfl
theorem Em (p:Pm) (extra:Int) (l:List Int) (hl:l.length≤24):(bh (bS p extra l)).length≤1:=by
 unfold bh gU
 rw[List.length_map,List.length_range]
 have hp:=lT l l.length
 have:(gT (bS p extra l)).length≤19+24:=by
  unfold gT
  split
  ·simp only[List.length_append,bT,List.length_cons,List.length_nil,List.length_map,bS,List.flatMap_nil];omega
  ·simp
 omega
end Go.Vc
namespace Wl
open Go
theorem LD {ds:aN} {k:Int} {d:bx} (h:bD ds k=some d):fC ds k d=ds:=by
 unfold bD at h
 split at h
 ·rename_i hk
  unfold fC
  cases hx:ds[k.toNat]? with
  |none=>rw[hx]at h;cases h
  |some o=>
   rw[hx]at h
   have h:o=some d:=h
   subst h
   obtain⟨h1,h2⟩:=List.getElem?_eq_some_iff.1 hx
   rw[←h2,List.set_getElem_self]
 ·cases h
theorem roomy {m:aF} {w:Pow} {N:Int→Int}:∀{live:List Int} {ds:aN},(∀k∈live,∃d,bD ds k=some d∧d.lost=false∧0≤N k∧(d.l.length:Int)+N k≤d.room)→dp m ds live N=true∧makes m N live w ds=(0,w,ds)
 |[],ds,_=>⟨rfl,rfl⟩
 |k::live,ds,h=>by
  obtain⟨d,h1,h2,h3,h4⟩:=h k List.mem_cons_self
  obtain⟨i1,i2⟩:=roomy (m:=m) (w:=w) (N:=N) (live:=live) (ds:=ds) fun k hk=>h k (List.mem_cons_of_mem _ hk)
  have hb:ee d d.l.length (N k)=true:=decide_eq_true (by omega)
  have hf:jg m d (N k)=true:=by unfold jg;rw[h2,hb];rfl
  have hm:cJ m w ds k (N k)=(0,w,ds):=by
   unfold cJ
   rw[h1]
   have:eG m w d (N k)=(0,w,d):=by unfold eG;rw[if_neg (by simp[h2]),if_neg (by simp[hf]),if_pos hb]
   dsimp only
   rw[this]
   dsimp only
   rw[LD h1]
  refine⟨?_,?_⟩
  ·unfold dp at i1⊢
   rw[List.all_cons,i1,Bool.and_true]
   unfold eU;rw[h1];exact hf
  ·show(if(cJ m w ds k (N k)).1=0 then makes m N live (cJ m w ds k (N k)).2.1 (cJ m w ds k (N k)).2.2 else cJ m w ds k (N k))=_
   rw[hm];exact i2
end Wl
namespace Go.Vc
open Go Wl Go.Proofs.YtkciobclldnoiaaGreat
theorem LF (l:List (Int×List UInt8)) (k:Int):(l.map Prod.fst).count k=(l.filter fun y=>decide (y.1=k)).length:=by
 induction l with
 |nil=>rfl
 |cons y l ih=>
  rw[List.map_cons,List.count_cons,ih,List.filter_cons]
  by_cases h:y.1=k
  ·rw[if_pos (decide_eq_true h),if_pos (by simpa using h)];rfl
  ·rw[if_neg (by simpa using h),if_neg (by simpa using h)];rfl
end Go.Vc
namespace Go.Vc
open Go Wl Go.Proofs.YtkciobclldnoiaaGreat
theorem wV (n:aF) (k:Int):∀{live:List Int},live.Nodup→k∈live→((bn n live).filter fun y=>decide (y.1=k)).map Prod.snd=bh n
 |[],_,hk=>by cases hk
 |x::live,hnd,hk=>by
  have e:bn n (x::live)=(bh n).map (fun c=>(x,c))++bn n live:=by unfold bn;rw[List.flatMap_cons]
  obtain⟨hx,hnd'⟩:=List.nodup_cons.1 hnd
  rw[e,List.filter_append,List.map_append]
  by_cases hxk:x=k
  ·subst hxk
   have h1:((bh n).map (fun c=>(x,c))).filter (fun y=>decide (y.1=x))=(bh n).map (fun c=>(x,c)):=List.filter_eq_self.2 fun y hy=>by
    obtain⟨c,_,rfl⟩:=List.mem_map.1 hy
    exact decide_eq_true rfl
   have h2:(bn n live).filter (fun y=>decide (y.1=x))=[]:=List.filter_eq_nil_iff.2 fun y hy=>by
    have:=(il hy).1
    have hne:y.1≠x:=fun h=>hx (h▸this)
    simpa using hne
   rw[h1,h2,List.map_nil,List.append_nil,List.map_map]
   exact List.map_id _
  ·have h1:((bh n).map (fun c=>(x,c))).filter (fun y=>decide (y.1=k))=[]:=List.filter_eq_nil_iff.2 fun y hy=>by
    obtain⟨c,_,rfl⟩:=List.mem_map.1 hy
    simpa using hxk
   rw[h1,List.map_nil,List.nil_append]
   rcases List.mem_cons.1 hk with h|h
   ·exact absurd h.symm hxk
   ·exact wV n k hnd' h
end Go.Vc
namespace Go.Proofs.YtkciobclldnoiaaGreat
open Go Go.Vc Go.Proofs Wl
theorem Ou {p:Pm} {seed:Int} {d:Row} {K H w n:Nat} (B:bZ p seed d K H w n) (id:Int):zx p seed d id=if cv id then kj w (iU p seed d) (iT n seed id)else[]:=by
 unfold zx;rw[B.xw,show p.2.2.toNat=w by have:=B.s;omega]
theorem M9 {m:aF} {o i seed:Int} {d:Row} {id:Int} {K H w n:Nat} (B:bZ m.p seed d K H w n) (ho:0≤o∧o≤16777215) (hi:0≤i∧i≤7) (hid:0≤id∧id≤65535):jO (Gv m o i seed d id)=true:=by
 rw[jP]
 refine⟨ho,hi,hid,B.may,?_⟩
 have hm:cv id=true:=by unfold cv;rw[decide_eq_true hid.1,decide_eq_true hid.2];rfl
 show((zx m.p seed d id).length:Int)=m.p.2.2
 rw[Ou B id,if_pos hm,B.OV id,B.s]
end Go.Proofs.YtkciobclldnoiaaGreat
namespace Go.Proofs.YtkciobclldnoiaaGreat
open Go Go.Vc Go.Proofs Wl
def xB (m:aF) (o:Int) (tries:List Int) (bl:List (List UInt8)) (live:List Int) (k:Int) (i:Nat):List db:=
 ((List.range (m.p.1+m.extra).toNat).filter fun id=>decide (lY (fz o i live) (id:Nat)=k)).map fun id:Nat=>Gv m o i (jC o i (tries.getD i 0)) (bl.getD i []) id
def iK (m:aF) (o:Int) (tries:List Int) (bl:List (List UInt8)) (live:List Int) (k:Int) (n:Nat):List db:=(List.range n).flatMap (xB m o tries bl live k)
theorem Gz (m:aF) (o:Int) (tries:List Int) (bl:List (List UInt8)) (live:List Int) (k:Int) (n:Nat):iK m o tries bl live k (n+1)=iK m o tries bl live k n++xB m o tries bl live k n:=by
 unfold iK;rw[List.range_succ,List.flatMap_append,List.flatMap_cons,List.flatMap_nil,List.append_nil]
theorem wW (m:aF) (o:Int) (tries:List Int) (bl:List (List UInt8)) (live:List Int) (k:Int) (i:Nat):((jZ m o tries bl live i).filter fun y=>decide (y.1=k)).map Prod.snd=(xB m o tries bl live k i).map dV:=by
 unfold jZ xB
 rw[List.filter_map,List.map_map,List.map_map]
 rfl
theorem uQ (m:aF) (o:Int) (tries:List Int) (bl:List (List UInt8)) (live:List Int) (k:Int):∀n,((cV m o tries bl live n).filter fun y=>decide (y.1=k)).map Prod.snd=(iK m o tries bl live k n).map dV
 |0=>by simp[cV,iK]
 |n+1=>by rw[oh,Gz,List.filter_append,List.map_append,List.map_append,uQ m o tries bl live k n,wW]
end Go.Proofs.YtkciobclldnoiaaGreat
namespace Wl
open Go
def gG (m:aF) (d:bx) (n:Int):bx:=if ee d d.l.length n then d else{d with l:=iz m d.l,wait:=0,laid:=[],has:=false}
theorem By {m:aF} {r:db} (h:iD m r=true):jO r=true:=by
 unfold iD at h;simp only[Bool.and_eq_true]at h;exact h.1
theorem Na {l:List db} {r:db} (h:r∈yV l):r∈l:=by
 unfold yV at h
 obtain⟨i,hi,rfl⟩:=List.mem_map.1 h
 have hi:=List.mem_range.1 (List.mem_filter.1 hi).1
 rw[List.getD_eq_getElem?_getD,List.getElem?_eq_getElem hi]
 exact List.getElem_mem hi
theorem JY {m:aF} {c:List UInt8} {r:db} (h:gD m c=some r):ft c=some r∧iD m r=true:=by
 unfold gD at h
 cases hc:ft c with
 |none=>rw[hc]at h;cases h
 |some x=>
  rw[hc]at h
  dsimp only at h
  by_cases hx:iD m x=true
  ·rw[if_pos hx]at h;injection h with h;subst h;exact⟨rfl,hx⟩
  ·rw[if_neg hx]at h;cases h
theorem Bz {m:aF} {l:List (List UInt8)} {r:db} (h:r∈fa m l):∃c∈l,ft c=some r∧iD m r=true:=by
 have h:=List.mem_mergeSort.1 (Na h)
 obtain⟨c,hc,hg⟩:=List.mem_filterMap.1 h
 exact⟨c,hc,JY hg⟩
theorem JZ (m:aF) (l:List (List UInt8)):∀c∈iz m l,c.length=64:=fun c hc=>by
 rcases List.mem_append.1 hc with h|h
 ·exact te h
 ·obtain⟨r,hr,rfl⟩:=List.mem_map.1 h
  obtain⟨_,_,_,hm⟩:=Bz hr
  exact yU (By hm)
theorem GA {w:Pow} (hw:w.calm) {d:bx} {l:List (List UInt8)} (hl:∀c∈l,c.length=64) (h1:d.lost=false) (h2:l.length≤d.room):d.rewrite w l=(0,w,{d with l:=l,wait:=0,laid:=[],has:=false}):=by
 unfold bx.rewrite
 have:l.all (fun b=>decide (b.length=64))=true:=List.all_eq_true.2 fun c hc=>decide_eq_true (hl c hc)
 rw[if_neg (by simp[this]),if_neg (by simp[h1]),if_neg (by omega),if_neg (by simp[hw.1]),nS hw];rfl
theorem J0 {w:Pow} (hw:w.calm) {m:aF} {d:bx} {n:Int} (h:jg m d n=true):eG m w d n=(0,w,gG m d n):=by
 have h0:=h
 unfold jg at h
 rw[Bool.and_eq_true,Bool.or_eq_true,Bool.not_eq_true']at h
 obtain⟨h1,h2⟩:=h
 unfold eG gG
 rw[if_neg (by simp[h1]),if_neg (by simp[h0])]
 by_cases hb:ee d d.l.length n=true
 ·rw[if_pos hb,if_pos hb]
 ·rw[if_neg hb,if_neg hb]
  have h3:ee d (iz m d.l).length n=true:=by
   rcases h2 with h2|h2
   ·exact absurd h2 hb
   ·exact h2
  unfold ee at h3
  rw[decide_eq_true_eq]at h3
  exact GA hw (JZ m d.l) h1 (by omega)
theorem GB (m:aF) (ds:aN) (k:Int) (l:List Int) (N:Int→Int):dp m ds (k::l) N=(eU m ds k (N k)&&dp m ds l N):=List.all_cons
theorem rA {m:aF} {ds:aN} {k n:Int} (h:eU m ds k n=true):∃d,bD ds k=some d∧jg m d n=true:=by
 unfold eU at h
 cases hd:bD ds k with
 |none=>rw[hd]at h;cases h
 |some d=>rw[hd]at h;exact⟨d,rfl,h⟩
theorem GC (ds:aN) (k:Int) (d:bx):(fC ds k d).length=ds.length:=by unfold fC;simp
theorem GD {ds:aN} {k:Int} {d0 d:bx} (h64:ds.length=64) (hk:bD ds k=some d0) (s:Int):bD (fC ds k d) s=if s=k then some d else bD ds s:=by
 obtain⟨n,rfl,hn⟩:=hF hk
 exact oV ds n d s hn h64
theorem En {m:aF} {ds ds':aN} {l:List Int} {N:Int→Int} (h:∀k∈l,bD ds k=bD ds' k):dp m ds l N=dp m ds' l N:=by
 unfold dp
 rw[Bool.eq_iff_iff,List.all_eq_true,List.all_eq_true]
 refine forall_congr' fun k=>forall_congr' fun hk=>?_
 unfold eU
 rw[h k hk]
theorem uc {w:Pow} (hw:w.calm) {m:aF} {N:Int→Int}:∀{live:List Int} {ds:aN},live.Nodup→ds.length=64→dp m ds live N=true→
  ∃ds',makes m N live w ds=(0,w,ds')∧ds'.length=64∧∀k,bD ds' k=(bD ds k).map fun d=>if k∈live then gG m d (N k)else d
 |[],ds,_,h64,_=>⟨ds,rfl,h64,fun k=>by cases bD ds k<;>simp⟩
 |k::live,ds,hnd,h64,hf=>by
  rw[GB,Bool.and_eq_true]at hf
  obtain⟨hkl,hnd'⟩:=List.nodup_cons.1 hnd
  obtain⟨d,hd,hfd⟩:=rA hf.1
  have e:cJ m w ds k (N k)=(0,w,fC ds k (gG m d (N k))):=by
   unfold cJ;rw[hd];dsimp only;rw[J0 hw hfd]
  have hat:=GD (d:=gG m d (N k)) h64 hd
  have hf':dp m (fC ds k (gG m d (N k))) live N=true:=by
   rw[←En (ds:=ds) fun s hs=>?_]
   ·exact hf.2
   ·rw[hat,if_neg (fun hh:s=k=>hkl (hh▸hs))]
  obtain⟨ds',h1,h2,h3⟩:=uc hw hnd' (by rw[GC];exact h64) hf'
  refine⟨ds',?_,h2,fun s=>?_⟩
  ·show(if(cJ m w ds k (N k)).1=0 then makes m N live (cJ m w ds k (N k)).2.1 (cJ m w ds k (N k)).2.2 else cJ m w ds k (N k))=_
   rw[e]
   exact h1
  ·rw[h3 s,hat]
   by_cases hs:s=k
   ·subst hs
    rw[if_pos rfl,hd]
    simp[hkl]
   ·rw[if_neg hs]
    simp[hs]
theorem BA {m:aF} {d:bx} {n:Int} (h:jg m d n=true):(gG m d n).lost=false∧(gG m d n).room=d.room∧((gG m d n).l.length:Int)+max n 0≤d.room:=by
 unfold jg at h
 rw[Bool.and_eq_true,Bool.or_eq_true,Bool.not_eq_true']at h
 obtain⟨h1,h2⟩:=h
 unfold gG
 by_cases hb:ee d d.l.length n=true
 ·rw[if_pos hb]
  unfold ee at hb
  rw[decide_eq_true_eq]at hb
  exact⟨h1,rfl,by omega⟩
 ·rw[if_neg hb]
  have h3:ee d (iz m d.l).length n=true:=by
   rcases h2 with h2|h2
   ·exact absurd h2 hb
   ·exact h2
  unfold ee at h3
  rw[decide_eq_true_eq]at h3
  exact⟨h1,rfl,by dsimp only;omega⟩
end Wl
namespace Wl
open Go
theorem Ib (b:ByteArray):∀n i r,b.size-i=n→ByteArray.toList.loop b i r=r.reverse++b.data.toList.drop i:=by
 have hs:b.data.toList.length=b.size:=rfl
 intro n
 induction n with
 |zero=>
  intro i r h
  rw[ByteArray.toList.loop,if_neg (by omega),List.drop_eq_nil_of_le (by rw[hs];omega),List.append_nil]
 |succ n ih=>
  intro i r h
  have hi:i<b.size:=by omega
  rw[ByteArray.toList.loop,if_pos hi,ih (i+1) _ (by omega)]
  have hd:b.data.toList.drop i=b.get! i::b.data.toList.drop (i+1):=by
   rw[List.drop_eq_getElem_cons (by rw[hs];exact hi)]
   congr 1
   show _=b.data[i]!
   rw[getElem!_pos b.data i hi,Array.getElem_toList]
  rw[hd,List.reverse_cons,List.append_assoc];rfl
theorem toList_eq (x:ByteArray):x.toList=x.data.toList:=by
 unfold ByteArray.toList;rw[Ib x _ 0 [] rfl];rfl
theorem BB {a b:ByteArray} (h:a.toList=b.toList):a=b:=by
 rw[toList_eq,toList_eq]at h
 cases a;cases b
 congr
 exact Array.toList_inj.1 h
theorem Ic (a:ByteArray):dB a a=false:=KD _
theorem LG {a b:ByteArray} (h:gB a b=true) (hn:a≠b):dB a b=true:=by
 rcases(z6 a b).1 h with h|h
 ·exact h
 ·exact absurd (BB h) hn
theorem LH {a b:ByteArray} (h:dB a b=true):a≠b:=fun e=>by subst e;rw[Ic]at h;cases h
theorem Pq:Ord oD:=⟨fun a b c h1 h2=>vE _ _ _ h1 h2,fun a b=>vF _ _⟩
theorem Nb {m:aF} {x e:cK}:e∈(iy m x).aJ↔e∈m.aJ∨e=x:=by
 show e∈(m.aJ++[x]).mergeSort oD↔_
 rw[List.mem_mergeSort];simp
end Wl
namespace Go.Proofs.YtkciobclldnoiaaGreat
open Go Go.Vc Go.Proofs Wl
theorem LI {name:ByteArray} {l:List Wl.cK} (h:l.any (lX name)=false):∀e∈l,e.name≠name:=fun e he hn=>by
 have:=List.any_eq_false.1 h e he
 unfold lX at this
 rw[hn]at this
 simp at this
theorem LJ {m:aF} {x:Wl.cK} (hm:bO m=true) (hname:gS x.name=true) (hnew:∀e∈m.aJ,e.name≠x.name) (hobj:x.object=m.next) (ho:m.aJ.length≤11) (hx:m.next≤16777215) (hs:m.seq≤2147483646)
  (hlen:0≤x.length∧x.length≤m.p.1*m.p.2.2*8) (ht:∀t∈x.tries,0≤t∧t≤15) (hc:(x.tries.length:Int)=countP m.p x.length):bO (iy m x)=true:=by
 obtain⟨h1,h2,h3,h4,h5,h6,h7⟩:=(eK m).1 hm
 obtain⟨a1,a2,a3,a4⟩:=(gV m).1 h1
 have hperm:(iy m x).aJ.Perm (m.aJ++[x]):=List.mergeSort_perm _ _
 have hold:∀e∈m.aJ,e.object<m.next:=fun e he=>((mH m e).1 (h5 e he)).2.1.2
 refine(eK _).2 ⟨(gV _).2 ⟨⟨?_,?_⟩,⟨?_,?_⟩,a3,a4⟩,h2,h3,?_,fun e he=>?_,?_,?_⟩
 ·show 1≤m.seq+1;omega
 ·show m.seq+1≤_;omega
 ·show 0≤m.next+1;omega
 ·show m.next+1≤_;omega
 ·rw[hperm.length_eq];simp;omega
 ·rcases Nb.1 he with he|rfl
  ·obtain⟨b1,b2,b3,b4,b5⟩:=(mH m e).1 (h5 e he)
   exact(mH _ e).2 ⟨b1,⟨b2.1,by show _<m.next+1;omega⟩,b3,b4,b5⟩
  ·exact(mH _ _).2 ⟨hname,⟨by omega,by show _<m.next+1;omega⟩,hlen,ht,hc⟩
 ·have hnd:(m.aJ++[x]).Pairwise (fun a b:Wl.cK=>a.name≠b.name):=List.pairwise_append.2 ⟨h6.imp fun h=>LH h,List.pairwise_singleton _ _,fun a ha b hb=>by rw[List.mem_singleton.1 hb];exact hnew a ha⟩
  have hnd':=(hperm.pairwise_iff (R:=fun a b:Wl.cK=>a.name≠b.name) fun{a b} h=>Ne.symm h).2 hnd
  have hso:(iy m x).aJ.Pairwise (fun a b=>oD a b=true):=(vC Pq (m.aJ++[x])).1
  exact(hso.and hnd').imp fun h=>LG h.1 h.2
 ·have hnd:(m.aJ++[x]).Pairwise (fun a b:Wl.cK=>a.object≠b.object):=List.pairwise_append.2 ⟨h7,List.pairwise_singleton _ _,fun a ha b hb=>by rw[List.mem_singleton.1 hb,hobj];have:=hold a ha;omega⟩
  exact(hperm.pairwise_iff (R:=fun a b:Wl.cK=>a.object≠b.object) fun{a b} h=>Ne.symm h).2 hnd
theorem Ie {p:Pm} {o:Int} {n:Nat} {t:List Int} (h:cz p o n=some t):∀x∈t,0≤x∧x≤15:=fun x hx=>by
 obtain⟨i,hi,rfl⟩:=List.getElem_of_mem hx
 obtain⟨k,hk,hk2⟩:=qO h i hi
 have:=(wI hk2).1
 rw[hk];omega
theorem wX {p:Pm} (hp:bU p=true) (b:List UInt8):((bj p b).length:Int)=countP p b.length:=by
 have:=(jo hp b.length).1
 unfold bj;rw[List.length_map,List.length_range];omega
theorem Nc {m:aF} {d:Bool} {ds:aN} {name:ByteArray} {b:List UInt8} {t:List Int} (hm:bO m=true) (hr:dw m d ds name b.length=0) (ht:cz m.p m.next (bj m.p b).length=some t):bO (iy m ⟨name,m.next,b.length,t⟩)=true:=by
 obtain⟨z1,z2,z3,z4,z5⟩:=qc hr
 have z4a:¬m.p.1*m.p.2.2*8<(b.length:Int):=fun h=>z4 (.inl h)
 have z4b:m.aJ.length≤11:=by have:¬12≤m.aJ.length:=fun h=>z4 (.inr h);omega
 have z5b:m.next≤16777215:=by have:¬16777215<m.next:=fun h=>z5 (.inr (.inl h));omega
 have z5c:m.seq≤2147483646:=by have:¬2147483647≤m.seq:=fun h=>z5 (.inr (.inr h));omega
 have hp:=((gV m).1 ((eK m).1 hm).1).2.2.1
 refine LJ hm z2 (LI z3) rfl z4b z5b z5c ⟨by show 0≤(b.length:Int);omega,by show(b.length:Int)≤_;omega⟩ (Ie ht) ?_
 show(t.length:Int)=countP m.p b.length
 rw[jf ht,wX hp]
end Go.Proofs.YtkciobclldnoiaaGreat
namespace Go.Proofs.YtkciobclldnoiaaGreat
open Go Go.Vc Go.Proofs Wl
end Go.Proofs.YtkciobclldnoiaaGreat
namespace Wl
open Go
def fv (cs:List (List UInt8)) (d:bx):bx:=if cs.isEmpty then d else{d with l:=d.l++cs,wait:=0,laid:=[],has:=false}
def iL (P:List (Int×List UInt8)) (s:Int):List (List UInt8):=(P.filter fun x=>decide (x.1=s)).map Prod.snd
theorem GF {P:List (Int×List UInt8)} {s:Int} (h:∀x∈P,x.1≠s):iL P s=[]:=by
 unfold iL
 rw[List.filter_eq_nil_iff.2 fun x hx=>by simpa using h x hx];rfl
theorem GG (P:List (Int×List UInt8)) (s:Int):(iL P s).length=(P.map Prod.fst).count s:=by
 unfold iL;rw[List.length_map];exact(Go.Vc.LF P s).symm
theorem yC {l:List Int} {s:Int} (h:0≤s∧s<64):s∈dK l↔s∈l:=by
 unfold dK
 rw[List.mem_filter,decide_eq_true_eq]
 refine⟨fun h=>h.2,fun h'=>⟨?_,h'⟩⟩
 exact List.mem_map.2 ⟨s.toNat,List.mem_range.2 (by omega),by omega⟩
theorem BC {w:Pow} (hw:w.calm) {ds:aN} {P:List (Int×List UInt8)} (h64:ds.length=64)
  (hfit:∀x∈P,x.2.length=64∧∃d,bD ds x.1=some d∧d.lost=false∧d.l.length+(iL P x.1).length≤d.room):
  ∃ds',layAll P w ds=(0,w,ds')∧ds'.length=64∧∀s,bD ds' s=(bD ds s).map (fv (iL P s)):=by
 have F:Fit ds (P.map Prod.fst) (P.map Prod.fst):=⟨h64,fun k hk=>by
  obtain⟨x,hx,rfl⟩:=List.mem_map.1 hk
  obtain⟨_,d,h1,h2,h3⟩:=hfit x hx
  rw[GG]at h3
  exact⟨d,h1,h2,h3⟩⟩
 obtain⟨a1,a2,a3⟩:=Go.Vc.M8 hw P ds F fun x hx=>⟨List.mem_map.2 ⟨x,hx,rfl⟩,(hfit x hx).1⟩
 refine⟨(layAll P w ds).2.2,?_,a2.len,fun s=>?_⟩
 ·have h2:=M7 hw P ds
  exact Prod.ext a1 (Prod.ext h2 rfl)
 ·rw[a3 s]
  unfold Bv
  cases hd:bD ds s with
  |none=>rfl
  |some d=>
   obtain⟨hs0,hs1⟩:=Pp hd
   rw[Option.map_some,Option.map_some,Option.map_some]
   congr 1
   unfold fv
   have hm:s∈P.map Prod.fst↔(iL P s).isEmpty=false:=by
    rw[←List.count_pos_iff,←GG]
    cases hc:iL P s<;>simp
   by_cases he:(iL P s).isEmpty=true
   ·have h0:iL P s=[]:=List.isEmpty_iff.1 he
    have h1:(P.filter fun x=>decide (x.1=s))=[]:=List.map_eq_nil_iff.1 h0
    rw[if_neg (fun h=>by rw[yC ⟨hs0,hs1⟩,hm]at h;rw[h]at he;cases he),if_pos he,h1]
    simp
   ·have hf:(iL P s).isEmpty=false:=by simpa using he
    rw[if_pos ((yC ⟨hs0,hs1⟩).2 (hm.2 hf)),if_neg he]
    rfl
end Wl
namespace Go.Proofs.YtkciobclldnoiaaGreat
open Go Go.Vc Go.Proofs Wl
theorem lp {n:aF} {live:List Int} (hnd:live.Nodup) (s:Int):iL (bn n live) s=if s∈live then bh n else[]:=by
 by_cases h:s∈live
 ·rw[if_pos h];exact wV n s hnd h
 ·rw[if_neg h];exact GF fun x hx he=>h (he▸(il hx).1)
theorem GH (m:aF) (o:Int) (tries:List Int) (bl:List (List UInt8)) (live:List Int) (k:Int) (n:Nat):iL (cV m o tries bl live n) k=(iK m o tries bl live k n).map dV:=uQ m o tries bl live k n
theorem GI {m:aF} (h:bO m=true):bh m≠[]:=by
 unfold bh gU gT
 rw[if_pos h]
 intro e
 have:=congrArg List.length e
 simp[bT]at this
 omega
theorem wY {ds:aN} {l:List Int} (h:l.Nodup):(bg ds l).Nodup:=h.filter _
theorem qe {ds:aN} {l:List Int} {k:Int} (h:k∈bg ds l):k∈l∧∃d,bD ds k=some d∧d.lost=false:=by
 obtain⟨h1,h2⟩:=List.mem_filter.1 h
 unfold isLive at h2
 cases hd:bD ds k with
 |none=>rw[hd]at h2;cases h2
 |some d=>rw[hd]at h2;exact⟨h1,d,rfl,by simpa using h2⟩
theorem GJ (cs:List (List UInt8)) (d:bx):(fv cs d).l=d.l++cs:=by
 unfold fv
 by_cases h:cs.isEmpty=true
 ·rw[if_pos h,List.isEmpty_iff.1 h,List.append_nil]
 ·rw[if_neg h]
theorem nT (cs:List (List UInt8)) (d:bx):(fv cs d).lost=d.lost∧(fv cs d).room=d.room:=by
 unfold fv;split<;>exact⟨rfl,rfl⟩
theorem Nd {c1 c2:List (List UInt8)} (h:c2≠[]) (d:bx):fv c2 (fv c1 d)=fv (c1++c2) d:=by
 have e:∀c:List (List UInt8),c≠[]→∀d,fv c d={d with l:=d.l++c,wait:=0,laid:=[],has:=false}:=fun c hc d=>by
  unfold fv;rw[if_neg (by simpa using hc)]
 by_cases h1:c1=[]
 ·subst h1;rfl
 ·rw[e c1 h1,e c2 h,e (c1++c2) (by simp[h])]
  simp
theorem wZ (pages:Nat) (l:List (Int×List UInt8)) (k:Int):iA pages l k=pages+(iL l k).length:=by unfold iA iL;rw[List.length_map]
theorem Ov {p:Pm} {o:Int} {b:List UInt8} {t:List Int} (hp:bU p=true) (ht:cz p o (bj p b).length=some t) {i:Nat} (hi:i<(bj p b).length):∃K H w n,bZ p (jC o i (t.getD i 0)) ((bj p b).getD i []) K H w n:=by
 have hl:=jf ht
 obtain⟨k,hk,hk2⟩:=qO ht i (by omega)
 have hg:Bc p o i k=true:=(wI hk2).2.1
 have e:t.getD i 0=(k:Int):=by rw[iE 0 (by omega)];exact hk
 rw[e]
 refine NA hp hg ?_
 have hpm:=(cg p).1 hp
 have hs:0≤p.1*p.2.2:=Int.mul_nonneg (by omega) (by omega)
 have e2:(bj p b)[i]=tU (ea p) b i:=by simp[bj]
 rw[iE [] hi,e2,Dn]
 unfold ea
 omega
theorem Ow {m:aF} {b:List UInt8} {t:List Int} (hm:bO m=true) (hx:m.next≤16777215) (h8:(bj m.p b).length≤8) (ht:cz m.p m.next (bj m.p b).length=some t) {i id:Nat} (hi:i<(bj m.p b).length) (hid:id<(m.p.1+m.extra).toNat):
  jO (Gv m m.next i (jC m.next i (t.getD i 0)) ((bj m.p b).getD i []) id)=true:=by
 have hpm:=((gV m).1 ((eK m).1 hm).1)
 have hp3:=(cg m.p).1 hpm.2.2.1
 obtain⟨K,H,w,n,B⟩:=Ov hpm.2.2.1 ht hi
 exact M9 B ⟨hpm.2.1.1,hx⟩ (by omega) (by omega)
theorem LK {m:aF} {offs:Int} {w:Pow} {ds:aN} {name:ByteArray} {b:List UInt8} (hw:w.calm) (h64:ds.length=64) (hm:bO m=true):
  (dw m (dT w offs) ds name b.length≠0→eC m offs w ds name b=(dw m (dT w offs) ds name b.length,m,w,ds))∧
  (dw m (dT w offs) ds name b.length=0→(cz m.p m.next (bj m.p b).length=none→eC m offs w ds name b=(8,m,w,ds))∧∀t,cz m.p m.next (bj m.p b).length=some t→
   let live:=bg ds m.drives
   let l:=cV m m.next t (bj m.p b) live (bj m.p b).length
   let n:=iy m ⟨name,m.next,b.length,t⟩
   let N:=iA (bh n).length l
   bO n=true∧(dp m ds live N=false→eC m offs w ds name b=(7,m,w,ds))∧(dp m ds live N=true→∃ds',eC m offs w ds name b=(0,n,w,ds')∧ds'.length=64∧
    ∀k,bD ds' k=(bD ds k).map fun d=>if k∈live then fv ((iK m m.next t (bj m.p b) live k (bj m.p b).length).map dV++bh n) (gG m d (N k))else d)):=by
 refine⟨fun h=>by unfold eC;rw[if_pos h],fun h=>⟨fun ht=>by unfold eC;rw[if_neg (by simpa using h),ht],fun t ht=>?_⟩⟩
 intro live l n N
 have hmn:bO n=true:=Nc hm h ht
 obtain⟨z1,z2,z3,z4,z5⟩:=qc h
 have hpm:=((gV m).1 ((eK m).1 hm).1)
 have z4a:¬m.p.1*m.p.2.2*8<(b.length:Int):=fun h=>z4 (.inl h)
 have h8:=IU hpm.2.2.1 z4a
 have hne:live≠[]:=fun h=>z5 (.inl h)
 have hnx:0≤m.next∧m.next≤16777215:=⟨hpm.2.1.1,by have:¬16777215<m.next:=fun h=>z5 (.inr (.inl h));omega⟩
 have hnd:live.Nodup:=wY (Ac hm)
 have hin:∀k∈live,0≤k∧k<64:=fun k hk=>kB hm k (qe hk).1
 have e:eC m offs w ds name b=(if dp m ds live N=false then(7,m,w,ds)else if(makes m N live w ds).1≠0 then((makes m N live w ds).1,m,(makes m N live w ds).2)else
   if(layAll l (makes m N live w ds).2.1 (makes m N live w ds).2.2).1≠0 then((layAll l (makes m N live w ds).2.1 (makes m N live w ds).2.2).1,m,(layAll l (makes m N live w ds).2.1 (makes m N live w ds).2.2).2)else
   ((layAll (bn n live) (layAll l (makes m N live w ds).2.1 (makes m N live w ds).2.2).2.1 (layAll l (makes m N live w ds).2.1 (makes m N live w ds).2.2).2.2).1,if(layAll (bn n live) (layAll l (makes m N live w ds).2.1 (makes m N live w ds).2.2).2.1 (layAll l (makes m N live w ds).2.1 (makes m N live w ds).2.2).2.2).1=0 then n else m,(layAll (bn n live) (layAll l (makes m N live w ds).2.1 (makes m N live w ds).2.2).2.1 (layAll l (makes m N live w ds).2.1 (makes m N live w ds).2.2).2.2).2)):=by
  unfold eC
  rw[if_neg (by simpa using h),ht]
 refine⟨hmn,fun hf=>by rw[e,if_pos hf],fun hf=>?_⟩
 rw[e,if_neg (by rw[hf];decide)]
 obtain⟨d1,m1,m2,m3⟩:=uc hw (N:=N) hnd h64 hf
 rw[m1]
 dsimp only
 rw[if_neg (by simp)]
 have hlp:∀y∈l,y.1∈live:=fun y hy=>(Gw hnx hne hin h8 hy).1
 have hl64:∀y∈l,y.2.length=64:=fun y hy=>by
  obtain⟨i,hi,hy⟩:=List.mem_flatMap.1 hy
  obtain⟨id,hid,rfl⟩:=List.mem_map.1 hy
  exact yU (Ow hm hnx.2 h8 ht (List.mem_range.1 hi) (List.mem_range.1 hid))
 have hfits:∀k∈live,∃d,bD d1 k=some d∧d.lost=false∧(d.l.length:Int)+max (N k) 0≤d.room:=fun k hk=>by
  obtain⟨_,d,hd,hdl⟩:=qe hk
  have hfk:=List.all_eq_true.1 hf k hk
  obtain⟨d',hd',hfd⟩:=rA hfk
  obtain⟨r1,r2,r3⟩:=BA hfd
  refine⟨gG m d' (N k),?_,r1,by rw[r2];exact r3⟩
  rw[m3 k,hd',Option.map_some,if_pos hk]
 obtain⟨d2,l1,l2,l3⟩:=BC hw (ds:=d1) (P:=l) m2 fun x hx=>by
  obtain⟨d,f1,f2,f3⟩:=hfits x.1 (hlp x hx)
  refine⟨hl64 x hx,d,f1,f2,?_⟩
  have:N x.1=_:=wZ _ _ _
  omega
 rw[l1]
 dsimp only
 rw[if_neg (by simp)]
 obtain⟨d3,p1,p2,p3⟩:=BC hw (ds:=d2) (P:=bn n live) l2 fun x hx=>by
  obtain⟨hxl,hx64⟩:=il hx
  obtain⟨d,f1,f2,f3⟩:=hfits x.1 hxl
  refine⟨hx64,fv (iL l x.1) d,by rw[l3,f1,Option.map_some],by rw[(nT _ _).1];exact f2,?_⟩
  have:N x.1=_:=wZ _ _ _
  rw[(nT _ _).2,GJ,lp hnd,if_pos hxl,List.length_append]
  omega
 rw[p1]
 refine⟨d3,rfl,p2,fun k=>?_⟩
 rw[p3 k,l3 k,m3 k,Option.map_map,Option.map_map]
 congr 1
 funext d
 show fv (iL (bn n live) k) (fv (iL l k) (if k∈live then gG m d (N k)else d))=_
 rw[lp hnd]
 by_cases hk:k∈live
 ·rw[if_pos hk,if_pos hk,if_pos hk]
  have hfl:iL l k=(iK m m.next t (bj m.p b) live k (bj m.p b).length).map dV:=GH _ _ _ _ _ _ _
  rw[hfl,Nd (GI hmn)]
 ·rw[if_neg hk,if_neg hk,if_neg hk,GF (P:=l) fun x hx (he:x.1=k)=>hk (he▸hlp x hx)]
  rfl
end Go.Proofs.YtkciobclldnoiaaGreat
namespace Go.Proofs.YtkciobclldnoiaaGreat
open Go Go.Vc Go.Proofs Wl
theorem BD (l:List Int) (hl:l.length≤64) (s:Int):bD (fl l (aY l l.length).length) s=if s∈aY l l.length then some (bx.new (l.getD s.toNat 0).toNat)else none:=by
 by_cases hs:0≤s∧s<64
 ·unfold bD fl
  rw[if_pos hs,List.getElem?_map,List.getElem?_range (by omega),Option.map_some,List.take_of_length_le (Nat.le_refl _)]
  have e:((s.toNat:Nat):Int)=s:=by omega
  rw[e]
  by_cases h:s∈aY l l.length
  ·rw[if_pos h];rfl
  ·rw[if_neg h];rfl
 ·rw[if_neg (fun h=>?_)]
  ·unfold bD;rw[if_neg hs]
  ·obtain⟨n,hn,rfl,_⟩:=(pU l l.length s).1 h
   omega
theorem LL {p:Pm} {extra:Int} {l:List Int} (hl:l.length≤64) (e0:qd p extra l=0):
  ∃D,dn p extra Pow.new l=(0,Pow.new,D)∧D.length=64∧∀s,bD D s=if s∈aY l l.length then some ⟨(l.getD s.toNat 0).toNat,bh (bS p extra l),0,[],false,false⟩else none:=by
 have hm:=Gy hl e0
 have hnd:(aY l l.length).Nodup:=(uP l l.length).imp fun h e=>by omega
 have hany:=(Bx e0).2.2.2.2
 rw[JX,if_pos e0]
 obtain⟨D,h1,h2,h3⟩:=BC zy (ds:=fl l (aY l l.length).length) (P:=bn (bS p extra l) (aY l l.length)) (HI _ _) fun x hx=>by
  obtain⟨hx1,hx2⟩:=il hx
  refine⟨hx2,bx.new (l.getD x.1.toNat 0).toNat,by rw[BD l hl,if_pos hx1],rfl,?_⟩
  rw[lp hnd,if_pos hx1]
  have:=List.any_eq_false.1 hany x.1 hx1
  simp only[decide_eq_true_eq]at this
  show 0+_≤(l.getD x.1.toNat 0).toNat
  omega
 refine⟨D,h1,h2,fun s=>?_⟩
 rw[h3,BD l hl,lp hnd]
 by_cases h:s∈aY l l.length
 ·rw[if_pos h,if_pos h,if_pos h,Option.map_some]
  unfold fv
  rw[if_neg (by simpa using GI hm)]
  rfl
 ·rw[if_neg h,if_neg h,if_neg h];rfl
theorem J1 (m:aF):(bh m).length=((gT m).length+47)/48:=by unfold bh gU;rw[List.length_map,List.length_range]
theorem Pr (x:Wl.cK):(gd x).length=6+x.name.size+x.tries.length:=by
 unfold gd
 simp[bT]
 omega
theorem LM {m:aF} (h:bO m=true):(gT m).length=14+m.drives.length+(m.aJ.flatMap gd).length:=by
 unfold gT
 rw[if_pos h]
 simp only[List.length_append,bT,List.length_cons,List.length_nil,List.length_map]
 omega
theorem BE {p:Pm} {n:Int} (h:n≤p.1*p.2.2*8):countP p n≤8:=by
 unfold countP
 split
 ·rename_i hh
  rw[Bool.and_eq_true,decide_eq_true_eq]at hh
  have:=(cg p).1 hh.1
  have hs:0<p.1*p.2.2:=Int.mul_pos (by omega) (by omega)
  have:(n-1)/(p.1*p.2.2)<8:=Int.ediv_lt_of_lt_mul hs (by rw[Int.mul_comm 8];omega)
  omega
 ·decide
theorem Ox {m:aF} {x:Wl.cK} (h:fw m x=true):(gd x).length≤26:=by
 obtain⟨h1,h2,h3,h4,h5⟩:=(mH m x).1 h
 have:=BE h3.2
 have hn:x.name.size≤12:=by unfold gS at h1;simp at h1;omega
 rw[Pr]
 omega
theorem CL {α β:Type} {f:α→List β} {c:Nat}:∀{l:List α},(∀x∈l,(f x).length≤c)→(l.flatMap f).length≤l.length*c
 |[],_=>by simp
 |x::l,h=>by
  have h1:=h x List.mem_cons_self
  have h2:=CL (l:=l) fun y hy=>h y (List.mem_cons_of_mem _ hy)
  rw[List.flatMap_cons,List.length_append,List.length_cons,Nat.succ_mul]
  omega
theorem Nf {m:aF} (h:bO m=true):(bh m).length*48≤61+m.drives.length+m.aJ.length*26:=by
 have:=CL (f:=gd) (l:=m.aJ) fun x hx=>Ox (((eK m).1 h).2.2.2.2.1 x hx)
 have h2:=LM h
 rw[J1]
 omega
theorem BF {m:aF} (h:bO m=true):(bh m).length≤9:=by
 have h1:=Nf h
 have h2:=kU h
 have h3:=((eK m).1 h).2.2.2.1
 omega
theorem Ig {α β:Type} (f:α→List β) (c:Nat) (n:Nat) (l:List α) (h:∀x∈l,(f x).length≤c) (hn:l.length≤n):(l.flatMap f).length≤n*c:=Nat.le_trans (CL h) (Nat.mul_le_mul_right c hn)
theorem yD (m:aF) (o:Int) (tries:List Int) (bl:List (List UInt8)) (live:List Int) (k:Int) (n:Nat):(iK m o tries bl live k n).length≤n*(m.p.1+m.extra).toNat:=by
 unfold iK
 refine Ig _ _ n _ (fun i _=>?_) (by simp)
 have:=congrArg List.length (wW m o tries bl live k i)
 rw[List.length_map,List.length_map]at this
 rw[←this]
 refine Nat.le_trans (List.length_filter_le _ _) ?_
 rw[ua]
 exact Nat.le_refl _
end Go.Proofs.YtkciobclldnoiaaGreat
namespace Go.Proofs.YtkciobclldnoiaaGreat
open Go Go.Vc Go.Proofs Wl
def dF (m:aF) (offs:Int) (w:Pow) (ds:aN) (n:aF):Int×aF×Pow×aN:=
 if dT w offs then(14,m,w,ds)else if !bO n||decide (n.seq≠m.seq+1)then(1,m,w,ds)else
 let live:=bg ds n.drives
 let N:Int→Int:=fun _=>((bh n).length:Int)
 if live=[]∨dp m ds live N=false then(7,m,w,ds)else
 if(makes m N live w ds).1≠0 then((makes m N live w ds).1,m,(makes m N live w ds).2)else
 let r2:=layAll (bn n live) (makes m N live w ds).2.1 (makes m N live w ds).2.2
 (r2.1,if r2.1=0 then n else m,r2.2)
theorem mT {m:aF} (h:bO m=true):bR m:=by
 obtain⟨h1,h2,h3,h4,h5,h6,h7⟩:=(eK m).1 h
 have hd:=kU h
 refine⟨by omega,by omega,fun e he=>?_⟩
 obtain⟨b1,b2,b3,b4,b5⟩:=(mH m e).1 (h5 e he)
 have:=BE b3.2
 have hn:e.name.size≤12:=by unfold gS at b1;simp at b1;omega
 omega
set_option maxRecDepth 100000
section
variable {B:au} {h0 h:Heap} {As:List HP} {a pw:Addr} {offs:Int} {da:List (Option Addr)} {w:Pow} {ds:aN}
theorem Ih (x:bw) (m:aF) (z:bw) (n:aF) (hS:St B h0 As fun h=>cL h z n) (hz:bR m) (hzn:bR n) (hsq:-1≤m.seq∧m.seq≤2^40)
  (H:aa B h0 h (aI aR a pw (aD x) offs da w ds::bC x m::As)):
  ab Tryz.prog rS #[.pointer (some a),dj z] h fun v h'=>v=.int .i64 (dF m offs w ds n).1∧
   ∃y,aa B h0 h' (aI aR a pw (aD y) offs da (dF m offs w ds n).2.2.1 (dF m offs w ds n).2.2.2::bC y (dF m offs w ds n).2.1::As):=by
 refine re (some a) z ?_
 unfold lJ
 refine H.boxed fun a1 h1 H1=>(Dv H1).mono ?_
 have H1:=H1.bW
 rintro _ h1 ⟨rfl,rfl⟩
 have H1:aa B h0 h1 (aj a1 ao (aD z)::aI aR a pw (aD x) offs da w ds::bC x m::As):=H1
 have hz1:cL h1 z n:=hS.at [_,_,_] H1
 have hx1:cL h1 x m:=H1.at 2 rfl
 refine⟨_,rfl,bu (fun e=>?_) fun e1=>?_⟩
 ·have ep:dF m offs w ds n=(14,m,w,ds):=by unfold dF;rw[if_pos e]
  rw[ep];exact⟨rfl,x,H1.aS 3 [1,2]⟩
 refine aU ?_
 refine⟨z,(H1.box 0 rfl).aL _ rfl,(FX z n h1 hz1 hzn).mono ?_⟩
 rintro _ h3 ⟨rfl,R3⟩
 have H3:=H1.up R3.ah
 have hz3:=hz1.up R3.ah
 have no:∀{h':Heap},aa B h0 h' (aj a1 ao (aD z)::aI aR a pw (aD x) offs da w ds::bC x m::As)→(bO n=false∨n.seq≠m.seq+1)→(Value.int .i64 1=.int .i64 (dF m offs w ds n).1∧∃y,aa B h0 h' (aI aR a pw (aD y) offs da (dF m offs w ds n).2.2.1 (dF m offs w ds n).2.2.2::bC y (dF m offs w ds n).2.1::As)):=fun{h'} H' hc=>by
  have ep:dF m offs w ds n=(1,m,w,ds):=by
   unfold dF
   rw[if_neg (by rw[e1];decide),if_pos]
   rcases hc with hc|hc
   ·rw[hc];rfl
   ·rw[decide_eq_true hc,Bool.or_true]
  rw[ep];exact⟨rfl,x,H'.aS 3 [1,2]⟩
 refine⟨_,rfl,trivial,aX (fun e=>no H3 (.inl e)) fun e2=>?_⟩
 have hb3:=H3.box 0 rfl
 have hc3:=(aa.cb (H3.aS 2 [1,0])).2
 refine⟨z.1,hb3.cell0 rfl,a,rfl,x.1,hc3.cell0 rfl,?_⟩
 rw[hz1.seq,hx1.seq,Go.Vc.wrap_small (m.seq+1) (by omega) (by omega)]
 refine bP (fun e=>no H3 (.inr e)) fun e3=>?_
 refine⟨_,hb3.cell rfl,?_⟩
 have hdl:=kU e2
 have hin:∀k∈n.drives,0≤k∧k<64:=kB e2
 refine(A8 z.2.2.2.2.2.2.1 n.drives hz3.drives (by omega) (H3.aS 2 [1,0])).mono ?_
 rintro _ h5 ⟨lv,rfl,R5⟩
 obtain⟨live,hlive⟩:∃live,live=bg ds n.drives:=⟨_,rfl⟩
 rw[←hlive]at R5
 have hll:live.length≤64:=by rw[hlive];exact Nat.le_trans (List.length_filter_le _ _) hdl
 have hlin:∀k∈live,0≤k∧k<64:=fun k hk=>by rw[hlive]at hk;exact hin k (List.mem_filter.1 hk).1
 have H5:=(H3.ck R5).aS 4 [2,3,0,1]
 refine⟨lv,rfl,z,(H5.box 3 rfl).aL _ rfl,(ka z n h5 (hS.at [_,_,_,_] H5) hzn).mono ?_⟩
 rintro _ h6 ⟨pg,rfl,R6⟩
 have hpgl:=(aa.sV R6).1
 have hspl:=gY n hzn
 obtain⟨pn,hpn⟩:∃pn,pn=(bh n).length:=⟨_,rfl⟩
 rw[←hpn]at hpgl hspl
 have H6:=H5.up R6.ah
 refine⟨pg,rfl,H6.alloc ag rfl fun a13 h7 H7=>?_⟩
 have H7:=H7.bW
 refine H7.storeAll ag 0 rfl rfl [.int .i64 (pg.len:Int)] rfl rfl rfl rfl fun h8 H8=>?_
 rw[hpgl]at H8
 have H8:aa B h0 h8 (aI aR a pw (aD x) offs da w ds::bC x m::aj a13 aA [.int .i64 (pn:Int)]::an aA lv 1 av live::aj a1 ao (aD z)::As):=H8.aS 5 [1,2,0,3,4]
 obtain⟨T,hT⟩:∃T,T=bC x m::aj a13 aA [.int .i64 (pn:Int)]::an aA lv 1 av live::aj a1 ao (aD z)::As:=⟨_,rfl⟩
 have tX:St B h0 T fun h=>cL h x m:=by rw[hT];exact St.cQ 0 rfl fun _ hq=>hq
 have tN:St B h0 T fun h=>bK h a13 aA [.int .i64 (pn:Int)]:=by rw[hT];exact St.cQ (A:=aj a13 aA [.int .i64 (pn:Int)]) 1 rfl fun _ hq=>hq.1
 have tL:St B h0 T fun h=>Rd h lv 1 av live:=by rw[hT];exact St.cQ (A:=an aA lv 1 av live) 2 rfl fun _ hq=>hq.1.seq (fun _=>rfl) hq.2
 have tM:St B h0 T fun h=>bK h a1 ao (aD z):=by rw[hT];exact St.cQ (A:=aj a1 ao (aD z)) 3 rfl fun _ hq=>hq.1
 have tY:St B h0 T fun h=>cL h z n:=by rw[hT];exact hS.cons.cons.cons.cons
 obtain⟨N,hN⟩:∃N:Int→Int,N=fun _=>(pn:Int):=⟨_,rfl⟩
 have tT:St B h0 T fun h=>Ew gM #[] #[.pointer (some a13)] N live h:=fun Bs h' H' k hk=>by
  refine pI k a13 ?_
  unfold kF
  exact⟨(pn:Int),(tN Bs h' H').cell0 rfl,by rw[hN],Sp.refl h'⟩
 have fin:∀{h':Heap} {w':Pow} {ds':aN},aa B h0 h' (aI aR a pw (aD x) offs da w' ds'::T)→aa B h0 h' (aI aR a pw (aD x) offs da w' ds'::bC x m::As):=fun{h' w' ds'} H'=>by
  rw[hT]at H'
  exact H'.aS 5 [0,1]
 rw[←hT]at H8
 have ep:dF m offs w ds n=(if live=[]∨dp m ds live N=false then(7,m,w,ds)else
   if(makes m N live w ds).1≠0 then((makes m N live w ds).1,m,(makes m N live w ds).2)else
   ((layAll (bn n live) (makes m N live w ds).2.1 (makes m N live w ds).2.2).1,if(layAll (bn n live) (makes m N live w ds).2.1 (makes m N live w ds).2.2).1=0 then n else m,(layAll (bn n live) (makes m N live w ds).2.1 (makes m N live w ds).2.2).2)):=by
  rw[hN,hpn,hlive]
  unfold dF
  rw[if_neg (by rw[e1];decide),if_neg (by rw[e2,decide_eq_false (by simpa using e3)];decide)]
 rw[ep]
 have hlvl:=(tL.at [_] H8).len
 refine aU (cY (fun e=>?_) fun e4=>?_)
 ·have:live=[]:=List.length_eq_zero_iff.1 (by omega)
  rw[if_pos (.inl this)];exact⟨rfl,x,fin H8⟩
 have hne:live≠[]:=fun h=>e4 (by rw[hlvl,h];rfl)
 refine(Bh gM #[] #[.pointer (some a13)] N x m lv live (by rfl) (fun Bs h' H'=>⟨tX Bs h' H',tT Bs h' H'⟩) hz (tL.at [_] H8) (by omega) hlin H8).mono ?_
 rintro _ h9 ⟨rfl,R9⟩
 have H9:=H8.up R9.ah
 refine⟨_,rfl,aX (fun g=>?_) fun g=>?_⟩
 ·rw[if_pos (.inr g)];exact⟨rfl,x,fin H9⟩
 rw[if_neg (by rintro(h|h);exact hne h;rw[g]at h;cases h)]
 refine(Bj gM #[] #[.pointer (some a13)] N x m lv live (by rfl) (fun Bs h' H'=>⟨tX Bs h' H',tT Bs h' H',tL Bs h' H'⟩) hz (by omega) hlin H9).mono ?_
 rintro _ h11 ⟨rfl,H11⟩
 obtain⟨m1,hm1⟩:∃m1,m1=makes m N live w ds:=⟨_,rfl⟩
 rw[←hm1]at H11⊢
 refine⟨_,rfl,bP (fun g2=>?_) fun g2=>?_⟩
 ·rw[if_pos g2];exact⟨rfl,x,fin H11⟩
 rw[if_neg (by simpa using g2)]
 refine⟨z,(tM.at [_] H11).aL _ rfl,(Bm x z n lv live (fun Bs h' H'=>⟨tY Bs h' H',tL Bs h' H'⟩) hzn (by omega) hlin H11).mono ?_⟩
 rintro _ h12 ⟨rfl,Q1,Q0⟩
 refine⟨_,rfl,rfl,?_⟩
 by_cases g4:(layAll (bn n live) m1.2.1 m1.2.2).1=0
 ·obtain⟨y2,H12⟩:=Q0 g4
  rw[if_pos g4]
  rw[hT]at H12
  exact⟨y2,H12.aS 6 [0,1]⟩
 ·rw[if_neg g4]
  exact⟨x,fin (Q1 g4)⟩
end
end Go.Proofs.YtkciobclldnoiaaGreat
namespace Go.Vc
open Go Wl
section
variable {k:Kit} {B:au} {h0 h:Heap} {As:List HP} {a pw b:Addr} {mc:List Value} {offs:Int} {da:List (Option Addr)} {w:Pow} {ds:aN} {d:bx} {n:Nat}
end
end Go.Vc
