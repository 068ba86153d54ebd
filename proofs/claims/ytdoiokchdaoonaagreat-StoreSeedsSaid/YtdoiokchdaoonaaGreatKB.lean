/- Part of the proofs that the laws of this seat answer true whatever the input reads, and leave it as it was; no condition. -/
import Derived.Test.YtdoiokchdaoonaaGreatKA
import Derived.Test.YtdoiokchdaoonaaGreatPlA
import Derived.Test.YtdoiokchdaoonaaGreatPlD
import Derived.Test.YtdoiokchdaoonaaGreatPlG
import Derived.Test.YtdoiokchdaoonaaGreatTabS
import Derived.Test.YtdoiokchdaoonaaGreatShelfA
import Derived.Test.YtdoiokchdaoonaaGreatShelfB
import Derived.Test.YtdoiokchdaoonaaGreatPlH
import Derived.Test.YtdoiokchdaoonaaGreatPlI
set_option linter.unusedVariables false
set_option linter.unusedSimpArgs false
namespace Go.Proofs.YtdoiokchdaoonaaGreat
open Go Go.Vc Go.Proofs Wl
set_option maxRecDepth 100000
theorem Kk {α:Type} {h:Heap} {e:TypeId} {s:Sl} {k:Nat} {f:α→List Value} {l:List α} (ho:Own h e s k f l) (hl:l≠[]):s.ptr.isNone=false:=by
 rcases ho.head with⟨_,_,h3⟩|⟨b,rest,h1,_⟩
 ·exact absurd h3 hl
 ·rw[h1];rfl
theorem Kl (p:Pm) (seed id:Int) (h:Heap):ab Tryz.prog Iz #[kl p,.int .u32 seed,.int .i64 id] h fun v h'=>∃r:Sl,v=.slice r.ptr r.len r.cap∧
  Sp h h' [ak aB r 1 aC (if bF p&&bV id then zn (cI p).toNat seed id else[])]∧r.ptr.isNone=!(bF p&&bV id):=by
 refine GL p seed id ?_
 unfold Dh
 refine(Sp.refl h).boxed fun a h1 H1=>?_
 refine aR ?_
 refine⟨p,(H1.box 0 rfl).aH _ rfl,(dp p h1).mono ?_⟩
 rintro v h2 ⟨rfl,R2⟩
 have H2:=H1.comp R2
 have no:(bF p&&bV id)=false→Sp h h2 [ak aB ⟨none,0,0⟩ 1 aC (if bF p&&bV id then zn (cI p).toNat seed id else[])]∧Option.isNone (none:Option Addr)=!(bF p&&bV id):=fun hf=>by
  rw[hf];exact⟨(H2.nil aB 1 aC).take 1 (fun i A hi=>by cases i with|zero=>exact hi|succ i=>simp at hi),rfl⟩
 refine⟨_,rfl,aY (fun e=>⟨⟨none,0,0⟩,rfl,no (by rw[e];rfl)⟩) fun hp=>?_⟩
 refine aj (fun e=>⟨⟨none,0,0⟩,rfl,no (by simp[bV];omega)⟩) fun e1=>?_
 refine aj (fun e=>⟨⟨none,0,0⟩,rfl,no (by simp[bV];omega)⟩) fun e2=>?_
 have hid:bV id=true:=by simp[bV];omega
 refine⟨p,(H2.box 0 rfl).aH _ rfl,(jZ p h2).mono ?_⟩
 rintro v h3 ⟨rfl,R3⟩
 have H3:=H2.comp R3
 have hpp:=(bH p).1 hp
 have hc:cI p=p.1+p.2.1:=by rw[cI,if_pos hp]
 obtain⟨n,hn⟩:∃n:Nat,cI p=n:=⟨(cI p).toNat,by omega⟩
 refine⟨_,rfl,?_⟩
 dsimp only
 rw[hn]
 refine H3.make ag aC gG (by decide) 0 rfl rfl n n rfl rfl (Nat.le_refl _) (by omega) fun v h4 hl hcp H4=>?_
 refine⟨p,(H4.box 0 rfl).aH _ rfl,(AX p seed id h4).mono ?_⟩
 rintro w h5 ⟨c,rfl,R5⟩
 rw[hp,hid,hn,Int.toNat_natCast]at R5
 rw[hp,hid,Int.toNat_natCast]
 have H5:=H4.comp R5
 have hcs:=H5.seq 2 rfl (fun _=>rfl)
 have hcl:=hcs.len
 obtain⟨cs,hcs'⟩:∃cs,cs=ib n seed id:=⟨_,rfl⟩
 have hin:∀x∈cs,0≤x∧x<(n:Int):=fun x hx=>td (by omega) (by omega) (by rw[←hcs'];exact hx)
 have hcl2:cs.length≤n:=by rw[hcs'];exact Aw (by omega) (by omega) _ _
 simp only[Bool.and_self,if_true,←hcs']at H5 hcs hcl R5
 refine⟨c,rfl,?_⟩
 refine au (fun i:Nat=>(i:Int)) (fun i h'=>i≤cs.length∧Sp h h' [an a aS [.int .i64 p.1,.int .i64 p.2.1,.int .i64 p.2.2],ak aB v 1 aC (ow n (cs.take i)),ak aF c 1 aA cs]) (fun i=>cs.length-i) 0 rfl ⟨by omega,H5⟩ ?_
 rintro i h6 ⟨hi,H6⟩
 refine aj (fun e=>?_) (fun e=>?_)
 ·have hi':i<cs.length:=by omega
  have hx:=hin _ (List.getElem_mem hi')
  refine(H6.seq 2 rfl (fun _=>rfl)).cm i rfl hi' _ rfl ?_
  refine H6.set ag 1 rfl (fun _=>rfl) rfl cs[i].toNat (by omega) (by rw[wC];omega) 1 rfl rfl rfl fun h7 H7=>?_
  refine⟨i+1,by rw[wrap_small _ (by omega) (by omega)];rfl,⟨by omega,?_⟩,by omega⟩
  have e2:ow n (cs.take (i+1))=(ow n (cs.take i)).set cs[i].toNat 1:=by rw[aJ _ _ hi',ow,List.foldl_append];rfl
  rw[e2];exact H7
 ·rw[List.take_of_length_le (by omega)]at H6
  have Hf:Sp h h6 [ak aB v 1 aC (ow n cs)]:=(H6.del 2).take 1 (fun i A hi=>by cases i with|zero=>exact hi|succ i=>simp at hi)
  refine⟨v,rfl,?_,Kk (Hf.own 0 rfl) (fun hh=>?_)⟩
  ·rw[hcs']at Hf;exact Hf
  ·have:=wC n cs;rw[hh]at this;simp at this;omega
theorem BO (p:Pm) (h:Heap):ab Tryz.prog EH #[kl p] h fun v h'=>∃r:Sl,v=.slice r.ptr r.len r.cap∧Sp h h' [fA aP r 1 aC (if bF p then cE p.1.toNat p.2.1.toNat else[])]:=by
 refine Dg p ?_
 unfold yq
 refine(Sp.refl h).boxed fun a h1 H1=>?_
 refine⟨p,(H1.box 0 rfl).aH _ rfl,(dp p h1).mono ?_⟩
 rintro v h2 ⟨rfl,R2⟩
 have H2:=H1.comp R2
 refine⟨_,rfl,aY (fun e=>⟨⟨none,0,0⟩,rfl,?_⟩) fun hp=>?_⟩
 ·rw[e];exact(H2.Gb aP 1 aC).take 1 (fun i A hi=>by cases i with|zero=>exact hi|succ i=>simp at hi)
 have hpp:=(bH p).1 hp
 have hc:cI p=p.1+p.2.1:=by rw[cI,if_pos hp]
 obtain⟨K,hK⟩:∃K:Nat,p.1=K:=⟨p.1.toNat,by omega⟩
 obtain⟨Hh,hH⟩:∃H:Nat,p.2.1=H:=⟨p.2.1.toNat,by omega⟩
 refine(rq h2).mono ?_
 rintro v h3 ⟨f,rfl,R3⟩
 have H3:=(H2.comp R3).Gb aP 1 aC
 refine⟨some f,rfl,_,(H3.box 0 rfl).cell rfl,?_⟩
 refine au (fun t:Sl×Nat=>(t.1,(t.2:Int))) (fun t h'=>t.2≤Hh∧Sp h h' [an a aS [.int .i64 p.1,.int .i64 p.2.1,.int .i64 p.2.2],an f mN dZ,fA aP t.1 1 aC ((cE K Hh).take t.2)]) (fun t=>Hh-t.2) (⟨none,0,0⟩,0) rfl ⟨by simp,H3⟩ ?_
 rintro⟨s,k⟩ h4 ⟨hk,H4⟩
 dsimp only at*
 refine aj (fun e=>?_) (fun e=>?_)
 ·have hk':k<Hh:=by omega
  refine aR ⟨p,(H4.box 0 rfl).aH _ rfl,p.1,(H4.box 0 rfl).cell0 rfl,?_⟩
  refine(jZ p h4).mono ?_
  rintro v h5 ⟨rfl,R5⟩
  have H5:=H4.comp R5
  refine⟨_,rfl,⟨(H5.box 0 rfl).cell0 rfl,trivial⟩,?_⟩
  dsimp only
  rw[wrap_small (p.1+k) (by omega) (by omega),hc]
  refine(IU _ _ h5).mono ?_
  rintro v h6 ⟨u,rfl,R6⟩
  rw[if_pos (by omega)]at R6
  have e1:(p.1+p.2.1).toNat=K+Hh:=by omega
  have e2:(p.1+(k:Int)).toNat=K+k:=by omega
  rw[e1,e2]at R6
  have H6:=H5.comp R6
  refine⟨u,rfl,⟨(H6.box 0 rfl).cell0 rfl,trivial⟩,p.1,(H6.box 0 rfl).cell0 rfl,?_⟩
  let rowAt:Nat→List UInt8:=fun j=>(List.range j).map (fun i=>Gf.pw ((k+1)*(i+1)%255))++((List.replicate (K+Hh) (0:UInt8)).set (K+k) 1).drop j
  refine au (fun j:Nat=>(j:Int)) (fun j h'=>j≤K∧Sp h h' [an a aS [.int .i64 p.1,.int .i64 p.2.1,.int .i64 p.2.2],an f mN dZ,fA aP s 1 aC ((cE K Hh).take k),ak aB u 1 aC (rowAt j)]) (fun j=>K-j) 0 rfl ⟨by omega,H6⟩ ?_
  rintro j h7 ⟨hj,H7⟩
  refine aj (fun e3=>?_) (fun e3=>?_)
  ·have hj':j<K:=by omega
   have hm:(k+1)*(j+1)≤4*16:=Nat.mul_le_mul (by omega) (by omega)
   have e4:IntKind.wrap .i64 (IntKind.wrap .i64 ((k:Int)+1)*IntKind.wrap .i64 ((j:Int)+1))=(((k+1)*(j+1):Nat):Int):=by
    rw[wrap_small ((k:Int)+1) (by omega) (by omega),wrap_small ((j:Int)+1) (by omega) (by omega),show((k:Int)+1)*((j:Int)+1)=(((k+1)*(j+1):Nat):Int)by rw[Int.natCast_mul];rfl]
    exact mH _ (by omega)
   rw[e4]
   refine(Kj f _ h7 (H7.box 1 rfl)).mono ?_
   rintro v h8 ⟨rfl,rfl⟩
   refine⟨_,rfl,?_⟩
   have hlen:(rowAt j).length=K+Hh:=by simp[rowAt];omega
   refine H7.set ag 3 rfl (fun _=>rfl) rfl j rfl (by omega) _ rfl rfl rfl fun h9 H9=>?_
   refine⟨j+1,by rw[wrap_small _ (by omega) (by omega)];rfl,⟨by omega,?_⟩,by omega⟩
   have e5:(rowAt j).set j (Gf.pw ((((k+1)*(j+1):Nat):Int)%255).toNat)=rowAt (j+1):=by
    have e6:((((k+1)*(j+1):Nat):Int)%255).toNat=(k+1)*(j+1)%255:=by omega
    rw[e6]
    simp only[rowAt]
    rw[List.set_append_right _ _ (by simp),List.length_map,List.length_range,Nat.sub_self,List.drop_eq_getElem_cons (by simp;omega),List.set_cons_zero,List.range_succ,List.map_append,List.append_assoc]
    rfl
   rw[←e5];exact H9
  ·have hj':j=K:=by omega
   subst hj'
   have e5:rowAt j=iU j Hh k:=by
    simp only[rowAt,iU]
    congr 1
    apply List.ext_getElem?
    intro i
    rw[List.getElem?_drop,List.getElem?_set,List.getElem?_map]
    by_cases hi:i<Hh
    ·rw[List.getElem?_range hi,Option.map_some,List.getElem?_replicate]
     by_cases hik:i=k
     ·subst hik;simp[hi]
     ·rw[if_neg (by omega),if_pos (by omega),if_neg hik]
    ·rw[List.getElem?_eq_none (l:=List.range Hh) (by simp;omega),if_neg (by omega),List.getElem?_replicate,if_neg (by omega)];rfl
   rw[e5]at H7
   have H8:=H7.freeze 3 rfl (fun _=>rfl)
   have hll:((cE j Hh).take k).length=k:=by simp[cE];omega
   refine H8.zi ag 2 3 (by decide) rfl rfl im (by omega) fun s' h9 H9=>?_
   refine⟨(s',k+1),by dsimp only;rw[wrap_small _ (by omega) (by omega)];rfl,⟨by dsimp only;omega,?_⟩,by dsimp only;omega⟩
   have e7:(cE j Hh).take (k+1)=(cE j Hh).take k++[iU j Hh k]:=by
    rw[aJ _ _ (by simp[cE];omega)];simp[cE]
   dsimp only
   rw[e7]
   exact H9.del 3
 ·refine⟨s,rfl,?_⟩
  rw[if_pos hp,hK,hH,Int.toNat_natCast,Int.toNat_natCast]
  rw[List.take_of_length_le (by simp[cE];omega)]at H4
  exact H4.take 2 (fun i A hi=>by cases i with|zero=>exact hi|succ i=>simp at hi)
end Go.Proofs.YtdoiokchdaoonaaGreat
namespace Go.Proofs.YtdoiokchdaoonaaGreat
open Go Go.Vc Go.Proofs Wl
set_option maxRecDepth 100000
theorem yR (p:Pm) (h:Heap):ab Tryz.prog xV #[kl p] h fun v h'=>∃r:Sl,v=.slice r.ptr r.len r.cap∧Sp h h' [ak aF r 1 aA (upto (max 0 (min p.1 16)).toNat)]:=by
 refine wL p ?_
 unfold pR
 refine(Sp.refl h).boxed fun a h1 H1=>?_
 refine⟨p.1,(H1.box 0 rfl).cell0 rfl,?_⟩
 have em:(if(if(16:Int)<p.1 then(16:Int)else p.1)>(0:Int)then(if(16:Int)<p.1 then(16:Int)else p.1)else(0:Int))=((max 0 (min p.1 16)).toNat:Int):=by
  split<;>split<;>omega
 rw[em]
 generalize hN:(max 0 (min p.1 16)).toNat=N
 have hN16:N≤16:=by omega
 refine au (fun t:Sl×Nat=>(t.1,(t.2:Int))) (fun t h'=>t.2≤N∧Sp h h' [emp,ak aF t.1 1 aA (upto t.2)]) (fun t=>N-t.2) (⟨none,0,0⟩,0) rfl ⟨by simp,(H1.gP 0 rfl fun _ _=>trivial).nil aF 1 aA⟩ ?_
 rintro⟨s,k⟩ h2 ⟨hk,H2⟩
 dsimp only at*
 refine aj (fun e=>?_) (fun e=>?_)
 ·refine H2.push ag 1 rfl kH rfl (by decide) (fun _=>rfl) iD (k:Int) rfl (by decide) (by rw[gy];omega) fun s' h3 H3=>?_
  refine⟨(s',k+1),by dsimp only;rw[wrap_small _ (by omega) (by omega)];rfl,⟨by dsimp only;omega,?_⟩,by dsimp only;omega⟩
  have e2:upto (k+1)=upto k++[(k:Int)]:=by simp[upto,List.range_succ]
  dsimp only;rw[e2];exact H3
 ·have:k=N:=by omega
  subst this
  exact⟨s,rfl,H2.take 1 (fun i A hi=>by cases i with|zero=>exact hi|succ i=>simp at hi)⟩
theorem vZ (p:Pm) (seed:Int) (ids:Sl) (l:List Int) (h:Heap) (hl:Rd h ids 1 aA l) (hsz:l.length≤2^30):ab Tryz.prog wQ #[kl p,.int .u32 seed,.slice ids.ptr ids.len ids.cap] h fun v h'=>∃r:Sl,v=.slice r.ptr r.len r.cap∧Sp h h' [fA aP r 1 aC (fS p seed l)]:=by
 refine vn p seed ids ?_
 unfold oE
 refine(Sp.refl h).boxed fun a h1 H1=>?_
 refine⟨p,(H1.box 0 rfl).aH _ rfl,(BO p h1).mono ?_⟩
 rintro v h2 ⟨r,rfl,R2⟩
 have H2:=H1.comp R2
 refine⟨r,rfl,?_⟩
 have hlen:=hl.len
 let at_:Nat→List (List UInt8):=fun k=>fS p seed (l.take k)
 have h0:(if bF p then cE p.1.toNat p.2.1.toNat else[])=at_ 0:=by simp[at_,fS]
 rw[h0]at H2
 refine au (fun t:Sl×Nat=>(t.1,(t.2:Int))) (fun t h'=>t.2≤l.length∧Sp h h' [an a aS [.int .i64 p.1,.int .i64 p.2.1,.int .i64 p.2.2],fA aP t.1 1 aC (at_ t.2)]) (fun t=>l.length-t.2) (r,0) rfl ⟨by simp,H2⟩ ?_
 rintro⟨s,k⟩ h3 ⟨hk,H3⟩
 dsimp only at*
 refine aj (fun e=>?_) (fun e=>?_)
 ·have hk':k<l.length:=by omega
  refine(Seq.up hl H3.ah).cm k rfl hk' _ rfl ?_
  refine⟨p,(H3.box 0 rfl).aH _ rfl,(Kl p seed l[k] h3).mono ?_⟩
  rintro v h4 ⟨w,rfl,R4,hnil⟩
  have H4:=(H3.comp R4).freeze 2 rfl (fun _=>rfl)
  refine⟨w,rfl,?_⟩
  have hat:(at_ k).length≤4+k∨at_ k=[]:=by
   by_cases hp:bF p
   ·left
    have:=(bH p).1 hp
    have h1:=List.length_filter_le bV (l.take k)
    have h2:=List.length_take_le k l
    simp only[at_,fS,hp,if_true,List.length_append,List.length_map,cE,List.length_range]
    omega
   ·right;simp[at_,fS,hp]
  have hat':(at_ k).length+1≤2^32:=by
   rcases hat with h|h
   ·omega
   ·rw[h];simp
  dsimp only
  refine aY (fun e2=>?_) (fun e2=>?_)
  ·rw[hnil]at e2
   have hok:(bF p&&bV l[k])=true:=by simpa using e2
   rw[hok,if_pos rfl]at H4
   refine H4.zi ag 1 2 (by decide) rfl rfl im hat' fun s' h5 H5=>?_
   refine⟨(s',k+1),by dsimp only;rw[wrap_small _ (by omega) (by omega)];rfl,⟨by dsimp only;omega,?_⟩,by dsimp only;omega⟩
   rw[Bool.and_eq_true]at hok
   have e7:at_ (k+1)=at_ k++[zn (cI p).toNat seed l[k]]:=by
    simp only[at_,fS,hok.1,if_true]
    rw[np hk',if_pos hok.2,List.map_append,List.append_assoc];rfl
   dsimp only
   rw[e7];exact H5.del 2
  ·rw[hnil]at e2
   have hok:(bF p&&bV l[k])=false:=by
    cases hh:(bF p&&bV l[k])with
    |false=>rfl
    |true=>rw[hh]at e2;cases e2
   refine⟨(s,k+1),by dsimp only;rw[wrap_small _ (by omega) (by omega)];rfl,⟨by dsimp only;omega,?_⟩,by dsimp only;omega⟩
   have e7:at_ (k+1)=at_ k:=by
    simp only[at_,fS]
    rw[Bool.and_eq_false_iff]at hok
    rcases hok with h|h
    ·simp[h]
    ·have hf:(l.take (k+1)).filter bV=(l.take k).filter bV:=by rw[np hk',if_neg (by simp[h])]
     rw[hf]
   dsimp only
   rw[e7];exact H4.del 2
 ·refine⟨s,rfl,?_⟩
  have e7:at_ k=fS p seed l:=by simp only[at_];rw[List.take_of_length_le (by omega)]
  rw[e7]at H3
  exact H3.take 1 (fun i A hi=>by cases i with|zero=>exact hi|succ i=>simp at hi)
theorem nS (a:Sl) (m:bm) (n:Nat) (h:Heap) (ha:eJ h a 1 aC m) (hm:aZ n m) (hn:n≤64) (hs:m.length≤2^30):ab Tryz.prog GI #[.slice a.ptr a.len a.cap] h fun v h'=>v=.bool true∧h'=h:=by
 refine ED a ?_
 unfold AL
 have hl:=ha.len
 refine au (fun k:Nat=>(k:Int)) (fun k h'=>h'=h∧k≤m.length) (fun k=>m.length-k) 0 rfl ⟨rfl,by omega⟩ ?_
 rintro k h' ⟨rfl,hk⟩
 refine aj (fun e=>?_) (fun e=>⟨rfl,rfl⟩)
 have hk':k<m.length:=by omega
 refine ha.get k rfl hk' fun r hr=>?_
 refine ha.get 0 rfl (by omega) fun r0 hr0=>?_
 have h1:=hr.len;have h2:=hr0.len
 rw[hm _ (List.getElem_mem _)]at h1 h2
 refine cg (fun e=>by omega) fun _=>aj (fun e=>by omega) fun _=>?_
 exact⟨k+1,by rw[wrap_small _ (by omega) (by omega)];rfl,⟨rfl,by omega⟩,by omega⟩
theorem uG (a:Sl) (m:bm) (n:Nat) (h:Heap) (ha:eJ h a 1 aC m) (hm:aZ n m) (hn:n≤64) (hs:m.length≤2^30):ab Tryz.prog GJ #[.slice a.ptr a.len a.cap] h fun v h'=>∃(r:Sl) (rs:List Sl),v=.slice r.ptr r.len r.cap∧rs.length=m.length∧Sp h h' (ak aP r 1 b9 rs::bu aB 1 aC rs m):=by
 refine EE a ?_
 unfold AM
 have hl:=ha.len
 refine(Sp.refl h).make ag b9 im (by decide) ⟨none,0,0⟩ rfl rfl 0 m.length rfl (by omega) (by omega) (by omega) fun s h1 hsl hc H1=>?_
 refine au (fun t:Sl×List Sl=>(t.1,(t.2.length:Int))) (fun t h'=>t.2.length≤m.length∧Sp h h' (ak aP t.1 1 b9 t.2::bu aB 1 aC t.2 (m.take t.2.length))) (fun t=>m.length-t.2.length) (s,[]) rfl ⟨by simp,by simpa[bu]using H1⟩ ?_
 rintro⟨s,rs⟩ h2 ⟨hk,H2⟩
 dsimp only at*
 refine aj (fun e=>?_) (fun e=>?_)
 ·have hk':rs.length<m.length:=by omega
  refine(ha.up H2.ah).get rs.length rfl hk' fun r hr=>?_
  have hrl:m[rs.length].length=n:=hm _ (List.getElem_mem _)
  refine(iG r _ h2 hr (by omega)).mono ?_
  rintro v h3 ⟨w,rfl,R3⟩
  have H3:=H2.comp R3
  refine⟨w,rfl,?_⟩
  refine H3.push ag 0 rfl im rfl (by decide) (fun _=>rfl) nh w rfl (by decide) (by omega) fun s' h4 H4=>?_
  refine⟨(s',rs++[w]),by dsimp only;rw[wrap_small _ (by omega) (by omega)];simp,⟨by simp;omega,?_⟩,by simp;omega⟩
  dsimp only
  rw[show(rs++[w]).length=rs.length+1 by simp,aJ _ _ hk',ni (by rw[List.length_take];omega)]
  exact H4
 ·have e2:m.take rs.length=m:=List.take_of_length_le (by omega)
  rw[e2]at H2
  exact⟨s,rs,rfl,by omega,H2⟩
theorem qq (a:Sl) (m:bm) (h:Heap) (ha:eJ h a 1 aC m):ab Tryz.prog Dd #[.slice a.ptr a.len a.cap] h fun v h'=>v=.int .i64 (fT m)∧h'=h:=by
 refine BC a ?_
 unfold vS
 have hl:=ha.len
 refine dt (fun e=>?_) (fun e=>?_)
 ·have:m=[]:=List.eq_nil_of_length_eq_zero (by omega)
  subst this
  exact⟨rfl,rfl⟩
 ·refine ha.get 0 rfl (by omega) fun r hr=>⟨?_,rfl⟩
  rw[hr.len,fT,cO (by omega)]
theorem DD {r:Row} {c:Nat} (h:c<r.length):bf r c=r[c]:=by rw[bf,List.getD_eq_getElem?_getD,List.getElem?_eq_getElem h];rfl
theorem E2 (a:Sl) (m:bm) (n top bg:Nat) (h:Heap) (ha:eJ h a 1 aC m) (hm:aZ n m) (hc:bg<n) (hs:m.length≤2^30):
  ab Tryz.prog BI #[.slice a.ptr a.len a.cap,.int .i64 top,.int .i64 bg] h fun v h'=>v=.int .i64 (match fh m top bg with|some i=>(i:Int)|none=>-1)∧h'=h:=by
 refine z8 a top bg ?_
 unfold um
 have hl:=ha.len
 refine au (fun k:Nat=>(k:Int)) (fun k h'=>h'=h∧top≤k∧k≤max top m.length∧∀j,j<k→(decide (top≤j)&&(bf (aN m j) bg !=0))=false) (fun k=>m.length-k) top rfl ⟨rfl,by omega,by omega,fun j hj=>by rw[decide_eq_false (by omega)];rfl⟩ ?_
 rintro k h' ⟨rfl,hk1,hk2,hj⟩
 refine aj (fun e=>?_) (fun e=>?_)
 ·rw[fh,Gi (fun j hj'=>hj j (by omega))];exact⟨rfl,rfl⟩
 ·have hk':k<m.length:=by omega
  have hrl:m[k].length=n:=hm _ (List.getElem_mem _)
  refine ha.get k rfl hk' fun r hr=>?_
  refine hr.cm bg rfl (by omega) _ rfl ?_
  have hcell:bf (aN m k) bg=m[k][bg]'(by omega):=by rw[cO hk',DD (by omega)]
  refine cg (fun e2=>?_) (fun e2=>?_)
  ·have hne:(decide (top≤k)&&(bf (aN m k) bg !=0))=true:=by
    rw[decide_eq_true hk1,hcell];simp;exact fun h0=>e2 (by rw[h0];rfl)
   rw[fh,Gj hk' hj hne];exact⟨rfl,rfl⟩
  ·refine⟨k+1,by rw[wrap_small _ (by omega) (by omega)];rfl,⟨rfl,by omega,by omega,fun j hj'=>?_⟩,by omega⟩
   rcases Nat.lt_succ_iff_lt_or_eq.1 hj' with h1|rfl
   ·exact hj j h1
   ·rw[hcell,uF.1 e2];simp
theorem GX (f:Addr) (c:UInt8) (a:Sl) (l:Row) (h:Heap) (hf:gX h f) (ha:Rd h a 1 aC l) (hs:l.length≤2^30):ab Tryz.prog Dk #[.pointer (some f),.int .u8 c.toNat,.slice a.ptr a.len a.cap] h fun v h'=>∃r:Sl,v=.slice r.ptr r.len r.cap∧Sp h h' [ak aB r 1 aC (scaleB c l)]:=by
 refine BJ (some f) _ a ?_
 unfold vV
 have hl:=ha.len
 refine(BM f h).mono ?_
 rintro v h1 ⟨rfl,rfl⟩
 refine⟨some f,rfl,?_⟩
 refine(Sp.refl h1).make ag aC gG (by decide) 0 rfl rfl l.length l.length (by omega) (by omega) (Nat.le_refl _) (by omega) fun s h2 hsl hc H2=>?_
 refine au (fun k:Nat=>(k:Int)) (fun k h'=>k≤l.length∧Sp h1 h' [ak aB s 1 aC ((l.take k).map (Gf.mul c)++List.replicate (l.length-k) 0)]) (fun k=>l.length-k) 0 rfl ⟨by omega,by simpa using H2⟩ ?_
 rintro k h3 ⟨hk,H3⟩
 refine aj (fun e=>?_) (fun e=>?_)
 ·have hk':k<l.length:=by omega
  refine(Seq.up ha H3.ah).cm k rfl hk' _ rfl ?_
  refine(DC f c l[k] h3 (hf.ah H3.ah hf.lt)).mono ?_
  rintro v h4 ⟨rfl,rfl⟩
  refine⟨_,rfl,?_⟩
  refine H3.set ag 0 rfl (fun _=>rfl) rfl k rfl (by simp;omega) _ rfl rfl rfl fun h5 H5=>?_
  refine⟨k+1,by rw[wrap_small _ (by omega) (by omega)];rfl,⟨by omega,?_⟩,by omega⟩
  have hlk:((l.take k).map (Gf.mul c)).length=k:=by simp;omega
  have e2:((l.take k).map (Gf.mul c)++List.replicate (l.length-k) 0).set k (Gf.mul c l[k])=(l.take (k+1)).map (Gf.mul c)++List.replicate (l.length-(k+1)) 0:=by
   rw[List.set_append_right _ _ (by omega),hlk,Nat.sub_self,show l.length-k=l.length-(k+1)+1 by omega,List.replicate_succ,List.set_cons_zero,aJ _ _ hk',List.map_append,List.append_assoc];rfl
  rw[←e2];exact H5
 ·have:k=l.length:=by omega
  subst this
  refine⟨s,rfl,?_⟩
  rw[List.take_of_length_le (Nat.le_refl _),Nat.sub_self,List.replicate_zero,List.append_nil]at H3
  exact H3
theorem uH {c:UInt8} {a t:Row} (hat:a.length=t.length) {k:Nat} (hk:k<t.length):(List.zipWith (fun x y=>y^^^Gf.mul c x) (a.take k) (t.take k)++t.drop k).set k (t[k]^^^Gf.mul c (a[k]'(by omega)))=List.zipWith (fun x y=>y^^^Gf.mul c x) (a.take (k+1)) (t.take (k+1))++t.drop (k+1):=by
 have hl:(List.zipWith (fun x y=>y^^^Gf.mul c x) (a.take k) (t.take k)).length=k:=by simp;omega
 rw[List.set_append_right _ _ (by omega),hl,Nat.sub_self,List.drop_eq_getElem_cons hk,List.set_cons_zero,aJ _ _ hk,aJ _ _ (show k<a.length by omega),List.zipWith_append (by simp;omega)]
 simp
theorem Km (f:Addr) (c:UInt8) (a to:Sl) (la lt:Row) (h:Heap) (hf:gX h f) (hfo:¬to.on f.block) (ha:Seq h (fun b=>¬to.on b) a 1 aC la) (ht:Own h aB to 1 aC lt) (hat:la.length=lt.length) (hs:la.length≤2^30):
  ab Tryz.prog yz #[.pointer (some f),.int .u8 c.toNat,.slice a.ptr a.len a.cap,.slice to.ptr to.len to.cap] h fun v h'=>v=.tuple #[]∧Own h' aB to 1 aC (cY c la lt)∧aD (fun b=>¬to.on b) h h':=by
 refine EJ (some f) _ a to ?_
 unfold AO
 have hl:=ha.len;have htl:=ht.len
 refine dt (fun e=>?_) (fun _=>?_)
 ·have hc:c=0:=uF.1 e
  subst hc
  have:cY 0 la lt=lt:=by
   apply List.ext_getElem (by rw[bC hat])
   intro i h1 h2
   simp[cY,Gf.zero_mul]
  exact⟨rfl,by rw[this];exact ht,aD.refl _ _⟩
 ·refine au (fun k:Nat=>(k:Int)) (fun k h'=>k≤la.length∧Own h' aB to 1 aC (List.zipWith (fun x y=>y^^^Gf.mul c x) (la.take k) (lt.take k)++lt.drop k)∧aD (fun b=>¬to.on b) h h') (fun k=>la.length-k) 0 rfl ⟨by omega,by simpa using ht,aD.refl _ _⟩ ?_
  rintro k h1 ⟨hk,ho1,hp1⟩
  refine aj (fun e=>?_) (fun e=>?_)
  ·have hk':k<la.length:=by omega
   have hkt:k<lt.length:=by omega
   have hzl:(List.zipWith (fun x y=>y^^^Gf.mul c x) (la.take k) (lt.take k)).length=k:=by simp;omega
   have hll:(List.zipWith (fun x y=>y^^^Gf.mul c x) (la.take k) (lt.take k)++lt.drop k).length=lt.length:=by rw[List.length_append,hzl,List.length_drop];omega
   refine(ha.ah hp1).cm k rfl hk' _ rfl ?_
   have hval:(List.zipWith (fun x y=>y^^^Gf.mul c x) (la.take k) (lt.take k)++lt.drop k)[k]'(by omega)=lt[k]:=by
    rw[List.getElem_append_right (by omega)];simp[hzl]
   refine(ho1.seq (p:=fun _=>True) (fun _=>rfl) fun _ _=>trivial).Gc k rfl (by omega) _ rfl fun ax hax=>?_
   rw[hval]at hax⊢
   refine(DC f c la[k] h1 (hf.ah hp1 hfo)).mono ?_
   rintro v h2 ⟨rfl,rfl⟩
   refine⟨_,rfl,⟨hax,trivial⟩,?_⟩
   dsimp only
   rw[qo]
   refine ho1.set ag (fun _=>rfl) rfl k rfl (by omega) _ rfl rfl rfl fun h3 ho3 hp3 _=>⟨trivial,?_⟩
   refine⟨k+1,by rw[wrap_small _ (by omega) (by omega)];rfl,⟨by omega,?_,hp1.trans hp3⟩,by omega⟩
   rw[←uH hat hkt];exact ho3
  ·have:k=la.length:=by omega
   subst this
   rw[List.take_of_length_le (Nat.le_refl _),List.take_of_length_le (by omega),List.drop_of_length_le (by omega),List.append_nil]at ho1
   exact⟨rfl,ho1,hp1⟩
end Go.Proofs.YtdoiokchdaoonaaGreat
namespace Go.Proofs.YtdoiokchdaoonaaGreat
open Go Go.Vc Go.Proofs Wl
set_option maxRecDepth 100000
abbrev kN (a:Sl) (rs:List Sl) (m:bm):List HP:=ak aP a 1 b9 rs::bu aB 1 aC rs m
theorem qt {a:Sl} {rs:List Sl} {m:bm} (hl:rs.length=m.length) (i:Nat) (hi:i<m.length):(kN a rs m)[i+1]?=some (ak aB (rs[i]'(by omega)) 1 aC m[i]):=by
 rw[List.getElem?_cons_succ];exact gw hl i hi
theorem LO {h h':Heap} {a:Addr} {v:Value} (hc:cellOf h a=some v) (hp:aD (fun b=>b<h.size) h h'):cellOf h' a=some v:=hp.cell (mG hc) hc
theorem IY {B:aq} {h0:Heap} {f:Addr} (hf0:gX h0 f) (hfB:B f.block) {a:Sl} {n top bg:Nat} {rs:List Sl} {m:bm} (hl:rs.length=m.length) (hm:aZ n m) (hc:bg<n) (hn:n≤64) (ht:top<m.length) (hs:m.length≤2^30)
  {h:Heap} (H:aa B h0 h (kN a rs m)) {K:Heap→Prop} (hk:∀h',aa B h0 h' (kN a rs (cS top bg m m.length))→K h'):
 aK (σ:=Int) (fun s20 K4 h10=>
 Br (decide (s20<((a.len:Nat):Int)))
 (Br (s20 !=(top:Int))
 (∃a21:Addr,(a.ptr=some a21∧0≤s20∧s20<((a.len:Nat):Int))∧
 ∃x22:Sl,cellOf h10 (a21.add (s20.toNat*1))=some (.slice x22.ptr x22.len x22.cap)∧
 ∃a23:Addr,(x22.ptr=some a23∧0≤(bg:Int)∧(bg:Int)<((x22.len:Nat):Int))∧
 ∃x24:Int,cellOf h10 (a23.add ((bg:Int).toNat*1))=some (.int .u8 x24)∧
 ∃a25:Addr,(a.ptr=some a25∧0≤(top:Int)∧(top:Int)<((a.len:Nat):Int))∧
 ∃x26:Sl,cellOf h10 (a25.add ((top:Int).toNat*1))=some (.slice x26.ptr x26.len x26.cap)∧
 ∃a27:Addr,(a.ptr=some a27∧0≤s20∧s20<((a.len:Nat):Int))∧
 ∃x28:Sl,cellOf h10 (a27.add (s20.toNat*1))=some (.slice x28.ptr x28.len x28.cap)∧
 af Tryz.prog yz #[(.pointer (some f)),(.int .u8 x24),(.slice x26.ptr x26.len x26.cap),(.slice x28.ptr x28.len x28.cap)] (.many []) h10 fun _ h11=>
 (aw.ok [(a21.add (s20.toNat*1),(.slice x22.ptr x22.len x22.cap))] h11)∧
 K4 (IntKind.wrap .i64 (s20+(1:Int))) h11)
 (K4 (IntKind.wrap .i64 (s20+(1:Int))) h10))
 (K h10)) (0:Int) h:=by
 have hal:a.len=m.length:=by rw[(H.own 0 rfl).len,hl]
 refine au (fun k:Nat=>(k:Int)) (fun k h'=>k≤m.length∧aa B h0 h' (kN a rs (cS top bg m k))) (fun k=>m.length-k) 0 rfl ⟨by omega,by rw[HN];exact H⟩ ?_
 rintro k h1 ⟨hk1,H1⟩
 have hel:=j3 top bg m k
 have hle:rs.length=(cS top bg m k).length:=by rw[hel];exact hl
 refine aj (fun e=>?_) (fun e=>?_)
 ·have hk':k<m.length:=by omega
  refine cg (fun e2=>?_) (fun e2=>?_)
  ·have hkt:k≠top:=fun hh=>e2 (by rw[hh])
   have hrk:aN (cS top bg m k) k=aN m k:=by rw[lq hk',if_neg (by omega)]
   have hrt:aN (cS top bg m k) top=aN m top:=by rw[lq ht,if_neg (by omega)]
   have e4:(cS top bg m k)[k]'(by omega)=aN m k:=by rw[←hrk,cO]
   have e5:(cS top bg m k)[top]'(by omega)=aN m top:=by rw[←hrt,cO]
   have gk:=qt (a:=a) hle k (by omega)
   have gt:=qt (a:=a) hle top (by omega)
   rw[e4]at gk
   rw[e5]at gt
   have lk:=cu hm hk'
   have lt:=cu hm ht
   have hoff:=H1.off (k+1) 0 (by omega) gk rfl
   have hs1:=hoff.1.seq (fun _=>rfl) hoff.2
   refine hs1.oZ k rfl (by omega) fun a1 ha1 hb1=>?_
   have hrd:=H1.seq (k+1) gk (fun _=>rfl)
   refine hrd.cm bg rfl (by omega) _ rfl ?_
   refine hs1.oZ top rfl (by omega) fun _ _ _=>?_
   refine hs1.oZ k rfl (by omega) fun _ _ _=>?_
   have hrt2:(oY (rs[top]'(by omega)) 1 aC (aN m top)).p h1 (fun b=>¬(rs[k]'(by omega)).on b):=by
    have:=H1.off (k+1) (top+1) (by omega) gk gt
    exact(this.1.seq (fun _=>rfl) this.2).mono fun b hb=>hb.2
   refine(Km f _ _ _ (aN m top) (aN m k) h1 (hf0.ah H1.ah hfB) (H1.base (k+1) gk hfB) hrt2 (H1.own (k+1) gk) (by omega) (by omega)).mono ?_
   rintro v h2 ⟨rfl,ho2,hp2⟩
   have H2:=H1.iE (k+1) gk hp2 ho2
   have ha2:=hp2.cell hb1.2 ha1
   refine⟨(),rfl,⟨ha2,trivial⟩,?_⟩
   refine⟨k+1,by rw[wrap_small _ (by omega) (by omega)];rfl,⟨by omega,?_⟩,by omega⟩
   rw[HO hk' hkt]
   show aa B h0 h2 (ak aP a 1 b9 rs::bu aB 1 aC rs ((cS top bg m k).set k _))
   rw[←Cm hle k (by omega)]
   have hcol:(aN m k)[bg]'(by omega)=bf (aN m k) bg:=(DD (by omega)).symm
   rw[hcol]at H2
   exact H2
  ·have hkt:k=top:=by omega
   subst hkt
   exact⟨k+1,by rw[wrap_small _ (by omega) (by omega)];rfl,⟨by omega,by rw[HQ];exact H1⟩,by omega⟩
 ·have:k=m.length:=by omega
  subst this
  exact hk _ H1
theorem DE {rs:List Sl} {m:bm} (hl:rs.length=m.length) (i j:Nat) (hi:i<m.length) (hj:j<m.length):
  ((bu aB 1 aC rs m).set i (ak aB (rs[j]'(by omega)) 1 aC m[j])).set j (ak aB (rs[i]'(by omega)) 1 aC m[i])=bu aB 1 aC ((rs.set i (rs[j]'(by omega))).set j (rs[i]'(by omega))) (fB m i j):=by
 rw[jL hl,jL (by simpa using hl),fB,cO hi,cO hj]
theorem wa {B:aq} {h0:Heap} {f:Addr} (hf0:gX h0 f) (hfB:B f.block) {a:Sl} {n nv:Nat} {rs:List Sl} {m:bm} (hl:rs.length=m.length) (hm:aZ n m) (hc:nv≤n) (hn:n≤64) (hs:m.length≤2^30)
  {h:Heap} (H:aa B h0 h (kN a rs m)):ab Tryz.prog BD #[.pointer (some f),.slice a.ptr a.len a.cap,.int .i64 nv] h fun v h'=>
   ∃rs':List Sl,v=.int .i64 (bp m nv).1∧rs'.length=m.length∧aa B h0 h' (kN a rs' (bp m nv).2):=by
 have hal:a.len=m.length:=by rw[(H.own 0 rfl).len,hl]
 refine zX (some f) a nv ?_
 unfold ug
 refine au (fun t:List Sl×Nat=>(((bp m t.2).1:Int),(t.2:Int))) (fun t h'=>t.2≤nv∧t.1.length=m.length∧aa B h0 h' (kN a t.1 (bp m t.2).2)) (fun t=>nv-t.2) (rs,0) rfl ⟨by simp,hl,H⟩ ?_
 rintro⟨rs1,bg⟩ h1 ⟨hk,hl1,H1⟩
 dsimp only at*
 have hev:=gz hm bg
 have htop:=qO m bg
 obtain⟨st,hst⟩:∃st,st=bp m bg:=⟨_,rfl⟩
 rw[←hst]at hev htop H1⊢
 obtain⟨top,m1⟩:=st
 dsimp only at hev htop H1⊢
 have hlm:rs1.length=m1.length:=by omega
 have hstep:bp m (bg+1)=fC (top,m1) bg:=by rw[bp,←hst]
 refine aj (fun e=>?_) (fun e=>?_)
 ·have hcn:bg<n:=by omega
  have hrd2:eJ h1 a 1 aC m1:=H1.Fv hlm (fun _=>rfl)
  refine(E2 a m1 n top bg h1 hrd2 hev.1 hcn (by omega)).mono ?_
  rintro v h2 ⟨rfl,rfl⟩
  refine⟨_,rfl,?_⟩
  dsimp only
  cases hb:fh m1 top bg with
  |none=>
   refine aj (fun _=>?_) (fun e2=>absurd (by decide) e2)
   refine⟨(rs1,bg+1),?_,⟨by dsimp only;omega,hl1,?_⟩,by dsimp only;omega⟩
   ·dsimp only;rw[hstep,fC,hb,wrap_small _ (by omega) (by omega)];rfl
   ·dsimp only;rw[hstep,fC,hb];exact H1
  |some i=>
   have hh:=lI hb
   refine aj (fun e2=>absurd (show((i:Nat):Int)<0 from e2) (by omega)) (fun _=>?_)
   dsimp only
   have hti:top<m1.length:=by omega
   have hi:=hh.2.1
   have hsq:=H1.seq 0 rfl (fun _=>rfl)
   refine aR ?_
   refine hsq.oZ i rfl (by omega) fun _ _ _=>?_
   refine hsq.oZ top rfl (by omega) fun _ _ _=>?_
   refine H1.set ag 0 rfl (fun _=>rfl) rfl top rfl (by omega) (rs1[i]'(by omega)) rfl rfl rfl fun h3 H3=>⟨trivial,?_⟩
   refine H3.set ag 0 rfl (fun _=>rfl) rfl i rfl (by simp;omega) (rs1[top]'(by omega)) rfl rfl rfl fun h4 H4=>⟨trivial,?_⟩
   have H4':aa B h0 h4 (kN a ((rs1.set top (rs1[i]'(by omega))).set i (rs1[top]'(by omega))) (fB m1 top i)):=by
    have:=H4.MV (top+1) (i+1) (A:=ak aB (rs1[top]'(by omega)) 1 aC m1[top]) (A2:=ak aB (rs1[i]'(by omega)) 1 aC m1[i]) (gw hlm top hti) (gw hlm i hi)
    show aa B h0 h4 (ak aP a 1 b9 _::bu aB 1 aC _ _)
    rw[←DE hlm top i hti hi]
    exact this
   obtain⟨rs2,hrs2⟩:∃rs2,rs2=(rs1.set top (rs1[i]'(by omega))).set i (rs1[top]'(by omega)):=⟨_,rfl⟩
   rw[←hrs2]at H4'
   have hl2:rs2.length=m1.length:=by rw[hrs2];simp;omega
   obtain⟨m2,hm2⟩:∃m2,m2=fB m1 top i:=⟨_,rfl⟩
   have hev2:aZ n m2:=by rw[hm2];exact te hev.1 hti hi
   have hlm2:m2.length=m1.length:=by rw[hm2];exact hG _ _ _
   rw[←hm2]at H4'
   have hlr2:rs2.length=m2.length:=by omega
   have htm2:top<m2.length:=by omega
   refine aR ?_
   have gt:=qt (a:=a) hlr2 top htm2
   have lt:m2[top].length=n:=hev2 _ (List.getElem_mem _)
   have hs4:=H4'.seq 0 rfl (fun _=>rfl)
   refine hs4.oZ top rfl (by omega) fun a10 ha10 _=>?_
   have hrow:=H4'.seq (top+1) gt (fun _=>rfl)
   refine hrow.cm bg rfl (by omega) _ rfl ?_
   refine hs4.oZ top rfl (by omega) fun a14 ha14 _=>?_
   have hf4:gX h4 f:=hf0.ah H4'.ah hfB
   refine(Ki f _ h4 hf4).mono ?_
   rintro v h5 ⟨rfl,rfl⟩
   refine⟨_,rfl,⟨ha14,ha10,trivial⟩,?_⟩
   refine(GX f _ _ _ h5 hf4 hrow (by omega)).mono ?_
   rintro v h6 ⟨r,rfl,R6⟩
   refine⟨r,rfl,⟨LO ha10 R6.ah,trivial⟩,?_⟩
   have H6:=H4'.comp R6
   dsimp only
   refine H6.set ag 0 rfl (fun _=>rfl) rfl top rfl (by omega) r rfl rfl rfl fun h7 H7=>⟨trivial,?_⟩
   have hrt:m2[top]=aN m2 top:=(cO htm2).symm
   have hct:(m2[top])[bg]'(by omega)=bf (aN m2 top) bg:=by rw[DD (by rw[cO htm2];omega)];simp only[cO htm2]
   have H7':aa B h0 h7 (kN a (rs2.set top r) (fY top bg m2)):=by
    have h8:aa B h0 h7 ((ak aP a 1 b9 (rs2.set top r)::bu aB 1 aC rs2 m2)++[ak aB r 1 aC (scaleB (Gf.inv ((m2[top])[bg]'(by omega))) m2[top])]):=H7
    have h9:=h8.Mb (top+1) (by simp[Ea hlr2];omega)
    rw[hct,hrt]at h9
    show aa B h0 h7 (ak aP a 1 b9 _::bu aB 1 aC _ (m2.set top _))
    rw[←jL hlr2]
    exact h9
   have hlen3:(fY top bg m2).length=m2.length:=j1 _ _ _
   refine IY hf0 hfB (by simp;omega) (oy hev2 htm2) hcn hn (by omega) (by omega) H7' fun h8 H8=>?_
   have hsome:fC (top,m1) bg=(top+1,cS top bg (fY top bg m2) m1.length):=by
    rw[fC];dsimp only;rw[hb,hm2]
   refine⟨(rs2.set top r,bg+1),?_,⟨by dsimp only;omega,by simp;omega,?_⟩,by dsimp only;omega⟩
   ·dsimp only;rw[hstep,hsome,wrap_small _ (by omega) (by omega),wrap_small _ (by omega) (by omega)];rfl
   ·dsimp only;rw[hstep,hsome];rw[hlen3,hlm2]at H8;exact H8
 ·have:bg=nv:=by omega
  subst this
  exact⟨rs1,by rw[←hst],hl1,by rw[←hst];exact H1⟩
theorem E3 (f:Addr) (a:Sl) (m:bm) (n:Nat) (h:Heap) (hf:gX h f) (ha:eJ h a 1 aC m) (hm:aZ n m) (hn:n≤64) (hs:m.length≤2^30):
  ab Tryz.prog BG #[.pointer (some f),.slice a.ptr a.len a.cap] h fun v h'=>∃(r:Sl) (rs:List Sl),v=.slice r.ptr r.len r.cap∧r.len=dR m∧rs.length=m.length∧r.len≤m.length∧Sp h h' (kN ⟨r.ptr,m.length,r.cap⟩ rs (bp m (fT m)).2):=by
 refine z7 (some f) a ?_
 unfold uk
 refine(nS a m n h ha hm hn hs).mono ?_
 rintro v h1 ⟨rfl,rfl⟩
 refine⟨_,rfl,aY (fun e=>by cases e) fun _=>?_⟩
 refine(uG a m n h1 ha hm hn hs).mono ?_
 rintro v h2 ⟨r,rs,rfl,hl,R2⟩
 refine⟨r,rfl,(sj f h2).mono ?_⟩
 rintro v h3 ⟨rfl,rfl⟩
 refine⟨some f,rfl,(qq r m h3 (R2.Fv hl (fun _=>rfl))).mono ?_⟩
 rintro v h4 ⟨rfl,rfl⟩
 have hw:fT m≤n:=by
  cases m with
  |nil=>simp[fT,aN]
  |cons x t=>rw[fT,cO (by simp)];exact Nat.le_of_eq (hm _ (by simp))
 refine⟨_,rfl,(wa hf hf.lt hl hm hw hn hs R2).mono ?_⟩
 rintro v h5 ⟨rs',rfl,hl',R5⟩
 have htop:=qO m (fT m)
 rw[(gz hm _).2]at htop
 have hcap:=(R5.own 0 rfl).cap
 have hlen:=(R5.own 0 rfl).len
 refine⟨_,rfl,⟨Int.natCast_nonneg _,Int.ofNat_le.2 (show(bp m (fT m)).1≤r.cap by omega)⟩,⟨r.ptr,(bp m (fT m)).1,r.cap⟩,rs',by simp,rfl,hl',htop,?_⟩
 have:r=⟨r.ptr,m.length,r.cap⟩:=by
  obtain⟨p,l,c⟩:=r
  simp only at hlen⊢
  rw[←hl',←hlen]
 rw[←this];exact R5
theorem IZ (f:Addr) (a:Sl) (m:bm) (n:Nat) (h:Heap) (hf:gX h f) (ha:eJ h a 1 aC m) (hm:aZ n m) (hn:n≤64) (hs:m.length≤2^30):
  ab Tryz.prog EB #[.pointer (some f),.slice a.ptr a.len a.cap] h fun v h'=>v=.int .i64 (dR m)∧Sp h h' []:=by
 refine Dc (some f) a ?_
 unfold ym
 refine(E3 f a m n h hf ha hm hn hs).mono ?_
 rintro v h1 ⟨r,rs,rfl,hr,_,_,R1⟩
 exact⟨r,rfl,by rw[hr],.zip R1.ah⟩
end Go.Proofs.YtdoiokchdaoonaaGreat
namespace Go.Proofs.YtdoiokchdaoonaaGreat
open Go Go.Vc Go.Proofs Wl
set_option maxRecDepth 100000
theorem xb (p:Pm) (seed:Int) (ids:Sl) (l:List Int) (h:Heap) (hl:Rd h ids 1 aA l) (hsz:l.length≤2^29):ab Tryz.prog zP #[kl p,.int .u32 seed,.slice ids.ptr ids.len ids.cap] h fun v h'=>v=.int .i64 (Gu p seed l)∧Sp h h' []:=by
 refine ye p seed ids ?_
 unfold rV
 refine(Sp.refl h).boxed fun a h1 H1=>?_
 refine⟨p,(H1.box 0 rfl).aH _ rfl,(rq h1).mono ?_⟩
 rintro v h2 ⟨f,rfl,R2⟩
 have H2:=H1.comp R2
 have hb:=H2.box 0 rfl
 refine⟨some f,rfl,⟨hb.cell0 rfl,hb.cell rfl,hb.cell rfl,trivial⟩,?_⟩
 refine(vZ p seed ids l h2 (Seq.up hl H2.ah) (by omega)).mono ?_
 rintro v h3 ⟨r,rfl,R3⟩
 have H3:=H2.comp R3
 refine⟨r,rfl,trivial,?_⟩
 have hml:=JT p seed l
 have hcp:(cI p).toNat≤64:=by
  unfold cI
  split
  ·rename_i hp;have:=(bH p).1 hp;omega
  ·omega
 refine(IZ f r _ _ h3 (H3.box 1 rfl) (H3.xt 2 rfl) (AA p seed l) hcp (by omega)).mono ?_
 rintro v h4 ⟨rfl,R4⟩
 exact⟨_,rfl,trivial,rfl,.zip (H3.comp R4).ah⟩
theorem I0 (p:Pm) (seed:Int) (ids:Sl) (l:List Int) (h:Heap) (hl:Rd h ids 1 aA l) (hsz:l.length≤2^29):ab Tryz.prog zI #[kl p,.int .u32 seed,.slice ids.ptr ids.len ids.cap] h fun v h'=>v=.bool (jX p seed l)∧Sp h h' []:=by
 refine xU p seed ids ?_
 unfold rN
 refine(Sp.refl h).boxed fun a h1 H1=>?_
 refine⟨p,(H1.box 0 rfl).aH _ rfl,(dp p h1).mono ?_⟩
 rintro v h2 ⟨rfl,R2⟩
 have H2:=H1.comp R2
 refine⟨_,rfl,trivial,bw (fun e=>?_) (fun e=>⟨trivial,trivial,by rw[jX,e];rfl,.zip H2.ah⟩)⟩
 have hb:=H2.box 0 rfl
 refine⟨p,hb.aH _ rfl,p,hb.aH _ rfl,(xb p seed ids l h2 (Seq.up hl H2.ah) hsz).mono ?_⟩
 rintro v h3 ⟨rfl,R3⟩
 have H3:=H2.comp R3
 have hb3:=H3.box 0 rfl
 refine⟨_,rfl,⟨hb3.cell0 rfl,hb3.cell rfl,hb3.cell rfl,trivial⟩,(jZ p h3).mono ?_⟩
 rintro v h4 ⟨rfl,R4⟩
 exact⟨_,rfl,trivial,by rw[jX,e];rfl,.zip (H3.comp R4).ah⟩
theorem ru (p:Pm) (seed:Int) (h:Heap):ab Tryz.prog xO #[kl p,.int .u32 seed] h fun v h'=>v=.bool (jX p seed (dw p))∧Sp h h' []:=by
 refine wJ p seed ?_
 unfold pK
 refine(Sp.refl h).boxed fun a h1 H1=>?_
 have hb:=H1.box 0 rfl
 refine⟨p,hb.aH _ rfl,p,hb.aH _ rfl,(yR p h1).mono ?_⟩
 rintro v h2 ⟨r,rfl,R2⟩
 have H2:=H1.comp R2
 have hb2:=H2.box 0 rfl
 refine⟨r,rfl,⟨hb2.cell0 rfl,hb2.cell rfl,hb2.cell rfl,trivial⟩,(I0 p seed r _ h2 (H2.seq 1 rfl (fun _=>rfl)) (by rw[gy];omega)).mono ?_⟩
 rintro v h3 ⟨rfl,R3⟩
 exact⟨_,rfl,trivial,rfl,.zip (H2.comp R3).ah⟩
end Go.Proofs.YtdoiokchdaoonaaGreat
namespace Go.Proofs.YtdoiokchdaoonaaGreat
open Go Go.Vc Go.Proofs Wl
set_option maxRecDepth 100000
theorem Kn (p:Pm) (o b:Int) (h:Heap):ab Tryz.prog C2 #[kl p,.int .i64 o,.int .i64 b] h fun v h'=>
  v=.tuple #[.int .i64 (((kL p o b).getD 0:Nat):Int),.bool (kL p o b).isSome]∧Sp h h' []:=by
 refine Bt p o b ?_
 unfold vN
 refine(Sp.refl h).boxed fun a1 h1 H1=>?_
 have H1:Sp h h1 [an a1 aS [.int .i64 p.1,.int .i64 p.2.1,.int .i64 p.2.2]]:=H1
 refine au (fun i:Nat=>(i:Int)) (fun i h'=>i≤16∧(∀k,k<i→yP p o b k=false)∧Sp h h' [an a1 aS [.int .i64 p.1,.int .i64 p.2.1,.int .i64 p.2.2]]) (fun i=>16-i) 0 rfl ⟨by omega,fun k hk=>absurd hk (Nat.not_lt_zero k),H1⟩ ?_
 rintro i h2 ⟨hi,hno,H2⟩
 refine aj (fun e=>?_) fun e=>?_
 ·have hi':i<16:=by omega
  have hb2:=H2.box 0 rfl
  refine⟨p,hb2.aH _ rfl,(mT _ _ _ h2).mono ?_⟩
  rintro _ h3 ⟨rfl,rfl⟩
  refine⟨_,rfl,⟨hb2.cell0 rfl,hb2.cell rfl,hb2.cell rfl,trivial⟩,(ru p _ h3).mono ?_⟩
  rintro _ h4 ⟨rfl,R4⟩
  have H4:=H2.up R4.ah
  refine⟨_,rfl,trivial,bw (fun g=>?_) fun g=>?_⟩
  ·have ht:kL p o b=some i:=by
    unfold kL
    refine List.find?_eq_some_iff_append.2 ⟨g,List.range i,(List.range (15-i)).map (·+(i+1)),?_,fun k hk=>?_⟩
    ·apply List.ext_getElem?
     intro j
     by_cases hj:j<i
     ·rw[List.getElem?_append_left (by simpa using hj),List.getElem?_range (by omega),List.getElem?_range hj]
     ·rw[List.getElem?_append_right (by simp;omega),List.length_range]
      by_cases hji:j=i
      ·subst hji;rw[Nat.sub_self,List.getElem?_range (by omega)];rfl
      ·obtain⟨d,hd⟩:∃d,j=i+(d+1):=⟨j-i-1,by omega⟩
       subst hd
       rw[Nat.add_sub_cancel_left,List.getElem?_cons_succ,List.getElem?_map]
       by_cases h16:d<15-i
       ·rw[List.getElem?_range h16,List.getElem?_range (by omega)];simp;omega
       ·rw[List.getElem?_eq_none (by simp;omega),List.getElem?_eq_none (by simp;omega)];rfl
    ·rw[hno k (List.mem_range.1 hk)];rfl
   rw[ht]
   exact⟨rfl,.zip H4.ah⟩
  ·refine⟨i+1,by rw[Go.Vc.wrap_small _ (by omega) (by omega)];rfl,⟨by omega,fun k hk=>?_,H4⟩,by omega⟩
   by_cases hki:k<i
   ·exact hno k hki
   ·have:k=i:=by omega
    subst this;exact g
 ·have ht:kL p o b=none:=by
   unfold kL
   rw[List.find?_eq_none]
   intro k hk
   rw[hno k (by have:=List.mem_range.1 hk;omega)];simp
  rw[ht]
  exact⟨rfl,.zip H2.ah⟩
theorem GY (p:Pm) (o:Int) (n:Nat) (h:Heap) (hn:n≤2^30):ab Tryz.prog zC #[kl p,.int .i64 o,.int .i64 n] h fun v h'=>
  (bW p o n=none→v=.tuple #[.slice none 0 0,.bool false]∧Sp h h' [])∧
  (∀l,bW p o n=some l→∃r:Sl,v=.tuple #[.slice r.ptr r.len r.cap,.bool true]∧Sp h h' [ak aF r 1 aA l]):=by
 refine xQ p o n ?_
 unfold rJ
 refine(Sp.refl h).boxed fun a1 h1 H1=>?_
 have H1:Sp h h1 [ak aF ⟨none,0,0⟩ 1 aA [],an a1 aS [.int .i64 p.1,.int .i64 p.2.1,.int .i64 p.2.2]]:=(H1.nil aF 1 aA).cN [1,0]
 refine au (fun t:Sl×Nat×List Int=>(t.1,(t.2.1:Int))) (fun t h'=>t.2.1≤n∧bW p o t.2.1=some t.2.2∧Sp h h' [ak aF t.1 1 aA t.2.2,an a1 aS [.int .i64 p.1,.int .i64 p.2.1,.int .i64 p.2.2]]) (fun t=>n-t.2.1) (⟨none,0,0⟩,0,[]) rfl ⟨by simp,rfl,H1⟩ ?_
 rintro⟨s,i,l⟩ h2 ⟨hi,hl,H2⟩
 dsimp only at*
 have hll:=fa hl
 have fail:∀j,kL p o i=none→j≤n-(i+1)→bW p o (i+1+j)=none:=fun j hno=>by
  induction j with
  |zero=>intro _;show bW p o (i+1)=none;unfold bW;rw[hl,hno];rfl
  |succ j ih=>intro hj;show bW p o ((i+1+j)+1)=none;unfold bW;rw[ih (by omega)];rfl
 refine aj (fun e=>?_) fun e=>?_
 ·have hi':i<n:=by omega
  refine⟨p,(H2.box 1 rfl).aH _ rfl,(Kn p o i h2).mono ?_⟩
  rintro _ h3 ⟨rfl,R3⟩
  have H3:=H2.up R3.ah
  refine⟨(_,_),rfl,aY (fun g=>?_) fun g=>?_⟩
  ·have hnone:bW p o n=none:=by
    have:=fail (n-(i+1)) (Option.isSome_eq_false_iff.1 g|>Option.isNone_iff_eq_none.1) (Nat.le_refl _)
    rw[show i+1+(n-(i+1))=n by omega]at this;exact this
   rw[hnone]
   exact⟨fun _=>⟨rfl,.zip H3.ah⟩,fun l h=>by cases h⟩
  ·obtain⟨t,ht⟩:∃t,kL p o i=some t:=Option.isSome_iff_exists.1 g
   rw[ht]
   refine H3.push ag 0 rfl kH rfl (by decide) (fun _=>rfl) iD (t:Int) rfl (by decide) (by omega) fun s' h5 H5=>?_
   refine⟨(s',i+1,l++[(t:Int)]),by dsimp only;rw[Go.Vc.wrap_small _ (by omega) (by omega)];rfl,⟨by dsimp only;omega,?_,H5⟩,by dsimp only;omega⟩
   show bW p o (i+1)=_
   unfold bW;rw[hl,ht];rfl
 ·have hin:i=n:=by omega
  subst hin
  rw[hl]
  exact⟨fun h=>(by cases h),fun l' h=>(by injection h with h;subst h;exact⟨s,rfl,H2.cN [0]⟩)⟩
end Go.Proofs.YtdoiokchdaoonaaGreat
namespace Wl
open Go
def kO (m:aE) (l:List (List UInt8)):List (List UInt8):=(fE m l).map dm
def ga (m:aE) (l:List (List UInt8)):List (List UInt8):=aV m++kO m l
def ee (d:bo) (there:Nat) (n:Int):Bool:=decide (max n 0≤(d.room:Int)-there)
def jw (m:aE) (d:bo) (n:Int):Bool:=!d.lost&&(ee d d.l.length n||ee d (ga m d.l).length n)
def fl (m:aE) (w:Pow) (d:bo) (n:Int):Int×Pow×bo:=
 if d.lost then(5,w,d)else if !jw m d n then(7,w,d)else if ee d d.l.length n then(0,w,d)else d.rewrite w (ga m d.l)
theorem Ko (l:List dc):(o0 l).length≤l.length:=by
 unfold o0
 rw[List.length_map]
 exact Nat.le_trans (List.length_filter_le _ _) (by simp)
theorem oO (m:aE) (l:List (List UInt8)):(fE m l).length≤l.length:=by
 unfold fE
 refine Nat.le_trans (Ko _) ?_
 rw[List.length_mergeSort]
 exact List.length_filterMap_le _ _
theorem rv (m:aE) (l:List (List UInt8)):(kO m l).length≤l.length:=by unfold kO;rw[List.length_map];exact oO m l
end Wl
namespace Go.Proofs.YtdoiokchdaoonaaGreat
open Go Go.Vc Go.Proofs Wl
set_option maxRecDepth 100000
section
variable {B:aq} {h0 h:Heap} {As:List HP} {a pw:Addr} {d:bo} {w:Pow}
theorem dj.rewrite {l:List (List UInt8)} (h:dj d):dj (d.rewrite w l).2.2:=by
 unfold bo.rewrite
 split
 ·exact h
 ·rename_i hc
  split
  ·exact h
  ·split
   ·exact h
   ·rename_i hr
    have hall:∀c∈l,c.length=64:=by simpa using hc
    split
    ·exact h
    ·split
     ·exact⟨Nat.zero_le _,by dsimp only;omega,h.room,hall,Nat.zero_le _,by simp⟩
     ·exact⟨h.wait,h.len,h.room,h.cell,by dsimp only;omega,hall⟩
theorem DF (x:Sl) (l:List (List UInt8)) (H:aa B h0 h (je pw a d::cT bj pw w::As)) (hS:St B h0 As fun h=>eJ h x 1 aC l) (hl:l.length≤2^20) (hcl:∀c∈l,c.length≤2^20):
  ab Tryz.prog pk #[.pointer (some a),.slice x.ptr x.len x.cap] h fun v h'=>v=.int .i64 (d.rewrite w l).1∧aa B h0 h' (je pw a (d.rewrite w l).2.2::cT bj pw (d.rewrite w l).2.1::As):=by
 refine oo (some a) x ?_
 unfold kj
 have hx:=hS.at [_,_] H
 have hxl:=hx.len
 have okr:=dj.rewrite (w:=w) (l:=l) (And.left (id H).lL)
 have same:∀(e:Int),d.rewrite w l=(e,w,d)→(Value.int .i64 e=.int .i64 (d.rewrite w l).1∧aa B h0 h (je pw a (d.rewrite w l).2.2::cT bj pw (d.rewrite w l).2.1::As)):=fun e he=>by
  rw[he];exact⟨rfl,H⟩
 refine au (fun i:Nat=>(i:Int)) (fun i h'=>i≤l.length∧(∀c∈l.take i,c.length=64)∧h'=h) (fun i=>l.length-i) 0 rfl ⟨by omega,by simp,rfl⟩ ?_
 rintro i h1 ⟨hi,hall,rfl⟩
 refine aj (fun e=>?_) fun e=>?_
 ·have hi':i<l.length:=by omega
  refine hx.get i rfl hi' fun r hr=>?_
  have hrl:=hr.len
  refine cg (fun e2=>same 1 ?_) fun e2=>?_
  ·unfold bo.rewrite
   rw[if_pos]
   rw[Bool.not_eq_true',List.all_eq_false]
   exact⟨l[i],List.getElem_mem hi',by simp;omega⟩
  ·refine⟨i+1,by rw[Go.Vc.wrap_small _ (by omega) (by omega)];rfl,⟨by omega,fun c hc=>?_,rfl⟩,by omega⟩
   rw[aJ _ _ hi']at hc
   rcases List.mem_append.1 hc with hc|hc
   ·exact hall c hc
   ·rw[List.mem_singleton.1 hc];omega
 have hall:∀c∈l,c.length=64:=by rw[List.take_of_length_le (by omega)]at hall;exact hall
 have hallb:(!l.all fun b=>decide (b.length=64))=false:=by
  rw[Bool.not_eq_false',List.all_eq_true]
  exact fun c hc=>decide_eq_true (hall c hc)
 have er:d.rewrite w l=(if d.lost then(5,w,d)else if d.room<l.length then(7,w,d)else if w.off then(14,w,d)else if w.step.1 then(0,w.step.2,{d with l:=l,wait:=0,laid:=[],has:=false})else(14,w.step.2,{d with laid:=l,has:=true})):=by
  unfold bo.rewrite;rw[hallb];rfl
 obtain⟨ok,s,b,H1⟩:=H.lL
 have hb:=H1.box 0 rfl
 refine aR (aR (bw (fun e=>by cases e) fun _=>⟨a,rfl,d.lost,hb.cell rfl,bw (fun e=>same 5 (by rw[er,if_pos e])) fun elost=>?_⟩))
 refine⟨a,rfl,(d.room:Int),hb.cell rfl,aj (fun e=>same 7 (by rw[er,if_neg (by simp[elost]),if_pos (by omega)])) fun eroom=>?_⟩
 obtain⟨lw,hlw,H1p⟩:=(H1.bc 4 [3,0,1,2]).qh
 refine⟨a,rfl,some pw,hb.cell0 rfl,(vg lw (H1p.box 0 rfl)).mono ?_⟩
 rintro _ h2 ⟨rfl,rfl⟩
 refine⟨_,rfl,aY (fun e=>same 14 ?_) fun eoff=>?_⟩
 ·rw[er,if_neg (by simp[elost]),if_neg (by omega),if_pos (by simpa using e)]
 have eoff':w.off=false:=by simpa using eoff
 have er2:d.rewrite w l=(if w.step.1 then(0,w.step.2,{d with l:=l,wait:=0,laid:=[],has:=false})else(14,w.step.2,{d with laid:=l,has:=true})):=by
  rw[er,if_neg (by simp[elost]),if_neg (by omega),if_neg (by simp[eoff'])]
 refine⟨a,rfl,some pw,hb.cell0 rfl,(uv (H1.bc 4 [3,0,1,2])).mono ?_⟩
 rintro _ h5 ⟨rfl,H5⟩
 have hx5:=hS.at [_,_,_,_] H5
 refine⟨_,rfl,aY (fun e=>?_) fun e=>?_⟩
 ·rw[er2,if_neg (by simp[e])]at okr⊢
  refine(w5 x l h5 hx5 hl hcl).mono ?_
  rintro _ h6 ⟨r,rfl,R6⟩
  have H6:=(H5.cj R6).bc 5 [2,3,0,1]
  refine⟨r,rfl,a,rfl,H6.store ag 0 rfl rfl 4 [.slice r.ptr r.len r.cap] rfl rfl rfl (by simp[eE]) fun h7 H7=>?_⟩
  refine⟨a,rfl,H7.store ag 0 rfl rfl 5 [.bool true] rfl rfl rfl (by simp[eE]) fun h8 H8=>⟨rfl,?_⟩⟩
  exact aa.uw (s:=s) (b:=r) okr H8
 ·rw[er2,if_pos e]at okr⊢
  refine(w5 x l h5 hx5 hl hcl).mono ?_
  rintro _ h6 ⟨r,rfl,R6⟩
  have H6:=(H5.cj R6).bc 5 [2,0,4,1]
  refine⟨r,rfl,a,rfl,H6.store ag 0 rfl rfl 2 [.slice r.ptr r.len r.cap] rfl rfl rfl (by simp[eE]) fun h7 H7=>?_⟩
  refine⟨a,rfl,H7.store ag 0 rfl rfl 3 [.int .i64 0] rfl rfl rfl (by simp[eE]) fun h8 H8=>?_⟩
  refine(ux (d:={d with l:=l,wait:=0}) r b _ H8 ⟨Nat.zero_le _,by dsimp only;omega,ok.room,hall,ok.laid,ok.cellL⟩ rfl).mono ?_
  rintro _ h9 ⟨rfl,H9⟩
  exact⟨0,rfl,rfl,H9⟩
theorem pv (s b:Sl) (there:Nat) (n:Int) (hb:bI h a bG (eE pw d s b)) (hr:d.room≤512) (ht:there≤2^40):ab Tryz.prog zT #[.pointer (some a),.int .i64 there,.int .i64 n] h fun v h'=>v=.bool (ee d there n)∧h'=h:=by
 refine yl (some a) there n ?_
 unfold rY
 refine(IB s b hb).mono ?_
 rintro _ _ ⟨rfl,rfl⟩
 refine⟨_,rfl,?_,rfl⟩
 rw[Go.Vc.wrap_small ((d.room:Int)-there) (by omega) (by omega)]
 unfold ee
 congr 1
 rw[decide_eq_decide]
 split<;>omega
theorem GZ (s b:Sl) (x:bK) (m:aE) (hb:bI h a bG (eE pw d s b)) (hl:eJ h s 1 aC d.l) (ok:dj d) (hx:dG h x m) (hz:ct m):
  ab Tryz.prog BF #[.pointer (some a),dX x] h fun v h'=>∃r:Sl,v=.slice r.ptr r.len r.cap∧Sp h h' [cU r (kO m d.l)]:=by
 refine z6 (some a) x ?_
 unfold uj
 have hlen:=ok.len;have hroom:=ok.room
 refine(Sp.refl h).boxed fun a1 h1 H1=>?_
 refine⟨x,(H1.box 0 rfl).aH _ rfl,(uC a pw d s b x m h1 (hb.ah H1.ah hb.lt) (hl.up H1.ah) ok (hx.up H1.ah) hz).mono ?_⟩
 rintro _ h2 ⟨r,ys,rfl,R2⟩
 have H2:=(H1.cj R2).tc aP aB 1 aC
 refine⟨r,rfl,?_⟩
 have hrl:=oO m d.l
 obtain⟨L,hL⟩:∃L,L=fE m d.l:=⟨_,rfl⟩
 have hcp:(kO m d.l)=L.map dm:=by unfold kO;rw[hL]
 rw[←hL]at H2 hrl
 rw[hcp]
 have F2:=H2.fX 1 rfl
 have hyl:=F2.2.1
 have hrlen:=F2.1.len
 refine au (fun t:Sl×Nat=>(t.1,(t.2:Int))) (fun t h'=>t.2≤L.length∧Sp h h' [cU t.1 ((L.map dm).take t.2),cK dd 8 bh r ys L]) (fun t=>L.length-t.2) (⟨none,0,0⟩,0) rfl ⟨by simp,H2.cN [0,1]⟩ ?_
 rintro⟨o,i⟩ h3 ⟨hi,H3⟩
 dsimp only at*
 have F3:=H3.fX 1 rfl
 refine aj (fun e=>?_) (fun e=>?_)
 ·have hi':i<L.length:=by omega
  refine F3.1.eS (g:=bh) i rfl (by omega) (ys[i]'(by omega)) rfl ?_
  refine H3.alloc ag rfl fun a7 h4 H4=>?_
  refine H4.storeAll ag 2 rfl rfl (bh (ys[i]'(by omega))) rfl rfl rfl rfl fun h5 H5=>?_
  have H5:Sp h h5 [cU o ((L.map dm).take i),cK dd 8 bh r ys L,an a7 aG (bh (ys[i]'(by omega)))]:=H5
  refine⟨ys[i]'(by omega),(H5.box 2 rfl).aH _ rfl,(po _ L[i] h5 (Fix.row (H5.fX 1 rfl) hi')).mono ?_⟩
  rintro _ h6 ⟨u,rfl,R6⟩
  have H6:=(H5.cj R6).bc 3 [1,0,2]
  refine⟨u,rfl,H6.uZ ag im (by simp;omega) fun o' h8 H8=>?_⟩
  refine⟨(o',i+1),by dsimp only;rw[Go.Vc.wrap_small _ (by omega) (by omega)];rfl,⟨by dsimp only;omega,?_⟩,by dsimp only;omega⟩
  dsimp only
  rw[aJ _ _ (show i<(L.map dm).length by simp;omega),List.getElem_map]
  exact H8.cN [0,1]
 ·rw[List.take_of_length_le (by simp;omega)]at H3
  exact⟨o,rfl,H3.cN [0]⟩
end
end Go.Proofs.YtdoiokchdaoonaaGreat
namespace Go.Proofs.YtdoiokchdaoonaaGreat
open Go Go.Vc Go.Proofs Wl
set_option maxRecDepth 100000
section
variable {B:aq} {h0 h:Heap} {As:List HP} {a pw:Addr} {d:bo} {w:Pow}
theorem E4 {m:aE} {l:List (List UInt8)} {c:List UInt8} (h:c∈kO m l):c.length≤64:=by
 unfold kO at h
 obtain⟨r,_,rfl⟩:=List.mem_map.1 h
 unfold dm
 split
 ·rename_i hm
  refine Nat.le_of_eq (jN (by decide) (by decide) ?_)
  have:=lT hm
  omega
 ·simp
theorem AY (s b:Sl) (x:bK) (m:aE) (hb:bI h a bG (eE pw d s b)) (hl:eJ h s 1 aC d.l) (ok:dj d) (hx:dG h x m) (hz:ct m):
  ab Tryz.prog Db #[.pointer (some a),dX x] h fun v h'=>∃r:Sl,v=.slice r.ptr r.len r.cap∧Sp h h' [cU r (ga m d.l)]:=by
 refine BB (some a) x ?_
 unfold vR
 have hlen:=ok.len;have hroom:=ok.room
 refine(Sp.refl h).boxed fun a1 h1 H1=>?_
 have H1:Sp h h1 [an a1 ao (aL x)]:=H1
 refine⟨x,(H1.box 0 rfl).aH _ rfl,x,(H1.box 0 rfl).aH _ rfl,(kI x m h1 (hx.up H1.ah) hz).mono ?_⟩
 rintro _ h2 ⟨r,rfl,R2⟩
 have H2:=H1.cj R2
 have hb2:=H2.box 1 rfl
 refine⟨r,rfl,⟨hb2.cell0 rfl,hb2.cell rfl,hb2.cell rfl,hb2.cell rfl,hb2.cell rfl,hb2.cell rfl,hb2.cell rfl,hb2.cell rfl,trivial⟩,(GZ s b x m (hb.ah H2.ah hb.lt) (hl.up H2.ah) ok (hx.up H2.ah) hz).mono ?_⟩
 rintro _ h3 ⟨u,rfl,R3⟩
 have H3:=(H2.cj R3).bc 2 [1,0]
 have hsl:=hJ m hz
 have hcl:=rv m d.l
 refine⟨u,rfl,trivial,H3.Lz ag im ⟨_,_,rfl,rfl⟩ (by omega) fun s' h4 H4=>?_⟩
 exact⟨trivial,s',rfl,H4.cN [0]⟩
theorem AZ (s b:Sl) (x:bK) (m:aE) (n:Int) (hb:bI h a bG (eE pw d s b)) (hl:eJ h s 1 aC d.l) (hsl:s.len=d.l.length) (ok:dj d) (hx:dG h x m) (hz:ct m):
  ab Tryz.prog ub #[.pointer (some a),dX x,.int .i64 n] h fun v h'=>v=.bool (jw m d n)∧Sp h h' []:=by
 refine rT (some a) x n ?_
 unfold pd
 have hlen:=ok.len;have hroom:=ok.room
 refine(Sp.refl h).boxed fun a1 h1 H1=>?_
 have H1:Sp h h1 [an a1 ao (aL x)]:=H1
 have hb1:=hb.ah H1.ah hb.lt
 refine aR (bw (fun e=>by cases e) fun _=>(uy s b hb1).mono ?_)
 rintro _ _ ⟨rfl,rfl⟩
 refine⟨_,rfl,bw (fun e=>⟨by unfold jw;rw[e];rfl,.zip H1.ah⟩) fun e=>?_⟩
 have ef:jw m d n=(ee d d.l.length n||ee d (ga m d.l).length n):=by unfold jw;rw[e];rfl
 refine(AS s b hb1 hsl).mono ?_
 rintro _ _ ⟨rfl,rfl⟩
 refine⟨_,rfl,(pv s b d.l.length n hb1 ok.room (by omega)).mono ?_⟩
 rintro _ _ ⟨rfl,rfl⟩
 refine⟨_,rfl,bw (fun e2=>⟨by rw[ef,e2];rfl,.zip H1.ah⟩) fun e2=>?_⟩
 refine⟨x,(H1.box 0 rfl).aH _ rfl,(AY s b x m hb1 (hl.up H1.ah) ok (hx.up H1.ah) hz).mono ?_⟩
 rintro _ h2 ⟨r,rfl,R2⟩
 have hrl:=(aa.qI R2).1
 have hkl:(ga m d.l).length≤4000:=by
  have:=hJ m hz
  have:=rv m d.l
  unfold ga;rw[List.length_append];omega
 have H2:=H1.cj R2
 refine⟨r,rfl,(pv s b r.len n (hb1.ah R2.ah hb1.lt) ok.room (by omega)).mono ?_⟩
 rintro _ _ ⟨rfl,rfl⟩
 exact⟨_,rfl,by rw[ef,e2,Bool.false_or,hrl],.zip H2.ah⟩
theorem DG (x:bK) (n:Int) (h:Heap):ab Tryz.prog ub #[.pointer none,dX x,.int .i64 n] h fun v h'=>v=.bool false∧Sp h h' []:=by
 refine rT none x n ?_
 unfold pd
 refine(Sp.refl h).boxed fun a1 h1 H1=>?_
 exact aR (bw (fun _=>⟨rfl,.zip H1.ah⟩) fun e=>by cases e)
theorem I1 (x:bK) (m:aE) (n:Int) (hS:St B h0 As fun h=>dG h x m) (hz:ct m) (H:aa B h0 h (je pw a d::cT bj pw w::As)):
  ab Tryz.prog uc #[.pointer (some a),dX x,.int .i64 n] h fun v h'=>v=.int .i64 (fl m w d n).1∧aa B h0 h' (je pw a (fl m w d n).2.2::cT bj pw (fl m w d n).2.1::As):=by
 refine rU (some a) x n ?_
 unfold pe
 refine(Sp.refl h).boxed fun a1 h1 R1=>?_
 have R1:Sp h h1 [an a1 ao (aL x)]:=R1
 have H1:=(H.cj R1).bc 3 [1,2,0]
 have same:∀(e:Int) {h':Heap},aD (fun b=>b<h1.size) h1 h'→fl m w d n=(e,w,d)→(Value.int .i64 e=.int .i64 (fl m w d n).1∧aa B h0 h' (je pw a (fl m w d n).2.2::cT bj pw (fl m w d n).2.1::As)):=fun e {h'} hp he=>by
  rw[he];exact⟨rfl,((H1.up hp).bc 3 [0,1])⟩
 obtain⟨ok,s,b,H1o⟩:=(id H1).lL
 have hb:=H1o.box 0 rfl
 have hl:eJ h1 s 1 aC d.l:=(H1o.bc 2 [1]).xx fun _=>rfl
 have hsl:=(aa.qI (H1o.bc 2 [1])).1
 have hlen:=ok.len;have hroom:=ok.room
 refine aR (aR (bw (fun e=>by cases e) fun _=>(uy s b hb).mono ?_))
 rintro _ _ ⟨rfl,rfl⟩
 refine⟨_,rfl,bw (fun e=>same 5 (aD.refl _ _) (by unfold fl;rw[if_pos e])) fun e=>?_⟩
 refine⟨x,(H1.box 2 rfl).aH _ rfl,(AZ s b x m n hb hl hsl ok (hS.at [_,_,_] H1) hz).mono ?_⟩
 rintro _ h2 ⟨rfl,R2⟩
 have H2o:=H1o.up R2.ah
 have hb2:=hb.ah R2.ah hb.lt
 have H2:=H1.up R2.ah
 refine⟨_,rfl,aY (fun e2=>same 7 R2.ah (by unfold fl;rw[if_neg (by simp[e]),if_pos (by simp[e2])])) fun e2=>?_⟩
 refine(AS s b hb2 hsl).mono ?_
 rintro _ _ ⟨rfl,rfl⟩
 refine⟨_,rfl,(pv s b d.l.length n hb2 ok.room (by omega)).mono ?_⟩
 rintro _ _ ⟨rfl,rfl⟩
 refine⟨_,rfl,bw (fun e3=>same 0 R2.ah (by unfold fl;rw[if_neg (by simp[e]),if_neg (by simp[e2]),if_pos e3])) fun e3=>?_⟩
 have em:fl m w d n=d.rewrite w (ga m d.l):=by unfold fl;rw[if_neg (by simp[e]),if_neg (by simp[e2]),if_neg (by simp[e3])]
 rw[em]
 have hkl:(ga m d.l).length≤4000:=by
  have:=hJ m hz
  have:=rv m d.l
  unfold ga;rw[List.length_append];omega
 have hkc:∀c∈ga m d.l,c.length≤64:=fun c hc=>by
  unfold ga at hc
  rcases List.mem_append.1 hc with hc|hc
  ·exact Nat.le_of_eq (qQ hc)
  ·exact E4 hc
 refine⟨x,(H2.box 2 rfl).aH _ rfl,(AY s b x m hb2 ((H2o.bc 2 [1]).xx fun _=>rfl) ok (hS.at [_,_,_] H2) hz).mono ?_⟩
 rintro _ h3 ⟨r,rfl,R3⟩
 obtain⟨rs,H3⟩:=(H2.cj R3).Kd fun _=>rfl
 have H3:=H3.bc 4 [1,2,0]
 refine⟨r,rfl,(DF r (ga m d.l) H3 (St.gI 0 rfl fun h' hq=>?_) (by omega) fun c hc=>Nat.le_trans (hkc c hc) (by decide)).mono ?_⟩
 ·exact⟨rs,hq.1,hq.2.1,hq.2.2⟩
 rintro _ h4 ⟨rfl,H4⟩
 exact⟨_,rfl,rfl,H4.bc 3 [0,1]⟩
end
end Go.Proofs.YtdoiokchdaoonaaGreat
namespace Go.Proofs.YtdoiokchdaoonaaGreat
open Go Go.Vc Go.Proofs Wl
section
set_option maxRecDepth 20000
variable {B:aq} {h0 h:Heap} {As:List HP} {a pw b:Addr} {x:bK} {offs:Int} {da:List (Option Addr)} {w:Pow} {ds:aX} {d:bo}
theorem aa.Kp (n:Nat) (hn:n<64) (hd:ds[n]?=some none) (H:aa B h0 h (aU bn a pw (aL x) offs da w ds::je pw b d::As)) {K:Unit→Heap→Prop}
  (hk:∀h',aa B h0 h' (aU bn a pw (aL x) offs (da.set n (some b)) w (ds.set n (some d))::As)→K () h'):
  ae Tryz.prog (Instr.storeAt vl (.pointer (some ((a.add 10).add n))) (.pointer (some b))) h K:=by
 obtain⟨ok,H1⟩:=Go.Vc.aa.nP H
 have he:(a.add 10).add n=a.add (10+n):=by unfold Addr.add;simp[Nat.add_assoc]
 rw[he]
 refine H1.storeAt ag 0 rfl rfl rfl rfl rfl (by simp[ok.la];omega) fun h' H2=>hk h' ?_
 rw[List.set_cons_zero,IS ok.l8]at H2
 exact aa.LN ok hn hd H2
end
end Go.Proofs.YtdoiokchdaoonaaGreat
namespace Wl
open Go
theorem na (ds:aX) (n:Nat) (d:bo) (s:Int) (hn:n<64) (hl:ds.length=64):bQ (gx ds (n:Int) d) s=if s=(n:Int)then some d else bQ ds s:=by
 unfold bQ gx
 rw[Int.toNat_natCast]
 by_cases h:0≤s∧s<64
 ·rw[if_pos h,if_pos h,List.getElem?_set]
  by_cases hs:s=(n:Int)
  ·subst hs
   rw[if_pos rfl,Int.toNat_natCast,if_pos rfl,if_pos (by omega)];rfl
  ·rw[if_neg hs,if_neg (by omega)]
 ·rw[if_neg h,if_neg h,if_neg (by omega)]
theorem hY {ds:aX} {s:Int} {d:bo} (h:bQ ds s=some d):∃n:Nat,s=(n:Int)∧n<64:=by
 unfold bQ at h
 by_cases hs:0≤s∧s<64
 ·exact⟨s.toNat,by omega,by omega⟩
 ·rw[if_neg hs]at h;cases h
structure Fit (ds:aX) (S Q:List Int):Prop where
 len:ds.length=64
 at_:∀s∈S,∃d,bQ ds s=some d∧d.lost=false∧d.l.length+Q.count s≤d.room
theorem E5 {d:bo} {n:Nat} (w:Pow) (b:List UInt8) (h1:d.lost=false) (h2:d.l.length+(n+1)≤d.room) (hb:b.length=64):
  ((d.append w b).1=0∨(d.append w b).1=14)∧(d.append w b).2.2.lost=false∧(d.append w b).2.2.l.length+n≤(d.append w b).2.2.room:=by
 unfold bo.append
 rw[if_neg (by omega),if_neg (by simp[h1]),if_neg (by omega)]
 by_cases ho:w.off
 ·rw[if_pos ho];exact⟨.inr rfl,h1,by dsimp only;omega⟩
 ·rw[if_neg ho]
  by_cases hs:w.step.1
  ·rw[if_pos hs];exact⟨.inl rfl,h1,by simp;omega⟩
  ·rw[if_neg hs];exact⟨.inr rfl,h1,by simp;omega⟩
theorem I2 {d:bo} (w:Pow) (h1:d.lost=false):((d.sync w).1=0∨(d.sync w).1=14)∧(d.sync w).2.2.lost=false∧(d.sync w).2.2.l=d.l∧(d.sync w).2.2.room=d.room:=by
 unfold bo.sync
 rw[if_neg (by simp[h1])]
 by_cases hs:w.step.1
 ·rw[if_pos hs];exact⟨.inl rfl,h1,rfl,rfl⟩
 ·rw[if_neg hs];exact⟨.inr rfl,h1,rfl,rfl⟩
theorem BP {ds:aX} {S Q:List Int} {x:Int} (w:Pow) (b:List UInt8) (F:Fit ds S (x::Q)) (hx:x∈S) (hb:b.length=64):
  ((cR w ds x b).1=0∨(cR w ds x b).1=14)∧Fit (cR w ds x b).2.2 S Q:=by
 obtain⟨d,hd,h1,h2⟩:=F.at_ x hx
 rw[List.count_cons_self]at h2
 obtain⟨n,rfl,hn⟩:=hY hd
 have A:=E5 w b h1 (n:=Q.count (n:Int)) (by omega) hb
 have e:cR w ds (n:Int) b=((d.append w b).1,(d.append w b).2.1,gx ds (n:Int) (d.append w b).2.2):=by unfold cR;rw[hd]
 rw[e]
 refine⟨A.1,by unfold gx;rw[List.length_set];exact F.len,fun s hs=>?_⟩
 rw[na _ _ _ _ hn F.len]
 by_cases hsn:s=(n:Int)
 ·subst hsn
  rw[if_pos rfl]
  exact⟨_,rfl,A.2⟩
 ·rw[if_neg hsn]
  obtain⟨d',g,g1,g2⟩:=F.at_ s hs
  rw[List.count_cons_of_ne (fun h=>hsn h.symm)]at g2
  exact⟨d',g,g1,g2⟩
theorem E6 {ds:aX} {S:List Int} {x:Int} (w:Pow) (F:Fit ds S []) (hx:x∈S):((dL w ds x).1=0∨(dL w ds x).1=14)∧Fit (dL w ds x).2.2 S []:=by
 obtain⟨d,hd,h1,h2⟩:=F.at_ x hx
 obtain⟨n,rfl,hn⟩:=hY hd
 obtain⟨A1,A2,A3,A4⟩:=I2 w h1
 have e:dL w ds (n:Int)=((d.sync w).1,(d.sync w).2.1,gx ds (n:Int) (d.sync w).2.2):=by unfold dL;rw[hd]
 rw[e]
 refine⟨A1,by unfold gx;rw[List.length_set];exact F.len,fun s hs=>?_⟩
 rw[na _ _ _ _ hn F.len]
 by_cases hsn:s=(n:Int)
 ·subst hsn
  rw[if_pos rfl]
  exact⟨_,rfl,A2,by rw[A3,A4];exact h2⟩
 ·rw[if_neg hsn];exact F.at_ s hs
end Wl
namespace Go.Vc
open Go Wl Go.Proofs.YtdoiokchdaoonaaGreat
theorem Ag (l:List Int) (k:Nat):(aO l k).Nodup:=by
 unfold aO
 refine List.Pairwise.filter _ (List.pairwise_map.2 ?_)
 exact(List.nodup_range (n:=k)).imp fun h=>by omega
end Go.Vc
namespace Go.Vc
open Go Wl Go.Proofs.YtdoiokchdaoonaaGreat
theorem G0 {l:List Int} (h:(de l).2=true):(de l).1=aO l l.length∧l.length≤64∧∀n:Nat,l.getD n 0≤512:=by
 unfold de at h⊢
 by_cases ha:l.all (cZ · 0 512)=true
 ·rw[if_pos ha]at h⊢
  refine⟨rfl,by simp at h;exact h.1,fun n=>?_⟩
  rw[List.getD_eq_getElem?_getD]
  by_cases hn:n<l.length
  ·rw[List.getElem?_eq_getElem hn]
   have:=List.all_eq_true.1 ha _ (List.getElem_mem hn)
   unfold cZ at this;simp at this⊢;omega
  ·rw[List.getElem?_eq_none (by omega)];simp
 ·rw[if_neg ha]at h;cases h
theorem DH (l:List Int) (i n:Nat) (hi:i<(aO l l.length).length) (hn:(aO l l.length)[i]=(n:Int)) (h64:n<64):(ea l i)[n]?=some none:=by
 unfold ea
 rw[List.getElem?_map,List.getElem?_range h64,Option.map_some,if_neg]
 intro hc
 obtain⟨j,hj,hj2⟩:=List.mem_take_iff_getElem.1 hc
 have:=sZ (Ag l l.length) (a:=j) (b:=i) (by omega) hi (by rw[hj2,hn])
 omega
theorem px (m:aE):∀S:List Int,(bs m S).length=S.length*(aV m).length
 |[]=>by simp[bs]
 |n::S=>by
  have e:bs m (n::S)=(aV m).map (fun c=>(n,c))++bs m S:=by unfold bs;rw[List.flatMap_cons]
  rw[e,List.length_append,List.length_map,px m S,List.length_cons,Nat.succ_mul,Nat.add_comm]
theorem ry (p:Pm) (extra:Int) (l:List Int) (hl:l.length≤64):ct (bJ p extra l):=⟨by have:=kK l l.length;simp[bJ];omega,by simp[bJ],by simp[bJ]⟩
end Go.Vc
namespace Go.Proofs.YtdoiokchdaoonaaGreat
open Go Go.Vc Go.Proofs Wl
section
set_option maxRecDepth 20000
variable {B:aq} {h0 h:Heap} {As:List HP} {pw:Addr} {w:Pow}
theorem wb (p:Pm) (extra:Int) (s:Sl) (l:List Int) (hS:St B h0 As fun h=>Rd h s 1 aA l) (hl:l.length≤2^20) (H:aa B h0 h (cT bj pw w::As)):
  ab Tryz.prog xM #[kl p,.int .i64 extra,.pointer (some pw),.slice s.ptr s.len s.cap] h fun v h'=>
   ((df p extra w l).1≠0→v=.tuple #[.pointer none,.int .i64 (df p extra w l).1]∧aa B h0 h' As)∧
   ((df p extra w l).1=0→∃(a:Addr) (x:bK) (da:List (Option Addr)),v=.tuple #[.pointer (some a),.int .i64 0]∧aa B h0 h' (aU bn a pw (aL x) w.offs da (df p extra w l).2.1 (df p extra w l).2.2::cM x (bJ p extra l)::As)):=by
 refine wI p extra (some pw) s ?_
 unfold pJ
 refine H.boxed fun a1 h1 H1=>?_
 have H1:=H1.cF
 refine(jI s l h1 (hS.at [_,_] H1) hl).mono ?_
 rintro _ h2 ⟨r,rfl,R2⟩
 have H2:=H1.cj R2
 refine⟨(r,(de l).2),rfl,?_⟩
 have bad:∀{h':Heap},aa B h0 h' As→((de l).2&&(bF p&&cZ extra 0 16))=false→
   ((df p extra w l).1≠0→Value.tuple #[.pointer none,.int .i64 1]=.tuple #[.pointer none,.int .i64 (df p extra w l).1]∧aa B h0 h' As)∧
   ((df p extra w l).1=0→∃(a:Addr) (x:bK) (da:List (Option Addr)),Value.tuple #[.pointer none,.int .i64 1]=.tuple #[.pointer (some a),.int .i64 0]∧aa B h0 h' (aU bn a pw (aL x) w.offs da (df p extra w l).2.1 (df p extra w l).2.2::cM x (bJ p extra l)::As)):=fun{h'} H' hc=>by
  have e:df p extra w l=(1,w,[]):=by unfold df;rw[hc];rfl
  rw[e]
  exact⟨fun _=>⟨rfl,H'⟩,fun h=>absurd h (show¬(1:Int)=0 by decide)⟩
 refine aR (aY (fun e=>bad H2.rest.rest.rest (by rw[e];rfl)) fun e=>?_)
 have ep:(de l).2=true:=by simpa using e
 obtain⟨ep1,el64,el512⟩:=G0 ep
 refine⟨p,(H2.box 1 rfl).aH _ rfl,(dp p h2).mono ?_⟩
 rintro _ h3 ⟨rfl,R3⟩
 have H3:aa B h0 h3 (ak aF r 1 aA (de l).1::an a1 aS [.int .i64 p.1,.int .i64 p.2.1,.int .i64 p.2.2]::cT bj pw w::As):=by
  have:=H2.comp R3
  rw[List.append_nil]at this;exact this
 refine⟨_,rfl,aY (fun e2=>bad H3.rest.rest.rest (by rw[e2];simp)) fun e2=>?_⟩
 have em:bF p=true:=by simpa using e2
 refine aj (fun e3=>bad H3.rest.rest.rest (by unfold cZ;simp;omega)) fun e3=>aj (fun e4=>bad H3.rest.rest.rest (by unfold cZ;simp;omega)) fun e4=>bw (fun e5=>by cases e5) fun _=>?_
 rw[ep1]at H3
 refine aR ⟨p,(H3.box 1 rfl).aH _ rfl,?_⟩
 obtain⟨lw,hlw,H3p⟩:=(H3.bc 3 [2,1,0]).qh
 refine(AP lw (H3p.box 0 rfl)).mono ?_
 rintro _ h4 ⟨rfl,rfl⟩
 have hb3:=H3.box 1 rfl
 refine⟨_,rfl,⟨hb3.cell0 rfl,hb3.cell rfl,hb3.cell rfl,trivial⟩,?_⟩
 obtain⟨m,hm⟩:∃m,m=bJ p extra l:=⟨_,rfl⟩
 refine⟨_,IQ (1,0,p.1,p.2.1,p.2.2,extra,r,⟨none,0,0⟩) pw w.offs,?_⟩
 refine H3.boxed fun a9 h6 H6=>?_
 obtain⟨x,hx⟩:∃x:bK,x=(1,0,p.1,p.2.1,p.2.2,extra,r,⟨none,0,0⟩):=⟨_,rfl⟩
 rw[←hx]at H6
 have ecell:(Value.agg (cB (aL x) pw w.offs (List.replicate 64 none)).toArray).cells.toList=cB (aL x) pw w.offs (List.replicate 64 none):=by simp[Value.cells]
 rw[ecell]at H6
 have H6:=H6.cF
 have hb6:=H6.box 2 rfl
 refine⟨⟨hb6.cell0 rfl,hb6.cell rfl,hb6.cell rfl,trivial⟩,?_⟩
 have H6:aa B h0 h6 (an a9 eu (cB (aL x) pw w.offs (List.replicate 64 none))::cT bj pw w::ak aF r 1 aA (aO l l.length)::As):=H6.bc 4 [0,3,1]
 have H6:=aa.IP (k:=bn) (h8:=by simp) H6
 obtain⟨P,hP⟩:∃P,P=aO l l.length:=⟨_,rfl⟩
 rw[←hP]at H6
 have hz:ct m:=hm▸ry p extra l el64
 have hPl:P.length≤64:=by rw[hP];exact Nat.le_trans (kK _ _) el64
 have hmx:∀{h':Heap} {Bs:List HP} {X:HP},aa B h0 h' (X::ak aF r 1 aA P::Bs)→dG h' x m:=fun{h' Bs X} H'=>by
  have hs:=H'.seq 1 rfl fun _=>rfl
  have hc:=(H'.own 1 rfl).cap
  subst hx;subst hm
  exact⟨rfl,rfl,rfl,rfl,by show Seq _ _ r 1 aA (aO l l.length);rw[←hP];exact hs,cD.nil _ _ _ _,hc,Nat.le_refl _⟩
 have hok:((de l).2&&(bF p&&cZ extra 0 16))=true:=by
  rw[ep,em];unfold cZ;simp;omega
 have fokP:(P.any fun i=>decide (l.getD i.toNat 0<((aV m).length:Int)))=true→df p extra w l=(7,w,[]):=fun hh=>by
  unfold df;rw[if_pos hok,←hP,←hm,if_pos hh]
 have fokN:(P.any fun i=>decide (l.getD i.toNat 0<((aV m).length:Int)))=false→df p extra w l=layAll (bs m P) w (ea l P.length):=fun hh=>by
  unfold df;rw[if_pos hok,←hP,←hm,hh,if_neg (by decide)]
 have hat:∀i (hi:i<P.length),∃n:Nat,n<l.length∧P[i]=(n:Int)∧0<l.getD n 0:=by
  subst hP;exact fun i hi=>EW l l.length i hi
 refine au (fun i:Nat=>(i:Int)) (fun i h'=>i≤P.length∧((P.take i).any fun i=>decide (l.getD i.toNat 0<((aV m).length:Int)))=false∧aa B h0 h' (aU bn a9 pw (aL x) w.offs (List.replicate 64 none) w (List.replicate 64 none)::ak aF r 1 aA P::As)) (fun i=>P.length-i) 0 rfl ⟨by omega,by simp,H6⟩ ?_
 rintro i h7 ⟨hi,hall,H7⟩
 dsimp only at*
 obtain⟨okc,hb7⟩:=aa.cC H7
 have hrl:r.len=P.length:=(H7.own 1 rfl).len
 refine aj (fun e5=>?_) (fun e5=>?_)
 ·have hi':i<P.length:=by omega
  obtain⟨n,hn,en,hpos⟩:=hat i hi'
  refine(H7.seq 1 rfl fun _=>rfl).cm i rfl hi' (n:Int) (by rw[en];rfl) ?_
  refine(hS.at [_,_] H7).Gc n rfl hn (l.getD n 0) (by rw[getD_lt hn];rfl) fun a14 hc14=>?_
  refine⟨a9,rfl,x,hb7.aH _ (by rfl),(kI x m h7 (hmx H7) hz).mono ?_⟩
  rintro _ h9 ⟨u,rfl,R9⟩
  have H9:=H7.cj R9
  have hul:=(aa.qI H9).1
  refine⟨u,rfl,ov R9.ah ⟨hc14,trivial⟩,?_⟩
  refine aj (fun e6=>?_) (fun e6=>?_)
  ·rw[fokP (List.any_eq_true.2 ⟨P[i],List.getElem_mem hi',by rw[en,Int.toNat_natCast];exact decide_eq_true (by omega)⟩)]
   exact⟨fun _=>⟨rfl,H9.rest.rest.rest⟩,fun h=>absurd h (show¬(7:Int)=0 by decide)⟩
  ·refine⟨i+1,by rw[Go.Vc.wrap_small _ (by omega) (by omega)];rfl,⟨by omega,?_,H9.rest⟩,by omega⟩
   rw[aJ _ _ hi',List.any_append,hall,Bool.false_or,List.any_cons,List.any_nil,Bool.or_false,en,Int.toNat_natCast]
   exact decide_eq_false (by omega)
 ·have hPi:i=P.length:=by omega
  subst hPi
  rw[List.take_length]at hall
  have fok:=fokN hall
  rw[←DA l]at H7
  refine au (fun t:Nat×List (Option Addr)=>(t.1:Int)) (fun t h'=>t.1≤P.length∧aa B h0 h' (aU bn a9 pw (aL x) w.offs t.2 w (ea l t.1)::ak aF r 1 aA P::As)) (fun t=>P.length-t.1) (0,List.replicate 64 none) rfl ⟨by simp,H7⟩ ?_
  rintro⟨i,da⟩ h10 ⟨hi,H10⟩
  dsimp only at*
  obtain⟨okd,hb10⟩:=aa.cC H10
  refine aj (fun e6=>?_) (fun e6=>?_)
  ·have hi':i<P.length:=by omega
   obtain⟨n,hn,en,hpos⟩:=hat i hi'
   have h512:=el512 n
   refine(H10.seq 1 rfl fun _=>rfl).cm i rfl hi' (n:Int) (by rw[en];rfl) ?_
   refine(hS.at [_,_] H10).cm n rfl hn (l.getD n 0) (by rw[getD_lt hn];rfl) ?_
   refine⟨a9,rfl,(GM (l.getD n 0) pw h10).mono ?_⟩
   rintro _ h11 ⟨Q1,_⟩
   obtain⟨b,rfl,R11⟩:=Q1 (by omega)
   have H11:=(H10.cj R11).bc 2 [1,0]
   refine⟨_,rfl,trivial,⟨by omega,by omega⟩,?_⟩
   rw[Int.toNat_natCast,Nat.mul_one]
   have hiQ:i<(aO l l.length).length:=by rw[←hP];exact hi'
   have enQ:(aO l l.length)[i]=(n:Int):=by rw[←en];simp only[hP]
   refine Go.Proofs.YtdoiokchdaoonaaGreat.aa.Kp n (by omega) (DH l i n hiQ enQ (by omega)) H11 fun h12 H12=>?_
   refine⟨trivial,(i+1,da.set n (some b)),by dsimp only;rw[Go.Vc.wrap_small _ (by omega) (by omega)];rfl,⟨by dsimp only;omega,?_⟩,by dsimp only;omega⟩
   dsimp only
   rw[←DB l i n hiQ enQ (by omega)]
   exact H12
  ·have hPi:i=P.length:=by omega
   subst hPi
   refine⟨a9,rfl,x,hb10.aH _ (by rfl),(vX x m r P h10 (hmx H10) hz (H10.seq 1 rfl fun _=>rfl) (by omega)).mono ?_⟩
   rintro _ h13 ⟨u,ys,rfl,R13⟩
   have H13:=(H10.cj R13).bc 2 [1,0]
   refine⟨u,rfl,?_⟩
   have hspl:=hJ m hz
   refine(uB u ys (bs m P) (St.gI 0 rfl fun _ hq=>hq) ?_ ?_ H13).mono ?_
   ·rw[px]
    have:=Nat.mul_le_mul hPl hspl
    omega
   ·intro y hy
    obtain⟨hy1,hy2⟩:=iH hy
    obtain⟨i,hi,e⟩:=List.getElem_of_mem hy1
    obtain⟨n,hn,en,_⟩:=hat i hi
    rw[←e,en,hy2]
    exact⟨⟨by omega,by omega⟩,by decide⟩
   rintro _ h14 ⟨rfl,H14⟩
   rw[fok]
   refine⟨_,rfl,cg (fun e7=>⟨fun _=>⟨rfl,H14.rest.rest.rest⟩,fun h=>absurd h e7⟩) fun e7=>⟨fun h=>absurd e7 h,fun _=>⟨a9,x,da,rfl,?_⟩⟩⟩
   rw[←hm]
   exact H14.uY.gP 1 rfl fun q hq=>by
    subst hx;subst hm
    exact⟨rfl,rfl,rfl,rfl,by show Seq _ _ r 1 aA (aO l l.length);rw[←hP];exact hq.1.seq (fun _=>rfl) hq.2,cD.nil _ _ _ _,hq.1.cap,Nat.le_refl _⟩
end
end Go.Proofs.YtdoiokchdaoonaaGreat
namespace Wl
open Go
def jg (m:aE) (ds:aX) (k n:Int):Bool:=match bQ ds k with|some d=>jw m d n|none=>false
def eV (m:aE) (ds:aX) (l:List Int) (N:Int→Int):Bool:=l.all fun k=>jg m ds k (N k)
def fg (m:aE) (w:Pow) (ds:aX) (k n:Int):Int×Pow×aX:=
 match bQ ds k with
 |none=>(5,w,ds)
 |some d=>((fl m w d n).1,(fl m w d n).2.1,gx ds k (fl m w d n).2.2)
def makes (m:aE) (N:Int→Int):List Int→Pow→aX→Int×Pow×aX
 |[],w,ds=>(0,w,ds)
 |k::l,w,ds=>if(fg m w ds k (N k)).1=0 then makes m N l (fg m w ds k (N k)).2.1 (fg m w ds k (N k)).2.2 else fg m w ds k (N k)
end Wl
namespace Go.Proofs.YtdoiokchdaoonaaGreat
open Go Go.Vc Go.Proofs Wl
set_option maxRecDepth 100000
theorem I3 (f:FuncId) (pre post:Array Value) (P:Int→Bool) (s:Sl) (l:List Int) (h:Heap) (hf:C.fns[f]?=some true) (hs:Rd h s 1 aA l) (hl:l.length≤2^30)
  (hc:∀k∈l,∀h',Sp h h' []→ab Tryz.prog f (pre.toList++[Value.int .i64 k]++post.toList).toArray h' fun v h''=>v=.bool (P k)∧Sp h' h'' []):
  ab Tryz.prog gn #[.slice s.ptr s.len s.cap,.func (.func f) pre post] h fun v h'=>v=.bool (l.any P)∧Sp h h' []:=by
 refine gd s (f,pre,post) ?_
 unfold eC
 refine(gU s (f,pre,post) (R:=fun v h'=>(∃i:Int,v=.int .i64 i∧decide (i≥0)=l.any P)∧Sp h h' []) ?_).mono ?_
 ·unfold fu
  have hsl:=hs.len
  refine au (fun i:Nat=>(i:Int)) (fun i h'=>i≤l.length∧(l.take i).any P=false∧Sp h h' []) (fun i=>l.length-i) 0 rfl ⟨by omega,by simp,Sp.refl h⟩ ?_
  rintro i h1 ⟨hi,hall,H1⟩
  refine aj (fun e1=>?_) (fun e1=>?_)
  ·have hi':i<l.length:=by
    have e':(i:Int)<(s.len:Int):=e1
    omega
   refine(Seq.up hs H1.ah).cm i rfl hi' l[i] rfl (eI hf ?_)
   refine(hc l[i] (List.getElem_mem hi') h1 H1).mono ?_
   rintro _ h2 ⟨rfl,R2⟩
   have H2:=H1.up R2.ah
   refine⟨_,rfl,bw (fun e2=>⟨⟨i,rfl,?_⟩,H2⟩) (fun e2=>?_)⟩
   ·rw[List.any_eq_true.2 ⟨_,List.getElem_mem hi',e2⟩];exact decide_eq_true (by omega)
   ·refine⟨i+1,by rw[Go.Vc.wrap_small _ (by omega) (by omega)];rfl,⟨by omega,?_,H2⟩,by omega⟩
    rw[aJ _ _ hi',List.any_append,hall,List.any_cons,List.any_nil,e2];rfl
  ·have e':¬(i:Int)<(s.len:Int):=e1
   rw[List.take_of_length_le (by omega)]at hall
   exact⟨⟨-1,rfl,by rw[hall];rfl⟩,H1⟩
 ·rintro _ h1 ⟨⟨i,rfl,hi⟩,R1⟩
  exact⟨i,rfl,by rw[hi],R1⟩
section
variable {B:aq} {h0 h:Heap} {As:List HP} {a pw:Addr} {offs:Int} {da:List (Option Addr)} {w:Pow} {ds:aX}
def G1 (f:FuncId) (pre post:Array Value) (N:Int→Int) (l:List Int) (h:Heap):Prop:=∀k∈l,ab Tryz.prog f (pre.toList++[Value.int .i64 k]++post.toList).toArray h fun v h'=>v=.int .i64 (N k)∧Sp h h' []
theorem G2 (f:FuncId) (pre post:Array Value) (N:Int→Int) (x:bK) (m:aE) (s:Sl) (l:List Int) (hf:C.fns[f]?=some true) (hS:St B h0 As fun h=>dG h x m∧G1 f pre post N l h) (hz:ct m) (hs:Rd h s 1 aA l) (hl:l.length≤2^30) (hin:∀k∈l,0≤k∧k<64) (H:aa B h0 h (aU bn a pw (aL x) offs da w ds::As)):
  ab Tryz.prog ss #[.pointer (some a),.slice s.ptr s.len s.cap,.func (.func f) pre post] h fun v h'=>v=.bool (eV m ds l N)∧Sp h h' []:=by
 refine q9 (some a) s (f,pre,post) ?_
 unfold lZ
 refine(Sp.refl h).boxed fun a1 h1 R1=>R1.boxed fun a2 h2 R2=>?_
 have H2:aa B h0 h2 (aU bn a pw (aL x) offs da w ds::As):=H.up R2.ah
 have b1:bI h2 a1 vk [.pointer (some a)]:=R2.box 0 rfl
 have b2:=R2.box 1 rfl
 refine(I3 pW #[] #[.pointer (some a1),.pointer (some a2)] (fun k=>!jg m ds k (N k)) s l h2 (by rfl) (hs.up R2.ah) hl ?_).mono ?_
 ·intro k hk h3 R3
  have H3:=H2.up R3.ah
  have c1:=(b1.ah R3.ah b1.lt).cell0 rfl
  have c2:=(b2.ah R3.ah b2.lt).cell0 rfl
  obtain⟨ok,hb⟩:=aa.cC H3
  have hk64:=hin k hk
  refine pc k a1 a2 ?_
  unfold kC
  obtain⟨n,rfl⟩:∃n:Nat,k=n:=⟨k.toNat,by omega⟩
  have hn:n<da.length:=by rw[ok.la];omega
  have cd:cellOf h3 ((a.add 10).add ((n:Int).toNat*1))=some (.pointer da[n]):=by
   rw[Int.toNat_natCast,Nat.mul_one]
   refine hb.oJ 10 n ?_
   rw[oL ok.l8,List.getElem?_eq_getElem hn];rfl
  obtain⟨hx3,ht3⟩:=hS.at [_] H3
  refine⟨some a,c1,a,rfl,⟨by omega,by omega⟩,da[n],cd,some a,c1,a,rfl,x,hb.aH _ rfl,(f,pre,post),c2,eI hf ?_⟩
  refine(ht3 n hk).mono ?_
  rintro _ h4 ⟨rfl,R4⟩
  have H4:=H3.up R4.ah
  have c1':=((b1.ah R3.ah b1.lt).ah R4.ah (b1.ah R3.ah b1.lt).lt).cell0 rfl
  have hb4:=hb.ah R4.ah hb.lt
  have cd4:cellOf h4 ((a.add 10).add ((n:Int).toNat*1))=some (.pointer da[n]):=by
   rw[Int.toNat_natCast,Nat.mul_one]
   refine hb4.oJ 10 n ?_
   rw[oL ok.l8,List.getElem?_eq_getElem hn];rfl
  refine⟨_,rfl,⟨hb4.cell0 rfl,hb4.cell rfl,hb4.cell rfl,hb4.cell rfl,hb4.cell rfl,hb4.cell rfl,hb4.cell rfl,hb4.cell rfl,c1',cd4,c1',trivial⟩,?_⟩
  have hdn:j7 da (n:Int)=da[n]:=by unfold j7;rw[if_pos (by omega),Int.toNat_natCast,List.getElem?_eq_getElem hn];rfl
  rw[←hdn]
  have fin:∀{bb:Bool} {h5:Heap},bb=jg m ds n (N n)→Sp h4 h5 []→aw.ok [(a1,.pointer (some a)),(a1,.pointer (some a))] h5∧(Value.bool (!bb)=.bool (!jg m ds n (N n))∧Sp h3 h5 []):=fun{bb h5} he R5=>by
   have b4:=(b1.ah R3.ah b1.lt).ah R4.ah (b1.ah R3.ah b1.lt).lt
   have:=(b4.ah R5.ah b4.lt).cell0 rfl
   exact⟨⟨this,this,trivial⟩,by rw[he],.zip (aa.up R4 R5.ah).ah⟩
  rcases j8 ok (n:Int)with⟨e1,e2⟩|⟨n',d,b,e0,e1,e2,e3,e4,e5⟩
  ·rw[e2]
   refine(DG x _ h4).mono ?_
   rintro _ h5 ⟨rfl,R5⟩
   exact⟨_,rfl,fin (by unfold jg;rw[e1]) R5⟩
  ·rw[e5]
   obtain⟨b',hb',H5⟩:=Go.Vc.aa.jf H4 e2
   rw[e4]at hb'
   injection hb' with hb'
   injection hb' with hb'
   subst hb'
   obtain⟨okd,sd,bd,H6⟩:=aa.lL H5
   refine(AZ sd bd x m (N n) (H6.box 0 rfl) ((H6.bc 2 [1]).xx fun _=>rfl) (aa.qI (H6.bc 2 [1])).1 okd (hS.at [_] H4).1 hz).mono ?_
   rintro _ h5 ⟨rfl,R5⟩
   exact⟨_,rfl,fin (by unfold jg;rw[e3]) R5⟩
 ·rintro _ h3 ⟨rfl,R3⟩
  refine⟨_,rfl,?_,.zip (aa.up R2 R3.ah).ah⟩
  unfold eV
  rw[List.not_any_eq_all_not]
  simp
theorem DI (x:bK) (n:Int) (h:Heap):ab Tryz.prog uc #[.pointer none,dX x,.int .i64 n] h fun v h'=>v=.int .i64 5∧Sp h h' []:=by
 refine rU none x n ?_
 unfold pe
 refine(Sp.refl h).boxed fun a1 h1 H1=>?_
 exact aR (aR (bw (fun _=>bw (fun _=>⟨rfl,.zip H1.ah⟩) fun e=>by cases e) fun e=>by cases e))
theorem G3 (m:aE) (N:Int→Int) (l:List Int) (w:Pow) (ds:aX) (i:Nat) (hi:i<l.length):makes m N (l.drop i) w ds=if(fg m w ds l[i] (N l[i])).1=0 then makes m N (l.drop (i+1)) (fg m w ds l[i] (N l[i])).2.1 (fg m w ds l[i] (N l[i])).2.2 else fg m w ds l[i] (N l[i]):=by
 rw[List.drop_eq_getElem_cons hi];rfl
theorem G4 (f:FuncId) (pre post:Array Value) (N:Int→Int) (x:bK) (m:aE) (s:Sl) (l:List Int) (hf:C.fns[f]?=some true) (hS:St B h0 As fun h=>dG h x m∧G1 f pre post N l h∧Rd h s 1 aA l) (hz:ct m) (hl:l.length≤2^30) (hin:∀k∈l,0≤k∧k<64) (H:aa B h0 h (aU bn a pw (aL x) offs da w ds::As)):
  ab Tryz.prog ra #[.pointer (some a),.slice s.ptr s.len s.cap,.func (.func f) pre post] h fun v h'=>v=.int .i64 (makes m N l w ds).1∧aa B h0 h' (aU bn a pw (aL x) offs da (makes m N l w ds).2.1 (makes m N l w ds).2.2::As):=by
 refine pQ (some a) s (f,pre,post) ?_
 unfold kU
 have hsl:=(hS.at [_] H).2.2.len
 obtain⟨Z,hZ⟩:∃Z,Z=makes m N l w ds:=⟨_,rfl⟩
 rw[←hZ]
 refine au (fun t:Nat×Pow×aX=>(t.1:Int)) (fun t h'=>t.1≤l.length∧Z=makes m N (l.drop t.1) t.2.1 t.2.2∧aa B h0 h' (aU bn a pw (aL x) offs da t.2.1 t.2.2::As)) (fun t=>l.length-t.1) (0,w,ds) rfl ⟨by simp,hZ,H⟩ ?_
 rintro⟨i,w1,ds1⟩ h1 ⟨hi,hm,H1⟩
 dsimp only at*
 refine aj (fun e=>?_) fun e=>?_
 ·have hi':i<l.length:=by omega
  rw[G3 _ _ _ _ _ _ hi']at hm
  obtain⟨hx1,ht1,hs1⟩:=hS.at [_] H1
  refine hs1.cm i rfl hi' l[i] rfl (aR ?_)
  have hk64:=hin l[i] (List.getElem_mem hi')
  obtain⟨k,hk⟩:∃k,k=l[i]:=⟨_,rfl⟩
  have hkm:k∈l:=by rw[hk];exact List.getElem_mem hi'
  rw[←hk]at hm hk64
  rw[←hk]
  obtain⟨n,rfl⟩:∃n:Nat,k=n:=⟨k.toNat,by omega⟩
  obtain⟨ok,hb⟩:=aa.cC H1
  have hn:n<da.length:=by rw[ok.la];omega
  have cd:∀{h':Heap},bI h' a eu (cB (aL x) pw offs da)→cellOf h' ((a.add 10).add ((n:Int).toNat*1))=some (.pointer da[n]):=fun{h'} hb=>by
   rw[Int.toNat_natCast,Nat.mul_one]
   refine hb.oJ 10 n ?_
   rw[oL ok.l8,List.getElem?_eq_getElem hn];rfl
  refine⟨a,rfl,⟨by omega,by omega⟩,da[n],cd hb,a,rfl,x,hb.aH _ rfl,eI hf ?_⟩
  refine(ht1 n hkm).mono ?_
  rintro _ h2 ⟨rfl,R2⟩
  have H2:=H1.up R2.ah
  have hb2:=hb.ah R2.ah hb.lt
  refine⟨_,rfl,⟨hb2.cell0 rfl,hb2.cell rfl,hb2.cell rfl,hb2.cell rfl,hb2.cell rfl,hb2.cell rfl,hb2.cell rfl,hb2.cell rfl,cd hb2,trivial⟩,?_⟩
  have hdn:j7 da (n:Int)=da[n]:=by unfold j7;rw[if_pos (by omega),Int.toNat_natCast,List.getElem?_eq_getElem hn];rfl
  rw[←hdn]
  obtain⟨res,hres⟩:∃res,res=fg m w1 ds1 n (N n):=⟨_,rfl⟩
  rw[←hres]at hm
  have fin:∀{h3:Heap},aa B h0 h3 (aU bn a pw (aL x) offs da res.2.1 res.2.2::As)→aw.ok [] h3∧Br (res.1 !=(0:Int)) (Value.int .i64 res.1=.int .i64 Z.1∧aa B h0 h3 (aU bn a pw (aL x) offs da Z.2.1 Z.2.2::As))
    (∃t':Nat×Pow×aX,IntKind.wrap .i64 ((i:Int)+1)=(t'.1:Int)∧(t'.1≤l.length∧Z=makes m N (l.drop t'.1) t'.2.1 t'.2.2∧aa B h0 h3 (aU bn a pw (aL x) offs da t'.2.1 t'.2.2::As))∧l.length-t'.1<l.length-i):=fun{h3} H3=>by
   refine⟨trivial,cg (fun e2=>?_) fun e2=>?_⟩
   ·rw[if_neg e2]at hm;rw[hm];exact⟨rfl,H3⟩
   ·rw[if_pos e2]at hm
    exact⟨(i+1,res.2.1,res.2.2),by dsimp only;rw[Go.Vc.wrap_small _ (by omega) (by omega)];rfl,⟨by dsimp only;omega,hm,H3⟩,by dsimp only;omega⟩
  rcases j8 ok (n:Int)with⟨e1,e2⟩|⟨n',d,b,e0,e1,e2,e3,e4,e5⟩
  ·rw[e2]
   have es:res=(5,w1,ds1):=by rw[hres];unfold fg;rw[e1]
   refine(DI x _ h2).mono ?_
   rintro _ h3 ⟨rfl,R3⟩
   exact⟨res.1,by rw[es],fin (h3:=h3) (by rw[es];exact H2.up R3.ah)⟩
  ·rw[e5]
   have en:n=n':=by omega
   subst en
   obtain⟨b',hb',H5⟩:=Go.Vc.aa.jf H2 e2
   rw[e4]at hb'
   injection hb' with hb'
   injection hb' with hb'
   subst hb'
   have es:res=((fl m w1 d (N n)).1,(fl m w1 d (N n)).2.1,ds1.set n (some (fl m w1 d (N n)).2.2)):=by rw[hres];unfold fg;rw[e3];simp only[gx,Int.toNat_natCast]
   refine(I1 x m (N n) (fun Bs h' hh=>(hS (Bs++[_]) h' (by rw[List.append_assoc];exact hh)).1) hz H5).mono ?_
   rintro _ h3 ⟨rfl,H6⟩
   have H7:=Go.Vc.aa.w9 (k:=bn) (n:=n) e4 H6
   exact⟨res.1,by rw[es],fin (h3:=h3) (by rw[es];exact H7)⟩
 ·rw[List.drop_of_length_le (by omega)]at hm
  rw[hm]
  exact⟨rfl,H1⟩
end
end Go.Proofs.YtdoiokchdaoonaaGreat
namespace Go.Proofs.YtdoiokchdaoonaaGreat
open Go Go.Vc Go.Proofs Wl
set_option maxRecDepth 100000
def Kq (a b:cV):Int:=if db a.1 b.1 then-1 else if fV a.1 b.1 then 0 else 1
def fO (a b:cV):Bool:=fV a.1 b.1
theorem DJ (a b:cV):Kq a b<0↔¬fO b a=true:=by
 unfold Kq fO fV
 cases h:db a.1 b.1<;>simp
 split<;>omega
theorem uI:Ord fO:=⟨fun a b c=>tn a.1 b.1 c.1,fun a b=>tq a.1 b.1⟩
abbrev DK (x:cV):Value:=.agg #[.string x.1,.int .i64 x.2.1,.int .i64 x.2.2.1,.slice x.2.2.2.ptr x.2.2.2.len x.2.2.2.cap]
theorem BQ (x y:ByteArray) (h:Heap):ab Tryz.prog pV #[.string x,.string y] h fun v h'=>v=.int .i64 (if db x y then-1 else if fV x y then 0 else 1)∧h'=h:=by
 refine o9 x y ?_
 unfold kB
 have nan:∀z:ByteArray,ab Tryz.prog sF #[.string z] h fun v h'=>v=.bool false∧h'=h:=fun z=>by
  refine rl z ?_
  unfold me
  exact⟨by simp,rfl⟩
 refine(nan x).mono ?_
 rintro _ _ ⟨rfl,rfl⟩
 refine⟨_,rfl,(nan y).mono ?_⟩
 rintro _ _ ⟨rfl,rfl⟩
 refine⟨_,rfl,bw (fun e=>by cases e) fun _=>bw (fun e=>by cases e) fun _=>?_⟩
 have e0:Op.bytesLess x.toList y.toList=db x y:=rfl
 rw[B0,e0]
 have e1:(!Op.bytesLess y.toList x.toList)=fV x y:=rfl
 rw[e1]
 refine bw (fun e=>⟨by rw[e];rfl,rfl⟩) fun e=>aY (fun e2=>⟨by rw[e,e2];rfl,rfl⟩) fun e2=>⟨by rw[e,e2];rfl,rfl⟩
theorem G5 (a b:cV) (h:Heap):ab Tryz.prog dU #[DK a,DK b] h fun v h'=>v=.int .i64 (Kq a b)∧Sp h h' []:=by
 refine wN a b ?_
 unfold pU
 refine(Sp.refl h).boxed fun a1 h1 H1=>H1.boxed fun a2 h2 H2=>?_
 have H2:Sp h h2 [an a1 aQ (bE a),an a2 aQ (bE b)]:=H2
 refine⟨a.1,(H2.box 0 rfl).cell0 rfl,b.1,(H2.box 1 rfl).cell0 rfl,(BQ a.1 b.1 h2).mono ?_⟩
 rintro _ _ ⟨rfl,rfl⟩
 exact⟨_,rfl,rfl,.zip H2.ah⟩
abbrev mw (s:Sl) (d:List cV):HP:=ak aQ s 4 bE d
end Go.Proofs.YtdoiokchdaoonaaGreat
namespace Go.Proofs.YtdoiokchdaoonaaGreat
open Go Go.Vc Go.Proofs Wl
set_option maxRecDepth 100000
section
variable {B:aq} {h0 h h':Heap} {As:List HP} {s:Sl} {d:List cV}
theorem E7 {P1 P2:List cV} {y:cV} (hs:Sd fO (P1++P2)) (h1:∀z∈P1,fO z y=true) (h2:∀z∈P2,¬fO z y=true):Sd fO (P1++y::P2):=
 Sd.app uI hs.left (List.pairwise_cons.2 ⟨fun z hz=>uI.tj (h2 z hz),hs.right⟩) fun x hx z hz=>by
  rcases List.mem_cons.1 hz with rfl|hz
  ·exact h1 x hx
  ·exact hs.va x hx z hz
theorem yS (X M Y:List cV) (a b:Int) (ha:a=(X.length:Int)) (hb:b=(X.length+M.length:Nat)) (hsz:X.length+M.length+Y.length≤2^40) (H:aa B h0 h (mw s (X++(M++Y))::As)):
  ab Tryz.prog il #[.slice s.ptr s.len s.cap,.int .i64 a,.int .i64 b,.func (.func dU) #[] #[]] h fun v h'=>v=.tuple #[]∧∃M',Sd fO M'∧bz fO M M'∧aa B h0 h' (mw s (X++(M'++Y))::As):=by
 refine gZ s a b (dU,#[],#[]) ?_
 unfold ey
 subst ha;subst hb
 rw[Go.Vc.wrap_small ((X.length:Int)+1) (by omega) (by omega)]
 refine au (fun t:Nat×List cV=>((X.length+1+t.1:Nat):Int)) (fun t h'=>(t.1+1≤M.length∨t.1=0)∧Sd fO t.2∧bz fO (M.take (t.1+1)) t.2∧t.2.length=(M.take (t.1+1)).length∧aa B h0 h' (mw s (X++(t.2++(M.drop (t.1+1)++Y)))::As)) (fun t=>M.length-t.1) (0,M.take 1) rfl ?_ ?_
 ·refine⟨.inr rfl,?_,bz.refl _,rfl,?_⟩
  ·cases M with
   |nil=>exact List.Pairwise.nil
   |cons x M=>exact List.pairwise_cons.2 ⟨fun _ h=>by simp at h,by simp⟩
  ·rw[←List.append_assoc (M.take (0+1)),List.take_append_drop];exact H
 rintro⟨t,P⟩ h1 ⟨ht,hsd,heq,hPl,H1⟩
 dsimp only at*
 refine aj (fun e=>?_) (fun e=>?_)
 ·have ht1:t+1<M.length:=by omega
  obtain⟨y,hy⟩:∃y,y=M[t+1]:=⟨_,rfl⟩
  have hPt:P.length=t+1:=by rw[hPl];simp;omega
  have eD:M.drop (t+1)=y::M.drop (t+1+1):=by rw[List.drop_eq_getElem_cons ht1,hy]
  rw[eD]at H1
  refine au (fun u:List cV×List cV=>((X.length+u.1.length:Nat):Int)) (fun u h'=>u.1++u.2=P∧(∀z∈u.2,¬fO z y=true)∧aa B h0 h' (mw s (X++(u.1++(y::(u.2++(M.drop (t+1+1)++Y)))))::As)) (fun u=>u.1.length) (P,[]) (by dsimp only;rw[hPt];congr 1;omega) ⟨by simp,by simp,by simpa using H1⟩ ?_
  rintro⟨P1,P2⟩ h2 ⟨hP,hbig,H2⟩
  dsimp only at*
  have hPP:P1.length+P2.length=t+1:=by rw[←hPt,←hP,List.length_append]
  have done:∀{h':Heap},(∀z∈P1,fO z y=true)→aa B h0 h' (mw s (X++(P1++(y::(P2++(M.drop (t+1+1)++Y)))))::As)→
    ∃t':Nat×List cV,IntKind.wrap .i64 (((X.length+1+t:Nat):Int)+1)=((X.length+1+t'.1:Nat):Int)∧((t'.1+1≤M.length∨t'.1=0)∧Sd fO t'.2∧bz fO (M.take (t'.1+1)) t'.2∧t'.2.length=(M.take (t'.1+1)).length∧aa B h0 h' (mw s (X++(t'.2++(M.drop (t'.1+1)++Y)))::As))∧M.length-t'.1<M.length-t:=fun{h'} hle H'=>by
   refine⟨(t+1,P1++y::P2),by dsimp only;rw[Go.Vc.wrap_small _ (by omega) (by omega)];omega,⟨.inl (by dsimp only;omega),?_,?_,?_,?_⟩,by dsimp only;omega⟩
   ·exact E7 (by rw[hP];exact hsd) hle hbig
   ·dsimp only
    rw[aJ M (t+1) ht1,←hy]
    have h1:bz fO (M.take (t+1)++[y]) (P++[y]):=heq.app (bz.refl _)
    refine h1.trans ?_
    rw[←hP,List.append_assoc]
    have h2:bz fO (P2++[y]) ([y]++P2):=bz.Ia uI fun x hx z hz=>by rw[List.mem_singleton.1 hz];exact hbig x hx
    exact(bz.refl _).app h2
   ·dsimp only;simp;omega
   ·dsimp only
    have:X++((P1++y::P2)++(M.drop (t+1+1)++Y))=X++(P1++(y::(P2++(M.drop (t+1+1)++Y)))):=by simp
    rw[this];exact H'
  obtain⟨D,hD⟩:∃D,D=X++(P1++(y::(P2++(M.drop (t+1+1)++Y)))):=⟨_,rfl⟩
  refine cQ (fun _ h'=>∃(Q:List cV) (z:cV),P1=Q++[z]∧¬fO z y=true∧aa B h0 h' (mw s D::As)) ?_ ?_
  ·rw[←hD]at H2 done
   refine aj (fun e2=>?_) (fun e2=>⟨trivial,done (fun z hz=>?_) H2⟩)
   ·have hne:P1≠[]:=fun h=>by rw[h]at e2;simp at e2
    obtain⟨Q,z,hQ⟩:∃(Q:List cV) (z:cV),P1=Q++[z]:=⟨P1.dropLast,P1.getLast hne,(List.dropLast_concat_getLast hne).symm⟩
    have hQl:P1.length=Q.length+1:=by rw[hQ];simp
    have g1:D[X.length+P1.length]?=some y:=by
     rw[hD,List.getElem?_append_right (by omega),show X.length+P1.length-X.length=P1.length by omega,List.getElem?_append_right (by omega),Nat.sub_self];rfl
    have g2:D[X.length+P1.length-1]?=some z:=by
     rw[hD,List.getElem?_append_right (by omega),show X.length+P1.length-1-X.length=Q.length by omega,hQ,List.append_assoc,List.getElem?_append_right (Nat.le_refl _),Nat.sub_self];rfl
    obtain⟨k1,k1'⟩:=List.getElem?_eq_some_iff.1 g1
    obtain⟨k2,k2'⟩:=List.getElem?_eq_some_iff.1 g2
    refine(H2.seq 0 rfl fun _=>rfl).eS (g:=bE) _ rfl k1 y (by rw[k1']) ?_
    have ej:IntKind.wrap .i64 (((X.length+P1.length:Nat):Int)-1)=((X.length+P1.length-1:Nat):Int):=by rw[Go.Vc.wrap_small _ (by omega) (by omega)];omega
    rw[ej]
    refine(H2.seq 0 rfl fun _=>rfl).eS (g:=bE) _ rfl k2 z (by rw[k2']) (eI (by rfl) ?_)
    refine(G5 y z h2).mono ?_
    rintro _ h3 ⟨rfl,R3⟩
    have H3:=H2.up R3.ah
    refine⟨_,rfl,trivial,aj (fun e3=>⟨Q,z,hQ,(DJ y z).1 e3,H3⟩) fun e3=>done (fun w hw=>?_) H3⟩
    have hzy:fO z y=true:=by
     by_cases hc:fO z y=true
     ·exact hc
     ·exact absurd ((DJ y z).2 hc) e3
    rw[hQ]at hw
    rcases List.mem_append.1 hw with hw|hw
    ·refine uI.trans _ _ _ ?_ hzy
     have:Sd fO (Q++[z]):=by rw[←hQ];exact Sd.left (v:=P2) (by rw[hP];exact hsd)
     exact this.va w hw z (by simp)
    ·rw[List.mem_singleton.1 hw];exact hzy
   ·have:P1=[]:=by
     cases P1 with
     |nil=>rfl
     |cons x P=>exfalso;simp only[List.length_cons]at e2;omega
    rw[this]at hz;cases hz
  ·rintro _ h3 ⟨Q,z,hQ,hzy,H3⟩
   have hQl:P1.length=Q.length+1:=by rw[hQ];simp
   have eform:D=(X++Q)++z::([]++y::(P2++(M.drop (t+1+1)++Y))):=by rw[hD,hQ];simp
   obtain⟨q1,q2,q3,q4⟩:=Ds (X++Q) [] (P2++(M.drop (t+1+1)++Y)) z y (i:=X.length+P1.length-1) (j:=X.length+P1.length) (by simp;omega) (by simp;omega)
   rw[←eform]at q1 q2 q3 q4
   obtain⟨k2,k2'⟩:=List.getElem?_eq_some_iff.1 q1
   obtain⟨k1,k1'⟩:=List.getElem?_eq_some_iff.1 q2
   have ej:IntKind.wrap .i64 (((X.length+P1.length:Nat):Int)-1)=((X.length+P1.length-1:Nat):Int):=by rw[Go.Vc.wrap_small _ (by omega) (by omega)];omega
   rw[ej]
   refine(H3.seq 0 rfl fun _=>rfl).eS (g:=bE) _ rfl k2 z (by rw[k2']) ?_
   refine(H3.seq 0 rfl fun _=>rfl).eS (g:=bE) _ rfl k1 y (by rw[k1']) ?_
   refine H3.set ag 0 rfl (fun _=>rfl) rfl (X.length+P1.length) rfl k1 z rfl rfl rfl fun h4 H4=>⟨trivial,?_⟩
   refine H4.set ag 0 rfl (fun _=>rfl) rfl (X.length+P1.length-1) rfl (by simpa using k2) y rfl rfl rfl fun h5 H5=>⟨trivial,?_⟩
   refine⟨(Q,z::P2),by dsimp only;congr 1;omega,⟨by dsimp only;rw[←hP,hQ];simp,?_,?_⟩,by dsimp only;omega⟩
   ·dsimp only
    intro w hw
    rcases List.mem_cons.1 hw with rfl|hw
    ·exact hzy
    ·exact hbig w hw
   ·dsimp only
    have:X++(Q++(y::(z::P2++(M.drop (t+1+1)++Y))))=(X++Q)++y::([]++z::(P2++(M.drop (t+1+1)++Y))):=by simp
    rw[this,←q4];exact H5
 ·refine⟨rfl,P,hsd,?_,?_⟩
  ·rw[List.take_of_length_le (by omega)]at heq;exact heq
  ·rw[List.drop_of_length_le (by omega)]at H1;simpa using H1
theorem DL (r:Nat) (h:Heap) (hr:r≤2^32):ab Tryz.prog nI #[.int .u64 r] h fun v h'=>(∃k:Int,v=.int .i64 k)∧h'=h:=by
 intro w hw
 refine(Tryz.bits_Len (r:Int) w (by omega) (by omega)).mono ?_
 rintro e w' ⟨rfl,rfl⟩
 exact⟨_,rfl,bS.refl _,⟨_,rfl⟩,hw⟩
theorem G6 (d:List cV) (hd:d.length≤12) (H:aa B h0 h (mw s d::As)):
  ab Tryz.prog iJ #[.slice s.ptr s.len s.cap,.func (.func dU) #[] #[]] h fun v h'=>v=.tuple #[]∧aa B h0 h' (mw s (d.mergeSort fO)::As):=by
 refine iA s (dU,#[],#[]) ?_
 unfold eW
 have hl:=(H.own 0 rfl).len
 have hrun:∀k:Int,ab Tryz.prog jE #[.slice s.ptr s.len s.cap,.int .i64 0,.int .i64 (s.len:Nat),.int .i64 k,.func (.func dU) #[] #[]] h fun v h'=>v=.tuple #[]∧aa B h0 h' (mw s (d.mergeSort fO)::As):=fun k=>by
  refine jq s 0 (s.len:Nat) k (dU,#[],#[]) ?_
  unfold fL
  refine au (fun _:Unit=>((0:Int),((s.len:Nat):Int),k,true,true)) (fun _ h'=>h'=h) (fun _=>0) () rfl rfl ?_
  rintro _ h1 rfl
  refine aj (fun _=>?_) fun e=>absurd (show IntKind.wrap .i64 (((s.len:Nat):Int)-0)≤12 by rw[Go.Vc.wrap_small _ (by omega) (by omega)];omega) e
  refine(yS [] d [] 0 (s.len:Nat) rfl (by simp[hl]) (by simp;omega) (by simpa using H)).mono ?_
  rintro _ h2 ⟨rfl,M,hs,he,H2⟩
  refine⟨(),rfl,rfl,?_⟩
  rw[←Gq uI hs he]
  simpa using H2
 have ew:IntKind.wrap .u64 ((s.len:Nat):Int)=((s.len:Nat):Int):=by unfold IntKind.wrap;simp[IntKind.bits,IntKind.signed];omega
 rw[ew]
 refine(DL s.len h (by omega)).mono ?_
 rintro _ h1 ⟨⟨k,rfl⟩,rfl⟩
 refine⟨k,rfl,(hrun k).mono ?_⟩
 rintro _ h2 ⟨rfl,H2⟩
 exact⟨(),rfl,rfl,H2⟩
end
end Go.Proofs.YtdoiokchdaoonaaGreat
namespace Go.Proofs.YtdoiokchdaoonaaGreat
open Go Go.Vc Go.Proofs Wl
set_option maxRecDepth 100000
section
variable {B:aq} {h0 h:Heap} {As:List HP}
def qu:bK:=(0,0,0,0,0,0,⟨none,0,0⟩,⟨none,0,0⟩)
theorem E8 {m:aE} {e:Wl.ck} {xe:cV} {L:List (cV×Wl.ck)} {pool:List (Sl×List Int)} (hm:L.map Prod.snd=m.objs) (hL:∀p∈L,vi pool p) (hx:vi pool (xe,e)):
  ∃L':List (cV×Wl.ck),L'.map Prod.fst=(L.map Prod.fst++[xe]).mergeSort fO∧L'.map Prod.snd=(m.objs++[e]).mergeSort lJ∧∀p∈L',vi pool p:=by
 have hall:∀p∈L++[(xe,e)],vi pool p:=fun p hp=>by
  rcases List.mem_append.1 hp with hp|hp
  ·exact hL p hp
  ·rw[List.mem_singleton.1 hp];exact hx
 refine⟨(L++[(xe,e)]).mergeSort fun a b=>fO a.1 b.1,?_,?_,fun p hp=>hall p ((List.mergeSort_perm _ _).mem_iff.1 hp)⟩
 ·rw[List.map_mergeSort (r:=fun a b=>fO a.1 b.1) (s:=fO) (f:=Prod.fst) (fun a _ b _=>rfl),List.map_append];rfl
 ·rw[List.map_mergeSort (r:=fun a b=>fO a.1 b.1) (s:=lJ) (f:=Prod.snd) (fun a ha b hb=>by unfold fO lJ;rw[(hall a ha).1.1,(hall b hb).1.1]),List.map_append,hm];rfl
theorem I4 (x:bK) (m:aE) (xe:cV) (e:Wl.ck) (hx:dG h x m) (hz:ct m) (hs:0≤m.seq∧m.seq≤2^40) (hn:0≤m.next∧m.next≤2^40) (ho:m.objs.length≤11) (he:xe.1=e.name∧xe.2.1=e.object∧xe.2.2.1=e.length) (H:aa B h0 h (oY xe.2.2.2 1 aA e.tries::As)):
  ab Tryz.prog rL #[dX x,DK xe] h fun v h'=>∃y:bK,v=dX y∧aa B h0 h' (cM y (dS m e)::As):=by
 refine zE x xe ?_
 unfold tO
 refine(Sp.refl h).boxed fun a1 h1 H1=>H1.boxed fun a2 h2 H2=>H2.alloc ag rfl fun a3 h3 H3=>?_
 have H3:Sp h h3 [an a1 ao (aL x),an a2 aQ (bE xe),an a3 ao (aL qu)]:=H3
 refine⟨x,(H3.box 0 rfl).aH _ rfl,(qi x m h3 (hx.up H3.ah) hz).mono ?_⟩
 rintro _ h4 ⟨y,L,pool,rfl,hf,hm,hL,R4⟩
 have H4:=((H3.cN [1,2]).comp R4).front
 refine⟨y,rfl,H4.alloc ag rfl fun a6 h5 H5=>?_⟩
 have H5:=H5.cF
 refine H5.storeAll ag 0 rfl rfl (aL y) rfl rfl rfl rfl fun h6 H6=>?_
 have H6:Sp h h6 [an a6 ao (aL y),dB 1 aA pool,ak aF y.2.2.2.2.2.2.1 1 aA m.drives,ak aQ y.2.2.2.2.2.2.2 4 bE (L.map Prod.fst),an a2 aQ (bE xe),an a3 ao (aL qu)]:=H6
 refine⟨y.1,(H6.box 0 rfl).cell0 rfl,?_⟩
 have e1:IntKind.wrap .i64 (y.1+1)=m.seq+1:=by rw[hf.1,Go.Vc.wrap_small _ (by omega) (by omega)]
 have e2:IntKind.wrap .i64 (y.2.1+1)=m.next+1:=by rw[hf.2.1,Go.Vc.wrap_small _ (by omega) (by omega)]
 rw[e1]
 refine H6.pC ag 0 rfl rfl [.int .i64 (m.seq+1)] rfl rfl rfl (by simp[Value.cells]) fun h7 H7=>?_
 have H7:Sp h h7 [an a6 ao (.int .i64 (m.seq+1)::(aL y).drop 1),dB 1 aA pool,ak aF y.2.2.2.2.2.2.1 1 aA m.drives,ak aQ y.2.2.2.2.2.2.2 4 bE (L.map Prod.fst),an a2 aQ (bE xe),an a3 ao (aL qu)]:=H7
 refine⟨y.2.1,(H7.box 0 rfl).cell rfl,?_⟩
 rw[e2]
 refine H7.store ag 0 rfl rfl 1 [.int .i64 (m.next+1)] rfl rfl rfl (by simp[Value.cells]) fun h8 H8=>?_
 have H8:Sp h h8 [an a6 ao (.int .i64 (m.seq+1)::.int .i64 (m.next+1)::(aL y).drop 2),dB 1 aA pool,ak aF y.2.2.2.2.2.2.1 1 aA m.drives,ak aQ y.2.2.2.2.2.2.2 4 bE (L.map Prod.fst),an a2 aQ (bE xe),an a3 ao (aL qu)]:=H8
 have hLl:L.length=m.objs.length:=by rw[←hm,List.length_map]
 refine⟨y.2.2.2.2.2.2.2,(H8.box 0 rfl).cell rfl,xe,(H8.box 4 rfl).aH _ rfl,?_⟩
 refine H8.push ag 3 rfl Ka rfl (by decide) (fun _=>rfl) FG xe rfl (by decide) (by simp;omega) fun o h10 H10=>?_
 refine H10.store ag 0 rfl rfl 7 [.slice o.ptr o.len o.cap] rfl rfl rfl (by simp[Value.cells]) fun h11 H11=>?_
 obtain⟨y2,hy2⟩:∃y2:bK,y2=(m.seq+1,m.next+1,y.2.2.1,y.2.2.2.1,y.2.2.2.2.1,y.2.2.2.2.2.1,y.2.2.2.2.2.2.1,o):=⟨_,rfl⟩
 have ed:y2.2.2.2.2.2.2.1=y.2.2.2.2.2.2.1:=by rw[hy2]
 have eo:y2.2.2.2.2.2.2.2=o:=by rw[hy2]
 have H11:Sp h h11 [an a6 ao (aL y2),dB 1 aA pool,ak aF y2.2.2.2.2.2.2.1 1 aA m.drives,ak aQ y2.2.2.2.2.2.2.2 4 bE (L.map Prod.fst++[xe]),an a2 aQ (bE xe),an a3 ao (aL qu)]:=by rw[ed,eo,hy2];exact H11
 refine⟨y2.2.2.2.2.2.2.2,(H11.box 0 rfl).cell rfl,?_⟩
 have H11:=H11.bc 6 [3,0,1,2,4,5]
 refine(G6 (L.map Prod.fst++[xe]) (by simp;omega) H11).mono ?_
 rintro _ h12 ⟨rfl,H12⟩
 have H12:Sp h h12 [mw y2.2.2.2.2.2.2.2 ((L.map Prod.fst++[xe]).mergeSort fO),an a6 ao (aL y2),dB 1 aA pool,ak aF y2.2.2.2.2.2.2.1 1 aA m.drives,an a2 aQ (bE xe),an a3 ao (aL qu)]:=H12
 refine⟨(),rfl,y2,(H12.box 1 rfl).aH _ rfl,?_⟩
 refine H12.storeAll ag 5 rfl rfl (aL y2) rfl rfl rfl rfl fun h13 H13=>?_
 have H13:Sp h h13 [mw y2.2.2.2.2.2.2.2 ((L.map Prod.fst++[xe]).mergeSort fO),an a6 ao (aL y2),dB 1 aA pool,ak aF y2.2.2.2.2.2.2.1 1 aA m.drives,an a2 aQ (bE xe),an a3 ao (aL y2)]:=H13
 refine⟨y2,(H13.box 5 rfl).aH _ rfl,y2,rfl,?_⟩
 obtain⟨L',l1,l2,l3⟩:=E8 (pool:=(xe.2.2.2,e.tries)::pool) (m:=m) (e:=e) (xe:=xe) hm (fun p hp=>⟨(hL p hp).1,List.mem_cons_of_mem _ (hL p hp).2⟩) ⟨he,List.mem_cons_self⟩
 have HF:=((H.comp (H13.cN [2,3,0])).front).bc 4 [0,3,1,2]
 have HF:aa B h0 h13 (dB 1 aA ((xe.2.2.2,e.tries)::pool)::ak aF y2.2.2.2.2.2.2.1 1 aA m.drives::ak aQ y2.2.2.2.2.2.2.2 4 bE ((L.map Prod.fst++[xe]).mergeSort fO)::As):=aa.FI HF
 rw[←l1]at HF
 refine aa.Dr (m:=dS m e) ⟨by rw[hy2];rfl,by rw[hy2];rfl,by rw[hy2];exact hf.2.2.1,by rw[hy2];exact hf.2.2.2⟩ l2 l3 HF
end
end Go.Proofs.YtdoiokchdaoonaaGreat
namespace Go.Proofs.YtdoiokchdaoonaaGreat
open Go Go.Vc Go.Proofs Wl
set_option maxRecDepth 100000
section
variable {B:aq} {h0 h:Heap} {As:List HP} {a pw:Addr} {offs:Int} {da:List (Option Addr)} {w:Pow} {ds:aX}
theorem aa.I5 {x y:bK} (H:aa B h0 h (aU bn a pw (aL x) offs da w ds::As)) {K:Unit→Heap→Prop} (hk:∀h',aa B h0 h' (aU bn a pw (aL y) offs da w ds::As)→K () h'):
  ae Tryz.prog (Instr.storeAt ao (.pointer (some a)) (dX y)) h K:=by
 obtain⟨ok,H1⟩:=Go.Vc.aa.nP H
 refine H1.pC ag 0 rfl rfl (aL y) rfl rfl rfl (by simp) fun h' H2=>hk h' ?_
 exact aa.oK (k:=bn) ⟨rfl,ok.la,ok.ls,ok.same⟩ H2
theorem G7 (x z:bK) (mn:aE) (s:Sl) (l:List Int) (hS:St B h0 As fun h=>dG h z mn∧Rd h s 1 aA l) (hz:ct mn) (hl:l.length≤2^10) (hin:∀k∈l,0≤k∧k<64) (H:aa B h0 h (aU bn a pw (aL x) offs da w ds::As)):
  ab Tryz.prog su #[.pointer (some a),dX z,.slice s.ptr s.len s.cap] h fun v h'=>v=.int .i64 (layAll (bs mn l) w ds).1∧
   ((layAll (bs mn l) w ds).1≠0→aa B h0 h' (aU bn a pw (aL x) offs da (layAll (bs mn l) w ds).2.1 (layAll (bs mn l) w ds).2.2::As))∧
   ((layAll (bs mn l) w ds).1=0→∃y,aa B h0 h' (aU bn a pw (aL y) offs da (layAll (bs mn l) w ds).2.1 (layAll (bs mn l) w ds).2.2::cM y mn::As)):=by
 refine re (some a) z s ?_
 unfold l4
 refine H.boxed fun a1 h1 H1=>?_
 have H1:=H1.cF
 refine⟨z,(H1.box 0 rfl).aH _ rfl,(vX z mn s l h1 (hS.at [_,_] H1).1 hz (hS.at [_,_] H1).2 hl).mono ?_⟩
 rintro _ h2 ⟨r,ys,rfl,R2⟩
 have H2:=(H1.cj R2).bc 3 [2,0,1]
 have hspl:=hJ mn hz
 have hmul:=Nat.mul_le_mul hl hspl
 refine⟨r,rfl,(uB r ys (bs mn l) (St.gI 0 rfl fun _ hq=>hq) (by rw[px];omega) (fun q hq=>?_) H2).mono ?_⟩
 ·obtain⟨hy1,hy2⟩:=iH hq
  rw[hy2]
  exact⟨hin _ hy1,by decide⟩
 rintro _ h3 ⟨rfl,H3⟩
 obtain⟨R,hR⟩:∃R,R=layAll (bs mn l) w ds:=⟨_,rfl⟩
 rw[←hR]at H3⊢
 refine⟨_,rfl,cg (fun e=>⟨rfl,fun _=>H3.bc 3 [0],fun h=>absurd h e⟩) fun e=>?_⟩
 have H3:aa B h0 h3 (aU bn a pw (aL x) offs da R.2.1 R.2.2::cK gh 2 piv r ys (bs mn l)::an a1 ao (aL z)::As):=H3
 refine⟨z,(H3.box 2 rfl).aH _ rfl,(yJ z mn h3 (hS.at [_,_,_] H3).1 hz).mono ?_⟩
 rintro _ h4 ⟨y,rfl,R4⟩
 have H4:=(H3.cj R4).bc 4 [1,0]
 refine⟨y,rfl,a,rfl,aa.I5 H4 fun h5 H5=>?_⟩
 exact⟨by rw[e],fun h=>absurd e h,fun _=>⟨y,H5⟩⟩
def kP (name:ByteArray) (e:Wl.ck):Bool:=e.name.toList==name.toList
theorem find_spec (x:bK) (m:aE) (name:ByteArray) (hx:dG h x m) (hz:ct m) (H:aa B h0 h (aU bn a pw (aL x) offs da w ds::As)):
  ab Tryz.prog sC #[.pointer (some a),.string name] h fun v h'=>(∃i:Int,v=.int .i64 i∧Kg (kP name) m.objs i)∧Sp h h' []:=by
 refine ri (some a) name ?_
 unfold l7
 refine(Sp.refl h).boxed fun a1 h1 R1=>?_
 have b1:bI h1 a1 J8 [.string name]:=R1.box 0 rfl
 obtain⟨ok,hb⟩:=aa.cC H
 have hb1:=hb.ah R1.ah hb.lt
 have hob:=hz.ob
 refine⟨a,rfl,x.2.2.2.2.2.2.2,hb1.cell rfl,?_⟩
 refine(vY pZ #[] #[.pointer (some a1)] (kP name) x.2.2.2.2.2.2.2 m.objs h1 (by rfl) (hx.up R1.ah).objs hob ?_).mono ?_
 ·intro u E h2 R2 hu hE
  refine ph u a1 ?_
  unfold kF
  refine(Sp.refl h2).boxed fun a2 h3 R3=>?_
  have b3:=(b1.ah R2.ah b1.lt)
  have b4:=b3.ah R3.ah b3.lt
  refine⟨u.1,(R3.box 0 rfl).cell0 rfl,name,b4.cell0 rfl,?_,.zip R3.ah⟩
  unfold kP
  rw[hu.1.1]
 ·rintro _ h2 ⟨⟨i,rfl,hi⟩,R2⟩
  exact⟨i,rfl,⟨i,rfl,hi⟩,.zip (aa.up R1 R2.ah).ah⟩
theorem I6 {mc:List Value} (H:aa B h0 h (aU bn a pw mc offs da w ds::As)):ab Tryz.prog tV #[.pointer (some a)] h fun v h'=>v=.bool (iO w offs)∧h'=h:=by
 refine kV (some a) ?_
 unfold jC
 refine bw (fun e=>by cases e) fun _=>(qn H).mono ?_
 rintro _ _ ⟨rfl,rfl⟩
 exact⟨_,rfl,rfl,rfl⟩
def cW (m:aE) (down:Bool) (ds:aX) (name:ByteArray) (n:Nat):Int:=
 if down then 14 else if !gK name then 3 else if m.objs.any (kP name)then 4
 else if m.p.1*m.p.2.2*8<(n:Int)∨12≤m.objs.length then 6
 else if bU ds m.drives=[]∨16777215<m.next∨2147483647≤m.seq then 7 else 0
theorem DM (x:bK) (m:aE) (name:ByteArray) (s:Sl) (n:Nat) (hn:s.len=n) (hns:name.size≤2^40) (hx:dG h x m) (hz:ct m) (hp:bF m.p=true) (H:aa B h0 h (aU bn a pw (aL x) offs da w ds::As)):
  ab Tryz.prog o7 #[.pointer (some a),.string name,.slice s.ptr s.len s.cap] h fun v h'=>v=.int .i64 (cW m (iO w offs) ds name n)∧Sp h h' []:=by
 refine od (some a) name s ?_
 unfold ke
 have hmp:=(bH m.p).1 hp
 refine(I6 H).mono ?_
 rintro _ h1 ⟨rfl,rfl⟩
 refine⟨_,rfl,bw (fun e=>⟨by unfold cW;rw[e];rfl,Sp.refl _⟩) fun e1=>?_⟩
 refine(AT name h1 hns).mono ?_
 rintro _ h2 ⟨rfl,R2⟩
 refine⟨_,rfl,aY (fun e=>⟨by unfold cW;rw[e1,e];rfl,R2⟩) fun e2=>?_⟩
 have H2:=H.up R2.ah
 have hx2:=hx.up R2.ah
 refine(find_spec x m name hx2 hz H2).mono ?_
 rintro _ h3 ⟨⟨i,rfl,hi⟩,R3⟩
 have hP:Sp h1 h3 []:=.zip (aa.up R2 R3.ah).ah
 have hia:=Dz hi
 refine⟨i,rfl,bw (fun e=>⟨by unfold cW;rw[e1,e2,←hia,e];rfl,hP⟩) fun e3=>?_⟩
 rw[e3]at hia
 have H3:=H2.up R3.ah
 have hx3:=hx2.up R3.ah
 obtain⟨ok,hb⟩:=aa.cC H3
 have hol:=cD.len hx3.objs
 have he5:x.2.2.1=m.p.1:=congrArg (·.1) hx3.p
 have he7:x.2.2.2.2.1=m.p.2.2:=congrArg (·.2.2) hx3.p
 have hk:m.p.1*m.p.2.2≤16*24:=Int.mul_le_mul (by omega) (by omega) (by omega) (by omega)
 have hk0:0≤m.p.1*m.p.2.2:=Int.mul_nonneg (by omega) (by omega)
 refine cQ (fun(t:Bool) h'=>t=decide (m.p.1*m.p.2.2*8<(n:Int)∨12≤m.objs.length)∧h'=h3) ?_ ?_
 ·refine⟨a,rfl,x.2.2.1,hb.cell rfl,a,rfl,x.2.2.2.2.1,by rw[addr_add];exact hb.cell rfl,?_⟩
  rw[he5,he7,Go.Vc.wrap_small (m.p.1*m.p.2.2) (by omega) (by omega),Go.Vc.wrap_small (m.p.1*m.p.2.2*8) (by omega) (by omega)]
  refine aj (fun e=>⟨(decide_eq_true (.inl (by omega))).symm,rfl⟩) fun e=>?_
  refine⟨a,rfl,x.2.2.2.2.2.2.2,hb.cell rfl,?_,rfl⟩
  rw[decide_eq_decide];omega
 rintro t _ ⟨rfl,rfl⟩
 refine aj (fun e=>⟨by unfold cW;rw[e1,e2,←hia,if_pos e];rfl,hP⟩) fun e4=>?_
 have er:cW m (iO w offs) ds name n=if bU ds m.drives=[]∨16777215<m.next∨2147483647≤m.seq then 7 else 0:=by
  unfold cW;rw[e1,e2,←hia,if_neg e4];rfl
 rw[er]
 refine(dP x m hx3 hz H3).mono ?_
 rintro _ h4 ⟨r,rfl,R4⟩
 have hrl:=(R4.own 0 rfl).len
 have hP4:Sp h1 h4 []:=.zip (aa.up hP R4.ah).ah
 have hb4:=hb.ah R4.ah hb.lt
 refine⟨r,rfl,dt (fun e=>⟨by rw[if_pos (.inl (List.eq_nil_of_length_eq_zero (by omega)))],hP4⟩) fun e=>?_⟩
 have hne:bU ds m.drives≠[]:=fun hh=>by rw[hh]at hrl;simp at hrl;omega
 refine⟨a,rfl,x.2.1,hb4.cell rfl,aj (fun e=>⟨by rw[if_pos (.inr (.inl (by rw[←hx3.next];omega)))],hP4⟩) fun e6=>?_⟩
 have hnx:=hx3.next
 have hsq:=hx3.seq
 refine⟨a,rfl,x.1,hb4.cell0 rfl,aj (fun e=>⟨by rw[if_pos (.inr (.inr (by omega)))],hP4⟩) fun e7=>⟨?_,hP4⟩⟩
 rw[if_neg]
 rintro(h|h|h)
 ·exact hne h
 ·omega
 ·omega
end
end Go.Proofs.YtdoiokchdaoonaaGreat
namespace Go.Proofs.YtdoiokchdaoonaaGreat
open Go Go.Vc Go.Proofs Wl
set_option maxRecDepth 100000
theorem MB:∃i e2,C.T.get aP=some i∧i.bL=.slice e2:=⟨_,_,rfl,rfl⟩
def nT (A B:bm) (k:Nat):bm:=dn (A.take k) (B.take k)++A.drop k
theorem yT {A B:bm} (h:B.length=A.length) (k:Nat):(nT A B k).length=A.length:=by simp[nT,dn,h];omega
theorem MC {A B:bm} (h:B.length=A.length) {k:Nat} (hk:k<A.length):(nT A B k)[k]?=some A[k]:=by
 have:(dn (A.take k) (B.take k)).length=k:=by simp[dn];omega
 rw[nT,List.getElem?_append_right (by omega),this,Nat.sub_self,List.getElem?_drop,Nat.add_zero,List.getElem?_eq_getElem hk]
theorem MD {A B:bm} (h:B.length=A.length) {k:Nat} (hk:k<A.length):(nT A B k).set k (A[k]++B[k]'(by omega))=nT A B (k+1):=by
 have hl:(dn (A.take k) (B.take k)).length=k:=by simp[dn];omega
 rw[nT,List.set_append_right _ _ (by omega),hl,Nat.sub_self,List.drop_eq_getElem_cons hk,List.set_cons_zero,nT,aJ _ _ hk,aJ _ _ (show k<B.length by omega),dn,dn,List.zipWith_append (by simp;omega),List.append_assoc]
 rfl
theorem ME {A B:bm} (h:B.length=A.length):nT A B A.length=dn A B:=by
 rw[nT,List.take_length,←h,List.take_length,h,List.drop_length,List.append_nil]
set_option maxHeartbeats 1000000 in
theorem G8 (f:Addr) (a b:Sl) (A B:bm) (n w:Nat) (h:Heap) (hf:gX h f) (ha:eJ h a 1 aC A) (hb:eJ h b 1 aC B) (hl:A.length=n) (hlb:B.length=n) (hA:aZ n A) (hB:aZ w B) (hn1:1≤n) (hn:n+w≤64) (hr:dR A=n):
  ab Tryz.prog C7 #[.pointer (some f),.slice a.ptr a.len a.cap,.slice b.ptr b.len b.cap] h fun v h'=>∃r:Sl,v=.tuple #[.slice r.ptr r.len r.cap,.int .i64 0]∧Sp h h' [fA aP r 1 aC (iY n A B)]:=by
 have hlen:B.length=A.length:=by omega
 have hla:=ha.len;have hlb':=hb.len
 refine Bx (some f) a b ?_
 unfold vP
 refine aR ?_
 refine(nS a A n h ha hA (by omega) (by omega)).mono ?_
 rintro v h1 ⟨rfl,rfl⟩
 refine⟨_,rfl,aY (fun e=>by cases e) fun _=>?_⟩
 refine(nS b B w h1 hb hB (by omega) (by omega)).mono ?_
 rintro v h2 ⟨rfl,rfl⟩
 refine⟨_,rfl,aY (fun e=>by cases e) fun _=>?_⟩
 refine cg (fun e=>absurd (by rw[hla,hlb',hlen]) e) fun _=>?_
 refine dt (fun e=>by omega) fun _=>?_
 refine(qq a A h2 ha).mono ?_
 rintro v h3 ⟨rfl,rfl⟩
 have hwA:fT A=n:=by
  cases A with
  |nil=>simp at hl;omega
  |cons x t=>rw[fT,cO (by simp)];exact hA _ (by simp)
 refine⟨_,rfl,?_⟩
 rw[hwA]
 refine(uG a A n h3 ha hA (by omega) (by omega)).mono ?_
 rintro v h4 ⟨r,rs,rfl,hrs,R4⟩
 refine⟨r,rfl,?_⟩
 have hrl0:=(R4.own 0 rfl).len
 refine au (fun t:Nat×List Sl=>(t.1:Int)) (fun t h'=>t.1≤n∧t.2.length=n∧Sp h3 h' (kN r t.2 (nT A B t.1))) (fun t=>n-t.1) (0,rs) rfl ⟨by simp,by dsimp only;omega,by simpa[nT,dn]using R4⟩ ?_
 rintro⟨k,rs⟩ h5 ⟨hk,hrk,H5⟩
 dsimp only at*
 have hle:rs.length=(nT A B k).length:=by rw[yT hlen];omega
 refine aj (fun e=>?_) (fun e=>?_)
 ·have hk':k<n:=by omega
  have hkA:k<A.length:=by omega
  have gk:=qt (a:=r) hle k (by rw[yT hlen];omega)
  have eg:(nT A B k)[k]'(by rw[yT hlen];omega)=A[k]:=by
   have:=MC hlen hkA
   rw[List.getElem?_eq_getElem (by rw[yT hlen];omega)]at this
   exact Option.some.inj this
  rw[eg]at gk
  have l1:A[k].length=n:=hA _ (List.getElem_mem _)
  have l2:(B[k]'(by omega)).length=w:=hB _ (List.getElem_mem _)
  refine(H5.seq 0 rfl (fun _=>rfl)).oZ k rfl (by omega) fun a1 ha1 hb1=>?_
  refine(hb.up H5.ah).get k rfl (by omega) fun rb hrb=>?_
  refine H5.append ag (k+1) gk gG MB rfl (by decide) (fun _=>rfl) hrb fw (by omega) fun s6 h6 H6=>⟨trivial,?_⟩
  refine H6.set ag 0 rfl (fun _=>rfl) rfl k rfl (by omega) s6 rfl rfl rfl fun h7 H7=>⟨trivial,?_⟩
  refine⟨(k+1,rs.set k s6),by dsimp only;rw[wrap_small _ (by omega) (by omega)];rfl,⟨by dsimp only;omega,by dsimp only;simp;omega,?_⟩,by dsimp only;omega⟩
  dsimp only
  rw[←MD hlen hkA]
  show Sp h3 h7 (ak aP r 1 b9 (rs.set k s6)::bu aB 1 aC (rs.set k s6) ((nT A B k).set k _))
  rw[←jL hle]
  exact H7
 ·have hkn:k=A.length:=by omega
  subst hkn
  rw[ME hlen]at H5
  refine(sj f h5).mono ?_
  rintro v h6 ⟨rfl,rfl⟩
  refine⟨some f,rfl,?_⟩
  have hev:=lu hlen.symm hA hB
  have hal:=jm hlen.symm
  refine(wa (m:=dn A B) (n:=n+w) hf hf.lt (by omega) hev (by omega) (by omega) (by omega) H5).mono ?_
  rintro v h7 ⟨rs',rfl,hrs',R7⟩
  rw[CI hlen.symm hA,hr]
  refine⟨_,rfl,?_⟩
  dsimp only
  have hcap:=(R7.own 0 rfl).cap
  have hrl:=(R7.own 0 rfl).len
  have h2:=gz hev n
  refine aj (fun e=>absurd (show(n:Int)<(n:Int)from e) (by omega)) fun _=>?_
  refine⟨⟨Int.natCast_nonneg _,Int.ofNat_le.2 (show n≤r.len by omega)⟩,?_⟩
  refine au (fun _:Unit=>(0:Int)) (fun _ h'=>h'=h7) (fun _=>0) () rfl rfl ?_
  rintro _ h8 rfl
  rw[Int.toNat_natCast]
  refine aj (fun e=>by omega) fun _=>?_
  refine⟨⟨Int.natCast_nonneg _,Int.ofNat_le.2 (show n≤r.cap by omega)⟩,?_⟩
  obtain⟨M,hM⟩:∃M,M=(bp (dn A B) n).2:=⟨_,rfl⟩
  have hMl:M.length=n:=by have:=h2.2;rw[←hM]at this;omega
  have hMe:aZ (n+w) M:=by rw[hM];exact h2.1
  have hsol:∀k (hk:k<n),(iY n A B).take (k+1)=(iY n A B).take k++[(M[k]'(by omega)).drop n]:=fun k hk=>by
   have e1:iY n A B=M.map (List.drop n):=by rw[iY,←hM,List.take_of_length_le (by omega)]
   rw[e1,aJ _ _ (by simp;omega),List.getElem_map]
  have hsl:(iY n A B).length=n:=(zw hlen.symm hA hB hr).1
  rw[←hM]at R7
  refine au (fun t:Sl×Nat=>(t.1,(t.2:Int))) (fun t h'=>t.2≤n∧Sp h8 h' [fA aP t.1 1 aC ((iY n A B).take t.2)]) (fun t=>n-t.2) (⟨none,0,0⟩,0) rfl ⟨by simp,(Sp.refl h8).Gb aP 1 aC⟩ ?_
  rintro⟨s,k⟩ h9 ⟨hk9,H9⟩
  dsimp only at*
  have HH:=R7.comp H9
  have hlM:rs'.length=M.length:=by omega
  refine aj (fun e=>?_) (fun e=>?_)
  ·have hk':k<n:=by omega
   have gk:=qt (a:=r) hlM k (by omega)
   have gk':(kN r rs' M++[fA aP s 1 aC ((iY n A B).take k)])[k+1]?=some (ak aB (rs'[k]'(by omega)) 1 aC (M[k]'(by omega))):=by
    rw[List.getElem?_append_left (by simp[bu];omega)];exact gk
   have hml:(M[k]'(by omega)).length=n+w:=hMe _ (List.getElem_mem _)
   have hso:=HH.own (k+1) gk'
   have hsr:=HH.seq (k+1) gk' (fun _=>rfl)
   have hsl2:=hso.len
   have hsq:=(HH.seq 0 rfl (fun _=>rfl)).take n (by omega)
   rw[List.take_of_length_le (by omega)]at hsq
   refine hsq.oZ k rfl (by omega) fun a1 ha1 hb1=>?_
   refine⟨⟨Int.natCast_nonneg _,Int.ofNat_le.2 (by omega)⟩,?_⟩
   refine(iG _ _ h9 (hsr.drop n hso.cap) (by simp;omega)).mono ?_
   rintro v h10 ⟨c,rfl,R10⟩
   have H10:=(H9.comp R10).freeze 1 rfl (fun _=>rfl)
   refine⟨c,rfl,?_⟩
   refine H10.zi ag 0 1 (by decide) rfl rfl im (by simp;omega) fun s' h11 H11=>?_
   refine⟨(s',k+1),by dsimp only;rw[wrap_small _ (by omega) (by omega)];rfl,⟨by dsimp only;omega,?_⟩,by dsimp only;omega⟩
   dsimp only
   rw[hsol k hk']
   exact H11.del 1
  ·rw[List.take_of_length_le (by omega)]at H9
   refine⟨s,rfl,?_⟩
   have:=(Sp.zip R7.ah).comp H9
   exact this
end Go.Proofs.YtdoiokchdaoonaaGreat
namespace Go.Proofs.YtdoiokchdaoonaaGreat
open Go Go.Vc Go.Proofs Wl
set_option maxRecDepth 100000
def j9 (p:Pm) (seed:Int) (l:Nat):Int:=if bF p&&decide ((l:Int)=p.1*p.2.2)then(if jX p seed (dw p)then 0 else 8)else 1
abbrev xc (p:Pm) (seed:Int) (m:Sl):List Value:=[.int .i64 p.1,.int .i64 p.2.1,.int .i64 p.2.2,.int .u32 seed,.slice m.ptr m.len m.cap]
set_option maxHeartbeats 2000000 in
theorem Kr (p:Pm) (seed:Int) (data:Sl) (d:Row) (h:Heap) (hd:Rd h data 1 aC d) (hc:data.len≤data.cap):
  ab Tryz.prog rR #[kl p,.int .u32 seed,.slice data.ptr data.len data.cap] h fun v h'=>
   (j9 p seed d.length=0→∃(b:Addr) (m:Sl),v=.tuple #[.pointer (some b),.int .i64 0]∧Sp h h' [fA aP m 1 aC (ie p seed d),an b dM (xc p seed m)])∧
   (j9 p seed d.length≠0→v=.tuple #[.pointer none,.int .i64 (j9 p seed d.length)]∧Sp h h' []):=by
 have hdl:=hd.len
 refine zM p seed data ?_
 unfold tZ
 refine(Sp.refl h).boxed fun a h1 H1=>?_
 refine aR ?_
 refine⟨p,(H1.box 0 rfl).aH _ rfl,(dp p h1).mono ?_⟩
 rintro v h2 ⟨rfl,R2⟩
 have H2:=H1.comp R2
 have no:∀{h3:Heap} (x:Int),x≠0→j9 p seed d.length=x→Sp h h3 [an a aS [.int .i64 p.1,.int .i64 p.2.1,.int .i64 p.2.2]]→
   (j9 p seed d.length=0→∃(b:Addr) (m:Sl),Value.tuple #[.pointer none,.int .i64 x]=.tuple #[.pointer (some b),.int .i64 0]∧Sp h h3 [fA aP m 1 aC (ie p seed d),an b dM (xc p seed m)])∧
   (j9 p seed d.length≠0→Value.tuple #[.pointer none,.int .i64 x]=.tuple #[.pointer none,.int .i64 (j9 p seed d.length)]∧Sp h h3 []):=fun x hx hne H=>by
  refine⟨fun e=>absurd (hne.symm.trans e) hx,fun _=>⟨by rw[hne],.zip H.ah⟩⟩
 refine⟨_,rfl,aY (fun e=>no 1 (by decide) (by rw[j9,e];rfl) H2) fun hp=>?_⟩
 have hpp:=(bH p).1 hp
 obtain⟨K,hK⟩:∃K:Nat,p.1=K:=⟨p.1.toNat,by omega⟩
 obtain⟨Hh,hH⟩:∃H:Nat,p.2.1=H:=⟨p.2.1.toNat,by omega⟩
 obtain⟨w,hw⟩:∃w:Nat,p.2.2=w:=⟨p.2.2.toNat,by omega⟩
 have hKw:K*w≤16*24:=Nat.mul_le_mul (by omega) (by omega)
 have eKw:p.1*p.2.2=((K*w:Nat):Int):=by rw[hK,hw,Int.natCast_mul]
 refine⟨p.1,(H2.box 0 rfl).cell0 rfl,p.2.2,(H2.box 0 rfl).cell rfl,?_⟩
 rw[eKw,wrap_small _ (by omega) (by omega)]
 refine cg (fun e=>no 1 (by decide) (by rw[j9,hp,decide_eq_false (by rw[eKw];intro e2;exact e (by rw[hdl];exact e2))];rfl) H2) fun el=>?_
 have hlen:d.length=K*w:=by omega
 refine⟨p,(H2.box 0 rfl).aH _ rfl,(ru p seed h2).mono ?_⟩
 rintro v h3 ⟨rfl,R3⟩
 have H3:=H2.comp R3
 have hnew:j9 p seed d.length=if jX p seed (dw p)then 0 else 8:=by rw[j9,hp,decide_eq_true (by rw[eKw,hlen])];rfl
 refine⟨_,rfl,aY (fun e=>no 8 (by decide) (by rw[hnew,e];rfl) H3) fun hf=>?_⟩
 rw[hf,if_pos rfl]at hnew
 have B:bN p seed d K Hh w (K+Hh):=⟨hp,hf,hK,hH,hw,rfl,by omega,by omega,by omega,by omega,by omega,by omega,hlen⟩
 refine⟨p.2.1,(H3.box 0 rfl).cell rfl,?_⟩
 refine au (fun t:Sl×List Sl=>(t.1,(t.2.length:Int))) (fun t h'=>t.2.length≤Hh∧Sp h h' (an a aS [.int .i64 p.1,.int .i64 p.2.1,.int .i64 p.2.2]::kN t.1 t.2 (List.replicate t.2.length (bM w)))) (fun t=>Hh-t.2.length) (⟨none,0,0⟩,[]) rfl ⟨by simp,H3.nil aP 1 b9⟩ ?_
 rintro⟨s,rs⟩ h4 ⟨hk,H4⟩
 dsimp only at*
 refine aj (fun e=>?_) (fun e=>?_)
 ·refine⟨p.2.2,(H4.box 0 rfl).cell rfl,?_⟩
  refine H4.make ag aC gG (by decide) 0 rfl rfl w w hw hw (Nat.le_refl _) (by omega) fun z h5 hzl hzc H5=>?_
  refine H5.push ag 1 rfl im rfl (by decide) (fun _=>rfl) nh z rfl (by decide) (by omega) fun s' h6 H6=>?_
  refine⟨(s',rs++[z]),by dsimp only;rw[wrap_small _ (by omega) (by omega)];simp,⟨by simp;omega,?_⟩,by simp;omega⟩
  dsimp only
  have e7:kN s' (rs++[z]) (List.replicate rs.length (bM w)++[bM w])=ak aP s' 1 b9 (rs++[z])::(bu aB 1 aC rs (List.replicate rs.length (bM w))++[ak aB z 1 aC (bM w)]):=congrArg _ (ni (by simp) z (bM w))
  rw[show(rs++[z]).length=rs.length+1 by simp,List.replicate_succ',e7]
  exact H6
 ·have hrs:rs.length=Hh:=by omega
  rw[hrs]at H4
  refine⟨p.1,(H4.box 0 rfl).cell0 rfl,?_⟩
  let own:=bu aB 1 aC rs (List.replicate Hh (bM w))
  refine au (fun t:Sl×Nat=>(t.1,(t.2:Int))) (fun t h'=>t.2≤K∧Sp h h' (an a aS [.int .i64 p.1,.int .i64 p.2.1,.int .i64 p.2.2]::ak aP t.1 1 b9 (rs++(List.range t.2).map (zj data w))::own)) (fun t=>K-t.2) (s,0) rfl ⟨by simp,by simpa using H4⟩ ?_
  rintro⟨t,k⟩ h5 ⟨hk5,H5⟩
  dsimp only at*
  refine aj (fun e2=>?_) (fun e2=>?_)
  ·have hk':k<K:=by omega
   have m1:(k+1)*w≤K*w:=Nat.mul_le_mul_right w hk'
   have m2:k*w≤(k+1)*w:=Nat.mul_le_mul_right w (by omega)
   refine⟨p.2.2,(H5.box 0 rfl).cell rfl,p.2.2,(H5.box 0 rfl).cell rfl,?_⟩
   rw[wrap_small ((k:Int)+1) (by omega) (by omega)]
   have e5:(k:Int)*p.2.2=((k*w:Nat):Int):=by rw[hw,Int.natCast_mul]
   have e6:((k:Int)+1)*p.2.2=(((k+1)*w:Nat):Int):=by rw[hw,Int.natCast_mul];rfl
   rw[e5,e6,mH _ (by omega),mH _ (by omega),Int.toNat_natCast,Int.toNat_natCast]
   refine⟨⟨Int.natCast_nonneg _,Int.ofNat_le.2 m2,Int.ofNat_le.2 (by omega)⟩,?_⟩
   refine H5.push ag 1 rfl im rfl (by decide) (fun _=>rfl) nh (zj data w k) rfl (by decide) (by simp;omega) fun t' h6 H6=>?_
   refine⟨(t',k+1),rfl,⟨by dsimp only;omega,?_⟩,by dsimp only;omega⟩
   dsimp only
   rw[List.range_succ,List.map_append,←List.append_assoc]
   exact H6
  ·have hkK:k=K:=by omega
   subst hkK
   refine aR ?_
   have hright:eJ h5 t 1 aC (iz k Hh w d):=by
    refine⟨rs++(List.range k).map (zj data w),H5.seq 1 rfl (fun _=>rfl),by rw[tz];simp;omega,fun i r l h1' h2'=>?_⟩
    by_cases hi:i<Hh
    ·rw[List.getElem?_append_left (by omega),List.getElem?_eq_getElem (by omega)]at h1'
     rw[iz,List.getElem?_append_left (by simpa using hi)]at h2'
     have hz:l=bM w:=by simp[hi]at h2';exact h2'.symm
     have hr:rs[i]'(by omega)=r:=Option.some.inj h1'
     have g:(an a aS [.int .i64 p.1,.int .i64 p.2.1,.int .i64 p.2.2]::ak aP t 1 b9 (rs++(List.range k).map (zj data w))::own)[i+2]?=some (ak aB (rs[i]'(by omega)) 1 aC ((List.replicate Hh (bM w))[i]'(by simpa using hi))):=gw (by simpa using hrs) i (by simpa using hi)
     have:=H5.seq (i+2) g (fun _=>rfl)
     rw[List.getElem_replicate,hr]at this
     rw[hz];exact this
    ·obtain⟨j,rfl⟩:∃j,i=Hh+j:=⟨i-Hh,by omega⟩
     rw[List.getElem?_append_right (by omega),hrs,Nat.add_sub_cancel_left]at h1'
     rw[iz,List.getElem?_append_right (by simp),List.length_replicate,Nat.add_sub_cancel_left]at h2'
     have hj:j<k:=by
      have:=(List.getElem?_eq_some_iff.1 h1').1
      simpa using this
     simp[hj]at h1' h2'
     have m1:(j+1)*w≤k*w:=Nat.mul_le_mul_right w hj
     rw[←h1',←h2']
     exact(Seq.up hd H5.ah).piece hc w j (by omega)
   have hb5:=H5.box 0 rfl
   refine⟨p,hb5.aH _ rfl,p,hb5.aH _ rfl,(rq h5).mono ?_⟩
   rintro v h6 ⟨f,rfl,R6⟩
   have hb6:=hb5.ah R6.ah hb5.lt
   refine⟨some f,rfl,⟨hb6.cell0 rfl,hb6.cell rfl,hb6.cell rfl,hb6.cell0 rfl,hb6.cell rfl,hb6.cell rfl,trivial⟩,(yR p h6).mono ?_⟩
   rintro v h7 ⟨r7,rfl,R7⟩
   have Q7:=R6.comp R7
   have hb7:=hb5.ah Q7.ah hb5.lt
   refine⟨r7,rfl,⟨hb7.cell0 rfl,hb7.cell rfl,hb7.cell rfl,trivial⟩,?_⟩
   refine(vZ p seed r7 (dw p) h7 (Q7.seq 1 rfl (fun _=>rfl)) (by rw[dw,gy];omega)).mono ?_
   rintro v h8 ⟨r8,rfl,R8⟩
   have Q8:=Q7.comp R8
   refine⟨r8,rfl,trivial,?_⟩
   refine(G8 f r8 t _ _ (k+Hh) w h8 (Q8.box 0 rfl) (Q8.xt 2 rfl) (hright.up Q8.ah) B.xH (by rw[tz]) B.vf (mM B.len) (by omega) (by omega) B.J2).mono ?_
   rintro v h9 ⟨r9,rfl,R9⟩
   have Q9:=Q8.comp R9
   refine⟨(r9,0),rfl,trivial,?_⟩
   refine cg (fun e=>absurd rfl e) fun _=>?_
   have hb9:=hb5.ah Q9.ah hb5.lt
   refine⟨p,hb9.aH _ rfl,?_⟩
   refine Q9.boxed (t:=dM) fun b h10 Q10=>?_
   refine⟨fun _=>⟨b,r9,rfl,?_⟩,fun e=>absurd hnew e⟩
   have Q:=(Sp.zip H5.ah).comp Q10
   rw[←B.rF]at Q
   exact Q.take 3 (fun i A hi=>by
    cases i with
    |zero=>exact hi
    |succ i=>cases i with
     |zero=>exact hi
     |succ i=>simp at hi)
end Go.Proofs.YtdoiokchdaoonaaGreat
namespace Go.Proofs.YtdoiokchdaoonaaGreat
open Go Go.Vc Go.Proofs Wl
set_option maxRecDepth 100000
def Ah (h:Heap) (b:Addr) (p:Pm) (seed:Int) (M:bm):Prop:=∃m:Sl,bI h b dM (xc p seed m)∧eJ h m 1 aC M
theorem Ah.up {h h':Heap} {b:Addr} {p:Pm} {seed:Int} {M:bm} (hb:Ah h b p seed M) (hp:aD (fun b=>b<h.size) h h'):Ah h' b p seed M:=by
 obtain⟨m,h1,h2⟩:=hb
 exact⟨m,h1.ah hp h1.lt,h2.up hp⟩
theorem E9 {a t:Row} (hat:a.length=t.length) {k:Nat} (hk:k<t.length):(List.zipWith (fun x y=>y^^^Gf.mul 1 x) (a.take k) (t.take k)++t.drop k).set k (t[k]^^^(a[k]'(by omega)))=List.zipWith (fun x y=>y^^^Gf.mul 1 x) (a.take (k+1)) (t.take (k+1))++t.drop (k+1):=by
 have:=uH (c:=1) hat hk
 rw[Gf.one_mul]at this
 exact this
theorem MF {a t:Row} (hat:a.length=t.length) {k:Nat} (hk:k<t.length):(List.zipWith (fun x y=>y^^^Gf.mul 1 x) (a.take k) (t.take k)++t.drop k)[k]?=some t[k]:=by
 have hl:(List.zipWith (fun x y=>y^^^Gf.mul 1 x) (a.take k) (t.take k)).length=k:=by simp;omega
 rw[List.getElem?_append_right (by omega),hl,Nat.sub_self,List.getElem?_drop,Nat.add_zero,List.getElem?_eq_getElem hk]
theorem Fa (b:Addr) (p:Pm) (seed id:Int) (M:bm) (n w:Nat) (h:Heap) (hb:Ah h b p seed M) (hp:bF p=true) (hw:p.2.2=w) (hn:(cI p).toNat=n) (hM:aZ w M) (hl:M.length=n):
  ab Tryz.prog jS #[.pointer (some b),.int .i64 id] h fun v h'=>∃r:Sl,v=.slice r.ptr r.len r.cap∧Sp h h' [ak aB r 1 aC (if bV id then jB w M (ib n seed id)else[])]:=by
 obtain⟨m,hb1,hm⟩:=hb
 have hml:=hm.len
 have hpp:=(bH p).1 hp
 have hc:cI p=p.1+p.2.1:=by rw[cI,if_pos hp]
 refine og (some b) id ?_
 unfold kh
 have no:bV id=false→∃r:Sl,Value.slice none 0 0=.slice r.ptr r.len r.cap∧Sp h h [ak aB r 1 aC (if bV id then jB w M (ib n seed id)else[])]:=fun e=>by
  rw[e];exact⟨⟨none,0,0⟩,rfl,(Sp.refl h).nil aB 1 aC⟩
 refine aR (bw (fun e=>by cases e) fun _=>aj (fun e=>no (by simp[bV];omega)) fun e1=>aj (fun e=>no (by simp[bV];omega)) fun e2=>?_)
 have hid:bV id=true:=by simp[bV];omega
 refine⟨b,rfl,p.2.2,hb1.cell rfl,?_⟩
 refine(Sp.refl h).make ag aC gG (by decide) 0 rfl rfl w w hw hw (Nat.le_refl _) (by omega) fun o h1 hol hoc H1=>?_
 have hb2:=hb1.ah H1.ah hb1.lt
 refine⟨b,rfl,p,hb2.aH _ rfl,b,rfl,seed,hb2.cell rfl,(AX p seed id h1).mono ?_⟩
 rintro v h2 ⟨c,rfl,R2⟩
 rw[hp,hid,Bool.and_self,if_pos rfl,hn]at R2
 rw[hid,if_pos rfl]
 have H2:=H1.comp R2
 obtain⟨cs,hcs⟩:∃cs,cs=ib n seed id:=⟨_,rfl⟩
 have hin:∀x∈cs,0≤x∧x<(n:Int):=fun x hx=>td (by omega) (by omega) (by rw[←hcs];exact hx)
 have hcl2:cs.length≤n:=by rw[hcs];exact Aw (by omega) (by omega) _ _
 rw[←hcs]at H2⊢
 have hcl:=(H2.seq 1 rfl (fun _=>rfl)).len
 refine⟨c,rfl,trivial,?_⟩
 refine au (fun i:Nat=>(i:Int)) (fun i h'=>i≤cs.length∧Sp h h' [ak aB o 1 aC (jB w M (cs.take i)),ak aF c 1 aA cs]) (fun i=>cs.length-i) 0 rfl ⟨by omega,H2⟩ ?_
 rintro i h3 ⟨hi,H3⟩
 refine aj (fun e=>?_) (fun e=>?_)
 ·have hi':i<cs.length:=by omega
  have hx:=hin _ (List.getElem_mem hi')
  refine(H3.seq 1 rfl (fun _=>rfl)).cm i rfl hi' _ rfl ?_
  have hb3:=hb1.ah H3.ah hb1.lt
  refine⟨b,rfl,m,hb3.cell rfl,?_⟩
  obtain⟨rsm,hq⟩:=hm
  refine(hq.ah H3.ah).get cs[i].toNat (by omega) (by omega) fun r hr hrs=>?_
  have hrb:=hq.row _ r _ hrs (List.getElem?_eq_getElem (show cs[i].toNat<M.length by omega))
  obtain⟨row,hrow⟩:∃row,row=M[cs[i].toNat]'(by omega):=⟨_,rfl⟩
  have hrl:row.length=w:=by rw[hrow];exact hM _ (List.getElem_mem _)
  rw[←hrow]at hr hrb
  obtain⟨S,hS⟩:∃S,S=jB w M (cs.take i):=⟨_,rfl⟩
  have hSl:S.length=w:=by rw[hS];exact tw hM hl hin i hi
  have hrr:=hr.len
  have e2:jB w M (cs.take (i+1))=cY 1 row S:=by rw[aJ _ _ hi',CK,hS,hrow,cO (by omega)]
  rw[←hS]at H3
  refine au (fun k:Nat=>(k:Int)) (fun k h'=>k≤w∧Sp h h' [ak aB o 1 aC (List.zipWith (fun x y=>y^^^Gf.mul 1 x) (row.take k) (S.take k)++S.drop k),ak aF c 1 aA cs]) (fun k=>w-k) 0 rfl ⟨by omega,by simpa using H3⟩ ?_
  rintro k h4 ⟨hk,H4⟩
  have hr4:=hrb.ah H4.ah
  have hzl:(List.zipWith (fun x y=>y^^^Gf.mul 1 x) (row.take k) (S.take k)++S.drop k).length=w:=by simp;omega
  refine aj (fun e3=>?_) (fun e3=>?_)
  ·have hk':k<w:=by omega
   have hval:(List.zipWith (fun x y=>y^^^Gf.mul 1 x) (row.take k) (S.take k)++S.drop k)[k]'(by omega)=S[k]'(by omega):=by
    have:=MF (a:=row) (t:=S) (by omega) (show k<S.length by omega)
    rw[List.getElem?_eq_getElem (by omega)]at this
    exact Option.some.inj this
   refine hr4.cm k rfl (by omega) _ rfl ?_
   refine(H4.seq 0 rfl (fun _=>rfl)).cm k rfl (by omega) _ rfl ?_
   rw[hval,qo]
   refine H4.set ag 0 rfl (fun _=>rfl) rfl k rfl (by omega) _ rfl rfl rfl fun h5 H5=>?_
   refine⟨k+1,by rw[wrap_small _ (by omega) (by omega)];rfl,⟨by omega,?_⟩,by omega⟩
   rw[←E9 (by omega) (show k<S.length by omega)];exact H5
  ·have hkw:k=w:=by omega
   subst hkw
   rw[List.take_of_length_le (by omega),List.take_of_length_le (by omega),List.drop_of_length_le (by omega),List.append_nil]at H4
   refine⟨i+1,by rw[wrap_small _ (by omega) (by omega)];rfl,⟨by omega,?_⟩,by omega⟩
   rw[e2];exact H4
 ·rw[List.take_of_length_le (by omega)]at H3
  exact⟨o,rfl,H3.take 0 (fun i A hi=>by cases i with|zero=>exact hi|succ i=>simp at hi)⟩
end Go.Proofs.YtdoiokchdaoonaaGreat
namespace Go.Proofs.YtdoiokchdaoonaaGreat
open Go Go.Vc Go.Proofs Wl
set_option maxRecDepth 100000
theorem _root_.Wl.bN.j9 {p:Pm} {seed:Int} {d:Row} {K H w n:Nat} (B:bN p seed d K H w n):j9 p seed d.length=0:=by
 rw[Go.Proofs.YtdoiokchdaoonaaGreat.j9,B.may,B.full,B.len,B.k,B.s,decide_eq_true (by rw[Int.natCast_mul])];rfl
theorem _root_.Wl.bN.congr {p:Pm} {seed:Int} {d d':Row} {K H w n:Nat} (B:bN p seed d K H w n) (h:d'.length=K*w):bN p seed d' K H w n:=
 ⟨B.may,B.full,B.k,B.h,B.s,B.n,B.k1,B.k2,B.h1,B.h2,B.w1,B.w2,h⟩
theorem MG {p:Pm} {seed:Int} {d:Row} {K H w n:Nat} (B:bN p seed d K H w n) (data:Sl) (h:Heap) (hd:Rd h data 1 aC d) (hc:data.len≤data.cap):
  ab Tryz.prog rR #[kl p,.int .u32 seed,.slice data.ptr data.len data.cap] h fun v h'=>
   ∃(b:Addr) (m:Sl),v=.tuple #[.pointer (some b),.int .i64 0]∧Sp h h' [fA aP m 1 aC (ie p seed d),an b dM (xc p seed m)]:=
 (Kr p seed data d h hd hc).mono fun _ _ hh=>hh.1 B.j9
theorem _root_.Wl.bN.symbol {p:Pm} {seed:Int} {d:Row} {K H w n:Nat} (B:bN p seed d K H w n) (b:Addr) (id:Int) (h:Heap) (hb:Ah h b p seed (ie p seed d)):
  ab Tryz.prog jS #[.pointer (some b),.int .i64 id] h fun v h'=>∃r:Sl,v=.slice r.ptr r.len r.cap∧Sp h h' [ak aB r 1 aC (if bV id then jB w (ie p seed d) (ib n seed id)else[])]:=
 Fa b p seed id _ n w h hb B.may B.s B.ve B.xI.2 B.xI.1
end Go.Proofs.YtdoiokchdaoonaaGreat
namespace Go.Proofs.YtdoiokchdaoonaaGreat
open Go Go.Vc Go.Proofs Wl
set_option maxRecDepth 100000
def qv (s:rG):List Value:=[.complex .f64 s.ax s.ay,.complex .f64 s.sx s.sy,.int .i64 s.left,.int .i64 s.leg,.bool s.second]
theorem km {o:Option Nat} (h:o.isSome=true):o=some (o.getD 0):=by
 cases o with
 |none=>cases h
 |some x=>rfl
theorem G9 (h:Heap):ab Tryz.prog zY #[] h fun v h'=>∃a:Addr,v=.pointer (some a)∧Sp h h' [an a dv (qv Nb)]:=by
 refine yt ?_
 unfold se
 refine(Sp.refl h).boxed (t:=dv) fun a h1 H1=>?_
 exact⟨a,rfl,H1⟩
theorem I7 (a b:Nat) (h:Heap) (h1:(dT.mul a 0).isSome=true) (h2:(dT.mul b kv).isSome=true) (h3:(dT.sub (mr a 0) (mr b kv)).isSome=true) (h4:(dT.mul a kv).isSome=true) (h5:(dT.mul b 0).isSome=true) (h6:(dT.add (mr a kv) (mr b 0)).isSome=true):
  ab Tryz.prog BL #[.complex .f64 a b,.int .i64 1] h fun v h'=>v=.complex .f64 (tx a b) (ty a b)∧h'=h:=by
 refine Aa (a,b) 1 ?_
 unfold uo
 refine⟨by decide,by decide,?_⟩
 refine au (fun k:Nat=>(if k=0 then(a,b)else(tx a b,ty a b),(k:Int))) (fun k h'=>k≤1∧h'=h) (fun k=>1-k) 0 rfl ⟨by omega,rfl⟩ ?_
 rintro k h' ⟨hk,rfl⟩
 have e1:Int.tmod (IntKind.wrap .i64 (Int.tmod 1 4+4)) 4=1:=by decide
 dsimp only
 rw[e1]
 refine aj (fun e=>?_) (fun e=>?_)
 ·have:k=0:=by omega
  subst this
  refine⟨(tx a b,ty a b),LC (km h1) (km h2) (km h3) (km h4) (km h5) (km h6),?_⟩
  exact⟨1,rfl,⟨by omega,rfl⟩,by omega⟩
 ·have:k=1:=by omega
  subst this
  exact⟨rfl,rfl⟩
theorem Ks (a:Addr) (s:rG) (h:Heap) (hb:bI h a dv (qv s)) (hok:s.ok=true):ab Tryz.prog uh #[.pointer (some a)] h fun v h'=>v=.tuple #[]∧bI h' a dv (qv s.on)∧aD (fun b=>b≠a.block) h h':=by
 simp only[rG.ok,Bool.and_eq_true,decide_eq_true_eq]at hok
 obtain⟨⟨⟨⟨⟨⟨⟨⟨⟨⟨⟨k1,k2⟩,k3⟩,k4⟩,k5⟩,k6⟩,k7⟩,k8⟩,k9⟩,k10⟩,k11⟩,k12⟩:=hok
 refine sG (some a) ?_
 unfold mD
 have H0:aa (fun b=>b<h.size∧¬b=a.block) h h [an a dv (qv s)]:=.HE (fun b=>b=a.block) (fun b hb'=>by rw[hb'];exact hb.lt) ⟨hb,rfl⟩
 have fin:∀{h':Heap},aa (fun b=>b<h.size∧¬b=a.block) h h' [an a dv (qv s.on)]→Value.tuple #[]=.tuple #[]∧bI h' a dv (qv s.on)∧aD (fun b=>b≠a.block) h h':=fun H=>
  ⟨rfl,H.box 0 rfl,H.ah.1,fun k hk hne=>H.ah.2 k hk ⟨hk,hne⟩⟩
 refine⟨a,rfl,(s.ax,s.ay),hb.cell0 rfl,a,rfl,(s.sx,s.sy),hb.cell rfl,(j6 s.ax s.sx,j6 s.ay s.sy),LA (km k1) (km k2),a,rfl,?_⟩
 refine H0.pC ag 0 rfl rfl [.complex .f64 (j6 s.ax s.sx) (j6 s.ay s.sy)] rfl rfl rfl (by simp[qv]) fun h1 H1=>⟨trivial,?_⟩
 refine⟨a,rfl,s.left,(H1.box 0 rfl).cell (j:=2) rfl,a,rfl,?_⟩
 rw[Go.Vc.wrap_small (s.left-1) (by omega) (by omega)]
 refine H1.storeAt ag 0 rfl rfl (off:=2) rfl rfl rfl (by simp[qv]) fun h2 H2=>?_
 refine⟨a,rfl,s.left-1,(H2.box 0 rfl).cell (j:=2) rfl,?_⟩
 refine aj (fun e=>?_) (fun e=>?_)
 ·have eo:qv s.on=[.complex .f64 (j6 s.ax s.sx) (j6 s.ay s.sy),.complex .f64 s.sx s.sy,.int .i64 (s.left-1),.int .i64 s.leg,.bool s.second]:=by rw[rG.on,if_pos e];rfl
  refine fin ?_
  rw[eo];exact H2
 ·refine⟨a,rfl,(s.sx,s.sy),(H2.box 0 rfl).cell (j:=1) rfl,(I7 s.sx s.sy h2 k3 k4 k5 k6 k7 k8).mono ?_⟩
  rintro v h3 ⟨rfl,rfl⟩
  refine⟨(tx s.sx s.sy,ty s.sx s.sy),rfl,a,rfl,?_⟩
  refine H2.storeAt ag 0 rfl rfl (off:=1) rfl rfl rfl (by simp[qv]) fun h4 H4=>?_
  refine cQ (fun _ h'=>aa (fun b=>b<h.size∧¬b=a.block) h h' [an a dv [.complex .f64 (j6 s.ax s.sx) (j6 s.ay s.sy),.complex .f64 (tx s.sx s.sy) (ty s.sx s.sy),.int .i64 (s.left-1),.int .i64 (if s.second then s.leg+1 else s.leg),.bool s.second]]) ?_ ?_
  ·refine⟨a,rfl,s.second,(H4.box 0 rfl).cell (j:=4) rfl,bw (fun e2=>?_) (fun e2=>?_)⟩
   ·refine⟨a,rfl,s.leg,(H4.box 0 rfl).cell (j:=3) rfl,a,rfl,?_⟩
    rw[Go.Vc.wrap_small (s.leg+1) (by omega) (by omega)]
    refine H4.storeAt ag 0 rfl rfl (off:=3) rfl rfl rfl (by simp[qv]) fun h5 H5=>?_
    rw[if_pos e2];exact H5
   ·rw[if_neg (by rw[e2];decide)];exact H4
  ·rintro _ h6 H6
   refine⟨a,rfl,s.second,(H6.box 0 rfl).cell (j:=4) rfl,a,rfl,?_⟩
   refine H6.storeAt ag 0 rfl rfl (off:=4) rfl rfl rfl (by simp) fun h7 H7=>?_
   refine⟨a,rfl,_,(H7.box 0 rfl).cell (j:=3) rfl,a,rfl,?_⟩
   refine H7.storeAt ag 0 rfl rfl (off:=2) rfl rfl rfl (by simp) fun h8 H8=>?_
   have eo:qv s.on=[.complex .f64 (j6 s.ax s.sx) (j6 s.ay s.sy),.complex .f64 (tx s.sx s.sy) (ty s.sx s.sy),.int .i64 (if s.second then s.leg+1 else s.leg),.int .i64 (if s.second then s.leg+1 else s.leg),.bool (!s.second)]:=by rw[rG.on,if_neg e];rfl
   refine fin ?_
   rw[eo];exact H8
theorem FL (n:Nat) (h:Heap) (hn:n<64):ab Tryz.prog Ey #[.int .i64 n] h fun v h'=>v=.complex .f64 (gE n).ax (gE n).ay∧Sp h h' []:=by
 refine C9 n ?_
 unfold yk
 refine aj (fun e=>by omega) fun _=>aj (fun e=>by omega) fun _=>?_
 refine(G9 h).mono ?_
 rintro v h1 ⟨a,rfl,R1⟩
 refine⟨some a,rfl,?_⟩
 refine au (fun k:Nat=>(k:Int)) (fun k h'=>k≤n∧Sp h h' [an a dv (qv (gE k))]) (fun k=>n-k) 0 rfl ⟨by omega,R1⟩ ?_
 rintro k h2 ⟨hk,H2⟩
 refine dt (fun e=>?_) (fun e=>?_)
 ·have:k=n:=by omega
  subst this
  exact⟨a,rfl,((gE k).ax,(gE k).ay),(H2.box 0 rfl).cell0 rfl,rfl,.zip H2.ah⟩
 ·refine(Ks a (gE k) h2 (H2.box 0 rfl) (M4 k (by omega))).mono ?_
  rintro v h3 ⟨rfl,hb3,hp3⟩
  refine⟨(),rfl,k+1,by rw[Go.Vc.wrap_small _ (by omega) (by omega)];rfl,⟨by omega,H2.pD 0 rfl hp3 hb3⟩,by omega⟩
end Go.Proofs.YtdoiokchdaoonaaGreat
namespace Go.Proofs.YtdoiokchdaoonaaGreat
open Go Go.Vc Go.Proofs Wl
set_option maxRecDepth 100000
theorem A0 {a b:Int} (h1:-4≤a) (h2:a≤4) (h3:-4≤b) (h4:b≤4):dT.sub (bO a) (bO b)=some (bO (a-b)):=by
 have:=Mm (a+4).toNat (by omega) (b+4).toNat (by omega)
 rw[show((a+4).toNat:Int)-4=a by omega,show((b+4).toNat:Int)-4=b by omega,show((a+4).toNat:Int)-((b+4).toNat:Int)=a-b by omega]at this
 exact this
theorem A5 {a:Int} (h1:-8≤a) (h2:a≤8):dT.mul (bO a) (bO a)=some (bO (a*a)):=by
 have:=Mn (a+8).toNat (by omega)
 rw[show((a+8).toNat:Int)-8=a by omega]at this
 exact this
theorem DN (a:Int):((a.natAbs:Nat):Int)*(a.natAbs:Nat)=a*a:=Int.natAbs_mul_self
theorem I8 {a b:Int} (h1:-8≤a) (h2:a≤8) (h3:-8≤b) (h4:b≤8):dT.add (bO (a*a)) (bO (b*b))=some (bO (a*a+b*b)):=by
 have:=Mo a.natAbs (by omega) b.natAbs (by omega)
 rw[DN,DN]at this
 exact this
def uJ (i j:Nat):Int:=((dz i).x-(dz j).x)*((dz i).x-(dz j).x)+((dz i).y-(dz j).y)*((dz i).y-(dz j).y)
theorem Lb {a:Int} (h1:-8≤a) (h2:a≤8):0≤a*a∧a*a≤64:=by
 rw[←DN,←Int.natCast_mul]
 have:a.natAbs*a.natAbs≤8*8:=Nat.mul_le_mul (by omega) (by omega)
 omega
theorem oP {n:Nat} (h:n<64):(gE n).ax=bO (dz n).x∧(gE n).ay=bO (dz n).y∧-4≤(dz n).x∧(dz n).x≤4∧-4≤(dz n).y∧(dz n).y≤4:=by
 have:=Ml n h
 simp only[Bool.and_eq_true,decide_eq_true_eq,beq_iff_eq]at this
 obtain⟨⟨⟨⟨⟨a,b⟩,c⟩,d⟩,e⟩,f⟩:=this
 exact⟨a,b,c,d,e,f⟩
theorem I9 {i j:Nat} (hi:i<64) (hj:j<64):0≤uJ i j∧uJ i j≤128:=by
 have a:=oP hi
 have b:=oP hj
 have h1:=Lb (a:=(dz i).x-(dz j).x) (by omega) (by omega)
 have h2:=Lb (a:=(dz i).y-(dz j).y) (by omega) (by omega)
 unfold uJ;omega
theorem Kt (i j:Nat) (h:Heap) (hi:i<64) (hj:j<64):ab Tryz.prog Da #[.complex .f64 (gE i).ax (gE i).ay,.complex .f64 (gE j).ax (gE j).ay] h fun v h'=>v=.float .f64 (bO (uJ i j))∧h'=h:=by
 have a:=oP hi
 have b:=oP hj
 refine By ((gE i).ax,(gE i).ay) ((gE j).ax,(gE j).ay) ?_
 unfold vQ
 have hx:dT.sub (gE i).ax (gE j).ax=some (bO ((dz i).x-(dz j).x)):=by rw[a.1,b.1];exact A0 (by omega) (by omega) (by omega) (by omega)
 have hy:dT.sub (gE i).ay (gE j).ay=some (bO ((dz i).y-(dz j).y)):=by rw[a.2.1,b.2.1];exact A0 (by omega) (by omega) (by omega) (by omega)
 refine⟨(bO ((dz i).x-(dz j).x),bO ((dz i).y-(dz j).y)),LB hx hy,_,A5 (by omega) (by omega),_,A5 (by omega) (by omega),_,I8 (by omega) (by omega) (by omega) (by omega),rfl,rfl⟩
abbrev Lc:bB C.topA fW aF 1 [.int .i64 0] 8:=⟨_,_,rfl,rfl,rfl,rfl,rfl,rfl⟩
def jh (a b:Int):Int:=if a<b then-1 else if a>b then 1 else 0
theorem DO (m:Nat) (h:Heap) (hm:m<129):ab Tryz.prog rm #[.float .f64 (bO (m:Nat))] h fun v h'=>v=.bool false∧h'=h:=by
 refine p8 _ ?_
 unfold kY
 have:=Ir m hm m hm
 rw[show(FloatKind.format .f64).order (bO (m:Nat)) (bO (m:Nat))=some (compare m m)from this,Nat.compare_eq_eq.2 rfl]
 exact⟨rfl,rfl⟩
theorem Ja (m n:Nat) (h:Heap) (hm:m<129) (hn:n<129):ab Tryz.prog pj #[.float .f64 (bO (m:Nat)),.float .f64 (bO (n:Nat))] h fun v h'=>v=.int .i64 (jh m n)∧h'=h:=by
 refine om _ _ ?_
 unfold ki
 refine(DO m h hm).mono ?_
 rintro v h1 ⟨rfl,rfl⟩
 refine⟨_,rfl,(DO n h1 hn).mono ?_⟩
 rintro v h2 ⟨rfl,rfl⟩
 refine⟨_,rfl,bw (fun e=>by cases e) fun _=>bw (fun e=>by cases e) fun _=>?_⟩
 have ho:(FloatKind.format .f64).order (bO (m:Nat)) (bO (n:Nat))=some (compare m n):=Ir m hm n hn
 rw[ho]
 rcases Nat.lt_trichotomy m n with h1|h1|h1
 ·rw[Nat.compare_eq_lt.2 h1]
  refine bw (fun _=>⟨by rw[jh,if_pos (by omega)],rfl⟩) (fun e=>by cases e)
 ·subst h1
  rw[Nat.compare_eq_eq.2 rfl]
  refine bw (fun e=>by cases e) fun _=>bw (fun e=>by cases e) fun _=>⟨by rw[jh,if_neg (by omega),if_neg (by omega)],rfl⟩
 ·rw[Nat.compare_eq_gt.2 h1]
  refine bw (fun e=>by cases e) fun _=>bw (fun _=>⟨by rw[jh,if_neg (by omega),if_pos (by omega)],rfl⟩) (fun e=>by cases e)
theorem A6 (m:Int) (h:Heap):ab Tryz.prog nK #[.int .i64 m] h fun v h'=>v=.bool false∧h'=h:=by
 refine mE _ ?_
 unfold kG
 exact⟨by simp,rfl⟩
theorem Jb (m n:Int) (h:Heap):ab Tryz.prog mb #[.int .i64 m,.int .i64 n] h fun v h'=>v=.int .i64 (jh m n)∧h'=h:=by
 refine kX _ _ ?_
 unfold jD
 refine(A6 m h).mono ?_
 rintro v h1 ⟨rfl,rfl⟩
 refine⟨_,rfl,(A6 n h1).mono ?_⟩
 rintro v h2 ⟨rfl,rfl⟩
 refine⟨_,rfl,bw (fun e=>by cases e) fun _=>bw (fun e=>by cases e) fun _=>?_⟩
 refine aj (fun e=>⟨by rw[jh,if_pos e],rfl⟩) fun e=>aj (fun e2=>⟨by rw[jh,if_neg e,if_pos e2],rfl⟩) fun e2=>⟨by rw[jh,if_neg e,if_neg e2],rfl⟩
def FM (a b:Int):Int:=if a≠0 then a else b
theorem LP (s:Sl) (a b:Int) (h:Heap) (hs:Rd h s 1 aA [a,b]):ab Tryz.prog Bz #[.slice s.ptr s.len s.cap] h fun v h'=>v=.int .i64 (FM a b)∧h'=h:=by
 refine p7 s ?_
 unfold nH
 have hl:s.len=2:=hs.len
 refine au (fun k:Nat=>(k:Int)) (fun k h'=>h'=h∧k≤2∧(1≤k→a=0)∧(2≤k→b=0)) (fun k=>2-k) 0 rfl ⟨rfl,by omega,by omega,by omega⟩ ?_
 rintro k h' ⟨rfl,hk,k1,k2⟩
 refine aj (fun e=>?_) (fun e=>?_)
 ·rcases(show k=0∨k=1 by omega)with rfl|rfl
  ·refine hs.cm 0 rfl (by simp) a rfl ?_
   refine cg (fun e0=>⟨by rw[FM,if_pos e0],rfl⟩) (fun e0=>?_)
   exact⟨1,rfl,⟨rfl,by omega,fun _=>e0,by omega⟩,by omega⟩
  ·refine hs.cm 1 rfl (by simp) b rfl ?_
   have ha:=k1 (by omega)
   refine cg (fun e0=>⟨by rw[FM,if_neg (by simp[ha])],rfl⟩) (fun e0=>?_)
   exact⟨2,rfl,⟨rfl,by omega,fun _=>ha,fun _=>e0⟩,by omega⟩
 ·have ha:=k1 (by omega)
  have hb:=k2 (by omega)
  exact⟨by rw[FM,if_neg (by simp[ha]),hb],rfl⟩
abbrev Fr:=Int×Fin 129
def nU (x:Fr):List Value:=[.int .i64 x.1,.float .f64 (bO ((x.2:Nat):Int))]
def nV (x y:Fr):Int:=FM (jh (x.2:Nat) (y.2:Nat)) (jh x.1 y.1)
theorem DP (x y:Fr) (h:Heap):ab Tryz.prog ik #[.agg (nU x).toArray,.agg (nU y).toArray] h fun v h'=>v=.int .i64 (nV x y)∧aD (fun b=>b<h.size) h h':=by
 refine vo (x.1,bO ((x.2:Nat):Int)) (y.1,bO ((y.2:Nat):Int)) ?_
 unfold oF
 refine(Sp.refl h).boxed (t:=fK) fun a h1 H1=>?_
 refine H1.boxed (t:=fK) fun b h2 H2=>?_
 refine⟨_,(H2.box 0 rfl).cell (j:=1) rfl,_,(H2.box 1 rfl).cell (j:=1) rfl,_,(H2.box 0 rfl).cell0 rfl,_,(H2.box 1 rfl).cell0 rfl,?_⟩
 refine(Ja x.2 y.2 h2 x.2.isLt y.2.isLt).mono ?_
 rintro v h3 ⟨rfl,rfl⟩
 refine⟨_,rfl,⟨(H2.box 1 rfl).cell0 rfl,(H2.box 0 rfl).cell0 rfl,trivial⟩,(Jb _ _ h3).mono ?_⟩
 rintro v h4 ⟨rfl,rfl⟩
 refine⟨_,rfl,trivial,?_⟩
 refine H2.lit ag aA Lc rfl [jh (x.2:Nat) (y.2:Nat),jh x.1 y.1] rfl (show 2*1≤2^20 by decide) rfl fun s h5 H5=>⟨trivial,?_⟩
 refine(LP s _ _ h5 (H5.seq 2 rfl (fun _=>rfl))).mono ?_
 rintro v h6 ⟨rfl,rfl⟩
 exact⟨_,rfl,trivial,rfl,H5.ah⟩
theorem FN {a b:Int}:jh a b<0↔a<b:=by unfold jh;split<;>(try split)<;>omega
theorem A7 {a b:Int}:jh a b=0↔a=b:=by unfold jh;split<;>(try split)<;>omega
theorem Ld {x y:Fr}:ltOf nV x y=true↔((x.2:Nat):Int)<(y.2:Nat)∨(((x.2:Nat):Int)=(y.2:Nat)∧x.1<y.1):=by
 have h0:ltOf nV x y=true↔nV x y<0:=by simp[ltOf]
 rw[h0,nV,FM]
 by_cases h:jh (x.2:Nat) (y.2:Nat)=0
 ·rw[if_neg (by simp[h]),FN]
  have:=A7.1 h
  constructor
  ·exact fun h2=>.inr ⟨this,h2⟩
  ·rintro(h2|h2)
   ·omega
   ·exact h2.2
 ·rw[if_pos h,FN]
  have hne:((x.2:Nat):Int)≠(y.2:Nat):=fun e=>h (A7.2 e)
  constructor
  ·exact .inl
  ·rintro(h2|h2)
   ·exact h2
   ·exact absurd h2.1 hne
theorem uK {x y:Fr}:ltOf nV x y=false↔¬(((x.2:Nat):Int)<(y.2:Nat)∨(((x.2:Nat):Int)=(y.2:Nat)∧x.1<y.1)):=by
 rw[←Ld];simp
theorem MH:Sort.SWO (ltOf nV) where
 irrefl x:=uK.2 (by omega)
 trans x y z h1 h2:=by rw[Ld]at*;omega
 ntrans x y z h1 h2:=by rw[uK]at*;omega
theorem MI (x y:Fr) (h1:ltOf nV x y=false) (h2:ltOf nV y x=false):x=y:=by
 rw[uK]at h1 h2
 refine Prod.ext (by omega) (Fin.ext (by omega))
theorem DQ {e:TypeId} {s:Sl} {l:List Fr} {h:Heap} (ho:Own h e s 2 nU l) (hsz:l.length<2^40):
  ab Tryz.prog eM #[.slice s.ptr s.len s.cap,.func (.func ik) #[] #[]] h fun v h'=>v=.tuple #[]∧Own h' e s 2 nU (l.mergeSort fun x y=>!(ltOf nV) y x)∧aD (fun b=>¬s.on b) h h':=by
 have hk:∀x:Fr,(nU x).length=2:=fun _=>rfl
 refine Bc (P:=Tryz.prog) (id_:=eM) (g:=ik) (enc:=nU) (k:=2) (cf:=nV) hk ?_ ?_ (fun x y h=>DP x y h) ho hsz
 ·intro blk cap l w hc hH hb hz
  have:=AnyQ.slices_SortFunc_total Tryz.FF 2 Tryz.Mq Tryz.LG nU (fun _=>rfl) (fun x v hv=>by simp[nU]at hv;rcases hv with rfl|rfl<;>rfl) nV MH ik #[] blk 0 cap l.toArray w (enters_of Tryz.LH (by kernel_rfl) rfl) (by simpa using hc) hH hb (by simpa using hz) MI
  simp at this
  exact this
 ·intro p cap w
  exact AnyF.slices_SortFunc_none Tryz.FF p cap _ w
end Go.Proofs.YtdoiokchdaoonaaGreat
namespace Go.Proofs.YtdoiokchdaoonaaGreat
open Go Go.Vc Go.Proofs Wl
set_option maxRecDepth 100000
def nW (acc:List Int) (n:Int):List Int:=if 0≤n∧n<64∧acc.contains n=false then acc++[n]else acc
def eG (l:List Int):List Int:=l.foldl nW []
theorem oQ (l:List Int) {k:Nat} (hk:k<l.length):eG (l.take (k+1))=nW (eG (l.take k)) l[k]:=by
 rw[eG,aJ _ _ hk,List.foldl_append];rfl
theorem DR (l:List Int):∀k,k≤l.length→∀x,x∈eG (l.take k)↔x∈l.take k∧0≤x∧x<64
 |0,_,x=>by simp[eG]
 |k+1,hk,x=>by
  have ih:=DR l k (by omega)
  rw[oQ l (by omega),aJ _ _ (show k<l.length by omega),nW]
  by_cases h:0≤l[k]∧l[k]<64∧(eG (l.take k)).contains l[k]=false
  ·rw[if_pos h,List.mem_append,List.mem_append,List.mem_singleton,ih x]
   constructor
   ·rintro(h1|rfl)
    ·exact⟨.inl h1.1,h1.2⟩
    ·exact⟨.inr rfl,h.1,h.2.1⟩
   ·rintro⟨h1|h1,h2⟩
    ·exact .inl ⟨h1,h2⟩
    ·exact .inr h1
  ·rw[if_neg h,List.mem_append,List.mem_singleton,ih x]
   constructor
   ·rintro h1;exact⟨.inl h1.1,h1.2⟩
   ·rintro⟨h1|rfl,h2⟩
    ·exact⟨h1,h2⟩
    ·have:(eG (l.take k)).contains l[k]=true:=by
      cases hc:(eG (l.take k)).contains l[k]with
      |true=>rfl
      |false=>exact absurd ⟨h2.1,h2.2,hc⟩ h
     exact(ih _).1 (by simpa using this)
theorem yU (l:List Int):∀k,k≤l.length→(eG (l.take k)).Nodup
 |0,_=>by simp[eG]
 |k+1,hk=>by
  have ih:=yU l k (by omega)
  rw[oQ l (by omega),nW]
  split
  ·rename_i h
   rw[List.nodup_append]
   refine⟨ih,by simp,fun a ha b hb=>?_⟩
   rw[List.mem_singleton.1 hb]
   rintro rfl
   have:=h.2.2
   rw[List.contains_eq_mem]at this
   simp[ha]at this
  ·exact ih
theorem Ku (l:List Int) (k:Nat):(eG (l.take k)).length≤k:=by
 induction k with
 |zero=>simp[eG]
 |succ k ih=>
  by_cases hk:k<l.length
  ·rw[oQ l hk,nW]
   split
   ·simp;omega
   ·omega
  ·rw[List.take_of_length_le (by omega)]at ih⊢;omega
def rz (c:Nat) (n:Int):Fr:=(n,Fin.ofNat 129 (uJ n.toNat c).toNat)
theorem MJ {c:Nat} {n:Int} (hc:c<64) (h1:0≤n) (h2:n<64):(((rz c n).2:Nat):Int)=uJ n.toNat c:=by
 have:=I9 (i:=n.toNat) (j:=c) (by omega) hc
 show(((uJ n.toNat c).toNat%129:Nat):Int)=_
 omega
def mg (c:Nat) (l:List Int):List Int:=(((eG l).map (rz c)).mergeSort fun x y=>!(ltOf nV) y x).map (·.1)
def cy (object block:Int) (l:List Int):List Int:=if 0≤object∧object≤16777215∧0≤block∧block<8 then mg ((8*object+block)%64).toNat l else[]
def lN (acc:List Int):List Value:=(List.range 64).map fun i:Nat=>.bool (acc.contains (i:Int))
theorem LQ (acc:List Int) {n:Int} (h1:0≤n) (h2:n<64):(lN acc)[n.toNat]?=some (.bool (acc.contains n)):=by
 rw[lN,List.getElem?_map,List.getElem?_range (by omega),Option.map_some,show((n.toNat:Nat):Int)=n by omega]
theorem Kv (acc:List Int) {n:Int} (h1:0≤n) (h2:n<64):(lN acc).set n.toNat (.bool true)=lN (acc++[n]):=by
 apply List.ext_getElem?
 intro i
 rw[List.getElem?_set,lN,lN,List.getElem?_map,List.getElem?_map,List.length_map,List.length_range]
 by_cases hi:i<64
 ·rw[List.getElem?_range hi,Option.map_some,Option.map_some]
  by_cases h:n.toNat=i
  ·rw[if_pos h,if_pos (by omega),show((i:Nat):Int)=n by omega]
   simp
  ·rw[if_neg h]
   have:(acc++[n]).contains (i:Int)=acc.contains (i:Int):=by
    rw[List.contains_eq_mem,List.contains_eq_mem]
    simp;omega
   rw[this]
 ·rw[if_neg (by omega),List.getElem?_eq_none (by simp;omega)];rfl
abbrev Nq:bB C.topA zy fK 2 [.int .i64 0,.float .f64 0] 16:=⟨_,_,rfl,rfl,rfl,rfl,rfl,rfl⟩
theorem MK:∀x,∀c∈nU x,c.oneCell'=true:=by
 intro x c hc
 simp[nU]at hc
 rcases hc with rfl|rfl<;>rfl
set_option maxHeartbeats 2000000 in
theorem Fb (object block:Int) (live:Sl) (l:List Int) (h:Heap) (hl:Rd h live 1 aA l) (hsz:l.length≤2^30):
  ab Tryz.prog zN #[.int .i64 object,.int .i64 block,.slice live.ptr live.len live.cap] h fun v h'=>∃r:Sl,v=.slice r.ptr r.len r.cap∧Sp h h' [ak aF r 1 aA (cy object block l)]:=by
 have hll:=hl.len
 refine yc object block live ?_
 unfold rS
 have no:¬(0≤object∧object≤16777215∧0≤block∧block<8)→∃r:Sl,Value.slice none 0 0=.slice r.ptr r.len r.cap∧Sp h h [ak aF r 1 aA (cy object block l)]:=fun hn=>by
  rw[cy,if_neg hn];exact⟨⟨none,0,0⟩,rfl,(Sp.refl h).nil aF 1 aA⟩
 refine aR (aj (fun e=>no (by omega)) fun e1=>aj (fun e=>no (by omega)) fun e2=>aj (fun e=>no (by omega)) fun e3=>aj (fun e=>no (by omega)) fun e4=>?_)
 have hin:0≤object∧object≤16777215∧0≤block∧block<8:=by omega
 rw[cy,if_pos hin]
 rw[Go.Vc.wrap_small (8*object) (by omega) (by omega),Go.Vc.wrap_small (8*object+block) (by omega) (by omega),Int.tmod_eq_emod_of_nonneg (by omega)]
 obtain⟨c,hc⟩:∃c:Nat,(8*object+block)%64=c:=⟨((8*object+block)%64).toNat,by omega⟩
 have hc64:c<64:=by omega
 rw[hc,Int.toNat_natCast]
 refine⟨by decide,(FL c h hc64).mono ?_⟩
 rintro v h2 ⟨rfl,R2⟩
 refine⟨((gE c).ax,(gE c).ay),rfl,?_⟩
 refine R2.alloc ag rfl fun a h3 H3=>?_
 have H3':Sp h h3 [an a tG (lN []),ak fK ⟨none,0,0⟩ 2 nU []]:=H3.nil fK 2 nU
 refine au (fun t:Sl×Nat=>(t.1,(t.2:Int))) (fun t h'=>t.2≤l.length∧Sp h h' [an a tG (lN (eG (l.take t.2))),ak fK t.1 2 nU ((eG (l.take t.2)).map (rz c))]) (fun t=>l.length-t.2) (⟨none,0,0⟩,0) rfl ⟨by simp,H3'⟩ ?_
 rintro⟨s,k⟩ h4 ⟨hk,H4⟩
 dsimp only at*
 have hpl:=Ku l k
 refine aj (fun e=>?_) (fun e=>?_)
 ·have hk':k<l.length:=by omega
  have hs:=oQ l hk'
  obtain⟨acc,hacc⟩:∃acc,acc=eG (l.take k):=⟨_,rfl⟩
  rw[←hacc]at H4 hpl hs
  refine(Seq.up hl H4.ah).cm k rfl hk' _ rfl ?_
  obtain⟨x,hx⟩:∃x,x=l[k]:=⟨_,rfl⟩
  rw[←hx]at hs⊢
  refine cQ (fun t h'=>(t=true↔0≤x∧x<64∧acc.contains x=false)∧h'=h4) ?_ ?_
  ·refine aj (fun x0=>aj (fun x1=>?_) (fun x1=>⟨⟨fun e=>(by cases e),fun hh=>absurd hh.2.1 x1⟩,rfl⟩)) (fun x0=>⟨⟨fun e=>(by cases e),fun hh=>absurd hh.1 x0⟩,rfl⟩)
   refine⟨⟨x0,x1⟩,acc.contains x,?_,?_,rfl⟩
   ·rw[Nat.mul_one];exact(H4.box 0 rfl).cell (LQ acc x0 x1)
   ·cases acc.contains x<;>simp<;>omega
  ·rintro t h5 ⟨ht,rfl⟩
   refine bw (fun e=>?_) (fun e=>?_)
   ·obtain⟨x0,x1,x2⟩:=ht.1 e
    refine⟨⟨x0,x1⟩,?_⟩
    rw[Nat.mul_one]
    refine H4.storeAt ag 0 rfl rfl rfl rfl rfl (by simp[lN];omega) fun h6 H6=>?_
    have H6':Sp h h6 [an a tG (lN (acc++[x])),ak fK s 2 nU (acc.map (rz c))]:=by
     rw[←Kv acc x0 x1];exact H6
    obtain⟨n,hn⟩:∃n:Nat,x=n:=⟨x.toNat,by omega⟩
    subst hn
    refine(FL n h6 (by omega)).mono ?_
    rintro v h7 ⟨rfl,R7⟩
    refine⟨((gE n).ax,(gE n).ay),rfl,(Kt n c h7 (by omega) hc64).mono ?_⟩
    rintro v h8 ⟨rfl,rfl⟩
    have H8:=H6'.up R7.ah
    have ev:bO (uJ n c)=bO (((rz c (n:Int)).2:Nat):Int):=by rw[MJ hc64 (by omega) (by omega),Int.toNat_natCast]
    refine⟨_,rfl,?_⟩
    rw[ev]
    refine H8.push ag 1 rfl Nq rfl (by decide) (fun _=>rfl) MK (rz c (n:Int)) rfl (by decide) (by simp;omega) fun s' h9 H9=>?_
    refine⟨(s',k+1),by dsimp only;rw[Go.Vc.wrap_small _ (by omega) (by omega)];rfl,⟨by dsimp only;omega,?_⟩,by dsimp only;omega⟩
    dsimp only
    rw[hs,nW,if_pos ⟨x0,x1,x2⟩,List.map_append]
    exact H9
   ·refine⟨(s,k+1),by dsimp only;rw[Go.Vc.wrap_small _ (by omega) (by omega)];rfl,⟨by dsimp only;omega,?_⟩,by dsimp only;omega⟩
    dsimp only
    rw[hs,nW,if_neg (fun hh=>by rw[ht.2 hh]at e;cases e)]
    exact H4
 have hkl:k=l.length:=by omega
 subst hkl
 rw[List.take_length]at H4 hpl
 refine(DQ (H4.own 1 rfl) (by simp;omega)).mono ?_
 rintro v h5 ⟨rfl,ho5,hp5⟩
 have H5:=H4.iE 1 rfl hp5 ho5
 obtain⟨srt,hsrt⟩:∃srt,srt=((eG l).map (rz c)).mergeSort fun x y=>!(ltOf nV) y x:=⟨_,rfl⟩
 have hsl:srt.length=(eG l).length:=by rw[hsrt,List.length_mergeSort,List.length_map]
 have eo:mg c l=srt.map (·.1):=by rw[mg,←hsrt]
 rw[←hsrt]at H5
 have hfl:=(H5.own 1 rfl).len
 rw[eo]
 refine⟨(),rfl,?_⟩
 refine au (fun t:Sl×Nat=>(t.1,(t.2:Int))) (fun t h'=>t.2≤srt.length∧Sp h h' [ak fK s 2 nU srt,ak aF t.1 1 aA ((srt.take t.2).map (·.1))]) (fun t=>srt.length-t.2) (⟨none,0,0⟩,0) rfl ⟨by simp,(H5.del 0).nil aF 1 aA⟩ ?_
 rintro⟨o,i⟩ h6 ⟨hi,H6⟩
 dsimp only at*
 refine aj (fun e=>?_) (fun e=>?_)
 ·have hi':i<srt.length:=by omega
  refine(H6.seq 0 rfl (fun _=>rfl)).eS i rfl hi' (srt[i].1,bO ((srt[i].2:Nat):Int)) rfl ?_
  refine H6.alloc ag rfl fun y h7 H7=>?_
  refine H7.storeAll ag 2 rfl rfl [.int .i64 srt[i].1,.float .f64 (bO ((srt[i].2:Nat):Int))] rfl rfl rfl rfl fun h8 H8=>?_
  refine⟨srt[i].1,(H8.box 2 rfl).cell0 rfl,?_⟩
  refine H8.push ag 1 rfl Lc rfl (by decide) (fun _=>rfl) iD srt[i].1 rfl (by decide) (by simp;omega) fun o' h9 H9=>?_
  refine⟨(o',i+1),by dsimp only;rw[Go.Vc.wrap_small _ (by omega) (by omega)];rfl,⟨by dsimp only;omega,?_⟩,by dsimp only;omega⟩
  dsimp only
  rw[aJ _ _ hi',List.map_append]
  exact H9.del 2
 ·rw[List.take_of_length_le (by omega)]at H6
  exact⟨o,rfl,H6.take 1 (fun i A hi=>by cases i with|zero=>exact hi|succ i=>simp at hi)⟩
end Go.Proofs.YtdoiokchdaoonaaGreat
namespace Go.Proofs.YtdoiokchdaoonaaGreat
open Go Go.Vc Go.Proofs Wl
set_option maxRecDepth 100000
theorem Kw (l:List Int) (x:Int):x∈eG l↔x∈l∧0≤x∧x<64:=by
 have:=DR l l.length (Nat.le_refl _) x
 rwa [List.take_length]at this
theorem LR (l:List Int):(eG l).Nodup:=by
 have:=yU l l.length (Nat.le_refl _)
 rwa [List.take_length]at this
theorem yV (c:Nat) (l:List Int):(mg c l).Perm (eG l):=by
 have h:=(List.mergeSort_perm ((eG l).map (rz c)) fun x y=>!(ltOf nV) y x).map (·.1)
 rw[List.map_map]at h
 have e:((fun x:Fr=>x.1)∘rz c)=id:=rfl
 rw[e,List.map_id]at h
 exact h
theorem A8 (c:Nat) (l:List Int) (x:Int):x∈mg c l↔x∈l∧0≤x∧x<64:=by rw[(yV c l).mem_iff,Kw]
theorem Kx (c:Nat) (l:List Int):(mg c l).Nodup:=(yV c l).nodup_iff.2 (LR l)
def B2 (l:List Int) (i:Nat):Int:=l.getD i 0
def mh (o:List Int) (id:Int):Int:=if o=[]∨id<0 then-1 else B2 o (id%(o.length:Int)).toNat
theorem LS (s:Sl) (o:List Int) (id:Int) (h:Heap) (hs:Rd h s 1 aA o):ab Tryz.prog Ev #[.slice s.ptr s.len s.cap,.int .i64 id] h fun v h'=>v=.int .i64 (mh o id)∧h'=h:=by
 have hl:=hs.len
 refine C3 s id ?_
 unfold yd
 refine aR (dt (fun e=>⟨by rw[mh,if_pos (.inl (List.eq_nil_of_length_eq_zero (by omega)))],rfl⟩) fun e=>aj (fun e2=>⟨by rw[mh,if_pos (.inr e2)],rfl⟩) fun e2=>?_)
 refine⟨e,?_⟩
 have hne:¬(o=[]∨id<0):=by
  rintro(rfl|h2)
  ·simp at hl;omega
  ·exact e2 h2
 have hem:Int.tmod id ((s.len:Nat):Int)=((id%(o.length:Int)).toNat:Int):=by
  rw[Int.tmod_eq_emod_of_nonneg (by omega),hl]
  have:=Int.emod_nonneg id (show(o.length:Int)≠0 by omega)
  omega
 have hlt:(id%(o.length:Int)).toNat<o.length:=by
  have:=Int.emod_lt_of_pos id (show(0:Int)<o.length by omega)
  omega
 rw[hem]
 refine hs.cm _ rfl hlt _ rfl ⟨?_,rfl⟩
 rw[mh,if_neg hne,B2,List.getD_eq_getElem?_getD,List.getElem?_eq_getElem hlt];rfl
end Go.Proofs.YtdoiokchdaoonaaGreat
namespace Go.Proofs.YtdoiokchdaoonaaGreat
open Go Go.Vc Go.Proofs Wl
set_option maxRecDepth 100000
def xd (p:Pm) (seed:Int) (d:Row) (id:Int):List UInt8:=if bV id then jB p.2.2.toNat (ie p seed d) (ib (cI p).toNat seed id)else[]
def iL (m:aE) (o b seed:Int) (d:Row) (id:Int):dc:=⟨o,b,id,m.p,seed,xd m.p seed d id⟩
def yW (m:aE) (o b seed:Int) (d:Row) (order:List Int) (id:Int):Int×List UInt8:=(mh order id,dm (iL m o b seed d id))
def ji (m:aE) (o:Int) (tries:List Int) (bl:List (List UInt8)) (live:List Int) (i:Nat):List (Int×List UInt8):=
 (List.range (m.p.1+m.extra).toNat).map fun id:Nat=>yW m o i (fj o i (tries.getD i 0)) (bl.getD i []) (cy o i live) id
def cH (m:aE) (o:Int) (tries:List Int) (bl:List (List UInt8)) (live:List Int) (n:Nat):List (Int×List UInt8):=(List.range n).flatMap (ji m o tries bl live)
theorem my (m:aE) (o:Int) (tries:List Int) (bl:List (List UInt8)) (live:List Int) (n:Nat):cH m o tries bl live (n+1)=cH m o tries bl live n++ji m o tries bl live n:=by
 unfold cH;rw[List.range_succ,List.flatMap_append,List.flatMap_cons,List.flatMap_nil,List.append_nil]
theorem rA (m:aE) (o:Int) (tries:List Int) (bl:List (List UInt8)) (live:List Int) (i:Nat):(ji m o tries bl live i).length=(m.p.1+m.extra).toNat:=by simp[ji]
theorem nX (m:aE) (o:Int) (tries:List Int) (bl:List (List UInt8)) (live:List Int):∀n,(cH m o tries bl live n).length=n*(m.p.1+m.extra).toNat
 |0=>by simp[cH]
 |n+1=>by rw[my,List.length_append,nX m o tries bl live n,rA,Nat.succ_mul]
theorem wc (o b t:Int):0≤fj o b t∧fj o b t<4294967296:=by unfold fj;omega
section
variable {B:aq} {h0 h:Heap} {As:List HP} {a pw:Addr} {offs:Int} {da:List (Option Addr)} {w:Pow} {ds:aX}
theorem BR (x:bK) (m:aE) (xe:cV) (e:Wl.ck) (s:Sl) (b:List UInt8) (hS:St B h0 As fun h=>dG h x m∧lQ jV h xe e∧Rd h s 1 aC b) (hsc:s.len≤s.cap) (hz:ct m) (hp:bF m.p=true) (hx0:0≤m.extra∧m.extra≤16) (hbl:b.length≤2^20)
  (ht:bW m.p e.object (aT m.p b).length=some e.tries) (H:aa B h0 h (aU bn a pw (aL x) offs da w ds::As)):
  ab Tryz.prog o8 #[.pointer (some a),DK xe,.slice s.ptr s.len s.cap] h fun v h'=>∃(r:Sl) (ys:List (Int×Sl)),v=.tuple #[.slice r.ptr r.len r.cap,.bool true]∧
   aa B h0 h' (aU bn a pw (aL x) offs da w ds::cK gh 2 piv r ys (cH m e.object e.tries (aT m.p b) (bU ds m.drives) (aT m.p b).length)::As):=by
 refine oe (some a) xe s ?_
 unfold kf
 refine H.boxed fun a1 h1 H1=>?_
 have H1:=H1.cF
 have H1:aa B h0 h1 (aU bn a pw (aL x) offs da w ds::an a1 aQ (bE xe)::As):=H1.bc 2 [1,0]
 refine(dP x m (hS.at [_,_] H1).1 hz H1).mono ?_
 rintro _ h2 ⟨lv,rfl,R2⟩
 have H2:=(H1.cj R2).bc 3 [1,0,2]
 obtain⟨ok,hb2⟩:=aa.cC H2
 obtain⟨hx2,he2,hs2⟩:=hS.at [_,_,_] H2
 have hpv:(x.2.2.1,x.2.2.2.1,x.2.2.2.2.1)=m.p:=hx2.p
 have hmp:=(bH m.p).1 hp
 obtain⟨s1,s2,s3⟩:=kM hp
 obtain⟨c1,c2,c3⟩:=iC hp b.length
 have hll:(bU ds m.drives).length≤m.drives.length:=List.length_filter_le _ _
 have hdr:=hz.dr
 obtain⟨live,hlive⟩:∃live,live=bU ds m.drives:=⟨_,rfl⟩
 rw[←hlive]at H2 hll⊢
 obtain⟨bl,hbl'⟩:∃bl,bl=aT m.p b:=⟨_,rfl⟩
 have hblen:bl.length≤2^20:=by rw[hbl'];unfold aT;simp;omega
 have hbrow:∀r∈bl,r.length=dC m.p:=by
  rw[hbl'];intro r hr;unfold aT at hr
  obtain⟨i,_,rfl⟩:=List.mem_map.1 hr
  exact AV _ _ _
 refine⟨lv,rfl,a,rfl,(x.2.2.1,x.2.2.2.1,x.2.2.2.2.1),⟨by rw[addr_add];exact hb2.cell rfl,by rw[addr_add];exact hb2.cell rfl,by rw[addr_add];exact hb2.cell rfl,trivial⟩,?_⟩
 rw[hpv]
 refine(EX m.p s b h2 hp hs2 hsc (by omega)).mono ?_
 rintro _ h3 ⟨q,rfl,R3⟩
 rw[←hbl']at R3 ht⊢
 obtain⟨rs,H3⟩:=Go.Proofs.YtdoiokchdaoonaaGreat.aa.La (H2.cj R3) fun _=>rfl
 have H3:=(H3.Ng cA 2 piv gh).cF
 have H3:aa B h0 h3 (aU bn a pw (aL x) offs da w ds::mI cA ⟨none,0,0⟩ 2 piv gh (cH m e.object e.tries bl live 0)::cK (jY 1 aC) 1 b9 q rs bl::ak aF lv 1 aA live::an a1 aQ (bE xe)::As):=H3.bc 5 [2,0,1,3,4]
 have hql:=(H3.fX 2 rfl).1.len
 have hrl:=(H3.fX 2 rfl).2.1
 have htl:=fa ht
 refine⟨q,rfl,?_⟩
 obtain⟨nid,hnid⟩:∃nid:Nat,nid=(m.p.1+m.extra).toNat:=⟨_,rfl⟩
 have hnid32:nid≤32:=by omega
 refine au (fun t:Sl×Nat=>(t.1,(t.2:Int))) (fun t h'=>t.2≤bl.length∧aa B h0 h' (aU bn a pw (aL x) offs da w ds::mI cA t.1 2 piv gh (cH m e.object e.tries bl live t.2)::cK (jY 1 aC) 1 b9 q rs bl::ak aF lv 1 aA live::an a1 aQ (bE xe)::As)) (fun t=>bl.length-t.2) (⟨none,0,0⟩,0) rfl ⟨by simp,H3⟩ ?_
 rintro⟨o,i⟩ h4 ⟨hi,H4⟩
 dsimp only at*
 refine aj (fun e1=>?_) (fun e1=>?_)
 ·have hi':i<bl.length:=by omega
  have F4:=H4.fX 2 rfl
  have hb4:=H4.box 4 rfl
  obtain⟨hx4,he4,hs4⟩:=hS.at [_,_,_,_,_] H4
  obtain⟨_,hc4⟩:=aa.cC H4
  obtain⟨t,htt,htp⟩:=mf ht i (by omega)
  have hgt:e.tries.getD i 0=(t:Int):=by rw[List.getD_eq_getElem?_getD,List.getElem?_eq_getElem (by omega)];exact htt
  have hgb:bl.getD i []=bl[i]:=by rw[List.getD_eq_getElem?_getD,List.getElem?_eq_getElem hi'];rfl
  have c1':∀{h':Heap},bI h' a1 aQ (bE xe)→cellOf h' (a1.add 1)=some (.int .i64 e.object):=fun{h'} hb=>by rw[←he4.1.2.1];exact hb.cell rfl
  have cp:∀{h':Heap},bI h' a eu (cB (aL x) pw offs da)→ai h' (a.add 2) 0 [.int .i64 m.p.1,.int .i64 m.p.2.1,.int .i64 m.p.2.2]:=fun{h'} hb=>by
   rw[←hpv]
   exact⟨by rw[addr_add];exact hb.cell rfl,by rw[addr_add];exact hb.cell rfl,by rw[addr_add];exact hb.cell rfl,trivial⟩
  have hF4:=Fix.row F4 hi'
  refine F4.1.cm i rfl (by omega) (rs[i]'(by omega)) rfl ?_
  refine⟨e.object,c1' hb4,xe.2.2.2,hb4.cell rfl,?_⟩
  refine Seq.cm (f:=aA) he4.2 i rfl (by omega) (t:Int) (by rw[htt];rfl) ?_
  refine(mT _ _ _ h4).mono ?_
  rintro _ _ ⟨rfl,rfl⟩
  refine⟨_,rfl,⟨hb4.cell rfl,trivial⟩,a,rfl,m.p,cp hc4,?_⟩
  obtain⟨seed,hseed⟩:∃seed,seed=fj e.object i t:=⟨_,rfl⟩
  have hg:=(oN htp).2.1
  have hfull:jX m.p seed (dw m.p)=true:=by rw[hseed];exact hg
  obtain⟨K,Hh,w',n,BK⟩:=KW (seed:=seed) (d:=bl[i]) hp hfull (by rw[hbrow _ (List.getElem_mem hi'),s3])
  rw[←hseed]
  refine(MG BK (rs[i]'(by omega)) _ hF4.1 hF4.2).mono ?_
  rintro _ h6 ⟨bk,mm,rfl,R6⟩
  have H6:=(H4.comp R6).front
  have H6:aa B h0 h6 (aU bn a pw (aL x) offs da w ds::mI cA o 2 piv gh (cH m e.object e.tries bl live i)::cK (jY 1 aC) 1 b9 q rs bl::ak aF lv 1 aA live::an a1 aQ (bE xe)::fA aP mm 1 aC (ie m.p seed bl[i])::an bk dM (xc m.p seed mm)::As):=H6.bc 7 [2,3,4,5,6,0,1]
  refine⟨(some bk,0),rfl,cg (fun e2=>absurd rfl e2) fun _=>?_⟩
  have hb6:=H6.box 4 rfl
  refine⟨e.object,c1' hb6,(Fb e.object i lv live h6 (H6.seq 3 rfl fun _=>rfl) (by omega)).mono ?_⟩
  rintro _ h7 ⟨ord,rfl,R7⟩
  have H7:=(H6.cj R7).bc 8 [1,2,3,4,5,6,7,0]
  obtain⟨order,horder⟩:∃order,order=cy e.object i live:=⟨_,rfl⟩
  rw[←horder]at H7
  have hc7:=(aa.cC H7).2
  have hp1:x.2.2.1=m.p.1:=congrArg (·.1) hpv
  refine⟨ord,rfl,a,rfl,x.2.2.1,hc7.cell rfl,a,rfl,x.2.2.2.2.2.1,hc7.cell rfl,?_⟩
  have en:IntKind.wrap .i64 (x.2.2.1+x.2.2.2.2.2.1)=(nid:Int):=by rw[hp1,hx4.extra,Go.Vc.wrap_small _ (by omega) (by omega)];omega
  rw[en]
  have hblk:ji m e.object e.tries bl live i=(List.range nid).map fun id:Nat=>yW m e.object i seed bl[i] order id:=by
   unfold ji;rw[hgt,hgb,←hseed,←horder,←hnid]
  have hBl:(ji m e.object e.tries bl live i).length=nid:=by rw[rA,←hnid]
  obtain⟨pcs,hpcs⟩:∃pcs,pcs=cH m e.object e.tries bl live i:=⟨_,rfl⟩
  have hpl:pcs.length≤2^26:=by
   rw[hpcs,nX,←hnid]
   have:=Nat.mul_le_mul (show i≤2^20 by omega) hnid32
   omega
  obtain⟨Q,hQ⟩:∃Q,Q=ji m e.object e.tries bl live i:=⟨_,rfl⟩
  rw[←hQ]at hblk hBl
  rw[←hpcs]at H7
  refine au (fun t:Sl×Nat=>(t.1,(t.2:Int))) (fun t h'=>t.2≤nid∧aa B h0 h' (aU bn a pw (aL x) offs da w ds::mI cA t.1 2 piv gh (pcs++Q.take t.2)::cK (jY 1 aC) 1 b9 q rs bl::ak aF lv 1 aA live::an a1 aQ (bE xe)::fA aP mm 1 aC (ie m.p seed bl[i])::an bk dM (xc m.p seed mm)::ak aF ord 1 aA order::As)) (fun t=>nid-t.2) (o,0) rfl ⟨by simp,by simpa using H7⟩ ?_
  rintro⟨o2,id⟩ h8 ⟨hid,H8⟩
  dsimp only at*
  refine aj (fun e3=>?_) fun e3=>?_
  ·have hid':id<nid:=by omega
   have hb8:=H8.box 4 rfl
   have hc8:=(aa.cC H8).2
   have hblkA:Ah h8 bk m.p seed (ie m.p seed bl[i]):=⟨mm,H8.box 6 rfl,H8.xt 5 rfl⟩
   have hsym:xd m.p seed bl[i] id=if bV id then jB w' (ie m.p seed bl[i]) (ib n seed id)else[]:=by
    unfold xd;rw[BK.ve,show m.p.2.2.toNat=w' by have:=BK.s;omega]
   have held:∀{h':Heap},aD (fun b=>b<h8.size) h8 h'→aw.ok [((a.add 2),.int .i64 m.p.1),((a.add 2).add 1,.int .i64 m.p.2.1),((a.add 2).add 2,.int .i64 m.p.2.2),(a1.add 1,.int .i64 e.object)] h':=fun{h'} hp=>by
    obtain⟨q1,q2,q3,_⟩:=cp (hc8.ah hp hc8.lt)
    exact⟨q1,q2,q3,c1' (hb8.ah hp hb8.lt),trivial⟩
   refine cQ (fun(adr:Addr) h'=>∃r:Sl,aa B h0 h' (an adr aG (bh (e.object,(i:Int),(id:Int),m.p.1,m.p.2.1,m.p.2.2,seed,r))::ak aB r 1 aC (xd m.p seed bl[i] id)::aU bn a pw (aL x) offs da w ds::mI cA o2 2 piv gh (pcs++Q.take id)::cK (jY 1 aC) 1 b9 q rs bl::ak aF lv 1 aA live::an a1 aQ (bE xe)::fA aP mm 1 aC (ie m.p seed bl[i])::an bk dM (xc m.p seed mm)::ak aF ord 1 aA order::As)) ?_ ?_
   ·refine⟨e.object,c1' hb8,a,rfl,m.p,cp hc8,?_,?_⟩
    ·refine(BK.symbol bk id h8 hblkA).mono ?_
     rintro _ h9 ⟨r,rfl,R9⟩
     rw[←hsym]at R9
     have H9:=H8.cj R9
     refine⟨r,rfl,held R9.ah,H9.Cq ag rfl fun a28 h10 P10 H10=>⟨held (aa.up R9 P10).ah,?_⟩⟩
     have H10:=H10.cF
     refine H10.storeAll ag 0 rfl rfl (bh (e.object,(i:Int),(id:Int),m.p.1,m.p.2.1,m.p.2.2,seed,r)) rfl rfl rfl rfl fun h11 H11=>⟨trivial,r,H11⟩
    ·refine H8.Cq ag rfl fun a29 h12 P12 H12=>⟨held P12,?_⟩
     have H12:=H12.cF
     refine(BK.symbol bk id h12 (hblkA.up P12)).mono ?_
     rintro _ h13 ⟨r,rfl,R13⟩
     rw[←hsym]at R13
     have H13:=(H12.cj R13).bc 2 [1,0]
     refine⟨r,rfl,held (aa.up (Sp.zip P12) R13.ah).ah,?_⟩
     refine H13.storeAll ag 0 rfl rfl (bh (e.object,(i:Int),(id:Int),m.p.1,m.p.2.1,m.p.2.2,seed,r)) rfl rfl rfl rfl fun h14 H14=>⟨trivial,r,H14⟩
   ·rintro adr h15 ⟨r,H15⟩
    have hb15:=H15.box 0 rfl
    have hsr:=wc e.object i t
    rw[←hseed]at hsr
    refine⟨(e.object,(i:Int),(id:Int),m.p.1,m.p.2.1,m.p.2.2,seed,r),hb15.aH _ rfl,(LS ord order id h15 (H15.seq 9 rfl fun _=>rfl)).mono ?_⟩
    rintro _ h16 ⟨rfl,rfl⟩
    refine⟨_,rfl,⟨hb15.cell0 rfl,hb15.cell rfl,hb15.cell rfl,hb15.cell rfl,hb15.cell rfl,hb15.cell rfl,hb15.cell rfl,hb15.cell rfl,trivial⟩,?_⟩
    refine(po (e.object,(i:Int),(id:Int),m.p.1,m.p.2.1,m.p.2.2,seed,r) (iL m e.object i seed bl[i] id) h16 ⟨⟨rfl,rfl,rfl,rfl,rfl,hsr.1,hsr.2⟩,H15.seq 1 rfl fun _=>rfl⟩).mono ?_
    rintro _ h17 ⟨u,rfl,R17⟩
    have H17:=(H15.cj R17).gP 0 rfl (D:=EA gh (mh order id,u) (yW m e.object i seed bl[i] order id)) fun z hz=>⟨rfl,hz.1.seq (fun _=>rfl) hz.2⟩
    have hQid:Q[id]'(by omega)=yW m e.object i seed bl[i] order id:=by simp[hblk]
    refine⟨u,rfl,trivial,?_⟩
    refine H17.pE ag piv Dx rfl [(mh order id,u)] rfl (show 1*2≤2^20 by decide) rfl trivial ?_
    refine aa.MY ag H17 4 0 (by decide) (a:=(mh order id,u)) rfl rfl Dx rfl (by decide) (fun _=>rfl) Ac (parts:=#[(0,.agg #[.int .i64 (mh order id),.slice u.ptr u.len u.cap])]) (by kernel_rfl) (by decide) (by simp;omega) fun o3 h19 H19=>⟨trivial,?_⟩
    refine⟨(o3,id+1),by dsimp only;rw[Go.Vc.wrap_small _ (by omega) (by omega)];rfl,⟨by dsimp only;omega,?_⟩,by dsimp only;omega⟩
    dsimp only
    rw[aJ Q id (by omega),hQid,←List.append_assoc]
    exact H19.rest.rest.rest
  ·have hin:id=nid:=by omega
   subst hin
   rw[List.take_of_length_le (by omega)]at H8
   refine⟨(o2,i+1),by dsimp only;rw[Go.Vc.wrap_small _ (by omega) (by omega)];rfl,⟨by dsimp only;omega,?_⟩,by dsimp only;omega⟩
   dsimp only
   rw[my,←hpcs,←hQ]
   exact H8.bc 8 [0,1,2,3,4]
 ·have hin:i=bl.length:=by omega
  subst hin
  obtain⟨ys,H5⟩:=H4.Nh 1 rfl fun _=>rfl
  exact⟨o,ys,rfl,H5.bc 5 [0,1]⟩
end
end Go.Proofs.YtdoiokchdaoonaaGreat
namespace Wl
open Go
def ir (pages:Nat) (l:List (Int×List UInt8)) (k:Int):Int:=(pages:Int)+(l.filter fun y=>decide (y.1=k)).length
end Wl
namespace Go.Proofs.YtdoiokchdaoonaaGreat
open Go Go.Vc Go.Proofs Wl
set_option maxRecDepth 100000
theorem Jc (k:Int) (a30 a15:Addr) (pages:Nat) (r:Sl) (ys:List (Int×Sl)) (l:List (Int×List UInt8)) (h:Heap) (hpg:pages≤2^30) (hl:l.length≤2^30) (b30:bI h a30 aF [.int .i64 pages]) (b15:bI h a15 du [.slice r.ptr r.len r.cap]) (hf:lR gh 2 piv h r ys l):
  ab Tryz.prog fF #[.int .i64 k,.pointer (some a30),.pointer (some a15)] h fun v h'=>v=.int .i64 (ir pages l k)∧Sp h h' []:=by
 refine pP k a30 a15 ?_
 unfold kT
 have hrl:=hf.1.len
 have hyl:=hf.2.1
 refine⟨(pages:Int),b30.cell0 rfl,r,b15.cell0 rfl,?_⟩
 refine au (fun i:Nat=>(ir pages (l.take i) k,(i:Int))) (fun i h'=>i≤l.length∧Sp h h' []) (fun i=>l.length-i) 0 (by simp[ir]) ⟨by omega,Sp.refl h⟩ ?_
 rintro i h1 ⟨hi,H1⟩
 dsimp only
 have hcnt:(((l.take i).filter fun y=>decide (y.1=k)).length:Int)≤i:=by
  have:=List.length_filter_le (fun y:Int×List UInt8=>decide (y.1=k)) (l.take i)
  simp at this;omega
 refine aj (fun e=>?_) fun e=>?_
 ·have hi':i<l.length:=by omega
  have hf1:=lR.up hf H1.ah
  refine hf1.1.eS (g:=piv) i rfl (by omega) (ys[i]'(by omega)) rfl ?_
  refine H1.alloc ag rfl fun a6 h2 H2=>?_
  refine H2.storeAll ag 0 rfl rfl (piv (ys[i]'(by omega))) rfl rfl rfl rfl fun h3 H3=>?_
  have H3:Sp h h3 [an a6 cA (piv (ys[i]'(by omega)))]:=H3
  have hrow:=Fix.row hf1 hi'
  have hsnoc:ir pages (l.take (i+1)) k=ir pages (l.take i) k+(if l[i].1=k then 1 else 0):=by
   unfold ir
   rw[aJ _ _ hi',List.filter_append,List.length_append,List.filter_cons,List.filter_nil]
   split
   ·rename_i hd;rw[if_pos (of_decide_eq_true hd)];simp;omega
   ·rename_i hd;rw[if_neg (by simpa using hd)];simp
  refine⟨l[i].1,by rw[←hrow.1];exact(H3.box 0 rfl).cell0 rfl,dt (fun g=>?_) fun g=>?_⟩
  ·refine⟨i+1,?_,⟨by omega,.zip H3.ah⟩,by omega⟩
   rw[hsnoc,if_pos g,Go.Vc.wrap_small (ir pages (l.take i) k+1) (by unfold ir;omega) (by unfold ir;omega),Go.Vc.wrap_small _ (by omega) (by omega)];rfl
  ·refine⟨i+1,?_,⟨by omega,.zip H3.ah⟩,by omega⟩
   rw[hsnoc,if_neg g,Int.add_zero,Go.Vc.wrap_small _ (by omega) (by omega)];rfl
 ·rw[List.take_of_length_le (by omega)]
  exact⟨rfl,H1⟩
def gY (m:aE) (offs:Int) (w:Pow) (ds:aX) (name:ByteArray) (b:List UInt8):Int×aE×Pow×aX:=
 if cW m (iO w offs) ds name b.length≠0 then(cW m (iO w offs) ds name b.length,m,w,ds)else
 match bW m.p m.next (aT m.p b).length with
 |none=>(8,m,w,ds)
 |some t=>
  let live:=bU ds m.drives
  let l:=cH m m.next t (aT m.p b) live (aT m.p b).length
  let n:=dS m ⟨name,m.next,b.length,t⟩
  let N:=ir (aV n).length l
  if eV m ds live N=false then(7,m,w,ds)else
  if(makes m N live w ds).1≠0 then((makes m N live w ds).1,m,(makes m N live w ds).2)else
  let r2:=layAll l (makes m N live w ds).2.1 (makes m N live w ds).2.2
  if r2.1≠0 then(r2.1,m,r2.2)else
  ((layAll (bs n live) r2.2.1 r2.2.2).1,if(layAll (bs n live) r2.2.1 r2.2.2).1=0 then n else m,(layAll (bs n live) r2.2.1 r2.2.2).2)
end Go.Proofs.YtdoiokchdaoonaaGreat
namespace Go.Proofs.YtdoiokchdaoonaaGreat
open Go Go.Vc Go.Proofs Wl
set_option maxRecDepth 100000
theorem nY {m:aE} {d:Bool} {ds:aX} {name:ByteArray} {n:Nat} (h:cW m d ds name n=0):
  d=false∧gK name=true∧m.objs.any (kP name)=false∧¬(m.p.1*m.p.2.2*8<(n:Int)∨12≤m.objs.length)∧¬(bU ds m.drives=[]∨16777215<m.next∨2147483647≤m.seq):=by
 unfold cW at h
 split at h
 ·cases h
 ·rename_i h1
  split at h
  ·cases h
  ·rename_i h2
   split at h
   ·cases h
   ·rename_i h3
    split at h
    ·cases h
    ·rename_i h4
     split at h
     ·cases h
     ·rename_i h5
      exact⟨by simpa using h1,by simpa using h2,by simpa using h3,h4,h5⟩
theorem FO {m:aE} {b:List UInt8} (hp:bF m.p=true) (h:¬m.p.1*m.p.2.2*8<(b.length:Int)):(aT m.p b).length≤8:=by
 obtain⟨s1,s2,s3⟩:=kM hp
 obtain⟨c1,c2,c3⟩:=iC hp b.length
 unfold aT
 rw[List.length_map,List.length_range]
 refine Nat.le_of_not_lt fun h8=>?_
 have:=c3 8 (by omega)
 rw[←s3]at h
 omega
theorem ML {o:List Int} (ho:o≠[]) (id:Nat):mh o id∈o:=by
 unfold mh B2
 rw[if_neg (by rintro(h|h);exact ho h;omega)]
 have hl:0<o.length:=by cases o with|nil=>exact absurd rfl ho|cons=>simp
 have hlt:((id:Int)%(o.length:Int)).toNat<o.length:=by
  have:=Int.emod_lt_of_pos (id:Int) (show(0:Int)<o.length by omega)
  have:=Int.emod_nonneg (id:Int) (show(o.length:Int)≠0 by omega)
  omega
 rw[List.getD_eq_getElem?_getD,List.getElem?_eq_getElem hlt]
 exact List.getElem_mem hlt
theorem DS {m:aE} {o:Int} {tries:List Int} {bl:List (List UInt8)} {live:List Int} (ho:0≤o∧o≤16777215) (hl:live≠[]) (hin:∀k∈live,0≤k∧k<64) {n:Nat} (hn:n≤8) {y:Int×List UInt8} (hy:y∈cH m o tries bl live n):y.1∈live∧y.2.length≤64:=by
 unfold cH at hy
 obtain⟨i,hi,hy⟩:=List.mem_flatMap.1 hy
 have hi:=List.mem_range.1 hi
 unfold ji at hy
 obtain⟨id,_,rfl⟩:=List.mem_map.1 hy
 refine⟨?_,?_⟩
 ·show mh _ _∈live
  have hord:cy o i live=mg ((8*o+i)%64).toNat live:=by unfold cy;rw[if_pos (by omega)]
  have hmem:∀a,a∈cy o i live↔a∈live∧0≤a∧a<64:=fun a=>by rw[hord];exact A8 _ _ _
  have hne:cy o i live≠[]:=fun h=>by
   cases live with
   |nil=>exact hl rfl
   |cons a l=>
    have:=(hmem a).2 ⟨List.mem_cons_self,hin a List.mem_cons_self⟩
    rw[h]at this;cases this
  exact((hmem _).1 (ML hne id)).1
 ·show(dm _).length≤64
  unfold dm
  split
  ·rename_i hm
   refine Nat.le_of_eq (jN (by decide) (by decide) ?_)
   have:=lT hm
   omega
  ·simp
theorem FP {m:aE} {e:Wl.ck} (hz:ct m) (ho:m.objs.length≤11) (hn:e.name.size≤2^30) (ht:e.tries.length≤2^30):ct (dS m e):=by
 refine⟨hz.dr,?_,fun f hf=>?_⟩
 ·show((m.objs++[e]).mergeSort lJ).length≤2^30
  rw[List.length_mergeSort];simp;omega
 ·have hf:f∈(m.objs++[e]).mergeSort lJ:=hf
  rcases List.mem_append.1 ((List.mergeSort_perm _ _).mem_iff.1 hf)with h|h
  ·exact hz.nm f h
  ·rw[List.mem_singleton.1 h];exact⟨hn,ht⟩
end Go.Proofs.YtdoiokchdaoonaaGreat
namespace Go.Proofs.YtdoiokchdaoonaaGreat
open Go Go.Vc Go.Proofs Wl
set_option maxRecDepth 100000
section
variable {B:aq} {h0 h:Heap} {As:List HP} {a pw:Addr} {offs:Int} {da:List (Option Addr)} {w:Pow} {ds:aX}
theorem Ky (x:bK) (m:aE) (name:ByteArray) (s:Sl) (b:List UInt8) (hS:St B h0 As fun h=>Rd h s 1 aC b) (hsc:s.len≤s.cap) (hn:name.size≤2^40) (hz:ct m) (hp:bF m.p=true) (hx0:0≤m.extra∧m.extra≤16) (hin:∀k∈m.drives,0≤k∧k<64) (hdl:m.drives.length≤64) (hsq:0≤m.seq) (hnx:0≤m.next) (hbl:b.length≤2^20)
  (H:aa B h0 h (aU bn a pw (aL x) offs da w ds::cM x m::As)):
  ab Tryz.prog tH #[.pointer (some a),.string name,.slice s.ptr s.len s.cap] h fun v h'=>v=.int .i64 (gY m offs w ds name b).1∧
   ∃y,aa B h0 h' (aU bn a pw (aL y) offs da (gY m offs w ds name b).2.2.1 (gY m offs w ds name b).2.2.2::cM y (gY m offs w ds name b).2.1::As):=by
 refine sm (some a) name s ?_
 unfold mA
 have hsl:=(hS.at [_,_] H).len
 refine(DM x m name s b.length hsl hn (H.at 1 rfl) hz hp H).mono ?_
 rintro _ h1 ⟨rfl,R1⟩
 have H1:=H.up R1.ah
 refine⟨_,rfl,cg (fun e=>?_) fun e1=>?_⟩
 ·have ep:gY m offs w ds name b=(cW m (iO w offs) ds name b.length,m,w,ds):=by unfold gY;rw[if_pos e]
  rw[ep];exact⟨rfl,x,H1⟩
 obtain⟨z1,z2,z3,z4,z5⟩:=nY e1
 have z4a:¬m.p.1*m.p.2.2*8<(b.length:Int):=fun h=>z4 (.inl h)
 have z4b:m.objs.length≤11:=by have:¬12≤m.objs.length:=fun h=>z4 (.inr h);omega
 have z5a:bU ds m.drives≠[]:=fun h=>z5 (.inl h)
 have z5b:m.next≤16777215:=by have:¬16777215<m.next:=fun h=>z5 (.inr (.inl h));omega
 have z5c:m.seq≤2147483646:=by have:¬2147483647≤m.seq:=fun h=>z5 (.inr (.inr h));omega
 have h8:=FO hp z4a
 have hns:name.size≤12:=by unfold gK at z2;simp at z2;omega
 have hc1:=(aa.cC H1).2
 have hx1:dG h1 x m:=H1.at 1 rfl
 refine⟨a,rfl,x.2.1,hc1.cell rfl,H1.alloc ag rfl fun a4 h2 H2=>?_⟩
 have H2:=H2.cF
 refine H2.storeAll ag 0 rfl rfl (bE (name,x.2.1,(s.len:Int),⟨none,0,0⟩)) rfl rfl rfl rfl fun h3 H3=>?_
 have H3:aa B h0 h3 (an a4 aQ (bE (name,m.next,(b.length:Int),⟨none,0,0⟩))::aU bn a pw (aL x) offs da w ds::cM x m::As):=by rw[←hx1.next,←hsl];exact H3
 have cp:∀{h':Heap},bI h' a eu (cB (aL x) pw offs da)→ai h' (a.add 2) 0 [.int .i64 m.p.1,.int .i64 m.p.2.1,.int .i64 m.p.2.2]:=fun{h'} hb=>by
  rw[←hx1.p]
  exact⟨by rw[addr_add];exact hb.cell rfl,by rw[addr_add];exact hb.cell rfl,by rw[addr_add];exact hb.cell rfl,trivial⟩
 obtain⟨nb,hnb⟩:∃nb,nb=(aT m.p b).length:=⟨_,rfl⟩
 have hcnt:countP m.p (s.len:Nat)=(nb:Int):=by
  have:=(iC hp b.length).1
  rw[hnb,hsl];unfold aT;rw[List.length_map,List.length_range];omega
 refine cQ (fun(t:Sl×Bool) h'=>(bW m.p m.next nb=none→t.2=false∧aa B h0 h' (aU bn a pw (aL x) offs da w ds::cM x m::As))∧(∀l,bW m.p m.next nb=some l→t.2=true∧aa B h0 h' (ak aF t.1 1 aA l::an a4 aQ (bE (name,m.next,(b.length:Int),⟨none,0,0⟩))::aU bn a pw (aL x) offs da w ds::cM x m::As))) ?_ ?_
 ·have hb3:=H3.box 0 rfl
  have hc3:=(aa.cC (H3.bc 3 [1,0,2])).2
  refine⟨a,rfl,m.p,cp hc3,m.next,hb3.cell rfl,a,rfl,m.p,cp hc3,(rn m.p s.len h3 (by omega)).mono ?_⟩
  rintro _ h4 ⟨rfl,R4⟩
  have H4:=H3.up R4.ah
  have hc4:=hc3.ah R4.ah hc3.lt
  obtain⟨q1,q2,q3,_⟩:=cp hc4
  refine⟨_,rfl,⟨(H4.box 0 rfl).cell rfl,q1,q2,q3,trivial⟩,?_⟩
  rw[hcnt]
  refine(GY m.p m.next nb h4 (by omega)).mono ?_
  rintro _ h5 ⟨T0,T1⟩
  cases ht:bW m.p m.next nb with
  |none=>
   obtain⟨rfl,R5⟩:=T0 ht
   exact⟨(⟨none,0,0⟩,false),rfl,trivial,fun _=>⟨rfl,(H4.up R5.ah).bc 3 [1,2]⟩,fun l h=>by cases h⟩
  |some l=>
   obtain⟨r,rfl,R5⟩:=T1 l ht
   exact⟨(r,true),rfl,trivial,fun h=>(by cases h),fun l' h=>(by injection h with h;subst h;exact⟨rfl,H4.cj R5⟩)⟩
 rintro⟨tr,tb⟩ h6 ⟨T0,T1⟩
 dsimp only at T0 T1⊢
 cases ht:bW m.p m.next nb with
 |none=>
  obtain⟨rfl,H6⟩:=T0 ht
  have ep:gY m offs w ds name b=(8,m,w,ds):=by
   unfold gY;rw[if_neg (by rw[e1];decide),←hnb,ht]
  rw[ep]
  exact aY (fun _=>⟨rfl,x,H6⟩) fun e=>by cases e
 |some t=>
  obtain⟨rfl,H6⟩:=T1 t ht
  refine aY (fun e=>by cases e) fun _=>?_
  have htl:=fa ht
  refine H6.store ag 1 rfl rfl 3 [.slice tr.ptr tr.len tr.cap] rfl rfl rfl (by simp) fun h7 H7=>?_
  obtain⟨e,he⟩:∃e:Wl.ck,e=⟨name,m.next,b.length,t⟩:=⟨_,rfl⟩
  have H7:aa B h0 h7 (ak aF tr 1 aA e.tries::an a4 aQ (bE (name,m.next,(b.length:Int),tr))::aU bn a pw (aL x) offs da w ds::cM x m::As):=by rw[he];exact H7
  have H7:=H7.bc 4 [2,3,0,1]
  have hS7:St B h0 (cM x m::ak aF tr 1 aA e.tries::an a4 aQ (bE (name,m.next,(b.length:Int),tr))::As) fun h=>dG h x m∧lQ jV h (name,m.next,(b.length:Int),tr) e∧Rd h s 1 aC b:=fun Bs h' H'=>
   ⟨(St.gI 0 rfl fun _ hq=>hq) Bs h' H',(St.gI (A:=ak aF tr 1 aA e.tries) (Q:=fun h=>lQ jV h (name,m.next,(b.length:Int),tr) e) 1 rfl fun h' hq=>⟨by rw[he];exact⟨rfl,rfl,rfl⟩,hq.1.seq (fun _=>rfl) hq.2⟩) Bs h' H',(hS.cons.cons.cons) Bs h' H'⟩
  refine⟨(name,m.next,(b.length:Int),tr),(H7.box 3 rfl).aH _ rfl,?_⟩
  refine(BR x m (name,m.next,(b.length:Int),tr) e s b hS7 hsc hz hp hx0 hbl (by rw[he,←hnb];exact ht) H7).mono ?_
  rintro _ h8' ⟨r,ys,rfl,H8⟩
  obtain⟨live,hlive⟩:∃live,live=bU ds m.drives:=⟨_,rfl⟩
  obtain⟨l,hl⟩:∃l,l=cH m m.next t (aT m.p b) live nb:=⟨_,rfl⟩
  have hl':cH m e.object e.tries (aT m.p b) (bU ds m.drives) (aT m.p b).length=l:=by rw[hl,he,←hlive,←hnb]
  rw[hl']at H8
  refine⟨(r,true),rfl,H8.alloc ag rfl fun a15 h9 H9=>?_⟩
  have H9:=H9.cF
  refine H9.storeAll ag 0 rfl rfl [.slice r.ptr r.len r.cap] rfl rfl rfl rfl fun h10 H10=>?_
  refine aY (fun e=>by cases e) fun _=>?_
  obtain⟨n,hnd⟩:∃n,n=dS m e:=⟨_,rfl⟩
  have H10:aa B h0 h10 (an a15 du [.slice r.ptr r.len r.cap]::aU bn a pw (aL x) offs da w ds::cK gh 2 piv r ys l::cM x m::ak aF tr 1 aA e.tries::an a4 aQ (bE (name,m.next,(b.length:Int),tr))::As):=H10
  have H10:aa B h0 h10 (oY tr 1 aA e.tries::aU bn a pw (aL x) offs da w ds::cM x m::cK gh 2 piv r ys l::an a15 du [.slice r.ptr r.len r.cap]::an a4 aQ (bE (name,m.next,(b.length:Int),tr))::As):=(H10.freeze 4 rfl fun _=>rfl).bc 6 [4,1,3,2,0,5]
  have hxe:((name,m.next,(b.length:Int),tr):cV).1=e.name∧((name,m.next,(b.length:Int),tr):cV).2.1=e.object∧((name,m.next,(b.length:Int),tr):cV).2.2.1=e.length:=by rw[he];exact⟨rfl,rfl,rfl⟩
  have hwith:∀{h':Heap} {Cs:List HP},aa B h0 h' (oY tr 1 aA e.tries::Cs)→dG h' x m→ab Tryz.prog rL #[dX x,DK (name,m.next,(b.length:Int),tr)] h' fun v h''=>∃y:bK,v=dX y∧aa B h0 h'' (cM y n::Cs):=fun{h' Cs} H' hx'=>by
   rw[hnd];exact I4 x m _ e hx' hz ⟨hsq,by omega⟩ ⟨hnx,by omega⟩ z4b hxe H'
  have hc10:=(aa.cC (H10.bc 2 [1,0])).2
  have hb10:=H10.box 5 rfl
  have hx10:dG h10 x m:=H10.at 2 rfl
  refine cQ (fun(t:Addr×Sl) h'=>∃y,aa B h0 h' (aU bn a pw (aL x) offs da w ds::cM x m::cK gh 2 piv r ys l::an a15 du [.slice r.ptr r.len r.cap]::an t.1 ao (aL y)::cM y n::ak aF t.2 1 aA live::As)) ?_ ?_
  ·refine⟨a,rfl,x,hc10.aH _ rfl,(name,m.next,(b.length:Int),tr),hb10.aH _ rfl,?_,?_⟩
   ·refine(hwith H10 hx10).mono ?_
    rintro _ h11 ⟨y,rfl,H11⟩
    have H11:=H11.bc 6 [1,2,3,4,0]
    refine⟨y,rfl,trivial,?_,?_⟩
    ·refine(dP x m (H11.at 1 rfl) hz H11).mono ?_
     rintro _ h12 ⟨lv,rfl,R12⟩
     rw[←hlive]at R12
     have H12:=H11.cj R12
     refine⟨lv,rfl,trivial,H12.alloc ag rfl fun a21 h13 H13=>⟨trivial,?_⟩⟩
     have H13:=H13.cF
     refine H13.storeAll ag 0 rfl rfl (aL y) rfl rfl rfl rfl fun h14 H14=>⟨trivial,y,?_⟩
     exact H14.bc 7 [2,3,4,5,0,6,1]
    ·refine H11.alloc ag rfl fun a22 h15 H15=>⟨trivial,?_⟩
     have H15:=H15.cF
     have H15c:=H15.bc 6 [1,2,3,4,5,0]
     refine(dP x m (H15c.at 1 rfl) hz H15c).mono ?_
     rintro _ h16 ⟨lv,rfl,R16⟩
     rw[←hlive]at R16
     have H16:=(H15.cj R16).bc 2 [1,0]
     refine⟨lv,rfl,trivial,H16.storeAll ag 0 rfl rfl (aL y) rfl rfl rfl rfl fun h17 H17=>⟨trivial,y,?_⟩⟩
     exact H17.bc 7 [2,3,4,5,0,6,1]
   ·refine H10.Cq ag rfl fun a24 h18 P18 H18=>?_
    have hc18:=hc10.ah P18 hc10.lt
    have hb18:=hb10.ah P18 hb10.lt
    refine⟨⟨hb18.cell0 rfl,hb18.cell rfl,hb18.cell rfl,hb18.cell rfl,hc18.cell0 rfl,hc18.cell rfl,hc18.cell rfl,hc18.cell rfl,hc18.cell rfl,hc18.cell rfl,hc18.cell rfl,hc18.cell rfl,trivial⟩,?_⟩
    have H18:=(H18.cF).bc 7 [1,0,2,3,4,5]
    refine(hwith H18 (H18.at 3 rfl)).mono ?_
    rintro _ h19 ⟨y,rfl,H19⟩
    have H19c:=H19.bc 6 [2,3,4,5,0,1]
    refine⟨y,rfl,trivial,(dP x m (H19c.at 1 rfl) hz H19c).mono ?_⟩
    rintro _ h20 ⟨lv,rfl,R20⟩
    rw[←hlive]at R20
    have H20:=(H19c.cj R20).bc 7 [6,0,1,2,3,4,5]
    refine⟨lv,rfl,trivial,H20.storeAll ag 0 rfl rfl (aL y) rfl rfl rfl rfl fun h21 H21=>⟨trivial,y,?_⟩⟩
    exact H21.bc 7 [2,3,4,5,0,6,1]
  rintro⟨am,lv⟩ h22 ⟨y,H22⟩
  dsimp only at H22⊢
  have hzn:ct n:=by rw[hnd];exact FP hz z4b (by rw[he];show name.size≤2^30;omega) (by rw[he];show t.length≤2^30;omega)
  have hndl:n.drives=m.drives:=by rw[hnd];rfl
  have hll:live.length≤64:=by rw[hlive];exact Nat.le_trans (List.length_filter_le _ _) hdl
  have hlin:∀k∈live,0≤k∧k<64:=fun k hk=>by rw[hlive]at hk;exact hin k (List.mem_filter.1 hk).1
  have hnid:(m.p.1+m.extra).toNat≤32:=by have:=(bH m.p).1 hp;omega
  have hln:l.length≤256:=by
   rw[hl,nX]
   exact Nat.mul_le_mul (show nb≤8 by omega) hnid
  have hlp:∀z∈l,(0≤z.1∧z.1<64)∧z.2.length≤2^20:=fun z hz'=>by
   rw[hl]at hz'
   obtain⟨p1,p2⟩:=DS (m:=m) ⟨hnx,z5b⟩ (by rw[hlive];exact z5a) hlin (show nb≤8 by omega) hz'
   exact⟨hlin _ p1,Nat.le_trans p2 (by decide)⟩
  refine⟨y,(H22.box 4 rfl).aH _ rfl,(kI y n h22 (H22.at 5 rfl) hzn).mono ?_⟩
  rintro _ h23 ⟨pg,rfl,R23⟩
  have hpgl:=(aa.qI R23).1
  have hspl:=hJ n hzn
  obtain⟨pn,hpn⟩:∃pn,pn=(aV n).length:=⟨_,rfl⟩
  rw[←hpn]at hpgl hspl
  have H23:=H22.up R23.ah
  refine⟨pg,rfl,H23.alloc ag rfl fun a30 h24 H24=>?_⟩
  have H24:=H24.cF
  refine H24.storeAll ag 0 rfl rfl [.int .i64 (pg.len:Int)] rfl rfl rfl rfl fun h25 H25=>?_
  rw[hpgl]at H25
  have H25:aa B h0 h25 (aU bn a pw (aL x) offs da w ds::cM x m::cK gh 2 piv r ys l::an a15 du [.slice r.ptr r.len r.cap]::an am ao (aL y)::cM y n::ak aF lv 1 aA live::an a30 aF [.int .i64 (pn:Int)]::As):=H25.bc 8 [1,2,3,4,5,6,7,0]
  obtain⟨N,hN⟩:∃N,N=ir pn l:=⟨_,rfl⟩
  obtain⟨T,hT⟩:∃T,T=cM x m::cK gh 2 piv r ys l::an a15 du [.slice r.ptr r.len r.cap]::an am ao (aL y)::cM y n::ak aF lv 1 aA live::an a30 aF [.int .i64 (pn:Int)]::As:=⟨_,rfl⟩
  have tX:St B h0 T fun h=>dG h x m:=by rw[hT];exact St.gI 0 rfl fun _ hq=>hq
  have tF:St B h0 T fun h=>lR gh 2 piv h r ys l:=by rw[hT];exact St.gI 1 rfl fun _ hq=>hq
  have tB:St B h0 T fun h=>bI h a15 du [.slice r.ptr r.len r.cap]:=by rw[hT];exact St.gI (A:=an a15 du [.slice r.ptr r.len r.cap]) 2 rfl fun _ hq=>hq.1
  have tM:St B h0 T fun h=>bI h am ao (aL y):=by rw[hT];exact St.gI (A:=an am ao (aL y)) 3 rfl fun _ hq=>hq.1
  have tY:St B h0 T fun h=>dG h y n:=by rw[hT];exact St.gI 4 rfl fun _ hq=>hq
  have tL:St B h0 T fun h=>Rd h lv 1 aA live:=by rw[hT];exact St.gI (A:=ak aF lv 1 aA live) 5 rfl fun _ hq=>hq.1.seq (fun _=>rfl) hq.2
  have tN:St B h0 T fun h=>bI h a30 aF [.int .i64 (pn:Int)]:=by rw[hT];exact St.gI (A:=an a30 aF [.int .i64 (pn:Int)]) 6 rfl fun _ hq=>hq.1
  have tT:St B h0 T fun h=>G1 fF #[] #[.pointer (some a30),.pointer (some a15)] N live h:=fun Bs h' H' k hk=>by
   rw[hN]
   exact Jc k a30 a15 pn r ys l h' (by omega) (by omega) (tN Bs h' H') (tB Bs h' H') (tF Bs h' H')
  have fin:∀{h':Heap} {z:bK} {w':Pow} {ds':aX},aa B h0 h' (aU bn a pw (aL x) offs da w' ds'::T)→aa B h0 h' (aU bn a pw (aL x) offs da w' ds'::cM x m::As):=fun{h' z w' ds'} H'=>by
   rw[hT]at H'
   exact H'.bc 8 [0,1]
  rw[←hT]at H25
  have ep:gY m offs w ds name b=(if eV m ds live N=false then(7,m,w,ds)else if(makes m N live w ds).1≠0 then((makes m N live w ds).1,m,(makes m N live w ds).2)else
    if(layAll l (makes m N live w ds).2.1 (makes m N live w ds).2.2).1≠0 then((layAll l (makes m N live w ds).2.1 (makes m N live w ds).2.2).1,m,(layAll l (makes m N live w ds).2.1 (makes m N live w ds).2.2).2)else
    ((layAll (bs n live) (layAll l (makes m N live w ds).2.1 (makes m N live w ds).2.2).2.1 (layAll l (makes m N live w ds).2.1 (makes m N live w ds).2.2).2.2).1,if(layAll (bs n live) (layAll l (makes m N live w ds).2.1 (makes m N live w ds).2.2).2.1 (layAll l (makes m N live w ds).2.1 (makes m N live w ds).2.2).2.2).1=0 then n else m,(layAll (bs n live) (layAll l (makes m N live w ds).2.1 (makes m N live w ds).2.2).2.1 (layAll l (makes m N live w ds).2.1 (makes m N live w ds).2.2).2.2).2)):=by
   rw[hN,hpn,hl,hnd,he,hlive]
   unfold gY
   rw[if_neg (by rw[e1];decide),←hnb,ht]
  rw[ep]
  refine(G2 fF #[] #[.pointer (some a30),.pointer (some a15)] N x m lv live (by rfl) (fun Bs h' H'=>⟨tX Bs h' H',tT Bs h' H'⟩) hz (tL.at [_] H25) (by omega) hlin H25).mono ?_
  rintro _ h26 ⟨rfl,R26⟩
  have H26:=H25.up R26.ah
  refine⟨_,rfl,aY (fun g=>?_) fun g=>?_⟩
  ·rw[if_pos g];exact⟨rfl,x,fin (z:=x) H26⟩
  rw[if_neg (by rw[g];decide)]
  refine(G4 fF #[] #[.pointer (some a30),.pointer (some a15)] N x m lv live (by rfl) (fun Bs h' H'=>⟨tX Bs h' H',tT Bs h' H',tL Bs h' H'⟩) hz (by omega) hlin H26).mono ?_
  rintro _ h27 ⟨rfl,H27⟩
  obtain⟨m1,hm1⟩:∃m1,m1=makes m N live w ds:=⟨_,rfl⟩
  rw[←hm1]at H27⊢
  refine⟨_,rfl,cg (fun g2=>?_) fun g2=>?_⟩
  ·rw[if_pos g2];exact⟨rfl,x,fin (z:=x) H27⟩
  rw[if_neg (by simpa using g2)]
  refine⟨r,(tB.at [_] H27).cell0 rfl,(uB r ys l tF (by omega) hlp H27).mono ?_⟩
  rintro _ h28 ⟨rfl,H28⟩
  obtain⟨r2,hr2⟩:∃r2,r2=layAll l m1.2.1 m1.2.2:=⟨_,rfl⟩
  rw[←hr2]at H28⊢
  refine⟨_,rfl,cg (fun g3=>?_) fun g3=>?_⟩
  ·rw[if_pos g3];exact⟨rfl,x,fin (z:=x) H28⟩
  rw[if_neg (by simpa using g3)]
  refine⟨y,(tM.at [_] H28).aH _ rfl,(G7 x y n lv live (fun Bs h' H'=>⟨tY Bs h' H',tL Bs h' H'⟩) hzn (by omega) hlin H28).mono ?_⟩
  rintro _ h29 ⟨rfl,Q1,Q0⟩
  refine⟨_,rfl,rfl,?_⟩
  by_cases g4:(layAll (bs n live) r2.2.1 r2.2.2).1=0
  ·obtain⟨y2,H29⟩:=Q0 g4
   rw[if_pos g4]
   rw[hT]at H29
   exact⟨y2,H29.bc 9 [0,1]⟩
  ·rw[if_neg g4]
   exact⟨x,fin (z:=x) (Q1 g4)⟩
end
end Go.Proofs.YtdoiokchdaoonaaGreat
namespace Go.Vc
open Go Wl Go.Proofs.YtdoiokchdaoonaaGreat
section
variable {α:Type} {B:aq} {h0 h:Heap} {As:List HP} {k:Nat} {f:α→List Value} {L M:List (Sl×List α)}
theorem aa.Kz (H:aa B h0 h (dB k f L::dB k f M::As)):aa B h0 h (dB k f (L++M)::As):=by
 have H1:aa B h0 h ((dB k f M).sep (dB k f L)::As):=H.lH
 refine H1.gP 0 rfl fun q ⟨q1,q2,_,b,c,d,e⟩ y hy=>?_
 rcases List.mem_append.1 hy with hy|hy
 ·exact(e y hy).mono c
 ·exact(d y hy).mono b
end
end Go.Vc
namespace Wl
open Go
def iM (o b:Int) (recs:List dc):List (Int×List UInt8):=(recs.filter fun r=>decide (r.object=o)&&decide (r.block=b)).map fun r=>(r.id,r.data)
def uL (m:aE) (o b:Int) (l:List (List UInt8)):List (Int×List UInt8):=((fE m l).filter fun r=>decide (r.object=o)&&decide (r.block=b)).map fun r=>(r.id,r.data)
def qw (m:aE) (ds:aX) (o b:Int) (k:Int):List (Int×List UInt8):=match bQ ds k with|some d=>uL m o b d.l|none=>[]
def gN (m:aE) (ds:aX) (slots:List Int) (o b:Int):List (Int×List UInt8):=slots.flatMap (qw m ds o b)
end Wl
namespace Go.Proofs.YtdoiokchdaoonaaGreat
open Go Go.Vc Go.Proofs Wl
set_option maxRecDepth 100000
abbrev No:bB C.topA xK fe 2 [.int .i64 0,.slice none 0 0] 32:=⟨_,_,rfl,rfl,rfl,rfl,rfl,rfl⟩
def Ha (pool:List (Sl×List UInt8)) (p:(Int×Sl)×(Int×List UInt8)):Prop:=p.1.1=p.2.1∧(p.1.2,p.2.2)∈pool
section
variable {B:aq} {h0 h:Heap} {As:List HP} {a pw:Addr} {offs:Int} {da:List (Option Addr)} {w:Pow} {ds:aX} {mc:List Value}
theorem DT (x:bK) (m:aE) (s:Sl) (slots:List Int) (o b:Int) (hx:dG h x m) (hz:ct m) (hs:Rd h s 1 aA slots) (hl:slots.length≤2^10) (hd:∀k∈slots,∃d,bQ ds k=some d) (H:aa B h0 h (aU bn a pw mc offs da w ds::As)):
  ab Tryz.prog zJ #[.func (.func bP) #[.pointer (some a)] #[],.slice s.ptr s.len s.cap,dX x,.int .i64 o,.int .i64 b] h fun v h'=>∃(r:Sl) (ys:List (Int×Sl)),v=.slice r.ptr r.len r.cap∧Sp h h' [cK gh 2 piv r ys (gN m ds slots o b)]:=by
 refine xW (bP,#[.pointer (some a)],#[]) s x o b ?_
 unfold rO
 have hsl:=hs.len
 refine(Sp.refl h).boxed fun a1 h1 H1=>?_
 have H1:Sp h h1 [an a1 ao (aL x)]:=H1
 have H1:Sp h h1 [ak fe ⟨none,0,0⟩ 2 piv (([]:List ((Int×Sl)×(Int×List UInt8))).map Prod.fst),dB 1 aC [],an a1 ao (aL x)]:=((H1.FH 1 aC).nil fe 2 piv).cN [2,0,1]
 refine au (fun t:Sl×Nat×List ((Int×Sl)×(Int×List UInt8))×List (Sl×List UInt8)=>(t.1,(t.2.1:Int))) (fun t h'=>t.2.1≤slots.length∧t.2.2.1.length≤t.2.1*512∧t.2.2.1.map Prod.snd=gN m ds (slots.take t.2.1) o b∧(∀p∈t.2.2.1,Ha t.2.2.2 p)∧Sp h h' [ak fe t.1 2 piv (t.2.2.1.map Prod.fst),dB 1 aC t.2.2.2,an a1 ao (aL x)]) (fun t=>slots.length-t.2.1) (⟨none,0,0⟩,0,[],[]) rfl ⟨by simp,by simp,by simp[gN],by simp,H1⟩ ?_
 rintro⟨u,i,L,P⟩ h2 ⟨hi,hLl,hLs,hLp,H2⟩
 dsimp only at*
 refine aj (fun e=>?_) fun e=>?_
 ·have hi':i<slots.length:=by omega
  refine(Seq.up hs H2.ah).cm i rfl hi' slots[i] rfl (aR ?_)
  obtain⟨d,hdd⟩:=hd slots[i] (List.getElem_mem hi')
  have Hc:=H.up H2.ah
  obtain⟨ok,hb⟩:=aa.cC Hc
  have hb1:=H2.box 2 rfl
  refine⟨x,hb1.aH _ rfl,eI (by rfl) ?_⟩
  refine(jW slots[i] ok hb).mono ?_
  rintro _ h3 ⟨rfl,rfl⟩
  refine⟨_,rfl,⟨hb1.cell0 rfl,hb1.cell rfl,hb1.cell rfl,hb1.cell rfl,hb1.cell rfl,hb1.cell rfl,hb1.cell rfl,hb1.cell rfl,trivial⟩,?_⟩
  rcases j8 ok slots[i]with⟨c1,c2⟩|⟨n,d',bb,c0,c1,c2,c3,c4,c5⟩
  ·rw[hdd]at c1;cases c1
  have hdd':d=d':=by rw[c3]at hdd;injection hdd with hdd;exact hdd.symm
  subst hdd'
  rw[c5]
  obtain⟨bb',hb',H3⟩:=Go.Vc.aa.jf Hc c2
  rw[c4]at hb'
  injection hb' with hb'
  injection hb' with hb'
  subst hb'
  obtain⟨okd,sd,bd,H3o⟩:=aa.lL H3
  have hlen:=okd.len;have hroom:=okd.room
  refine(uC bb pw d sd bd x m h3 (H3o.box 0 rfl) ((H3o.bc 2 [1]).xx fun _=>rfl) okd (hx.up H2.ah) hz).mono ?_
  rintro _ h4 ⟨r7,yr,rfl,R4⟩
  have hrl:=oO m d.l
  obtain⟨recs,hrecs⟩:∃recs,recs=fE m d.l:=⟨_,rfl⟩
  rw[←hrecs]at R4 hrl
  have H4:=(H2.cj R4).bc 4 [1,2,0,3]
  have F4:=H4.fX 2 rfl
  have hyl:=F4.2.1
  have hr7:=F4.1.len
  refine⟨r7,rfl,trivial,?_⟩
  have hsym:qw m ds o b slots[i]=iM o b recs:=by unfold qw;rw[hdd];show uL m o b d.l=_;unfold uL iM;rw[hrecs]
  have hnext:gN m ds (slots.take (i+1)) o b=gN m ds (slots.take i) o b++iM o b recs:=by
   unfold gN;rw[aJ _ _ hi',List.flatMap_append,List.flatMap_cons,List.flatMap_nil,List.append_nil,hsym]
  obtain⟨Q,hQ⟩:∃Q:List (Sl×List UInt8),Q=(yr.zip recs).map fun z=>(z.1.2.2.2.2.2.2.2,z.2.data):=⟨_,rfl⟩
  refine au (fun t:Sl×Nat×List ((Int×Sl)×(Int×List UInt8))=>(t.1,(t.2.1:Int))) (fun t h'=>t.2.1≤recs.length∧t.2.2.length≤L.length+t.2.1∧t.2.2.map Prod.snd=gN m ds (slots.take i) o b++iM o b (recs.take t.2.1)∧(∀p∈t.2.2,Ha (P++Q) p)∧Sp h h' [ak fe t.1 2 piv (t.2.2.map Prod.fst),dB 1 aC P,cK dd 8 bh r7 yr recs,an a1 ao (aL x)]) (fun t=>recs.length-t.2.1) (u,0,L) rfl ⟨by simp,by simp,by simp[iM,hLs],fun p hp=>⟨(hLp p hp).1,List.mem_append_left _ (hLp p hp).2⟩,H4⟩ ?_
  rintro⟨u2,j,L2⟩ h5 ⟨hj,hL2,hs2,hp2,H5⟩
  dsimp only at*
  have F5:=H5.fX 2 rfl
  refine aj (fun e2=>?_) fun e2=>?_
  ·have hj':j<recs.length:=by omega
   have hrow:=Fix.row F5 hj'
   obtain⟨⟨g1,g2,g3,g4,g5,g6,g7⟩,g8⟩:=hrow
   refine F5.1.eS (g:=bh) j rfl (by omega) (yr[j]'(by omega)) rfl ?_
   refine H5.alloc ag rfl fun a12 h6 H6=>?_
   refine H6.storeAll ag 4 rfl rfl (bh (yr[j]'(by omega))) rfl rfl rfl rfl fun h7 H7=>?_
   have H7:Sp h h7 [ak fe u2 2 piv (L2.map Prod.fst),dB 1 aC P,cK dd 8 bh r7 yr recs,an a1 ao (aL x),an a12 aG (bh (yr[j]'(by omega)))]:=H7
   have hb7:=H7.box 4 rfl
   have hsel:iM o b (recs.take (j+1))=iM o b (recs.take j)++(if(decide (recs[j].object=o)&&decide (recs[j].block=b))=true then[(recs[j].id,recs[j].data)]else[]):=by
    unfold iM;rw[aJ _ _ hj',List.filter_append,List.map_append,List.filter_cons,List.filter_nil]
    split<;>rfl
   have skip:(decide (recs[j].object=o)&&decide (recs[j].block=b))=false→∃t':Sl×Nat×List ((Int×Sl)×(Int×List UInt8)),((⟨u2.ptr,u2.len,u2.cap⟩:Sl),IntKind.wrap .i64 ((j:Int)+1))=(t'.1,(t'.2.1:Int))∧(t'.2.1≤recs.length∧t'.2.2.length≤L.length+t'.2.1∧t'.2.2.map Prod.snd=gN m ds (slots.take i) o b++iM o b (recs.take t'.2.1)∧(∀p∈t'.2.2,Ha (P++Q) p)∧Sp h h7 [ak fe t'.1 2 piv (t'.2.2.map Prod.fst),dB 1 aC P,cK dd 8 bh r7 yr recs,an a1 ao (aL x)])∧recs.length-t'.2.1<recs.length-j:=fun hc=>
    ⟨(u2,j+1,L2),by dsimp only;rw[Go.Vc.wrap_small _ (by omega) (by omega)];rfl,⟨by dsimp only;omega,by dsimp only;omega,by dsimp only;rw[hsel,hc];simpa using hs2,hp2,H7.cN [0,1,2,3]⟩,by dsimp only;omega⟩
   refine⟨recs[j].object,by rw[←g1];exact hb7.cell0 rfl,dt (fun q1=>?_) fun q1=>skip (by rw[decide_eq_false q1];rfl)⟩
   refine⟨recs[j].block,by rw[←g2];exact hb7.cell rfl,dt (fun q2=>?_) fun q2=>skip (by rw[decide_eq_false q2,Bool.and_false])⟩
   refine⟨recs[j].id,by rw[←g3];exact hb7.cell rfl,(yr[j]'(by omega)).2.2.2.2.2.2.2,hb7.cell rfl,?_⟩
   refine H7.push ag 0 rfl No rfl (by decide) (fun _=>rfl) Ac (recs[j].id,(yr[j]'(by omega)).2.2.2.2.2.2.2) (by kernel_rfl) (by decide) (by simp;omega) fun u3 h10 H10=>?_
   refine⟨(u3,j+1,L2++[((recs[j].id,(yr[j]'(by omega)).2.2.2.2.2.2.2),(recs[j].id,recs[j].data))]),by dsimp only;rw[Go.Vc.wrap_small _ (by omega) (by omega)];rfl,⟨by dsimp only;omega,by simp;omega,?_,fun p hp=>?_,?_⟩,by dsimp only;omega⟩
   ·dsimp only
    rw[List.map_append,hs2,hsel,if_pos (by rw[decide_eq_true q1,decide_eq_true q2];rfl),List.append_assoc];rfl
   ·rcases List.mem_append.1 hp with hp|hp
    ·exact hp2 p hp
    ·rw[List.mem_singleton.1 hp]
     refine⟨rfl,List.mem_append_right _ ?_⟩
     rw[hQ]
     refine List.mem_map.2 ⟨(yr[j]'(by omega),recs[j]),?_,rfl⟩
     rw[←List.getElem_zip (h:=by simp;omega)]
     exact List.getElem_mem _
   ·dsimp only
    rw[List.map_append]
    exact H10.cN [0,1,2,3]
  ·have hjr:j=recs.length:=by omega
   subst hjr
   rw[List.take_length,←hnext]at hs2
   have hyl5:=F5.2.1
   have H6:=(H5.gP 2 rfl (D:=dB 1 aC Q) fun q hq y hy=>by
    rw[hQ]at hy
    obtain⟨z,hz1,rfl⟩:=List.mem_map.1 hy
    obtain⟨k,hk,rfl⟩:=List.getElem_of_mem hz1
    have hkr:k<recs.length:=by simp at hk;omega
    have:=(Fix.row hq hkr).2
    rw[List.getElem_zip]
    exact this).cN [1,2,0,3]
   have H7:=aa.Kz H6
   refine⟨(u2,i+1,L2,P++Q),by dsimp only;rw[Go.Vc.wrap_small _ (by omega) (by omega)];rfl,⟨by dsimp only;omega,by dsimp only;omega,hs2,hp2,H7.cN [1,0,2]⟩,by dsimp only;omega⟩
 ·rw[List.take_of_length_le (by omega)]at hLs
  refine⟨u,L.map Prod.fst,rfl,?_⟩
  have H3:=((H2.freeze 0 rfl fun _=>rfl).cN [1,0]).lH
  refine H3.gP 0 rfl fun q ⟨q1,q2,_,bq,cq,z1,z2⟩=>?_
  refine⟨z1.mono bq,by rw[←hLs];simp,fun j r e h1 h2=>?_⟩
  rw[←hLs]at h2
  rw[List.getElem?_map]at h1 h2
  cases hj:L[j]? with
  |none=>rw[hj]at h1;cases h1
  |some p=>
   rw[hj]at h1 h2
   have e1:=Option.some.inj (show some p.1=some r from h1)
   have e2:=Option.some.inj (show some p.2=some e from h2)
   subst e1;subst e2
   obtain⟨k1,k2⟩:=hLp p (List.mem_of_getElem? hj)
   exact⟨k1,(z2 _ k2).mono cq⟩
end
end Go.Proofs.YtdoiokchdaoonaaGreat
namespace Wl
open Go
def eO (m:aE) (ds:aX) (o b:Int) (live:List Int):List (List Int):=live.map fun k=>(gN m ds [k] o b).map Prod.fst
end Wl
namespace Go.Proofs.YtdoiokchdaoonaaGreat
open Go Go.Vc Go.Proofs Wl
set_option maxRecDepth 100000
abbrev MM:bB C.topA Em fW 1 [.slice none 0 0] 24:=⟨_,_,rfl,rfl,rfl,rfl,rfl,rfl⟩
section
variable {B:aq} {h0 h:Heap} {As:List HP} {a pw:Addr} {offs:Int} {da:List (Option Addr)} {w:Pow} {ds:aX}
theorem LU {k:Int} {l:List Int} (h:k∈bU ds l):∃d,bQ ds k=some d∧d.lost=false:=by
 have h:=(List.mem_filter.1 h).2
 unfold isLive at h
 cases hd:bQ ds k with
 |none=>rw[hd]at h;cases h
 |some d=>rw[hd]at h;exact⟨d,rfl,by simpa using h⟩
theorem Hb (m:aE) (o b:Int) (l:List (List UInt8)):(uL m o b l).length≤l.length:=by
 unfold uL
 rw[List.length_map]
 exact Nat.le_trans (List.length_filter_le _ _) (oO m l)
theorem Hd (x:bK) (m:aE) (o b:Int) (hx:dG h x m) (hz:ct m) (hdl:m.drives.length≤64) (hroom:∀k d,bQ ds k=some d→d.l.length≤512) (H:aa B h0 h (aU bn a pw (aL x) offs da w ds::As)):
  ab Tryz.prog qY #[.pointer (some a),.int .i64 o,.int .i64 b] h fun v h'=>∃r:Sl,v=.slice r.ptr r.len r.cap∧Sp h h' [eX fW r aF 1 aA (eO m ds o b (bU ds m.drives))]:=by
 refine pL (some a) o b ?_
 unfold kR
 refine(dP x m hx hz H).mono ?_
 rintro _ h1 ⟨lv,rfl,R1⟩
 have hll:(bU ds m.drives).length≤m.drives.length:=List.length_filter_le _ _
 have hla:∀k∈bU ds m.drives,∃d,bQ ds k=some d:=fun k hk=>by obtain⟨d,h,_⟩:=LU hk;exact⟨d,h⟩
 obtain⟨live,hlive⟩:∃live,live=bU ds m.drives:=⟨_,rfl⟩
 rw[←hlive]at R1 hll hla⊢
 have hlv:=(R1.own 0 rfl).len
 refine⟨lv,rfl,?_⟩
 have hwl:(eO m ds o b live).length=live.length:=by simp[eO]
 have H1:Sp h h1 [eX fW ⟨none,0,0⟩ aF 1 aA ((eO m ds o b live).take 0),ak aF lv 1 aA live]:=R1.tc fW aF 1 aA
 refine au (fun t:Sl×Nat=>(t.1,(t.2:Int))) (fun t h'=>t.2≤live.length∧Sp h h' [eX fW t.1 aF 1 aA ((eO m ds o b live).take t.2),ak aF lv 1 aA live]) (fun t=>live.length-t.2) (⟨none,0,0⟩,0) rfl ⟨by simp,H1⟩ ?_
 rintro⟨u,i⟩ h2 ⟨hi,H2⟩
 dsimp only at*
 refine aj (fun e=>?_) fun e=>?_
 ·have hi':i<live.length:=by omega
  refine(H2.seq 1 rfl fun _=>rfl).cm i rfl hi' live[i] rfl ?_
  refine H2.lit ag aA kH rfl [live[i]] rfl (show 1*1≤2^20 by decide) rfl fun q h3 H3=>?_
  have H3:Sp h h3 [eX fW u aF 1 aA ((eO m ds o b live).take i),ak aF lv 1 aA live,ak aF q 1 aA [live[i]]]:=H3
  have Hc:=H.up H3.ah
  have hcb:=(aa.cC Hc).2
  refine⟨a,rfl,x,hcb.aH _ rfl,?_⟩
  obtain⟨d,hd⟩:=hla live[i] (List.getElem_mem hi')
  refine(DT x m q [live[i]] o b (hx.up H3.ah) hz (H3.seq 2 rfl fun _=>rfl) (by simp) (fun k hk=>by rw[List.mem_singleton.1 hk];exact⟨d,hd⟩) Hc).mono ?_
  rintro _ h4 ⟨r8,ys,rfl,R4⟩
  obtain⟨S,hSd⟩:∃S,S=gN m ds [live[i]] o b:=⟨_,rfl⟩
  have hSl:S.length≤512:=by
   rw[hSd];unfold gN qw
   rw[List.flatMap_cons,List.flatMap_nil,List.append_nil,hd]
   exact Nat.le_trans (Hb _ _ _ _) (hroom _ _ hd)
  rw[←hSd]at R4
  have H4:=(H3.cj R4).bc 4 [1,2,0]
  have F4:=H4.fX 2 rfl
  have hyl:=F4.2.1
  have hrl:=F4.1.len
  refine⟨r8,rfl,?_⟩
  have H4:Sp h h4 [ak aF ⟨none,0,0⟩ 1 aA ((S.map Prod.fst).take 0),eX fW u aF 1 aA ((eO m ds o b live).take i),ak aF lv 1 aA live,cK gh 2 piv r8 ys S]:=(H4.nil aF 1 aA).cN [3,0,1,2]
  refine au (fun t:Sl×Nat=>(t.1,(t.2:Int))) (fun t h'=>t.2≤S.length∧Sp h h' [ak aF t.1 1 aA ((S.map Prod.fst).take t.2),eX fW u aF 1 aA ((eO m ds o b live).take i),ak aF lv 1 aA live,cK gh 2 piv r8 ys S]) (fun t=>S.length-t.2) (⟨none,0,0⟩,0) rfl ⟨by simp,H4⟩ ?_
  rintro⟨u2,j⟩ h5 ⟨hj,H5⟩
  dsimp only at*
  have F5:=H5.fX 3 rfl
  refine aj (fun e2=>?_) fun e2=>?_
  ·have hj':j<S.length:=by omega
   have hrow:=Fix.row F5 hj'
   refine F5.1.eS (g:=piv) j rfl (by omega) (ys[j]'(by omega)) rfl ?_
   refine H5.alloc ag rfl fun a12 h6 H6=>?_
   refine H6.storeAll ag 4 rfl rfl (piv (ys[j]'(by omega))) rfl rfl rfl rfl fun h7 H7=>?_
   have H7:Sp h h7 [ak aF u2 1 aA ((S.map Prod.fst).take j),eX fW u aF 1 aA ((eO m ds o b live).take i),ak aF lv 1 aA live,cK gh 2 piv r8 ys S,an a12 fe (piv (ys[j]'(by omega)))]:=H7
   refine⟨S[j].1,by rw[←hrow.1];exact(H7.box 4 rfl).cell0 rfl,?_⟩
   refine H7.push ag 0 rfl kH rfl (by decide) (fun _=>rfl) iD S[j].1 rfl (by decide) (by simp;omega) fun u3 h9 H9=>?_
   refine⟨(u3,j+1),by dsimp only;rw[Go.Vc.wrap_small _ (by omega) (by omega)];rfl,⟨by dsimp only;omega,?_⟩,by dsimp only;omega⟩
   dsimp only
   rw[aJ _ _ (show j<(S.map Prod.fst).length by simp;omega),List.getElem_map]
   exact H9.cN [0,1,2,3]
  ·rw[List.take_of_length_le (by simp;omega)]at H5
   refine(H5.bc 2 [1,0]).uZ ag MM (by simp;omega) fun u3 h11 H11=>?_
   refine⟨(u3,i+1),by dsimp only;rw[Go.Vc.wrap_small _ (by omega) (by omega)];rfl,⟨by dsimp only;omega,?_⟩,by dsimp only;omega⟩
   dsimp only
   rw[aJ _ _ (show i<(eO m ds o b live).length by omega)]
   have ew:(eO m ds o b live)[i]'(by omega)=S.map Prod.fst:=by simp[eO,hSd]
   rw[ew]
   exact H11.cN [0,1]
 ·rw[List.take_of_length_le (by omega)]at H2
  exact⟨u,rfl,H2.cN [0]⟩
end
end Go.Proofs.YtdoiokchdaoonaaGreat
namespace Go.Proofs.YtdoiokchdaoonaaGreat
open Go Go.Vc Go.Proofs Wl
set_option maxRecDepth 100000
theorem He (n:Nat) (x:Int) (h:Heap) (hn:n≤2^30):ab Tryz.prog o5 #[.int .i64 n,.int .i64 x] h fun v h'=>∃(r:Sl) (l:List UInt8),v=.slice r.ptr r.len r.cap∧l.length=n∧Sp h h' [ak aB r 1 aC l]:=by
 refine n5 n x ?_
 unfold kc
 refine au (fun t:Sl×Nat×List UInt8=>(t.1,(t.2.1:Int))) (fun t h'=>t.2.1≤n∧t.2.2.length=t.2.1∧Sp h h' [ak aB t.1 1 aC t.2.2]) (fun t=>n-t.2.1) (⟨none,0,0⟩,0,[]) rfl ⟨by simp,rfl,(Sp.refl h).nil aB 1 aC⟩ ?_
 rintro⟨o,i,l⟩ h1 ⟨hi,hl,H1⟩
 dsimp only at*
 refine aj (fun e=>?_) fun e=>?_
 ·have hi':i<n:=by omega
  refine⟨by decide,Int.tmod_nonneg _ (by omega),?_⟩
  rw[cG]
  generalize b8 (IntKind.wrap .i64 _)=c
  refine H1.push ag 0 rfl gG rfl (by decide) (fun _=>rfl) fw c rfl (by decide) (by omega) fun o' h2 H2=>?_
  refine⟨(o',i+1,l++[c]),by dsimp only;rw[Go.Vc.wrap_small _ (by omega) (by omega)];rfl,⟨by dsimp only;omega,?_,H2⟩,by dsimp only;omega⟩
  simp[hl]
 ·exact⟨o,l,rfl,by omega,H1⟩
end Go.Proofs.YtdoiokchdaoonaaGreat
namespace Wl
open Go
def Pow.calm (w:Pow):Prop:=w.off=false∧w.fuse=none
theorem DU:Pow.new.calm:=⟨rfl,rfl⟩
theorem mi {w:Pow} (h:w.calm):w.step=(true,w):=by unfold Pow.step;rw[if_neg (by simp[h.1]),h.2]
theorem we {w:Pow} (h:w.calm) (ds:aX) (x:Int) (b:List UInt8):(cR w ds x b).2.1=w:=by
 unfold cR
 cases bQ ds x with
 |none=>rfl
 |some d=>
  dsimp only
  unfold bo.append
  split
  ·rfl
  ·split
   ·rfl
   ·split
    ·rfl
    ·split
     ·rfl
     ·rw[mi h];rfl
theorem A9 {w:Pow} (h:w.calm) (ds:aX) (x:Int):(dL w ds x).2.1=w:=by
 unfold dL
 cases bQ ds x with
 |none=>rfl
 |some d=>
  dsimp only
  unfold bo.sync
  split
  ·rfl
  ·rw[mi h];rfl
theorem kQ {w:Pow} (h:w.calm):∀(l:List (Int×List UInt8)) (ds:aX),(gQ l w ds).2.1=w
 |[],_=>rfl
 |x::l,ds=>by
  rw[nk,we h]
  split
  ·exact kQ h l _
  ·exact we h _ _ _
theorem yX {w:Pow} (h:w.calm):∀(l:List Int) (ds:aX),(gJ l w ds).2.1=w
 |[],_=>rfl
 |x::l,ds=>by
  rw[qJ,A9 h]
  split
  ·exact yX h l _
  ·exact A9 h _ _
theorem KA {w:Pow} (h:w.calm) (l:List (Int×List UInt8)) (ds:aX):(layAll l w ds).2.1=w:=by
 unfold layAll
 dsimp only
 rw[kQ h]
 split
 ·exact yX h _ _
 ·exact kQ h _ _
theorem Fc {w:Pow} {d:bo} {n:Nat} {b:List UInt8} (h:w.calm) (h1:d.lost=false) (h2:d.l.length+(n+1)≤d.room) (hb:b.length=64):d.append w b=(0,w,{d with l:=d.l++[b],wait:=d.wait+1,laid:=[],has:=false}):=by
 unfold bo.append
 rw[if_neg (by omega),if_neg (by simp[h1]),if_neg (by omega),if_neg (by simp[h.1]),mi h];rfl
theorem Jd {w:Pow} {d:bo} (h:w.calm) (h1:d.lost=false):d.sync w=(0,w,{d with wait:=0,laid:=[],has:=false}):=by
 unfold bo.sync
 rw[if_neg (by simp[h1]),mi h];rfl
theorem MN {ds:aX} {s:Int} {d:bo} (h:bQ ds s=some d):0≤s∧s<64:=by
 obtain⟨n,rfl,hn⟩:=hY h
 omega
def yY (ds:aX) (P:List (Int×List UInt8)) (s:Int):Option bo:=
 (bQ ds s).map fun d=>{d with l:=d.l++(P.filter (fun x=>decide (x.1=s))).map Prod.snd,wait:=d.wait+(P.filter (fun x=>decide (x.1=s))).length,laid:=if(P.filter (fun x=>decide (x.1=s))).isEmpty then d.laid else[],has:=if(P.filter (fun x=>decide (x.1=s))).isEmpty then d.has else false}
theorem uM {w:Pow} (h:w.calm) {S:List Int}:∀(P:List (Int×List UInt8)) (ds:aX),Fit ds S (P.map Prod.fst)→(∀x∈P,x.1∈S∧x.2.length=64)→
  (gQ P w ds).1=0∧Fit (gQ P w ds).2.2 S []∧∀s,bQ (gQ P w ds).2.2 s=yY ds P s
 |[],ds,F,_=>⟨rfl,F,fun s=>by unfold yY;show bQ ds s=_;cases bQ ds s<;>simp⟩
 |x::P,ds,F,hP=>by
  obtain⟨d,hd,h1,h2⟩:=F.at_ x.1 (hP x (List.mem_cons_self ..)).1
  rw[List.map_cons,List.count_cons_self]at h2
  have hb:=(hP x (List.mem_cons_self ..)).2
  obtain⟨n,hn,hn64⟩:=hY hd
  have hap:=Fc (n:=(P.map Prod.fst).count x.1) h h1 (by omega) hb
  have e:cR w ds x.1 x.2=(0,w,gx ds x.1 {d with l:=d.l++[x.2],wait:=d.wait+1,laid:=[],has:=false}):=by
   unfold cR;rw[hd];dsimp only;rw[hap]
  obtain⟨_,F'⟩:=BP w x.2 (x:=x.1) (Q:=P.map Prod.fst) F (hP x (List.mem_cons_self ..)).1 hb
  rw[nk,e]
  rw[e]at F'
  dsimp only at F'⊢
  rw[if_pos rfl]
  obtain⟨a1,a2,a3⟩:=uM h P _ F' fun y hy=>hP y (List.mem_cons_of_mem _ hy)
  refine⟨a1,a2,fun s=>?_⟩
  rw[a3 s]
  unfold yY
  rw[hn,na _ _ _ _ hn64 F.len,←hn]
  by_cases hs:s=x.1
  ·rw[if_pos hs,hs,hd]
   simp only[Option.map_some,List.filter_cons,decide_true,if_true,List.map_cons,List.length_cons,List.append_assoc,List.singleton_append,List.isEmpty_cons,Bool.false_eq_true,if_false]
   congr 1
   simp only[bo.mk.injEq,true_and,and_true]
   refine⟨by omega,?_,?_⟩<;>split<;>rfl
  ·rw[if_neg hs]
   simp only[List.filter_cons,decide_eq_true_eq,if_neg (show¬x.1=s from fun hh=>hs hh.symm)]
theorem yZ {w:Pow} (h:w.calm) {S:List Int}:∀(l:List Int) (ds:aX),Fit ds S []→(∀x∈l,x∈S)→
  (gJ l w ds).1=0∧Fit (gJ l w ds).2.2 S []∧∀s,bQ (gJ l w ds).2.2 s=(bQ ds s).map fun d=>if s∈l then{d with wait:=0,laid:=[],has:=false}else d
 |[],ds,F,_=>⟨rfl,F,fun s=>by show bQ ds s=_;cases bQ ds s<;>simp⟩
 |x::l,ds,F,hl=>by
  obtain⟨d,hd,h1,h2⟩:=F.at_ x (hl x (List.mem_cons_self ..))
  obtain⟨n,hn,hn64⟩:=hY hd
  have e:dL w ds x=(0,w,gx ds x {d with wait:=0,laid:=[],has:=false}):=by
   unfold dL;rw[hd];dsimp only;rw[Jd h h1]
  obtain⟨_,F'⟩:=E6 w F (hl x (List.mem_cons_self ..))
  rw[qJ,e]
  rw[e]at F'
  dsimp only at F'⊢
  rw[if_pos rfl]
  obtain⟨a1,a2,a3⟩:=yZ h l _ F' fun y hy=>hl y (List.mem_cons_of_mem _ hy)
  refine⟨a1,a2,fun s=>?_⟩
  rw[a3 s,hn,na _ _ _ _ hn64 F.len,←hn]
  by_cases hs:s=x
  ·subst hs
   rw[if_pos rfl,hd]
   simp only[Option.map_some,List.mem_cons,true_or,if_true]
   congr 1
   split<;>rfl
  ·rw[if_neg hs]
   cases bQ ds s with
   |none=>rfl
   |some d'=>simp[hs]
end Wl
namespace Go.Proofs.YtdoiokchdaoonaaGreat
open Go Go.Vc Go.Proofs Wl
set_option maxRecDepth 100000
section
variable {B:aq} {h0 h h':Heap} {As:List HP} {a:Addr} {w:Pow}
end
abbrev Le (pw:Addr) (d:bo) (s b:Sl):List Value:=[.int .i64 d.room,.pointer (some pw),.slice s.ptr s.len s.cap,.int .i64 d.wait,.bool d.has,.slice b.ptr b.len b.cap,.bool d.lost]
abbrev Lf (pw a:Addr) (d:bo):HP:=gW jx (Le pw) a d
section
variable {B:aq} {h0 h h':Heap} {As:List HP} {a pw:Addr} {d:bo} {w:Pow}
theorem Lf.box (H:aa B h0 h (Lf pw a d::As)):dj d∧∃s b:Sl,bI h a jx (Le pw d s b)∧eJ h s 1 aC d.l∧s.len=d.l.length:=by
 obtain⟨ok,s,b,H1⟩:=H.lL
 exact⟨ok,s,b,H1.box 0 rfl,(H1.bc 3 [1]).xx fun _=>rfl,(aa.qI (H1.bc 3 [1])).1⟩
end
end Go.Proofs.YtdoiokchdaoonaaGreat
namespace Go.Proofs.YtdoiokchdaoonaaGreat
open Go Go.Vc Go.Proofs Wl
set_option maxRecDepth 100000
section
variable {B:aq} {h0 h h':Heap} {As:List HP}
end
end Go.Proofs.YtdoiokchdaoonaaGreat
namespace Go.Proofs.YtdoiokchdaoonaaGreat
open Go Go.Vc Go.Proofs Wl
set_option maxRecDepth 100000
end Go.Proofs.YtdoiokchdaoonaaGreat
namespace Wl
open Go
end Wl
namespace Go.Proofs.YtdoiokchdaoonaaGreat
open Go Go.Vc Go.Proofs Wl
set_option maxRecDepth 100000
end Go.Proofs.YtdoiokchdaoonaaGreat
namespace Wl
open Go
end Wl
namespace Go.Proofs.YtdoiokchdaoonaaGreat
open Go Go.Vc Go.Proofs Wl
set_option maxRecDepth 100000
end Go.Proofs.YtdoiokchdaoonaaGreat
namespace Go.Proofs.YtdoiokchdaoonaaGreat
open Go Go.Vc Go.Proofs Wl
set_option maxRecDepth 100000
end Go.Proofs.YtdoiokchdaoonaaGreat
namespace Wl
open Go
def Has (ds:aX) (S:List Int):Prop:=ds.length=64∧∀s∈S,∃d,bQ ds s=some d
theorem Has.set {ds:aX} {S:List Int} {n:Nat} {d:bo} (F:Has ds S) (hn:n<64):Has (gx ds (n:Int) d) S:=by
 refine⟨by unfold gx;rw[List.length_set];exact F.1,fun s hs=>?_⟩
 rw[na _ _ _ _ hn F.1]
 by_cases h:s=(n:Int)
 ·rw[if_pos h];exact⟨_,rfl⟩
 ·rw[if_neg h];exact F.2 s hs
theorem Has.append {ds:aX} {S:List Int} (F:Has ds S) (w:Pow) (x:Int) (b:List UInt8):Has (cR w ds x b).2.2 S:=by
 unfold cR
 cases hd:bQ ds x with
 |none=>exact F
 |some d=>
  obtain⟨n,rfl,hn⟩:=hY hd
  exact F.set hn
theorem Has.sync {ds:aX} {S:List Int} (F:Has ds S) (w:Pow) (x:Int):Has (dL w ds x).2.2 S:=by
 unfold dL
 cases hd:bQ ds x with
 |none=>exact F
 |some d=>
  obtain⟨n,rfl,hn⟩:=hY hd
  exact F.set hn
end Wl
namespace Go.Vc
open Go Wl
end Go.Vc
namespace Go.Proofs.YtdoiokchdaoonaaGreat
open Go Go.Vc Go.Proofs Wl
set_option maxRecDepth 100000
section
variable {B:aq} {h0 h h':Heap} {As:List HP} {a pw:Addr} {mc:List Value} {offs:Int} {da:List (Option Addr)} {w:Pow} {ds:aX}
end
end Go.Proofs.YtdoiokchdaoonaaGreat
namespace Go.Proofs.YtdoiokchdaoonaaGreat
open Go Go.Vc Go.Proofs Wl
set_option maxRecDepth 100000
section
variable {B:aq} {h0 h h':Heap} {As:List HP} {a pw:Addr} {mc:List Value} {offs:Int} {da:List (Option Addr)} {w:Pow} {ds:aX}
end
end Go.Proofs.YtdoiokchdaoonaaGreat
