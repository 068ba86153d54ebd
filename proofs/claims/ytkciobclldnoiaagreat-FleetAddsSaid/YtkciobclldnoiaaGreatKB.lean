/- Part of the proofs that the laws of this seat answer true whatever the input reads, and leave it as it was; no condition. -/
import Derived.Test.YtkciobclldnoiaaGreatKA
import Derived.Test.YtkciobclldnoiaaGreatPlA
import Derived.Test.YtkciobclldnoiaaGreatPlD
import Derived.Test.YtkciobclldnoiaaGreatPlG
import Derived.Test.YtkciobclldnoiaaGreatTabS
import Derived.Test.YtkciobclldnoiaaGreatShelfA
import Derived.Test.YtkciobclldnoiaaGreatShelfB
import Derived.Test.YtkciobclldnoiaaGreatPlH
import Derived.Test.YtkciobclldnoiaaGreatPlI
set_option linter.unusedVariables false
set_option linter.unusedSimpArgs false
namespace Go.Proofs.YtkciobclldnoiaaGreat
open Go Go.Vc Go.Proofs Wl
set_option maxRecDepth 100000
theorem KR {α:Type} {h:Heap} {e:TypeId} {s:Sl} {k:Nat} {f:α→List Value} {l:List α} (ho:Own h e s k f l) (hl:l≠[]):s.ptr.isNone=false:=by
 rcases ho.head with⟨_,_,h3⟩|⟨b,rest,h1,_⟩
 ·exact absurd h3 hl
 ·rw[h1];rfl
theorem KS (p:Pm) (seed id:Int) (h:Heap):ab Tryz.prog Jd #[j3 p,.int .u32 seed,.int .i64 id] h fun v h'=>∃r:Sl,v=.slice r.ptr r.len r.cap∧
  Sp h h' [ak aB r 1 aD (if bO p&&bZ id then zX (cK p).toNat seed id else[])]∧r.ptr.isNone=!(bO p&&bZ id):=by
 refine HC p seed id ?_
 unfold DZ
 refine(Sp.refl h).boxed fun a h1 H1=>?_
 refine aW ?_
 refine⟨p,(H1.box 0 rfl).aH _ rfl,(dq p h1).mono ?_⟩
 rintro v h2 ⟨rfl,R2⟩
 have H2:=H1.comp R2
 have no:(bO p&&bZ id)=false→Sp h h2 [ak aB ⟨none,0,0⟩ 1 aD (if bO p&&bZ id then zX (cK p).toNat seed id else[])]∧Option.isNone (none:Option Addr)=!(bO p&&bZ id):=fun hf=>by
  rw[hf];exact⟨(H2.nil aB 1 aD).take 1 (fun i A hi=>by cases i with|zero=>exact hi|succ i=>simp at hi),rfl⟩
 refine⟨_,rfl,aY (fun e=>⟨⟨none,0,0⟩,rfl,no (by rw[e];rfl)⟩) fun hp=>?_⟩
 refine aj (fun e=>⟨⟨none,0,0⟩,rfl,no (by simp[bZ];omega)⟩) fun e1=>?_
 refine aj (fun e=>⟨⟨none,0,0⟩,rfl,no (by simp[bZ];omega)⟩) fun e2=>?_
 have hid:bZ id=true:=by simp[bZ];omega
 refine⟨p,(H2.box 0 rfl).aH _ rfl,(j6 p h2).mono ?_⟩
 rintro v h3 ⟨rfl,R3⟩
 have H3:=H2.comp R3
 have hpp:=(bP p).1 hp
 have hc:cK p=p.1+p.2.1:=by rw[cK,if_pos hp]
 obtain⟨n,hn⟩:∃n:Nat,cK p=n:=⟨(cK p).toNat,by omega⟩
 refine⟨_,rfl,?_⟩
 dsimp only
 rw[hn]
 refine H3.make ag aD gN (by decide) 0 rfl rfl n n rfl rfl (Nat.le_refl _) (by omega) fun v h4 hl hcp H4=>?_
 refine⟨p,(H4.box 0 rfl).aH _ rfl,(BC p seed id h4).mono ?_⟩
 rintro w h5 ⟨c,rfl,R5⟩
 rw[hp,hid,hn,Int.toNat_natCast]at R5
 rw[hp,hid,Int.toNat_natCast]
 have H5:=H4.comp R5
 have hcs:=H5.seq 2 rfl (fun _=>rfl)
 have hcl:=hcs.len
 obtain⟨cs,hcs'⟩:∃cs,cs=ir n seed id:=⟨_,rfl⟩
 have hin:∀x∈cs,0≤x∧x<(n:Int):=fun x hx=>tz (by omega) (by omega) (by rw[←hcs'];exact hx)
 have hcl2:cs.length≤n:=by rw[hcs'];exact Ba (by omega) (by omega) _ _
 simp only[Bool.and_self,if_true,←hcs']at H5 hcs hcl R5
 refine⟨c,rfl,?_⟩
 refine az (fun i:Nat=>(i:Int)) (fun i h'=>i≤cs.length∧Sp h h' [an a aT [.int .i64 p.1,.int .i64 p.2.1,.int .i64 p.2.2],ak aB v 1 aD (oM n (cs.take i)),ak aJ c 1 aw cs]) (fun i=>cs.length-i) 0 rfl ⟨by omega,H5⟩ ?_
 rintro i h6 ⟨hi,H6⟩
 refine aj (fun e=>?_) (fun e=>?_)
 ·have hi':i<cs.length:=by omega
  have hx:=hin _ (List.getElem_mem hi')
  refine(H6.seq 2 rfl (fun _=>rfl)).cv i rfl hi' _ rfl ?_
  refine H6.set ag 1 rfl (fun _=>rfl) rfl cs[i].toNat (by omega) (by rw[wY];omega) 1 rfl rfl rfl fun h7 H7=>?_
  refine⟨i+1,by rw[wrap_small _ (by omega) (by omega)];rfl,⟨by omega,?_⟩,by omega⟩
  have e2:oM n (cs.take (i+1))=(oM n (cs.take i)).set cs[i].toNat 1:=by rw[aL _ _ hi',oM,List.foldl_append];rfl
  rw[e2];exact H7
 ·rw[List.take_of_length_le (by omega)]at H6
  have Hf:Sp h h6 [ak aB v 1 aD (oM n cs)]:=(H6.del 2).take 1 (fun i A hi=>by cases i with|zero=>exact hi|succ i=>simp at hi)
  refine⟨v,rfl,?_,KR (Hf.own 0 rfl) (fun hh=>?_)⟩
  ·rw[hcs']at Hf;exact Hf
  ·have:=wY n cs;rw[hh]at this;simp at this;omega
theorem Cu (p:Pm) (h:Heap):ab Tryz.prog Fw #[j3 p] h fun v h'=>∃r:Sl,v=.slice r.ptr r.len r.cap∧Sp h h' [fC aS r 1 aD (if bO p then cH p.1.toNat p.2.1.toNat else[])]:=by
 refine DY p ?_
 unfold yL
 refine(Sp.refl h).boxed fun a h1 H1=>?_
 refine⟨p,(H1.box 0 rfl).aH _ rfl,(dq p h1).mono ?_⟩
 rintro v h2 ⟨rfl,R2⟩
 have H2:=H1.comp R2
 refine⟨_,rfl,aY (fun e=>⟨⟨none,0,0⟩,rfl,?_⟩) fun hp=>?_⟩
 ·rw[e];exact(H2.G3 aS 1 aD).take 1 (fun i A hi=>by cases i with|zero=>exact hi|succ i=>simp at hi)
 have hpp:=(bP p).1 hp
 have hc:cK p=p.1+p.2.1:=by rw[cK,if_pos hp]
 obtain⟨K,hK⟩:∃K:Nat,p.1=K:=⟨p.1.toNat,by omega⟩
 obtain⟨Hh,hH⟩:∃H:Nat,p.2.1=H:=⟨p.2.1.toNat,by omega⟩
 refine(rN h2).mono ?_
 rintro v h3 ⟨f,rfl,R3⟩
 have H3:=(H2.comp R3).G3 aS 1 aD
 refine⟨some f,rfl,_,(H3.box 0 rfl).cell rfl,?_⟩
 refine az (fun t:Sl×Nat=>(t.1,(t.2:Int))) (fun t h'=>t.2≤Hh∧Sp h h' [an a aT [.int .i64 p.1,.int .i64 p.2.1,.int .i64 p.2.2],an f nj ez,fC aS t.1 1 aD ((cH K Hh).take t.2)]) (fun t=>Hh-t.2) (⟨none,0,0⟩,0) rfl ⟨by simp,H3⟩ ?_
 rintro⟨s,k⟩ h4 ⟨hk,H4⟩
 dsimp only at*
 refine aj (fun e=>?_) (fun e=>?_)
 ·have hk':k<Hh:=by omega
  refine aW ⟨p,(H4.box 0 rfl).aH _ rfl,p.1,(H4.box 0 rfl).cell0 rfl,?_⟩
  refine(j6 p h4).mono ?_
  rintro v h5 ⟨rfl,R5⟩
  have H5:=H4.comp R5
  refine⟨_,rfl,⟨(H5.box 0 rfl).cell0 rfl,trivial⟩,?_⟩
  dsimp only
  rw[wrap_small (p.1+k) (by omega) (by omega),hc]
  refine(Jt _ _ h5).mono ?_
  rintro v h6 ⟨u,rfl,R6⟩
  rw[if_pos (by omega)]at R6
  have e1:(p.1+p.2.1).toNat=K+Hh:=by omega
  have e2:(p.1+(k:Int)).toNat=K+k:=by omega
  rw[e1,e2]at R6
  have H6:=H5.comp R6
  refine⟨u,rfl,⟨(H6.box 0 rfl).cell0 rfl,trivial⟩,p.1,(H6.box 0 rfl).cell0 rfl,?_⟩
  let rowAt:Nat→List UInt8:=fun j=>(List.range j).map (fun i=>Gf.pw ((k+1)*(i+1)%255))++((List.replicate (K+Hh) (0:UInt8)).set (K+k) 1).drop j
  refine az (fun j:Nat=>(j:Int)) (fun j h'=>j≤K∧Sp h h' [an a aT [.int .i64 p.1,.int .i64 p.2.1,.int .i64 p.2.2],an f nj ez,fC aS s 1 aD ((cH K Hh).take k),ak aB u 1 aD (rowAt j)]) (fun j=>K-j) 0 rfl ⟨by omega,H6⟩ ?_
  rintro j h7 ⟨hj,H7⟩
  refine aj (fun e3=>?_) (fun e3=>?_)
  ·have hj':j<K:=by omega
   have hm:(k+1)*(j+1)≤4*16:=Nat.mul_le_mul (by omega) (by omega)
   have e4:IntKind.wrap .i64 (IntKind.wrap .i64 ((k:Int)+1)*IntKind.wrap .i64 ((j:Int)+1))=(((k+1)*(j+1):Nat):Int):=by
    rw[wrap_small ((k:Int)+1) (by omega) (by omega),wrap_small ((j:Int)+1) (by omega) (by omega),show((k:Int)+1)*((j:Int)+1)=(((k+1)*(j+1):Nat):Int)by rw[Int.natCast_mul];rfl]
    exact mZ _ (by omega)
   rw[e4]
   refine(KQ f _ h7 (H7.box 1 rfl)).mono ?_
   rintro v h8 ⟨rfl,rfl⟩
   refine⟨_,rfl,?_⟩
   have hlen:(rowAt j).length=K+Hh:=by simp[rowAt];omega
   refine H7.set ag 3 rfl (fun _=>rfl) rfl j rfl (by omega) _ rfl rfl rfl fun h9 H9=>?_
   refine⟨j+1,by rw[wrap_small _ (by omega) (by omega)];rfl,⟨by omega,?_⟩,by omega⟩
   have e5:(rowAt j).set j (Gf.pw ((((k+1)*(j+1):Nat):Int)%255).toNat)=rowAt (j+1):=by
    have e6:((((k+1)*(j+1):Nat):Int)%255).toNat=(k+1)*(j+1)%255:=by omega
    rw[e6]
    simp only[rowAt]
    rw[List.set_append_right _ _ (by simp),List.length_map,List.length_range,Nat.sub_self,List.drop_eq_getElem_cons (by simp;omega),List.set_cons_zero,List.range_succ,List.map_append,List.append_assoc]
    rfl
   rw[←e5];exact H9
  ·have hj':j=K:=by omega
   subst hj'
   have e5:rowAt j=ja j Hh k:=by
    simp only[rowAt,ja]
    congr 1
    apply List.ext_getElem?
    intro i
    rw[List.getElem?_drop,List.getElem?_set,List.getElem?_map]
    by_cases hi:i<Hh
    ·rw[List.getElem?_range hi,Option.map_some,List.getElem?_replicate]
     by_cases hik:i=k
     ·subst hik;simp[hi]
     ·rw[if_neg (by omega),if_pos (by omega),if_neg hik]
    ·rw[List.getElem?_eq_none (l:=List.range Hh) (by simp;omega),if_neg (by omega),List.getElem?_replicate,if_neg (by omega)];rfl
   rw[e5]at H7
   have H8:=H7.freeze 3 rfl (fun _=>rfl)
   have hll:((cH j Hh).take k).length=k:=by simp[cH];omega
   refine H8.zS ag 2 3 (by decide) rfl rfl iA (by omega) fun s' h9 H9=>?_
   refine⟨(s',k+1),by dsimp only;rw[wrap_small _ (by omega) (by omega)];rfl,⟨by dsimp only;omega,?_⟩,by dsimp only;omega⟩
   have e7:(cH j Hh).take (k+1)=(cH j Hh).take k++[ja j Hh k]:=by
    rw[aL _ _ (by simp[cH];omega)];simp[cH]
   dsimp only
   rw[e7]
   exact H9.del 3
 ·refine⟨s,rfl,?_⟩
  rw[if_pos hp,hK,hH,Int.toNat_natCast,Int.toNat_natCast]
  rw[List.take_of_length_le (by simp[cH];omega)]at H4
  exact H4.take 2 (fun i A hi=>by cases i with|zero=>exact hi|succ i=>simp at hi)
end Go.Proofs.YtkciobclldnoiaaGreat
namespace Go.Proofs.YtkciobclldnoiaaGreat
open Go Go.Vc Go.Proofs Wl
set_option maxRecDepth 100000
theorem zi (p:Pm) (h:Heap):ab Tryz.prog yH #[j3 p] h fun v h'=>∃r:Sl,v=.slice r.ptr r.len r.cap∧Sp h h' [ak aJ r 1 aw (upto (max 0 (min p.1 16)).toNat)]:=by
 refine xh p ?_
 unfold qu
 refine(Sp.refl h).boxed fun a h1 H1=>?_
 refine⟨p.1,(H1.box 0 rfl).cell0 rfl,?_⟩
 have em:(if(if(16:Int)<p.1 then(16:Int)else p.1)>(0:Int)then(if(16:Int)<p.1 then(16:Int)else p.1)else(0:Int))=((max 0 (min p.1 16)).toNat:Int):=by
  split<;>split<;>omega
 rw[em]
 generalize hN:(max 0 (min p.1 16)).toNat=N
 have hN16:N≤16:=by omega
 refine az (fun t:Sl×Nat=>(t.1,(t.2:Int))) (fun t h'=>t.2≤N∧Sp h h' [emp,ak aJ t.1 1 aw (upto t.2)]) (fun t=>N-t.2) (⟨none,0,0⟩,0) rfl ⟨by simp,(H1.il 0 rfl fun _ _=>trivial).nil aJ 1 aw⟩ ?_
 rintro⟨s,k⟩ h2 ⟨hk,H2⟩
 dsimp only at*
 refine aj (fun e=>?_) (fun e=>?_)
 ·refine H2.push ag 1 rfl jN rfl (by decide) (fun _=>rfl) iJ (k:Int) rfl (by decide) (by rw[gE];omega) fun s' h3 H3=>?_
  refine⟨(s',k+1),by dsimp only;rw[wrap_small _ (by omega) (by omega)];rfl,⟨by dsimp only;omega,?_⟩,by dsimp only;omega⟩
  have e2:upto (k+1)=upto k++[(k:Int)]:=by simp[upto,List.range_succ]
  dsimp only;rw[e2];exact H3
 ·have:k=N:=by omega
  subst this
  exact⟨s,rfl,H2.take 1 (fun i A hi=>by cases i with|zero=>exact hi|succ i=>simp at hi)⟩
theorem wC (p:Pm) (seed:Int) (ids:Sl) (l:List Int) (h:Heap) (hl:Rd h ids 1 aw l) (hsz:l.length≤2^30):ab Tryz.prog xg #[j3 p,.int .u32 seed,.slice ids.ptr ids.len ids.cap] h fun v h'=>∃r:Sl,v=.slice r.ptr r.len r.cap∧Sp h h' [fC aS r 1 aD (fV p seed l)]:=by
 refine vJ p seed ids ?_
 unfold oW
 refine(Sp.refl h).boxed fun a h1 H1=>?_
 refine⟨p,(H1.box 0 rfl).aH _ rfl,(Cu p h1).mono ?_⟩
 rintro v h2 ⟨r,rfl,R2⟩
 have H2:=H1.comp R2
 refine⟨r,rfl,?_⟩
 have hlen:=hl.len
 let at_:Nat→List (List UInt8):=fun k=>fV p seed (l.take k)
 have h0:(if bO p then cH p.1.toNat p.2.1.toNat else[])=at_ 0:=by simp[at_,fV]
 rw[h0]at H2
 refine az (fun t:Sl×Nat=>(t.1,(t.2:Int))) (fun t h'=>t.2≤l.length∧Sp h h' [an a aT [.int .i64 p.1,.int .i64 p.2.1,.int .i64 p.2.2],fC aS t.1 1 aD (at_ t.2)]) (fun t=>l.length-t.2) (r,0) rfl ⟨by simp,H2⟩ ?_
 rintro⟨s,k⟩ h3 ⟨hk,H3⟩
 dsimp only at*
 refine aj (fun e=>?_) (fun e=>?_)
 ·have hk':k<l.length:=by omega
  refine(Seq.up hl H3.ah).cv k rfl hk' _ rfl ?_
  refine⟨p,(H3.box 0 rfl).aH _ rfl,(KS p seed l[k] h3).mono ?_⟩
  rintro v h4 ⟨w,rfl,R4,hnil⟩
  have H4:=(H3.comp R4).freeze 2 rfl (fun _=>rfl)
  refine⟨w,rfl,?_⟩
  have hat:(at_ k).length≤4+k∨at_ k=[]:=by
   by_cases hp:bO p
   ·left
    have:=(bP p).1 hp
    have h1:=List.length_filter_le bZ (l.take k)
    have h2:=List.length_take_le k l
    simp only[at_,fV,hp,if_true,List.length_append,List.length_map,cH,List.length_range]
    omega
   ·right;simp[at_,fV,hp]
  have hat':(at_ k).length+1≤2^32:=by
   rcases hat with h|h
   ·omega
   ·rw[h];simp
  dsimp only
  refine aY (fun e2=>?_) (fun e2=>?_)
  ·rw[hnil]at e2
   have hok:(bO p&&bZ l[k])=true:=by simpa using e2
   rw[hok,if_pos rfl]at H4
   refine H4.zS ag 1 2 (by decide) rfl rfl iA hat' fun s' h5 H5=>?_
   refine⟨(s',k+1),by dsimp only;rw[wrap_small _ (by omega) (by omega)];rfl,⟨by dsimp only;omega,?_⟩,by dsimp only;omega⟩
   rw[Bool.and_eq_true]at hok
   have e7:at_ (k+1)=at_ k++[zX (cK p).toNat seed l[k]]:=by
    simp only[at_,fV,hok.1,if_true]
    rw[nM hk',if_pos hok.2,List.map_append,List.append_assoc];rfl
   dsimp only
   rw[e7];exact H5.del 2
  ·rw[hnil]at e2
   have hok:(bO p&&bZ l[k])=false:=by
    cases hh:(bO p&&bZ l[k])with
    |false=>rfl
    |true=>rw[hh]at e2;cases e2
   refine⟨(s,k+1),by dsimp only;rw[wrap_small _ (by omega) (by omega)];rfl,⟨by dsimp only;omega,?_⟩,by dsimp only;omega⟩
   have e7:at_ (k+1)=at_ k:=by
    simp only[at_,fV]
    rw[Bool.and_eq_false_iff]at hok
    rcases hok with h|h
    ·simp[h]
    ·have hf:(l.take (k+1)).filter bZ=(l.take k).filter bZ:=by rw[nM hk',if_neg (by simp[h])]
     rw[hf]
   dsimp only
   rw[e7];exact H4.del 2
 ·refine⟨s,rfl,?_⟩
  have e7:at_ k=fV p seed l:=by simp only[at_];rw[List.take_of_length_le (by omega)]
  rw[e7]at H3
  exact H3.take 1 (fun i A hi=>by cases i with|zero=>exact hi|succ i=>simp at hi)
theorem oq (a:Sl) (m:bq) (n:Nat) (h:Heap) (ha:eV h a 1 aD m) (hm:bf n m) (hn:n≤64) (hs:m.length≤2^30):ab Tryz.prog Hz #[.slice a.ptr a.len a.cap] h fun v h'=>v=.bool true∧h'=h:=by
 refine Fs a ?_
 unfold Bo
 have hl:=ha.len
 refine az (fun k:Nat=>(k:Int)) (fun k h'=>h'=h∧k≤m.length) (fun k=>m.length-k) 0 rfl ⟨rfl,by omega⟩ ?_
 rintro k h' ⟨rfl,hk⟩
 refine aj (fun e=>?_) (fun e=>⟨rfl,rfl⟩)
 have hk':k<m.length:=by omega
 refine ha.get k rfl hk' fun r hr=>?_
 refine ha.get 0 rfl (by omega) fun r0 hr0=>?_
 have h1:=hr.len;have h2:=hr0.len
 rw[hm _ (List.getElem_mem _)]at h1 h2
 refine cw (fun e=>by omega) fun _=>aj (fun e=>by omega) fun _=>?_
 exact⟨k+1,by rw[wrap_small _ (by omega) (by omega)];rfl,⟨rfl,by omega⟩,by omega⟩
theorem uX (a:Sl) (m:bq) (n:Nat) (h:Heap) (ha:eV h a 1 aD m) (hm:bf n m) (hn:n≤64) (hs:m.length≤2^30):ab Tryz.prog HA #[.slice a.ptr a.len a.cap] h fun v h'=>∃(r:Sl) (rs:List Sl),v=.slice r.ptr r.len r.cap∧rs.length=m.length∧Sp h h' (ak aS r 1 cm rs::bx aB 1 aD rs m):=by
 refine Ft a ?_
 unfold Bp
 have hl:=ha.len
 refine(Sp.refl h).make ag cm iA (by decide) ⟨none,0,0⟩ rfl rfl 0 m.length rfl (by omega) (by omega) (by omega) fun s h1 hsl hc H1=>?_
 refine az (fun t:Sl×List Sl=>(t.1,(t.2.length:Int))) (fun t h'=>t.2.length≤m.length∧Sp h h' (ak aS t.1 1 cm t.2::bx aB 1 aD t.2 (m.take t.2.length))) (fun t=>m.length-t.2.length) (s,[]) rfl ⟨by simp,by simpa[bx]using H1⟩ ?_
 rintro⟨s,rs⟩ h2 ⟨hk,H2⟩
 dsimp only at*
 refine aj (fun e=>?_) (fun e=>?_)
 ·have hk':rs.length<m.length:=by omega
  refine(ha.up H2.ah).get rs.length rfl hk' fun r hr=>?_
  have hrl:m[rs.length].length=n:=hm _ (List.getElem_mem _)
  refine(iM r _ h2 hr (by omega)).mono ?_
  rintro v h3 ⟨w,rfl,R3⟩
  have H3:=H2.comp R3
  refine⟨w,rfl,?_⟩
  refine H3.push ag 0 rfl iA rfl (by decide) (fun _=>rfl) nI w rfl (by decide) (by omega) fun s' h4 H4=>?_
  refine⟨(s',rs++[w]),by dsimp only;rw[wrap_small _ (by omega) (by omega)];simp,⟨by simp;omega,?_⟩,by simp;omega⟩
  dsimp only
  rw[show(rs++[w]).length=rs.length+1 by simp,aL _ _ hk',nJ (by rw[List.length_take];omega)]
  exact H4
 ·have e2:m.take rs.length=m:=List.take_of_length_le (by omega)
  rw[e2]at H2
  exact⟨s,rs,rfl,by omega,H2⟩
theorem qK (a:Sl) (m:bq) (h:Heap) (ha:eV h a 1 aD m):ab Tryz.prog DV #[.slice a.ptr a.len a.cap] h fun v h'=>v=.int .i64 (fW m)∧h'=h:=by
 refine Cj a ?_
 unfold wv
 have hl:=ha.len
 refine cJ (fun e=>?_) (fun e=>?_)
 ·have:m=[]:=List.eq_nil_of_length_eq_zero (by omega)
  subst this
  exact⟨rfl,rfl⟩
 ·refine ha.get 0 rfl (by omega) fun r hr=>⟨?_,rfl⟩
  rw[hr.len,fW,cO (by omega)]
theorem Em {r:Row} {c:Nat} (h:c<r.length):bj r c=r[c]:=by rw[bj,List.getD_eq_getElem?_getD,List.getElem?_eq_getElem h];rfl
theorem FU (a:Sl) (m:bq) (n top bm:Nat) (h:Heap) (ha:eV h a 1 aD m) (hm:bf n m) (hc:bm<n) (hs:m.length≤2^30):
  ab Tryz.prog Cm #[.slice a.ptr a.len a.cap,.int .i64 top,.int .i64 bm] h fun v h'=>v=.int .i64 (match fl m top bm with|some i=>(i:Int)|none=>-1)∧h'=h:=by
 refine AJ a top bm ?_
 unfold uD
 have hl:=ha.len
 refine az (fun k:Nat=>(k:Int)) (fun k h'=>h'=h∧top≤k∧k≤max top m.length∧∀j,j<k→(decide (top≤j)&&(bj (aQ m j) bm !=0))=false) (fun k=>m.length-k) top rfl ⟨rfl,by omega,by omega,fun j hj=>by rw[decide_eq_false (by omega)];rfl⟩ ?_
 rintro k h' ⟨rfl,hk1,hk2,hj⟩
 refine aj (fun e=>?_) (fun e=>?_)
 ·rw[fl,G9 (fun j hj'=>hj j (by omega))];exact⟨rfl,rfl⟩
 ·have hk':k<m.length:=by omega
  have hrl:m[k].length=n:=hm _ (List.getElem_mem _)
  refine ha.get k rfl hk' fun r hr=>?_
  refine hr.cv bm rfl (by omega) _ rfl ?_
  have hcell:bj (aQ m k) bm=m[k][bm]'(by omega):=by rw[cO hk',Em (by omega)]
  refine cw (fun e2=>?_) (fun e2=>?_)
  ·have hne:(decide (top≤k)&&(bj (aQ m k) bm !=0))=true:=by
    rw[decide_eq_true hk1,hcell];simp;exact fun h0=>e2 (by rw[h0];rfl)
   rw[fl,Ha hk' hj hne];exact⟨rfl,rfl⟩
  ·refine⟨k+1,by rw[wrap_small _ (by omega) (by omega)];rfl,⟨rfl,by omega,by omega,fun j hj'=>?_⟩,by omega⟩
   rcases Nat.lt_succ_iff_lt_or_eq.1 hj' with h1|rfl
   ·exact hj j h1
   ·rw[hcell,uW.1 e2];simp
theorem HN (f:Addr) (c:UInt8) (a:Sl) (l:Row) (h:Heap) (hf:hY h f) (ha:Rd h a 1 aD l) (hs:l.length≤2^30):ab Tryz.prog D4 #[.pointer (some f),.int .u8 c.toNat,.slice a.ptr a.len a.cap] h fun v h'=>∃r:Sl,v=.slice r.ptr r.len r.cap∧Sp h h' [ak aB r 1 aD (scaleB c l)]:=by
 refine Cn (some f) _ a ?_
 unfold wy
 have hl:=ha.len
 refine(Cr f h).mono ?_
 rintro v h1 ⟨rfl,rfl⟩
 refine⟨some f,rfl,?_⟩
 refine(Sp.refl h1).make ag aD gN (by decide) 0 rfl rfl l.length l.length (by omega) (by omega) (Nat.le_refl _) (by omega) fun s h2 hsl hc H2=>?_
 refine az (fun k:Nat=>(k:Int)) (fun k h'=>k≤l.length∧Sp h1 h' [ak aB s 1 aD ((l.take k).map (Gf.mul c)++List.replicate (l.length-k) 0)]) (fun k=>l.length-k) 0 rfl ⟨by omega,by simpa using H2⟩ ?_
 rintro k h3 ⟨hk,H3⟩
 refine aj (fun e=>?_) (fun e=>?_)
 ·have hk':k<l.length:=by omega
  refine(Seq.up ha H3.ah).cv k rfl hk' _ rfl ?_
  refine(El f c l[k] h3 (hf.ah H3.ah hf.lt)).mono ?_
  rintro v h4 ⟨rfl,rfl⟩
  refine⟨_,rfl,?_⟩
  refine H3.set ag 0 rfl (fun _=>rfl) rfl k rfl (by simp;omega) _ rfl rfl rfl fun h5 H5=>?_
  refine⟨k+1,by rw[wrap_small _ (by omega) (by omega)];rfl,⟨by omega,?_⟩,by omega⟩
  have hlk:((l.take k).map (Gf.mul c)).length=k:=by simp;omega
  have e2:((l.take k).map (Gf.mul c)++List.replicate (l.length-k) 0).set k (Gf.mul c l[k])=(l.take (k+1)).map (Gf.mul c)++List.replicate (l.length-(k+1)) 0:=by
   rw[List.set_append_right _ _ (by omega),hlk,Nat.sub_self,show l.length-k=l.length-(k+1)+1 by omega,List.replicate_succ,List.set_cons_zero,aL _ _ hk',List.map_append,List.append_assoc];rfl
  rw[←e2];exact H5
 ·have:k=l.length:=by omega
  subst this
  refine⟨s,rfl,?_⟩
  rw[List.take_of_length_le (Nat.le_refl _),Nat.sub_self,List.replicate_zero,List.append_nil]at H3
  exact H3
theorem uY {c:UInt8} {a t:Row} (hat:a.length=t.length) {k:Nat} (hk:k<t.length):(List.zipWith (fun x y=>y^^^Gf.mul c x) (a.take k) (t.take k)++t.drop k).set k (t[k]^^^Gf.mul c (a[k]'(by omega)))=List.zipWith (fun x y=>y^^^Gf.mul c x) (a.take (k+1)) (t.take (k+1))++t.drop (k+1):=by
 have hl:(List.zipWith (fun x y=>y^^^Gf.mul c x) (a.take k) (t.take k)).length=k:=by simp;omega
 rw[List.set_append_right _ _ (by omega),hl,Nat.sub_self,List.drop_eq_getElem_cons hk,List.set_cons_zero,aL _ _ hk,aL _ _ (show k<a.length by omega),List.zipWith_append (by simp;omega)]
 simp
theorem KT (f:Addr) (c:UInt8) (a to:Sl) (la lt:Row) (h:Heap) (hf:hY h f) (hfo:¬to.on f.block) (ha:Seq h (fun b=>¬to.on b) a 1 aD la) (ht:Own h aB to 1 aD lt) (hat:la.length=lt.length) (hs:la.length≤2^30):
  ab Tryz.prog yT #[.pointer (some f),.int .u8 c.toNat,.slice a.ptr a.len a.cap,.slice to.ptr to.len to.cap] h fun v h'=>v=.tuple #[]∧Own h' aB to 1 aD (cZ c la lt)∧aE (fun b=>¬to.on b) h h':=by
 refine FA (some f) _ a to ?_
 unfold Bt
 have hl:=ha.len;have htl:=ht.len
 refine cJ (fun e=>?_) (fun _=>?_)
 ·have hc:c=0:=uW.1 e
  subst hc
  have:cZ 0 la lt=lt:=by
   apply List.ext_getElem (by rw[bI hat])
   intro i h1 h2
   simp[cZ,Gf.zero_mul]
  exact⟨rfl,by rw[this];exact ht,aE.refl _ _⟩
 ·refine az (fun k:Nat=>(k:Int)) (fun k h'=>k≤la.length∧Own h' aB to 1 aD (List.zipWith (fun x y=>y^^^Gf.mul c x) (la.take k) (lt.take k)++lt.drop k)∧aE (fun b=>¬to.on b) h h') (fun k=>la.length-k) 0 rfl ⟨by omega,by simpa using ht,aE.refl _ _⟩ ?_
  rintro k h1 ⟨hk,ho1,hp1⟩
  refine aj (fun e=>?_) (fun e=>?_)
  ·have hk':k<la.length:=by omega
   have hkt:k<lt.length:=by omega
   have hzl:(List.zipWith (fun x y=>y^^^Gf.mul c x) (la.take k) (lt.take k)).length=k:=by simp;omega
   have hll:(List.zipWith (fun x y=>y^^^Gf.mul c x) (la.take k) (lt.take k)++lt.drop k).length=lt.length:=by rw[List.length_append,hzl,List.length_drop];omega
   refine(ha.ah hp1).cv k rfl hk' _ rfl ?_
   have hval:(List.zipWith (fun x y=>y^^^Gf.mul c x) (la.take k) (lt.take k)++lt.drop k)[k]'(by omega)=lt[k]:=by
    rw[List.getElem_append_right (by omega)];simp[hzl]
   refine(ho1.seq (p:=fun _=>True) (fun _=>rfl) fun _ _=>trivial).G4 k rfl (by omega) _ rfl fun ax hax=>?_
   rw[hval]at hax⊢
   refine(El f c la[k] h1 (hf.ah hp1 hfo)).mono ?_
   rintro v h2 ⟨rfl,rfl⟩
   refine⟨_,rfl,⟨hax,trivial⟩,?_⟩
   dsimp only
   rw[qI]
   refine ho1.set ag (fun _=>rfl) rfl k rfl (by omega) _ rfl rfl rfl fun h3 ho3 hp3 _=>⟨trivial,?_⟩
   refine⟨k+1,by rw[wrap_small _ (by omega) (by omega)];rfl,⟨by omega,?_,hp1.trans hp3⟩,by omega⟩
   rw[←uY hat hkt];exact ho3
  ·have:k=la.length:=by omega
   subst this
   rw[List.take_of_length_le (Nat.le_refl _),List.take_of_length_le (by omega),List.drop_of_length_le (by omega),List.append_nil]at ho1
   exact⟨rfl,ho1,hp1⟩
end Go.Proofs.YtkciobclldnoiaaGreat
namespace Go.Proofs.YtkciobclldnoiaaGreat
open Go Go.Vc Go.Proofs Wl
set_option maxRecDepth 100000
abbrev kT (a:Sl) (rs:List Sl) (m:bq):List HP:=ak aS a 1 cm rs::bx aB 1 aD rs m
theorem qL {a:Sl} {rs:List Sl} {m:bq} (hl:rs.length=m.length) (i:Nat) (hi:i<m.length):(kT a rs m)[i+1]?=some (ak aB (rs[i]'(by omega)) 1 aD m[i]):=by
 rw[List.getElem?_cons_succ];exact gD hl i hi
theorem Mp {h h':Heap} {a:Addr} {v:Value} (hc:cellOf h a=some v) (hp:aE (fun b=>b<h.size) h h'):cellOf h' a=some v:=hp.cell (mY hc) hc
theorem Jx {B:aq} {h0:Heap} {f:Addr} (hf0:hY h0 f) (hfB:B f.block) {a:Sl} {n top bm:Nat} {rs:List Sl} {m:bq} (hl:rs.length=m.length) (hm:bf n m) (hc:bm<n) (hn:n≤64) (ht:top<m.length) (hs:m.length≤2^30)
  {h:Heap} (H:aa B h0 h (kT a rs m)) {K:Heap→Prop} (hk:∀h',aa B h0 h' (kT a rs (cT top bm m m.length))→K h'):
 aO (σ:=Int) (fun s20 K4 h10=>
 Br (decide (s20<((a.len:Nat):Int)))
 (Br (s20 !=(top:Int))
 (∃a21:Addr,(a.ptr=some a21∧0≤s20∧s20<((a.len:Nat):Int))∧
 ∃x22:Sl,cellOf h10 (a21.add (s20.toNat*1))=some (.slice x22.ptr x22.len x22.cap)∧
 ∃a23:Addr,(x22.ptr=some a23∧0≤(bm:Int)∧(bm:Int)<((x22.len:Nat):Int))∧
 ∃x24:Int,cellOf h10 (a23.add ((bm:Int).toNat*1))=some (.int .u8 x24)∧
 ∃a25:Addr,(a.ptr=some a25∧0≤(top:Int)∧(top:Int)<((a.len:Nat):Int))∧
 ∃x26:Sl,cellOf h10 (a25.add ((top:Int).toNat*1))=some (.slice x26.ptr x26.len x26.cap)∧
 ∃a27:Addr,(a.ptr=some a27∧0≤s20∧s20<((a.len:Nat):Int))∧
 ∃x28:Sl,cellOf h10 (a27.add (s20.toNat*1))=some (.slice x28.ptr x28.len x28.cap)∧
 ae Tryz.prog yT #[(.pointer (some f)),(.int .u8 x24),(.slice x26.ptr x26.len x26.cap),(.slice x28.ptr x28.len x28.cap)] (.many []) h10 fun _ h11=>
 (au.ok [(a21.add (s20.toNat*1),(.slice x22.ptr x22.len x22.cap))] h11)∧
 K4 (IntKind.wrap .i64 (s20+(1:Int))) h11)
 (K4 (IntKind.wrap .i64 (s20+(1:Int))) h10))
 (K h10)) (0:Int) h:=by
 have hal:a.len=m.length:=by rw[(H.own 0 rfl).len,hl]
 refine az (fun k:Nat=>(k:Int)) (fun k h'=>k≤m.length∧aa B h0 h' (kT a rs (cT top bm m k))) (fun k=>m.length-k) 0 rfl ⟨by omega,by rw[IF];exact H⟩ ?_
 rintro k h1 ⟨hk1,H1⟩
 have hel:=j9 top bm m k
 have hle:rs.length=(cT top bm m k).length:=by rw[hel];exact hl
 refine aj (fun e=>?_) (fun e=>?_)
 ·have hk':k<m.length:=by omega
  refine cw (fun e2=>?_) (fun e2=>?_)
  ·have hkt:k≠top:=fun hh=>e2 (by rw[hh])
   have hrk:aQ (cT top bm m k) k=aQ m k:=by rw[lE hk',if_neg (by omega)]
   have hrt:aQ (cT top bm m k) top=aQ m top:=by rw[lE ht,if_neg (by omega)]
   have e4:(cT top bm m k)[k]'(by omega)=aQ m k:=by rw[←hrk,cO]
   have e5:(cT top bm m k)[top]'(by omega)=aQ m top:=by rw[←hrt,cO]
   have gk:=qL (a:=a) hle k (by omega)
   have gt:=qL (a:=a) hle top (by omega)
   rw[e4]at gk
   rw[e5]at gt
   have lk:=cx hm hk'
   have lt:=cx hm ht
   have hoff:=H1.off (k+1) 0 (by omega) gk rfl
   have hs1:=hoff.1.seq (fun _=>rfl) hoff.2
   refine hs1.pv k rfl (by omega) fun a1 ha1 hb1=>?_
   have hrd:=H1.seq (k+1) gk (fun _=>rfl)
   refine hrd.cv bm rfl (by omega) _ rfl ?_
   refine hs1.pv top rfl (by omega) fun _ _ _=>?_
   refine hs1.pv k rfl (by omega) fun _ _ _=>?_
   have hrt2:(pr (rs[top]'(by omega)) 1 aD (aQ m top)).p h1 (fun b=>¬(rs[k]'(by omega)).on b):=by
    have:=H1.off (k+1) (top+1) (by omega) gk gt
    exact(this.1.seq (fun _=>rfl) this.2).mono fun b hb=>hb.2
   refine(KT f _ _ _ (aQ m top) (aQ m k) h1 (hf0.ah H1.ah hfB) (H1.base (k+1) gk hfB) hrt2 (H1.own (k+1) gk) (by omega) (by omega)).mono ?_
   rintro v h2 ⟨rfl,ho2,hp2⟩
   have H2:=H1.gW (k+1) gk hp2 ho2
   have ha2:=hp2.cell hb1.2 ha1
   refine⟨(),rfl,⟨ha2,trivial⟩,?_⟩
   refine⟨k+1,by rw[wrap_small _ (by omega) (by omega)];rfl,⟨by omega,?_⟩,by omega⟩
   rw[IG hk' hkt]
   show aa B h0 h2 (ak aS a 1 cm rs::bx aB 1 aD rs ((cT top bm m k).set k _))
   rw[←C4 hle k (by omega)]
   have hcol:(aQ m k)[bm]'(by omega)=bj (aQ m k) bm:=(Em (by omega)).symm
   rw[hcol]at H2
   exact H2
  ·have hkt:k=top:=by omega
   subst hkt
   exact⟨k+1,by rw[wrap_small _ (by omega) (by omega)];rfl,⟨by omega,by rw[IH];exact H1⟩,by omega⟩
 ·have:k=m.length:=by omega
  subst this
  exact hk _ H1
theorem En {rs:List Sl} {m:bq} (hl:rs.length=m.length) (i j:Nat) (hi:i<m.length) (hj:j<m.length):
  ((bx aB 1 aD rs m).set i (ak aB (rs[j]'(by omega)) 1 aD m[j])).set j (ak aB (rs[i]'(by omega)) 1 aD m[i])=bx aB 1 aD ((rs.set i (rs[j]'(by omega))).set j (rs[i]'(by omega))) (fF m i j):=by
 rw[jS hl,jS (by simpa using hl),fF,cO hi,cO hj]
theorem wD {B:aq} {h0:Heap} {f:Addr} (hf0:hY h0 f) (hfB:B f.block) {a:Sl} {n nR:Nat} {rs:List Sl} {m:bq} (hl:rs.length=m.length) (hm:bf n m) (hc:nR≤n) (hn:n≤64) (hs:m.length≤2^30)
  {h:Heap} (H:aa B h0 h (kT a rs m)):ab Tryz.prog Ck #[.pointer (some f),.slice a.ptr a.len a.cap,.int .i64 nR] h fun v h'=>
   ∃rs':List Sl,v=.int .i64 (bu m nR).1∧rs'.length=m.length∧aa B h0 h' (kT a rs' (bu m nR).2):=by
 have hal:a.len=m.length:=by rw[(H.own 0 rfl).len,hl]
 refine AF (some f) a nR ?_
 unfold uA
 refine az (fun t:List Sl×Nat=>(((bu m t.2).1:Int),(t.2:Int))) (fun t h'=>t.2≤nR∧t.1.length=m.length∧aa B h0 h' (kT a t.1 (bu m t.2).2)) (fun t=>nR-t.2) (rs,0) rfl ⟨by simp,hl,H⟩ ?_
 rintro⟨rs1,bm⟩ h1 ⟨hk,hl1,H1⟩
 dsimp only at*
 have hev:=gF hm bm
 have htop:=ra m bm
 obtain⟨st,hst⟩:∃st,st=bu m bm:=⟨_,rfl⟩
 rw[←hst]at hev htop H1⊢
 obtain⟨top,m1⟩:=st
 dsimp only at hev htop H1⊢
 have hlm:rs1.length=m1.length:=by omega
 have hstep:bu m (bm+1)=fG (top,m1) bm:=by rw[bu,←hst]
 refine aj (fun e=>?_) (fun e=>?_)
 ·have hcn:bm<n:=by omega
  have hrd2:eV h1 a 1 aD m1:=H1.Gv hlm (fun _=>rfl)
  refine(FU a m1 n top bm h1 hrd2 hev.1 hcn (by omega)).mono ?_
  rintro v h2 ⟨rfl,rfl⟩
  refine⟨_,rfl,?_⟩
  dsimp only
  cases hb:fl m1 top bm with
  |none=>
   refine aj (fun _=>?_) (fun e2=>absurd (by decide) e2)
   refine⟨(rs1,bm+1),?_,⟨by dsimp only;omega,hl1,?_⟩,by dsimp only;omega⟩
   ·dsimp only;rw[hstep,fG,hb,wrap_small _ (by omega) (by omega)];rfl
   ·dsimp only;rw[hstep,fG,hb];exact H1
  |some i=>
   have hh:=lX hb
   refine aj (fun e2=>absurd (show((i:Nat):Int)<0 from e2) (by omega)) (fun _=>?_)
   dsimp only
   have hti:top<m1.length:=by omega
   have hi:=hh.2.1
   have hsq:=H1.seq 0 rfl (fun _=>rfl)
   refine aW ?_
   refine hsq.pv i rfl (by omega) fun _ _ _=>?_
   refine hsq.pv top rfl (by omega) fun _ _ _=>?_
   refine H1.set ag 0 rfl (fun _=>rfl) rfl top rfl (by omega) (rs1[i]'(by omega)) rfl rfl rfl fun h3 H3=>⟨trivial,?_⟩
   refine H3.set ag 0 rfl (fun _=>rfl) rfl i rfl (by simp;omega) (rs1[top]'(by omega)) rfl rfl rfl fun h4 H4=>⟨trivial,?_⟩
   have H4':aa B h0 h4 (kT a ((rs1.set top (rs1[i]'(by omega))).set i (rs1[top]'(by omega))) (fF m1 top i)):=by
    have:=H4.Lz (top+1) (i+1) (A:=ak aB (rs1[top]'(by omega)) 1 aD m1[top]) (A2:=ak aB (rs1[i]'(by omega)) 1 aD m1[i]) (gD hlm top hti) (gD hlm i hi)
    show aa B h0 h4 (ak aS a 1 cm _::bx aB 1 aD _ _)
    rw[←En hlm top i hti hi]
    exact this
   obtain⟨rs2,hrs2⟩:∃rs2,rs2=(rs1.set top (rs1[i]'(by omega))).set i (rs1[top]'(by omega)):=⟨_,rfl⟩
   rw[←hrs2]at H4'
   have hl2:rs2.length=m1.length:=by rw[hrs2];simp;omega
   obtain⟨m2,hm2⟩:∃m2,m2=fF m1 top i:=⟨_,rfl⟩
   have hev2:bf n m2:=by rw[hm2];exact tC hev.1 hti hi
   have hlm2:m2.length=m1.length:=by rw[hm2];exact ig _ _ _
   rw[←hm2]at H4'
   have hlr2:rs2.length=m2.length:=by omega
   have htm2:top<m2.length:=by omega
   refine aW ?_
   have gt:=qL (a:=a) hlr2 top htm2
   have lt:m2[top].length=n:=hev2 _ (List.getElem_mem _)
   have hs4:=H4'.seq 0 rfl (fun _=>rfl)
   refine hs4.pv top rfl (by omega) fun a10 ha10 _=>?_
   have hrow:=H4'.seq (top+1) gt (fun _=>rfl)
   refine hrow.cv bm rfl (by omega) _ rfl ?_
   refine hs4.pv top rfl (by omega) fun a14 ha14 _=>?_
   have hf4:hY h4 f:=hf0.ah H4'.ah hfB
   refine(KP f _ h4 hf4).mono ?_
   rintro v h5 ⟨rfl,rfl⟩
   refine⟨_,rfl,⟨ha14,ha10,trivial⟩,?_⟩
   refine(HN f _ _ _ h5 hf4 hrow (by omega)).mono ?_
   rintro v h6 ⟨r,rfl,R6⟩
   refine⟨r,rfl,⟨Mp ha10 R6.ah,trivial⟩,?_⟩
   have H6:=H4'.comp R6
   dsimp only
   refine H6.set ag 0 rfl (fun _=>rfl) rfl top rfl (by omega) r rfl rfl rfl fun h7 H7=>⟨trivial,?_⟩
   have hrt:m2[top]=aQ m2 top:=(cO htm2).symm
   have hct:(m2[top])[bm]'(by omega)=bj (aQ m2 top) bm:=by rw[Em (by rw[cO htm2];omega)];simp only[cO htm2]
   have H7':aa B h0 h7 (kT a (rs2.set top r) (fZ top bm m2)):=by
    have h8:aa B h0 h7 ((ak aS a 1 cm (rs2.set top r)::bx aB 1 aD rs2 m2)++[ak aB r 1 aD (scaleB (Gf.inv ((m2[top])[bm]'(by omega))) m2[top])]):=H7
    have h9:=h8.ML (top+1) (by simp[E1 hlr2];omega)
    rw[hct,hrt]at h9
    show aa B h0 h7 (ak aS a 1 cm _::bx aB 1 aD _ (m2.set top _))
    rw[←jS hlr2]
    exact h9
   have hlen3:(fZ top bm m2).length=m2.length:=j8 _ _ _
   refine Jx hf0 hfB (by simp;omega) (oO hev2 htm2) hcn hn (by omega) (by omega) H7' fun h8 H8=>?_
   have hsome:fG (top,m1) bm=(top+1,cT top bm (fZ top bm m2) m1.length):=by
    rw[fG];dsimp only;rw[hb,hm2]
   refine⟨(rs2.set top r,bm+1),?_,⟨by dsimp only;omega,by simp;omega,?_⟩,by dsimp only;omega⟩
   ·dsimp only;rw[hstep,hsome,wrap_small _ (by omega) (by omega),wrap_small _ (by omega) (by omega)];rfl
   ·dsimp only;rw[hstep,hsome];rw[hlen3,hlm2]at H8;exact H8
 ·have:bm=nR:=by omega
  subst this
  exact⟨rs1,by rw[←hst],hl1,by rw[←hst];exact H1⟩
theorem FV (f:Addr) (a:Sl) (m:bq) (n:Nat) (h:Heap) (hf:hY h f) (ha:eV h a 1 aD m) (hm:bf n m) (hn:n≤64) (hs:m.length≤2^30):
  ab Tryz.prog Cp #[.pointer (some f),.slice a.ptr a.len a.cap] h fun v h'=>∃(r:Sl) (rs:List Sl),v=.slice r.ptr r.len r.cap∧r.len=dX m∧rs.length=m.length∧r.len≤m.length∧Sp h h' (kT ⟨r.ptr,m.length,r.cap⟩ rs (bu m (fW m)).2):=by
 refine AL (some f) a ?_
 unfold uI
 refine(oq a m n h ha hm hn hs).mono ?_
 rintro v h1 ⟨rfl,rfl⟩
 refine⟨_,rfl,aY (fun e=>by cases e) fun _=>?_⟩
 refine(uX a m n h1 ha hm hn hs).mono ?_
 rintro v h2 ⟨r,rs,rfl,hl,R2⟩
 refine⟨r,rfl,(sF f h2).mono ?_⟩
 rintro v h3 ⟨rfl,rfl⟩
 refine⟨some f,rfl,(qK r m h3 (R2.Gv hl (fun _=>rfl))).mono ?_⟩
 rintro v h4 ⟨rfl,rfl⟩
 have hw:fW m≤n:=by
  cases m with
  |nil=>simp[fW,aQ]
  |cons x t=>rw[fW,cO (by simp)];exact Nat.le_of_eq (hm _ (by simp))
 refine⟨_,rfl,(wD hf hf.lt hl hm hw hn hs R2).mono ?_⟩
 rintro v h5 ⟨rs',rfl,hl',R5⟩
 have htop:=ra m (fW m)
 rw[(gF hm _).2]at htop
 have hcap:=(R5.own 0 rfl).cap
 have hlen:=(R5.own 0 rfl).len
 refine⟨_,rfl,⟨Int.natCast_nonneg _,Int.ofNat_le.2 (show(bu m (fW m)).1≤r.cap by omega)⟩,⟨r.ptr,(bu m (fW m)).1,r.cap⟩,rs',by simp,rfl,hl',htop,?_⟩
 have:r=⟨r.ptr,m.length,r.cap⟩:=by
  obtain⟨p,l,c⟩:=r
  simp only at hlen⊢
  rw[←hl',←hlen]
 rw[←this];exact R5
theorem Jy (f:Addr) (a:Sl) (m:bq) (n:Nat) (h:Heap) (hf:hY h f) (ha:eV h a 1 aD m) (hm:bf n m) (hn:n≤64) (hs:m.length≤2^30):
  ab Tryz.prog FD #[.pointer (some f),.slice a.ptr a.len a.cap] h fun v h'=>v=.int .i64 (dX m)∧Sp h h' []:=by
 refine D7 (some f) a ?_
 unfold yX
 refine(FV f a m n h hf ha hm hn hs).mono ?_
 rintro v h1 ⟨r,rs,rfl,hr,_,_,R1⟩
 exact⟨r,rfl,by rw[hr],.zip R1.ah⟩
end Go.Proofs.YtkciobclldnoiaaGreat
namespace Go.Proofs.YtkciobclldnoiaaGreat
open Go Go.Vc Go.Proofs Wl
set_option maxRecDepth 100000
theorem xz (p:Pm) (seed:Int) (ids:Sl) (l:List Int) (h:Heap) (hl:Rd h ids 1 aw l) (hsz:l.length≤2^29):ab Tryz.prog AI #[j3 p,.int .u32 seed,.slice ids.ptr ids.len ids.cap] h fun v h'=>v=.int .i64 (Hm p seed l)∧Sp h h' []:=by
 refine yR p seed ids ?_
 unfold sC
 refine(Sp.refl h).boxed fun a h1 H1=>?_
 refine⟨p,(H1.box 0 rfl).aH _ rfl,(rN h1).mono ?_⟩
 rintro v h2 ⟨f,rfl,R2⟩
 have H2:=H1.comp R2
 have hb:=H2.box 0 rfl
 refine⟨some f,rfl,⟨hb.cell0 rfl,hb.cell rfl,hb.cell rfl,trivial⟩,?_⟩
 refine(wC p seed ids l h2 (Seq.up hl H2.ah) (by omega)).mono ?_
 rintro v h3 ⟨r,rfl,R3⟩
 have H3:=H2.comp R3
 refine⟨r,rfl,trivial,?_⟩
 have hml:=Kr p seed l
 have hcp:(cK p).toNat≤64:=by
  unfold cK
  split
  ·rename_i hp;have:=(bP p).1 hp;omega
  ·omega
 refine(Jy f r _ _ h3 (H3.box 1 rfl) (H3.xQ 2 rfl) (Be p seed l) hcp (by omega)).mono ?_
 rintro v h4 ⟨rfl,R4⟩
 exact⟨_,rfl,trivial,rfl,.zip (H3.comp R4).ah⟩
theorem Jz (p:Pm) (seed:Int) (ids:Sl) (l:List Int) (h:Heap) (hl:Rd h ids 1 aw l) (hsz:l.length≤2^29):ab Tryz.prog AE #[j3 p,.int .u32 seed,.slice ids.ptr ids.len ids.cap] h fun v h'=>v=.bool (kE p seed l)∧Sp h h' []:=by
 refine yJ p seed ids ?_
 unfold sw
 refine(Sp.refl h).boxed fun a h1 H1=>?_
 refine⟨p,(H1.box 0 rfl).aH _ rfl,(dq p h1).mono ?_⟩
 rintro v h2 ⟨rfl,R2⟩
 have H2:=H1.comp R2
 refine⟨_,rfl,trivial,bt (fun e=>?_) (fun e=>⟨trivial,trivial,by rw[kE,e];rfl,.zip H2.ah⟩)⟩
 have hb:=H2.box 0 rfl
 refine⟨p,hb.aH _ rfl,p,hb.aH _ rfl,(xz p seed ids l h2 (Seq.up hl H2.ah) hsz).mono ?_⟩
 rintro v h3 ⟨rfl,R3⟩
 have H3:=H2.comp R3
 have hb3:=H3.box 0 rfl
 refine⟨_,rfl,⟨hb3.cell0 rfl,hb3.cell rfl,hb3.cell rfl,trivial⟩,(j6 p h3).mono ?_⟩
 rintro v h4 ⟨rfl,R4⟩
 exact⟨_,rfl,trivial,by rw[kE,e];rfl,.zip (H3.comp R4).ah⟩
theorem zj (p:Pm) (seed:Int) (h:Heap):ab Tryz.prog yG #[j3 p,.int .u32 seed] h fun v h'=>v=.bool (kE p seed (dJ p))∧Sp h h' []:=by
 refine xf p seed ?_
 unfold qt
 refine(Sp.refl h).boxed fun a h1 H1=>?_
 have hb:=H1.box 0 rfl
 refine⟨p,hb.aH _ rfl,p,hb.aH _ rfl,(zi p h1).mono ?_⟩
 rintro v h2 ⟨r,rfl,R2⟩
 have H2:=H1.comp R2
 have hb2:=H2.box 0 rfl
 refine⟨r,rfl,⟨hb2.cell0 rfl,hb2.cell rfl,hb2.cell rfl,trivial⟩,(Jz p seed r _ h2 (H2.seq 1 rfl (fun _=>rfl)) (by rw[gE];omega)).mono ?_⟩
 rintro v h3 ⟨rfl,R3⟩
 exact⟨_,rfl,trivial,rfl,.zip (H2.comp R3).ah⟩
end Go.Proofs.YtkciobclldnoiaaGreat
namespace Go.Proofs.YtkciobclldnoiaaGreat
open Go Go.Vc Go.Proofs Wl
set_option maxRecDepth 100000
theorem KU (p:Pm) (o b:Int) (h:Heap):ab Tryz.prog DL #[j3 p,.int .i64 o,.int .i64 b] h fun v h'=>
  v=.tuple #[.int .i64 (((kR p o b).getD 0:Nat):Int),.bool (kR p o b).isSome]∧Sp h h' []:=by
 refine B8 p o b ?_
 unfold wj
 refine(Sp.refl h).boxed fun a1 h1 H1=>?_
 have H1:Sp h h1 [an a1 aT [.int .i64 p.1,.int .i64 p.2.1,.int .i64 p.2.2]]:=H1
 refine az (fun i:Nat=>(i:Int)) (fun i h'=>i≤16∧(∀k,k<i→zg p o b k=false)∧Sp h h' [an a1 aT [.int .i64 p.1,.int .i64 p.2.1,.int .i64 p.2.2]]) (fun i=>16-i) 0 rfl ⟨by omega,fun k hk=>absurd hk (Nat.not_lt_zero k),H1⟩ ?_
 rintro i h2 ⟨hi,hno,H2⟩
 refine aj (fun e=>?_) fun e=>?_
 ·have hi':i<16:=by omega
  have hb2:=H2.box 0 rfl
  refine⟨p,hb2.aH _ rfl,(rL _ _ _ h2).mono ?_⟩
  rintro _ h3 ⟨rfl,rfl⟩
  refine⟨_,rfl,⟨hb2.cell0 rfl,hb2.cell rfl,hb2.cell rfl,trivial⟩,(zj p _ h3).mono ?_⟩
  rintro _ h4 ⟨rfl,R4⟩
  have H4:=H2.up R4.ah
  refine⟨_,rfl,trivial,bt (fun g=>?_) fun g=>?_⟩
  ·have ht:kR p o b=some i:=by
    unfold kR
    refine List.find?_eq_some_iff_append.2 ⟨g,List.range i,(List.range (15-i)).map (·+(i+1)),?_,fun k hk=>?_⟩
    ·apply List.ext_getElem?
     intro j
     by_cases hj:j<i
     ·rw[List.getElem?_append_left (by simpa using hj),List.getElem?_range (by omega),List.getElem?_range hj]
     ·rw[List.getElem?_append_right (by simp;omega),List.length_range]
      by_cases hji:j=i
      ·subst hji;rw[Nat.sub_self,List.getElem?_range (by omega)];rfl
      ·obtain⟨d,hd⟩:∃d,j=i+(d+1):=⟨j-i-1,by omega⟩
       subst hd
       rw[Nat.add_sub_cancel_left,List.getElem?_cons_succ,List.getElem?_map]
       by_cases h16:d<15-i
       ·rw[List.getElem?_range h16,List.getElem?_range (by omega)];simp;omega
       ·rw[List.getElem?_eq_none (by simp;omega),List.getElem?_eq_none (by simp;omega)];rfl
    ·rw[hno k (List.mem_range.1 hk)];rfl
   rw[ht]
   exact⟨rfl,.zip H4.ah⟩
  ·refine⟨i+1,by rw[Go.Vc.wrap_small _ (by omega) (by omega)];rfl,⟨by omega,fun k hk=>?_,H4⟩,by omega⟩
   by_cases hki:k<i
   ·exact hno k hki
   ·have:k=i:=by omega
    subst this;exact g
 ·have ht:kR p o b=none:=by
   unfold kR
   rw[List.find?_eq_none]
   intro k hk
   rw[hno k (by have:=List.mem_range.1 hk;omega)];simp
  rw[ht]
  exact⟨rfl,.zip H2.ah⟩
theorem HO (p:Pm) (o:Int) (n:Nat) (h:Heap) (hn:n≤2^30):ab Tryz.prog Aj #[j3 p,.int .i64 o,.int .i64 n] h fun v h'=>
  (ca p o n=none→v=.tuple #[.slice none 0 0,.bool false]∧Sp h h' [])∧
  (∀l,ca p o n=some l→∃r:Sl,v=.tuple #[.slice r.ptr r.len r.cap,.bool true]∧Sp h h' [ak aJ r 1 aw l]):=by
 refine yq p o n ?_
 unfold sf
 refine(Sp.refl h).boxed fun a1 h1 H1=>?_
 have H1:Sp h h1 [ak aJ ⟨none,0,0⟩ 1 aw [],an a1 aT [.int .i64 p.1,.int .i64 p.2.1,.int .i64 p.2.2]]:=(H1.nil aJ 1 aw).cW [1,0]
 refine az (fun t:Sl×Nat×List Int=>(t.1,(t.2.1:Int))) (fun t h'=>t.2.1≤n∧ca p o t.2.1=some t.2.2∧Sp h h' [ak aJ t.1 1 aw t.2.2,an a1 aT [.int .i64 p.1,.int .i64 p.2.1,.int .i64 p.2.2]]) (fun t=>n-t.2.1) (⟨none,0,0⟩,0,[]) rfl ⟨by simp,rfl,H1⟩ ?_
 rintro⟨s,i,l⟩ h2 ⟨hi,hl,H2⟩
 dsimp only at*
 have hll:=gB hl
 have fail:∀j,kR p o i=none→j≤n-(i+1)→ca p o (i+1+j)=none:=fun j hno=>by
  induction j with
  |zero=>intro _;show ca p o (i+1)=none;unfold ca;rw[hl,hno];rfl
  |succ j ih=>intro hj;show ca p o ((i+1+j)+1)=none;unfold ca;rw[ih (by omega)];rfl
 refine aj (fun e=>?_) fun e=>?_
 ·have hi':i<n:=by omega
  refine⟨p,(H2.box 1 rfl).aH _ rfl,(KU p o i h2).mono ?_⟩
  rintro _ h3 ⟨rfl,R3⟩
  have H3:=H2.up R3.ah
  refine⟨(_,_),rfl,aY (fun g=>?_) fun g=>?_⟩
  ·have hnone:ca p o n=none:=by
    have:=fail (n-(i+1)) (Option.isSome_eq_false_iff.1 g|>Option.isNone_iff_eq_none.1) (Nat.le_refl _)
    rw[show i+1+(n-(i+1))=n by omega]at this;exact this
   rw[hnone]
   exact⟨fun _=>⟨rfl,.zip H3.ah⟩,fun l h=>by cases h⟩
  ·obtain⟨t,ht⟩:∃t,kR p o i=some t:=Option.isSome_iff_exists.1 g
   rw[ht]
   refine H3.push ag 0 rfl jN rfl (by decide) (fun _=>rfl) iJ (t:Int) rfl (by decide) (by omega) fun s' h5 H5=>?_
   refine⟨(s',i+1,l++[(t:Int)]),by dsimp only;rw[Go.Vc.wrap_small _ (by omega) (by omega)];rfl,⟨by dsimp only;omega,?_,H5⟩,by dsimp only;omega⟩
   show ca p o (i+1)=_
   unfold ca;rw[hl,ht];rfl
 ·have hin:i=n:=by omega
  subst hin
  rw[hl]
  exact⟨fun h=>(by cases h),fun l' h=>(by injection h with h;subst h;exact⟨s,rfl,H2.cW [0]⟩)⟩
end Go.Proofs.YtkciobclldnoiaaGreat
namespace Wl
open Go
def mE (m:aC) (l:List (List UInt8)):List (List UInt8):=(gv m l).map dz
def gS (m:aC) (l:List (List UInt8)):List (List UInt8):=aZ m++mE m l
def dU (d:bn) (there:Nat) (n:Int):Bool:=decide (max n 0≤(d.room:Int)-there)
def jC (m:aC) (d:bn) (n:Int):Bool:=!d.lost&&(dU d d.l.length n||dU d (gS m d.l).length n)
def eS (m:aC) (w:Pow) (d:bn) (n:Int):Int×Pow×bn:=
 if d.lost then(5,w,d)else if !jC m d n then(7,w,d)else if dU d d.l.length n then(0,w,d)else d.rewrite w (gS m d.l)
theorem KV (l:List di):(rk l).length≤l.length:=by
 unfold rk
 rw[List.length_map]
 exact Nat.le_trans (List.length_filter_le _ _) (by simp)
theorem BD (m:aC) (l:List (List UInt8)):(gv m l).length≤l.length:=by
 unfold gv
 refine Nat.le_trans (KV _) ?_
 rw[List.length_mergeSort]
 exact List.length_filterMap_le _ _
theorem rO (m:aC) (l:List (List UInt8)):(mE m l).length≤l.length:=by unfold mE;rw[List.length_map];exact BD m l
end Wl
namespace Go.Proofs.YtkciobclldnoiaaGreat
open Go Go.Vc Go.Proofs Wl
set_option maxRecDepth 100000
section
variable {B:aq} {h0 h:Heap} {As:List HP} {a pw:Addr} {d:bn} {w:Pow}
theorem dj.rewrite {l:List (List UInt8)} (h:dj d):dj (d.rewrite w l).2.2:=by
 unfold bn.rewrite
 split
 ·exact h
 ·rename_i hc
  split
  ·exact h
  ·split
   ·exact h
   ·rename_i hr
    have hall:∀c∈l,c.length=64:=by simpa using hc
    split
    ·exact h
    ·split
     ·exact⟨Nat.zero_le _,by dsimp only;omega,h.room,hall,Nat.zero_le _,by simp⟩
     ·exact⟨h.wait,h.len,h.room,h.cell,by dsimp only;omega,hall⟩
theorem Eo (x:Sl) (l:List (List UInt8)) (H:aa B h0 h (iB pw a d::bX bo pw w::As)) (hS:St B h0 As fun h=>eV h x 1 aD l) (hl:l.length≤2^20) (hcl:∀c∈l,c.length≤2^20):
  ab Tryz.prog pJ #[.pointer (some a),.slice x.ptr x.len x.cap] h fun v h'=>v=.int .i64 (d.rewrite w l).1∧aa B h0 h' (iB pw a (d.rewrite w l).2.2::bX bo pw (d.rewrite w l).2.1::As):=by
 refine oH (some a) x ?_
 unfold km
 have hx:=hS.at [_,_] H
 have hxl:=hx.len
 have okr:=dj.rewrite (w:=w) (l:=l) (And.left (id H).o0)
 have same:∀(e:Int),d.rewrite w l=(e,w,d)→(Value.int .i64 e=.int .i64 (d.rewrite w l).1∧aa B h0 h (iB pw a (d.rewrite w l).2.2::bX bo pw (d.rewrite w l).2.1::As)):=fun e he=>by
  rw[he];exact⟨rfl,H⟩
 refine az (fun i:Nat=>(i:Int)) (fun i h'=>i≤l.length∧(∀c∈l.take i,c.length=64)∧h'=h) (fun i=>l.length-i) 0 rfl ⟨by omega,by simp,rfl⟩ ?_
 rintro i h1 ⟨hi,hall,rfl⟩
 refine aj (fun e=>?_) fun e=>?_
 ·have hi':i<l.length:=by omega
  refine hx.get i rfl hi' fun r hr=>?_
  have hrl:=hr.len
  refine cw (fun e2=>same 1 ?_) fun e2=>?_
  ·unfold bn.rewrite
   rw[if_pos]
   rw[Bool.not_eq_true',List.all_eq_false]
   exact⟨l[i],List.getElem_mem hi',by simp;omega⟩
  ·refine⟨i+1,by rw[Go.Vc.wrap_small _ (by omega) (by omega)];rfl,⟨by omega,fun c hc=>?_,rfl⟩,by omega⟩
   rw[aL _ _ hi']at hc
   rcases List.mem_append.1 hc with hc|hc
   ·exact hall c hc
   ·rw[List.mem_singleton.1 hc];omega
 have hall:∀c∈l,c.length=64:=by rw[List.take_of_length_le (by omega)]at hall;exact hall
 have hallb:(!l.all fun b=>decide (b.length=64))=false:=by
  rw[Bool.not_eq_false',List.all_eq_true]
  exact fun c hc=>decide_eq_true (hall c hc)
 have er:d.rewrite w l=(if d.lost then(5,w,d)else if d.room<l.length then(7,w,d)else if w.off then(14,w,d)else if w.step.1 then(0,w.step.2,{d with l:=l,wait:=0,laid:=[],has:=false})else(14,w.step.2,{d with laid:=l,has:=true})):=by
  unfold bn.rewrite;rw[hallb];rfl
 obtain⟨ok,s,b,H1⟩:=H.o0
 have hb:=H1.box 0 rfl
 refine aW (aW (bt (fun e=>by cases e) fun _=>⟨a,rfl,d.lost,hb.cell rfl,bt (fun e=>same 5 (by rw[er,if_pos e])) fun elost=>?_⟩))
 refine⟨a,rfl,(d.room:Int),hb.cell rfl,aj (fun e=>same 7 (by rw[er,if_neg (by simp[elost]),if_pos (by omega)])) fun eroom=>?_⟩
 obtain⟨lw,hlw,H1p⟩:=(H1.ba 4 [3,0,1,2]).qC
 refine⟨a,rfl,some pw,hb.cell0 rfl,(vB lw (H1p.box 0 rfl)).mono ?_⟩
 rintro _ h2 ⟨rfl,rfl⟩
 refine⟨_,rfl,aY (fun e=>same 14 ?_) fun eoff=>?_⟩
 ·rw[er,if_neg (by simp[elost]),if_neg (by omega),if_pos (by simpa using e)]
 have eoff':w.off=false:=by simpa using eoff
 have er2:d.rewrite w l=(if w.step.1 then(0,w.step.2,{d with l:=l,wait:=0,laid:=[],has:=false})else(14,w.step.2,{d with laid:=l,has:=true})):=by
  rw[er,if_neg (by simp[elost]),if_neg (by omega),if_neg (by simp[eoff'])]
 refine⟨a,rfl,some pw,hb.cell0 rfl,(uK (H1.ba 4 [3,0,1,2])).mono ?_⟩
 rintro _ h5 ⟨rfl,H5⟩
 have hx5:=hS.at [_,_,_,_] H5
 refine⟨_,rfl,aY (fun e=>?_) fun e=>?_⟩
 ·rw[er2,if_neg (by simp[e])]at okr⊢
  refine(xr x l h5 hx5 hl hcl).mono ?_
  rintro _ h6 ⟨r,rfl,R6⟩
  have H6:=(H5.cq R6).ba 5 [2,3,0,1]
  refine⟨r,rfl,a,rfl,H6.store ag 0 rfl rfl 4 [.slice r.ptr r.len r.cap] rfl rfl rfl (by simp[eK]) fun h7 H7=>?_⟩
  refine⟨a,rfl,H7.store ag 0 rfl rfl 5 [.bool true] rfl rfl rfl (by simp[eK]) fun h8 H8=>⟨rfl,?_⟩⟩
  exact aa.uM (s:=s) (b:=r) okr H8
 ·rw[er2,if_pos e]at okr⊢
  refine(xr x l h5 hx5 hl hcl).mono ?_
  rintro _ h6 ⟨r,rfl,R6⟩
  have H6:=(H5.cq R6).ba 5 [2,0,4,1]
  refine⟨r,rfl,a,rfl,H6.store ag 0 rfl rfl 2 [.slice r.ptr r.len r.cap] rfl rfl rfl (by simp[eK]) fun h7 H7=>?_⟩
  refine⟨a,rfl,H7.store ag 0 rfl rfl 3 [.int .i64 0] rfl rfl rfl (by simp[eK]) fun h8 H8=>?_⟩
  refine(uN (d:={d with l:=l,wait:=0}) r b _ H8 ⟨Nat.zero_le _,by dsimp only;omega,ok.room,hall,ok.laid,ok.cellL⟩ rfl).mono ?_
  rintro _ h9 ⟨rfl,H9⟩
  exact⟨0,rfl,rfl,H9⟩
theorem pP (s b:Sl) (there:Nat) (n:Int) (hb:bN h a bM (eK pw d s b)) (hr:d.room≤512) (ht:there≤2^40):ab Tryz.prog AA #[.pointer (some a),.int .i64 there,.int .i64 n] h fun v h'=>v=.bool (dU d there n)∧h'=h:=by
 refine yD (some a) there n ?_
 unfold su
 refine(Bv s b hb).mono ?_
 rintro _ _ ⟨rfl,rfl⟩
 refine⟨_,rfl,?_,rfl⟩
 rw[Go.Vc.wrap_small ((d.room:Int)-there) (by omega) (by omega)]
 unfold dU
 congr 1
 rw[decide_eq_decide]
 split<;>omega
theorem HQ (s b:Sl) (x:bB) (m:aC) (hb:bN h a bM (eK pw d s b)) (hl:eV h s 1 aD d.l) (ok:dj d) (hx:dm h x m) (hz:b9 m):
  ab Tryz.prog Ci #[.pointer (some a),dF x] h fun v h'=>∃r:Sl,v=.slice r.ptr r.len r.cap∧Sp h h' [cU r (mE m d.l)]:=by
 refine AD (some a) x ?_
 unfold uz
 have hlen:=ok.len;have hroom:=ok.room
 refine(Sp.refl h).boxed fun a1 h1 H1=>?_
 refine⟨x,(H1.box 0 rfl).aH _ rfl,(uS a pw d s b x m h1 (hb.ah H1.ah hb.lt) (hl.up H1.ah) ok (hx.up H1.ah) hz).mono ?_⟩
 rintro _ h2 ⟨r,ys,rfl,R2⟩
 have H2:=(H1.cq R2).wU aS aB 1 aD
 refine⟨r,rfl,?_⟩
 have hrl:=BD m d.l
 obtain⟨L,hL⟩:∃L,L=gv m d.l:=⟨_,rfl⟩
 have hcp:(mE m d.l)=L.map dz:=by unfold mE;rw[hL]
 rw[←hL]at H2 hrl
 rw[hcp]
 have F2:=H2.im 1 rfl
 have hyl:=F2.2.1
 have hrlen:=F2.1.len
 refine az (fun t:Sl×Nat=>(t.1,(t.2:Int))) (fun t h'=>t.2≤L.length∧Sp h h' [cU t.1 ((L.map dz).take t.2),dw dt 8 bs r ys L]) (fun t=>L.length-t.2) (⟨none,0,0⟩,0) rfl ⟨by simp,H2.cW [0,1]⟩ ?_
 rintro⟨o,i⟩ h3 ⟨hi,H3⟩
 dsimp only at*
 have F3:=H3.im 1 rfl
 refine aj (fun e=>?_) (fun e=>?_)
 ·have hi':i<L.length:=by omega
  refine F3.1.fB (g:=bs) i rfl (by omega) (ys[i]'(by omega)) rfl ?_
  refine H3.alloc ag rfl fun a7 h4 H4=>?_
  refine H4.storeAll ag 2 rfl rfl (bs (ys[i]'(by omega))) rfl rfl rfl rfl fun h5 H5=>?_
  have H5:Sp h h5 [cU o ((L.map dz).take i),dw dt 8 bs r ys L,an a7 aI (bs (ys[i]'(by omega)))]:=H5
  refine⟨ys[i]'(by omega),(H5.box 2 rfl).aH _ rfl,(pM _ L[i] h5 (Fix.row (H5.im 1 rfl) hi')).mono ?_⟩
  rintro _ h6 ⟨u,rfl,R6⟩
  have H6:=(H5.cq R6).ba 3 [1,0,2]
  refine⟨u,rfl,H6.xV ag iA (by simp;omega) fun o' h8 H8=>?_⟩
  refine⟨(o',i+1),by dsimp only;rw[Go.Vc.wrap_small _ (by omega) (by omega)];rfl,⟨by dsimp only;omega,?_⟩,by dsimp only;omega⟩
  dsimp only
  rw[aL _ _ (show i<(L.map dz).length by simp;omega),List.getElem_map]
  exact H8.cW [0,1]
 ·rw[List.take_of_length_le (by simp;omega)]at H3
  exact⟨o,rfl,H3.cW [0]⟩
end
end Go.Proofs.YtkciobclldnoiaaGreat
namespace Go.Proofs.YtkciobclldnoiaaGreat
open Go Go.Vc Go.Proofs Wl
set_option maxRecDepth 100000
section
variable {B:aq} {h0 h:Heap} {As:List HP} {a pw:Addr} {d:bn} {w:Pow}
theorem FW {m:aC} {l:List (List UInt8)} {c:List UInt8} (h:c∈mE m l):c.length≤64:=by
 unfold mE at h
 obtain⟨r,_,rfl⟩:=List.mem_map.1 h
 unfold dz
 split
 ·rename_i hm
  refine Nat.le_of_eq (jU (by decide) (by decide) ?_)
  have:=mf hm
  omega
 ·simp
theorem BE (s b:Sl) (x:bB) (m:aC) (hb:bN h a bM (eK pw d s b)) (hl:eV h s 1 aD d.l) (ok:dj d) (hx:dm h x m) (hz:b9 m):
  ab Tryz.prog DP #[.pointer (some a),dF x] h fun v h'=>∃r:Sl,v=.slice r.ptr r.len r.cap∧Sp h h' [cU r (gS m d.l)]:=by
 refine Cf (some a) x ?_
 unfold wo
 have hlen:=ok.len;have hroom:=ok.room
 refine(Sp.refl h).boxed fun a1 h1 H1=>?_
 have H1:Sp h h1 [an a1 ao (aF x)]:=H1
 refine⟨x,(H1.box 0 rfl).aH _ rfl,x,(H1.box 0 rfl).aH _ rfl,(jz x m h1 (hx.up H1.ah) hz).mono ?_⟩
 rintro _ h2 ⟨r,rfl,R2⟩
 have H2:=H1.cq R2
 have hb2:=H2.box 1 rfl
 refine⟨r,rfl,⟨hb2.cell0 rfl,hb2.cell rfl,hb2.cell rfl,hb2.cell rfl,hb2.cell rfl,hb2.cell rfl,hb2.cell rfl,hb2.cell rfl,trivial⟩,(HQ s b x m (hb.ah H2.ah hb.lt) (hl.up H2.ah) ok (hx.up H2.ah) hz).mono ?_⟩
 rintro _ h3 ⟨u,rfl,R3⟩
 have H3:=(H2.cq R3).ba 2 [1,0]
 have hsl:=gy m hz
 have hcl:=rO m d.l
 refine⟨u,rfl,trivial,H3.Ma ag iA ⟨_,_,rfl,rfl⟩ (by omega) fun s' h4 H4=>?_⟩
 exact⟨trivial,s',rfl,H4.cW [0]⟩
theorem BF (s b:Sl) (x:bB) (m:aC) (n:Int) (hb:bN h a bM (eK pw d s b)) (hl:eV h s 1 aD d.l) (hsl:s.len=d.l.length) (ok:dj d) (hx:dm h x m) (hz:b9 m):
  ab Tryz.prog uv #[.pointer (some a),dF x,.int .i64 n] h fun v h'=>v=.bool (jC m d n)∧Sp h h' []:=by
 refine sq (some a) x n ?_
 unfold pI
 have hlen:=ok.len;have hroom:=ok.room
 refine(Sp.refl h).boxed fun a1 h1 H1=>?_
 have H1:Sp h h1 [an a1 ao (aF x)]:=H1
 have hb1:=hb.ah H1.ah hb.lt
 refine aW (bt (fun e=>by cases e) fun _=>(uO s b hb1).mono ?_)
 rintro _ _ ⟨rfl,rfl⟩
 refine⟨_,rfl,bt (fun e=>⟨by unfold jC;rw[e];rfl,.zip H1.ah⟩) fun e=>?_⟩
 have ef:jC m d n=(dU d d.l.length n||dU d (gS m d.l).length n):=by unfold jC;rw[e];rfl
 refine(Bw s b hb1 hsl).mono ?_
 rintro _ _ ⟨rfl,rfl⟩
 refine⟨_,rfl,(pP s b d.l.length n hb1 ok.room (by omega)).mono ?_⟩
 rintro _ _ ⟨rfl,rfl⟩
 refine⟨_,rfl,bt (fun e2=>⟨by rw[ef,e2];rfl,.zip H1.ah⟩) fun e2=>?_⟩
 refine⟨x,(H1.box 0 rfl).aH _ rfl,(BE s b x m hb1 (hl.up H1.ah) ok (hx.up H1.ah) hz).mono ?_⟩
 rintro _ h2 ⟨r,rfl,R2⟩
 have hrl:=(aa.qZ R2).1
 have hkl:(gS m d.l).length≤4000:=by
  have:=gy m hz
  have:=rO m d.l
  unfold gS;rw[List.length_append];omega
 have H2:=H1.cq R2
 refine⟨r,rfl,(pP s b r.len n (hb1.ah R2.ah hb1.lt) ok.room (by omega)).mono ?_⟩
 rintro _ _ ⟨rfl,rfl⟩
 exact⟨_,rfl,by rw[ef,e2,Bool.false_or,hrl],.zip H2.ah⟩
theorem Ep (x:bB) (n:Int) (h:Heap):ab Tryz.prog uv #[.pointer none,dF x,.int .i64 n] h fun v h'=>v=.bool false∧Sp h h' []:=by
 refine sq none x n ?_
 unfold pI
 refine(Sp.refl h).boxed fun a1 h1 H1=>?_
 exact aW (bt (fun _=>⟨rfl,.zip H1.ah⟩) fun e=>by cases e)
theorem JA (x:bB) (m:aC) (n:Int) (hS:St B h0 As fun h=>dm h x m) (hz:b9 m) (H:aa B h0 h (iB pw a d::bX bo pw w::As)):
  ab Tryz.prog uk #[.pointer (some a),dF x,.int .i64 n] h fun v h'=>v=.int .i64 (eS m w d n).1∧aa B h0 h' (iB pw a (eS m w d n).2.2::bX bo pw (eS m w d n).2.1::As):=by
 refine sk (some a) x n ?_
 unfold pF
 refine(Sp.refl h).boxed fun a1 h1 R1=>?_
 have R1:Sp h h1 [an a1 ao (aF x)]:=R1
 have H1:=(H.cq R1).ba 3 [1,2,0]
 have same:∀(e:Int) {h':Heap},aE (fun b=>b<h1.size) h1 h'→eS m w d n=(e,w,d)→(Value.int .i64 e=.int .i64 (eS m w d n).1∧aa B h0 h' (iB pw a (eS m w d n).2.2::bX bo pw (eS m w d n).2.1::As)):=fun e {h'} hp he=>by
  rw[he];exact⟨rfl,((H1.up hp).ba 3 [0,1])⟩
 obtain⟨ok,s,b,H1o⟩:=(id H1).o0
 have hb:=H1o.box 0 rfl
 have hl:eV h1 s 1 aD d.l:=(H1o.ba 2 [1]).Gw fun _=>rfl
 have hsl:=(aa.qZ (H1o.ba 2 [1])).1
 have hlen:=ok.len;have hroom:=ok.room
 refine aW (aW (bt (fun e=>by cases e) fun _=>(uO s b hb).mono ?_))
 rintro _ _ ⟨rfl,rfl⟩
 refine⟨_,rfl,bt (fun e=>same 5 (aE.refl _ _) (by unfold eS;rw[if_pos e])) fun e=>?_⟩
 refine⟨x,(H1.box 2 rfl).aH _ rfl,(BF s b x m n hb hl hsl ok (hS.at [_,_,_] H1) hz).mono ?_⟩
 rintro _ h2 ⟨rfl,R2⟩
 have H2o:=H1o.up R2.ah
 have hb2:=hb.ah R2.ah hb.lt
 have H2:=H1.up R2.ah
 refine⟨_,rfl,aY (fun e2=>same 7 R2.ah (by unfold eS;rw[if_neg (by simp[e]),if_pos (by simp[e2])])) fun e2=>?_⟩
 refine(Bw s b hb2 hsl).mono ?_
 rintro _ _ ⟨rfl,rfl⟩
 refine⟨_,rfl,(pP s b d.l.length n hb2 ok.room (by omega)).mono ?_⟩
 rintro _ _ ⟨rfl,rfl⟩
 refine⟨_,rfl,bt (fun e3=>same 0 R2.ah (by unfold eS;rw[if_neg (by simp[e]),if_neg (by simp[e2]),if_pos e3])) fun e3=>?_⟩
 have em:eS m w d n=d.rewrite w (gS m d.l):=by unfold eS;rw[if_neg (by simp[e]),if_neg (by simp[e2]),if_neg (by simp[e3])]
 rw[em]
 have hkl:(gS m d.l).length≤4000:=by
  have:=gy m hz
  have:=rO m d.l
  unfold gS;rw[List.length_append];omega
 have hkc:∀c∈gS m d.l,c.length≤64:=fun c hc=>by
  unfold gS at hc
  rcases List.mem_append.1 hc with hc|hc
  ·exact Nat.le_of_eq (rf hc)
  ·exact FW hc
 refine⟨x,(H2.box 2 rfl).aH _ rfl,(BE s b x m hb2 ((H2o.ba 2 [1]).Gw fun _=>rfl) ok (hS.at [_,_,_] H2) hz).mono ?_⟩
 rintro _ h3 ⟨r,rfl,R3⟩
 obtain⟨rs,H3⟩:=(H2.cq R3).KK fun _=>rfl
 have H3:=H3.ba 4 [1,2,0]
 refine⟨r,rfl,(Eo r (gS m d.l) H3 (St.eM 0 rfl fun h' hq=>?_) (by omega) fun c hc=>Nat.le_trans (hkc c hc) (by decide)).mono ?_⟩
 ·exact⟨rs,hq.1,hq.2.1,hq.2.2⟩
 rintro _ h4 ⟨rfl,H4⟩
 exact⟨_,rfl,rfl,H4.ba 3 [0,1]⟩
end
end Go.Proofs.YtkciobclldnoiaaGreat
namespace Go.Proofs.YtkciobclldnoiaaGreat
open Go Go.Vc Go.Proofs Wl
section
set_option maxRecDepth 20000
variable {B:aq} {h0 h:Heap} {As:List HP} {a pw b:Addr} {x:bB} {offs:Int} {da:List (Option Addr)} {w:Pow} {ds:aR} {d:bn}
theorem aa.KW (n:Nat) (hn:n<64) (hd:ds[n]?=some none) (H:aa B h0 h (aP bc a pw (aF x) offs da w ds::iB pw b d::As)) {K:Unit→Heap→Prop}
  (hk:∀h',aa B h0 h' (aP bc a pw (aF x) offs (da.set n (some b)) w (ds.set n (some d))::As)→K () h'):
  af Tryz.prog (Instr.storeAt vG (.pointer (some ((a.add 10).add n))) (.pointer (some b))) h K:=by
 obtain⟨ok,H1⟩:=Go.Vc.aa.kd H
 have he:(a.add 10).add n=a.add (10+n):=by unfold Addr.add;simp[Nat.add_assoc]
 rw[he]
 refine H1.storeAt ag 0 rfl rfl rfl rfl rfl (by simp[ok.la];omega) fun h' H2=>hk h' ?_
 rw[List.set_cons_zero,Bz ok.l8]at H2
 exact aa.Mo ok hn hd H2
end
end Go.Proofs.YtkciobclldnoiaaGreat
namespace Wl
open Go
theorem lQ (ds:aR) (n:Nat) (d:bn) (s:Int) (hn:n<64) (hl:ds.length=64):bF (fD ds (n:Int) d) s=if s=(n:Int)then some d else bF ds s:=by
 unfold bF fD
 rw[Int.toNat_natCast]
 by_cases h:0≤s∧s<64
 ·rw[if_pos h,if_pos h,List.getElem?_set]
  by_cases hs:s=(n:Int)
  ·subst hs
   rw[if_pos rfl,Int.toNat_natCast,if_pos rfl,if_pos (by omega)];rfl
  ·rw[if_neg hs,if_neg (by omega)]
 ·rw[if_neg h,if_neg h,if_neg (by omega)]
theorem ik {ds:aR} {s:Int} {d:bn} (h:bF ds s=some d):∃n:Nat,s=(n:Int)∧n<64:=by
 unfold bF at h
 by_cases hs:0≤s∧s<64
 ·exact⟨s.toNat,by omega,by omega⟩
 ·rw[if_neg hs]at h;cases h
structure Fit (ds:aR) (S Q:List Int):Prop where
 len:ds.length=64
 at_:∀s∈S,∃d,bF ds s=some d∧d.lost=false∧d.l.length+Q.count s≤d.room
theorem FX {d:bn} {n:Nat} (w:Pow) (b:List UInt8) (h1:d.lost=false) (h2:d.l.length+(n+1)≤d.room) (hb:b.length=64):
  ((d.append w b).1=0∨(d.append w b).1=14)∧(d.append w b).2.2.lost=false∧(d.append w b).2.2.l.length+n≤(d.append w b).2.2.room:=by
 unfold bn.append
 rw[if_neg (by omega),if_neg (by simp[h1]),if_neg (by omega)]
 by_cases ho:w.off
 ·rw[if_pos ho];exact⟨.inr rfl,h1,by dsimp only;omega⟩
 ·rw[if_neg ho]
  by_cases hs:w.step.1
  ·rw[if_pos hs];exact⟨.inl rfl,h1,by simp;omega⟩
  ·rw[if_neg hs];exact⟨.inr rfl,h1,by simp;omega⟩
theorem JB {d:bn} (w:Pow) (h1:d.lost=false):((d.sync w).1=0∨(d.sync w).1=14)∧(d.sync w).2.2.lost=false∧(d.sync w).2.2.l=d.l∧(d.sync w).2.2.room=d.room:=by
 unfold bn.sync
 rw[if_neg (by simp[h1])]
 by_cases hs:w.step.1
 ·rw[if_pos hs];exact⟨.inl rfl,h1,rfl,rfl⟩
 ·rw[if_neg hs];exact⟨.inr rfl,h1,rfl,rfl⟩
theorem Cv {ds:aR} {S Q:List Int} {x:Int} (w:Pow) (b:List UInt8) (F:Fit ds S (x::Q)) (hx:x∈S) (hb:b.length=64):
  ((cS w ds x b).1=0∨(cS w ds x b).1=14)∧Fit (cS w ds x b).2.2 S Q:=by
 obtain⟨d,hd,h1,h2⟩:=F.at_ x hx
 rw[List.count_cons_self]at h2
 obtain⟨n,rfl,hn⟩:=ik hd
 have A:=FX w b h1 (n:=Q.count (n:Int)) (by omega) hb
 have e:cS w ds (n:Int) b=((d.append w b).1,(d.append w b).2.1,fD ds (n:Int) (d.append w b).2.2):=by unfold cS;rw[hd]
 rw[e]
 refine⟨A.1,by unfold fD;rw[List.length_set];exact F.len,fun s hs=>?_⟩
 rw[lQ _ _ _ _ hn F.len]
 by_cases hsn:s=(n:Int)
 ·subst hsn
  rw[if_pos rfl]
  exact⟨_,rfl,A.2⟩
 ·rw[if_neg hsn]
  obtain⟨d',g,g1,g2⟩:=F.at_ s hs
  rw[List.count_cons_of_ne (fun h=>hsn h.symm)]at g2
  exact⟨d',g,g1,g2⟩
theorem FY {ds:aR} {S:List Int} {x:Int} (w:Pow) (F:Fit ds S []) (hx:x∈S):((dQ w ds x).1=0∨(dQ w ds x).1=14)∧Fit (dQ w ds x).2.2 S []:=by
 obtain⟨d,hd,h1,h2⟩:=F.at_ x hx
 obtain⟨n,rfl,hn⟩:=ik hd
 obtain⟨A1,A2,A3,A4⟩:=JB w h1
 have e:dQ w ds (n:Int)=((d.sync w).1,(d.sync w).2.1,fD ds (n:Int) (d.sync w).2.2):=by unfold dQ;rw[hd]
 rw[e]
 refine⟨A1,by unfold fD;rw[List.length_set];exact F.len,fun s hs=>?_⟩
 rw[lQ _ _ _ _ hn F.len]
 by_cases hsn:s=(n:Int)
 ·subst hsn
  rw[if_pos rfl]
  exact⟨_,rfl,A2,by rw[A3,A4];exact h2⟩
 ·rw[if_neg hsn];exact F.at_ s hs
end Wl
namespace Go.Vc
open Go Wl Go.Proofs.YtkciobclldnoiaaGreat
theorem AR (l:List Int) (k:Nat):(aU l k).Nodup:=by
 unfold aU
 refine List.Pairwise.filter _ (List.pairwise_map.2 ?_)
 exact(List.nodup_range (n:=k)).imp fun h=>by omega
end Go.Vc
namespace Go.Vc
open Go Wl Go.Proofs.YtkciobclldnoiaaGreat
theorem HR {l:List Int} (h:(dd l).2=true):(dd l).1=aU l l.length∧l.length≤64∧∀n:Nat,l.getD n 0≤512:=by
 unfold dd at h⊢
 by_cases ha:l.all (de · 0 512)=true
 ·rw[if_pos ha]at h⊢
  refine⟨rfl,by simp at h;exact h.1,fun n=>?_⟩
  rw[List.getD_eq_getElem?_getD]
  by_cases hn:n<l.length
  ·rw[List.getElem?_eq_getElem hn]
   have:=List.all_eq_true.1 ha _ (List.getElem_mem hn)
   unfold de at this;simp at this⊢;omega
  ·rw[List.getElem?_eq_none (by omega)];simp
 ·rw[if_neg ha]at h;cases h
theorem Er (l:List Int) (i n:Nat) (hi:i<(aU l l.length).length) (hn:(aU l l.length)[i]=(n:Int)) (h64:n<64):(eC l i)[n]?=some none:=by
 unfold eC
 rw[List.getElem?_map,List.getElem?_range h64,Option.map_some,if_neg]
 intro hc
 obtain⟨j,hj,hj2⟩:=List.mem_take_iff_getElem.1 hc
 have:=tu (AR l l.length) (a:=j) (b:=i) (by omega) hi (by rw[hj2,hn])
 omega
theorem pQ (m:aC):∀S:List Int,(bh m S).length=S.length*(aZ m).length
 |[]=>by simp[bh]
 |n::S=>by
  have e:bh m (n::S)=(aZ m).map (fun c=>(n,c))++bh m S:=by unfold bh;rw[List.flatMap_cons]
  rw[e,List.length_append,List.length_map,pQ m S,List.length_cons,Nat.succ_mul,Nat.add_comm]
theorem zk (p:Pm) (extra:Int) (l:List Int) (hl:l.length≤64):b9 (bL p extra l):=⟨by have:=kQ l l.length;simp[bL];omega,by simp[bL],by simp[bL]⟩
end Go.Vc
namespace Go.Proofs.YtkciobclldnoiaaGreat
open Go Go.Vc Go.Proofs Wl
section
set_option maxRecDepth 20000
variable {B:aq} {h0 h:Heap} {As:List HP} {pw:Addr} {w:Pow}
theorem wE (p:Pm) (extra:Int) (s:Sl) (l:List Int) (hS:St B h0 As fun h=>Rd h s 1 aw l) (hl:l.length≤2^20) (H:aa B h0 h (bX bo pw w::As)):
  ab Tryz.prog oT #[j3 p,.int .i64 extra,.pointer (some pw),.slice s.ptr s.len s.cap] h fun v h'=>
   ((cQ p extra w l).1≠0→v=.tuple #[.pointer none,.int .i64 (cQ p extra w l).1]∧aa B h0 h' As)∧
   ((cQ p extra w l).1=0→∃(a:Addr) (x:bB) (da:List (Option Addr)),v=.tuple #[.pointer (some a),.int .i64 0]∧aa B h0 h' (aP bc a pw (aF x) w.offs da (cQ p extra w l).2.1 (cQ p extra w l).2.2::bU x (bL p extra l)::As)):=by
 refine w7 p extra (some pw) s ?_
 unfold p8
 refine H.boxed fun a1 h1 H1=>?_
 have H1:=H1.cA
 refine(jP s l h1 (hS.at [_,_] H1) hl).mono ?_
 rintro _ h2 ⟨r,rfl,R2⟩
 have H2:=H1.cq R2
 refine⟨(r,(dd l).2),rfl,?_⟩
 have bad:∀{h':Heap},aa B h0 h' As→((dd l).2&&(bO p&&de extra 0 16))=false→
   ((cQ p extra w l).1≠0→Value.tuple #[.pointer none,.int .i64 1]=.tuple #[.pointer none,.int .i64 (cQ p extra w l).1]∧aa B h0 h' As)∧
   ((cQ p extra w l).1=0→∃(a:Addr) (x:bB) (da:List (Option Addr)),Value.tuple #[.pointer none,.int .i64 1]=.tuple #[.pointer (some a),.int .i64 0]∧aa B h0 h' (aP bc a pw (aF x) w.offs da (cQ p extra w l).2.1 (cQ p extra w l).2.2::bU x (bL p extra l)::As)):=fun{h'} H' hc=>by
  have e:cQ p extra w l=(1,w,[]):=by unfold cQ;rw[hc];rfl
  rw[e]
  exact⟨fun _=>⟨rfl,H'⟩,fun h=>absurd h (show¬(1:Int)=0 by decide)⟩
 refine aW (aY (fun e=>bad H2.rest.rest.rest (by rw[e];rfl)) fun e=>?_)
 have ep:(dd l).2=true:=by simpa using e
 obtain⟨ep1,el64,el512⟩:=HR ep
 refine⟨p,(H2.box 1 rfl).aH _ rfl,(dq p h2).mono ?_⟩
 rintro _ h3 ⟨rfl,R3⟩
 have H3:aa B h0 h3 (ak aJ r 1 aw (dd l).1::an a1 aT [.int .i64 p.1,.int .i64 p.2.1,.int .i64 p.2.2]::bX bo pw w::As):=by
  have:=H2.comp R3
  rw[List.append_nil]at this;exact this
 refine⟨_,rfl,aY (fun e2=>bad H3.rest.rest.rest (by rw[e2];simp)) fun e2=>?_⟩
 have em:bO p=true:=by simpa using e2
 refine aj (fun e3=>bad H3.rest.rest.rest (by unfold de;simp;omega)) fun e3=>aj (fun e4=>bad H3.rest.rest.rest (by unfold de;simp;omega)) fun e4=>bt (fun e5=>by cases e5) fun _=>?_
 rw[ep1]at H3
 refine aW ⟨p,(H3.box 1 rfl).aH _ rfl,?_⟩
 obtain⟨lw,hlw,H3p⟩:=(H3.ba 3 [2,1,0]).qC
 refine(Bu lw (H3p.box 0 rfl)).mono ?_
 rintro _ h4 ⟨rfl,rfl⟩
 have hb3:=H3.box 1 rfl
 refine⟨_,rfl,⟨hb3.cell0 rfl,hb3.cell rfl,hb3.cell rfl,trivial⟩,?_⟩
 obtain⟨m,hm⟩:∃m,m=bL p extra l:=⟨_,rfl⟩
 refine⟨_,Jr (1,0,p.1,p.2.1,p.2.2,extra,r,⟨none,0,0⟩) pw w.offs,?_⟩
 refine H3.boxed fun a9 h6 H6=>?_
 obtain⟨x,hx⟩:∃x:bB,x=(1,0,p.1,p.2.1,p.2.2,extra,r,⟨none,0,0⟩):=⟨_,rfl⟩
 rw[←hx]at H6
 have ecell:(Value.agg (bJ (aF x) pw w.offs (List.replicate 64 none)).toArray).cells.toList=bJ (aF x) pw w.offs (List.replicate 64 none):=by simp[Value.cells]
 rw[ecell]at H6
 have H6:=H6.cA
 have hb6:=H6.box 2 rfl
 refine⟨⟨hb6.cell0 rfl,hb6.cell rfl,hb6.cell rfl,trivial⟩,?_⟩
 have H6:aa B h0 h6 (an a9 eE (bJ (aF x) pw w.offs (List.replicate 64 none))::bX bo pw w::ak aJ r 1 aw (aU l l.length)::As):=H6.ba 4 [0,3,1]
 have H6:=aa.Jq (k:=bc) (h8:=by simp) H6
 obtain⟨P,hP⟩:∃P,P=aU l l.length:=⟨_,rfl⟩
 rw[←hP]at H6
 have hz:b9 m:=hm▸zk p extra l el64
 have hPl:P.length≤64:=by rw[hP];exact Nat.le_trans (kQ _ _) el64
 have hmx:∀{h':Heap} {Bs:List HP} {X:HP},aa B h0 h' (X::ak aJ r 1 aw P::Bs)→dm h' x m:=fun{h' Bs X} H'=>by
  have hs:=H'.seq 1 rfl fun _=>rfl
  have hc:=(H'.own 1 rfl).cap
  subst hx;subst hm
  exact⟨rfl,rfl,rfl,rfl,by show Seq _ _ r 1 aw (aU l l.length);rw[←hP];exact hs,cY.nil _ _ _ _,hc,Nat.le_refl _⟩
 have hok:((dd l).2&&(bO p&&de extra 0 16))=true:=by
  rw[ep,em];unfold de;simp;omega
 have fokP:(P.any fun i=>decide (l.getD i.toNat 0<((aZ m).length:Int)))=true→cQ p extra w l=(7,w,[]):=fun hh=>by
  unfold cQ;rw[if_pos hok,←hP,←hm,if_pos hh]
 have fokN:(P.any fun i=>decide (l.getD i.toNat 0<((aZ m).length:Int)))=false→cQ p extra w l=layAll (bh m P) w (eC l P.length):=fun hh=>by
  unfold cQ;rw[if_pos hok,←hP,←hm,hh,if_neg (by decide)]
 have hat:∀i (hi:i<P.length),∃n:Nat,n<l.length∧P[i]=(n:Int)∧0<l.getD n 0:=by
  subst hP;exact fun i hi=>FN l l.length i hi
 refine az (fun i:Nat=>(i:Int)) (fun i h'=>i≤P.length∧((P.take i).any fun i=>decide (l.getD i.toNat 0<((aZ m).length:Int)))=false∧aa B h0 h' (aP bc a9 pw (aF x) w.offs (List.replicate 64 none) w (List.replicate 64 none)::ak aJ r 1 aw P::As)) (fun i=>P.length-i) 0 rfl ⟨by omega,by simp,H6⟩ ?_
 rintro i h7 ⟨hi,hall,H7⟩
 dsimp only at*
 obtain⟨okc,hb7⟩:=aa.cG H7
 have hrl:r.len=P.length:=(H7.own 1 rfl).len
 refine aj (fun e5=>?_) (fun e5=>?_)
 ·have hi':i<P.length:=by omega
  obtain⟨n,hn,en,hpos⟩:=hat i hi'
  refine(H7.seq 1 rfl fun _=>rfl).cv i rfl hi' (n:Int) (by rw[en];rfl) ?_
  refine(hS.at [_,_] H7).G4 n rfl hn (l.getD n 0) (by rw[getD_lt hn];rfl) fun a14 hc14=>?_
  refine⟨a9,rfl,x,hb7.aH _ (by rfl),(jz x m h7 (hmx H7) hz).mono ?_⟩
  rintro _ h9 ⟨u,rfl,R9⟩
  have H9:=H7.cq R9
  have hul:=(aa.qZ H9).1
  refine⟨u,rfl,tt R9.ah ⟨hc14,trivial⟩,?_⟩
  refine aj (fun e6=>?_) (fun e6=>?_)
  ·rw[fokP (List.any_eq_true.2 ⟨P[i],List.getElem_mem hi',by rw[en,Int.toNat_natCast];exact decide_eq_true (by omega)⟩)]
   exact⟨fun _=>⟨rfl,H9.rest.rest.rest⟩,fun h=>absurd h (show¬(7:Int)=0 by decide)⟩
  ·refine⟨i+1,by rw[Go.Vc.wrap_small _ (by omega) (by omega)];rfl,⟨by omega,?_,H9.rest⟩,by omega⟩
   rw[aL _ _ hi',List.any_append,hall,Bool.false_or,List.any_cons,List.any_nil,Bool.or_false,en,Int.toNat_natCast]
   exact decide_eq_false (by omega)
 ·have hPi:i=P.length:=by omega
  subst hPi
  rw[List.take_length]at hall
  have fok:=fokN hall
  rw[←Ej l]at H7
  refine az (fun t:Nat×List (Option Addr)=>(t.1:Int)) (fun t h'=>t.1≤P.length∧aa B h0 h' (aP bc a9 pw (aF x) w.offs t.2 w (eC l t.1)::ak aJ r 1 aw P::As)) (fun t=>P.length-t.1) (0,List.replicate 64 none) rfl ⟨by simp,H7⟩ ?_
  rintro⟨i,da⟩ h10 ⟨hi,H10⟩
  dsimp only at*
  obtain⟨okd,hb10⟩:=aa.cG H10
  refine aj (fun e6=>?_) (fun e6=>?_)
  ·have hi':i<P.length:=by omega
   obtain⟨n,hn,en,hpos⟩:=hat i hi'
   have h512:=el512 n
   refine(H10.seq 1 rfl fun _=>rfl).cv i rfl hi' (n:Int) (by rw[en];rfl) ?_
   refine(hS.at [_,_] H10).cv n rfl hn (l.getD n 0) (by rw[getD_lt hn];rfl) ?_
   refine⟨a9,rfl,(y7 (l.getD n 0) pw h10).mono ?_⟩
   rintro _ h11 ⟨Q1,_⟩
   obtain⟨b,rfl,R11⟩:=Q1 (by omega)
   have H11:=(H10.cq R11).ba 2 [1,0]
   refine⟨_,rfl,trivial,⟨by omega,by omega⟩,?_⟩
   rw[Int.toNat_natCast,Nat.mul_one]
   have hiQ:i<(aU l l.length).length:=by rw[←hP];exact hi'
   have enQ:(aU l l.length)[i]=(n:Int):=by rw[←en];simp only[hP]
   refine Go.Proofs.YtkciobclldnoiaaGreat.aa.KW n (by omega) (Er l i n hiQ enQ (by omega)) H11 fun h12 H12=>?_
   refine⟨trivial,(i+1,da.set n (some b)),by dsimp only;rw[Go.Vc.wrap_small _ (by omega) (by omega)];rfl,⟨by dsimp only;omega,?_⟩,by dsimp only;omega⟩
   dsimp only
   rw[←Ek l i n hiQ enQ (by omega)]
   exact H12
  ·have hPi:i=P.length:=by omega
   subst hPi
   refine⟨a9,rfl,x,hb10.aH _ (by rfl),(wA x m r P h10 (hmx H10) hz (H10.seq 1 rfl fun _=>rfl) (by omega)).mono ?_⟩
   rintro _ h13 ⟨u,ys,rfl,R13⟩
   have H13:=(H10.cq R13).ba 2 [1,0]
   refine⟨u,rfl,?_⟩
   have hspl:=gy m hz
   refine(uR u ys (bh m P) (St.eM 0 rfl fun _ hq=>hq) ?_ ?_ H13).mono ?_
   ·rw[pQ]
    have:=Nat.mul_le_mul hPl hspl
    omega
   ·intro y hy
    obtain⟨hy1,hy2⟩:=gK hy
    obtain⟨i,hi,e⟩:=List.getElem_of_mem hy1
    obtain⟨n,hn,en,_⟩:=hat i hi
    rw[←e,en,hy2]
    exact⟨⟨by omega,by omega⟩,by decide⟩
   rintro _ h14 ⟨rfl,H14⟩
   rw[fok]
   refine⟨_,rfl,cw (fun e7=>⟨fun _=>⟨rfl,H14.rest.rest.rest⟩,fun h=>absurd h e7⟩) fun e7=>⟨fun h=>absurd e7 h,fun _=>⟨a9,x,da,rfl,?_⟩⟩⟩
   rw[←hm]
   exact H14.qY.il 1 rfl fun q hq=>by
    subst hx;subst hm
    exact⟨rfl,rfl,rfl,rfl,by show Seq _ _ r 1 aw (aU l l.length);rw[←hP];exact hq.1.seq (fun _=>rfl) hq.2,cY.nil _ _ _ _,hq.1.cap,Nat.le_refl _⟩
end
end Go.Proofs.YtkciobclldnoiaaGreat
namespace Wl
open Go
def jn (m:aC) (ds:aR) (k n:Int):Bool:=match bF ds k with|some d=>jC m d n|none=>false
def cR (m:aC) (ds:aR) (l:List Int) (N:Int→Int):Bool:=l.all fun k=>jn m ds k (N k)
def du (m:aC) (w:Pow) (ds:aR) (k n:Int):Int×Pow×aR:=
 match bF ds k with
 |none=>(5,w,ds)
 |some d=>((eS m w d n).1,(eS m w d n).2.1,fD ds k (eS m w d n).2.2)
def makes (m:aC) (N:Int→Int):List Int→Pow→aR→Int×Pow×aR
 |[],w,ds=>(0,w,ds)
 |k::l,w,ds=>if(du m w ds k (N k)).1=0 then makes m N l (du m w ds k (N k)).2.1 (du m w ds k (N k)).2.2 else du m w ds k (N k)
end Wl
namespace Go.Proofs.YtkciobclldnoiaaGreat
open Go Go.Vc Go.Proofs Wl
set_option maxRecDepth 100000
theorem JC (f:FuncId) (pre post:Array Value) (P:Int→Bool) (s:Sl) (l:List Int) (h:Heap) (hf:C.fns[f]?=some true) (hs:Rd h s 1 aw l) (hl:l.length≤2^30)
  (hc:∀k∈l,∀h',Sp h h' []→ab Tryz.prog f (pre.toList++[Value.int .i64 k]++post.toList).toArray h' fun v h''=>v=.bool (P k)∧Sp h' h'' []):
  ab Tryz.prog gx #[.slice s.ptr s.len s.cap,.func (.func f) pre post] h fun v h'=>v=.bool (l.any P)∧Sp h h' []:=by
 refine gh s (f,pre,post) ?_
 unfold eI
 refine(hF s (f,pre,post) (R:=fun v h'=>(∃i:Int,v=.int .i64 i∧decide (i≥0)=l.any P)∧Sp h h' []) ?_).mono ?_
 ·unfold fv
  have hsl:=hs.len
  refine az (fun i:Nat=>(i:Int)) (fun i h'=>i≤l.length∧(l.take i).any P=false∧Sp h h' []) (fun i=>l.length-i) 0 rfl ⟨by omega,by simp,Sp.refl h⟩ ?_
  rintro i h1 ⟨hi,hall,H1⟩
  refine aj (fun e1=>?_) (fun e1=>?_)
  ·have hi':i<l.length:=by
    have e':(i:Int)<(s.len:Int):=e1
    omega
   refine(Seq.up hs H1.ah).cv i rfl hi' l[i] rfl (fh hf ?_)
   refine(hc l[i] (List.getElem_mem hi') h1 H1).mono ?_
   rintro _ h2 ⟨rfl,R2⟩
   have H2:=H1.up R2.ah
   refine⟨_,rfl,bt (fun e2=>⟨⟨i,rfl,?_⟩,H2⟩) (fun e2=>?_)⟩
   ·rw[List.any_eq_true.2 ⟨_,List.getElem_mem hi',e2⟩];exact decide_eq_true (by omega)
   ·refine⟨i+1,by rw[Go.Vc.wrap_small _ (by omega) (by omega)];rfl,⟨by omega,?_,H2⟩,by omega⟩
    rw[aL _ _ hi',List.any_append,hall,List.any_cons,List.any_nil,e2];rfl
  ·have e':¬(i:Int)<(s.len:Int):=e1
   rw[List.take_of_length_le (by omega)]at hall
   exact⟨⟨-1,rfl,by rw[hall];rfl⟩,H1⟩
 ·rintro _ h1 ⟨⟨i,rfl,hi⟩,R1⟩
  exact⟨i,rfl,by rw[hi],R1⟩
section
variable {B:aq} {h0 h:Heap} {As:List HP} {a pw:Addr} {offs:Int} {da:List (Option Addr)} {w:Pow} {ds:aR}
def CI (f:FuncId) (pre post:Array Value) (N:Int→Int) (l:List Int) (h:Heap):Prop:=∀k∈l,ab Tryz.prog f (pre.toList++[Value.int .i64 k]++post.toList).toArray h fun v h'=>v=.int .i64 (N k)∧Sp h h' []
theorem zl (f:FuncId) (pre post:Array Value) (N:Int→Int) (x:bB) (m:aC) (s:Sl) (l:List Int) (hf:C.fns[f]?=some true) (hS:St B h0 As fun h=>dm h x m∧CI f pre post N l h) (hz:b9 m) (hs:Rd h s 1 aw l) (hl:l.length≤2^30) (hin:∀k∈l,0≤k∧k<64) (H:aa B h0 h (aP bc a pw (aF x) offs da w ds::As)):
  ab Tryz.prog sM #[.pointer (some a),.slice s.ptr s.len s.cap,.func (.func f) pre post] h fun v h'=>v=.bool (cR m ds l N)∧Sp h h' []:=by
 refine ry (some a) s (f,pre,post) ?_
 unfold mu
 refine(Sp.refl h).boxed fun a1 h1 R1=>R1.boxed fun a2 h2 R2=>?_
 have H2:aa B h0 h2 (aP bc a pw (aF x) offs da w ds::As):=H.up R2.ah
 have b1:bN h2 a1 vF [.pointer (some a)]:=R2.box 0 rfl
 have b2:=R2.box 1 rfl
 refine(JC qn #[] #[.pointer (some a1),.pointer (some a2)] (fun k=>!jn m ds k (N k)) s l h2 (by rfl) (hs.up R2.ah) hl ?_).mono ?_
 ·intro k hk h3 R3
  have H3:=H2.up R3.ah
  have c1:=(b1.ah R3.ah b1.lt).cell0 rfl
  have c2:=(b2.ah R3.ah b2.lt).cell0 rfl
  obtain⟨ok,hb⟩:=aa.cG H3
  have hk64:=hin k hk
  refine pH k a1 a2 ?_
  unfold kK
  obtain⟨n,rfl⟩:∃n:Nat,k=n:=⟨k.toNat,by omega⟩
  have hn:n<da.length:=by rw[ok.la];omega
  have cd:cellOf h3 ((a.add 10).add ((n:Int).toNat*1))=some (.pointer da[n]):=by
   rw[Int.toNat_natCast,Nat.mul_one]
   refine hb.o6 10 n ?_
   rw[o7 ok.l8,List.getElem?_eq_getElem hn];rfl
  obtain⟨hx3,ht3⟩:=hS.at [_] H3
  refine⟨some a,c1,a,rfl,⟨by omega,by omega⟩,da[n],cd,some a,c1,a,rfl,x,hb.aH _ rfl,(f,pre,post),c2,fh hf ?_⟩
  refine(ht3 n hk).mono ?_
  rintro _ h4 ⟨rfl,R4⟩
  have H4:=H3.up R4.ah
  have c1':=((b1.ah R3.ah b1.lt).ah R4.ah (b1.ah R3.ah b1.lt).lt).cell0 rfl
  have hb4:=hb.ah R4.ah hb.lt
  have cd4:cellOf h4 ((a.add 10).add ((n:Int).toNat*1))=some (.pointer da[n]):=by
   rw[Int.toNat_natCast,Nat.mul_one]
   refine hb4.o6 10 n ?_
   rw[o7 ok.l8,List.getElem?_eq_getElem hn];rfl
  refine⟨_,rfl,⟨hb4.cell0 rfl,hb4.cell rfl,hb4.cell rfl,hb4.cell rfl,hb4.cell rfl,hb4.cell rfl,hb4.cell rfl,hb4.cell rfl,c1',cd4,c1',trivial⟩,?_⟩
  have hdn:hJ da (n:Int)=da[n]:=by unfold hJ;rw[if_pos (by omega),Int.toNat_natCast,List.getElem?_eq_getElem hn];rfl
  rw[←hdn]
  have fin:∀{bb:Bool} {h5:Heap},bb=jn m ds n (N n)→Sp h4 h5 []→au.ok [(a1,.pointer (some a)),(a1,.pointer (some a))] h5∧(Value.bool (!bb)=.bool (!jn m ds n (N n))∧Sp h3 h5 []):=fun{bb h5} he R5=>by
   have b4:=(b1.ah R3.ah b1.lt).ah R4.ah (b1.ah R3.ah b1.lt).lt
   have:=(b4.ah R5.ah b4.lt).cell0 rfl
   exact⟨⟨this,this,trivial⟩,by rw[he],.zip (aa.up R4 R5.ah).ah⟩
  rcases lN ok (n:Int)with⟨e1,e2⟩|⟨n',d,b,e0,e1,e2,e3,e4,e5⟩
  ·rw[e2]
   refine(Ep x _ h4).mono ?_
   rintro _ h5 ⟨rfl,R5⟩
   exact⟨_,rfl,fin (by unfold jn;rw[e1]) R5⟩
  ·rw[e5]
   obtain⟨b',hb',H5⟩:=Go.Vc.aa.kp H4 e2
   rw[e4]at hb'
   injection hb' with hb'
   injection hb' with hb'
   subst hb'
   obtain⟨okd,sd,bd,H6⟩:=aa.o0 H5
   refine(BF sd bd x m (N n) (H6.box 0 rfl) ((H6.ba 2 [1]).Gw fun _=>rfl) (aa.qZ (H6.ba 2 [1])).1 okd (hS.at [_] H4).1 hz).mono ?_
   rintro _ h5 ⟨rfl,R5⟩
   exact⟨_,rfl,fin (by unfold jn;rw[e3]) R5⟩
 ·rintro _ h3 ⟨rfl,R3⟩
  refine⟨_,rfl,?_,.zip (aa.up R2 R3.ah).ah⟩
  unfold cR
  rw[List.not_any_eq_all_not]
  simp
theorem Es (x:bB) (n:Int) (h:Heap):ab Tryz.prog uk #[.pointer none,dF x,.int .i64 n] h fun v h'=>v=.int .i64 5∧Sp h h' []:=by
 refine sk none x n ?_
 unfold pF
 refine(Sp.refl h).boxed fun a1 h1 H1=>?_
 exact aW (aW (bt (fun _=>bt (fun _=>⟨rfl,.zip H1.ah⟩) fun e=>by cases e) fun e=>by cases e))
theorem HS (m:aC) (N:Int→Int) (l:List Int) (w:Pow) (ds:aR) (i:Nat) (hi:i<l.length):makes m N (l.drop i) w ds=if(du m w ds l[i] (N l[i])).1=0 then makes m N (l.drop (i+1)) (du m w ds l[i] (N l[i])).2.1 (du m w ds l[i] (N l[i])).2.2 else du m w ds l[i] (N l[i]):=by
 rw[List.drop_eq_getElem_cons hi];rfl
theorem zm (f:FuncId) (pre post:Array Value) (N:Int→Int) (x:bB) (m:aC) (s:Sl) (l:List Int) (hf:C.fns[f]?=some true) (hS:St B h0 As fun h=>dm h x m∧CI f pre post N l h∧Rd h s 1 aw l) (hz:b9 m) (hl:l.length≤2^30) (hin:∀k∈l,0≤k∧k<64) (H:aa B h0 h (aP bc a pw (aF x) offs da w ds::As)):
  ab Tryz.prog rz #[.pointer (some a),.slice s.ptr s.len s.cap,.func (.func f) pre post] h fun v h'=>v=.int .i64 (makes m N l w ds).1∧aa B h0 h' (aP bc a pw (aF x) offs da (makes m N l w ds).2.1 (makes m N l w ds).2.2::As):=by
 refine qj (some a) s (f,pre,post) ?_
 unfold lq
 have hsl:=(hS.at [_] H).2.2.len
 obtain⟨Z,hZ⟩:∃Z,Z=makes m N l w ds:=⟨_,rfl⟩
 rw[←hZ]
 refine az (fun t:Nat×Pow×aR=>(t.1:Int)) (fun t h'=>t.1≤l.length∧Z=makes m N (l.drop t.1) t.2.1 t.2.2∧aa B h0 h' (aP bc a pw (aF x) offs da t.2.1 t.2.2::As)) (fun t=>l.length-t.1) (0,w,ds) rfl ⟨by simp,hZ,H⟩ ?_
 rintro⟨i,w1,ds1⟩ h1 ⟨hi,hm,H1⟩
 dsimp only at*
 refine aj (fun e=>?_) fun e=>?_
 ·have hi':i<l.length:=by omega
  rw[HS _ _ _ _ _ _ hi']at hm
  obtain⟨hx1,ht1,hs1⟩:=hS.at [_] H1
  refine hs1.cv i rfl hi' l[i] rfl (aW ?_)
  have hk64:=hin l[i] (List.getElem_mem hi')
  obtain⟨k,hk⟩:∃k,k=l[i]:=⟨_,rfl⟩
  have hkm:k∈l:=by rw[hk];exact List.getElem_mem hi'
  rw[←hk]at hm hk64
  rw[←hk]
  obtain⟨n,rfl⟩:∃n:Nat,k=n:=⟨k.toNat,by omega⟩
  obtain⟨ok,hb⟩:=aa.cG H1
  have hn:n<da.length:=by rw[ok.la];omega
  have cd:∀{h':Heap},bN h' a eE (bJ (aF x) pw offs da)→cellOf h' ((a.add 10).add ((n:Int).toNat*1))=some (.pointer da[n]):=fun{h'} hb=>by
   rw[Int.toNat_natCast,Nat.mul_one]
   refine hb.o6 10 n ?_
   rw[o7 ok.l8,List.getElem?_eq_getElem hn];rfl
  refine⟨a,rfl,⟨by omega,by omega⟩,da[n],cd hb,a,rfl,x,hb.aH _ rfl,fh hf ?_⟩
  refine(ht1 n hkm).mono ?_
  rintro _ h2 ⟨rfl,R2⟩
  have H2:=H1.up R2.ah
  have hb2:=hb.ah R2.ah hb.lt
  refine⟨_,rfl,⟨hb2.cell0 rfl,hb2.cell rfl,hb2.cell rfl,hb2.cell rfl,hb2.cell rfl,hb2.cell rfl,hb2.cell rfl,hb2.cell rfl,cd hb2,trivial⟩,?_⟩
  have hdn:hJ da (n:Int)=da[n]:=by unfold hJ;rw[if_pos (by omega),Int.toNat_natCast,List.getElem?_eq_getElem hn];rfl
  rw[←hdn]
  obtain⟨res,hres⟩:∃res,res=du m w1 ds1 n (N n):=⟨_,rfl⟩
  rw[←hres]at hm
  have fin:∀{h3:Heap},aa B h0 h3 (aP bc a pw (aF x) offs da res.2.1 res.2.2::As)→au.ok [] h3∧Br (res.1 !=(0:Int)) (Value.int .i64 res.1=.int .i64 Z.1∧aa B h0 h3 (aP bc a pw (aF x) offs da Z.2.1 Z.2.2::As))
    (∃t':Nat×Pow×aR,IntKind.wrap .i64 ((i:Int)+1)=(t'.1:Int)∧(t'.1≤l.length∧Z=makes m N (l.drop t'.1) t'.2.1 t'.2.2∧aa B h0 h3 (aP bc a pw (aF x) offs da t'.2.1 t'.2.2::As))∧l.length-t'.1<l.length-i):=fun{h3} H3=>by
   refine⟨trivial,cw (fun e2=>?_) fun e2=>?_⟩
   ·rw[if_neg e2]at hm;rw[hm];exact⟨rfl,H3⟩
   ·rw[if_pos e2]at hm
    exact⟨(i+1,res.2.1,res.2.2),by dsimp only;rw[Go.Vc.wrap_small _ (by omega) (by omega)];rfl,⟨by dsimp only;omega,hm,H3⟩,by dsimp only;omega⟩
  rcases lN ok (n:Int)with⟨e1,e2⟩|⟨n',d,b,e0,e1,e2,e3,e4,e5⟩
  ·rw[e2]
   have es:res=(5,w1,ds1):=by rw[hres];unfold du;rw[e1]
   refine(Es x _ h2).mono ?_
   rintro _ h3 ⟨rfl,R3⟩
   exact⟨res.1,by rw[es],fin (h3:=h3) (by rw[es];exact H2.up R3.ah)⟩
  ·rw[e5]
   have en:n=n':=by omega
   subst en
   obtain⟨b',hb',H5⟩:=Go.Vc.aa.kp H2 e2
   rw[e4]at hb'
   injection hb' with hb'
   injection hb' with hb'
   subst hb'
   have es:res=((eS m w1 d (N n)).1,(eS m w1 d (N n)).2.1,ds1.set n (some (eS m w1 d (N n)).2.2)):=by rw[hres];unfold du;rw[e3];simp only[fD,Int.toNat_natCast]
   refine(JA x m (N n) (fun Bs h' hh=>(hS (Bs++[_]) h' (by rw[List.append_assoc];exact hh)).1) hz H5).mono ?_
   rintro _ h3 ⟨rfl,H6⟩
   have H7:=Go.Vc.aa.xx (k:=bc) (n:=n) e4 H6
   exact⟨res.1,by rw[es],fin (h3:=h3) (by rw[es];exact H7)⟩
 ·rw[List.drop_of_length_le (by omega)]at hm
  rw[hm]
  exact⟨rfl,H1⟩
end
end Go.Proofs.YtkciobclldnoiaaGreat
namespace Go.Proofs.YtkciobclldnoiaaGreat
open Go Go.Vc Go.Proofs Wl
set_option maxRecDepth 100000
def KX (a b:cN):Int:=if db a.1 b.1 then-1 else if fY a.1 b.1 then 0 else 1
def fR (a b:cN):Bool:=fY a.1 b.1
theorem Et (a b:cN):KX a b<0↔¬fR b a=true:=by
 unfold KX fR fY
 cases h:db a.1 b.1<;>simp
 split<;>omega
theorem uZ:Ord fR:=⟨fun a b c=>tO a.1 b.1 c.1,fun a b=>tQ a.1 b.1⟩
abbrev Eu (x:cN):Value:=.agg #[.string x.1,.int .i64 x.2.1,.int .i64 x.2.2.1,.slice x.2.2.2.ptr x.2.2.2.len x.2.2.2.cap]
theorem Cw (x y:ByteArray) (h:Heap):ab Tryz.prog qm #[.string x,.string y] h fun v h'=>v=.int .i64 (if db x y then-1 else if fY x y then 0 else 1)∧h'=h:=by
 refine pG x y ?_
 unfold kJ
 have nan:∀z:ByteArray,ab Tryz.prog sW #[.string z] h fun v h'=>v=.bool false∧h'=h:=fun z=>by
  refine rG z ?_
  unfold mD
  exact⟨by simp,rfl⟩
 refine(nan x).mono ?_
 rintro _ _ ⟨rfl,rfl⟩
 refine⟨_,rfl,(nan y).mono ?_⟩
 rintro _ _ ⟨rfl,rfl⟩
 refine⟨_,rfl,bt (fun e=>by cases e) fun _=>bt (fun e=>by cases e) fun _=>?_⟩
 have e0:Op.bytesLess x.toList y.toList=db x y:=rfl
 rw[CG,e0]
 have e1:(!Op.bytesLess y.toList x.toList)=fY x y:=rfl
 rw[e1]
 refine bt (fun e=>⟨by rw[e];rfl,rfl⟩) fun e=>aY (fun e2=>⟨by rw[e,e2];rfl,rfl⟩) fun e2=>⟨by rw[e,e2];rfl,rfl⟩
theorem HT (a b:cN) (h:Heap):ab Tryz.prog ea #[Eu a,Eu b] h fun v h'=>v=.int .i64 (KX a b)∧Sp h h' []:=by
 refine xb a b ?_
 unfold ql
 refine(Sp.refl h).boxed fun a1 h1 H1=>H1.boxed fun a2 h2 H2=>?_
 have H2:Sp h h2 [an a1 aM (bD a),an a2 aM (bD b)]:=H2
 refine⟨a.1,(H2.box 0 rfl).cell0 rfl,b.1,(H2.box 1 rfl).cell0 rfl,(Cw a.1 b.1 h2).mono ?_⟩
 rintro _ _ ⟨rfl,rfl⟩
 exact⟨_,rfl,rfl,.zip H2.ah⟩
abbrev mP (s:Sl) (d:List cN):HP:=ak aM s 4 bD d
end Go.Proofs.YtkciobclldnoiaaGreat
namespace Go.Proofs.YtkciobclldnoiaaGreat
open Go Go.Vc Go.Proofs Wl
set_option maxRecDepth 100000
section
variable {B:aq} {h0 h h':Heap} {As:List HP} {s:Sl} {d:List cN}
theorem FZ {P1 P2:List cN} {y:cN} (hs:Sd fR (P1++P2)) (h1:∀z∈P1,fR z y=true) (h2:∀z∈P2,¬fR z y=true):Sd fR (P1++y::P2):=
 Sd.app uZ hs.left (List.pairwise_cons.2 ⟨fun z hz=>uZ.tI (h2 z hz),hs.right⟩) fun x hx z hz=>by
  rcases List.mem_cons.1 hz with rfl|hz
  ·exact h1 x hx
  ·exact hs.vw x hx z hz
theorem zn (X M Y:List cN) (a b:Int) (ha:a=(X.length:Int)) (hb:b=(X.length+M.length:Nat)) (hsz:X.length+M.length+Y.length≤2^40) (H:aa B h0 h (mP s (X++(M++Y))::As)):
  ab Tryz.prog iz #[.slice s.ptr s.len s.cap,.int .i64 a,.int .i64 b,.func (.func ea) #[] #[]] h fun v h'=>v=.tuple #[]∧∃M',Sd fR M'∧bC fR M M'∧aa B h0 h' (mP s (X++(M'++Y))::As):=by
 refine ie s a b (ea,#[],#[]) ?_
 unfold eF
 subst ha;subst hb
 rw[Go.Vc.wrap_small ((X.length:Int)+1) (by omega) (by omega)]
 refine az (fun t:Nat×List cN=>((X.length+1+t.1:Nat):Int)) (fun t h'=>(t.1+1≤M.length∨t.1=0)∧Sd fR t.2∧bC fR (M.take (t.1+1)) t.2∧t.2.length=(M.take (t.1+1)).length∧aa B h0 h' (mP s (X++(t.2++(M.drop (t.1+1)++Y)))::As)) (fun t=>M.length-t.1) (0,M.take 1) rfl ?_ ?_
 ·refine⟨.inr rfl,?_,bC.refl _,rfl,?_⟩
  ·cases M with
   |nil=>exact List.Pairwise.nil
   |cons x M=>exact List.pairwise_cons.2 ⟨fun _ h=>by simp at h,by simp⟩
  ·rw[←List.append_assoc (M.take (0+1)),List.take_append_drop];exact H
 rintro⟨t,P⟩ h1 ⟨ht,hsd,heq,hPl,H1⟩
 dsimp only at*
 refine aj (fun e=>?_) (fun e=>?_)
 ·have ht1:t+1<M.length:=by omega
  obtain⟨y,hy⟩:∃y,y=M[t+1]:=⟨_,rfl⟩
  have hPt:P.length=t+1:=by rw[hPl];simp;omega
  have eD:M.drop (t+1)=y::M.drop (t+1+1):=by rw[List.drop_eq_getElem_cons ht1,hy]
  rw[eD]at H1
  refine az (fun u:List cN×List cN=>((X.length+u.1.length:Nat):Int)) (fun u h'=>u.1++u.2=P∧(∀z∈u.2,¬fR z y=true)∧aa B h0 h' (mP s (X++(u.1++(y::(u.2++(M.drop (t+1+1)++Y)))))::As)) (fun u=>u.1.length) (P,[]) (by dsimp only;rw[hPt];congr 1;omega) ⟨by simp,by simp,by simpa using H1⟩ ?_
  rintro⟨P1,P2⟩ h2 ⟨hP,hbig,H2⟩
  dsimp only at*
  have hPP:P1.length+P2.length=t+1:=by rw[←hPt,←hP,List.length_append]
  have done:∀{h':Heap},(∀z∈P1,fR z y=true)→aa B h0 h' (mP s (X++(P1++(y::(P2++(M.drop (t+1+1)++Y)))))::As)→
    ∃t':Nat×List cN,IntKind.wrap .i64 (((X.length+1+t:Nat):Int)+1)=((X.length+1+t'.1:Nat):Int)∧((t'.1+1≤M.length∨t'.1=0)∧Sd fR t'.2∧bC fR (M.take (t'.1+1)) t'.2∧t'.2.length=(M.take (t'.1+1)).length∧aa B h0 h' (mP s (X++(t'.2++(M.drop (t'.1+1)++Y)))::As))∧M.length-t'.1<M.length-t:=fun{h'} hle H'=>by
   refine⟨(t+1,P1++y::P2),by dsimp only;rw[Go.Vc.wrap_small _ (by omega) (by omega)];omega,⟨.inl (by dsimp only;omega),?_,?_,?_,?_⟩,by dsimp only;omega⟩
   ·exact FZ (by rw[hP];exact hsd) hle hbig
   ·dsimp only
    rw[aL M (t+1) ht1,←hy]
    have h1:bC fR (M.take (t+1)++[y]) (P++[y]):=heq.app (bC.refl _)
    refine h1.trans ?_
    rw[←hP,List.append_assoc]
    have h2:bC fR (P2++[y]) ([y]++P2):=bC.IT uZ fun x hx z hz=>by rw[List.mem_singleton.1 hz];exact hbig x hx
    exact(bC.refl _).app h2
   ·dsimp only;simp;omega
   ·dsimp only
    have:X++((P1++y::P2)++(M.drop (t+1+1)++Y))=X++(P1++(y::(P2++(M.drop (t+1+1)++Y)))):=by simp
    rw[this];exact H'
  obtain⟨D,hD⟩:∃D,D=X++(P1++(y::(P2++(M.drop (t+1+1)++Y)))):=⟨_,rfl⟩
  refine cC (fun _ h'=>∃(Q:List cN) (z:cN),P1=Q++[z]∧¬fR z y=true∧aa B h0 h' (mP s D::As)) ?_ ?_
  ·rw[←hD]at H2 done
   refine aj (fun e2=>?_) (fun e2=>⟨trivial,done (fun z hz=>?_) H2⟩)
   ·have hne:P1≠[]:=fun h=>by rw[h]at e2;simp at e2
    obtain⟨Q,z,hQ⟩:∃(Q:List cN) (z:cN),P1=Q++[z]:=⟨P1.dropLast,P1.getLast hne,(List.dropLast_concat_getLast hne).symm⟩
    have hQl:P1.length=Q.length+1:=by rw[hQ];simp
    have g1:D[X.length+P1.length]?=some y:=by
     rw[hD,List.getElem?_append_right (by omega),show X.length+P1.length-X.length=P1.length by omega,List.getElem?_append_right (by omega),Nat.sub_self];rfl
    have g2:D[X.length+P1.length-1]?=some z:=by
     rw[hD,List.getElem?_append_right (by omega),show X.length+P1.length-1-X.length=Q.length by omega,hQ,List.append_assoc,List.getElem?_append_right (Nat.le_refl _),Nat.sub_self];rfl
    obtain⟨k1,k1'⟩:=List.getElem?_eq_some_iff.1 g1
    obtain⟨k2,k2'⟩:=List.getElem?_eq_some_iff.1 g2
    refine(H2.seq 0 rfl fun _=>rfl).fB (g:=bD) _ rfl k1 y (by rw[k1']) ?_
    have ej:IntKind.wrap .i64 (((X.length+P1.length:Nat):Int)-1)=((X.length+P1.length-1:Nat):Int):=by rw[Go.Vc.wrap_small _ (by omega) (by omega)];omega
    rw[ej]
    refine(H2.seq 0 rfl fun _=>rfl).fB (g:=bD) _ rfl k2 z (by rw[k2']) (fh (by rfl) ?_)
    refine(HT y z h2).mono ?_
    rintro _ h3 ⟨rfl,R3⟩
    have H3:=H2.up R3.ah
    refine⟨_,rfl,trivial,aj (fun e3=>⟨Q,z,hQ,(Et y z).1 e3,H3⟩) fun e3=>done (fun w hw=>?_) H3⟩
    have hzy:fR z y=true:=by
     by_cases hc:fR z y=true
     ·exact hc
     ·exact absurd ((Et y z).2 hc) e3
    rw[hQ]at hw
    rcases List.mem_append.1 hw with hw|hw
    ·refine uZ.trans _ _ _ ?_ hzy
     have:Sd fR (Q++[z]):=by rw[←hQ];exact Sd.left (v:=P2) (by rw[hP];exact hsd)
     exact this.vw w hw z (by simp)
    ·rw[List.mem_singleton.1 hw];exact hzy
   ·have:P1=[]:=by
     cases P1 with
     |nil=>rfl
     |cons x P=>exfalso;simp only[List.length_cons]at e2;omega
    rw[this]at hz;cases hz
  ·rintro _ h3 ⟨Q,z,hQ,hzy,H3⟩
   have hQl:P1.length=Q.length+1:=by rw[hQ];simp
   have eform:D=(X++Q)++z::([]++y::(P2++(M.drop (t+1+1)++Y))):=by rw[hD,hQ];simp
   obtain⟨q1,q2,q3,q4⟩:=Eb (X++Q) [] (P2++(M.drop (t+1+1)++Y)) z y (i:=X.length+P1.length-1) (j:=X.length+P1.length) (by simp;omega) (by simp;omega)
   rw[←eform]at q1 q2 q3 q4
   obtain⟨k2,k2'⟩:=List.getElem?_eq_some_iff.1 q1
   obtain⟨k1,k1'⟩:=List.getElem?_eq_some_iff.1 q2
   have ej:IntKind.wrap .i64 (((X.length+P1.length:Nat):Int)-1)=((X.length+P1.length-1:Nat):Int):=by rw[Go.Vc.wrap_small _ (by omega) (by omega)];omega
   rw[ej]
   refine(H3.seq 0 rfl fun _=>rfl).fB (g:=bD) _ rfl k2 z (by rw[k2']) ?_
   refine(H3.seq 0 rfl fun _=>rfl).fB (g:=bD) _ rfl k1 y (by rw[k1']) ?_
   refine H3.set ag 0 rfl (fun _=>rfl) rfl (X.length+P1.length) rfl k1 z rfl rfl rfl fun h4 H4=>⟨trivial,?_⟩
   refine H4.set ag 0 rfl (fun _=>rfl) rfl (X.length+P1.length-1) rfl (by simpa using k2) y rfl rfl rfl fun h5 H5=>⟨trivial,?_⟩
   refine⟨(Q,z::P2),by dsimp only;congr 1;omega,⟨by dsimp only;rw[←hP,hQ];simp,?_,?_⟩,by dsimp only;omega⟩
   ·dsimp only
    intro w hw
    rcases List.mem_cons.1 hw with rfl|hw
    ·exact hzy
    ·exact hbig w hw
   ·dsimp only
    have:X++(Q++(y::(z::P2++(M.drop (t+1+1)++Y))))=(X++Q)++y::([]++z::(P2++(M.drop (t+1+1)++Y))):=by simp
    rw[this,←q4];exact H5
 ·refine⟨rfl,P,hsd,?_,?_⟩
  ·rw[List.take_of_length_le (by omega)]at heq;exact heq
  ·rw[List.drop_of_length_le (by omega)]at H1;simpa using H1
theorem Ev (r:Nat) (h:Heap) (hr:r≤2^32):ab Tryz.prog nY #[.int .u64 r] h fun v h'=>(∃k:Int,v=.int .i64 k)∧h'=h:=by
 intro w hw
 refine(Tryz.bits_Len (r:Int) w (by omega) (by omega)).mono ?_
 rintro e w' ⟨rfl,rfl⟩
 exact⟨_,rfl,bW.refl _,⟨_,rfl⟩,hw⟩
theorem HU (d:List cN) (hd:d.length≤12) (H:aa B h0 h (mP s d::As)):
  ab Tryz.prog iO #[.slice s.ptr s.len s.cap,.func (.func ea) #[] #[]] h fun v h'=>v=.tuple #[]∧aa B h0 h' (mP s (d.mergeSort fR)::As):=by
 refine iG s (ea,#[],#[]) ?_
 unfold ff
 have hl:=(H.own 0 rfl).len
 have hrun:∀k:Int,ab Tryz.prog jL #[.slice s.ptr s.len s.cap,.int .i64 0,.int .i64 (s.len:Nat),.int .i64 k,.func (.func ea) #[] #[]] h fun v h'=>v=.tuple #[]∧aa B h0 h' (mP s (d.mergeSort fR)::As):=fun k=>by
  refine jw s 0 (s.len:Nat) k (ea,#[],#[]) ?_
  unfold fP
  refine az (fun _:Unit=>((0:Int),((s.len:Nat):Int),k,true,true)) (fun _ h'=>h'=h) (fun _=>0) () rfl rfl ?_
  rintro _ h1 rfl
  refine aj (fun _=>?_) fun e=>absurd (show IntKind.wrap .i64 (((s.len:Nat):Int)-0)≤12 by rw[Go.Vc.wrap_small _ (by omega) (by omega)];omega) e
  refine(zn [] d [] 0 (s.len:Nat) rfl (by simp[hl]) (by simp;omega) (by simpa using H)).mono ?_
  rintro _ h2 ⟨rfl,M,hs,he,H2⟩
  refine⟨(),rfl,rfl,?_⟩
  rw[←Hi uZ hs he]
  simpa using H2
 have ew:IntKind.wrap .u64 ((s.len:Nat):Int)=((s.len:Nat):Int):=by unfold IntKind.wrap;simp[IntKind.bits,IntKind.signed];omega
 rw[ew]
 refine(Ev s.len h (by omega)).mono ?_
 rintro _ h1 ⟨⟨k,rfl⟩,rfl⟩
 refine⟨k,rfl,(hrun k).mono ?_⟩
 rintro _ h2 ⟨rfl,H2⟩
 exact⟨(),rfl,rfl,H2⟩
end
end Go.Proofs.YtkciobclldnoiaaGreat
namespace Go.Proofs.YtkciobclldnoiaaGreat
open Go Go.Vc Go.Proofs Wl
set_option maxRecDepth 100000
section
variable {B:aq} {h0 h:Heap} {As:List HP}
def qM:bB:=(0,0,0,0,0,0,⟨none,0,0⟩,⟨none,0,0⟩)
theorem F8 {m:aC} {e:Wl.cu} {xe:cN} {L:List (cN×Wl.cu)} {pool:List (Sl×List Int)} (hm:L.map Prod.snd=m.aG) (hL:∀p∈L,rJ pool p) (hx:rJ pool (xe,e)):
  ∃L':List (cN×Wl.cu),L'.map Prod.fst=(L.map Prod.fst++[xe]).mergeSort fR∧L'.map Prod.snd=(m.aG++[e]).mergeSort lY∧∀p∈L',rJ pool p:=by
 have hall:∀p∈L++[(xe,e)],rJ pool p:=fun p hp=>by
  rcases List.mem_append.1 hp with hp|hp
  ·exact hL p hp
  ·rw[List.mem_singleton.1 hp];exact hx
 refine⟨(L++[(xe,e)]).mergeSort fun a b=>fR a.1 b.1,?_,?_,fun p hp=>hall p ((List.mergeSort_perm _ _).mem_iff.1 hp)⟩
 ·rw[List.map_mergeSort (r:=fun a b=>fR a.1 b.1) (s:=fR) (f:=Prod.fst) (fun a _ b _=>rfl),List.map_append];rfl
 ·rw[List.map_mergeSort (r:=fun a b=>fR a.1 b.1) (s:=lY) (f:=Prod.snd) (fun a ha b hb=>by unfold fR lY;rw[(hall a ha).1.1,(hall b hb).1.1]),List.map_append,hm];rfl
theorem JD (x:bB) (m:aC) (xe:cN) (e:Wl.cu) (hx:dm h x m) (hz:b9 m) (hs:0≤m.seq∧m.seq≤2^40) (hn:0≤m.next∧m.next≤2^40) (ho:m.aG.length≤11) (he:xe.1=e.name∧xe.2.1=e.object∧xe.2.2.1=e.length) (H:aa B h0 h (pr xe.2.2.2 1 aw e.tries::As)):
  ab Tryz.prog sh #[dF x,Eu xe] h fun v h'=>∃y:bB,v=dF y∧aa B h0 h' (bU y (dY m e)::As):=by
 refine Al x xe ?_
 unfold uh
 refine(Sp.refl h).boxed fun a1 h1 H1=>H1.boxed fun a2 h2 H2=>H2.alloc ag rfl fun a3 h3 H3=>?_
 have H3:Sp h h3 [an a1 ao (aF x),an a2 aM (bD xe),an a3 ao (aF qM)]:=H3
 refine⟨x,(H3.box 0 rfl).aH _ rfl,(lK x m h3 (hx.up H3.ah) hz).mono ?_⟩
 rintro _ h4 ⟨y,L,pool,rfl,hf,hm,hL,R4⟩
 have H4:=((H3.cW [1,2]).comp R4).front
 refine⟨y,rfl,H4.alloc ag rfl fun a6 h5 H5=>?_⟩
 have H5:=H5.cA
 refine H5.storeAll ag 0 rfl rfl (aF y) rfl rfl rfl rfl fun h6 H6=>?_
 have H6:Sp h h6 [an a6 ao (aF y),eO 1 aw pool,ak aJ y.2.2.2.2.2.2.1 1 aw m.drives,ak aM y.2.2.2.2.2.2.2 4 bD (L.map Prod.fst),an a2 aM (bD xe),an a3 ao (aF qM)]:=H6
 refine⟨y.1,(H6.box 0 rfl).cell0 rfl,?_⟩
 have e1:IntKind.wrap .i64 (y.1+1)=m.seq+1:=by rw[hf.1,Go.Vc.wrap_small _ (by omega) (by omega)]
 have e2:IntKind.wrap .i64 (y.2.1+1)=m.next+1:=by rw[hf.2.1,Go.Vc.wrap_small _ (by omega) (by omega)]
 rw[e1]
 refine H6.nH ag 0 rfl rfl [.int .i64 (m.seq+1)] rfl rfl rfl (by simp[Value.cells]) fun h7 H7=>?_
 have H7:Sp h h7 [an a6 ao (.int .i64 (m.seq+1)::(aF y).drop 1),eO 1 aw pool,ak aJ y.2.2.2.2.2.2.1 1 aw m.drives,ak aM y.2.2.2.2.2.2.2 4 bD (L.map Prod.fst),an a2 aM (bD xe),an a3 ao (aF qM)]:=H7
 refine⟨y.2.1,(H7.box 0 rfl).cell rfl,?_⟩
 rw[e2]
 refine H7.store ag 0 rfl rfl 1 [.int .i64 (m.next+1)] rfl rfl rfl (by simp[Value.cells]) fun h8 H8=>?_
 have H8:Sp h h8 [an a6 ao (.int .i64 (m.seq+1)::.int .i64 (m.next+1)::(aF y).drop 2),eO 1 aw pool,ak aJ y.2.2.2.2.2.2.1 1 aw m.drives,ak aM y.2.2.2.2.2.2.2 4 bD (L.map Prod.fst),an a2 aM (bD xe),an a3 ao (aF qM)]:=H8
 have hLl:L.length=m.aG.length:=by rw[←hm,List.length_map]
 refine⟨y.2.2.2.2.2.2.2,(H8.box 0 rfl).cell rfl,xe,(H8.box 4 rfl).aH _ rfl,?_⟩
 refine H8.push ag 3 rfl KI rfl (by decide) (fun _=>rfl) GI xe rfl (by decide) (by simp;omega) fun o h10 H10=>?_
 refine H10.store ag 0 rfl rfl 7 [.slice o.ptr o.len o.cap] rfl rfl rfl (by simp[Value.cells]) fun h11 H11=>?_
 obtain⟨y2,hy2⟩:∃y2:bB,y2=(m.seq+1,m.next+1,y.2.2.1,y.2.2.2.1,y.2.2.2.2.1,y.2.2.2.2.2.1,y.2.2.2.2.2.2.1,o):=⟨_,rfl⟩
 have ed:y2.2.2.2.2.2.2.1=y.2.2.2.2.2.2.1:=by rw[hy2]
 have eo:y2.2.2.2.2.2.2.2=o:=by rw[hy2]
 have H11:Sp h h11 [an a6 ao (aF y2),eO 1 aw pool,ak aJ y2.2.2.2.2.2.2.1 1 aw m.drives,ak aM y2.2.2.2.2.2.2.2 4 bD (L.map Prod.fst++[xe]),an a2 aM (bD xe),an a3 ao (aF qM)]:=by rw[ed,eo,hy2];exact H11
 refine⟨y2.2.2.2.2.2.2.2,(H11.box 0 rfl).cell rfl,?_⟩
 have H11:=H11.ba 6 [3,0,1,2,4,5]
 refine(HU (L.map Prod.fst++[xe]) (by simp;omega) H11).mono ?_
 rintro _ h12 ⟨rfl,H12⟩
 have H12:Sp h h12 [mP y2.2.2.2.2.2.2.2 ((L.map Prod.fst++[xe]).mergeSort fR),an a6 ao (aF y2),eO 1 aw pool,ak aJ y2.2.2.2.2.2.2.1 1 aw m.drives,an a2 aM (bD xe),an a3 ao (aF qM)]:=H12
 refine⟨(),rfl,y2,(H12.box 1 rfl).aH _ rfl,?_⟩
 refine H12.storeAll ag 5 rfl rfl (aF y2) rfl rfl rfl rfl fun h13 H13=>?_
 have H13:Sp h h13 [mP y2.2.2.2.2.2.2.2 ((L.map Prod.fst++[xe]).mergeSort fR),an a6 ao (aF y2),eO 1 aw pool,ak aJ y2.2.2.2.2.2.2.1 1 aw m.drives,an a2 aM (bD xe),an a3 ao (aF y2)]:=H13
 refine⟨y2,(H13.box 5 rfl).aH _ rfl,y2,rfl,?_⟩
 obtain⟨L',l1,l2,l3⟩:=F8 (pool:=(xe.2.2.2,e.tries)::pool) (m:=m) (e:=e) (xe:=xe) hm (fun p hp=>⟨(hL p hp).1,List.mem_cons_of_mem _ (hL p hp).2⟩) ⟨he,List.mem_cons_self⟩
 have HF:=((H.comp (H13.cW [2,3,0])).front).ba 4 [0,3,1,2]
 have HF:aa B h0 h13 (eO 1 aw ((xe.2.2.2,e.tries)::pool)::ak aJ y2.2.2.2.2.2.2.1 1 aw m.drives::ak aM y2.2.2.2.2.2.2.2 4 bD ((L.map Prod.fst++[xe]).mergeSort fR)::As):=aa.GJ HF
 rw[←l1]at HF
 refine aa.xw (m:=dY m e) ⟨by rw[hy2];rfl,by rw[hy2];rfl,by rw[hy2];exact hf.2.2.1,by rw[hy2];exact hf.2.2.2⟩ l2 l3 HF
end
end Go.Proofs.YtkciobclldnoiaaGreat
namespace Go.Proofs.YtkciobclldnoiaaGreat
open Go Go.Vc Go.Proofs Wl
set_option maxRecDepth 100000
section
variable {B:aq} {h0 h:Heap} {As:List HP} {a pw:Addr} {offs:Int} {da:List (Option Addr)} {w:Pow} {ds:aR}
theorem aa.JE {x y:bB} (H:aa B h0 h (aP bc a pw (aF x) offs da w ds::As)) {K:Unit→Heap→Prop} (hk:∀h',aa B h0 h' (aP bc a pw (aF y) offs da w ds::As)→K () h'):
  af Tryz.prog (Instr.storeAt ao (.pointer (some a)) (dF y)) h K:=by
 obtain⟨ok,H1⟩:=Go.Vc.aa.kd H
 refine H1.nH ag 0 rfl rfl (aF y) rfl rfl rfl (by simp) fun h' H2=>hk h' ?_
 exact aa.ko (k:=bc) ⟨rfl,ok.la,ok.ls,ok.same⟩ H2
theorem zo (x z:bB) (mn:aC) (s:Sl) (l:List Int) (hS:St B h0 As fun h=>dm h z mn∧Rd h s 1 aw l) (hz:b9 mn) (hl:l.length≤2^10) (hin:∀k∈l,0≤k∧k<64) (H:aa B h0 h (aP bc a pw (aF x) offs da w ds::As)):
  ab Tryz.prog sN #[.pointer (some a),dF z,.slice s.ptr s.len s.cap] h fun v h'=>v=.int .i64 (layAll (bh mn l) w ds).1∧
   ((layAll (bh mn l) w ds).1≠0→aa B h0 h' (aP bc a pw (aF x) offs da (layAll (bh mn l) w ds).2.1 (layAll (bh mn l) w ds).2.2::As))∧
   ((layAll (bh mn l) w ds).1=0→∃y,aa B h0 h' (aP bc a pw (aF y) offs da (layAll (bh mn l) w ds).2.1 (layAll (bh mn l) w ds).2.2::bU y mn::As)):=by
 refine rA (some a) z s ?_
 unfold mv
 refine H.boxed fun a1 h1 H1=>?_
 have H1:=H1.cA
 refine⟨z,(H1.box 0 rfl).aH _ rfl,(wA z mn s l h1 (hS.at [_,_] H1).1 hz (hS.at [_,_] H1).2 hl).mono ?_⟩
 rintro _ h2 ⟨r,ys,rfl,R2⟩
 have H2:=(H1.cq R2).ba 3 [2,0,1]
 have hspl:=gy mn hz
 have hmul:=Nat.mul_le_mul hl hspl
 refine⟨r,rfl,(uR r ys (bh mn l) (St.eM 0 rfl fun _ hq=>hq) (by rw[pQ];omega) (fun q hq=>?_) H2).mono ?_⟩
 ·obtain⟨hy1,hy2⟩:=gK hq
  rw[hy2]
  exact⟨hin _ hy1,by decide⟩
 rintro _ h3 ⟨rfl,H3⟩
 obtain⟨R,hR⟩:∃R,R=layAll (bh mn l) w ds:=⟨_,rfl⟩
 rw[←hR]at H3⊢
 refine⟨_,rfl,cw (fun e=>⟨rfl,fun _=>H3.ba 3 [0],fun h=>absurd h e⟩) fun e=>?_⟩
 have H3:aa B h0 h3 (aP bc a pw (aF x) offs da R.2.1 R.2.2::dw iQ 2 piv r ys (bh mn l)::an a1 ao (aF z)::As):=H3
 refine⟨z,(H3.box 2 rfl).aH _ rfl,(y9 z mn h3 (hS.at [_,_,_] H3).1 hz).mono ?_⟩
 rintro _ h4 ⟨y,rfl,R4⟩
 have H4:=(H3.cq R4).ba 4 [1,0]
 refine⟨y,rfl,a,rfl,aa.JE H4 fun h5 H5=>?_⟩
 exact⟨by rw[e],fun h=>absurd e h,fun _=>⟨y,H5⟩⟩
def kU (name:ByteArray) (e:Wl.cu):Bool:=e.name.toList==name.toList
theorem find_spec (x:bB) (m:aC) (name:ByteArray) (hx:dm h x m) (hz:b9 m) (H:aa B h0 h (aP bc a pw (aF x) offs da w ds::As)):
  ab Tryz.prog sS #[.pointer (some a),.string name] h fun v h'=>(∃i:Int,v=.int .i64 i∧KN (kU name) m.aG i)∧Sp h h' []:=by
 refine rD (some a) name ?_
 unfold mz
 refine(Sp.refl h).boxed fun a1 h1 R1=>?_
 have b1:bN h1 a1 KG [.string name]:=R1.box 0 rfl
 obtain⟨ok,hb⟩:=aa.cG H
 have hb1:=hb.ah R1.ah hb.lt
 have hob:=hz.ob
 refine⟨a,rfl,x.2.2.2.2.2.2.2,hb1.cell rfl,?_⟩
 refine(wB qq #[] #[.pointer (some a1)] (kU name) x.2.2.2.2.2.2.2 m.aG h1 (by rfl) (hx.up R1.ah).aG hob ?_).mono ?_
 ·intro u E h2 R2 hu hE
  refine pK u a1 ?_
  unfold kN
  refine(Sp.refl h2).boxed fun a2 h3 R3=>?_
  have b3:=(b1.ah R2.ah b1.lt)
  have b4:=b3.ah R3.ah b3.lt
  refine⟨u.1,(R3.box 0 rfl).cell0 rfl,name,b4.cell0 rfl,?_,.zip R3.ah⟩
  unfold kU
  rw[hu.1.1]
 ·rintro _ h2 ⟨⟨i,rfl,hi⟩,R2⟩
  exact⟨i,rfl,⟨i,rfl,hi⟩,.zip (aa.up R1 R2.ah).ah⟩
theorem BG {mc:List Value} (H:aa B h0 h (aP bc a pw mc offs da w ds::As)):ab Tryz.prog um #[.pointer (some a)] h fun v h'=>v=.bool (eP w offs)∧h'=h:=by
 refine sP (some a) ?_
 unfold mT
 refine bt (fun e=>by cases e) fun _=>(qH H).mono ?_
 rintro _ _ ⟨rfl,rfl⟩
 exact⟨_,rfl,rfl,rfl⟩
def cV (m:aC) (down:Bool) (ds:aR) (name:ByteArray) (n:Nat):Int:=
 if down then 14 else if !gq name then 3 else if m.aG.any (kU name)then 4
 else if m.p.1*m.p.2.2*8<(n:Int)∨12≤m.aG.length then 6
 else if bz ds m.drives=[]∨16777215<m.next∨2147483647≤m.seq then 7 else 0
theorem Ew (x:bB) (m:aC) (name:ByteArray) (s:Sl) (n:Nat) (hn:s.len=n) (hns:name.size≤2^40) (hx:dm h x m) (hz:b9 m) (hp:bO m.p=true) (H:aa B h0 h (aP bc a pw (aF x) offs da w ds::As)):
  ab Tryz.prog pD #[.pointer (some a),.string name,.slice s.ptr s.len s.cap] h fun v h'=>v=.int .i64 (cV m (eP w offs) ds name n)∧Sp h h' []:=by
 refine oD (some a) name s ?_
 unfold kh
 have hmp:=(bP m.p).1 hp
 refine(BG H).mono ?_
 rintro _ h1 ⟨rfl,rfl⟩
 refine⟨_,rfl,bt (fun e=>⟨by unfold cV;rw[e];rfl,Sp.refl _⟩) fun e1=>?_⟩
 refine(Bx name h1 hns).mono ?_
 rintro _ h2 ⟨rfl,R2⟩
 refine⟨_,rfl,aY (fun e=>⟨by unfold cV;rw[e1,e];rfl,R2⟩) fun e2=>?_⟩
 have H2:=H.up R2.ah
 have hx2:=hx.up R2.ah
 refine(find_spec x m name hx2 hz H2).mono ?_
 rintro _ h3 ⟨⟨i,rfl,hi⟩,R3⟩
 have hP:Sp h1 h3 []:=.zip (aa.up R2 R3.ah).ah
 have hia:=Ei hi
 refine⟨i,rfl,bt (fun e=>⟨by unfold cV;rw[e1,e2,←hia,e];rfl,hP⟩) fun e3=>?_⟩
 rw[e3]at hia
 have H3:=H2.up R3.ah
 have hx3:=hx2.up R3.ah
 obtain⟨ok,hb⟩:=aa.cG H3
 have hol:=cY.len hx3.aG
 have he5:x.2.2.1=m.p.1:=congrArg (·.1) hx3.p
 have he7:x.2.2.2.2.1=m.p.2.2:=congrArg (·.2.2) hx3.p
 have hk:m.p.1*m.p.2.2≤16*24:=Int.mul_le_mul (by omega) (by omega) (by omega) (by omega)
 have hk0:0≤m.p.1*m.p.2.2:=Int.mul_nonneg (by omega) (by omega)
 refine cC (fun(t:Bool) h'=>t=decide (m.p.1*m.p.2.2*8<(n:Int)∨12≤m.aG.length)∧h'=h3) ?_ ?_
 ·refine⟨a,rfl,x.2.2.1,hb.cell rfl,a,rfl,x.2.2.2.2.1,by rw[addr_add];exact hb.cell rfl,?_⟩
  rw[he5,he7,Go.Vc.wrap_small (m.p.1*m.p.2.2) (by omega) (by omega),Go.Vc.wrap_small (m.p.1*m.p.2.2*8) (by omega) (by omega)]
  refine aj (fun e=>⟨(decide_eq_true (.inl (by omega))).symm,rfl⟩) fun e=>?_
  refine⟨a,rfl,x.2.2.2.2.2.2.2,hb.cell rfl,?_,rfl⟩
  rw[decide_eq_decide];omega
 rintro t _ ⟨rfl,rfl⟩
 refine aj (fun e=>⟨by unfold cV;rw[e1,e2,←hia,if_pos e];rfl,hP⟩) fun e4=>?_
 have er:cV m (eP w offs) ds name n=if bz ds m.drives=[]∨16777215<m.next∨2147483647≤m.seq then 7 else 0:=by
  unfold cV;rw[e1,e2,←hia,if_neg e4];rfl
 rw[er]
 refine(fe x m hx3 hz H3).mono ?_
 rintro _ h4 ⟨r,rfl,R4⟩
 have hrl:=(R4.own 0 rfl).len
 have hP4:Sp h1 h4 []:=.zip (aa.up hP R4.ah).ah
 have hb4:=hb.ah R4.ah hb.lt
 refine⟨r,rfl,cJ (fun e=>⟨by rw[if_pos (.inl (List.eq_nil_of_length_eq_zero (by omega)))],hP4⟩) fun e=>?_⟩
 have hne:bz ds m.drives≠[]:=fun hh=>by rw[hh]at hrl;simp at hrl;omega
 refine⟨a,rfl,x.2.1,hb4.cell rfl,aj (fun e=>⟨by rw[if_pos (.inr (.inl (by rw[←hx3.next];omega)))],hP4⟩) fun e6=>?_⟩
 have hnx:=hx3.next
 have hsq:=hx3.seq
 refine⟨a,rfl,x.1,hb4.cell0 rfl,aj (fun e=>⟨by rw[if_pos (.inr (.inr (by omega)))],hP4⟩) fun e7=>⟨?_,hP4⟩⟩
 rw[if_neg]
 rintro(h|h|h)
 ·exact hne h
 ·omega
 ·omega
end
end Go.Proofs.YtkciobclldnoiaaGreat
namespace Go.Proofs.YtkciobclldnoiaaGreat
open Go Go.Vc Go.Proofs Wl
set_option maxRecDepth 100000
theorem Nc:∃i e2,C.T.get aS=some i∧i.bQ=.slice e2:=⟨_,_,rfl,rfl⟩
def ot (A B:bq) (k:Nat):bq:=dp (A.take k) (B.take k)++A.drop k
theorem zp {A B:bq} (h:B.length=A.length) (k:Nat):(ot A B k).length=A.length:=by simp[ot,dp,h];omega
theorem Nd {A B:bq} (h:B.length=A.length) {k:Nat} (hk:k<A.length):(ot A B k)[k]?=some A[k]:=by
 have:(dp (A.take k) (B.take k)).length=k:=by simp[dp];omega
 rw[ot,List.getElem?_append_right (by omega),this,Nat.sub_self,List.getElem?_drop,Nat.add_zero,List.getElem?_eq_getElem hk]
theorem Nf {A B:bq} (h:B.length=A.length) {k:Nat} (hk:k<A.length):(ot A B k).set k (A[k]++B[k]'(by omega))=ot A B (k+1):=by
 have hl:(dp (A.take k) (B.take k)).length=k:=by simp[dp];omega
 rw[ot,List.set_append_right _ _ (by omega),hl,Nat.sub_self,List.drop_eq_getElem_cons hk,List.set_cons_zero,ot,aL _ _ hk,aL _ _ (show k<B.length by omega),dp,dp,List.zipWith_append (by simp;omega),List.append_assoc]
 rfl
theorem Ng {A B:bq} (h:B.length=A.length):ot A B A.length=dp A B:=by
 rw[ot,List.take_length,←h,List.take_length,h,List.drop_length,List.append_nil]
set_option maxHeartbeats 1000000 in
theorem HV (f:Addr) (a b:Sl) (A B:bq) (n w:Nat) (h:Heap) (hf:hY h f) (ha:eV h a 1 aD A) (hb:eV h b 1 aD B) (hl:A.length=n) (hlb:B.length=n) (hA:bf n A) (hB:bf w B) (hn1:1≤n) (hn:n+w≤64) (hr:dX A=n):
  ab Tryz.prog DR #[.pointer (some f),.slice a.ptr a.len a.cap,.slice b.ptr b.len b.cap] h fun v h'=>∃r:Sl,v=.tuple #[.slice r.ptr r.len r.cap,.int .i64 0]∧Sp h h' [fC aS r 1 aD (je n A B)]:=by
 have hlen:B.length=A.length:=by omega
 have hla:=ha.len;have hlb':=hb.len
 refine Cg (some f) a b ?_
 unfold wq
 refine aW ?_
 refine(oq a A n h ha hA (by omega) (by omega)).mono ?_
 rintro v h1 ⟨rfl,rfl⟩
 refine⟨_,rfl,aY (fun e=>by cases e) fun _=>?_⟩
 refine(oq b B w h1 hb hB (by omega) (by omega)).mono ?_
 rintro v h2 ⟨rfl,rfl⟩
 refine⟨_,rfl,aY (fun e=>by cases e) fun _=>?_⟩
 refine cw (fun e=>absurd (by rw[hla,hlb',hlen]) e) fun _=>?_
 refine cJ (fun e=>by omega) fun _=>?_
 refine(qK a A h2 ha).mono ?_
 rintro v h3 ⟨rfl,rfl⟩
 have hwA:fW A=n:=by
  cases A with
  |nil=>simp at hl;omega
  |cons x t=>rw[fW,cO (by simp)];exact hA _ (by simp)
 refine⟨_,rfl,?_⟩
 rw[hwA]
 refine(uX a A n h3 ha hA (by omega) (by omega)).mono ?_
 rintro v h4 ⟨r,rs,rfl,hrs,R4⟩
 refine⟨r,rfl,?_⟩
 have hrl0:=(R4.own 0 rfl).len
 refine az (fun t:Nat×List Sl=>(t.1:Int)) (fun t h'=>t.1≤n∧t.2.length=n∧Sp h3 h' (kT r t.2 (ot A B t.1))) (fun t=>n-t.1) (0,rs) rfl ⟨by simp,by dsimp only;omega,by simpa[ot,dp]using R4⟩ ?_
 rintro⟨k,rs⟩ h5 ⟨hk,hrk,H5⟩
 dsimp only at*
 have hle:rs.length=(ot A B k).length:=by rw[zp hlen];omega
 refine aj (fun e=>?_) (fun e=>?_)
 ·have hk':k<n:=by omega
  have hkA:k<A.length:=by omega
  have gk:=qL (a:=r) hle k (by rw[zp hlen];omega)
  have eg:(ot A B k)[k]'(by rw[zp hlen];omega)=A[k]:=by
   have:=Nd hlen hkA
   rw[List.getElem?_eq_getElem (by rw[zp hlen];omega)]at this
   exact Option.some.inj this
  rw[eg]at gk
  have l1:A[k].length=n:=hA _ (List.getElem_mem _)
  have l2:(B[k]'(by omega)).length=w:=hB _ (List.getElem_mem _)
  refine(H5.seq 0 rfl (fun _=>rfl)).pv k rfl (by omega) fun a1 ha1 hb1=>?_
  refine(hb.up H5.ah).get k rfl (by omega) fun rb hrb=>?_
  refine H5.append ag (k+1) gk gN Nc rfl (by decide) (fun _=>rfl) hrb fx (by omega) fun s6 h6 H6=>⟨trivial,?_⟩
  refine H6.set ag 0 rfl (fun _=>rfl) rfl k rfl (by omega) s6 rfl rfl rfl fun h7 H7=>⟨trivial,?_⟩
  refine⟨(k+1,rs.set k s6),by dsimp only;rw[wrap_small _ (by omega) (by omega)];rfl,⟨by dsimp only;omega,by dsimp only;simp;omega,?_⟩,by dsimp only;omega⟩
  dsimp only
  rw[←Nf hlen hkA]
  show Sp h3 h7 (ak aS r 1 cm (rs.set k s6)::bx aB 1 aD (rs.set k s6) ((ot A B k).set k _))
  rw[←jS hle]
  exact H7
 ·have hkn:k=A.length:=by omega
  subst hkn
  rw[Ng hlen]at H5
  refine(sF f h5).mono ?_
  rintro v h6 ⟨rfl,rfl⟩
  refine⟨some f,rfl,?_⟩
  have hev:=lG hlen.symm hA hB
  have hal:=js hlen.symm
  refine(wD (m:=dp A B) (n:=n+w) hf hf.lt (by omega) hev (by omega) (by omega) (by omega) H5).mono ?_
  rintro v h7 ⟨rs',rfl,hrs',R7⟩
  rw[Dm hlen.symm hA,hr]
  refine⟨_,rfl,?_⟩
  dsimp only
  have hcap:=(R7.own 0 rfl).cap
  have hrl:=(R7.own 0 rfl).len
  have h2:=gF hev n
  refine aj (fun e=>absurd (show(n:Int)<(n:Int)from e) (by omega)) fun _=>?_
  refine⟨⟨Int.natCast_nonneg _,Int.ofNat_le.2 (show n≤r.len by omega)⟩,?_⟩
  refine az (fun _:Unit=>(0:Int)) (fun _ h'=>h'=h7) (fun _=>0) () rfl rfl ?_
  rintro _ h8 rfl
  rw[Int.toNat_natCast]
  refine aj (fun e=>by omega) fun _=>?_
  refine⟨⟨Int.natCast_nonneg _,Int.ofNat_le.2 (show n≤r.cap by omega)⟩,?_⟩
  obtain⟨M,hM⟩:∃M,M=(bu (dp A B) n).2:=⟨_,rfl⟩
  have hMl:M.length=n:=by have:=h2.2;rw[←hM]at this;omega
  have hMe:bf (n+w) M:=by rw[hM];exact h2.1
  have hsol:∀k (hk:k<n),(je n A B).take (k+1)=(je n A B).take k++[(M[k]'(by omega)).drop n]:=fun k hk=>by
   have e1:je n A B=M.map (List.drop n):=by rw[je,←hM,List.take_of_length_le (by omega)]
   rw[e1,aL _ _ (by simp;omega),List.getElem_map]
  have hsl:(je n A B).length=n:=(Ab hlen.symm hA hB hr).1
  rw[←hM]at R7
  refine az (fun t:Sl×Nat=>(t.1,(t.2:Int))) (fun t h'=>t.2≤n∧Sp h8 h' [fC aS t.1 1 aD ((je n A B).take t.2)]) (fun t=>n-t.2) (⟨none,0,0⟩,0) rfl ⟨by simp,(Sp.refl h8).G3 aS 1 aD⟩ ?_
  rintro⟨s,k⟩ h9 ⟨hk9,H9⟩
  dsimp only at*
  have HH:=R7.comp H9
  have hlM:rs'.length=M.length:=by omega
  refine aj (fun e=>?_) (fun e=>?_)
  ·have hk':k<n:=by omega
   have gk:=qL (a:=r) hlM k (by omega)
   have gk':(kT r rs' M++[fC aS s 1 aD ((je n A B).take k)])[k+1]?=some (ak aB (rs'[k]'(by omega)) 1 aD (M[k]'(by omega))):=by
    rw[List.getElem?_append_left (by simp[bx];omega)];exact gk
   have hml:(M[k]'(by omega)).length=n+w:=hMe _ (List.getElem_mem _)
   have hso:=HH.own (k+1) gk'
   have hsr:=HH.seq (k+1) gk' (fun _=>rfl)
   have hsl2:=hso.len
   have hsq:=(HH.seq 0 rfl (fun _=>rfl)).take n (by omega)
   rw[List.take_of_length_le (by omega)]at hsq
   refine hsq.pv k rfl (by omega) fun a1 ha1 hb1=>?_
   refine⟨⟨Int.natCast_nonneg _,Int.ofNat_le.2 (by omega)⟩,?_⟩
   refine(iM _ _ h9 (hsr.drop n hso.cap) (by simp;omega)).mono ?_
   rintro v h10 ⟨c,rfl,R10⟩
   have H10:=(H9.comp R10).freeze 1 rfl (fun _=>rfl)
   refine⟨c,rfl,?_⟩
   refine H10.zS ag 0 1 (by decide) rfl rfl iA (by simp;omega) fun s' h11 H11=>?_
   refine⟨(s',k+1),by dsimp only;rw[wrap_small _ (by omega) (by omega)];rfl,⟨by dsimp only;omega,?_⟩,by dsimp only;omega⟩
   dsimp only
   rw[hsol k hk']
   exact H11.del 1
  ·rw[List.take_of_length_le (by omega)]at H9
   refine⟨s,rfl,?_⟩
   have:=(Sp.zip R7.ah).comp H9
   exact this
end Go.Proofs.YtkciobclldnoiaaGreat
namespace Go.Proofs.YtkciobclldnoiaaGreat
open Go Go.Vc Go.Proofs Wl
set_option maxRecDepth 100000
def ke (p:Pm) (seed:Int) (l:Nat):Int:=if bO p&&decide ((l:Int)=p.1*p.2.2)then(if kE p seed (dJ p)then 0 else 8)else 1
abbrev xA (p:Pm) (seed:Int) (m:Sl):List Value:=[.int .i64 p.1,.int .i64 p.2.1,.int .i64 p.2.2,.int .u32 seed,.slice m.ptr m.len m.cap]
set_option maxHeartbeats 2000000 in
theorem KY (p:Pm) (seed:Int) (data:Sl) (d:Row) (h:Heap) (hd:Rd h data 1 aD d) (hc:data.len≤data.cap):
  ab Tryz.prog sn #[j3 p,.int .u32 seed,.slice data.ptr data.len data.cap] h fun v h'=>
   (ke p seed d.length=0→∃(b:Addr) (m:Sl),v=.tuple #[.pointer (some b),.int .i64 0]∧Sp h h' [fC aS m 1 aD (iv p seed d),an b dR (xA p seed m)])∧
   (ke p seed d.length≠0→v=.tuple #[.pointer none,.int .i64 (ke p seed d.length)]∧Sp h h' []):=by
 have hdl:=hd.len
 refine Av p seed data ?_
 unfold ur
 refine(Sp.refl h).boxed fun a h1 H1=>?_
 refine aW ?_
 refine⟨p,(H1.box 0 rfl).aH _ rfl,(dq p h1).mono ?_⟩
 rintro v h2 ⟨rfl,R2⟩
 have H2:=H1.comp R2
 have no:∀{h3:Heap} (x:Int),x≠0→ke p seed d.length=x→Sp h h3 [an a aT [.int .i64 p.1,.int .i64 p.2.1,.int .i64 p.2.2]]→
   (ke p seed d.length=0→∃(b:Addr) (m:Sl),Value.tuple #[.pointer none,.int .i64 x]=.tuple #[.pointer (some b),.int .i64 0]∧Sp h h3 [fC aS m 1 aD (iv p seed d),an b dR (xA p seed m)])∧
   (ke p seed d.length≠0→Value.tuple #[.pointer none,.int .i64 x]=.tuple #[.pointer none,.int .i64 (ke p seed d.length)]∧Sp h h3 []):=fun x hx hne H=>by
  refine⟨fun e=>absurd (hne.symm.trans e) hx,fun _=>⟨by rw[hne],.zip H.ah⟩⟩
 refine⟨_,rfl,aY (fun e=>no 1 (by decide) (by rw[ke,e];rfl) H2) fun hp=>?_⟩
 have hpp:=(bP p).1 hp
 obtain⟨K,hK⟩:∃K:Nat,p.1=K:=⟨p.1.toNat,by omega⟩
 obtain⟨Hh,hH⟩:∃H:Nat,p.2.1=H:=⟨p.2.1.toNat,by omega⟩
 obtain⟨w,hw⟩:∃w:Nat,p.2.2=w:=⟨p.2.2.toNat,by omega⟩
 have hKw:K*w≤16*24:=Nat.mul_le_mul (by omega) (by omega)
 have eKw:p.1*p.2.2=((K*w:Nat):Int):=by rw[hK,hw,Int.natCast_mul]
 refine⟨p.1,(H2.box 0 rfl).cell0 rfl,p.2.2,(H2.box 0 rfl).cell rfl,?_⟩
 rw[eKw,wrap_small _ (by omega) (by omega)]
 refine cw (fun e=>no 1 (by decide) (by rw[ke,hp,decide_eq_false (by rw[eKw];intro e2;exact e (by rw[hdl];exact e2))];rfl) H2) fun el=>?_
 have hlen:d.length=K*w:=by omega
 refine⟨p,(H2.box 0 rfl).aH _ rfl,(zj p seed h2).mono ?_⟩
 rintro v h3 ⟨rfl,R3⟩
 have H3:=H2.comp R3
 have hnew:ke p seed d.length=if kE p seed (dJ p)then 0 else 8:=by rw[ke,hp,decide_eq_true (by rw[eKw,hlen])];rfl
 refine⟨_,rfl,aY (fun e=>no 8 (by decide) (by rw[hnew,e];rfl) H3) fun hf=>?_⟩
 rw[hf,if_pos rfl]at hnew
 have B:bS p seed d K Hh w (K+Hh):=⟨hp,hf,hK,hH,hw,rfl,by omega,by omega,by omega,by omega,by omega,by omega,hlen⟩
 refine⟨p.2.1,(H3.box 0 rfl).cell rfl,?_⟩
 refine az (fun t:Sl×List Sl=>(t.1,(t.2.length:Int))) (fun t h'=>t.2.length≤Hh∧Sp h h' (an a aT [.int .i64 p.1,.int .i64 p.2.1,.int .i64 p.2.2]::kT t.1 t.2 (List.replicate t.2.length (bR w)))) (fun t=>Hh-t.2.length) (⟨none,0,0⟩,[]) rfl ⟨by simp,H3.nil aS 1 cm⟩ ?_
 rintro⟨s,rs⟩ h4 ⟨hk,H4⟩
 dsimp only at*
 refine aj (fun e=>?_) (fun e=>?_)
 ·refine⟨p.2.2,(H4.box 0 rfl).cell rfl,?_⟩
  refine H4.make ag aD gN (by decide) 0 rfl rfl w w hw hw (Nat.le_refl _) (by omega) fun z h5 hzl hzc H5=>?_
  refine H5.push ag 1 rfl iA rfl (by decide) (fun _=>rfl) nI z rfl (by decide) (by omega) fun s' h6 H6=>?_
  refine⟨(s',rs++[z]),by dsimp only;rw[wrap_small _ (by omega) (by omega)];simp,⟨by simp;omega,?_⟩,by simp;omega⟩
  dsimp only
  have e7:kT s' (rs++[z]) (List.replicate rs.length (bR w)++[bR w])=ak aS s' 1 cm (rs++[z])::(bx aB 1 aD rs (List.replicate rs.length (bR w))++[ak aB z 1 aD (bR w)]):=congrArg _ (nJ (by simp) z (bR w))
  rw[show(rs++[z]).length=rs.length+1 by simp,List.replicate_succ',e7]
  exact H6
 ·have hrs:rs.length=Hh:=by omega
  rw[hrs]at H4
  refine⟨p.1,(H4.box 0 rfl).cell0 rfl,?_⟩
  let own:=bx aB 1 aD rs (List.replicate Hh (bR w))
  refine az (fun t:Sl×Nat=>(t.1,(t.2:Int))) (fun t h'=>t.2≤K∧Sp h h' (an a aT [.int .i64 p.1,.int .i64 p.2.1,.int .i64 p.2.2]::ak aS t.1 1 cm (rs++(List.range t.2).map (zT data w))::own)) (fun t=>K-t.2) (s,0) rfl ⟨by simp,by simpa using H4⟩ ?_
  rintro⟨t,k⟩ h5 ⟨hk5,H5⟩
  dsimp only at*
  refine aj (fun e2=>?_) (fun e2=>?_)
  ·have hk':k<K:=by omega
   have m1:(k+1)*w≤K*w:=Nat.mul_le_mul_right w hk'
   have m2:k*w≤(k+1)*w:=Nat.mul_le_mul_right w (by omega)
   refine⟨p.2.2,(H5.box 0 rfl).cell rfl,p.2.2,(H5.box 0 rfl).cell rfl,?_⟩
   rw[wrap_small ((k:Int)+1) (by omega) (by omega)]
   have e5:(k:Int)*p.2.2=((k*w:Nat):Int):=by rw[hw,Int.natCast_mul]
   have e6:((k:Int)+1)*p.2.2=(((k+1)*w:Nat):Int):=by rw[hw,Int.natCast_mul];rfl
   rw[e5,e6,mZ _ (by omega),mZ _ (by omega),Int.toNat_natCast,Int.toNat_natCast]
   refine⟨⟨Int.natCast_nonneg _,Int.ofNat_le.2 m2,Int.ofNat_le.2 (by omega)⟩,?_⟩
   refine H5.push ag 1 rfl iA rfl (by decide) (fun _=>rfl) nI (zT data w k) rfl (by decide) (by simp;omega) fun t' h6 H6=>?_
   refine⟨(t',k+1),rfl,⟨by dsimp only;omega,?_⟩,by dsimp only;omega⟩
   dsimp only
   rw[List.range_succ,List.map_append,←List.append_assoc]
   exact H6
  ·have hkK:k=K:=by omega
   subst hkK
   refine aW ?_
   have hright:eV h5 t 1 aD (dK k Hh w d):=by
    refine⟨rs++(List.range k).map (zT data w),H5.seq 1 rfl (fun _=>rfl),by rw[tZ];simp;omega,fun i r l h1' h2'=>?_⟩
    by_cases hi:i<Hh
    ·rw[List.getElem?_append_left (by omega),List.getElem?_eq_getElem (by omega)]at h1'
     rw[dK,List.getElem?_append_left (by simpa using hi)]at h2'
     have hz:l=bR w:=by simp[hi]at h2';exact h2'.symm
     have hr:rs[i]'(by omega)=r:=Option.some.inj h1'
     have g:(an a aT [.int .i64 p.1,.int .i64 p.2.1,.int .i64 p.2.2]::ak aS t 1 cm (rs++(List.range k).map (zT data w))::own)[i+2]?=some (ak aB (rs[i]'(by omega)) 1 aD ((List.replicate Hh (bR w))[i]'(by simpa using hi))):=gD (by simpa using hrs) i (by simpa using hi)
     have:=H5.seq (i+2) g (fun _=>rfl)
     rw[List.getElem_replicate,hr]at this
     rw[hz];exact this
    ·obtain⟨j,rfl⟩:∃j,i=Hh+j:=⟨i-Hh,by omega⟩
     rw[List.getElem?_append_right (by omega),hrs,Nat.add_sub_cancel_left]at h1'
     rw[dK,List.getElem?_append_right (by simp),List.length_replicate,Nat.add_sub_cancel_left]at h2'
     have hj:j<k:=by
      have:=(List.getElem?_eq_some_iff.1 h1').1
      simpa using this
     simp[hj]at h1' h2'
     have m1:(j+1)*w≤k*w:=Nat.mul_le_mul_right w hj
     rw[←h1',←h2']
     exact(Seq.up hd H5.ah).piece hc w j (by omega)
   have hb5:=H5.box 0 rfl
   refine⟨p,hb5.aH _ rfl,p,hb5.aH _ rfl,(rN h5).mono ?_⟩
   rintro v h6 ⟨f,rfl,R6⟩
   have hb6:=hb5.ah R6.ah hb5.lt
   refine⟨some f,rfl,⟨hb6.cell0 rfl,hb6.cell rfl,hb6.cell rfl,hb6.cell0 rfl,hb6.cell rfl,hb6.cell rfl,trivial⟩,(zi p h6).mono ?_⟩
   rintro v h7 ⟨r7,rfl,R7⟩
   have Q7:=R6.comp R7
   have hb7:=hb5.ah Q7.ah hb5.lt
   refine⟨r7,rfl,⟨hb7.cell0 rfl,hb7.cell rfl,hb7.cell rfl,trivial⟩,?_⟩
   refine(wC p seed r7 (dJ p) h7 (Q7.seq 1 rfl (fun _=>rfl)) (by rw[dJ,gE];omega)).mono ?_
   rintro v h8 ⟨r8,rfl,R8⟩
   have Q8:=Q7.comp R8
   refine⟨r8,rfl,trivial,?_⟩
   refine(HV f r8 t _ _ (k+Hh) w h8 (Q8.box 0 rfl) (Q8.xQ 2 rfl) (hright.up Q8.ah) B.yf (by rw[tZ]) B.vA (nh B.len) (by omega) (by omega) B.KA).mono ?_
   rintro v h9 ⟨r9,rfl,R9⟩
   have Q9:=Q8.comp R9
   refine⟨(r9,0),rfl,trivial,?_⟩
   refine cw (fun e=>absurd rfl e) fun _=>?_
   have hb9:=hb5.ah Q9.ah hb5.lt
   refine⟨p,hb9.aH _ rfl,?_⟩
   refine Q9.boxed (t:=dR) fun b h10 Q10=>?_
   refine⟨fun _=>⟨b,r9,rfl,?_⟩,fun e=>absurd hnew e⟩
   have Q:=(Sp.zip H5.ah).comp Q10
   rw[←B.rW]at Q
   exact Q.take 3 (fun i A hi=>by
    cases i with
    |zero=>exact hi
    |succ i=>cases i with
     |zero=>exact hi
     |succ i=>simp at hi)
end Go.Proofs.YtkciobclldnoiaaGreat
namespace Go.Proofs.YtkciobclldnoiaaGreat
open Go Go.Vc Go.Proofs Wl
set_option maxRecDepth 100000
def AS (h:Heap) (b:Addr) (p:Pm) (seed:Int) (M:bq):Prop:=∃m:Sl,bN h b dR (xA p seed m)∧eV h m 1 aD M
theorem AS.up {h h':Heap} {b:Addr} {p:Pm} {seed:Int} {M:bq} (hb:AS h b p seed M) (hp:aE (fun b=>b<h.size) h h'):AS h' b p seed M:=by
 obtain⟨m,h1,h2⟩:=hb
 exact⟨m,h1.ah hp h1.lt,h2.up hp⟩
theorem F9 {a t:Row} (hat:a.length=t.length) {k:Nat} (hk:k<t.length):(List.zipWith (fun x y=>y^^^Gf.mul 1 x) (a.take k) (t.take k)++t.drop k).set k (t[k]^^^(a[k]'(by omega)))=List.zipWith (fun x y=>y^^^Gf.mul 1 x) (a.take (k+1)) (t.take (k+1))++t.drop (k+1):=by
 have:=uY (c:=1) hat hk
 rw[Gf.one_mul]at this
 exact this
theorem Nh {a t:Row} (hat:a.length=t.length) {k:Nat} (hk:k<t.length):(List.zipWith (fun x y=>y^^^Gf.mul 1 x) (a.take k) (t.take k)++t.drop k)[k]?=some t[k]:=by
 have hl:(List.zipWith (fun x y=>y^^^Gf.mul 1 x) (a.take k) (t.take k)).length=k:=by simp;omega
 rw[List.getElem?_append_right (by omega),hl,Nat.sub_self,List.getElem?_drop,Nat.add_zero,List.getElem?_eq_getElem hk]
theorem Ga (b:Addr) (p:Pm) (seed id:Int) (M:bq) (n w:Nat) (h:Heap) (hb:AS h b p seed M) (hp:bO p=true) (hw:p.2.2=w) (hn:(cK p).toNat=n) (hM:bf w M) (hl:M.length=n):
  ab Tryz.prog j1 #[.pointer (some b),.int .i64 id] h fun v h'=>∃r:Sl,v=.slice r.ptr r.len r.cap∧Sp h h' [ak aB r 1 aD (if bZ id then jG w M (ir n seed id)else[])]:=by
 obtain⟨m,hb1,hm⟩:=hb
 have hml:=hm.len
 have hpp:=(bP p).1 hp
 have hc:cK p=p.1+p.2.1:=by rw[cK,if_pos hp]
 refine oG (some b) id ?_
 unfold kl
 have no:bZ id=false→∃r:Sl,Value.slice none 0 0=.slice r.ptr r.len r.cap∧Sp h h [ak aB r 1 aD (if bZ id then jG w M (ir n seed id)else[])]:=fun e=>by
  rw[e];exact⟨⟨none,0,0⟩,rfl,(Sp.refl h).nil aB 1 aD⟩
 refine aW (bt (fun e=>by cases e) fun _=>aj (fun e=>no (by simp[bZ];omega)) fun e1=>aj (fun e=>no (by simp[bZ];omega)) fun e2=>?_)
 have hid:bZ id=true:=by simp[bZ];omega
 refine⟨b,rfl,p.2.2,hb1.cell rfl,?_⟩
 refine(Sp.refl h).make ag aD gN (by decide) 0 rfl rfl w w hw hw (Nat.le_refl _) (by omega) fun o h1 hol hoc H1=>?_
 have hb2:=hb1.ah H1.ah hb1.lt
 refine⟨b,rfl,p,hb2.aH _ rfl,b,rfl,seed,hb2.cell rfl,(BC p seed id h1).mono ?_⟩
 rintro v h2 ⟨c,rfl,R2⟩
 rw[hp,hid,Bool.and_self,if_pos rfl,hn]at R2
 rw[hid,if_pos rfl]
 have H2:=H1.comp R2
 obtain⟨cs,hcs⟩:∃cs,cs=ir n seed id:=⟨_,rfl⟩
 have hin:∀x∈cs,0≤x∧x<(n:Int):=fun x hx=>tz (by omega) (by omega) (by rw[←hcs];exact hx)
 have hcl2:cs.length≤n:=by rw[hcs];exact Ba (by omega) (by omega) _ _
 rw[←hcs]at H2⊢
 have hcl:=(H2.seq 1 rfl (fun _=>rfl)).len
 refine⟨c,rfl,trivial,?_⟩
 refine az (fun i:Nat=>(i:Int)) (fun i h'=>i≤cs.length∧Sp h h' [ak aB o 1 aD (jG w M (cs.take i)),ak aJ c 1 aw cs]) (fun i=>cs.length-i) 0 rfl ⟨by omega,H2⟩ ?_
 rintro i h3 ⟨hi,H3⟩
 refine aj (fun e=>?_) (fun e=>?_)
 ·have hi':i<cs.length:=by omega
  have hx:=hin _ (List.getElem_mem hi')
  refine(H3.seq 1 rfl (fun _=>rfl)).cv i rfl hi' _ rfl ?_
  have hb3:=hb1.ah H3.ah hb1.lt
  refine⟨b,rfl,m,hb3.cell rfl,?_⟩
  obtain⟨rsm,hq⟩:=hm
  refine(hq.ah H3.ah).get cs[i].toNat (by omega) (by omega) fun r hr hrs=>?_
  have hrb:=hq.row _ r _ hrs (List.getElem?_eq_getElem (show cs[i].toNat<M.length by omega))
  obtain⟨row,hrow⟩:∃row,row=M[cs[i].toNat]'(by omega):=⟨_,rfl⟩
  have hrl:row.length=w:=by rw[hrow];exact hM _ (List.getElem_mem _)
  rw[←hrow]at hr hrb
  obtain⟨S,hS⟩:∃S,S=jG w M (cs.take i):=⟨_,rfl⟩
  have hSl:S.length=w:=by rw[hS];exact tW hM hl hin i hi
  have hrr:=hr.len
  have e2:jG w M (cs.take (i+1))=cZ 1 row S:=by rw[aL _ _ hi',Dp,hS,hrow,cO (by omega)]
  rw[←hS]at H3
  refine az (fun k:Nat=>(k:Int)) (fun k h'=>k≤w∧Sp h h' [ak aB o 1 aD (List.zipWith (fun x y=>y^^^Gf.mul 1 x) (row.take k) (S.take k)++S.drop k),ak aJ c 1 aw cs]) (fun k=>w-k) 0 rfl ⟨by omega,by simpa using H3⟩ ?_
  rintro k h4 ⟨hk,H4⟩
  have hr4:=hrb.ah H4.ah
  have hzl:(List.zipWith (fun x y=>y^^^Gf.mul 1 x) (row.take k) (S.take k)++S.drop k).length=w:=by simp;omega
  refine aj (fun e3=>?_) (fun e3=>?_)
  ·have hk':k<w:=by omega
   have hval:(List.zipWith (fun x y=>y^^^Gf.mul 1 x) (row.take k) (S.take k)++S.drop k)[k]'(by omega)=S[k]'(by omega):=by
    have:=Nh (a:=row) (t:=S) (by omega) (show k<S.length by omega)
    rw[List.getElem?_eq_getElem (by omega)]at this
    exact Option.some.inj this
   refine hr4.cv k rfl (by omega) _ rfl ?_
   refine(H4.seq 0 rfl (fun _=>rfl)).cv k rfl (by omega) _ rfl ?_
   rw[hval,qI]
   refine H4.set ag 0 rfl (fun _=>rfl) rfl k rfl (by omega) _ rfl rfl rfl fun h5 H5=>?_
   refine⟨k+1,by rw[wrap_small _ (by omega) (by omega)];rfl,⟨by omega,?_⟩,by omega⟩
   rw[←F9 (by omega) (show k<S.length by omega)];exact H5
  ·have hkw:k=w:=by omega
   subst hkw
   rw[List.take_of_length_le (by omega),List.take_of_length_le (by omega),List.drop_of_length_le (by omega),List.append_nil]at H4
   refine⟨i+1,by rw[wrap_small _ (by omega) (by omega)];rfl,⟨by omega,?_⟩,by omega⟩
   rw[e2];exact H4
 ·rw[List.take_of_length_le (by omega)]at H3
  exact⟨o,rfl,H3.take 0 (fun i A hi=>by cases i with|zero=>exact hi|succ i=>simp at hi)⟩
end Go.Proofs.YtkciobclldnoiaaGreat
namespace Go.Proofs.YtkciobclldnoiaaGreat
open Go Go.Vc Go.Proofs Wl
set_option maxRecDepth 100000
theorem _root_.Wl.bS.ke {p:Pm} {seed:Int} {d:Row} {K H w n:Nat} (B:bS p seed d K H w n):ke p seed d.length=0:=by
 rw[Go.Proofs.YtkciobclldnoiaaGreat.ke,B.may,B.full,B.len,B.k,B.s,decide_eq_true (by rw[Int.natCast_mul])];rfl
theorem _root_.Wl.bS.congr {p:Pm} {seed:Int} {d d':Row} {K H w n:Nat} (B:bS p seed d K H w n) (h:d'.length=K*w):bS p seed d' K H w n:=
 ⟨B.may,B.full,B.k,B.h,B.s,B.n,B.k1,B.k2,B.h1,B.h2,B.w1,B.w2,h⟩
theorem Ni {p:Pm} {seed:Int} {d:Row} {K H w n:Nat} (B:bS p seed d K H w n) (data:Sl) (h:Heap) (hd:Rd h data 1 aD d) (hc:data.len≤data.cap):
  ab Tryz.prog sn #[j3 p,.int .u32 seed,.slice data.ptr data.len data.cap] h fun v h'=>
   ∃(b:Addr) (m:Sl),v=.tuple #[.pointer (some b),.int .i64 0]∧Sp h h' [fC aS m 1 aD (iv p seed d),an b dR (xA p seed m)]:=
 (KY p seed data d h hd hc).mono fun _ _ hh=>hh.1 B.ke
theorem _root_.Wl.bS.symbol {p:Pm} {seed:Int} {d:Row} {K H w n:Nat} (B:bS p seed d K H w n) (b:Addr) (id:Int) (h:Heap) (hb:AS h b p seed (iv p seed d)):
  ab Tryz.prog j1 #[.pointer (some b),.int .i64 id] h fun v h'=>∃r:Sl,v=.slice r.ptr r.len r.cap∧Sp h h' [ak aB r 1 aD (if bZ id then jG w (iv p seed d) (ir n seed id)else[])]:=
 Ga b p seed id _ n w h hb B.may B.s B.vz B.yg.2 B.yg.1
end Go.Proofs.YtkciobclldnoiaaGreat
namespace Go.Proofs.YtkciobclldnoiaaGreat
open Go Go.Vc Go.Proofs Wl
set_option maxRecDepth 100000
def qN (s:rX):List Value:=[.complex .f64 s.ax s.ay,.complex .f64 s.sx s.sy,.int .i64 s.left,.int .i64 s.leg,.bool s.second]
theorem kq {o:Option Nat} (h:o.isSome=true):o=some (o.getD 0):=by
 cases o with
 |none=>cases h
 |some x=>rfl
theorem HW (h:Heap):ab Tryz.prog AG #[] h fun v h'=>∃a:Addr,v=.pointer (some a)∧Sp h h' [an a dB (qN NJ)]:=by
 refine yM ?_
 unfold sA
 refine(Sp.refl h).boxed (t:=dB) fun a h1 H1=>?_
 exact⟨a,rfl,H1⟩
theorem JF (a b:Nat) (h:Heap) (h1:(dZ.mul a 0).isSome=true) (h2:(dZ.mul b kF).isSome=true) (h3:(dZ.sub (mJ a 0) (mJ b kF)).isSome=true) (h4:(dZ.mul a kF).isSome=true) (h5:(dZ.mul b 0).isSome=true) (h6:(dZ.add (mJ a kF) (mJ b 0)).isSome=true):
  ab Tryz.prog Co #[.complex .f64 a b,.int .i64 1] h fun v h'=>v=.complex .f64 (tx a b) (ty a b)∧h'=h:=by
 refine AK (a,b) 1 ?_
 unfold uE
 refine⟨by decide,by decide,?_⟩
 refine az (fun k:Nat=>(if k=0 then(a,b)else(tx a b,ty a b),(k:Int))) (fun k h'=>k≤1∧h'=h) (fun k=>1-k) 0 rfl ⟨by omega,rfl⟩ ?_
 rintro k h' ⟨hk,rfl⟩
 have e1:Int.tmod (IntKind.wrap .i64 (Int.tmod 1 4+4)) 4=1:=by decide
 dsimp only
 rw[e1]
 refine aj (fun e=>?_) (fun e=>?_)
 ·have:k=0:=by omega
  subst this
  refine⟨(tx a b,ty a b),Md (kq h1) (kq h2) (kq h3) (kq h4) (kq h5) (kq h6),?_⟩
  exact⟨1,rfl,⟨by omega,rfl⟩,by omega⟩
 ·have:k=1:=by omega
  subst this
  exact⟨rfl,rfl⟩
theorem KZ (a:Addr) (s:rX) (h:Heap) (hb:bN h a dB (qN s)) (hok:s.ok=true):ab Tryz.prog uB #[.pointer (some a)] h fun v h'=>v=.tuple #[]∧bN h' a dB (qN s.on)∧aE (fun b=>b≠a.block) h h':=by
 simp only[rX.ok,Bool.and_eq_true,decide_eq_true_eq]at hok
 obtain⟨⟨⟨⟨⟨⟨⟨⟨⟨⟨⟨k1,k2⟩,k3⟩,k4⟩,k5⟩,k6⟩,k7⟩,k8⟩,k9⟩,k10⟩,k11⟩,k12⟩:=hok
 refine sX (some a) ?_
 unfold mW
 have H0:aa (fun b=>b<h.size∧¬b=a.block) h h [an a dB (qN s)]:=.Ix (fun b=>b=a.block) (fun b hb'=>by rw[hb'];exact hb.lt) ⟨hb,rfl⟩
 have fin:∀{h':Heap},aa (fun b=>b<h.size∧¬b=a.block) h h' [an a dB (qN s.on)]→Value.tuple #[]=.tuple #[]∧bN h' a dB (qN s.on)∧aE (fun b=>b≠a.block) h h':=fun H=>
  ⟨rfl,H.box 0 rfl,H.ah.1,fun k hk hne=>H.ah.2 k hk ⟨hk,hne⟩⟩
 refine⟨a,rfl,(s.ax,s.ay),hb.cell0 rfl,a,rfl,(s.sx,s.sy),hb.cell rfl,(kc s.ax s.sx,kc s.ay s.sy),Mb (kq k1) (kq k2),a,rfl,?_⟩
 refine H0.nH ag 0 rfl rfl [.complex .f64 (kc s.ax s.sx) (kc s.ay s.sy)] rfl rfl rfl (by simp[qN]) fun h1 H1=>⟨trivial,?_⟩
 refine⟨a,rfl,s.left,(H1.box 0 rfl).cell (j:=2) rfl,a,rfl,?_⟩
 rw[Go.Vc.wrap_small (s.left-1) (by omega) (by omega)]
 refine H1.storeAt ag 0 rfl rfl (off:=2) rfl rfl rfl (by simp[qN]) fun h2 H2=>?_
 refine⟨a,rfl,s.left-1,(H2.box 0 rfl).cell (j:=2) rfl,?_⟩
 refine aj (fun e=>?_) (fun e=>?_)
 ·have eo:qN s.on=[.complex .f64 (kc s.ax s.sx) (kc s.ay s.sy),.complex .f64 s.sx s.sy,.int .i64 (s.left-1),.int .i64 s.leg,.bool s.second]:=by rw[rX.on,if_pos e];rfl
  refine fin ?_
  rw[eo];exact H2
 ·refine⟨a,rfl,(s.sx,s.sy),(H2.box 0 rfl).cell (j:=1) rfl,(JF s.sx s.sy h2 k3 k4 k5 k6 k7 k8).mono ?_⟩
  rintro v h3 ⟨rfl,rfl⟩
  refine⟨(tx s.sx s.sy,ty s.sx s.sy),rfl,a,rfl,?_⟩
  refine H2.storeAt ag 0 rfl rfl (off:=1) rfl rfl rfl (by simp[qN]) fun h4 H4=>?_
  refine cC (fun _ h'=>aa (fun b=>b<h.size∧¬b=a.block) h h' [an a dB [.complex .f64 (kc s.ax s.sx) (kc s.ay s.sy),.complex .f64 (tx s.sx s.sy) (ty s.sx s.sy),.int .i64 (s.left-1),.int .i64 (if s.second then s.leg+1 else s.leg),.bool s.second]]) ?_ ?_
  ·refine⟨a,rfl,s.second,(H4.box 0 rfl).cell (j:=4) rfl,bt (fun e2=>?_) (fun e2=>?_)⟩
   ·refine⟨a,rfl,s.leg,(H4.box 0 rfl).cell (j:=3) rfl,a,rfl,?_⟩
    rw[Go.Vc.wrap_small (s.leg+1) (by omega) (by omega)]
    refine H4.storeAt ag 0 rfl rfl (off:=3) rfl rfl rfl (by simp[qN]) fun h5 H5=>?_
    rw[if_pos e2];exact H5
   ·rw[if_neg (by rw[e2];decide)];exact H4
  ·rintro _ h6 H6
   refine⟨a,rfl,s.second,(H6.box 0 rfl).cell (j:=4) rfl,a,rfl,?_⟩
   refine H6.storeAt ag 0 rfl rfl (off:=4) rfl rfl rfl (by simp) fun h7 H7=>?_
   refine⟨a,rfl,_,(H7.box 0 rfl).cell (j:=3) rfl,a,rfl,?_⟩
   refine H7.storeAt ag 0 rfl rfl (off:=2) rfl rfl rfl (by simp) fun h8 H8=>?_
   have eo:qN s.on=[.complex .f64 (kc s.ax s.sx) (kc s.ay s.sy),.complex .f64 (tx s.sx s.sy) (ty s.sx s.sy),.int .i64 (if s.second then s.leg+1 else s.leg),.int .i64 (if s.second then s.leg+1 else s.leg),.bool (!s.second)]:=by rw[rX.on,if_neg e];rfl
   refine fin ?_
   rw[eo];exact H8
theorem GM (n:Nat) (h:Heap) (hn:n<64):ab Tryz.prog Fo #[.int .i64 n] h fun v h'=>v=.complex .f64 (gM n).ax (gM n).ay∧Sp h h' []:=by
 refine DT n ?_
 unfold yI
 refine aj (fun e=>by omega) fun _=>aj (fun e=>by omega) fun _=>?_
 refine(HW h).mono ?_
 rintro v h1 ⟨a,rfl,R1⟩
 refine⟨some a,rfl,?_⟩
 refine az (fun k:Nat=>(k:Int)) (fun k h'=>k≤n∧Sp h h' [an a dB (qN (gM k))]) (fun k=>n-k) 0 rfl ⟨by omega,R1⟩ ?_
 rintro k h2 ⟨hk,H2⟩
 refine cJ (fun e=>?_) (fun e=>?_)
 ·have:k=n:=by omega
  subst this
  exact⟨a,rfl,((gM k).ax,(gM k).ay),(H2.box 0 rfl).cell0 rfl,rfl,.zip H2.ah⟩
 ·refine(KZ a (gM k) h2 (H2.box 0 rfl) (NB k (by omega))).mono ?_
  rintro v h3 ⟨rfl,hb3,hp3⟩
  refine⟨(),rfl,k+1,by rw[Go.Vc.wrap_small _ (by omega) (by omega)];rfl,⟨by omega,H2.pW 0 rfl hp3 hb3⟩,by omega⟩
end Go.Proofs.YtkciobclldnoiaaGreat
namespace Go.Proofs.YtkciobclldnoiaaGreat
open Go Go.Vc Go.Proofs Wl
set_option maxRecDepth 100000
theorem BH {a b:Int} (h1:-4≤a) (h2:a≤4) (h3:-4≤b) (h4:b≤4):dZ.sub (bT a) (bT b)=some (bT (a-b)):=by
 have:=MW (a+4).toNat (by omega) (b+4).toNat (by omega)
 rw[show((a+4).toNat:Int)-4=a by omega,show((b+4).toNat:Int)-4=b by omega,show((a+4).toNat:Int)-((b+4).toNat:Int)=a-b by omega]at this
 exact this
theorem BI {a:Int} (h1:-8≤a) (h2:a≤8):dZ.mul (bT a) (bT a)=some (bT (a*a)):=by
 have:=MX (a+8).toNat (by omega)
 rw[show((a+8).toNat:Int)-8=a by omega]at this
 exact this
theorem Ex (a:Int):((a.natAbs:Nat):Int)*(a.natAbs:Nat)=a*a:=Int.natAbs_mul_self
theorem JG {a b:Int} (h1:-8≤a) (h2:a≤8) (h3:-8≤b) (h4:b≤8):dZ.add (bT (a*a)) (bT (b*b))=some (bT (a*a+b*b)):=by
 have:=MY a.natAbs (by omega) b.natAbs (by omega)
 rw[Ex,Ex]at this
 exact this
def u5 (i j:Nat):Int:=((dE i).x-(dE j).x)*((dE i).x-(dE j).x)+((dE i).y-(dE j).y)*((dE i).y-(dE j).y)
theorem LL {a:Int} (h1:-8≤a) (h2:a≤8):0≤a*a∧a*a≤64:=by
 rw[←Ex,←Int.natCast_mul]
 have:a.natAbs*a.natAbs≤8*8:=Nat.mul_le_mul (by omega) (by omega)
 omega
theorem pc {n:Nat} (h:n<64):(gM n).ax=bT (dE n).x∧(gM n).ay=bT (dE n).y∧-4≤(dE n).x∧(dE n).x≤4∧-4≤(dE n).y∧(dE n).y≤4:=by
 have:=MV n h
 simp only[Bool.and_eq_true,decide_eq_true_eq,beq_iff_eq]at this
 obtain⟨⟨⟨⟨⟨a,b⟩,c⟩,d⟩,e⟩,f⟩:=this
 exact⟨a,b,c,d,e,f⟩
theorem JH {i j:Nat} (hi:i<64) (hj:j<64):0≤u5 i j∧u5 i j≤128:=by
 have a:=pc hi
 have b:=pc hj
 have h1:=LL (a:=(dE i).x-(dE j).x) (by omega) (by omega)
 have h2:=LL (a:=(dE i).y-(dE j).y) (by omega) (by omega)
 unfold u5;omega
theorem K0 (i j:Nat) (h:Heap) (hi:i<64) (hj:j<64):ab Tryz.prog DU #[.complex .f64 (gM i).ax (gM i).ay,.complex .f64 (gM j).ax (gM j).ay] h fun v h'=>v=.float .f64 (bT (u5 i j))∧h'=h:=by
 have a:=pc hi
 have b:=pc hj
 refine Ch ((gM i).ax,(gM i).ay) ((gM j).ax,(gM j).ay) ?_
 unfold wu
 have hx:dZ.sub (gM i).ax (gM j).ax=some (bT ((dE i).x-(dE j).x)):=by rw[a.1,b.1];exact BH (by omega) (by omega) (by omega) (by omega)
 have hy:dZ.sub (gM i).ay (gM j).ay=some (bT ((dE i).y-(dE j).y)):=by rw[a.2.1,b.2.1];exact BH (by omega) (by omega) (by omega) (by omega)
 refine⟨(bT ((dE i).x-(dE j).x),bT ((dE i).y-(dE j).y)),Mc hx hy,_,BI (by omega) (by omega),_,BI (by omega) (by omega),_,JG (by omega) (by omega) (by omega) (by omega),rfl,rfl⟩
abbrev LM:bH C.topU Dx aJ 1 [.int .i64 0] 8:=⟨_,_,rfl,rfl,rfl,rfl,rfl,rfl⟩
def jo (a b:Int):Int:=if a<b then-1 else if a>b then 1 else 0
theorem Ey (m:Nat) (h:Heap) (hm:m<129):ab Tryz.prog rH #[.float .f64 (bT (m:Nat))] h fun v h'=>v=.bool false∧h'=h:=by
 refine qv _ ?_
 unfold lx
 have:=I7 m hm m hm
 rw[show(FloatKind.format .f64).order (bT (m:Nat)) (bT (m:Nat))=some (compare m m)from this,Nat.compare_eq_eq.2 rfl]
 exact⟨rfl,rfl⟩
theorem JI (m n:Nat) (h:Heap) (hm:m<129) (hn:n<129):ab Tryz.prog pL #[.float .f64 (bT (m:Nat)),.float .f64 (bT (n:Nat))] h fun v h'=>v=.int .i64 (jo m n)∧h'=h:=by
 refine oI _ _ ?_
 unfold kn
 refine(Ey m h hm).mono ?_
 rintro v h1 ⟨rfl,rfl⟩
 refine⟨_,rfl,(Ey n h1 hn).mono ?_⟩
 rintro v h2 ⟨rfl,rfl⟩
 refine⟨_,rfl,bt (fun e=>by cases e) fun _=>bt (fun e=>by cases e) fun _=>?_⟩
 have ho:(FloatKind.format .f64).order (bT (m:Nat)) (bT (n:Nat))=some (compare m n):=I7 m hm n hn
 rw[ho]
 rcases Nat.lt_trichotomy m n with h1|h1|h1
 ·rw[Nat.compare_eq_lt.2 h1]
  refine bt (fun _=>⟨by rw[jo,if_pos (by omega)],rfl⟩) (fun e=>by cases e)
 ·subst h1
  rw[Nat.compare_eq_eq.2 rfl]
  refine bt (fun e=>by cases e) fun _=>bt (fun e=>by cases e) fun _=>⟨by rw[jo,if_neg (by omega),if_neg (by omega)],rfl⟩
 ·rw[Nat.compare_eq_gt.2 h1]
  refine bt (fun e=>by cases e) fun _=>bt (fun _=>⟨by rw[jo,if_neg (by omega),if_pos (by omega)],rfl⟩) (fun e=>by cases e)
theorem BJ (m:Int) (h:Heap):ab Tryz.prog oc #[.int .i64 m] h fun v h'=>v=.bool false∧h'=h:=by
 refine mV _ ?_
 unfold kO
 exact⟨by simp,rfl⟩
theorem JJ (m n:Int) (h:Heap):ab Tryz.prog mA #[.int .i64 m,.int .i64 n] h fun v h'=>v=.int .i64 (jo m n)∧h'=h:=by
 refine lr _ _ ?_
 unfold jK
 refine(BJ m h).mono ?_
 rintro v h1 ⟨rfl,rfl⟩
 refine⟨_,rfl,(BJ n h1).mono ?_⟩
 rintro v h2 ⟨rfl,rfl⟩
 refine⟨_,rfl,bt (fun e=>by cases e) fun _=>bt (fun e=>by cases e) fun _=>?_⟩
 refine aj (fun e=>⟨by rw[jo,if_pos e],rfl⟩) fun e=>aj (fun e2=>⟨by rw[jo,if_neg e,if_pos e2],rfl⟩) fun e2=>⟨by rw[jo,if_neg e,if_neg e2],rfl⟩
def GN (a b:Int):Int:=if a≠0 then a else b
theorem Mq (s:Sl) (a b:Int) (h:Heap) (hs:Rd h s 1 aw [a,b]):ab Tryz.prog Ce #[.slice s.ptr s.len s.cap] h fun v h'=>v=.int .i64 (GN a b)∧h'=h:=by
 refine qo s ?_
 unfold n9
 have hl:s.len=2:=hs.len
 refine az (fun k:Nat=>(k:Int)) (fun k h'=>h'=h∧k≤2∧(1≤k→a=0)∧(2≤k→b=0)) (fun k=>2-k) 0 rfl ⟨rfl,by omega,by omega,by omega⟩ ?_
 rintro k h' ⟨rfl,hk,k1,k2⟩
 refine aj (fun e=>?_) (fun e=>?_)
 ·rcases(show k=0∨k=1 by omega)with rfl|rfl
  ·refine hs.cv 0 rfl (by simp) a rfl ?_
   refine cw (fun e0=>⟨by rw[GN,if_pos e0],rfl⟩) (fun e0=>?_)
   exact⟨1,rfl,⟨rfl,by omega,fun _=>e0,by omega⟩,by omega⟩
  ·refine hs.cv 1 rfl (by simp) b rfl ?_
   have ha:=k1 (by omega)
   refine cw (fun e0=>⟨by rw[GN,if_neg (by simp[ha])],rfl⟩) (fun e0=>?_)
   exact⟨2,rfl,⟨rfl,by omega,fun _=>ha,fun _=>e0⟩,by omega⟩
 ·have ha:=k1 (by omega)
  have hb:=k2 (by omega)
  exact⟨by rw[GN,if_neg (by simp[ha]),hb],rfl⟩
abbrev Fr:=Int×Fin 129
def ou (x:Fr):List Value:=[.int .i64 x.1,.float .f64 (bT ((x.2:Nat):Int))]
def ov (x y:Fr):Int:=GN (jo (x.2:Nat) (y.2:Nat)) (jo x.1 y.1)
theorem Ez (x y:Fr) (h:Heap):ab Tryz.prog iy #[.agg (ou x).toArray,.agg (ou y).toArray] h fun v h'=>v=.int .i64 (ov x y)∧aE (fun b=>b<h.size) h h':=by
 refine vK (x.1,bT ((x.2:Nat):Int)) (y.1,bT ((y.2:Nat):Int)) ?_
 unfold oX
 refine(Sp.refl h).boxed (t:=fN) fun a h1 H1=>?_
 refine H1.boxed (t:=fN) fun b h2 H2=>?_
 refine⟨_,(H2.box 0 rfl).cell (j:=1) rfl,_,(H2.box 1 rfl).cell (j:=1) rfl,_,(H2.box 0 rfl).cell0 rfl,_,(H2.box 1 rfl).cell0 rfl,?_⟩
 refine(JI x.2 y.2 h2 x.2.isLt y.2.isLt).mono ?_
 rintro v h3 ⟨rfl,rfl⟩
 refine⟨_,rfl,⟨(H2.box 1 rfl).cell0 rfl,(H2.box 0 rfl).cell0 rfl,trivial⟩,(JJ _ _ h3).mono ?_⟩
 rintro v h4 ⟨rfl,rfl⟩
 refine⟨_,rfl,trivial,?_⟩
 refine H2.lit ag aw LM rfl [jo (x.2:Nat) (y.2:Nat),jo x.1 y.1] rfl (show 2*1≤2^20 by decide) rfl fun s h5 H5=>⟨trivial,?_⟩
 refine(Mq s _ _ h5 (H5.seq 2 rfl (fun _=>rfl))).mono ?_
 rintro v h6 ⟨rfl,rfl⟩
 exact⟨_,rfl,trivial,rfl,H5.ah⟩
theorem GO {a b:Int}:jo a b<0↔a<b:=by unfold jo;split<;>(try split)<;>omega
theorem BL {a b:Int}:jo a b=0↔a=b:=by unfold jo;split<;>(try split)<;>omega
theorem LN {x y:Fr}:ltOf ov x y=true↔((x.2:Nat):Int)<(y.2:Nat)∨(((x.2:Nat):Int)=(y.2:Nat)∧x.1<y.1):=by
 have h0:ltOf ov x y=true↔ov x y<0:=by simp[ltOf]
 rw[h0,ov,GN]
 by_cases h:jo (x.2:Nat) (y.2:Nat)=0
 ·rw[if_neg (by simp[h]),GO]
  have:=BL.1 h
  constructor
  ·exact fun h2=>.inr ⟨this,h2⟩
  ·rintro(h2|h2)
   ·omega
   ·exact h2.2
 ·rw[if_pos h,GO]
  have hne:((x.2:Nat):Int)≠(y.2:Nat):=fun e=>h (BL.2 e)
  constructor
  ·exact .inl
  ·rintro(h2|h2)
   ·exact h2
   ·exact absurd h2.1 hne
theorem u6 {x y:Fr}:ltOf ov x y=false↔¬(((x.2:Nat):Int)<(y.2:Nat)∨(((x.2:Nat):Int)=(y.2:Nat)∧x.1<y.1)):=by
 rw[←LN];simp
theorem Nj:Sort.SWO (ltOf ov) where
 irrefl x:=u6.2 (by omega)
 trans x y z h1 h2:=by rw[LN]at*;omega
 ntrans x y z h1 h2:=by rw[u6]at*;omega
theorem Nk (x y:Fr) (h1:ltOf ov x y=false) (h2:ltOf ov y x=false):x=y:=by
 rw[u6]at h1 h2
 refine Prod.ext (by omega) (Fin.ext (by omega))
theorem EB {e:TypeId} {s:Sl} {l:List Fr} {h:Heap} (ho:Own h e s 2 ou l) (hsz:l.length<2^40):
  ab Tryz.prog eX #[.slice s.ptr s.len s.cap,.func (.func iy) #[] #[]] h fun v h'=>v=.tuple #[]∧Own h' e s 2 ou (l.mergeSort fun x y=>!(ltOf ov) y x)∧aE (fun b=>¬s.on b) h h':=by
 have hk:∀x:Fr,(ou x).length=2:=fun _=>rfl
 refine BR (P:=Tryz.prog) (id_:=eX) (g:=iy) (enc:=ou) (k:=2) (cf:=ov) hk ?_ ?_ (fun x y h=>Ez x y h) ho hsz
 ·intro blk cap l w hc hH hb hz
  have:=AnyQ.slices_SortFunc_total Tryz.GH 2 Tryz.M0 Tryz.Mg ou (fun _=>rfl) (fun x v hv=>by simp[ou]at hv;rcases hv with rfl|rfl<;>rfl) ov Nj iy #[] blk 0 cap l.toArray w (enters_of Tryz.Mh (by kernel_rfl) rfl) (by simpa using hc) hH hb (by simpa using hz) Nk
  simp at this
  exact this
 ·intro p cap w
  exact AnyF.slices_SortFunc_none Tryz.GH p cap _ w
end Go.Proofs.YtkciobclldnoiaaGreat
namespace Go.Proofs.YtkciobclldnoiaaGreat
open Go Go.Vc Go.Proofs Wl
set_option maxRecDepth 100000
def ow (acc:List Int) (n:Int):List Int:=if 0≤n∧n<64∧acc.contains n=false then acc++[n]else acc
def eT (l:List Int):List Int:=l.foldl ow []
theorem pd (l:List Int) {k:Nat} (hk:k<l.length):eT (l.take (k+1))=ow (eT (l.take k)) l[k]:=by
 rw[eT,aL _ _ hk,List.foldl_append];rfl
theorem EC (l:List Int):∀k,k≤l.length→∀x,x∈eT (l.take k)↔x∈l.take k∧0≤x∧x<64
 |0,_,x=>by simp[eT]
 |k+1,hk,x=>by
  have ih:=EC l k (by omega)
  rw[pd l (by omega),aL _ _ (show k<l.length by omega),ow]
  by_cases h:0≤l[k]∧l[k]<64∧(eT (l.take k)).contains l[k]=false
  ·rw[if_pos h,List.mem_append,List.mem_append,List.mem_singleton,ih x]
   constructor
   ·rintro(h1|rfl)
    ·exact⟨.inl h1.1,h1.2⟩
    ·exact⟨.inr rfl,h.1,h.2.1⟩
   ·rintro⟨h1|h1,h2⟩
    ·exact .inl ⟨h1,h2⟩
    ·exact .inr h1
  ·rw[if_neg h,List.mem_append,List.mem_singleton,ih x]
   constructor
   ·rintro h1;exact⟨.inl h1.1,h1.2⟩
   ·rintro⟨h1|rfl,h2⟩
    ·exact⟨h1,h2⟩
    ·have:(eT (l.take k)).contains l[k]=true:=by
      cases hc:(eT (l.take k)).contains l[k]with
      |true=>rfl
      |false=>exact absurd ⟨h2.1,h2.2,hc⟩ h
     exact(ih _).1 (by simpa using this)
theorem zq (l:List Int):∀k,k≤l.length→(eT (l.take k)).Nodup
 |0,_=>by simp[eT]
 |k+1,hk=>by
  have ih:=zq l k (by omega)
  rw[pd l (by omega),ow]
  split
  ·rename_i h
   rw[List.nodup_append]
   refine⟨ih,by simp,fun a ha b hb=>?_⟩
   rw[List.mem_singleton.1 hb]
   rintro rfl
   have:=h.2.2
   rw[List.contains_eq_mem]at this
   simp[ha]at this
  ·exact ih
theorem K9 (l:List Int) (k:Nat):(eT (l.take k)).length≤k:=by
 induction k with
 |zero=>simp[eT]
 |succ k ih=>
  by_cases hk:k<l.length
  ·rw[pd l hk,ow]
   split
   ·simp;omega
   ·omega
  ·rw[List.take_of_length_le (by omega)]at ih⊢;omega
def rP (c:Nat) (n:Int):Fr:=(n,Fin.ofNat 129 (u5 n.toNat c).toNat)
theorem Nl {c:Nat} {n:Int} (hc:c<64) (h1:0≤n) (h2:n<64):(((rP c n).2:Nat):Int)=u5 n.toNat c:=by
 have:=JH (i:=n.toNat) (j:=c) (by omega) hc
 show(((u5 n.toNat c).toNat%129:Nat):Int)=_
 omega
def mF (c:Nat) (l:List Int):List Int:=(((eT l).map (rP c)).mergeSort fun x y=>!(ltOf ov) y x).map (·.1)
def dV (object block:Int) (l:List Int):List Int:=if 0≤object∧object≤16777215∧0≤block∧block<8 then mF ((8*object+block)%64).toNat l else[]
def l6 (acc:List Int):List Value:=(List.range 64).map fun i:Nat=>.bool (acc.contains (i:Int))
theorem Mr (acc:List Int) {n:Int} (h1:0≤n) (h2:n<64):(l6 acc)[n.toNat]?=some (.bool (acc.contains n)):=by
 rw[l6,List.getElem?_map,List.getElem?_range (by omega),Option.map_some,show((n.toNat:Nat):Int)=n by omega]
theorem La (acc:List Int) {n:Int} (h1:0≤n) (h2:n<64):(l6 acc).set n.toNat (.bool true)=l6 (acc++[n]):=by
 apply List.ext_getElem?
 intro i
 rw[List.getElem?_set,l6,l6,List.getElem?_map,List.getElem?_map,List.length_map,List.length_range]
 by_cases hi:i<64
 ·rw[List.getElem?_range hi,Option.map_some,Option.map_some]
  by_cases h:n.toNat=i
  ·rw[if_pos h,if_pos (by omega),show((i:Nat):Int)=n by omega]
   simp
  ·rw[if_neg h]
   have:(acc++[n]).contains (i:Int)=acc.contains (i:Int):=by
    rw[List.contains_eq_mem,List.contains_eq_mem]
    simp;omega
   rw[this]
 ·rw[if_neg (by omega),List.getElem?_eq_none (by simp;omega)];rfl
abbrev NV:bH C.topU Ad fN 2 [.int .i64 0,.float .f64 0] 16:=⟨_,_,rfl,rfl,rfl,rfl,rfl,rfl⟩
theorem Nn:∀x,∀c∈ou x,c.oneCell'=true:=by
 intro x c hc
 simp[ou]at hc
 rcases hc with rfl|rfl<;>rfl
set_option maxHeartbeats 2000000 in
theorem Gb (object block:Int) (live:Sl) (l:List Int) (h:Heap) (hl:Rd h live 1 aw l) (hsz:l.length≤2^30):
  ab Tryz.prog Aw #[.int .i64 object,.int .i64 block,.slice live.ptr live.len live.cap] h fun v h'=>∃r:Sl,v=.slice r.ptr r.len r.cap∧Sp h h' [ak aJ r 1 aw (dV object block l)]:=by
 have hll:=hl.len
 refine yz object block live ?_
 unfold so
 have no:¬(0≤object∧object≤16777215∧0≤block∧block<8)→∃r:Sl,Value.slice none 0 0=.slice r.ptr r.len r.cap∧Sp h h [ak aJ r 1 aw (dV object block l)]:=fun hn=>by
  rw[dV,if_neg hn];exact⟨⟨none,0,0⟩,rfl,(Sp.refl h).nil aJ 1 aw⟩
 refine aW (aj (fun e=>no (by omega)) fun e1=>aj (fun e=>no (by omega)) fun e2=>aj (fun e=>no (by omega)) fun e3=>aj (fun e=>no (by omega)) fun e4=>?_)
 have hin:0≤object∧object≤16777215∧0≤block∧block<8:=by omega
 rw[dV,if_pos hin]
 rw[Go.Vc.wrap_small (8*object) (by omega) (by omega),Go.Vc.wrap_small (8*object+block) (by omega) (by omega),Int.tmod_eq_emod_of_nonneg (by omega)]
 obtain⟨c,hc⟩:∃c:Nat,(8*object+block)%64=c:=⟨((8*object+block)%64).toNat,by omega⟩
 have hc64:c<64:=by omega
 rw[hc,Int.toNat_natCast]
 refine⟨by decide,(GM c h hc64).mono ?_⟩
 rintro v h2 ⟨rfl,R2⟩
 refine⟨((gM c).ax,(gM c).ay),rfl,?_⟩
 refine R2.alloc ag rfl fun a h3 H3=>?_
 have H3':Sp h h3 [an a uc (l6 []),ak fN ⟨none,0,0⟩ 2 ou []]:=H3.nil fN 2 ou
 refine az (fun t:Sl×Nat=>(t.1,(t.2:Int))) (fun t h'=>t.2≤l.length∧Sp h h' [an a uc (l6 (eT (l.take t.2))),ak fN t.1 2 ou ((eT (l.take t.2)).map (rP c))]) (fun t=>l.length-t.2) (⟨none,0,0⟩,0) rfl ⟨by simp,H3'⟩ ?_
 rintro⟨s,k⟩ h4 ⟨hk,H4⟩
 dsimp only at*
 have hpl:=K9 l k
 refine aj (fun e=>?_) (fun e=>?_)
 ·have hk':k<l.length:=by omega
  have hs:=pd l hk'
  obtain⟨acc,hacc⟩:∃acc,acc=eT (l.take k):=⟨_,rfl⟩
  rw[←hacc]at H4 hpl hs
  refine(Seq.up hl H4.ah).cv k rfl hk' _ rfl ?_
  obtain⟨x,hx⟩:∃x,x=l[k]:=⟨_,rfl⟩
  rw[←hx]at hs⊢
  refine cC (fun t h'=>(t=true↔0≤x∧x<64∧acc.contains x=false)∧h'=h4) ?_ ?_
  ·refine aj (fun x0=>aj (fun x1=>?_) (fun x1=>⟨⟨fun e=>(by cases e),fun hh=>absurd hh.2.1 x1⟩,rfl⟩)) (fun x0=>⟨⟨fun e=>(by cases e),fun hh=>absurd hh.1 x0⟩,rfl⟩)
   refine⟨⟨x0,x1⟩,acc.contains x,?_,?_,rfl⟩
   ·rw[Nat.mul_one];exact(H4.box 0 rfl).cell (Mr acc x0 x1)
   ·cases acc.contains x<;>simp<;>omega
  ·rintro t h5 ⟨ht,rfl⟩
   refine bt (fun e=>?_) (fun e=>?_)
   ·obtain⟨x0,x1,x2⟩:=ht.1 e
    refine⟨⟨x0,x1⟩,?_⟩
    rw[Nat.mul_one]
    refine H4.storeAt ag 0 rfl rfl rfl rfl rfl (by simp[l6];omega) fun h6 H6=>?_
    have H6':Sp h h6 [an a uc (l6 (acc++[x])),ak fN s 2 ou (acc.map (rP c))]:=by
     rw[←La acc x0 x1];exact H6
    obtain⟨n,hn⟩:∃n:Nat,x=n:=⟨x.toNat,by omega⟩
    subst hn
    refine(GM n h6 (by omega)).mono ?_
    rintro v h7 ⟨rfl,R7⟩
    refine⟨((gM n).ax,(gM n).ay),rfl,(K0 n c h7 (by omega) hc64).mono ?_⟩
    rintro v h8 ⟨rfl,rfl⟩
    have H8:=H6'.up R7.ah
    have ev:bT (u5 n c)=bT (((rP c (n:Int)).2:Nat):Int):=by rw[Nl hc64 (by omega) (by omega),Int.toNat_natCast]
    refine⟨_,rfl,?_⟩
    rw[ev]
    refine H8.push ag 1 rfl NV rfl (by decide) (fun _=>rfl) Nn (rP c (n:Int)) rfl (by decide) (by simp;omega) fun s' h9 H9=>?_
    refine⟨(s',k+1),by dsimp only;rw[Go.Vc.wrap_small _ (by omega) (by omega)];rfl,⟨by dsimp only;omega,?_⟩,by dsimp only;omega⟩
    dsimp only
    rw[hs,ow,if_pos ⟨x0,x1,x2⟩,List.map_append]
    exact H9
   ·refine⟨(s,k+1),by dsimp only;rw[Go.Vc.wrap_small _ (by omega) (by omega)];rfl,⟨by dsimp only;omega,?_⟩,by dsimp only;omega⟩
    dsimp only
    rw[hs,ow,if_neg (fun hh=>by rw[ht.2 hh]at e;cases e)]
    exact H4
 have hkl:k=l.length:=by omega
 subst hkl
 rw[List.take_length]at H4 hpl
 refine(EB (H4.own 1 rfl) (by simp;omega)).mono ?_
 rintro v h5 ⟨rfl,ho5,hp5⟩
 have H5:=H4.gW 1 rfl hp5 ho5
 obtain⟨srt,hsrt⟩:∃srt,srt=((eT l).map (rP c)).mergeSort fun x y=>!(ltOf ov) y x:=⟨_,rfl⟩
 have hsl:srt.length=(eT l).length:=by rw[hsrt,List.length_mergeSort,List.length_map]
 have eo:mF c l=srt.map (·.1):=by rw[mF,←hsrt]
 rw[←hsrt]at H5
 have hfl:=(H5.own 1 rfl).len
 rw[eo]
 refine⟨(),rfl,?_⟩
 refine az (fun t:Sl×Nat=>(t.1,(t.2:Int))) (fun t h'=>t.2≤srt.length∧Sp h h' [ak fN s 2 ou srt,ak aJ t.1 1 aw ((srt.take t.2).map (·.1))]) (fun t=>srt.length-t.2) (⟨none,0,0⟩,0) rfl ⟨by simp,(H5.del 0).nil aJ 1 aw⟩ ?_
 rintro⟨o,i⟩ h6 ⟨hi,H6⟩
 dsimp only at*
 refine aj (fun e=>?_) (fun e=>?_)
 ·have hi':i<srt.length:=by omega
  refine(H6.seq 0 rfl (fun _=>rfl)).fB i rfl hi' (srt[i].1,bT ((srt[i].2:Nat):Int)) rfl ?_
  refine H6.alloc ag rfl fun y h7 H7=>?_
  refine H7.storeAll ag 2 rfl rfl [.int .i64 srt[i].1,.float .f64 (bT ((srt[i].2:Nat):Int))] rfl rfl rfl rfl fun h8 H8=>?_
  refine⟨srt[i].1,(H8.box 2 rfl).cell0 rfl,?_⟩
  refine H8.push ag 1 rfl LM rfl (by decide) (fun _=>rfl) iJ srt[i].1 rfl (by decide) (by simp;omega) fun o' h9 H9=>?_
  refine⟨(o',i+1),by dsimp only;rw[Go.Vc.wrap_small _ (by omega) (by omega)];rfl,⟨by dsimp only;omega,?_⟩,by dsimp only;omega⟩
  dsimp only
  rw[aL _ _ hi',List.map_append]
  exact H9.del 2
 ·rw[List.take_of_length_le (by omega)]at H6
  exact⟨o,rfl,H6.take 1 (fun i A hi=>by cases i with|zero=>exact hi|succ i=>simp at hi)⟩
end Go.Proofs.YtkciobclldnoiaaGreat
namespace Go.Proofs.YtkciobclldnoiaaGreat
open Go Go.Vc Go.Proofs Wl
set_option maxRecDepth 100000
theorem Lb (l:List Int) (x:Int):x∈eT l↔x∈l∧0≤x∧x<64:=by
 have:=EC l l.length (Nat.le_refl _) x
 rwa [List.take_length]at this
theorem Ms (l:List Int):(eT l).Nodup:=by
 have:=zq l l.length (Nat.le_refl _)
 rwa [List.take_length]at this
theorem zr (c:Nat) (l:List Int):(mF c l).Perm (eT l):=by
 have h:=(List.mergeSort_perm ((eT l).map (rP c)) fun x y=>!(ltOf ov) y x).map (·.1)
 rw[List.map_map]at h
 have e:((fun x:Fr=>x.1)∘rP c)=id:=rfl
 rw[e,List.map_id]at h
 exact h
theorem BM (c:Nat) (l:List Int) (x:Int):x∈mF c l↔x∈l∧0≤x∧x<64:=by rw[(zr c l).mem_iff,Lb]
theorem Lc (c:Nat) (l:List Int):(mF c l).Nodup:=(zr c l).nodup_iff.2 (Ms l)
def CJ (l:List Int) (i:Nat):Int:=l.getD i 0
def ly (o:List Int) (id:Int):Int:=if o=[]∨id<0 then-1 else CJ o (id%(o.length:Int)).toNat
theorem Mt (s:Sl) (o:List Int) (id:Int) (h:Heap) (hs:Rd h s 1 aw o):ab Tryz.prog Fl #[.slice s.ptr s.len s.cap,.int .i64 id] h fun v h'=>v=.int .i64 (ly o id)∧h'=h:=by
 have hl:=hs.len
 refine DN s id ?_
 unfold yA
 refine aW (cJ (fun e=>⟨by rw[ly,if_pos (.inl (List.eq_nil_of_length_eq_zero (by omega)))],rfl⟩) fun e=>aj (fun e2=>⟨by rw[ly,if_pos (.inr e2)],rfl⟩) fun e2=>?_)
 refine⟨e,?_⟩
 have hne:¬(o=[]∨id<0):=by
  rintro(rfl|h2)
  ·simp at hl;omega
  ·exact e2 h2
 have hem:Int.tmod id ((s.len:Nat):Int)=((id%(o.length:Int)).toNat:Int):=by
  rw[Int.tmod_eq_emod_of_nonneg (by omega),hl]
  have:=Int.emod_nonneg id (show(o.length:Int)≠0 by omega)
  omega
 have hlt:(id%(o.length:Int)).toNat<o.length:=by
  have:=Int.emod_lt_of_pos id (show(0:Int)<o.length by omega)
  omega
 rw[hem]
 refine hs.cv _ rfl hlt _ rfl ⟨?_,rfl⟩
 rw[ly,if_neg hne,CJ,List.getD_eq_getElem?_getD,List.getElem?_eq_getElem hlt];rfl
end Go.Proofs.YtkciobclldnoiaaGreat
namespace Go.Proofs.YtkciobclldnoiaaGreat
open Go Go.Vc Go.Proofs Wl
set_option maxRecDepth 100000
def xB (p:Pm) (seed:Int) (d:Row) (id:Int):List UInt8:=if bZ id then jG p.2.2.toNat (iv p seed d) (ir (cK p).toNat seed id)else[]
def jO (m:aC) (o b seed:Int) (d:Row) (id:Int):di:=⟨o,b,id,m.p,seed,xB m.p seed d id⟩
def zt (m:aC) (o b seed:Int) (d:Row) (order:List Int) (id:Int):Int×List UInt8:=(ly order id,dz (jO m o b seed d id))
def jq (m:aC) (o:Int) (tries:List Int) (bl:List (List UInt8)) (live:List Int) (i:Nat):List (Int×List UInt8):=
 (List.range (m.p.1+m.extra).toNat).map fun id:Nat=>zt m o i (ga o i (tries.getD i 0)) (bl.getD i []) (dV o i live) id
def cF (m:aC) (o:Int) (tries:List Int) (bl:List (List UInt8)) (live:List Int) (n:Nat):List (Int×List UInt8):=(List.range n).flatMap (jq m o tries bl live)
theorem mQ (m:aC) (o:Int) (tries:List Int) (bl:List (List UInt8)) (live:List Int) (n:Nat):cF m o tries bl live (n+1)=cF m o tries bl live n++jq m o tries bl live n:=by
 unfold cF;rw[List.range_succ,List.flatMap_append,List.flatMap_cons,List.flatMap_nil,List.append_nil]
theorem rQ (m:aC) (o:Int) (tries:List Int) (bl:List (List UInt8)) (live:List Int) (i:Nat):(jq m o tries bl live i).length=(m.p.1+m.extra).toNat:=by simp[jq]
theorem ox (m:aC) (o:Int) (tries:List Int) (bl:List (List UInt8)) (live:List Int):∀n,(cF m o tries bl live n).length=n*(m.p.1+m.extra).toNat
 |0=>by simp[cF]
 |n+1=>by rw[mQ,List.length_append,ox m o tries bl live n,rQ,Nat.succ_mul]
theorem wF (o b t:Int):0≤ga o b t∧ga o b t<4294967296:=by unfold ga;omega
section
variable {B:aq} {h0 h:Heap} {As:List HP} {a pw:Addr} {offs:Int} {da:List (Option Addr)} {w:Pow} {ds:aR}
theorem Cx (x:bB) (m:aC) (xe:cN) (e:Wl.cu) (s:Sl) (b:List UInt8) (hS:St B h0 As fun h=>dm h x m∧ma j4 h xe e∧Rd h s 1 aD b) (hsc:s.len≤s.cap) (hz:b9 m) (hp:bO m.p=true) (hx0:0≤m.extra∧m.extra≤16) (hbl:b.length≤2^20)
  (ht:ca m.p e.object (aV m.p b).length=some e.tries) (H:aa B h0 h (aP bc a pw (aF x) offs da w ds::As)):
  ab Tryz.prog pE #[.pointer (some a),Eu xe,.slice s.ptr s.len s.cap] h fun v h'=>∃(r:Sl) (ys:List (Int×Sl)),v=.tuple #[.slice r.ptr r.len r.cap,.bool true]∧
   aa B h0 h' (aP bc a pw (aF x) offs da w ds::dw iQ 2 piv r ys (cF m e.object e.tries (aV m.p b) (bz ds m.drives) (aV m.p b).length)::As):=by
 refine oE (some a) xe s ?_
 unfold ki
 refine H.boxed fun a1 h1 H1=>?_
 have H1:=H1.cA
 have H1:aa B h0 h1 (aP bc a pw (aF x) offs da w ds::an a1 aM (bD xe)::As):=H1.ba 2 [1,0]
 refine(fe x m (hS.at [_,_] H1).1 hz H1).mono ?_
 rintro _ h2 ⟨lv,rfl,R2⟩
 have H2:=(H1.cq R2).ba 3 [1,0,2]
 obtain⟨ok,hb2⟩:=aa.cG H2
 obtain⟨hx2,he2,hs2⟩:=hS.at [_,_,_] H2
 have hpv:(x.2.2.1,x.2.2.2.1,x.2.2.2.2.1)=m.p:=hx2.p
 have hmp:=(bP m.p).1 hp
 obtain⟨s1,s2,s3⟩:=kS hp
 obtain⟨c1,c2,c3⟩:=iI hp b.length
 have hll:(bz ds m.drives).length≤m.drives.length:=List.length_filter_le _ _
 have hdr:=hz.dr
 obtain⟨live,hlive⟩:∃live,live=bz ds m.drives:=⟨_,rfl⟩
 rw[←hlive]at H2 hll⊢
 obtain⟨bl,hbl'⟩:∃bl,bl=aV m.p b:=⟨_,rfl⟩
 have hblen:bl.length≤2^20:=by rw[hbl'];unfold aV;simp;omega
 have hbrow:∀r∈bl,r.length=dH m.p:=by
  rw[hbl'];intro r hr;unfold aV at hr
  obtain⟨i,_,rfl⟩:=List.mem_map.1 hr
  exact BA _ _ _
 refine⟨lv,rfl,a,rfl,(x.2.2.1,x.2.2.2.1,x.2.2.2.2.1),⟨by rw[addr_add];exact hb2.cell rfl,by rw[addr_add];exact hb2.cell rfl,by rw[addr_add];exact hb2.cell rfl,trivial⟩,?_⟩
 rw[hpv]
 refine(FO m.p s b h2 hp hs2 hsc (by omega)).mono ?_
 rintro _ h3 ⟨q,rfl,R3⟩
 rw[←hbl']at R3 ht⊢
 obtain⟨rs,H3⟩:=Go.Proofs.YtkciobclldnoiaaGreat.aa.LK (H2.cq R3) fun _=>rfl
 have H3:=(H3.NN cE 2 piv iQ).cA
 have H3:aa B h0 h3 (aP bc a pw (aF x) offs da w ds::na cE ⟨none,0,0⟩ 2 piv iQ (cF m e.object e.tries bl live 0)::dw (j5 1 aD) 1 cm q rs bl::ak aJ lv 1 aw live::an a1 aM (bD xe)::As):=H3.ba 5 [2,0,1,3,4]
 have hql:=(H3.im 2 rfl).1.len
 have hrl:=(H3.im 2 rfl).2.1
 have htl:=gB ht
 refine⟨q,rfl,?_⟩
 obtain⟨nid,hnid⟩:∃nid:Nat,nid=(m.p.1+m.extra).toNat:=⟨_,rfl⟩
 have hnid32:nid≤32:=by omega
 refine az (fun t:Sl×Nat=>(t.1,(t.2:Int))) (fun t h'=>t.2≤bl.length∧aa B h0 h' (aP bc a pw (aF x) offs da w ds::na cE t.1 2 piv iQ (cF m e.object e.tries bl live t.2)::dw (j5 1 aD) 1 cm q rs bl::ak aJ lv 1 aw live::an a1 aM (bD xe)::As)) (fun t=>bl.length-t.2) (⟨none,0,0⟩,0) rfl ⟨by simp,H3⟩ ?_
 rintro⟨o,i⟩ h4 ⟨hi,H4⟩
 dsimp only at*
 refine aj (fun e1=>?_) (fun e1=>?_)
 ·have hi':i<bl.length:=by omega
  have F4:=H4.im 2 rfl
  have hb4:=H4.box 4 rfl
  obtain⟨hx4,he4,hs4⟩:=hS.at [_,_,_,_,_] H4
  obtain⟨_,hc4⟩:=aa.cG H4
  obtain⟨t,htt,htp⟩:=o9 ht i (by omega)
  have hgt:e.tries.getD i 0=(t:Int):=by rw[List.getD_eq_getElem?_getD,List.getElem?_eq_getElem (by omega)];exact htt
  have hgb:bl.getD i []=bl[i]:=by rw[List.getD_eq_getElem?_getD,List.getElem?_eq_getElem hi'];rfl
  have c1':∀{h':Heap},bN h' a1 aM (bD xe)→cellOf h' (a1.add 1)=some (.int .i64 e.object):=fun{h'} hb=>by rw[←he4.1.2.1];exact hb.cell rfl
  have cp:∀{h':Heap},bN h' a eE (bJ (aF x) pw offs da)→ai h' (a.add 2) 0 [.int .i64 m.p.1,.int .i64 m.p.2.1,.int .i64 m.p.2.2]:=fun{h'} hb=>by
   rw[←hpv]
   exact⟨by rw[addr_add];exact hb.cell rfl,by rw[addr_add];exact hb.cell rfl,by rw[addr_add];exact hb.cell rfl,trivial⟩
  have hF4:=Fix.row F4 hi'
  refine F4.1.cv i rfl (by omega) (rs[i]'(by omega)) rfl ?_
  refine⟨e.object,c1' hb4,xe.2.2.2,hb4.cell rfl,?_⟩
  refine Seq.cv (f:=aw) he4.2 i rfl (by omega) (t:Int) (by rw[htt];rfl) ?_
  refine(rL _ _ _ h4).mono ?_
  rintro _ _ ⟨rfl,rfl⟩
  refine⟨_,rfl,⟨hb4.cell rfl,trivial⟩,a,rfl,m.p,cp hc4,?_⟩
  obtain⟨seed,hseed⟩:∃seed,seed=ga e.object i t:=⟨_,rfl⟩
  have hg:=(uT htp).2.1
  have hfull:kE m.p seed (dJ m.p)=true:=by rw[hseed];exact hg
  obtain⟨K,Hh,w',n,BK⟩:=LC (seed:=seed) (d:=bl[i]) hp hfull (by rw[hbrow _ (List.getElem_mem hi'),s3])
  rw[←hseed]
  refine(Ni BK (rs[i]'(by omega)) _ hF4.1 hF4.2).mono ?_
  rintro _ h6 ⟨bk,mm,rfl,R6⟩
  have H6:=(H4.comp R6).front
  have H6:aa B h0 h6 (aP bc a pw (aF x) offs da w ds::na cE o 2 piv iQ (cF m e.object e.tries bl live i)::dw (j5 1 aD) 1 cm q rs bl::ak aJ lv 1 aw live::an a1 aM (bD xe)::fC aS mm 1 aD (iv m.p seed bl[i])::an bk dR (xA m.p seed mm)::As):=H6.ba 7 [2,3,4,5,6,0,1]
  refine⟨(some bk,0),rfl,cw (fun e2=>absurd rfl e2) fun _=>?_⟩
  have hb6:=H6.box 4 rfl
  refine⟨e.object,c1' hb6,(Gb e.object i lv live h6 (H6.seq 3 rfl fun _=>rfl) (by omega)).mono ?_⟩
  rintro _ h7 ⟨ord,rfl,R7⟩
  have H7:=(H6.cq R7).ba 8 [1,2,3,4,5,6,7,0]
  obtain⟨order,horder⟩:∃order,order=dV e.object i live:=⟨_,rfl⟩
  rw[←horder]at H7
  have hc7:=(aa.cG H7).2
  have hp1:x.2.2.1=m.p.1:=congrArg (·.1) hpv
  refine⟨ord,rfl,a,rfl,x.2.2.1,hc7.cell rfl,a,rfl,x.2.2.2.2.2.1,hc7.cell rfl,?_⟩
  have en:IntKind.wrap .i64 (x.2.2.1+x.2.2.2.2.2.1)=(nid:Int):=by rw[hp1,hx4.extra,Go.Vc.wrap_small _ (by omega) (by omega)];omega
  rw[en]
  have hblk:jq m e.object e.tries bl live i=(List.range nid).map fun id:Nat=>zt m e.object i seed bl[i] order id:=by
   unfold jq;rw[hgt,hgb,←hseed,←horder,←hnid]
  have hBl:(jq m e.object e.tries bl live i).length=nid:=by rw[rQ,←hnid]
  obtain⟨pcs,hpcs⟩:∃pcs,pcs=cF m e.object e.tries bl live i:=⟨_,rfl⟩
  have hpl:pcs.length≤2^26:=by
   rw[hpcs,ox,←hnid]
   have:=Nat.mul_le_mul (show i≤2^20 by omega) hnid32
   omega
  obtain⟨Q,hQ⟩:∃Q,Q=jq m e.object e.tries bl live i:=⟨_,rfl⟩
  rw[←hQ]at hblk hBl
  rw[←hpcs]at H7
  refine az (fun t:Sl×Nat=>(t.1,(t.2:Int))) (fun t h'=>t.2≤nid∧aa B h0 h' (aP bc a pw (aF x) offs da w ds::na cE t.1 2 piv iQ (pcs++Q.take t.2)::dw (j5 1 aD) 1 cm q rs bl::ak aJ lv 1 aw live::an a1 aM (bD xe)::fC aS mm 1 aD (iv m.p seed bl[i])::an bk dR (xA m.p seed mm)::ak aJ ord 1 aw order::As)) (fun t=>nid-t.2) (o,0) rfl ⟨by simp,by simpa using H7⟩ ?_
  rintro⟨o2,id⟩ h8 ⟨hid,H8⟩
  dsimp only at*
  refine aj (fun e3=>?_) fun e3=>?_
  ·have hid':id<nid:=by omega
   have hb8:=H8.box 4 rfl
   have hc8:=(aa.cG H8).2
   have hblkA:AS h8 bk m.p seed (iv m.p seed bl[i]):=⟨mm,H8.box 6 rfl,H8.xQ 5 rfl⟩
   have hsym:xB m.p seed bl[i] id=if bZ id then jG w' (iv m.p seed bl[i]) (ir n seed id)else[]:=by
    unfold xB;rw[BK.vz,show m.p.2.2.toNat=w' by have:=BK.s;omega]
   have held:∀{h':Heap},aE (fun b=>b<h8.size) h8 h'→au.ok [((a.add 2),.int .i64 m.p.1),((a.add 2).add 1,.int .i64 m.p.2.1),((a.add 2).add 2,.int .i64 m.p.2.2),(a1.add 1,.int .i64 e.object)] h':=fun{h'} hp=>by
    obtain⟨q1,q2,q3,_⟩:=cp (hc8.ah hp hc8.lt)
    exact⟨q1,q2,q3,c1' (hb8.ah hp hb8.lt),trivial⟩
   refine cC (fun(adr:Addr) h'=>∃r:Sl,aa B h0 h' (an adr aI (bs (e.object,(i:Int),(id:Int),m.p.1,m.p.2.1,m.p.2.2,seed,r))::ak aB r 1 aD (xB m.p seed bl[i] id)::aP bc a pw (aF x) offs da w ds::na cE o2 2 piv iQ (pcs++Q.take id)::dw (j5 1 aD) 1 cm q rs bl::ak aJ lv 1 aw live::an a1 aM (bD xe)::fC aS mm 1 aD (iv m.p seed bl[i])::an bk dR (xA m.p seed mm)::ak aJ ord 1 aw order::As)) ?_ ?_
   ·refine⟨e.object,c1' hb8,a,rfl,m.p,cp hc8,?_,?_⟩
    ·refine(BK.symbol bk id h8 hblkA).mono ?_
     rintro _ h9 ⟨r,rfl,R9⟩
     rw[←hsym]at R9
     have H9:=H8.cq R9
     refine⟨r,rfl,held R9.ah,H9.C6 ag rfl fun a28 h10 P10 H10=>⟨held (aa.up R9 P10).ah,?_⟩⟩
     have H10:=H10.cA
     refine H10.storeAll ag 0 rfl rfl (bs (e.object,(i:Int),(id:Int),m.p.1,m.p.2.1,m.p.2.2,seed,r)) rfl rfl rfl rfl fun h11 H11=>⟨trivial,r,H11⟩
    ·refine H8.C6 ag rfl fun a29 h12 P12 H12=>⟨held P12,?_⟩
     have H12:=H12.cA
     refine(BK.symbol bk id h12 (hblkA.up P12)).mono ?_
     rintro _ h13 ⟨r,rfl,R13⟩
     rw[←hsym]at R13
     have H13:=(H12.cq R13).ba 2 [1,0]
     refine⟨r,rfl,held (aa.up (Sp.zip P12) R13.ah).ah,?_⟩
     refine H13.storeAll ag 0 rfl rfl (bs (e.object,(i:Int),(id:Int),m.p.1,m.p.2.1,m.p.2.2,seed,r)) rfl rfl rfl rfl fun h14 H14=>⟨trivial,r,H14⟩
   ·rintro adr h15 ⟨r,H15⟩
    have hb15:=H15.box 0 rfl
    have hsr:=wF e.object i t
    rw[←hseed]at hsr
    refine⟨(e.object,(i:Int),(id:Int),m.p.1,m.p.2.1,m.p.2.2,seed,r),hb15.aH _ rfl,(Mt ord order id h15 (H15.seq 9 rfl fun _=>rfl)).mono ?_⟩
    rintro _ h16 ⟨rfl,rfl⟩
    refine⟨_,rfl,⟨hb15.cell0 rfl,hb15.cell rfl,hb15.cell rfl,hb15.cell rfl,hb15.cell rfl,hb15.cell rfl,hb15.cell rfl,hb15.cell rfl,trivial⟩,?_⟩
    refine(pM (e.object,(i:Int),(id:Int),m.p.1,m.p.2.1,m.p.2.2,seed,r) (jO m e.object i seed bl[i] id) h16 ⟨⟨rfl,rfl,rfl,rfl,rfl,hsr.1,hsr.2⟩,H15.seq 1 rfl fun _=>rfl⟩).mono ?_
    rintro _ h17 ⟨u,rfl,R17⟩
    have H17:=(H15.cq R17).il 0 rfl (D:=EA iQ (ly order id,u) (zt m e.object i seed bl[i] order id)) fun z hz=>⟨rfl,hz.1.seq (fun _=>rfl) hz.2⟩
    have hQid:Q[id]'(by omega)=zt m e.object i seed bl[i] order id:=by simp[hblk]
    refine⟨u,rfl,trivial,?_⟩
    refine H17.pX ag piv Eg rfl [(ly order id,u)] rfl (show 1*2≤2^20 by decide) rfl trivial ?_
    refine aa.Nx ag H17 4 0 (by decide) (a:=(ly order id,u)) rfl rfl Eg rfl (by decide) (fun _=>rfl) GK (parts:=#[(0,.agg #[.int .i64 (ly order id),.slice u.ptr u.len u.cap])]) (by kernel_rfl) (by decide) (by simp;omega) fun o3 h19 H19=>⟨trivial,?_⟩
    refine⟨(o3,id+1),by dsimp only;rw[Go.Vc.wrap_small _ (by omega) (by omega)];rfl,⟨by dsimp only;omega,?_⟩,by dsimp only;omega⟩
    dsimp only
    rw[aL Q id (by omega),hQid,←List.append_assoc]
    exact H19.rest.rest.rest
  ·have hin:id=nid:=by omega
   subst hin
   rw[List.take_of_length_le (by omega)]at H8
   refine⟨(o2,i+1),by dsimp only;rw[Go.Vc.wrap_small _ (by omega) (by omega)];rfl,⟨by dsimp only;omega,?_⟩,by dsimp only;omega⟩
   dsimp only
   rw[mQ,←hpcs,←hQ]
   exact H8.ba 8 [0,1,2,3,4]
 ·have hin:i=bl.length:=by omega
  subst hin
  obtain⟨ys,H5⟩:=H4.NO 1 rfl fun _=>rfl
  exact⟨o,ys,rfl,H5.ba 5 [0,1]⟩
end
end Go.Proofs.YtkciobclldnoiaaGreat
namespace Wl
open Go
def gT (pages:Nat) (l:List (Int×List UInt8)) (k:Int):Int:=(pages:Int)+(l.filter fun y=>decide (y.1=k)).length
end Wl
namespace Go.Proofs.YtkciobclldnoiaaGreat
open Go Go.Vc Go.Proofs Wl
set_option maxRecDepth 100000
theorem JK (k:Int) (a30 a15:Addr) (pages:Nat) (r:Sl) (ys:List (Int×Sl)) (l:List (Int×List UInt8)) (h:Heap) (hpg:pages≤2^30) (hl:l.length≤2^30) (b30:bN h a30 aJ [.int .i64 pages]) (b15:bN h a15 dA [.slice r.ptr r.len r.cap]) (hf:mb iQ 2 piv h r ys l):
  ab Tryz.prog fI #[.int .i64 k,.pointer (some a30),.pointer (some a15)] h fun v h'=>v=.int .i64 (gT pages l k)∧Sp h h' []:=by
 refine qi k a30 a15 ?_
 unfold lp
 have hrl:=hf.1.len
 have hyl:=hf.2.1
 refine⟨(pages:Int),b30.cell0 rfl,r,b15.cell0 rfl,?_⟩
 refine az (fun i:Nat=>(gT pages (l.take i) k,(i:Int))) (fun i h'=>i≤l.length∧Sp h h' []) (fun i=>l.length-i) 0 (by simp[gT]) ⟨by omega,Sp.refl h⟩ ?_
 rintro i h1 ⟨hi,H1⟩
 dsimp only
 have hcnt:(((l.take i).filter fun y=>decide (y.1=k)).length:Int)≤i:=by
  have:=List.length_filter_le (fun y:Int×List UInt8=>decide (y.1=k)) (l.take i)
  simp at this;omega
 refine aj (fun e=>?_) fun e=>?_
 ·have hi':i<l.length:=by omega
  have hf1:=mb.up hf H1.ah
  refine hf1.1.fB (g:=piv) i rfl (by omega) (ys[i]'(by omega)) rfl ?_
  refine H1.alloc ag rfl fun a6 h2 H2=>?_
  refine H2.storeAll ag 0 rfl rfl (piv (ys[i]'(by omega))) rfl rfl rfl rfl fun h3 H3=>?_
  have H3:Sp h h3 [an a6 cE (piv (ys[i]'(by omega)))]:=H3
  have hrow:=Fix.row hf1 hi'
  have hsnoc:gT pages (l.take (i+1)) k=gT pages (l.take i) k+(if l[i].1=k then 1 else 0):=by
   unfold gT
   rw[aL _ _ hi',List.filter_append,List.length_append,List.filter_cons,List.filter_nil]
   split
   ·rename_i hd;rw[if_pos (of_decide_eq_true hd)];simp;omega
   ·rename_i hd;rw[if_neg (by simpa using hd)];simp
  refine⟨l[i].1,by rw[←hrow.1];exact(H3.box 0 rfl).cell0 rfl,cJ (fun g=>?_) fun g=>?_⟩
  ·refine⟨i+1,?_,⟨by omega,.zip H3.ah⟩,by omega⟩
   rw[hsnoc,if_pos g,Go.Vc.wrap_small (gT pages (l.take i) k+1) (by unfold gT;omega) (by unfold gT;omega),Go.Vc.wrap_small _ (by omega) (by omega)];rfl
  ·refine⟨i+1,?_,⟨by omega,.zip H3.ah⟩,by omega⟩
   rw[hsnoc,if_neg g,Int.add_zero,Go.Vc.wrap_small _ (by omega) (by omega)];rfl
 ·rw[List.take_of_length_le (by omega)]
  exact⟨rfl,H1⟩
def fM (m:aC) (offs:Int) (w:Pow) (ds:aR) (name:ByteArray) (b:List UInt8):Int×aC×Pow×aR:=
 if cV m (eP w offs) ds name b.length≠0 then(cV m (eP w offs) ds name b.length,m,w,ds)else
 match ca m.p m.next (aV m.p b).length with
 |none=>(8,m,w,ds)
 |some t=>
  let live:=bz ds m.drives
  let l:=cF m m.next t (aV m.p b) live (aV m.p b).length
  let n:=dY m ⟨name,m.next,b.length,t⟩
  let N:=gT (aZ n).length l
  if cR m ds live N=false then(7,m,w,ds)else
  if(makes m N live w ds).1≠0 then((makes m N live w ds).1,m,(makes m N live w ds).2)else
  let r2:=layAll l (makes m N live w ds).2.1 (makes m N live w ds).2.2
  if r2.1≠0 then(r2.1,m,r2.2)else
  ((layAll (bh n live) r2.2.1 r2.2.2).1,if(layAll (bh n live) r2.2.1 r2.2.2).1=0 then n else m,(layAll (bh n live) r2.2.1 r2.2.2).2)
end Go.Proofs.YtkciobclldnoiaaGreat
namespace Go.Proofs.YtkciobclldnoiaaGreat
open Go Go.Vc Go.Proofs Wl
set_option maxRecDepth 100000
theorem oy {m:aC} {d:Bool} {ds:aR} {name:ByteArray} {n:Nat} (h:cV m d ds name n=0):
  d=false∧gq name=true∧m.aG.any (kU name)=false∧¬(m.p.1*m.p.2.2*8<(n:Int)∨12≤m.aG.length)∧¬(bz ds m.drives=[]∨16777215<m.next∨2147483647≤m.seq):=by
 unfold cV at h
 split at h
 ·cases h
 ·rename_i h1
  split at h
  ·cases h
  ·rename_i h2
   split at h
   ·cases h
   ·rename_i h3
    split at h
    ·cases h
    ·rename_i h4
     split at h
     ·cases h
     ·rename_i h5
      exact⟨by simpa using h1,by simpa using h2,by simpa using h3,h4,h5⟩
theorem GP {m:aC} {b:List UInt8} (hp:bO m.p=true) (h:¬m.p.1*m.p.2.2*8<(b.length:Int)):(aV m.p b).length≤8:=by
 obtain⟨s1,s2,s3⟩:=kS hp
 obtain⟨c1,c2,c3⟩:=iI hp b.length
 unfold aV
 rw[List.length_map,List.length_range]
 refine Nat.le_of_not_lt fun h8=>?_
 have:=c3 8 (by omega)
 rw[←s3]at h
 omega
theorem No {o:List Int} (ho:o≠[]) (id:Nat):ly o id∈o:=by
 unfold ly CJ
 rw[if_neg (by rintro(h|h);exact ho h;omega)]
 have hl:0<o.length:=by cases o with|nil=>exact absurd rfl ho|cons=>simp
 have hlt:((id:Int)%(o.length:Int)).toNat<o.length:=by
  have:=Int.emod_lt_of_pos (id:Int) (show(0:Int)<o.length by omega)
  have:=Int.emod_nonneg (id:Int) (show(o.length:Int)≠0 by omega)
  omega
 rw[List.getD_eq_getElem?_getD,List.getElem?_eq_getElem hlt]
 exact List.getElem_mem hlt
theorem ED {m:aC} {o:Int} {tries:List Int} {bl:List (List UInt8)} {live:List Int} (ho:0≤o∧o≤16777215) (hl:live≠[]) (hin:∀k∈live,0≤k∧k<64) {n:Nat} (hn:n≤8) {y:Int×List UInt8} (hy:y∈cF m o tries bl live n):y.1∈live∧y.2.length≤64:=by
 unfold cF at hy
 obtain⟨i,hi,hy⟩:=List.mem_flatMap.1 hy
 have hi:=List.mem_range.1 hi
 unfold jq at hy
 obtain⟨id,_,rfl⟩:=List.mem_map.1 hy
 refine⟨?_,?_⟩
 ·show ly _ _∈live
  have hord:dV o i live=mF ((8*o+i)%64).toNat live:=by unfold dV;rw[if_pos (by omega)]
  have hmem:∀a,a∈dV o i live↔a∈live∧0≤a∧a<64:=fun a=>by rw[hord];exact BM _ _ _
  have hne:dV o i live≠[]:=fun h=>by
   cases live with
   |nil=>exact hl rfl
   |cons a l=>
    have:=(hmem a).2 ⟨List.mem_cons_self,hin a List.mem_cons_self⟩
    rw[h]at this;cases this
  exact((hmem _).1 (No hne id)).1
 ·show(dz _).length≤64
  unfold dz
  split
  ·rename_i hm
   refine Nat.le_of_eq (jU (by decide) (by decide) ?_)
   have:=mf hm
   omega
  ·simp
theorem Mu {m:aC} {e:Wl.cu} (hz:b9 m) (ho:m.aG.length≤11) (hn:e.name.size≤2^30) (ht:e.tries.length≤2^30):b9 (dY m e):=by
 refine⟨hz.dr,?_,fun f hf=>?_⟩
 ·show((m.aG++[e]).mergeSort lY).length≤2^30
  rw[List.length_mergeSort];simp;omega
 ·have hf:f∈(m.aG++[e]).mergeSort lY:=hf
  rcases List.mem_append.1 ((List.mergeSort_perm _ _).mem_iff.1 hf)with h|h
  ·exact hz.nm f h
  ·rw[List.mem_singleton.1 h];exact⟨hn,ht⟩
end Go.Proofs.YtkciobclldnoiaaGreat
namespace Go.Proofs.YtkciobclldnoiaaGreat
open Go Go.Vc Go.Proofs Wl
set_option maxRecDepth 100000
section
variable {B:aq} {h0 h:Heap} {As:List HP} {a pw:Addr} {offs:Int} {da:List (Option Addr)} {w:Pow} {ds:aR}
theorem Ld (x:bB) (m:aC) (name:ByteArray) (s:Sl) (b:List UInt8) (hS:St B h0 As fun h=>Rd h s 1 aD b) (hsc:s.len≤s.cap) (hn:name.size≤2^40) (hz:b9 m) (hp:bO m.p=true) (hx0:0≤m.extra∧m.extra≤16) (hin:∀k∈m.drives,0≤k∧k<64) (hdl:m.drives.length≤64) (hsq:0≤m.seq) (hnx:0≤m.next) (hbl:b.length≤2^20)
  (H:aa B h0 h (aP bc a pw (aF x) offs da w ds::bU x m::As)):
  ab Tryz.prog ml #[.pointer (some a),.string name,.slice s.ptr s.len s.cap] h fun v h'=>v=.int .i64 (fM m offs w ds name b).1∧
   ∃y,aa B h0 h' (aP bc a pw (aF y) offs da (fM m offs w ds name b).2.2.1 (fM m offs w ds name b).2.2.2::bU y (fM m offs w ds name b).2.1::As):=by
 refine sI (some a) name s ?_
 unfold mR
 have hsl:=(hS.at [_,_] H).len
 refine(Ew x m name s b.length hsl hn (H.at 1 rfl) hz hp H).mono ?_
 rintro _ h1 ⟨rfl,R1⟩
 have H1:=H.up R1.ah
 refine⟨_,rfl,cw (fun e=>?_) fun e1=>?_⟩
 ·have ep:fM m offs w ds name b=(cV m (eP w offs) ds name b.length,m,w,ds):=by unfold fM;rw[if_pos e]
  rw[ep];exact⟨rfl,x,H1⟩
 obtain⟨z1,z2,z3,z4,z5⟩:=oy e1
 have z4a:¬m.p.1*m.p.2.2*8<(b.length:Int):=fun h=>z4 (.inl h)
 have z4b:m.aG.length≤11:=by have:¬12≤m.aG.length:=fun h=>z4 (.inr h);omega
 have z5a:bz ds m.drives≠[]:=fun h=>z5 (.inl h)
 have z5b:m.next≤16777215:=by have:¬16777215<m.next:=fun h=>z5 (.inr (.inl h));omega
 have z5c:m.seq≤2147483646:=by have:¬2147483647≤m.seq:=fun h=>z5 (.inr (.inr h));omega
 have h8:=GP hp z4a
 have hns:name.size≤12:=by unfold gq at z2;simp at z2;omega
 have hc1:=(aa.cG H1).2
 have hx1:dm h1 x m:=H1.at 1 rfl
 refine⟨a,rfl,x.2.1,hc1.cell rfl,H1.alloc ag rfl fun a4 h2 H2=>?_⟩
 have H2:=H2.cA
 refine H2.storeAll ag 0 rfl rfl (bD (name,x.2.1,(s.len:Int),⟨none,0,0⟩)) rfl rfl rfl rfl fun h3 H3=>?_
 have H3:aa B h0 h3 (an a4 aM (bD (name,m.next,(b.length:Int),⟨none,0,0⟩))::aP bc a pw (aF x) offs da w ds::bU x m::As):=by rw[←hx1.next,←hsl];exact H3
 have cp:∀{h':Heap},bN h' a eE (bJ (aF x) pw offs da)→ai h' (a.add 2) 0 [.int .i64 m.p.1,.int .i64 m.p.2.1,.int .i64 m.p.2.2]:=fun{h'} hb=>by
  rw[←hx1.p]
  exact⟨by rw[addr_add];exact hb.cell rfl,by rw[addr_add];exact hb.cell rfl,by rw[addr_add];exact hb.cell rfl,trivial⟩
 obtain⟨nb,hnb⟩:∃nb,nb=(aV m.p b).length:=⟨_,rfl⟩
 have hcnt:countP m.p (s.len:Nat)=(nb:Int):=by
  have:=(iI hp b.length).1
  rw[hnb,hsl];unfold aV;rw[List.length_map,List.length_range];omega
 refine cC (fun(t:Sl×Bool) h'=>(ca m.p m.next nb=none→t.2=false∧aa B h0 h' (aP bc a pw (aF x) offs da w ds::bU x m::As))∧(∀l,ca m.p m.next nb=some l→t.2=true∧aa B h0 h' (ak aJ t.1 1 aw l::an a4 aM (bD (name,m.next,(b.length:Int),⟨none,0,0⟩))::aP bc a pw (aF x) offs da w ds::bU x m::As))) ?_ ?_
 ·have hb3:=H3.box 0 rfl
  have hc3:=(aa.cG (H3.ba 3 [1,0,2])).2
  refine⟨a,rfl,m.p,cp hc3,m.next,hb3.cell rfl,a,rfl,m.p,cp hc3,(rI m.p s.len h3 (by omega)).mono ?_⟩
  rintro _ h4 ⟨rfl,R4⟩
  have H4:=H3.up R4.ah
  have hc4:=hc3.ah R4.ah hc3.lt
  obtain⟨q1,q2,q3,_⟩:=cp hc4
  refine⟨_,rfl,⟨(H4.box 0 rfl).cell rfl,q1,q2,q3,trivial⟩,?_⟩
  rw[hcnt]
  refine(HO m.p m.next nb h4 (by omega)).mono ?_
  rintro _ h5 ⟨T0,T1⟩
  cases ht:ca m.p m.next nb with
  |none=>
   obtain⟨rfl,R5⟩:=T0 ht
   exact⟨(⟨none,0,0⟩,false),rfl,trivial,fun _=>⟨rfl,(H4.up R5.ah).ba 3 [1,2]⟩,fun l h=>by cases h⟩
  |some l=>
   obtain⟨r,rfl,R5⟩:=T1 l ht
   exact⟨(r,true),rfl,trivial,fun h=>(by cases h),fun l' h=>(by injection h with h;subst h;exact⟨rfl,H4.cq R5⟩)⟩
 rintro⟨tr,tb⟩ h6 ⟨T0,T1⟩
 dsimp only at T0 T1⊢
 cases ht:ca m.p m.next nb with
 |none=>
  obtain⟨rfl,H6⟩:=T0 ht
  have ep:fM m offs w ds name b=(8,m,w,ds):=by
   unfold fM;rw[if_neg (by rw[e1];decide),←hnb,ht]
  rw[ep]
  exact aY (fun _=>⟨rfl,x,H6⟩) fun e=>by cases e
 |some t=>
  obtain⟨rfl,H6⟩:=T1 t ht
  refine aY (fun e=>by cases e) fun _=>?_
  have htl:=gB ht
  refine H6.store ag 1 rfl rfl 3 [.slice tr.ptr tr.len tr.cap] rfl rfl rfl (by simp) fun h7 H7=>?_
  obtain⟨e,he⟩:∃e:Wl.cu,e=⟨name,m.next,b.length,t⟩:=⟨_,rfl⟩
  have H7:aa B h0 h7 (ak aJ tr 1 aw e.tries::an a4 aM (bD (name,m.next,(b.length:Int),tr))::aP bc a pw (aF x) offs da w ds::bU x m::As):=by rw[he];exact H7
  have H7:=H7.ba 4 [2,3,0,1]
  have hS7:St B h0 (bU x m::ak aJ tr 1 aw e.tries::an a4 aM (bD (name,m.next,(b.length:Int),tr))::As) fun h=>dm h x m∧ma j4 h (name,m.next,(b.length:Int),tr) e∧Rd h s 1 aD b:=fun Bs h' H'=>
   ⟨(St.eM 0 rfl fun _ hq=>hq) Bs h' H',(St.eM (A:=ak aJ tr 1 aw e.tries) (Q:=fun h=>ma j4 h (name,m.next,(b.length:Int),tr) e) 1 rfl fun h' hq=>⟨by rw[he];exact⟨rfl,rfl,rfl⟩,hq.1.seq (fun _=>rfl) hq.2⟩) Bs h' H',(hS.cons.cons.cons) Bs h' H'⟩
  refine⟨(name,m.next,(b.length:Int),tr),(H7.box 3 rfl).aH _ rfl,?_⟩
  refine(Cx x m (name,m.next,(b.length:Int),tr) e s b hS7 hsc hz hp hx0 hbl (by rw[he,←hnb];exact ht) H7).mono ?_
  rintro _ h8' ⟨r,ys,rfl,H8⟩
  obtain⟨live,hlive⟩:∃live,live=bz ds m.drives:=⟨_,rfl⟩
  obtain⟨l,hl⟩:∃l,l=cF m m.next t (aV m.p b) live nb:=⟨_,rfl⟩
  have hl':cF m e.object e.tries (aV m.p b) (bz ds m.drives) (aV m.p b).length=l:=by rw[hl,he,←hlive,←hnb]
  rw[hl']at H8
  refine⟨(r,true),rfl,H8.alloc ag rfl fun a15 h9 H9=>?_⟩
  have H9:=H9.cA
  refine H9.storeAll ag 0 rfl rfl [.slice r.ptr r.len r.cap] rfl rfl rfl rfl fun h10 H10=>?_
  refine aY (fun e=>by cases e) fun _=>?_
  obtain⟨n,hnd⟩:∃n,n=dY m e:=⟨_,rfl⟩
  have H10:aa B h0 h10 (an a15 dA [.slice r.ptr r.len r.cap]::aP bc a pw (aF x) offs da w ds::dw iQ 2 piv r ys l::bU x m::ak aJ tr 1 aw e.tries::an a4 aM (bD (name,m.next,(b.length:Int),tr))::As):=H10
  have H10:aa B h0 h10 (pr tr 1 aw e.tries::aP bc a pw (aF x) offs da w ds::bU x m::dw iQ 2 piv r ys l::an a15 dA [.slice r.ptr r.len r.cap]::an a4 aM (bD (name,m.next,(b.length:Int),tr))::As):=(H10.freeze 4 rfl fun _=>rfl).ba 6 [4,1,3,2,0,5]
  have hxe:((name,m.next,(b.length:Int),tr):cN).1=e.name∧((name,m.next,(b.length:Int),tr):cN).2.1=e.object∧((name,m.next,(b.length:Int),tr):cN).2.2.1=e.length:=by rw[he];exact⟨rfl,rfl,rfl⟩
  have hwith:∀{h':Heap} {Cs:List HP},aa B h0 h' (pr tr 1 aw e.tries::Cs)→dm h' x m→ab Tryz.prog sh #[dF x,Eu (name,m.next,(b.length:Int),tr)] h' fun v h''=>∃y:bB,v=dF y∧aa B h0 h'' (bU y n::Cs):=fun{h' Cs} H' hx'=>by
   rw[hnd];exact JD x m _ e hx' hz ⟨hsq,by omega⟩ ⟨hnx,by omega⟩ z4b hxe H'
  have hc10:=(aa.cG (H10.ba 2 [1,0])).2
  have hb10:=H10.box 5 rfl
  have hx10:dm h10 x m:=H10.at 2 rfl
  refine cC (fun(t:Addr×Sl) h'=>∃y,aa B h0 h' (aP bc a pw (aF x) offs da w ds::bU x m::dw iQ 2 piv r ys l::an a15 dA [.slice r.ptr r.len r.cap]::an t.1 ao (aF y)::bU y n::ak aJ t.2 1 aw live::As)) ?_ ?_
  ·refine⟨a,rfl,x,hc10.aH _ rfl,(name,m.next,(b.length:Int),tr),hb10.aH _ rfl,?_,?_⟩
   ·refine(hwith H10 hx10).mono ?_
    rintro _ h11 ⟨y,rfl,H11⟩
    have H11:=H11.ba 6 [1,2,3,4,0]
    refine⟨y,rfl,trivial,?_,?_⟩
    ·refine(fe x m (H11.at 1 rfl) hz H11).mono ?_
     rintro _ h12 ⟨lv,rfl,R12⟩
     rw[←hlive]at R12
     have H12:=H11.cq R12
     refine⟨lv,rfl,trivial,H12.alloc ag rfl fun a21 h13 H13=>⟨trivial,?_⟩⟩
     have H13:=H13.cA
     refine H13.storeAll ag 0 rfl rfl (aF y) rfl rfl rfl rfl fun h14 H14=>⟨trivial,y,?_⟩
     exact H14.ba 7 [2,3,4,5,0,6,1]
    ·refine H11.alloc ag rfl fun a22 h15 H15=>⟨trivial,?_⟩
     have H15:=H15.cA
     have H15c:=H15.ba 6 [1,2,3,4,5,0]
     refine(fe x m (H15c.at 1 rfl) hz H15c).mono ?_
     rintro _ h16 ⟨lv,rfl,R16⟩
     rw[←hlive]at R16
     have H16:=(H15.cq R16).ba 2 [1,0]
     refine⟨lv,rfl,trivial,H16.storeAll ag 0 rfl rfl (aF y) rfl rfl rfl rfl fun h17 H17=>⟨trivial,y,?_⟩⟩
     exact H17.ba 7 [2,3,4,5,0,6,1]
   ·refine H10.C6 ag rfl fun a24 h18 P18 H18=>?_
    have hc18:=hc10.ah P18 hc10.lt
    have hb18:=hb10.ah P18 hb10.lt
    refine⟨⟨hb18.cell0 rfl,hb18.cell rfl,hb18.cell rfl,hb18.cell rfl,hc18.cell0 rfl,hc18.cell rfl,hc18.cell rfl,hc18.cell rfl,hc18.cell rfl,hc18.cell rfl,hc18.cell rfl,hc18.cell rfl,trivial⟩,?_⟩
    have H18:=(H18.cA).ba 7 [1,0,2,3,4,5]
    refine(hwith H18 (H18.at 3 rfl)).mono ?_
    rintro _ h19 ⟨y,rfl,H19⟩
    have H19c:=H19.ba 6 [2,3,4,5,0,1]
    refine⟨y,rfl,trivial,(fe x m (H19c.at 1 rfl) hz H19c).mono ?_⟩
    rintro _ h20 ⟨lv,rfl,R20⟩
    rw[←hlive]at R20
    have H20:=(H19c.cq R20).ba 7 [6,0,1,2,3,4,5]
    refine⟨lv,rfl,trivial,H20.storeAll ag 0 rfl rfl (aF y) rfl rfl rfl rfl fun h21 H21=>⟨trivial,y,?_⟩⟩
    exact H21.ba 7 [2,3,4,5,0,6,1]
  rintro⟨am,lv⟩ h22 ⟨y,H22⟩
  dsimp only at H22⊢
  have hzn:b9 n:=by rw[hnd];exact Mu hz z4b (by rw[he];show name.size≤2^30;omega) (by rw[he];show t.length≤2^30;omega)
  have hndl:n.drives=m.drives:=by rw[hnd];rfl
  have hll:live.length≤64:=by rw[hlive];exact Nat.le_trans (List.length_filter_le _ _) hdl
  have hlin:∀k∈live,0≤k∧k<64:=fun k hk=>by rw[hlive]at hk;exact hin k (List.mem_filter.1 hk).1
  have hnid:(m.p.1+m.extra).toNat≤32:=by have:=(bP m.p).1 hp;omega
  have hln:l.length≤256:=by
   rw[hl,ox]
   exact Nat.mul_le_mul (show nb≤8 by omega) hnid
  have hlp:∀z∈l,(0≤z.1∧z.1<64)∧z.2.length≤2^20:=fun z hz'=>by
   rw[hl]at hz'
   obtain⟨p1,p2⟩:=ED (m:=m) ⟨hnx,z5b⟩ (by rw[hlive];exact z5a) hlin (show nb≤8 by omega) hz'
   exact⟨hlin _ p1,Nat.le_trans p2 (by decide)⟩
  refine⟨y,(H22.box 4 rfl).aH _ rfl,(jz y n h22 (H22.at 5 rfl) hzn).mono ?_⟩
  rintro _ h23 ⟨pg,rfl,R23⟩
  have hpgl:=(aa.qZ R23).1
  have hspl:=gy n hzn
  obtain⟨pn,hpn⟩:∃pn,pn=(aZ n).length:=⟨_,rfl⟩
  rw[←hpn]at hpgl hspl
  have H23:=H22.up R23.ah
  refine⟨pg,rfl,H23.alloc ag rfl fun a30 h24 H24=>?_⟩
  have H24:=H24.cA
  refine H24.storeAll ag 0 rfl rfl [.int .i64 (pg.len:Int)] rfl rfl rfl rfl fun h25 H25=>?_
  rw[hpgl]at H25
  have H25:aa B h0 h25 (aP bc a pw (aF x) offs da w ds::bU x m::dw iQ 2 piv r ys l::an a15 dA [.slice r.ptr r.len r.cap]::an am ao (aF y)::bU y n::ak aJ lv 1 aw live::an a30 aJ [.int .i64 (pn:Int)]::As):=H25.ba 8 [1,2,3,4,5,6,7,0]
  obtain⟨N,hN⟩:∃N,N=gT pn l:=⟨_,rfl⟩
  obtain⟨T,hT⟩:∃T,T=bU x m::dw iQ 2 piv r ys l::an a15 dA [.slice r.ptr r.len r.cap]::an am ao (aF y)::bU y n::ak aJ lv 1 aw live::an a30 aJ [.int .i64 (pn:Int)]::As:=⟨_,rfl⟩
  have tX:St B h0 T fun h=>dm h x m:=by rw[hT];exact St.eM 0 rfl fun _ hq=>hq
  have tF:St B h0 T fun h=>mb iQ 2 piv h r ys l:=by rw[hT];exact St.eM 1 rfl fun _ hq=>hq
  have tB:St B h0 T fun h=>bN h a15 dA [.slice r.ptr r.len r.cap]:=by rw[hT];exact St.eM (A:=an a15 dA [.slice r.ptr r.len r.cap]) 2 rfl fun _ hq=>hq.1
  have tM:St B h0 T fun h=>bN h am ao (aF y):=by rw[hT];exact St.eM (A:=an am ao (aF y)) 3 rfl fun _ hq=>hq.1
  have tY:St B h0 T fun h=>dm h y n:=by rw[hT];exact St.eM 4 rfl fun _ hq=>hq
  have tL:St B h0 T fun h=>Rd h lv 1 aw live:=by rw[hT];exact St.eM (A:=ak aJ lv 1 aw live) 5 rfl fun _ hq=>hq.1.seq (fun _=>rfl) hq.2
  have tN:St B h0 T fun h=>bN h a30 aJ [.int .i64 (pn:Int)]:=by rw[hT];exact St.eM (A:=an a30 aJ [.int .i64 (pn:Int)]) 6 rfl fun _ hq=>hq.1
  have tT:St B h0 T fun h=>CI fI #[] #[.pointer (some a30),.pointer (some a15)] N live h:=fun Bs h' H' k hk=>by
   rw[hN]
   exact JK k a30 a15 pn r ys l h' (by omega) (by omega) (tN Bs h' H') (tB Bs h' H') (tF Bs h' H')
  have fin:∀{h':Heap} {z:bB} {w':Pow} {ds':aR},aa B h0 h' (aP bc a pw (aF x) offs da w' ds'::T)→aa B h0 h' (aP bc a pw (aF x) offs da w' ds'::bU x m::As):=fun{h' z w' ds'} H'=>by
   rw[hT]at H'
   exact H'.ba 8 [0,1]
  rw[←hT]at H25
  have ep:fM m offs w ds name b=(if cR m ds live N=false then(7,m,w,ds)else if(makes m N live w ds).1≠0 then((makes m N live w ds).1,m,(makes m N live w ds).2)else
    if(layAll l (makes m N live w ds).2.1 (makes m N live w ds).2.2).1≠0 then((layAll l (makes m N live w ds).2.1 (makes m N live w ds).2.2).1,m,(layAll l (makes m N live w ds).2.1 (makes m N live w ds).2.2).2)else
    ((layAll (bh n live) (layAll l (makes m N live w ds).2.1 (makes m N live w ds).2.2).2.1 (layAll l (makes m N live w ds).2.1 (makes m N live w ds).2.2).2.2).1,if(layAll (bh n live) (layAll l (makes m N live w ds).2.1 (makes m N live w ds).2.2).2.1 (layAll l (makes m N live w ds).2.1 (makes m N live w ds).2.2).2.2).1=0 then n else m,(layAll (bh n live) (layAll l (makes m N live w ds).2.1 (makes m N live w ds).2.2).2.1 (layAll l (makes m N live w ds).2.1 (makes m N live w ds).2.2).2.2).2)):=by
   rw[hN,hpn,hl,hnd,he,hlive]
   unfold fM
   rw[if_neg (by rw[e1];decide),←hnb,ht]
  rw[ep]
  refine(zl fI #[] #[.pointer (some a30),.pointer (some a15)] N x m lv live (by rfl) (fun Bs h' H'=>⟨tX Bs h' H',tT Bs h' H'⟩) hz (tL.at [_] H25) (by omega) hlin H25).mono ?_
  rintro _ h26 ⟨rfl,R26⟩
  have H26:=H25.up R26.ah
  refine⟨_,rfl,aY (fun g=>?_) fun g=>?_⟩
  ·rw[if_pos g];exact⟨rfl,x,fin (z:=x) H26⟩
  rw[if_neg (by rw[g];decide)]
  refine(zm fI #[] #[.pointer (some a30),.pointer (some a15)] N x m lv live (by rfl) (fun Bs h' H'=>⟨tX Bs h' H',tT Bs h' H',tL Bs h' H'⟩) hz (by omega) hlin H26).mono ?_
  rintro _ h27 ⟨rfl,H27⟩
  obtain⟨m1,hm1⟩:∃m1,m1=makes m N live w ds:=⟨_,rfl⟩
  rw[←hm1]at H27⊢
  refine⟨_,rfl,cw (fun g2=>?_) fun g2=>?_⟩
  ·rw[if_pos g2];exact⟨rfl,x,fin (z:=x) H27⟩
  rw[if_neg (by simpa using g2)]
  refine⟨r,(tB.at [_] H27).cell0 rfl,(uR r ys l tF (by omega) hlp H27).mono ?_⟩
  rintro _ h28 ⟨rfl,H28⟩
  obtain⟨r2,hr2⟩:∃r2,r2=layAll l m1.2.1 m1.2.2:=⟨_,rfl⟩
  rw[←hr2]at H28⊢
  refine⟨_,rfl,cw (fun g3=>?_) fun g3=>?_⟩
  ·rw[if_pos g3];exact⟨rfl,x,fin (z:=x) H28⟩
  rw[if_neg (by simpa using g3)]
  refine⟨y,(tM.at [_] H28).aH _ rfl,(zo x y n lv live (fun Bs h' H'=>⟨tY Bs h' H',tL Bs h' H'⟩) hzn (by omega) hlin H28).mono ?_⟩
  rintro _ h29 ⟨rfl,Q1,Q0⟩
  refine⟨_,rfl,rfl,?_⟩
  by_cases g4:(layAll (bh n live) r2.2.1 r2.2.2).1=0
  ·obtain⟨y2,H29⟩:=Q0 g4
   rw[if_pos g4]
   rw[hT]at H29
   exact⟨y2,H29.ba 9 [0,1]⟩
  ·rw[if_neg g4]
   exact⟨x,fin (z:=x) (Q1 g4)⟩
end
end Go.Proofs.YtkciobclldnoiaaGreat
namespace Go.Vc
open Go Wl Go.Proofs.YtkciobclldnoiaaGreat
section
variable {α:Type} {B:aq} {h0 h:Heap} {As:List HP} {k:Nat} {f:α→List Value} {L M:List (Sl×List α)}
end
end Go.Vc
namespace Wl
open Go
end Wl
namespace Go.Proofs.YtkciobclldnoiaaGreat
open Go Go.Vc Go.Proofs Wl
set_option maxRecDepth 100000
section
variable {B:aq} {h0 h:Heap} {As:List HP} {a pw:Addr} {offs:Int} {da:List (Option Addr)} {w:Pow} {ds:aR} {mc:List Value}
end
end Go.Proofs.YtkciobclldnoiaaGreat
namespace Wl
open Go
end Wl
namespace Go.Proofs.YtkciobclldnoiaaGreat
open Go Go.Vc Go.Proofs Wl
set_option maxRecDepth 100000
section
variable {B:aq} {h0 h:Heap} {As:List HP} {a pw:Addr} {offs:Int} {da:List (Option Addr)} {w:Pow} {ds:aR}
end
end Go.Proofs.YtkciobclldnoiaaGreat
namespace Go.Proofs.YtkciobclldnoiaaGreat
open Go Go.Vc Go.Proofs Wl
set_option maxRecDepth 100000
theorem HX (n:Nat) (x:Int) (h:Heap) (hn:n≤2^30):ab Tryz.prog pz #[.int .i64 n,.int .i64 x] h fun v h'=>∃(r:Sl) (l:List UInt8),v=.slice r.ptr r.len r.cap∧l.length=n∧Sp h h' [ak aB r 1 aD l]:=by
 refine oB n x ?_
 unfold kg
 refine az (fun t:Sl×Nat×List UInt8=>(t.1,(t.2.1:Int))) (fun t h'=>t.2.1≤n∧t.2.2.length=t.2.1∧Sp h h' [ak aB t.1 1 aD t.2.2]) (fun t=>n-t.2.1) (⟨none,0,0⟩,0,[]) rfl ⟨by simp,rfl,(Sp.refl h).nil aB 1 aD⟩ ?_
 rintro⟨o,i,l⟩ h1 ⟨hi,hl,H1⟩
 dsimp only at*
 refine aj (fun e=>?_) fun e=>?_
 ·have hi':i<n:=by omega
  refine⟨by decide,Int.tmod_nonneg _ (by omega),?_⟩
  rw[cI]
  generalize b8 (IntKind.wrap .i64 _)=c
  refine H1.push ag 0 rfl gN rfl (by decide) (fun _=>rfl) fx c rfl (by decide) (by omega) fun o' h2 H2=>?_
  refine⟨(o',i+1,l++[c]),by dsimp only;rw[Go.Vc.wrap_small _ (by omega) (by omega)];rfl,⟨by dsimp only;omega,?_,H2⟩,by dsimp only;omega⟩
  simp[hl]
 ·exact⟨o,l,rfl,by omega,H1⟩
end Go.Proofs.YtkciobclldnoiaaGreat
namespace Wl
open Go
def Pow.calm (w:Pow):Prop:=w.off=false∧w.fuse=none
theorem xC:Pow.new.calm:=⟨rfl,rfl⟩
theorem mG {w:Pow} (h:w.calm):w.step=(true,w):=by unfold Pow.step;rw[if_neg (by simp[h.1]),h.2]
theorem wG {w:Pow} (h:w.calm) (ds:aR) (x:Int) (b:List UInt8):(cS w ds x b).2.1=w:=by
 unfold cS
 cases bF ds x with
 |none=>rfl
 |some d=>
  dsimp only
  unfold bn.append
  split
  ·rfl
  ·split
   ·rfl
   ·split
    ·rfl
    ·split
     ·rfl
     ·rw[mG h];rfl
theorem BN {w:Pow} (h:w.calm) (ds:aR) (x:Int):(dQ w ds x).2.1=w:=by
 unfold dQ
 cases bF ds x with
 |none=>rfl
 |some d=>
  dsimp only
  unfold bn.sync
  split
  ·rfl
  ·rw[mG h];rfl
theorem kV {w:Pow} (h:w.calm):∀(l:List (Int×List UInt8)) (ds:aR),(gX l w ds).2.1=w
 |[],_=>rfl
 |x::l,ds=>by
  rw[nL,wG h]
  split
  ·exact kV h l _
  ·exact wG h _ _ _
theorem zu {w:Pow} (h:w.calm):∀(l:List Int) (ds:aR),(gP l w ds).2.1=w
 |[],_=>rfl
 |x::l,ds=>by
  rw[q0,BN h]
  split
  ·exact zu h l _
  ·exact BN h _ _
theorem Le {w:Pow} (h:w.calm) (l:List (Int×List UInt8)) (ds:aR):(layAll l w ds).2.1=w:=by
 unfold layAll
 dsimp only
 rw[kV h]
 split
 ·exact zu h _ _
 ·exact kV h _ _
theorem Gc {w:Pow} {d:bn} {n:Nat} {b:List UInt8} (h:w.calm) (h1:d.lost=false) (h2:d.l.length+(n+1)≤d.room) (hb:b.length=64):d.append w b=(0,w,{d with l:=d.l++[b],wait:=d.wait+1,laid:=[],has:=false}):=by
 unfold bn.append
 rw[if_neg (by omega),if_neg (by simp[h1]),if_neg (by omega),if_neg (by simp[h.1]),mG h];rfl
theorem JL {w:Pow} {d:bn} (h:w.calm) (h1:d.lost=false):d.sync w=(0,w,{d with wait:=0,laid:=[],has:=false}):=by
 unfold bn.sync
 rw[if_neg (by simp[h1]),mG h];rfl
theorem Np {ds:aR} {s:Int} {d:bn} (h:bF ds s=some d):0≤s∧s<64:=by
 obtain⟨n,rfl,hn⟩:=ik h
 omega
def zw (ds:aR) (P:List (Int×List UInt8)) (s:Int):Option bn:=
 (bF ds s).map fun d=>{d with l:=d.l++(P.filter (fun x=>decide (x.1=s))).map Prod.snd,wait:=d.wait+(P.filter (fun x=>decide (x.1=s))).length,laid:=if(P.filter (fun x=>decide (x.1=s))).isEmpty then d.laid else[],has:=if(P.filter (fun x=>decide (x.1=s))).isEmpty then d.has else false}
theorem u7 {w:Pow} (h:w.calm) {S:List Int}:∀(P:List (Int×List UInt8)) (ds:aR),Fit ds S (P.map Prod.fst)→(∀x∈P,x.1∈S∧x.2.length=64)→
  (gX P w ds).1=0∧Fit (gX P w ds).2.2 S []∧∀s,bF (gX P w ds).2.2 s=zw ds P s
 |[],ds,F,_=>⟨rfl,F,fun s=>by unfold zw;show bF ds s=_;cases bF ds s<;>simp⟩
 |x::P,ds,F,hP=>by
  obtain⟨d,hd,h1,h2⟩:=F.at_ x.1 (hP x (List.mem_cons_self ..)).1
  rw[List.map_cons,List.count_cons_self]at h2
  have hb:=(hP x (List.mem_cons_self ..)).2
  obtain⟨n,hn,hn64⟩:=ik hd
  have hap:=Gc (n:=(P.map Prod.fst).count x.1) h h1 (by omega) hb
  have e:cS w ds x.1 x.2=(0,w,fD ds x.1 {d with l:=d.l++[x.2],wait:=d.wait+1,laid:=[],has:=false}):=by
   unfold cS;rw[hd];dsimp only;rw[hap]
  obtain⟨_,F'⟩:=Cv w x.2 (x:=x.1) (Q:=P.map Prod.fst) F (hP x (List.mem_cons_self ..)).1 hb
  rw[nL,e]
  rw[e]at F'
  dsimp only at F'⊢
  rw[if_pos rfl]
  obtain⟨a1,a2,a3⟩:=u7 h P _ F' fun y hy=>hP y (List.mem_cons_of_mem _ hy)
  refine⟨a1,a2,fun s=>?_⟩
  rw[a3 s]
  unfold zw
  rw[hn,lQ _ _ _ _ hn64 F.len,←hn]
  by_cases hs:s=x.1
  ·rw[if_pos hs,hs,hd]
   simp only[Option.map_some,List.filter_cons,decide_true,if_true,List.map_cons,List.length_cons,List.append_assoc,List.singleton_append,List.isEmpty_cons,Bool.false_eq_true,if_false]
   congr 1
   simp only[bn.mk.injEq,true_and,and_true]
   refine⟨by omega,?_,?_⟩<;>split<;>rfl
  ·rw[if_neg hs]
   simp only[List.filter_cons,decide_eq_true_eq,if_neg (show¬x.1=s from fun hh=>hs hh.symm)]
theorem zx {w:Pow} (h:w.calm) {S:List Int}:∀(l:List Int) (ds:aR),Fit ds S []→(∀x∈l,x∈S)→
  (gP l w ds).1=0∧Fit (gP l w ds).2.2 S []∧∀s,bF (gP l w ds).2.2 s=(bF ds s).map fun d=>if s∈l then{d with wait:=0,laid:=[],has:=false}else d
 |[],ds,F,_=>⟨rfl,F,fun s=>by show bF ds s=_;cases bF ds s<;>simp⟩
 |x::l,ds,F,hl=>by
  obtain⟨d,hd,h1,h2⟩:=F.at_ x (hl x (List.mem_cons_self ..))
  obtain⟨n,hn,hn64⟩:=ik hd
  have e:dQ w ds x=(0,w,fD ds x {d with wait:=0,laid:=[],has:=false}):=by
   unfold dQ;rw[hd];dsimp only;rw[JL h h1]
  obtain⟨_,F'⟩:=FY w F (hl x (List.mem_cons_self ..))
  rw[q0,e]
  rw[e]at F'
  dsimp only at F'⊢
  rw[if_pos rfl]
  obtain⟨a1,a2,a3⟩:=zx h l _ F' fun y hy=>hl y (List.mem_cons_of_mem _ hy)
  refine⟨a1,a2,fun s=>?_⟩
  rw[a3 s,hn,lQ _ _ _ _ hn64 F.len,←hn]
  by_cases hs:s=x
  ·subst hs
   rw[if_pos rfl,hd]
   simp only[Option.map_some,List.mem_cons,true_or,if_true]
   congr 1
   split<;>rfl
  ·rw[if_neg hs]
   cases bF ds s with
   |none=>rfl
   |some d'=>simp[hs]
end Wl
namespace Go.Proofs.YtkciobclldnoiaaGreat
open Go Go.Vc Go.Proofs Wl
set_option maxRecDepth 100000
section
variable {B:aq} {h0 h h':Heap} {As:List HP} {a:Addr} {w:Pow}
end
section
variable {B:aq} {h0 h h':Heap} {As:List HP} {a pw:Addr} {d:bn} {w:Pow}
end
end Go.Proofs.YtkciobclldnoiaaGreat
namespace Go.Proofs.YtkciobclldnoiaaGreat
open Go Go.Vc Go.Proofs Wl
set_option maxRecDepth 100000
section
variable {B:aq} {h0 h h':Heap} {As:List HP}
end
end Go.Proofs.YtkciobclldnoiaaGreat
namespace Go.Proofs.YtkciobclldnoiaaGreat
open Go Go.Vc Go.Proofs Wl
set_option maxRecDepth 100000
end Go.Proofs.YtkciobclldnoiaaGreat
namespace Wl
open Go
end Wl
namespace Go.Proofs.YtkciobclldnoiaaGreat
open Go Go.Vc Go.Proofs Wl
set_option maxRecDepth 100000
end Go.Proofs.YtkciobclldnoiaaGreat
namespace Wl
open Go
end Wl
namespace Go.Proofs.YtkciobclldnoiaaGreat
open Go Go.Vc Go.Proofs Wl
set_option maxRecDepth 100000
end Go.Proofs.YtkciobclldnoiaaGreat
namespace Go.Proofs.YtkciobclldnoiaaGreat
open Go Go.Vc Go.Proofs Wl
set_option maxRecDepth 100000
end Go.Proofs.YtkciobclldnoiaaGreat
namespace Wl
open Go
def Has (ds:aR) (S:List Int):Prop:=ds.length=64∧∀s∈S,∃d,bF ds s=some d
theorem Has.set {ds:aR} {S:List Int} {n:Nat} {d:bn} (F:Has ds S) (hn:n<64):Has (fD ds (n:Int) d) S:=by
 refine⟨by unfold fD;rw[List.length_set];exact F.1,fun s hs=>?_⟩
 rw[lQ _ _ _ _ hn F.1]
 by_cases h:s=(n:Int)
 ·rw[if_pos h];exact⟨_,rfl⟩
 ·rw[if_neg h];exact F.2 s hs
theorem Has.append {ds:aR} {S:List Int} (F:Has ds S) (w:Pow) (x:Int) (b:List UInt8):Has (cS w ds x b).2.2 S:=by
 unfold cS
 cases hd:bF ds x with
 |none=>exact F
 |some d=>
  obtain⟨n,rfl,hn⟩:=ik hd
  exact F.set hn
theorem Has.sync {ds:aR} {S:List Int} (F:Has ds S) (w:Pow) (x:Int):Has (dQ w ds x).2.2 S:=by
 unfold dQ
 cases hd:bF ds x with
 |none=>exact F
 |some d=>
  obtain⟨n,rfl,hn⟩:=ik hd
  exact F.set hn
end Wl
namespace Go.Vc
open Go Wl
end Go.Vc
namespace Go.Proofs.YtkciobclldnoiaaGreat
open Go Go.Vc Go.Proofs Wl
set_option maxRecDepth 100000
section
variable {B:aq} {h0 h h':Heap} {As:List HP} {a pw:Addr} {mc:List Value} {offs:Int} {da:List (Option Addr)} {w:Pow} {ds:aR}
end
end Go.Proofs.YtkciobclldnoiaaGreat
namespace Go.Proofs.YtkciobclldnoiaaGreat
open Go Go.Vc Go.Proofs Wl
set_option maxRecDepth 100000
section
variable {B:aq} {h0 h h':Heap} {As:List HP} {a pw:Addr} {mc:List Value} {offs:Int} {da:List (Option Addr)} {w:Pow} {ds:aR}
end
end Go.Proofs.YtkciobclldnoiaaGreat
namespace Go.Vc
open Go Wl Go.Proofs.YtkciobclldnoiaaGreat
def oz (p:Pm) (extra:Int) (l:List Int):Int:=
 if(dd l).2&&(bO p&&de extra 0 16)then
  if(aU l l.length).any fun i=>decide (l.getD i.toNat 0<((aZ (bL p extra l)).length:Int))then 7 else 0
 else 1
theorem HY (p:Pm) (extra:Int) (w:Pow) (l:List Int):cQ p extra w l=if oz p extra l=0 then layAll (bh (bL p extra l) (aU l l.length)) w (eC l (aU l l.length).length)else(oz p extra l,w,[]):=by
 unfold cQ oz
 by_cases h:((dd l).2&&(bO p&&de extra 0 16))=true
 ·rw[if_pos h,if_pos h]
  by_cases h2:((aU l l.length).any fun i=>decide (l.getD i.toNat 0<((aZ (bL p extra l)).length:Int)))=true
  ·rw[if_pos h2,if_pos h2];rfl
  ·rw[if_neg h2,if_neg h2];rfl
 ·rw[if_neg h,if_neg h];rfl
theorem zy {p:Pm} {extra:Int} {l:List Int} (h:oz p extra l=0):bO p=true∧0≤extra∧extra≤16∧(dd l).2=true∧((aU l l.length).any fun i=>decide (l.getD i.toNat 0<((aZ (bL p extra l)).length:Int)))=false:=by
 unfold oz at h
 by_cases h1:((dd l).2&&(bO p&&de extra 0 16))=true
 ·rw[if_pos h1]at h
  by_cases h2:((aU l l.length).any fun i=>decide (l.getD i.toNat 0<((aZ (bL p extra l)).length:Int)))=true
  ·rw[if_pos h2]at h;cases h
  ·unfold de at h1
   simp only[Bool.and_eq_true,decide_eq_true_eq]at h1
   exact⟨h1.2.1,h1.2.2.1,h1.2.2.2,h1.1,by simpa using h2⟩
 ·rw[if_neg h1]at h;cases h
end Go.Vc
namespace Go.Proofs.YtkciobclldnoiaaGreat
open Go Go.Vc Go.Proofs Wl
set_option maxRecDepth 20000
end Go.Proofs.YtkciobclldnoiaaGreat
namespace Wl
def kW (m:aC) (l:List (List UInt8)):Bool:=bG m&&(aZ m).all fun p=>decide (p∈l)
end Wl
namespace Go.Proofs.YtkciobclldnoiaaGreat
open Go Go.Vc Go.Proofs Wl
set_option maxRecDepth 100000
theorem JM (a:Addr) (e:Sl) (p:List UInt8) (l:Sl) (ll:Cells) (h:Heap) (hb:bN h a aS [.slice e.ptr e.len e.cap]) (he:Rd h e 1 aD p) (hl:eV h l 1 aD ll) (hs:ll.length≤2^30):
  ab Tryz.prog jt #[.slice l.ptr l.len l.cap,.func (.func kI) #[] #[.pointer (some a)]] h fun v h'=>v=.bool (decide (p∈ll))∧h'=h:=by
 refine ji l (kI,#[],#[.pointer (some a)]) ?_
 unfold fy
 refine(j0 l (kI,#[],#[.pointer (some a)]) (R:=fun v h'=>(∃i:Int,v=.int .i64 i∧(decide (i≥0)=decide (p∈ll)))∧h'=h) ?_).mono ?_
 ·unfold gg
  have hll:=hl.len
  refine az (fun i:Nat=>(i:Int)) (fun i h'=>i≤ll.length∧p∉ll.take i∧h'=h) (fun i=>ll.length-i) 0 rfl ⟨by omega,by simp,rfl⟩ ?_
  rintro i h1 ⟨hi,hno,rfl⟩
  refine aj (fun e1=>?_) (fun e1=>?_)
  ·have hi':i<ll.length:=by
    have e':(i:Int)<(l.len:Int):=e1
    omega
   refine hl.get i rfl hi' fun r hr=>fh (by rfl) ?_
   refine(xa r a (R:=fun v h'=>v=.bool (decide (ll[i]=p))∧h'=h1) ?_).mono ?_
   ·unfold qh
    refine⟨e,hb.cell0 rfl,(oh r e ll[i] p h1 hr he).mono ?_⟩
    rintro _ _ ⟨rfl,rfl⟩
    exact⟨_,rfl,rfl,rfl⟩
   ·rintro _ _ ⟨rfl,rfl⟩
    refine⟨_,rfl,aj (fun e2=>⟨⟨i,rfl,?_⟩,rfl⟩) (fun e2=>?_)⟩
    ·rw[decide_eq_true (show(i:Int)≥0 by omega),decide_eq_true (by rw[←e2];exact List.getElem_mem hi')]
    ·refine⟨i+1,by rw[Go.Vc.wrap_small _ (by omega) (by omega)];rfl,⟨by omega,fun hm=>?_,rfl⟩,by omega⟩
     rw[aL _ _ hi']at hm
     rcases List.mem_append.1 hm with hm|hm
     ·exact hno hm
     ·exact e2 (List.mem_singleton.1 hm).symm
  ·have e':¬(i:Int)<(l.len:Int):=e1
   rw[List.take_of_length_le (by omega)]at hno
   exact⟨⟨-1,rfl,by rw[decide_eq_false hno];rfl⟩,rfl⟩
 ·rintro _ h1 ⟨⟨i,rfl,hi⟩,rfl⟩
  exact⟨i,rfl,by rw[hi],rfl⟩
theorem HZ (a pw:Addr) (d:bn) (s b:Sl) (x:bB) (m:aC) (h:Heap) (hb:bN h a bM (eK pw d s b)) (hl:eV h s 1 aD d.l) (ok:dj d) (hx:dm h x m) (hz:b9 m):
  ab Tryz.prog mL #[.pointer (some a),dF x] h fun v h'=>v=.bool (kW m d.l)∧Sp h h' []:=by
 refine Ae (some a) x ?_
 unfold ud
 have hlen:=ok.len;have hroom:=ok.room
 refine(Sp.refl h).boxed fun a1 h1 H1=>?_
 have H1:Sp h h1 [an a1 ao (aF x)]:=H1
 refine⟨x,(H1.box 0 rfl).aH _ rfl,(xt x m h1 (hx.up H1.ah) hz).mono ?_⟩
 rintro _ h2 ⟨rfl,R2⟩
 have H2:Sp h h2 [an a1 ao (aF x)]:=H1.up R2.ah
 refine⟨_,rfl,aY (fun g=>⟨by unfold kW;rw[g];rfl,.zip H2.ah⟩) fun g=>?_⟩
 refine(Ea s b (hb.ah H2.ah hb.lt) (hl.up H2.ah) ok).mono ?_
 rintro _ h3 ⟨r4,rfl,R3⟩
 have H3:Sp h h3 [an a1 ao (aF x),cU r4 d.l]:=H2.comp R3
 refine⟨r4,rfl,x,(H3.box 0 rfl).aH _ rfl,(jz x m h3 (hx.up H3.ah) hz).mono ?_⟩
 rintro _ h4 ⟨r6,rfl,R4⟩
 have H4:Sp h h4 [an a1 ao (aF x),cU r4 d.l,cU r6 (aZ m)]:=H3.comp R4
 have hsl:=gy m hz
 obtain⟨pg,hpg⟩:∃pg,pg=aZ m:=⟨_,rfl⟩
 rw[←hpg]at H4 hsl
 have hr6:=(aa.qZ (H4.ba 3 [2])).1
 refine⟨r6,rfl,?_⟩
 obtain⟨rs,H4⟩:=(H4.cW [2,1]).KK fun _=>rfl
 refine az (fun i:Nat=>(i:Int)) (fun i h'=>i≤pg.length∧((pg.take i).all fun p=>decide (p∈d.l))=true∧Sp h h' [dw (zU 1 aD) 1 cm r6 rs pg,cU r4 d.l]) (fun i=>pg.length-i) 0 rfl ⟨by omega,by simp,H4⟩ ?_
 rintro i h5 ⟨hi,hall,H5⟩
 have hrs:=(H5.im 0 rfl).2.1
 refine aj (fun e=>?_) (fun e=>?_)
 ·have hi':i<pg.length:=by
   have e':(i:Int)<(r6.len:Int):=e
   omega
  refine(H5.im 0 rfl).1.Ke i rfl (by omega) ?_
  obtain⟨r,hr⟩:∃r,r=rs[i]'(by omega):=⟨_,rfl⟩
  rw[←hr]
  refine H5.alloc ag rfl fun a10 h6 H6=>?_
  refine H6.storeAll ag 2 rfl rfl [.slice r.ptr r.len r.cap] rfl rfl rfl rfl fun h7 H7=>?_
  have H7:Sp h h7 [dw (zU 1 aD) 1 cm r6 rs pg,cU r4 d.l,an a10 aS [.slice r.ptr r.len r.cap]]:=H7
  have hrow:Rd h7 r 1 aD pg[i]:=by rw[hr];exact Fix.row (H7.im 0 rfl) hi'
  have hr4:=aa.Gw (H7.ba 2 [1]) fun _=>rfl
  refine(JM a10 r pg[i] r4 d.l h7 (H7.box 2 rfl) hrow hr4 (by omega)).mono ?_
  rintro _ h8 ⟨rfl,rfl⟩
  refine⟨_,rfl,aY (fun g2=>⟨?_,.zip H7.ah⟩) fun g2=>?_⟩
  ·have:kW m d.l=false:=by
    unfold kW
    rw[g,Bool.true_and,←hpg]
    exact List.all_eq_false.2 ⟨pg[i],List.getElem_mem hi',by rw[g2];simp⟩
   rw[this]
  ·refine⟨i+1,by rw[Go.Vc.wrap_small _ (by omega) (by omega)];rfl,⟨by omega,?_,H7.cW [0,1]⟩,by omega⟩
   rw[aL _ _ hi',List.all_append,hall,List.all_cons,List.all_nil,g2];rfl
 ·have:i=pg.length:=by
   have e':¬(i:Int)<(r6.len:Int):=e
   omega
  subst this
  rw[List.take_length]at hall
  exact⟨by unfold kW;rw[g,←hpg,hall];rfl,.zip H5.ah⟩
end Go.Proofs.YtkciobclldnoiaaGreat
namespace Go.Vc
open Go Wl Go.Proofs.YtkciobclldnoiaaGreat
theorem Lf {w:Pow} (h:w.calm) {S:List Int} (P:List (Int×List UInt8)) (ds:aR) (F:Fit ds S (P.map Prod.fst)) (hP:∀x∈P,x.1∈S∧x.2.length=64):
  (layAll P w ds).1=0∧Fit (layAll P w ds).2.2 S []∧∀s,bF (layAll P w ds).2.2 s=(zw ds P s).map fun d=>if s∈dI (P.map Prod.fst)then{d with wait:=0,laid:=[],has:=false}else d:=by
 obtain⟨a1,a2,a3⟩:=u7 h P ds F hP
 have hw:=kV h P ds
 unfold layAll
 dsimp only
 rw[if_pos a1,hw]
 obtain⟨b1,b2,b3⟩:=zx h (S:=S) (dI (P.map Prod.fst)) (gX P w ds).2.2 a2 fun x hx=>by
  unfold dI at hx
  have hx':=(List.mem_filter.1 hx).2
  obtain⟨y,hy,rfl⟩:=List.mem_map.1 (of_decide_eq_true hx')
  exact(hP y hy).1
 exact⟨b1,b2,fun s=>by rw[b3 s,a3 s]⟩
theorem sG (l:List Int) (k:Nat):(aU l k).Pairwise (·<·):=by
 unfold aU
 refine List.Pairwise.filter _ (List.pairwise_map.2 ?_)
 exact(List.pairwise_lt_range (n:=k)).imp fun h=>by omega
theorem Mv {l:List Int} {most:Int} (h1:l.Pairwise (·<·)) (h2:∀x∈l,0≤x∧x≤most):kB l most=true:=by
 unfold kB
 refine mI fun i hi=>?_
 unfold fX de
 have hg:l.getD i 0=l[i]:=by rw[List.getD_eq_getElem?_getD,List.getElem?_eq_getElem hi];rfl
 have:=h2 l[i] (List.getElem_mem hi)
 rw[hg,decide_eq_true this.1,decide_eq_true this.2,Bool.true_and,Bool.true_and]
 by_cases h0:i=0
 ·rw[decide_eq_true h0];rfl
 ·have hg':l.getD (i-1) 0=l[i-1]:=by rw[List.getD_eq_getElem?_getD,List.getElem?_eq_getElem (by omega)];rfl
  rw[hg',decide_eq_true (List.pairwise_iff_getElem.1 h1 (i-1) i (by omega) hi (by omega)),Bool.or_true]
theorem EE {p:Pm} {extra:Int} {l:List Int} (hl:l.length≤64) (e0:oz p extra l=0):bG (bL p extra l)=true:=by
 obtain⟨h1,h2,h3,_⟩:=zy e0
 have hh:gQ (bL p extra l)=true:=by
  unfold gQ de bL
  simp[h1,h2,h3]
 have hr:kB (bL p extra l).drives 63=true:=Mv (sG l l.length) fun x hx=>by
  obtain⟨n,hn,rfl,_⟩:=(om l l.length x).1 hx
  omega
 unfold bG
 rw[hh,hr];rfl
theorem Cy (p:Pm) (extra:Int) (l:List Int) (hl:l.length≤24):(aZ (bL p extra l)).length≤1:=by
 unfold aZ gu
 rw[List.length_map,List.length_range]
 have hp:=kQ l l.length
 have:(gr (bL p extra l)).length≤19+24:=by
  unfold gr
  split
  ·simp only[List.length_append,bE,List.length_cons,List.length_nil,List.length_map,bL,List.flatMap_nil];omega
  ·simp
 omega
end Go.Vc
namespace Wl
open Go
theorem JN {ds:aR} {k:Int} {d:bn} (h:bF ds k=some d):fD ds k d=ds:=by
 unfold bF at h
 split at h
 ·rename_i hk
  unfold fD
  cases hx:ds[k.toNat]? with
  |none=>rw[hx]at h;cases h
  |some o=>
   rw[hx]at h
   have h:o=some d:=h
   subst h
   obtain⟨h1,h2⟩:=List.getElem?_eq_some_iff.1 hx
   rw[←h2,List.set_getElem_self]
 ·cases h
theorem roomy {m:aC} {w:Pow} {N:Int→Int}:∀{live:List Int} {ds:aR},(∀k∈live,∃d,bF ds k=some d∧d.lost=false∧0≤N k∧(d.l.length:Int)+N k≤d.room)→cR m ds live N=true∧makes m N live w ds=(0,w,ds)
 |[],ds,_=>⟨rfl,rfl⟩
 |k::live,ds,h=>by
  obtain⟨d,h1,h2,h3,h4⟩:=h k List.mem_cons_self
  obtain⟨i1,i2⟩:=roomy (m:=m) (w:=w) (N:=N) (live:=live) (ds:=ds) fun k hk=>h k (List.mem_cons_of_mem _ hk)
  have hb:dU d d.l.length (N k)=true:=decide_eq_true (by omega)
  have hf:jC m d (N k)=true:=by unfold jC;rw[h2,hb];rfl
  have hm:du m w ds k (N k)=(0,w,ds):=by
   unfold du
   rw[h1]
   have:eS m w d (N k)=(0,w,d):=by unfold eS;rw[if_neg (by simp[h2]),if_neg (by simp[hf]),if_pos hb]
   dsimp only
   rw[this]
   dsimp only
   rw[JN h1]
  refine⟨?_,?_⟩
  ·unfold cR at i1⊢
   rw[List.all_cons,i1,Bool.and_true]
   unfold jn;rw[h1];exact hf
  ·show(if(du m w ds k (N k)).1=0 then makes m N live (du m w ds k (N k)).2.1 (du m w ds k (N k)).2.2 else du m w ds k (N k))=_
   rw[hm];exact i2
end Wl
namespace Go.Vc
open Go Wl Go.Proofs.YtkciobclldnoiaaGreat
theorem JO (l:List (Int×List UInt8)) (k:Int):(l.map Prod.fst).count k=(l.filter fun y=>decide (y.1=k)).length:=by
 induction l with
 |nil=>rfl
 |cons y l ih=>
  rw[List.map_cons,List.count_cons,ih,List.filter_cons]
  by_cases h:y.1=k
  ·rw[if_pos (decide_eq_true h),if_pos (by simpa using h)];rfl
  ·rw[if_neg (by simpa using h),if_neg (by simpa using h)];rfl
end Go.Vc
namespace Go.Vc
open Go Wl Go.Proofs.YtkciobclldnoiaaGreat
theorem u9 (n:aC) (k:Int):∀{live:List Int},live.Nodup→k∈live→((bh n live).filter fun y=>decide (y.1=k)).map Prod.snd=aZ n
 |[],_,hk=>by cases hk
 |x::live,hnd,hk=>by
  have e:bh n (x::live)=(aZ n).map (fun c=>(x,c))++bh n live:=by unfold bh;rw[List.flatMap_cons]
  obtain⟨hx,hnd'⟩:=List.nodup_cons.1 hnd
  rw[e,List.filter_append,List.map_append]
  by_cases hxk:x=k
  ·subst hxk
   have h1:((aZ n).map (fun c=>(x,c))).filter (fun y=>decide (y.1=x))=(aZ n).map (fun c=>(x,c)):=List.filter_eq_self.2 fun y hy=>by
    obtain⟨c,_,rfl⟩:=List.mem_map.1 hy
    exact decide_eq_true rfl
   have h2:(bh n live).filter (fun y=>decide (y.1=x))=[]:=List.filter_eq_nil_iff.2 fun y hy=>by
    have:=(gK hy).1
    have hne:y.1≠x:=fun h=>hx (h▸this)
    simpa using hne
   rw[h1,h2,List.map_nil,List.append_nil,List.map_map]
   exact List.map_id _
  ·have h1:((aZ n).map (fun c=>(x,c))).filter (fun y=>decide (y.1=k))=[]:=List.filter_eq_nil_iff.2 fun y hy=>by
    obtain⟨c,_,rfl⟩:=List.mem_map.1 hy
    simpa using hxk
   rw[h1,List.map_nil,List.nil_append]
   rcases List.mem_cons.1 hk with h|h
   ·exact absurd h.symm hxk
   ·exact u9 n k hnd' h
end Go.Vc
namespace Go.Proofs.YtkciobclldnoiaaGreat
open Go Go.Vc Go.Proofs Wl
theorem Mw {p:Pm} {seed:Int} {d:Row} {K H w n:Nat} (B:bS p seed d K H w n) (id:Int):xB p seed d id=if bZ id then jG w (iv p seed d) (ir n seed id)else[]:=by
 unfold xB;rw[B.vz,show p.2.2.toNat=w by have:=B.s;omega]
theorem Lg {m:aC} {o i seed:Int} {d:Row} {id:Int} {K H w n:Nat} (B:bS m.p seed d K H w n) (ho:0≤o∧o≤16777215) (hi:0≤i∧i≤7) (hid:0≤id∧id≤65535):gY (jO m o i seed d id)=true:=by
 rw[iu]
 refine⟨ho,hi,hid,B.may,?_⟩
 have hm:bZ id=true:=by unfold bZ;rw[decide_eq_true hid.1,decide_eq_true hid.2];rfl
 show((xB m.p seed d id).length:Int)=m.p.2.2
 rw[Mw B id,if_pos hm,B.MU id,B.s]
theorem Mx {m:aC} {o i seed:Int} {d:Row} {id id':Int} (h:id<id'):Dr (jO m o i seed d id) (jO m o i seed d id'):=by
 unfold Dr rU ri jO
 dsimp only
 exact⟨decide_eq_true (by omega),decide_eq_false (by omega)⟩
theorem Cz {m:aC} {o i i' seed seed':Int} {d d':Row} {id id':Int} (h:i<i'):Dr (jO m o i seed d id) (jO m o i' seed' d' id'):=by
 unfold Dr rU ri jO
 dsimp only
 exact⟨decide_eq_true (by omega),decide_eq_false (by omega)⟩
end Go.Proofs.YtkciobclldnoiaaGreat
namespace Go.Proofs.YtkciobclldnoiaaGreat
open Go Go.Vc Go.Proofs Wl
def ia (m:aC) (o:Int) (tries:List Int) (bl:List (List UInt8)) (live:List Int) (k:Int) (i:Nat):List di:=
 ((List.range (m.p.1+m.extra).toNat).filter fun id=>decide (ly (dV o i live) (id:Nat)=k)).map fun id:Nat=>jO m o i (ga o i (tries.getD i 0)) (bl.getD i []) id
def dn (m:aC) (o:Int) (tries:List Int) (bl:List (List UInt8)) (live:List Int) (k:Int) (n:Nat):List di:=(List.range n).flatMap (ia m o tries bl live k)
theorem va (m:aC) (o:Int) (tries:List Int) (bl:List (List UInt8)) (live:List Int) (k:Int) (n:Nat):dn m o tries bl live k (n+1)=dn m o tries bl live k n++ia m o tries bl live k n:=by
 unfold dn;rw[List.range_succ,List.flatMap_append,List.flatMap_cons,List.flatMap_nil,List.append_nil]
theorem vb (m:aC) (o:Int) (tries:List Int) (bl:List (List UInt8)) (live:List Int) (k:Int) (i:Nat):((jq m o tries bl live i).filter fun y=>decide (y.1=k)).map Prod.snd=(ia m o tries bl live k i).map dz:=by
 unfold jq ia
 rw[List.filter_map,List.map_map,List.map_map]
 rfl
theorem sH (m:aC) (o:Int) (tries:List Int) (bl:List (List UInt8)) (live:List Int) (k:Int):∀n,((cF m o tries bl live n).filter fun y=>decide (y.1=k)).map Prod.snd=(dn m o tries bl live k n).map dz
 |0=>by simp[cF,dn]
 |n+1=>by rw[mQ,va,List.filter_append,List.map_append,List.map_append,sH m o tries bl live k n,vb]
theorem zA {m:aC} {o:Int} {tries:List Int} {bl:List (List UInt8)} {live:List Int} {k:Int} {i:Nat} {r:di} (h:r∈ia m o tries bl live k i):∃id:Nat,r=jO m o i (ga o i (tries.getD i 0)) (bl.getD i []) id∧id<(m.p.1+m.extra).toNat:=by
 unfold ia at h
 obtain⟨id,h1,rfl⟩:=List.mem_map.1 h
 exact⟨id,rfl,List.mem_range.1 (List.mem_filter.1 h1).1⟩
theorem zB {m:aC} {o:Int} {tries:List Int} {bl:List (List UInt8)} {live:List Int} {k:Int} {n:Nat} {r:di} (h:r∈dn m o tries bl live k n):∃(i id:Nat),r=jO m o i (ga o i (tries.getD i 0)) (bl.getD i []) id∧i<n∧id<(m.p.1+m.extra).toNat:=by
 unfold dn at h
 obtain⟨i,hi,h1⟩:=List.mem_flatMap.1 h
 obtain⟨id,h2,h3⟩:=zA h1
 exact⟨i,id,h2,List.mem_range.1 hi,h3⟩
theorem qO (m:aC) (o:Int) (tries:List Int) (bl:List (List UInt8)) (live:List Int) (k:Int):∀n,(dn m o tries bl live k n).Pairwise Dr
 |0=>by simp[dn]
 |n+1=>by
  rw[va]
  refine List.pairwise_append.2 ⟨qO m o tries bl live k n,?_,fun a ha b hb=>?_⟩
  ·unfold ia
   refine List.pairwise_map.2 ((List.Pairwise.filter _ List.pairwise_lt_range).imp fun h=>Mx (by omega))
  ·obtain⟨i,id,rfl,hi,_⟩:=zB ha
   obtain⟨id',rfl,_⟩:=zA hb
   exact Cz (by omega)
end Go.Proofs.YtkciobclldnoiaaGreat
namespace Wl
open Go
def gd (m:aC) (d:bn) (n:Int):bn:=if dU d d.l.length n then d else{d with l:=gS m d.l,wait:=0,laid:=[],has:=false}
theorem Ia {m:aC} {r:di} (h:fb m r=true):gY r=true:=by
 unfold fb at h;simp only[Bool.and_eq_true]at h;exact h.1
theorem Lh {l:List di} {r:di} (h:r∈rk l):r∈l:=by
 unfold rk at h
 obtain⟨i,hi,rfl⟩:=List.mem_map.1 h
 have hi:=List.mem_range.1 (List.mem_filter.1 hi).1
 rw[List.getD_eq_getElem?_getD,List.getElem?_eq_getElem hi]
 exact List.getElem_mem hi
theorem Ib {m:aC} {c:List UInt8} {r:di} (h:eN m c=some r):dW c=some r∧fb m r=true:=by
 unfold eN at h
 cases hc:dW c with
 |none=>rw[hc]at h;cases h
 |some x=>
  rw[hc]at h
  dsimp only at h
  by_cases hx:fb m x=true
  ·rw[if_pos hx]at h;injection h with h;subst h;exact⟨rfl,hx⟩
  ·rw[if_neg hx]at h;cases h
theorem Ic {m:aC} {l:List (List UInt8)} {r:di} (h:r∈gv m l):∃c∈l,dW c=some r∧fb m r=true:=by
 have h:=List.mem_mergeSort.1 (Lh h)
 obtain⟨c,hc,hg⟩:=List.mem_filterMap.1 h
 exact⟨c,hc,Ib hg⟩
theorem Ie (m:aC) (l:List (List UInt8)):∀c∈gS m l,c.length=64:=fun c hc=>by
 rcases List.mem_append.1 hc with h|h
 ·exact rf h
 ·obtain⟨r,hr,rfl⟩:=List.mem_map.1 h
  obtain⟨_,_,_,hm⟩:=Ic hr
  exact Dj (Ia hm)
theorem EF {w:Pow} (hw:w.calm) {d:bn} {l:List (List UInt8)} (hl:∀c∈l,c.length=64) (h1:d.lost=false) (h2:l.length≤d.room):d.rewrite w l=(0,w,{d with l:=l,wait:=0,laid:=[],has:=false}):=by
 unfold bn.rewrite
 have:l.all (fun b=>decide (b.length=64))=true:=List.all_eq_true.2 fun c hc=>decide_eq_true (hl c hc)
 rw[if_neg (by simp[this]),if_neg (by simp[h1]),if_neg (by omega),if_neg (by simp[hw.1]),mG hw];rfl
theorem Ig {w:Pow} (hw:w.calm) {m:aC} {d:bn} {n:Int} (h:jC m d n=true):eS m w d n=(0,w,gd m d n):=by
 have h0:=h
 unfold jC at h
 rw[Bool.and_eq_true,Bool.or_eq_true,Bool.not_eq_true']at h
 obtain⟨h1,h2⟩:=h
 unfold eS gd
 rw[if_neg (by simp[h1]),if_neg (by simp[h0])]
 by_cases hb:dU d d.l.length n=true
 ·rw[if_pos hb,if_pos hb]
 ·rw[if_neg hb,if_neg hb]
  have h3:dU d (gS m d.l).length n=true:=by
   rcases h2 with h2|h2
   ·exact absurd h2 hb
   ·exact h2
  unfold dU at h3
  rw[decide_eq_true_eq]at h3
  exact EF hw (Ie m d.l) h1 (by omega)
theorem EG (m:aC) (ds:aR) (k:Int) (l:List Int) (N:Int→Int):cR m ds (k::l) N=(jn m ds k (N k)&&cR m ds l N):=List.all_cons
theorem pR {m:aC} {ds:aR} {k n:Int} (h:jn m ds k n=true):∃d,bF ds k=some d∧jC m d n=true:=by
 unfold jn at h
 cases hd:bF ds k with
 |none=>rw[hd]at h;cases h
 |some d=>rw[hd]at h;exact⟨d,rfl,h⟩
theorem Li (ds:aR) (k:Int) (d:bn):(fD ds k d).length=ds.length:=by unfold fD;simp
theorem Lj {ds:aR} {k:Int} {d0 d:bn} (h64:ds.length=64) (hk:bF ds k=some d0) (s:Int):bF (fD ds k d) s=if s=k then some d else bF ds s:=by
 obtain⟨n,rfl,hn⟩:=ik hk
 exact lQ ds n d s hn h64
theorem CA {m:aC} {ds ds':aR} {l:List Int} {N:Int→Int} (h:∀k∈l,bF ds k=bF ds' k):cR m ds l N=cR m ds' l N:=by
 unfold cR
 rw[Bool.eq_iff_iff,List.all_eq_true,List.all_eq_true]
 refine forall_congr' fun k=>forall_congr' fun hk=>?_
 unfold jn
 rw[h k hk]
theorem rR {w:Pow} (hw:w.calm) {m:aC} {N:Int→Int}:∀{live:List Int} {ds:aR},live.Nodup→ds.length=64→cR m ds live N=true→
  ∃ds',makes m N live w ds=(0,w,ds')∧ds'.length=64∧∀k,bF ds' k=(bF ds k).map fun d=>if k∈live then gd m d (N k)else d
 |[],ds,_,h64,_=>⟨ds,rfl,h64,fun k=>by cases bF ds k<;>simp⟩
 |k::live,ds,hnd,h64,hf=>by
  rw[EG,Bool.and_eq_true]at hf
  obtain⟨hkl,hnd'⟩:=List.nodup_cons.1 hnd
  obtain⟨d,hd,hfd⟩:=pR hf.1
  have e:du m w ds k (N k)=(0,w,fD ds k (gd m d (N k))):=by
   unfold du;rw[hd];dsimp only;rw[Ig hw hfd]
  have hat:=Lj (d:=gd m d (N k)) h64 hd
  have hf':cR m (fD ds k (gd m d (N k))) live N=true:=by
   rw[←CA (ds:=ds) fun s hs=>?_]
   ·exact hf.2
   ·rw[hat,if_neg (fun hh:s=k=>hkl (hh▸hs))]
  obtain⟨ds',h1,h2,h3⟩:=rR hw hnd' (by rw[Li];exact h64) hf'
  refine⟨ds',?_,h2,fun s=>?_⟩
  ·show(if(du m w ds k (N k)).1=0 then makes m N live (du m w ds k (N k)).2.1 (du m w ds k (N k)).2.2 else du m w ds k (N k))=_
   rw[e]
   exact h1
  ·rw[h3 s,hat]
   by_cases hs:s=k
   ·subst hs
    rw[if_pos rfl,hd]
    simp[hkl]
   ·rw[if_neg hs]
    simp[hs]
theorem zC {m:aC} {d:bn} {n:Int} (h:jC m d n=true):(gd m d n).lost=false∧(gd m d n).room=d.room∧((gd m d n).l.length:Int)+max n 0≤d.room:=by
 unfold jC at h
 rw[Bool.and_eq_true,Bool.or_eq_true,Bool.not_eq_true']at h
 obtain⟨h1,h2⟩:=h
 unfold gd
 by_cases hb:dU d d.l.length n=true
 ·rw[if_pos hb]
  unfold dU at hb
  rw[decide_eq_true_eq]at hb
  exact⟨h1,rfl,by omega⟩
 ·rw[if_neg hb]
  have h3:dU d (gS m d.l).length n=true:=by
   rcases h2 with h2|h2
   ·exact absurd h2 hb
   ·exact h2
  unfold dU at h3
  rw[decide_eq_true_eq]at h3
  exact⟨h1,rfl,by dsimp only;omega⟩
end Wl
namespace Wl
open Go
theorem Gd (b:ByteArray):∀n i r,b.size-i=n→ByteArray.toList.loop b i r=r.reverse++b.data.toList.drop i:=by
 have hs:b.data.toList.length=b.size:=rfl
 intro n
 induction n with
 |zero=>
  intro i r h
  rw[ByteArray.toList.loop,if_neg (by omega),List.drop_eq_nil_of_le (by rw[hs];omega),List.append_nil]
 |succ n ih=>
  intro i r h
  have hi:i<b.size:=by omega
  rw[ByteArray.toList.loop,if_pos hi,ih (i+1) _ (by omega)]
  have hd:b.data.toList.drop i=b.get! i::b.data.toList.drop (i+1):=by
   rw[List.drop_eq_getElem_cons (by rw[hs];exact hi)]
   congr 1
   show _=b.data[i]!
   rw[getElem!_pos b.data i hi,Array.getElem_toList]
  rw[hd,List.reverse_cons,List.append_assoc];rfl
theorem toList_eq (x:ByteArray):x.toList=x.data.toList:=by
 unfold ByteArray.toList;rw[Gd x _ 0 [] rfl];rfl
theorem zD {a b:ByteArray} (h:a.toList=b.toList):a=b:=by
 rw[toList_eq,toList_eq]at h
 cases a;cases b
 congr
 exact Array.toList_inj.1 h
theorem Ge (a:ByteArray):db a a=false:=IV _
theorem JP {a b:ByteArray} (h:fY a b=true) (hn:a≠b):db a b=true:=by
 rcases(yc a b).1 h with h|h
 ·exact h
 ·exact absurd (zD h) hn
theorem JQ {a b:ByteArray} (h:db a b=true):a≠b:=fun e=>by subst e;rw[Ge]at h;cases h
theorem Nq:Ord lY:=⟨fun a b c h1 h2=>tO _ _ _ h1 h2,fun a b=>tQ _ _⟩
theorem Lk {m:aC} {x e:cu}:e∈(dY m x).aG↔e∈m.aG∨e=x:=by
 show e∈(m.aG++[x]).mergeSort lY↔_
 rw[List.mem_mergeSort];simp
end Wl
namespace Go.Proofs.YtkciobclldnoiaaGreat
open Go Go.Vc Go.Proofs Wl
theorem JR {name:ByteArray} {l:List Wl.cu} (h:l.any (kU name)=false):∀e∈l,e.name≠name:=fun e he hn=>by
 have:=List.any_eq_false.1 h e he
 unfold kU at this
 rw[hn]at this
 simp at this
theorem JS {m:aC} {x:Wl.cu} (hm:bG m=true) (hname:gq x.name=true) (hnew:∀e∈m.aG,e.name≠x.name) (hobj:x.object=m.next) (ho:m.aG.length≤11) (hx:m.next≤16777215) (hs:m.seq≤2147483646)
  (hlen:0≤x.length∧x.length≤m.p.1*m.p.2.2*8) (ht:∀t∈x.tries,0≤t∧t≤15) (hc:(x.tries.length:Int)=countP m.p x.length):bG (dY m x)=true:=by
 obtain⟨h1,h2,h3,h4,h5,h6,h7⟩:=(dO m).1 hm
 obtain⟨a1,a2,a3,a4⟩:=(gw m).1 h1
 have hperm:(dY m x).aG.Perm (m.aG++[x]):=List.mergeSort_perm _ _
 have hold:∀e∈m.aG,e.object<m.next:=fun e he=>((lH m e).1 (h5 e he)).2.1.2
 refine(dO _).2 ⟨(gw _).2 ⟨⟨?_,?_⟩,⟨?_,?_⟩,a3,a4⟩,h2,h3,?_,fun e he=>?_,?_,?_⟩
 ·show 1≤m.seq+1;omega
 ·show m.seq+1≤_;omega
 ·show 0≤m.next+1;omega
 ·show m.next+1≤_;omega
 ·rw[hperm.length_eq];simp;omega
 ·rcases Lk.1 he with he|rfl
  ·obtain⟨b1,b2,b3,b4,b5⟩:=(lH m e).1 (h5 e he)
   exact(lH _ e).2 ⟨b1,⟨b2.1,by show _<m.next+1;omega⟩,b3,b4,b5⟩
  ·exact(lH _ _).2 ⟨hname,⟨by omega,by show _<m.next+1;omega⟩,hlen,ht,hc⟩
 ·have hnd:(m.aG++[x]).Pairwise (fun a b:Wl.cu=>a.name≠b.name):=List.pairwise_append.2 ⟨h6.imp fun h=>JQ h,List.pairwise_singleton _ _,fun a ha b hb=>by rw[List.mem_singleton.1 hb];exact hnew a ha⟩
  have hnd':=(hperm.pairwise_iff (R:=fun a b:Wl.cu=>a.name≠b.name) fun{a b} h=>Ne.symm h).2 hnd
  have hso:(dY m x).aG.Pairwise (fun a b=>lY a b=true):=(tJ Nq (m.aG++[x])).1
  exact(hso.and hnd').imp fun h=>JP h.1 h.2
 ·have hnd:(m.aG++[x]).Pairwise (fun a b:Wl.cu=>a.object≠b.object):=List.pairwise_append.2 ⟨h7,List.pairwise_singleton _ _,fun a ha b hb=>by rw[List.mem_singleton.1 hb,hobj];have:=hold a ha;omega⟩
  exact(hperm.pairwise_iff (R:=fun a b:Wl.cu=>a.object≠b.object) fun{a b} h=>Ne.symm h).2 hnd
theorem Gg {p:Pm} {o:Int} {n:Nat} {t:List Int} (h:ca p o n=some t):∀x∈t,0≤x∧x≤15:=fun x hx=>by
 obtain⟨i,hi,rfl⟩:=List.getElem_of_mem hx
 obtain⟨k,hk,hk2⟩:=o9 h i hi
 have:=(uT hk2).1
 rw[hk];omega
theorem vd {p:Pm} (hp:bO p=true) (b:List UInt8):((aV p b).length:Int)=countP p b.length:=by
 have:=(iI hp b.length).1
 unfold aV;rw[List.length_map,List.length_range];omega
theorem Ll {m:aC} {d:Bool} {ds:aR} {name:ByteArray} {b:List UInt8} {t:List Int} (hm:bG m=true) (hr:cV m d ds name b.length=0) (ht:ca m.p m.next (aV m.p b).length=some t):bG (dY m ⟨name,m.next,b.length,t⟩)=true:=by
 obtain⟨z1,z2,z3,z4,z5⟩:=oy hr
 have z4a:¬m.p.1*m.p.2.2*8<(b.length:Int):=fun h=>z4 (.inl h)
 have z4b:m.aG.length≤11:=by have:¬12≤m.aG.length:=fun h=>z4 (.inr h);omega
 have z5b:m.next≤16777215:=by have:¬16777215<m.next:=fun h=>z5 (.inr (.inl h));omega
 have z5c:m.seq≤2147483646:=by have:¬2147483647≤m.seq:=fun h=>z5 (.inr (.inr h));omega
 have hp:=((gw m).1 ((dO m).1 hm).1).2.2.1
 refine JS hm z2 (JR z3) rfl z4b z5b z5c ⟨by show 0≤(b.length:Int);omega,by show(b.length:Int)≤_;omega⟩ (Gg ht) ?_
 show(t.length:Int)=countP m.p b.length
 rw[gB ht,vd hp]
end Go.Proofs.YtkciobclldnoiaaGreat
namespace Go.Proofs.YtkciobclldnoiaaGreat
open Go Go.Vc Go.Proofs Wl
theorem Gh (m:aC) (o:Int) (tries:List Int) (bl:List (List UInt8)) (live:List Int) (k:Int) (b:Nat):((ia m o tries bl live k b).map (fun r=>(r.id,r.data))).map Prod.fst=((List.range (m.p.1+m.extra).toNat).filter fun id=>decide (ly (dV o b live) (id:Nat)=k)).map fun id:Nat=>(id:Int):=by
 unfold ia
 rw[List.map_map,List.map_map]
 rfl
end Go.Proofs.YtkciobclldnoiaaGreat
namespace Wl
open Go
def eU (cs:List (List UInt8)) (d:bn):bn:=if cs.isEmpty then d else{d with l:=d.l++cs,wait:=0,laid:=[],has:=false}
def ib (P:List (Int×List UInt8)) (s:Int):List (List UInt8):=(P.filter fun x=>decide (x.1=s)).map Prod.snd
theorem EH {P:List (Int×List UInt8)} {s:Int} (h:∀x∈P,x.1≠s):ib P s=[]:=by
 unfold ib
 rw[List.filter_eq_nil_iff.2 fun x hx=>by simpa using h x hx];rfl
theorem EI (P:List (Int×List UInt8)) (s:Int):(ib P s).length=(P.map Prod.fst).count s:=by
 unfold ib;rw[List.length_map];exact(Go.Vc.JO P s).symm
theorem wH {l:List Int} {s:Int} (h:0≤s∧s<64):s∈dI l↔s∈l:=by
 unfold dI
 rw[List.mem_filter,decide_eq_true_eq]
 refine⟨fun h=>h.2,fun h'=>⟨?_,h'⟩⟩
 exact List.mem_map.2 ⟨s.toNat,List.mem_range.2 (by omega),by omega⟩
theorem zE {w:Pow} (hw:w.calm) {ds:aR} {P:List (Int×List UInt8)} (h64:ds.length=64)
  (hfit:∀x∈P,x.2.length=64∧∃d,bF ds x.1=some d∧d.lost=false∧d.l.length+(ib P x.1).length≤d.room):
  ∃ds',layAll P w ds=(0,w,ds')∧ds'.length=64∧∀s,bF ds' s=(bF ds s).map (eU (ib P s)):=by
 have F:Fit ds (P.map Prod.fst) (P.map Prod.fst):=⟨h64,fun k hk=>by
  obtain⟨x,hx,rfl⟩:=List.mem_map.1 hk
  obtain⟨_,d,h1,h2,h3⟩:=hfit x hx
  rw[EI]at h3
  exact⟨d,h1,h2,h3⟩⟩
 obtain⟨a1,a2,a3⟩:=Go.Vc.Lf hw P ds F fun x hx=>⟨List.mem_map.2 ⟨x,hx,rfl⟩,(hfit x hx).1⟩
 refine⟨(layAll P w ds).2.2,?_,a2.len,fun s=>?_⟩
 ·have h2:=Le hw P ds
  exact Prod.ext a1 (Prod.ext h2 rfl)
 ·rw[a3 s]
  unfold zw
  cases hd:bF ds s with
  |none=>rfl
  |some d=>
   obtain⟨hs0,hs1⟩:=Np hd
   rw[Option.map_some,Option.map_some,Option.map_some]
   congr 1
   unfold eU
   have hm:s∈P.map Prod.fst↔(ib P s).isEmpty=false:=by
    rw[←List.count_pos_iff,←EI]
    cases hc:ib P s<;>simp
   by_cases he:(ib P s).isEmpty=true
   ·have h0:ib P s=[]:=List.isEmpty_iff.1 he
    have h1:(P.filter fun x=>decide (x.1=s))=[]:=List.map_eq_nil_iff.1 h0
    rw[if_neg (fun h=>by rw[wH ⟨hs0,hs1⟩,hm]at h;rw[h]at he;cases he),if_pos he,h1]
    simp
   ·have hf:(ib P s).isEmpty=false:=by simpa using he
    rw[if_pos ((wH ⟨hs0,hs1⟩).2 (hm.2 hf)),if_neg he]
    rfl
end Wl
namespace Go.Proofs.YtkciobclldnoiaaGreat
open Go Go.Vc Go.Proofs Wl
theorem kr {n:aC} {live:List Int} (hnd:live.Nodup) (s:Int):ib (bh n live) s=if s∈live then aZ n else[]:=by
 by_cases h:s∈live
 ·rw[if_pos h];exact u9 n s hnd h
 ·rw[if_neg h];exact EH fun x hx he=>h (he▸(gK hx).1)
theorem EJ (m:aC) (o:Int) (tries:List Int) (bl:List (List UInt8)) (live:List Int) (k:Int) (n:Nat):ib (cF m o tries bl live n) k=(dn m o tries bl live k n).map dz:=sH m o tries bl live k n
theorem EK {m:aC} (h:bG m=true):aZ m≠[]:=by
 unfold aZ gu gr
 rw[if_pos h]
 intro e
 have:=congrArg List.length e
 simp[bE]at this
 omega
theorem ve {ds:aR} {l:List Int} (h:l.Nodup):(bz ds l).Nodup:=h.filter _
theorem EL {ds:aR} {l:List Int} {k:Int} (h:k∈bz ds l):k∈l∧∃d,bF ds k=some d∧d.lost=false:=by
 obtain⟨h1,h2⟩:=List.mem_filter.1 h
 unfold isLive at h2
 cases hd:bF ds k with
 |none=>rw[hd]at h2;cases h2
 |some d=>rw[hd]at h2;exact⟨h1,d,rfl,by simpa using h2⟩
theorem vf (cs:List (List UInt8)) (d:bn):(eU cs d).l=d.l++cs:=by
 unfold eU
 by_cases h:cs.isEmpty=true
 ·rw[if_pos h,List.isEmpty_iff.1 h,List.append_nil]
 ·rw[if_neg h]
theorem ku (cs:List (List UInt8)) (d:bn):(eU cs d).lost=d.lost∧(eU cs d).room=d.room:=by
 unfold eU;split<;>exact⟨rfl,rfl⟩
theorem Lm {c1 c2:List (List UInt8)} (h:c2≠[]) (d:bn):eU c2 (eU c1 d)=eU (c1++c2) d:=by
 have e:∀c:List (List UInt8),c≠[]→∀d,eU c d={d with l:=d.l++c,wait:=0,laid:=[],has:=false}:=fun c hc d=>by
  unfold eU;rw[if_neg (by simpa using hc)]
 by_cases h1:c1=[]
 ·subst h1;rfl
 ·rw[e c1 h1,e c2 h,e (c1++c2) (by simp[h])]
  simp
theorem vg (pages:Nat) (l:List (Int×List UInt8)) (k:Int):gT pages l k=pages+(ib l k).length:=by unfold gT ib;rw[List.length_map]
theorem My {p:Pm} {o:Int} {b:List UInt8} {t:List Int} (hp:bO p=true) (ht:ca p o (aV p b).length=some t) {i:Nat} (hi:i<(aV p b).length):∃K H w n,bS p (ga o i (t.getD i 0)) ((aV p b).getD i []) K H w n:=by
 have hl:=gB ht
 obtain⟨k,hk,hk2⟩:=o9 ht i (by omega)
 have hg:zg p o i k=true:=(uT hk2).2.1
 have e:t.getD i 0=(k:Int):=by rw[nS 0 (by omega)];exact hk
 rw[e]
 refine LC hp hg ?_
 have hpm:=(bP p).1 hp
 have hs:0≤p.1*p.2.2:=Int.mul_nonneg (by omega) (by omega)
 have e2:(aV p b)[i]=rM (dH p) b i:=by simp[aV]
 rw[nS [] hi,e2,BA]
 unfold dH
 omega
theorem GQ {m:aC} {b:List UInt8} {t:List Int} (hm:bG m=true) (hx:m.next≤16777215) (h8:(aV m.p b).length≤8) (ht:ca m.p m.next (aV m.p b).length=some t) {i id:Nat} (hi:i<(aV m.p b).length) (hid:id<(m.p.1+m.extra).toNat):
  gY (jO m m.next i (ga m.next i (t.getD i 0)) ((aV m.p b).getD i []) id)=true:=by
 have hpm:=((gw m).1 ((dO m).1 hm).1)
 have hp3:=(bP m.p).1 hpm.2.2.1
 obtain⟨K,H,w,n,B⟩:=My hpm.2.2.1 ht hi
 exact Lg B ⟨hpm.2.1.1,hx⟩ (by omega) (by omega)
theorem JT {m:aC} {offs:Int} {w:Pow} {ds:aR} {name:ByteArray} {b:List UInt8} (hw:w.calm) (h64:ds.length=64) (hm:bG m=true):
  (cV m (eP w offs) ds name b.length≠0→fM m offs w ds name b=(cV m (eP w offs) ds name b.length,m,w,ds))∧
  (cV m (eP w offs) ds name b.length=0→(ca m.p m.next (aV m.p b).length=none→fM m offs w ds name b=(8,m,w,ds))∧∀t,ca m.p m.next (aV m.p b).length=some t→
   let live:=bz ds m.drives
   let l:=cF m m.next t (aV m.p b) live (aV m.p b).length
   let n:=dY m ⟨name,m.next,b.length,t⟩
   let N:=gT (aZ n).length l
   bG n=true∧(cR m ds live N=false→fM m offs w ds name b=(7,m,w,ds))∧(cR m ds live N=true→∃ds',fM m offs w ds name b=(0,n,w,ds')∧ds'.length=64∧
    ∀k,bF ds' k=(bF ds k).map fun d=>if k∈live then eU ((dn m m.next t (aV m.p b) live k (aV m.p b).length).map dz++aZ n) (gd m d (N k))else d)):=by
 refine⟨fun h=>by unfold fM;rw[if_pos h],fun h=>⟨fun ht=>by unfold fM;rw[if_neg (by simpa using h),ht],fun t ht=>?_⟩⟩
 intro live l n N
 have hmn:bG n=true:=Ll hm h ht
 obtain⟨z1,z2,z3,z4,z5⟩:=oy h
 have hpm:=((gw m).1 ((dO m).1 hm).1)
 have z4a:¬m.p.1*m.p.2.2*8<(b.length:Int):=fun h=>z4 (.inl h)
 have h8:=GP hpm.2.2.1 z4a
 have hne:live≠[]:=fun h=>z5 (.inl h)
 have hnx:0≤m.next∧m.next≤16777215:=⟨hpm.2.1.1,by have:¬16777215<m.next:=fun h=>z5 (.inr (.inl h));omega⟩
 have hnd:live.Nodup:=ve (yi hm)
 have hin:∀k∈live,0≤k∧k<64:=fun k hk=>lZ hm k (EL hk).1
 have e:fM m offs w ds name b=(if cR m ds live N=false then(7,m,w,ds)else if(makes m N live w ds).1≠0 then((makes m N live w ds).1,m,(makes m N live w ds).2)else
   if(layAll l (makes m N live w ds).2.1 (makes m N live w ds).2.2).1≠0 then((layAll l (makes m N live w ds).2.1 (makes m N live w ds).2.2).1,m,(layAll l (makes m N live w ds).2.1 (makes m N live w ds).2.2).2)else
   ((layAll (bh n live) (layAll l (makes m N live w ds).2.1 (makes m N live w ds).2.2).2.1 (layAll l (makes m N live w ds).2.1 (makes m N live w ds).2.2).2.2).1,if(layAll (bh n live) (layAll l (makes m N live w ds).2.1 (makes m N live w ds).2.2).2.1 (layAll l (makes m N live w ds).2.1 (makes m N live w ds).2.2).2.2).1=0 then n else m,(layAll (bh n live) (layAll l (makes m N live w ds).2.1 (makes m N live w ds).2.2).2.1 (layAll l (makes m N live w ds).2.1 (makes m N live w ds).2.2).2.2).2)):=by
  unfold fM
  rw[if_neg (by simpa using h),ht]
 refine⟨hmn,fun hf=>by rw[e,if_pos hf],fun hf=>?_⟩
 rw[e,if_neg (by rw[hf];decide)]
 obtain⟨d1,m1,m2,m3⟩:=rR hw (N:=N) hnd h64 hf
 rw[m1]
 dsimp only
 rw[if_neg (by simp)]
 have hlp:∀y∈l,y.1∈live:=fun y hy=>(ED hnx hne hin h8 hy).1
 have hl64:∀y∈l,y.2.length=64:=fun y hy=>by
  obtain⟨i,hi,hy⟩:=List.mem_flatMap.1 hy
  obtain⟨id,hid,rfl⟩:=List.mem_map.1 hy
  exact Dj (GQ hm hnx.2 h8 ht (List.mem_range.1 hi) (List.mem_range.1 hid))
 have hfits:∀k∈live,∃d,bF d1 k=some d∧d.lost=false∧(d.l.length:Int)+max (N k) 0≤d.room:=fun k hk=>by
  obtain⟨_,d,hd,hdl⟩:=EL hk
  have hfk:=List.all_eq_true.1 hf k hk
  obtain⟨d',hd',hfd⟩:=pR hfk
  obtain⟨r1,r2,r3⟩:=zC hfd
  refine⟨gd m d' (N k),?_,r1,by rw[r2];exact r3⟩
  rw[m3 k,hd',Option.map_some,if_pos hk]
 obtain⟨d2,l1,l2,l3⟩:=zE hw (ds:=d1) (P:=l) m2 fun x hx=>by
  obtain⟨d,f1,f2,f3⟩:=hfits x.1 (hlp x hx)
  refine⟨hl64 x hx,d,f1,f2,?_⟩
  have:N x.1=_:=vg _ _ _
  omega
 rw[l1]
 dsimp only
 rw[if_neg (by simp)]
 obtain⟨d3,p1,p2,p3⟩:=zE hw (ds:=d2) (P:=bh n live) l2 fun x hx=>by
  obtain⟨hxl,hx64⟩:=gK hx
  obtain⟨d,f1,f2,f3⟩:=hfits x.1 hxl
  refine⟨hx64,eU (ib l x.1) d,by rw[l3,f1,Option.map_some],by rw[(ku _ _).1];exact f2,?_⟩
  have:N x.1=_:=vg _ _ _
  rw[(ku _ _).2,vf,kr hnd,if_pos hxl,List.length_append]
  omega
 rw[p1]
 refine⟨d3,rfl,p2,fun k=>?_⟩
 rw[p3 k,l3 k,m3 k,Option.map_map,Option.map_map]
 congr 1
 funext d
 show eU (ib (bh n live) k) (eU (ib l k) (if k∈live then gd m d (N k)else d))=_
 rw[kr hnd]
 by_cases hk:k∈live
 ·rw[if_pos hk,if_pos hk,if_pos hk]
  have hfl:ib l k=(dn m m.next t (aV m.p b) live k (aV m.p b).length).map dz:=EJ _ _ _ _ _ _ _
  rw[hfl,Lm (EK hmn)]
 ·rw[if_neg hk,if_neg hk,if_neg hk,EH (P:=l) fun x hx (he:x.1=k)=>hk (he▸hlp x hx)]
  rfl
end Go.Proofs.YtkciobclldnoiaaGreat
namespace Go.Proofs.YtkciobclldnoiaaGreat
open Go Go.Vc Go.Proofs Wl
theorem zF (l:List Int) (hl:l.length≤64) (s:Int):bF (eC l (aU l l.length).length) s=if s∈aU l l.length then some (bn.new (l.getD s.toNat 0).toNat)else none:=by
 by_cases hs:0≤s∧s<64
 ·unfold bF eC
  rw[if_pos hs,List.getElem?_map,List.getElem?_range (by omega),Option.map_some,List.take_of_length_le (Nat.le_refl _)]
  have e:((s.toNat:Nat):Int)=s:=by omega
  rw[e]
  by_cases h:s∈aU l l.length
  ·rw[if_pos h];rfl
  ·rw[if_neg h];rfl
 ·rw[if_neg (fun h=>?_)]
  ·unfold bF;rw[if_neg hs]
  ·obtain⟨n,hn,rfl,_⟩:=(om l l.length s).1 h
   omega
theorem JU {p:Pm} {extra:Int} {l:List Int} (hl:l.length≤64) (e0:oz p extra l=0):
  ∃D,cQ p extra Pow.new l=(0,Pow.new,D)∧D.length=64∧∀s,bF D s=if s∈aU l l.length then some ⟨(l.getD s.toNat 0).toNat,aZ (bL p extra l),0,[],false,false⟩else none:=by
 have hm:=EE hl e0
 have hnd:(aU l l.length).Nodup:=(sG l l.length).imp fun h e=>by omega
 have hany:=(zy e0).2.2.2.2
 rw[HY,if_pos e0]
 obtain⟨D,h1,h2,h3⟩:=zE xC (ds:=eC l (aU l l.length).length) (P:=bh (bL p extra l) (aU l l.length)) (FM _ _) fun x hx=>by
  obtain⟨hx1,hx2⟩:=gK hx
  refine⟨hx2,bn.new (l.getD x.1.toNat 0).toNat,by rw[zF l hl,if_pos hx1],rfl,?_⟩
  rw[kr hnd,if_pos hx1]
  have:=List.any_eq_false.1 hany x.1 hx1
  simp only[decide_eq_true_eq]at this
  show 0+_≤(l.getD x.1.toNat 0).toNat
  omega
 refine⟨D,h1,h2,fun s=>?_⟩
 rw[h3,zF l hl,kr hnd]
 by_cases h:s∈aU l l.length
 ·rw[if_pos h,if_pos h,if_pos h,Option.map_some]
  unfold eU
  rw[if_neg (by simpa using EK hm)]
  rfl
 ·rw[if_neg h,if_neg h,if_neg h];rfl
theorem Ih (m:aC):(aZ m).length=((gr m).length+47)/48:=by unfold aZ gu;rw[List.length_map,List.length_range]
theorem Nr (x:Wl.cu):(fH x).length=6+x.name.size+x.tries.length:=by
 unfold fH
 simp[bE]
 omega
theorem JV {m:aC} (h:bG m=true):(gr m).length=14+m.drives.length+(m.aG.flatMap fH).length:=by
 unfold gr
 rw[if_pos h]
 simp only[List.length_append,bE,List.length_cons,List.length_nil,List.length_map]
 omega
theorem zG {p:Pm} {n:Int} (h:n≤p.1*p.2.2*8):countP p n≤8:=by
 unfold countP
 split
 ·rename_i hh
  rw[Bool.and_eq_true,decide_eq_true_eq]at hh
  have:=(bP p).1 hh.1
  have hs:0<p.1*p.2.2:=Int.mul_pos (by omega) (by omega)
  have:(n-1)/(p.1*p.2.2)<8:=Int.ediv_lt_of_lt_mul hs (by rw[Int.mul_comm 8];omega)
  omega
 ·decide
theorem Mz {m:aC} {x:Wl.cu} (h:eW m x=true):(fH x).length≤26:=by
 obtain⟨h1,h2,h3,h4,h5⟩:=(lH m x).1 h
 have:=zG h3.2
 have hn:x.name.size≤12:=by unfold gq at h1;simp at h1;omega
 rw[Nr]
 omega
theorem AT {α β:Type} {f:α→List β} {c:Nat}:∀{l:List α},(∀x∈l,(f x).length≤c)→(l.flatMap f).length≤l.length*c
 |[],_=>by simp
 |x::l,h=>by
  have h1:=h x List.mem_cons_self
  have h2:=AT (l:=l) fun y hy=>h y (List.mem_cons_of_mem _ hy)
  rw[List.flatMap_cons,List.length_append,List.length_cons,Nat.succ_mul]
  omega
theorem Ln {m:aC} (h:bG m=true):(aZ m).length*48≤61+m.drives.length+m.aG.length*26:=by
 have:=AT (f:=fH) (l:=m.aG) fun x hx=>Mz (((dO m).1 h).2.2.2.2.1 x hx)
 have h2:=JV h
 rw[Ih]
 omega
theorem EM {m:aC} (h:bG m=true):(aZ m).length≤9:=by
 have h1:=Ln h
 have h2:=mg h
 have h3:=((dO m).1 h).2.2.2.1
 omega
theorem Gi {α β:Type} (f:α→List β) (c:Nat) (n:Nat) (l:List α) (h:∀x∈l,(f x).length≤c) (hn:l.length≤n):(l.flatMap f).length≤n*c:=Nat.le_trans (AT h) (Nat.mul_le_mul_right c hn)
theorem Gj (m:aC) (o:Int) (tries:List Int) (bl:List (List UInt8)) (live:List Int) (k:Int) (n:Nat):(dn m o tries bl live k n).length≤n*(m.p.1+m.extra).toNat:=by
 unfold dn
 refine Gi _ _ n _ (fun i _=>?_) (by simp)
 have:=congrArg List.length (vb m o tries bl live k i)
 rw[List.length_map,List.length_map]at this
 rw[←this]
 refine Nat.le_trans (List.length_filter_le _ _) ?_
 rw[rQ]
 exact Nat.le_refl _
end Go.Proofs.YtkciobclldnoiaaGreat
namespace Go.Proofs.YtkciobclldnoiaaGreat
open Go Go.Vc Go.Proofs Wl
def cb (m:aC) (offs:Int) (w:Pow) (ds:aR) (n:aC):Int×aC×Pow×aR:=
 if eP w offs then(14,m,w,ds)else if !bG n||decide (n.seq≠m.seq+1)then(1,m,w,ds)else
 let live:=bz ds n.drives
 let N:Int→Int:=fun _=>((aZ n).length:Int)
 if live=[]∨cR m ds live N=false then(7,m,w,ds)else
 if(makes m N live w ds).1≠0 then((makes m N live w ds).1,m,(makes m N live w ds).2)else
 let r2:=layAll (bh n live) (makes m N live w ds).2.1 (makes m N live w ds).2.2
 (r2.1,if r2.1=0 then n else m,r2.2)
theorem nC {m:aC} (h:bG m=true):b9 m:=by
 obtain⟨h1,h2,h3,h4,h5,h6,h7⟩:=(dO m).1 h
 have hd:=mg h
 refine⟨by omega,by omega,fun e he=>?_⟩
 obtain⟨b1,b2,b3,b4,b5⟩:=(lH m e).1 (h5 e he)
 have:=zG b3.2
 have hn:e.name.size≤12:=by unfold gq at b1;simp at b1;omega
 omega
set_option maxRecDepth 100000
section
variable {B:aq} {h0 h:Heap} {As:List HP} {a pw:Addr} {offs:Int} {da:List (Option Addr)} {w:Pow} {ds:aR}
theorem Gk (x:bB) (m:aC) (z:bB) (n:aC) (hS:St B h0 As fun h=>dm h z n) (hz:b9 m) (hzn:b9 n) (hsq:-1≤m.seq∧m.seq≤2^40)
  (H:aa B h0 h (aP bc a pw (aF x) offs da w ds::bU x m::As)):
  ab Tryz.prog qg #[.pointer (some a),dF z] h fun v h'=>v=.int .i64 (cb m offs w ds n).1∧
   ∃y,aa B h0 h' (aP bc a pw (aF y) offs da (cb m offs w ds n).2.2.1 (cb m offs w ds n).2.2.2::bU y (cb m offs w ds n).2.1::As):=by
 refine pC (some a) z ?_
 unfold kH
 refine H.boxed fun a1 h1 H1=>(BG H1).mono ?_
 have H1:=H1.cA
 rintro _ h1 ⟨rfl,rfl⟩
 have H1:aa B h0 h1 (an a1 ao (aF z)::aP bc a pw (aF x) offs da w ds::bU x m::As):=H1
 have hz1:dm h1 z n:=hS.at [_,_,_] H1
 have hx1:dm h1 x m:=H1.at 2 rfl
 refine⟨_,rfl,bt (fun e=>?_) fun e1=>?_⟩
 ·have ep:cb m offs w ds n=(14,m,w,ds):=by unfold cb;rw[if_pos e]
  rw[ep];exact⟨rfl,x,H1.ba 3 [1,2]⟩
 refine aW ?_
 refine⟨z,(H1.box 0 rfl).aH _ rfl,(xt z n h1 hz1 hzn).mono ?_⟩
 rintro _ h3 ⟨rfl,R3⟩
 have H3:=H1.up R3.ah
 have hz3:=hz1.up R3.ah
 have no:∀{h':Heap},aa B h0 h' (an a1 ao (aF z)::aP bc a pw (aF x) offs da w ds::bU x m::As)→(bG n=false∨n.seq≠m.seq+1)→(Value.int .i64 1=.int .i64 (cb m offs w ds n).1∧∃y,aa B h0 h' (aP bc a pw (aF y) offs da (cb m offs w ds n).2.2.1 (cb m offs w ds n).2.2.2::bU y (cb m offs w ds n).2.1::As)):=fun{h'} H' hc=>by
  have ep:cb m offs w ds n=(1,m,w,ds):=by
   unfold cb
   rw[if_neg (by rw[e1];decide),if_pos]
   rcases hc with hc|hc
   ·rw[hc];rfl
   ·rw[decide_eq_true hc,Bool.or_true]
  rw[ep];exact⟨rfl,x,H'.ba 3 [1,2]⟩
 refine⟨_,rfl,trivial,aY (fun e=>no H3 (.inl e)) fun e2=>?_⟩
 have hb3:=H3.box 0 rfl
 have hc3:=(aa.cG (H3.ba 2 [1,0])).2
 refine⟨z.1,hb3.cell0 rfl,a,rfl,x.1,hc3.cell0 rfl,?_⟩
 rw[hz1.seq,hx1.seq,Go.Vc.wrap_small (m.seq+1) (by omega) (by omega)]
 refine cw (fun e=>no H3 (.inr e)) fun e3=>?_
 refine⟨_,hb3.cell rfl,?_⟩
 have hdl:=mg e2
 have hin:∀k∈n.drives,0≤k∧k<64:=lZ e2
 refine(za z.2.2.2.2.2.2.1 n.drives hz3.drives (by omega) (H3.ba 2 [1,0])).mono ?_
 rintro _ h5 ⟨lv,rfl,R5⟩
 obtain⟨live,hlive⟩:∃live,live=bz ds n.drives:=⟨_,rfl⟩
 rw[←hlive]at R5
 have hll:live.length≤64:=by rw[hlive];exact Nat.le_trans (List.length_filter_le _ _) hdl
 have hlin:∀k∈live,0≤k∧k<64:=fun k hk=>by rw[hlive]at hk;exact hin k (List.mem_filter.1 hk).1
 have H5:=(H3.cq R5).ba 4 [2,3,0,1]
 refine⟨lv,rfl,z,(H5.box 3 rfl).aH _ rfl,(jz z n h5 (hS.at [_,_,_,_] H5) hzn).mono ?_⟩
 rintro _ h6 ⟨pg,rfl,R6⟩
 have hpgl:=(aa.qZ R6).1
 have hspl:=gy n hzn
 obtain⟨pn,hpn⟩:∃pn,pn=(aZ n).length:=⟨_,rfl⟩
 rw[←hpn]at hpgl hspl
 have H6:=H5.up R6.ah
 refine⟨pg,rfl,H6.alloc ag rfl fun a13 h7 H7=>?_⟩
 have H7:=H7.cA
 refine H7.storeAll ag 0 rfl rfl [.int .i64 (pg.len:Int)] rfl rfl rfl rfl fun h8 H8=>?_
 rw[hpgl]at H8
 have H8:aa B h0 h8 (aP bc a pw (aF x) offs da w ds::bU x m::an a13 aJ [.int .i64 (pn:Int)]::ak aJ lv 1 aw live::an a1 ao (aF z)::As):=H8.ba 5 [1,2,0,3,4]
 obtain⟨T,hT⟩:∃T,T=bU x m::an a13 aJ [.int .i64 (pn:Int)]::ak aJ lv 1 aw live::an a1 ao (aF z)::As:=⟨_,rfl⟩
 have tX:St B h0 T fun h=>dm h x m:=by rw[hT];exact St.eM 0 rfl fun _ hq=>hq
 have tN:St B h0 T fun h=>bN h a13 aJ [.int .i64 (pn:Int)]:=by rw[hT];exact St.eM (A:=an a13 aJ [.int .i64 (pn:Int)]) 1 rfl fun _ hq=>hq.1
 have tL:St B h0 T fun h=>Rd h lv 1 aw live:=by rw[hT];exact St.eM (A:=ak aJ lv 1 aw live) 2 rfl fun _ hq=>hq.1.seq (fun _=>rfl) hq.2
 have tM:St B h0 T fun h=>bN h a1 ao (aF z):=by rw[hT];exact St.eM (A:=an a1 ao (aF z)) 3 rfl fun _ hq=>hq.1
 have tY:St B h0 T fun h=>dm h z n:=by rw[hT];exact hS.cons.cons.cons.cons
 obtain⟨N,hN⟩:∃N:Int→Int,N=fun _=>(pn:Int):=⟨_,rfl⟩
 have tT:St B h0 T fun h=>CI gl #[] #[.pointer (some a13)] N live h:=fun Bs h' H' k hk=>by
  refine nZ k a13 ?_
  unfold jY
  exact⟨(pn:Int),(tN Bs h' H').cell0 rfl,by rw[hN],Sp.refl h'⟩
 have fin:∀{h':Heap} {w':Pow} {ds':aR},aa B h0 h' (aP bc a pw (aF x) offs da w' ds'::T)→aa B h0 h' (aP bc a pw (aF x) offs da w' ds'::bU x m::As):=fun{h' w' ds'} H'=>by
  rw[hT]at H'
  exact H'.ba 5 [0,1]
 rw[←hT]at H8
 have ep:cb m offs w ds n=(if live=[]∨cR m ds live N=false then(7,m,w,ds)else
   if(makes m N live w ds).1≠0 then((makes m N live w ds).1,m,(makes m N live w ds).2)else
   ((layAll (bh n live) (makes m N live w ds).2.1 (makes m N live w ds).2.2).1,if(layAll (bh n live) (makes m N live w ds).2.1 (makes m N live w ds).2.2).1=0 then n else m,(layAll (bh n live) (makes m N live w ds).2.1 (makes m N live w ds).2.2).2)):=by
  rw[hN,hpn,hlive]
  unfold cb
  rw[if_neg (by rw[e1];decide),if_neg (by rw[e2,decide_eq_false (by simpa using e3)];decide)]
 rw[ep]
 have hlvl:=(tL.at [_] H8).len
 refine aW (cJ (fun e=>?_) fun e4=>?_)
 ·have:live=[]:=List.length_eq_zero_iff.1 (by omega)
  rw[if_pos (.inl this)];exact⟨rfl,x,fin H8⟩
 have hne:live≠[]:=fun h=>e4 (by rw[hlvl,h];rfl)
 refine(zl gl #[] #[.pointer (some a13)] N x m lv live (by rfl) (fun Bs h' H'=>⟨tX Bs h' H',tT Bs h' H'⟩) hz (tL.at [_] H8) (by omega) hlin H8).mono ?_
 rintro _ h9 ⟨rfl,R9⟩
 have H9:=H8.up R9.ah
 refine⟨_,rfl,aY (fun g=>?_) fun g=>?_⟩
 ·rw[if_pos (.inr g)];exact⟨rfl,x,fin H9⟩
 rw[if_neg (by rintro(h|h);exact hne h;rw[g]at h;cases h)]
 refine(zm gl #[] #[.pointer (some a13)] N x m lv live (by rfl) (fun Bs h' H'=>⟨tX Bs h' H',tT Bs h' H',tL Bs h' H'⟩) hz (by omega) hlin H9).mono ?_
 rintro _ h11 ⟨rfl,H11⟩
 obtain⟨m1,hm1⟩:∃m1,m1=makes m N live w ds:=⟨_,rfl⟩
 rw[←hm1]at H11⊢
 refine⟨_,rfl,cw (fun g2=>?_) fun g2=>?_⟩
 ·rw[if_pos g2];exact⟨rfl,x,fin H11⟩
 rw[if_neg (by simpa using g2)]
 refine⟨z,(tM.at [_] H11).aH _ rfl,(zo x z n lv live (fun Bs h' H'=>⟨tY Bs h' H',tL Bs h' H'⟩) hzn (by omega) hlin H11).mono ?_⟩
 rintro _ h12 ⟨rfl,Q1,Q0⟩
 refine⟨_,rfl,rfl,?_⟩
 by_cases g4:(layAll (bh n live) m1.2.1 m1.2.2).1=0
 ·obtain⟨y2,H12⟩:=Q0 g4
  rw[if_pos g4]
  rw[hT]at H12
  exact⟨y2,H12.ba 6 [0,1]⟩
 ·rw[if_neg g4]
  exact⟨x,fin (Q1 g4)⟩
end
end Go.Proofs.YtkciobclldnoiaaGreat
namespace Go.Proofs.YtkciobclldnoiaaGreat
open Go Go.Vc Go.Proofs Wl
theorem Ns {order:List Int} (hne:order≠[]) (id:Nat):ly order id=order[id%order.length]'(Nat.mod_lt _ (by cases order with|nil=>exact absurd rfl hne|cons=>simp)):=by
 have hl:0<order.length:=by cases order with|nil=>exact absurd rfl hne|cons=>simp
 have hlt:=Nat.mod_lt id hl
 unfold ly CJ
 rw[if_neg (by rintro(h|h);exact hne h;omega)]
 have e:((id:Int)%(order.length:Int)).toNat=id%order.length:=by omega
 rw[e,List.getD_eq_getElem?_getD,List.getElem?_eq_getElem hlt];rfl
theorem Ii {order:List Int} (hnd:order.Nodup) (j:Nat) (hj:j<order.length) (T:Nat):((List.range T).filter fun id=>decide (ly order (id:Nat)=order[j])).length=ni order.length T j:=by
 unfold ni
 congr 1
 refine List.filter_congr fun id _=>?_
 have hne:order≠[]:=fun h=>by rw[h]at hj;simp at hj
 rw[Ns hne id,decide_eq_decide]
 constructor
 ·intro h
  exact(List.getElem_inj hnd).1 h
 ·intro h
  simp only[h]
end Go.Proofs.YtkciobclldnoiaaGreat
namespace Go.Proofs.YtkciobclldnoiaaGreat
open Go Go.Vc Go.Proofs Wl
theorem Lo (e:Wl.cu):([]++[e]).mergeSort lY=[e]:=by simp
theorem Gl {m:aC} {e:Wl.cu} {o i:Int} {d:Row} {id:Int} {k:Nat} (hr:gY (jO m o i (ga o i (e.tries.getD k 0)) d id)=true) (hm:m.aG=[]) (ho:e.object=o) (hi:i=k) (hk:k<e.tries.length):fb (dY m e) (jO m o i (ga o i (e.tries.getD k 0)) d id)=true:=by
 unfold fb
 rw[hr,Bool.true_and]
 have hobj:(dY m e).aG=[e]:=by unfold dY;dsimp only;rw[hm];exact Lo e
 rw[hobj]
 unfold jO dY
 dsimp only
 rw[decide_eq_true rfl,Bool.true_and,List.any_cons,List.any_nil,Bool.or_false,decide_eq_true ho,decide_eq_true (show i<(e.tries.length:Int)by omega),hi,Int.toNat_natCast,decide_eq_true rfl];rfl
end Go.Proofs.YtkciobclldnoiaaGreat
namespace Go.Proofs.YtkciobclldnoiaaGreat
open Go Go.Vc Go.Proofs Wl
end Go.Proofs.YtkciobclldnoiaaGreat
namespace Go.Proofs.YtkciobclldnoiaaGreat
open Go Go.Vc Go.Proofs Wl
set_option maxRecDepth 100000
def vh (a b c:Int):Int×Int×Int:=(1+a%6,1+b%3,1+c%9)
theorem Ij (a b c:Int) (h:Heap):ab Tryz.prog oC #[.int .i64 a,.int .i64 b,.int .i64 c] h fun v h'=>v=j3 (vh a b c)∧Sp h h' []:=by
 refine nV a b c ?_
 unfold jV
 refine(Sp.refl h).alloc ag rfl fun x h1 H1=>?_
 refine(dc a 6 h1 (by decide) (by decide)).mono ?_
 rintro v h2 ⟨rfl,rfl⟩
 refine⟨_,rfl,(dc b 3 h2 (by decide) (by decide)).mono ?_⟩
 rintro v h3 ⟨rfl,rfl⟩
 refine⟨_,rfl,(dc c 9 h3 (by decide) (by decide)).mono ?_⟩
 rintro v h4 ⟨rfl,rfl⟩
 refine⟨_,rfl,?_⟩
 dsimp only
 rw[wrap_small _ (by omega) (by omega),wrap_small _ (by omega) (by omega),wrap_small _ (by omega) (by omega)]
 refine H1.storeAll ag 0 rfl rfl [.int .i64 (1+a%6),.int .i64 (1+b%3),.int .i64 (1+c%9)] rfl rfl rfl rfl fun h5 H5=>?_
 exact⟨vh a b c,(H5.box 0 rfl).aH _ rfl,rfl,.zip H5.ah⟩
end Go.Proofs.YtkciobclldnoiaaGreat
