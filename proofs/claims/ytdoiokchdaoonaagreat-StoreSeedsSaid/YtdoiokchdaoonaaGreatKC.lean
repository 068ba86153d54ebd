/- Part of the proofs that the laws of this seat answer true whatever the input reads, and leave it as it was; no condition. -/
import Derived.Test.YtdoiokchdaoonaaGreatKB
import Derived.Test.YtdoiokchdaoonaaGreatKA
import Derived.Test.YtdoiokchdaoonaaGreatPlI
import Derived.Test.YtdoiokchdaoonaaGreatTabS
import Derived.Test.YtdoiokchdaoonaaGreatPlA
set_option linter.unusedVariables false
set_option linter.unusedSimpArgs false
namespace Go.Vc
open Go Wl Go.Proofs.YtdoiokchdaoonaaGreat
def nZ (p:Pm) (extra:Int) (l:List Int):Int:=
 if(de l).2&&(bF p&&cZ extra 0 16)then
  if(aO l l.length).any fun i=>decide (l.getD i.toNat 0<((aV (bJ p extra l)).length:Int))then 7 else 0
 else 1
theorem Hg (p:Pm) (extra:Int) (w:Pow) (l:List Int):df p extra w l=if nZ p extra l=0 then layAll (bs (bJ p extra l) (aO l l.length)) w (ea l (aO l l.length).length)else(nZ p extra l,w,[]):=by
 unfold df nZ
 by_cases h:((de l).2&&(bF p&&cZ extra 0 16))=true
 ·rw[if_pos h,if_pos h]
  by_cases h2:((aO l l.length).any fun i=>decide (l.getD i.toNat 0<((aV (bJ p extra l)).length:Int)))=true
  ·rw[if_pos h2,if_pos h2];rfl
  ·rw[if_neg h2,if_neg h2];rfl
 ·rw[if_neg h,if_neg h];rfl
theorem y0 {p:Pm} {extra:Int} {l:List Int} (h:nZ p extra l=0):bF p=true∧0≤extra∧extra≤16∧(de l).2=true∧((aO l l.length).any fun i=>decide (l.getD i.toNat 0<((aV (bJ p extra l)).length:Int)))=false:=by
 unfold nZ at h
 by_cases h1:((de l).2&&(bF p&&cZ extra 0 16))=true
 ·rw[if_pos h1]at h
  by_cases h2:((aO l l.length).any fun i=>decide (l.getD i.toNat 0<((aV (bJ p extra l)).length:Int)))=true
  ·rw[if_pos h2]at h;cases h
  ·unfold cZ at h1
   simp only[Bool.and_eq_true,decide_eq_true_eq]at h1
   exact⟨h1.2.1,h1.2.2.1,h1.2.2.2,h1.1,by simpa using h2⟩
 ·rw[if_neg h1]at h;cases h
end Go.Vc
namespace Go.Proofs.YtdoiokchdaoonaaGreat
open Go Go.Vc Go.Proofs Wl
set_option maxRecDepth 20000
end Go.Proofs.YtdoiokchdaoonaaGreat
namespace Wl
def mj (m:aE) (l:List (List UInt8)):Bool:=cn m&&(aV m).all fun p=>decide (p∈l)
end Wl
namespace Go.Proofs.YtdoiokchdaoonaaGreat
open Go Go.Vc Go.Proofs Wl
set_option maxRecDepth 100000
theorem Je (a:Addr) (e:Sl) (p:List UInt8) (l:Sl) (ll:Cells) (h:Heap) (hb:bI h a aP [.slice e.ptr e.len e.cap]) (he:Rd h e 1 aC p) (hl:eJ h l 1 aC ll) (hs:ll.length≤2^30):
  ab Tryz.prog jn #[.slice l.ptr l.len l.cap,.func (.func kA) #[] #[.pointer (some a)]] h fun v h'=>v=.bool (decide (p∈ll))∧h'=h:=by
 refine ja l (kA,#[],#[.pointer (some a)]) ?_
 unfold fx
 refine(jU l (kA,#[],#[.pointer (some a)]) (R:=fun v h'=>(∃i:Int,v=.int .i64 i∧(decide (i≥0)=decide (p∈ll)))∧h'=h) ?_).mono ?_
 ·unfold gf
  have hll:=hl.len
  refine au (fun i:Nat=>(i:Int)) (fun i h'=>i≤ll.length∧p∉ll.take i∧h'=h) (fun i=>ll.length-i) 0 rfl ⟨by omega,by simp,rfl⟩ ?_
  rintro i h1 ⟨hi,hno,rfl⟩
  refine aj (fun e1=>?_) (fun e1=>?_)
  ·have hi':i<ll.length:=by
    have e':(i:Int)<(l.len:Int):=e1
    omega
   refine hl.get i rfl hi' fun r hr=>eI (by rfl) ?_
   refine(wM r a (R:=fun v h'=>v=.bool (decide (ll[i]=p))∧h'=h1) ?_).mono ?_
   ·unfold pS
    refine⟨e,hb.cell0 rfl,(nO r e ll[i] p h1 hr he).mono ?_⟩
    rintro _ _ ⟨rfl,rfl⟩
    exact⟨_,rfl,rfl,rfl⟩
   ·rintro _ _ ⟨rfl,rfl⟩
    refine⟨_,rfl,aj (fun e2=>⟨⟨i,rfl,?_⟩,rfl⟩) (fun e2=>?_)⟩
    ·rw[decide_eq_true (show(i:Int)≥0 by omega),decide_eq_true (by rw[←e2];exact List.getElem_mem hi')]
    ·refine⟨i+1,by rw[Go.Vc.wrap_small _ (by omega) (by omega)];rfl,⟨by omega,fun hm=>?_,rfl⟩,by omega⟩
     rw[aJ _ _ hi']at hm
     rcases List.mem_append.1 hm with hm|hm
     ·exact hno hm
     ·exact e2 (List.mem_singleton.1 hm).symm
  ·have e':¬(i:Int)<(l.len:Int):=e1
   rw[List.take_of_length_le (by omega)]at hno
   exact⟨⟨-1,rfl,by rw[decide_eq_false hno];rfl⟩,rfl⟩
 ·rintro _ h1 ⟨⟨i,rfl,hi⟩,rfl⟩
  exact⟨i,rfl,by rw[hi],rfl⟩
theorem Hi (a pw:Addr) (d:bo) (s b:Sl) (x:bK) (m:aE) (h:Heap) (hb:bI h a bG (eE pw d s b)) (hl:eJ h s 1 aC d.l) (ok:dj d) (hx:dG h x m) (hz:ct m):
  ab Tryz.prog rI #[.pointer (some a),dX x] h fun v h'=>v=.bool (mj m d.l)∧Sp h h' []:=by
 refine zA (some a) x ?_
 unfold tI
 have hlen:=ok.len;have hroom:=ok.room
 refine(Sp.refl h).boxed fun a1 h1 H1=>?_
 have H1:Sp h h1 [an a1 ao (aL x)]:=H1
 refine⟨x,(H1.box 0 rfl).aH _ rfl,(w6 x m h1 (hx.up H1.ah) hz).mono ?_⟩
 rintro _ h2 ⟨rfl,R2⟩
 have H2:Sp h h2 [an a1 ao (aL x)]:=H1.up R2.ah
 refine⟨_,rfl,aY (fun g=>⟨by unfold mj;rw[g];rfl,.zip H2.ah⟩) fun g=>?_⟩
 refine(Dq s b (hb.ah H2.ah hb.lt) (hl.up H2.ah) ok).mono ?_
 rintro _ h3 ⟨r4,rfl,R3⟩
 have H3:Sp h h3 [an a1 ao (aL x),cU r4 d.l]:=H2.comp R3
 refine⟨r4,rfl,x,(H3.box 0 rfl).aH _ rfl,(kI x m h3 (hx.up H3.ah) hz).mono ?_⟩
 rintro _ h4 ⟨r6,rfl,R4⟩
 have H4:Sp h h4 [an a1 ao (aL x),cU r4 d.l,cU r6 (aV m)]:=H3.comp R4
 have hsl:=hJ m hz
 obtain⟨pg,hpg⟩:∃pg,pg=aV m:=⟨_,rfl⟩
 rw[←hpg]at H4 hsl
 have hr6:=(aa.qI (H4.bc 3 [2])).1
 refine⟨r6,rfl,?_⟩
 obtain⟨rs,H4⟩:=(H4.cN [2,1]).Kd fun _=>rfl
 refine au (fun i:Nat=>(i:Int)) (fun i h'=>i≤pg.length∧((pg.take i).all fun p=>decide (p∈d.l))=true∧Sp h h' [cK (zk 1 aC) 1 b9 r6 rs pg,cU r4 d.l]) (fun i=>pg.length-i) 0 rfl ⟨by omega,by simp,H4⟩ ?_
 rintro i h5 ⟨hi,hall,H5⟩
 have hrs:=(H5.fX 0 rfl).2.1
 refine aj (fun e=>?_) (fun e=>?_)
 ·have hi':i<pg.length:=by
   have e':(i:Int)<(r6.len:Int):=e
   omega
  refine(H5.fX 0 rfl).1.JG i rfl (by omega) ?_
  obtain⟨r,hr⟩:∃r,r=rs[i]'(by omega):=⟨_,rfl⟩
  rw[←hr]
  refine H5.alloc ag rfl fun a10 h6 H6=>?_
  refine H6.storeAll ag 2 rfl rfl [.slice r.ptr r.len r.cap] rfl rfl rfl rfl fun h7 H7=>?_
  have H7:Sp h h7 [cK (zk 1 aC) 1 b9 r6 rs pg,cU r4 d.l,an a10 aP [.slice r.ptr r.len r.cap]]:=H7
  have hrow:Rd h7 r 1 aC pg[i]:=by rw[hr];exact Fix.row (H7.fX 0 rfl) hi'
  have hr4:=aa.xx (H7.bc 2 [1]) fun _=>rfl
  refine(Je a10 r pg[i] r4 d.l h7 (H7.box 2 rfl) hrow hr4 (by omega)).mono ?_
  rintro _ h8 ⟨rfl,rfl⟩
  refine⟨_,rfl,aY (fun g2=>⟨?_,.zip H7.ah⟩) fun g2=>?_⟩
  ·have:mj m d.l=false:=by
    unfold mj
    rw[g,Bool.true_and,←hpg]
    exact List.all_eq_false.2 ⟨pg[i],List.getElem_mem hi',by rw[g2];simp⟩
   rw[this]
  ·refine⟨i+1,by rw[Go.Vc.wrap_small _ (by omega) (by omega)];rfl,⟨by omega,?_,H7.cN [0,1]⟩,by omega⟩
   rw[aJ _ _ hi',List.all_append,hall,List.all_cons,List.all_nil,g2];rfl
 ·have:i=pg.length:=by
   have e':¬(i:Int)<(r6.len:Int):=e
   omega
  subst this
  rw[List.take_length]at hall
  exact⟨by unfold mj;rw[g,←hpg,hall];rfl,.zip H5.ah⟩
end Go.Proofs.YtdoiokchdaoonaaGreat
namespace Go.Vc
open Go Wl Go.Proofs.YtdoiokchdaoonaaGreat
theorem KB {w:Pow} (h:w.calm) {S:List Int} (P:List (Int×List UInt8)) (ds:aX) (F:Fit ds S (P.map Prod.fst)) (hP:∀x∈P,x.1∈S∧x.2.length=64):
  (layAll P w ds).1=0∧Fit (layAll P w ds).2.2 S []∧∀s,bQ (layAll P w ds).2.2 s=(yY ds P s).map fun d=>if s∈dD (P.map Prod.fst)then{d with wait:=0,laid:=[],has:=false}else d:=by
 obtain⟨a1,a2,a3⟩:=uM h P ds F hP
 have hw:=kQ h P ds
 unfold layAll
 dsimp only
 rw[if_pos a1,hw]
 obtain⟨b1,b2,b3⟩:=yZ h (S:=S) (dD (P.map Prod.fst)) (gQ P w ds).2.2 a2 fun x hx=>by
  unfold dD at hx
  have hx':=(List.mem_filter.1 hx).2
  obtain⟨y,hy,rfl⟩:=List.mem_map.1 (of_decide_eq_true hx')
  exact(hP y hy).1
 exact⟨b1,b2,fun s=>by rw[b3 s,a3 s]⟩
theorem sk (l:List Int) (k:Nat):(aO l k).Pairwise (·<·):=by
 unfold aO
 refine List.Pairwise.filter _ (List.pairwise_map.2 ?_)
 exact(List.pairwise_lt_range (n:=k)).imp fun h=>by omega
theorem LV {l:List Int} {most:Int} (h1:l.Pairwise (·<·)) (h2:∀x∈l,0≤x∧x≤most):kq l most=true:=by
 unfold kq
 refine mq fun i hi=>?_
 unfold fU cZ
 have hg:l.getD i 0=l[i]:=by rw[List.getD_eq_getElem?_getD,List.getElem?_eq_getElem hi];rfl
 have:=h2 l[i] (List.getElem_mem hi)
 rw[hg,decide_eq_true this.1,decide_eq_true this.2,Bool.true_and,Bool.true_and]
 by_cases h0:i=0
 ·rw[decide_eq_true h0];rfl
 ·have hg':l.getD (i-1) 0=l[i-1]:=by rw[List.getD_eq_getElem?_getD,List.getElem?_eq_getElem (by omega)];rfl
  rw[hg',decide_eq_true (List.pairwise_iff_getElem.1 h1 (i-1) i (by omega) hi (by omega)),Bool.or_true]
theorem xf {p:Pm} {extra:Int} {l:List Int} (hl:l.length≤64) (e0:nZ p extra l=0):cn (bJ p extra l)=true:=by
 obtain⟨h1,h2,h3,_⟩:=y0 e0
 have hh:gM (bJ p extra l)=true:=by
  unfold gM cZ bJ
  simp[h1,h2,h3]
 have hr:kq (bJ p extra l).drives 63=true:=LV (sk l l.length) fun x hx=>by
  obtain⟨n,hn,rfl,_⟩:=(nQ l l.length x).1 hx
  omega
 unfold cn
 rw[hh,hr];rfl
theorem BS (p:Pm) (extra:Int) (l:List Int) (hl:l.length≤24):(aV (bJ p extra l)).length≤1:=by
 unfold aV gm
 rw[List.length_map,List.length_range]
 have hp:=kK l l.length
 have:(gl (bJ p extra l)).length≤19+24:=by
  unfold gl
  split
  ·simp only[List.length_append,bA,List.length_cons,List.length_nil,List.length_map,bJ,List.flatMap_nil];omega
  ·simp
 omega
end Go.Vc
namespace Wl
open Go
end Wl
namespace Go.Vc
open Go Wl Go.Proofs.YtdoiokchdaoonaaGreat
theorem Jf (l:List (Int×List UInt8)) (k:Int):(l.map Prod.fst).count k=(l.filter fun y=>decide (y.1=k)).length:=by
 induction l with
 |nil=>rfl
 |cons y l ih=>
  rw[List.map_cons,List.count_cons,ih,List.filter_cons]
  by_cases h:y.1=k
  ·rw[if_pos (decide_eq_true h),if_pos (by simpa using h)];rfl
  ·rw[if_neg (by simpa using h),if_neg (by simpa using h)];rfl
end Go.Vc
namespace Go.Vc
open Go Wl Go.Proofs.YtdoiokchdaoonaaGreat
theorem uN (n:aE) (k:Int):∀{live:List Int},live.Nodup→k∈live→((bs n live).filter fun y=>decide (y.1=k)).map Prod.snd=aV n
 |[],_,hk=>by cases hk
 |x::live,hnd,hk=>by
  have e:bs n (x::live)=(aV n).map (fun c=>(x,c))++bs n live:=by unfold bs;rw[List.flatMap_cons]
  obtain⟨hx,hnd'⟩:=List.nodup_cons.1 hnd
  rw[e,List.filter_append,List.map_append]
  by_cases hxk:x=k
  ·subst hxk
   have h1:((aV n).map (fun c=>(x,c))).filter (fun y=>decide (y.1=x))=(aV n).map (fun c=>(x,c)):=List.filter_eq_self.2 fun y hy=>by
    obtain⟨c,_,rfl⟩:=List.mem_map.1 hy
    exact decide_eq_true rfl
   have h2:(bs n live).filter (fun y=>decide (y.1=x))=[]:=List.filter_eq_nil_iff.2 fun y hy=>by
    have:=(iH hy).1
    have hne:y.1≠x:=fun h=>hx (h▸this)
    simpa using hne
   rw[h1,h2,List.map_nil,List.append_nil,List.map_map]
   exact List.map_id _
  ·have h1:((aV n).map (fun c=>(x,c))).filter (fun y=>decide (y.1=k))=[]:=List.filter_eq_nil_iff.2 fun y hy=>by
    obtain⟨c,_,rfl⟩:=List.mem_map.1 hy
    simpa using hxk
   rw[h1,List.map_nil,List.nil_append]
   rcases List.mem_cons.1 hk with h|h
   ·exact absurd h.symm hxk
   ·exact uN n k hnd' h
end Go.Vc
namespace Go.Proofs.YtdoiokchdaoonaaGreat
open Go Go.Vc Go.Proofs Wl
theorem LW {p:Pm} {seed:Int} {d:Row} {K H w n:Nat} (B:bN p seed d K H w n) (id:Int):xd p seed d id=if bV id then jB w (ie p seed d) (ib n seed id)else[]:=by
 unfold xd;rw[B.ve,show p.2.2.toNat=w by have:=B.s;omega]
theorem KC {m:aE} {o i seed:Int} {d:Row} {id:Int} {K H w n:Nat} (B:bN m.p seed d K H w n) (ho:0≤o∧o≤16777215) (hi:0≤i∧i≤7) (hid:0≤id∧id≤65535):gS (iL m o i seed d id)=true:=by
 rw[ic]
 refine⟨ho,hi,hid,B.may,?_⟩
 have hm:bV id=true:=by unfold bV;rw[decide_eq_true hid.1,decide_eq_true hid.2];rfl
 show((xd m.p seed d id).length:Int)=m.p.2.2
 rw[LW B id,if_pos hm,B.Mk id,B.s]
theorem LX {m:aE} {o i seed:Int} {d:Row} {id id':Int} (h:id<id'):CM (iL m o i seed d id) (iL m o i seed d id'):=by
 unfold CM rD qS iL
 dsimp only
 exact⟨decide_eq_true (by omega),decide_eq_false (by omega)⟩
theorem BU {m:aE} {o i i' seed seed':Int} {d d':Row} {id id':Int} (h:i<i'):CM (iL m o i seed d id) (iL m o i' seed' d' id'):=by
 unfold CM rD qS iL
 dsimp only
 exact⟨decide_eq_true (by omega),decide_eq_false (by omega)⟩
end Go.Proofs.YtdoiokchdaoonaaGreat
namespace Go.Proofs.YtdoiokchdaoonaaGreat
open Go Go.Vc Go.Proofs Wl
def fm (m:aE) (o:Int) (tries:List Int) (bl:List (List UInt8)) (live:List Int) (k:Int) (i:Nat):List dc:=
 ((List.range (m.p.1+m.extra).toNat).filter fun id=>decide (mh (cy o i live) (id:Nat)=k)).map fun id:Nat=>iL m o i (fj o i (tries.getD i 0)) (bl.getD i []) id
def cr (m:aE) (o:Int) (tries:List Int) (bl:List (List UInt8)) (live:List Int) (k:Int) (n:Nat):List dc:=(List.range n).flatMap (fm m o tries bl live k)
theorem n3 (m:aE) (o:Int) (tries:List Int) (bl:List (List UInt8)) (live:List Int) (k:Int) (n:Nat):cr m o tries bl live k (n+1)=cr m o tries bl live k n++fm m o tries bl live k n:=by
 unfold cr;rw[List.range_succ,List.flatMap_append,List.flatMap_cons,List.flatMap_nil,List.append_nil]
theorem uO (m:aE) (o:Int) (tries:List Int) (bl:List (List UInt8)) (live:List Int) (k:Int) (i:Nat):((ji m o tries bl live i).filter fun y=>decide (y.1=k)).map Prod.snd=(fm m o tries bl live k i).map dm:=by
 unfold ji fm
 rw[List.filter_map,List.map_map,List.map_map]
 rfl
theorem sl (m:aE) (o:Int) (tries:List Int) (bl:List (List UInt8)) (live:List Int) (k:Int):∀n,((cH m o tries bl live n).filter fun y=>decide (y.1=k)).map Prod.snd=(cr m o tries bl live k n).map dm
 |0=>by simp[cH,cr]
 |n+1=>by rw[my,n3,List.filter_append,List.map_append,List.map_append,sl m o tries bl live k n,uO]
theorem mU {m:aE} {o:Int} {tries:List Int} {bl:List (List UInt8)} {live:List Int} {k:Int} {i:Nat} {r:dc} (h:r∈fm m o tries bl live k i):∃id:Nat,r=iL m o i (fj o i (tries.getD i 0)) (bl.getD i []) id∧id<(m.p.1+m.extra).toNat:=by
 unfold fm at h
 obtain⟨id,h1,rfl⟩:=List.mem_map.1 h
 exact⟨id,rfl,List.mem_range.1 (List.mem_filter.1 h1).1⟩
theorem y5 {m:aE} {o:Int} {tries:List Int} {bl:List (List UInt8)} {live:List Int} {k:Int} {n:Nat} {r:dc} (h:r∈cr m o tries bl live k n):∃(i id:Nat),r=iL m o i (fj o i (tries.getD i 0)) (bl.getD i []) id∧i<n∧id<(m.p.1+m.extra).toNat:=by
 unfold cr at h
 obtain⟨i,hi,h1⟩:=List.mem_flatMap.1 h
 obtain⟨id,h2,h3⟩:=mU h1
 exact⟨i,id,h2,List.mem_range.1 hi,h3⟩
theorem qx (m:aE) (o:Int) (tries:List Int) (bl:List (List UInt8)) (live:List Int) (k:Int):∀n,(cr m o tries bl live k n).Pairwise CM
 |0=>by simp[cr]
 |n+1=>by
  rw[n3]
  refine List.pairwise_append.2 ⟨qx m o tries bl live k n,?_,fun a ha b hb=>?_⟩
  ·unfold fm
   refine List.pairwise_map.2 ((List.Pairwise.filter _ List.pairwise_lt_range).imp fun h=>LX (by omega))
  ·obtain⟨i,id,rfl,hi,_⟩:=y5 ha
   obtain⟨id',rfl,_⟩:=mU hb
   exact BU (by omega)
end Go.Proofs.YtdoiokchdaoonaaGreat
namespace Wl
open Go
def gr (m:aE) (d:bo) (n:Int):bo:=if ee d d.l.length n then d else{d with l:=ga m d.l,wait:=0,laid:=[],has:=false}
theorem Hj {m:aE} {r:dc} (h:dE m r=true):gS r=true:=by
 unfold dE at h;simp only[Bool.and_eq_true]at h;exact h.1
theorem KD {l:List dc} {r:dc} (h:r∈o0 l):r∈l:=by
 unfold o0 at h
 obtain⟨i,hi,rfl⟩:=List.mem_map.1 h
 have hi:=List.mem_range.1 (List.mem_filter.1 hi).1
 rw[List.getD_eq_getElem?_getD,List.getElem?_eq_getElem hi]
 exact List.getElem_mem hi
theorem Hk {m:aE} {c:List UInt8} {r:dc} (h:eF m c=some r):dQ c=some r∧dE m r=true:=by
 unfold eF at h
 cases hc:dQ c with
 |none=>rw[hc]at h;cases h
 |some x=>
  rw[hc]at h
  dsimp only at h
  by_cases hx:dE m x=true
  ·rw[if_pos hx]at h;injection h with h;subst h;exact⟨rfl,hx⟩
  ·rw[if_neg hx]at h;cases h
theorem Hl {m:aE} {l:List (List UInt8)} {r:dc} (h:r∈fE m l):∃c∈l,dQ c=some r∧dE m r=true:=by
 have h:=List.mem_mergeSort.1 (KD h)
 obtain⟨c,hc,hg⟩:=List.mem_filterMap.1 h
 exact⟨c,hc,Hk hg⟩
theorem Hm (m:aE) (l:List (List UInt8)):∀c∈ga m l,c.length=64:=fun c hc=>by
 rcases List.mem_append.1 hc with h|h
 ·exact qQ h
 ·obtain⟨r,hr,rfl⟩:=List.mem_map.1 h
  obtain⟨_,_,_,hm⟩:=Hl hr
  exact CE (Hj hm)
theorem DV {w:Pow} (hw:w.calm) {d:bo} {l:List (List UInt8)} (hl:∀c∈l,c.length=64) (h1:d.lost=false) (h2:l.length≤d.room):d.rewrite w l=(0,w,{d with l:=l,wait:=0,laid:=[],has:=false}):=by
 unfold bo.rewrite
 have:l.all (fun b=>decide (b.length=64))=true:=List.all_eq_true.2 fun c hc=>decide_eq_true (hl c hc)
 rw[if_neg (by simp[this]),if_neg (by simp[h1]),if_neg (by omega),if_neg (by simp[hw.1]),mi hw];rfl
theorem Hn {w:Pow} (hw:w.calm) {m:aE} {d:bo} {n:Int} (h:jw m d n=true):fl m w d n=(0,w,gr m d n):=by
 have h0:=h
 unfold jw at h
 rw[Bool.and_eq_true,Bool.or_eq_true,Bool.not_eq_true']at h
 obtain⟨h1,h2⟩:=h
 unfold fl gr
 rw[if_neg (by simp[h1]),if_neg (by simp[h0])]
 by_cases hb:ee d d.l.length n=true
 ·rw[if_pos hb,if_pos hb]
 ·rw[if_neg hb,if_neg hb]
  have h3:ee d (ga m d.l).length n=true:=by
   rcases h2 with h2|h2
   ·exact absurd h2 hb
   ·exact h2
  unfold ee at h3
  rw[decide_eq_true_eq]at h3
  exact DV hw (Hm m d.l) h1 (by omega)
theorem DW (m:aE) (ds:aX) (k:Int) (l:List Int) (N:Int→Int):eV m ds (k::l) N=(jg m ds k (N k)&&eV m ds l N):=List.all_cons
theorem wg {m:aE} {ds:aX} {k n:Int} (h:jg m ds k n=true):∃d,bQ ds k=some d∧jw m d n=true:=by
 unfold jg at h
 cases hd:bQ ds k with
 |none=>rw[hd]at h;cases h
 |some d=>rw[hd]at h;exact⟨d,rfl,h⟩
theorem KE (ds:aX) (k:Int) (d:bo):(gx ds k d).length=ds.length:=by unfold gx;simp
theorem KF {ds:aX} {k:Int} {d0 d:bo} (h64:ds.length=64) (hk:bQ ds k=some d0) (s:Int):bQ (gx ds k d) s=if s=k then some d else bQ ds s:=by
 obtain⟨n,rfl,hn⟩:=hY hk
 exact na ds n d s hn h64
theorem BV {m:aE} {ds ds':aX} {l:List Int} {N:Int→Int} (h:∀k∈l,bQ ds k=bQ ds' k):eV m ds l N=eV m ds' l N:=by
 unfold eV
 rw[Bool.eq_iff_iff,List.all_eq_true,List.all_eq_true]
 refine forall_congr' fun k=>forall_congr' fun hk=>?_
 unfold jg
 rw[h k hk]
theorem y6 {w:Pow} (hw:w.calm) {m:aE} {N:Int→Int}:∀{live:List Int} {ds:aX},live.Nodup→ds.length=64→eV m ds live N=true→
  ∃ds',makes m N live w ds=(0,w,ds')∧ds'.length=64∧∀k,bQ ds' k=(bQ ds k).map fun d=>if k∈live then gr m d (N k)else d
 |[],ds,_,h64,_=>⟨ds,rfl,h64,fun k=>by cases bQ ds k<;>simp⟩
 |k::live,ds,hnd,h64,hf=>by
  rw[DW,Bool.and_eq_true]at hf
  obtain⟨hkl,hnd'⟩:=List.nodup_cons.1 hnd
  obtain⟨d,hd,hfd⟩:=wg hf.1
  have e:fg m w ds k (N k)=(0,w,gx ds k (gr m d (N k))):=by
   unfold fg;rw[hd];dsimp only;rw[Hn hw hfd]
  have hat:=KF (d:=gr m d (N k)) h64 hd
  have hf':eV m (gx ds k (gr m d (N k))) live N=true:=by
   rw[←BV (ds:=ds) fun s hs=>?_]
   ·exact hf.2
   ·rw[hat,if_neg (fun hh:s=k=>hkl (hh▸hs))]
  obtain⟨ds',h1,h2,h3⟩:=y6 hw hnd' (by rw[KE];exact h64) hf'
  refine⟨ds',?_,h2,fun s=>?_⟩
  ·show(if(fg m w ds k (N k)).1=0 then makes m N live (fg m w ds k (N k)).2.1 (fg m w ds k (N k)).2.2 else fg m w ds k (N k))=_
   rw[e]
   exact h1
  ·rw[h3 s,hat]
   by_cases hs:s=k
   ·subst hs
    rw[if_pos rfl,hd]
    simp[hkl]
   ·rw[if_neg hs]
    simp[hs]
theorem Ho {m:aE} {d:bo} {n:Int} (h:jw m d n=true):(gr m d n).lost=false∧(gr m d n).room=d.room∧((gr m d n).l.length:Int)+max n 0≤d.room:=by
 unfold jw at h
 rw[Bool.and_eq_true,Bool.or_eq_true,Bool.not_eq_true']at h
 obtain⟨h1,h2⟩:=h
 unfold gr
 by_cases hb:ee d d.l.length n=true
 ·rw[if_pos hb]
  unfold ee at hb
  rw[decide_eq_true_eq]at hb
  exact⟨h1,rfl,by omega⟩
 ·rw[if_neg hb]
  have h3:ee d (ga m d.l).length n=true:=by
   rcases h2 with h2|h2
   ·exact absurd h2 hb
   ·exact h2
  unfold ee at h3
  rw[decide_eq_true_eq]at h3
  exact⟨h1,rfl,by dsimp only;omega⟩
end Wl
namespace Wl
open Go
theorem Fe (b:ByteArray):∀n i r,b.size-i=n→ByteArray.toList.loop b i r=r.reverse++b.data.toList.drop i:=by
 have hs:b.data.toList.length=b.size:=rfl
 intro n
 induction n with
 |zero=>
  intro i r h
  rw[ByteArray.toList.loop,if_neg (by omega),List.drop_eq_nil_of_le (by rw[hs];omega),List.append_nil]
 |succ n ih=>
  intro i r h
  have hi:i<b.size:=by omega
  rw[ByteArray.toList.loop,if_pos hi,ih (i+1) _ (by omega)]
  have hd:b.data.toList.drop i=b.get! i::b.data.toList.drop (i+1):=by
   rw[List.drop_eq_getElem_cons (by rw[hs];exact hi)]
   congr 1
   show _=b.data[i]!
   rw[getElem!_pos b.data i hi,Array.getElem_toList]
  rw[hd,List.reverse_cons,List.append_assoc];rfl
theorem toList_eq (x:ByteArray):x.toList=x.data.toList:=by
 unfold ByteArray.toList;rw[Fe x _ 0 [] rfl];rfl
theorem y7 {a b:ByteArray} (h:a.toList=b.toList):a=b:=by
 rw[toList_eq,toList_eq]at h
 cases a;cases b
 congr
 exact Array.toList_inj.1 h
theorem Ff (a:ByteArray):db a a=false:=Ic _
theorem Jg {a b:ByteArray} (h:fV a b=true) (hn:a≠b):db a b=true:=by
 rcases(xE a b).1 h with h|h
 ·exact h
 ·exact absurd (y7 h) hn
theorem Jh {a b:ByteArray} (h:db a b=true):a≠b:=fun e=>by subst e;rw[Ff]at h;cases h
theorem MO:Ord lJ:=⟨fun a b c h1 h2=>tn _ _ _ h1 h2,fun a b=>tq _ _⟩
theorem KG {m:aE} {x e:ck}:e∈(dS m x).objs↔e∈m.objs∨e=x:=by
 show e∈(m.objs++[x]).mergeSort lJ↔_
 rw[List.mem_mergeSort];simp
end Wl
namespace Go.Proofs.YtdoiokchdaoonaaGreat
open Go Go.Vc Go.Proofs Wl
theorem Ji {name:ByteArray} {l:List Wl.ck} (h:l.any (kP name)=false):∀e∈l,e.name≠name:=fun e he hn=>by
 have:=List.any_eq_false.1 h e he
 unfold kP at this
 rw[hn]at this
 simp at this
theorem Jj {m:aE} {x:Wl.ck} (hm:cn m=true) (hname:gK x.name=true) (hnew:∀e∈m.objs,e.name≠x.name) (hobj:x.object=m.next) (ho:m.objs.length≤11) (hx:m.next≤16777215) (hs:m.seq≤2147483646)
  (hlen:0≤x.length∧x.length≤m.p.1*m.p.2.2*8) (ht:∀t∈x.tries,0≤t∧t≤15) (hc:(x.tries.length:Int)=countP m.p x.length):cn (dS m x)=true:=by
 obtain⟨h1,h2,h3,h4,h5,h6,h7⟩:=(gC m).1 hm
 obtain⟨a1,a2,a3,a4⟩:=(lU m).1 h1
 have hperm:(dS m x).objs.Perm (m.objs++[x]):=List.mergeSort_perm _ _
 have hold:∀e∈m.objs,e.object<m.next:=fun e he=>((ny m e).1 (h5 e he)).2.1.2
 refine(gC _).2 ⟨(lU _).2 ⟨⟨?_,?_⟩,⟨?_,?_⟩,a3,a4⟩,h2,h3,?_,fun e he=>?_,?_,?_⟩
 ·show 1≤m.seq+1;omega
 ·show m.seq+1≤_;omega
 ·show 0≤m.next+1;omega
 ·show m.next+1≤_;omega
 ·rw[hperm.length_eq];simp;omega
 ·rcases KG.1 he with he|rfl
  ·obtain⟨b1,b2,b3,b4,b5⟩:=(ny m e).1 (h5 e he)
   exact(ny _ e).2 ⟨b1,⟨b2.1,by show _<m.next+1;omega⟩,b3,b4,b5⟩
  ·exact(ny _ _).2 ⟨hname,⟨by omega,by show _<m.next+1;omega⟩,hlen,ht,hc⟩
 ·have hnd:(m.objs++[x]).Pairwise (fun a b:Wl.ck=>a.name≠b.name):=List.pairwise_append.2 ⟨h6.imp fun h=>Jh h,List.pairwise_singleton _ _,fun a ha b hb=>by rw[List.mem_singleton.1 hb];exact hnew a ha⟩
  have hnd':=(hperm.pairwise_iff (R:=fun a b:Wl.ck=>a.name≠b.name) fun{a b} h=>Ne.symm h).2 hnd
  have hso:(dS m x).objs.Pairwise (fun a b=>lJ a b=true):=(tl MO (m.objs++[x])).1
  exact(hso.and hnd').imp fun h=>Jg h.1 h.2
 ·have hnd:(m.objs++[x]).Pairwise (fun a b:Wl.ck=>a.object≠b.object):=List.pairwise_append.2 ⟨h7,List.pairwise_singleton _ _,fun a ha b hb=>by rw[List.mem_singleton.1 hb,hobj];have:=hold a ha;omega⟩
  exact(hperm.pairwise_iff (R:=fun a b:Wl.ck=>a.object≠b.object) fun{a b} h=>Ne.symm h).2 hnd
theorem Fg {p:Pm} {o:Int} {n:Nat} {t:List Int} (h:bW p o n=some t):∀x∈t,0≤x∧x≤15:=fun x hx=>by
 obtain⟨i,hi,rfl⟩:=List.getElem_of_mem hx
 obtain⟨k,hk,hk2⟩:=mf h i hi
 have:=(oN hk2).1
 rw[hk];omega
theorem uP {p:Pm} (hp:bF p=true) (b:List UInt8):((aT p b).length:Int)=countP p b.length:=by
 have:=(iC hp b.length).1
 unfold aT;rw[List.length_map,List.length_range];omega
theorem KH {m:aE} {d:Bool} {ds:aX} {name:ByteArray} {b:List UInt8} {t:List Int} (hm:cn m=true) (hr:cW m d ds name b.length=0) (ht:bW m.p m.next (aT m.p b).length=some t):cn (dS m ⟨name,m.next,b.length,t⟩)=true:=by
 obtain⟨z1,z2,z3,z4,z5⟩:=nY hr
 have z4a:¬m.p.1*m.p.2.2*8<(b.length:Int):=fun h=>z4 (.inl h)
 have z4b:m.objs.length≤11:=by have:¬12≤m.objs.length:=fun h=>z4 (.inr h);omega
 have z5b:m.next≤16777215:=by have:¬16777215<m.next:=fun h=>z5 (.inr (.inl h));omega
 have z5c:m.seq≤2147483646:=by have:¬2147483647≤m.seq:=fun h=>z5 (.inr (.inr h));omega
 have hp:=((lU m).1 ((gC m).1 hm).1).2.2.1
 refine Jj hm z2 (Ji z3) rfl z4b z5b z5c ⟨by show 0≤(b.length:Int);omega,by show(b.length:Int)≤_;omega⟩ (Fg ht) ?_
 show(t.length:Int)=countP m.p b.length
 rw[fa ht,uP hp]
end Go.Proofs.YtdoiokchdaoonaaGreat
namespace Go.Proofs.YtdoiokchdaoonaaGreat
open Go Go.Vc Go.Proofs Wl
theorem KI (o b:Int) (l1 l2:List dc):iM o b (l1++l2)=iM o b l1++iM o b l2:=by unfold iM;rw[List.filter_append,List.map_append]
theorem KJ (m:aE) (o:Int) (tries:List Int) (bl:List (List UInt8)) (live:List Int) (k:Int) (b j:Nat):iM o b (fm m o tries bl live k j)=if j=b then(fm m o tries bl live k b).map (fun r=>(r.id,r.data))else[]:=by
 unfold iM
 by_cases h:j=b
 ·subst h
  rw[if_pos rfl]
  congr 1
  refine List.filter_eq_self.2 fun r hr=>?_
  obtain⟨id,rfl,_⟩:=mU hr
  unfold iL
  simp
 ·rw[if_neg h]
  have:(fm m o tries bl live k j).filter (fun r=>decide (r.object=o)&&decide (r.block=(b:Int)))=[]:=List.filter_eq_nil_iff.2 fun r hr=>by
   obtain⟨id,rfl,_⟩:=mU hr
   unfold iL
   simp;omega
  rw[this];rfl
theorem DX (m:aE) (o:Int) (tries:List Int) (bl:List (List UInt8)) (live:List Int) (k:Int) (b:Nat):∀n,iM o b (cr m o tries bl live k n)=if b<n then(fm m o tries bl live k b).map (fun r=>(r.id,r.data))else[]
 |0=>by simp[cr,iM]
 |n+1=>by
  rw[n3,KI,DX m o tries bl live k b n,KJ]
  by_cases h:b<n
  ·rw[if_pos h,if_neg (by omega),if_pos (by omega),List.append_nil]
  ·by_cases h2:n=b
   ·rw[if_neg h,if_pos h2,if_pos (by omega),List.nil_append]
   ·rw[if_neg h,if_neg h2,if_neg (by omega)];rfl
theorem Fh (m:aE) (o:Int) (tries:List Int) (bl:List (List UInt8)) (live:List Int) (k:Int) (b:Nat):((fm m o tries bl live k b).map (fun r=>(r.id,r.data))).map Prod.fst=((List.range (m.p.1+m.extra).toNat).filter fun id=>decide (mh (cy o b live) (id:Nat)=k)).map fun id:Nat=>(id:Int):=by
 unfold fm
 rw[List.map_map,List.map_map]
 rfl
end Go.Proofs.YtdoiokchdaoonaaGreat
namespace Wl
open Go
def fb (cs:List (List UInt8)) (d:bo):bo:=if cs.isEmpty then d else{d with l:=d.l++cs,wait:=0,laid:=[],has:=false}
def iu (P:List (Int×List UInt8)) (s:Int):List (List UInt8):=(P.filter fun x=>decide (x.1=s)).map Prod.snd
theorem DY {P:List (Int×List UInt8)} {s:Int} (h:∀x∈P,x.1≠s):iu P s=[]:=by
 unfold iu
 rw[List.filter_eq_nil_iff.2 fun x hx=>by simpa using h x hx];rfl
theorem DZ (P:List (Int×List UInt8)) (s:Int):(iu P s).length=(P.map Prod.fst).count s:=by
 unfold iu;rw[List.length_map];exact(Go.Vc.Jf P s).symm
theorem wh {l:List Int} {s:Int} (h:0≤s∧s<64):s∈dD l↔s∈l:=by
 unfold dD
 rw[List.mem_filter,decide_eq_true_eq]
 refine⟨fun h=>h.2,fun h'=>⟨?_,h'⟩⟩
 exact List.mem_map.2 ⟨s.toNat,List.mem_range.2 (by omega),by omega⟩
theorem D0 {w:Pow} (hw:w.calm) {ds:aX} {P:List (Int×List UInt8)} (h64:ds.length=64)
  (hfit:∀x∈P,x.2.length=64∧∃d,bQ ds x.1=some d∧d.lost=false∧d.l.length+(iu P x.1).length≤d.room):
  ∃ds',layAll P w ds=(0,w,ds')∧ds'.length=64∧∀s,bQ ds' s=(bQ ds s).map (fb (iu P s)):=by
 have F:Fit ds (P.map Prod.fst) (P.map Prod.fst):=⟨h64,fun k hk=>by
  obtain⟨x,hx,rfl⟩:=List.mem_map.1 hk
  obtain⟨_,d,h1,h2,h3⟩:=hfit x hx
  rw[DZ]at h3
  exact⟨d,h1,h2,h3⟩⟩
 obtain⟨a1,a2,a3⟩:=Go.Vc.KB hw P ds F fun x hx=>⟨List.mem_map.2 ⟨x,hx,rfl⟩,(hfit x hx).1⟩
 refine⟨(layAll P w ds).2.2,?_,a2.len,fun s=>?_⟩
 ·have h2:=KA hw P ds
  exact Prod.ext a1 (Prod.ext h2 rfl)
 ·rw[a3 s]
  unfold yY
  cases hd:bQ ds s with
  |none=>rfl
  |some d=>
   obtain⟨hs0,hs1⟩:=MN hd
   rw[Option.map_some,Option.map_some,Option.map_some]
   congr 1
   unfold fb
   have hm:s∈P.map Prod.fst↔(iu P s).isEmpty=false:=by
    rw[←List.count_pos_iff,←DZ]
    cases hc:iu P s<;>simp
   by_cases he:(iu P s).isEmpty=true
   ·have h0:iu P s=[]:=List.isEmpty_iff.1 he
    have h1:(P.filter fun x=>decide (x.1=s))=[]:=List.map_eq_nil_iff.1 h0
    rw[if_neg (fun h=>by rw[wh ⟨hs0,hs1⟩,hm]at h;rw[h]at he;cases he),if_pos he,h1]
    simp
   ·have hf:(iu P s).isEmpty=false:=by simpa using he
    rw[if_pos ((wh ⟨hs0,hs1⟩).2 (hm.2 hf)),if_neg he]
    rfl
end Wl
namespace Go.Proofs.YtdoiokchdaoonaaGreat
open Go Go.Vc Go.Proofs Wl
theorem oR {n:aE} {live:List Int} (hnd:live.Nodup) (s:Int):iu (bs n live) s=if s∈live then aV n else[]:=by
 by_cases h:s∈live
 ·rw[if_pos h];exact uN n s hnd h
 ·rw[if_neg h];exact DY fun x hx he=>h (he▸(iH hx).1)
theorem D1 (m:aE) (o:Int) (tries:List Int) (bl:List (List UInt8)) (live:List Int) (k:Int) (n:Nat):iu (cH m o tries bl live n) k=(cr m o tries bl live k n).map dm:=sl m o tries bl live k n
theorem xg {m:aE} (h:cn m=true):aV m≠[]:=by
 unfold aV gm gl
 rw[if_pos h]
 intro e
 have:=congrArg List.length e
 simp[bA]at this
 omega
theorem D2 {ds:aX} {l:List Int} (h:l.Nodup):(bU ds l).Nodup:=h.filter _
theorem D3 {ds:aX} {l:List Int} {k:Int} (h:k∈bU ds l):k∈l∧∃d,bQ ds k=some d∧d.lost=false:=by
 obtain⟨h1,h2⟩:=List.mem_filter.1 h
 unfold isLive at h2
 cases hd:bQ ds k with
 |none=>rw[hd]at h2;cases h2
 |some d=>rw[hd]at h2;exact⟨h1,d,rfl,by simpa using h2⟩
theorem Jk (cs:List (List UInt8)) (d:bo):(fb cs d).l=d.l++cs:=by
 unfold fb
 by_cases h:cs.isEmpty=true
 ·rw[if_pos h,List.isEmpty_iff.1 h,List.append_nil]
 ·rw[if_neg h]
theorem oS (cs:List (List UInt8)) (d:bo):(fb cs d).lost=d.lost∧(fb cs d).room=d.room:=by
 unfold fb;split<;>exact⟨rfl,rfl⟩
theorem Jl {cs:List (List UInt8)} (h:cs≠[]) (d:bo):(fb cs d).wait=0∧(fb cs d).has=false∧(fb cs d).laid=[]:=by
 unfold fb
 rw[if_neg (by simpa using h)]
 exact⟨rfl,rfl,rfl⟩
theorem KK {c1 c2:List (List UInt8)} (h:c2≠[]) (d:bo):fb c2 (fb c1 d)=fb (c1++c2) d:=by
 have e:∀c:List (List UInt8),c≠[]→∀d,fb c d={d with l:=d.l++c,wait:=0,laid:=[],has:=false}:=fun c hc d=>by
  unfold fb;rw[if_neg (by simpa using hc)]
 by_cases h1:c1=[]
 ·subst h1;rfl
 ·rw[e c1 h1,e c2 h,e (c1++c2) (by simp[h])]
  simp
theorem uQ (pages:Nat) (l:List (Int×List UInt8)) (k:Int):ir pages l k=pages+(iu l k).length:=by unfold ir iu;rw[List.length_map]
theorem LY {p:Pm} {o:Int} {b:List UInt8} {t:List Int} (hp:bF p=true) (ht:bW p o (aT p b).length=some t) {i:Nat} (hi:i<(aT p b).length):∃K H w n,bN p (fj o i (t.getD i 0)) ((aT p b).getD i []) K H w n:=by
 have hl:=fa ht
 obtain⟨k,hk,hk2⟩:=mf ht i (by omega)
 have hg:yP p o i k=true:=(oN hk2).2.1
 have e:t.getD i 0=(k:Int):=by rw[nw 0 (by omega)];exact hk
 rw[e]
 refine KW hp hg ?_
 have hpm:=(bH p).1 hp
 have hs:0≤p.1*p.2.2:=Int.mul_nonneg (by omega) (by omega)
 have e2:(aT p b)[i]=rp (dC p) b i:=by simp[aT]
 rw[nw [] hi,e2,AV]
 unfold dC
 omega
theorem FQ {m:aE} {b:List UInt8} {t:List Int} (hm:cn m=true) (hx:m.next≤16777215) (h8:(aT m.p b).length≤8) (ht:bW m.p m.next (aT m.p b).length=some t) {i id:Nat} (hi:i<(aT m.p b).length) (hid:id<(m.p.1+m.extra).toNat):
  gS (iL m m.next i (fj m.next i (t.getD i 0)) ((aT m.p b).getD i []) id)=true:=by
 have hpm:=((lU m).1 ((gC m).1 hm).1)
 have hp3:=(bH m.p).1 hpm.2.2.1
 obtain⟨K,H,w,n,B⟩:=LY hpm.2.2.1 ht hi
 exact KC B ⟨hpm.2.1.1,hx⟩ (by omega) (by omega)
theorem Jm {m:aE} {offs:Int} {w:Pow} {ds:aX} {name:ByteArray} {b:List UInt8} (hw:w.calm) (h64:ds.length=64) (hm:cn m=true):
  (cW m (iO w offs) ds name b.length≠0→gY m offs w ds name b=(cW m (iO w offs) ds name b.length,m,w,ds))∧
  (cW m (iO w offs) ds name b.length=0→(bW m.p m.next (aT m.p b).length=none→gY m offs w ds name b=(8,m,w,ds))∧∀t,bW m.p m.next (aT m.p b).length=some t→
   let live:=bU ds m.drives
   let l:=cH m m.next t (aT m.p b) live (aT m.p b).length
   let n:=dS m ⟨name,m.next,b.length,t⟩
   let N:=ir (aV n).length l
   cn n=true∧(eV m ds live N=false→gY m offs w ds name b=(7,m,w,ds))∧(eV m ds live N=true→∃ds',gY m offs w ds name b=(0,n,w,ds')∧ds'.length=64∧
    ∀k,bQ ds' k=(bQ ds k).map fun d=>if k∈live then fb ((cr m m.next t (aT m.p b) live k (aT m.p b).length).map dm++aV n) (gr m d (N k))else d)):=by
 refine⟨fun h=>by unfold gY;rw[if_pos h],fun h=>⟨fun ht=>by unfold gY;rw[if_neg (by simpa using h),ht],fun t ht=>?_⟩⟩
 intro live l n N
 have hmn:cn n=true:=KH hm h ht
 obtain⟨z1,z2,z3,z4,z5⟩:=nY h
 have hpm:=((lU m).1 ((gC m).1 hm).1)
 have z4a:¬m.p.1*m.p.2.2*8<(b.length:Int):=fun h=>z4 (.inl h)
 have h8:=FO hpm.2.2.1 z4a
 have hne:live≠[]:=fun h=>z5 (.inl h)
 have hnx:0≤m.next∧m.next≤16777215:=⟨hpm.2.1.1,by have:¬16777215<m.next:=fun h=>z5 (.inr (.inl h));omega⟩
 have hnd:live.Nodup:=D2 (xJ hm)
 have hin:∀k∈live,0≤k∧k<64:=fun k hk=>lK hm k (D3 hk).1
 have e:gY m offs w ds name b=(if eV m ds live N=false then(7,m,w,ds)else if(makes m N live w ds).1≠0 then((makes m N live w ds).1,m,(makes m N live w ds).2)else
   if(layAll l (makes m N live w ds).2.1 (makes m N live w ds).2.2).1≠0 then((layAll l (makes m N live w ds).2.1 (makes m N live w ds).2.2).1,m,(layAll l (makes m N live w ds).2.1 (makes m N live w ds).2.2).2)else
   ((layAll (bs n live) (layAll l (makes m N live w ds).2.1 (makes m N live w ds).2.2).2.1 (layAll l (makes m N live w ds).2.1 (makes m N live w ds).2.2).2.2).1,if(layAll (bs n live) (layAll l (makes m N live w ds).2.1 (makes m N live w ds).2.2).2.1 (layAll l (makes m N live w ds).2.1 (makes m N live w ds).2.2).2.2).1=0 then n else m,(layAll (bs n live) (layAll l (makes m N live w ds).2.1 (makes m N live w ds).2.2).2.1 (layAll l (makes m N live w ds).2.1 (makes m N live w ds).2.2).2.2).2)):=by
  unfold gY
  rw[if_neg (by simpa using h),ht]
 refine⟨hmn,fun hf=>by rw[e,if_pos hf],fun hf=>?_⟩
 rw[e,if_neg (by rw[hf];decide)]
 obtain⟨d1,m1,m2,m3⟩:=y6 hw (N:=N) hnd h64 hf
 rw[m1]
 dsimp only
 rw[if_neg (by simp)]
 have hlp:∀y∈l,y.1∈live:=fun y hy=>(DS hnx hne hin h8 hy).1
 have hl64:∀y∈l,y.2.length=64:=fun y hy=>by
  obtain⟨i,hi,hy⟩:=List.mem_flatMap.1 hy
  obtain⟨id,hid,rfl⟩:=List.mem_map.1 hy
  exact CE (FQ hm hnx.2 h8 ht (List.mem_range.1 hi) (List.mem_range.1 hid))
 have hfits:∀k∈live,∃d,bQ d1 k=some d∧d.lost=false∧(d.l.length:Int)+max (N k) 0≤d.room:=fun k hk=>by
  obtain⟨_,d,hd,hdl⟩:=D3 hk
  have hfk:=List.all_eq_true.1 hf k hk
  obtain⟨d',hd',hfd⟩:=wg hfk
  obtain⟨r1,r2,r3⟩:=Ho hfd
  refine⟨gr m d' (N k),?_,r1,by rw[r2];exact r3⟩
  rw[m3 k,hd',Option.map_some,if_pos hk]
 obtain⟨d2,l1,l2,l3⟩:=D0 hw (ds:=d1) (P:=l) m2 fun x hx=>by
  obtain⟨d,f1,f2,f3⟩:=hfits x.1 (hlp x hx)
  refine⟨hl64 x hx,d,f1,f2,?_⟩
  have:N x.1=_:=uQ _ _ _
  omega
 rw[l1]
 dsimp only
 rw[if_neg (by simp)]
 obtain⟨d3,p1,p2,p3⟩:=D0 hw (ds:=d2) (P:=bs n live) l2 fun x hx=>by
  obtain⟨hxl,hx64⟩:=iH hx
  obtain⟨d,f1,f2,f3⟩:=hfits x.1 hxl
  refine⟨hx64,fb (iu l x.1) d,by rw[l3,f1,Option.map_some],by rw[(oS _ _).1];exact f2,?_⟩
  have:N x.1=_:=uQ _ _ _
  rw[(oS _ _).2,Jk,oR hnd,if_pos hxl,List.length_append]
  omega
 rw[p1]
 refine⟨d3,rfl,p2,fun k=>?_⟩
 rw[p3 k,l3 k,m3 k,Option.map_map,Option.map_map]
 congr 1
 funext d
 show fb (iu (bs n live) k) (fb (iu l k) (if k∈live then gr m d (N k)else d))=_
 rw[oR hnd]
 by_cases hk:k∈live
 ·rw[if_pos hk,if_pos hk,if_pos hk]
  have hfl:iu l k=(cr m m.next t (aT m.p b) live k (aT m.p b).length).map dm:=D1 _ _ _ _ _ _ _
  rw[hfl,KK (xg hmn)]
 ·rw[if_neg hk,if_neg hk,if_neg hk,DY (P:=l) fun x hx (he:x.1=k)=>hk (he▸hlp x hx)]
  rfl
end Go.Proofs.YtdoiokchdaoonaaGreat
namespace Go.Proofs.YtdoiokchdaoonaaGreat
open Go Go.Vc Go.Proofs Wl
theorem y8 (l:List Int) (hl:l.length≤64) (s:Int):bQ (ea l (aO l l.length).length) s=if s∈aO l l.length then some (bo.new (l.getD s.toNat 0).toNat)else none:=by
 by_cases hs:0≤s∧s<64
 ·unfold bQ ea
  rw[if_pos hs,List.getElem?_map,List.getElem?_range (by omega),Option.map_some,List.take_of_length_le (Nat.le_refl _)]
  have e:((s.toNat:Nat):Int)=s:=by omega
  rw[e]
  by_cases h:s∈aO l l.length
  ·rw[if_pos h];rfl
  ·rw[if_neg h];rfl
 ·rw[if_neg (fun h=>?_)]
  ·unfold bQ;rw[if_neg hs]
  ·obtain⟨n,hn,rfl,_⟩:=(nQ l l.length s).1 h
   omega
theorem Jn {p:Pm} {extra:Int} {l:List Int} (hl:l.length≤64) (e0:nZ p extra l=0):
  ∃D,df p extra Pow.new l=(0,Pow.new,D)∧D.length=64∧∀s,bQ D s=if s∈aO l l.length then some ⟨(l.getD s.toNat 0).toNat,aV (bJ p extra l),0,[],false,false⟩else none:=by
 have hm:=xf hl e0
 have hnd:(aO l l.length).Nodup:=(sk l l.length).imp fun h e=>by omega
 have hany:=(y0 e0).2.2.2.2
 rw[Hg,if_pos e0]
 obtain⟨D,h1,h2,h3⟩:=D0 DU (ds:=ea l (aO l l.length).length) (P:=bs (bJ p extra l) (aO l l.length)) (EV _ _) fun x hx=>by
  obtain⟨hx1,hx2⟩:=iH hx
  refine⟨hx2,bo.new (l.getD x.1.toNat 0).toNat,by rw[y8 l hl,if_pos hx1],rfl,?_⟩
  rw[oR hnd,if_pos hx1]
  have:=List.any_eq_false.1 hany x.1 hx1
  simp only[decide_eq_true_eq]at this
  show 0+_≤(l.getD x.1.toNat 0).toNat
  omega
 refine⟨D,h1,h2,fun s=>?_⟩
 rw[h3,y8 l hl,oR hnd]
 by_cases h:s∈aO l l.length
 ·rw[if_pos h,if_pos h,if_pos h,Option.map_some]
  unfold fb
  rw[if_neg (by simpa using xg hm)]
  rfl
 ·rw[if_neg h,if_neg h,if_neg h];rfl
theorem Hp (m:aE):(aV m).length=((gl m).length+47)/48:=by unfold aV gm;rw[List.length_map,List.length_range]
theorem MP (x:Wl.ck):(fD x).length=6+x.name.size+x.tries.length:=by
 unfold fD
 simp[bA]
 omega
theorem Jo {m:aE} (h:cn m=true):(gl m).length=14+m.drives.length+(m.objs.flatMap fD).length:=by
 unfold gl
 rw[if_pos h]
 simp only[List.length_append,bA,List.length_cons,List.length_nil,List.length_map]
 omega
theorem Hq {p:Pm} {n:Int} (h:n≤p.1*p.2.2*8):countP p n≤8:=by
 unfold countP
 split
 ·rename_i hh
  rw[Bool.and_eq_true,decide_eq_true_eq]at hh
  have:=(bH p).1 hh.1
  have hs:0<p.1*p.2.2:=Int.mul_pos (by omega) (by omega)
  have:(n-1)/(p.1*p.2.2)<8:=Int.ediv_lt_of_lt_mul hs (by rw[Int.mul_comm 8];omega)
  omega
 ·decide
theorem LZ {m:aE} {x:Wl.ck} (h:eK m x=true):(fD x).length≤26:=by
 obtain⟨h1,h2,h3,h4,h5⟩:=(ny m x).1 h
 have:=Hq h3.2
 have hn:x.name.size≤12:=by unfold gK at h1;simp at h1;omega
 rw[MP]
 omega
theorem Ai {α β:Type} {f:α→List β} {c:Nat}:∀{l:List α},(∀x∈l,(f x).length≤c)→(l.flatMap f).length≤l.length*c
 |[],_=>by simp
 |x::l,h=>by
  have h1:=h x List.mem_cons_self
  have h2:=Ai (l:=l) fun y hy=>h y (List.mem_cons_of_mem _ hy)
  rw[List.flatMap_cons,List.length_append,List.length_cons,Nat.succ_mul]
  omega
theorem KL {m:aE} (h:cn m=true):(aV m).length*48≤61+m.drives.length+m.objs.length*26:=by
 have:=Ai (f:=fD) (l:=m.objs) fun x hx=>LZ (((gC m).1 h).2.2.2.2.1 x hx)
 have h2:=Jo h
 rw[Hp]
 omega
theorem Jp {m:aE} (h:cn m=true):(aV m).length≤9:=by
 have h1:=KL h
 have h2:=oD h
 have h3:=((gC m).1 h).2.2.2.1
 omega
theorem Fi {α β:Type} (f:α→List β) (c:Nat) (n:Nat) (l:List α) (h:∀x∈l,(f x).length≤c) (hn:l.length≤n):(l.flatMap f).length≤n*c:=Nat.le_trans (Ai h) (Nat.mul_le_mul_right c hn)
theorem Fj (m:aE) (o:Int) (tries:List Int) (bl:List (List UInt8)) (live:List Int) (k:Int) (n:Nat):(cr m o tries bl live k n).length≤n*(m.p.1+m.extra).toNat:=by
 unfold cr
 refine Fi _ _ n _ (fun i _=>?_) (by simp)
 have:=congrArg List.length (uO m o tries bl live k i)
 rw[List.length_map,List.length_map]at this
 rw[←this]
 refine Nat.le_trans (List.length_filter_le _ _) ?_
 rw[rA]
 exact Nat.le_refl _
end Go.Proofs.YtdoiokchdaoonaaGreat
namespace Go.Proofs.YtdoiokchdaoonaaGreat
open Go Go.Vc Go.Proofs Wl
theorem MQ {order:List Int} (hne:order≠[]) (id:Nat):mh order id=order[id%order.length]'(Nat.mod_lt _ (by cases order with|nil=>exact absurd rfl hne|cons=>simp)):=by
 have hl:0<order.length:=by cases order with|nil=>exact absurd rfl hne|cons=>simp
 have hlt:=Nat.mod_lt id hl
 unfold mh B2
 rw[if_neg (by rintro(h|h);exact hne h;omega)]
 have e:((id:Int)%(order.length:Int)).toNat=id%order.length:=by omega
 rw[e,List.getD_eq_getElem?_getD,List.getElem?_eq_getElem hlt];rfl
theorem Hr {order:List Int} (hnd:order.Nodup) (j:Nat) (hj:j<order.length) (T:Nat):((List.range T).filter fun id=>decide (mh order (id:Nat)=order[j])).length=ig order.length T j:=by
 unfold ig
 congr 1
 refine List.filter_congr fun id _=>?_
 have hne:order≠[]:=fun h=>by rw[h]at hj;simp at hj
 rw[MQ hne id,decide_eq_decide]
 constructor
 ·intro h
  exact(List.getElem_inj hnd).1 h
 ·intro h
  simp only[h]
end Go.Proofs.YtdoiokchdaoonaaGreat
namespace Go.Proofs.YtdoiokchdaoonaaGreat
open Go Go.Vc Go.Proofs Wl
theorem D4 (e:Wl.ck):([]++[e]).mergeSort lJ=[e]:=by simp
theorem Fk {m:aE} {e:Wl.ck} {o i:Int} {d:Row} {id:Int} {k:Nat} (hr:gS (iL m o i (fj o i (e.tries.getD k 0)) d id)=true) (hm:m.objs=[]) (ho:e.object=o) (hi:i=k) (hk:k<e.tries.length):dE (dS m e) (iL m o i (fj o i (e.tries.getD k 0)) d id)=true:=by
 unfold dE
 rw[hr,Bool.true_and]
 have hobj:(dS m e).objs=[e]:=by unfold dS;dsimp only;rw[hm];exact D4 e
 rw[hobj]
 unfold iL dS
 dsimp only
 rw[decide_eq_true rfl,Bool.true_and,List.any_cons,List.any_nil,Bool.or_false,decide_eq_true ho,decide_eq_true (show i<(e.tries.length:Int)by omega),hi,Int.toNat_natCast,decide_eq_true rfl];rfl
end Go.Proofs.YtdoiokchdaoonaaGreat
namespace Go.Proofs.YtdoiokchdaoonaaGreat
open Go Go.Vc Go.Proofs Wl
end Go.Proofs.YtdoiokchdaoonaaGreat
namespace Go.Proofs.YtdoiokchdaoonaaGreat
open Go Go.Vc Go.Proofs Wl
set_option maxRecDepth 100000
def qy (a b c:Int):Int×Int×Int:=(1+a%6,1+b%3,1+c%9)
theorem Hs (a b c:Int) (h:Heap):ab Tryz.prog oc #[.int .i64 a,.int .i64 b,.int .i64 c] h fun v h'=>v=kl (qy a b c)∧Sp h h' []:=by
 refine nD a b c ?_
 unfold jQ
 refine(Sp.refl h).alloc ag rfl fun x h1 H1=>?_
 refine(dF a 6 h1 (by decide) (by decide)).mono ?_
 rintro v h2 ⟨rfl,rfl⟩
 refine⟨_,rfl,(dF b 3 h2 (by decide) (by decide)).mono ?_⟩
 rintro v h3 ⟨rfl,rfl⟩
 refine⟨_,rfl,(dF c 9 h3 (by decide) (by decide)).mono ?_⟩
 rintro v h4 ⟨rfl,rfl⟩
 refine⟨_,rfl,?_⟩
 dsimp only
 rw[wrap_small _ (by omega) (by omega),wrap_small _ (by omega) (by omega),wrap_small _ (by omega) (by omega)]
 refine H1.storeAll ag 0 rfl rfl [.int .i64 (1+a%6),.int .i64 (1+b%3),.int .i64 (1+c%9)] rfl rfl rfl rfl fun h5 H5=>?_
 exact⟨qy a b c,(H5.box 0 rfl).aH _ rfl,rfl,.zip H5.ah⟩
end Go.Proofs.YtdoiokchdaoonaaGreat
namespace Go.Proofs.YtdoiokchdaoonaaGreat
open Go Go.Vc Go.Proofs Wl
theorem Jq (a b c:Int):bF (qy a b c)=true:=by
 rw[bH]
 unfold qy
 dsimp only
 omega
theorem ml (c:Nat):aO (List.replicate c 300) c=(List.range c).map fun i:Nat=>(i:Int):=by
 unfold aO
 refine List.filter_eq_self.2 fun x hx=>?_
 obtain⟨i,hi,rfl⟩:=List.mem_map.1 hx
 have hi:=List.mem_range.1 hi
 simp[List.getD_eq_getElem?_getD,hi]
theorem Jr {p:Pm} {extra:Int} (hp:bF p=true) (hx:0≤extra∧extra≤16) (c:Nat) (hc:1≤c∧c≤24):nZ p extra (List.replicate c 300)=0:=by
 have h1:(de (List.replicate c 300)).2=true:=by
  have hall:(List.replicate c (300:Int)).all (cZ · 0 512)=true:=List.all_eq_true.2 fun y hy=>by
   rw[List.eq_of_mem_replicate hy];rfl
  unfold de
  rw[if_pos hall,List.length_replicate,ml]
  simp;omega
 have h2:cZ extra 0 16=true:=by unfold cZ;rw[decide_eq_true hx.1,decide_eq_true hx.2];rfl
 have h3:((aO (List.replicate c 300) (List.replicate c (300:Int)).length).any fun i=>decide ((List.replicate c (300:Int)).getD i.toNat 0<((aV (bJ p extra (List.replicate c 300))).length:Int)))=false:=by
  refine List.any_eq_false.2 fun y hy=>?_
  rw[List.length_replicate,ml]at hy
  obtain⟨i,hi,rfl⟩:=List.mem_map.1 hy
  have hi:=List.mem_range.1 hi
  have hs:=BS p extra (List.replicate c 300) (by simp;omega)
  have hg:(List.replicate c (300:Int)).getD ((i:Int)).toNat 0=300:=by rw[Int.toNat_natCast];simp[List.getD_eq_getElem?_getD,hi]
  rw[hg]
  simp;omega
 unfold nZ
 rw[h1,hp,h2,h3];rfl
end Go.Proofs.YtdoiokchdaoonaaGreat
namespace Go.Proofs.YtdoiokchdaoonaaGreat
open Go Go.Vc Go.Proofs Wl
theorem Fl (m n:aE):fE m (aV n)=[]:=by
 unfold fE
 rw[qX];simp[o0]
theorem Fm {m:aE} {d:bo} {N:Int} (h:d.l=aV m):(gr m d N).l=aV m:=by
 unfold gr
 split
 ·exact h
 ·show ga m d.l=_
  unfold ga kO
  rw[h,Fl];simp
theorem Ht {m:aE} {ds:aX} {name:ByteArray} {n:Nat} (h1:gK name=true) (h2:∀e∈m.objs,e.name≠name) (h3:(n:Int)≤m.p.1*m.p.2.2*8) (h4:m.objs.length≤11) (h5:bU ds m.drives≠[]) (h6:m.next≤16777215) (h7:m.seq≤2147483646):cW m false ds name n=0:=by
 have ha:m.objs.any (kP name)=false:=List.any_eq_false.2 fun e he h=>h2 e he (y7 (by unfold kP at h;simpa using h))
 unfold cW
 rw[if_neg (by decide),if_neg (by simp[h1]),if_neg (by simp[ha]),if_neg (by omega),if_neg (by rintro(h|h|h);exact h5 h;omega;omega)]
theorem Fo {p:Pm} {extra:Int} {c:Nat} {name:ByteArray} {b:List UInt8} (hp:bF p=true) (hx:0≤extra∧extra≤16) (hc:1≤c∧c≤24) (hk:p.1+extra≤12) (hb:(b.length:Int)≤3*(p.1*p.2.2)+1) (hn:gK name=true) {D:aX} (h64:D.length=64)
  (hD:∀s,bQ D s=if s∈aO (List.replicate c (300:Int)) (List.replicate c (300:Int)).length then some ⟨((List.replicate c (300:Int)).getD s.toNat 0).toNat,aV (bJ p extra (List.replicate c 300)),0,[],false,false⟩else none):
  let m:=bJ p extra (List.replicate c 300)
  (bW p 0 (aT p b).length=none→gY m 0 Pow.new D name b=(8,m,Pow.new,D))∧
  ∀t,bW p 0 (aT p b).length=some t→∃D',gY m 0 Pow.new D name b=(0,dS m ⟨name,0,b.length,t⟩,Pow.new,D')∧D'.length=64∧cn (dS m ⟨name,0,b.length,t⟩)=true∧(aT p b).length≤8∧(∀k d,bQ D' k=some d→d.l.length≤100)∧
   ∀k∈m.drives,∃d',bQ D' k=some d'∧d'.lost=false∧d'.wait=0∧d'.room=300∧d'.l=aV m++(cr m 0 t (aT p b) m.drives k (aT p b).length).map dm++aV (dS m ⟨name,0,b.length,t⟩):=by
 intro m
 have hpm:=(bH p).1 hp
 have hs0:0<p.1*p.2.2:=Int.mul_pos (by omega) (by omega)
 have e0:nZ p extra (List.replicate c 300)=0:=Jr hp hx c hc
 have hl:(List.replicate c (300:Int)).length≤64:=by simp;omega
 have hm:cn m=true:=xf hl e0
 have hdr:m.drives=(List.range c).map fun i:Nat=>(i:Int):=by show aO _ _=_;rw[List.length_replicate];exact ml c
 have hDm:∀k∈m.drives,bQ D k=some ⟨300,aV m,0,[],false,false⟩:=fun k hk'=>by
  rw[hD k,if_pos (show k∈aO _ _ from hk')]
  rw[hdr]at hk'
  obtain⟨i,hi,rfl⟩:=List.mem_map.1 hk'
  have hi:=List.mem_range.1 hi
  rw[Int.toNat_natCast,nw 0 (by simpa using hi),List.getElem_replicate];rfl
 have hlive:bU D m.drives=m.drives:=List.filter_eq_self.2 fun k hk'=>by
  unfold isLive;rw[hDm k hk'];rfl
 have hr:cW m (iO Pow.new 0) D name b.length=0:=by
  refine Ht hn (fun e he=>by cases he) ?_ (show 0≤11 by decide) ?_ (show(0:Int)≤16777215 by decide) (show(1:Int)≤2147483646 by decide)
  ·show(b.length:Int)≤p.1*p.2.2*8;omega
  ·rw[hlive,hdr]
   intro h
   have:=congrArg List.length h
   simp at this;omega
 obtain⟨_,P0⟩:=Jm (m:=m) (offs:=0) (w:=Pow.new) (ds:=D) (name:=name) (b:=b) DU h64 hm
 obtain⟨P1,P2⟩:=P0 hr
 refine⟨P1,fun t ht=>?_⟩
 obtain⟨hmn,_,P3⟩:=P2 t ht
 rw[hlive]at P3
 have hnb:(aT p b).length≤4:=by
  have:=uP hp b
  have hle:countP p b.length≤4:=by
   unfold countP
   split
   ·have:((b.length:Int)-1)/(p.1*p.2.2)<4:=Int.ediv_lt_of_lt_mul hs0 (by rw[Int.mul_comm 4];omega)
    omega
   ·decide
  omega
 have h48:∀k,(cr m m.next t (aT m.p b) m.drives k (aT m.p b).length).length≤48:=fun k=>by
  refine Nat.le_trans (Fj _ _ _ _ _ _ _) ?_
  have:(m.p.1+m.extra).toNat≤12:=by show(p.1+extra).toNat≤12;omega
  exact Nat.le_trans (Nat.mul_le_mul hnb this) (by decide)
 have h9:=Jp hmn
 have h9':=Jp hm
 have hfit:eV m D m.drives (ir (aV (dS m ⟨name,m.next,b.length,t⟩)).length (cH m m.next t (aT m.p b) m.drives (aT m.p b).length))=true:=by
  refine List.all_eq_true.2 fun k hk'=>?_
  unfold jg
  rw[hDm k hk']
  show jw _ _ _=true
  unfold jw ee
  rw[uQ,D1,List.length_map]
  have:=h48 k
  simp only[Bool.not_false,Bool.true_and,Bool.or_eq_true,decide_eq_true_eq]
  left
  omega
 obtain⟨D',q1,q2,q3⟩:=P3 hfit
 have hall:∀k∈m.drives,∃d',bQ D' k=some d'∧d'.lost=false∧d'.wait=0∧d'.room=300∧d'.l=aV m++(cr m 0 t (aT p b) m.drives k (aT p b).length).map dm++aV (dS m ⟨name,0,b.length,t⟩):=fun k hk'=>?_
 ·refine⟨D',q1,q2,hmn,by omega,fun k d hd=>?_,hall⟩
  by_cases hk':k∈m.drives
  ·obtain⟨d',hd',_,_,_,hl'⟩:=hall k hk'
   rw[hd]at hd'
   injection hd' with hd'
   subst hd'
   rw[hl',List.length_append,List.length_append,List.length_map]
   have:(cr m 0 t (aT p b) m.drives k (aT p b).length).length≤48:=h48 k
   have:(aV (dS m ⟨name,0,b.length,t⟩)).length≤9:=h9
   omega
  ·have:=q3 k
   rw[hd,hD k,if_neg (show¬k∈aO _ _ from hk')]at this
   cases this
 have:=q3 k
 rw[hDm k hk',Option.map_some,if_pos hk']at this
 refine⟨_,this,?_,?_,?_,?_⟩
 ·rw[(oS _ _).1];unfold gr;split<;>rfl
 ·exact(Jl (by simp[xg hmn]) _).1
 ·rw[(oS _ _).2];unfold gr;split<;>rfl
 ·rw[Jk,Fm rfl]
  simp only[List.append_assoc];rfl
end Go.Proofs.YtdoiokchdaoonaaGreat
namespace Go.Proofs.YtdoiokchdaoonaaGreat
open Go Go.Vc Go.Proofs Wl
theorem Hu {m n n0:aE} {ds':aX} {k o:Int} {tries:List Int} {bl:List (List UInt8)} {live:List Int} {nb b:Nat} {d':bo} (hd:bQ ds' k=some d') (hl:d'.l=aV n0++(cr m o tries bl live k nb).map dm++aV n)
  (hc:∀r∈cr m o tries bl live k nb,dE n r=true∧0≤r.seed∧r.seed<4294967296) (hb:b<nb):qw n ds' o b k=(fm m o tries bl live k b).map (fun r=>(r.id,r.data)):=by
 unfold qw
 rw[hd]
 show iM o b (fE n d'.l)=_
 rw[hl,Bd,Is (qx m o tries bl live k nb) hc,DX,if_pos hb]
theorem L0 {m n n0:aE} {ds':aX} {o:Int} {tries:List Int} {bl:List (List UInt8)} {live:List Int} {nb b:Nat} {d':bo} (j:Nat) (hj:j<(cy o b live).length) (hnd:(cy o b live).Nodup) (hd:bQ ds' (cy o b live)[j]=some d') (hl:d'.l=aV n0++(cr m o tries bl live (cy o b live)[j] nb).map dm++aV n)
  (hc:∀r∈cr m o tries bl live (cy o b live)[j] nb,dE n r=true∧0≤r.seed∧r.seed<4294967296) (hb:b<nb):((gN n ds' [(cy o b live)[j]] o b).map Prod.fst).length=ig (cy o b live).length (m.p.1+m.extra).toNat j:=by
 unfold gN
 rw[List.flatMap_cons,List.flatMap_nil,List.append_nil,Hu hd hl hc hb,Fh,List.length_map]
 exact Hr hnd j hj _
end Go.Proofs.YtdoiokchdaoonaaGreat
namespace Go.Proofs.YtdoiokchdaoonaaGreat
open Go Go.Vc Go.Proofs Wl
theorem Hv {o b:Int} {live:List Int} (ho:0≤o∧o≤16777215) (hb:0≤b∧b<8) (hnd:live.Nodup) (hin:∀k∈live,0≤k∧k<64):(cy o b live).Nodup∧(cy o b live).Perm live:=by
 have e:cy o b live=mg ((8*o+b)%64).toNat live:=by unfold cy;rw[if_pos (by omega)]
 rw[e]
 have h1:=Kx ((8*o+b)%64).toNat live
 refine⟨h1,(List.perm_ext_iff_of_nodup h1 hnd).2 fun a=>?_⟩
 rw[A8]
 exact⟨fun h=>h.1,fun h=>⟨h,hin a h⟩⟩
end Go.Proofs.YtdoiokchdaoonaaGreat
namespace Go.Proofs.YtdoiokchdaoonaaGreat
open Go Go.Vc Go.Proofs Wl
theorem KM {l l':List Nat} (h:l.Perm l'):l.sum=l'.sum:=by
 induction h with
 |nil=>rfl
 |cons x _ ih=>rw[List.sum_cons,List.sum_cons,ih]
 |swap x y l=>simp only[List.sum_cons];omega
 |trans _ _ h1 h2=>exact h1.trans h2
theorem KN {order live:List Int} (hp:order.Perm live) (hne:0<order.length) (f:Int→Nat) (T:Nat) (hf:∀j (hj:j<order.length),f order[j]=ig order.length T j):(live.map f).sum=T∧∀k∈live,T/order.length≤f k∧f k≤T/order.length+1:=by
 have e:order.map f=(List.range order.length).map (ig order.length T):=by
  apply List.ext_getElem
  ·simp
  ·intro j h1 h2
   simp only[List.getElem_map,List.getElem_range]
   exact hf j (by simpa using h1)
 refine⟨?_,fun k hk=>?_⟩
 ·rw[←KM (hp.map f),e];exact Iu hne T
 ·obtain⟨j,hj,rfl⟩:=List.getElem_of_mem (hp.mem_iff.2 hk)
  rw[hf j hj]
  exact CP hne T j hj
end Go.Proofs.YtdoiokchdaoonaaGreat
namespace Go.Proofs.YtdoiokchdaoonaaGreat
open Go Go.Vc Go.Proofs
set_option maxRecDepth 100000
end Go.Proofs.YtdoiokchdaoonaaGreat
namespace Go.Proofs.YtdoiokchdaoonaaGreat
open Go Go.Vc Go.Proofs Wl
set_option maxRecDepth 100000
end Go.Proofs.YtdoiokchdaoonaaGreat
namespace Go.Proofs.YtdoiokchdaoonaaGreat
open Go Go.Vc Go.Proofs Wl
set_option maxRecDepth 100000
end Go.Proofs.YtdoiokchdaoonaaGreat
namespace Go.Proofs.YtdoiokchdaoonaaGreat
open Go Go.Vc Go.Proofs Wl
set_option maxRecDepth 100000
section
variable {B B':aq} {h0 h0' h h':Heap} {As As':List HP} {a b pw pw2:Addr} {d:bo}
end
end Go.Proofs.YtdoiokchdaoonaaGreat
namespace Go.Proofs.YtdoiokchdaoonaaGreat
open Go Go.Vc Go.Proofs Wl
section
set_option maxRecDepth 20000
variable {B:aq} {h0 h:Heap} {As:List HP} {a a2 pw pw2:Addr} {mc:List Value} {offs:Int} {da da2:List (Option Addr)} {w:Pow} {ds:aX}
end
end Go.Proofs.YtdoiokchdaoonaaGreat
namespace Go.Proofs.YtdoiokchdaoonaaGreat
open Go Go.Vc Go.Proofs Wl
section
set_option maxRecDepth 20000
variable {B:aq} {h0 h:Heap} {As:List HP} {a pw b:Addr} {x:bK} {offs:Int} {da:List (Option Addr)} {w:Pow} {ds:aX} {d:bo}
end
end Go.Proofs.YtdoiokchdaoonaaGreat
namespace Go.Vc
open Go Wl Go.Proofs.YtdoiokchdaoonaaGreat
def lC (l:List Int) (k:Nat):Int:=l.getD k 0
def fv (l:List Int):Pm:=qy (lC l 0) (lC l 1) (lC l 2)
def mz (l:List Int):Nat:=(2+lC l 4%4).toNat
def rB (l:List Int):List Int:=(List.range (mz l)).map fun i=>8+lC l (5+i)%50
def Hw (l:List Int):Int:=lC l 3%7
theorem FR (l:List Int):2≤mz l∧mz l≤5:=by unfold mz;omega
theorem D5 (l:List Int):(rB l).length=mz l:=by simp[rB]
end Go.Vc
namespace Go.Proofs.YtdoiokchdaoonaaGreat
open Go Go.Vc Go.Proofs Wl
section
set_option maxRecDepth 20000
variable {B:aq} {h0 h:Heap} {As:List HP} {a pw:Addr} {offs:Int} {da:List (Option Addr)} {w:Pow} {ds:aX}
theorem lD (s:Sl) (l:List Int) (k:Nat) (h:Heap) (hs:Rd h s 1 aA l):ab Tryz.prog pN #[.slice s.ptr s.len s.cap,.int .i64 k] h fun v h'=>v=.int .i64 (lC l k)∧h'=h:=by
 refine o6 s k ?_
 unfold kz lC
 have hl:=hs.len
 refine aj (fun e=>?_) (fun e=>⟨?_,rfl⟩)
 ·have hk:k<l.length:=by omega
  refine hs.cm k rfl hk (l.getD k 0) (by rw[getD_lt hk];rfl) ⟨rfl,rfl⟩
 ·rw[List.getD_eq_getElem?_getD,List.getElem?_eq_none (by omega)];rfl
theorem Fp (s:Sl) (l:List Int) (h:Heap) (hs:Rd h s 1 aA l):ab Tryz.prog nA #[.slice s.ptr s.len s.cap] h fun v h'=>∃r:Sl,v=.tuple #[kl (fv l),.int .i64 (Hw l),.slice r.ptr r.len r.cap]∧Sp h h' [ak aF r 1 aA (rB l)]:=by
 refine mP s ?_
 unfold jz
 refine(Sp.refl h).alloc ag rfl fun a1 h1 H1=>?_
 have hs1:=hs.up H1.ah
 refine(lD s l 0 h1 hs1).mono ?_
 rintro _ _ ⟨rfl,rfl⟩
 refine⟨_,rfl,(lD s l 1 _ hs1).mono ?_⟩
 rintro _ _ ⟨rfl,rfl⟩
 refine⟨_,rfl,(lD s l 2 _ hs1).mono ?_⟩
 rintro _ h4 ⟨rfl,rfl⟩
 refine⟨_,rfl,(Hs _ _ _ h4).mono ?_⟩
 rintro _ h5 ⟨rfl,R5⟩
 have H5:=H1.up R5.ah
 refine⟨fv l,rfl,?_⟩
 refine H5.alloc ag rfl fun a6 h6 H6=>?_
 refine H6.storeAll ag 1 rfl rfl [.int .i64 (fv l).1,.int .i64 (fv l).2.1,.int .i64 (fv l).2.2] rfl rfl rfl rfl fun h7 H7=>?_
 have H7:Sp h h7 [ak aF ⟨none,0,0⟩ 1 aA ((rB l).take 0),an a6 aS [.int .i64 (fv l).1,.int .i64 (fv l).2.1,.int .i64 (fv l).2.2],an a1 aS [.int .i64 0,.int .i64 0,.int .i64 0]]:=(H7.nil aF 1 aA).cN [2,1,0]
 have hn:=FR l
 have hcl:=D5 l
 refine au (fun t:Sl×Nat=>(t.1,(t.2:Int))) (fun t h'=>t.2≤mz l∧Sp h h' [ak aF t.1 1 aA ((rB l).take t.2),an a6 aS [.int .i64 (fv l).1,.int .i64 (fv l).2.1,.int .i64 (fv l).2.2],an a1 aS [.int .i64 0,.int .i64 0,.int .i64 0]]) (fun t=>mz l-t.2) (⟨none,0,0⟩,0) rfl ⟨by simp,H7⟩ ?_
 rintro⟨o,i⟩ h8 ⟨hi,H8⟩
 dsimp only at*
 have hs8:=hs.up H8.ah
 refine(lD s l 4 h8 hs8).mono ?_
 rintro _ _ ⟨rfl,rfl⟩
 refine⟨_,rfl,(dF _ 4 _ (by decide) (by decide)).mono ?_⟩
 rintro _ h8 ⟨rfl,rfl⟩
 refine⟨_,rfl,?_⟩
 have hb:=H8.box 1 rfl
 dsimp only
 rw[Go.Vc.wrap_small (2+lC l 4%4) (by omega) (by omega)]
 have ecn:2+lC l 4%4=(mz l:Int):=by unfold mz;omega
 rw[ecn]
 refine aj (fun e=>?_) (fun e=>?_)
 ·have hi':i<mz l:=by omega
  rw[Go.Vc.wrap_small ((5:Int)+i) (by omega) (by omega)]
  have e5:(5:Int)+i=((5+i:Nat):Int):=by omega
  rw[e5]
  refine(lD s l (5+i) h8 hs8).mono ?_
  rintro _ _ ⟨rfl,rfl⟩
  refine⟨_,rfl,(dF _ 50 _ (by decide) (by decide)).mono ?_⟩
  rintro _ h12 ⟨rfl,rfl⟩
  refine⟨_,rfl,?_⟩
  dsimp only
  rw[Go.Vc.wrap_small (8+lC l (5+i)%50) (by omega) (by omega)]
  refine H8.push ag 0 rfl kH rfl (by decide) (fun _=>rfl) iD (8+lC l (5+i)%50) rfl (by decide) (by simp;omega) fun o' h13 H13=>?_
  refine⟨(o',i+1),by dsimp only;rw[Go.Vc.wrap_small _ (by omega) (by omega)];rfl,⟨by dsimp only;omega,?_⟩,by dsimp only;omega⟩
  dsimp only
  rw[aJ _ _ (show i<(rB l).length by omega)]
  have e6:(rB l)[i]'(by omega)=8+lC l (5+i)%50:=by simp[rB]
  rw[e6];exact H13
 ·have hin:i=mz l:=by omega
  subst hin
  rw[List.take_of_length_le (by omega)]at H8
  have hc:aw.ok [(a6,(.int .i64 (fv l).1)),(a6.add 1,(.int .i64 (fv l).2.1)),(a6.add 2,(.int .i64 (fv l).2.2))] h8:=⟨hb.cell0 rfl,hb.cell rfl,hb.cell rfl,trivial⟩
  refine⟨fv l,hb.aH _ rfl,(lD s l 3 h8 hs8).mono ?_⟩
  rintro _ _ ⟨rfl,rfl⟩
  refine⟨_,rfl,hc,(dF _ 7 _ (by decide) (by decide)).mono ?_⟩
  rintro _ h16 ⟨rfl,rfl⟩
  refine⟨_,rfl,hc,?_⟩
  refine H8.storeAll ag 2 rfl rfl [.int .i64 (fv l).1,.int .i64 (fv l).2.1,.int .i64 (fv l).2.2] rfl rfl rfl rfl fun h17 H17=>⟨trivial,?_⟩
  exact⟨fv l,(H17.box 2 rfl).aH _ rfl,o,rfl,H17.cN [0]⟩
theorem KO:(df (1,1,1) 0 Pow.new [5]).1=0:=by decide+kernel
theorem Hx:(bU (df (1,1,1) 0 Pow.new [5]).2.2 (bJ (1,1,1) 0 [5]).drives).length=1:=by decide+kernel
end
end Go.Proofs.YtdoiokchdaoonaaGreat
namespace Go.Proofs.YtdoiokchdaoonaaGreat
open Go Go.Vc Go.Proofs Wl
section
set_option maxRecDepth 20000
variable {B:aq} {h0 h:Heap} {As:List HP} {a pw:Addr} {offs:Int} {da:List (Option Addr)} {w:Pow} {ds:aX}
theorem BW (x:bK) (m:aE) (hx:dG h x m) (ho:m.objs=[]) (H:aa B h0 h (aU bn a pw (aL x) offs da w ds::As)):
  ab Tryz.prog so #[.pointer (some a)] h fun v h'=>v=.slice none 0 0∧h'=h:=by
 refine q0 (some a) ?_
 unfold lW
 obtain⟨ok,hb⟩:=aa.cC H
 refine(kV (some a) (R:=fun v h'=>v=.bool (iO w offs)∧h'=h) ?_).mono ?_
 ·unfold jC
  refine bw (fun e=>by cases e) fun _=>(qn H).mono ?_
  rintro _ _ ⟨rfl,rfl⟩
  exact⟨_,rfl,rfl,rfl⟩
 rintro _ _ ⟨rfl,rfl⟩
 refine⟨_,rfl,bw (fun _=>⟨rfl,rfl⟩) fun _=>⟨a,rfl,x.2.2.2.2.2.2.2,hb.cell rfl,?_⟩⟩
 have hl:=cD.len hx.objs
 rw[ho]at hl
 refine au (fun _:Unit=>((⟨none,0,0⟩:Sl),(0:Int))) (fun _ h'=>h'=_) (fun _=>0) () rfl rfl ?_
 rintro _ h1 rfl
 exact aj (fun e=>absurd e (by rw[hl];decide)) fun _=>⟨rfl,rfl⟩
theorem uR (h:Heap):ab Tryz.prog nz #[] h fun v h'=>v=.bool true∧Sp h h' []:=by
 refine mO ?_
 unfold jy
 refine(AQ h).mono ?_
 rintro _ h1 ⟨pw,rfl,R1⟩
 refine⟨_,rfl,?_⟩
 refine R1.lit ag aA kH rfl [5] rfl (show 1*1≤2^20 by decide) rfl fun s2 h2 H2=>?_
 refine(wb (1,1,1) 0 s2 [5] (As:=[ak aF s2 1 aA [5]]) (St.gI 0 rfl fun h' hq=>hq.1.seq (fun _=>rfl) hq.2) (by decide) H2).mono ?_
 rintro _ h3 ⟨_,Q⟩
 obtain⟨a,x,da,rfl,H3⟩:=Q KO
 have hz:ct (bJ (1,1,1) 0 [5]):=ry _ _ _ (by decide)
 have hx:dG h3 x (bJ (1,1,1) 0 [5]):=H3.at 1 rfl
 refine⟨(some a,0),rfl,dt (fun _=>bw (fun _=>?_) fun e=>by cases e) fun e=>absurd rfl e⟩
 refine(BW x _ hx rfl H3).mono ?_
 rintro _ _ ⟨rfl,rfl⟩
 refine⟨⟨none,0,0⟩,rfl,dt (fun _=>?_) fun e=>absurd rfl e⟩
 refine(dP x _ hx hz H3).mono ?_
 rintro _ h4 ⟨r,rfl,R4⟩
 have hr:=(R4.own 0 rfl).len
 rw[Hx]at hr
 refine⟨r,rfl,?_,.zip (aa.up H3 R4.ah).ah⟩
 rw[hr];rfl
end
end Go.Proofs.YtdoiokchdaoonaaGreat
namespace Go.Proofs.YtdoiokchdaoonaaGreat
open Go Go.Vc Go.Proofs Wl
set_option maxRecDepth 100000
section
variable {B:aq} {h0 h:Heap} {As:List HP} {a pw:Addr} {offs:Int} {da:List (Option Addr)} {w:Pow} {ds:aX} {mc:List Value}
theorem D6 {k:Int} {d:bo} (hd:bQ ds k=some d) (H:aa B h0 h (aU bn a pw mc offs da w ds::As)):∃(b:Addr) (s bl:Sl),j7 da k=some b∧bI h b bG (eE pw d s bl)∧eJ h s 1 aC d.l∧dj d:=by
 obtain⟨ok,_⟩:=aa.cC H
 rcases j8 ok k with⟨h1,_⟩|⟨n,d',b,rfl,hn,h1,h2,h3,h4⟩
 ·rw[h1]at hd;cases hd
 ·rw[h2]at hd
  injection hd with hd
  subst hd
  obtain⟨b',hb',H1⟩:=Go.Vc.aa.jf H h1
  rw[h3]at hb'
  injection hb' with hb'
  injection hb' with hb'
  subst hb'
  obtain⟨okd,s,bl,H2⟩:=aa.lL H1
  exact⟨b,s,bl,h4,H2.box 0 rfl,(H2.bc 2 [1,0]).xx fun _=>rfl,okd⟩
theorem uS {k:Int} (H:aa B h0 h (aU bn a pw mc offs da w ds::As)):ab Tryz.prog bP #[.pointer (some a),.int .i64 k] h fun v h'=>v=.pointer (j7 da k)∧h'=h:=by
 obtain⟨ok,hb⟩:=aa.cC H
 exact jW k ok hb
theorem D7 {k:Int} {d:bo} {b:Addr} (x:bK) (m:aE) (hd:bQ ds k=some d) (hb:j7 da k=some b) (hx:dG h x m) (hz:ct m) (H:aa B h0 h (aU bn a pw mc offs da w ds::As)):
  ab Tryz.prog rI #[.pointer (some b),dX x] h fun v h'=>v=.bool (mj m d.l)∧Sp h h' []:=by
 obtain⟨b',s,bl,hb',q1,q2,q3⟩:=D6 hd H
 rw[hb]at hb'
 injection hb' with hb'
 subst hb'
 exact Hi b pw d s bl x m h q1 q2 q3 hx hz
theorem Fq {k:Int} {d:bo} {b:Addr} (hd:bQ ds k=some d) (hb:j7 da k=some b) (H:aa B h0 h (aU bn a pw mc offs da w ds::As)):
  ab Tryz.prog jP #[.pointer (some b)] h fun v h'=>v=.int .i64 d.wait∧h'=h:=by
 obtain⟨b',s,bl,hb',q1,q2,q3⟩:=D6 hd H
 rw[hb]at hb'
 injection hb' with hb'
 subst hb'
 exact IC s bl q1
end
end Go.Proofs.YtdoiokchdaoonaaGreat
namespace Go.Proofs.YtdoiokchdaoonaaGreat
open Go Go.Vc Go.Proofs Wl
section
set_option maxRecDepth 20000
theorem MR {l:List Int} {i:Nat} (hi:i<l.length):(List.replicate i 300++l.drop i).set i 300=List.replicate (i+1) 300++l.drop (i+1):=by
 rw[List.set_append_right _ _ (by simp),List.length_replicate,Nat.sub_self,List.drop_eq_getElem_cons hi,List.set_cons_zero,List.replicate_succ',List.append_assoc];rfl
theorem MS:gK iZ=true:=by decide+kernel
theorem Js {p:Pm} {extra:Int} {c:Nat} {b:List UInt8} {t:List Int} {m n:aE} {D':aX} (hm:m=bJ p extra (List.replicate c 300)) (hp:bF p=true) (hx:0≤extra∧extra≤16) (hc:1≤c∧c≤24)
  (ht:bW p 0 (aT p b).length=some t) (h8:(aT p b).length≤8) (hmm:cn m=true) (hn:n=dS m ⟨iZ,0,b.length,t⟩)
  (hD:∀k∈m.drives,∃d',bQ D' k=some d'∧d'.lost=false∧d'.wait=0∧d'.room=300∧d'.l=aV m++(cr m 0 t (aT p b) m.drives k (aT p b).length).map dm++aV n) {i:Nat} (hi:i<(aT p b).length):
  ((eO n D' 0 i m.drives).map List.length).sum=(p.1+extra).toNat∧∃q:Nat,∀r∈eO n D' 0 i m.drives,q≤r.length∧r.length≤q+1:=by
 have hdr:m.drives=(List.range c).map fun i:Nat=>(i:Int):=by rw[hm];show aO _ _=_;rw[List.length_replicate];exact ml c
 have hnd:m.drives.Nodup:=xJ hmm
 obtain⟨o1,o2⟩:=Hv (o:=0) (b:=(i:Int)) (by omega) (by omega) hnd (lK hmm)
 have hol:0<(cy 0 (i:Int) m.drives).length:=by rw[o2.length_eq,hdr];simp;omega
 have hpm:m.p=p:=by rw[hm];rfl
 have hmx:m.extra=extra:=by rw[hm];rfl
 have hcnt:∀k,∀r∈cr m 0 t (aT p b) m.drives k (aT p b).length,dE n r=true∧0≤r.seed∧r.seed<4294967296:=fun k r hr=>by
  obtain⟨j,id,rfl,hj,hid⟩:=y5 hr
  refine⟨?_,wc _ _ _⟩
  rw[hn]
  refine Fk (e:=⟨iZ,0,b.length,t⟩) (k:=j) ?_ (by rw[hm];rfl) rfl rfl (by show j<t.length;rw[fa ht];exact hj)
  have hnx:m.next=0:=by rw[hm];rfl
  have:=FQ (m:=m) (b:=b) (t:=t) hmm (by rw[hnx];decide) (by rw[hpm];exact h8) (by rw[hpm,hnx];exact ht) (i:=j) (id:=id) (by rw[hpm];exact hj) hid
  rw[hpm,hnx]at this
  exact this
 have hrow:∀j (hj:j<(cy 0 (i:Int) m.drives).length),((gN n D' [(cy 0 (i:Int) m.drives)[j]] 0 i).map Prod.fst).length=ig (cy 0 (i:Int) m.drives).length (p.1+extra).toNat j:=fun j hj=>by
  have hin:(cy 0 (i:Int) m.drives)[j]∈m.drives:=o2.mem_iff.1 (List.getElem_mem hj)
  obtain⟨d',hd,_,_,_,hl⟩:=hD _ hin
  have:=L0 (m:=m) (n:=n) (n0:=m) j hj o1 hd hl (hcnt _) hi
  rw[hpm,hmx]at this
  exact this
 obtain⟨r1,r2⟩:=KN o2 hol (fun k=>((gN n D' [k] 0 i).map Prod.fst).length) (p.1+extra).toNat hrow
 have e:(eO n D' 0 i m.drives).map List.length=m.drives.map fun k=>((gN n D' [k] 0 i).map Prod.fst).length:=by unfold eO;rw[List.map_map];rfl
 refine⟨by rw[e];exact r1,(p.1+extra).toNat/(cy 0 (i:Int) m.drives).length,fun r hr=>?_⟩
 obtain⟨k,hk,rfl⟩:=List.mem_map.1 hr
 exact r2 k hk
theorem y9 (s:Sl) (l:List Int) (n x:Int) (h:Heap) (hs:Rd h s 1 aA l):
  ab Tryz.prog gF #[.slice s.ptr s.len s.cap,.int .i64 n,.int .i64 x] h fun v h'=>v=.bool true∧Sp h h' []:=by
 refine ky s n x ?_
 unfold gT
 refine(Fp s l h hs).mono ?_
 rintro _ h1 ⟨r,rfl,R1⟩
 refine⟨(fv l,Hw l,r),rfl,R1.alloc ag rfl fun a2 h2 H2=>?_⟩
 refine H2.storeAll ag 1 rfl rfl [.int .i64 (fv l).1,.int .i64 (fv l).2.1,.int .i64 (fv l).2.2] rfl rfl rfl rfl fun h3 H3=>?_
 obtain⟨p,hpd⟩:∃p,p=fv l:=⟨_,rfl⟩
 obtain⟨E,hE⟩:∃E,E=Hw l:=⟨_,rfl⟩
 obtain⟨c,hc⟩:∃c,c=mz l:=⟨_,rfl⟩
 obtain⟨L,hL⟩:∃L,L=rB l:=⟨_,rfl⟩
 have hcl:L.length=c:=by rw[hL,hc];exact D5 l
 have hc25:2≤c∧c≤5:=by rw[hc];exact FR l
 have hp:bF p=true:=by rw[hpd];exact Jq _ _ _
 have hps:p.1≤6∧p.2.2≤9:=by rw[hpd];unfold fv qy;dsimp only;omega
 have hpm:=(bH p).1 hp
 have hE6:0≤E∧E≤6:=by rw[hE];unfold Hw;omega
 rw[←hpd,←hE]
 rw[←hpd,←hL]at H3
 have H3:Sp h h3 [ak aF r 1 aA (List.replicate 0 300++L.drop 0),an a2 aS [.int .i64 p.1,.int .i64 p.2.1,.int .i64 p.2.2]]:=H3
 have hrl:r.len=c:=by rw[←hcl,(H3.own 0 rfl).len];rfl
 refine au (fun i:Nat=>(i:Int)) (fun i h'=>i≤c∧Sp h h' [ak aF r 1 aA (List.replicate i 300++L.drop i),an a2 aS [.int .i64 p.1,.int .i64 p.2.1,.int .i64 p.2.2]]) (fun i=>c-i) 0 rfl ⟨by omega,H3⟩ ?_
 rintro i h4 ⟨hi,H4⟩
 dsimp only
 refine aj (fun e=>?_) fun e=>?_
 ·have hi':i<c:=by omega
  refine H4.set ag 0 rfl (fun _=>rfl) rfl i rfl (by simp;omega) 300 rfl rfl rfl fun h5 H5=>?_
  rw[MR (by omega)]at H5
  exact⟨i+1,by rw[Go.Vc.wrap_small _ (by omega) (by omega)];rfl,⟨by omega,H5⟩,by omega⟩
 have hic:i=c:=by omega
 subst hic
 rw[List.drop_of_length_le (by omega),List.append_nil]at H4
 have e0:nZ p E (List.replicate i 300)=0:=Jr hp (by omega) i (by omega)
 obtain⟨D,f1,f2,f3⟩:=Jn (p:=p) (extra:=E) (l:=List.replicate i 300) (by simp;omega) e0
 have hq0:0<p.1*p.2.2:=Int.mul_pos (by omega) (by omega)
 have hq1:p.1*p.2.2≤6*9:=Int.mul_le_mul hps.1 hps.2 (by omega) (by omega)
 refine cQ (fun(t:Option Addr×Int) h'=>∃(a pw:Addr) (x:bK) (da:List (Option Addr)),t=(some a,0)∧Sp h h' [aU bn a pw (aL x) 0 da Pow.new D,cM x (bJ p E (List.replicate i 300)),ak aF r 1 aA (List.replicate i 300),an a2 aS [.int .i64 p.1,.int .i64 p.2.1,.int .i64 p.2.2]]) ?_ ?_
 ·refine⟨p,(H4.box 1 rfl).aH _ rfl,(AQ h4).mono ?_⟩
  rintro _ h6 ⟨pw,rfl,R6⟩
  have H6:=H4.cj R6
  refine⟨_,rfl,ov R6.ah ⟨(H4.box 1 rfl).cell0 rfl,(H4.box 1 rfl).cell rfl,(H4.box 1 rfl).cell rfl,trivial⟩,?_⟩
  refine(wb p E r (List.replicate i 300) (As:=[ak aF r 1 aA (List.replicate i 300),an a2 aS [.int .i64 p.1,.int .i64 p.2.1,.int .i64 p.2.2]]) (St.gI 0 rfl fun h' hq=>hq.1.seq (fun _=>rfl) hq.2) (by simp;omega) H6).mono ?_
  rintro _ h7 ⟨_,Q0⟩
  rw[f1]at Q0
  obtain⟨a,y,da,rfl,H7⟩:=Q0 rfl
  exact⟨(some a,0),rfl,trivial,a,pw,y,da,rfl,H7⟩
 rintro⟨_,_⟩ h8 ⟨a,pw,y,da,he,H8⟩
 injection he with he1 he2
 subst he1 he2
 obtain⟨m,hm⟩:∃m,m=bJ p E (List.replicate i 300):=⟨_,rfl⟩
 rw[←hm]at H8
 have hmm:cn m=true:=by rw[hm];exact xf (by simp;omega) e0
 have hz:ct m:=by rw[hm];exact ry _ _ _ (by simp;omega)
 refine aR (cg (fun e=>absurd rfl e) fun _=>bw (fun e=>by cases e) fun _=>?_)
 refine⟨p.1,(H8.box 3 rfl).cell0 rfl,p.2.2,(H8.box 3 rfl).cell rfl,?_⟩
 have hw:IntKind.wrap .i64 (IntKind.wrap .i64 (IntKind.wrap .i64 (3*p.1)*p.2.2)+2)=3*(p.1*p.2.2)+2:=by
  have e3:3*p.1*p.2.2=3*(p.1*p.2.2):=Int.mul_assoc _ _ _
  rw[Go.Vc.wrap_small (3*p.1) (by omega) (by omega),e3,Go.Vc.wrap_small (3*(p.1*p.2.2)) (by omega) (by omega),Go.Vc.wrap_small _ (by omega) (by omega)]
 rw[hw]
 refine(dF n (3*(p.1*p.2.2)+2) h8 (by omega) (by omega)).mono ?_
 rintro _ h9 ⟨rfl,rfl⟩
 have hn0:=Int.emod_nonneg n (show 3*(p.1*p.2.2)+2≠0 by omega)
 have hn1:=Int.emod_lt_of_pos n (show 0<3*(p.1*p.2.2)+2 by omega)
 obtain⟨N,hN⟩:∃N:Nat,(N:Int)=n%(3*(p.1*p.2.2)+2):=⟨(n%(3*(p.1*p.2.2)+2)).toNat,by omega⟩
 rw[←hN]
 refine⟨_,rfl,(He N x h9 (by omega)).mono ?_⟩
 rintro _ h10 ⟨sb,b,rfl,hbl,R10⟩
 have H10:=(H8.cj R10).bc 3 [1,2,0]
 have hb3:(b.length:Int)≤3*(p.1*p.2.2)+1:=by omega
 have hnx:m.next=0:=by rw[hm];rfl
 have hmp:m.p=p:=by rw[hm];rfl
 refine⟨sb,rfl,(Ky y m iZ sb b (As:=[ak aB sb 1 aC b,ak aF r 1 aA (List.replicate i 300),an a2 aS [.int .i64 p.1,.int .i64 p.2.1,.int .i64 p.2.2]]) (St.gI 0 rfl fun h' hq=>hq.1.seq (fun _=>rfl) hq.2) ?_ (by decide) hz (by rw[hmp];exact hp) (by rw[hm];exact⟨hE6.1,by show E≤16;omega⟩) (lK hmm) (oD hmm) (by rw[hm];exact(by decide:(0:Int)≤1)) (by rw[hm];exact Int.le_refl 0) (by omega) H10).mono ?_⟩
 ·exact(H10.own 2 rfl).cap
 obtain⟨P1,P2⟩:=Fo (name:=iZ) (b:=b) hp (show 0≤E∧E≤16 by omega) (show 1≤i∧i≤24 by omega) (by omega) hb3 MS f2 f3
 rw[←hm]at P1 P2
 rintro _ h12 ⟨rfl,y2,H12⟩
 cases ht:bW p 0 (aT p b).length with
 |none=>
  rw[P1 ht]at H12⊢
  dsimp only at H12
  refine⟨8,rfl,(qm y2 m (H12.at 1 rfl) hz H12).mono ?_⟩
  rintro _ h13 ⟨z,rfl,R13⟩
  have H13:=(H12.cj R13)
  refine⟨z,rfl,H13.alloc ag rfl fun a16 h14 H14=>?_⟩
  have H14:=H14.cF
  refine H14.storeAll ag 0 rfl rfl (aL z) rfl rfl rfl rfl fun h15 H15=>?_
  have H15:Sp h h15 (an a16 ao (aL z)::cM z m::_):=H15
  have hz15:dG h15 z m:=H15.at 1 rfl
  have hb:=H15.box 0 rfl
  refine cg (fun _=>dt (fun _=>⟨z.2.2.2.2.2.2.2,hb.cell rfl,dt (fun _=>⟨z.1,hb.cell0 rfl,dt (fun _=>⟨z.2.1,hb.cell rfl,dt (fun _=>?_) fun e=>absurd ?_ e⟩) fun e=>absurd ?_ e⟩) fun e=>absurd ?_ e⟩) fun e=>absurd rfl e) fun e=>absurd e (by decide)
  ·refine(uR h15).mono ?_
   rintro _ h16 ⟨rfl,R16⟩
   exact⟨true,rfl,rfl,.zip (H15.up R16.ah).ah⟩
  ·rw[hz15.next,hm];rfl
  ·rw[hz15.seq,hm];rfl
  ·rw[cD.len hz15.objs,hm];rfl
 |some t=>
  obtain⟨D',q1,q2,q3,q4,q6,q5⟩:=P2 t ht
  rw[q1]at H12⊢
  dsimp only at H12
  obtain⟨e,he⟩:∃e:Wl.ck,e=⟨iZ,0,b.length,t⟩:=⟨_,rfl⟩
  rw[←he]at q1 q3 q5 H12
  obtain⟨M,hM⟩:∃M,M=dS m e:=⟨_,rfl⟩
  rw[←hM]at q1 q3 q5 H12
  have hobj:M.objs=[e]:=by rw[hM,hm];exact D4 e
  have hMd:M.drives=m.drives:=by rw[hM];rfl
  have hMz:ct M:=by rw[hM];exact FP hz (by rw[hm];exact Nat.zero_le _) (by rw[he];show iZ.size≤_;decide) (by rw[he];show t.length≤_;rw[fa ht];omega)
  have hdr:m.drives=(List.range i).map fun j:Nat=>(j:Int):=by rw[hm];show aO _ _=_;rw[List.length_replicate];exact ml i
  have hlive:bU D' M.drives=m.drives:=by
   rw[hMd]
   exact List.filter_eq_self.2 fun k hk=>by
    obtain⟨d',hd,hl,_⟩:=q5 k hk
    unfold isLive;rw[hd];simp[hl]
  have htl:=fa ht
  refine⟨0,rfl,(qm y2 M (H12.at 1 rfl) hMz H12).mono ?_⟩
  rintro _ h13 ⟨z,rfl,R13⟩
  have H13:=(H12.cj R13)
  refine⟨z,rfl,H13.alloc ag rfl fun a16 h14 H14=>?_⟩
  have H14:=H14.cF
  refine H14.storeAll ag 0 rfl rfl (aL z) rfl rfl rfl rfl fun h15 H15=>?_
  have H15:Sp h h15 (an a16 ao (aL z)::cM z M::aU bn a pw (aL y2) 0 da Pow.new D'::cM y2 M::[ak aB sb 1 aC b,ak aF r 1 aA (List.replicate i 300),an a2 aS [.int .i64 p.1,.int .i64 p.2.1,.int .i64 p.2.2]]):=H15
  obtain⟨As,hAs⟩:∃As,As=[ak aB sb 1 aC b,ak aF r 1 aA (List.replicate i 300),an a2 aS [.int .i64 p.1,.int .i64 p.2.1,.int .i64 p.2.2]]:=⟨_,rfl⟩
  rw[←hAs]at H15
  have hz15:dG h15 z M:=H15.at 1 rfl
  have hb:=H15.box 0 rfl
  have hol:=cD.len hz15.objs
  rw[hobj]at hol
  refine cg (fun e=>absurd rfl e) fun _=>aR ⟨z.2.2.2.2.2.2.2,hb.cell rfl,cg (fun e=>absurd (by rw[hol];rfl) e) fun _=>⟨z.1,hb.cell0 rfl,cg (fun e=>absurd (by rw[hz15.seq,hM,hm];rfl) e) fun _=>⟨z.2.1,hb.cell rfl,cg (fun e=>absurd (by rw[hz15.next,hM,hm];rfl) e) fun _=>⟨z,hb.aH _ rfl,?_⟩⟩⟩⟩
  refine(w6 z M h15 hz15 hMz).mono ?_
  rintro _ h17 ⟨rfl,R17⟩
  refine⟨_,rfl,aY (fun e=>by rw[q3]at e;cases e) fun _=>?_⟩
  have H17:=H15.up R17.ah
  have hz17:dG h17 z M:=H17.at 1 rfl
  refine⟨z.2.2.2.2.2.2.2,(H17.box 0 rfl).cell rfl,?_⟩
  obtain⟨ys,F⟩:=cD.fix hz17.objs
  have hyl:=F.2.1
  rw[hobj]at hyl
  have hrow:=Fix.row F (i:=0) (by rw[hobj];exact Nat.one_pos)
  obtain⟨a28,ha28,zz,hcz,hzz⟩:=F.1.eS (g:=bE) (i:=(0:Int)) 0 rfl (by rw[hyl];exact Nat.one_pos) (ys[0]'(by rw[hyl];exact Nat.one_pos)) rfl (K:=fun t=>t=ys[0]'(by rw[hyl];exact Nat.one_pos)) rfl
  have hrt:Rd h17 (ys[0]'(by rw[hyl];exact Nat.one_pos)).2.2.2 1 aA t:=by
   have eo:(M.objs[0]'(by rw[hobj];exact Nat.one_pos))=e:=by simp only[hobj,List.getElem_cons_zero]
   have et:e.tries=t:=by rw[he]
   have hq:=hrow.2
   rw[eo,et]at hq
   exact hq
  obtain⟨ts,hts⟩:∃ts,ts=(ys[0]'(by rw[hyl];exact Nat.one_pos)).2.2.2:=⟨_,rfl⟩
  rw[←hts]at hrt
  refine⟨a28,ha28,ts,by rw[hts,←hzz];exact hcz.2.2.2.1,?_⟩
  have htsl:=hrt.len
  refine au (fun i:Nat=>(i:Int)) (fun k h'=>k≤t.length∧aD (fun b=>b<h17.size) h17 h'∧Sp h h' (an a16 ao (aL z)::cM z M::aU bn a pw (aL y2) 0 da Pow.new D'::cM y2 M::As)) (fun k=>t.length-k) 0 rfl ⟨by omega,aD.refl _ _,H17⟩ ?_
  rintro k h19 ⟨hk,P19,H19⟩
  dsimp only
  refine aj (fun e1=>?_) fun e1=>?_
  ·have hk':k<t.length:=by omega
   obtain⟨tk,htk,htk2⟩:=mf ht k hk'
   obtain⟨g1,g2,g3⟩:=oN htk2
   refine(hrt.up P19).cm k rfl hk' t[k] rfl ?_
   rw[htk]
   refine au (fun i:Nat=>(i:Int)) (fun j h'=>j≤tk+1∧aD (fun b=>b<h17.size) h17 h'∧Sp h h' (an a16 ao (aL z)::cM z M::aU bn a pw (aL y2) 0 da Pow.new D'::cM y2 M::As)) (fun j=>tk+1-j) 0 rfl ⟨by omega,P19,H19⟩ ?_
   rintro j h20 ⟨hj,P20,H20⟩
   dsimp only
   refine aj (fun e2=>?_) fun e2=>?_
   ·have hbp:bI h20 a2 aS [.int .i64 p.1,.int .i64 p.2.1,.int .i64 p.2.2]:=by rw[hAs]at H20;exact H20.box 6 rfl
    refine⟨p,hbp.aH _ rfl,(mT 0 k j h20).mono ?_⟩
    rintro _ h21 ⟨rfl,rfl⟩
    refine⟨_,rfl,⟨hbp.cell0 rfl,hbp.cell rfl,hbp.cell rfl,trivial⟩,(ru p (fj 0 k j) h21).mono ?_⟩
    rintro _ h22 ⟨rfl,R22⟩
    have hgood:jX p (fj 0 k j) (dw p)=decide (j=tk):=by
     by_cases hjk:j=tk
     ·subst hjk;rw[decide_eq_true rfl];exact g2
     ·rw[decide_eq_false hjk];exact g3 j (by omega)
    refine⟨_,rfl,trivial,aY (fun e3=>?_) fun e3=>?_⟩
    ·exfalso
     rw[hgood]at e3
     by_cases hjk:j=tk
     ·subst hjk;simp at e3
     ·simp[hjk]at e3
      omega
    ·exact⟨j+1,by rw[Go.Vc.wrap_small _ (by omega) (by omega)];rfl,⟨by omega,P20.then R22.ah fun b hb _=>Nat.lt_of_lt_of_le hb P20.1,H20.up R22.ah⟩,by omega⟩
   ·have hroom:∀k d,bQ D' k=some d→d.l.length≤512:=fun k d hd=>by have:=q6 k d hd;omega
    have H20c:Sp h h20 (aU bn a pw (aL y2) 0 da Pow.new D'::cM y2 M::an a16 ao (aL z)::cM z M::As):=H20.bc 4 [2,3,0,1]
    refine(Hd y2 M 0 k (H20c.at 1 rfl) hMz (by rw[hMd];exact oD hmm) hroom H20c).mono ?_
    rintro _ h23 ⟨r8,rfl,R23⟩
    rw[hlive]at R23
    have hrw:=R23.xx fun _=>rfl
    have H23:=H20.up R23.ah
    obtain⟨W,hW⟩:∃W,W=eO M D' 0 k m.drives:=⟨_,rfl⟩
    have hwl:W.length=i:=by rw[hW];simp[eO,hdr]
    obtain⟨w1,q,w2⟩:=Js (n:=M) hm hp (by omega) (by omega) ht q4 hmm (by rw[hM,he]) q5 (i:=k) (by omega)
    rw[←hW]at w1 w2 hrw
    have hr8:=hrw.len
    refine⟨r8,rfl,cg (fun e3=>absurd (by rw[hr8,hwl,hrl]) e3) fun _=>?_⟩
    have hsum:∀j,(((W.take j).map List.length).sum:Nat)≤(p.1+E).toNat:=fun j=>by
     rw[←w1]
     have e:(W.map List.length).sum=((W.take j).map List.length).sum+((W.drop j).map List.length).sum:=by rw[←List.sum_append,←List.map_append,List.take_append_drop]
     omega
    refine au (fun u:Int×Int×Nat=>(u.1,u.2.1,((((W.take u.2.2).map List.length).sum:Nat):Int),(u.2.2:Int))) (fun u h'=>u.2.2≤i∧h'=h23∧((u.2.2=0∧u.1=1000∧u.2.1=0)∨((q:Int)≤u.1∧u.2.1≤q+1∧u.1≤q+1∧q≤u.2.1))) (fun u=>i-u.2.2) (1000,0,0) rfl ⟨Nat.zero_le _,rfl,.inl ⟨rfl,rfl,rfl⟩⟩ ?_
    rintro⟨u1,u2,j⟩ h24 ⟨hj,rfl,hu⟩
    dsimp only at hj hu⊢
    refine aj (fun e3=>?_) fun e3=>?_
    ·have hj':j<W.length:=by omega
     refine hrw.get j rfl hj' fun rr hrr=>?_
     have hrl2:=hrr.len
     have hb2:=w2 W[j] (List.getElem_mem hj')
     have hs1:=hsum (j+1)
     have es:((W.take (j+1)).map List.length).sum=((W.take j).map List.length).sum+W[j].length:=by
      rw[List.take_add_one,List.getElem?_eq_getElem hj',List.map_append,List.sum_append];simp
     refine⟨(if(rr.len:Int)<u1 then(rr.len:Int)else u1,if(rr.len:Int)>u2 then(rr.len:Int)else u2,j+1),?_,⟨by dsimp only;omega,rfl,.inr ?_⟩,by dsimp only;omega⟩
     ·dsimp only
      rw[Go.Vc.wrap_small ((j:Int)+1) (by omega) (by omega),Go.Vc.wrap_small _ (by omega) (by omega),es,hrl2]
      simp
     ·dsimp only
      rw[hrl2]
      rcases hu with⟨_,rfl,rfl⟩|⟨a1,a2,a3,a4⟩
      ·refine⟨?_,?_,?_,?_⟩<;>split<;>omega
      ·refine⟨?_,?_,?_,?_⟩<;>split<;>omega
    ·have hji:j=i:=by
      have e3':¬(j:Int)<(r8.len:Int):=e3
      omega
     have hWt:W.take i=W:=List.take_of_length_le (by omega)
     subst hji
     rw[hWt,w1]
     refine aj (fun e4=>?_) fun e4=>?_
     ·exfalso
      rcases hu with⟨h0,_⟩|⟨a1,a2,a3,a4⟩
      ·omega
      ·rw[Go.Vc.wrap_small _ (by omega) (by omega)]at e4;omega
     ·have hbp:bI h24 a2 aS [.int .i64 p.1,.int .i64 p.2.1,.int .i64 p.2.2]:=by rw[hAs]at H23;exact H23.box 6 rfl
      refine⟨p.1,hbp.cell0 rfl,cg (fun e5=>absurd ?_ e5) fun _=>?_⟩
      ·rw[Go.Vc.wrap_small _ (by omega) (by omega)];omega
      ·exact⟨k+1,by rw[Go.Vc.wrap_small _ (by omega) (by omega)];rfl,⟨by omega,(P20.then R23.ah fun b hb _=>Nat.lt_of_lt_of_le hb P20.1),H23⟩,by omega⟩
  ·have H19c:Sp h h19 (aU bn a pw (aL y2) 0 da Pow.new D'::cM y2 M::an a16 ao (aL z)::cM z M::As):=H19.bc 4 [2,3,0,1]
   refine(dP y2 M (H19c.at 1 rfl) hMz H19c).mono ?_
   rintro _ h25 ⟨lv,rfl,R25⟩
   rw[hlive]at R25
   have hlv:=R25.seq 0 rfl fun _=>rfl
   have hlvl:=hlv.len
   have hdl64:=oD hmm
   have H25:=H19.up R25.ah
   refine⟨lv,rfl,?_⟩
   refine au (fun i:Nat=>(i:Int)) (fun j h'=>j≤m.drives.length∧aD (fun b=>b<h25.size) h25 h'∧Sp h h' (an a16 ao (aL z)::cM z M::aU bn a pw (aL y2) 0 da Pow.new D'::cM y2 M::As)) (fun j=>m.drives.length-j) 0 rfl ⟨by omega,aD.refl _ _,H25⟩ ?_
   rintro j h26 ⟨hj,P26,H26⟩
   dsimp only
   refine aj (fun e2=>?_) fun e2=>?_
   ·have hj':j<m.drives.length:=by omega
    refine(Seq.up hlv P26).cm j rfl hj' m.drives[j] rfl ?_
    obtain⟨d',hd,hd1,hd2,_,hd3⟩:=q5 m.drives[j] (List.getElem_mem hj')
    refine⟨z,(H26.box 0 rfl).aH _ rfl,?_⟩
    have H26c:Sp h h26 (aU bn a pw (aL y2) 0 da Pow.new D'::cM y2 M::an a16 ao (aL z)::cM z M::As):=H26.bc 4 [2,3,0,1]
    obtain⟨b',_,_,hbp,_⟩:=D6 hd H26c
    refine(uS H26c).mono ?_
    rintro _ h27 ⟨rfl,rfl⟩
    have hbx:=H26.box 0 rfl
    rw[hbp]
    refine⟨_,rfl,⟨hbx.cell0 rfl,hbx.cell rfl,hbx.cell rfl,hbx.cell rfl,hbx.cell rfl,hbx.cell rfl,hbx.cell rfl,hbx.cell rfl,trivial⟩,(D7 z M hd hbp (H26.at 1 rfl) hMz H26c).mono ?_⟩
    rintro _ h28 ⟨rfl,R28⟩
    have hwh:mj M d'.l=true:=by
     unfold mj
     rw[q3,Bool.true_and,hd3]
     exact List.all_eq_true.2 fun pg hpg=>decide_eq_true (List.mem_append_right _ hpg)
    refine⟨_,rfl,trivial,aY (fun e=>by rw[hwh]at e;cases e) fun _=>?_⟩
    have H28c:=H26c.up R28.ah
    refine(uS H28c).mono ?_
    rintro _ h29 ⟨rfl,rfl⟩
    rw[hbp]
    refine⟨_,rfl,trivial,(Fq hd hbp H28c).mono ?_⟩
    rintro _ h30 ⟨rfl,rfl⟩
    refine⟨_,rfl,trivial,cg (fun e=>absurd (by rw[hd2];rfl) e) fun _=>?_⟩
    exact⟨j+1,by rw[Go.Vc.wrap_small _ (by omega) (by omega)];rfl,⟨by omega,P26.then R28.ah fun b hb _=>Nat.lt_of_lt_of_le hb P26.1,H26.up R28.ah⟩,by omega⟩
   ·refine(uR h26).mono ?_
    rintro _ h31 ⟨rfl,R31⟩
    exact⟨true,rfl,rfl,.zip (H26.up R31.ah).ah⟩
theorem sI (s:Sl) (l:List Int) (n x:Int) (h:Heap) (hs:Rd h s 1 aA l):
  ab Tryz.prog gF #[.slice s.ptr s.len s.cap,.int .i64 n,.int .i64 x] h fun v h'=>v=.bool true∧aD (fun b=>b<h.size) h h':=
 (y9 s l n x h hs).mono fun _ _ ⟨a,b⟩=>⟨a,b.ah⟩
end
end Go.Proofs.YtdoiokchdaoonaaGreat
