/- Part of the proofs that the laws of this seat answer true whatever the input reads, and leave it as it was; no condition. -/
import Derived.Test.YtkciobclldnoiaaGreatDoorKB
import Derived.Test.YtkciobclldnoiaaGreatDoorPlJ
import Derived.Test.YtkciobclldnoiaaGreatDoorKA
set_option linter.unusedVariables false
set_option linter.unusedSimpArgs false
namespace Go.Vc
open Go Wl Go.Proofs.YtkciobclldnoiaaGreatDoor
theorem FW {w:Pow} (h:w.calm) {S:List Int} (P:List (Int×List UInt8)) (ds:aQ) (F:Fit ds S (P.map Prod.fst)) (hP:∀x∈P,x.1∈S∧x.2.length=64):
  (layAll P w ds).1=0∧Fit (layAll P w ds).2.2 S []∧∀s,bU (layAll P w ds).2.2 s=(vp ds P s).map fun d=>if s∈db (P.map Prod.fst)then{d with wait:=0,laid:=[],has:=false}else d:=by
 obtain⟨a1,a2,a3⟩:=qW h P ds F hP
 have hw:=jE h P ds
 unfold layAll
 dsimp only
 rw[if_pos a1,hw]
 obtain⟨b1,b2,b3⟩:=vq h (S:=S) (db (P.map Prod.fst)) (fV P w ds).2.2 a2 fun x hx=>by
  unfold db at hx
  have hx':=(List.mem_filter.1 hx).2
  obtain⟨y,hy,rfl⟩:=List.mem_map.1 (of_decide_eq_true hx')
  exact(hP y hy).1
 exact⟨b1,b2,fun s=>by rw[b3 s,a3 s]⟩
theorem pd (l:List Int) (k:Nat):(aN l k).Pairwise (·<·):=by
 unfold aN
 refine List.Pairwise.filter _ (List.pairwise_map.2 ?_)
 exact(List.pairwise_lt_range (n:=k)).imp fun h=>by omega
theorem G5 {l:List Int} {most:Int} (h1:l.Pairwise (·<·)) (h2:∀x∈l,0≤x∧x≤most):jk l most=true:=by
 unfold jk
 refine kz fun i hi=>?_
 unfold fb cF
 have hg:l.getD i 0=l[i]:=by rw[List.getD_eq_getElem?_getD,List.getElem?_eq_getElem hi];rfl
 have:=h2 l[i] (List.getElem_mem hi)
 rw[hg,decide_eq_true this.1,decide_eq_true this.2,Bool.true_and,Bool.true_and]
 by_cases h0:i=0
 ·rw[decide_eq_true h0];rfl
 ·have hg':l.getD (i-1) 0=l[i-1]:=by rw[List.getD_eq_getElem?_getD,List.getElem?_eq_getElem (by omega)];rfl
  rw[hg',decide_eq_true (List.pairwise_iff_getElem.1 h1 (i-1) i (by omega) hi (by omega)),Bool.or_true]
theorem AA {p:Pm} {extra:Int} {l:List Int} (hl:l.length≤64) (e0:l7 p extra l=0):cx (bD p extra l)=true:=by
 obtain⟨h1,h2,h3,_⟩:=vr e0
 have hh:gD (bD p extra l)=true:=by
  unfold gD cF bD
  simp[h1,h2,h3]
 have hr:jk (bD p extra l).drives 63=true:=G5 (pd l l.length) fun x hx=>by
  obtain⟨n,hn,rfl,_⟩:=(l6 l l.length x).1 hx
  omega
 unfold cx
 rw[hh,hr];rfl
theorem pe (p:Pm) (extra:Int) (l:List Int) (hl:l.length≤24):(bs (bD p extra l)).length≤1:=by
 unfold bs fP
 rw[List.length_map,List.length_range]
 have hp:=jC l l.length
 have:(gF (bD p extra l)).length≤19+24:=by
  unfold gF
  split
  ·simp only[List.length_append,bJ,List.length_cons,List.length_nil,List.length_map,bD,List.flatMap_nil];omega
  ·simp
 omega
end Go.Vc
namespace Wl
open Go
end Wl
namespace Go.Vc
open Go Wl Go.Proofs.YtkciobclldnoiaaGreatDoor
theorem EN (l:List (Int×List UInt8)) (k:Int):(l.map Prod.fst).count k=(l.filter fun y=>decide (y.1=k)).length:=by
 induction l with
 |nil=>rfl
 |cons y l ih=>
  rw[List.map_cons,List.count_cons,ih,List.filter_cons]
  by_cases h:y.1=k
  ·rw[if_pos (decide_eq_true h),if_pos (by simpa using h)];rfl
  ·rw[if_neg (by simpa using h),if_neg (by simpa using h)];rfl
end Go.Vc
namespace Go.Vc
open Go Wl Go.Proofs.YtkciobclldnoiaaGreatDoor
theorem qX (n:aZ) (k:Int):∀{live:List Int},live.Nodup→k∈live→((cD n live).filter fun y=>decide (y.1=k)).map Prod.snd=bs n
 |[],_,hk=>by cases hk
 |x::live,hnd,hk=>by
  have e:cD n (x::live)=(bs n).map (fun c=>(x,c))++cD n live:=by unfold cD;rw[List.flatMap_cons]
  obtain⟨hx,hnd'⟩:=List.nodup_cons.1 hnd
  rw[e,List.filter_append,List.map_append]
  by_cases hxk:x=k
  ·subst hxk
   have h1:((bs n).map (fun c=>(x,c))).filter (fun y=>decide (y.1=x))=(bs n).map (fun c=>(x,c)):=List.filter_eq_self.2 fun y hy=>by
    obtain⟨c,_,rfl⟩:=List.mem_map.1 hy
    exact decide_eq_true rfl
   have h2:(cD n live).filter (fun y=>decide (y.1=x))=[]:=List.filter_eq_nil_iff.2 fun y hy=>by
    have:=(kb hy).1
    have hne:y.1≠x:=fun h=>hx (h▸this)
    simpa using hne
   rw[h1,h2,List.map_nil,List.append_nil,List.map_map]
   exact List.map_id _
  ·have h1:((bs n).map (fun c=>(x,c))).filter (fun y=>decide (y.1=k))=[]:=List.filter_eq_nil_iff.2 fun y hy=>by
    obtain⟨c,_,rfl⟩:=List.mem_map.1 hy
    simpa using hxk
   rw[h1,List.map_nil,List.nil_append]
   rcases List.mem_cons.1 hk with h|h
   ·exact absurd h.symm hxk
   ·exact qX n k hnd' h
end Go.Vc
namespace Go.Proofs.YtkciobclldnoiaaGreatDoor
open Go Go.Vc Go.Proofs Wl
end Go.Proofs.YtkciobclldnoiaaGreatDoor
namespace Go.Proofs.YtkciobclldnoiaaGreatDoor
open Go Go.Vc Go.Proofs Wl
end Go.Proofs.YtkciobclldnoiaaGreatDoor
namespace Wl
open Go
theorem FX (ds:aQ) (k:Int) (d:bf):(fE ds k d).length=ds.length:=by unfold fE;simp
theorem FY {ds:aQ} {k:Int} {d0 d:bf} (h64:ds.length=64) (hk:bU ds k=some d0) (s:Int):bU (fE ds k d) s=if s=k then some d else bU ds s:=by
 obtain⟨n,rfl,hn⟩:=fz hk
 exact k9 ds n d s hn h64
end Wl
namespace Wl
open Go
end Wl
namespace Go.Proofs.YtkciobclldnoiaaGreatDoor
open Go Go.Vc Go.Proofs Wl
end Go.Proofs.YtkciobclldnoiaaGreatDoor
namespace Go.Proofs.YtkciobclldnoiaaGreatDoor
open Go Go.Vc Go.Proofs Wl
end Go.Proofs.YtkciobclldnoiaaGreatDoor
namespace Wl
open Go
def mE (cs:List (List UInt8)) (d:bf):bf:=if cs.isEmpty then d else{d with l:=d.l++cs,wait:=0,laid:=[],has:=false}
def kH (P:List (Int×List UInt8)) (s:Int):List (List UInt8):=(P.filter fun x=>decide (x.1=s)).map Prod.snd
theorem FZ {P:List (Int×List UInt8)} {s:Int} (h:∀x∈P,x.1≠s):kH P s=[]:=by
 unfold kH
 rw[List.filter_eq_nil_iff.2 fun x hx=>by simpa using h x hx];rfl
theorem AB (P:List (Int×List UInt8)) (s:Int):(kH P s).length=(P.map Prod.fst).count s:=by
 unfold kH;rw[List.length_map];exact(Go.Vc.EN P s).symm
theorem ss {l:List Int} {s:Int} (h:0≤s∧s<64):s∈db l↔s∈l:=by
 unfold db
 rw[List.mem_filter,decide_eq_true_eq]
 refine⟨fun h=>h.2,fun h'=>⟨?_,h'⟩⟩
 exact List.mem_map.2 ⟨s.toNat,List.mem_range.2 (by omega),by omega⟩
theorem HR {w:Pow} (hw:w.calm) {ds:aQ} {P:List (Int×List UInt8)} (h64:ds.length=64)
  (hfit:∀x∈P,x.2.length=64∧∃d,bU ds x.1=some d∧d.lost=false∧d.l.length+(kH P x.1).length≤d.room):
  ∃ds',layAll P w ds=(0,w,ds')∧ds'.length=64∧∀s,bU ds' s=(bU ds s).map (mE (kH P s)):=by
 have F:Fit ds (P.map Prod.fst) (P.map Prod.fst):=⟨h64,fun k hk=>by
  obtain⟨x,hx,rfl⟩:=List.mem_map.1 hk
  obtain⟨_,d,h1,h2,h3⟩:=hfit x hx
  rw[AB]at h3
  exact⟨d,h1,h2,h3⟩⟩
 obtain⟨a1,a2,a3⟩:=Go.Vc.FW hw P ds F fun x hx=>⟨List.mem_map.2 ⟨x,hx,rfl⟩,(hfit x hx).1⟩
 refine⟨(layAll P w ds).2.2,?_,a2.len,fun s=>?_⟩
 ·have h2:=FV hw P ds
  exact Prod.ext a1 (Prod.ext h2 rfl)
 ·rw[a3 s]
  unfold vp
  cases hd:bU ds s with
  |none=>rfl
  |some d=>
   obtain⟨hs0,hs1⟩:=HQ hd
   rw[Option.map_some,Option.map_some,Option.map_some]
   congr 1
   unfold mE
   have hm:s∈P.map Prod.fst↔(kH P s).isEmpty=false:=by
    rw[←List.count_pos_iff,←AB]
    cases hc:kH P s<;>simp
   by_cases he:(kH P s).isEmpty=true
   ·have h0:kH P s=[]:=List.isEmpty_iff.1 he
    have h1:(P.filter fun x=>decide (x.1=s))=[]:=List.map_eq_nil_iff.1 h0
    rw[if_neg (fun h=>by rw[ss ⟨hs0,hs1⟩,hm]at h;rw[h]at he;cases he),if_pos he,h1]
    simp
   ·have hf:(kH P s).isEmpty=false:=by simpa using he
    rw[if_pos ((ss ⟨hs0,hs1⟩).2 (hm.2 hf)),if_neg he]
    rfl
end Wl
namespace Go.Proofs.YtkciobclldnoiaaGreatDoor
open Go Go.Vc Go.Proofs Wl
theorem xF {n:aZ} {live:List Int} (hnd:live.Nodup) (s:Int):kH (cD n live) s=if s∈live then bs n else[]:=by
 by_cases h:s∈live
 ·rw[if_pos h];exact qX n s hnd h
 ·rw[if_neg h];exact FZ fun x hx he=>h (he▸(kb hx).1)
theorem AD {m:aZ} (h:cx m=true):bs m≠[]:=by
 unfold bs fP gF
 rw[if_pos h]
 intro e
 have:=congrArg List.length e
 simp[bJ]at this
 omega
theorem AE {ds:aQ} {l:List Int} {k:Int} (h:k∈bp ds l):k∈l∧∃d,bU ds k=some d∧d.lost=false:=by
 obtain⟨h1,h2⟩:=List.mem_filter.1 h
 unfold isLive at h2
 cases hd:bU ds k with
 |none=>rw[hd]at h2;cases h2
 |some d=>rw[hd]at h2;exact⟨h1,d,rfl,by simpa using h2⟩
end Go.Proofs.YtkciobclldnoiaaGreatDoor
namespace Go.Proofs.YtkciobclldnoiaaGreatDoor
open Go Go.Vc Go.Proofs Wl
theorem vt (l:List Int) (hl:l.length≤64) (s:Int):bU (dE l (aN l l.length).length) s=if s∈aN l l.length then some (bf.new (l.getD s.toNat 0).toNat)else none:=by
 by_cases hs:0≤s∧s<64
 ·unfold bU dE
  rw[if_pos hs,List.getElem?_map,List.getElem?_range (by omega),Option.map_some,List.take_of_length_le (Nat.le_refl _)]
  have e:((s.toNat:Nat):Int)=s:=by omega
  rw[e]
  by_cases h:s∈aN l l.length
  ·rw[if_pos h];rfl
  ·rw[if_neg h];rfl
 ·rw[if_neg (fun h=>?_)]
  ·unfold bU;rw[if_neg hs]
  ·obtain⟨n,hn,rfl,_⟩:=(l6 l l.length s).1 h
   omega
theorem EO {p:Pm} {extra:Int} {l:List Int} (hl:l.length≤64) (e0:l7 p extra l=0):
  ∃D,cR p extra Pow.new l=(0,Pow.new,D)∧D.length=64∧∀s,bU D s=if s∈aN l l.length then some ⟨(l.getD s.toNat 0).toNat,bs (bD p extra l),0,[],false,false⟩else none:=by
 have hm:=AA hl e0
 have hnd:(aN l l.length).Nodup:=(pd l l.length).imp fun h e=>by omega
 have hany:=(vr e0).2.2.2.2
 rw[Dk,if_pos e0]
 obtain⟨D,h1,h2,h3⟩:=HR FU (ds:=dE l (aN l l.length).length) (P:=cD (bD p extra l) (aN l l.length)) (BO _ _) fun x hx=>by
  obtain⟨hx1,hx2⟩:=kb hx
  refine⟨hx2,bf.new (l.getD x.1.toNat 0).toNat,by rw[vt l hl,if_pos hx1],rfl,?_⟩
  rw[xF hnd,if_pos hx1]
  have:=List.any_eq_false.1 hany x.1 hx1
  simp only[decide_eq_true_eq]at this
  show 0+_≤(l.getD x.1.toNat 0).toNat
  omega
 refine⟨D,h1,h2,fun s=>?_⟩
 rw[h3,vt l hl,xF hnd]
 by_cases h:s∈aN l l.length
 ·rw[if_pos h,if_pos h,if_pos h,Option.map_some]
  unfold mE
  rw[if_neg (by simpa using AD hm)]
  rfl
 ·rw[if_neg h,if_neg h,if_neg h];rfl
theorem vu {p:Pm} {n:Int} (h:n≤p.1*p.2.2*8):countP p n≤8:=by
 unfold countP
 split
 ·rename_i hh
  rw[Bool.and_eq_true,decide_eq_true_eq]at hh
  have:=(dJ p).1 hh.1
  have hs:0<p.1*p.2.2:=Int.mul_pos (by omega) (by omega)
  have:(n-1)/(p.1*p.2.2)<8:=Int.ediv_lt_of_lt_mul hs (by rw[Int.mul_comm 8];omega)
  omega
 ·decide
end Go.Proofs.YtkciobclldnoiaaGreatDoor
namespace Go.Proofs.YtkciobclldnoiaaGreatDoor
open Go Go.Vc Go.Proofs Wl
theorem lf {m:aZ} (h:cx m=true):dM m:=by
 obtain⟨h1,h2,h3,h4,h5,h6,h7⟩:=(lF m).1 h
 have hd:=kj h
 refine⟨by omega,by omega,fun e he=>?_⟩
 obtain⟨b1,b2,b3,b4,b5⟩:=(zx m e).1 (h5 e he)
 have:=vu b3.2
 have hn:e.name.size≤12:=by unfold kT at b1;simp at b1;omega
 omega
set_option maxRecDepth 100000
section
variable {B:aj} {h0 h:Heap} {As:List HP} {a pw:Addr} {offs:Int} {da:List (Option Addr)} {w:Pow} {ds:aQ}
end
end Go.Proofs.YtkciobclldnoiaaGreatDoor
namespace Go.Vc
open Go Wl
section
variable {k:Kit} {B:aj} {h0 h:Heap} {As:List HP} {a pw b:Addr} {mc:List Value} {offs:Int} {da:List (Option Addr)} {w:Pow} {ds:aQ} {d:bf} {n:Nat}
end
end Go.Vc
namespace Go.Proofs.YtkciobclldnoiaaGreatDoor
open Go Go.Vc Go.Proofs Wl
section
set_option maxRecDepth 20000
variable {B:aj} {h0 h:Heap} {As:List HP} {a pw b:Addr} {mc:List Value} {offs:Int} {da:List (Option Addr)} {w:Pow} {ds:aQ} {d:bf}
def iD (slot cells:Int):Bool:=decide ((0≤slot∧slot<64)∧1≤cells∧cells≤512)
end
end Go.Proofs.YtkciobclldnoiaaGreatDoor
namespace Go.Vc
open Go Wl
section
variable {k:Kit} {B:aj} {h0 h:Heap} {As:List HP} {a pw b:Addr} {mc:List Value} {offs:Int} {da:List (Option Addr)} {w:Pow} {ds:aQ} {d:bf} {n:Nat}
end
end Go.Vc
namespace Go.Proofs.YtkciobclldnoiaaGreatDoor
open Go Go.Vc Go.Proofs Wl
set_option maxRecDepth 100000
section
variable {B:aj} {h0 h:Heap} {As:List HP} {a pw b:Addr} {offs:Int} {da:List (Option Addr)} {w:Pow} {ds:aQ} {d:bf}
end
end Go.Proofs.YtkciobclldnoiaaGreatDoor
namespace Go.Proofs.YtkciobclldnoiaaGreatDoor
open Go Go.Vc Go.Proofs Wl
set_option maxRecDepth 100000
section
variable {B:aj} {h0 h:Heap} {As:List HP} {a pw:Addr} {offs:Int} {da:List (Option Addr)} {w:Pow} {ds:aQ} {mc:List Value}
theorem AF {k:Int} {d:bf} (hd:bU ds k=some d) (H:aa B h0 h (bO cK a pw mc offs da w ds::As)):∃(b:Addr) (s bl:Sl),iV da k=some b∧b9 h b bN (fH pw d s bl)∧eW h s 1 az d.l∧cY d:=by
 obtain⟨ok,_⟩:=aa.dL H
 rcases l5 ok k with⟨h1,_⟩|⟨n,d',b,rfl,hn,h1,h2,h3,h4⟩
 ·rw[h1]at hd;cases hd
 ·rw[h2]at hd
  injection hd with hd
  subst hd
  obtain⟨b',hb',H1⟩:=Go.Vc.aa.jb H h1
  rw[h3]at hb'
  injection hb' with hb'
  injection hb' with hb'
  subst hb'
  obtain⟨okd,s,bl,H2⟩:=aa.ru H1
  exact⟨b,s,bl,h4,H2.box 0 rfl,(H2.cg 2 [1,0]).DX fun _=>rfl,okd⟩
theorem AG {k:Int} (H:aa B h0 h (bO cK a pw mc offs da w ds::As)):ae Tryz.prog bx #[.pointer (some a),.int .i64 k] h fun v h'=>v=.pointer (iV da k)∧h'=h:=by
 obtain⟨ok,hb⟩:=aa.dL H
 exact iK k ok hb
theorem AH {k:Int} {d:bf} {b:Addr} (x:ct) (m:aZ) (hd:bU ds k=some d) (hb:iV da k=some b) (hx:ga h x m) (hz:dM m) (H:aa B h0 h (bO cK a pw mc offs da w ds::As)):
  ae Tryz.prog kB #[.pointer (some b),fZ x] h fun v h'=>v=.bool (de m d.l)∧Sp h h' []:=by
 obtain⟨b',s,bl,hb',q1,q2,q3⟩:=AF hd H
 rw[hb]at hb'
 injection hb' with hb'
 subst hb'
 exact Dl b pw d s bl x m h q1 q2 q3 hx hz
end
end Go.Proofs.YtkciobclldnoiaaGreatDoor
namespace Go.Proofs.YtkciobclldnoiaaGreatDoor
open Go Go.Vc Go.Proofs Wl
end Go.Proofs.YtkciobclldnoiaaGreatDoor
namespace Go.Proofs.YtkciobclldnoiaaGreatDoor
open Go Go.Vc Go.Proofs Wl
end Go.Proofs.YtkciobclldnoiaaGreatDoor
namespace Go.Proofs.YtkciobclldnoiaaGreatDoor
open Go Go.Vc Go.Proofs Wl
end Go.Proofs.YtkciobclldnoiaaGreatDoor
namespace Go.Proofs.YtkciobclldnoiaaGreatDoor
open Go Go.Vc Go.Proofs Wl
set_option maxRecDepth 100000
def vv (a b c:Int):Int×Int×Int:=(1+a%6,1+b%3,1+c%9)
theorem Dm (a b c:Int) (h:Heap):ae Tryz.prog mb #[.int .i64 a,.int .i64 b,.int .i64 c] h fun v h'=>v=o7 (vv a b c)∧Sp h h' []:=by
 refine lL a b c ?_
 unfold iF
 refine(Sp.refl h).alloc ag rfl fun x h1 H1=>?_
 refine(cO a 6 h1 (by decide) (by decide)).mono ?_
 rintro v h2 ⟨rfl,rfl⟩
 refine⟨_,rfl,(cO b 3 h2 (by decide) (by decide)).mono ?_⟩
 rintro v h3 ⟨rfl,rfl⟩
 refine⟨_,rfl,(cO c 9 h3 (by decide) (by decide)).mono ?_⟩
 rintro v h4 ⟨rfl,rfl⟩
 refine⟨_,rfl,?_⟩
 dsimp only
 rw[wrap_small _ (by omega) (by omega),wrap_small _ (by omega) (by omega),wrap_small _ (by omega) (by omega)]
 refine H1.storeAll ag 0 rfl rfl [.int .i64 (1+a%6),.int .i64 (1+b%3),.int .i64 (1+c%9)] rfl rfl rfl rfl fun h5 H5=>?_
 exact⟨vv a b c,(H5.box 0 rfl).aY _ rfl,rfl,.zip H5.ai⟩
end Go.Proofs.YtkciobclldnoiaaGreatDoor
namespace Go.Proofs.YtkciobclldnoiaaGreatDoor
open Go Go.Vc Go.Proofs Wl
end Go.Proofs.YtkciobclldnoiaaGreatDoor
namespace Go.Proofs.YtkciobclldnoiaaGreatDoor
open Go Go.Vc Go.Proofs Wl
end Go.Proofs.YtkciobclldnoiaaGreatDoor
namespace Go.Proofs.YtkciobclldnoiaaGreatDoor
open Go Go.Vc Go.Proofs Wl
set_option maxRecDepth 100000
def fe (a pw:Addr) (da:List (Option Addr)) (offs:Int) (w:Pow) (ds:aQ) (m:aZ):HP:=HP.ex fun x:ct=>(bO cK a pw (bz x) offs da w ds).sep (gA x m)
section
variable {B:aj} {h0 h:Heap} {As:List HP} {a pw:Addr} {offs:Int} {da:List (Option Addr)} {w:Pow} {ds:aQ} {m:aZ}
theorem gx (H:aa B h0 h (fe a pw da offs w ds m::As)):∃x,aa B h0 h (bO cK a pw (bz x) offs da w ds::gA x m::As):=by
 obtain⟨x,H⟩:=H.oh
 exact⟨x,H.pW.zj⟩
theorem AI {x:ct} (H:aa B h0 h (bO cK a pw (bz x) offs da w ds::gA x m::As)):aa B h0 h (fe a pw da offs w ds m::As):=
 aa.pV (F:=fun x:ct=>(bO cK a pw (bz x) offs da w ds).sep (gA x m)) x H.zj.iL
end
section
variable {B:aj} {h0 h:Heap} {As:List HP} {a pw:Addr} {offs:Int} {da:List (Option Addr)} {w:Pow} {ds:aQ} {m:aZ}
theorem EP (H:aa B h0 h (fe a pw da offs w ds m::As)):ds.length=64∧∀k d,bU ds k=some d→d.l.length≤d.room∧d.room≤512∧cY d:=by
 obtain⟨x,H⟩:=gx H
 obtain⟨ok,_⟩:=aa.dL H
 refine⟨ok.ls,fun k d hd=>?_⟩
 obtain⟨b,s,bl,_,_,_,okd⟩:=AF hd H
 exact⟨okd.len,okd.room,okd⟩
theorem vw (p:Pm) (extra:Int) (s:Sl) (l:List Int) (hS:St B h0 As fun h=>Rd h s 1 aC l) (hl:l.length≤64) (e0:l7 p extra l=0) (hw:w=Pow.new) (H:aa B h0 h (cQ bo pw w::As)):
  ae Tryz.prog mr #[o7 p,.int .i64 extra,.pointer (some pw),.slice s.ptr s.len s.cap] h fun v h'=>∃(a:Addr) (da:List (Option Addr)) (D:aQ),v=.tuple #[.pointer (some a),.int .i64 0]∧D.length=64∧
   (∀s,bU D s=if s∈aN l l.length then some ⟨(l.getD s.toNat 0).toNat,bs (bD p extra l),0,[],false,false⟩else none)∧aa B h0 h' (fe a pw da 0 Pow.new D (bD p extra l)::As):=by
 subst hw
 obtain⟨D,f1,f2,f3⟩:=EO (p:=p) (extra:=extra) (l:=l) hl e0
 refine(BS p extra s l hS (by omega) H).mono ?_
 rintro _ h' ⟨_,Q0⟩
 rw[f1]at Q0
 obtain⟨a,y,da,rfl,H7⟩:=Q0 rfl
 exact⟨a,da,D,rfl,f2,f3,AI H7⟩
theorem AJ (hm:cx m=true) (H:aa B h0 h (fe a pw da offs w ds m::As)):
  ae Tryz.prog jI #[.pointer (some a)] h fun v h'=>∃r:Sl,v=.slice r.ptr r.len r.cap∧Sp h h' [an aO r 1 aC (bp ds m.drives)]:=by
 obtain⟨x,H⟩:=gx H
 exact nJ x m (H.at 1 rfl) (lf hm) H
theorem tE (hm:cx m=true) (H:aa B h0 h (fe a pw da offs w ds m::As)):
  ae Tryz.prog iq #[.pointer (some a)] h fun v h'=>∃y:ct,v=fZ y∧Sp h h' [gA y m]:=by
 obtain⟨x,H⟩:=gx H
 exact wS x m (H.at 1 rfl) (lf hm) H
theorem qY (k:Int) (H:aa B h0 h (fe a pw da offs w ds m::As)):ae Tryz.prog bx #[.pointer (some a),.int .i64 k] h fun v h'=>v=.pointer (iV da k)∧h'=h:=by
 obtain⟨x,H⟩:=gx H
 exact AG H
theorem Cm {k:Int} {d:bf} (hd:bU ds k=some d) (H:aa B h0 h (fe a pw da offs w ds m::As)):∃b,iV da k=some b:=by
 obtain⟨x,H⟩:=gx H
 obtain⟨b,_,_,hb,_⟩:=AF hd H
 exact⟨b,hb⟩
theorem xG {k:Int} {d:bf} {b:Addr} (z:ct) (n:aZ) (hd:bU ds k=some d) (hb:iV da k=some b) (hx:ga h z n) (hz:dM n) (H:aa B h0 h (fe a pw da offs w ds m::As)):
  ae Tryz.prog kB #[.pointer (some b),fZ z] h fun v h'=>v=.bool (de n d.l)∧Sp h h' []:=by
 obtain⟨x,H⟩:=gx H
 exact AH z n hd hb hx hz H
theorem ER (o b:Int) (hm:cx m=true) (H:aa B h0 h (fe a pw da offs w ds m::As)):
  ae Tryz.prog ju #[.pointer (some a),.int .i64 o,.int .i64 b] h fun v h'=>∃r:Sl,v=.slice r.ptr r.len r.cap∧Sp h h' [dV bQ r aO 1 aC (dS m ds o b (bp ds m.drives))]:=by
 have hok:=(EP H).2
 obtain⟨x,H⟩:=gx H
 exact Dj x m o b (H.at 1 rfl) (lf hm) (kj hm) (fun k d hd=>by have:=hok k d hd;omega) H
theorem F8 (H:aa B h0 h (fe a pw da offs w ds m::As)):ae Tryz.prog jK #[.pointer (some a)] h fun v h'=>v=.bool (jD w offs)∧h'=h:=by
 obtain⟨x,H⟩:=gx H
 exact nK H
end
end Go.Proofs.YtkciobclldnoiaaGreatDoor
namespace Wl
open Go Go.Proofs.YtkciobclldnoiaaGreatDoor Go.Vc
def nM (m:aZ) (ds:aQ) (t:Int) (e:Wl.dc) (i:Nat):Bool:=
 (gj m.p (jn e.object i (e.tries.getD i 0)) (dS m ds e.object i (bp ds m.drives)) t).2.1||decide ((gj m.p (jn e.object i (e.tries.getD i 0)) (dS m ds e.object i (bp ds m.drives)) t).2.2≠0)
def lh (m:aZ) (ds:aQ) (t:Int) (e:Wl.dc):Bool:=(List.range e.tries.length).any (nM m ds t e)
def fp (m:aZ) (ds:aQ) (k:Int):Bool:=match bU ds k with|some d=>de m d.l|none=>false
def hF (m:aZ) (ds:aQ):Nat:=((bp ds m.drives).filter (fp m ds)).length
def dD (m:aZ) (offs:Int) (w:Pow) (ds:aQ) (t:Int):Bool×Int:=
 if jD w offs then(false,14)else if t<0∨t≥((bp ds m.drives).length:Int)then(false,1)else if fa ((bp ds m.drives).length:Int) t>4096 then(false,13)else
 if m.aJ.any (lh m ds t)then(false,0)else(decide ((hF m ds:Int)>t),0)
def ff (m:aZ) (offs:Int) (w:Pow) (ds:aQ):Nat:=((List.range 65).find? fun t:Nat=>!decide (dD m offs w ds t=(true,0))).getD 64
def fI (m:aZ) (offs:Int) (w:Pow) (ds:aQ):Int×Int:=
 if jD w offs then(0,14)else if ff m offs w ds=0 then(0,5)else((ff m offs w ds:Int)-1,0)
theorem kI {m:aZ} {offs:Int} {w:Pow} {ds:aQ} (hl:(bp ds m.drives).length≤64):ff m offs w ds≤64∧dD m offs w ds (ff m offs w ds)≠(true,0)∧∀j:Nat,j<ff m offs w ds→dD m offs w ds j=(true,0):=by
 have hbad:dD m offs w ds ((bp ds m.drives).length:Int)≠(true,0):=by
  unfold dD
  split
  ·simp
  ·rw[if_pos (.inr (Int.le_refl _))];simp
 have hsome:((List.range 65).find? fun t:Nat=>!decide (dD m offs w ds t=(true,0))).isSome=true:=by
  rw[List.find?_isSome]
  exact⟨_,List.mem_range.2 (show(bp ds m.drives).length<65 by omega),by simp[hbad]⟩
 obtain⟨t,ht⟩:=Option.isSome_iff_exists.1 hsome
 have e:ff m offs w ds=t:=by unfold ff;rw[ht];rfl
 rw[e]
 have h1:=List.find?_some ht
 have h2:=List.mem_range.1 (List.mem_of_find?_eq_some ht)
 refine⟨by omega,by simpa using h1,fun j hj=>?_⟩
 rw[List.find?_range_eq_some]at ht
 have:=ht.2.2 j hj
 simpa using this
end Wl
namespace Go.Proofs.YtkciobclldnoiaaGreatDoor
open Go Go.Vc Go.Proofs Wl
set_option maxRecDepth 100000
section
variable {B:aj} {h0 h:Heap} {As:List HP} {a pw:Addr} {offs:Int} {da:List (Option Addr)} {w:Pow} {ds:aQ} {m:aZ}
theorem qZ (H:aa B h0 h (fe a pw da offs w ds m::As)):ae Tryz.prog qh #[.pointer (some a)] h fun v h'=>v=.bool (jD w offs)∧h'=h:=by
 refine oN (some a) ?_
 unfold mO
 refine bH (fun e=>by cases e) fun _=>(F8 H).mono ?_
 rintro _ _ ⟨rfl,rfl⟩
 exact⟨_,rfl,rfl,rfl⟩
theorem l9 (h:Heap):ae Tryz.prog qh #[.pointer none] h fun v h'=>v=.bool true∧h'=h:=by
 refine oN none ?_
 unfold mO
 exact bH (fun _=>⟨rfl,rfl⟩) fun e=>by cases e
theorem Dn (t:Int) (hm:cx m=true) (H:aa B h0 h (fe a pw da offs w ds m::As)):ae Tryz.prog xR #[.pointer (some a),.int .i64 t] h fun v h'=>v=.bool (decide ((hF m ds:Int)>t))∧Sp h h' []:=by
 refine vZ (some a) t ?_
 unfold qk
 have hz:=lf hm
 have hdl:=kj hm
 refine(tE hm H).mono ?_
 rintro _ h1 ⟨y,rfl,R1⟩
 refine⟨y,rfl,R1.alloc ag rfl fun a2 h2 R2=>?_⟩
 refine R2.storeAll ag 1 rfl rfl (bz y) rfl rfl rfl rfl fun h3 R3=>?_
 have R3:Sp h h3 [gA y m,aA a2 aG (bz y)]:=R3
 refine(AJ hm (H.up R3.ai)).mono ?_
 rintro _ h4 ⟨lv,rfl,R4⟩
 obtain⟨live,hlive⟩:∃live,live=bp ds m.drives:=⟨_,rfl⟩
 have hll:live.length≤64:=by rw[hlive];exact Nat.le_trans (List.length_filter_le _ _) hdl
 rw[←hlive]at R4
 have R4:Sp h h4 [gA y m,aA a2 aG (bz y),an aO lv 1 aC live]:=R3.comp R4
 have hlvl:=(R4.own 2 rfl).len
 refine⟨lv,rfl,?_⟩
 have hcnt:∀j,((live.take j).filter (fp m ds)).length≤64:=fun j=>by
  have h1:=List.length_filter_le (fp m ds) (live.take j)
  have h2:=List.length_take_le j live
  rw[List.length_take]at h1;omega
 refine au (fun j:Nat=>((((live.take j).filter (fp m ds)).length:Int),(j:Int))) (fun j h'=>j≤live.length∧Sp h h' [gA y m,aA a2 aG (bz y),an aO lv 1 aC live]) (fun j=>live.length-j) 0 (by simp) ⟨by omega,R4⟩ ?_
 rintro j h5 ⟨hj,R5⟩
 dsimp only
 refine ah (fun e=>?_) fun e=>?_
 ·have hj':j<live.length:=by omega
  refine(R5.seq 2 rfl fun _=>rfl).bT j rfl hj' live[j] rfl ?_
  have hbx:=R5.box 1 rfl
  have H5:=H.up R5.ai
  obtain⟨_,d,hd,hdl0⟩:=AE (show live[j]∈bp ds m.drives by rw[←hlive];exact List.getElem_mem hj')
  obtain⟨b,hb⟩:=Cm hd H5
  refine⟨y,hbx.aY _ rfl,(qY _ H5).mono ?_⟩
  rintro _ h6 ⟨rfl,rfl⟩
  rw[hb]
  refine⟨_,rfl,⟨hbx.cell0 rfl,hbx.cell rfl,hbx.cell rfl,hbx.cell rfl,hbx.cell rfl,hbx.cell rfl,hbx.cell rfl,hbx.cell rfl,trivial⟩,(xG y m hd hb (R5.at 0 rfl) hz H5).mono ?_⟩
  rintro _ h7 ⟨rfl,R7⟩
  have hon:fp m ds live[j]=de m d.l:=by unfold fp;rw[hd]
  have hc:=hcnt (j+1)
  have hsn:((live.take (j+1)).filter (fp m ds)).length=((live.take j).filter (fp m ds)).length+(if de m d.l then 1 else 0):=by
   rw[aI _ _ hj',List.filter_append,List.length_append,List.filter_cons,hon]
   cases de m d.l<;>simp
  refine⟨_,rfl,trivial,bH (fun e2=>?_) fun e2=>?_⟩
  ·rw[e2,if_pos rfl]at hsn
   exact⟨j+1,by rw[Go.Vc.wrap_small _ (by omega) (by omega),Go.Vc.wrap_small _ (by omega) (by omega),hsn];rfl,⟨by omega,R5.up R7.ai⟩,by omega⟩
  ·rw[e2,if_neg (by decide)]at hsn
   exact⟨j+1,by rw[Go.Vc.wrap_small _ (by omega) (by omega),hsn];rfl,⟨by omega,R5.up R7.ai⟩,by omega⟩
 ·have hjl:live.take j=live:=List.take_of_length_le (by omega)
  refine⟨?_,.zip R5.ai⟩
  rw[hjl]
  unfold hF
  rw[←hlive]
theorem oG (t:Int) (hm:cx m=true) (ht:-(2^62)≤t∧t≤2^62) (H:aa B h0 h (fe a pw da offs w ds m::As)):
  ae Tryz.prog nh #[.pointer (some a),.int .i64 t] h fun v h'=>v=.tuple #[.bool (dD m offs w ds t).1,.int .i64 (dD m offs w ds t).2]∧Sp h h' []:=by
 refine mu (some a) t ?_
 unfold kC
 have hz:=lf hm
 have hdl:=kj hm
 obtain⟨live,hlive⟩:∃live,live=bp ds m.drives:=⟨_,rfl⟩
 have hll:live.length≤64:=by rw[hlive];exact Nat.le_trans (List.length_filter_le _ _) hdl
 refine(qZ H).mono ?_
 rintro _ h1 ⟨rfl,rfl⟩
 refine⟨_,rfl,bH (fun e=>?_) fun e1=>?_⟩
 ·have:dD m offs w ds t=(false,14):=by unfold dD;rw[if_pos e]
  rw[this];exact⟨rfl,Sp.refl _⟩
 refine(AJ hm H).mono ?_
 rintro _ h2 ⟨lv,rfl,R2⟩
 rw[←hlive]at R2
 have hlvl:=(R2.own 0 rfl).len
 refine⟨lv,rfl,?_⟩
 have ep:dD m offs w ds t=(if t<0∨t≥(live.length:Int)then(false,1)else if fa (live.length:Int) t>4096 then(false,13)else
   if m.aJ.any (lh m ds t)then(false,0)else(decide ((hF m ds:Int)>t),0)):=by
  unfold dD
  rw[if_neg (by rw[e1];decide),←hlive]
 rw[ep]
 refine aS (dt (fun(b:Bool) h'=>b=decide (t<0∨t≥(live.length:Int))∧h'=h2) ?_ ?_)
 ·refine ah (fun e=>⟨by rw[decide_eq_true (.inl e)],rfl⟩) fun e=>⟨?_,rfl⟩
  rw[hlvl]
  by_cases h:t≥(live.length:Int)
  ·rw[decide_eq_true h,decide_eq_true (.inr h)]
  ·rw[decide_eq_false h,decide_eq_false (by rintro(h'|h');exact e h';exact h h')]
 rintro b h3 ⟨rfl,rfl⟩
 refine ah (fun e=>by rw[if_pos e];exact⟨rfl,.zip R2.ai⟩) fun e2=>?_
 rw[if_neg e2]
 refine(nD ((lv.len:Nat):Int) t h3 (by omega) ht).mono ?_
 rintro _ h4 ⟨rfl,rfl⟩
 rw[hlvl]
 refine⟨_,rfl,ah (fun e=>by rw[if_pos e];exact⟨rfl,.zip R2.ai⟩) fun e3=>?_⟩
 rw[if_neg e3]
 have H2:=H.up R2.ai
 refine(tE hm H2).mono ?_
 rintro _ h6 ⟨y,rfl,R6⟩
 refine⟨y,rfl,R6.alloc ag rfl fun a7 h7 R7=>?_⟩
 refine R7.storeAll ag 1 rfl rfl (bz y) rfl rfl rfl rfl fun h8 R8=>?_
 have R8:Sp h4 h8 [gA y m,aA a7 aG (bz y)]:=R8
 have hy8:ga h8 y m:=R8.at 0 rfl
 have hol:=bh.len hy8.aJ
 have h12:m.aJ.length≤12:=((lF m).1 hm).2.2.2.1
 refine⟨y.2.2.2.2.2.2.2,(R8.box 1 rfl).cell rfl,?_⟩
 refine au (fun i:Nat=>(i:Int)) (fun i h'=>i≤m.aJ.length∧(m.aJ.take i).any (lh m ds t)=false∧Sp h4 h' [gA y m,aA a7 aG (bz y)]) (fun i=>m.aJ.length-i) 0 rfl ⟨by omega,by simp,R8⟩ ?_
 rintro i h9 ⟨hi,hno,R9⟩
 dsimp only
 have hy9:ga h9 y m:=R9.at 0 rfl
 obtain⟨ys,F⟩:=bh.fix hy9.aJ
 have hyl:=F.2.1
 refine ah (fun e=>?_) fun e=>?_
 ·have hi':i<m.aJ.length:=by omega
  have hrow:=Fix.row F hi'
  obtain⟨E,hE⟩:∃E,E=m.aJ[i]:=⟨_,rfl⟩
  have hEm:E∈m.aJ:=by rw[hE];exact List.getElem_mem hi'
  obtain⟨xe,hxe⟩:∃xe,xe=ys[i]'(by omega):=⟨_,rfl⟩
  rw[←hE,←hxe]at hrow
  have hEb:=(zx m E).1 (((lF m).1 hm).2.2.2.2.1 E hEm)
  have htl:E.tries.length≤8:=by have:=vu hEb.2.2.1.2;omega
  refine F.1.fT (g:=dp) i rfl (by omega) xe (by rw[hxe]) ?_
  refine(Sp.refl h9).alloc ag rfl fun a12 h10 Q10=>?_
  refine Q10.storeAll ag 0 rfl rfl (dp xe) rfl rfl rfl rfl fun h11 Q11=>?_
  have Q11:Sp h9 h11 [aA a12 cb (dp xe)]:=Q11
  have R11:Sp h4 h11 [gA y m,aA a7 aG (bz y),aA a12 cb (dp xe)]:=R9.comp Q11
  have hrt:Rd h9 xe.2.2.2 1 aC E.tries:=hrow.2
  have P11:aD (fun b=>b<h9.size) h9 h11:=Q11.ai
  refine⟨xe.2.2.2,(R11.box 2 rfl).cell rfl,?_⟩
  have htsl:=hrt.len
  refine au (fun j:Nat=>(j:Int)) (fun j h'=>j≤E.tries.length∧(∀j',j'<j→nM m ds t E j'=false)∧aD (fun b=>b<h9.size) h9 h'∧Sp h4 h' [gA y m,aA a7 aG (bz y),aA a12 cb (dp xe)]) (fun j=>E.tries.length-j) 0 rfl ⟨by omega,fun j hj=>by omega,P11,R11⟩ ?_
  rintro j h12' ⟨hj,hnj,P12,R12⟩
  dsimp only
  refine ah (fun e4=>?_) fun e4=>?_
  ·have hj':j<E.tries.length:=by omega
   refine(Seq.up hrt P12).bT j rfl hj' E.tries[j] rfl ?_
   have hb7:=R12.box 1 rfl
   have hb12:=R12.box 2 rfl
   have hy12:ga h12' y m:=R12.at 0 rfl
   have hp7:ak h12' (a7.add 2) 0 [.int .i64 m.p.1,.int .i64 m.p.2.1,.int .i64 m.p.2.2]:=by
    rw[←hy12.p];exact hb7.cells 2 _ rfl
   refine aS ⟨m.p,hp7,xe.2.1,hb12.cell rfl,xe.2.1,hb12.cell rfl,(vl xe.2.1 j E.tries[j] h12').mono ?_⟩
   rintro _ h13 ⟨rfl,rfl⟩
   obtain⟨z1,z2,z3,_⟩:=hp7
   have eo:xe.2.1=E.object:=hrow.1.2.1
   rw[eo]
   have H13:=H2.up (aa.up (Sp.refl h4) R12.ai).ai
   refine⟨_,rfl,⟨by rw[←eo];exact hb12.cell rfl,z1,z2,z3,trivial⟩,(ER E.object j hm H13).mono ?_⟩
   rintro _ h14 ⟨r21,rfl,R14⟩
   obtain⟨W,hW⟩:∃W,W=dS m ds E.object j (bp ds m.drives):=⟨_,rfl⟩
   rw[←hW]at R14
   have hWl:W.length≤64:=by rw[hW];unfold dS;rw[List.length_map,←hlive];exact hll
   have hWr:∀l∈W,l.length≤2^20:=fun l hl=>by
    rw[hW]at hl
    obtain⟨k,hk,rfl⟩:=List.mem_map.1 hl
    obtain⟨_,d,hd,_⟩:=AE hk
    have hok:=(EP H).2 k d hd
    rw[List.length_map]
    unfold iP qV
    rw[List.flatMap_cons,List.flatMap_nil,List.append_nil,hd]
    have:=vn m E.object j d.l
    show(nL m E.object j d.l).length≤_
    omega
   have R12':=R12.up R14.ai
   have hp14:ak h14 (a7.add 2) 0 [.int .i64 m.p.1,.int .i64 m.p.2.1,.int .i64 m.p.2.2]:=by
    rw[←hy12.p];exact(R12'.box 1 rfl).cells 2 _ rfl
   obtain⟨u1,u2,u3,_⟩:=hp14
   refine⟨r21,rfl,⟨u1,u2,u3,trivial⟩,(vf m.p (jn E.object j E.tries[j]) r21 W t h14 (R14.DX fun _=>rfl).Iy (by omega) hWr (Int.le_refl 0)).mono ?_⟩
   rintro _ h15 ⟨rs,rfl,R15⟩
   have hwb:nM m ds t E j=((gj m.p (jn E.object j E.tries[j]) W t).2.1||decide ((gj m.p (jn E.object j E.tries[j]) W t).2.2≠0)):=by
    unfold nM;rw[jo 0 hj',←hW]
   obtain⟨Z,hZ⟩:∃Z,Z=gj m.p (jn E.object j E.tries[j]) W t:=⟨_,rfl⟩
   rw[←hZ]at hwb⊢
   have bad:nM m ds t E j=true→(Value.tuple #[.bool false,.int .i64 0]=.tuple #[.bool (if m.aJ.any (lh m ds t)=true then(false,(0:Int))else(decide ((hF m ds:Int)>t),0)).1,.int .i64 (if m.aJ.any (lh m ds t)=true then(false,(0:Int))else(decide ((hF m ds:Int)>t),0)).2]∧Sp h1 h15 []):=fun hb=>by
    have:m.aJ.any (lh m ds t)=true:=List.any_eq_true.2 ⟨E,hEm,List.any_eq_true.2 ⟨j,List.mem_range.2 hj',hb⟩⟩
    rw[if_pos this]
    exact⟨rfl,.zip ((R2.up (aa.up (Sp.refl h4) (R12'.up R15.ai).ai).ai).ai)⟩
   refine⟨(rs,Z.2.1,Z.2.2),rfl,trivial,bH (fun e5=>bad (by rw[hwb,e5];rfl)) fun e5=>cI (fun e6=>bad (by rw[hwb,decide_eq_true e6,Bool.or_true])) fun e6=>?_⟩
   refine⟨j+1,by rw[Go.Vc.wrap_small _ (by omega) (by omega)];rfl,⟨by omega,fun j' hj''=>?_,?_,R12'.up R15.ai⟩,by omega⟩
   ·rcases Nat.lt_succ_iff_lt_or_eq.1 hj'' with h|rfl
    ·exact hnj j' h
    ·rw[hwb,e5,decide_eq_false (by simpa using e6)];rfl
   ·exact(P12.then R14.ai fun b hb _=>Nat.lt_of_lt_of_le hb P12.1).then R15.ai fun b hb _=>Nat.lt_of_lt_of_le (Nat.lt_of_lt_of_le hb P12.1) R14.ai.1
  ·refine⟨i+1,by rw[Go.Vc.wrap_small _ (by omega) (by omega)];rfl,⟨by omega,?_,R12.cL [0,1]⟩,by omega⟩
   rw[aI _ _ hi',List.any_append,hno,Bool.false_or,List.any_cons,List.any_nil,Bool.or_false,←hE]
   exact List.any_eq_false.2 fun j' hj'=>by rw[hnj j' (by have:=List.mem_range.1 hj';omega)];decide
 ·rw[List.take_of_length_le (by omega)]at hno
  rw[if_neg (by rw[hno];decide)]
  refine(Dn t hm (H2.up (aa.up (Sp.refl h4) R9.ai).ai)).mono ?_
  rintro _ h17 ⟨rfl,R17⟩
  exact⟨_,rfl,rfl,.zip (R2.up ((R9.up R17.ai).ai)).ai⟩
theorem q0 (hm:cx m=true) (H:aa B h0 h (fe a pw da offs w ds m::As)):
  ae Tryz.prog lI #[.pointer (some a)] h fun v h'=>v=.tuple #[.int .i64 (fI m offs w ds).1,.int .i64 (fI m offs w ds).2]∧Sp h h' []:=by
 refine kJ (some a) ?_
 unfold jq
 have hdl:=kj hm
 have hll:(bp ds m.drives).length≤64:=Nat.le_trans (List.length_filter_le _ _) hdl
 obtain⟨f1,f2,f3⟩:=kI (offs:=offs) (w:=w) hll
 obtain⟨T,hT⟩:∃T,T=ff m offs w ds:=⟨_,rfl⟩
 rw[←hT]at f1 f2 f3
 refine(qZ H).mono ?_
 rintro _ h1 ⟨rfl,rfl⟩
 refine⟨_,rfl,bH (fun e=>?_) fun e1=>?_⟩
 ·have:fI m offs w ds=(0,14):=by unfold fI;rw[if_pos e]
  rw[this];exact⟨rfl,Sp.refl _⟩
 have ep:fI m offs w ds=if T=0 then(0,5)else((T:Int)-1,0):=by
  unfold fI;rw[if_neg (by rw[e1];decide),←hT]
 rw[ep]
 refine dt (fun(s:Int) h'=>s=T∧Sp h1 h' []) ?_ ?_
 ·refine au (fun i:Nat=>(i:Int)) (fun i h'=>i≤T∧Sp h1 h' []) (fun i=>T-i) 0 rfl ⟨by omega,Sp.refl h1⟩ ?_
  rintro i h2 ⟨hi,R2⟩
  refine(oG i hm (by omega) (H.up R2.ai)).mono ?_
  rintro _ h3 ⟨rfl,R3⟩
  have R3':=aa.up R2 R3.ai
  by_cases hiT:i=T
  ·have hb:dD m offs w ds i≠(true,0):=by rw[hiT];exact f2
   refine⟨_,rfl,aW (fun e=>⟨by rw[hiT],R3'⟩) fun e=>cI (fun e2=>⟨by rw[hiT],R3'⟩) fun e2=>?_⟩
   exact absurd (Prod.ext e e2) hb
  ·have hg:=f3 i (by omega)
   rw[hg]
   refine⟨(true,0),rfl,aW (fun e=>by cases e) fun _=>cI (fun e=>absurd rfl e) fun _=>?_⟩
   exact⟨i+1,by rw[Go.Vc.wrap_small _ (by omega) (by omega)];rfl,⟨by omega,R3'⟩,by omega⟩
 rintro _ h4 ⟨rfl,R4⟩
 refine cM (fun e=>?_) fun e=>?_
 ·rw[if_pos (by omega)];exact⟨rfl,R4⟩
 ·rw[if_neg (by omega),Go.Vc.wrap_small _ (by omega) (by omega)];exact⟨rfl,R4⟩
end
theorem yt (t:Int) (h:Heap):ae Tryz.prog nh #[.pointer none,.int .i64 t] h fun v h'=>v=.tuple #[.bool false,.int .i64 14]∧Sp h h' []:=by
 refine mu none t ?_
 unfold kC
 refine(l9 h).mono ?_
 rintro _ _ ⟨rfl,rfl⟩
 exact⟨true,rfl,bH (fun _=>⟨rfl,Sp.refl _⟩) fun e=>by cases e⟩
theorem vx (h:Heap):ae Tryz.prog lI #[.pointer none] h fun v h'=>v=.tuple #[.int .i64 0,.int .i64 14]∧Sp h h' []:=by
 refine kJ none ?_
 unfold jq
 refine(l9 h).mono ?_
 rintro _ _ ⟨rfl,rfl⟩
 exact⟨true,rfl,bH (fun _=>⟨rfl,Sp.refl _⟩) fun e=>by cases e⟩
theorem yu (h:Heap):ae Tryz.prog ni #[.pointer none] h fun v h'=>v=.slice none 0 0∧Sp h h' []:=by
 refine mv none ?_
 unfold kD
 refine(Sp.refl h).boxed fun a1 h1 H1=>⟨none,(H1.box 0 rfl).cell0 rfl,(l9 h1).mono ?_⟩
 rintro _ h2 ⟨rfl,rfl⟩
 exact⟨true,rfl,bH (fun _=>⟨rfl,.zip H1.ai⟩) fun e=>by cases e⟩
end Go.Proofs.YtkciobclldnoiaaGreatDoor
namespace Wl
open Go Go.Proofs.YtkciobclldnoiaaGreatDoor Go.Vc
def kd (mask:Int) (k:Nat):UInt8:=b8 (Int.fdiv mask (2^(8*k)))
def cS (c:List UInt8) (at_:Nat) (mask:Int):Nat→List UInt8
 |0=>c
 |k+1=>(cS c at_ mask k).set (at_+k) ((cS c at_ mask k).getD (at_+k) 0^^^kd mask k)
def oH (c:List UInt8) (at_:Int) (mask:Int):List UInt8:=cS c at_.toNat mask 4
theorem q5 (c:List UInt8) (a:Nat) (mask:Int):∀k,(cS c a mask k).length=c.length
 |0=>rfl
 |k+1=>by unfold cS;rw[List.length_set];exact q5 c a mask k
def jF (d:bf) (i at_ mask:Int):Bool:=decide ((0≤i∧i<(d.l.length:Int))∧(0≤at_∧at_≤60)∧mask≠0)
def bf.ke (d:bf) (i at_ mask:Int):bf:=if jF d i at_ mask then{d with l:=d.l.set i.toNat (oH (d.l.getD i.toNat []) at_ mask)}else d
end Wl
namespace Go.Vc
theorem AK {α:Type} {e k:Nat} {f:α→List Value} {rs:List Sl} {ll:List (List α)} (h:rs.length=ll.length) (n:Nat) (hn:n<ll.length) (x:List α):bn e k f rs (ll.set n x)=(bn e k f rs ll).set n (an e (rs[n]'(by omega)) k f x):=by
 apply List.ext_getElem?
 intro j
 by_cases hj:j<ll.length
 ·rw[dq (by rw[List.length_set];exact h) j (by rw[List.length_set];exact hj)]
  by_cases hnj:n=j
  ·subst hnj
   rw[List.getElem?_set_self (by rw[gv h];exact hn),List.getElem_set_self]
  ·rw[List.getElem?_set_ne hnj,dq h j hj,List.getElem_set_ne hnj]
 ·rw[List.getElem?_eq_none (by rw[gv (by rw[List.length_set];exact h),List.length_set];omega),List.getElem?_eq_none (by rw[List.length_set,gv h];omega)]
end Go.Vc
namespace Go.Proofs.YtkciobclldnoiaaGreatDoor
open Go Go.Vc Go.Proofs Wl
set_option maxRecDepth 100000
section
variable {B:aj} {h0 h:Heap} {As:List HP} {a pw:Addr} {d:bf}
theorem Dp (i at_ mask:Int) (hm:0≤mask∧mask<2^32) (H:aa B h0 h (jA pw a d::As)):
  ae Tryz.prog jr #[.pointer (some a),.int .i64 i,.int .i64 at_,.int .u32 mask] h fun v h'=>v=.bool (jF d i at_ mask)∧aa B h0 h' (jA pw a (d.ke i at_ mask)::As):=by
 refine ng (some a) i at_ mask ?_
 unfold jH
 obtain⟨ok,s,bl,H1⟩:=aa.ru H
 have hsl:=(aa.vQ (H1.cg 2 [1,0])).1
 have hb:=H1.box 0 rfl
 have no:jF d i at_ mask=false→(Value.bool false=.bool (jF d i at_ mask)∧aa B h0 h (jA pw a (d.ke i at_ mask)::As)):=fun e=>by
  unfold bf.ke;rw[e];exact⟨rfl,H⟩
 have fal:¬((0≤i∧i<(d.l.length:Int))∧(0≤at_∧at_≤60)∧mask≠0)→jF d i at_ mask=false:=fun h=>decide_eq_false h
 refine aS (bH (fun e=>by cases e) fun _=>ah (fun e=>no (fal (by omega))) fun e1=>⟨a,rfl,s,hb.cell rfl,ah (fun e=>no (fal (by omega))) fun e2=>ah (fun e=>no (fal (by omega))) fun e3=>ah (fun e=>no (fal (by omega))) fun e4=>cM (fun e=>no (fal (by omega))) fun e5=>?_⟩)
 have hi:0≤i∧i<(d.l.length:Int):=by omega
 have hyes:jF d i at_ mask=true:=decide_eq_true ⟨hi,⟨by omega,by omega⟩,e5⟩
 obtain⟨n,rfl⟩:∃n:Nat,i=n:=⟨i.toNat,by omega⟩
 obtain⟨p,rfl⟩:∃p:Nat,at_=p:=⟨at_.toNat,by omega⟩
 have hn:n<d.l.length:=by omega
 have hcl:d.l[n].length=64:=ok.cell _ (List.getElem_mem hn)
 obtain⟨c,hc⟩:∃c,c=d.l[n]:=⟨_,rfl⟩
 have H2:aa B h0 h (dV aM s aB 1 az (d.l.set n (cS c p mask 0))::aA a bN (fH pw d s bl)::cZ bl d.laid::As):=by
  have e:d.l.set n (cS c p mask 0)=d.l:=by
   show d.l.set n c=d.l
   rw[hc];exact List.set_getElem_self _
  rw[e];exact H1.cg 3 [1,0,2]
 refine au (fun k:Nat=>(k:Int)) (fun k h'=>k≤4∧aa B h0 h' (dV aM s aB 1 az (d.l.set n (cS c p mask k))::aA a bN (fH pw d s bl)::cZ bl d.laid::As)) (fun k=>4-k) 0 rfl ⟨by omega,H2⟩ ?_
 rintro k h3 ⟨hk,H3⟩
 dsimp only
 refine ah (fun e=>?_) fun e=>?_
 ·have hk4:k<4:=by omega
  have hb3:=H3.box 1 rfl
  obtain⟨rs,hrl,H4⟩:=H3.yy
  have hsl3:=(H3.vQ).1
  have hll:(d.l.set n (cS c p mask k)).length=d.l.length:=List.length_set
  have hn':n<(d.l.set n (cS c p mask k)).length:=by omega
  have hrow:(bn aB 1 az rs (d.l.set n (cS c p mask k)))[n]?=some (an aB (rs[n]'(by omega)) 1 az (cS c p mask k)):=by
   rw[dq hrl n hn',List.getElem_set_self]
  have hat:((an aM s 1 bg rs::bn aB 1 az rs (d.l.set n (cS c p mask k)))++(aA a bN (fH pw d s bl)::cZ bl d.laid::As))[n+1]?=some (an aB (rs[n]'(by omega)) 1 az (cS c p mask k)):=by
   rw[List.cons_append,List.getElem?_cons_succ,List.getElem?_append_left (by rw[gv hrl];exact hn')]
   exact hrow
  have hbl:(cS c p mask k).length=64:=by rw[q5,hc];exact hcl
  have hown:=H4.own (n+1) hat
  refine⟨a,rfl,s,hb3.cell rfl,?_⟩
  have hs0:=H4.seq 0 rfl fun _=>rfl
  refine hs0.sV n rfl (by omega) ?_
  obtain⟨z,hz⟩:∃z,z=(cS c p mask k)[p+k]'(by omega):=⟨_,rfl⟩
  have hw1:IntKind.wrap .i64 ((p:Int)+(k:Int))=((p+k:Nat):Int):=by rw[Go.Vc.wrap_small _ (by omega) (by omega)];omega
  rw[hw1]
  have hseq:Vc.Seq h3 (fun b=>b<h3.size) (rs[n]'(by omega)) 1 az (cS c p mask k):=H4.seq (n+1) hat fun _=>rfl
  refine hseq.bT (p+k) rfl (by omega) (z.toNat:Int) (by rw[hz];rfl) ?_
  refine⟨by rw[Go.Vc.wrap_small _ (by omega) (by omega)];omega,?_⟩
  have hmin:min (IntKind.wrap .i64 ((8:Int)*(k:Int))).toNat (IntKind.bits .u32)=8*k:=by
   rw[Go.Vc.wrap_small _ (by omega) (by omega)]
   show min ((8:Int)*k).toNat 32=8*k
   omega
  rw[hmin,cm (Int.fdiv mask (2^(8*k)))]
  have hx:=lX z (b8 (Int.fdiv mask (2^(8*k))))
  rw[hx]
  refine H4.set ag (n+1) hat (fun _=>rfl) rfl (p+k) rfl (by omega) (z^^^kd mask k) rfl rfl rfl fun h5 H5=>⟨trivial,?_⟩
  refine⟨k+1,by rw[Go.Vc.wrap_small _ (by omega) (by omega)];rfl,⟨by omega,?_⟩,by omega⟩
  have hstep:cS c p mask (k+1)=(cS c p mask k).set (p+k) (z^^^kd mask k):=by
   show(cS c p mask k).set (p+k) ((cS c p mask k).getD (p+k) 0^^^kd mask k)=_
   rw[jo 0 (by omega),hz]
  refine aa.zk (rs:=rs) (by rw[List.length_set];omega) ?_
  have e:bn aB 1 az rs (d.l.set n (cS c p mask (k+1)))=(bn aB 1 az rs (d.l.set n (cS c p mask k))).set n (an aB (rs[n]'(by omega)) 1 az (cS c p mask (k+1))):=by
   rw[←AK hrl n hn',List.set_set]
  rw[e,hstep]
  rw[List.cons_append,List.set_cons_succ,List.set_append_left _ _ (by rw[gv hrl];exact hn')]at H5
  exact H5
 ·have hk4:k=4:=by omega
  subst hk4
  have hfin:d.ke (n:Int) (p:Int) mask={d with l:=d.l.set n (cS c p mask 4)}:=by
   unfold bf.ke
   rw[hyes,if_pos rfl,Int.toNat_natCast,jo [] hn,←hc]
   rfl
  refine⟨by rw[hyes],?_⟩
  rw[hfin]
  refine aa.qP (s:=s) (b:=bl) ⟨by show d.wait≤_;rw[List.length_set];exact ok.wait,by show(d.l.set n _).length≤_;rw[List.length_set];exact ok.len,ok.room,fun x hx=>?_,ok.laid,ok.cellL⟩ (H3.cg 3 [1,0,2])
  rcases List.mem_or_eq_of_mem_set hx with h|rfl
  ·exact ok.cell x h
  ·rw[q5,hc];exact hcl
end
end Go.Proofs.YtkciobclldnoiaaGreatDoor
namespace Go.Proofs.YtkciobclldnoiaaGreatDoor
open Go Go.Vc Go.Proofs Wl
end Go.Proofs.YtkciobclldnoiaaGreatDoor
namespace Go.Proofs.YtkciobclldnoiaaGreatDoor
open Go Go.Vc Go.Proofs Wl
end Go.Proofs.YtkciobclldnoiaaGreatDoor
namespace Go.Proofs.YtkciobclldnoiaaGreatDoor
open Go Go.Vc Go.Proofs Wl
end Go.Proofs.YtkciobclldnoiaaGreatDoor
namespace Go.Proofs.YtkciobclldnoiaaGreatDoor
open Go Go.Vc Go.Proofs Wl
theorem p9 {l:List Int} (h:l.Pairwise (·<·)):fN l=l:=by
 have hp:(fN l).Perm l:=List.mergeSort_perm _ _
 have hs:(fN l).Pairwise (fun a b=>decide (a≤b)=true):=List.pairwise_mergeSort (fun a b c h1 h2=>by simp at*;omega) (fun a b=>by simp;omega) l
 refine hp.eq_of_pairwise (le:=fun a b:Int=>decide (a≤b)=true) ?_ hs (h.imp fun h=>by simp;omega)
 intro a b _ _ h1 h2;simp at h1 h2;omega
theorem mF (c:Nat) (x:Int) (hx:0<x):aN (List.replicate c x) (List.replicate c x).length=(List.range c).map fun i:Nat=>(i:Int):=by
 rw[List.length_replicate]
 unfold aN
 refine List.filter_eq_self.2 fun y hy=>?_
 obtain⟨i,hi,rfl⟩:=List.mem_map.1 hy
 have hi:=List.mem_range.1 hi
 simp[List.getD_eq_getElem?_getD,hi];omega
theorem AL {p:Pm} {extra:Int} (hp:bP p=true) (hx:0≤extra∧extra≤16) (c:Nat) (x:Int) (hc:1≤c∧c≤24) (hx2:1≤x∧x≤512):l7 p extra (List.replicate c x)=0:=by
 have h1:(cE (List.replicate c x)).2=true:=by
  have hall:(List.replicate c x).all (cF · 0 512)=true:=List.all_eq_true.2 fun y hy=>by
   rw[List.eq_of_mem_replicate hy];exact(jT _ _ _).2 ⟨by omega,by omega⟩
  unfold cE
  rw[if_pos hall,mF c x (by omega),List.length_replicate]
  simp;omega
 have h2:cF extra 0 16=true:=(jT _ _ _).2 hx
 have h3:((aN (List.replicate c x) (List.replicate c x).length).any fun i=>decide ((List.replicate c x).getD i.toNat 0<((bs (bD p extra (List.replicate c x))).length:Int)))=false:=by
  refine List.any_eq_false.2 fun y hy=>?_
  rw[mF c x (by omega)]at hy
  obtain⟨i,hi,rfl⟩:=List.mem_map.1 hy
  have hi:=List.mem_range.1 hi
  have hs:=pe p extra (List.replicate c x) (by simp;omega)
  have hg:(List.replicate c x).getD ((i:Int)).toNat 0=x:=by rw[Int.toNat_natCast];simp[List.getD_eq_getElem?_getD,hi]
  rw[hg]
  simp;omega
 unfold l7
 rw[h1,hp,h2,h3];rfl
structure oI (p:Pm) (extra:Int) (c:Nat) (x:Int) (m:aZ) (D:aQ):Prop where
 m_eq:m=bD p extra (List.replicate c x)
 len:D.length=64
 may:cx m=true
 dr:m.drives=(List.range c).map fun i:Nat=>(i:Int)
 at_:∀s,bU D s=if s∈m.drives then some ⟨x.toNat,bs m,0,[],false,false⟩else none
theorem AM {p:Pm} {extra:Int} {c:Nat} {x:Int} (hp:bP p=true) (he:0≤extra∧extra≤16) (hc:1≤c∧c≤24) (hx2:1≤x∧x≤512) {D:aQ} (h64:D.length=64)
  (hD:∀s,bU D s=if s∈aN (List.replicate c x) (List.replicate c x).length then some ⟨((List.replicate c x).getD s.toNat 0).toNat,bs (bD p extra (List.replicate c x)),0,[],false,false⟩else none):oI p extra c x (bD p extra (List.replicate c x)) D:=by
 have e0:=AL hp he c x hc hx2
 refine⟨rfl,h64,AA (by simp;omega) e0,mF c x (by omega),fun s=>?_⟩
 rw[hD s]
 show(if s∈aN _ _ then _ else none)=(if s∈aN _ _ then _ else none)
 by_cases h:s∈aN (List.replicate c x) (List.replicate c x).length
 ·rw[if_pos h,if_pos h]
  rw[mF c x (by omega)]at h
  obtain⟨i,hi,rfl⟩:=List.mem_map.1 h
  have hi:=List.mem_range.1 hi
  rw[Int.toNat_natCast,jo 0 (by simpa using hi),List.getElem_replicate]
 ·rw[if_neg h,if_neg h]
theorem oI.live {p:Pm} {extra:Int} {c:Nat} {x:Int} {m:aZ} {D:aQ} (F:oI p extra c x m D):bp D m.drives=m.drives:=List.filter_eq_self.2 fun k hk=>by
 unfold isLive;rw[F.at_ k,if_pos hk];rfl
theorem oI.aJ {p:Pm} {extra:Int} {c:Nat} {x:Int} {m:aZ} {D:aQ} (F:oI p extra c x m D):m.aJ=[]∧m.seq=1∧m.next=0∧m.p=p∧m.extra=extra:=by rw[F.m_eq];exact⟨rfl,rfl,rfl,rfl,rfl⟩
end Go.Proofs.YtkciobclldnoiaaGreatDoor
namespace Go.Proofs.YtkciobclldnoiaaGreatDoor
open Go Go.Vc Go.Proofs Wl
section
set_option maxRecDepth 20000
variable {B:aj} {h0 h:Heap} {As:List HP} {a pw:Addr} {offs:Int} {da:List (Option Addr)} {w:Pow} {ds:aQ} {m:aZ}
theorem ES {k:Int} {d:bf} {b:Addr} (i at_ mask:Int) (hmk:0≤mask∧mask<2^32) (hd:bU ds k=some d) (hb:iV da k=some b) (H:aa B h0 h (fe a pw da offs w ds m::As)):
  ae Tryz.prog jr #[.pointer (some b),.int .i64 i,.int .i64 at_,.int .u32 mask] h fun v h'=>v=.bool (jF d i at_ mask)∧aa B h0 h' (fe a pw da offs w (fE ds k (d.ke i at_ mask)) m::As):=by
 obtain⟨x,H⟩:=gx H
 obtain⟨ok,_⟩:=aa.dL H
 obtain⟨n,rfl,hn⟩:=fz hd
 have h4:ds[n]?=some (some d):=by
  unfold bU at hd
  rw[if_pos (by omega),Int.toNat_natCast]at hd
  cases hX:ds[n]? with
  |none=>rw[hX]at hd;cases hd
  |some o=>rw[hX]at hd;exact congrArg some hd
 obtain⟨b',hb',H1⟩:=Go.Vc.aa.jb H h4
 have hbb:b'=b:=by
  unfold iV at hb
  rw[if_pos (by omega),Int.toNat_natCast,hb']at hb
  injection hb
 subst hbb
 refine(Dp i at_ mask hmk H1).mono ?_
 rintro _ h' ⟨rfl,H2⟩
 have H3:=Go.Vc.aa.tz (k:=cK) (n:=n) hb' H2
 refine⟨rfl,?_⟩
 have e:fE ds (n:Int) (d.ke i at_ mask)=ds.set n (some (d.ke i at_ mask)):=by simp only[fE,Int.toNat_natCast]
 rw[e]
 exact AI H3
theorem ET {mask:Int} (h:mask%2=1):kd mask 0≠0:=by
 intro e
 have h1:((kd mask 0).toNat:Int)=0:=by rw[e];rfl
 unfold kd at h1
 rw[Hx]at h1
 simp at h1
 omega
theorem F9 {c:List UInt8} {a mask:Int} (hc:c.length=64) (ha:0≤a∧a≤60) (hm:mask%2=1):oH c a mask≠c:=by
 intro e
 obtain⟨p,rfl⟩:∃p:Nat,a=p:=⟨a.toNat,by omega⟩
 have key:∀k,1≤k→k≤4→(cS c p mask k)[p]?=some (c.getD p 0^^^kd mask 0):=by
  intro k h1 h4
  induction k with
  |zero=>omega
  |succ k ih=>
   by_cases hk:k=0
   ·subst hk
    show(c.set (p+0) (c.getD (p+0) 0^^^kd mask 0))[p]?=_
    rw[Nat.add_zero,List.getElem?_set_self (by omega)]
   ·show((cS c p mask k).set (p+k) _)[p]?=_
    rw[List.getElem?_set_ne (by omega)]
    exact ih (by omega) (by omega)
 have h1:=key 4 (by decide) (by decide)
 have h2:(oH c (p:Int) mask)[p]?=c[p]?:=by rw[e]
 unfold oH at h2
 rw[Int.toNat_natCast,h1,List.getElem?_eq_getElem (by omega)]at h2
 injection h2 with h2
 rw[jo 0 (by omega)]at h2
 have h3:kd mask 0=0:=by
  have:=congrArg (fun z=>c[p]'(by omega)^^^z) h2
  simp only[←UInt8.xor_assoc,UInt8.xor_self,UInt8.zero_xor]at this
  exact this
 exact ET hm h3
theorem su {N:Nat} (ho:m.aJ=[]) (hd:jD w offs=false) (hll:(bp ds m.drives).length≤5) (hN:hF m ds=N) (hNl:N≤(bp ds m.drives).length):ff m offs w ds=N:=by
 obtain⟨f1,f2,f3⟩:=kI (m:=m) (offs:=offs) (w:=w) (ds:=ds) (by omega)
 have hp:∀t:Nat,t<(bp ds m.drives).length→dD m offs w ds t=(decide (N>t),0):=fun t ht=>by
  have hc:∀c,c≤5→∀t,t≤5→fa ((c:Nat):Int) ((t:Nat):Int)≤4096:=by decide
  have:=hc (bp ds m.drives).length hll t (by omega)
  unfold dD
  rw[if_neg (by rw[hd];decide),if_neg (by omega),if_neg (by omega),ho,if_neg (by simp),hN]
  congr 1
  rw[decide_eq_decide];omega
 rcases Nat.lt_trichotomy (ff m offs w ds) N with h|h|h
 ·exfalso
  apply f2
  rw[hp _ (by omega),decide_eq_true h]
 ·exact h
 ·exfalso
  have:=f3 N h
  by_cases hl:N<(bp ds m.drives).length
  ·rw[hp N hl,decide_eq_false (by omega)]at this;cases this
  ·unfold dD at this
   rw[if_neg (by rw[hd];decide),if_pos (.inr (by omega))]at this
   cases this
end
end Go.Proofs.YtkciobclldnoiaaGreatDoor
namespace Go.Proofs.YtkciobclldnoiaaGreatDoor
open Go Go.Vc Go.Proofs Wl
set_option maxRecDepth 100000
end Go.Proofs.YtkciobclldnoiaaGreatDoor
namespace Go.Proofs.YtkciobclldnoiaaGreatDoor
open Go Go.Vc Go.Proofs Wl
set_option maxRecDepth 100000
end Go.Proofs.YtkciobclldnoiaaGreatDoor
namespace Go.Proofs.YtkciobclldnoiaaGreatDoor
open Go Go.Vc Go.Proofs Wl
set_option maxRecDepth 100000
section
variable {B B':aj} {h0 h0' h h':Heap} {As As':List HP} {a b pw pw2:Addr} {d:bf}
end
end Go.Proofs.YtkciobclldnoiaaGreatDoor
namespace Go.Proofs.YtkciobclldnoiaaGreatDoor
open Go Go.Vc Go.Proofs Wl
section
set_option maxRecDepth 20000
variable {B:aj} {h0 h:Heap} {As:List HP} {a a2 pw pw2:Addr} {mc:List Value} {offs:Int} {da da2:List (Option Addr)} {w:Pow} {ds:aQ}
end
end Go.Proofs.YtkciobclldnoiaaGreatDoor
namespace Go.Proofs.YtkciobclldnoiaaGreatDoor
open Go Go.Vc Go.Proofs Wl
section
set_option maxRecDepth 20000
variable {B:aj} {h0 h:Heap} {As:List HP} {a pw b:Addr} {x:ct} {offs:Int} {da:List (Option Addr)} {w:Pow} {ds:aQ} {d:bf}
end
end Go.Proofs.YtkciobclldnoiaaGreatDoor
namespace Go.Vc
open Go Wl Go.Proofs.YtkciobclldnoiaaGreatDoor
def j1 (l:List Int) (k:Nat):Int:=l.getD k 0
def ed (l:List Int):Pm:=vv (j1 l 0) (j1 l 1) (j1 l 2)
def ma (l:List Int):Nat:=(2+j1 l 4%4).toNat
def q6 (l:List Int):List Int:=(List.range (ma l)).map fun i=>8+j1 l (5+i)%50
def Dq (l:List Int):Int:=j1 l 3%7
theorem G6 (l:List Int):2≤ma l∧ma l≤5:=by unfold ma;omega
theorem Ga (l:List Int):(q6 l).length=ma l:=by simp[q6]
end Go.Vc
namespace Go.Proofs.YtkciobclldnoiaaGreatDoor
open Go Go.Vc Go.Proofs Wl
section
set_option maxRecDepth 20000
variable {B:aj} {h0 h:Heap} {As:List HP} {a pw:Addr} {offs:Int} {da:List (Option Addr)} {w:Pow} {ds:aQ}
theorem j3 (s:Sl) (l:List Int) (k:Nat) (h:Heap) (hs:Rd h s 1 aC l):ae Tryz.prog nj #[.slice s.ptr s.len s.cap,.int .i64 k] h fun v h'=>v=.int .i64 (j1 l k)∧h'=h:=by
 refine mN s k ?_
 unfold js j1
 have hl:=hs.len
 refine ah (fun e=>?_) (fun e=>⟨?_,rfl⟩)
 ·have hk:k<l.length:=by omega
  refine hs.bT k rfl hk (l.getD k 0) (by rw[getD_lt hk];rfl) ⟨rfl,rfl⟩
 ·rw[List.getD_eq_getElem?_getD,List.getElem?_eq_none (by omega)];rfl
theorem BV (s:Sl) (l:List Int) (h:Heap) (hs:Rd h s 1 aC l):ae Tryz.prog lG #[.slice s.ptr s.len s.cap] h fun v h'=>∃r:Sl,v=.tuple #[o7 (ed l),.int .i64 (Dq l),.slice r.ptr r.len r.cap]∧Sp h h' [an aO r 1 aC (q6 l)]:=by
 refine kV s ?_
 unfold il
 refine(Sp.refl h).alloc ag rfl fun a1 h1 H1=>?_
 have hs1:=hs.up H1.ai
 refine(j3 s l 0 h1 hs1).mono ?_
 rintro _ _ ⟨rfl,rfl⟩
 refine⟨_,rfl,(j3 s l 1 _ hs1).mono ?_⟩
 rintro _ _ ⟨rfl,rfl⟩
 refine⟨_,rfl,(j3 s l 2 _ hs1).mono ?_⟩
 rintro _ h4 ⟨rfl,rfl⟩
 refine⟨_,rfl,(Dm _ _ _ h4).mono ?_⟩
 rintro _ h5 ⟨rfl,R5⟩
 have H5:=H1.up R5.ai
 refine⟨ed l,rfl,?_⟩
 refine H5.alloc ag rfl fun a6 h6 H6=>?_
 refine H6.storeAll ag 1 rfl rfl [.int .i64 (ed l).1,.int .i64 (ed l).2.1,.int .i64 (ed l).2.2] rfl rfl rfl rfl fun h7 H7=>?_
 have H7:Sp h h7 [an aO ⟨none,0,0⟩ 1 aC ((q6 l).take 0),aA a6 bj [.int .i64 (ed l).1,.int .i64 (ed l).2.1,.int .i64 (ed l).2.2],aA a1 bj [.int .i64 0,.int .i64 0,.int .i64 0]]:=(H7.nil aO 1 aC).cL [2,1,0]
 have hn:=G6 l
 have hcl:=Ga l
 refine au (fun t:Sl×Nat=>(t.1,(t.2:Int))) (fun t h'=>t.2≤ma l∧Sp h h' [an aO t.1 1 aC ((q6 l).take t.2),aA a6 bj [.int .i64 (ed l).1,.int .i64 (ed l).2.1,.int .i64 (ed l).2.2],aA a1 bj [.int .i64 0,.int .i64 0,.int .i64 0]]) (fun t=>ma l-t.2) (⟨none,0,0⟩,0) rfl ⟨by simp,H7⟩ ?_
 rintro⟨o,i⟩ h8 ⟨hi,H8⟩
 dsimp only at*
 have hs8:=hs.up H8.ai
 refine(j3 s l 4 h8 hs8).mono ?_
 rintro _ _ ⟨rfl,rfl⟩
 refine⟨_,rfl,(cO _ 4 _ (by decide) (by decide)).mono ?_⟩
 rintro _ h8 ⟨rfl,rfl⟩
 refine⟨_,rfl,?_⟩
 have hb:=H8.box 1 rfl
 dsimp only
 rw[Go.Vc.wrap_small (2+j1 l 4%4) (by omega) (by omega)]
 have ecn:2+j1 l 4%4=(ma l:Int):=by unfold ma;omega
 rw[ecn]
 refine ah (fun e=>?_) (fun e=>?_)
 ·have hi':i<ma l:=by omega
  rw[Go.Vc.wrap_small ((5:Int)+i) (by omega) (by omega)]
  have e5:(5:Int)+i=((5+i:Nat):Int):=by omega
  rw[e5]
  refine(j3 s l (5+i) h8 hs8).mono ?_
  rintro _ _ ⟨rfl,rfl⟩
  refine⟨_,rfl,(cO _ 50 _ (by decide) (by decide)).mono ?_⟩
  rintro _ h12 ⟨rfl,rfl⟩
  refine⟨_,rfl,?_⟩
  dsimp only
  rw[Go.Vc.wrap_small (8+j1 l (5+i)%50) (by omega) (by omega)]
  refine H8.push ag 0 rfl jz rfl (by decide) (fun _=>rfl) iX (8+j1 l (5+i)%50) rfl (by decide) (by simp;omega) fun o' h13 H13=>?_
  refine⟨(o',i+1),by dsimp only;rw[Go.Vc.wrap_small _ (by omega) (by omega)];rfl,⟨by dsimp only;omega,?_⟩,by dsimp only;omega⟩
  dsimp only
  rw[aI _ _ (show i<(q6 l).length by omega)]
  have e6:(q6 l)[i]'(by omega)=8+j1 l (5+i)%50:=by simp[q6]
  rw[e6];exact H13
 ·have hin:i=ma l:=by omega
  subst hin
  rw[List.take_of_length_le (by omega)]at H8
  have hc:aE.ok [(a6,(.int .i64 (ed l).1)),(a6.add 1,(.int .i64 (ed l).2.1)),(a6.add 2,(.int .i64 (ed l).2.2))] h8:=⟨hb.cell0 rfl,hb.cell rfl,hb.cell rfl,trivial⟩
  refine⟨ed l,hb.aY _ rfl,(j3 s l 3 h8 hs8).mono ?_⟩
  rintro _ _ ⟨rfl,rfl⟩
  refine⟨_,rfl,hc,(cO _ 7 _ (by decide) (by decide)).mono ?_⟩
  rintro _ h16 ⟨rfl,rfl⟩
  refine⟨_,rfl,hc,?_⟩
  refine H8.storeAll ag 2 rfl rfl [.int .i64 (ed l).1,.int .i64 (ed l).2.1,.int .i64 (ed l).2.2] rfl rfl rfl rfl fun h17 H17=>⟨trivial,?_⟩
  exact⟨ed l,(H17.box 2 rfl).aY _ rfl,o,rfl,H17.cL [0]⟩
end
end Go.Proofs.YtkciobclldnoiaaGreatDoor
namespace Go.Proofs.YtkciobclldnoiaaGreatDoor
open Go Go.Vc Go.Proofs Wl
section
set_option maxRecDepth 20000
variable {B:aj} {h0 h:Heap} {As:List HP} {a pw:Addr} {offs:Int} {da:List (Option Addr)} {w:Pow} {ds:aQ} {m:aZ}
theorem wU (ho:m.aJ=[]) (hd:jD w offs=false) (H:aa B h0 h (fe a pw da offs w ds m::As)):
  ae Tryz.prog pj #[.pointer (some a)] h fun v h'=>v=.slice none 0 0∧Sp h h' []:=by
 refine ov (some a) ?_
 unfold kn
 obtain⟨x,H⟩:=gx H
 refine(EK H).mono ?_
 rintro _ h1 ⟨rfl,rfl⟩
 refine⟨_,rfl,bH (fun e=>by rw[hd]at e;cases e) fun _=>?_⟩
 obtain⟨_,hb⟩:=aa.dL H
 have hx:ga h1 x m:=H.at 1 rfl
 have hol:=bh.len hx.aJ
 rw[ho]at hol
 refine⟨a,rfl,x.2.2.2.2.2.2.2,hb.cell rfl,?_⟩
 refine au (fun _:Unit=>((⟨none,0,0⟩:Sl),(0:Int))) (fun _ h'=>h'=h1) (fun _=>0) () rfl rfl ?_
 rintro _ h2 rfl
 refine ah (fun e=>?_) fun e=>⟨rfl,Sp.refl h2⟩
 exfalso
 have:x.2.2.2.2.2.2.2.len=0:=hol
 omega
theorem vy (ho:m.aJ=[]) (hd:jD w offs=false) (H:aa B h0 h (fe a pw da offs w ds m::As)):
  ae Tryz.prog ni #[.pointer (some a)] h fun v h'=>v=.slice none 0 0∧Sp h h' []:=by
 refine mv (some a) ?_
 unfold kD
 refine(Sp.refl h).boxed fun a1 h1 R1=>⟨some a,(R1.box 0 rfl).cell0 rfl,(qZ (H.up R1.ai)).mono ?_⟩
 rintro _ h2 ⟨rfl,rfl⟩
 refine⟨_,rfl,bH (fun e=>by rw[hd]at e;cases e) fun _=>⟨some a,(R1.box 0 rfl).cell0 rfl,(wU ho hd (H.up R1.ai)).mono ?_⟩⟩
 rintro _ h3 ⟨rfl,R3⟩
 refine⟨⟨none,0,0⟩,rfl,?_⟩
 refine(ia ⟨none,0,0⟩ (lM,#[],#[.pointer (some a1)]) (R:=fun v h'=>v=.slice none 0 0∧Sp h3 h' []) ?_).mono ?_
 ·unfold eM
  refine(iv ⟨none,0,0⟩ (lM,#[],#[.pointer (some a1)]) (R:=fun v h'=>v=.int .i64 (-1)∧h'=h3) ?_).mono ?_
  ·unfold fc
   refine au (fun _:Unit=>(0:Int)) (fun _ h'=>h'=h3) (fun _=>0) () rfl rfl ?_
   rintro _ h4 rfl
   exact ah (fun e=>absurd e (by decide)) fun e=>⟨rfl,rfl⟩
  ·rintro _ h4 ⟨rfl,rfl⟩
   exact⟨-1,rfl,cM (fun _=>⟨rfl,Sp.refl h4⟩) fun e=>absurd rfl e⟩
 ·rintro _ h5 ⟨rfl,R5⟩
  exact⟨⟨none,0,0⟩,rfl,rfl,.zip (((R1.up R3.ai).up R5.ai).ai)⟩
theorem BW {p:Pm} {E:Int} {c:Nat} {x:Int} {D:aQ} (F:oI p E c x m D):hF m D=c:=by
 unfold hF
 rw[F.live,List.filter_eq_self.2 fun k hk=>?_]
 ·rw[F.dr,List.length_map,List.length_range]
 ·unfold fp
  rw[F.at_,if_pos hk]
  show de m (bs m)=true
  unfold de
  rw[F.may,Bool.true_and]
  exact List.all_eq_true.2 fun pg hp=>decide_eq_true hp
theorem AN (h:Heap):ae Tryz.prog lK #[] h fun v h'=>v=.bool true∧Sp h h' []:=by
 refine kX ?_
 unfold ir
 refine(xy h).mono ?_
 rintro _ h1 ⟨pw,rfl,R1⟩
 refine⟨_,rfl,R1.lit ag aC jz rfl [5] rfl (show 1*1≤2^20 by decide) rfl fun v2 h2 H2=>?_⟩
 have hp:bP (1,1,1)=true:=by decide
 refine(vw (1,1,1) 0 v2 [5] (As:=[an aO v2 1 aC [5]]) (St.ud 0 rfl fun h' hq=>hq.1.seq (fun _=>rfl) hq.2) (by decide) (AL hp (by decide) 1 5 (by decide) (by decide)) rfl H2).mono ?_
 rintro _ h3 ⟨a,da,D,rfl,f2,f3,H3⟩
 have F:=AM (c:=1) (x:=5) hp (by decide) (by decide) (by decide) f2 f3
 obtain⟨m,hm⟩:∃m,m=bD (1,1,1) 0 (List.replicate 1 5):=⟨_,rfl⟩
 rw[←hm]at F
 have H3:Sp h h3 [fe a pw da 0 Pow.new D m,an aO v2 1 aC [5]]:=by rw[hm];exact H3
 refine⟨(some a,0),rfl,(oG 0 F.may (by decide) H3).mono ?_⟩
 have hh:dD m 0 Pow.new D 0=(true,0):=by
  obtain⟨f1,f2,f3⟩:=kI (m:=m) (offs:=0) (w:=Pow.new) (ds:=D) (by rw[F.live,F.dr];decide)
  have hb:=su (offs:=0) (w:=Pow.new) (N:=1) F.aJ.1 rfl (by rw[F.live,F.dr];decide) (BW F) (by rw[F.live,F.dr];decide)
  exact f3 0 (by rw[hb];decide)
 rintro _ h4 ⟨rfl,R4⟩
 rw[hh]
 have H4:=H3.up R4.ai
 refine⟨(true,0),rfl,cM (fun _=>cM (fun _=>bH (fun _=>(vy F.aJ.1 rfl H4).mono ?_) fun e=>by cases e) fun e=>absurd rfl e) fun e=>absurd rfl e⟩
 rintro _ h5 ⟨rfl,R5⟩
 exact⟨⟨none,0,0⟩,rfl,rfl,.zip (H4.up R5.ai).ai⟩
theorem tF (s:Sl) (l:List Int) (n at_ mask:Int) (h:Heap) (hs:Rd h s 1 aC l):
  ae Tryz.prog fw #[.slice s.ptr s.len s.cap,.int .i64 n,.int .i64 at_,.int .i64 mask] h fun v h'=>v=.bool true∧Sp h h' []:=by
 refine jc s n at_ mask ?_
 unfold fK
 refine(BV s l h hs).mono ?_
 rintro _ h1 ⟨r,rfl,R1⟩
 refine⟨(ed l,Dq l,r),rfl,R1.alloc ag rfl fun a2 h2 H2=>?_⟩
 refine H2.storeAll ag 1 rfl rfl [.int .i64 (ed l).1,.int .i64 (ed l).2.1,.int .i64 (ed l).2.2] rfl rfl rfl rfl fun h3 H3=>?_
 obtain⟨p,hpd⟩:∃p,p=ed l:=⟨_,rfl⟩
 obtain⟨E,hE⟩:∃E,E=Dq l:=⟨_,rfl⟩
 have hp:bP p=true:=by rw[hpd];unfold ed;rw[dJ];unfold vv;dsimp only;omega
 have hE6:0≤E∧E≤6:=by rw[hE];unfold Dq;omega
 rw[←hpd,←hE]
 rw[←hpd]at H3
 have H3:Sp h h3 [an aO ⟨none,0,0⟩ 1 aC (List.replicate 0 20),aA a2 bj [.int .i64 p.1,.int .i64 p.2.1,.int .i64 p.2.2]]:=(H3.nil aO 1 aC).cL [2,1]
 obtain⟨c,hc⟩:∃c:Nat,(c:Int)=2+n%4:=⟨(2+n%4).toNat,by omega⟩
 have hc5:2≤c∧c≤5:=by omega
 refine au (fun t:Sl×Nat=>(t.1,(t.2:Int))) (fun t h'=>t.2≤c∧Sp h h' [an aO t.1 1 aC (List.replicate t.2 20),aA a2 bj [.int .i64 p.1,.int .i64 p.2.1,.int .i64 p.2.2]]) (fun t=>c-t.2) (⟨none,0,0⟩,0) rfl ⟨Nat.zero_le _,H3⟩ ?_
 rintro⟨u,i⟩ h4 ⟨hi,H4⟩
 dsimp only at hi H4⊢
 refine(cO n 4 h4 (by decide) (by decide)).mono ?_
 rintro _ h5 ⟨rfl,rfl⟩
 refine⟨_,rfl,?_⟩
 dsimp only
 rw[Go.Vc.wrap_small (2+n%4) (by omega) (by omega),←hc]
 refine ah (fun e=>?_) fun e=>?_
 ·refine H4.push ag 0 rfl jz rfl (by decide) (fun _=>rfl) iX 20 rfl (by decide) (by simp;omega) fun o h7 H7=>?_
  refine⟨(o,i+1),by dsimp only;rw[Go.Vc.wrap_small _ (by omega) (by omega)];rfl,⟨by dsimp only;omega,?_⟩,by dsimp only;omega⟩
  dsimp only
  rw[List.replicate_succ']
  exact H7
 have hic:i=c:=by omega
 subst hic
 have hul:=(H4.own 0 rfl).len
 rw[List.length_replicate]at hul
 have e0:l7 p E (List.replicate i 20)=0:=AL hp (by omega) i 20 (by omega) (by decide)
 refine dt (fun(t:Option Addr×Int) h'=>∃(a pw:Addr) (da:List (Option Addr)) (m:aZ) (D:aQ),t=(some a,0)∧oI p E i 20 m D∧Sp h h' [fe a pw da 0 Pow.new D m]) ?_ ?_
 ·refine⟨p,(H4.box 1 rfl).aY _ rfl,(xy h5).mono ?_⟩
  rintro _ h8 ⟨pw,rfl,R8⟩
  have H8:=H4.dv R8
  have hb:=H8.box 2 rfl
  refine⟨_,rfl,⟨hb.cell0 rfl,hb.cell rfl,hb.cell rfl,trivial⟩,(vw p E u (List.replicate i 20) (As:=[an aO u 1 aC (List.replicate i 20),aA a2 bj [.int .i64 p.1,.int .i64 p.2.1,.int .i64 p.2.2]]) (St.ud 0 rfl fun h' hq=>hq.1.seq (fun _=>rfl) hq.2) (by simp;omega) e0 rfl H8).mono ?_⟩
  rintro _ h9 ⟨a,da,D,rfl,f2,f3,H9⟩
  exact⟨(some a,0),rfl,trivial,a,pw,da,_,D,rfl,AM (c:=i) (x:=20) hp (by omega) (by omega) (by decide) f2 f3,H9.cL [0]⟩
 rintro⟨_,_⟩ h10 ⟨a,pw,da,m,D,he,F,H10⟩
 injection he with he1 he2
 subst he1 he2
 refine aS (cI (fun e=>absurd rfl e) fun _=>bH (fun e=>by cases e) fun _=>?_)
 obtain⟨o1,o2,o3,o4,o5⟩:=F.aJ
 have hz:=lf F.may
 obtain⟨pg,hpg⟩:∃pg,bs m=[pg]:=by
  have h1:=AD F.may
  have h2:(bs m).length≤1:=by rw[F.m_eq];exact pe _ _ _ (by simp;omega)
  match hs:bs m,h1,h2 with
  |[],h,_=>exact absurd rfl h
  |[x],_,_=>exact⟨x,rfl⟩
  |_::_::_,_,h=>simp at h
 have hpl:pg.length=64:=uf (m:=m) (by rw[hpg];exact List.mem_singleton.2 rfl)
 obtain⟨mk,hmk⟩:∃mk,mk=IntKind.wrap .u32 ((BitVec.ofInt (IntKind.bits .u32) (IntKind.wrap .u32 mask)|||(BitVec.ofInt (IntKind.bits .u32) (1:Int))).toNat:Nat):=⟨_,rfl⟩
 rw[←hmk]
 have hmk2:(0≤mk∧mk<2^32)∧mk%2=1:=by
  obtain⟨X,hX⟩:∃X:BitVec 32,X=BitVec.ofInt (IntKind.bits .u32) (IntKind.wrap .u32 mask):=⟨_,rfl⟩
  have e:mk=(((X|||1#32).toNat:Nat):Int):=by
   have h1:mk=IntKind.wrap .u32 (((X|||1#32).toNat:Nat):Int):=by rw[hmk,hX];rfl
   rw[h1]
   have h2:=(X|||1#32).isLt
   generalize (X|||1#32).toNat=v at h2
   have:IntKind.wrap .u32 (v:Int)=(v:Int)%4294967296:=by simp[IntKind.wrap,IntKind.bits,IntKind.signed]
   rw[this];omega
  have h2:=(X|||1#32).isLt
  have h3:(X|||1#32).toNat.testBit 0=true:=by rw[BitVec.toNat_or,Nat.testBit_or];simp
  rw[Nat.testBit_zero,decide_eq_true_eq]at h3
  omega
 have hdr:=F.dr
 have hmem:∀k:Nat,(k:Int)∈m.drives↔k<i:=fun k=>by
  rw[hdr,List.mem_map]
  exact⟨fun⟨j,hj,he⟩=>by have:=List.mem_range.1 hj;omega,fun hk=>⟨k,List.mem_range.2 hk,rfl⟩⟩
 have hW:∀(D':aQ) (j:Nat),j≤i→(∀k:Nat,k<i→∃d,bU D' k=some d∧d.lost=false∧(k<j→de m d.l=false)∧(j≤k→d.l=[pg]))→bp D' m.drives=m.drives∧hF m D'=i-j:=fun D' j hj hD'=>by
  have hlive:bp D' m.drives=m.drives:=List.filter_eq_self.2 fun k hk=>by
   rw[hdr]at hk
   obtain⟨k',hk',rfl⟩:=List.mem_map.1 hk
   obtain⟨d,h1,h2,_⟩:=hD' k' (List.mem_range.1 hk')
   unfold isLive;rw[h1];simp[h2]
  refine⟨hlive,?_⟩
  unfold hF
  rw[hlive,hdr,List.filter_map,List.length_map]
  have e:(List.range i).filter (fp m D'∘fun k:Nat=>(k:Int))=(List.range i).filter fun k=>decide (j≤k):=List.filter_congr fun k hk=>by
   obtain⟨d,h1,h2,h3,h4⟩:=hD' k (List.mem_range.1 hk)
   show fp m D' (k:Int)=_
   unfold fp
   rw[h1]
   by_cases hjk:j≤k
   ·rw[decide_eq_true hjk]
    show de m d.l=true
    unfold de
    rw[F.may,hpg,h4 hjk];simp
   ·rw[decide_eq_false hjk];exact h3 (by omega)
  rw[e]
  have hcnt:∀n,((List.range n).filter fun k=>decide (j≤k)).length=n-j:=fun n=>by
   induction n with
   |zero=>simp
   |succ n ih=>
    rw[List.range_succ,List.filter_append,List.length_append,ih]
    by_cases h:j≤n
    ·simp[h];omega
    ·simp[h];omega
  exact hcnt i
 refine au (fun t:Nat×aQ=>(t.1:Int)) (fun t h'=>t.1≤i∧t.2.length=64∧(∀k:Nat,k<i→∃d,bU t.2 k=some d∧d.lost=false∧(k<t.1→de m d.l=false)∧(t.1≤k→d.l=[pg]))∧Sp h h' [fe a pw da 0 Pow.new t.2 m]) (fun t=>i-t.1) (0,D) rfl
  ⟨Nat.zero_le _,F.len,fun k hk=>⟨_,by rw[F.at_,if_pos ((hmem k).2 hk)],rfl,fun h=>absurd h (Nat.not_lt_zero _),fun _=>hpg⟩,H10⟩ ?_
 rintro⟨j,D'⟩ h12 ⟨hj,h64,hD',H12⟩
 dsimp only at hj h64 hD' H12⊢
 obtain⟨hlive,hwn⟩:=hW D' j hj hD'
 have hll:(bp D' m.drives).length=i:=by rw[hlive,hdr,List.length_map,List.length_range]
 have hfb:ff m 0 Pow.new D'=i-j:=su o1 rfl (by omega) hwn (by omega)
 refine ah (fun e=>?_) fun e=>?_
 ·have hj':j<i:=by omega
  have hwk:fI m 0 Pow.new D'=(((i-j:Nat):Int)-1,0):=by
   unfold fI
   rw[if_neg (by decide),hfb,if_neg (by omega)]
  refine(q0 F.may H12).mono ?_
  rintro _ h13 ⟨rfl,R13⟩
  rw[hwk]
  have H13:=H12.up R13.ai
  obtain⟨d,hd,hd1,hd2,hd3⟩:=hD' j hj'
  have hdl:=hd3 (Nat.le_refl _)
  obtain⟨b,hb⟩:=Cm hd H13
  refine⟨(((i-j:Nat):Int)-1,0),rfl,aS (cI (fun e=>absurd rfl e) fun _=>cI (fun e=>absurd ?_ e) fun _=>?_)⟩
  ·rw[Go.Vc.wrap_small ((u.len:Int)-1) (by omega) (by omega),Go.Vc.wrap_small _ (by omega) (by omega)]
   show((i-j:Nat):Int)-1=_
   omega
  refine(qY (j:Int) H13).mono ?_
  rintro _ h14 ⟨rfl,rfl⟩
  rw[hb]
  refine⟨_,rfl,(tE F.may H13).mono ?_⟩
  rintro _ h15 ⟨y,rfl,R15⟩
  have H15:=H13.dv R15
  have H15:Sp h h15 [fe a pw da 0 Pow.new D' m,gA y m]:=H15.cg 2 [1,0]
  have hwh:de m d.l=true:=by unfold de;rw[F.may,hpg,hdl];simp
  refine⟨y,rfl,(xG y m hd hb (H15.at 1 rfl) hz H15).mono ?_⟩
  rintro _ h16 ⟨rfl,R16⟩
  rw[hwh]
  have H16:=H15.up R16.ai
  refine⟨true,rfl,aW (fun e=>by cases e) fun _=>?_⟩
  refine(qY (j:Int) H16).mono ?_
  rintro _ h18 ⟨rfl,rfl⟩
  rw[hb]
  refine⟨_,rfl,(cO at_ 61 h18 (by decide) (by decide)).mono ?_⟩
  rintro _ h19 ⟨rfl,rfl⟩
  have ha0:=Int.emod_nonneg at_ (show(61:Int)≠0 by decide)
  have ha1:=Int.emod_lt_of_pos at_ (show(0:Int)<61 by decide)
  refine⟨_,rfl,(ES 0 (at_%61) mk hmk2.1 hd hb H16).mono ?_⟩
  rintro _ h20 ⟨rfl,H20⟩
  have hsp:jF d 0 (at_%61) mk=true:=by
   unfold jF
   refine decide_eq_true ⟨⟨Int.le_refl _,by rw[hdl];exact(by decide:(0:Int)<((1:Nat):Int))⟩,⟨by omega,by omega⟩,?_⟩
   intro h0;rw[h0]at hmk2;exact absurd hmk2.2 (by decide)
  rw[hsp]
  have hnew:(d.ke 0 (at_%61) mk)={d with l:=[oH pg (at_%61) mk]}:=by
   unfold bf.ke
   rw[hsp,if_pos rfl,hdl];rfl
  rw[hnew]at H20
  refine⟨true,rfl,aW (fun e=>by cases e) fun _=>?_⟩
  refine⟨(j+1,fE D' j {d with l:=[oH pg (at_%61) mk]}),by dsimp only;rw[Go.Vc.wrap_small _ (by omega) (by omega)];rfl,⟨by dsimp only;omega,by dsimp only;rw[FX];exact h64,fun k hk=>?_,H20.cL [0]⟩,by dsimp only;omega⟩
  dsimp only
  rw[FY h64 hd]
  by_cases hkj:(k:Int)=(j:Int)
  ·rw[if_pos hkj]
   refine⟨_,rfl,hd1,fun _=>?_,fun h=>by omega⟩
   show de m [oH pg (at_%61) mk]=false
   have hne:=F9 (c:=pg) (a:=at_%61) (mask:=mk) hpl ⟨by omega,by omega⟩ hmk2.2
   unfold de
   rw[hpg]
   simp[Ne.symm hne]
  ·rw[if_neg hkj]
   obtain⟨d',q1,q2,q3,q4⟩:=hD' k hk
   exact⟨d',q1,q2,fun h=>q3 (by omega),fun h=>q4 (by omega)⟩
 ·have hji:j=i:=by omega
  subst hji
  rw[Nat.sub_self]at hfb hwn
  have hwk:fI m 0 Pow.new D'=(0,5):=by
   unfold fI
   rw[if_neg (by decide),hfb,if_pos rfl]
  refine(q0 F.may H12).mono ?_
  rintro _ h21 ⟨rfl,R21⟩
  rw[hwk]
  have H21:=H12.up R21.ai
  have hh:dD m 0 Pow.new D' 0=(false,0):=by
   have hc:∀c,c≤5→fa ((c:Nat):Int) 0≤4096:=by decide
   have:=hc (bp D' m.drives).length (by omega)
   unfold dD
   rw[if_neg (by decide),if_neg (by omega),if_neg (by omega),o1,if_neg (by simp),hwn]
   rfl
  refine⟨(0,5),rfl,(oG 0 F.may (by decide) H21).mono ?_⟩
  rintro _ h22 ⟨rfl,R22⟩
  rw[hh]
  have H22:=H21.up R22.ai
  refine⟨(false,0),rfl,(yt 0 h22).mono ?_⟩
  rintro _ h23 ⟨rfl,R23⟩
  have H23:=H22.up R23.ai
  refine⟨(false,14),rfl,(vx h23).mono ?_⟩
  rintro _ h24 ⟨rfl,R24⟩
  have H24:=H23.up R24.ai
  refine⟨(0,14),rfl,cM (fun _=>aW (fun _=>cM (fun _=>cM (fun _=>cM (fun _=>(yu h24).mono ?_) fun e=>absurd rfl e) fun e=>absurd rfl e) fun e=>absurd rfl e) fun e=>by cases e) fun e=>absurd rfl e⟩
  rintro _ h25 ⟨rfl,R25⟩
  have H25:=H24.up R25.ai
  refine⟨⟨none,0,0⟩,rfl,cM (fun _=>(AN h25).mono ?_) fun e=>absurd rfl e⟩
  rintro _ h26 ⟨rfl,R26⟩
  exact⟨true,rfl,rfl,.zip (H25.up R26.ai).ai⟩
theorem oJ (s:Sl) (l:List Int) (n at_ mask:Int) (h:Heap) (hs:Rd h s 1 aC l):
  ae Tryz.prog fw #[.slice s.ptr s.len s.cap,.int .i64 n,.int .i64 at_,.int .i64 mask] h fun v h'=>v=.bool true∧aD (fun b=>b<h.size) h h':=
 (tF s l n at_ mask h hs).mono fun _ _ ⟨a,b⟩=>⟨a,b.ai⟩
end
end Go.Proofs.YtkciobclldnoiaaGreatDoor
