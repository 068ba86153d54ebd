/- Part of the proofs that the laws of this seat answer true whatever the input reads, and leave it as it was; no condition. -/
import Derived.Test.YtkciobclldnoiaaGreatDoorTabS
import Derived.Test.YtkciobclldnoiaaGreatDoorPlA
import Derived.Test.YtkciobclldnoiaaGreatDoorShelfA
import Derived.Test.YtkciobclldnoiaaGreatDoorPlB
import Derived.Test.YtkciobclldnoiaaGreatDoorPlC
import Derived.Test.YtkciobclldnoiaaGreatDoorPlD
import Derived.Test.YtkciobclldnoiaaGreatDoorPlE
import Derived.Test.YtkciobclldnoiaaGreatDoorPlF
import Derived.Test.YtkciobclldnoiaaGreatDoorPlG
set_option linter.unusedVariables false
set_option linter.unusedSimpArgs false
namespace Go.Proofs.YtkciobclldnoiaaGreatDoor
open Go Go.Vc Go.Proofs Wl
set_option maxRecDepth 100000
def ints (l:List Nat):List Int:=l.map fun x:Nat=>(x:Int)
theorem gi (l:List Nat):(ints l).length=l.length:=by simp[ints]
theorem tt {l:List Nat} {k:Nat} (h:k<l.length):(ints l)[k]'(by rw[gi];exact h)=(l[k]:Int):=by simp[ints]
theorem Cg {n:Nat}:∀{j i:Nat},i≤j→2*j≤n→ch n i≤ch n j
 |0,i,h,_=>by
   have:i=0:=by omega
   subst this;exact Nat.le_refl _
 |j+1,i,h,hj=>by
  by_cases hi:i=j+1
  ·subst hi;exact Nat.le_refl _
  ·exact Nat.le_trans (Cg (by omega) (by omega)) (HZ (by omega))
theorem nC (n t:Int) (h:Heap):ae Tryz.prog xW #[.int .i64 n,.int .i64 t] h fun v h'=>v=.bool (decide (0≤n∧n≤64∧0≤t∧t≤n))∧h'=h:=by
 refine wg n t ?_
 unfold qn
 refine ah (fun h1=>ah (fun h2=>ah (fun h3=>⟨?_,rfl⟩) (fun h3=>⟨?_,rfl⟩)) (fun h2=>⟨?_,rfl⟩)) (fun h1=>⟨?_,rfl⟩)
 ·congr 1;exact decide_eq_decide.2 (by omega)
 ·rw[decide_eq_false (by omega)]
 ·rw[decide_eq_false (by omega)]
 ·rw[decide_eq_false (by omega)]
theorem nD (n t:Int) (h:Heap) (hn:-(2^62)≤n∧n≤2^62) (ht:-(2^62)≤t∧t≤2^62):ae Tryz.prog xP #[.int .i64 n,.int .i64 t] h fun v h'=>v=.int .i64 (fa n t)∧h'=h:=by
 refine vX n t ?_
 unfold qj
 refine(nC n t h).mono ?_
 rintro v h1 ⟨rfl,rfl⟩
 refine⟨_,rfl,aW (fun e=>?_) (fun e=>?_)⟩
 ·have e:=of_decide_eq_false e
  unfold fa;rw[if_neg e];exact⟨rfl,rfl⟩
 ·have e:=of_decide_eq_true e
  obtain⟨N,rfl⟩:∃N:Nat,n=N:=⟨n.toNat,by omega⟩
  obtain⟨T,rfl⟩:∃T:Nat,t=T:=⟨t.toNat,by omega⟩
  have hc:fa N T=((min (ch N T) 4097:Nat):Int):=by unfold fa;rw[if_pos e];rfl
  rw[hc]
  obtain⟨m,hm⟩:∃m,m=min T (N-T):=⟨_,rfl⟩
  have hmch:ch N m=ch N T:=by
   rw[hm]
   rcases Nat.le_total T (N-T)with h2|h2
   ·rw[Nat.min_eq_left h2]
   ·rw[Nat.min_eq_right h2,←zf N T (by omega)]
  have ebound:(if IntKind.wrap .i64 ((N:Int)-T)<(T:Int)then IntKind.wrap .i64 ((N:Int)-T)else(T:Int))=(m:Int):=by
   rw[wrap_small _ (by omega) (by omega)];split<;>omega
  rw[ebound]
  refine au (fun i:Nat=>(((ch N i:Nat):Int),(i:Int))) (fun i h'=>h'=h1∧i≤m∧ch N i≤4096) (fun i=>m-i) 0 (by rw[hJ];rfl) ⟨rfl,by omega,by rw[hJ];omega⟩ ?_
  rintro i h2 ⟨rfl,hi,hci⟩
  dsimp only
  refine ah (fun e2=>?_) (fun e2=>?_)
  ·have hi':i<m:=by omega
   have hN:N≤64:=by omega
   have hnx:=Ca (n:=N) (k:=i) (by omega)
   have hmul:ch N i*(N-i)≤4096*64:=Nat.mul_le_mul hci (by omega)
   have e3:IntKind.wrap .i64 ((N:Int)-i)=((N-i:Nat):Int):=by rw[wrap_small _ (by omega) (by omega)];omega
   have e4:IntKind.wrap .i64 (((ch N i:Nat):Int)*((N-i:Nat):Int))=((ch N i*(N-i):Nat):Int):=by rw[←Int.natCast_mul,wrap_small _ (by omega) (by omega)]
   have e5:IntKind.wrap .i64 ((i:Int)+1)=((i+1:Nat):Int):=by rw[wrap_small _ (by omega) (by omega)];rfl
   have e6:Int.tdiv ((ch N i*(N-i):Nat):Int) ((i+1:Nat):Int)=((ch N (i+1):Nat):Int):=by
    rw[←hnx,←Int.ofNat_tdiv,Nat.mul_div_cancel _ (by omega)]
   have hle:ch N (i+1)≤4096*64:=by
    have:ch N (i+1)*1≤ch N (i+1)*(i+1):=Nat.mul_le_mul_left _ (by omega)
    omega
   rw[e3,e4,e5,e6,wrap_small _ (by omega) (by omega)]
   refine⟨by omega,ah (fun e7=>?_) (fun e7=>?_)⟩
   ·have:=Cg (n:=N) (j:=m) (i:=i+1) (by omega) (by omega)
    refine⟨?_,rfl⟩
    rw[show min (ch N T) 4097=4097 by omega];rfl
   ·exact⟨i+1,rfl,⟨rfl,by omega,by omega⟩,by omega⟩
  ·have:i=m:=by omega
   subst this
   refine⟨?_,rfl⟩
   rw[show min (ch N T) 4097=ch N i by omega]
theorem C1 (s:Sl) (l:List Int) (x:Int) (h:Heap) (hs:Rd h s 1 aC l) (hl:l.length≤2^30):ae Tryz.prog mf #[.slice s.ptr s.len s.cap,.int .i64 x] h fun v h'=>(∃i:Int,v=.int .i64 i∧(0≤i↔x∈l)∧(0≤i→l[i.toNat]?=some x∧∀j,j<i.toNat→l[j]?≠some x)∧i<l.length∧-1≤i)∧h'=h:=by
 refine lS s x ?_
 unfold iJ
 have hsl:=hs.len
 refine au (fun i:Nat=>(i:Int)) (fun i h'=>h'=h∧i≤l.length∧∀j,j<i→l[j]?≠some x) (fun i=>l.length-i) 0 rfl ⟨rfl,by omega,fun j hj=>by omega⟩ ?_
 rintro i h1 ⟨rfl,hi,hno⟩
 refine ah (fun e=>?_) (fun e=>?_)
 ·have hi':i<l.length:=by omega
  refine hs.bT i rfl hi' _ rfl ?_
  refine cM (fun e2=>?_) (fun e2=>?_)
  ·refine⟨⟨i,rfl,⟨fun _=>e2▸List.getElem_mem hi',fun _=>by omega⟩,fun _=>⟨by rw[Int.toNat_natCast,List.getElem?_eq_getElem hi',e2],fun j hj=>hno j (by omega)⟩,by omega,by omega⟩,rfl⟩
  ·refine⟨i+1,by rw[wrap_small _ (by omega) (by omega)];rfl,⟨rfl,by omega,fun j hj=>?_⟩,by omega⟩
   rcases Nat.lt_succ_iff_lt_or_eq.1 hj with hj|rfl
   ·exact hno j hj
   ·rw[List.getElem?_eq_getElem hi'];intro hh;exact e2 (Option.some.inj hh).symm
 ·refine⟨⟨-1,rfl,⟨fun hh=>by omega,fun hh=>?_⟩,fun hh=>by omega,by omega,by omega⟩,rfl⟩
  obtain⟨j,hj,rfl⟩:=List.getElem_of_mem hh
  exact absurd (List.getElem?_eq_getElem hj) (hno j (by omega))
theorem yi (s:Sl) (l:List Int) (x:Int) (h:Heap) (hs:Rd h s 1 aC l) (hl:l.length≤2^30):ae Tryz.prog kF #[.slice s.ptr s.len s.cap,.int .i64 x] h fun v h'=>v=.bool (decide (x∈l))∧h'=h:=by
 refine ku s x ?_
 unfold gH
 refine(C1 s l x h hs hl).mono ?_
 rintro v h1 ⟨⟨i,rfl,hi,_⟩,rfl⟩
 refine⟨i,rfl,?_,rfl⟩
 congr 1
 exact decide_eq_decide.2 hi
theorem Eb (n:Nat) (s:Sl) (l:List Nat) {B:aj} {h0 h:Heap} {As:List HP} (H:aa B h0 h As) (i:Nat) (hi:As[i]?=some (an aO s 1 aC (ints l))) (hn:n≤64) (hln:l.length≤n) (hb:∀x∈l,x<n):
  ae Tryz.prog zT #[.slice s.ptr s.len s.cap,.int .i64 n] h fun v h'=>match fh n l with
   |some l'=>v=.bool true∧aa B h0 h' (As.set i (an aO s 1 aC (ints l')))
   |none=>v=.bool false∧h'=h:=by
 refine xZ s n ?_
 unfold si
 have hsl:=(H.own i hi).len
 rw[gi]at hsl
 refine au (fun k:Nat=>(k:Int)-1) (fun k h'=>h'=h∧k≤l.length∧fh n (l.drop k)=none) (fun k=>k) l.length (by rw[hsl,Go.Vc.wrap_small _ (by omega) (by omega)]) ⟨rfl,Nat.le_refl _,by rw[List.drop_length];rfl⟩ ?_
 rintro k h1 ⟨rfl,hk,hno⟩
 refine ah (fun e=>?_) (fun e=>?_)
 ·obtain⟨k,rfl⟩:∃j,k=j+1:=⟨k-1,by omega⟩
  have hk':k<l.length:=by omega
  have hd:=H.seq i hi (fun _=>rfl)
  have hkx:(((k+1:Nat):Int)-1)=(k:Int):=by omega
  have hxn:=hb _ (List.getElem_mem hk')
  have e1:fh n (l.drop k)=if l[k]+(l.length-k-1)+1<n then some (List.range' (l[k]+1) (l.length-k-1+1))else none:=by
   rw[List.drop_eq_getElem_cons hk']
   unfold fh
   rw[hno]
   simp[Nat.sub_sub]
  refine hd.bT k hkx (by rw[gi];exact hk') _ rfl ?_
  rw[tt hk',hkx,wrap_small ((n:Int)-((s.len:Nat):Int)) (by omega) (by omega),wrap_small _ (by omega) (by omega)]
  refine ah (fun e2=>?_) (fun e2=>?_)
  ·refine hd.bT k rfl (by rw[gi];exact hk') _ rfl ?_
   rw[tt hk',wrap_small _ (by omega) (by omega)]
   rw[if_pos (by omega)]at e1
   have e3:=ze k l _ (by omega) e1
   rw[e3]
   dsimp only
   refine H.set ag i hi (fun _=>rfl) rfl k rfl (by rw[gi];exact hk') ((l[k]:Int)+1) rfl rfl rfl fun h2 H2=>?_
   let st:Nat→List Nat:=fun j=>l.take k++List.range' (l[k]+1) (j+1)++l.drop (k+1+j)
   have hst0:(ints l).set k ((l[k]:Int)+1)=ints (st 0):=by
    have:st 0=l.set k (l[k]+1):=by
     simp only[st]
     rw[List.set_eq_take_append_cons_drop,if_pos hk']
     simp[List.range'_succ]
    rw[this];simp[ints,List.map_set]
   rw[hst0]at H2
   refine au (fun j:Nat=>((k+1+j:Nat):Int)) (fun j h'=>k+1+j≤l.length∧aa B h0 h' (As.set i (an aO s 1 aC (ints (st j))))) (fun j=>l.length-j) 0 (by rw[wrap_small _ (by omega) (by omega)];rfl) ⟨by omega,H2⟩ ?_
   rintro j h3 ⟨hj,H3⟩
   have hlen:(st j).length=l.length:=by simp[st];omega
   have hlt:i<As.length:=(List.getElem?_eq_some_iff.1 hi).1
   have hg:(As.set i (an aO s 1 aC (ints (st j))))[i]?=some (an aO s 1 aC (ints (st j))):=List.getElem?_set_self hlt
   refine ah (fun e4=>?_) (fun e4=>?_)
   ·have hj':k+1+j<l.length:=by omega
    have hgj:(st j)[k+j]'(by omega)=l[k]+1+j:=by
     simp only[st,List.append_assoc]
     rw[List.getElem_append_right (by simp;omega),List.getElem_append_left (by simp;omega)]
     simp[List.getElem_range'];omega
    refine(H3.seq i hg (fun _=>rfl)).bT (k+j) (by rw[wrap_small _ (by omega) (by omega)];omega) (by rw[gi];omega) _ rfl ?_
    rw[tt (by omega),hgj,wrap_small _ (by omega) (by omega)]
    refine H3.set ag i hg (fun _=>rfl) rfl (k+1+j) rfl (by rw[gi];omega) (((l[k]+1+j:Nat):Int)+1) rfl rfl rfl fun h4 H4=>?_
    refine⟨j+1,by rw[wrap_small _ (by omega) (by omega)];omega,⟨by omega,?_⟩,by omega⟩
    rw[List.set_set]at H4
    have:(ints (st j)).set (k+1+j) (((l[k]+1+j:Nat):Int)+1)=ints (st (j+1)):=by
     have h5:(st j).set (k+1+j) (l[k]+1+j+1)=st (j+1):=by
      simp only[st]
      rw[List.set_append_right _ _ (by simp;omega)]
      have:k+1+j-(List.take k l++List.range' (l[k]+1) (j+1)).length=0:=by simp;omega
      rw[this,List.drop_eq_getElem_cons hj',List.set_cons_zero,List.range'_concat (n:=j+1)]
      simp[Nat.add_assoc]
     rw[←h5];simp[ints,List.map_set]
    rw[this]at H4;exact H4
   ·have hj2:k+1+j=l.length:=by omega
    refine⟨rfl,?_⟩
    have:l.take k++List.range' (l[k]+1) (l.length-k-1+1)=st j:=by
     simp only[st]
     rw[hj2,List.drop_length,List.append_nil,show l.length-k-1+1=j+1 by omega]
    rw[this];exact H3
  ·rw[if_neg (by omega)]at e1
   exact⟨k,by rw[Go.Vc.wrap_small _ (by omega) (by omega)],⟨rfl,by omega,e1⟩,by omega⟩
 ·have:k=0:=by omega
  subst this
  rw[List.drop_zero]at hno
  rw[hno];exact⟨rfl,rfl⟩
end Go.Proofs.YtkciobclldnoiaaGreatDoor
namespace Go.Proofs.YtkciobclldnoiaaGreatDoor
open Go Go.Vc Go.Proofs
set_option maxRecDepth 100000
theorem lX (a b:UInt8):IntKind.wrap .u8 ((BitVec.ofInt (IntKind.bits .u8) (a.toNat:Int)^^^BitVec.ofInt (IntKind.bits .u8) (b.toNat:Int)).toNat:Nat)=((a^^^b).toNat:Int):=by
 have e:∀a:UInt8,BitVec.ofInt (IntKind.bits .u8) (a.toNat:Int)=a.toBitVec:=fun a=>by
  apply BitVec.eq_of_toNat_eq
  have:=UInt8.toNat_lt a
  simp[IntKind.bits]
 rw[e,e]
 have hlt:=(a.toBitVec^^^b.toBitVec).isLt
 have:((a^^^b).toNat:Int)=((a.toBitVec^^^b.toBitVec).toNat:Int):=rfl
 rw[this]
 show(((a.toBitVec^^^b.toBitVec).toNat:Nat):Int)%256=_
 have:(a.toBitVec^^^b.toBitVec).toNat<256:=hlt
 omega
def HD (a:UInt8):Nat→Int×Int×Int
 |0=>((a.toNat:Int),(3:Int),(0:Int))
 |1=>(((Gf.x2 a).toNat:Int),(1:Int),(a.toNat:Int))
 |_=>(((Gf.x2 (Gf.x2 a)).toNat:Int),(0:Int),((Gf.x3 a).toNat:Int))
theorem Bv (a:UInt8) (h:Heap):ae Tryz.prog Bj #[.int .u8 a.toNat,.int .u8 3] h fun v h'=>v=.int .u8 (Gf.x3 a).toNat∧h'=h:=by
 have key:∀n:Nat,n<256→
   ((IntKind.wrap .u8 ((BitVec.ofInt (IntKind.bits .u8) (n:Int)&&&(BitVec.ofInt (IntKind.bits .u8) (128:Int))).toNat:Nat)) !=(0:Int))=true→IntKind.wrap .u8 ((BitVec.ofInt (IntKind.bits .u8) (IntKind.wrap .u8 ((n:Int)*2^min (1:Int).toNat (IntKind.bits .u8)))^^^(BitVec.ofInt (IntKind.bits .u8) (27:Int))).toNat:Nat)=((Gf.x2 (UInt8.ofNat n)).toNat:Int):=by decide+kernel
 have key2:∀n:Nat,n<256→
   ((IntKind.wrap .u8 ((BitVec.ofInt (IntKind.bits .u8) (n:Int)&&&(BitVec.ofInt (IntKind.bits .u8) (128:Int))).toNat:Nat)) !=(0:Int))=false→IntKind.wrap .u8 ((n:Int)*2^min (1:Int).toNat (IntKind.bits .u8))=((Gf.x2 (UInt8.ofNat n)).toNat:Int):=by decide+kernel
 refine zY _ _ ?_
 unfold uO
 refine au (HD a) (fun t h'=>h'=h∧t≤2) (fun t=>2-t) 0 rfl ⟨rfl,by omega⟩ ?_
 rintro t h' ⟨rfl,ht⟩
 rcases(show t=0∨t=1∨t=2 by omega)with rfl|rfl|rfl
 ·rw[show HD a 0=((a.toNat:Int),(3:Int),(0:Int))from rfl]
  dsimp only
  refine nS (by decide) (aS (yR (by decide) ?_))
  refine⟨by decide,aS ?_⟩
  refine bH (fun hb=>?_) (fun hb=>?_)
  ·rw[key _ (UInt8.toNat_lt a) hb,UInt8.ofNat_toNat]
   refine⟨by decide,1,?_,⟨rfl,by decide⟩,by decide⟩
   have:=lX 0 a
   simp only[UInt8.zero_xor]at this
   exact Prod.ext rfl (Prod.ext rfl this)
  ·rw[key2 _ (UInt8.toNat_lt a) hb,UInt8.ofNat_toNat]
   refine⟨by decide,1,?_,⟨rfl,by decide⟩,by decide⟩
   have:=lX 0 a
   simp only[UInt8.zero_xor]at this
   exact Prod.ext rfl (Prod.ext rfl this)
 ·rw[show HD a 1=(((Gf.x2 a).toNat:Int),(1:Int),(a.toNat:Int))from rfl]
  dsimp only
  refine nS (by decide) (aS (yR (by decide) ?_))
  refine⟨by decide,aS ?_⟩
  refine bH (fun hb=>?_) (fun hb=>?_)
  ·rw[key _ (UInt8.toNat_lt (Gf.x2 a)) hb,UInt8.ofNat_toNat]
   refine⟨by decide,2,?_,⟨rfl,by decide⟩,by decide⟩
   refine Prod.ext rfl (Prod.ext rfl ?_)
   have:=lX a (Gf.x2 a)
   rw[UInt8.xor_comm]at this
   exact this
  ·rw[key2 _ (UInt8.toNat_lt (Gf.x2 a)) hb,UInt8.ofNat_toNat]
   refine⟨by decide,2,?_,⟨rfl,by decide⟩,by decide⟩
   refine Prod.ext rfl (Prod.ext rfl ?_)
   have:=lX a (Gf.x2 a)
   rw[UInt8.xor_comm]at this
   exact this
 ·exact yR (b:=(0:Int)==0) (by decide) ⟨rfl,rfl⟩
def eE:List Int:=(List.range 255).map fun i=>((Gf.pw i).toNat:Int)
def jV:List Int:=(List.range 256).map fun x=>if x=0 then 0 else((Gf.lg (UInt8.ofNat x):Nat):Int)
theorem dB:eE.length=255:=by simp[eE]
theorem lY:jV.length=256:=by simp[jV]
def cz:List Value:=eE.map (Sc.enc (.int .u8))++jV.map (Sc.enc (.int .i64))
abbrev er (h:Heap) (a:Addr):Prop:=b9 h a fv cz
theorem wF (k:IntKind) (l:List Int):(l.map (Sc.enc (.int k))).all (·.oneCell')=true:=by
 rw[List.all_map,List.all_eq_true];intro x _;rfl
theorem Bw (h:Heap):ae Tryz.prog zU #[] h fun v h'=>v=.agg (eE.map (Sc.enc (.int .u8))).toArray∧Sp h h' []:=by
 refine ya ?_
 unfold sj
 refine(Sp.refl h).alloc ag rfl fun a h1 H1=>?_
 refine au (fun i:Nat=>(((Gf.pw i).toNat:Int),(i:Int))) (fun i h'=>i≤255∧Sp h h' [aA a AY (((List.range 255).map fun j=>if j<i then((Gf.pw j).toNat:Int)else 0).map (Sc.enc (.int .u8)))]) (fun i=>255-i) 0 rfl ⟨by omega,?_⟩ ?_
 ·have e:((List.range 255).map fun j=>if j<0 then((Gf.pw j).toNat:Int)else 0).map (Sc.enc (.int .u8))=List.replicate 255 (.int .u8 0):=by simp;rfl
  rw[e];exact H1
 ·rintro i h2 ⟨hi,H2⟩
  refine ah (fun hlt=>?_) (fun hge=>?_)
  ·dsimp only at hlt
   refine⟨⟨by dsimp only;omega,by dsimp only;omega⟩,?_⟩
   dsimp only
   rw[show((i:Int).toNat*1)=i by omega]
   refine H2.storeAt ag 0 rfl rfl rfl rfl rfl (by simp;omega) fun h3 H3=>?_
   refine(Bv (Gf.pw i) h3).mono ?_
   rintro v h4 ⟨rfl,rfl⟩
   refine⟨_,rfl,i+1,?_,⟨by omega,?_⟩,by omega⟩
   ·rw[wrap_small _ (by omega) (by omega)];rfl
   ·have e:((((List.range 255).map fun j=>if j<i then((Gf.pw j).toNat:Int)else 0).map (Sc.enc (.int .u8))).set i (.int .u8 (Gf.pw i).toNat))=(((List.range 255).map fun j=>if j<i+1 then((Gf.pw j).toNat:Int)else 0).map (Sc.enc (.int .u8))):=by
     apply List.ext_getElem?
     intro j
     simp only[List.getElem?_set,List.getElem?_map,List.length_map,List.length_range]
     by_cases hj:i=j
     ·subst hj
      have:i<255:=by omega
      simp[this]
     ·by_cases hj2:j<255
      ·simp only[hj,if_false,List.getElem?_range hj2,Option.map_some]
       by_cases hj3:j<i
       ·rw[if_pos hj3,if_pos (by omega)]
       ·rw[if_neg hj3,if_neg (by omega)]
      ·simp[hj,hj2]
    rw[←e];exact H3
  ·have hi':i=255:=by dsimp only at hge;omega
   subst hi'
   have e:((List.range 255).map fun j=>if j<255 then((Gf.pw j).toNat:Int)else 0)=eE:=by
    unfold eE
    apply List.map_congr_left
    intro j hj
    rw[if_pos (List.mem_range.1 hj)]
   rw[e]at H2
   have hb:=H2.box 0 rfl
   refine⟨eE,⟨dB,hb.aY _ (by rw[List.take_of_length_le (Nat.le_refl _)])⟩,?_⟩
   refine H2.storeAll ag 0 rfl rfl (eE.map (Sc.enc (.int .u8))) rfl (by rw[List.length_map,dB]) (wF _ _) rfl fun h3 H3=>?_
   have hb3:=H3.box 0 rfl
   exact⟨eE,⟨dB,hb3.aY _ (by rw[List.take_of_length_le (Nat.le_refl _)])⟩,rfl,.zip H3.ai⟩
theorem Ec (h:Heap):ae Tryz.prog CU #[.agg (eE.map (Sc.enc (.int .u8))).toArray] h fun v h'=>v=.agg (jV.map (Sc.enc (.int .i64))).toArray∧Sp h h' []:=by
 refine Be eE ?_
 unfold xk
 refine(Sp.refl h).boxed fun a h1 H1=>?_
 refine H1.alloc ag rfl fun a2 h2 H2=>?_
 have hb:=H2.box 0 rfl
 refine⟨eE,⟨dB,hb.aY _ (by show List.take _ (eE.map _)=_;rw[List.take_of_length_le (Nat.le_refl _)])⟩,?_⟩
 let L:Nat→List Int:=fun i=>(List.range 256).map fun x=>if x≠0∧Gf.lg (UInt8.ofNat x)<i then((Gf.lg (UInt8.ofNat x):Nat):Int)else 0
 refine au (fun i:Nat=>(i:Int)) (fun i h'=>i≤255∧Sp h h' [emp,aA a2 D8 ((L i).map (Sc.enc (.int .i64)))]) (fun i=>255-i) 0 rfl ⟨by omega,?_⟩ ?_
 ·have e:(L 0).map (Sc.enc (.int .i64))=List.replicate 256 (.int .i64 0):=by simp[L];rfl
  rw[e]
  exact H2.fl 0 rfl fun _ _=>trivial
 ·rintro i h3 ⟨hi,H3⟩
  refine ah (fun hlt=>?_) (fun hge=>?_)
  ·have hi':i<255:=by omega
   have hp:=UInt8.toNat_lt (Gf.pw i)
   refine⟨((Gf.pw i).toNat:Int),⟨by omega,by omega,by simp[eE,hi']⟩,⟨by omega,by omega⟩,?_⟩
   rw[show(((Gf.pw i).toNat:Int).toNat*1)=(Gf.pw i).toNat by omega]
   refine H3.storeAt ag 1 rfl rfl rfl rfl rfl (by simp[L];omega) fun h4 H4=>?_
   refine⟨i+1,by rw[wrap_small _ (by omega) (by omega)];rfl,⟨by omega,?_⟩,by omega⟩
   have e:((L i).map (Sc.enc (.int .i64))).set (Gf.pw i).toNat (.int .i64 i)=(L (i+1)).map (Sc.enc (.int .i64)):=by
    apply List.ext_getElem?
    intro j
    simp only[List.getElem?_set,List.getElem?_map,List.length_map,List.length_range,L]
    by_cases hj:(Gf.pw i).toNat=j
    ·subst hj
     simp only[if_true,List.getElem?_range hp,Option.map_some,hp]
     have hne:(Gf.pw i).toNat≠0:=fun h0=>Gf.CB i hi' (UInt8.toNat_inj.1 h0)
     rw[UInt8.ofNat_toNat,Gf.CA i hi',if_pos ⟨hne,by omega⟩]
    ·by_cases hj2:j<256
     ·simp only[hj,if_false,List.getElem?_range hj2,Option.map_some]
      by_cases hj3:j=0
      ·simp[hj3]
      ·have hn:Gf.lg (UInt8.ofNat j)≠i:=fun h0=>by
        apply hj
        rw[←h0,Gf.Cz _ (fun hz=>hj3 (by have:=congrArg UInt8.toNat hz;simpa[Nat.mod_eq_of_lt hj2]using this))]
        simp[Nat.mod_eq_of_lt hj2]
       by_cases hl:Gf.lg (UInt8.ofNat j)<i
       ·rw[if_pos ⟨hj3,hl⟩,if_pos ⟨hj3,by omega⟩]
       ·rw[if_neg fun hh=>hl hh.2,if_neg fun hh=>hl (by omega)]
     ·simp[hj,hj2]
   rw[←e];exact H4
  ·have hi':i=255:=by omega
   subst hi'
   have e:L 255=jV:=by
    unfold jV
    apply List.map_congr_left
    intro j hj
    by_cases hj3:j=0
    ·simp[hj3]
    ·rw[if_pos ⟨hj3,Gf.tW _⟩,if_neg hj3]
   rw[e]at H3
   have hb:=H3.box 1 rfl
   refine⟨jV,⟨lY,hb.aY _ (by rw[List.take_of_length_le (Nat.le_refl _)])⟩,?_⟩
   refine H3.storeAll ag 1 rfl rfl (jV.map (Sc.enc (.int .i64))) rfl (by rw[List.length_map,lY]) (wF _ _) rfl fun h4 H4=>?_
   have hb4:=H4.box 1 rfl
   exact⟨jV,⟨lY,hb4.aY _ (by rw[List.take_of_length_le (Nat.le_refl _)])⟩,rfl,.zip H4.ai⟩
theorem u9 (h:Heap):ae Tryz.prog D9 #[] h fun v h'=>∃a:Addr,v=.pointer (some a)∧Sp h h' [aA a fv cz]:=by
 refine CT ?_
 unfold zP
 refine(Bw h).mono ?_
 rintro v h1 ⟨rfl,H1⟩
 refine⟨eE,rfl,?_⟩
 refine H1.alloc ag rfl fun a h2 H2=>?_
 refine H2.storeAll ag 0 rfl rfl (eE.map (Sc.enc (.int .u8))) rfl (by rw[List.length_map,dB]) (wF _ _) (by rw[List.length_map,dB];rfl) fun h3 H3=>?_
 have hb:=H3.box 0 rfl
 have hc:ak h3 a 0 (eE.map (Sc.enc (.int .u8))):=hb.aY _ (by rw[List.take_of_length_le (Nat.le_refl _)])
 refine⟨eE,⟨dB,hc⟩,eE,⟨dB,hc⟩,?_⟩
 refine(Ec h3).mono ?_
 rintro v h4 ⟨rfl,H4⟩
 refine⟨jV,rfl,iB.2 ⟨(H4.ai).cells hb.lt hc,trivial⟩,_,pL ag (i:=_) rfl rfl rfl (cells:=cz.toArray) ?_,?_⟩
 ·have hz:∀z:List Value,z.length=511→Instr.fill (fun n=>[(0,255),(255,256)][n]?) z.toArray [(0,.agg (eE.map (Sc.enc (.int .u8))).toArray),(1,.agg (jV.map (Sc.enc (.int .i64))).toArray)]=some cz.toArray:=by
   intro z hz
   have e:z=[]++z.take 255++z.drop 255:=by simp
   conv=>lhs;rw[e]
   rw[yZ (vs:=eE.map (Sc.enc (.int .u8))) rfl (by simp[dB]) (by simp[dB,hz])]
   have e2:[]++eE.map (Sc.enc (.int .u8))++z.drop 255=eE.map (Sc.enc (.int .u8))++z.drop 255++[]:=by simp
   rw[e2,yZ (vs:=jV.map (Sc.enc (.int .i64))) rfl (by simp[dB,lY]) (by simp[lY,hz])]
   simp[Instr.fill,cz]
  exact hz _ rfl
 ·have hcl:(Value.agg cz.toArray).cells.toList=cz:=rfl
  refine(H3.comp H4).boxed fun a7 h5 H5=>?_
  have hb5:=H5.box 0 rfl
  exact⟨iB.2 ⟨hb5.aY _ (by rw[List.take_of_length_le (Nat.le_refl _)]),trivial⟩,a7,rfl,H5.take 1 (fun i A hi=>by cases i with|zero=>exact hi|succ i=>simp at hi)⟩
end Go.Proofs.YtkciobclldnoiaaGreatDoor
namespace Go.Proofs.YtkciobclldnoiaaGreatDoor
open Go Go.Vc Go.Proofs Wl
set_option maxRecDepth 100000
abbrev Pm:=Int×Int×Int
abbrev o7 (p:Pm):Value:=.agg #[.int .i64 p.1,.int .i64 p.2.1,.int .i64 p.2.2]
theorem dd (p:Pm) (h:Heap):ae Tryz.prog CR #[o7 p] h fun v h'=>v=.bool (bP p)∧Sp h h' []:=by
 refine AZ p ?_
 unfold xi
 refine(Sp.refl h).boxed fun a h1 H1=>?_
 have hb:=H1.box 0 rfl
 have hz:Sp h h1 []:=.zip H1.ai
 have c0:cellOf h1 a=some (.int .i64 p.1):=hb.cell0 rfl
 have c1:cellOf h1 (a.add 1)=some (.int .i64 p.2.1):=hb.cell rfl
 have c2:cellOf h1 (a.add 2)=some (.int .i64 p.2.2):=hb.cell rfl
 unfold bP
 refine⟨_,c0,ah (fun e1=>?_) (fun e1=>⟨by rw[decide_eq_false e1];rfl,hz⟩)⟩
 rw[decide_eq_true e1]
 refine⟨_,c0,ah (fun e1=>?_) (fun e1=>⟨by rw[decide_eq_false e1];rfl,hz⟩)⟩
 rw[decide_eq_true e1]
 refine⟨_,c1,ah (fun e1=>?_) (fun e1=>⟨by rw[decide_eq_false e1];rfl,hz⟩)⟩
 rw[decide_eq_true e1]
 refine⟨_,c1,ah (fun e1=>?_) (fun e1=>⟨by rw[decide_eq_false e1];rfl,hz⟩)⟩
 rw[decide_eq_true e1]
 refine⟨_,c2,ah (fun e1=>?_) (fun e1=>⟨by rw[decide_eq_false e1];rfl,hz⟩)⟩
 rw[decide_eq_true e1]
 exact⟨_,c2,rfl,hz⟩
abbrev jz:bt C.tomV bQ aO 1 [.int .i64 0] 8:=⟨_,_,rfl,rfl,rfl,rfl,rfl,rfl⟩
abbrev gZ:bt C.tomV aM aB 1 [.int .u8 0] 1:=⟨_,_,rfl,rfl,rfl,rfl,rfl,rfl⟩
abbrev iN:bt C.tomV ea aM 1 [.slice none 0 0] 24:=⟨_,_,rfl,rfl,rfl,rfl,rfl,rfl⟩
theorem eT (s:Sl) (l:List Int) (h:Heap) (hs:Rd h s 1 aC l) (hsz:l.length≤2^30):ae Tryz.prog me #[.slice s.ptr s.len s.cap] h fun v h'=>∃r:Sl,v=.slice r.ptr r.len r.cap∧Sp h h' [an aO r 1 aC l]:=by
 refine lN s ?_
 unfold iI
 refine bH (fun e=>?_) (fun e=>?_)
 ·have:=hs.isNil e
  subst this
  exact⟨⟨none,0,0⟩,rfl,(Sp.refl h).nil aO 1 aC⟩
 ·refine(Sp.refl h).lit ag aC jz rfl [] rfl (by decide) rfl fun s1 h1 H1=>?_
  refine H1.append ag 0 rfl jz ⟨_,_,rfl,rfl⟩ rfl (by decide) (fun _=>rfl) (hs.up H1.ai) iX (by simp;omega) fun s2 h2 H2=>⟨s2,rfl,H2⟩
theorem fG (s:Sl) (l:List UInt8) (h:Heap) (hs:Rd h s 1 az l) (hsz:l.length≤2^30):ae Tryz.prog wk #[.slice s.ptr s.len s.cap] h fun v h'=>∃r:Sl,v=.slice r.ptr r.len r.cap∧Sp h h' [an aB r 1 az l]:=by
 refine uI s ?_
 unfold oV
 refine bH (fun e=>?_) (fun e=>?_)
 ·have:=hs.isNil e
  subst this
  exact⟨⟨none,0,0⟩,rfl,(Sp.refl h).nil aB 1 az⟩
 ·refine(Sp.refl h).lit ag az gZ rfl [] rfl (by decide) rfl fun s1 h1 H1=>?_
  refine H1.append ag 0 rfl gZ ⟨_,_,rfl,rfl⟩ rfl (by decide) (fun _=>rfl) (hs.up H1.ai) fU (by simp;omega) fun s2 h2 H2=>⟨s2,rfl,H2⟩
theorem xr {e:TypeId} (s:Sl) (l:List Int) (h:Heap) (ho:Own h e s 1 aC l) (hsz:l.length<2^40):ae Tryz.prog mP #[.slice s.ptr s.len s.cap] h fun v h'=>v=.tuple #[]∧Own h' e s 1 aC (fN l)∧aD (fun b=>¬s.on b) h h':=
 zi Tryz.slices_Sort_int Tryz.slices_Sort_int_none ho hsz
theorem cO (x n:Int) (h:Heap) (hn:0<n) (hb:n≤2^62):ae Tryz.prog lH #[.int .i64 x,.int .i64 n] h fun v h'=>v=.int .i64 (x%n)∧h'=h:=by
 refine kW x n ?_
 unfold im
 have h1:=Int.tmod_lt_of_pos x hn
 have h2:-n<x.tmod n:=Int.lt_tmod_of_pos x hn
 have he:=yY x n hn
 refine⟨by omega,aS ?_⟩
 refine ah (fun hlt=>?_) (fun hge=>?_)
 ·rw[wrap_small _ (by omega) (by omega)]
  exact⟨by rw[he,if_pos hlt],rfl⟩
 ·exact⟨by rw[he,if_neg hge],rfl⟩
theorem eW.take {α:Type} {h:Heap} {s:Sl} {k:Nat} {f:α→List Value} {ll:List (List α)} (hs:eW h s k f ll) (n:Nat) (hn:n≤ll.length):eW h ⟨s.ptr,n,s.cap⟩ k f (ll.take n):=by
 obtain⟨rs,hs⟩:=hs
 have hl:=hs.len
 refine⟨rs.take n,hs.top.take n (by omega),by simp;omega,fun i r l h1 h2=>?_⟩
 rw[List.getElem?_take]at h1 h2
 split at h1
 ·rename_i hlt;rw[if_pos hlt]at h2;exact hs.row i r l h1 h2
 ·cases h1
end Go.Proofs.YtkciobclldnoiaaGreatDoor
namespace Go.Proofs.YtkciobclldnoiaaGreatDoor
open Go Go.Vc Go.Proofs
set_option maxRecDepth 100000
theorem qL {h:Heap} {a:Addr} (hf:er h a) (n:Nat) (hn:n<255):cellOf h (a.add n)=some (.int .u8 (Gf.pw n).toNat):=
 hf.cell (by rw[cz,List.getElem?_append_left (by simp[dB,hn])];simp[eE,hn])
theorem qM {h:Heap} {a:Addr} (hf:er h a) (x:UInt8) (hx:x≠0):cellOf h ((a.add 255).add x.toNat)=some (.int .i64 (Gf.lg x)):=by
 have ha:=hf.addr
 have e:(a.add 255).add x.toNat=a.add (255+x.toNat):=by rw[ha,add_eq,add_eq,add_eq];congr 1;omega
 rw[e]
 refine hf.cell ?_
 have hlt:=UInt8.toNat_lt x
 have h0:x.toNat≠0:=fun h0=>hx (UInt8.toNat_inj.1 h0)
 rw[cz,List.getElem?_append_right (by simp[dB])]
 simp[dB,jV,hlt,h0]
theorem jW (a:Addr) (h:Heap):ae Tryz.prog uP #[.pointer (some a)] h fun v h'=>v=.pointer (some a)∧h'=h:=by
 refine th (some a) ?_
 unfold nw
 exact nS rfl ⟨rfl,rfl⟩
theorem yj (a:Addr) (h:Heap):ae Tryz.prog Bo #[.pointer (some a)] h fun v h'=>v=.pointer (some a)∧h'=h:=by
 refine z6 (some a) ?_
 unfold uR
 exact nS rfl ⟨rfl,rfl⟩
theorem yk (a:Addr) (h:Heap):ae Tryz.prog Bu #[.pointer (some a)] h fun v h'=>v=.pointer (some a)∧h'=h:=by
 refine Ac (some a) ?_
 unfold u6
 exact nS rfl ⟨rfl,rfl⟩
theorem mQ {x:UInt8}:((x.toNat:Int)=0)↔x=0:=⟨fun h=>UInt8.toNat_inj.1 (by simpa using h),fun h=>by rw[h];rfl⟩
theorem Ad (a:Addr) (x y:UInt8) (h:Heap) (hf:er h a):ae Tryz.prog u5 #[.pointer (some a),.int .u8 x.toNat,.int .u8 y.toNat] h fun v h'=>v=.int .u8 (Gf.mul x y).toNat∧h'=h:=by
 refine tp (some a) _ _ ?_
 unfold nA
 refine aS ?_
 refine cM (fun h0=>⟨by rw[Gf.mul,if_pos (.inl (mQ.1 h0))];rfl,rfl⟩) (fun hx=>?_)
 refine cM (fun h0=>⟨by rw[Gf.mul,if_pos (.inr (mQ.1 h0))];rfl,rfl⟩) (fun hy=>?_)
 have hx':x≠0:=fun h0=>hx (mQ.2 h0)
 have hy':y≠0:=fun h0=>hy (mQ.2 h0)
 refine(jW a h).mono ?_
 rintro v h2 ⟨rfl,rfl⟩
 have b1:=UInt8.toNat_lt x;have b2:=UInt8.toNat_lt y
 have l1:=Gf.tW x;have l2:=Gf.tW y
 refine⟨some a,rfl,a,rfl,⟨by omega,by omega⟩,(Gf.lg x:Int),?_,a,rfl,⟨by omega,by omega⟩,(Gf.lg y:Int),?_,by decide,a,rfl,?_⟩
 ·rw[show((x.toNat:Int).toNat*1)=x.toNat by omega];exact qM hf x hx'
 ·rw[show((y.toNat:Int).toNat*1)=y.toNat by omega];exact qM hf y hy'
 rw[wrap_small _ (by omega) (by omega)]
 have e:Int.tmod ((Gf.lg x:Int)+(Gf.lg y:Int)) 255=(((Gf.lg x+Gf.lg y)%255:Nat):Int):=by
  rw[Int.tmod_eq_emod_of_nonneg (by omega)];rfl
 rw[e]
 have hlt:=Nat.mod_lt (Gf.lg x+Gf.lg y) (show 255>0 by decide)
 refine⟨⟨by omega,by omega⟩,_,?_,by rw[Gf.mul,if_neg (by simp[hx',hy'])],rfl⟩
 rw[show((((Gf.lg x+Gf.lg y)%255:Nat):Int).toNat*1)=(Gf.lg x+Gf.lg y)%255 by omega]
 exact qL hf _ hlt
theorem Fy (a:Addr) (x:UInt8) (h:Heap) (hf:er h a):ae Tryz.prog uX #[.pointer (some a),.int .u8 x.toNat] h fun v h'=>v=.int .u8 (Gf.inv x).toNat∧h'=h:=by
 refine tm (some a) _ ?_
 unfold nz
 refine cM (fun h0=>⟨by rw[Gf.inv,if_pos (mQ.1 h0)];rfl,rfl⟩) (fun hx=>?_)
 have hx':x≠0:=fun h0=>hx (mQ.2 h0)
 refine(jW a h).mono ?_
 rintro v h2 ⟨rfl,rfl⟩
 have b1:=UInt8.toNat_lt x
 have l1:=Gf.tW x
 refine⟨some a,rfl,a,rfl,⟨by omega,by omega⟩,(Gf.lg x:Int),?_,by decide,a,rfl,?_⟩
 ·rw[show((x.toNat:Int).toNat*1)=x.toNat by omega];exact qM hf x hx'
 rw[wrap_small _ (by omega) (by omega)]
 have e:Int.tmod (255-(Gf.lg x:Int)) 255=(((255-Gf.lg x)%255:Nat):Int):=by
  rw[Int.tmod_eq_emod_of_nonneg (by omega)];omega
 rw[e]
 have hlt:=Nat.mod_lt (255-Gf.lg x) (show 255>0 by decide)
 refine⟨⟨by omega,by omega⟩,_,?_,by rw[Gf.inv,if_neg hx'],rfl⟩
 rw[show((((255-Gf.lg x)%255:Nat):Int).toNat*1)=(255-Gf.lg x)%255 by omega]
 exact qL hf _ hlt
theorem Fz (a:Addr) (n:Int) (h:Heap) (hf:er h a):ae Tryz.prog uM #[.pointer (some a),.int .i64 n] h fun v h'=>v=.int .u8 (Gf.pw (n%255).toNat).toNat∧h'=h:=by
 refine td (some a) n ?_
 unfold nu
 have h1:=Int.tmod_lt_of_pos n (show(0:Int)<255 by decide)
 have h2:-255<n.tmod 255:=Int.lt_tmod_of_pos n (by decide)
 have he:=yY n 255 (by decide)
 have hp0:=Int.emod_nonneg n (show(255:Int)≠0 by decide)
 have hp1:=Int.emod_lt_of_pos n (show(0:Int)<255 by decide)
 refine⟨by decide,dt (fun s h'=>s=n%255∧h'=h) ?_ ?_⟩
 ·refine ah (fun hlt=>?_) (fun hge=>?_)
  ·rw[if_pos hlt]at he
   exact⟨by rw[wrap_small _ (by omega) (by omega),he],rfl⟩
  ·rw[if_neg hge]at he
   exact⟨he.symm,rfl⟩
 ·rintro s h' ⟨rfl,rfl⟩
  refine(jW a h').mono ?_
  rintro v h2 ⟨rfl,rfl⟩
  refine⟨some a,rfl,a,rfl,⟨hp0,hp1⟩,_,?_,rfl,rfl⟩
  rw[Nat.mul_one]
  exact qL hf _ (by omega)
end Go.Proofs.YtkciobclldnoiaaGreatDoor
namespace Go.Proofs.YtkciobclldnoiaaGreatDoor
open Go Go.Vc Go.Proofs Wl
theorem iO (p:Pm) (h:Heap):ae Tryz.prog Ba #[o7 p] h fun v h'=>v=.int .i64 (cd p)∧Sp h h' []:=by
 refine zN p ?_
 unfold uC
 refine(Sp.refl h).boxed fun a h1 H1=>?_
 refine⟨p,(H1.box 0 rfl).aY _ rfl,?_⟩
 refine(dd p h1).mono ?_
 rintro v h2 ⟨rfl,H2⟩
 have H12:=H1.comp H2
 have hb:=H12.box 0 rfl
 refine⟨_,rfl,aW (fun e=>⟨by simp[cd,e],.zip H12.ai⟩) (fun e=>?_)⟩
 refine⟨_,hb.cell0 rfl,_,hb.cell rfl,?_,.zip H12.ai⟩
 have:=(dJ p).1 e
 rw[wrap_small _ (by omega) (by omega),cd,if_pos e]
theorem Ed (n i:Int) (h:Heap):ae Tryz.prog Bf #[.int .i64 n,.int .i64 i] h fun v h'=>∃s:Sl,v=.slice s.ptr s.len s.cap∧
  Sp h h' [an aB s 1 az (if 1≤n∧n≤64∧0≤i∧i<n then(List.replicate n.toNat (0:UInt8)).set i.toNat 1 else[])]:=by
 refine zV n i ?_
 unfold uL
 have no:∀c:Prop,¬c→[Decidable c]→Sp h h [an aB ⟨none,0,0⟩ 1 az (if c then(List.replicate n.toNat (0:UInt8)).set i.toNat 1 else[])]:=fun c hc _=>by
  rw[if_neg hc];exact(Sp.refl h).nil aB 1 az
 refine aS ?_
 refine ah (fun e=>⟨⟨none,0,0⟩,rfl,no _ (by omega)⟩) (fun e1=>?_)
 refine ah (fun e=>⟨⟨none,0,0⟩,rfl,no _ (by omega)⟩) (fun e2=>?_)
 refine ah (fun e=>⟨⟨none,0,0⟩,rfl,no _ (by omega)⟩) (fun e3=>?_)
 refine ah (fun e=>⟨⟨none,0,0⟩,rfl,no _ (by omega)⟩) (fun e4=>?_)
 refine(Sp.refl h).make ag az ⟨_,_,rfl,rfl,rfl,rfl,rfl,rfl⟩ (by decide) 0 rfl rfl n.toNat n.toNat (by omega) (by omega) (Nat.le_refl _) (by omega) fun s h1 hl hc H1=>?_
 refine H1.set ag 0 rfl (fun _=>rfl) rfl i.toNat (by omega) (by simp;omega) 1 rfl rfl rfl fun h2 H2=>?_
 refine⟨s,rfl,?_⟩
 rw[if_pos (by omega)]
 exact H2
end Go.Proofs.YtkciobclldnoiaaGreatDoor
namespace Go.Proofs.YtkciobclldnoiaaGreatDoor
open Go Go.Vc Go.Proofs Wl
set_option maxRecDepth 100000
theorem yl (s:Int) (h:Heap):ae Tryz.prog Bp #[.int .u32 s] h fun v h'=>∃a:Addr,v=.pointer (some a)∧Sp h h' [aA a cP [.int .u64 (IntKind.wrap .u64 s)]]:=by
 refine z8 s ?_
 unfold uU
 exact(Sp.refl h).boxed fun a h1 H1=>⟨a,rfl,H1⟩
theorem nE (a:Addr) (s:Int) (h:Heap) (hb:b9 h a cP [.int .u64 s]):ae Tryz.prog rG #[.pointer (some a)] h fun v h'=>v=.int .u32 (told s)∧b9 h' a cP [.int .u64 (w4 s)]∧aD (·≠a.block) h h':=by
 refine qG (some a) ?_
 unfold lU
 refine nS rfl ⟨a,rfl,s,hb.cell0 rfl,a,rfl,?_⟩
 refine Cw ag hb rfl _ rfl rfl rfl (Nat.le_refl _) fun h1 hb1 hp1 _=>?_
 exact⟨a,rfl,_,hb1.cell0 rfl,by decide,rfl,hb1,hp1⟩
theorem va (a:Addr) (s n:Int) (h:Heap) (hb:b9 h a cP [.int .u64 s]) (hn:0<n) (hn2:n≤2^62):ae Tryz.prog qJ #[.pointer (some a),.int .i64 n] h fun v h'=>v=.int .i64 (gp s n)∧b9 h' a cP [.int .u64 (w4 s)]∧aD (·≠a.block) h h':=by
 refine px (some a) n ?_
 unfold kO
 refine aS (nS rfl (ah (fun e=>by omega) fun _=>?_))
 refine(nE a s h hb).mono ?_
 rintro v h1 ⟨rfl,hb1,hp1⟩
 exact⟨_,rfl,by rw[wrap_u64];omega,rfl,hb1,hp1⟩
theorem Ch (a b:Nat) (h1:a≤2^40) (h2:b≤2^40):IntKind.wrap .i64 ((a:Int)+(b:Int))=((a+b:Nat):Int):=by
 rw[wrap_small _ (by omega) (by omega)];rfl
theorem Ee (l:Nat) (h:Heap) (hl:l≤20):ae Tryz.prog u7 #[.int .i64 l] h fun v h'=>v=.int .i64 (cJ l)∧h'=h:=by
 have k1:∀l:Nat,l≤20→∀r:Nat,r≤5→(∀j,j<r→j*j<l)→r*r<l→r<5:=by decide
 have k2:∀l:Nat,l≤20→∀r:Nat,r≤5→(∀j,j<r→j*j<l)→¬r*r<l→r=cJ l:=by decide
 refine tq l ?_
 unfold nB
 refine au (fun r:Nat=>(r:Int)) (fun r h'=>h'=h∧r≤5∧∀j,j<r→j*j<l) (fun r=>5-r) 0 rfl ⟨rfl,by omega,fun j hj=>by omega⟩ ?_
 rintro r h' ⟨rfl,hr,hj⟩
 have hsq:r*r≤25:=Nat.mul_le_mul hr hr
 have e:IntKind.wrap .i64 ((r:Int)*(r:Int))=((r*r:Nat):Int):=by rw[←Int.natCast_mul];exact tT _ (by omega)
 rw[e]
 refine ah (fun hlt=>?_) (fun hge=>?_)
 ·have hlt':r*r<l:=by omega
  have h5:=k1 l hl r hr hj hlt'
  refine⟨r+1,by rw[wrap_small _ (by omega) (by omega)];rfl,⟨rfl,by omega,fun j hj'=>?_⟩,by omega⟩
  rcases Nat.lt_succ_iff_lt_or_eq.1 hj' with hj'|rfl
  ·exact hj j hj'
  ·exact hlt'
 ·exact⟨by rw[k2 l hl r hr hj (by omega)],rfl⟩
theorem Ef (r:Nat) (h:Heap) (hr:r≤5):ae Tryz.prog tg #[.int .u64 r] h fun v h'=>v=.int .i64 (ri r)∧h'=h:=by
 intro w hw
 refine(Tryz.bits_Len (r:Int) w (by omega) (by omega)).mono ?_
 rintro e w' ⟨rfl,rfl⟩
 have k:∀r:Nat,r≤5→Lib.bitLen r=ri r:=by decide+kernel
 exact⟨_,rfl,bK.refl _,by rw[Int.toNat_natCast,k r hr],hw⟩
theorem Bx (l k:Nat) (h:Heap) (hl:l≤20) (hl1:1≤l) (hk:k≤20) (hk1:1≤k):ae Tryz.prog rL #[.int .i64 l,.int .i64 k] h fun v h'=>v=.int .i64 (jQ l k)∧h'=h:=by
 have c1:∀k:Nat,k≤20→1<k→IntKind.wrap .i64 ((k:Int)*IntKind.wrap .i64 ((k:Int)-1))=((k*(k-1):Nat):Int)∧k*(k-1)≠0:=by decide
 have c2:∀l:Nat,l≤20→1≤l→1≤cJ l∧cJ l≤5:=by decide
 have c3:∀l:Nat,l≤20→1≤l→IntKind.wrap .i64 (Int.tdiv (l:Int) (cJ l))=((l/cJ l:Nat):Int):=by decide
 have c4:∀l:Nat,l≤20→1≤l→∀k:Nat,k≤20→1≤k→IntKind.wrap .i64 ((l:Int)*k)≠0:=by decide+kernel
 have c5:∀k:Nat,k≤20→1<k→IntKind.wrap .i64 (Int.tdiv (1048576:Int) (IntKind.wrap .i64 ((k:Int)*IntKind.wrap .i64 ((k:Int)-1))))=((1048576/(k*(k-1)):Nat):Int):=by decide+kernel
 have c6:∀l:Nat,l≤20→1≤l→IntKind.wrap .i64 (Int.tdiv (1048576:Int) (l:Int))=((1048576/l:Nat):Int):=by decide+kernel
 have c7:∀l:Nat,l≤20→1≤l→∀k:Nat,k≤20→1≤k→IntKind.wrap .i64 (Int.tdiv (IntKind.wrap .i64 ((1048576:Int)*cJ l)) (IntKind.wrap .i64 ((l:Int)*k)))=((1048576*cJ l/(l*k):Nat):Int):=by decide+kernel
 have c8:∀l:Nat,l≤20→1≤l→IntKind.wrap .i64 (Int.tdiv (IntKind.wrap .i64 ((IntKind.wrap .i64 ((1048576:Int)*cJ l))*ri (cJ l))) (l:Int))=((1048576*cJ l*ri (cJ l)/l:Nat):Int):=by decide+kernel
 have c9:∀l:Nat,l≤20→∀k:Nat,k≤20→1048576*cJ l/(l*k)≤2^30∧1048576*cJ l*ri (cJ l)/l≤2^30∧1048576/(k*(k-1))≤2^30∧1048576/l≤2^30:=by decide+kernel
 refine qK l k ?_
 unfold lW
 have hw:=c9 l hl k hk
 refine(Ee l h hl).mono ?_
 rintro v h1 ⟨rfl,rfl⟩
 have hr:=c2 l hl hl1
 refine⟨_,rfl,by omega,dt (fun s h'=>s=(((if k>1 then 1048576/(k*(k-1))else 1048576/l):Nat):Int)∧h'=h1) ?_ ?_⟩
 ·refine ah (fun e=>?_) (fun e=>?_)
  ·have:=c1 k hk (by omega)
   refine⟨by rw[this.1];omega,by rw[c5 k hk (by omega),if_pos (by omega)],rfl⟩
  ·refine⟨by rw[c6 l hl hl1,if_neg (by omega)],rfl⟩
 ·rintro s h2 ⟨rfl,rfl⟩
  have hb:(if k>1 then 1048576/(k*(k-1))else 1048576/l)≤2^30:=by split<;>first|exact hw.2.2.1|exact hw.2.2.2
  refine aS ?_;dsimp only
  refine⟨show((cJ l:Nat):Int)≠0 by omega,?_⟩
  rw[c3 l hl hl1]
  refine ah (fun e=>⟨c4 l hl hl1 k hk hk1,?_,rfl⟩) (fun e=>?_)
  ·rw[c7 l hl hl1 k hk hk1,Ch _ _ (by omega) (Nat.le_trans hw.1 (by decide)),jQ,if_pos (c:=k<l/cJ l) (Int.ofNat_lt.1 e)]
  ·refine cM (fun e2=>?_) (fun e2=>?_)
   ·have e3:IntKind.wrap .u64 (cJ l:Int)=(cJ l:Int):=by rw[wrap_u64];omega
    rw[e3]
    refine(Ef (cJ l) h2 hr.2).mono ?_
    rintro v h3 ⟨rfl,rfl⟩
    refine⟨_,rfl,by omega,?_,rfl⟩
    rw[c8 l hl hl1,Ch _ _ (by omega) (Nat.le_trans hw.2.1 (by decide)),jQ,if_neg (c:=k<l/cJ l) (fun hh=>e (Int.ofNat_lt.2 hh)),if_pos (c:=k=l/cJ l) (Int.ofNat_inj.1 e2)]
   ·exact⟨by rw[jQ,if_neg (c:=k<l/cJ l) (fun hh=>e (Int.ofNat_lt.2 hh)),if_neg (c:=k=l/cJ l) (fun hh=>e2 (Int.ofNat_inj.2 hh)),Nat.add_zero],rfl⟩
theorem C2 (l:Nat) (h:Heap) (hl:l≤20) (hl1:1≤l):ae Tryz.prog tk #[.int .i64 l] h fun v h'=>∃s:Sl,v=.slice s.ptr s.len s.cap∧Sp h h' [an aO s 1 aC (eX l)]:=by
 refine rH l ?_
 unfold mA
 refine aS (ah (fun e=>by omega) fun _=>ah (fun e=>by omega) fun _=>?_)
 refine(Sp.refl h).make ag aC jz (by decide) 0 rfl rfl 0 l rfl rfl (by omega) (by omega) fun s h1 hl' hc H1=>?_
 refine au (fun t:Sl×Nat=>(t.1,((gM l t.2:Nat):Int),((t.2+1:Nat):Int))) (fun t h'=>t.2≤l∧Sp h h' [an aO t.1 1 aC ((eX l).take t.2)]) (fun t=>l-t.2) (s,0) rfl ⟨by simp,by simpa using H1⟩ ?_
 rintro⟨s,k⟩ h2 ⟨hk,H2⟩
 dsimp only at*
 refine ah (fun e=>?_) (fun e=>?_)
 ·refine(Bx l (k+1) h2 hl hl1 (by omega) (by omega)).mono ?_
  rintro v h3 ⟨rfl,rfl⟩
  refine⟨_,rfl,?_⟩
  have b1:=rj l hl k (by omega)
  have b2:=tY l hl (k+1) (by omega)
  have e2:IntKind.wrap .i64 ((gM l k:Int)+(jQ l (k+1):Int))=((gM l (k+1):Nat):Int):=by rw[wrap_small _ (by omega) (by omega),gM];rfl
  dsimp only
  rw[e2]
  refine H2.push ag 0 rfl jz rfl (by decide) (fun _=>rfl) iX _ rfl (by decide) (by rw[List.length_take];omega) fun s' h4 H4=>?_
  refine⟨(s',k+1),by dsimp only;rw[wrap_small _ (by omega) (by omega)];rfl,⟨by dsimp only;omega,?_⟩,by dsimp only;omega⟩
  have e3:(eX l).take (k+1)=(eX l).take k++[((gM l (k+1):Nat):Int)]:=by
   rw[aI _ _ (by rw[gf];omega)];simp[eX]
  dsimp only;rw[e3];exact H4
 ·refine⟨s,rfl,?_⟩
  rw[List.take_of_length_le (by rw[gf];omega)]at H2
  exact H2
theorem By {p:aj} (t:Sl) (lt:List Int) (x last:Int) (h:Heap) (ht:Seq h p t 1 aC lt) (hx:0≤x) (hlast:lt.getLast?=some last) (hxl:x<last) (hs:lt.length≤2^40):
  ae Tryz.prog rK #[.slice t.ptr t.len t.cap,.int .i64 x] h fun v h'=>v=.int .i64 (CC lt x)∧h'=h:=by
 refine qI t x ?_
 unfold lV
 have hl:=ht.len
 have hne:lt≠[]:=fun e=>by rw[e]at hlast;cases hlast
 have hpos:0<lt.length:=List.length_pos_iff.2 hne
 have hla:lt[lt.length-1]=last:=by rw[List.getLast?_eq_getElem?,List.getElem?_eq_getElem (by omega)]at hlast;simpa using hlast
 refine aS (cM (fun e=>by omega) fun _=>ah (fun e=>by omega) fun _=>?_)
 rw[wrap_small _ (by omega) (by omega)]
 refine ht.bT (lt.length-1) (by omega) (by omega) _ rfl ?_
 rw[hla]
 refine ah (fun e=>by omega) fun _=>?_
 have hfi:(lt.findIdx fun y=>decide (y>x))<lt.length:=List.findIdx_lt_length_of_exists ⟨last,List.mem_of_getLast? hlast,by simpa using hxl⟩
 refine au (fun k:Nat=>(k:Int)) (fun k h'=>h'=h∧k≤(lt.findIdx fun y=>decide (y>x))) (fun k=>lt.length-k) 0 rfl ⟨rfl,by omega⟩ ?_
 rintro k h' ⟨rfl,hk⟩
 refine ah (fun e=>?_) (fun e=>by omega)
 have hk':k<lt.length:=by omega
 refine ht.bT k rfl hk' _ rfl ?_
 rw[wrap_small _ (by omega) (by omega)]
 refine ah (fun e2=>?_) (fun e2=>?_)
 ·have:(lt.findIdx fun y=>decide (y>x))=k:=Nat.le_antisymm (Nat.le_of_not_lt fun hlt=>by have:=List.not_of_lt_findIdx hlt;simp at this;omega) hk
  exact⟨by rw[CC,this];rfl,rfl⟩
 ·refine⟨k+1,rfl,⟨rfl,?_⟩,by omega⟩
  refine Nat.lt_of_le_of_ne hk fun he=>?_
  have:=List.findIdx_getElem (xs:=lt) (p:=fun y=>decide (y>x)) (w:=hfi)
  simp only[←he]at this
  simp at this;omega
theorem rM (t:Sl) (n:Nat) (a:Addr) (s:Int) (h:Heap) (ht:Seq h (·≠a.block) t 1 aC (eX n)) (hb:b9 h a cP [.int .u64 s]) (hn1:1≤n) (hn:n≤20):
  ae Tryz.prog uV #[.slice t.ptr t.len t.cap,.pointer (some a)] h fun v h'=>v=.int .i64 (yw s n)∧b9 h' a cP [.int .u64 (w4 s)]∧aD (·≠a.block) h h':=by
 refine tj t (some a) ?_
 unfold ny
 have hl:=ht.len
 rw[gf]at hl
 refine cM (fun e=>by omega) fun _=>?_
 rw[wrap_small _ (by omega) (by omega)]
 refine ht.bT (n-1) (by omega) (by rw[gf];omega) _ rfl ?_
 have e1:(eX n)[n-1]'(by rw[gf];omega)=((gM n n:Nat):Int):=by simp only[eX,List.getElem_map,List.getElem_range];rw[show n-1+1=n by omega]
 rw[e1]
 have hp:=za n hn hn1
 have hs2:=rj n hn n hn
 refine(va a s _ h hb (by omega) (by omega)).mono ?_
 rintro v h1 ⟨rfl,hb1,hp1⟩
 have hbl:=nX s (gM n n) (by omega) (by omega)
 refine⟨_,rfl,(By t (eX n) _ _ h1 (ht.ai hp1) hbl.1 (tZ n hn1) hbl.2 (by rw[gf];omega)).mono ?_⟩
 rintro v h2 ⟨rfl,rfl⟩
 exact⟨_,rfl,rfl,hb1,hp1⟩
end Go.Proofs.YtkciobclldnoiaaGreatDoor
namespace Go.Proofs.YtkciobclldnoiaaGreatDoor
open Go Go.Vc Go.Proofs Wl
set_option maxRecDepth 100000
theorem Eg (a:Addr) (s:Int) (n k:Nat) (h:Heap) (hb:b9 h a cP [.int .u64 s]) (hn:n≤64) (hk:k≤n):
  ae Tryz.prog wD #[.pointer (some a),.int .i64 n,.int .i64 k] h fun v h'=>∃r:Sl,v=.slice r.ptr r.len r.cap∧aa (fun b=>b<h.size∧¬b=a.block) h h' [aA a cP [.int .u64 (dF n s (upto n) k).1],an aO r 1 aC (tX s n k)]:=by
 refine uW (some a) n k ?_
 unfold o0
 refine aS (ah (fun e=>by omega) fun _=>ah (fun e=>by omega) fun _=>ah (fun e=>by omega) fun _=>ah (fun e=>by omega) fun _=>?_)
 have H0:aa (fun b=>b<h.size∧¬b=a.block) h h [aA a cP [.int .u64 s]]:=.Hi (fun b=>b=a.block) (fun b hb'=>by rw[hb'];exact hb.lt) ⟨hb,rfl⟩
 refine H0.make ag aC jz (by decide) 0 rfl rfl n n rfl rfl (Nat.le_refl _) (by omega) fun v h1 hl hc H1=>?_
 refine au (fun i:Nat=>(i:Int)) (fun i h'=>i≤n∧aa (fun b=>b<h.size∧¬b=a.block) h h' [aA a cP [.int .u64 s],an aO v 1 aC ((upto n).take i++List.replicate (n-i) 0)]) (fun i=>n-i) 0 rfl ⟨by omega,by simpa using H1⟩ ?_
 rintro i h2 ⟨hi,H2⟩
 refine ah (fun e=>?_) (fun e=>?_)
 ·have hi':i<n:=by omega
  refine H2.set ag 1 rfl (fun _=>rfl) rfl i rfl (by simp[iR];omega) (i:Int) rfl rfl rfl fun h3 H3=>?_
  refine⟨i+1,by rw[wrap_small _ (by omega) (by omega)];rfl,⟨by omega,?_⟩,by omega⟩
  have e2:((upto n).take i++List.replicate (n-i) 0).set i (i:Int)=(upto n).take (i+1)++List.replicate (n-(i+1)) 0:=by
   have hl2:((upto n).take i).length=i:=by rw[List.length_take,iR];omega
   rw[aI _ _ (by rw[iR];omega),List.set_append_right _ _ (by omega),hl2,Nat.sub_self,show n-i=n-(i+1)+1 by omega,List.replicate_succ,List.set_cons_zero]
   simp[upto]
  rw[←e2];exact H3
 ·have hi':i=n:=by omega
  subst hi'
  have e2:(upto i).take i++List.replicate (i-i) 0=upto i:=by rw[List.take_of_length_le (by rw[iR];omega)];simp
  rw[e2]at H2
  refine au (fun j:Nat=>(j:Int)) (fun j h'=>j≤k∧aa (fun b=>b<h.size∧¬b=a.block) h h' [aA a cP [.int .u64 (dF i s (upto i) j).1],an aO v 1 aC (dF i s (upto i) j).2]) (fun j=>k-j) 0 rfl ⟨by omega,H2⟩ ?_
  rintro j h3 ⟨hj,H3⟩
  have hsl:=nZ i s (upto i) j
  rw[iR]at hsl
  refine ah (fun e3=>?_) (fun e3=>?_)
  ·rw[wrap_small _ (by omega) (by omega)]
   have hcast:((i:Int)-(j:Int))=((i-j:Nat):Int):=by omega
   rw[hcast]
   refine(va a _ _ h3 (H3.box 0 rfl) (by omega) (by omega)).mono ?_
   rintro w h4 ⟨rfl,hb4,hp4⟩
   have H4:=H3.rf 0 rfl hp4 hb4
   have hbl:=nX (dF i s (upto i) j).1 ((i-j:Nat):Int) (by omega) (by omega)
   refine⟨_,rfl,?_⟩
   dsimp only
   rw[wrap_small _ (by omega) (by omega),wrap_small _ (by omega) (by omega)]
   have hx:(j:Int)+gp (dF i s (upto i) j).1 ((i-j:Nat):Int)=((j+(gp (dF i s (upto i) j).1 ((i-j:Nat):Int)).toNat:Nat):Int):=by omega
   have hlt:j+(gp (dF i s (upto i) j).1 ((i-j:Nat):Int)).toNat<(dF i s (upto i) j).2.length:=by omega
   rw[hx]
   have hs4:=H4.seq 1 rfl (fun _=>rfl)
   refine hs4.bT _ rfl hlt _ rfl ?_
   refine hs4.bT j rfl (by omega) _ rfl ?_
   refine H4.set ag 1 rfl (fun _=>rfl) rfl j rfl (by omega) _ rfl rfl rfl fun h5 H5=>⟨trivial,?_⟩
   refine H5.set ag 1 rfl (fun _=>rfl) rfl _ rfl (by simpa using hlt) _ rfl rfl rfl fun h6 H6=>⟨trivial,?_⟩
   refine⟨j+1,rfl,⟨by omega,?_⟩,by omega⟩
   rw[dF,rh,nY,nY,Go.Vc.getD_lt hlt,Go.Vc.getD_lt (show j<(dF i s (upto i) j).2.length by omega)]
   exact H6
  ·have hj':j=k:=by omega
   subst hj'
   refine⟨⟨by omega,by omega⟩,?_⟩
   have hs3:=H3.seq 1 rfl (fun _=>rfl)
   refine(eT ⟨v.ptr,j,v.cap⟩ ((dF i s (upto i) j).2.take j) h3 (hs3.take j (by omega)) (by rw[List.length_take];omega)).mono ?_
   rintro w h4 ⟨r,rfl,H4⟩
   refine⟨r,rfl,?_⟩
   refine(xr r _ h4 (H4.own 0 rfl) (by rw[List.length_take];omega)).mono ?_
   rintro w h5 ⟨rfl,ho5,hp5⟩
   have H5:=(H3.comp H4).hG 2 rfl hp5 ho5
   exact⟨(),rfl,r,rfl,H5.del 1⟩
theorem Eh (p:Pm) (seed id:Int) (h:Heap):ae Tryz.prog CW #[o7 p,.int .u32 seed,.int .i64 id] h fun v h'=>∃r:Sl,v=.slice r.ptr r.len r.cap∧Sp h h' [an aO r 1 aC (if bP p&&cU id then n5 (cd p).toNat seed id else[])]:=by
 refine Bh p seed id ?_
 unfold xl
 refine(Sp.refl h).boxed fun a h1 H1=>?_
 refine aS ?_
 refine⟨p,(H1.box 0 rfl).aY _ rfl,(dd p h1).mono ?_⟩
 rintro v h2 ⟨rfl,R2⟩
 have H2:=H1.comp R2
 have no:(bP p&&cU id)=false→Sp h h2 [an aO ⟨none,0,0⟩ 1 aC (if bP p&&cU id then n5 (cd p).toNat seed id else[])]:=fun hf=>by
  rw[hf];exact(H2.nil aO 1 aC).take 1 (fun i A hi=>by cases i with|zero=>exact hi|succ i=>simp at hi)
 refine⟨_,rfl,aW (fun e=>⟨⟨none,0,0⟩,rfl,no (by rw[e];rfl)⟩) fun hp=>?_⟩
 refine ah (fun e=>⟨⟨none,0,0⟩,rfl,no (by simp[cU];omega)⟩) fun e1=>?_
 refine ah (fun e=>⟨⟨none,0,0⟩,rfl,no (by simp[cU];omega)⟩) fun e2=>?_
 have hid:cU id=true:=by simp[cU];omega
 rw[hp,hid]
 refine⟨p,(H2.box 0 rfl).aY _ rfl,(iO p h2).mono ?_⟩
 rintro v h3 ⟨rfl,R3⟩
 have H3:=H2.comp R3
 have hpp:=(dJ p).1 hp
 have hc:cd p=p.1+p.2.1:=by rw[cd,if_pos hp]
 obtain⟨n,hn⟩:∃n:Nat,cd p=n:=⟨(cd p).toNat,by omega⟩
 refine⟨_,rfl,?_⟩
 dsimp only
 rw[hn,Int.toNat_natCast]
 refine(yl _ h3).mono ?_
 rintro v h4 ⟨d,rfl,R4⟩
 refine⟨some d,rfl,?_⟩
 refine(nE d _ h4 (R4.box 0 rfl)).mono ?_
 rintro v h5 ⟨rfl,hb5,hp5⟩
 have R5:=R4.rf 0 rfl hp5 hb5
 refine⟨_,rfl,?_⟩
 refine(C2 n h5 (by omega) (by omega)).mono ?_
 rintro v h6 ⟨t,rfl,R6⟩
 have R56:=R5.comp R6
 refine⟨t,rfl,?_⟩
 have hnb:∀b,t.on b→b≠d.block:=fun b hb he=>by
  have h1:=(R6.fresh 0 rfl).2 b hb
  have h2:=(R5.box 0 rfl).lt
  omega
 refine(rM t n d _ h6 ((R6.own 0 rfl).seq (fun _=>rfl) hnb) (R56.box 0 rfl) (by omega) (by omega)).mono ?_
 rintro v h7 ⟨rfl,hb7,hp7⟩
 have R7:=R56.rf 0 rfl hp7 hb7
 refine⟨_,rfl,?_⟩
 refine(Eg d _ n _ h7 (R7.box 0 rfl) (by omega) (n0 _ n (by omega) (by omega))).mono ?_
 rintro v h8 ⟨r,rfl,R8⟩
 have R:=R7.call 0 rfl (fun b=>b=d.block) (fun q hq b hb=>by rw[hb];exact hq.2) R8
 exact⟨r,rfl,r,rfl,((H3.comp R).take 3 (fun i A hi=>by cases i with|zero=>exact hi|succ i=>simp at hi))⟩
end Go.Proofs.YtkciobclldnoiaaGreatDoor
namespace Go.Proofs.YtkciobclldnoiaaGreatDoor
open Go Go.Vc Go.Proofs Wl
set_option maxRecDepth 100000
theorem FA {α:Type} {h:Heap} {e:TypeId} {s:Sl} {k:Nat} {f:α→List Value} {l:List α} (ho:Own h e s k f l) (hl:l≠[]):s.ptr.isNone=false:=by
 rcases ho.head with⟨_,_,h3⟩|⟨b,rest,h1,_⟩
 ·exact absurd h3 hl
 ·rw[h1];rfl
theorem FB (p:Pm) (seed id:Int) (h:Heap):ae Tryz.prog Ea #[o7 p,.int .u32 seed,.int .i64 id] h fun v h'=>∃r:Sl,v=.slice r.ptr r.len r.cap∧
  Sp h h' [an aB r 1 az (if bP p&&cU id then sI (cd p).toNat seed id else[])]∧r.ptr.isNone=!(bP p&&cU id):=by
 refine CV p seed id ?_
 unfold zX
 refine(Sp.refl h).boxed fun a h1 H1=>?_
 refine aS ?_
 refine⟨p,(H1.box 0 rfl).aY _ rfl,(dd p h1).mono ?_⟩
 rintro v h2 ⟨rfl,R2⟩
 have H2:=H1.comp R2
 have no:(bP p&&cU id)=false→Sp h h2 [an aB ⟨none,0,0⟩ 1 az (if bP p&&cU id then sI (cd p).toNat seed id else[])]∧Option.isNone (none:Option Addr)=!(bP p&&cU id):=fun hf=>by
  rw[hf];exact⟨(H2.nil aB 1 az).take 1 (fun i A hi=>by cases i with|zero=>exact hi|succ i=>simp at hi),rfl⟩
 refine⟨_,rfl,aW (fun e=>⟨⟨none,0,0⟩,rfl,no (by rw[e];rfl)⟩) fun hp=>?_⟩
 refine ah (fun e=>⟨⟨none,0,0⟩,rfl,no (by simp[cU];omega)⟩) fun e1=>?_
 refine ah (fun e=>⟨⟨none,0,0⟩,rfl,no (by simp[cU];omega)⟩) fun e2=>?_
 have hid:cU id=true:=by simp[cU];omega
 refine⟨p,(H2.box 0 rfl).aY _ rfl,(iO p h2).mono ?_⟩
 rintro v h3 ⟨rfl,R3⟩
 have H3:=H2.comp R3
 have hpp:=(dJ p).1 hp
 have hc:cd p=p.1+p.2.1:=by rw[cd,if_pos hp]
 obtain⟨n,hn⟩:∃n:Nat,cd p=n:=⟨(cd p).toNat,by omega⟩
 refine⟨_,rfl,?_⟩
 dsimp only
 rw[hn]
 refine H3.make ag az gZ (by decide) 0 rfl rfl n n rfl rfl (Nat.le_refl _) (by omega) fun v h4 hl hcp H4=>?_
 refine⟨p,(H4.box 0 rfl).aY _ rfl,(Eh p seed id h4).mono ?_⟩
 rintro w h5 ⟨c,rfl,R5⟩
 rw[hp,hid,hn,Int.toNat_natCast]at R5
 rw[hp,hid,Int.toNat_natCast]
 have H5:=H4.comp R5
 have hcs:=H5.seq 2 rfl (fun _=>rfl)
 have hcl:=hcs.len
 obtain⟨cs,hcs'⟩:∃cs,cs=n5 n seed id:=⟨_,rfl⟩
 have hin:∀x∈cs,0≤x∧x<(n:Int):=fun x hx=>DE (by omega) (by omega) (by rw[←hcs'];exact hx)
 have hcl2:cs.length≤n:=by rw[hcs'];exact DF (by omega) (by omega) _ _
 simp only[Bool.and_self,if_true,←hcs']at H5 hcs hcl R5
 refine⟨c,rfl,?_⟩
 refine au (fun i:Nat=>(i:Int)) (fun i h'=>i≤cs.length∧Sp h h' [aA a bj [.int .i64 p.1,.int .i64 p.2.1,.int .i64 p.2.2],an aB v 1 az (ml n (cs.take i)),an aO c 1 aC cs]) (fun i=>cs.length-i) 0 rfl ⟨by omega,H5⟩ ?_
 rintro i h6 ⟨hi,H6⟩
 refine ah (fun e=>?_) (fun e=>?_)
 ·have hi':i<cs.length:=by omega
  have hx:=hin _ (List.getElem_mem hi')
  refine(H6.seq 2 rfl (fun _=>rfl)).bT i rfl hi' _ rfl ?_
  refine H6.set ag 1 rfl (fun _=>rfl) rfl cs[i].toNat (by omega) (by rw[sH];omega) 1 rfl rfl rfl fun h7 H7=>?_
  refine⟨i+1,by rw[wrap_small _ (by omega) (by omega)];rfl,⟨by omega,?_⟩,by omega⟩
  have e2:ml n (cs.take (i+1))=(ml n (cs.take i)).set cs[i].toNat 1:=by rw[aI _ _ hi',ml,List.foldl_append];rfl
  rw[e2];exact H7
 ·rw[List.take_of_length_le (by omega)]at H6
  have Hf:Sp h h6 [an aB v 1 az (ml n cs)]:=(H6.del 2).take 1 (fun i A hi=>by cases i with|zero=>exact hi|succ i=>simp at hi)
  refine⟨v,rfl,?_,FA (Hf.own 0 rfl) (fun hh=>?_)⟩
  ·rw[hcs']at Hf;exact Hf
  ·have:=sH n cs;rw[hh]at this;simp at this;omega
theorem ym (p:Pm) (h:Heap):ae Tryz.prog Bc #[o7 p] h fun v h'=>∃r:Sl,v=.slice r.ptr r.len r.cap∧Sp h h' [kQ aM r 1 az (if bP p then bX p.1.toNat p.2.1.toNat else[])]:=by
 refine zQ p ?_
 unfold uE
 refine(Sp.refl h).boxed fun a h1 H1=>?_
 refine⟨p,(H1.box 0 rfl).aY _ rfl,(dd p h1).mono ?_⟩
 rintro v h2 ⟨rfl,R2⟩
 have H2:=H1.comp R2
 refine⟨_,rfl,aW (fun e=>⟨⟨none,0,0⟩,rfl,?_⟩) fun hp=>?_⟩
 ·rw[e];exact(H2.Gh aM 1 az).take 1 (fun i A hi=>by cases i with|zero=>exact hi|succ i=>simp at hi)
 have hpp:=(dJ p).1 hp
 have hc:cd p=p.1+p.2.1:=by rw[cd,if_pos hp]
 obtain⟨K,hK⟩:∃K:Nat,p.1=K:=⟨p.1.toNat,by omega⟩
 obtain⟨Hh,hH⟩:∃H:Nat,p.2.1=H:=⟨p.2.1.toNat,by omega⟩
 refine(u9 h2).mono ?_
 rintro v h3 ⟨f,rfl,R3⟩
 have H3:=(H2.comp R3).Gh aM 1 az
 refine⟨some f,rfl,_,(H3.box 0 rfl).cell rfl,?_⟩
 refine au (fun t:Sl×Nat=>(t.1,(t.2:Int))) (fun t h'=>t.2≤Hh∧Sp h h' [aA a bj [.int .i64 p.1,.int .i64 p.2.1,.int .i64 p.2.2],aA f fv cz,kQ aM t.1 1 az ((bX K Hh).take t.2)]) (fun t=>Hh-t.2) (⟨none,0,0⟩,0) rfl ⟨by simp,H3⟩ ?_
 rintro⟨s,k⟩ h4 ⟨hk,H4⟩
 dsimp only at*
 refine ah (fun e=>?_) (fun e=>?_)
 ·have hk':k<Hh:=by omega
  refine aS ⟨p,(H4.box 0 rfl).aY _ rfl,p.1,(H4.box 0 rfl).cell0 rfl,?_⟩
  refine(iO p h4).mono ?_
  rintro v h5 ⟨rfl,R5⟩
  have H5:=H4.comp R5
  refine⟨_,rfl,⟨(H5.box 0 rfl).cell0 rfl,trivial⟩,?_⟩
  dsimp only
  rw[wrap_small (p.1+k) (by omega) (by omega),hc]
  refine(Ed _ _ h5).mono ?_
  rintro v h6 ⟨u,rfl,R6⟩
  rw[if_pos (by omega)]at R6
  have e1:(p.1+p.2.1).toNat=K+Hh:=by omega
  have e2:(p.1+(k:Int)).toNat=K+k:=by omega
  rw[e1,e2]at R6
  have H6:=H5.comp R6
  refine⟨u,rfl,⟨(H6.box 0 rfl).cell0 rfl,trivial⟩,p.1,(H6.box 0 rfl).cell0 rfl,?_⟩
  let rowAt:Nat→List UInt8:=fun j=>(List.range j).map (fun i=>Gf.pw ((k+1)*(i+1)%255))++((List.replicate (K+Hh) (0:UInt8)).set (K+k) 1).drop j
  refine au (fun j:Nat=>(j:Int)) (fun j h'=>j≤K∧Sp h h' [aA a bj [.int .i64 p.1,.int .i64 p.2.1,.int .i64 p.2.2],aA f fv cz,kQ aM s 1 az ((bX K Hh).take k),an aB u 1 az (rowAt j)]) (fun j=>K-j) 0 rfl ⟨by omega,H6⟩ ?_
  rintro j h7 ⟨hj,H7⟩
  refine ah (fun e3=>?_) (fun e3=>?_)
  ·have hj':j<K:=by omega
   have hm:(k+1)*(j+1)≤4*16:=Nat.mul_le_mul (by omega) (by omega)
   have e4:IntKind.wrap .i64 (IntKind.wrap .i64 ((k:Int)+1)*IntKind.wrap .i64 ((j:Int)+1))=(((k+1)*(j+1):Nat):Int):=by
    rw[wrap_small ((k:Int)+1) (by omega) (by omega),wrap_small ((j:Int)+1) (by omega) (by omega),show((k:Int)+1)*((j:Int)+1)=(((k+1)*(j+1):Nat):Int)by rw[Int.natCast_mul];rfl]
    exact tT _ (by omega)
   rw[e4]
   refine(Fz f _ h7 (H7.box 1 rfl)).mono ?_
   rintro v h8 ⟨rfl,rfl⟩
   refine⟨_,rfl,?_⟩
   have hlen:(rowAt j).length=K+Hh:=by simp[rowAt];omega
   refine H7.set ag 3 rfl (fun _=>rfl) rfl j rfl (by omega) _ rfl rfl rfl fun h9 H9=>?_
   refine⟨j+1,by rw[wrap_small _ (by omega) (by omega)];rfl,⟨by omega,?_⟩,by omega⟩
   have e5:(rowAt j).set j (Gf.pw ((((k+1)*(j+1):Nat):Int)%255).toNat)=rowAt (j+1):=by
    have e6:((((k+1)*(j+1):Nat):Int)%255).toNat=(k+1)*(j+1)%255:=by omega
    rw[e6]
    simp only[rowAt]
    rw[List.set_append_right _ _ (by simp),List.length_map,List.length_range,Nat.sub_self,List.drop_eq_getElem_cons (by simp;omega),List.set_cons_zero,List.range_succ,List.map_append,List.append_assoc]
    rfl
   rw[←e5];exact H9
  ·have hj':j=K:=by omega
   subst hj'
   have e5:rowAt j=gN j Hh k:=by
    simp only[rowAt,gN]
    congr 1
    apply List.ext_getElem?
    intro i
    rw[List.getElem?_drop,List.getElem?_set,List.getElem?_map]
    by_cases hi:i<Hh
    ·rw[List.getElem?_range hi,Option.map_some,List.getElem?_replicate]
     by_cases hik:i=k
     ·subst hik;simp[hi]
     ·rw[if_neg (by omega),if_pos (by omega),if_neg hik]
    ·rw[List.getElem?_eq_none (l:=List.range Hh) (by simp;omega),if_neg (by omega),List.getElem?_replicate,if_neg (by omega)];rfl
   rw[e5]at H7
   have H8:=H7.freeze 3 rfl (fun _=>rfl)
   have hll:((bX j Hh).take k).length=k:=by simp[bX];omega
   refine H8.GF ag 2 3 (by decide) rfl rfl iN (by omega) fun s' h9 H9=>?_
   refine⟨(s',k+1),by dsimp only;rw[wrap_small _ (by omega) (by omega)];rfl,⟨by dsimp only;omega,?_⟩,by dsimp only;omega⟩
   have e7:(bX j Hh).take (k+1)=(bX j Hh).take k++[gN j Hh k]:=by
    rw[aI _ _ (by simp[bX];omega)];simp[bX]
   dsimp only
   rw[e7]
   exact H9.del 3
 ·refine⟨s,rfl,?_⟩
  rw[if_pos hp,hK,hH,Int.toNat_natCast,Int.toNat_natCast]
  rw[List.take_of_length_le (by simp[bX];omega)]at H4
  exact H4.take 2 (fun i A hi=>by cases i with|zero=>exact hi|succ i=>simp at hi)
end Go.Proofs.YtkciobclldnoiaaGreatDoor
namespace Go.Proofs.YtkciobclldnoiaaGreatDoor
open Go Go.Vc Go.Proofs Wl
set_option maxRecDepth 100000
theorem Ae (a:Sl) (m:aT) (n:Nat) (h:Heap) (ha:eW h a 1 az m) (hm:aL n m) (hn:n≤64) (hs:m.length≤2^30):ae Tryz.prog CY #[.slice a.ptr a.len a.cap] h fun v h'=>v=.bool true∧h'=h:=by
 refine Bm a ?_
 unfold xn
 have hl:=ha.len
 refine au (fun k:Nat=>(k:Int)) (fun k h'=>h'=h∧k≤m.length) (fun k=>m.length-k) 0 rfl ⟨rfl,by omega⟩ ?_
 rintro k h' ⟨rfl,hk⟩
 refine ah (fun e=>?_) (fun e=>⟨rfl,rfl⟩)
 have hk':k<m.length:=by omega
 refine ha.get k rfl hk' fun r hr=>?_
 refine ha.get 0 rfl (by omega) fun r0 hr0=>?_
 have h1:=hr.len;have h2:=hr0.len
 rw[hm _ (List.getElem_mem _)]at h1 h2
 refine cI (fun e=>by omega) fun _=>ah (fun e=>by omega) fun _=>?_
 exact⟨k+1,by rw[wrap_small _ (by omega) (by omega)];rfl,⟨rfl,by omega⟩,by omega⟩
theorem Af (a:Sl) (m:aT) (n:Nat) (h:Heap) (ha:eW h a 1 az m) (hm:aL n m) (hn:n≤64) (hs:m.length≤2^30):ae Tryz.prog CZ #[.slice a.ptr a.len a.cap] h fun v h'=>∃(r:Sl) (rs:List Sl),v=.slice r.ptr r.len r.cap∧rs.length=m.length∧Sp h h' (an aM r 1 bg rs::bn aB 1 az rs m):=by
 refine Bn a ?_
 unfold xo
 have hl:=ha.len
 refine(Sp.refl h).make ag bg iN (by decide) ⟨none,0,0⟩ rfl rfl 0 m.length rfl (by omega) (by omega) (by omega) fun s h1 hsl hc H1=>?_
 refine au (fun t:Sl×List Sl=>(t.1,(t.2.length:Int))) (fun t h'=>t.2.length≤m.length∧Sp h h' (an aM t.1 1 bg t.2::bn aB 1 az t.2 (m.take t.2.length))) (fun t=>m.length-t.2.length) (s,[]) rfl ⟨by simp,by simpa[bn]using H1⟩ ?_
 rintro⟨s,rs⟩ h2 ⟨hk,H2⟩
 dsimp only at*
 refine ah (fun e=>?_) (fun e=>?_)
 ·have hk':rs.length<m.length:=by omega
  refine(ha.up H2.ai).get rs.length rfl hk' fun r hr=>?_
  have hrl:m[rs.length].length=n:=hm _ (List.getElem_mem _)
  refine(fG r _ h2 hr (by omega)).mono ?_
  rintro v h3 ⟨w,rfl,R3⟩
  have H3:=H2.comp R3
  refine⟨w,rfl,?_⟩
  refine H3.push ag 0 rfl iN rfl (by decide) (fun _=>rfl) jg w rfl (by decide) (by omega) fun s' h4 H4=>?_
  refine⟨(s',rs++[w]),by dsimp only;rw[wrap_small _ (by omega) (by omega)];simp,⟨by simp;omega,?_⟩,by simp;omega⟩
  dsimp only
  rw[show(rs++[w]).length=rs.length+1 by simp,aI _ _ hk',pM (by rw[List.length_take];omega)]
  exact H4
 ·have e2:m.take rs.length=m:=List.take_of_length_le (by omega)
  rw[e2]at H2
  exact⟨s,rs,rfl,by omega,H2⟩
theorem wG (a:Sl) (m:aT) (h:Heap) (ha:eW h a 1 az m):ae Tryz.prog z7 #[.slice a.ptr a.len a.cap] h fun v h'=>v=.int .i64 (cT m)∧h'=h:=by
 refine ye a ?_
 unfold sk
 have hl:=ha.len
 refine cM (fun e=>?_) (fun e=>?_)
 ·have:m=[]:=List.eq_nil_of_length_eq_zero (by omega)
  subst this
  exact⟨rfl,rfl⟩
 ·refine ha.get 0 rfl (by omega) fun r hr=>⟨?_,rfl⟩
  rw[hr.len,cT,bY (by omega)]
theorem Ag {r:Row} {c:Nat} (h:c<r.length):aP r c=r[c]:=by rw[aP,List.getD_eq_getElem?_getD,List.getElem?_eq_getElem h];rfl
theorem Bz (a:Sl) (m:aT) (n top aV:Nat) (h:Heap) (ha:eW h a 1 az m) (hm:aL n m) (hc:aV<n) (hs:m.length≤2^30):
  ae Tryz.prog yg #[.slice a.ptr a.len a.cap,.int .i64 top,.int .i64 aV] h fun v h'=>v=.int .i64 (match dT m top aV with|some i=>(i:Int)|none=>-1)∧h'=h:=by
 refine wE a top aV ?_
 unfold qH
 have hl:=ha.len
 refine au (fun k:Nat=>(k:Int)) (fun k h'=>h'=h∧top≤k∧k≤max top m.length∧∀j,j<k→(decide (top≤j)&&(aP (aK m j) aV !=0))=false) (fun k=>m.length-k) top rfl ⟨rfl,by omega,by omega,fun j hj=>by rw[decide_eq_false (by omega)];rfl⟩ ?_
 rintro k h' ⟨rfl,hk1,hk2,hj⟩
 refine ah (fun e=>?_) (fun e=>?_)
 ·rw[dT,CD (fun j hj'=>hj j (by omega))];exact⟨rfl,rfl⟩
 ·have hk':k<m.length:=by omega
  have hrl:m[k].length=n:=hm _ (List.getElem_mem _)
  refine ha.get k rfl hk' fun r hr=>?_
  refine hr.bT aV rfl (by omega) _ rfl ?_
  have hcell:aP (aK m k) aV=m[k][aV]'(by omega):=by rw[bY hk',Ag (by omega)]
  refine cI (fun e2=>?_) (fun e2=>?_)
  ·have hne:(decide (top≤k)&&(aP (aK m k) aV !=0))=true:=by
    rw[decide_eq_true hk1,hcell];simp;exact fun h0=>e2 (by rw[h0];rfl)
   rw[dT,CE hk' hj hne];exact⟨rfl,rfl⟩
  ·refine⟨k+1,by rw[wrap_small _ (by omega) (by omega)];rfl,⟨rfl,by omega,by omega,fun j hj'=>?_⟩,by omega⟩
   rcases Nat.lt_succ_iff_lt_or_eq.1 hj' with h1|rfl
   ·exact hj j h1
   ·rw[hcell,mQ.1 e2];simp
theorem vb (f:Addr) (c:UInt8) (a:Sl) (l:Row) (h:Heap) (hf:er h f) (ha:Rd h a 1 az l) (hs:l.length≤2^30):ae Tryz.prog Aa #[.pointer (some f),.int .u8 c.toNat,.slice a.ptr a.len a.cap] h fun v h'=>∃r:Sl,v=.slice r.ptr r.len r.cap∧Sp h h' [an aB r 1 az (scaleB c l)]:=by
 refine yf (some f) _ a ?_
 unfold sl
 have hl:=ha.len
 refine(yk f h).mono ?_
 rintro v h1 ⟨rfl,rfl⟩
 refine⟨some f,rfl,?_⟩
 refine(Sp.refl h1).make ag az gZ (by decide) 0 rfl rfl l.length l.length (by omega) (by omega) (Nat.le_refl _) (by omega) fun s h2 hsl hc H2=>?_
 refine au (fun k:Nat=>(k:Int)) (fun k h'=>k≤l.length∧Sp h1 h' [an aB s 1 az ((l.take k).map (Gf.mul c)++List.replicate (l.length-k) 0)]) (fun k=>l.length-k) 0 rfl ⟨by omega,by simpa using H2⟩ ?_
 rintro k h3 ⟨hk,H3⟩
 refine ah (fun e=>?_) (fun e=>?_)
 ·have hk':k<l.length:=by omega
  refine(Seq.up ha H3.ai).bT k rfl hk' _ rfl ?_
  refine(Ad f c l[k] h3 (hf.ai H3.ai hf.lt)).mono ?_
  rintro v h4 ⟨rfl,rfl⟩
  refine⟨_,rfl,?_⟩
  refine H3.set ag 0 rfl (fun _=>rfl) rfl k rfl (by simp;omega) _ rfl rfl rfl fun h5 H5=>?_
  refine⟨k+1,by rw[wrap_small _ (by omega) (by omega)];rfl,⟨by omega,?_⟩,by omega⟩
  have hlk:((l.take k).map (Gf.mul c)).length=k:=by simp;omega
  have e2:((l.take k).map (Gf.mul c)++List.replicate (l.length-k) 0).set k (Gf.mul c l[k])=(l.take (k+1)).map (Gf.mul c)++List.replicate (l.length-(k+1)) 0:=by
   rw[List.set_append_right _ _ (by omega),hlk,Nat.sub_self,show l.length-k=l.length-(k+1)+1 by omega,List.replicate_succ,List.set_cons_zero,aI _ _ hk',List.map_append,List.append_assoc];rfl
  rw[←e2];exact H5
 ·have:k=l.length:=by omega
  subst this
  refine⟨s,rfl,?_⟩
  rw[List.take_of_length_le (Nat.le_refl _),Nat.sub_self,List.replicate_zero,List.append_nil]at H3
  exact H3
theorem Ah {c:UInt8} {a t:Row} (hat:a.length=t.length) {k:Nat} (hk:k<t.length):(List.zipWith (fun x y=>y^^^Gf.mul c x) (a.take k) (t.take k)++t.drop k).set k (t[k]^^^Gf.mul c (a[k]'(by omega)))=List.zipWith (fun x y=>y^^^Gf.mul c x) (a.take (k+1)) (t.take (k+1))++t.drop (k+1):=by
 have hl:(List.zipWith (fun x y=>y^^^Gf.mul c x) (a.take k) (t.take k)).length=k:=by simp;omega
 rw[List.set_append_right _ _ (by omega),hl,Nat.sub_self,List.drop_eq_getElem_cons hk,List.set_cons_zero,aI _ _ hk,aI _ _ (show k<a.length by omega),List.zipWith_append (by simp;omega)]
 simp
theorem FC (f:Addr) (c:UInt8) (a to:Sl) (la lt:Row) (h:Heap) (hf:er h f) (hfo:¬to.on f.block) (ha:Seq h (fun b=>¬to.on b) a 1 az la) (ht:Own h aB to 1 az lt) (hat:la.length=lt.length) (hs:la.length≤2^30):
  ae Tryz.prog uY #[.pointer (some f),.int .u8 c.toNat,.slice a.ptr a.len a.cap,.slice to.ptr to.len to.cap] h fun v h'=>v=.tuple #[]∧Own h' aB to 1 az (cf c la lt)∧aD (fun b=>¬to.on b) h h':=by
 refine Bt (some f) _ a to ?_
 unfold xq
 have hl:=ha.len;have htl:=ht.len
 refine cM (fun e=>?_) (fun _=>?_)
 ·have hc:c=0:=mQ.1 e
  subst hc
  have:cf 0 la lt=lt:=by
   apply List.ext_getElem (by rw[bk hat])
   intro i h1 h2
   simp[cf,Gf.zero_mul]
  exact⟨rfl,by rw[this];exact ht,aD.refl _ _⟩
 ·refine au (fun k:Nat=>(k:Int)) (fun k h'=>k≤la.length∧Own h' aB to 1 az (List.zipWith (fun x y=>y^^^Gf.mul c x) (la.take k) (lt.take k)++lt.drop k)∧aD (fun b=>¬to.on b) h h') (fun k=>la.length-k) 0 rfl ⟨by omega,by simpa using ht,aD.refl _ _⟩ ?_
  rintro k h1 ⟨hk,ho1,hp1⟩
  refine ah (fun e=>?_) (fun e=>?_)
  ·have hk':k<la.length:=by omega
   have hkt:k<lt.length:=by omega
   have hzl:(List.zipWith (fun x y=>y^^^Gf.mul c x) (la.take k) (lt.take k)).length=k:=by simp;omega
   have hll:(List.zipWith (fun x y=>y^^^Gf.mul c x) (la.take k) (lt.take k)++lt.drop k).length=lt.length:=by rw[List.length_append,hzl,List.length_drop];omega
   refine(ha.ai hp1).bT k rfl hk' _ rfl ?_
   have hval:(List.zipWith (fun x y=>y^^^Gf.mul c x) (la.take k) (lt.take k)++lt.drop k)[k]'(by omega)=lt[k]:=by
    rw[List.getElem_append_right (by omega)];simp[hzl]
   refine(ho1.seq (p:=fun _=>True) (fun _=>rfl) fun _ _=>trivial).Cx k rfl (by omega) _ rfl fun ax hax=>?_
   rw[hval]at hax⊢
   refine(Ad f c la[k] h1 (hf.ai hp1 hfo)).mono ?_
   rintro v h2 ⟨rfl,rfl⟩
   refine⟨_,rfl,⟨hax,trivial⟩,?_⟩
   dsimp only
   rw[lX]
   refine ho1.set ag (fun _=>rfl) rfl k rfl (by omega) _ rfl rfl rfl fun h3 ho3 hp3 _=>⟨trivial,?_⟩
   refine⟨k+1,by rw[wrap_small _ (by omega) (by omega)];rfl,⟨by omega,?_,hp1.trans hp3⟩,by omega⟩
   rw[←Ah hat hkt];exact ho3
  ·have:k=la.length:=by omega
   subst this
   rw[List.take_of_length_le (Nat.le_refl _),List.take_of_length_le (by omega),List.drop_of_length_le (by omega),List.append_nil]at ho1
   exact⟨rfl,ho1,hp1⟩
end Go.Proofs.YtkciobclldnoiaaGreatDoor
namespace Go.Proofs.YtkciobclldnoiaaGreatDoor
open Go Go.Vc Go.Proofs Wl
set_option maxRecDepth 100000
abbrev mR (a:Sl) (rs:List Sl) (m:aT):List HP:=an aM a 1 bg rs::bn aB 1 az rs m
theorem wH {a:Sl} {rs:List Sl} {m:aT} (hl:rs.length=m.length) (i:Nat) (hi:i<m.length):(mR a rs m)[i+1]?=some (an aB (rs[i]'(by omega)) 1 az m[i]):=by
 rw[List.getElem?_cons_succ];exact dq hl i hi
theorem Ci {h h':Heap} {a:Addr} {v:Value} (hc:cellOf h a=some v) (hp:aD (fun b=>b<h.size) h h'):cellOf h' a=some v:=hp.cell (kP hc) hc
theorem Ei {B:aj} {h0:Heap} {f:Addr} (hf0:er h0 f) (hfB:B f.block) {a:Sl} {n top aV:Nat} {rs:List Sl} {m:aT} (hl:rs.length=m.length) (hm:aL n m) (hc:aV<n) (hn:n≤64) (ht:top<m.length) (hs:m.length≤2^30)
  {h:Heap} (H:aa B h0 h (mR a rs m)) {K:Heap→Prop} (hk:∀h',aa B h0 h' (mR a rs (cu top aV m m.length))→K h'):
 aH (σ:=Int) (fun s20 K4 h10=>
 Br (decide (s20<((a.len:Nat):Int)))
 (Br (s20 !=(top:Int))
 (∃a21:Addr,(a.ptr=some a21∧0≤s20∧s20<((a.len:Nat):Int))∧
 ∃x22:Sl,cellOf h10 (a21.add (s20.toNat*1))=some (.slice x22.ptr x22.len x22.cap)∧
 ∃a23:Addr,(x22.ptr=some a23∧0≤(aV:Int)∧(aV:Int)<((x22.len:Nat):Int))∧
 ∃x24:Int,cellOf h10 (a23.add ((aV:Int).toNat*1))=some (.int .u8 x24)∧
 ∃a25:Addr,(a.ptr=some a25∧0≤(top:Int)∧(top:Int)<((a.len:Nat):Int))∧
 ∃x26:Sl,cellOf h10 (a25.add ((top:Int).toNat*1))=some (.slice x26.ptr x26.len x26.cap)∧
 ∃a27:Addr,(a.ptr=some a27∧0≤s20∧s20<((a.len:Nat):Int))∧
 ∃x28:Sl,cellOf h10 (a27.add (s20.toNat*1))=some (.slice x28.ptr x28.len x28.cap)∧
 af Tryz.prog uY #[(.pointer (some f)),(.int .u8 x24),(.slice x26.ptr x26.len x26.cap),(.slice x28.ptr x28.len x28.cap)] (.many []) h10 fun _ h11=>
 (aE.ok [(a21.add (s20.toNat*1),(.slice x22.ptr x22.len x22.cap))] h11)∧
 K4 (IntKind.wrap .i64 (s20+(1:Int))) h11)
 (K4 (IntKind.wrap .i64 (s20+(1:Int))) h10))
 (K h10)) (0:Int) h:=by
 have hal:a.len=m.length:=by rw[(H.own 0 rfl).len,hl]
 refine au (fun k:Nat=>(k:Int)) (fun k h'=>k≤m.length∧aa B h0 h' (mR a rs (cu top aV m k))) (fun k=>m.length-k) 0 rfl ⟨by omega,by rw[DG];exact H⟩ ?_
 rintro k h1 ⟨hk1,H1⟩
 have hel:=iT top aV m k
 have hle:rs.length=(cu top aV m k).length:=by rw[hel];exact hl
 refine ah (fun e=>?_) (fun e=>?_)
 ·have hk':k<m.length:=by omega
  refine cI (fun e2=>?_) (fun e2=>?_)
  ·have hkt:k≠top:=fun hh=>e2 (by rw[hh])
   have hrk:aK (cu top aV m k) k=aK m k:=by rw[jR hk',if_neg (by omega)]
   have hrt:aK (cu top aV m k) top=aK m top:=by rw[jR ht,if_neg (by omega)]
   have e4:(cu top aV m k)[k]'(by omega)=aK m k:=by rw[←hrk,bY]
   have e5:(cu top aV m k)[top]'(by omega)=aK m top:=by rw[←hrt,bY]
   have gk:=wH (a:=a) hle k (by omega)
   have gt:=wH (a:=a) hle top (by omega)
   rw[e4]at gk
   rw[e5]at gt
   have lk:=ca hm hk'
   have lt:=ca hm ht
   have hoff:=H1.off (k+1) 0 (by omega) gk rfl
   have hs1:=hoff.1.seq (fun _=>rfl) hoff.2
   refine hs1.lu k rfl (by omega) fun a1 ha1 hb1=>?_
   have hrd:=H1.seq (k+1) gk (fun _=>rfl)
   refine hrd.bT aV rfl (by omega) _ rfl ?_
   refine hs1.lu top rfl (by omega) fun _ _ _=>?_
   refine hs1.lu k rfl (by omega) fun _ _ _=>?_
   have hrt2:(sE (rs[top]'(by omega)) 1 az (aK m top)).p h1 (fun b=>¬(rs[k]'(by omega)).on b):=by
    have:=H1.off (k+1) (top+1) (by omega) gk gt
    exact(this.1.seq (fun _=>rfl) this.2).mono fun b hb=>hb.2
   refine(FC f _ _ _ (aK m top) (aK m k) h1 (hf0.ai H1.ai hfB) (H1.base (k+1) gk hfB) hrt2 (H1.own (k+1) gk) (by omega) (by omega)).mono ?_
   rintro v h2 ⟨rfl,ho2,hp2⟩
   have H2:=H1.hG (k+1) gk hp2 ho2
   have ha2:=hp2.cell hb1.2 ha1
   refine⟨(),rfl,⟨ha2,trivial⟩,?_⟩
   refine⟨k+1,by rw[wrap_small _ (by omega) (by omega)];rfl,⟨by omega,?_⟩,by omega⟩
   rw[DH hk' hkt]
   show aa B h0 h2 (an aM a 1 bg rs::bn aB 1 az rs ((cu top aV m k).set k _))
   rw[←y0 hle k (by omega)]
   have hcol:(aK m k)[aV]'(by omega)=aP (aK m k) aV:=(Ag (by omega)).symm
   rw[hcol]at H2
   exact H2
  ·have hkt:k=top:=by omega
   subst hkt
   exact⟨k+1,by rw[wrap_small _ (by omega) (by omega)];rfl,⟨by omega,by rw[DI];exact H1⟩,by omega⟩
 ·have:k=m.length:=by omega
  subst this
  exact hk _ H1
theorem Ai {rs:List Sl} {m:aT} (hl:rs.length=m.length) (i j:Nat) (hi:i<m.length) (hj:j<m.length):
  ((bn aB 1 az rs m).set i (an aB (rs[j]'(by omega)) 1 az m[j])).set j (an aB (rs[i]'(by omega)) 1 az m[i])=bn aB 1 az ((rs.set i (rs[j]'(by omega))).set j (rs[i]'(by omega))) (ey m i j):=by
 rw[j7 hl,j7 (by simpa using hl),ey,bY hi,bY hj]
theorem BA {B:aj} {h0:Heap} {f:Addr} (hf0:er h0 f) (hfB:B f.block) {a:Sl} {n lC:Nat} {rs:List Sl} {m:aT} (hl:rs.length=m.length) (hm:aL n m) (hc:lC≤n) (hn:n≤64) (hs:m.length≤2^30)
  {h:Heap} (H:aa B h0 h (mR a rs m)):ae Tryz.prog yd #[.pointer (some f),.slice a.ptr a.len a.cap,.int .i64 lC] h fun v h'=>
   ∃rs':List Sl,v=.int .i64 (aX m lC).1∧rs'.length=m.length∧aa B h0 h' (mR a rs' (aX m lC).2):=by
 have hal:a.len=m.length:=by rw[(H.own 0 rfl).len,hl]
 refine wz (some f) a lC ?_
 unfold qC
 refine au (fun t:List Sl×Nat=>(((aX m t.2).1:Int),(t.2:Int))) (fun t h'=>t.2≤lC∧t.1.length=m.length∧aa B h0 h' (mR a t.1 (aX m t.2).2)) (fun t=>lC-t.2) (rs,0) rfl ⟨by simp,hl,H⟩ ?_
 rintro⟨rs1,aV⟩ h1 ⟨hk,hl1,H1⟩
 dsimp only at*
 have hev:=fB hm aV
 have htop:=n9 m aV
 obtain⟨st,hst⟩:∃st,st=aX m aV:=⟨_,rfl⟩
 rw[←hst]at hev htop H1⊢
 obtain⟨top,m1⟩:=st
 dsimp only at hev htop H1⊢
 have hlm:rs1.length=m1.length:=by omega
 have hstep:aX m (aV+1)=ez (top,m1) aV:=by rw[aX,←hst]
 refine ah (fun e=>?_) (fun e=>?_)
 ·have hcn:aV<n:=by omega
  have hrd2:eW h1 a 1 az m1:=H1.B3 hlm (fun _=>rfl)
  refine(Bz a m1 n top aV h1 hrd2 hev.1 hcn (by omega)).mono ?_
  rintro v h2 ⟨rfl,rfl⟩
  refine⟨_,rfl,?_⟩
  dsimp only
  cases hb:dT m1 top aV with
  |none=>
   refine ah (fun _=>?_) (fun e2=>absurd (by decide) e2)
   refine⟨(rs1,aV+1),?_,⟨by dsimp only;omega,hl1,?_⟩,by dsimp only;omega⟩
   ·dsimp only;rw[hstep,ez,hb,wrap_small _ (by omega) (by omega)];rfl
   ·dsimp only;rw[hstep,ez,hb];exact H1
  |some i=>
   have hh:=j8 hb
   refine ah (fun e2=>absurd (show((i:Nat):Int)<0 from e2) (by omega)) (fun _=>?_)
   dsimp only
   have hti:top<m1.length:=by omega
   have hi:=hh.2.1
   have hsq:=H1.seq 0 rfl (fun _=>rfl)
   refine aS ?_
   refine hsq.lu i rfl (by omega) fun _ _ _=>?_
   refine hsq.lu top rfl (by omega) fun _ _ _=>?_
   refine H1.set ag 0 rfl (fun _=>rfl) rfl top rfl (by omega) (rs1[i]'(by omega)) rfl rfl rfl fun h3 H3=>⟨trivial,?_⟩
   refine H3.set ag 0 rfl (fun _=>rfl) rfl i rfl (by simp;omega) (rs1[top]'(by omega)) rfl rfl rfl fun h4 H4=>⟨trivial,?_⟩
   have H4':aa B h0 h4 (mR a ((rs1.set top (rs1[i]'(by omega))).set i (rs1[top]'(by omega))) (ey m1 top i)):=by
    have:=H4.Gi (top+1) (i+1) (A:=an aB (rs1[top]'(by omega)) 1 az m1[top]) (A2:=an aB (rs1[i]'(by omega)) 1 az m1[i]) (dq hlm top hti) (dq hlm i hi)
    show aa B h0 h4 (an aM a 1 bg _::bn aB 1 az _ _)
    rw[←Ai hlm top i hti hi]
    exact this
   obtain⟨rs2,hrs2⟩:∃rs2,rs2=(rs1.set top (rs1[i]'(by omega))).set i (rs1[top]'(by omega)):=⟨_,rfl⟩
   rw[←hrs2]at H4'
   have hl2:rs2.length=m1.length:=by rw[hrs2];simp;omega
   obtain⟨m2,hm2⟩:∃m2,m2=ey m1 top i:=⟨_,rfl⟩
   have hev2:aL n m2:=by rw[hm2];exact pO hev.1 hti hi
   have hlm2:m2.length=m1.length:=by rw[hm2];exact gd _ _ _
   rw[←hm2]at H4'
   have hlr2:rs2.length=m2.length:=by omega
   have htm2:top<m2.length:=by omega
   refine aS ?_
   have gt:=wH (a:=a) hlr2 top htm2
   have lt:m2[top].length=n:=hev2 _ (List.getElem_mem _)
   have hs4:=H4'.seq 0 rfl (fun _=>rfl)
   refine hs4.lu top rfl (by omega) fun a10 ha10 _=>?_
   have hrow:=H4'.seq (top+1) gt (fun _=>rfl)
   refine hrow.bT aV rfl (by omega) _ rfl ?_
   refine hs4.lu top rfl (by omega) fun a14 ha14 _=>?_
   have hf4:er h4 f:=hf0.ai H4'.ai hfB
   refine(Fy f _ h4 hf4).mono ?_
   rintro v h5 ⟨rfl,rfl⟩
   refine⟨_,rfl,⟨ha14,ha10,trivial⟩,?_⟩
   refine(vb f _ _ _ h5 hf4 hrow (by omega)).mono ?_
   rintro v h6 ⟨r,rfl,R6⟩
   refine⟨r,rfl,⟨Ci ha10 R6.ai,trivial⟩,?_⟩
   have H6:=H4'.comp R6
   dsimp only
   refine H6.set ag 0 rfl (fun _=>rfl) rfl top rfl (by omega) r rfl rfl rfl fun h7 H7=>⟨trivial,?_⟩
   have hrt:m2[top]=aK m2 top:=(bY htm2).symm
   have hct:(m2[top])[aV]'(by omega)=aP (aK m2 top) aV:=by rw[Ag (by rw[bY htm2];omega)];simp only[bY htm2]
   have H7':aa B h0 h7 (mR a (rs2.set top r) (fg top aV m2)):=by
    have h8:aa B h0 h7 ((an aM a 1 bg (rs2.set top r)::bn aB 1 az rs2 m2)++[an aB r 1 az (scaleB (Gf.inv ((m2[top])[aV]'(by omega))) m2[top])]):=H7
    have h9:=h8.Hj (top+1) (by simp[gv hlr2];omega)
    rw[hct,hrt]at h9
    show aa B h0 h7 (an aM a 1 bg _::bn aB 1 az _ (m2.set top _))
    rw[←j7 hlr2]
    exact h9
   have hlen3:(fg top aV m2).length=m2.length:=iS _ _ _
   refine Ei hf0 hfB (by simp;omega) (mm hev2 htm2) hcn hn (by omega) (by omega) H7' fun h8 H8=>?_
   have hsome:ez (top,m1) aV=(top+1,cu top aV (fg top aV m2) m1.length):=by
    rw[ez];dsimp only;rw[hb,hm2]
   refine⟨(rs2.set top r,aV+1),?_,⟨by dsimp only;omega,by simp;omega,?_⟩,by dsimp only;omega⟩
   ·dsimp only;rw[hstep,hsome,wrap_small _ (by omega) (by omega),wrap_small _ (by omega) (by omega)];rfl
   ·dsimp only;rw[hstep,hsome];rw[hlen3,hlm2]at H8;exact H8
 ·have:aV=lC:=by omega
  subst this
  exact⟨rs1,by rw[←hst],hl1,by rw[←hst];exact H1⟩
theorem BB (f:Addr) (a:Sl) (m:aT) (n:Nat) (h:Heap) (hf:er h f) (ha:eW h a 1 az m) (hm:aL n m) (hn:n≤64) (hs:m.length≤2^30):
  ae Tryz.prog yb #[.pointer (some f),.slice a.ptr a.len a.cap] h fun v h'=>∃(r:Sl) (rs:List Sl),v=.slice r.ptr r.len r.cap∧r.len=bA m∧rs.length=m.length∧r.len≤m.length∧Sp h h' (mR ⟨r.ptr,m.length,r.cap⟩ rs (aX m (cT m)).2):=by
 refine wu (some f) a ?_
 unfold qv
 refine(Ae a m n h ha hm hn hs).mono ?_
 rintro v h1 ⟨rfl,rfl⟩
 refine⟨_,rfl,aW (fun e=>by cases e) fun _=>?_⟩
 refine(Af a m n h1 ha hm hn hs).mono ?_
 rintro v h2 ⟨r,rs,rfl,hl,R2⟩
 refine⟨r,rfl,(yj f h2).mono ?_⟩
 rintro v h3 ⟨rfl,rfl⟩
 refine⟨some f,rfl,(wG r m h3 (R2.B3 hl (fun _=>rfl))).mono ?_⟩
 rintro v h4 ⟨rfl,rfl⟩
 have hw:cT m≤n:=by
  cases m with
  |nil=>simp[cT,aK]
  |cons x t=>rw[cT,bY (by simp)];exact Nat.le_of_eq (hm _ (by simp))
 refine⟨_,rfl,(BA hf hf.lt hl hm hw hn hs R2).mono ?_⟩
 rintro v h5 ⟨rs',rfl,hl',R5⟩
 have htop:=n9 m (cT m)
 rw[(fB hm _).2]at htop
 have hcap:=(R5.own 0 rfl).cap
 have hlen:=(R5.own 0 rfl).len
 refine⟨_,rfl,⟨Int.natCast_nonneg _,Int.ofNat_le.2 (show(aX m (cT m)).1≤r.cap by omega)⟩,⟨r.ptr,(aX m (cT m)).1,r.cap⟩,rs',by simp,rfl,hl',htop,?_⟩
 have:r=⟨r.ptr,m.length,r.cap⟩:=by
  obtain⟨p,l,c⟩:=r
  simp only at hlen⊢
  rw[←hl',←hlen]
 rw[←this];exact R5
end Go.Proofs.YtkciobclldnoiaaGreatDoor
namespace Go.Proofs.YtkciobclldnoiaaGreatDoor
open Go Go.Vc Go.Proofs Wl
set_option maxRecDepth 100000
theorem GV (h:Heap) (x:UInt8):ae Tryz.prog oX #[.int .u8 x.toNat] h fun v h'=>v=.bool (x !=0)∧h'=h:=by
 refine wy _ ?_
 unfold qB
 refine⟨?_,rfl⟩
 congr 1
 by_cases hx:x=0
 ·subst hx;rfl
 ·have:((x.toNat:Nat):Int)≠0:=fun hh=>hx (mQ.1 hh)
  rw[bne_iff_ne.2 hx];exact bne_iff_ne.2 this
theorem xt (a:Sl) (l:Row) (h:Heap) (ha:Rd h a 1 az l) (hl:l.length≤2^30):ae Tryz.prog Bg #[.slice a.ptr a.len a.cap] h fun v h'=>v=.int .i64 (if cV l<l.length then(cV l:Int)else-1)∧h'=h:=by
 refine zW a ?_
 unfold uN
 refine(jy a (oX,#[],#[]) (R:=fun v h'=>v=.int .i64 (if cV l<l.length then(cV l:Int)else-1)∧h'=h) ?_).mono ?_
 ·unfold fW
  have hal:=ha.len
  refine au (fun i:Nat=>(i:Int)) (fun i h'=>h'=h∧i≤l.length∧∀j (hj:j<l.length),j<i→l[j]=0) (fun i=>l.length-i) 0 rfl ⟨rfl,by omega,fun j _ hj=>by omega⟩ ?_
  rintro i h1 ⟨rfl,hi,hno⟩
  refine ah (fun e=>?_) (fun e=>?_)
  ·have hi':i<l.length:=by omega
   refine ha.bT i rfl hi' _ rfl ?_
   refine eV (by rfl) ?_
   refine(GV h1 l[i]).mono ?_
   rintro v h2 ⟨rfl,rfl⟩
   refine⟨_,rfl,bH (fun e2=>?_) (fun e2=>?_)⟩
   ·have hld:cV l=i:=by
     rw[cV,List.findIdx_eq hi']
     exact⟨e2,fun j hj=>by simp[hno j (by omega) hj]⟩
    rw[hld,if_pos hi'];exact⟨rfl,rfl⟩
   ·refine⟨i+1,by rw[wrap_small _ (by omega) (by omega)];rfl,⟨rfl,by omega,fun j hj hji=>?_⟩,by omega⟩
    rcases Nat.lt_succ_iff_lt_or_eq.1 hji with h3|rfl
    ·exact hno j hj h3
    ·simpa using e2
  ·have hno':¬cV l<l.length:=by
    rw[cV,List.findIdx_lt_length]
    rintro⟨x,hx,hx0⟩
    obtain⟨j,hj,rfl⟩:=List.getElem_of_mem hx
    rw[hno j hj (by omega)]at hx0;simp at hx0
   rw[if_neg hno'];exact⟨rfl,rfl⟩
 ·rintro v h1 ⟨rfl,rfl⟩
  exact⟨_,rfl,rfl,rfl⟩
end Go.Proofs.YtkciobclldnoiaaGreatDoor
namespace Go.Proofs.YtkciobclldnoiaaGreatDoor
open Go Go.Vc Go.Proofs Wl
set_option maxRecDepth 100000
theorem FD (a b:Sl) (la lb:Row) (h:Heap) (ha:Rd h a 1 az la) (hb:Rd h b 1 az lb) (hl:la.length=lb.length) (hs:la.length≤2^30):ae Tryz.prog C0 #[.slice a.ptr a.len a.cap,.slice b.ptr b.len b.cap] h fun v h'=>∃r:Sl,v=.tuple #[.slice r.ptr r.len r.cap,.bool true]∧Sp h h' [an aB r 1 az (List.zipWith (·^^^·) la lb)]:=by
 refine Bq a b ?_
 unfold xp
 have h1:=ha.len;have h2:=hb.len
 refine cI (fun e=>by omega) fun _=>?_
 refine(Sp.refl h).make ag az gZ (by decide) 0 rfl rfl la.length la.length (by omega) (by omega) (Nat.le_refl _) (by omega) fun s h3 hsl hc H3=>?_
 refine au (fun k:Nat=>(k:Int)) (fun k h'=>k≤la.length∧Sp h h' [an aB s 1 az (List.zipWith (·^^^·) (la.take k) (lb.take k)++List.replicate (la.length-k) 0)]) (fun k=>la.length-k) 0 rfl ⟨by omega,by simpa using H3⟩ ?_
 rintro k h4 ⟨hk,H4⟩
 refine ah (fun e=>?_) (fun e=>?_)
 ·have hk':k<la.length:=by omega
  refine(Seq.up ha H4.ai).bT k rfl hk' _ rfl ?_
  refine(Seq.up hb H4.ai).bT k rfl (by omega) _ rfl ?_
  rw[lX]
  refine H4.set ag 0 rfl (fun _=>rfl) rfl k rfl (by simp;omega) (la[k]^^^lb[k]) rfl rfl rfl fun h5 H5=>⟨trivial,?_⟩
  refine⟨k+1,by rw[wrap_small _ (by omega) (by omega)];rfl,⟨by omega,?_⟩,by omega⟩
  have hlk:(List.zipWith (·^^^·) (la.take k) (lb.take k)).length=k:=by simp;omega
  have e2:(List.zipWith (·^^^·) (la.take k) (lb.take k)++List.replicate (la.length-k) (0:UInt8)).set k (la[k]^^^lb[k])=List.zipWith (·^^^·) (la.take (k+1)) (lb.take (k+1))++List.replicate (la.length-(k+1)) 0:=by
   rw[List.set_append_right _ _ (by omega),hlk,Nat.sub_self,show la.length-k=la.length-(k+1)+1 by omega,List.replicate_succ,List.set_cons_zero,aI _ _ hk',aI _ _ (show k<lb.length by omega),List.zipWith_append (by simp;omega),List.append_assoc];rfl
  rw[←e2];exact H5
 ·have:k=la.length:=by omega
  subst this
  refine⟨s,rfl,?_⟩
  rw[List.take_of_length_le (Nat.le_refl _),List.take_of_length_le (by omega),Nat.sub_self,List.replicate_zero,List.append_nil]at H4
  exact H4
theorem GW (c:UInt8) (a b:Row):List.zipWith (·^^^·) (scaleB c a) b=cf c a b:=by
 unfold scaleB cf
 rw[List.zipWith_map_left]
 congr 1;funext x y;exact UInt8.xor_comm _ _
theorem Ej (f:Addr) (c:UInt8) (a b:Sl) (la lb:Row) (h:Heap) (hf:er h f) (ha:Rd h a 1 az la) (hb:Rd h b 1 az lb) (hl:la.length=lb.length) (hs:la.length≤2^30):
  ae Tryz.prog Bl #[.pointer (some f),.int .u8 c.toNat,.slice a.ptr a.len a.cap,.slice b.ptr b.len b.cap] h fun v h'=>∃r:Sl,v=.tuple #[.slice r.ptr r.len r.cap,.bool true]∧Sp h h' [an aB r 1 az (cf c la lb)]:=by
 refine zZ (some f) _ a b ?_
 unfold uQ
 refine(vb f c a la h hf ha hs).mono ?_
 rintro v h1 ⟨r,rfl,R1⟩
 refine⟨r,rfl,(FD r b _ lb h1 (R1.seq 0 rfl (fun _=>rfl)) (Seq.up hb R1.ai) (by rw[iY];exact hl) (by rw[iY];exact hs)).mono ?_⟩
 rintro v h2 ⟨w,rfl,R2⟩
 refine⟨(w,true),rfl,w,rfl,?_⟩
 rw[←GW]
 exact(R1.comp R2).take 1 fun i A hi=>by cases i with|zero=>exact hi|succ i=>simp at hi
def cX (f:Addr) (n:Nat) (hdr:Sl):List Value:=[.pointer (some f),.int .i64 n,.slice hdr.ptr hdr.len hdr.cap]
def dC (sp f:Addr) (n:Nat) (M:aT):HP:=.ex fun hdr:Sl=>(aA sp cC (cX f n hdr)).sep (bL aM hdr 1 bg (bC 1 az) M)
theorem Ek (sp f:Addr) (n:Nat) (hdr r:Sl) (M:aT) (l:Row) (h:Heap) (hb:b9 h sp cC (cX f n hdr)) (hf:er h f) (hM:fJ (bh (bC 1 az) 1 bg) h hdr M) (hr:Rd h r 1 az l)
  (hl:l.length=n) (hn:n≤64) (hev:aL n M) (hld:∀x∈M,cV x<n) (hMl:M.length≤2^30):
  ae Tryz.prog rC #[.pointer (some sp),.slice r.ptr r.len r.cap] h fun v h'=>∃w:Sl,v=.tuple #[.slice w.ptr w.len w.cap,.bool true]∧Sp h h' [an aB w 1 az (cj M l)]:=by
 refine qu (some sp) r ?_
 unfold lP
 have hrl:=hr.len;have hml:=bh.len hM
 refine aS ?_
 refine bH (fun e=>by cases e) fun _=>?_
 refine⟨sp,rfl,n,hb.cell rfl,cI (fun e=>by omega) fun _=>?_⟩
 refine(fG r l h hr (by omega)).mono ?_
 rintro v h1 ⟨w,rfl,R1⟩
 refine⟨w,rfl,sp,rfl,hdr,(hb.ai R1.ai hb.lt).cell rfl,?_⟩
 refine au (fun t:Sl×Nat=>(t.1,(t.2:Int))) (fun t h'=>t.2≤M.length∧Sp h h' [an aB t.1 1 az (cj (M.take t.2) l)]) (fun t=>M.length-t.2) (w,0) rfl ⟨by simp,by simpa[cj]using R1⟩ ?_
 rintro⟨o,k⟩ h2 ⟨hk,H2⟩
 dsimp only at*
 refine ah (fun e=>?_) (fun e=>?_)
 ·have hk':k<M.length:=by omega
  have hMk:M[k].length=n:=hev _ (List.getElem_mem _)
  have hldk:=hld _ (List.getElem_mem hk')
  have hevk:aL n (M.take k):=fun x hx=>hev x (List.mem_of_mem_take hx)
  have hrk:=sT hevk hl
  have hol:=(H2.own 0 rfl).len
  refine bh.lu (fJ.up hM H2.ai) k rfl hk' fun x hx=>?_
  refine(xt x _ h2 hx (by omega)).mono ?_
  rintro v h3 ⟨rfl,rfl⟩
  refine⟨_,rfl,?_⟩
  dsimp only
  rw[if_pos (by omega)]
  refine(H2.seq 0 rfl (fun _=>rfl)).bT (cV M[k]) rfl (by omega) _ rfl ?_
  have hcol:(cj (M.take k) l)[cV M[k]]'(by omega)=aP (cj (M.take k) l) (cV M[k]):=(vO (by omega)).symm
  have hst:cj (M.take (k+1)) l=cf (aP (cj (M.take k) l) (cV M[k])) M[k] (cj (M.take k) l):=by
   unfold cj;rw[aI _ _ hk',List.foldl_append];rfl
  rw[hcol]
  refine cI (fun e2=>?_) (fun e2=>?_)
  ·refine⟨sp,rfl,some f,(hb.ai H2.ai hb.lt).cell0 rfl,?_⟩
   refine(Ej f (aP (cj (M.take k) l) (cV M[k])) x o M[k] _ h3 (hf.ai H2.ai hf.lt) hx (H2.seq 0 rfl (fun _=>rfl)) (by omega) (by omega)).mono ?_
   rintro v h4 ⟨o',rfl,R4⟩
   refine⟨(o',true),rfl,⟨(o',k+1),by dsimp only;rw[wrap_small _ (by omega) (by omega)];rfl,⟨by dsimp only;omega,?_⟩,by dsimp only;omega⟩⟩
   dsimp only
   rw[hst]
   exact(H2.comp R4).take 1 fun i A hi=>by cases i with|zero=>exact hi|succ i=>simp at hi
  ·refine⟨(o,k+1),by dsimp only;rw[wrap_small _ (by omega) (by omega)];rfl,⟨by dsimp only;omega,?_⟩,by dsimp only;omega⟩
   have hz:aP (cj (M.take k) l) (cV M[k])=0:=mQ.1 e2
   have:cj (M.take (k+1)) l=cj (M.take k) l:=by
    rw[hst,hz]
    refine dU (n:=n) (by rw[bk (by omega)];exact hrk) hrk fun j _=>?_
    rw[bB (by omega),Gf.zero_mul,UInt8.xor_zero]
   dsimp only
   rw[this];exact H2
 ·refine⟨o,rfl,?_⟩
  rw[List.take_of_length_le (by omega)]at H2
  exact H2
theorem yn (f:Addr) (n:Nat) (h:Heap) (hn:n≤64):ae Tryz.prog Bb #[.pointer (some f),.int .i64 n] h fun v h'=>∃sp:Addr,v=.pointer (some sp)∧Sp h h' [dC sp f n []]:=by
 refine zO (some f) n ?_
 unfold uD
 refine aS ?_
 refine ah (fun e=>by omega) fun _=>ah (fun e=>by omega) fun _=>?_
 refine aS ?_
 refine bH (fun e=>by cases e) fun _=>?_
 refine(Sp.refl h).boxed fun a h1 H1=>?_
 refine⟨a,rfl,?_⟩
 have H2:=(H1.Cy aM 1 bg (bC 1 az)).join 0 1 (by decide) rfl rfl
 exact(H2.close' (F:=fun hdr:Sl=>(aA a cC (cX f n hdr)).sep (bL aM hdr 1 bg (bC 1 az) [])) 0 ⟨none,0,0⟩ rfl).del 1
end Go.Proofs.YtkciobclldnoiaaGreatDoor
namespace Go.Proofs.YtkciobclldnoiaaGreatDoor
open Go Go.Vc Go.Proofs Wl
set_option maxRecDepth 100000
end Go.Proofs.YtkciobclldnoiaaGreatDoor
namespace Go.Proofs.YtkciobclldnoiaaGreatDoor
open Go Go.Vc Go.Proofs Wl
set_option maxRecDepth 100000
theorem dC.open {B:aj} {h0 h:Heap} {As:List HP} {sp f:Addr} {n:Nat} {M:aT} (H:aa B h0 h (dC sp f n M::As)):
  ∃hdr:Sl,aa B h0 h (bL aM hdr 1 bg (bC 1 az) M::aA sp cC (cX f n hdr)::As):=by
 obtain⟨hdr,H1⟩:=H.oh
 exact⟨hdr,H1.pW⟩
theorem dC.close {B:aj} {h0 h:Heap} {As:List HP} {sp f:Addr} {n:Nat} {M:aT} {hdr:Sl} (H:aa B h0 h (bL aM hdr 1 bg (bC 1 az) M::aA sp cC (cX f n hdr)::As)):
  aa B h0 h (dC sp f n M::As):=H.iL.pV (F:=fun hdr:Sl=>(aA sp cC (cX f n hdr)).sep (bL aM hdr 1 bg (bC 1 az) M)) hdr
theorem nF (sp f:Addr) (n:Nat) (M:aT) {B:aj} {h0 h:Heap} {As:List HP} (H:aa B h0 h (dC sp f n M::As)):ae Tryz.prog rD #[.pointer (some sp)] h fun v h'=>v=.int .i64 M.length∧h'=h:=by
 refine qx (some sp) ?_
 unfold lQ
 obtain⟨hdr,H1⟩:=dC.open H
 refine bH (fun e=>by cases e) fun _=>?_
 exact⟨sp,rfl,hdr,(H1.box 1 rfl).cell rfl,by rw[(H1.E6 0 rfl).1],rfl⟩
theorem o8 (sp f:Addr) (n:Nat) (M:aT) (r:Sl) (l:Row) {B:aj} {h0 h:Heap} {As:List HP} (H:aa B h0 h (dC sp f n M::As)) (hf:St B h0 As fun h=>er h f) (hr:Rd h r 1 az l)
  (hl:l.length=n) (hn:n≤64) (hev:aL n M) (hld:∀x∈M,cV x<n) (hMl:M.length≤64):
  ae Tryz.prog tb #[.pointer (some sp),.slice r.ptr r.len r.cap] h fun v h'=>(∃b,v=.bool b)∧aa B h0 h' (dC sp f n (zg M l)::As):=by
 refine rA (some sp) r ?_
 unfold mw
 obtain⟨hdr,H1⟩:=dC.open H
 have hrest:=sT hev hl
 refine(Ek sp f n hdr r M l h (H1.box 1 rfl) (hf [_,_] h H1) (H1.Dy 0 rfl (fun _=>rfl)) hr hl hn hev hld (by omega)).mono ?_
 rintro v h1 ⟨w,rfl,R1⟩
 have H2:=H1.dv R1
 have hw:=R1.seq 0 rfl (fun _=>rfl)
 refine⟨(w,true),rfl,aS ?_⟩
 refine aW (fun e=>by cases e) fun _=>?_
 refine(xt w _ h1 hw (by omega)).mono ?_
 rintro v h2 ⟨rfl,rfl⟩
 refine⟨_,rfl,?_⟩
 dsimp only
 by_cases hyes:cV (cj M l)<(cj M l).length
 ·rw[if_pos hyes]
  refine nS (decide_eq_false (Int.not_lt.2 (Int.natCast_nonneg _))) ?_
  have H3:=H2.tV 0 rfl (fun _=>rfl)
  have hbox:=H3.box 2 rfl
  refine⟨sp,rfl,some f,hbox.cell0 rfl,sp,rfl,hdr,hbox.cell rfl,?_⟩
  have hmm:aL n (M++[cj M l]):=gQ hev hrest
  refine H3.mZ ag bg iN rfl [w] rfl (show 1*1≤2^20 by decide) rfl ⟨hbox.cell rfl,hbox.cell0 rfl,trivial⟩ ?_
  refine H3.tU ag 1 0 (by decide) rfl rfl iN rfl (by decide) (fun _=>rfl) jg rfl (by decide) (by omega) fun s' h4 H4=>?_
  have H4':aa B h0 h4 (bL aM s' 1 bg (bC 1 az) (M++[cj M l])::aA sp cC (cX f n hdr)::As):=H4.og
  have hb4:=H4'.box 1 rfl
  refine⟨⟨hb4.cell0 rfl,trivial⟩,?_⟩
  refine(BB f s' _ n h4 (hf [_,_] h4 H4') (bh.toeW (H4'.Dy 0 rfl (fun _=>rfl))) hmm hn (by simp;omega)).mono ?_
  rintro v h5 ⟨q,rs,rfl,hq,hrs,hqm,R5⟩
  have hlen:=(fB hmm (cT (M++[cj M l]))).2
  have R6:Sp h4 h5 [bL aM ⟨q.ptr,bA (M++[cj M l]),q.cap⟩ 1 bg (bC 1 az) (gS (M++[cj M l]))]:=by
   have:=aa.GP (As:=[]) R5 (by rw[hlen];exact hrs) (fun _=>rfl) (bA (M++[cj M l])) (by rw[hlen];omega)
   exact this
  have H5:=H4'.dv R6
  refine⟨q,rfl,trivial,sp,rfl,?_⟩
  refine H5.storeAt ag 2 rfl rfl (off:=2) (v:=.slice q.ptr q.len q.cap) rfl rfl rfl (by simp[cX]) fun h6 H6=>⟨trivial,⟨_,rfl⟩,?_⟩
  have H7:aa B h0 h6 (bL aM ⟨q.ptr,bA (M++[cj M l]),q.cap⟩ 1 bg (bC 1 az) (gS (M++[cj M l]))::bL aM s' 1 bg (bC 1 az) (M++[cj M l])::aA sp cC (cX f n ⟨q.ptr,bA (M++[cj M l]),q.cap⟩)::As):=by
   rw[show q.len=bA (M++[cj M l])from hq]at H6;exact H6
  rw[zg,if_pos hyes]
  exact dC.close H7.j9
 ·rw[if_neg hyes]
  refine yR (decide_eq_true (by decide)) ⟨⟨_,rfl⟩,?_⟩
  rw[zg,if_neg hyes]
  exact dC.close H2.og
theorem yo (sp f:Addr) (n:Nat) (M:aT) (hdr:Sl) (h:Heap) (hb:b9 h sp cC (cX f n hdr)) (hrd:fJ (bh (bC 1 az) 1 bg) h hdr M) (hMl:M.length≤64) (hev:aL n M) (hn:n≤64):
  ae Tryz.prog rF #[.pointer (some sp)] h fun v h'=>∃r:Sl,v=.slice r.ptr r.len r.cap∧Sp h h' [bL aM r 1 bg (bC 1 az) M]:=by
 refine qD (some sp) ?_
 unfold lR
 refine bH (fun e=>by cases e) fun _=>?_
 have hlen:=bh.len hrd
 refine⟨sp,rfl,hdr,hb.cell rfl,?_⟩
 refine au (fun t:Sl×Nat=>(t.1,(t.2:Int))) (fun t h'=>t.2≤M.length∧Sp h h' [bL aM t.1 1 bg (bC 1 az) (M.take t.2)]) (fun t=>M.length-t.2) (⟨none,0,0⟩,0) rfl ⟨by simp,(Sp.refl h).Cy aM 1 bg (bC 1 az)⟩ ?_
 rintro⟨s,k⟩ h2 ⟨hk,H2⟩
 dsimp only at*
 refine ah (fun e=>?_) (fun e=>?_)
 ·have hk':k<M.length:=by omega
  have hMk:=hev _ (List.getElem_mem hk')
  refine bh.lu (fJ.up hrd H2.ai) k rfl hk' fun x hx=>?_
  refine(fG x M[k] h2 hx (by omega)).mono ?_
  rintro v h3 ⟨c,rfl,R3⟩
  have H3:=(H2.dv R3).tV 0 rfl (fun _=>rfl)
  refine⟨c,rfl,?_⟩
  refine H3.tU ag 1 0 (by decide) rfl rfl iN rfl (by decide) (fun _=>rfl) jg rfl (by decide) (by simp;omega) fun s' h4 H4=>?_
  refine⟨(s',k+1),by dsimp only;rw[wrap_small _ (by omega) (by omega)];rfl,⟨by dsimp only;omega,?_⟩,by dsimp only;omega⟩
  dsimp only
  rw[aI _ _ hk'];exact H4.og
 ·rw[List.take_of_length_le (by omega)]at H2
  exact⟨s,rfl,H2⟩
theorem dC.rd {B:aj} {h0 h:Heap} {As:List HP} {sp f:Addr} {n:Nat} {M:aT} (H:aa B h0 h As) (i:Nat) (hi:As[i]?=some (dC sp f n M)):∃hdr:Sl,b9 h sp cC (cX f n hdr)∧fJ (bh (bC 1 az) 1 bg) h hdr M:=by
 obtain⟨hdr,q1,q2,hd,s1,s2,hb,rs,q3,a,b,c,d,e⟩:=H.at i hi
 exact⟨hdr,hb.1,rs,a.seq (fun _=>rfl) fun x hx=>s2 x (b x hx).1,d,fun i r l h1 h2=>(bC 1 az).mono (e i r l h1 h2) fun x hx=>s2 x (c x hx)⟩
theorem wJ (sp f:Addr) (n:Nat) (M:aT) (hdr:Sl) (h:Heap) (hb:b9 h sp cC (cX f n hdr)) (hrd:fJ (bh (bC 1 az) 1 bg) h hdr M) (hMl:M.length≤64) (hev:aL n M) (hn:n≤64):
  ae Tryz.prog qw #[.pointer (some sp)] h fun v h'=>∃sp':Addr,v=.pointer (some sp')∧Sp h h' [dC sp' f n M]:=by
 refine pr (some sp) ?_
 unfold kM
 refine bH (fun e=>by cases e) fun _=>?_
 refine⟨sp,rfl,some f,hb.cell0 rfl,sp,rfl,n,hb.cell rfl,?_⟩
 have hL:aE.ok [(sp.add 1,(.int .i64 (n:Int))),(sp,(.pointer (some f)))] h:=⟨hb.cell rfl,hb.cell0 rfl,trivial⟩
 refine(yo sp f n M hdr h hb hrd hMl hev hn).mono ?_
 rintro v h1 ⟨r,rfl,R1⟩
 have hL1:=kh R1.ai hL
 refine⟨r,rfl,hL1,R1.boxed fun a h2 H3=>?_⟩
 have H4:Sp h h2 (aA a cC (cX f n r)::bL aM r 1 bg (bC 1 az) M::[]):=H3.ee
 refine⟨kh H3.ai hL,a,rfl,?_⟩
 exact dC.close H4.zj
def rowsOf (p:Pm) (seed:Int) (ids:List Int):aT:=if bP p then(ids.filter cU).map (sI (cd p).toNat seed)else[]
theorem sn {p:Pm} {seed:Int} {ids:List Int} {k:Nat} (hk:k<ids.length):rowsOf p seed (ids.take (k+1))=rowsOf p seed (ids.take k)++(if(bP p&&cU ids[k])=true then[sI (cd p).toNat seed ids[k]]else[]):=by
 unfold rowsOf
 by_cases hp:bP p=true
 ·rw[if_pos hp,if_pos hp,sJ hk]
  by_cases h:cU ids[k]=true
  ·rw[if_pos h,if_pos (by rw[hp,h];rfl),List.map_append];rfl
  ·rw[if_neg h,if_neg (by simp[h]),List.append_nil]
 ·rw[if_neg hp,if_neg hp,if_neg (by simp[hp])];rfl
theorem BC (p:Pm) (seed:Int) (ids:List Int):aL (cd p).toNat (rowsOf p seed ids):=fun r hr=>by
 unfold rowsOf at hr
 split at hr
 ·obtain⟨i,_,rfl⟩:=List.mem_map.1 hr;exact zb _ _ _
 ·cases hr
theorem vd (p:Pm) (seed:Int) (ids:List Int):(rowsOf p seed ids).length≤ids.length:=by
 unfold rowsOf
 split
 ·rw[List.length_map];exact List.length_filter_le _ _
 ·simp
abbrev qN:ik Sl aT:=bh (bC 1 az) 1 bg
theorem El (p:Pm) (seed:Int) (w:Sl) (W:List (List Int)) (h:Heap) (hW:fJ (bh (bC 1 aC) 1 bg) h w W) (hl:W.length≤2^20) (hr:∀l∈W,l.length≤2^20):
  ae Tryz.prog wh #[o7 p,.int .u32 seed,.slice w.ptr w.len w.cap] h fun v h'=>∃r:Sl,v=.slice r.ptr r.len r.cap∧Sp h h' [bL ea r 1 bg qN (W.map (rowsOf p seed))]:=by
 refine uF p seed w ?_
 unfold oS
 obtain⟨ws,hws,hwn,hwr⟩:=bh.mj hW
 have hwl:=hws.len
 refine(Sp.refl h).boxed fun a h1 H1=>?_
 refine au (fun t:Sl×Nat=>(t.1,(t.2:Int))) (fun t h'=>t.2≤W.length∧Sp h h' [bL ea t.1 1 bg qN ((W.take t.2).map (rowsOf p seed)),aA a bj [.int .i64 p.1,.int .i64 p.2.1,.int .i64 p.2.2]]) (fun t=>W.length-t.2) (⟨none,0,0⟩,0) rfl ⟨by simp,(H1.Cy ea 1 bg qN).ee⟩ ?_
 rintro⟨o,k⟩ h2 ⟨hk,H2⟩
 dsimp only at*
 refine ah (fun e=>?_) (fun e=>?_)
 ·have hk':k<W.length:=by omega
  have hrk:=hr _ (List.getElem_mem hk')
  have hx:=hwr k (by omega) hk'
  refine(Seq.up hws H2.ai).sV k rfl (by omega) ?_
  generalize ws[k]'(by omega)=x at hx
  have hxl:=Seq.len hx
  refine au (fun t:Sl×Nat=>(t.1,(t.2:Int))) (fun t h'=>t.2≤W[k].length∧Sp h h' [bL aM t.1 1 bg (bC 1 az) (rowsOf p seed (W[k].take t.2)),bL ea o 1 bg qN ((W.take k).map (rowsOf p seed)),aA a bj [.int .i64 p.1,.int .i64 p.2.1,.int .i64 p.2.2]]) (fun t=>W[k].length-t.2) (⟨none,0,0⟩,0) rfl ⟨by simp,by
    have:=(H2.Cy aM 1 bg (bC 1 az)).ee
    have e0:rowsOf p seed []=[]:=by unfold rowsOf;split<;>rfl
    dsimp only;rw[List.take_zero,e0];exact this⟩ ?_
  rintro⟨s,j⟩ h3 ⟨hj,H3⟩
  dsimp only at*
  refine ah (fun e2=>?_) (fun e2=>?_)
  ·have hj':j<W[k].length:=by omega
   refine(Seq.up hx H3.ai).bT j rfl hj' _ rfl ?_
   refine⟨p,(H3.box 2 rfl).aY _ rfl,(FB p seed W[k][j] h3).mono ?_⟩
   rintro v h4 ⟨c,rfl,R4,hnil⟩
   refine⟨c,rfl,?_⟩
   have H4:=(H3.dv R4).tV 0 rfl (fun _=>rfl)
   have hlen4:=vd p seed (W[k].take j)
   rw[List.length_take]at hlen4
   refine aW (fun e3=>?_) (fun e3=>?_)
   ·rw[hnil]at e3
    have hok:(bP p&&cU W[k][j])=true:=by simpa using e3
    rw[hok,if_pos rfl]at H4
    refine H4.tU ag 1 0 (by decide) rfl rfl iN rfl (by decide) (fun _=>rfl) jg rfl (by decide) (by omega) fun s' h5 H5=>?_
    have H5':=H5.og
    refine⟨(s',j+1),by dsimp only;rw[wrap_small _ (by omega) (by omega)];rfl,⟨by dsimp only;omega,?_⟩,by dsimp only;omega⟩
    dsimp only;rw[sn hj',if_pos hok];exact H5'
   ·rw[hnil]at e3
    have hok:¬(bP p&&cU W[k][j])=true:=fun hh=>by rw[hh]at e3;cases e3
    refine⟨(s,j+1),by dsimp only;rw[wrap_small _ (by omega) (by omega)];rfl,⟨by dsimp only;omega,?_⟩,by dsimp only;omega⟩
    dsimp only;rw[sn hj',if_neg hok,List.append_nil];exact H4.og
  ·rw[List.take_of_length_le (by omega)]at H3
   have H4:=H3.B4 0 rfl (fun _=>rfl)
   refine H4.tU ag 1 0 (by decide) (E:=qN) (a:=s) (b:=rowsOf p seed W[k]) rfl rfl (⟨_,_,rfl,rfl,rfl,rfl,rfl,rfl⟩:bt C.tomV sX ea 1 [.slice none 0 0] 24) rfl (by decide) (fun _=>rfl) jg rfl (by decide) (by simp;omega) fun s' h5 H5=>?_
   refine⟨(s',k+1),by dsimp only;rw[wrap_small _ (by omega) (by omega)];rfl,⟨by dsimp only;omega,?_⟩,by dsimp only;omega⟩
   dsimp only
   rw[aI _ _ hk',List.map_append];exact H5.og
 ·rw[List.take_of_length_le (by omega)]at H2
  exact⟨o,rfl,H2.j9⟩
end Go.Proofs.YtkciobclldnoiaaGreatDoor
namespace Go.Proofs.YtkciobclldnoiaaGreatDoor
open Go Go.Vc Go.Proofs Wl
set_option maxRecDepth 100000
def fY (R:List aT) (gone:List Int):Nat→aT
 |0=>[]
 |k+1=>fY R gone k++if(k:Int)∈gone then[]else R.getD k []
theorem xu {n:Nat} {R:List aT} (hR:∀m∈R,aL n m) (gone:List Int):∀k,aL n (fY R gone k)
 |0=>fun r hr=>by cases hr
 |k+1=>fun r hr=>by
  rcases List.mem_append.1 hr with hr|hr
  ·exact xu hR gone k r hr
  ·split at hr
   ·cases hr
   ·rw[List.getD_eq_getElem?_getD]at hr
    cases hg:R[k]? with
    |none=>rw[hg]at hr;cases hr
    |some m=>rw[hg]at hr;exact hR m (List.mem_of_getElem? hg) r hr
theorem Aj (R:List aT) (gone:List Int):∀{j k:Nat},j≤k→∃X,fY R gone k=fY R gone j++X
 |j,0,h=>⟨[],by
   have:j=0:=by omega
   subst this;simp⟩
 |j,k+1,h=>by
  by_cases hj:j=k+1
  ·subst hj;exact⟨[],by simp⟩
  ·obtain⟨X,hX⟩:=Aj R gone (j:=j) (k:=k) (by omega)
   exact⟨X++if(k:Int)∈gone then[]else R.getD k [],by rw[fY,hX,List.append_assoc]⟩
theorem FE {n:Nat} {m:aT} (hm:aL n m) (h:bA m=n) {m':aT} (hm':aL n m') (hs:∀r∈m,r∈m'):bA m'=n:=by
 have h1:=lz hm'
 have h2:=w7 hm hm' hs
 omega
theorem BD (sp f:Addr) (n:Nat) (M A:aT) (hdr l g:Sl) (R:List aT) (gone:List Int) (h:Heap) (hb:b9 h sp cC (cX f n hdr)) (hrd:fJ qN h hdr M) (hf:er h f) (hl:fJ (bh qN 1 bg) h l R) (hg:Rd h g 1 aC gone)
  (hn:n≤64) (hok:oe n M A) (hR:∀m∈R,aL n m∧m.length≤2^20) (hRl:R.length≤2^20) (hgl:gone.length≤2^30):
  ae Tryz.prog wi #[.pointer (some sp),.slice l.ptr l.len l.cap,.slice g.ptr g.len g.cap,.int .i64 n] h fun v h'=>v=.bool (decide (bA (A++fY R gone R.length)=n))∧Sp h h' []:=by
 refine uG (some sp) l g n ?_
 unfold oT
 obtain⟨ls,hls,hln,hlr⟩:=bh.mj hl
 have hll:=hls.len
 have mlen:∀{M' A':aT},oe n M' A'→M'.length≤64:=fun x=>by have:=x.len;have:=lz x.evenA;omega
 have hfs:St (fun b=>b<h.size) h [] fun h'=>er h' f:=.base hf fun h' hp=>hf.ai hp hf.lt
 have evT:aL n (A++fY R gone R.length):=fun r hr=>(List.mem_append.1 hr).elim (hok.evenA r) (xu (fun m hm=>(hR m hm).1) gone _ r)
 refine(wJ sp f n M hdr h hb hrd (mlen hok) hok.even hn).mono ?_
 rintro v h1 ⟨s,rfl,R1⟩
 refine⟨some s,rfl,?_⟩
 refine au (fun k:Nat=>(k:Int)) (fun k h'=>k≤R.length∧∃M',oe n M' (A++fY R gone k)∧Sp h h' [dC s f n M']) (fun k=>R.length-k) 0 rfl ⟨by omega,M,by simpa[fY]using hok,R1⟩ ?_
 rintro k h2 ⟨hk,M2,ok2,H2⟩
 refine ah (fun e=>?_) (fun e=>?_)
 ·have hk':k<R.length:=by omega
  have hx:=hlr k (by omega) hk'
  refine(Seq.up hls H2.ai).sV k rfl (by omega) ?_
  generalize ls[k]'(by omega)=x at hx
  have hRk:=hR _ (List.getElem_mem hk')
  refine(yi g gone k h2 (Seq.up hg H2.ai) hgl).mono ?_
  rintro v h3 ⟨rfl,rfl⟩
  refine⟨_,rfl,ah (fun hin=>?_) (fun hout=>?_)⟩
  ·refine⟨k+1,by rw[wrap_small _ (by omega) (by omega)];rfl,⟨by omega,M2,?_,H2⟩,by omega⟩
   rw[fY,if_pos hin,List.append_nil];exact ok2
  ·obtain⟨xs,hxs,hxn,hxr⟩:=bh.mj hx
   have hxl:=hxs.len
   have hgk:R.getD k []=R[k]:=by rw[List.getD_eq_getElem?_getD,List.getElem?_eq_getElem hk'];rfl
   refine au (fun j:Nat=>(j:Int)) (fun j h'=>j≤R[k].length∧∃M',oe n M' ((A++fY R gone k)++R[k].take j)∧Sp h h' [dC s f n M']) (fun j=>R[k].length-j) 0 rfl ⟨by omega,M2,by simpa using ok2,H2⟩ ?_
   rintro j h4 ⟨hj,M4,ok4,H4⟩
   refine ah (fun e2=>?_) (fun e2=>?_)
   ·have hj':j<R[k].length:=by omega
    have hy:=hxr j (by omega) hj'
    refine(Seq.up hxs H4.ai).sV j rfl (by omega) ?_
    generalize xs[j]'(by omega)=y at hy
    refine(nF s f n M4 H4).mono ?_
    rintro v h5 ⟨rfl,rfl⟩
    refine⟨_,rfl,cM (fun e3=>?_) (fun e3=>?_)⟩
    ·refine⟨?_,.zip H4.ai⟩
     have e3':((M4.length:Nat):Int)=(n:Int):=e3
     have h6:bA ((A++fY R gone k)++R[k].take j)=n:=by have:=ok4.len;omega
     have h7:bA (A++fY R gone R.length)=n:=by
      refine FE ok4.evenA h6 evT fun r hr=>?_
      obtain⟨X,hX⟩:=Aj R gone (j:=k+1) (k:=R.length) (by omega)
      rw[hX,fY,if_neg hout,hgk]
      simp only[List.mem_append]at hr⊢
      rcases hr with(hr|hr)|hr
      ·exact .inl hr
      ·exact .inr (.inl (.inl hr))
      ·exact .inr (.inl (.inr (List.mem_of_mem_take hr)))
     rw[h7];simp
    ·refine(o8 s f n M4 y _ H4 hfs (Seq.up hy H4.ai) (hRk.1 _ (List.getElem_mem _)) hn ok4.even ok4.lead (mlen ok4)).mono ?_
     rintro v h6 ⟨⟨b,rfl⟩,H6⟩
     refine⟨b,rfl,⟨j+1,by rw[wrap_small _ (by omega) (by omega)];rfl,⟨by omega,_,?_,H6⟩,by omega⟩⟩
     have:=DW ok4 (hRk.1 _ (List.getElem_mem hj'))
     rw[aI _ _ hj',←List.append_assoc];exact this
   ·refine⟨k+1,by rw[wrap_small _ (by omega) (by omega)];rfl,⟨by omega,M4,?_,H4⟩,by omega⟩
    rw[List.take_of_length_le (by omega)]at ok4
    rw[fY,if_neg hout,hgk,←List.append_assoc];exact ok4
 ·have:k=R.length:=by omega
  subst this
  refine(nF s f n M2 H2).mono ?_
  rintro v h5 ⟨rfl,rfl⟩
  refine⟨_,rfl,?_,.zip H2.ai⟩
  have:=ok2.len
  congr 1
  by_cases hh:bA (A++fY R gone R.length)=n
  ·rw[decide_eq_true hh];exact beq_iff_eq.2 (show((M2.length:Nat):Int)=n by omega)
  ·rw[decide_eq_false hh];exact beq_eq_false_iff_ne.2 (show((M2.length:Nat):Int)≠n by omega)
def oA (n t:Nat):List (List Int):=(gC t 0 n).map ints
def qO (n t:Int) (h:Heap) (v:Value) (h':Heap):Prop:=
 if 0≤n∧n≤64∧0≤t∧t≤n then
  if fa n t>4096 then v=.tuple #[.slice none 0 0,.int .i64 13]∧h'=h
  else∃r:Sl,v=.tuple #[.slice r.ptr r.len r.cap,.int .i64 0]∧Sp h h' [bL bQ r 1 bg (bC 1 aC) (oA n.toNat t.toNat)]
 else v=.tuple #[.slice none 0 0,.int .i64 1]∧h'=h
theorem Ak (n t:Int) (h:Heap) (hn:0≤n∧n≤2^30) (ht:(0:Int)≤0):ae Tryz.prog A9 #[.int .i64 n,.int .i64 t] h (qO n t h):=by
 refine zM n t ?_
 unfold uB
 refine(nC n t h).mono ?_
 rintro v h1 ⟨rfl,rfl⟩
 refine⟨_,rfl,aW (fun e=>?_) (fun e=>?_)⟩
 ·show qO n t h1 _ h1
  unfold qO;rw[if_neg (of_decide_eq_false e)];exact⟨rfl,rfl⟩
 ·have e:=of_decide_eq_true e
  refine(nD n t h1 (by omega) (by omega)).mono ?_
  rintro v h2 ⟨rfl,rfl⟩
  refine⟨_,rfl,ah (fun e2=>?_) (fun e2=>?_)⟩
  ·show qO n t h2 _ h2
   unfold qO;rw[if_pos e,if_pos e2];exact⟨rfl,rfl⟩
  ·refine(fun hkk=>?_:(∀(v:Value) (h':Heap),(∃r:Sl,v=.tuple #[.slice r.ptr r.len r.cap,.int .i64 0]∧Sp h2 h' [bL bQ r 1 bg (bC 1 aC) (oA n.toNat t.toNat)])→qO n t h2 v h')→_) (fun v h' hx=>by unfold qO;rw[if_pos e,if_neg e2];exact hx)
   obtain⟨N,rfl⟩:∃N:Nat,n=N:=⟨n.toNat,by omega⟩
   obtain⟨T,rfl⟩:∃T:Nat,t=T:=⟨t.toNat,by omega⟩
   have hcnt:(gC T 0 N).length≤4096:=by
    rw[sS N T 0 (by omega)]
    have:fa (N:Int) T=((min (ch N T) 4097:Nat):Int):=by unfold fa;rw[if_pos e];rfl
    rw[this]at e2
    have e2':¬(((min (ch N T) 4097:Nat):Int)>4096):=e2
    simp;omega
   refine(Sp.refl h2).make ag aC jz (by decide) 0 rfl rfl T T rfl rfl (Nat.le_refl _) (by omega) fun s h3 hsl hsc H3=>?_
   refine au (fun k:Nat=>(k:Int)) (fun k h'=>k≤T∧Sp h2 h' [an aO s 1 aC (ints (List.range' 0 k++List.replicate (T-k) 0))]) (fun k=>T-k) 0 rfl ⟨by omega,by
    have e0:ints (List.range' 0 0++List.replicate (T-0) 0)=List.replicate T 0:=by simp[ints]
    rw[e0];exact H3⟩ ?_
   rintro k h4 ⟨hk,H4⟩
   refine ah (fun e3=>?_) (fun e3=>?_)
   ·have hk':k<T:=by omega
    refine H4.set ag 0 rfl (fun _=>rfl) rfl k rfl (by simp[ints];omega) (k:Int) rfl rfl rfl fun h5 H5=>?_
    refine⟨k+1,by rw[wrap_small _ (by omega) (by omega)];rfl,⟨by omega,?_⟩,by omega⟩
    have e0:(ints (List.range' 0 k++List.replicate (T-k) 0)).set k (k:Int)=ints (List.range' 0 (k+1)++List.replicate (T-(k+1)) 0):=by
     have:(List.range' 0 k++List.replicate (T-k) 0).set k k=List.range' 0 (k+1)++List.replicate (T-(k+1)) 0:=by
      rw[List.set_append_right _ _ (by simp),List.length_range',Nat.sub_self,show T-k=T-(k+1)+1 by omega,List.replicate_succ,List.set_cons_zero,List.range'_concat]
      simp
     rw[←this];simp[ints,List.map_set]
    rw[e0]at H5;exact H5
   ·have:k=T:=by omega
    subst this
    rw[Nat.sub_self,List.replicate_zero,List.append_nil]at H4
    refine(eT s _ h4 (H4.seq 0 rfl (fun _=>rfl)) (by simp[ints];omega)).mono ?_
    rintro v h5 ⟨c,rfl,R5⟩
    have H5:=(H4.dv R5).tV 0 rfl (fun _=>rfl)
    refine⟨c,rfl,?_⟩
    refine H5.lit ag bg (⟨_,_,rfl,rfl,rfl,rfl,rfl,rfl⟩:bt C.tomV mM bQ 1 [.slice none 0 0] 24) rfl [c] rfl (show 1*1≤2^20 by decide) rfl fun o h6 H6=>?_
    have H7:Sp h2 h6 (bL bQ o 1 bg (bC 1 aC) [ints (List.range' 0 k)]::an aO s 1 aC (ints (List.range' 0 k))::[]):=(H6.Hm (E:=bC 1 aC) (a:=c) (b:=ints (List.range' 0 k)) 2 0 (by decide) rfl rfl).ee.j9
    have hen:=pT N k 0 (by omega)
    refine au (fun x:Sl×List (List Nat)×List Nat×List (List Nat)=>x.1) (fun x h'=>x.2.1++x.2.2.2=gC k 0 N∧jh N x.2.2.1 x.2.2.2∧x.2.2.1.length=k∧(∀y∈x.2.2.1,y<N)∧Sp h2 h' [bL bQ x.1 1 bg (bC 1 aC) ((x.2.1++[x.2.2.1]).map ints),an aO s 1 aC (ints x.2.2.1)]) (fun x=>x.2.2.2.length) (o,[],List.range' 0 k,gC k 0 N) rfl ⟨rfl,hen,by simp,fun y hy=>by rw[List.mem_range'_1]at hy;omega,by simpa using H7⟩ ?_
    rintro⟨o,done,cur,rest⟩ h8 ⟨h9,h10,h11,h12,H8⟩
    dsimp only at*
    refine(Eb N s cur H8 1 rfl (by omega) (by omega) h12).mono ?_
    intro v h13 hx
    cases hs:fh N cur with
    |none=>
     rw[hs]at hx
     obtain⟨rfl,rfl⟩:=hx
     refine⟨false,rfl,?_⟩
     refine nS rfl (hkk _ _ ⟨o,rfl,?_⟩)
     rw[Int.toNat_natCast,Int.toNat_natCast]
     have:rest=[cur]:=by
      cases h10 with
      |last _=>rfl
      |more h _=>rw[hs]at h;cases h
     rw[this]at h9
     unfold oA
     rw[←h9];exact H8.j9
    |some cur'=>
     rw[hs]at hx
     obtain⟨rfl,H13⟩:=hx
     refine⟨true,rfl,yR rfl ?_⟩
     obtain⟨L,hL,hrest⟩:∃L,jh N cur' L∧rest=cur::L:=by
      cases h10 with
      |last h=>rw[hs]at h;cases h
      |more h h'=>rw[hs]at h;injection h with h;subst h;exact⟨_,h',rfl⟩
     have H13':Sp h2 h13 [bL bQ o 1 bg (bC 1 aC) ((done++[cur]).map ints),an aO s 1 aC (ints cur')]:=H13
     have hmem:cur'∈gC k 0 N:=by
      rw[←h9,hrest]
      have:cur'∈L:=by cases hL<;>simp
      simp[this]
     have hm2:=sQ hmem
     have hdl:done.length+2≤(gC k 0 N).length:=by
      rw[←h9,hrest]
      have:1≤L.length:=by cases hL<;>simp
      simp;omega
     refine(eT s _ h13 (H13'.seq 1 rfl (fun _=>rfl)) (by rw[gi];omega)).mono ?_
     rintro v h14 ⟨c2,rfl,R14⟩
     have H14:=(H13'.dv R14).tV 0 rfl (fun _=>rfl)
     refine⟨c2,rfl,?_⟩
     refine H14.tU ag 1 0 (by decide) (E:=bC 1 aC) (a:=c2) (b:=ints cur') rfl rfl (⟨_,_,rfl,rfl,rfl,rfl,rfl,rfl⟩:bt C.tomV mM bQ 1 [.slice none 0 0] 24) rfl (by decide) (fun _=>rfl) jg rfl (by decide) (by simp;omega) fun o' h15 H15=>?_
     refine⟨(o',done++[cur],cur',L),rfl,⟨by dsimp only;rw[←h9,hrest];simp,hL,hm2.1,fun y hy=>(hm2.2.1 y hy).2,?_⟩,by dsimp only;rw[hrest];simp⟩
     have H16:=H15.og
     dsimp only
     rw[List.map_append (l₁:=done++[cur])];exact H16
end Go.Proofs.YtkciobclldnoiaaGreatDoor
namespace Go.Proofs.YtkciobclldnoiaaGreatDoor
open Go Go.Vc Go.Proofs
set_option maxRecDepth 100000
end Go.Proofs.YtkciobclldnoiaaGreatDoor
namespace Go.Proofs.YtkciobclldnoiaaGreatDoor
open Go Go.Vc Go.Proofs
set_option maxRecDepth 100000
end Go.Proofs.YtkciobclldnoiaaGreatDoor
namespace Go.Proofs.YtkciobclldnoiaaGreatDoor
open Go Go.Vc Go.Proofs Wl
set_option maxRecDepth 100000
def rp (W:List (List Int)) (gone:List Int):Nat→List Int
 |0=>[]
 |k+1=>rp W gone k++if(k:Int)∈gone then[]else W.getD k []
def ve (p:Pm) (seed:Int) (W:List (List Int)) (gone:List Int):Nat:=yx p seed (rp W gone W.length)
theorem C3 (p:Pm) (seed:Int) (a b:List Int):rowsOf p seed (a++b)=rowsOf p seed a++rowsOf p seed b:=by
 unfold rowsOf;split<;>simp
theorem xv (p:Pm) (seed:Int) (W:List (List Int)) (gone:List Int):∀k,fY (W.map (rowsOf p seed)) gone k=rowsOf p seed (rp W gone k)
 |0=>by simp[fY,rp,rowsOf]
 |k+1=>by
  rw[fY,rp,C3,xv p seed W gone k]
  congr 1
  by_cases h:(k:Int)∈gone
  ·rw[if_pos h,if_pos h];simp[rowsOf]
  ·rw[if_neg h,if_neg h,List.getD_eq_getElem?_getD,List.getElem?_map,List.getD_eq_getElem?_getD]
   cases W[k]? with
   |none=>simp[rowsOf]
   |some l=>rfl
theorem Em {p:Pm} (hp:bP p=true) (seed:Int) (ids:List Int):iu p seed ids=bX p.1.toNat p.2.1.toNat++rowsOf p seed ids:=by
 unfold iu rowsOf;rw[if_pos hp,if_pos hp]
def yC (p:Pm) (seed:Int) (W:List (List Int)) (t:Nat):Option (List Int):=(oA W.length t).find? fun g=>decide ((ve p seed W g:Int)≠cd p)
def gj (p:Pm) (seed:Int) (W:List (List Int)) (t:Int):List Int×Bool×Int:=
 if bP p then
  if 0≤t∧t≤W.length∧W.length≤64 then
   if fa W.length t>4096 then([],false,13)
   else match yC p seed W t.toNat with
    |some g=>(g,true,0)
    |none=>([],false,0)
  else([],false,1)
 else([],false,1)
theorem wK (K H:Nat):aL (K+H) (bX K H):=fun r hr=>by
 obtain⟨i,_,rfl⟩:=List.mem_map.1 hr;exact pN _ _ _
theorem xw {α:Type} (f:α→Bool) (l:List α) {k:Nat} (hk:k<l.length) (hno:(l.take k).find? f=none):(l.take (k+1)).find? f=if f l[k]then some l[k]else none:=by
 rw[aI _ _ hk,List.find?_append,hno,Option.none_or,List.find?_cons]
 cases f l[k]<;>rfl
theorem En {α:Type} (f:α→Bool) (l:List α) {k:Nat} {x:α} (h:(l.take k).find? f=some x):l.find? f=some x:=by
 have:l=l.take k++l.drop k:=(List.take_append_drop k l).symm
 rw[this,List.find?_append,h];rfl
theorem vf (p:Pm) (seed:Int) (w:Sl) (W:List (List Int)) (t:Int) (h:Heap) (hW:fJ (bh (bC 1 aC) 1 bg) h w W) (hl:W.length≤2^20) (hr:∀l∈W,l.length≤2^20) (ht:(0:Int)≤0):
  ae Tryz.prog vY #[o7 p,.int .u32 seed,.slice w.ptr w.len w.cap,.int .i64 t] h fun v h'=>∃r:Sl,v=.tuple #[.slice r.ptr r.len r.cap,.bool (gj p seed W t).2.1,.int .i64 (gj p seed W t).2.2]∧Sp h h' [EA (bC 1 aC) r (gj p seed W t).1]:=by
 refine uv p seed w t ?_
 unfold oP
 have hwl:=bh.len hW
 have nilE:∀{h1:Heap},aD (fun b=>b<h.size) h h1→Sp h h1 [EA (bC 1 aC) ⟨none,0,0⟩ []]:=fun hp=>.one hp (Seq.nil _ _ _ _ _ _)
 refine(Sp.refl h).boxed fun a h1 H1=>?_
 refine⟨p,(H1.box 0 rfl).aY _ rfl,(dd p h1).mono ?_⟩
 rintro v h2 ⟨rfl,R2⟩
 have H2:=H1.comp R2
 refine⟨_,rfl,aW (fun e=>?_) (fun e=>?_)⟩
 ·refine⟨⟨none,0,0⟩,?_,?_⟩<;>(unfold gj;rw[if_neg (by simpa using e)])
  exact nilE H2.ai
 ·have hp:bP p=true:=e
  refine(Ak (w.len:Int) t h2 (by omega) ht).mono ?_
  intro v h3 hA
  unfold qO at hA
  rw[hwl]at hA
  have erc:(0≤((W.length:Nat):Int)∧((W.length:Nat):Int)≤64∧0≤t∧t≤((W.length:Nat):Int))↔(0≤t∧t≤W.length∧W.length≤64):=by omega
  by_cases hc:0≤t∧t≤W.length∧W.length≤64
  ·rw[if_pos (erc.2 hc)]at hA
   by_cases hm:fa W.length t>4096
   ·rw[if_pos hm]at hA
    obtain⟨rfl,rfl⟩:=hA
    refine⟨(⟨none,0,0⟩,13),rfl,cI (fun _=>?_) (fun e=>by cases e)⟩
    refine⟨⟨none,0,0⟩,?_,?_⟩<;>(unfold gj;rw[if_pos hp,if_pos hc,if_pos hm])
    exact nilE H2.ai
   ·rw[if_neg hm]at hA
    obtain⟨r,rfl,R3⟩:=hA
    refine⟨(r,0),rfl,cI (fun e=>absurd rfl e) (fun _=>?_)⟩
    dsimp only
    rw[Int.toNat_natCast]at R3
    have wR:gj p seed W t=match yC p seed W t.toNat with|some g=>(g,true,0)|none=>([],false,0):=by
     unfold gj;rw[if_pos hp,if_pos hc,if_neg hm]
    obtain⟨L,hL⟩:∃L,L=oA W.length t.toNat:=⟨_,rfl⟩
    rw[←hL]at R3
    have hLl:L.length≤4096:=by
     have h6:fa (W.length:Int) t=((min (ch W.length t.toNat) 4097:Nat):Int):=by unfold fa;rw[if_pos (erc.2 hc)];rfl
     rw[h6]at hm
     rw[hL,oA,List.length_map,sS _ _ 0 (by omega),Nat.sub_zero];omega
    have H3:Sp h h3 [aA a bj [.int .i64 p.1,.int .i64 p.2.1,.int .i64 p.2.2],bL bQ r 1 bg (bC 1 aC) L]:=H2.comp R3
    have pp:=(dJ p).1 hp
    have hcols:cd p=p.1+p.2.1:=sM hp
    obtain⟨n,hn⟩:∃n:Nat,cd p=n:=⟨(cd p).toNat,by omega⟩
    have hn64:n≤64:=by omega
    refine⟨p,(H3.box 0 rfl).aY _ rfl,(iO p h3).mono ?_⟩
    rintro v h4 ⟨rfl,R4⟩
    have H4:=H3.up R4.ai
    refine⟨_,rfl,(u9 h4).mono ?_⟩
    rintro v h5 ⟨f,rfl,R5⟩
    have H5:=H4.dv R5
    rw[hn]
    refine⟨some f,rfl,(yn f n h5 hn64).mono ?_⟩
    rintro v h6 ⟨sp,rfl,R6⟩
    have H6:Sp h h6 [dC sp f n [],aA f fv cz,aA a bj [.int .i64 p.1,.int .i64 p.2.1,.int .i64 p.2.2],bL bQ r 1 bg (bC 1 aC) L]:=H5.dv R6
    refine⟨some sp,rfl,p,(H6.box 2 rfl).aY _ rfl,(ym p h6).mono ?_⟩
    rintro v h7 ⟨ar,rfl,R7⟩
    rw[if_pos hp]at R7
    obtain⟨A,hAe⟩:∃A,A=bX p.1.toNat p.2.1.toNat:=⟨_,rfl⟩
    rw[←hAe]at R7
    have evA:aL n A:=by
     have:=wK p.1.toNat p.2.1.toNat
     rw[hAe,show n=p.1.toNat+p.2.1.toNat by omega];exact this
    have hAl:A.length≤4:=by rw[hAe];simp[bX];omega
    have H7:Sp h h7 [dC sp f n [],aA f fv cz,aA a bj [.int .i64 p.1,.int .i64 p.2.1,.int .i64 p.2.2],bL bQ r 1 bg (bC 1 aC) L,bL aM ar 1 bg (bC 1 az) A]:=(H6.comp R7).Ia 4 rfl
    have mlen:∀{M' A':aT},oe n M' A'→M'.length≤64:=fun x=>by have:=x.len;have:=lz x.evenA;omega
    refine⟨ar,rfl,?_⟩
    refine au (fun k:Nat=>(k:Int)) (fun k h'=>k≤A.length∧∃M,oe n M (A.take k)∧Sp h h' [dC sp f n M,aA f fv cz,aA a bj [.int .i64 p.1,.int .i64 p.2.1,.int .i64 p.2.2],bL bQ r 1 bg (bC 1 aC) L,bL aM ar 1 bg (bC 1 az) A]) (fun k=>A.length-k) 0 rfl ⟨by omega,[],by simpa using Hv n,H7⟩ ?_
    rintro k h8 ⟨hk,M,okM,H8⟩
    have hrl:=(H8.E6 4 rfl).1
    refine ah (fun e2=>?_) (fun e2=>?_)
    ·have hk':k<A.length:=by omega
     refine bh.lu (H8.Dy 4 rfl (fun _=>rfl)) k rfl hk' fun x hx=>?_
     refine(o8 sp f n M x _ H8 (St.ud 0 rfl fun h' y=>y.1) hx (evA _ (List.getElem_mem _)) hn64 okM.even okM.lead (mlen okM)).mono ?_
     rintro v h9 ⟨⟨b,rfl⟩,H9⟩
     refine⟨b,rfl,⟨k+1,by rw[wrap_small _ (by omega) (by omega)];rfl,⟨by omega,_,?_,H9⟩,by omega⟩⟩
     rw[aI _ _ hk']
     exact DW okM (evA _ (List.getElem_mem hk'))
    ·rw[List.take_of_length_le (by omega)]at okM
     refine⟨p,(H8.box 2 rfl).aY _ rfl,(El p seed w W h8 (fJ.up hW H8.ai) hl hr).mono ?_⟩
     rintro v h9 ⟨rw_,rfl,R9⟩
     have H9:=H8.comp R9
     refine⟨rw_,rfl,?_⟩
     have hRn:∀m∈W.map (rowsOf p seed),aL n m∧m.length≤2^20:=fun m hm=>by
      obtain⟨l,hl',rfl⟩:=List.mem_map.1 hm
      refine⟨?_,Nat.le_trans (vd p seed l) (hr l hl')⟩
      have:=BC p seed l
      rw[hn]at this;exact this
     let bad:List Int→Bool:=fun g=>decide ((ve p seed W g:Int)≠cd p)
     have wI:yC p seed W t.toNat=L.find? bad:=by unfold yC;rw[←hL]
     have hll:=(H9.E6 3 rfl).1
     refine au (fun k:Nat=>(k:Int)) (fun k h'=>k≤L.length∧(L.take k).find? bad=none∧Sp h h' [dC sp f n M,aA f fv cz,aA a bj [.int .i64 p.1,.int .i64 p.2.1,.int .i64 p.2.2],bL bQ r 1 bg (bC 1 aC) L,bL aM ar 1 bg (bC 1 az) A,bL ea rw_ 1 bg qN (W.map (rowsOf p seed))]) (fun k=>L.length-k) 0 rfl ⟨by omega,by simp,H9⟩ ?_
     rintro k h10 ⟨hk10,hno,H10⟩
     refine ah (fun e3=>?_) (fun e3=>?_)
     ·have hk':k<L.length:=by omega
      refine bh.It (H10.Dy 3 rfl (fun _=>rfl)) k rfl hk' fun ad x had hcell hx=>?_
      obtain⟨hdr,hb,hrd⟩:=dC.rd H10 0 rfl
      have hgl:L[k].length≤2^30:=by
       have hLk:L[k]∈oA W.length t.toNat:=by
        have h0:L[k]∈L:=List.getElem_mem hk'
        generalize L[k]=y at h0
        rw[hL]at h0;exact h0
       obtain⟨g,hg,hg2⟩:=List.mem_map.1 hLk
       have:=(sQ hg).1
       rw[←hg2,gi,this]
       have:=hc.2.1
       have:=hc.2.2
       omega
      refine(BD sp f n M A hdr rw_ x (W.map (rowsOf p seed)) L[k] h10 hb hrd (H10.box 1 rfl) (H10.Dy 5 rfl (fun _=>rfl)) hx hn64 okM hRn (by simp;omega) hgl).mono ?_
      rintro v h11 ⟨rfl,R11⟩
      have hrk:(decide (bA (A++fY (W.map (rowsOf p seed)) L[k] (W.map (rowsOf p seed)).length)=n))=!bad L[k]:=by
       rw[xv,List.length_map,hAe,←Em hp]
       show _=!decide ((ve p seed W L[k]:Int)≠cd p)
       rw[hn]
       unfold ve yx
       by_cases hh:bA (iu p seed (rp W L[k] W.length))=n
       ·simp[hh]
       ·rw[decide_eq_false hh,decide_eq_true (by omega)];rfl
      rw[hrk]
      have H11:=H10.up R11.ai
      refine⟨_,rfl,aW (fun e4=>?_) (fun e4=>?_)⟩
      ·have hb4:bad L[k]=true:=by simpa using e4
       have hf:=xw bad L hk' hno
       rw[if_pos hb4]at hf
       have hw2:gj p seed W t=(L[k],true,0):=by rw[wR,wI,En bad L hf]
       refine⟨x,by rw[hw2],?_⟩
       rw[hw2]
       have h12:=H11.B4 3 rfl (fun _=>rfl)
       have hcell':=Ci hcell R11.ai
       have h13:=h12.fl (D:=EA (bC 1 aC) x L[k]) 3 rfl fun q hq=>bh.pick hq k hk' had hcell'
       exact h13.take 3 fun i A' hi=>by cases i with|zero=>exact hi|succ i=>simp at hi
      ·have hb4:bad L[k]=false:=by simpa using e4
       have hf:=xw bad L hk' hno
       rw[hb4]at hf
       exact⟨k+1,by rw[wrap_small _ (by omega) (by omega)];rfl,⟨by omega,hf,H11⟩,by omega⟩
     ·rw[List.take_of_length_le (by omega)]at hno
      have hw2:gj p seed W t=([],false,0):=by rw[wR,wI,hno]
      refine⟨⟨none,0,0⟩,by rw[hw2],?_⟩
      rw[hw2];exact nilE H10.ai
  ·rw[if_neg (fun hh=>hc (erc.1 hh))]at hA
   obtain⟨rfl,rfl⟩:=hA
   refine⟨(⟨none,0,0⟩,1),rfl,cI (fun _=>?_) (fun e=>by cases e)⟩
   refine⟨⟨none,0,0⟩,?_,?_⟩<;>(unfold gj;rw[if_pos hp,if_neg hc])
   exact nilE H2.ai
end Go.Proofs.YtkciobclldnoiaaGreatDoor
namespace Go.Vc
open Go Wl
abbrev Cells:=List (List UInt8)
abbrev powC (w:Pow) (l:Int):List Value:=[.bool w.off,.bool w.fuse.isSome,.int .i64 l,.int .i64 w.offs]
def vg (w:Pow) (l:Int):Prop:=∀k,w.fuse=some k→l=k∧k<2^62
def cQ (t:Nat) (a:Addr) (w:Pow):HP:=HP.ex fun l:Int=>(aA a t (powC w l)).and (vg w l)
section
variable {B:aj} {h0 h h':Heap} {As:List HP} {t:Nat} {a:Addr} {w:Pow}
theorem aa.rq (H:aa B h0 h (cQ t a w::As)):∃l,vg w l∧aa B h0 h (aA a t (powC w l)::As):=by
 obtain⟨l,H⟩:=H.oh
 obtain⟨H,hl⟩:=H.sW
 exact⟨l,hl,H⟩
theorem aa.tu {l:Int} (hl:vg w l) (H:aa B h0 h (aA a t (powC w l)::As)):aa B h0 h (cQ t a w::As):=
 (H.tosW hl).pV (F:=fun l:Int=>(aA a t (powC w l)).and (vg w l)) l
end
end Go.Vc
namespace Go.Proofs.YtkciobclldnoiaaGreatDoor
open Go Go.Vc Go.Proofs Wl
set_option maxRecDepth 100000
section
variable {B:aj} {h0 h h':Heap} {As:List HP} {t:Nat} {a:Addr} {w:Pow}
theorem wL (l:Int) (hb:b9 h a bo (powC w l)):ae Tryz.prog rB #[.pointer (some a)] h fun v h'=>v=.bool (!w.off)∧h'=h:=by
 refine qt (some a) ?_
 unfold lO
 exact bH (fun _=>⟨a,rfl,w.off,hb.cell0 rfl,rfl,rfl⟩) fun e=>by cases e
theorem xx (l:Int) (hb:b9 h a bo (powC w l)):ae Tryz.prog pf #[.pointer (some a)] h fun v h'=>v=.int .i64 w.offs∧h'=h:=by
 refine ou (some a) ?_
 unfold km
 exact bH (fun e=>by cases e) fun _=>⟨a,rfl,w.offs,hb.cell rfl,rfl,rfl⟩
theorem xy (h:Heap):ae Tryz.prog zA #[] h fun v h'=>∃a,v=.pointer (some a)∧Sp h h' [cQ bo a Pow.new]:=by
 refine xL ?_
 unfold rW
 refine(Sp.refl h).boxed fun a h1 H1=>⟨a,rfl,aa.tu (l:=0) (w:=Pow.new) (fun k e=>by cases e) H1⟩
theorem xz (H:aa B h0 h (cQ bo a w::As)):ae Tryz.prog po #[.pointer (some a)] h fun v h'=>v=.bool w.step.1∧aa B h0 h' (cQ bo a w.step.2::As):=by
 obtain⟨l,hl,H1⟩:=H.rq
 refine oy (some a) ?_
 unfold kq
 refine(wL l (H1.box 0 rfl)).mono ?_
 rintro _ h1 ⟨rfl,rfl⟩
 refine⟨_,rfl,aW (fun e=>?_) (fun e=>?_)⟩
 ·have:w.step=(false,w):=by unfold Pow.step;rw[if_pos (by simpa using e)]
  rw[this];exact⟨rfl,H⟩
 have ho:w.off=false:=by simpa using e
 refine⟨a,rfl,_,(H1.box 0 rfl).cell rfl,aW (fun e2=>?_) (fun e2=>?_)⟩
 ·have:w.step=(true,w):=by
   unfold Pow.step;rw[if_neg (by simp[ho])]
   cases hf:w.fuse with
   |none=>rfl
   |some k=>rw[hf]at e2;cases e2
  rw[this];exact⟨rfl,H⟩
 obtain⟨k,hf⟩:∃k,w.fuse=some k:=Option.isSome_iff_exists.1 e2
 obtain⟨rfl,hk⟩:=hl k hf
 have ec:powC w (k:Int)=[.bool false,.bool true,.int .i64 k,.int .i64 w.offs]:=by simp[powC,ho,hf]
 rw[ec]at H1
 refine⟨a,rfl,_,(H1.box 0 rfl).cell rfl,cM (fun e3=>?_) (fun e3=>?_)⟩
 ·have hk0:k=0:=by omega
  subst hk0
  have hs:w.step=(false,⟨true,some 0,IntKind.wrap .i64 (w.offs+1)⟩):=by unfold Pow.step;rw[if_neg (by simp[ho]),hf]
  rw[hs]
  refine⟨a,rfl,H1.yW ag 0 rfl rfl [.bool true] rfl rfl rfl (by simp) fun h2 H2=>?_⟩
  refine⟨a,rfl,w.offs,(H2.box 0 rfl).cell rfl,a,rfl,H2.store ag 0 rfl rfl 3 [.int .i64 (IntKind.wrap .i64 (w.offs+1))] rfl rfl rfl (by simp[powC]) fun h3 H3=>⟨rfl,?_⟩⟩
  refine aa.tu (l:=((0:Nat):Int)) (fun k' hk'=>by cases hk';exact⟨rfl,by decide⟩) ?_
  exact H3
 ·obtain⟨j,rfl⟩:∃j,k=j+1:=⟨k-1,by omega⟩
  have hs:w.step=(true,⟨false,some j,w.offs⟩):=by unfold Pow.step;rw[if_neg (by simp[ho]),hf]
  rw[hs]
  refine⟨a,rfl,_,(H1.box 0 rfl).cell rfl,a,rfl,H1.store ag 0 rfl rfl 2 [.int .i64 (IntKind.wrap .i64 (((j+1:Nat):Int)-1))] rfl rfl rfl (by simp[powC]) fun h3 H3=>⟨rfl,?_⟩⟩
  refine aa.tu (l:=(j:Int)) (fun k' hk'=>by cases hk';exact⟨rfl,by omega⟩) ?_
  rw[Go.Vc.wrap_small _ (by omega) (by omega)]at H3
  have e4:((j+1:Nat):Int)-1=(j:Int):=by omega
  rw[e4]at H3
  exact H3
end
end Go.Proofs.YtkciobclldnoiaaGreatDoor
namespace Wl
structure cY (d:bf):Prop where
 wait:d.wait≤d.l.length
 len:d.l.length≤d.room
 room:d.room≤512
 cell:∀c∈d.l,c.length=64
 laid:d.laid.length≤d.room
 cellL:∀c∈d.laid,c.length=64
section
variable {d:bf} {w:Pow} {b:List UInt8}
theorem cY.new {n:Nat} (h:n≤512):cY (bf.new n):=⟨Nat.le_refl _,Nat.zero_le _,h,by simp[bf.new],Nat.zero_le _,by simp[bf.new]⟩
theorem cY.append (h:cY d):cY (d.append w b).2.2:=by
 obtain⟨h1,h2,h3,h4,h5,h6⟩:=h
 unfold bf.append
 split
 ·exact⟨h1,h2,h3,h4,h5,h6⟩
 ·rename_i hb
  split
  ·exact⟨h1,h2,h3,h4,h5,h6⟩
  ·split
   ·exact⟨h1,h2,h3,h4,h5,h6⟩
   ·rename_i hr
    split
    ·exact⟨h1,h2,h3,h4,h5,h6⟩
    ·have hc:∀c∈d.l++[b],c.length=64:=fun c hc=>by
      rcases List.mem_append.1 hc with hc|hc
      ·exact h4 c hc
      ·rw[List.mem_singleton.1 hc];omega
     split
     ·exact⟨by simp;omega,by simp;omega,h3,hc,Nat.zero_le _,by simp⟩
     ·exact⟨by simp;omega,by simp;omega,h3,hc,h5,h6⟩
theorem cY.sync (h:cY d):cY (d.sync w).2.2:=by
 obtain⟨h1,h2,h3,h4,h5,h6⟩:=h
 unfold bf.sync
 split
 ·exact⟨h1,h2,h3,h4,h5,h6⟩
 ·split
  ·exact⟨Nat.zero_le _,h2,h3,h4,Nat.zero_le _,by simp⟩
  ·exact⟨h1,h2,h3,h4,h5,h6⟩
theorem cY.rewrite {l:List (List UInt8)} (h:cY d):cY (d.rewrite w l).2.2:=by
 obtain⟨h1,h2,h3,h4,h5,h6⟩:=h
 unfold bf.rewrite
 split
 ·exact⟨h1,h2,h3,h4,h5,h6⟩
 ·rename_i hl
  have hl:∀c∈l,c.length=64:=by simpa using hl
  split
  ·exact⟨h1,h2,h3,h4,h5,h6⟩
  ·split
   ·exact⟨h1,h2,h3,h4,h5,h6⟩
   ·split
    ·exact⟨h1,h2,h3,h4,h5,h6⟩
    ·split
     ·exact⟨Nat.zero_le _,by dsimp only;omega,h3,hl,Nat.zero_le _,by simp⟩
     ·exact⟨h1,h2,h3,h4,by dsimp only;omega,hl⟩
end
end Wl
namespace Go.Vc
open Go Wl Go.Proofs.YtkciobclldnoiaaGreatDoor
abbrev cZ (s:Sl) (l:Cells):HP:=dV aM s aB 1 az l
def gl (t:Nat) (f:bf→Sl→Sl→List Value) (a:Addr) (d:bf):HP:=
 (HP.ex fun sb:Sl×Sl=>(aA a t (f d sb.1 sb.2)).sep ((cZ sb.1 d.l).sep (cZ sb.2 d.laid))).and (cY d)
section
variable {B:aj} {h0 h h':Heap} {As:List HP} {t:Nat} {f:bf→Sl→Sl→List Value} {a:Addr} {d:bf}
theorem aa.ru (H:aa B h0 h (gl t f a d::As)):cY d∧∃s b:Sl,aa B h0 h (aA a t (f d s b)::cZ s d.l::cZ b d.laid::As):=by
 obtain⟨H,ok⟩:=H.sW
 obtain⟨sb,H⟩:=H.oh
 exact⟨ok,sb.1,sb.2,H.pW.pW.cg 3 [2,1,0]⟩
theorem aa.qP {s b:Sl} (ok:cY d) (H:aa B h0 h (aA a t (f d s b)::cZ s d.l::cZ b d.laid::As)):aa B h0 h (gl t f a d::As):=
 ((((H.cg 3 [2,1,0]).iL).iL).pV (F:=fun sb:Sl×Sl=>(aA a t (f d sb.1 sb.2)).sep ((cZ sb.1 d.l).sep (cZ sb.2 d.laid))) (s,b)).tosW ok
end
end Go.Vc
namespace Go.Proofs.YtkciobclldnoiaaGreatDoor
open Go Go.Vc Go.Proofs Wl
set_option maxRecDepth 100000
abbrev fH (pw:Addr) (d:bf) (s b:Sl):List Value:=[.pointer (some pw),.int .i64 d.room,.slice s.ptr s.len s.cap,.int .i64 d.wait,.slice b.ptr b.len b.cap,.bool d.has,.bool d.lost]
abbrev jA (pw a:Addr) (d:bf):HP:=gl bN (fH pw) a d
section
variable {B:aj} {h0 h h':Heap} {As:List HP} {a pw:Addr} {d:bf} {w:Pow}
theorem C4 (n:Int) (pw:Addr) (h:Heap):ae Tryz.prog zB #[.int .i64 n,.pointer (some pw)] h fun v h'=>
  (1≤n∧n≤512→∃a,v=.pointer (some a)∧Sp h h' [jA pw a (bf.new n.toNat)])∧(¬(1≤n∧n≤512)→v=.pointer none∧Sp h h' []):=by
 refine xM n (some pw) ?_
 unfold rX
 refine aS (ah (fun e=>⟨fun hh=>absurd hh (by omega),fun _=>⟨rfl,Sp.refl h⟩⟩) fun e1=>ah (fun e=>⟨fun hh=>absurd hh (by omega),fun _=>⟨rfl,Sp.refl h⟩⟩) fun e2=>bH (fun e=>by cases e) fun _=>?_)
 refine(Sp.refl h).boxed fun a h1 H1=>⟨fun _=>⟨a,rfl,?_⟩,fun hh=>absurd (by omega) hh⟩
 refine aa.qP (s:=⟨none,0,0⟩) (b:=⟨none,0,0⟩) (cY.new (by omega)) ?_
 have e:((n.toNat:Nat):Int)=n:=by omega
 have H2:=((H1.vP aM aB 1 az).vP aM aB 1 az).cg 3 [2,1,0]
 have e2:fH pw (bf.new n.toNat) ⟨none,0,0⟩ ⟨none,0,0⟩=[.pointer (some pw),.int .i64 n,.slice none 0 0,.int .i64 0,.slice none 0 0,.bool false,.bool false]:=by
  simp only[fH,bf.new,e];rfl
 rw[e2];exact H2
theorem xA (s b:Sl) (d':bf) (H:aa B h0 h (aA a bN (fH pw d s b)::cZ s d.l::cZ b d.laid::cQ bo pw w::As)) (ok:cY d) (hd:d'={d with laid:=[],has:=false}):
  ae Tryz.prog pq #[.pointer (some a)] h fun v h'=>v=.int .i64 0∧aa B h0 h' (jA pw a d'::cQ bo pw w::As):=by
 refine oz (some a) ?_
 unfold kr
 refine⟨a,rfl,H.store ag 0 rfl rfl 4 [.slice none 0 0] rfl rfl rfl (by simp[fH]) fun h2 H2=>?_⟩
 refine⟨a,rfl,H2.store ag 0 rfl rfl 5 [.bool false] rfl rfl rfl (by simp[fH]) fun h3 H3=>⟨rfl,?_⟩⟩
 subst hd
 refine aa.qP (s:=s) (b:=⟨none,0,0⟩) ⟨ok.wait,ok.len,ok.room,ok.cell,Nat.zero_le _,by simp⟩ ?_
 exact((H3.vP aM aB 1 az).cg 5 [1,2,0,4])
theorem BE (x:Sl) (row:List UInt8) (H:aa B h0 h (jA pw a d::cQ bo pw w::As)) (hx:Rd h x 1 az row) (hr:row.length≤2^20):
  ae Tryz.prog ja #[.pointer (some a),.slice x.ptr x.len x.cap] h fun v h'=>v=.int .i64 (d.append w row).1∧aa B h0 h' (jA pw a (d.append w row).2.2::cQ bo pw (d.append w row).2.1::As):=by
 refine iG (some a) x ?_
 unfold gh
 have hxl:=hx.len
 obtain⟨ok,s,b,H1⟩:=H.ru
 have hb:=H1.box 0 rfl
 obtain⟨hsl,_⟩:=aa.vQ (H1.cg 4 [1])
 have hroom:=ok.room
 have hlen:=ok.len
 have hwait:=ok.wait
 have same:∀(e:Int),d.append w row=(e,w,d)→(Value.int .i64 e=.int .i64 (d.append w row).1∧aa B h0 h (jA pw a (d.append w row).2.2::cQ bo pw (d.append w row).2.1::As)):=fun e he=>by
  rw[he];exact⟨rfl,H⟩
 refine aS (cI (fun e=>same 1 (by unfold bf.append;rw[if_pos (by omega)])) fun e64=>?_)
 have e64':row.length=64:=by omega
 refine aS (bH (fun e=>by cases e) fun _=>⟨a,rfl,d.lost,hb.cell rfl,bH (fun e=>same 5 ?_) fun elost=>?_⟩)
 ·unfold bf.append;rw[if_neg (by omega),if_pos e]
 refine⟨a,rfl,s,hb.cell rfl,a,rfl,(d.room:Int),hb.cell rfl,ah (fun e=>same 7 ?_) fun eroom=>?_⟩
 ·unfold bf.append;rw[if_neg (by omega),if_neg (by simp[elost]),if_pos (by omega)]
 obtain⟨l,hl,H1p⟩:=(H1.cg 4 [3,0,1,2]).rq
 refine⟨a,rfl,some pw,hb.cell0 rfl,(wL l (H1p.box 0 rfl)).mono ?_⟩
 rintro _ h2 ⟨rfl,rfl⟩
 refine⟨_,rfl,aW (fun e=>same 14 ?_) fun eoff=>?_⟩
 ·unfold bf.append;rw[if_neg (by omega),if_neg (by simp[elost]),if_neg (by omega),if_pos (by simpa using e)]
 have eoff':w.off=false:=by simpa using eoff
 refine aS ⟨a,rfl,s,hb.cell rfl,(fG x row h2 hx (by omega)).mono ?_⟩
 rintro _ h4 ⟨r,rfl,R4⟩
 have H4:=(H1.dv R4).cg 5 [2,0,1,3,4]
 have hb4:=H4.box 2 rfl
 refine⟨r,rfl,⟨hb4.cell rfl,trivial⟩,?_⟩
 have H4b:=H4
 refine H4.mZ ag bg iN rfl [r] rfl (show 1*1≤2^20 by decide) rfl ⟨hb4.cell rfl,trivial⟩ ?_
 refine H4.yz ag iN (by omega) fun s' h6 H6=>⟨trivial,?_⟩
 have H6:=H6.cg 4 [1,0,2,3]
 refine⟨a,rfl,H6.store ag 0 rfl rfl 2 [.slice s'.ptr s'.len s'.cap] rfl rfl rfl (by simp[fH]) fun h7 H7=>⟨trivial,?_⟩⟩
 have hb7:=H7.box 0 rfl
 refine⟨a,rfl,(d.wait:Int),hb7.cell rfl,a,rfl,?_⟩
 rw[Go.Vc.wrap_small ((d.wait:Int)+1) (by omega) (by omega)]
 refine H7.store ag 0 rfl rfl 3 [.int .i64 ((d.wait:Int)+1)] rfl rfl rfl (by simp[fH]) fun h8 H8=>?_
 obtain⟨d1,hd1⟩:∃d1:bf,d1={d with l:=d.l++[row],wait:=d.wait+1}:=⟨_,rfl⟩
 have ok1:cY d1:=by
  subst hd1
  refine⟨by simp;omega,by simp;omega,ok.room,fun c hc=>?_,ok.laid,ok.cellL⟩
  rcases List.mem_append.1 hc with hc|hc
  ·exact ok.cell c hc
  ·rw[List.mem_singleton.1 hc];exact e64'
 have H8':aa B h0 h8 (aA a bN (fH pw d1 s' b)::cZ s' d1.l::cZ b d1.laid::cQ bo pw w::As):=by rw[hd1];exact H8
 refine⟨a,rfl,some pw,(H8'.box 0 rfl).cell0 rfl,(xz (H8'.cg 4 [3,0,1,2])).mono ?_⟩
 rintro _ h9 ⟨rfl,H9⟩
 have H9:=H9.cg 4 [1,2,3,0]
 have eres:d.append w row=if w.step.1 then(0,w.step.2,{d1 with laid:=[],has:=false})else(14,w.step.2,d1):=by
  rw[hd1];unfold bf.append;rw[if_neg (by omega),if_neg (by simp[elost]),if_neg (by omega),if_neg (by simp[eoff'])]
 rw[eres]
 refine⟨_,rfl,aW (fun e=>?_) (fun e=>?_)⟩
 ·rw[e];exact⟨rfl,H9.qP ok1⟩
 ·rw[e]
  refine(xA s' b _ H9 ok1 rfl).mono ?_
  rintro _ h10 ⟨rfl,H10⟩
  exact⟨0,rfl,rfl,H10⟩
theorem wM (x:Sl) (row:List UInt8) (h:Heap) (hx:Rd h x 1 az row):ae Tryz.prog ja #[.pointer none,.slice x.ptr x.len x.cap] h fun v h'=>v=.int .i64 (if row.length≠64 then 1 else 5)∧h'=h:=by
 refine iG none x ?_
 unfold gh
 have hxl:=hx.len
 refine aS (cI (fun e=>⟨by rw[if_pos (by omega)],rfl⟩) fun e=>?_)
 exact aS (bH (fun _=>⟨by rw[if_neg (by omega)],rfl⟩) fun e=>by cases e)
theorem Eo (H:aa B h0 h (jA pw a d::cQ bo pw w::As)):
  ae Tryz.prog jL #[.pointer (some a)] h fun v h'=>v=.int .i64 (d.sync w).1∧aa B h0 h' (jA pw a (d.sync w).2.2::cQ bo pw (d.sync w).2.1::As):=by
 refine jw (some a) ?_
 unfold gX
 obtain⟨ok,s,b,H1⟩:=H.ru
 have hb:=H1.box 0 rfl
 refine aS (bH (fun e=>by cases e) fun _=>⟨a,rfl,d.lost,hb.cell rfl,bH (fun e=>?_) fun elost=>?_⟩)
 ·have:d.sync w=(5,w,d):=by unfold bf.sync;rw[if_pos e]
  rw[this];exact⟨rfl,H⟩
 refine⟨a,rfl,some pw,hb.cell0 rfl,(xz (H1.cg 4 [3,0,1,2])).mono ?_⟩
 rintro _ h2 ⟨rfl,H2⟩
 have H2:=H2.cg 4 [1,2,3,0]
 have eres:d.sync w=if w.step.1 then(0,w.step.2,{{d with wait:=0}with laid:=[],has:=false})else(14,w.step.2,d):=by
  unfold bf.sync;rw[if_neg (by simp[elost])]
 rw[eres]
 refine⟨_,rfl,aW (fun e=>?_) (fun e=>?_)⟩
 ·rw[e];exact⟨rfl,H2.qP ok⟩
 ·rw[e]
  refine⟨a,rfl,H2.store ag 0 rfl rfl 3 [.int .i64 0] rfl rfl rfl (by simp[fH]) fun h3 H3=>?_⟩
  refine(xA (d:={d with wait:=0}) s b _ H3 ⟨Nat.zero_le _,ok.len,ok.room,ok.cell,ok.laid,ok.cellL⟩ rfl).mono ?_
  rintro _ h4 ⟨rfl,H4⟩
  exact⟨0,rfl,rfl,H4⟩
theorem Al (h:Heap):ae Tryz.prog jL #[.pointer none] h fun v h'=>v=.int .i64 5∧h'=h:=by
 refine jw none ?_
 unfold gX
 exact aS (bH (fun _=>⟨rfl,rfl⟩) fun e=>by cases e)
theorem jA.box (H:aa B h0 h (jA pw a d::As)):∃s b:Sl,b9 h a bN (fH pw d s b)∧eW h s 1 az d.l∧s.len=d.l.length:=by
 obtain⟨ok,s,b,H1⟩:=H.ru
 exact⟨s,b,H1.box 0 rfl,(H1.cg 3 [1]).DX fun _=>rfl,(aa.vQ (H1.cg 3 [1])).1⟩
theorem Ep (s b:Sl) (hb:b9 h a bN (fH pw d s b)):ae Tryz.prog pk #[.pointer (some a)] h fun v h'=>v=.bool d.lost∧h'=h:=by
 refine ow (some a) ?_
 unfold ko
 exact bH (fun _=>⟨a,rfl,_,hb.cell rfl,rfl,rfl⟩) fun e=>by cases e
theorem FF (l:Sl) (ll:Cells) (h:Heap) (hl:eW h l 1 az ll) (hn:ll.length≤2^20) (hc:∀c∈ll,c.length≤2^20):ae Tryz.prog zG #[.slice l.ptr l.len l.cap] h fun v h'=>∃r:Sl,v=.slice r.ptr r.len r.cap∧Sp h h' [cZ r ll]:=by
 refine xS l ?_
 unfold se
 have hll:=hl.len
 refine au (fun t:Sl×Nat=>(t.1,(t.2:Int))) (fun t h'=>t.2≤ll.length∧Sp h h' [cZ t.1 (ll.take t.2)]) (fun t=>ll.length-t.2) (⟨none,0,0⟩,0) rfl ⟨by simp,by simpa using(Sp.refl h).vP aM aB 1 az⟩ ?_
 rintro⟨s,i⟩ h1 ⟨hi,H1⟩
 dsimp only at*
 refine ah (fun e=>?_) (fun e=>?_)
 ·have hi':i<ll.length:=by omega
  refine(hl.up H1.ai).get i rfl hi' fun r hr=>?_
  have:=hc _ (List.getElem_mem hi')
  refine(fG r _ h1 hr (by omega)).mono ?_
  rintro _ h2 ⟨r2,rfl,R2⟩
  refine⟨r2,rfl,?_⟩
  refine aa.yz ag (H1.comp R2) iN (by simp;omega) fun s' h3 H3=>?_
  refine⟨(s',i+1),by dsimp only;rw[Go.Vc.wrap_small _ (by omega) (by omega)];rfl,⟨by dsimp only;omega,?_⟩,by dsimp only;omega⟩
  dsimp only
  rw[aI _ _ hi'];exact H3
 ·rw[List.take_of_length_le (by omega)]at H1
  exact⟨s,rfl,H1⟩
theorem Am (s b:Sl) (hb:b9 h a bN (fH pw d s b)) (hl:eW h s 1 az d.l) (ok:cY d):ae Tryz.prog qi #[.pointer (some a)] h fun v h'=>∃r:Sl,v=.slice r.ptr r.len r.cap∧Sp h h' [cZ r d.l]:=by
 refine ph (some a) ?_
 unfold kK
 have:=ok.len;have:=ok.room
 refine bH (fun e=>by cases e) fun _=>⟨a,rfl,s,hb.cell rfl,(FF s d.l h hl (by omega) fun c hc=>by rw[ok.cell c hc];decide).mono ?_⟩
 rintro _ h1 ⟨r,rfl,R1⟩
 exact⟨r,rfl,r,rfl,R1⟩
end
end Go.Proofs.YtkciobclldnoiaaGreatDoor
namespace Go.Proofs.YtkciobclldnoiaaGreatDoor
open Go Go.Vc Go.Proofs Wl
set_option maxRecDepth 100000
theorem FG (b:Sl) (l:List UInt8) (h:Heap) (hb:Rd h b 1 az l) (hs:l.length≤2^40):ae Tryz.prog CX #[.slice b.ptr b.len b.cap] h fun v h'=>v=.int .u32 (zm l).toNat∧h'=h:=by
 refine Bi b ?_
 unfold xm
 have hl:=hb.len
 refine au (fun t:Nat=>(((kS (l.take t)).toNat:Int),(t:Int))) (fun t h'=>t≤l.length∧h'=h) (fun t=>l.length-t) 0 rfl ⟨by omega,rfl⟩ ?_
 rintro i h1 ⟨hi,rfl⟩
 refine ah (fun e=>?_) (fun e=>?_)
 ·have hi':i<l.length:=by
   have e':(i:Int)<(b.len:Int):=e
   omega
  refine hb.bT i rfl hi' (l[i].toNat:Int) rfl ?_
  have e1:IntKind.wrap .u32 (l[i].toNat:Int)=((BitVec.ofNat 32 l[i].toNat).toNat:Int):=by rw[DY,BitVec.ofInt_natCast]
  rw[e1,CO]
  refine au (fun k:Nat=>(((nb k (kS (l.take i)^^^BitVec.ofNat 32 l[i].toNat)).toNat:Int),(k:Int))) (fun k h'=>k≤8∧h'=h1) (fun k=>8-k) 0 rfl ⟨by omega,rfl⟩ ?_
  rintro k h2 ⟨hk,rfl⟩
  obtain⟨c,hc⟩:∃c,c=nb k (kS (l.take i)^^^BitVec.ofNat 32 l[i].toNat):=⟨_,rfl⟩
  dsimp only
  rw[←hc]
  refine ah (fun e2=>⟨by decide,?_⟩) (fun e2=>?_)
  ·have hstep:∀n:ki,n=ue c→∃t':Nat,(((n.toNat:Nat):Int),IntKind.wrap .i64 ((k:Int)+1))=(((nb t' (kS (l.take i)^^^BitVec.ofNat 32 l[i].toNat)).toNat:Int),(t':Int))∧(t'≤8∧h2=h2)∧8-t'<8-k:=fun n hn=>
    ⟨k+1,by rw[Go.Vc.wrap_small _ (by omega) (by omega),hn,hc];rfl,⟨by omega,rfl⟩,by omega⟩
   have e3:IntKind.wrap .u32 ((BitVec.ofInt (IntKind.bits .u32) (c.toNat:Int)&&&BitVec.ofInt (IntKind.bits .u32) (1:Int)).toNat:Nat)=((c&&&1#32).toNat:Int):=Ib c 1#32
   have e4:IntKind.wrap .u32 ((BitVec.ofInt (IntKind.bits .u32) ((c>>>1).toNat:Int)^^^BitVec.ofInt (IntKind.bits .u32) (3988292384:Int)).toNat:Nat)=(((c>>>1)^^^3988292384#32).toNat:Int):=CO (c>>>1) 3988292384#32
   rw[e3,GQ,e4]
   refine cM (fun e5=>hstep _ ?_) (fun e5=>hstep _ ?_)
   ·unfold ue;rw[if_pos ((Cc c).1 e5)]
   ·unfold ue;rw[if_neg (fun hh=>e5 ((Cc c).2 hh))]
  ·have hk8:k=8:=by omega
   subst hk8
   refine⟨i+1,?_,⟨by omega,rfl⟩,by omega⟩
   rw[Go.Vc.wrap_small _ (by omega) (by omega),aI _ _ hi',CN,hc];rfl
 ·have hie:i=l.length:=by
   have e':¬(i:Int)<(b.len:Int):=e
   omega
  subst hie
  refine⟨?_,rfl⟩
  rw[List.take_length]
  exact congrArg (Value.int .u32) (CO 4294967295#32 (kS l))
theorem qQ (kind:Int) (body:Sl) (l:List UInt8) (h:Heap) (hb:Rd h body 1 az l) (hs:l.length≤2^40):ae Tryz.prog Bd #[.int .i64 kind,.slice body.ptr body.len body.cap] h fun v h'=>∃r:Sl,v=.slice r.ptr r.len r.cap∧Sp h h' [an aB r 1 az (eP kind l)]:=by
 refine zS kind body ?_
 unfold uK
 have hl:=hb.len
 have bad:¬(1≤kind∧kind≤255∧l.length≤55)→∃r:Sl,Value.slice none 0 0=.slice r.ptr r.len r.cap∧Sp h h [an aB r 1 az (eP kind l)]:=fun e=>by
  unfold eP;rw[if_neg e];exact⟨⟨none,0,0⟩,rfl,(Sp.refl h).nil aB 1 az⟩
 refine aS (ah (fun e=>bad (by omega)) fun e1=>ah (fun e=>bad (by omega)) fun e2=>ah (fun e=>bad (by omega)) fun e3=>?_)
 refine(Sp.refl h).make ag az gZ (by decide) 0 rfl rfl 64 64 rfl rfl (Nat.le_refl _) (by decide) fun o h2 hol hoc H2=>?_
 rw[cm]
 refine H2.lit ag az gZ rfl [87,115,1,b8 kind] rfl (show 4*1≤2^20 by decide) rfl fun v3 h3 H3=>?_
 refine H3.y6 ag 0 rfl gZ (fun _=>rfl) (H3.seq 1 rfl fun _=>rfl) fU fun _ h4 H4=>⟨⟨by decide,by rw[hol];decide⟩,?_⟩
 have H4:Sp h h4 [an aB o 1 az ([87,115,1,b8 kind]++List.replicate 60 0)]:=by
  have:=H4.cL [0]
  simpa using this
 refine H4.zl ag 0 rfl gZ (fun _=>rfl) (Seq.up hb H4.ai) fU 4 (by simp) rfl rfl fun _ h5 H5=>⟨⟨by decide,by rw[hoc];decide⟩,?_⟩
 have eH:([87,115,1,b8 kind]++List.replicate 60 0).take 4++(l.take (([87,115,1,b8 kind]++List.replicate 60 (0:UInt8)).length-4)++([87,115,1,b8 kind]++List.replicate 60 0).drop (4+l.length))=dw kind l++List.replicate 5 0:=by
  have h1:([87,115,1,b8 kind]++List.replicate 60 (0:UInt8)).length=64:=by simp
  rw[h1,List.take_of_length_le (l:=l) (by omega),←List.drop_drop]
  have h2:([87,115,1,b8 kind]++List.replicate 60 (0:UInt8)).drop 4=List.replicate 60 0:=rfl
  have h3:([87,115,1,b8 kind]++List.replicate 60 (0:UInt8)).take 4=[87,115,1,b8 kind]:=rfl
  rw[h2,h3,List.drop_replicate]
  unfold dw
  have h4:List.replicate (60-l.length) (0:UInt8)=List.replicate (55-l.length) 0++List.replicate 5 0:=by rw[List.replicate_append_replicate];congr 1;omega
  rw[h4];simp[List.append_assoc]
 rw[eH]at H5
 have hcl:(dw kind l).length=59:=pZ (by omega)
 have hr:Rd h5 ⟨o.ptr,59,o.cap⟩ 1 az (dw kind l):=by
  have:=(H5.seq 0 rfl fun _=>rfl).take 59 (by simp[hcl])
  rw[List.take_append_of_le_length (by omega),List.take_of_length_le (by omega)]at this
  exact this
 refine(FG ⟨o.ptr,59,o.cap⟩ (dw kind l) h5 hr (by omega)).mono ?_
 rintro _ h6 ⟨rfl,rfl⟩
 obtain⟨c,hc⟩:∃c,c=zm (dw kind l):=⟨_,rfl⟩
 rw[←hc]
 refine⟨_,rfl,?_⟩
 refine au (fun i:Nat=>(i:Int)) (fun i h'=>i≤4∧Sp h h' [an aB o 1 az (dw kind l++((ky c).take i++List.replicate (5-i) 0))]) (fun i=>4-i) 0 rfl ⟨by omega,by simpa using H5⟩ ?_
 rintro i h7 ⟨hi,H7⟩
 have hl4:=zo c
 refine ah (fun e=>?_) (fun e=>?_)
 ·have hi':i<4:=by
   have e':(i:Int)<4:=e
   omega
  rw[Go.Vc.wrap_small ((8:Int)*i) (by omega) (by omega),Go.Vc.wrap_small ((59:Int)+i) (by omega) (by omega)]
  refine⟨by omega,?_⟩
  have e8:((8:Int)*(i:Int)).toNat=8*i:=by omega
  have e9:min (8*i) (IntKind.bits .u32)=8*i:=by
   have:IntKind.bits .u32=32:=rfl
   omega
  rw[e8,e9,cm]
  have hg:b8 (Int.fdiv (c.toNat:Int) (2^(8*i)))=(ky c)[i]'(by omega):=by simp[ky]
  rw[hg]
  refine H7.set ag 0 rfl (fun _=>rfl) rfl (59+i) (by omega) (by simp[hcl];omega) ((ky c)[i]'(by omega)) rfl rfl rfl fun h8 H8=>?_
  refine⟨i+1,by rw[Go.Vc.wrap_small _ (by omega) (by omega)];rfl,⟨by omega,?_⟩,by omega⟩
  have e10:(dw kind l++((ky c).take i++List.replicate (5-i) 0)).set (59+i) ((ky c)[i]'(by omega))=dw kind l++((ky c).take (i+1)++List.replicate (5-(i+1)) 0):=by
   rw[List.set_append_right _ _ (by omega),hcl,Nat.add_sub_cancel_left,List.set_append_right _ _ (by simp;omega),aI _ _ (by omega)]
   have:5-i=(5-(i+1))+1:=by omega
   rw[this,List.replicate_succ]
   simp[hl4,Nat.min_eq_left (show i≤4 by omega)]
   rw[aI _ _ (show i<(ky c).length by omega),List.append_assoc];rfl
  rw[e10]at H8
  exact H8
 ·have hie:i=4:=by
   have e':¬(i:Int)<4:=e
   omega
  subst hie
  refine H7.set ag 0 rfl (fun _=>rfl) rfl 63 rfl (by simp[hcl,hl4]) 165 rfl rfl rfl fun h8 H8=>⟨o,rfl,?_⟩
  have e11:(dw kind l++((ky c).take 4++List.replicate (5-4) 0)).set 63 165=eP kind l:=by
   unfold eP
   rw[if_pos ⟨by omega,by omega,by omega⟩,←hc,List.take_of_length_le (by omega),List.set_append_right _ _ (by omega),hcl,List.set_append_right _ _ (by simp[hl4])]
   simp[hl4]
  rw[e11]at H8
  exact H8
end Go.Proofs.YtkciobclldnoiaaGreatDoor
namespace Go.Vc
open Go Wl
abbrev jX:=ByteArray×Int×Int×Sl
abbrev ct:=Int×Int×Int×Int×Int×Int×Sl×Sl
abbrev dp (x:jX):List Value:=[.string x.1,.int .i64 x.2.1,.int .i64 x.2.2.1,.slice x.2.2.2.ptr x.2.2.2.len x.2.2.2.cap]
abbrev bz (x:ct):List Value:=[.int .i64 x.1,.int .i64 x.2.1,.int .i64 x.2.2.1,.int .i64 x.2.2.2.1,.int .i64 x.2.2.2.2.1,.int .i64 x.2.2.2.2.2.1,.slice x.2.2.2.2.2.2.1.ptr x.2.2.2.2.2.2.1.len x.2.2.2.2.2.2.1.cap,.slice x.2.2.2.2.2.2.2.ptr x.2.2.2.2.2.2.2.len x.2.2.2.2.2.2.2.cap]
abbrev fZ (x:ct):Value:=.agg #[.int .i64 x.1,.int .i64 x.2.1,.int .i64 x.2.2.1,.int .i64 x.2.2.2.1,.int .i64 x.2.2.2.2.1,.int .i64 x.2.2.2.2.2.1,.slice x.2.2.2.2.2.2.1.ptr x.2.2.2.2.2.2.1.len x.2.2.2.2.2.2.1.cap,.slice x.2.2.2.2.2.2.2.ptr x.2.2.2.2.2.2.2.len x.2.2.2.2.2.2.2.cap]
def lZ:ik jX Wl.dc:=⟨fun h q a b=>(a.1=b.name∧a.2.1=b.object∧a.2.2.1=b.length)∧Seq h q a.2.2.2 1 aC b.tries,fun a hp=>⟨a.1,a.2.ai hp⟩,fun a hq=>⟨a.1,a.2.mono hq⟩⟩
abbrev k8:ik Sl (List Wl.dc):=bh lZ 4 dp
structure kZ (h:Heap) (q:aj) (x:ct) (m:aZ):Prop where
 seq:x.1=m.seq
 next:x.2.1=m.next
 p:(x.2.2.1,x.2.2.2.1,x.2.2.2.2.1)=m.p
 extra:x.2.2.2.2.2.1=m.extra
 drives:Seq h q x.2.2.2.2.2.2.1 1 aC m.drives
 aJ:k8.p h q x.2.2.2.2.2.2.2 m.aJ
 dcap:x.2.2.2.2.2.2.1.len≤x.2.2.2.2.2.2.1.cap
 ocap:x.2.2.2.2.2.2.2.len≤x.2.2.2.2.2.2.2.cap
abbrev ga (h:Heap) (x:ct) (m:aZ):Prop:=kZ h (fun b=>b<h.size) x m
theorem kZ.ai {h h':Heap} {q:aj} {x:ct} {m:aZ} (a:kZ h q x m) (hp:aD q h h'):kZ h' q x m:=⟨a.seq,a.next,a.p,a.extra,a.drives.ai hp,k8.loc a.aJ hp,a.dcap,a.ocap⟩
theorem kZ.mono {h:Heap} {q q':aj} {x:ct} {m:aZ} (a:kZ h q x m) (hq:∀b,q b→q' b):kZ h q' x m:=⟨a.seq,a.next,a.p,a.extra,a.drives.mono hq,k8.mono a.aJ hq,a.dcap,a.ocap⟩
theorem ga.up {h h':Heap} {x:ct} {m:aZ} (a:ga h x m) (hp:aD (fun b=>b<h.size) h h'):ga h' x m:=(kZ.ai a hp).mono fun _ hb=>Nat.lt_of_lt_of_le hb hp.1
def gA (x:ct) (m:aZ):HP:=⟨fun h q=>kZ h q x m,fun a hp=>a.ai hp,fun a hq=>a.mono hq⟩
theorem GX:∀x,∀c∈dp x,c.oneCell'=true:=by intro x c hc;simp[dp]at hc;rcases hc with rfl|rfl|rfl|rfl<;>rfl
end Go.Vc
namespace Go.Proofs.YtkciobclldnoiaaGreatDoor
open Go Go.Vc Go.Proofs Wl
set_option maxRecDepth 100000
theorem jY (n a b:Int) (h:Heap):ae Tryz.prog wb #[.int .i64 n,.int .i64 a,.int .i64 b] h fun v h'=>v=.bool (cF n a b)∧h'=h:=by
 refine uA n a b ?_
 unfold oR cF
 refine ah (fun e=>⟨?_,rfl⟩) (fun e=>⟨?_,rfl⟩)
 ·rw[decide_eq_true (show a≤n from e)];rfl
 ·rw[decide_eq_false (show¬a≤n from e)];rfl
theorem Er (s:ByteArray) (h:Heap) (hs:s.size≤2^40):ae Tryz.prog zR #[.string s] h fun v h'=>v=.bool (kT s)∧Sp h h' []:=by
 refine xX s ?_
 unfold sh
 refine GR ag ⟨_,rfl,rfl⟩ ⟨_,rfl,rfl⟩ ⟨_,rfl,rfl⟩ s fun r h1 H1=>?_
 have hr:=H1.rd 0 rfl
 have hrl:=hr.len
 have hsl:=oo s
 refine au (fun i:Nat=>(i:Int)) (fun i h'=>i≤s.size∧h'=h1∧∀c∈(dZ s).take i,gT c=true) (fun i=>s.size-i) 0 rfl ⟨by omega,rfl,by simp⟩ ?_
 rintro i h2 ⟨hi,rfl,hall⟩
 refine ah (fun e=>?_) (fun e=>?_)
 ·have hi':i<(dZ s).length:=by
   have e':(i:Int)<(r.len:Int):=e
   omega
  refine hr.bT i rfl hi' ((dZ s)[i].toNat:Int) rfl ?_
  obtain⟨c,hc⟩:∃c,c=(dZ s)[i]:=⟨_,rfl⟩
  rw[←hc]
  have good:gT c=true→∃t':Nat,IntKind.wrap .i64 ((i:Int)+1)=(t':Int)∧(t'≤s.size∧h2=h2∧∀c∈(dZ s).take t',gT c=true)∧s.size-t'<s.size-i:=fun hg=>
   ⟨i+1,by rw[Go.Vc.wrap_small _ (by omega) (by omega)];rfl,⟨by omega,rfl,fun x hx=>by
    rw[aI _ _ hi']at hx
    rcases List.mem_append.1 hx with hx|hx
    ·exact hall x hx
    ·rw[List.mem_singleton.1 hx,←hc];exact hg⟩,by omega⟩
  have bad:gT c=false→Value.bool false=.bool (kT s)∧Sp h h2 []:=fun hg=>by
   refine⟨?_,H1.cL []⟩
   unfold kT
   have:s.data.toList.all gT=false:=List.all_eq_false.2 ⟨c,by rw[hc];exact List.getElem_mem hi',by rw[hg];simp⟩
   rw[this];rfl
  have hch:gT c=true↔((97≤(c.toNat:Int)∧(c.toNat:Int)≤122)∨(48≤(c.toNat:Int)∧(c.toNat:Int)≤57)∨(c.toNat:Int)=45):=by
   unfold gT;simp[or_assoc];omega
  have hno:gT c=false↔¬((97≤(c.toNat:Int)∧(c.toNat:Int)≤122)∨(48≤(c.toNat:Int)∧(c.toNat:Int)≤57)∨(c.toNat:Int)=45):=by
   rw[←hch];cases gT c<;>simp
  refine ah (fun e1=>ah (fun e2=>cI (fun e3=>bad (hno.2 (by omega))) fun e3=>good (hch.2 (by omega))) fun e2=>ah (fun e3=>cI (fun e4=>bad (hno.2 (by omega))) fun e4=>good (hch.2 (by omega))) fun e3=>good (hch.2 (by omega))) fun e1=>ah (fun e2=>ah (fun e3=>cI (fun e4=>bad (hno.2 (by omega))) fun e4=>good (hch.2 (by omega))) fun e3=>ah (fun e4=>cI (fun e5=>bad (hno.2 (by omega))) fun e5=>good (hch.2 (by omega))) fun e4=>good (hch.2 (by omega))) fun e2=>good (hch.2 (by omega))
 ·have e':¬(i:Int)<(r.len:Int):=e
  rw[List.take_of_length_le (by omega)]at hall
  have hA:s.data.toList.all gT=true:=List.all_eq_true.2 hall
  refine ah (fun e1=>⟨?_,H1.cL []⟩) (fun e1=>⟨?_,H1.cL []⟩)
  ·unfold kT
   rw[hA,decide_eq_true (show 1≤s.size by omega)]
   congr 1;simp;omega
  ·unfold kT
   rw[hA,decide_eq_false (show¬1≤s.size by omega)];rfl
theorem Es (s:Sl) (l:List Int) (most:Int) (h:Heap) (hs:Rd h s 1 aC l) (hl:l.length≤2^40):ae Tryz.prog zL #[.slice s.ptr s.len s.cap,.int .i64 most] h fun v h'=>v=.bool (jk l most)∧h'=h:=by
 refine xU s most ?_
 unfold sg
 have hsl:=hs.len
 refine au (fun i:Nat=>(i:Int)) (fun i h'=>i≤l.length∧h'=h∧∀j,j<i→fb l most j=true) (fun i=>l.length-i) 0 rfl ⟨by omega,rfl,by omega⟩ ?_
 rintro i h1 ⟨hi,rfl,hall⟩
 refine ah (fun e=>?_) (fun e=>?_)
 ·have hi':i<l.length:=by
   have e':(i:Int)<(s.len:Int):=e
   omega
  refine hs.bT i rfl hi' l[i] rfl ?_
  have hg:l.getD i 0=l[i]:=getD_lt hi'
  have bad:fb l most i=false→Value.bool false=.bool (jk l most)∧h1=h1:=fun hb=>⟨by unfold jk;rw[p7 hi' hb],rfl⟩
  have good:fb l most i=true→∃t':Nat,IntKind.wrap .i64 ((i:Int)+1)=(t':Int)∧(t'≤l.length∧h1=h1∧∀j,j<t'→fb l most j=true)∧l.length-t'<l.length-i:=fun hb=>
   ⟨i+1,by rw[Go.Vc.wrap_small _ (by omega) (by omega)];rfl,⟨by omega,rfl,fun j hj=>by
    by_cases hji:j=i
    ·rw[hji];exact hb
    ·exact hall j (by omega)⟩,by omega⟩
  refine(jY l[i] 0 most h1).mono ?_
  rintro _ _ ⟨rfl,rfl⟩
  refine⟨_,rfl,aW (fun e1=>bad (by unfold fb;rw[hg,e1];rfl)) fun e1=>ah (fun e2=>?_) fun e2=>good (by unfold fb;rw[hg,e1,decide_eq_true (show i=0 by omega)];rfl)⟩
  rw[Go.Vc.wrap_small ((i:Int)-1) (by omega) (by omega)]
  refine hs.bT (i-1) (by omega) (by omega) (l[i-1]'(by omega)) rfl ?_
  have hg1:l.getD (i-1) 0=l[i-1]'(by omega):=getD_lt (by omega)
  refine ah (fun e3=>bad ?_) (fun e3=>good ?_)
  ·unfold fb;rw[hg,hg1,e1,decide_eq_false (show¬i=0 by omega),decide_eq_false (by omega)];rfl
  ·unfold fb;rw[hg,hg1,e1,decide_eq_true (show l[i-1]'(by omega)<l[i]by omega)];simp
 ·have e':¬(i:Int)<(s.len:Int):=e
  exact⟨by unfold jk;rw[kz fun j hj=>hall j (by omega)],rfl⟩
theorem C5 (p:Pm) (n:Int) (h:Heap) (hn:n≤2^40):ae Tryz.prog wa #[o7 p,.int .i64 n] h fun v h'=>v=.int .i64 (countP p n)∧Sp h h' []:=by
 refine uw p n ?_
 unfold oQ
 refine(Sp.refl h).boxed fun a1 h1 H1=>?_
 refine aS ⟨p,(H1.box 0 rfl).aY _ rfl,(dd p h1).mono ?_⟩
 rintro _ h2 ⟨rfl,R2⟩
 have H2:=H1.up R2.ai
 refine⟨_,rfl,aW (fun e=>⟨?_,H2.cL []⟩) fun hm=>ah (fun e=>⟨?_,H2.cL []⟩) fun e=>?_⟩
 ·unfold countP;rw[e];rfl
 ·unfold countP;rw[decide_eq_false (show¬0<n by omega),Bool.and_false];rfl
 ·have hmp:=(dJ p).1 hm
  refine⟨p,(H2.box 0 rfl).aY _ rfl,?_⟩
  refine(wm p (R:=fun v h'=>v=.int .i64 (p.1*p.2.2)∧Sp h h' []) ?_).mono ?_
  ·unfold qp
   refine H2.boxed fun a2 h3 H3=>⟨p.1,(H3.box 1 rfl).cell0 rfl,p.2.2,(H3.box 1 rfl).cell rfl,?_,H3.cL []⟩
   have hk:p.1*p.2.2≤16*24:=Int.mul_le_mul (by omega) (by omega) (by omega) (by omega)
   have hk0:0≤p.1*p.2.2:=Int.mul_nonneg (by omega) (by omega)
   rw[Go.Vc.wrap_small _ (by omega) (by omega)]
  ·rintro _ h3 ⟨rfl,R3⟩
   have hk0:0<p.1*p.2.2:=Int.mul_pos (by omega) (by omega)
   refine⟨_,rfl,Int.ne_of_gt hk0,?_,R3⟩
   have h1:(n-1)/(p.1*p.2.2)≤n-1:=Int.ediv_le_self _ (by omega)
   have h2:0≤(n-1)/(p.1*p.2.2):=Int.ediv_nonneg (by omega) (by omega)
   rw[Go.Vc.wrap_small (n-1) (by omega) (by omega),Int.tdiv_eq_ediv_of_nonneg (by omega),Go.Vc.wrap_small ((n-1)/(p.1*p.2.2)) (by omega) (by omega),Go.Vc.wrap_small _ (by omega) (by omega)]
   unfold countP
   rw[hm,decide_eq_true (show 0<n by omega)];rfl
theorem BF (s:Sl) (l:List Int) (h:Heap) (hs:Rd h s 1 aC l) (hl:l.length≤2^40):ae Tryz.prog jv #[.slice s.ptr s.len s.cap,.func (.func jx) #[] #[]] h fun v h'=>v=.bool (!l.all (cF · 0 15))∧h'=h:=by
 refine jd s (jx,#[],#[]) ?_
 unfold fL
 have hsl:=hs.len
 refine(jU s (jx,#[],#[]) (R:=fun v h'=>(∃i:Int,v=.int .i64 i∧(decide (i≥0)=!l.all (cF · 0 15)))∧h'=h) ?_).mono ?_
 ·unfold gu
  refine au (fun i:Nat=>(i:Int)) (fun i h'=>i≤l.length∧(l.take i).all (cF · 0 15)=true∧h'=h) (fun i=>l.length-i) 0 rfl ⟨by omega,by simp,rfl⟩ ?_
  rintro i h1 ⟨hi,hall,rfl⟩
  refine ah (fun e=>?_) (fun e=>?_)
  ·have hi':i<l.length:=by
    have e':(i:Int)<(s.len:Int):=e
    omega
   refine hs.bT i rfl hi' l[i] rfl (eV (by rfl) ?_)
   refine(tc l[i] (R:=fun v h'=>v=.bool (!cF l[i] 0 15)∧h'=h1) ?_).mono ?_
   ·unfold nt
    refine(jY l[i] 0 15 h1).mono ?_
    rintro _ _ ⟨rfl,rfl⟩
    exact⟨_,rfl,rfl,rfl⟩
   ·rintro _ _ ⟨rfl,rfl⟩
    refine⟨_,rfl,aW (fun e2=>?_) (fun e2=>?_)⟩
    ·refine⟨⟨i,rfl,?_⟩,rfl⟩
     rw[decide_eq_true (show(i:Int)≥0 by omega)]
     have:l.all (cF · 0 15)=false:=List.all_eq_false.2 ⟨_,List.getElem_mem hi',by rw[e2];simp⟩
     rw[this];rfl
    ·refine⟨i+1,by rw[Go.Vc.wrap_small _ (by omega) (by omega)];rfl,⟨by omega,?_,rfl⟩,by omega⟩
     rw[aI _ _ hi',List.all_append,hall];simp[e2]
  ·have e':¬(i:Int)<(s.len:Int):=e
   refine⟨⟨-1,rfl,?_⟩,rfl⟩
   rw[List.take_of_length_le (by omega)]at hall
   rw[hall];rfl
 ·rintro _ h1 ⟨⟨i,rfl,hi⟩,rfl⟩
  exact⟨i,rfl,by rw[hi],rfl⟩
end Go.Proofs.YtkciobclldnoiaaGreatDoor
namespace Wl
structure dM (m:aZ):Prop where
 dr:m.drives.length≤2^30
 ob:m.aJ.length≤2^30
 nm:∀e∈m.aJ,e.name.size≤2^30∧e.tries.length≤2^30
end Wl
namespace Go.Vc
open Go
theorem addr_add (a:Addr) (i j:Nat):(a.add i).add j=a.add (i+j):=by
 unfold Addr.add
 by_cases hi:i=0<;>by_cases hj:j=0<;>simp[hi,hj,Nat.add_assoc]
theorem b9.qR {h:Heap} {a:Addr} {e:TypeId} {cs:List Value} {v:Value} (hb:b9 h a e cs) (i j:Nat) (hv:cs[i+j]?=some v):cellOf h ((a.add i).add j)=some v:=by
 rw[addr_add];exact hb.cell hv
theorem b9.rv {h:Heap} {a:Addr} {e:TypeId} {cs:List Value} {u v w:Value} (hb:b9 h a e cs) (i:Nat) (h0:cs[i]?=some u) (h1:cs[i+1]?=some v) (h2:cs[i+2]?=some w):ak h (a.add i) 0 [u,v,w]:=
 ⟨hb.qR i 0 h0,hb.qR i 1 h1,hb.qR i 2 h2,trivial⟩
end Go.Vc
namespace Go.Proofs.YtkciobclldnoiaaGreatDoor
open Go Go.Vc Go.Proofs Wl
set_option maxRecDepth 100000
abbrev HE:bt C.tomV vR cb 4 [.string ⟨#[]⟩,.int .i64 0,.int .i64 0,.slice none 0 0] 56:=⟨_,_,rfl,rfl,rfl,rfl,rfl,rfl⟩
theorem C6 (x:ct) (m:aZ) (e:jX) (E:Wl.dc) (h:Heap) (hx:ga h x m) (he:fJ lZ h e E) (hh:gD m=true) (hn:E.name.size≤2^30) (ht:E.tries.length≤2^30):
  ae Tryz.prog xV #[fZ x,.agg #[.string e.1,.int .i64 e.2.1,.int .i64 e.2.2.1,.slice e.2.2.2.ptr e.2.2.2.len e.2.2.2.cap]] h fun v h'=>v=.bool (dN m E)∧Sp h h' []:=by
 refine wc x e ?_
 unfold ql
 obtain⟨_,hnx,hmay,_⟩:=zp hh
 have hmp:=(dJ m.p).1 hmay
 obtain⟨⟨e1,e2,e3⟩,e4⟩:=he
 have hp1:x.2.2.1=m.p.1:=congrArg (·.1) hx.p
 have hp2:x.2.2.2.1=m.p.2.1:=congrArg (·.2.1) hx.p
 have hp3:x.2.2.2.2.1=m.p.2.2:=congrArg (·.2.2) hx.p
 have hk:m.p.1*m.p.2.2≤16*24:=Int.mul_le_mul (by omega) (by omega) (by omega) (by omega)
 have hk0:0≤m.p.1*m.p.2.2:=Int.mul_nonneg (by omega) (by omega)
 refine(Sp.refl h).boxed fun a1 h1 H1=>?_
 refine H1.boxed fun a2 h2 H2=>?_
 have no:∀{h':Heap} {As:List HP},Sp h h' As→dN m E=false→Value.bool false=.bool (dN m E)∧Sp h h' []:=fun{h' As} H' hb=>⟨by rw[hb],.zip H'.ai⟩
 refine aS ⟨E.name,by rw[←e1];exact(H2.box 1 rfl).cell0 rfl,(Er E.name h2 (by omega)).mono ?_⟩
 rintro _ h3 ⟨rfl,R3⟩
 have H3:=H2.up R3.ai
 refine⟨_,rfl,aW (fun b=>no H3 (by unfold dN;rw[b];rfl)) fun b1=>?_⟩
 refine⟨E.object,by rw[←e2];exact(H3.box 1 rfl).cell rfl,m.next,by rw[←hx.next];exact(H3.box 0 rfl).cell rfl,?_⟩
 rw[Go.Vc.wrap_small (m.next-1) (by omega) (by omega)]
 refine(jY E.object 0 (m.next-1) h3).mono ?_
 rintro _ _ ⟨rfl,rfl⟩
 refine⟨_,rfl,aW (fun b=>no H3 (by unfold dN;rw[b1,b];rfl)) fun b2=>?_⟩
 have hb:=H3.box 0 rfl
 refine⟨E.length,by rw[←e3];exact(H3.box 1 rfl).cell rfl,m.p.1,by rw[←hp1];exact hb.cell rfl,m.p.2.2,by rw[←hp3];exact hb.qR 2 2 rfl,?_⟩
 rw[Go.Vc.wrap_small (m.p.1*m.p.2.2) (by omega) (by omega),Go.Vc.wrap_small (m.p.1*m.p.2.2*8) (by omega) (by omega)]
 refine(jY E.length 0 (m.p.1*m.p.2.2*8) _).mono ?_
 rintro _ _ ⟨rfl,rfl⟩
 refine⟨_,rfl,aW (fun b=>no H3 (by unfold dN;rw[b1,b2,b];rfl)) fun b3=>?_⟩
 have hlen:0≤E.length∧E.length≤m.p.1*m.p.2.2*8:=by unfold cF at b3;simpa using b3
 refine⟨e.2.2.2,(H3.box 1 rfl).cell rfl,?_⟩
 refine(BF e.2.2.2 E.tries _ (Seq.up e4 H3.ai) (by omega)).mono ?_
 rintro _ _ ⟨rfl,rfl⟩
 refine⟨_,rfl,aW (fun b=>?_) (fun b=>⟨trivial,no H3 ?_⟩)⟩
 ·have b4:E.tries.all (cF · 0 15)=true:=by simpa using b
  refine⟨e.2.2.2,(H3.box 1 rfl).cell rfl,m.p,?_,E.length,by rw[←e3];exact(H3.box 1 rfl).cell rfl,?_⟩
  ·rw[←hp1,←hp2,←hp3]
   exact hb.rv 2 rfl rfl rfl
  ·refine(C5 m.p E.length _ (by omega)).mono ?_
   rintro _ h4 ⟨rfl,R4⟩
   have H4:=H3.up R4.ai
   refine⟨_,rfl,⟨(H4.box 1 rfl).cell rfl,trivial⟩,?_,.zip H4.ai⟩
   unfold dN
   have el:=e4.len
   rw[b1,b2,b3,b4,el]
   simp
   rfl
 ·have b4:E.tries.all (cF · 0 15)=false:=by simpa using b
  unfold dN;rw[b1,b2,b3,b4];rfl
theorem BG (a:Addr) (e:jX) (l:Sl) (ents:List Wl.dc) (h:Heap) (hb:b9 h a cb (dp e)) (hl:fJ k8 h l ents) (hs:ents.length≤2^30):
  ae Tryz.prog dm #[.slice l.ptr l.len l.cap,.func (.func kE) #[] #[.pointer (some a)]] h fun v h'=>v=.bool (ents.any fun y=>decide (y.object=e.2.1))∧Sp h h' []:=by
 refine dh l (kE,#[],#[.pointer (some a)]) ?_
 unfold cr
 refine(dz l (kE,#[],#[.pointer (some a)]) (R:=fun v h'=>(∃i:Int,v=.int .i64 i∧(decide (i≥0)=ents.any fun y=>decide (y.object=e.2.1)))∧Sp h h' []) ?_).mono ?_
 ·unfold cH
  obtain⟨ys,q1,q2,q3⟩:=bh.mj hl
  have hll:=bh.len hl
  refine au (fun i:Nat=>(i:Int)) (fun i h'=>i≤ents.length∧(ents.take i).any (fun y=>decide (y.object=e.2.1))=false∧Sp h h' []) (fun i=>ents.length-i) 0 rfl ⟨by omega,by simp,Sp.refl h⟩ ?_
  rintro i h1 ⟨hi,hall,H1⟩
  refine ah (fun e1=>?_) (fun e1=>?_)
  ·have hi':i<ents.length:=by
    have e':(i:Int)<(l.len:Int):=e1
    omega
   obtain⟨⟨_,y2,_⟩,_⟩:=q3 i (by omega) hi'
   refine(Seq.up q1 H1.ai).fT (g:=dp) i rfl (by omega) (ys[i]'(by omega)) rfl (eV (by rfl) ?_)
   refine(we (ys[i]'(by omega)) a (R:=fun v h'=>v=.bool (ents[i].object==e.2.1)∧Sp h1 h' []) ?_).mono ?_
   ·unfold qm
    refine(Sp.refl h1).boxed fun a2 h2 H2=>?_
    have hb2:=hb.ai (up H1.ai H2.ai) hb.lt
    exact⟨ents[i].object,by rw[←y2];exact(H2.box 0 rfl).cell rfl,e.2.1,hb2.cell rfl,rfl,.zip H2.ai⟩
   ·rintro _ h2 ⟨rfl,R2⟩
    have H2:=H1.up R2.ai
    refine⟨_,rfl,cM (fun e2=>?_) (fun e2=>?_)⟩
    ·refine⟨⟨i,rfl,?_⟩,H2⟩
     rw[decide_eq_true (show(i:Int)≥0 by omega)]
     exact(List.any_eq_true.2 ⟨_,List.getElem_mem hi',by simpa using e2⟩).symm
    ·refine⟨i+1,by rw[Go.Vc.wrap_small _ (by omega) (by omega)];rfl,⟨by omega,?_,H2⟩,by omega⟩
     rw[aI _ _ hi',List.any_append,hall];simpa using e2
  ·have e':¬(i:Int)<(l.len:Int):=e1
   refine⟨⟨-1,rfl,?_⟩,H1⟩
   rw[List.take_of_length_le (by omega)]at hall
   rw[hall];rfl
 ·rintro _ h1 ⟨⟨i,rfl,hi⟩,R1⟩
  exact⟨i,rfl,by rw[hi],R1⟩
theorem An (x:ct) (m:aZ) (h:Heap) (hx:ga h x m) (hz:dM m):ae Tryz.prog A5 #[fZ x] h fun v h'=>v=.bool (cx m)∧Sp h h' []:=by
 refine zD x ?_
 unfold uq
 refine(Sp.refl h).boxed fun a1 h1 H1=>?_
 have hb:=H1.box 0 rfl
 have hp1:x.2.2.1=m.p.1:=congrArg (·.1) hx.p
 have hp2:x.2.2.2.1=m.p.2.1:=congrArg (·.2.1) hx.p
 have hp3:x.2.2.2.2.1=m.p.2.2:=congrArg (·.2.2) hx.p
 have no:∀{h':Heap} {As:List HP},Sp h h' As→cx m=false→Value.bool false=.bool (cx m)∧Sp h h' []:=fun{h' As} H' hb=>⟨by rw[hb],.zip H'.ai⟩
 refine aS ⟨m.seq,by rw[←hx.seq];exact hb.cell0 rfl,(jY m.seq 1 2147483647 h1).mono ?_⟩
 rintro _ _ ⟨rfl,rfl⟩
 refine⟨_,rfl,aW (fun b=>no H1 (by unfold cx gD;rw[b];rfl)) fun b1=>?_⟩
 refine⟨m.next,by rw[←hx.next];exact hb.cell rfl,(jY m.next 0 16777216 _).mono ?_⟩
 rintro _ _ ⟨rfl,rfl⟩
 refine⟨_,rfl,aW (fun b=>no H1 (by unfold cx gD;rw[b1,b];rfl)) fun b2=>?_⟩
 refine⟨m.p,by rw[←hp1,←hp2,←hp3];exact hb.rv 2 rfl rfl rfl,(dd m.p _).mono ?_⟩
 rintro _ h2 ⟨rfl,R2⟩
 have H2:=H1.up R2.ai
 refine⟨_,rfl,aW (fun b=>no H2 (by unfold cx gD;rw[b1,b2,b];rfl)) fun b3=>?_⟩
 refine⟨m.extra,by rw[←hx.extra];exact(H2.box 0 rfl).cell rfl,(jY m.extra 0 16 _).mono ?_⟩
 rintro _ _ ⟨rfl,rfl⟩
 refine⟨_,rfl,aW (fun b=>no H2 (by unfold cx gD;rw[b1,b2,b3,b];rfl)) fun b4=>?_⟩
 have hh:gD m=true:=by unfold gD;rw[b1,b2,b3,b4];rfl
 have hx2:=hx.up H2.ai
 have hb2:=H2.box 0 rfl
 have hdl:=hz.dr
 have hol:=hz.ob
 refine aS ⟨_,hb2.cell rfl,(Es _ m.drives 63 _ hx2.drives (by omega)).mono ?_⟩
 rintro _ _ ⟨rfl,rfl⟩
 refine⟨_,rfl,aW (fun b=>no H2 (by unfold cx;rw[hh,b];rfl)) fun b5=>?_⟩
 have hlen:=bh.len hx.aJ
 refine⟨x.2.2.2.2.2.2.2,hb2.cell rfl,ah (fun e=>no H2 ?_) fun e12=>?_⟩
 ·unfold cx;rw[hh,b5,decide_eq_false (by omega)];rfl
 have h12:m.aJ.length≤12:=by omega
 refine⟨x.2.2.2.2.2.2.2,hb2.cell rfl,?_⟩
 obtain⟨ys,F0⟩:=bh.fix hx.aJ
 have hyl:=F0.2.1
 refine au (fun i:Nat=>(i:Int)) (fun i h'=>i≤m.aJ.length∧(∀j,j<i→jl m j=true)∧Sp h h' [aA a1 aG (bz x)]) (fun i=>m.aJ.length-i) 0 rfl ⟨by omega,by omega,H2⟩ ?_
 rintro i h3 ⟨hi,hall,H3⟩
 refine ah (fun e=>?_) (fun e=>?_)
 ·have hi':i<m.aJ.length:=by
   have e':(i:Int)<(x.2.2.2.2.2.2.2.len:Int):=e
   omega
  have hz1:=hz.nm _ (List.getElem_mem hi')
  have hat:ji m.aJ i=m.aJ[i]:=iU hi'
  have bad:∀{h':Heap} {As:List HP},Sp h h' As→jl m i=false→Value.bool false=.bool (cx m)∧Sp h h' []:=fun{h' As} H' hb=>no H' (by unfold cx;rw[p7 hi' hb];simp)
  have F3:=mq.up F0 H3.ai
  refine F3.1.fT (g:=dp) i rfl (by omega) (ys[i]'(by omega)) rfl ?_
  refine H3.alloc ag rfl fun a19 h4 H4=>?_
  refine H4.storeAll ag 1 rfl rfl (dp (ys[i]'(by omega))) rfl rfl rfl rfl fun h5 H5=>?_
  have H5:Sp h h5 [aA a1 aG (bz x),aA a19 cb (dp (ys[i]'(by omega)))]:=H5
  have F5:=mq.up F0 H5.ai
  obtain⟨⟨y1,y2,y3⟩,y4⟩:=Fix.row F5 hi'
  obtain⟨b6,hb6⟩:∃b,b=(decide (i=0)||gU (ji m.aJ (i-1)).name (ji m.aJ i).name):=⟨_,rfl⟩
  refine dt (fun _ h'=>dN m m.aJ[i]=true∧b6=true∧Sp h h' [aA a1 aG (bz x),aA a19 cb (dp (ys[i]'(by omega)))]) ?_ ?_
  ·refine⟨x,(H5.box 0 rfl).aY _ rfl,ys[i]'(by omega),(H5.box 1 rfl).aY _ rfl,?_⟩
   refine(C6 x m (ys[i]'(by omega)) m.aJ[i] h5 (hx.up H5.ai) (Fix.row F5 hi') hh hz1.1 hz1.2).mono ?_
   rintro _ h6 ⟨rfl,R6⟩
   have H6:=H5.up R6.ai
   have F6:=mq.up F0 H6.ai
   refine⟨_,rfl,trivial,aW (fun b=>bad H6 (by unfold jl;rw[hat,b];rfl)) fun b=>ah (fun e2=>?_) fun e2=>⟨b,by rw[hb6,decide_eq_true (show i=0 by omega)];rfl,H6⟩⟩
   rw[Go.Vc.wrap_small ((i:Int)-1) (by omega) (by omega)]
   obtain⟨a24,ha,zz,hc,rfl⟩:=F6.1.fT (g:=dp) (i:=(i:Int)-1) (i-1) (by omega) (by omega) (ys[i-1]'(by omega)) rfl (K:=fun t=>t=ys[i-1]'(by omega)) rfl
   refine⟨x.2.2.2.2.2.2.2,(H6.box 0 rfl).cell rfl,a24,ha,m.aJ[i-1].name,?_,m.aJ[i].name,?_,?_⟩
   ·rw[←(Fix.row F6 (show i-1<m.aJ.length by omega)).1.1];exact hc.1
   ·rw[←y1];exact(H6.box 1 rfl).cell0 rfl
   ·have hat1:ji m.aJ (i-1)=m.aJ[i-1]:=iU (by omega)
    rw[hat,hat1]at hb6
    refine aW (fun e3=>bad H6 ?_) (fun e3=>⟨b,?_,H6⟩)
    ·unfold jl
     rw[hat,hat1,b,decide_eq_false (show¬i=0 by omega)]
     unfold gU;rw[e3];rfl
    ·rw[hb6];unfold gU;rw[e3];simp
  ·rintro _ h6 ⟨b,b6t,H6⟩
   have F6:=mq.up F0 H6.ai
   refine⟨x.2.2.2.2.2.2.2,(H6.box 0 rfl).cell rfl,⟨by omega,by have:=hx.ocap;omega⟩,?_⟩
   rw[Int.toNat_natCast]
   refine(BG a19 (ys[i]'(by omega)) ⟨x.2.2.2.2.2.2.2.ptr,i,x.2.2.2.2.2.2.2.cap⟩ (m.aJ.take i) h6 (H6.box 1 rfl) (bh.take F6.Iz i (by omega)) (by simp;omega)).mono ?_
   rintro _ h7 ⟨rfl,R7⟩
   have H7:=H6.up R7.ai
   rw[y2]
   refine⟨_,rfl,bH (fun e3=>bad H7 ?_) fun e3=>?_⟩
   ·unfold jl;rw[hat,e3];simp
   ·refine⟨i+1,by rw[Go.Vc.wrap_small _ (by omega) (by omega)];rfl,⟨by omega,fun j hj=>?_,H7.cL [0]⟩,by omega⟩
    by_cases hji:j=i
    ·subst hji
     rw[b6t]at hb6
     unfold jl;rw[←hb6,hat,b,e3];rfl
    ·exact hall j (by omega)
 ·have e':¬(i:Int)<(x.2.2.2.2.2.2.2.len:Int):=e
  refine⟨?_,.zip H3.ai⟩
  unfold cx
  rw[hh,b5,decide_eq_true h12,kz fun j hj=>hall j (by omega)];rfl
end Go.Proofs.YtkciobclldnoiaaGreatDoor
namespace Go.Proofs.YtkciobclldnoiaaGreatDoor
open Go Go.Vc Go.Proofs Wl
set_option maxRecDepth 100000
section
variable {B:aj} {h0 h:Heap} {As:List HP}
theorem ka (s:Sl) (l:List UInt8) (n:Int) (k:Nat) (hk:k≤4) (hl:l.length≤2^20) (H:aa B h0 h (an aB s 1 az l::As)):
  ae Tryz.prog wq #[.slice s.ptr s.len s.cap,.int .i64 n,.int .i64 k] h fun v h'=>∃s':Sl,v=.slice s'.ptr s'.len s'.cap∧aa B h0 h' (an aB s' 1 az (l++bS n k)::As):=by
 refine uJ s n k ?_
 unfold oW
 have hbl:=bJ n k
 refine au (fun t:Sl×Nat=>(t.1,(k:Int)-1-t.2)) (fun t h'=>t.2≤k∧aa B h0 h' (an aB t.1 1 az (l++(bS n k).take t.2)::As)) (fun t=>k-t.2) (s,0) (by rw[Go.Vc.wrap_small _ (by omega) (by omega)];simp) ⟨by simp,by simpa using H⟩ ?_
 rintro⟨o,j⟩ h1 ⟨hj,H1⟩
 dsimp only at*
 refine ah (fun e=>?_) (fun e=>?_)
 ·have hj':j<k:=by omega
  rw[Go.Vc.wrap_small ((8:Int)*((k:Int)-1-j)) (by omega) (by omega)]
  refine⟨by omega,?_⟩
  have e8:((8:Int)*((k:Int)-1-j)).toNat=8*(k-1-j):=by omega
  have e9:min (8*(k-1-j)) (IntKind.bits .i64)=8*(k-1-j):=by
   have:IntKind.bits .i64=64:=rfl
   omega
  rw[e8,e9,cm]
  have hg:b8 (Int.fdiv n (2^(8*(k-1-j))))=(bS n k)[j]'(by omega):=by simp[bS]
  rw[hg]
  refine H1.push ag 0 rfl gZ rfl (by decide) (fun _=>rfl) fU ((bS n k)[j]'(by omega)) rfl (by decide) (by simp;omega) fun o' h2 H2=>?_
  refine⟨(o',j+1),by dsimp only;rw[Go.Vc.wrap_small _ (by omega) (by omega)];congr 1;omega,⟨by dsimp only;omega,?_⟩,by dsimp only;omega⟩
  dsimp only
  rw[aI _ _ (show j<(bS n k).length by omega),←List.append_assoc]
  exact H2
 ·rw[List.take_of_length_le (by omega)]at H1
  exact⟨o,rfl,H1⟩
theorem vh (src:Sl) (l:List Int) (o:Sl) (acc:List UInt8) (H:aa B h0 h (an aB o 1 az acc::As)) (hS:St B h0 As fun h=>Rd h src 1 aC l) (ha:acc.length≤2^30) (hl:l.length≤2^30) {K:Sl×Int→Heap→Prop}
  (hk:∀o' h',aa B h0 h' (an aB o' 1 az (acc++l.map b8)::As)→K (o',(l.length:Int)) h'):
  aH (σ:=Sl×Int) (fun s17 K2 h8=>
 Br (decide (s17.2<((src.len:Nat):Int)))
 (∃a18:Addr,(src.ptr=some a18∧0≤s17.2∧s17.2<((src.len:Nat):Int))∧
 ∃x19:Int,cellOf h8 (a18.add (s17.2.toNat*1))=some (.int .i64 x19)∧
 aw Tryz.prog (Instr.buildSlice aM 1 #[(0,(.int .u8 (IntKind.wrap .u8 x19)))]) (.one (.sc .slc)) h8 fun v20 h9=>
 aw Tryz.prog (Builtin.append_ #[aM,aM] aM #[(.slice s17.1.ptr s17.1.len s17.1.cap),(.slice v20.ptr v20.len v20.cap)]) (.one (.sc .slc)) h9 fun v21 h10=>
 K2 ((⟨v21.ptr,v21.len,v21.cap⟩:Sl),IntKind.wrap .i64 (s17.2+(1:Int))) h10)
 (K s17 h8)) (o,(0:Int)) h:=by
 have hsl:src.len=l.length:=(hS.at [_] H).len
 refine au (fun t:Sl×Nat=>(t.1,(t.2:Int))) (fun t h'=>t.2≤l.length∧aa B h0 h' (an aB t.1 1 az (acc++(l.take t.2).map b8)::As)) (fun t=>l.length-t.2) (o,0) rfl ⟨by simp,by simpa using H⟩ ?_
 rintro⟨u,i⟩ h1 ⟨hi,H1⟩
 dsimp only at*
 refine ah (fun e=>?_) (fun e=>?_)
 ·have hi':i<l.length:=by omega
  refine(hS.at [_] H1).bT i rfl hi' l[i] rfl ?_
  rw[cm]
  refine H1.push ag 0 rfl gZ rfl (by decide) (fun _=>rfl) fU (b8 l[i]) rfl (by decide) (by simp;omega) fun u' h2 H2=>?_
  refine⟨(u',i+1),by dsimp only;rw[Go.Vc.wrap_small _ (by omega) (by omega)];rfl,⟨by dsimp only;omega,?_⟩,by dsimp only;omega⟩
  dsimp only
  rw[aI _ _ hi',List.map_append,←List.append_assoc]
  exact H2
 ·have hie:i=l.length:=by omega
  subst hie
  rw[List.take_length]at H1
  exact hk u h1 H1
end
theorem GY {m:aZ} (hm:cx m=true) {i:Nat} (hi:i<m.aJ.length):dN m m.aJ[i]=true:=by
 unfold cx at hm
 simp only[Bool.and_eq_true]at hm
 have:=List.all_eq_true.1 hm.2.2.2 i (List.mem_range.2 hi)
 unfold jl at this
 simp only[Bool.and_eq_true]at this
 have h1:=this.1
 rwa [iU hi]at h1
theorem Et {m:aZ} (hm:cx m=true) {i:Nat} (hi:i<m.aJ.length):m.aJ[i].name.size≤12∧m.aJ[i].tries.length≤3073:=by
 have h1:=GY hm hi
 unfold dN kT at h1
 simp only[Bool.and_eq_true,decide_eq_true_eq]at h1
 obtain⟨⟨_,_,h2⟩,_,h3,_,h4⟩:=h1
 refine⟨h2,?_⟩
 obtain⟨_,_,hmay,_⟩:=zp (D1 hm)
 have hmp:=(dJ m.p).1 hmay
 unfold cF at h3
 simp only[Bool.and_eq_true,decide_eq_true_eq]at h3
 have hk:m.p.1*m.p.2.2≤16*24:=Int.mul_le_mul (by omega) (by omega) (by omega) (by omega)
 unfold countP at h4
 split at h4
 ·have:(m.aJ[i].length-1)/(m.p.1*m.p.2.2)≤m.aJ[i].length-1:=Int.ediv_le_self _ (by rename_i hc;simp at hc;omega)
  omega
 ·omega
theorem Eu {m:aZ} (hm:cx m=true) {i:Nat} (hi:i<m.aJ.length):(gE m.aJ[i]).length≤4000:=by
 have:=Et hm hi
 unfold gE
 simp[bJ]
 have:m.aJ[i].name.data.size=m.aJ[i].name.size:=rfl
 omega
theorem qS {m:aZ} (hm:cx m=true):∀n,n≤m.aJ.length→((m.aJ.take n).flatMap gE).length≤n*4000
 |0,_=>by simp
 |n+1,hn=>by
  rw[aI _ _ (show n<m.aJ.length by omega),List.flatMap_append,List.length_append]
  have h1:=qS hm n (by omega)
  have h2:=Eu hm (show n<m.aJ.length by omega)
  have h3:([m.aJ[n]].flatMap gE).length=(gE m.aJ[n]).length:=by rw[List.flatMap_cons,List.flatMap_nil,List.append_nil]
  omega
theorem tv {m:aZ} (hm:cx m=true):m.aJ.length≤12:=by
 unfold cx at hm
 simp only[Bool.and_eq_true,decide_eq_true_eq]at hm
 exact hm.2.2.1
theorem tw (m:aZ) (hz:dM m):(gF m).length≤100000:=by
 unfold gF
 split
 ·rename_i hm
  have h1:=hm
  unfold cx at h1
  simp only[Bool.and_eq_true,decide_eq_true_eq]at h1
  have hd:m.drives.length≤64:=by
   have h2:=h1.2.1
   unfold jk at h2
   rw[List.all_eq_true]at h2
   by_cases hn:m.drives.length≤64
   ·exact hn
   ·exfalso
    have key:∀i,i<m.drives.length→(i:Int)≤m.drives.getD i 0:=fun i=>by
     induction i with
     |zero=>
      intro hi
      have:=h2 0 (List.mem_range.2 hi)
      unfold fb cF at this
      simp at this;simpa using this.1
     |succ i ih=>
      intro hi
      have:=h2 (i+1) (List.mem_range.2 hi)
      have h3:=ih (by omega)
      unfold fb cF at this
      simp at this
      have h4:=this.2
      simp only[List.getD_eq_getElem?_getD]at h3⊢
      omega
    have h3:=key 64 (by omega)
    have h4:=h2 64 (List.mem_range.2 (by omega))
    unfold fb cF at h4
    simp at h4
    simp only[List.getD_eq_getElem?_getD]at h3
    omega
  have ho:(m.aJ.flatMap gE).length≤12*4000:=by
   have h2:=qS hm m.aJ.length (Nat.le_refl _)
   rw[List.take_length]at h2
   have:=Nat.mul_le_mul_right 4000 (tv hm)
   omega
  simp only[List.length_append,List.length_cons,List.length_nil,List.length_map,bJ]
  omega
 ·simp
theorem Ev (x:ct) (m:aZ) (h:Heap) (hx:ga h x m) (hz:dM m):ae Tryz.prog zI #[fZ x] h fun v h'=>∃r:Sl,v=.slice r.ptr r.len r.cap∧Sp h h' [an aB r 1 az (gF m)]:=by
 refine xT x ?_
 unfold sf
 refine(Sp.refl h).boxed fun a1 h1 H1=>?_
 refine⟨x,(H1.box 0 rfl).aY _ rfl,(An x m h1 (hx.up H1.ai) hz).mono ?_⟩
 rintro _ h2 ⟨rfl,R2⟩
 have H2:=H1.up R2.ai
 refine⟨_,rfl,aW (fun e=>?_) fun hm=>?_⟩
 ·unfold gF;rw[e];exact⟨⟨none,0,0⟩,rfl,((H2.nil aB 1 az).cL [1])⟩
 have hp1:x.2.2.1=m.p.1:=congrArg (·.1) hx.p
 have hp2:x.2.2.2.1=m.p.2.1:=congrArg (·.2.1) hx.p
 have hp3:x.2.2.2.2.1=m.p.2.2:=congrArg (·.2.2) hx.p
 have hb2:=H2.box 0 rfl
 have hplen:=tw m hz
 unfold gF at hplen
 rw[hm,if_pos rfl]at hplen
 have hM:∀{h':Heap} {As:List HP},Sp h h' As→ga h' x m:=fun{h' As} H'=>hx.up H'.ai
 refine aS ⟨m.seq,by rw[←hx.seq];exact hb2.cell0 rfl,m.next,by rw[←hx.next];exact hb2.cell rfl,?_⟩
 have H3:=(H2.nil aB 1 az).ee
 refine(ka ⟨none,0,0⟩ [] m.seq 4 (by decide) (by simp) H3).mono ?_
 rintro _ h4 ⟨s4,rfl,H4⟩
 refine⟨s4,rfl,⟨by rw[←hx.next];exact(H4.box 1 rfl).cell rfl,trivial⟩,?_⟩
 refine(ka s4 _ m.next 4 (by decide) (by simp[bJ]) H4).mono ?_
 rintro _ h5 ⟨s5,rfl,H5⟩
 refine⟨s5,rfl,trivial,?_⟩
 have hb5:=H5.box 1 rfl
 refine⟨m.p.1,by rw[←hp1];exact hb5.cell rfl,m.p.2.1,by rw[←hp2];exact hb5.qR 2 1 rfl,m.p.2.2,by rw[←hp3];exact hb5.qR 2 2 rfl,m.extra,by rw[←hx.extra];exact hb5.cell rfl,x.2.2.2.2.2.2.1,hb5.cell rfl,?_⟩
 have hdl:=hx.drives.len
 have hol:=bh.len hx.aJ
 rw[cm,cm,cm,cm,cm,hdl]
 refine H5.lit ag az gZ rfl [b8 m.p.1,b8 m.p.2.1,b8 m.p.2.2,b8 m.extra,b8 (m.drives.length:Nat)] rfl (show 5*1≤2^20 by decide) rfl fun v14 h6 H6=>?_
 refine H6.append ag 0 rfl gZ ⟨_,_,rfl,rfl⟩ rfl (by decide) (fun _=>rfl) (H6.seq 2 rfl fun _=>rfl) fU (by simp[bJ]) fun s7 h7 H7=>?_
 have H7:=H7.cL [0,1]
 refine⟨x.2.2.2.2.2.2.1,(H7.box 1 rfl).cell rfl,?_⟩
 have hacc:(([]++bS m.seq 4)++bS m.next 4++[b8 m.p.1,b8 m.p.2.1,b8 m.p.2.2,b8 m.extra,b8 (m.drives.length:Nat)]).length=13:=by simp[bJ]
 have hdr:=hz.dr
 refine vh x.2.2.2.2.2.2.1 m.drives s7 _ H7 (St.mk' fun h' H'=>(hM H').drives) (by omega) (by omega) fun s8 h8 H8=>?_
 dsimp only
 refine⟨x.2.2.2.2.2.2.2,(H8.box 1 rfl).cell rfl,?_⟩
 rw[cm,hol]
 obtain⟨acc,hacc2⟩:∃acc,acc=([]++bS m.seq 4)++bS m.next 4++[b8 m.p.1,b8 m.p.2.1,b8 m.p.2.2,b8 m.extra,b8 (m.drives.length:Nat)]++m.drives.map b8:=⟨_,rfl⟩
 rw[←hacc2]at H8
 have hal:acc.length=13+m.drives.length:=by rw[hacc2];simp[bJ];omega
 simp only[List.length_append,List.length_cons,List.length_nil,List.length_map,bJ]at hplen
 refine H8.push ag 0 rfl gZ rfl (by decide) (fun _=>rfl) fU (b8 (m.aJ.length:Nat)) rfl (by decide) (by omega) fun s9 h9 H9=>?_
 have H9:Sp h h9 [an aB s9 1 az (acc++[b8 (m.aJ.length:Nat)]),aA a1 aG (bz x)]:=H9
 refine⟨x.2.2.2.2.2.2.2,(H9.box 1 rfl).cell rfl,?_⟩
 obtain⟨ys,F0⟩:=bh.fix hx.aJ
 have hyl:=F0.2.1
 refine au (fun t:Sl×Nat=>(t.1,(t.2:Int))) (fun t h'=>t.2≤m.aJ.length∧Sp h h' [an aB t.1 1 az (acc++[b8 (m.aJ.length:Nat)]++(m.aJ.take t.2).flatMap gE),aA a1 aG (bz x)]) (fun t=>m.aJ.length-t.2) (s9,0) rfl ⟨by simp,by simpa using H9⟩ ?_
 rintro⟨o,i⟩ h10 ⟨hi,H10⟩
 dsimp only at*
 refine ah (fun e=>?_) (fun e=>?_)
 ·have hi':i<m.aJ.length:=by omega
  have F10:=mq.up F0 H10.ai
  have hes:=Et hm hi'
  have hsofar:((m.aJ.take i).flatMap gE).length≤50000:=by
   have h1:=qS hm i hi
   have:=tv hm
   have:i*4000≤12*4000:=Nat.mul_le_mul_right _ (by omega)
   omega
  refine F10.1.fT (g:=dp) i rfl (by omega) (ys[i]'(by omega)) rfl ?_
  refine H10.alloc ag rfl fun a29 h11 H11=>?_
  refine H11.storeAll ag 2 rfl rfl (dp (ys[i]'(by omega))) rfl rfl rfl rfl fun h12 H12=>?_
  have F12:=mq.up F0 H12.ai
  obtain⟨⟨y1,y2,y3⟩,y4⟩:=Fix.row F12 hi'
  obtain⟨E,hE⟩:∃E,E=m.aJ[i]:=⟨_,rfl⟩
  rw[←hE]at y1 y2 y3 y4 hes
  have b12:=H12.box 2 rfl
  refine aS ⟨E.name,by rw[←y1];exact b12.cell0 rfl,E.name,by rw[←y1];exact b12.cell0 rfl,?_⟩
  rw[cm]
  refine H12.mZ ag az gZ rfl [b8 (E.name.size:Nat)] rfl (show 1*1≤2^20 by decide) rfl ⟨by rw[←y1];exact b12.cell0 rfl,by rw[←y1];exact b12.cell0 rfl,trivial⟩ ?_
  have hcur:(acc++[b8 (m.aJ.length:Nat)]++(m.aJ.take i).flatMap gE).length≤160000:=by rw[List.length_append,List.length_append,hal];simp;simp at hsofar;omega
  obtain⟨cur,hcr⟩:∃cur,cur=acc++[b8 (m.aJ.length:Nat)]++(m.aJ.take i).flatMap gE:=⟨_,rfl⟩
  rw[←hcr]at H12 hcur
  refine H12.push ag 0 rfl gZ rfl (by decide) (fun _=>rfl) fU (b8 (E.name.size:Nat)) rfl (by decide) (by omega) fun s13 h13 H13=>?_
  have b13:=H13.box 2 rfl
  refine⟨⟨by rw[←y1];exact b13.cell0 rfl,by rw[←y1];exact b13.cell0 rfl,trivial⟩,?_⟩
  refine H13.D0 ag 0 rfl gZ ⟨_,rfl,rfl⟩ rfl (by decide) E.name (by simp;omega) fun s14 h14 H14=>?_
  have b14:=H14.box 2 rfl
  refine⟨⟨by rw[←y1];exact b14.cell0 rfl,trivial⟩,?_⟩
  have H14:Sp h h14 [an aB s14 1 az (cur++[b8 (E.name.size:Nat)]++dZ E.name),aA a1 aG (bz x),aA a29 cb (dp (ys[i]'(by omega)))]:=H14
  refine aS ⟨E.object,by rw[←y2];exact b14.cell rfl,E.length,by rw[←y3];exact b14.cell rfl,?_⟩
  have hsb:=oo E.name
  refine(ka s14 _ E.object 3 (by decide) (by simp;omega) H14).mono ?_
  rintro _ h15 ⟨s15,rfl,H15⟩
  have b15:=H15.box 2 rfl
  refine⟨s15,rfl,⟨by rw[←y3];exact b15.cell rfl,trivial⟩,?_⟩
  refine(ka s15 _ E.length 2 (by decide) (by simp[bJ];omega) H15).mono ?_
  rintro _ h16 ⟨s16,rfl,H16⟩
  have b16:=H16.box 2 rfl
  refine⟨s16,rfl,trivial,(ys[i]'(by omega)).2.2.2,b16.cell rfl,?_⟩
  refine vh (ys[i]'(by omega)).2.2.2 E.tries s16 _ H16 (St.mk' fun h' H'=>by rw[hE];exact(Fix.row (mq.up F0 H'.ai) hi').2) (by simp[bJ];omega) (by omega) fun s17 h17 H17=>?_
  dsimp only
  have h12:=tv hm
  refine⟨(s17,i+1),by dsimp only;rw[Go.Vc.wrap_small _ (by omega) (by omega)];rfl,⟨by dsimp only;omega,?_⟩,by dsimp only;omega⟩
  dsimp only
  rw[aI _ _ hi',List.flatMap_append,←List.append_assoc,←hcr,List.flatMap_cons,List.flatMap_nil,List.append_nil,←hE]
  have e3:cur++[b8 (E.name.size:Nat)]++dZ E.name++bS E.object 3++bS E.length 2++E.tries.map b8=cur++gE E:=by
   unfold gE dZ;simp[List.append_assoc]
  rw[e3]at H17
  exact H17.cL [0,1]
 ·rw[List.take_of_length_le (by omega)]at H10
  refine⟨o,rfl,?_⟩
  have e2:acc++[b8 (m.aJ.length:Nat)]++m.aJ.flatMap gE=gF m:=by
   rw[hacc2];unfold gF;rw[hm,if_pos rfl];simp[List.append_assoc]
  rw[e2]at H10
  exact H10.cL [0]
end Go.Proofs.YtkciobclldnoiaaGreatDoor
namespace Go.Vc
open Go Wl
def eF {α:Type} (k:Nat) (f:α→List Value) (L:List (Sl×List α)):HP:=⟨fun h q=>∀y∈L,Seq h q y.1 k f y.2,fun a hp y hy=>(a y hy).ai hp,fun a hq y hy=>(a y hy).mono hq⟩
section
variable {α:Type} {B:aj} {h0 h:Heap} {As:List HP} {k:Nat} {f:α→List Value} {L:List (Sl×List α)} {s:Sl} {l:List α}
theorem aa.Cj (H:aa B h0 h As) (k:Nat) (f:α→List Value):aa B h0 h (eF k f []::As):=
 (H.comp (.one (A:=eF k f []) (aD.refl _ _) (fun y hy=>by cases hy))).ee
theorem aa.GZ (H:aa B h0 h (eF k f L::sE s k f l::As)):aa B h0 h (eF k f ((s,l)::L)::As):=by
 have H1:aa B h0 h ((sE s k f l).sep (eF k f L)::As):=H.iL
 refine H1.fl 0 rfl fun q ⟨q1,q2,_,b,c,d,e⟩ y hy=>?_
 rcases List.mem_cons.1 hy with rfl|hy
 ·exact d.mono b
 ·exact(e y hy).mono c
end
end Go.Vc
namespace Go.Proofs.YtkciobclldnoiaaGreatDoor
open Go Go.Vc Go.Proofs Wl
set_option maxRecDepth 100000
theorem HF (n:Int):bS n 4=[b8 (Int.fdiv n (2^24)),b8 (Int.fdiv n (2^16)),b8 (Int.fdiv n (2^8)),b8 n]:=by
 have e:Int.fdiv n (2^0)=n:=by simp
 show[b8 (Int.fdiv n (2^24)),b8 (Int.fdiv n (2^16)),b8 (Int.fdiv n (2^8)),b8 (Int.fdiv n (2^0))]=_
 rw[e]
theorem Ew (seq number many:Int) (b:Sl) (l:List UInt8) (h:Heap) (hb:Rd h b 1 az l) (hl:l.length≤2^20):ae Tryz.prog A7 #[.int .i64 seq,.int .i64 number,.int .i64 many,.slice b.ptr b.len b.cap] h fun v h'=>∃r:Sl,v=.slice r.ptr r.len r.cap∧Sp h h' [an aB r 1 az (nc seq number many l)]:=by
 refine zJ seq number many b ?_
 unfold uy
 refine⟨by decide,by decide,by decide,?_⟩
 have e24:min (24:Int).toNat (IntKind.bits .i64)=24:=rfl
 have e16:min (16:Int).toNat (IntKind.bits .i64)=16:=rfl
 have e8:min (8:Int).toNat (IntKind.bits .i64)=8:=rfl
 rw[e24,e16,e8,cm,cm,cm,cm,cm,cm,cm]
 have hh4:=HF seq
 generalize b8 (Int.fdiv seq (2^24))=c1 at hh4⊢
 generalize b8 (Int.fdiv seq (2^16))=c2 at hh4⊢
 generalize b8 (Int.fdiv seq (2^8))=c3 at hh4⊢
 generalize b8 seq=c4 at hh4⊢
 have hpp:nc seq number many l=eP 2 ([c1,c2,c3,c4]++([b8 number,b8 many,b8 (b.len:Nat)]++l)):=by unfold nc;rw[hh4,hb.len]
 generalize b8 number=c5 at hpp⊢
 generalize b8 many=c6 at hpp⊢
 generalize b8 (b.len:Nat)=c7 at hpp⊢
 refine(Sp.refl h).lit ag az gZ rfl [c1,c2,c3,c4,c5,c6,c7] rfl (show 7*1≤2^20 by decide) (by kernel_rfl) fun v1 h1 H1=>?_
 refine H1.append ag 0 rfl gZ ⟨_,_,rfl,rfl⟩ rfl (by decide) (fun _=>rfl) (Seq.up hb H1.ai) fU (by simp;omega) fun v2 h2 H2=>?_
 have hq:Rd h2 v2 1 az ([c1,c2,c3,c4,c5,c6,c7]++l):=H2.seq 0 rfl fun _=>rfl
 have hql:([c1,c2,c3,c4,c5,c6,c7]++l).length≤2^40:=by simp;omega
 rw[hpp]
 have hee:[c1,c2,c3,c4,c5,c6,c7]++l=[c1,c2,c3,c4]++([c5,c6,c7]++l):=rfl
 rw[←hee]
 generalize [c1,c2,c3,c4,c5,c6,c7]++l=ll at hq hql⊢
 refine(qQ 2 v2 ll h2 hq hql).mono ?_
 rintro _ h3 ⟨r,rfl,R3⟩
 exact⟨r,rfl,r,rfl,(aa.comp (Sp.zip H2.ai) R3)⟩
theorem oB (x:ct) (m:aZ) (h:Heap) (hx:ga h x m) (hz:dM m):ae Tryz.prog xN #[fZ x] h fun v h'=>∃r:Sl,v=.slice r.ptr r.len r.cap∧Sp h h' [cZ r (bs m)]:=by
 refine vV x ?_
 unfold qg
 refine(Sp.refl h).boxed fun a1 h1 H1=>?_
 refine⟨x,(H1.box 0 rfl).aY _ rfl,(Ev x m h1 (hx.up H1.ai) hz).mono ?_⟩
 rintro _ h2 ⟨b,rfl,R2⟩
 have H2:=H1.comp R2
 have hpl:=tw m hz
 obtain⟨l,hl⟩:∃l,l=gF m:=⟨_,rfl⟩
 rw[←hl]at H2 hpl
 have hbl:=(H2.own 1 rfl).len
 have hbc:=(H2.own 1 rfl).cap
 refine⟨b,rfl,by decide,?_⟩
 have hmany:IntKind.wrap .i64 (Int.tdiv (IntKind.wrap .i64 ((IntKind.wrap .i64 (((b.len:Nat):Int)+(48:Int)))-(1:Int))) (48:Int))=(fP l:Int):=by
  rw[Go.Vc.wrap_small ((b.len:Int)+48) (by omega) (by omega),Go.Vc.wrap_small ((b.len:Int)+48-1) (by omega) (by omega),Int.tdiv_eq_ediv_of_nonneg (by omega)]
  unfold fP
  rw[Go.Vc.wrap_small (((b.len:Int)+48-1)/48) (by omega) (by omega)]
  omega
 have hmn:fP l≤3000:=by unfold fP;omega
 rw[hmany]
 obtain⟨pg,hpg⟩:∃pg:List (List UInt8),pg=bs m:=⟨_,rfl⟩
 have hpgl:pg.length=fP l:=by rw[hpg,hl];simp[bs]
 have H3:Sp h h2 [cZ ⟨none,0,0⟩ (pg.take 0),aA a1 aG (bz x),an aB b 1 az l]:=H2.vP aM aB 1 az
 refine au (fun t:Sl×Nat=>(t.1,(t.2:Int))) (fun t h'=>t.2≤fP l∧Sp h h' [cZ t.1 (pg.take t.2),aA a1 aG (bz x),an aB b 1 az l]) (fun t=>fP l-t.2) (⟨none,0,0⟩,0) rfl ⟨by simp,H3⟩ ?_
 rintro⟨o,i⟩ h3 ⟨hi,H3⟩
 dsimp only at*
 refine ah (fun e=>?_) (fun e=>?_)
 ·have hi':i<fP l:=by omega
  have hi48:48*i<l.length:=by unfold fP at hi';omega
  rw[Go.Vc.wrap_small ((i:Int)*48) (by omega) (by omega),Go.Vc.wrap_small ((i:Int)+1) (by omega) (by omega),Go.Vc.wrap_small (((i:Int)+1)*48) (by omega) (by omega)]
  obtain⟨en,hen⟩:∃en:Nat,en=min (48*i+48) l.length:=⟨_,rfl⟩
  have hif:(if((i:Int)+1)*48<((b.len:Nat):Int)then((i:Int)+1)*48 else((b.len:Nat):Int))=(en:Int):=by
   split<;>omega
  rw[hif]
  refine⟨m.seq,by rw[←hx.seq];exact(H3.box 1 rfl).cell0 rfl,⟨by omega,by omega,by omega⟩,?_⟩
  have e1:((i:Int)*48).toNat=48*i:=by omega
  rw[e1,Int.toNat_natCast]
  have hd:=((H3.seq 2 rfl fun _=>rfl).drop (48*i) hbc).take (en-48*i) (by rw[List.length_drop];omega)
  have e2:(l.drop (48*i)).take (en-48*i)=(l.drop (48*i)).take 48:=by
   by_cases hh:48*i+48≤l.length
   ·rw[show en-48*i=48 by omega]
   ·rw[List.take_of_length_le (by rw[List.length_drop];omega),List.take_of_length_le (by rw[List.length_drop];omega)]
  rw[e2,Nat.mul_one]at hd
  refine(Ew m.seq i (fP l) ⟨_,en-48*i,b.cap-48*i⟩ _ h3 (by rw[Nat.mul_one];exact hd) (by simp;omega)).mono ?_
  rintro _ h4 ⟨r,rfl,R4⟩
  have H4:=(H3.dv R4).cg 4 [1,0,2,3]
  refine⟨r,rfl,trivial,?_⟩
  refine H4.mZ ag bg iN rfl [r] rfl (show 1*1≤2^20 by decide) rfl trivial ?_
  refine H4.yz ag iN (by simp;omega) fun o' h5 H5=>⟨trivial,?_⟩
  refine⟨(o',i+1),rfl,⟨by dsimp only;omega,?_⟩,by dsimp only;omega⟩
  dsimp only
  rw[aI _ _ (show i<pg.length by omega)]
  have e3:pg[i]'(by omega)=nc m.seq i (fP l) ((l.drop (48*i)).take 48):=by
   subst hpg;subst hl;simp[bs]
  rw[e3]
  exact H5
 ·rw[List.take_of_length_le (by omega),hpg]at H3
  exact⟨o,rfl,H3.cL [0]⟩
theorem BH (s:Sl) (ys:List jX) (h:Heap) (hs:Rd h s 4 dp ys) (hsz:ys.length≤2^30):ae Tryz.prog ib #[.slice s.ptr s.len s.cap] h fun v h'=>∃r:Sl,v=.slice r.ptr r.len r.cap∧Sp h h' [an cb r 4 dp ys]:=by
 refine gW s ?_
 unfold eg
 refine bH (fun e=>?_) (fun e=>?_)
 ·have:=hs.isNil e
  subst this
  exact⟨⟨none,0,0⟩,rfl,(Sp.refl h).nil cb 4 dp⟩
 ·refine(Sp.refl h).lit ag dp HE rfl ([]:List jX) rfl (by decide) rfl fun v1 h1 H1=>?_
  refine H1.append ag 0 rfl HE ⟨_,_,rfl,rfl⟩ rfl (by decide) (fun _=>rfl) (Seq.up hs H1.ai) GX (by simp;omega) fun v2 h2 H2=>?_
  exact⟨v2,rfl,H2⟩
def Gu (pool:List (Sl×List Int)) (p:jX×Wl.dc):Prop:=(p.1.1=p.2.name∧p.1.2.1=p.2.object∧p.1.2.2.1=p.2.length)∧(p.1.2.2.2,p.2.tries)∈pool
theorem aa.FH {B:aj} {h0 h:Heap} {As:List HP} {y:ct} {m:aZ} {L:List (jX×Wl.dc)} {pool:List (Sl×List Int)} (hf:y.1=m.seq∧y.2.1=m.next∧(y.2.2.1,y.2.2.2.1,y.2.2.2.2.1)=m.p∧y.2.2.2.2.2.1=m.extra) (hm:L.map Prod.snd=m.aJ) (hL:∀p∈L,Gu pool p)
  (H:aa B h0 h (eF 1 aC pool::an aO y.2.2.2.2.2.2.1 1 aC m.drives::an cb y.2.2.2.2.2.2.2 4 dp (L.map Prod.fst)::As)):aa B h0 h (gA y m::As):=by
 have hoc:=(H.own 2 rfl)
 have hdc:=(H.own 1 rfl)
 have H9:=((H.freeze 1 rfl fun _=>rfl).freeze 2 rfl fun _=>rfl).iL.iL
 refine H9.fl 0 rfl fun q ⟨q1,q2,_,b,c,z1,z2⟩=>?_
 obtain⟨q3,q4,_,b',c',z3,z4⟩:=z2
 refine⟨hf.1,hf.2.1,hf.2.2.1,hf.2.2.2,z3.mono fun x hx=>c x (b' x hx),⟨L.map Prod.fst,z1.mono b,by rw[←hm];simp,fun j r e h1 h2=>?_⟩,hdc.cap,hoc.cap⟩
 rw[←hm]at h2
 rw[List.getElem?_map]at h1 h2
 cases hj:L[j]? with
 |none=>rw[hj]at h1;cases h1
 |some p=>
  rw[hj]at h1 h2
  have e1:=Option.some.inj (show some p.1=some r from h1)
  have e2:=Option.some.inj (show some p.2=some e from h2)
  subst e1;subst e2
  obtain⟨g1,g2⟩:=hL p (List.mem_of_getElem? hj)
  exact⟨g1,(z4 _ g2).mono fun x hx=>c x (c' x hx)⟩
theorem wN (x:ct) (m:aZ) (h:Heap) (hx:ga h x m) (hz:dM m):ae Tryz.prog rZ #[fZ x] h fun v h'=>∃(y:ct) (L:List (jX×Wl.dc)) (pool:List (Sl×List Int)),v=fZ y∧(y.1=m.seq∧y.2.1=m.next∧(y.2.2.1,y.2.2.2.1,y.2.2.2.2.1)=m.p∧y.2.2.2.2.2.1=m.extra)∧L.map Prod.snd=m.aJ∧(∀p∈L,Gu pool p)∧
  Sp h h' [eF 1 aC pool,an aO y.2.2.2.2.2.2.1 1 aC m.drives,an cb y.2.2.2.2.2.2.2 4 dp (L.map Prod.fst)]:=by
 refine zE x ?_
 unfold uu
 refine(Sp.refl h).boxed fun a1 h1 H1=>?_
 refine H1.alloc ag rfl fun a2 h2 H2=>?_
 have hb2:=H2.box 0 rfl
 have hM:∀{h':Heap} {As:List HP},Sp h h' As→ga h' x m:=fun{h' As} H'=>hx.up H'.ai
 obtain⟨ys,F0⟩:=bh.fix hx.aJ
 have hyl:=F0.2.1
 have hdr:=hz.dr
 have hob:=hz.ob
 refine aS ⟨x.2.2.2.2.2.2.1,hb2.cell rfl,x.2.2.2.2.2.2.2,hb2.cell rfl,?_⟩
 refine(eT _ m.drives h2 (hM H2).drives (by omega)).mono ?_
 rintro _ h3 ⟨d,rfl,R3⟩
 have H3:=H2.comp R3
 refine⟨d,rfl,⟨(H3.box 0 rfl).cell rfl,trivial⟩,?_⟩
 refine(BH _ ys h3 (mq.up F0 H3.ai).1 (by omega)).mono ?_
 rintro _ h4 ⟨o,rfl,R4⟩
 have H4:=H3.comp R4
 refine⟨o,rfl,trivial,?_⟩
 refine H4.store ag 0 rfl rfl 6 [.slice d.ptr d.len d.cap] rfl rfl rfl (by simp[Value.cells]) fun h5 H5=>⟨trivial,?_⟩
 refine H5.store ag 0 rfl rfl 7 [.slice o.ptr o.len o.cap] rfl rfl rfl (by simp[Value.cells]) fun h6 H6=>⟨trivial,?_⟩
 obtain⟨y,hy⟩:∃y:ct,y=(x.1,x.2.1,x.2.2.1,x.2.2.2.1,x.2.2.2.2.1,x.2.2.2.2.2.1,d,o):=⟨_,rfl⟩
 have H6:Sp h h6 [aA a1 aG (bz y),aA a2 aG [.int .i64 0,.int .i64 0,.int .i64 0,.int .i64 0,.int .i64 0,.int .i64 0,.slice none 0 0,.slice none 0 0],an aO d 1 aC m.drives,an cb o 4 dp ys]:=by rw[hy];exact H6
 have hyo:y.2.2.2.2.2.2.2=o:=by rw[hy]
 have hyd:y.2.2.2.2.2.2.1=d:=by rw[hy]
 refine⟨o,by rw[←hyo];exact(H6.box 0 rfl).cell rfl,?_⟩
 have hol:=(H6.own 3 rfl).len
 have H6:=H6.Cj 1 aC
 refine au (fun t:List jX×List (Sl×List Int)=>(t.1.length:Int)) (fun t h'=>t.1.length≤m.aJ.length∧(∀(j:Nat) r e,t.1[j]?=some r→m.aJ[j]?=some e→(r.1=e.name∧r.2.1=e.object∧r.2.2.1=e.length)∧(r.2.2.2,e.tries)∈t.2)∧Sp h h' [eF 1 aC t.2,aA a1 aG (bz y),aA a2 aG [.int .i64 0,.int .i64 0,.int .i64 0,.int .i64 0,.int .i64 0,.int .i64 0,.slice none 0 0,.slice none 0 0],an aO d 1 aC m.drives,an cb o 4 dp (t.1++ys.drop t.1.length)]) (fun t=>m.aJ.length-t.1.length) ([],[]) rfl ⟨by simp,fun j r e h1=>by simp at h1,H6⟩ ?_
 rintro⟨ns,pool⟩ h7 ⟨hi,hns,H7⟩
 dsimp only at*
 refine ah (fun e=>?_) (fun e=>?_)
 ·have hi':ns.length<m.aJ.length:=by omega
  have F7:=mq.up F0 H7.ai
  obtain⟨⟨y1,y2,y3⟩,y4⟩:=Fix.row F7 hi'
  have hhead:(ns++ys.drop ns.length)[ns.length]'(by simp;omega)=ys[ns.length]'(by omega):=by simp
  obtain⟨a12,ha,zz,hc,rfl⟩:=(H7.seq 4 rfl fun _=>rfl).fT (g:=dp) (i:=(ns.length:Int)) ns.length rfl (by simp;omega) (ys[ns.length]'(by omega)) (by rw[hhead]) (K:=fun t=>t=ys[ns.length]'(by omega)) rfl
  refine⟨o,by rw[←hyo];exact(H7.box 1 rfl).cell rfl,o,by rw[←hyo];exact(H7.box 1 rfl).cell rfl,a12,ha,_,hc.2.2.2.1,?_⟩
  have htr:=(hz.nm _ (List.getElem_mem hi')).2
  refine(eT _ m.aJ[ns.length].tries h7 y4 (by omega)).mono ?_
  rintro _ h8 ⟨t,rfl,R8⟩
  have H8:=H7.dv R8
  refine⟨t,rfl,⟨by rw[←hyo];exact(H8.box 2 rfl).cell rfl,by rw[←hyo];exact(H8.box 2 rfl).cell rfl,trivial⟩,?_⟩
  refine H8.Ft ag 5 rfl (fun _=>rfl) rfl ns.length rfl (by simp;omega) 3 [.slice t.ptr t.len t.cap] (by simp) ((ys[ns.length]'(by omega)).1,(ys[ns.length]'(by omega)).2.1,(ys[ns.length]'(by omega)).2.2.1,t) rfl rfl rfl (by rw[hhead];simp[dp]) fun h9 H9=>⟨trivial,?_⟩
  have H9:=(H9.freeze 0 rfl fun _=>rfl).cg 6 [1,0,2,3,4,5]
  have H9:=H9.GZ
  refine⟨(ns++[((ys[ns.length]'(by omega)).1,(ys[ns.length]'(by omega)).2.1,(ys[ns.length]'(by omega)).2.2.1,t)],(t,m.aJ[ns.length].tries)::pool),by simp only[List.length_append,List.length_singleton];rw[Go.Vc.wrap_small _ (by omega) (by omega)];rfl,⟨by simp;omega,fun j r e h1 h2=>?_,?_⟩,by simp;omega⟩
  ·dsimp only at h1⊢
   by_cases hj:j<ns.length
   ·rw[List.getElem?_append_left hj]at h1
    obtain⟨g1,g2⟩:=hns j r e h1 h2
    exact⟨g1,List.mem_cons_of_mem _ g2⟩
   ·have hje:j=ns.length:=by
     have:=(List.getElem?_eq_some_iff.1 h1).1
     simp at this;omega
    subst hje
    rw[List.getElem?_append_right (Nat.le_refl _),Nat.sub_self]at h1
    simp at h1
    rw[List.getElem?_eq_getElem hi']at h2
    injection h2 with h2
    subst h1;subst h2
    exact⟨⟨y1,y2,y3⟩,List.mem_cons_self⟩
  ·dsimp only
   have e4:(ns++ys.drop ns.length).set ns.length ((ys[ns.length]'(by omega)).1,(ys[ns.length]'(by omega)).2.1,(ys[ns.length]'(by omega)).2.2.1,t)=ns++[((ys[ns.length]'(by omega)).1,(ys[ns.length]'(by omega)).2.1,(ys[ns.length]'(by omega)).2.2.1,t)]++ys.drop (ns++[((ys[ns.length]'(by omega)).1,(ys[ns.length]'(by omega)).2.1,(ys[ns.length]'(by omega)).2.2.1,t)]).length:=by
    rw[List.set_append_right _ _ (Nat.le_refl _),Nat.sub_self,List.drop_eq_getElem_cons (show ns.length<ys.length by omega),List.set_cons_zero]
    simp
   rw[←e4]
   exact H9
 ·have hnl:ns.length=m.aJ.length:=by omega
  rw[List.drop_of_length_le (by omega),List.append_nil]at H7
  refine⟨y,(H7.box 1 rfl).aY _ rfl,?_⟩
  refine H7.storeAll ag 2 rfl rfl (bz y) rfl rfl rfl rfl fun h8 H8=>?_
  have em1:(ns.zip m.aJ).map Prod.fst=ns:=List.map_fst_zip (by omega)
  have em2:(ns.zip m.aJ).map Prod.snd=m.aJ:=List.map_snd_zip (by omega)
  refine⟨y,(H8.box 2 rfl).aY _ rfl,y,ns.zip m.aJ,pool,rfl,⟨by rw[hy];exact hx.seq,by rw[hy];exact hx.next,by rw[hy];exact hx.p,by rw[hy];exact hx.extra⟩,em2,fun p hp=>?_,?_⟩
  ·obtain⟨j,hj,rfl⟩:=List.getElem_of_mem hp
   have hjl:j<ns.length∧j<m.aJ.length:=by simp at hj;omega
   have:=hns j _ _ (List.getElem?_eq_getElem hjl.1) (List.getElem?_eq_getElem hjl.2)
   rw[List.getElem_zip]
   exact this
  ·rw[em1,hyd,hyo]
   exact H8.cL [0,3,4]
theorem C7 (x:ct) (m:aZ) (h:Heap) (hx:ga h x m) (hz:dM m):ae Tryz.prog rZ #[fZ x] h fun v h'=>∃y:ct,v=fZ y∧Sp h h' [gA y m]:=by
 refine(wN x m h hx hz).mono ?_
 rintro _ h' ⟨y,L,pool,rfl,hf,hm,hL,H⟩
 exact⟨y,rfl,aa.FH hf hm hL H⟩
end Go.Proofs.YtkciobclldnoiaaGreatDoor
namespace Go.Vc
open Go Wl
abbrev aR:=Int×Int×Int×Int×Int×Int×Int×Sl
abbrev bc (x:aR):List Value:=[.int .i64 x.1,.int .i64 x.2.1,.int .i64 x.2.2.1,.int .i64 x.2.2.2.1,.int .i64 x.2.2.2.2.1,.int .i64 x.2.2.2.2.2.1,.int .u32 x.2.2.2.2.2.2.1,.slice x.2.2.2.2.2.2.2.ptr x.2.2.2.2.2.2.2.len x.2.2.2.2.2.2.2.cap]
abbrev recv (x:aR):Value:=.agg #[.int .i64 x.1,.int .i64 x.2.1,.int .i64 x.2.2.1,.int .i64 x.2.2.2.1,.int .i64 x.2.2.2.2.1,.int .i64 x.2.2.2.2.2.1,.int .u32 x.2.2.2.2.2.2.1,.slice x.2.2.2.2.2.2.2.ptr x.2.2.2.2.2.2.2.len x.2.2.2.2.2.2.2.cap]
theorem G0:∀x,∀c∈bc x,c.oneCell'=true:=by intro x c hc;simp[bc]at hc;rcases hc with rfl|rfl|rfl|rfl|rfl|rfl|rfl|rfl<;>rfl
def dK (x y:Int):Int:=if x<y then-1 else if x>y then 1 else 0
def gm (a b:aR):Int:=if dK a.1 b.1≠0 then dK a.1 b.1 else if dK a.2.1 b.2.1≠0 then dK a.2.1 b.2.1 else dK a.2.2.1 b.2.2.1
def bm (a b:aR):Bool:=decide (gm a b≤0)
theorem eG (x y:Int):(x<y∧dK x y=-1)∨(x>y∧dK x y=1)∨(x=y∧dK x y=0):=by
 unfold dK
 by_cases h1:x<y
 ·exact .inl ⟨h1,if_pos h1⟩
 ·by_cases h2:x>y
  ·exact .inr (.inl ⟨h2,by rw[if_neg h1,if_pos h2]⟩)
  ·exact .inr (.inr ⟨by omega,by rw[if_neg h1,if_neg h2]⟩)
theorem nG (a b:aR):gm a b≤0↔a.1<b.1∨(a.1=b.1∧(a.2.1<b.2.1∨(a.2.1=b.2.1∧a.2.2.1≤b.2.2.1))):=by
 unfold gm
 rcases eG a.1 b.1 with⟨h1,e1⟩|⟨h1,e1⟩|⟨h1,e1⟩
 ·rw[e1,if_pos (by decide)];omega
 ·rw[e1,if_pos (by decide)];omega
 ·rw[e1,if_neg (by decide)]
  rcases eG a.2.1 b.2.1 with⟨h2,e2⟩|⟨h2,e2⟩|⟨h2,e2⟩
  ·rw[e2,if_pos (by decide)];omega
  ·rw[e2,if_pos (by decide)];omega
  ·rw[e2,if_neg (by decide)]
   rcases eG a.2.2.1 b.2.2.1 with⟨h3,e3⟩|⟨h3,e3⟩|⟨h3,e3⟩<;>rw[e3]<;>omega
theorem jZ (a b:aR):gm a b<0↔¬bm b a=true:=by
 unfold bm
 rw[decide_eq_true_eq,nG]
 unfold gm
 rcases eG a.1 b.1 with⟨h1,e1⟩|⟨h1,e1⟩|⟨h1,e1⟩
 ·rw[e1,if_pos (by decide)];omega
 ·rw[e1,if_pos (by decide)];omega
 ·rw[e1,if_neg (by decide)]
  rcases eG a.2.1 b.2.1 with⟨h2,e2⟩|⟨h2,e2⟩|⟨h2,e2⟩
  ·rw[e2,if_pos (by decide)];omega
  ·rw[e2,if_pos (by decide)];omega
  ·rw[e2,if_neg (by decide)]
   rcases eG a.2.2.1 b.2.2.1 with⟨h3,e3⟩|⟨h3,e3⟩|⟨h3,e3⟩<;>rw[e3]<;>omega
theorem Ex (a b:aR):gm a b=0↔(a.1=b.1∧a.2.1=b.2.1∧a.2.2.1=b.2.2.1):=by
 unfold gm
 rcases eG a.1 b.1 with⟨h1,e1⟩|⟨h1,e1⟩|⟨h1,e1⟩
 ·rw[e1,if_pos (by decide)];omega
 ·rw[e1,if_pos (by decide)];omega
 ·rw[e1,if_neg (by decide)]
  rcases eG a.2.1 b.2.1 with⟨h2,e2⟩|⟨h2,e2⟩|⟨h2,e2⟩
  ·rw[e2,if_pos (by decide)];omega
  ·rw[e2,if_pos (by decide)];omega
  ·rw[e2,if_neg (by decide)]
   rcases eG a.2.2.1 b.2.2.1 with⟨h3,e3⟩|⟨h3,e3⟩|⟨h3,e3⟩<;>rw[e3]<;>omega
theorem bZ:Ord bm:=⟨fun a b c h1 h2=>by
 unfold bm at*
 rw[decide_eq_true_eq,nG]at*
 omega,fun a b=>by
 unfold bm
 rw[Bool.or_eq_true,decide_eq_true_eq,decide_eq_true_eq,nG,nG]
 omega⟩
theorem C8 {α:Type} (A B C:List α) (x y:α) {i j:Nat} (hi:i=A.length) (hj:j=A.length+1+B.length):
  (A++x::(B++y::C))[i]?=some x∧(A++x::(B++y::C))[j]?=some y∧((A++x::(B++y::C)).set i y).set j x=A++y::(B++x::C)∧((A++x::(B++y::C)).set j x).set i y=A++y::(B++x::C):=by
 subst hi;subst hj
 have e1:A.length+1+B.length-A.length=B.length+1:=by omega
 refine⟨by rw[List.getElem?_append_right (Nat.le_refl _),Nat.sub_self];rfl,?_,?_,?_⟩
 ·rw[List.getElem?_append_right (by omega),e1,List.getElem?_cons_succ,List.getElem?_append_right (Nat.le_refl _),Nat.sub_self];rfl
 ·rw[List.set_append_right _ _ (Nat.le_refl _),Nat.sub_self,List.set_cons_zero,List.set_append_right _ _ (by omega),e1,List.set_cons_succ,List.set_append_right _ _ (Nat.le_refl _),Nat.sub_self,List.set_cons_zero]
 ·rw[List.set_append_right _ _ (show A.length≤A.length+1+B.length by omega),e1,List.set_cons_succ,List.set_append_right _ _ (Nat.le_refl _),Nat.sub_self,List.set_cons_zero,List.set_append_right _ _ (Nat.le_refl _),Nat.sub_self,List.set_cons_zero]
end Go.Vc
namespace Go.Proofs.YtkciobclldnoiaaGreatDoor
open Go Go.Vc Go.Proofs Wl
set_option maxRecDepth 100000
abbrev HG:bt C.tomV um aF 8 [.int .i64 0,.int .i64 0,.int .i64 0,.int .i64 0,.int .i64 0,.int .i64 0,.int .u32 0,.slice none 0 0] 80:=⟨_,_,rfl,rfl,rfl,rfl,rfl,rfl⟩
theorem kG (x y:Int) (h:Heap):ae Tryz.prog qz #[.int .i64 x,.int .i64 y] h fun v h'=>v=.int .i64 (dK x y)∧h'=h:=by
 refine pv x y ?_
 unfold kN
 have nan:∀z:Int,ae Tryz.prog tl #[.int .i64 z] h fun v h'=>v=.bool false∧h'=h:=fun z=>by
  refine rI z ?_
  unfold mB
  exact⟨by simp,rfl⟩
 refine(nan x).mono ?_
 rintro _ _ ⟨rfl,rfl⟩
 refine⟨_,rfl,(nan y).mono ?_⟩
 rintro _ _ ⟨rfl,rfl⟩
 refine⟨_,rfl,bH (fun e=>by cases e) fun _=>bH (fun e=>by cases e) fun _=>?_⟩
 refine ah (fun e=>⟨by rw[dK,if_pos e],rfl⟩) fun e=>ah (fun e2=>⟨by rw[dK,if_neg e,if_pos e2],rfl⟩) fun e2=>⟨by rw[dK,if_neg e,if_neg e2],rfl⟩
theorem jB (a b:aR) (h:Heap):ae Tryz.prog bI #[recv a,recv b] h fun v h'=>v=.int .i64 (gm a b)∧Sp h h' []:=by
 refine wC a b ?_
 unfold qE
 refine(Sp.refl h).boxed fun a1 h1 H1=>H1.boxed fun a2 h2 H2=>?_
 have H2:Sp h h2 [aA a1 aF (bc a),aA a2 aF (bc b)]:=H2
 have b1:=H2.box 0 rfl
 have b2:=H2.box 1 rfl
 have c1:cellOf h2 (a1.add 1)=some (.int .i64 a.2.1):=b1.cell rfl
 have c2:cellOf h2 (a2.add 1)=some (.int .i64 b.2.1):=b2.cell rfl
 have c3:cellOf h2 (a1.add 2)=some (.int .i64 a.2.2.1):=b1.cell rfl
 have c4:cellOf h2 (a2.add 2)=some (.int .i64 b.2.2.1):=b2.cell rfl
 refine⟨a.1,b1.cell0 rfl,b.1,b2.cell0 rfl,a.2.1,c1,b.2.1,c2,a.2.2.1,c3,b.2.2.1,c4,(kG _ _ h2).mono ?_⟩
 rintro _ _ ⟨rfl,rfl⟩
 refine⟨_,rfl,⟨c4,c3,c2,c1,trivial⟩,(kG _ _ _).mono ?_⟩
 rintro _ _ ⟨rfl,rfl⟩
 refine⟨_,rfl,⟨c4,c3,trivial⟩,(kG _ _ _).mono ?_⟩
 rintro _ h5 ⟨rfl,rfl⟩
 refine⟨_,rfl,trivial,?_⟩
 refine H2.mZ ag aC ⟨_,_,rfl,rfl,rfl,rfl,rfl,rfl⟩ rfl [dK a.1 b.1,dK a.2.1 b.2.1,dK a.2.2.1 b.2.2.1] rfl (show 3*1≤2^20 by decide) rfl trivial ?_
 refine H2.lit ag aC ⟨_,_,rfl,rfl,rfl,rfl,rfl,rfl⟩ rfl [dK a.1 b.1,dK a.2.1 b.2.1,dK a.2.2.1 b.2.2.1] rfl (show 3*1≤2^20 by decide) rfl fun v12 h6 H6=>?_
 refine(wv v12 (R:=fun v h'=>v=.int .i64 (gm a b)∧h'=h6) ?_).mono ?_
 ·unfold qy
  have hs:=H6.seq 2 rfl fun _=>rfl
  have hl:=(H6.own 2 rfl).len
  obtain⟨L,hL⟩:∃L,L=[dK a.1 b.1,dK a.2.1 b.2.1,dK a.2.2.1 b.2.2.1]:=⟨_,rfl⟩
  rw[←hL]at hs hl
  have hl3:L.length=3:=by rw[hL];rfl
  refine au (fun i:Nat=>(i:Int)) (fun i h'=>i≤3∧(∀j,j<i→L[j]?=some 0)∧h'=h6) (fun i=>3-i) 0 rfl ⟨by omega,by omega,rfl⟩ ?_
  rintro i h7 ⟨hi,hz,rfl⟩
  have hz0:0<i→dK a.1 b.1=0:=fun h0=>by have:=hz 0 h0;rw[hL]at this;simpa using this
  have hz1:1<i→dK a.2.1 b.2.1=0:=fun h0=>by have:=hz 1 h0;rw[hL]at this;simpa using this
  have hz2:2<i→dK a.2.2.1 b.2.2.1=0:=fun h0=>by have:=hz 2 h0;rw[hL]at this;simpa using this
  refine ah (fun e=>?_) (fun e=>?_)
  ·have hi':i<L.length:=by
    have e':(i:Int)<(v12.len:Int):=e
    omega
   refine hs.bT i rfl hi' L[i] rfl ?_
   refine cI (fun e2=>⟨?_,rfl⟩) (fun e2=>?_)
   ·congr 1
    unfold gm
    have:i=0∨i=1∨i=2:=by omega
    subst hL
    rcases this with rfl|rfl|rfl
    ·exact(if_pos (show dK a.1 b.1≠0 from e2)).symm
    ·rw[if_neg (by rw[hz0 (by omega)];simp)];exact(if_pos (show dK a.2.1 b.2.1≠0 from e2)).symm
    ·rw[if_neg (by rw[hz0 (by omega)];simp),if_neg (by rw[hz1 (by omega)];simp)];rfl
   ·refine⟨i+1,by rw[Go.Vc.wrap_small _ (by omega) (by omega)];rfl,⟨by omega,fun j hj=>?_,rfl⟩,by omega⟩
    by_cases hji:j=i
    ·subst hji;rw[List.getElem?_eq_getElem hi',e2]
    ·exact hz j (by omega)
  ·have hi3:i=3:=by
    have e':¬(i:Int)<(v12.len:Int):=e
    omega
   subst hi3
   refine⟨?_,rfl⟩
   unfold gm
   rw[hz0 (by omega),hz1 (by omega),hz2 (by omega)];rfl
 ·rintro _ h7 ⟨rfl,rfl⟩
  exact⟨_,rfl,trivial,rfl,.zip H6.ai⟩
abbrev bu (s:Sl) (d:List aR):HP:=an aF s 8 bc d
section
variable {B:aj} {h0 h h':Heap} {As:List HP} {s:Sl} {d:List aR}
theorem j0 (X U M V Y:List aR) (n:Nat) (a b:Int) (hU:U.length=n) (hV:V.length=n) (ha:a=(X.length:Int)) (hb:b=(X.length+n+M.length:Nat)) (hsz:X.length+n+M.length+n+Y.length≤2^40) (H:aa B h0 h (bu s (X++(U++(M++(V++Y))))::As)):
  ae Tryz.prog gJ #[.slice s.ptr s.len s.cap,.int .i64 a,.int .i64 b,.int .i64 n,.func (.func bI) #[] #[]] h fun v h'=>v=.tuple #[]∧aa B h0 h' (bu s (X++(V++(M++(U++Y))))::As):=by
 refine gz s a b n (bI,#[],#[]) ?_
 unfold dR
 subst ha;subst hb
 refine au (fun k:Nat=>(k:Int)) (fun k h'=>k≤n∧aa B h0 h' (bu s (X++(V.take k++U.drop k++(M++(U.take k++V.drop k++Y))))::As)) (fun k=>n-k) 0 rfl ⟨by omega,by simpa using H⟩ ?_
 rintro k h1 ⟨hk,H1⟩
 refine ah (fun e=>?_) (fun e=>?_)
 ·have hk':k<n:=by omega
  have hUk:k<U.length:=by omega
  have hVk:k<V.length:=by omega
  have eform:X++(V.take k++U.drop k++(M++(U.take k++V.drop k++Y)))=(X++V.take k)++U[k]::((U.drop (k+1)++(M++U.take k))++V[k]::(V.drop (k+1)++Y)):=by
   rw[List.drop_eq_getElem_cons hUk,List.drop_eq_getElem_cons hVk];simp only[List.append_assoc,List.cons_append,List.nil_append]
  have eform2:X++(V.take (k+1)++U.drop (k+1)++(M++(U.take (k+1)++V.drop (k+1)++Y)))=(X++V.take k)++V[k]::((U.drop (k+1)++(M++U.take k))++U[k]::(V.drop (k+1)++Y)):=by
   rw[aI V k hVk,aI U k hUk];simp only[List.append_assoc,List.cons_append,List.nil_append]
  rw[eform]at H1
  obtain⟨q1,q2,q3,q4⟩:=C8 (X++V.take k) (U.drop (k+1)++(M++U.take k)) (V.drop (k+1)++Y) U[k] V[k] (i:=X.length+k) (j:=X.length+n+M.length+k) (by simp;omega) (by simp;omega)
  obtain⟨D,hD⟩:∃D,D=(X++V.take k)++U[k]::((U.drop (k+1)++(M++U.take k))++V[k]::(V.drop (k+1)++Y)):=⟨_,rfl⟩
  rw[←hD]at H1 q1 q2 q3 q4
  have hDi:=(List.getElem?_eq_some_iff.1 q1)
  have hDj:=(List.getElem?_eq_some_iff.1 q2)
  obtain⟨hi1,hi2⟩:=hDi
  obtain⟨hj1,hj2⟩:=hDj
  have ei:IntKind.wrap .i64 ((X.length:Int)+k)=((X.length+k:Nat):Int):=by rw[Go.Vc.wrap_small _ (by omega) (by omega)];omega
  have ej:IntKind.wrap .i64 (((X.length+n+M.length:Nat):Int)+k)=((X.length+n+M.length+k:Nat):Int):=by rw[Go.Vc.wrap_small _ (by omega) (by omega)];omega
  rw[ei,ej]
  refine(H1.seq 0 rfl fun _=>rfl).fT (g:=bc) _ rfl hj1 V[k] (by rw[hj2]) ?_
  refine(H1.seq 0 rfl fun _=>rfl).fT (g:=bc) _ rfl hi1 U[k] (by rw[hi2]) ?_
  refine H1.set ag 0 rfl (fun _=>rfl) rfl (X.length+k) rfl hi1 V[k] rfl rfl rfl fun h2 H2=>⟨trivial,?_⟩
  refine H2.set ag 0 rfl (fun _=>rfl) rfl (X.length+n+M.length+k) rfl (by simpa using hj1) U[k] rfl rfl rfl fun h3 H3=>⟨trivial,?_⟩
  refine⟨k+1,by rw[Go.Vc.wrap_small _ (by omega) (by omega)];rfl,⟨by omega,?_⟩,by omega⟩
  rw[eform2,←q3]
  exact H3
 ·have:k=n:=by omega
  subst this
  rw[List.take_of_length_le (l:=V) (by omega),List.drop_of_length_le (l:=U) (by omega),List.take_of_length_le (l:=U) (by omega),List.drop_of_length_le (l:=V) (by omega)]at H1
  refine⟨rfl,?_⟩
  simpa using H1
theorem BI (X U V Y:List aR) (a m b:Int) (hU:0<U.length) (hV:0<V.length) (ha:a=(X.length:Int)) (hm:m=(X.length+U.length:Nat)) (hb:b=(X.length+U.length+V.length:Nat)) (hsz:X.length+U.length+V.length+Y.length≤2^40) (H:aa B h0 h (bu s (X++(U++(V++Y)))::As)):
  ae Tryz.prog iz #[.slice s.ptr s.len s.cap,.int .i64 a,.int .i64 m,.int .i64 b,.func (.func bI) #[] #[]] h fun v h'=>v=.tuple #[]∧aa B h0 h' (bu s (X++(V++(U++Y)))::As):=by
 refine ie s a m b (bI,#[],#[]) ?_
 unfold eO
 subst ha;subst hm;subst hb
 have e1:IntKind.wrap .i64 (((X.length+U.length:Nat):Int)-X.length)=(U.length:Int):=by rw[Go.Vc.wrap_small _ (by omega) (by omega)];omega
 have e2:IntKind.wrap .i64 (((X.length+U.length+V.length:Nat):Int)-(X.length+U.length:Nat))=(V.length:Int):=by rw[Go.Vc.wrap_small _ (by omega) (by omega)];omega
 rw[e1,e2]
 refine au (fun t:List aR×List aR×List aR×List aR=>((t.2.1.length:Int),(t.2.2.1.length:Int))) (fun t h'=>0<t.2.1.length∧0<t.2.2.1.length∧X.length+t.1.length+t.2.1.length=X.length+U.length∧V++U=t.1++((t.2.2.1++t.2.1)++t.2.2.2)∧aa B h0 h' (bu s (X++(t.1++(t.2.1++(t.2.2.1++(t.2.2.2++Y)))))::As)) (fun t=>t.2.1.length+t.2.2.1.length) ([],U,V,[]) rfl ⟨hU,hV,by simp,by simp,by simpa using H⟩ ?_
 rintro⟨P,A,Bk,Q⟩ h1 ⟨hA,hB,hm,hf,H1⟩
 dsimp only at*
 have hlen:=congrArg List.length hf
 simp only[List.length_append]at hlen
 refine cI (fun e=>ah (fun e3=>?_) (fun e3=>?_)) (fun e=>?_)
 ·--the left one is longer
  have hlt:Bk.length<A.length:=by omega
  have eA:A=A.take Bk.length++A.drop Bk.length:=(List.take_append_drop _ _).symm
  have hA1:(A.take Bk.length).length=Bk.length:=by simp;omega
  have ei:IntKind.wrap .i64 (((X.length+U.length:Nat):Int)-A.length)=((X++P).length:Int):=by rw[Go.Vc.wrap_small _ (by omega) (by omega)];simp;omega
  rw[ei]
  have H1':aa B h0 h1 (bu s ((X++P)++(A.take Bk.length++(A.drop Bk.length++(Bk++(Q++Y)))))::As):=by
   have:(X++P)++(A.take Bk.length++(A.drop Bk.length++(Bk++(Q++Y))))=X++(P++(A++(Bk++(Q++Y)))):=by
    conv=>rhs;rw[eA]
    simp only[List.append_assoc,List.cons_append,List.nil_append]
   rw[this];exact H1
  refine(j0 (X++P) (A.take Bk.length) (A.drop Bk.length) Bk (Q++Y) Bk.length _ _ hA1 rfl rfl (by simp;omega) (by simp;omega) H1').mono ?_
  rintro _ h2 ⟨rfl,H2⟩
  refine⟨(),rfl,(P++Bk,A.drop Bk.length,A.take Bk.length,Q),?_,⟨by dsimp only;simp;omega,by dsimp only;omega,by dsimp only;simp;omega,?_,?_⟩,by dsimp only;simp;omega⟩
  ·dsimp only
   rw[hA1,Go.Vc.wrap_small _ (by omega) (by omega)]
   simp;omega
  ·dsimp only
   rw[hf,List.take_append_drop];simp
  ·dsimp only
   have:X++((P++Bk)++(A.drop Bk.length++(A.take Bk.length++(Q++Y))))=(X++P)++(Bk++(A.drop Bk.length++(A.take Bk.length++(Q++Y)))):=by simp
   rw[this];exact H2
 ·have hlt:A.length<Bk.length:=by omega
  obtain⟨j,hj⟩:∃j,j=Bk.length-A.length:=⟨_,rfl⟩
  have eB:Bk=Bk.take j++Bk.drop j:=(List.take_append_drop _ _).symm
  have hB2:(Bk.drop j).length=A.length:=by simp;omega
  have hB1:(Bk.take j).length=j:=by simp;omega
  have ei:IntKind.wrap .i64 (((X.length+U.length:Nat):Int)-A.length)=((X++P).length:Int):=by rw[Go.Vc.wrap_small _ (by omega) (by omega)];simp;omega
  have ej:IntKind.wrap .i64 ((IntKind.wrap .i64 (((X.length+U.length:Nat):Int)+Bk.length))-A.length)=(((X++P).length+A.length+(Bk.take j).length:Nat):Int):=by
   rw[Go.Vc.wrap_small (((X.length+U.length:Nat):Int)+Bk.length) (by omega) (by omega),Go.Vc.wrap_small _ (by omega) (by omega),hB1];simp;omega
  rw[ei,ej]
  have H1':aa B h0 h1 (bu s ((X++P)++(A++(Bk.take j++(Bk.drop j++(Q++Y)))))::As):=by
   have:(X++P)++(A++(Bk.take j++(Bk.drop j++(Q++Y))))=X++(P++(A++(Bk++(Q++Y)))):=by
    conv=>rhs;rw[eB]
    simp only[List.append_assoc,List.cons_append,List.nil_append]
   rw[this];exact H1
  refine(j0 (X++P) A (Bk.take j) (Bk.drop j) (Q++Y) A.length _ _ rfl hB2 rfl rfl (by simp;omega) H1').mono ?_
  rintro _ h2 ⟨rfl,H2⟩
  refine⟨(),rfl,(P,Bk.drop j,Bk.take j,A++Q),?_,⟨by dsimp only;omega,by dsimp only;omega,by dsimp only;omega,?_,?_⟩,by dsimp only;omega⟩
  ·dsimp only
   rw[hB1,hB2,Go.Vc.wrap_small _ (by omega) (by omega)]
   congr 1;omega
  ·dsimp only
   rw[hf,List.take_append_drop];simp
  ·dsimp only
   have:X++(P++(Bk.drop j++(Bk.take j++((A++Q)++Y))))=(X++P)++(Bk.drop j++(Bk.take j++(A++(Q++Y)))):=by simp
   rw[this];exact H2
 ·have hAB:A.length=Bk.length:=by omega
  have ei:IntKind.wrap .i64 (((X.length+U.length:Nat):Int)-A.length)=((X++P).length:Int):=by rw[Go.Vc.wrap_small _ (by omega) (by omega)];simp;omega
  rw[ei]
  have H1':aa B h0 h1 (bu s ((X++P)++(A++([]++(Bk++(Q++Y)))))::As):=by
   have:(X++P)++(A++([]++(Bk++(Q++Y))))=X++(P++(A++(Bk++(Q++Y)))):=by simp
   rw[this];exact H1
  refine(j0 (X++P) A [] Bk (Q++Y) A.length _ _ rfl hAB.symm rfl (by simp;omega) (by simp;omega) H1').mono ?_
  rintro _ h2 ⟨rfl,H2⟩
  refine⟨(),rfl,rfl,?_⟩
  have:X++(V++(U++Y))=(X++P)++(Bk++([]++(A++(Q++Y)))):=by
   have:V++(U++Y)=(V++U)++Y:=by simp
   rw[this,hf];simp
  rw[this];exact H2
end
end Go.Proofs.YtkciobclldnoiaaGreatDoor
namespace Wl
open Go
theorem C9 (l:List UInt8) (x:UInt8):cy (l++[x])=cy l*256+x.toNat:=by unfold cy;rw[List.foldl_append];rfl
theorem Ao:∀l:List UInt8,l.length≤4→0≤cy l∧cy l<4294967296∧(l.length≤3→cy l<16777216)
 |[],_=>by simp[cy]
 |[a],_=>by have:=a.toNat_lt;simp only[cy,List.foldl_cons,List.foldl_nil];omega
 |[a,b],_=>by have:=a.toNat_lt;have:=b.toNat_lt;simp only[cy,List.foldl_cons,List.foldl_nil];omega
 |[a,b,c],_=>by have:=a.toNat_lt;have:=b.toNat_lt;have:=c.toNat_lt;simp only[cy,List.foldl_cons,List.foldl_nil];omega
 |[a,b,c,d],_=>by have:=a.toNat_lt;have:=b.toNat_lt;have:=c.toNat_lt;have:=d.toNat_lt;simp only[cy,List.foldl_cons,List.foldl_nil,List.length_cons,List.length_nil];omega
 |_::_::_::_::_::_,h=>by simp at h
theorem HH (n x:Nat) (hn:n<2^32) (hx:x<256):IntKind.wrap .i64 (((BitVec.ofInt (IntKind.bits .i64) (IntKind.wrap .i64 ((n:Int)*2^min (8:Int).toNat (IntKind.bits .i64)))|||BitVec.ofInt (IntKind.bits .i64) (IntKind.wrap .i64 (x:Int))).toNat:Nat):Int)=(n:Int)*256+x:=by
 have e0:min (8:Int).toNat (IntKind.bits .i64)=8:=rfl
 rw[e0]
 have e1:IntKind.wrap .i64 ((n:Int)*2^8)=((n*256:Nat):Int):=by rw[Go.Vc.wrap_small _ (by omega) (by omega)];omega
 have e2:IntKind.wrap .i64 (x:Int)=((x:Nat):Int):=Go.Vc.wrap_small _ (by omega) (by omega)
 rw[e1,e2]
 have e3:(BitVec.ofInt (IntKind.bits .i64) ((n*256:Nat):Int)|||BitVec.ofInt (IntKind.bits .i64) ((x:Nat):Int)).toNat=n*256+x:=by
  show((BitVec.ofInt 64 ((n*256:Nat):Int)|||BitVec.ofInt 64 ((x:Nat):Int):BitVec 64)).toNat=n*256+x
  rw[BitVec.toNat_or,BitVec.ofInt_natCast,BitVec.ofInt_natCast,BitVec.toNat_ofNat,BitVec.toNat_ofNat,Nat.mod_eq_of_lt (by omega),Nat.mod_eq_of_lt (by omega)]
  have:=Nat.shiftLeft_add_eq_or_of_lt (b:=x) (i:=8) (by omega) n
  rw[Nat.shiftLeft_eq,show(2:Nat)^8=256 from rfl]at this
  omega
 rw[e3,Go.Vc.wrap_small _ (by omega) (by omega)]
 omega
end Wl
namespace Go.Vc
open Go Wl
def cN:ik aR dO:=⟨fun h q a b=>(a.1=b.object∧a.2.1=b.block∧a.2.2.1=b.id∧(a.2.2.2.1,a.2.2.2.2.1,a.2.2.2.2.2.1)=b.p∧a.2.2.2.2.2.2.1=b.seed∧0≤b.seed∧b.seed<4294967296)∧Seq h q a.2.2.2.2.2.2.2 1 az b.data,fun a hp=>⟨a.1,a.2.ai hp⟩,fun a hq=>⟨a.1,a.2.mono hq⟩⟩
end Go.Vc
namespace Go.Proofs.YtkciobclldnoiaaGreatDoor
open Go Go.Vc Go.Proofs Wl
set_option maxRecDepth 100000
theorem l4 {p q:aj} (a b:Sl) (la lb:List UInt8) (h:Heap) (ha:Seq h p a 1 az la) (hb:Seq h q b 1 az lb):
  ae Tryz.prog vW #[.slice a.ptr a.len a.cap,.slice b.ptr b.len b.cap] h fun v h'=>v=.bool (decide (la=lb))∧h'=h:=by
 refine ur a b ?_
 unfold oO
 refine Cd ag ⟨_,rfl,rfl⟩ ⟨_,rfl,rfl⟩ ⟨_,rfl,rfl⟩ ha (Cd ag ⟨_,rfl,rfl⟩ ⟨_,rfl,rfl⟩ ⟨_,rfl,rfl⟩ hb ⟨?_,rfl⟩)
 rw[ByteArray.toList_mk,ByteArray.toList_mk]
 have:(la==lb)=decide (la=lb):=by rw[Bool.eq_iff_iff];simp
 rw[this]
theorem Da (b:Sl) (c:List UInt8) (h:Heap) (hb:Rd h b 1 az c) (hc:c.length≤2^30) (hcap:b.len≤b.cap):
  ae Tryz.prog Ab #[.slice b.ptr b.len b.cap] h fun v h'=>(jm c=none→v=.tuple #[.int .i64 0,.slice none 0 0,.bool false]∧Sp h h' [])∧
   ∀k x,jm c=some (k,x)→∃r:Sl,v=.tuple #[.int .i64 k,.slice r.ptr r.len r.cap,.bool true]∧Sp h h' [an aB r 1 az x]:=by
 refine yh b ?_
 unfold sm
 have hl:=hb.len
 refine cI (fun e=>?_) (fun e=>?_)
 ·have:jm c=none:=by unfold jm;rw[if_neg (fun hh=>e (by omega))]
  rw[this]
  exact⟨fun _=>⟨rfl,Sp.refl h⟩,fun k x h=>(by cases h)⟩
 have h64:c.length=64:=by omega
 have h3:3<c.length:=by omega
 refine hb.Cx 3 rfl h3 ((c.getD 3 0).toNat:Int) (by rw[getD_lt h3];rfl) fun a1 hc1=>⟨⟨by decide,by decide,by omega⟩,?_⟩
 have hsub:=(hb.drop 4 hcap).take 55 (by simp;omega)
 have hx55:((c.drop 4).take 55).length=55:=by simp;omega
 refine(fG ⟨_,55,b.cap-4⟩ ((c.drop 4).take 55) h hsub (by omega)).mono ?_
 rintro _ h1 ⟨r,rfl,R1⟩
 refine⟨r,rfl,kh R1.ai ⟨hc1,trivial⟩,?_⟩
 have hk:=(c.getD 3 0).toNat_lt
 rw[Go.Vc.wrap_small ((c.getD 3 0).toNat:Int) (by omega) (by omega)]
 refine(qQ ((c.getD 3 0).toNat:Int) r ((c.drop 4).take 55) h1 (R1.seq 0 rfl fun _=>rfl) (by omega)).mono ?_
 rintro _ h2 ⟨r4,rfl,R4⟩
 have R2:=R1.comp R4
 refine⟨r4,rfl,(l4 b r4 c _ h2 (hb.up R2.ai) (R2.seq 1 rfl fun _=>rfl)).mono ?_⟩
 rintro _ h3 ⟨rfl,rfl⟩
 refine⟨_,rfl,aW (fun e2=>?_) (fun e2=>?_)⟩
 ·have hne:c≠eP ((c.getD 3 0).toNat:Int) ((c.drop 4).take 55):=of_decide_eq_false e2
  have:jm c=none:=by unfold jm;rw[if_neg (fun hh=>hne hh.2.symm)]
  rw[this]
  exact⟨fun _=>⟨rfl,.zip R2.ai⟩,fun k x h=>(by cases h)⟩
 ·have heq:c=eP ((c.getD 3 0).toNat:Int) ((c.drop 4).take 55):=of_decide_eq_true e2
  have:jm c=some (((c.getD 3 0).toNat:Int),(c.drop 4).take 55):=by unfold jm;rw[if_pos ⟨h64,heq.symm⟩]
  rw[this]
  refine⟨fun h=>(by cases h),fun k x hh=>?_⟩
  injection hh with hh
  injection hh with hh1 hh2
  subst hh1;subst hh2
  exact⟨r,rfl,R2.cL [0]⟩
theorem xB (b:Sl) (l:List UInt8) (h:Heap) (hb:Rd h b 1 az l) (hl:l.length≤4):ae Tryz.prog eS #[.slice b.ptr b.len b.cap] h fun v h'=>v=.int .i64 (cy l)∧h'=h:=by
 refine uZ b ?_
 unfold o6
 have hbl:=hb.len
 refine au (fun i:Nat=>(cy (l.take i),(i:Int))) (fun i h'=>i≤l.length∧h'=h) (fun i=>l.length-i) 0 rfl ⟨by omega,rfl⟩ ?_
 rintro i h1 ⟨hi,rfl⟩
 dsimp only
 refine ah (fun e=>?_) (fun e=>?_)
 ·have hi':i<l.length:=by omega
  refine hb.bT i rfl hi' (l[i].toNat:Int) rfl ⟨by decide,?_⟩
  have hb3:=(Ao (l.take i) (by simp;omega))
  have hb4:=hb3.2.2 (by simp;omega)
  have hx:=l[i].toNat_lt
  obtain⟨n,hn⟩:∃n:Nat,cy (l.take i)=(n:Int):=⟨(cy (l.take i)).toNat,by omega⟩
  refine⟨i+1,?_,⟨by omega,rfl⟩,by omega⟩
  rw[aI _ _ hi',C9,hn,HH n _ (by omega) (by omega),Go.Vc.wrap_small ((i:Int)+1) (by omega) (by omega)];rfl
 ·rw[List.take_of_length_le (by omega)]
  exact⟨rfl,rfl⟩
theorem so (x:aR) (r:dO) (h:Heap) (hx:fJ cN h x r):ae Tryz.prog yc #[recv x] h fun v h'=>v=.bool (kA r)∧Sp h h' []:=by
 refine wx x ?_
 unfold qA
 obtain⟨⟨e1,e2,e3,e4,e5,_⟩,e6⟩:=hx
 have hp1:x.2.2.2.1=r.p.1:=congrArg (·.1) e4
 have hp2:x.2.2.2.2.1=r.p.2.1:=congrArg (·.2.1) e4
 have hp3:x.2.2.2.2.2.1=r.p.2.2:=congrArg (·.2.2) e4
 have hdl:=Seq.len e6
 refine(Sp.refl h).boxed fun a1 h1 H1=>?_
 have H1:Sp h h1 [aA a1 aF (bc x)]:=H1
 have hb:=H1.box 0 rfl
 have c0:cellOf h1 a1=some (.int .i64 r.object):=by rw[←e1];exact hb.cell0 rfl
 have c1:cellOf h1 (a1.add 1)=some (.int .i64 r.block):=by rw[←e2];exact hb.cell rfl
 have c2:cellOf h1 (a1.add 2)=some (.int .i64 r.id):=by rw[←e3];exact hb.cell rfl
 have no:∀{h':Heap},Sp h h' [aA a1 aF (bc x)]→(kA r=true→False)→Value.bool false=.bool (kA r)∧Sp h h' []:=fun{h'} H' hn=>⟨by cases hq:kA r with|false=>rfl|true=>exact absurd hq hn,.zip H'.ai⟩
 refine dt (fun b h'=>b=decide ((0≤r.object∧r.object≤16777215)∧(0≤r.block∧r.block≤7)∧(0≤r.id∧r.id≤65535))∧h'=h1) ?_ ?_
 ·refine⟨_,c0,ah (fun g1=>⟨_,c0,ah (fun g2=>⟨_,c1,ah (fun g3=>⟨_,c1,ah (fun g4=>⟨_,c2,ah (fun g5=>⟨_,c2,?_,rfl⟩) fun g5=>⟨?_,rfl⟩⟩) fun g4=>⟨?_,rfl⟩⟩) fun g3=>⟨?_,rfl⟩⟩) fun g2=>⟨?_,rfl⟩⟩) fun g1=>⟨?_,rfl⟩⟩
  ·rw[decide_eq_decide];omega
  all_goals (symm;rw[decide_eq_false_iff_not];omega)
 ·rintro _ _ ⟨rfl,rfl⟩
  refine ah (fun g=>?_) fun g=>no H1 fun hh=>g (by have:=(jS r).1 hh;omega)
  refine⟨r.p,by rw[←hp1,←hp2,←hp3];exact hb.rv 3 rfl rfl rfl,(dd r.p _).mono ?_⟩
  rintro _ h3 ⟨rfl,R3⟩
  have H3:Sp h h3 [aA a1 aF (bc x)]:=H1.up R3.ai
  have hb3:=H3.box 0 rfl
  refine⟨_,rfl,bH (fun g2=>?_) fun g2=>no H3 fun hh=>by have:=((jS r).1 hh).2.2.2.1;rw[g2]at this;cases this⟩
  refine⟨x.2.2.2.2.2.2.2,hb3.cell rfl,r.p.2.2,by rw[←hp3];exact hb3.qR 3 2 rfl,?_,.zip H3.ai⟩
  congr 1
  by_cases hd:(r.data.length:Int)=r.p.2.2
  ·have:kA r=true:=(jS r).2 ⟨by omega,by omega,by omega,g2,hd⟩
   rw[this,hdl];simpa using hd
  ·have:kA r=false:=by
    cases hq:kA r with
    |false=>rfl
    |true=>exact absurd ((jS r).1 hq).2.2.2.2 hd
   rw[this,hdl];simpa using hd
section
variable {B:aj} {h0 h h':Heap} {As:List HP}
theorem ig (s:Sl) (l:List UInt8) (n:Int) (k:Nat) (hk:k≤4) (hl:l.length≤2^30) (H:aa B h0 h (an aB s 1 az l::As)):
  ae Tryz.prog tf #[.slice s.ptr s.len s.cap,.int .i64 n,.int .i64 k] h fun v h'=>∃r:Sl,v=.slice r.ptr r.len r.cap∧aa B h0 h' (an aB r 1 az (l++bS n k)::As):=by
 refine rE s n k ?_
 unfold mz
 rw[Go.Vc.wrap_small ((k:Int)-1) (by omega) (by omega)]
 refine au (fun t:Sl×Nat=>(t.1,(k:Int)-1-t.2)) (fun t h'=>t.2≤k∧aa B h0 h' (an aB t.1 1 az (l++(bS n k).take t.2)::As)) (fun t=>k-t.2) (s,0) (by simp) ⟨by simp,by simpa using H⟩ ?_
 rintro⟨r,t⟩ h1 ⟨ht,H1⟩
 dsimp only at*
 refine ah (fun e=>?_) (fun e=>?_)
 ·have ht':t<k:=by omega
  have e1:IntKind.wrap .i64 ((8:Int)*((k:Int)-1-t))=((8*(k-1-t):Nat):Int):=by
   rw[Go.Vc.wrap_small _ (by omega) (by omega)];omega
  rw[e1,Int.toNat_natCast]
  have e2:min (8*(k-1-t)) (IntKind.bits .i64)=8*(k-1-t):=by
   have:IntKind.bits .i64=64:=rfl
   omega
  rw[e2,cm]
  refine⟨by omega,?_⟩
  refine H1.push ag 0 rfl gZ rfl (by decide) (fun _=>rfl) fU (b8 (Int.fdiv n (2^(8*(k-1-t))))) rfl (by decide) (by simp[bJ];omega) fun s' h2 H2=>?_
  refine⟨(s',t+1),?_,⟨by dsimp only;omega,?_⟩,by dsimp only;omega⟩
  ·dsimp only
   have e3:IntKind.wrap .i64 ((k:Int)-1-t-1)=(k:Int)-1-((t+1:Nat):Int):=by
    rw[Go.Vc.wrap_small _ (by omega) (by omega)];omega
   rw[e3]
  ·dsimp only
   have e4:(bS n k).take t++[b8 (Int.fdiv n (2^(8*(k-1-t))))]=(bS n k).take (t+1):=by
    rw[aI _ _ (by rw[bJ];exact ht')]
    congr 2
    simp[bS]
   rw[←e4,←List.append_assoc]
   exact H2
 ·have:t=k:=by omega
  subst this
  rw[List.take_of_length_le (by rw[bJ];omega)]at H1
  exact⟨r,rfl,H1⟩
end
theorem BJ (x:aR) (r:dO) (h:Heap) (hx:fJ cN h x r):ae Tryz.prog xY #[recv x] h fun v h'=>∃s:Sl,v=.slice s.ptr s.len s.cap∧Sp h h' [an aB s 1 az (p8 r)]:=by
 refine wo x ?_
 unfold qq
 obtain⟨⟨e1,e2,e3,e4,e5,e7,e8⟩,e6⟩:=id hx
 have hp1:x.2.2.2.1=r.p.1:=congrArg (·.1) e4
 have hp2:x.2.2.2.2.1=r.p.2.1:=congrArg (·.2.1) e4
 have hp3:x.2.2.2.2.2.1=r.p.2.2:=congrArg (·.2.2) e4
 refine(Sp.refl h).boxed fun a1 h1 H1=>?_
 have H1:Sp h h1 [aA a1 aF (bc x)]:=H1
 refine⟨x,(H1.box 0 rfl).aY _ rfl,(so x r h1 (cN.mono (cN.loc hx H1.ai) fun _ hb=>Nat.lt_of_lt_of_le hb H1.ai.1)).mono ?_⟩
 rintro _ h2 ⟨rfl,R2⟩
 have H2:Sp h h2 [aA a1 aF (bc x)]:=H1.up R2.ai
 refine⟨_,rfl,aW (fun g=>?_) (fun g=>?_)⟩
 ·unfold p8;rw[g];exact⟨⟨none,0,0⟩,rfl,(H2.nil aB 1 az).cL [1]⟩
 have hpl:=D2 g
 have hb2:=H2.box 0 rfl
 refine⟨r.object,by rw[←e1];exact hb2.cell0 rfl,(ig ⟨none,0,0⟩ [] r.object 3 (by decide) (by simp) (H2.nil aB 1 az).ee).mono ?_⟩
 rintro _ h3 ⟨s3,rfl,H3⟩
 have hb3:=H3.box 1 rfl
 refine⟨s3,rfl,r.block,by rw[←e2];exact hb3.cell rfl,(ig s3 _ r.block 1 (by decide) (by simp[bJ]) H3).mono ?_⟩
 rintro _ h4 ⟨s4,rfl,H4⟩
 have hb4:=H4.box 1 rfl
 refine⟨s4,rfl,r.id,by rw[←e3];exact hb4.cell rfl,(ig s4 _ r.id 2 (by decide) (by simp[bJ]) H4).mono ?_⟩
 rintro _ h5 ⟨s5,rfl,H5⟩
 have hb5:=H5.box 1 rfl
 refine⟨s5,rfl,r.p.1,by rw[←hp1];exact hb5.cell rfl,r.p.2.1,by rw[←hp2];exact hb5.qR 3 1 rfl,r.p.2.2,by rw[←hp3];exact hb5.qR 3 2 rfl,?_⟩
 rw[cm,cm,cm]
 refine H5.lit ag az gZ rfl [b8 r.p.1,b8 r.p.2.1,b8 r.p.2.2] rfl (show 3*1≤2^20 by decide) rfl fun v13 h6 H6=>?_
 refine H6.append ag 0 rfl gZ ⟨_,_,rfl,rfl⟩ rfl (by decide) (fun _=>rfl) (H6.seq 2 rfl fun _=>rfl) fU (by simp[bJ]) fun s7 h7 H7=>?_
 have H7:Sp h h7 [an aB s7 1 az ([]++bS r.object 3++bS r.block 1++bS r.id 2++[b8 r.p.1,b8 r.p.2.1,b8 r.p.2.2]),aA a1 aF (bc x)]:=H7.cL [0,1]
 have hb7:=H7.box 1 rfl
 refine⟨r.seed,by rw[←e5];exact hb7.cell rfl,?_⟩
 rw[Go.Vc.wrap_small r.seed (by omega) (by omega)]
 refine(ig s7 _ r.seed 4 (by decide) (by simp[bJ]) H7).mono ?_
 rintro _ h8 ⟨s8,rfl,H8⟩
 have hb8:=H8.box 1 rfl
 refine⟨s8,rfl,x.2.2.2.2.2.2.2,hb8.cell rfl,?_⟩
 refine H8.append ag 0 rfl gZ ⟨_,_,rfl,rfl⟩ rfl (by decide) (fun _=>rfl) (Seq.up e6 H8.ai) fU (by simp[bJ];omega) fun s9 h9 H9=>?_
 have ep:[]++bS r.object 3++bS r.block 1++bS r.id 2++[b8 r.p.1,b8 r.p.2.1,b8 r.p.2.2]++bS r.seed 4++r.data=oq r:=by unfold oq;simp[List.append_assoc]
 have H9:Sp h h9 [an aB s9 1 az (oq r),aA a1 aF (bc x)]:=by rw[←ep];exact H9
 refine(qQ 1 s9 (oq r) h9 (H9.seq 0 rfl fun _=>rfl) (by omega)).mono ?_
 rintro _ h10 ⟨s10,rfl,R10⟩
 refine⟨s10,rfl,s10,rfl,?_⟩
 unfold p8
 rw[g,if_pos rfl]
 exact(H9.comp R10).cL [2]
end Go.Proofs.YtkciobclldnoiaaGreatDoor
namespace Go.Proofs.YtkciobclldnoiaaGreatDoor
open Go Go.Vc Go.Proofs Wl
set_option maxRecDepth 100000
theorem Ap (b:Sl) (c:List UInt8) (h:Heap) (hb:Rd h b 1 az c) (hc:c.length≤2^30) (hcap:b.len≤b.cap):
  ae Tryz.prog wA #[.slice b.ptr b.len b.cap] h fun v h'=>∃x:aR,v=.tuple #[recv x,.bool (fQ c).isSome]∧(fQ c=none→Sp h h' [])∧∀r,fQ c=some r→Sp h h' [EA cN x r]:=by
 refine uS b ?_
 unfold oY
 refine(Sp.refl h).alloc ag rfl fun a1 h1 H1=>?_
 have H1:Sp h h1 [aA a1 aF (bc (0,0,0,0,0,0,0,⟨none,0,0⟩))]:=H1
 have bad:∀{h':Heap} {Bs:List HP},Sp h h' (aA a1 aF (bc (0,0,0,0,0,0,0,⟨none,0,0⟩))::Bs)→fQ c=none→
   ab Tryz.prog (Instr.storeAt aF (.pointer (some a1)) (recv (0,0,0,0,0,0,0,⟨none,0,0⟩))) h' fun _ h4=>∃res:aR,ak h4 a1 0 (bc res)∧∃x:aR,Value.tuple #[recv res,.bool false]=.tuple #[recv x,.bool (fQ c).isSome]∧(fQ c=none→Sp h h4 [])∧∀r,fQ c=some r→Sp h h4 [EA cN x r]:=fun{h' Bs} H' hn=>by
  refine H'.storeAll ag 0 rfl rfl (bc (0,0,0,0,0,0,0,⟨none,0,0⟩)) rfl rfl rfl rfl fun h4 H4=>?_
  exact⟨(0,0,0,0,0,0,0,⟨none,0,0⟩),(H4.box 0 rfl).aY _ rfl,(0,0,0,0,0,0,0,⟨none,0,0⟩),by rw[hn];rfl,fun _=>.zip H4.ai,fun r hr=>by rw[hn]at hr;cases hr⟩
 refine(Da b c h1 (hb.up H1.ai) hc hcap).mono ?_
 rintro _ h2 ⟨Q0,Q1⟩
 cases htc:jm c with
 |none=>
  obtain⟨rfl,R2⟩:=Q0 htc
  have hn:fQ c=none:=by unfold fQ;rw[htc]
  exact⟨(0,⟨none,0,0⟩,false),rfl,aS (aW (fun _=>bad (H1.up R2.ai) hn) fun e=>by cases e)⟩
 |some kx=>
  obtain⟨k,x⟩:=kx
  obtain⟨r,rfl,R2⟩:=Q1 k x htc
  have H2:Sp h h2 [aA a1 aF (bc (0,0,0,0,0,0,0,⟨none,0,0⟩)),an aB r 1 az x]:=H1.comp R2
  have hx55:x.length=55:=by
   unfold jm at htc
   split at htc
   ·rename_i hh
    injection htc with htc
    injection htc with _ htc
    rw[←htc];simp;omega
   ·cases htc
  have hrl:=(H2.own 1 rfl).len
  have hrc:=(H2.own 1 rfl).cap
  refine⟨(k,r,true),rfl,aS (aW (fun e=>by cases e) fun _=>cI (fun e=>bad H2 ?_) fun hk1=>?_)⟩
  ·unfold fQ;rw[htc];exact if_neg fun hh=>e hh.1
  dsimp only
  have hk1:k=1:=hk1
  obtain⟨R,hR⟩:∃R,R=yA x:=⟨_,rfl⟩
  have htR:fQ c=if bP R.p=true∧p8 R=c then some R else none:=by
   unfold fQ;rw[htc]
   dsimp only
   rw[←hR]
   by_cases hh:bP R.p=true∧p8 R=c
   ·rw[if_pos hh];exact if_pos ⟨hk1,hh⟩
   ·rw[if_neg hh];exact if_neg fun h=>hh h.2
  have tA:∀{h':Heap},Rd h' r 1 az x→ae Tryz.prog eS #[.slice r.ptr 3 r.cap] h' fun v h''=>v=.int .i64 R.object∧h''=h':=fun{h'} hr=>by
   rw[hR];exact xB ⟨r.ptr,3,r.cap⟩ (x.take 3) h' (hr.take 3 (by omega)) (by simp;omega)
  have tB:∀{h':Heap} (j n:Nat),j+n≤55→n≤4→Rd h' r 1 az x→ae Tryz.prog eS #[.slice (if r.cap=j then r.ptr else r.ptr.map (·.add (j*1))) n (r.cap-j)] h' fun v h''=>v=.int .i64 (cy ((x.drop j).take n))∧h''=h':=fun{h'} j n hjn hn hr=>
   xB ⟨if r.cap=j then r.ptr else r.ptr.map (·.add (j*1)),n,r.cap-j⟩ ((x.drop j).take n) h' ((hr.drop j hrc).take n (by rw[List.length_drop];omega)) (by simp;omega)
  have rd:∀{h':Heap} {A:HP} {Bs:List HP},Sp h h' (A::an aB r 1 az x::Bs)→Rd h' r 1 az x:=fun{h' A Bs} H'=>H'.seq 1 rfl fun _=>rfl
  have B2:∀{h':Heap} {A A2:HP} {Bs:List HP},Sp h h' (A::A2::an aB r 1 az x::Bs)→Rd h' r 1 az x:=fun{h' A A2 Bs} H'=>H'.seq 2 rfl fun _=>rfl
  refine dt (fun(a:Addr) h'=>Sp h h' [aA a aF (bc (R.object,R.block,R.id,0,0,0,0,⟨none,0,0⟩)),aA a1 aF (bc (0,0,0,0,0,0,0,⟨none,0,0⟩)),an aB r 1 az x]) ?_ ?_
  ·have eb:cy ((x.drop 3).take 1)=R.block:=by rw[hR];rfl
   have ei:cy ((x.drop 4).take 2)=R.id:=by rw[hR];rfl
   have fin:∀{h':Heap} {a:Addr},Sp h h' [aA a1 aF (bc (0,0,0,0,0,0,0,⟨none,0,0⟩)),an aB r 1 az x,aA a aF (bc (0,0,0,0,0,0,0,⟨none,0,0⟩))]→
     ab Tryz.prog (Instr.storeAt aF (.pointer (some a)) (recv (R.object,R.block,R.id,0,0,0,0,⟨none,0,0⟩))) h' fun _ h4=>aE.ok [] h4∧Sp h h4 [aA a aF (bc (R.object,R.block,R.id,0,0,0,0,⟨none,0,0⟩)),aA a1 aF (bc (0,0,0,0,0,0,0,⟨none,0,0⟩)),an aB r 1 az x]:=fun{h' a} H'=>
    H'.storeAll ag 2 rfl rfl (bc (R.object,R.block,R.id,0,0,0,0,⟨none,0,0⟩)) rfl rfl rfl rfl fun h4 H4=>⟨trivial,H4.cL [2,0,1]⟩
   have A_:∀{h':Heap} {Bs:List HP} {K:Int→Heap→Prop},Sp h h' (aA a1 aF (bc (0,0,0,0,0,0,0,⟨none,0,0⟩))::an aB r 1 az x::Bs)→K R.object h'→af Tryz.prog eS #[.slice r.ptr 3 r.cap] (.one (.sc (.int .i64))) h' K:=fun{h' Bs K} H' hK=>by
    refine(tA (rd H')).mono ?_
    rintro _ _ ⟨rfl,rfl⟩
    exact⟨_,rfl,hK⟩
   have B_:∀{h':Heap} {Bs:List HP} {K:Int→Heap→Prop},Sp h h' (aA a1 aF (bc (0,0,0,0,0,0,0,⟨none,0,0⟩))::an aB r 1 az x::Bs)→K R.block h'→af Tryz.prog eS #[.slice (if r.cap=3 then r.ptr else r.ptr.map (·.add (3*1))) 1 (r.cap-3)] (.one (.sc (.int .i64))) h' K:=fun{h' Bs K} H' hK=>by
    refine(tB 3 1 (by decide) (by decide) (rd H')).mono ?_
    rintro _ _ ⟨rfl,rfl⟩
    exact⟨_,rfl,by rw[eb];exact hK⟩
   have C_:∀{h':Heap} {Bs:List HP} {K:Int→Heap→Prop},Sp h h' (aA a1 aF (bc (0,0,0,0,0,0,0,⟨none,0,0⟩))::an aB r 1 az x::Bs)→K R.id h'→af Tryz.prog eS #[.slice (if r.cap=4 then r.ptr else r.ptr.map (·.add (4*1))) 2 (r.cap-4)] (.one (.sc (.int .i64))) h' K:=fun{h' Bs K} H' hK=>by
    refine(tB 4 2 (by decide) (by decide) (rd H')).mono ?_
    rintro _ _ ⟨rfl,rfl⟩
    exact⟨_,rfl,by rw[ei];exact hK⟩
   refine⟨⟨by decide,by omega⟩,⟨by decide,by decide,by omega⟩,⟨by decide,by decide,by omega⟩,A_ H2 ⟨trivial,B_ H2 ⟨trivial,C_ H2 ⟨trivial,?_⟩,?_⟩,?_⟩,?_⟩
   ·refine H2.alloc ag rfl fun a9 h9 H9=>⟨trivial,?_⟩
    exact fin H9
   ·refine H2.alloc ag rfl fun a9 h9 H9=>⟨trivial,?_⟩
    exact C_ H9 ⟨trivial,fin H9⟩
   ·refine H2.alloc ag rfl fun a9 h9 H9=>⟨trivial,?_⟩
    exact B_ H9 ⟨trivial,C_ H9 ⟨trivial,fin H9⟩⟩
   ·refine H2.alloc ag rfl fun a9 h9 H9=>⟨trivial,?_⟩
    exact A_ H9 ⟨trivial,B_ H9 ⟨trivial,C_ H9 ⟨trivial,fin H9⟩⟩⟩
  ·rintro a9 h5 H5
   have hseed:0≤R.seed∧R.seed<4294967296:=by
    have:=Ao ((x.drop 9).take 4) (by simp;omega)
    rw[hR];exact⟨this.1,this.2.1⟩
   have e6:cy ((x.drop 6).take 1)=R.p.1:=by rw[hR];rfl
   have e7:cy ((x.drop 7).take 1)=R.p.2.1:=by rw[hR];rfl
   have e8:cy ((x.drop 8).take 1)=R.p.2.2:=by rw[hR];rfl
   have e9:cy ((x.drop 9).take 4)=R.seed:=by rw[hR];rfl
   refine aS ⟨⟨by decide,by decide,by omega⟩,⟨by decide,by decide,by omega⟩,⟨by decide,by decide,by omega⟩,(tB 6 1 (by decide) (by decide) (B2 H5)).mono ?_⟩
   rintro _ _ ⟨rfl,rfl⟩
   refine⟨_,rfl,trivial,(tB 7 1 (by decide) (by decide) (B2 H5)).mono ?_⟩
   rintro _ _ ⟨rfl,rfl⟩
   refine⟨_,rfl,trivial,(tB 8 1 (by decide) (by decide) (B2 H5)).mono ?_⟩
   rintro _ h26 ⟨rfl,rfl⟩
   refine⟨_,rfl,trivial,?_⟩
   dsimp only
   rw[e6,e7,e8]
   refine H5.store ag 0 rfl rfl 3 [.int .i64 R.p.1,.int .i64 R.p.2.1,.int .i64 R.p.2.2] rfl rfl rfl (by simp) fun h27 H27=>⟨trivial,?_⟩
   have H27:Sp h h27 [aA a9 aF (bc (R.object,R.block,R.id,R.p.1,R.p.2.1,R.p.2.2,0,⟨none,0,0⟩)),aA a1 aF (bc (0,0,0,0,0,0,0,⟨none,0,0⟩)),an aB r 1 az x]:=H27
   refine⟨⟨by decide,by decide,by omega⟩,(tB 9 4 (by decide) (by decide) (B2 H27)).mono ?_⟩
   rintro _ h29 ⟨rfl,rfl⟩
   refine⟨_,rfl,?_⟩
   dsimp only
   have ew:IntKind.wrap .u32 (cy ((x.drop 9).take 4))=R.seed:=by
    rw[e9]
    unfold IntKind.wrap
    simp[IntKind.bits,IntKind.signed]
    omega
   rw[ew]
   refine H27.store ag 0 rfl rfl 6 [.int .u32 R.seed] rfl rfl rfl (by simp) fun h30 H30=>?_
   have H30:Sp h h30 [aA a9 aF (bc (R.object,R.block,R.id,R.p.1,R.p.2.1,R.p.2.2,R.seed,⟨none,0,0⟩)),aA a1 aF (bc (0,0,0,0,0,0,0,⟨none,0,0⟩)),an aB r 1 az x]:=H30
   refine⟨R.p,(H30.box 0 rfl).rv 3 rfl rfl rfl,(dd R.p h30).mono ?_⟩
   rintro _ h31 ⟨rfl,R31⟩
   have H31:Sp h h31 [aA a9 aF (bc (R.object,R.block,R.id,R.p.1,R.p.2.1,R.p.2.2,R.seed,⟨none,0,0⟩)),aA a1 aF (bc (0,0,0,0,0,0,0,⟨none,0,0⟩)),an aB r 1 az x]:=H30.up R31.ai
   refine⟨_,rfl,aW (fun g=>bad (H31.cg 2 [1,0]) (by rw[htR,if_neg (fun hh=>by rw[g]at hh;cases hh.1)])) fun g=>?_⟩
   have hmp:=(dJ R.p).1 g
   refine⟨R.p.2.2,(H31.box 0 rfl).qR 3 2 rfl,?_⟩
   rw[Go.Vc.wrap_small ((13:Int)+R.p.2.2) (by omega) (by omega)]
   refine⟨⟨by decide,by omega,by omega⟩,?_⟩
   have esz:((13:Int)+R.p.2.2).toNat-(13:Int).toNat=R.p.2.2.toNat:=by omega
   rw[esz]
   have hdat:(x.drop 13).take R.p.2.2.toNat=R.data:=by rw[hR];rfl
   have hsub:=((B2 H31).drop 13 hrc).take R.p.2.2.toNat (by rw[List.length_drop];omega)
   rw[hdat]at hsub
   have hdl:R.data.length=R.p.2.2.toNat:=by rw[←hdat];simp;omega
   refine(fG ⟨if r.cap=13 then r.ptr else r.ptr.map (·.add (13*1)),R.p.2.2.toNat,r.cap-13⟩ R.data h31 hsub (by omega)).mono ?_
   rintro _ h33 ⟨u,rfl,R33⟩
   have H33:=H31.comp R33
   refine⟨u,rfl,?_⟩
   refine H33.store ag 0 rfl rfl 7 [.slice u.ptr u.len u.cap] rfl rfl rfl (by simp) fun h34 H34=>?_
   have H34:Sp h h34 [aA a9 aF (bc (R.object,R.block,R.id,R.p.1,R.p.2.1,R.p.2.2,R.seed,u)),aA a1 aF (bc (0,0,0,0,0,0,0,⟨none,0,0⟩)),an aB r 1 az x,an aB u 1 az R.data]:=H34
   obtain⟨X,hX⟩:∃X:aR,X=(R.object,R.block,R.id,R.p.1,R.p.2.1,R.p.2.2,R.seed,u):=⟨_,rfl⟩
   rw[←hX]at H34
   have hel:∀{h':Heap} {q:aj},Seq h' q u 1 az R.data→cN.p h' q X R:=fun{h' q} hs=>by rw[hX];exact⟨⟨rfl,rfl,rfl,rfl,rfl,hseed⟩,hs⟩
   refine⟨X,(H34.box 0 rfl).aY _ rfl,(BJ X R h34 (hel (H34.seq 3 rfl fun _=>rfl))).mono ?_⟩
   rintro _ h35 ⟨s5,rfl,R35⟩
   have H35:=H34.comp R35
   refine⟨s5,rfl,(l4 b s5 c (p8 R) h35 (hb.up H35.ai) (H35.seq 4 rfl fun _=>rfl)).mono ?_⟩
   rintro _ h36 ⟨rfl,rfl⟩
   refine⟨_,rfl,aW (fun g2=>bad (H35.cg 2 [1,0]) (by rw[htR,if_neg (fun hh=>(of_decide_eq_false g2) hh.2.symm)])) fun g2=>?_⟩
   have g2:c=p8 R:=of_decide_eq_true g2
   refine⟨X,(H35.box 0 rfl).aY _ rfl,?_⟩
   refine H35.storeAll ag 1 rfl rfl (bc X) rfl rfl rfl rfl fun h38 H38=>?_
   have hsome:fQ c=some R:=by rw[htR,if_pos ⟨g,g2.symm⟩]
   refine⟨X,(H38.box 1 rfl).aY _ rfl,X,by rw[hsome];rfl,fun hn=>(by rw[hsome]at hn;cases hn),fun r' hr'=>?_⟩
   rw[hsome]at hr'
   injection hr' with hr'
   subst hr'
   have H39:Sp h h38 [an aB u 1 az R.data]:=H38.cL [3]
   exact H39.fl 0 rfl fun q hq=>hel (hq.1.seq (fun _=>rfl) hq.2)
end Go.Proofs.YtkciobclldnoiaaGreatDoor
namespace Go.Vc
open Go Wl Go.Proofs.YtkciobclldnoiaaGreatDoor
section
variable {B:aj} {h0 h h':Heap} {As L:List HP} {X Y Z:HP}
theorem aa.Ii (H:aa B h0 h (X::Y::(L++As))):aa B h0 h (L++(X::Y::As)):=
 H.pick (fun i=>if i<L.length then i+2 else if i=L.length then 0 else if i=L.length+1 then 1 else i) (fun a b hab=>by(try dsimp only at hab);split at hab<;>split at hab<;>(try split at hab)<;>(try split at hab)<;>(try split at hab)<;>(try split at hab)<;>omega) fun i A hi=>by
  try dsimp only
  by_cases hl:i<L.length
  ·rw[List.getElem?_append_left hl]at hi
   rw[if_pos hl,List.getElem?_cons_succ,List.getElem?_cons_succ,List.getElem?_append_left hl];exact hi
  ·rw[List.getElem?_append_right (by omega)]at hi
   rw[if_neg hl]
   by_cases h0':i=L.length
   ·subst h0';rw[if_pos rfl];rw[Nat.sub_self]at hi;exact hi
   ·rw[if_neg h0']
    by_cases h1':i=L.length+1
    ·subst h1';rw[if_pos rfl];rw[show L.length+1-L.length=1 by omega]at hi;exact hi
    ·rw[if_neg h1']
     obtain⟨j,rfl⟩:∃j,i=L.length+(j+2):=⟨i-L.length-2,by omega⟩
     rw[Nat.add_sub_cancel_left,List.getElem?_cons_succ,List.getElem?_cons_succ]at hi
     rw[show L.length+(j+2)=(L.length+j)+1+1 by omega,List.getElem?_cons_succ,List.getElem?_cons_succ,List.getElem?_append_right (by omega),Nat.add_sub_cancel_left];exact hi
theorem aa.G1 (n:Nat) (hn:L[n]?=some X) (H:aa B h0 h (Y::Z::(L++As))):aa B h0 h (X::Z::Y::(L.set n emp++As)):=by
 have hlt:=(List.getElem?_eq_some_iff.1 hn).1
 have H1:=H.cons (n+2) (A:=X) (by rw[List.getElem?_cons_succ,List.getElem?_cons_succ,List.getElem?_append_left hlt];exact hn)
 have e:(Y::Z::(L++As)).set (n+2) emp=Y::Z::(L.set n emp++As):=by
  rw[List.set_cons_succ,List.set_cons_succ,List.set_append_left _ _ hlt]
 rw[e]at H1
 exact H1.cg 3 [0,2,1]
theorem aa.Ck (n:Nat) (hn:n<L.length) (H:aa B h0 h (X::Z::Y::(L.set n emp++As))):aa B h0 h (Y::Z::(L.set n X++As)):=
 H.pick (fun i=>if i=0 then 2 else if i=1 then 1 else if i=n+2 then 0 else i+1) (fun a b hab=>by(try dsimp only at hab);split at hab<;>split at hab<;>(try split at hab)<;>(try split at hab)<;>(try split at hab)<;>(try split at hab)<;>omega) fun i A hi=>by
  try dsimp only
  match i,hi with
  |0,hi=>exact hi
  |1,hi=>exact hi
  |i+2,hi=>
   rw[if_neg (by omega),if_neg (by omega)]
   rw[List.getElem?_cons_succ,List.getElem?_cons_succ]at hi
   by_cases hin:i=n
   ·subst hin
    rw[List.getElem?_append_left (by simpa using hn),List.getElem?_set_self hn]at hi
    rw[if_pos rfl];exact hi
   ·rw[if_neg (by omega),List.getElem?_cons_succ,List.getElem?_cons_succ,List.getElem?_cons_succ]
    by_cases hl:i<L.length
    ·rw[List.getElem?_append_left (by simpa using hl),List.getElem?_set_ne (by omega)]at hi
     rw[List.getElem?_append_left (by simpa using hl),List.getElem?_set_ne (by omega)];exact hi
    ·rw[List.getElem?_append_right (by simp;omega),List.length_set]at hi
     rw[List.getElem?_append_right (by simp;omega),List.length_set];exact hi
end
structure Kit where
 tS:Nat
 tP:Nat
 tD:Nat
 f:Addr→bf→Sl→Sl→List Value
def HI (k:Kit) (pw:Addr) (a:Option Addr) (d:Option bf):HP:=match a,d with
 |some a,some d=>gl k.tD (k.f pw) a d
 |_,_=>emp
abbrev cA (mc:List Value) (pw:Addr) (offs:Int) (da:List (Option Addr)):List Value:=mc++(.pointer (some pw)::.int .i64 offs::da.map .pointer)
structure dG (mc:List Value) (da:List (Option Addr)) (ds:aQ):Prop where
 l8:mc.length=8
 la:da.length=64
 ls:ds.length=64
 same:∀i:Nat,(da.getD i none).isSome=(ds.getD i none).isSome
abbrev eI (k:Kit) (pw:Addr) (da:List (Option Addr)) (ds:aQ):List HP:=List.zipWith (HI k pw) da ds
def bO (k:Kit) (a pw:Addr) (mc:List Value) (offs:Int) (da:List (Option Addr)) (w:Pow) (ds:aQ):HP:=
 (HP.all (aA a k.tS (cA mc pw offs da)::cQ k.tP pw w::eI k pw da ds)).and (dG mc da ds)
section
variable {k:Kit} {B:aj} {h0 h h':Heap} {As:List HP} {a pw:Addr} {mc:List Value} {offs:Int} {da:List (Option Addr)} {w w':Pow} {ds:aQ} {d d':bf} {n:Nat}
theorem Aq (ok:dG mc da ds):(eI k pw da ds).length=64:=by simp[eI,ok.la,ok.ls]
theorem aa.oC (H:aa B h0 h (bO k a pw mc offs da w ds::As)):dG mc da ds∧aa B h0 h (aA a k.tS (cA mc pw offs da)::cQ k.tP pw w::(eI k pw da ds++As)):=by
 obtain⟨H,ok⟩:=H.sW
 exact⟨ok,H.na⟩
theorem aa.qT (ok:dG mc da ds) (H:aa B h0 h (aA a k.tS (cA mc pw offs da)::cQ k.tP pw w::(eI k pw da ds++As))):aa B h0 h (bO k a pw mc offs da w ds::As):=
 (aa.closeAll (aA a k.tS (cA mc pw offs da)::cQ k.tP pw w::eI k pw da ds) H).tosW ok
theorem dG.addr (ok:dG mc da ds) (hd:ds[n]?=some (some d)):∃b,da[n]?=some (some b):=by
 have hn:n<64:=by have:=(List.getElem?_eq_some_iff.1 hd).1;rw[ok.ls]at this;exact this
 have h1:=ok.same n
 rw[List.getD_eq_getElem?_getD,List.getD_eq_getElem?_getD,hd]at h1
 have h2:n<da.length:=by rw[ok.la];exact hn
 rw[List.getElem?_eq_getElem h2]at h1⊢
 simp at h1
 obtain⟨b,hb⟩:=Option.isSome_iff_exists.1 h1
 exact⟨b,by rw[hb]⟩
theorem dG.Ey (ok:dG mc da ds) (hn:n<64) (hd:ds[n]?=some none):da[n]?=some none:=by
 have h1:=ok.same n
 rw[List.getD_eq_getElem?_getD,List.getD_eq_getElem?_getD,hd]at h1
 have h2:n<da.length:=by rw[ok.la];exact hn
 rw[List.getElem?_eq_getElem h2]at h1⊢
 simp at h1
 rw[h1]
theorem dG.set (ok:dG mc da ds) {b:Addr} (hb:da[n]?=some (some b)):dG mc da (ds.set n (some d')):=by
 refine⟨ok.l8,ok.la,by rw[List.length_set];exact ok.ls,fun i=>?_⟩
 by_cases hin:n=i
 ·subst hin
  have hn:n<ds.length:=by have:=(List.getElem?_eq_some_iff.1 hb).1;rw[ok.la]at this;rw[ok.ls];exact this
  rw[List.getD_eq_getElem?_getD,hb,List.getD_eq_getElem?_getD,List.getElem?_set_self hn];rfl
 ·rw[List.getD_eq_getElem?_getD (l:=ds.set n _),List.getElem?_set_ne hin,←List.getD_eq_getElem?_getD];exact ok.same i
theorem FI {b:Addr} (hb:da[n]?=some (some b)) (hn:n<ds.length):(eI k pw da ds).set n (gl k.tD (k.f pw) b d')=eI k pw da (ds.set n (some d')):=by
 apply List.ext_getElem?
 intro j
 have hna:n<da.length:=(List.getElem?_eq_some_iff.1 hb).1
 simp only[eI,List.getElem?_set,List.getElem?_zipWith,List.length_zipWith]
 by_cases hij:n=j
 ·subst hij
  rw[if_pos rfl,if_pos (by omega),if_pos rfl,if_pos hn,hb];rfl
 ·simp[hij]
def yD (k:Kit) (a pw:Addr) (mc:List Value) (offs:Int) (da:List (Option Addr)) (ds:aQ) (n:Nat):HP:=
 (HP.all (aA a k.tS (cA mc pw offs da)::(eI k pw da ds).set n emp)).and (dG mc da ds)
theorem aa.jb (H:aa B h0 h (bO k a pw mc offs da w ds::As)) (hd:ds[n]?=some (some d)):∃b,da[n]?=some (some b)∧aa B h0 h (gl k.tD (k.f pw) b d::cQ k.tP pw w::yD k a pw mc offs da ds n::As):=by
 obtain⟨ok,H1⟩:=H.oC
 obtain⟨b,hb⟩:=ok.addr hd
 refine⟨b,hb,?_⟩
 have hX:(eI k pw da ds)[n]?=some (gl k.tD (k.f pw) b d):=by
  simp only[eI,List.getElem?_zipWith,hb,hd];rfl
 have H2:=H1.G1 n hX
 have H3:aa B h0 h (gl k.tD (k.f pw) b d::cQ k.tP pw w::((aA a k.tS (cA mc pw offs da)::(eI k pw da ds).set n emp)++As)):=H2
 exact(((aa.closeAll _ H3.Ii).tosW ok).cg 3 [1,2,0]:aa B h0 h (gl k.tD (k.f pw) b d::cQ k.tP pw w::yD k a pw mc offs da ds n::As))
theorem aa.tz {b:Addr} (hb:da[n]?=some (some b)) (H:aa B h0 h (gl k.tD (k.f pw) b d'::cQ k.tP pw w'::yD k a pw mc offs da ds n::As)):aa B h0 h (bO k a pw mc offs da w' (ds.set n (some d'))::As):=by
 have H1:aa B h0 h (yD k a pw mc offs da ds n::cQ k.tP pw w'::gl k.tD (k.f pw) b d'::As):=H.cg 3 [2,1,0]
 obtain⟨H1,ok⟩:=H1.sW
 have H2:=H1.na
 have hn:n<ds.length:=by have:=(List.getElem?_eq_some_iff.1 hb).1;rw[ok.la]at this;rw[ok.ls];exact this
 have hl:=Aq (k:=k) (pw:=pw) ok
 have hln:n<(eI k pw da ds).length:=by rw[hl,←ok.ls];exact hn
 obtain⟨L,hL⟩:∃L,L=eI k pw da ds:=⟨_,rfl⟩
 rw[←hL]at H2 hln
 have H3:aa B h0 h (gl k.tD (k.f pw) b d'::cQ k.tP pw w'::aA a k.tS (cA mc pw offs da)::(L.set n emp++As)):=by
  refine H2.pick (fun i=>if i=0 then 1+L.length+1 else if i=1 then 1+L.length else if i=2 then 0 else if i<3+L.length then i-2 else i) (fun x y hab=>by(try dsimp only at hab);split at hab<;>split at hab<;>(try split at hab)<;>(try split at hab)<;>(try split at hab)<;>(try split at hab)<;>(try split at hab)<;>(try split at hab)<;>omega) fun i A hi=>?_
  try dsimp only
  have hlen:(aA a k.tS (cA mc pw offs da)::L.set n emp).length=1+L.length:=by simp;omega
  match i,hi with
  |0,hi=>rw[if_pos rfl,List.getElem?_append_right (by omega),hlen,show 1+L.length+1-(1+L.length)=1 by omega];exact hi
  |1,hi=>rw[if_neg (by omega),if_pos rfl,List.getElem?_append_right (by omega),hlen,Nat.sub_self];exact hi
  |2,hi=>rw[if_neg (by omega),if_neg (by omega),if_pos rfl];exact hi
  |i+3,hi=>
   rw[if_neg (by omega),if_neg (by omega),if_neg (by omega)]
   rw[List.getElem?_cons_succ,List.getElem?_cons_succ,List.getElem?_cons_succ]at hi
   by_cases hil:i<L.length
   ·rw[if_pos (by omega),show i+3-2=i+1 by omega,List.getElem?_append_left (by rw[hlen];omega),List.getElem?_cons_succ]
    rw[List.getElem?_append_left (by simpa using hil)]at hi;exact hi
   ·rw[if_neg (by omega),List.getElem?_append_right (by rw[hlen];omega),hlen,show i+3-(1+L.length)=(i-L.length)+2 by omega,List.getElem?_cons_succ,List.getElem?_cons_succ]
    rw[List.getElem?_append_right (by simp;omega),List.length_set]at hi;exact hi
 have H4:=aa.Ck n hln H3
 rw[hL,FI hb hn]at H4
 exact H4.qT (ok.set hb)
end
end Go.Vc
namespace Go.Vc
open Go Wl Go.Proofs.YtkciobclldnoiaaGreatDoor
def wO:ik (Int×Sl) (Int×List UInt8):=⟨fun h q a b=>a.1=b.1∧Seq h q a.2 1 az b.2,fun a hp=>⟨a.1,a.2.ai hp⟩,fun a hq=>⟨a.1,a.2.mono hq⟩⟩
def piv (x:Int×Sl):List Value:=[.int .i64 x.1,.slice x.2.ptr x.2.len x.2.cap]
theorem Cl:∀x,∀c∈piv x,c.oneCell'=true:=by intro x c hc;simp[piv]at hc;rcases hc with rfl|rfl<;>rfl
def iV (da:List (Option Addr)) (slot:Int):Option Addr:=if 0≤slot∧slot<64 then(da[slot.toNat]?).join else none
theorem l5 {mc:List Value} {da:List (Option Addr)} {ds:aQ} (ok:dG mc da ds) (slot:Int):
  (bU ds slot=none∧iV da slot=none)∨∃(n:Nat) (d:bf) (b:Addr),slot=n∧n<64∧ds[n]?=some (some d)∧bU ds slot=some d∧da[n]?=some (some b)∧iV da slot=some b:=by
 unfold bU iV
 by_cases h:0≤slot∧slot<64
 ·rw[if_pos h,if_pos h]
  have hn:slot.toNat<ds.length:=by rw[ok.ls];omega
  cases hd:ds[slot.toNat]with
  |none=>
   have h1:ds[slot.toNat]?=some none:=by rw[List.getElem?_eq_getElem hn,hd]
   exact .inl ⟨by rw[h1];rfl,by rw[ok.Ey (by omega) h1];rfl⟩
  |some d=>
   have h1:ds[slot.toNat]?=some (some d):=by rw[List.getElem?_eq_getElem hn,hd]
   obtain⟨b,hb⟩:=ok.addr h1
   exact .inr ⟨slot.toNat,d,b,by omega,by omega,h1,by rw[h1];rfl,hb,by rw[hb];rfl⟩
 ·rw[if_neg h,if_neg h];exact .inl ⟨rfl,rfl⟩
theorem Ez {mc:List Value} {pw:Addr} {offs:Int} {da:List (Option Addr)} (h8:mc.length=8) (n:Nat):(cA mc pw offs da)[10+n]?=(da[n]?).map .pointer:=by
 unfold cA
 rw[List.getElem?_append_right (by omega),h8,show 10+n-8=n+1+1 by omega,List.getElem?_cons_succ,List.getElem?_cons_succ,List.getElem?_map]
theorem FJ {mc:List Value} {pw:Addr} {offs:Int} {da:List (Option Addr)} (h8:mc.length=8):(cA mc pw offs da)[8]?=some (.pointer (some pw)):=by
 unfold cA;rw[List.getElem?_append_right (by omega),h8];rfl
theorem Db {mc:List Value} {pw:Addr} {offs:Int} {da:List (Option Addr)} (h8:mc.length=8):(cA mc pw offs da)[9]?=some (.int .i64 offs):=by
 unfold cA;rw[List.getElem?_append_right (by omega),h8];rfl
end Go.Vc
namespace Go.Proofs.YtkciobclldnoiaaGreatDoor
open Go Go.Vc Go.Proofs Wl
set_option maxRecDepth 100000
abbrev cK:Go.Vc.Kit:=⟨gq,bo,bN,fun pw=>fH pw⟩
theorem Ar {e:TypeId} (s:Sl) (l:List Int) (h:Heap) (ho:Own h e s 1 aC l) (hsz:l.length<2^40):ae Tryz.prog kY #[.slice s.ptr s.len s.cap] h fun v h'=>v=.slice s.ptr (Lib.compact l).length s.cap∧Own h' e ⟨s.ptr,(Lib.compact l).length,s.cap⟩ 1 aC (Lib.compact l)∧aD (fun b=>¬s.on b) h h':=
 uh Tryz.slices_Compact_int Tryz.slices_Compact_int_empty ho hsz
section
variable {B:aj} {h0 h h':Heap} {As:List HP} {a pw:Addr} {mc:List Value} {offs:Int} {da:List (Option Addr)} {w:Pow} {ds:aQ}
theorem iK (slot:Int) (ok:dG mc da ds) (hb:b9 h a gq (cA mc pw offs da)):ae Tryz.prog bx #[.pointer (some a),.int .i64 slot] h fun v h'=>v=.pointer (iV da slot)∧h'=h:=by
 refine nf (some a) slot ?_
 unfold jG
 have no:¬(0≤slot∧slot<64)→Value.pointer none=.pointer (iV da slot)∧h=h:=fun e=>by unfold iV;rw[if_neg e];exact⟨rfl,rfl⟩
 refine aS (bH (fun e=>by cases e) fun _=>ah (fun e=>no (by omega)) fun e1=>ah (fun e=>no (by omega)) fun e2=>?_)
 have hn:slot.toNat<da.length:=by rw[ok.la];omega
 refine⟨a,rfl,⟨by omega,by omega⟩,da[slot.toNat],?_,?_,rfl⟩
 ·rw[Nat.mul_one]
  refine hb.qR 10 slot.toNat ?_
  rw[Ez ok.l8,List.getElem?_eq_getElem hn];rfl
 ·unfold iV;rw[if_pos (by omega),List.getElem?_eq_getElem hn];rfl
theorem aa.dL (H:aa B h0 h (bO cK a pw mc offs da w ds::As)):dG mc da ds∧b9 h a gq (cA mc pw offs da):=by
 obtain⟨ok,H1⟩:=Go.Vc.aa.oC H
 exact⟨ok,H1.box 0 rfl⟩
theorem Dc (s:Sl) (l:List Int) (hs:Rd h s 1 aC l) (hl:l.length≤2^30) (H:aa B h0 h (bO cK a pw mc offs da w ds::As)):
  ae Tryz.prog A6 #[.func (.func bx) #[.pointer (some a)] #[],.slice s.ptr s.len s.cap] h fun v h'=>∃r:Sl,v=.slice r.ptr r.len r.cap∧Sp h h' [an aO r 1 aC (bp ds l)]:=by
 refine zH (bx,#[.pointer (some a)],#[]) s ?_
 unfold ux
 have hsl:=hs.len
 obtain⟨ok,hb⟩:=aa.dL H
 refine au (fun t:Sl×Nat=>(t.1,(t.2:Int))) (fun t h'=>t.2≤l.length∧Sp h h' [an aO t.1 1 aC (bp ds (l.take t.2))]) (fun t=>l.length-t.2) (⟨none,0,0⟩,0) rfl ⟨by simp,by simpa[bp]using(Sp.refl h).nil aO 1 aC⟩ ?_
 rintro⟨o,i⟩ h1 ⟨hi,H1⟩
 dsimp only at*
 refine ah (fun e=>?_) (fun e=>?_)
 ·have hi':i<l.length:=by omega
  have hsplit:bp ds (l.take (i+1))=bp ds (l.take i)++(if isLive ds l[i]then[l[i]]else[]):=by
   unfold bp;rw[aI _ _ hi',List.filter_append,List.filter_cons,List.filter_nil]
  have hll:(bp ds (l.take i)).length≤l.length:=by
   have:=List.length_filter_le (isLive ds) (l.take i)
   unfold bp;simp at this⊢;omega
  have next:∀{h':Heap} {o':Sl},Sp h h' [an aO o' 1 aC (bp ds (l.take (i+1)))]→∃t':Sl×Nat,((⟨o'.ptr,o'.len,o'.cap⟩:Sl),IntKind.wrap .i64 ((i:Int)+1))=(t'.1,(t'.2:Int))∧(t'.2≤l.length∧Sp h h' [an aO t'.1 1 aC (bp ds (l.take t'.2))])∧l.length-t'.2<l.length-i:=fun{h' o'} H'=>
   ⟨(o',i+1),by dsimp only;rw[Go.Vc.wrap_small _ (by omega) (by omega)];rfl,⟨by dsimp only;omega,H'⟩,by dsimp only;omega⟩
  refine(Seq.up hs H1.ai).bT i rfl hi' l[i] rfl (eV (by rfl) ?_)
  refine(iK l[i] ok (hb.ai H1.ai hb.lt)).mono ?_
  rintro _ h2 ⟨rfl,rfl⟩
  refine⟨_,rfl,?_⟩
  rcases l5 ok l[i]with⟨c1,c2⟩|⟨n,d,b,c0,c1,c2,c3,c4,c5⟩
  ·rw[c2]
   have hlv:isLive ds l[i]=false:=by unfold isLive;rw[c1]
   rw[hlv]at hsplit
   refine aW (fun e=>by cases e) fun _=>next (by rw[hsplit];simpa using H1)
  ·rw[c5]
   have hlv:isLive ds l[i]=!d.lost:=by unfold isLive;rw[c3]
   refine aW (fun _=>?_) fun e=>by cases e
   obtain⟨b',hb',H2⟩:=Go.Vc.aa.jb (aa.up H H1.ai) c2
   rw[c4]at hb'
   injection hb' with hb'
   injection hb' with hb'
   subst hb'
   obtain⟨sd,bd,hdb,_,_⟩:=jA.box H2
   refine(Ep sd bd hdb).mono ?_
   rintro _ h3 ⟨rfl,rfl⟩
   refine⟨_,rfl,aW (fun e=>?_) (fun e=>?_)⟩
   ·rw[hlv,e]at hsplit
    refine H1.push ag 0 rfl jz rfl (by decide) (fun _=>rfl) iX l[i] rfl (by decide) (by omega) fun o' h4 H4=>next ?_
    rw[hsplit];exact H4
   ·rw[hlv,e]at hsplit
    exact next (by rw[hsplit];simpa using H1)
 ·rw[List.take_of_length_le (by omega)]at H1
  exact⟨o,rfl,H1⟩
theorem Dd (s:Sl) (l:List Int) (hS:St B h0 As fun h=>Rd h s 1 aC l) (hl:l.length≤2^30) (hin:∀x∈l,0≤x∧x<64) (H:aa B h0 h (bO cK a pw mc offs da w ds::As)):
  ae Tryz.prog A8 #[.func (.func bx) #[.pointer (some a)] #[],.slice s.ptr s.len s.cap] h fun v h'=>v=.int .i64 (fO (db l) w ds).1∧aa B h0 h' (bO cK a pw mc offs da (fO (db l) w ds).2.1 (fO (db l) w ds).2.2::As):=by
 refine zK (bx,#[.pointer (some a)],#[]) s ?_
 unfold uz
 refine(eT s l h (hS.at [_] H) (by omega)).mono ?_
 rintro _ h1 ⟨r,rfl,R1⟩
 have H1:=H.dv R1
 refine⟨r,rfl,(xr r l h1 (H1.own 0 rfl) (by omega)).mono ?_⟩
 rintro _ h2 ⟨rfl,O2,P2⟩
 have H2:=H1.hG 0 rfl P2 O2
 refine⟨(),rfl,(Ar r (fN l) h2 O2 (by rw[w5];omega)).mono ?_⟩
 rintro _ h3 ⟨rfl,O3,P3⟩
 have H3:=H2.step (D:=an aO ⟨r.ptr,(Lib.compact (fN l)).length,r.cap⟩ 1 aC (Lib.compact (fN l))) 0 rfl fun q hq hlt=>⟨P3.mono fun b _ hb hon=>hb (hq.2 b hon),O3,fun b hb=>⟨Nat.lt_of_lt_of_le (hlt b (hq.2 b hb)) P3.1,.inl (hq.2 b hb)⟩⟩
 rw[CP l hin]at H3⊢
 obtain⟨u,hu⟩:∃u,u=db l:=⟨_,rfl⟩
 rw[←hu]at H3⊢
 have H3:aa B h0 h3 (an aO ⟨r.ptr,u.length,r.cap⟩ 1 aC u::bO cK a pw mc offs da w ds::As):=H3
 have hul:u.length≤64:=by
  have:=List.length_filter_le (fun i=>decide (i∈l)) ((List.range 64).map fun i:Nat=>(i:Int))
  rw[hu];unfold db;simpa using this
 refine⟨⟨r.ptr,u.length,r.cap⟩,rfl,?_⟩
 refine au (fun t:Nat×Pow×aQ=>(t.1:Int)) (fun t h'=>t.1≤u.length∧fO u w ds=fO (u.drop t.1) t.2.1 t.2.2∧aa B h0 h' (an aO ⟨r.ptr,u.length,r.cap⟩ 1 aC u::bO cK a pw mc offs da t.2.1 t.2.2::As)) (fun t=>u.length-t.1) (0,w,ds) rfl ⟨by simp,rfl,H3⟩ ?_
 rintro⟨i,w1,ds1⟩ h4 ⟨hi,hsy,H4⟩
 dsimp only at*
 refine ah (fun e=>?_) (fun e=>?_)
 ·have hi':i<u.length:=by omega
  obtain⟨ok,hb⟩:=aa.dL H4.rest
  rw[List.drop_eq_getElem_cons hi',om]at hsy
  refine(H4.seq 0 rfl fun _=>rfl).bT i rfl hi' u[i] rfl (eV (by rfl) ?_)
  refine(iK u[i] ok hb).mono ?_
  rintro _ h5 ⟨rfl,rfl⟩
  refine⟨_,rfl,?_⟩
  rcases l5 ok u[i]with⟨c1,c2⟩|⟨n,d,b,c0,c1,c2,c3,c4,c5⟩
  ·rw[c2]
   refine(Al h5).mono ?_
   rintro _ h6 ⟨rfl,rfl⟩
   have es:dk w1 ds1 u[i]=(5,w1,ds1):=by unfold dk;rw[c1]
   rw[es]at hsy
   refine⟨5,rfl,cI (fun _=>?_) fun e=>absurd e (by decide)⟩
   have:fO u w ds=(5,w1,ds1):=hsy
   rw[this]
   exact⟨rfl,H4.rest⟩
  ·rw[c5]
   obtain⟨b',hb',H5⟩:=Go.Vc.aa.jb (H4.cg 2 [1,0]) c2
   rw[c4]at hb'
   injection hb' with hb'
   injection hb' with hb'
   subst hb'
   refine(Eo H5).mono ?_
   rintro _ h6 ⟨rfl,H6⟩
   have H7:=Go.Vc.aa.tz (k:=cK) (n:=n) c4 H6
   have es:dk w1 ds1 u[i]=((d.sync w1).1,(d.sync w1).2.1,ds1.set n (some (d.sync w1).2.2)):=by
    unfold dk;rw[c3];simp only[fE,c0,Int.toNat_natCast]
   rw[es]at hsy
   refine⟨_,rfl,cI (fun e2=>?_) fun e2=>?_⟩
   ·have:fO u w ds=((d.sync w1).1,(d.sync w1).2.1,ds1.set n (some (d.sync w1).2.2)):=by rw[hsy];exact if_neg e2
    rw[this]
    exact⟨rfl,H7.j9⟩
   ·refine⟨(i+1,(d.sync w1).2.1,ds1.set n (some (d.sync w1).2.2)),by dsimp only;rw[Go.Vc.wrap_small _ (by omega) (by omega)];rfl,⟨by dsimp only;omega,?_,H7.cg 2 [1,0]⟩,by dsimp only;omega⟩
    rw[hsy];exact if_pos e2
 ·rw[List.drop_of_length_le (by omega)]at hsy
  rw[hsy]
  exact⟨rfl,H4.rest⟩
end
end Go.Proofs.YtkciobclldnoiaaGreatDoor
namespace Go.Vc
open Go Wl
theorem HP.nH {h:Heap}:∀{L:List HP} {q:aj} {i:Nat} {A:HP},(HP.all L).p h q→L[i]?=some A→A.p h q
 |A::L,q,0,A',⟨q1,q2,_,b,_,d,_⟩,hi=>by simp at hi;subst hi;exact A.mono d b
 |A::L,q,i+1,A',⟨q1,q2,_,_,c,_,e⟩,hi=>A'.mono (HP.nH e (by simpa using hi)) c
 |[],_,i,_,_,hi=>by simp at hi
section
variable {α β:Type} {B:aj} {h0 h:Heap} {As:List HP} {e e2 k:Nat} {s:Sl} {f:α→List Value} {ll:List (List α)}
theorem aa.HJ (H:aa B h0 h (dV e s e2 k f ll::As)) (hw:∀x,(f x).length=k):∃rs,aa B h0 h (eC (bC k f) 1 bg s rs ll::As):=by
 obtain⟨rs,H⟩:=H.oh
 obtain⟨H,hl⟩:=H.sW
 refine⟨rs,H.fl 0 rfl fun q hq=>⟨?_,hl,fun i r l h1 h2=>?_⟩⟩
 ·have:=HP.nH (i:=0) hq rfl
  exact this.1.seq (fun _=>rfl) this.2
 ·have hi:i<ll.length:=(List.getElem?_eq_some_iff.1 h2).1
  have hg:=dq (e:=e2) (k:=k) (f:=f) hl i hi
  have:=HP.nH (i:=i+1) hq (by simpa using hg)
  have e1:rs[i]'(by omega)=r:=by rw[List.getElem?_eq_getElem (by omega)]at h1;simpa using h1
  have e2:ll[i]=l:=by rw[List.getElem?_eq_getElem hi]at h2;simpa using h2
  rw[e1,e2]at this
  exact this.1.seq hw this.2
end
end Go.Vc
namespace Wl
def cD (m:aZ) (slots:List Int):List (Int×List UInt8):=slots.flatMap fun n=>(bs m).map fun c=>(n,c)
theorem kb {m:aZ} {slots:List Int} {x:Int×List UInt8} (h:x∈cD m slots):x.1∈slots∧x.2.length=64:=by
 unfold cD at h
 obtain⟨n,hn,hx⟩:=List.mem_flatMap.1 h
 obtain⟨c,hc,rfl⟩:=List.mem_map.1 hx
 exact⟨hn,uf hc⟩
end Wl
namespace Go.Proofs.YtkciobclldnoiaaGreatDoor
open Go Go.Vc Go.Proofs Wl
set_option maxRecDepth 100000
theorem qU (m:aZ) (hz:dM m):(bs m).length≤3000:=by
 have:=tw m hz
 unfold bs fP;simp;omega
abbrev HK:bt C.tomV vS eK 2 [.int .i64 0,.slice none 0 0] 32:=⟨_,_,rfl,rfl,rfl,rfl,rfl,rfl⟩
section
variable {B:aj} {h0 h h':Heap} {As:List HP} {a pw:Addr} {mc:List Value} {offs:Int} {da:List (Option Addr)} {w:Pow} {ds:aQ}
theorem EB (s:Sl) (ys:List (Int×Sl)) (P:List (Int×List UInt8)) (hS:St B h0 As fun h=>mq wO 2 piv h s ys P) (hl:P.length≤2^30) (hin:∀x∈P,(0≤x.1∧x.1<64)∧x.2.length≤2^20) (H:aa B h0 h (bO cK a pw mc offs da w ds::As)):
  ae Tryz.prog CS #[.func (.func bx) #[.pointer (some a)] #[],.slice s.ptr s.len s.cap] h fun v h'=>v=.int .i64 (layAll P w ds).1∧aa B h0 h' (bO cK a pw mc offs da (layAll P w ds).2.1 (layAll P w ds).2.2::As):=by
 refine A0 (bx,#[.pointer (some a)],#[]) s ?_
 unfold xj
 have hsl:=(hS.at [_] H).1.len
 have hyl:=(hS.at [_] H).2.1
 have H0:=(H.nil aO 1 aC).ee
 refine au (fun t:Sl×Nat×Pow×aQ=>(t.1,(t.2.1:Int))) (fun t h'=>t.2.1≤P.length∧fV P w ds=fV (P.drop t.2.1) t.2.2.1 t.2.2.2∧aa B h0 h' (an aO t.1 1 aC ((P.take t.2.1).map Prod.fst)::bO cK a pw mc offs da t.2.2.1 t.2.2.2::As)) (fun t=>P.length-t.2.1) (⟨none,0,0⟩,0,w,ds) rfl ⟨by simp,rfl,by simpa using H0⟩ ?_
 rintro⟨o,i,w1,ds1⟩ h1 ⟨hi,hap,H1⟩
 dsimp only at*
 refine ah (fun e=>?_) (fun e=>?_)
 ·have hi':i<P.length:=by omega
  rw[List.drop_eq_getElem_cons hi',lD]at hap
  have F1:=hS.at [_,_] H1
  have hPi:=hin _ (List.getElem_mem hi')
  refine F1.1.fT (g:=piv) i rfl (by omega) (ys[i]'(by omega)) rfl ?_
  refine H1.alloc ag rfl fun a4 h2 H2=>?_
  have H2:=H2.ee
  refine H2.storeAll ag 0 rfl rfl (piv (ys[i]'(by omega))) rfl rfl rfl rfl fun h3 H3=>?_
  obtain⟨y1,y2⟩:=Fix.row (hS.at [_,_,_] H3) hi'
  have H3:aa B h0 h3 (aA a4 eK (piv (ys[i]'(by omega)))::an aO o 1 aC ((P.take i).map Prod.fst)::bO cK a pw mc offs da w1 ds1::As):=H3
  have H3:=H3.cg 3 [2,0,1]
  obtain⟨ok,hb⟩:=aa.dL H3
  obtain⟨res,hres⟩:∃res,res=cw w1 ds1 P[i].1 P[i].2:=⟨_,rfl⟩
  rw[←hres]at hap
  refine dt (fun _ h'=>res.1=0∧aa B h0 h' (bO cK a pw mc offs da res.2.1 res.2.2::aA a4 eK (piv (ys[i]'(by omega)))::an aO o 1 aC ((P.take i).map Prod.fst)::As)) ?_ ?_
  ·refine dt (fun e h'=>e=res.1∧aa B h0 h' (bO cK a pw mc offs da res.2.1 res.2.2::aA a4 eK (piv (ys[i]'(by omega)))::an aO o 1 aC ((P.take i).map Prod.fst)::As)) ?_ ?_
   ·refine⟨P[i].1,by rw[←y1];exact(H3.box 1 rfl).cell0 rfl,(ys[i]'(by omega)).2,(H3.box 1 rfl).cell rfl,eV (by rfl) ?_⟩
    refine(iK P[i].1 ok hb).mono ?_
    rintro _ h4 ⟨rfl,rfl⟩
    refine⟨_,rfl,⟨(H3.box 1 rfl).cell rfl,trivial⟩,?_⟩
    rcases l5 ok P[i].1 with⟨c1,c2⟩|⟨n,d,b,c0,c1,c2,c3,c4,c5⟩
    ·rw[c2]
     refine(wM (ys[i]'(by omega)).2 P[i].2 h4 y2).mono ?_
     rintro _ h5 ⟨rfl,rfl⟩
     have es:res=(if P[i].2.length≠64 then 1 else 5,w1,ds1):=by rw[hres];unfold cw;rw[c1]
     refine⟨_,rfl,trivial,by rw[es],?_⟩
     rw[es];exact H3
    ·rw[c5]
     obtain⟨b',hb',H5⟩:=Go.Vc.aa.jb H3 c2
     rw[c4]at hb'
     injection hb' with hb'
     injection hb' with hb'
     subst hb'
     refine(BE (ys[i]'(by omega)).2 P[i].2 H5 y2 hPi.2).mono ?_
     rintro _ h6 ⟨rfl,H6⟩
     have H7:=Go.Vc.aa.tz (k:=cK) (n:=n) c4 H6
     have es:res=((d.append w1 P[i].2).1,(d.append w1 P[i].2).2.1,ds1.set n (some (d.append w1 P[i].2).2.2)):=by
      rw[hres];unfold cw;rw[c3];simp only[fE,c0,Int.toNat_natCast]
     refine⟨_,rfl,trivial,by rw[es],?_⟩
     rw[es];exact H7
   ·rintro e4 h4 ⟨rfl,H4⟩
    refine cI (fun e2=>?_) fun e2=>⟨e2,H4⟩
    rw[if_neg e2]at hap
    have:layAll P w ds=res:=by unfold layAll;rw[hap];exact if_neg e2
    rw[this]
    exact⟨rfl,H4.j9.j9⟩
  ·rintro _ h4 ⟨e2,H4⟩
   rw[if_pos e2]at hap
   refine⟨P[i].1,by rw[←y1];exact(H4.box 1 rfl).cell0 rfl,?_⟩
   refine H4.push ag 2 rfl jz rfl (by decide) (fun _=>rfl) iX P[i].1 rfl (by decide) (by simp;omega) fun o' h5 H5=>?_
   refine⟨(o',i+1,res.2.1,res.2.2),by dsimp only;rw[Go.Vc.wrap_small _ (by omega) (by omega)];rfl,⟨by dsimp only;omega,hap,?_⟩,by dsimp only;omega⟩
   dsimp only
   rw[aI _ _ hi',List.map_append]
   exact H5.cg 3 [2,0]
 ·have hie:i=P.length:=by omega
  subst hie
  rw[List.drop_length]at hap
  rw[List.take_length]at H1
  have H2:=(H1.freeze 0 rfl fun _=>rfl).cg 2 [1,0]
  have hla:layAll P w ds=fO (db (P.map Prod.fst)) w1 ds1:=by unfold layAll;rw[hap];rfl
  refine(Dd o (P.map Prod.fst) (St.ud 0 rfl fun h' hh=>hh) (by simp;omega) (fun x hx=>?_) H2).mono ?_
  ·obtain⟨y,hy,rfl⟩:=List.mem_map.1 hx;exact(hin y hy).1
  ·rintro _ h2 ⟨rfl,H3⟩
   refine⟨_,rfl,by rw[hla],?_⟩
   rw[hla];exact H3.j9
theorem BK (x:ct) (m:aZ) (s:Sl) (slots:List Int) (h:Heap) (hx:ga h x m) (hz:dM m) (hs:Rd h s 1 aC slots) (hsl:slots.length≤2^10):
  ae Tryz.prog zC #[fZ x,.slice s.ptr s.len s.cap] h fun v h'=>∃(r:Sl) (ys:List (Int×Sl)),v=.slice r.ptr r.len r.cap∧Sp h h' [eC wO 2 piv r ys (cD m slots)]:=by
 refine xO x s ?_
 unfold rY
 refine(Sp.refl h).boxed fun a1 h1 H1=>?_
 refine⟨x,(H1.box 0 rfl).aY _ rfl,(oB x m h1 (hx.up H1.ai) hz).mono ?_⟩
 rintro _ h2 ⟨r,rfl,R2⟩
 have H2:=H1.dv R2
 refine⟨r,rfl,?_⟩
 obtain⟨rs,H2⟩:=H2.HJ fun _=>rfl
 have hpl:=qU m hz
 obtain⟨pg,hpg⟩:∃pg,pg=bs m:=⟨_,rfl⟩
 rw[←hpg]at H2 hpl
 have F2:=H2.iM 0 rfl
 have hrl:=F2.1.len
 have hrs:=F2.2.1
 have hsn:=hs.len
 obtain⟨T,hT⟩:∃T:Int→List ((Int×Sl)×(Int×List UInt8)),T=fun n=>(rs.zip pg).map fun z=>((n,z.1),(n,z.2)):=⟨_,rfl⟩
 have hTl:∀n,(T n).length=pg.length:=fun n=>by rw[hT];simp;omega
 have hTs:∀n,(T n).map Prod.snd=pg.map fun c=>(n,c):=fun n=>by
  have hz:=List.map_snd_zip (l₁:=rs) (l₂:=pg) (by omega)
  conv=>rhs;rw[←hz]
  rw[hT];simp[List.map_map,Function.comp_def]
 have hTg:∀n j (hj:j<pg.length),(T n)[j]'(by rw[hTl];exact hj)=((n,rs[j]'(by omega)),(n,pg[j])):=fun n j hj=>by subst hT;simp
 have H3:Sp h h2 [an eK ⟨none,0,0⟩ 2 piv (((slots.take 0).flatMap T).map Prod.fst),eC (bC 1 az) 1 bg r rs pg]:=(H2.nil eK 2 piv).cL [2,0]
 have htot:∀i,i≤slots.length→((slots.take i).flatMap T).length≤i*3000:=fun i=>by
  induction i with
  |zero=>simp
  |succ i ih=>
   intro hi
   rw[aI _ _ (show i<slots.length by omega),List.flatMap_append,List.length_append]
   have h1:=ih (by omega)
   have h2:([slots[i]].flatMap T).length=pg.length:=by rw[List.flatMap_cons,List.flatMap_nil,List.append_nil,hTl]
   omega
 refine au (fun t:Sl×Nat=>(t.1,(t.2:Int))) (fun t h'=>t.2≤slots.length∧Sp h h' [an eK t.1 2 piv (((slots.take t.2).flatMap T).map Prod.fst),eC (bC 1 az) 1 bg r rs pg]) (fun t=>slots.length-t.2) (⟨none,0,0⟩,0) rfl ⟨by simp,H3⟩ ?_
 rintro⟨o,i⟩ h3 ⟨hi,H3⟩
 dsimp only at*
 refine ah (fun e=>?_) (fun e=>?_)
 ·have hi':i<slots.length:=by omega
  have ht:=htot i hi
  have hb:i*3000≤2^10*3000:=Nat.mul_le_mul_right _ (by omega)
  refine(Seq.up hs H3.ai).bT i rfl hi' slots[i] rfl ?_
  refine au (fun t:Sl×Nat=>(t.1,(t.2:Int))) (fun t h'=>t.2≤pg.length∧Sp h h' [an eK t.1 2 piv (((slots.take i).flatMap T).map Prod.fst++((T slots[i]).take t.2).map Prod.fst),eC (bC 1 az) 1 bg r rs pg]) (fun t=>pg.length-t.2) (o,0) rfl ⟨by simp,by simpa using H3⟩ ?_
  rintro⟨u,j⟩ h4 ⟨hj,H4⟩
  dsimp only at*
  refine ah (fun e2=>?_) (fun e2=>?_)
  ·have hj':j<pg.length:=by omega
   refine(H4.iM 1 rfl).1.sV j rfl (by omega) ?_
   refine H4.push ag 0 rfl HK rfl (by decide) (fun _=>rfl) Cl (slots[i],rs[j]'(by omega)) rfl (by decide) (by simp only[List.length_append,List.length_map,List.length_take,hTl];omega) fun u' h5 H5=>?_
   refine⟨(u',j+1),by dsimp only;rw[Go.Vc.wrap_small _ (by omega) (by omega)];rfl,⟨by dsimp only;omega,?_⟩,by dsimp only;omega⟩
   dsimp only
   rw[aI (T slots[i]) j (by rw[hTl];exact hj'),List.map_append,hTg _ _ hj',←List.append_assoc]
   exact H5
  ·have hje:j=pg.length:=by omega
   subst hje
   rw[List.take_of_length_le (l:=T slots[i]) (by rw[hTl];exact Nat.le_refl _)]at H4
   refine⟨(u,i+1),by dsimp only;rw[Go.Vc.wrap_small _ (by omega) (by omega)];rfl,⟨by dsimp only;omega,?_⟩,by dsimp only;omega⟩
   dsimp only
   rw[aI _ _ hi',List.flatMap_append,List.map_append,List.flatMap_cons,List.flatMap_nil,List.append_nil]
   exact H4
 ·have hie:i=slots.length:=by omega
  subst hie
  rw[List.take_length]at H3
  refine⟨o,(slots.flatMap T).map Prod.fst,rfl,?_⟩
  have H4:=(H3.freeze 0 rfl fun _=>rfl).iL
  refine H4.fl 0 rfl fun q ⟨q1,q2,_,b,c,z1,z2⟩=>?_
  have hsnd:(slots.flatMap T).map Prod.snd=cD m slots:=by
   unfold cD
   rw[List.map_flatMap,←hpg]
   congr 1;funext n;exact hTs n
  rw[←hsnd]
  refine⟨z2.mono c,by simp,fun j r' l' g1 g2=>?_⟩
  rw[List.getElem?_map]at g1 g2
  cases g3:(slots.flatMap T)[j]? with
  |none=>rw[g3]at g1;cases g1
  |some t=>
   rw[g3]at g1 g2;simp at g1 g2;subst g1;subst g2
   obtain⟨n,_,hn⟩:=List.mem_flatMap.1 (List.mem_of_getElem? g3)
   rw[hT]at hn
   obtain⟨z,hz2,rfl⟩:=List.mem_map.1 hn
   obtain⟨k,hk,rfl⟩:=List.mem_iff_getElem.1 hz2
   rw[List.getElem_zip]
   exact⟨rfl,(z1.2.2 k _ _ (List.getElem?_eq_getElem _) (List.getElem?_eq_getElem _)).mono b⟩
end
end Go.Proofs.YtkciobclldnoiaaGreatDoor
namespace Go.Proofs.YtkciobclldnoiaaGreatDoor
open Go Go.Vc Go.Proofs Wl
set_option maxRecDepth 100000
section
variable {B:aj} {h0 h h':Heap} {As:List HP} {s:Sl} {d:List aR}
theorem De {P1 P2:List aR} {y:aR} (hs:Sd bm (P1++P2)) (h1:∀z∈P1,bm z y=true) (h2:∀z∈P2,¬bm z y=true):Sd bm (P1++y::P2):=
 Sd.app bZ hs.left (List.pairwise_cons.2 ⟨fun z hz=>bZ.ug (h2 z hz),hs.right⟩) fun x hx z hz=>by
  rcases List.mem_cons.1 hz with rfl|hz
  ·exact h1 x hx
  ·exact hs.yB x hx z hz
theorem nI (X M Y:List aR) (a b:Int) (ha:a=(X.length:Int)) (hb:b=(X.length+M.length:Nat)) (hsz:X.length+M.length+Y.length≤2^40) (H:aa B h0 h (bu s (X++(M++Y))::As)):
  ae Tryz.prog gb #[.slice s.ptr s.len s.cap,.int .i64 a,.int .i64 b,.func (.func bI) #[] #[]] h fun v h'=>v=.tuple #[]∧∃M',Sd bm M'∧bw bm M M'∧aa B h0 h' (bu s (X++(M'++Y))::As):=by
 refine fX s a b (bI,#[],#[]) ?_
 unfold dA
 subst ha;subst hb
 rw[Go.Vc.wrap_small ((X.length:Int)+1) (by omega) (by omega)]
 refine au (fun t:Nat×List aR=>((X.length+1+t.1:Nat):Int)) (fun t h'=>(t.1+1≤M.length∨t.1=0)∧Sd bm t.2∧bw bm (M.take (t.1+1)) t.2∧t.2.length=(M.take (t.1+1)).length∧aa B h0 h' (bu s (X++(t.2++(M.drop (t.1+1)++Y)))::As)) (fun t=>M.length-t.1) (0,M.take 1) rfl ?_ ?_
 ·refine⟨.inr rfl,?_,bw.refl _,rfl,?_⟩
  ·cases M with
   |nil=>exact List.Pairwise.nil
   |cons x M=>exact List.pairwise_cons.2 ⟨fun _ h=>by simp at h,by simp⟩
  ·rw[←List.append_assoc (M.take (0+1)),List.take_append_drop];exact H
 rintro⟨t,P⟩ h1 ⟨ht,hsd,heq,hPl,H1⟩
 dsimp only at*
 refine ah (fun e=>?_) (fun e=>?_)
 ·have ht1:t+1<M.length:=by omega
  obtain⟨y,hy⟩:∃y,y=M[t+1]:=⟨_,rfl⟩
  have hPt:P.length=t+1:=by rw[hPl];simp;omega
  have eD:M.drop (t+1)=y::M.drop (t+1+1):=by rw[List.drop_eq_getElem_cons ht1,hy]
  rw[eD]at H1
  refine au (fun u:List aR×List aR=>((X.length+u.1.length:Nat):Int)) (fun u h'=>u.1++u.2=P∧(∀z∈u.2,¬bm z y=true)∧aa B h0 h' (bu s (X++(u.1++(y::(u.2++(M.drop (t+1+1)++Y)))))::As)) (fun u=>u.1.length) (P,[]) (by dsimp only;rw[hPt];congr 1;omega) ⟨by simp,by simp,by simpa using H1⟩ ?_
  rintro⟨P1,P2⟩ h2 ⟨hP,hbig,H2⟩
  dsimp only at*
  have hPP:P1.length+P2.length=t+1:=by rw[←hPt,←hP,List.length_append]
  have done:∀{h':Heap},(∀z∈P1,bm z y=true)→aa B h0 h' (bu s (X++(P1++(y::(P2++(M.drop (t+1+1)++Y)))))::As)→
    ∃t':Nat×List aR,IntKind.wrap .i64 (((X.length+1+t:Nat):Int)+1)=((X.length+1+t'.1:Nat):Int)∧((t'.1+1≤M.length∨t'.1=0)∧Sd bm t'.2∧bw bm (M.take (t'.1+1)) t'.2∧t'.2.length=(M.take (t'.1+1)).length∧aa B h0 h' (bu s (X++(t'.2++(M.drop (t'.1+1)++Y)))::As))∧M.length-t'.1<M.length-t:=fun{h'} hle H'=>by
   refine⟨(t+1,P1++y::P2),by dsimp only;rw[Go.Vc.wrap_small _ (by omega) (by omega)];omega,⟨.inl (by dsimp only;omega),?_,?_,?_,?_⟩,by dsimp only;omega⟩
   ·exact De (by rw[hP];exact hsd) hle hbig
   ·dsimp only
    rw[aI M (t+1) ht1,←hy]
    have h1:bw bm (M.take (t+1)++[y]) (P++[y]):=heq.app (bw.refl _)
    refine h1.trans ?_
    rw[←hP,List.append_assoc]
    have h2:bw bm (P2++[y]) ([y]++P2):=bw.Gk bZ fun x hx z hz=>by rw[List.mem_singleton.1 hz];exact hbig x hx
    exact(bw.refl _).app h2
   ·dsimp only;simp;omega
   ·dsimp only
    have:X++((P1++y::P2)++(M.drop (t+1+1)++Y))=X++(P1++(y::(P2++(M.drop (t+1+1)++Y)))):=by simp
    rw[this];exact H'
  obtain⟨D,hD⟩:∃D,D=X++(P1++(y::(P2++(M.drop (t+1+1)++Y)))):=⟨_,rfl⟩
  refine dt (fun _ h'=>∃(Q:List aR) (z:aR),P1=Q++[z]∧¬bm z y=true∧aa B h0 h' (bu s D::As)) ?_ ?_
  ·rw[←hD]at H2 done
   refine ah (fun e2=>?_) (fun e2=>⟨trivial,done (fun z hz=>?_) H2⟩)
   ·have hne:P1≠[]:=fun h=>by rw[h]at e2;simp at e2
    obtain⟨Q,z,hQ⟩:∃(Q:List aR) (z:aR),P1=Q++[z]:=⟨P1.dropLast,P1.getLast hne,(List.dropLast_concat_getLast hne).symm⟩
    have hQl:P1.length=Q.length+1:=by rw[hQ];simp
    have g1:D[X.length+P1.length]?=some y:=by
     rw[hD,List.getElem?_append_right (by omega),show X.length+P1.length-X.length=P1.length by omega,List.getElem?_append_right (by omega),Nat.sub_self];rfl
    have g2:D[X.length+P1.length-1]?=some z:=by
     rw[hD,List.getElem?_append_right (by omega),show X.length+P1.length-1-X.length=Q.length by omega,hQ,List.append_assoc,List.getElem?_append_right (Nat.le_refl _),Nat.sub_self];rfl
    obtain⟨k1,k1'⟩:=List.getElem?_eq_some_iff.1 g1
    obtain⟨k2,k2'⟩:=List.getElem?_eq_some_iff.1 g2
    refine(H2.seq 0 rfl fun _=>rfl).fT (g:=bc) _ rfl k1 y (by rw[k1']) ?_
    have ej:IntKind.wrap .i64 (((X.length+P1.length:Nat):Int)-1)=((X.length+P1.length-1:Nat):Int):=by rw[Go.Vc.wrap_small _ (by omega) (by omega)];omega
    rw[ej]
    refine(H2.seq 0 rfl fun _=>rfl).fT (g:=bc) _ rfl k2 z (by rw[k2']) (eV (by rfl) ?_)
    refine(jB y z h2).mono ?_
    rintro _ h3 ⟨rfl,R3⟩
    have H3:=H2.up R3.ai
    refine⟨_,rfl,trivial,ah (fun e3=>⟨Q,z,hQ,(jZ y z).1 e3,H3⟩) fun e3=>done (fun w hw=>?_) H3⟩
    have hzy:bm z y=true:=by
     by_cases hc:bm z y=true
     ·exact hc
     ·exact absurd ((jZ y z).2 hc) e3
    rw[hQ]at hw
    rcases List.mem_append.1 hw with hw|hw
    ·refine bZ.trans _ _ _ ?_ hzy
     have:Sd bm (Q++[z]):=by rw[←hQ];exact Sd.left (v:=P2) (by rw[hP];exact hsd)
     exact this.yB w hw z (by simp)
    ·rw[List.mem_singleton.1 hw];exact hzy
   ·have:P1=[]:=by
     cases P1 with
     |nil=>rfl
     |cons x P=>exfalso;simp only[List.length_cons]at e2;omega
    rw[this]at hz;cases hz
  ·rintro _ h3 ⟨Q,z,hQ,hzy,H3⟩
   have hQl:P1.length=Q.length+1:=by rw[hQ];simp
   have eform:D=(X++Q)++z::([]++y::(P2++(M.drop (t+1+1)++Y))):=by rw[hD,hQ];simp
   obtain⟨q1,q2,q3,q4⟩:=C8 (X++Q) [] (P2++(M.drop (t+1+1)++Y)) z y (i:=X.length+P1.length-1) (j:=X.length+P1.length) (by simp;omega) (by simp;omega)
   rw[←eform]at q1 q2 q3 q4
   obtain⟨k2,k2'⟩:=List.getElem?_eq_some_iff.1 q1
   obtain⟨k1,k1'⟩:=List.getElem?_eq_some_iff.1 q2
   have ej:IntKind.wrap .i64 (((X.length+P1.length:Nat):Int)-1)=((X.length+P1.length-1:Nat):Int):=by rw[Go.Vc.wrap_small _ (by omega) (by omega)];omega
   rw[ej]
   refine(H3.seq 0 rfl fun _=>rfl).fT (g:=bc) _ rfl k2 z (by rw[k2']) ?_
   refine(H3.seq 0 rfl fun _=>rfl).fT (g:=bc) _ rfl k1 y (by rw[k1']) ?_
   refine H3.set ag 0 rfl (fun _=>rfl) rfl (X.length+P1.length) rfl k1 z rfl rfl rfl fun h4 H4=>⟨trivial,?_⟩
   refine H4.set ag 0 rfl (fun _=>rfl) rfl (X.length+P1.length-1) rfl (by simpa using k2) y rfl rfl rfl fun h5 H5=>⟨trivial,?_⟩
   refine⟨(Q,z::P2),by dsimp only;congr 1;omega,⟨by dsimp only;rw[←hP,hQ];simp,?_,?_⟩,by dsimp only;omega⟩
   ·dsimp only
    intro w hw
    rcases List.mem_cons.1 hw with rfl|hw
    ·exact hzy
    ·exact hbig w hw
   ·dsimp only
    have:X++(Q++(y::(z::P2++(M.drop (t+1+1)++Y))))=(X++Q)++y::([]++z::(P2++(M.drop (t+1+1)++Y))):=by simp
    rw[this,←q4];exact H5
 ·refine⟨rfl,P,hsd,?_,?_⟩
  ·rw[List.take_of_length_le (by omega)]at heq;exact heq
  ·rw[List.drop_of_length_le (by omega)]at H1;simpa using H1
end
end Go.Proofs.YtkciobclldnoiaaGreatDoor
