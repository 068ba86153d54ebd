/- Part of the proofs that the laws of this seat answer true whatever the input reads, and leave it as it was; no condition. -/
import Derived.Test.YtdhamoojccmbdaaGreatDoorKA
import Derived.Test.YtdhamoojccmbdaaGreatDoorPlA
import Derived.Test.YtdhamoojccmbdaaGreatDoorPlD
import Derived.Test.YtdhamoojccmbdaaGreatDoorPlG
import Derived.Test.YtdhamoojccmbdaaGreatDoorTabS
import Derived.Test.YtdhamoojccmbdaaGreatDoorShelfA
import Derived.Test.YtdhamoojccmbdaaGreatDoorShelfB
import Derived.Test.YtdhamoojccmbdaaGreatDoorPlH
import Derived.Test.YtdhamoojccmbdaaGreatDoorPlI
set_option linter.unusedVariables false
set_option linter.unusedSimpArgs false
namespace Go.Proofs.YtdhamoojccmbdaaGreatDoor
open Go Go.Vc Go.Proofs Wl
set_option maxRecDepth 100000
end Go.Proofs.YtdhamoojccmbdaaGreatDoor
namespace Go.Proofs.YtdhamoojccmbdaaGreatDoor
open Go Go.Vc Go.Proofs Wl
set_option maxRecDepth 100000
end Go.Proofs.YtdhamoojccmbdaaGreatDoor
namespace Go.Proofs.YtdhamoojccmbdaaGreatDoor
open Go Go.Vc Go.Proofs Wl
set_option maxRecDepth 100000
end Go.Proofs.YtdhamoojccmbdaaGreatDoor
namespace Go.Proofs.YtdhamoojccmbdaaGreatDoor
open Go Go.Vc Go.Proofs Wl
set_option maxRecDepth 100000
end Go.Proofs.YtdhamoojccmbdaaGreatDoor
namespace Go.Proofs.YtdhamoojccmbdaaGreatDoor
open Go Go.Vc Go.Proofs Wl
set_option maxRecDepth 100000
end Go.Proofs.YtdhamoojccmbdaaGreatDoor
namespace Wl
open Go
def hF (m:aP) (l:List (List UInt8)):List (List UInt8):=(gP m l).map gO
def cD (m:aP) (l:List (List UInt8)):List (List UInt8):=aS m++hF m l
theorem y8 (l:List dh):(qE l).length≤l.length:=by
 unfold qE
 rw[List.length_map]
 exact Nat.le_trans (List.length_filter_le _ _) (by simp)
theorem rU (m:aP) (l:List (List UInt8)):(gP m l).length≤l.length:=by
 unfold gP
 refine Nat.le_trans (y8 _) ?_
 rw[List.length_mergeSort]
 exact List.length_filterMap_le _ _
theorem qk (m:aP) (l:List (List UInt8)):(hF m l).length≤l.length:=by unfold hF;rw[List.length_map];exact rU m l
end Wl
namespace Go.Proofs.YtdhamoojccmbdaaGreatDoor
open Go Go.Vc Go.Proofs Wl
set_option maxRecDepth 100000
section
variable {B:ag} {h0 h:Heap} {As:List HP} {a pw:Addr} {d:aU} {w:Pow}
theorem cg.rewrite {l:List (List UInt8)} (h:cg d):cg (d.rewrite w l).2.2:=by
 unfold aU.rewrite
 split
 ·exact h
 ·rename_i hc
  split
  ·exact h
  ·split
   ·exact h
   ·rename_i hr
    have hall:∀c∈l,c.length=64:=by simpa using hc
    split
    ·exact h
    ·split
     ·exact⟨Nat.zero_le _,by dsimp only;omega,h.room,hall,Nat.zero_le _,by simp⟩
     ·exact⟨h.wait,h.len,h.room,h.cell,by dsimp only;omega,hall⟩
theorem uB (x:Sl) (l:List (List UInt8)) (H:aa B h0 h (gX pw a d::bW aN pw w::As)) (hS:St B h0 As fun h=>ey h x 1 aF l) (hl:l.length≤2^20) (hcl:∀c∈l,c.length≤2^20):
  ae Tryz.prog gm #[.pointer (some a),.slice x.ptr x.len x.cap] h fun v h'=>v=.int .i64 (d.rewrite w l).1∧aa B h0 h' (gX pw a (d.rewrite w l).2.2::bW aN pw (d.rewrite w l).2.1::As):=by
 refine kd (some a) x ?_
 unfold gA
 have hx:=hS.at [_,_] H
 have hxl:=hx.len
 have okr:=cg.rewrite (w:=w) (l:=l) (And.left (id H).nT)
 have same:∀(e:Int),d.rewrite w l=(e,w,d)→(Value.int .i64 e=.int .i64 (d.rewrite w l).1∧aa B h0 h (gX pw a (d.rewrite w l).2.2::bW aN pw (d.rewrite w l).2.1::As)):=fun e he=>by
  rw[he];exact⟨rfl,H⟩
 refine aE (fun i:Nat=>(i:Int)) (fun i h'=>i≤l.length∧(∀c∈l.take i,c.length=64)∧h'=h) (fun i=>l.length-i) 0 rfl ⟨by omega,by simp,rfl⟩ ?_
 rintro i h1 ⟨hi,hall,rfl⟩
 refine an (fun e=>?_) fun e=>?_
 ·have hi':i<l.length:=by omega
  refine hx.get i rfl hi' fun r hr=>?_
  have hrl:=hr.len
  refine dt (fun e2=>same 1 ?_) fun e2=>?_
  ·unfold aU.rewrite
   rw[if_pos]
   rw[Bool.not_eq_true',List.all_eq_false]
   exact⟨l[i],List.getElem_mem hi',by simp;omega⟩
  ·refine⟨i+1,by rw[Go.Vc.wrap_small _ (by omega) (by omega)];rfl,⟨by omega,fun c hc=>?_,rfl⟩,by omega⟩
   rw[aK _ _ hi']at hc
   rcases List.mem_append.1 hc with hc|hc
   ·exact hall c hc
   ·rw[List.mem_singleton.1 hc];omega
 have hall:∀c∈l,c.length=64:=by rw[List.take_of_length_le (by omega)]at hall;exact hall
 have hallb:(!l.all fun b=>decide (b.length=64))=false:=by
  rw[Bool.not_eq_false',List.all_eq_true]
  exact fun c hc=>decide_eq_true (hall c hc)
 have er:d.rewrite w l=(if d.lost then(5,w,d)else if d.room<l.length then(7,w,d)else if w.off then(14,w,d)else if w.step.1 then(0,w.step.2,{d with l:=l,wait:=0,laid:=[],has:=false})else(14,w.step.2,{d with laid:=l,has:=true})):=by
  unfold aU.rewrite;rw[hallb];rfl
 obtain⟨ok,s,b,H1⟩:=H.nT
 have hb:=H1.box 0 rfl
 refine bc (bc (ck (fun e=>by cases e) fun _=>⟨a,rfl,d.lost,hb.cell rfl,ck (fun e=>same 5 (by rw[er,if_pos e])) fun elost=>?_⟩))
 refine⟨a,rfl,(d.room:Int),hb.cell rfl,an (fun e=>same 7 (by rw[er,if_neg (by simp[elost]),if_pos (by omega)])) fun eroom=>?_⟩
 obtain⟨lw,hlw,H1p⟩:=(H1.bt 4 [3,0,1,2]).jI
 refine⟨a,rfl,some pw,hb.cell0 rfl,(lq lw (H1p.box 0 rfl)).mono ?_⟩
 rintro _ h2 ⟨rfl,rfl⟩
 refine⟨_,rfl,aV (fun e=>same 14 ?_) fun eoff=>?_⟩
 ·rw[er,if_neg (by simp[elost]),if_neg (by omega),if_pos (by simpa using e)]
 have eoff':w.off=false:=by simpa using eoff
 have er2:d.rewrite w l=(if w.step.1 then(0,w.step.2,{d with l:=l,wait:=0,laid:=[],has:=false})else(14,w.step.2,{d with laid:=l,has:=true})):=by
  rw[er,if_neg (by simp[elost]),if_neg (by omega),if_neg (by simp[eoff'])]
 refine⟨a,rfl,some pw,hb.cell0 rfl,(kD (H1.bt 4 [3,0,1,2])).mono ?_⟩
 rintro _ h5 ⟨rfl,H5⟩
 have hx5:=hS.at [_,_,_,_] H5
 refine⟨_,rfl,aV (fun e=>?_) fun e=>?_⟩
 ·rw[er2,if_neg (by simp[e])]at okr⊢
  refine(o3 x l h5 hx5 hl hcl).mono ?_
  rintro _ h6 ⟨r,rfl,R6⟩
  have H6:=(H5.cX R6).bt 5 [2,3,0,1]
  refine⟨r,rfl,a,rfl,H6.store ah 0 rfl rfl 4 [.slice r.ptr r.len r.cap] rfl rfl rfl (by simp[dw]) fun h7 H7=>?_⟩
  refine⟨a,rfl,H7.store ah 0 rfl rfl 5 [.bool true] rfl rfl rfl (by simp[dw]) fun h8 H8=>⟨rfl,?_⟩⟩
  exact aa.nz (s:=s) (b:=r) okr H8
 ·rw[er2,if_pos e]at okr⊢
  refine(o3 x l h5 hx5 hl hcl).mono ?_
  rintro _ h6 ⟨r,rfl,R6⟩
  have H6:=(H5.cX R6).bt 5 [2,0,4,1]
  refine⟨r,rfl,a,rfl,H6.store ah 0 rfl rfl 2 [.slice r.ptr r.len r.cap] rfl rfl rfl (by simp[dw]) fun h7 H7=>?_⟩
  refine⟨a,rfl,H7.store ah 0 rfl rfl 3 [.int .i64 0] rfl rfl rfl (by simp[dw]) fun h8 H8=>?_⟩
  refine(nA (d:={d with l:=l,wait:=0}) r b _ H8 ⟨Nat.zero_le _,by dsimp only;omega,ok.room,hall,ok.laid,ok.cellL⟩ rfl).mono ?_
  rintro _ h9 ⟨rfl,H9⟩
  exact⟨0,rfl,rfl,H9⟩
theorem wP (s b:Sl) (x:bX) (m:aP) (hb:cn h a bE (dw pw d s b)) (hl:ey h s 1 aF d.l) (ok:cg d) (hx:fM h x m) (hz:dz m):
  ae Tryz.prog ss #[.pointer (some a),ft x] h fun v h'=>∃r:Sl,v=.slice r.ptr r.len r.cap∧Sp h h' [cT r (hF m d.l)]:=by
 refine qV (some a) x ?_
 unfold ni
 have hlen:=ok.len;have hroom:=ok.room
 refine(Sp.refl h).boxed fun a1 h1 H1=>?_
 refine⟨x,(H1.box 0 rfl).bp _ rfl,(uy a pw d s b x m h1 (hb.ao H1.ao hb.lt) (hl.up H1.ao) ok (hx.up H1.ao) hz).mono ?_⟩
 rintro _ h2 ⟨r,ys,rfl,R2⟩
 have H2:=(H1.cX R2).qB cr aH 1 aF
 refine⟨r,rfl,?_⟩
 have hrl:=rU m d.l
 obtain⟨L,hL⟩:∃L,L=gP m d.l:=⟨_,rfl⟩
 have hcp:(hF m d.l)=L.map gO:=by unfold hF;rw[hL]
 rw[←hL]at H2 hrl
 rw[hcp]
 have F2:=H2.kn 1 rfl
 have hyl:=F2.2.1
 have hrlen:=F2.1.len
 refine aE (fun t:Sl×Nat=>(t.1,(t.2:Int))) (fun t h'=>t.2≤L.length∧Sp h h' [cT t.1 ((L.map gO).take t.2),fa cx 8 aQ r ys L]) (fun t=>L.length-t.2) (⟨none,0,0⟩,0) rfl ⟨by simp,H2.cS [0,1]⟩ ?_
 rintro⟨o,i⟩ h3 ⟨hi,H3⟩
 dsimp only at*
 have F3:=H3.kn 1 rfl
 refine an (fun e=>?_) (fun e=>?_)
 ·have hi':i<L.length:=by omega
  refine F3.1.fp (g:=aQ) i rfl (by omega) (ys[i]'(by omega)) rfl ?_
  refine H3.alloc ah rfl fun a7 h4 H4=>?_
  refine H4.storeAll ah 2 rfl rfl (aQ (ys[i]'(by omega))) rfl rfl rfl rfl fun h5 H5=>?_
  have H5:Sp h h5 [cT o ((L.map gO).take i),fa cx 8 aQ r ys L,aA a7 au (aQ (ys[i]'(by omega)))]:=H5
  refine⟨ys[i]'(by omega),(H5.box 2 rfl).bp _ rfl,(oE _ L[i] h5 (Fix.row (H5.kn 1 rfl) hi')).mono ?_⟩
  rintro _ h6 ⟨u,rfl,R6⟩
  have H6:=(H5.cX R6).bt 3 [1,0,2]
  refine⟨u,rfl,H6.sM ah lX (by simp;omega) fun o' h8 H8=>?_⟩
  refine⟨(o',i+1),by dsimp only;rw[Go.Vc.wrap_small _ (by omega) (by omega)];rfl,⟨by dsimp only;omega,?_⟩,by dsimp only;omega⟩
  dsimp only
  rw[aK _ _ (show i<(L.map gO).length by simp;omega),List.getElem_map]
  exact H8.cS [0,1]
 ·rw[List.take_of_length_le (by simp;omega)]at H3
  exact⟨o,rfl,H3.cS [0]⟩
end
end Go.Proofs.YtdhamoojccmbdaaGreatDoor
namespace Go.Proofs.YtdhamoojccmbdaaGreatDoor
open Go Go.Vc Go.Proofs Wl
set_option maxRecDepth 100000
section
variable {B:ag} {h0 h:Heap} {As:List HP} {a pw:Addr} {d:aU} {w:Pow}
theorem vk {m:aP} {l:List (List UInt8)} {c:List UInt8} (h:c∈hF m l):c.length≤64:=by
 unfold hF at h
 obtain⟨r,_,rfl⟩:=List.mem_map.1 h
 unfold gO
 split
 ·rename_i hm
  refine Nat.le_of_eq (kQ (by decide) (by decide) ?_)
  have:=rF hm
  omega
 ·simp
theorem yc (s b:Sl) (x:bX) (m:aP) (hb:cn h a bE (dw pw d s b)) (hl:ey h s 1 aF d.l) (ok:cg d) (hx:fM h x m) (hz:dz m):
  ae Tryz.prog uh #[.pointer (some a),ft x] h fun v h'=>∃r:Sl,v=.slice r.ptr r.len r.cap∧Sp h h' [cT r (cD m d.l)]:=by
 refine sr (some a) x ?_
 unfold oA
 have hlen:=ok.len;have hroom:=ok.room
 refine(Sp.refl h).boxed fun a1 h1 H1=>?_
 have H1:Sp h h1 [aA a1 aO (bM x)]:=H1
 refine⟨x,(H1.box 0 rfl).bp _ rfl,x,(H1.box 0 rfl).bp _ rfl,(lY x m h1 (hx.up H1.ao) hz).mono ?_⟩
 rintro _ h2 ⟨r,rfl,R2⟩
 have H2:=H1.cX R2
 have hb2:=H2.box 1 rfl
 refine⟨r,rfl,⟨hb2.cell0 rfl,hb2.cell rfl,hb2.cell rfl,hb2.cell rfl,hb2.cell rfl,hb2.cell rfl,hb2.cell rfl,hb2.cell rfl,trivial⟩,(wP s b x m (hb.ao H2.ao hb.lt) (hl.up H2.ao) ok (hx.up H2.ao) hz).mono ?_⟩
 rintro _ h3 ⟨u,rfl,R3⟩
 have H3:=(H2.cX R3).bt 2 [1,0]
 have hsl:=kF m hz
 have hcl:=qk m d.l
 refine⟨u,rfl,trivial,H3.Aj ah lX ⟨_,_,rfl,rfl⟩ (by omega) fun s' h4 H4=>?_⟩
 exact⟨trivial,s',rfl,H4.cS [0]⟩
end
end Go.Proofs.YtdhamoojccmbdaaGreatDoor
namespace Go.Proofs.YtdhamoojccmbdaaGreatDoor
open Go Go.Vc Go.Proofs Wl
section
set_option maxRecDepth 20000
variable {B:ag} {h0 h:Heap} {As:List HP} {a pw b:Addr} {x:bX} {offs:Int} {da:List (Option Addr)} {w:Pow} {ds:aJ} {d:aU}
theorem aa.y9 (n:Nat) (hn:n<64) (hd:ds[n]?=some none) (H:aa B h0 h (bH cA a pw (bM x) offs da w ds::gX pw b d::As)) {K:Unit→Heap→Prop}
  (hk:∀h',aa B h0 h' (bH cA a pw (bM x) offs (da.set n (some b)) w (ds.set n (some d))::As)→K () h'):
  ab Tryz.prog (Instr.storeAt nW (.pointer (some ((a.add 10).add n))) (.pointer (some b))) h K:=by
 obtain⟨ok,H1⟩:=Go.Vc.aa.iF H
 have he:(a.add 10).add n=a.add (10+n):=by unfold Addr.add;simp[Nat.add_assoc]
 rw[he]
 refine H1.storeAt ah 0 rfl rfl rfl rfl rfl (by simp[ok.la];omega) fun h' H2=>hk h' ?_
 rw[List.set_cons_zero,yb ok.l8]at H2
 exact aa.Av ok hn hd H2
end
end Go.Proofs.YtdhamoojccmbdaaGreatDoor
namespace Wl
open Go
theorem jK (ds:aJ) (n:Nat) (d:aU) (s:Int) (hn:n<64) (hl:ds.length=64):bI (dR ds (n:Int) d) s=if s=(n:Int)then some d else bI ds s:=by
 unfold bI dR
 rw[Int.toNat_natCast]
 by_cases h:0≤s∧s<64
 ·rw[if_pos h,if_pos h,List.getElem?_set]
  by_cases hs:s=(n:Int)
  ·subst hs
   rw[if_pos rfl,Int.toNat_natCast,if_pos rfl,if_pos (by omega)];rfl
  ·rw[if_neg hs,if_neg (by omega)]
 ·rw[if_neg h,if_neg h,if_neg (by omega)]
theorem ed {ds:aJ} {s:Int} {d:aU} (h:bI ds s=some d):∃n:Nat,s=(n:Int)∧n<64:=by
 unfold bI at h
 by_cases hs:0≤s∧s<64
 ·exact⟨s.toNat,by omega,by omega⟩
 ·rw[if_neg hs]at h;cases h
structure Fit (ds:aJ) (S Q:List Int):Prop where
 len:ds.length=64
 at_:∀s∈S,∃d,bI ds s=some d∧d.lost=false∧d.l.length+Q.count s≤d.room
theorem vl {d:aU} {n:Nat} (w:Pow) (b:List UInt8) (h1:d.lost=false) (h2:d.l.length+(n+1)≤d.room) (hb:b.length=64):
  ((d.append w b).1=0∨(d.append w b).1=14)∧(d.append w b).2.2.lost=false∧(d.append w b).2.2.l.length+n≤(d.append w b).2.2.room:=by
 unfold aU.append
 rw[if_neg (by omega),if_neg (by simp[h1]),if_neg (by omega)]
 by_cases ho:w.off
 ·rw[if_pos ho];exact⟨.inr rfl,h1,by dsimp only;omega⟩
 ·rw[if_neg ho]
  by_cases hs:w.step.1
  ·rw[if_pos hs];exact⟨.inl rfl,h1,by simp;omega⟩
  ·rw[if_neg hs];exact⟨.inr rfl,h1,by simp;omega⟩
theorem yd {d:aU} (w:Pow) (h1:d.lost=false):((d.sync w).1=0∨(d.sync w).1=14)∧(d.sync w).2.2.lost=false∧(d.sync w).2.2.l=d.l∧(d.sync w).2.2.room=d.room:=by
 unfold aU.sync
 rw[if_neg (by simp[h1])]
 by_cases hs:w.step.1
 ·rw[if_pos hs];exact⟨.inl rfl,h1,rfl,rfl⟩
 ·rw[if_neg hs];exact⟨.inr rfl,h1,rfl,rfl⟩
theorem sD {ds:aJ} {S Q:List Int} {x:Int} (w:Pow) (b:List UInt8) (F:Fit ds S (x::Q)) (hx:x∈S) (hb:b.length=64):
  ((bS w ds x b).1=0∨(bS w ds x b).1=14)∧Fit (bS w ds x b).2.2 S Q:=by
 obtain⟨d,hd,h1,h2⟩:=F.at_ x hx
 rw[List.count_cons_self]at h2
 obtain⟨n,rfl,hn⟩:=ed hd
 have A:=vl w b h1 (n:=Q.count (n:Int)) (by omega) hb
 have e:bS w ds (n:Int) b=((d.append w b).1,(d.append w b).2.1,dR ds (n:Int) (d.append w b).2.2):=by unfold bS;rw[hd]
 rw[e]
 refine⟨A.1,by unfold dR;rw[List.length_set];exact F.len,fun s hs=>?_⟩
 rw[jK _ _ _ _ hn F.len]
 by_cases hsn:s=(n:Int)
 ·subst hsn
  rw[if_pos rfl]
  exact⟨_,rfl,A.2⟩
 ·rw[if_neg hsn]
  obtain⟨d',g,g1,g2⟩:=F.at_ s hs
  rw[List.count_cons_of_ne (fun h=>hsn h.symm)]at g2
  exact⟨d',g,g1,g2⟩
theorem vm {ds:aJ} {S:List Int} {x:Int} (w:Pow) (F:Fit ds S []) (hx:x∈S):((cL w ds x).1=0∨(cL w ds x).1=14)∧Fit (cL w ds x).2.2 S []:=by
 obtain⟨d,hd,h1,h2⟩:=F.at_ x hx
 obtain⟨n,rfl,hn⟩:=ed hd
 obtain⟨A1,A2,A3,A4⟩:=yd w h1
 have e:cL w ds (n:Int)=((d.sync w).1,(d.sync w).2.1,dR ds (n:Int) (d.sync w).2.2):=by unfold cL;rw[hd]
 rw[e]
 refine⟨A1,by unfold dR;rw[List.length_set];exact F.len,fun s hs=>?_⟩
 rw[jK _ _ _ _ hn F.len]
 by_cases hsn:s=(n:Int)
 ·subst hsn
  rw[if_pos rfl]
  exact⟨_,rfl,A2,by rw[A3,A4];exact h2⟩
 ·rw[if_neg hsn];exact F.at_ s hs
end Wl
namespace Go.Vc
open Go Wl Go.Proofs.YtdhamoojccmbdaaGreatDoor
theorem rl (l:List Int) (k:Nat):(az l k).Nodup:=by
 unfold az
 refine List.Pairwise.filter _ (List.pairwise_map.2 ?_)
 exact(List.nodup_range (n:=k)).imp fun h=>by omega
end Go.Vc
namespace Go.Vc
open Go Wl Go.Proofs.YtdhamoojccmbdaaGreatDoor
theorem wQ {l:List Int} (h:(bN l).2=true):(bN l).1=az l l.length∧l.length≤64∧∀n:Nat,l.getD n 0≤512:=by
 unfold bN at h⊢
 by_cases ha:l.all (bZ · 0 512)=true
 ·rw[if_pos ha]at h⊢
  refine⟨rfl,by simp at h;exact h.1,fun n=>?_⟩
  rw[List.getD_eq_getElem?_getD]
  by_cases hn:n<l.length
  ·rw[List.getElem?_eq_getElem hn]
   have:=List.all_eq_true.1 ha _ (List.getElem_mem hn)
   unfold bZ at this;simp at this⊢;omega
  ·rw[List.getElem?_eq_none (by omega)];simp
 ·rw[if_neg ha]at h;cases h
theorem uC (l:List Int) (i n:Nat) (hi:i<(az l l.length).length) (hn:(az l l.length)[i]=(n:Int)) (h64:n<64):(cR l i)[n]?=some none:=by
 unfold cR
 rw[List.getElem?_map,List.getElem?_range h64,Option.map_some,if_neg]
 intro hc
 obtain⟨j,hj,hj2⟩:=List.mem_take_iff_getElem.1 hc
 have:=mO (rl l l.length) (a:=j) (b:=i) (by omega) hi (by rw[hj2,hn])
 omega
theorem oF (m:aP):∀S:List Int,(cd m S).length=S.length*(aS m).length
 |[]=>by simp[cd]
 |n::S=>by
  have e:cd m (n::S)=(aS m).map (fun c=>(n,c))++cd m S:=by unfold cd;rw[List.flatMap_cons]
  rw[e,List.length_append,List.length_map,oF m S,List.length_cons,Nat.succ_mul,Nat.add_comm]
theorem wR (p:Pm) (extra:Int) (l:List Int) (hl:l.length≤64):dz (aX p extra l):=⟨by have:=fN l l.length;simp[aX];omega,by simp[aX],by simp[aX]⟩
end Go.Vc
namespace Go.Proofs.YtdhamoojccmbdaaGreatDoor
open Go Go.Vc Go.Proofs Wl
section
set_option maxRecDepth 20000
variable {B:ag} {h0 h:Heap} {As:List HP} {pw:Addr} {w:Pow}
theorem vn (p:Pm) (extra:Int) (s:Sl) (l:List Int) (hS:St B h0 As fun h=>Rd h s 1 aI l) (hl:l.length≤2^20) (H:aa B h0 h (bW aN pw w::As)):
  ae Tryz.prog kv #[vN p,.int .i64 extra,.pointer (some pw),.slice s.ptr s.len s.cap] h fun v h'=>
   ((ct p extra w l).1≠0→v=.tuple #[.pointer none,.int .i64 (ct p extra w l).1]∧aa B h0 h' As)∧
   ((ct p extra w l).1=0→∃(a:Addr) (x:bX) (da:List (Option Addr)),v=.tuple #[.pointer (some a),.int .i64 0]∧aa B h0 h' (bH cA a pw (bM x) w.offs da (ct p extra w l).2.1 (ct p extra w l).2.2::iB x (aX p extra l)::As)):=by
 refine oW p extra (some pw) s ?_
 unfold k7
 refine H.boxed fun a1 h1 H1=>?_
 have H1:=H1.eP
 refine(gg s l h1 (hS.at [_,_] H1) hl).mono ?_
 rintro _ h2 ⟨r,rfl,R2⟩
 have H2:=H1.cX R2
 refine⟨(r,(bN l).2),rfl,?_⟩
 have bad:∀{h':Heap},aa B h0 h' As→((bN l).2&&(cF p&&bZ extra 0 16))=false→
   ((ct p extra w l).1≠0→Value.tuple #[.pointer none,.int .i64 1]=.tuple #[.pointer none,.int .i64 (ct p extra w l).1]∧aa B h0 h' As)∧
   ((ct p extra w l).1=0→∃(a:Addr) (x:bX) (da:List (Option Addr)),Value.tuple #[.pointer none,.int .i64 1]=.tuple #[.pointer (some a),.int .i64 0]∧aa B h0 h' (bH cA a pw (bM x) w.offs da (ct p extra w l).2.1 (ct p extra w l).2.2::iB x (aX p extra l)::As)):=fun{h'} H' hc=>by
  have e:ct p extra w l=(1,w,[]):=by unfold ct;rw[hc];rfl
  rw[e]
  exact⟨fun _=>⟨rfl,H'⟩,fun h=>absurd h (show¬(1:Int)=0 by decide)⟩
 refine bc (aV (fun e=>bad H2.rest.rest.rest (by rw[e];rfl)) fun e=>?_)
 have ep:(bN l).2=true:=by simpa using e
 obtain⟨ep1,el64,el512⟩:=wQ ep
 refine⟨p,(H2.box 1 rfl).bp _ rfl,(fL p h2).mono ?_⟩
 rintro _ h3 ⟨rfl,R3⟩
 have H3:aa B h0 h3 (aq bf r 1 aI (bN l).1::aA a1 bL [.int .i64 p.1,.int .i64 p.2.1,.int .i64 p.2.2]::bW aN pw w::As):=by
  have:=H2.comp R3
  rw[List.append_nil]at this;exact this
 refine⟨_,rfl,aV (fun e2=>bad H3.rest.rest.rest (by rw[e2];simp)) fun e2=>?_⟩
 have em:cF p=true:=by simpa using e2
 refine an (fun e3=>bad H3.rest.rest.rest (by unfold bZ;simp;omega)) fun e3=>an (fun e4=>bad H3.rest.rest.rest (by unfold bZ;simp;omega)) fun e4=>ck (fun e5=>by cases e5) fun _=>?_
 rw[ep1]at H3
 refine bc ⟨p,(H3.box 1 rfl).bp _ rfl,?_⟩
 obtain⟨lw,hlw,H3p⟩:=(H3.bt 3 [2,1,0]).jI
 refine(rQ lw (H3p.box 0 rfl)).mono ?_
 rintro _ h4 ⟨rfl,rfl⟩
 have hb3:=H3.box 1 rfl
 refine⟨_,rfl,⟨hb3.cell0 rfl,hb3.cell rfl,hb3.cell rfl,trivial⟩,?_⟩
 obtain⟨m,hm⟩:∃m,m=aX p extra l:=⟨_,rfl⟩
 refine⟨_,ya (1,0,p.1,p.2.1,p.2.2,extra,r,⟨none,0,0⟩) pw w.offs,?_⟩
 refine H3.boxed fun a9 h6 H6=>?_
 obtain⟨x,hx⟩:∃x:bX,x=(1,0,p.1,p.2.1,p.2.2,extra,r,⟨none,0,0⟩):=⟨_,rfl⟩
 rw[←hx]at H6
 have ecell:(Value.agg (bY (bM x) pw w.offs (List.replicate 64 none)).toArray).cells.toList=bY (bM x) pw w.offs (List.replicate 64 none):=by simp[Value.cells]
 rw[ecell]at H6
 have H6:=H6.eP
 have hb6:=H6.box 2 rfl
 refine⟨⟨hb6.cell0 rfl,hb6.cell rfl,hb6.cell rfl,trivial⟩,?_⟩
 have H6:aa B h0 h6 (aA a9 fi (bY (bM x) pw w.offs (List.replicate 64 none))::bW aN pw w::aq bf r 1 aI (az l l.length)::As):=H6.bt 4 [0,3,1]
 have H6:=aa.xZ (k:=cA) (h8:=by simp) H6
 obtain⟨P,hP⟩:∃P,P=az l l.length:=⟨_,rfl⟩
 rw[←hP]at H6
 have hz:dz m:=hm▸wR p extra l el64
 have hPl:P.length≤64:=by rw[hP];exact Nat.le_trans (fN _ _) el64
 have hmx:∀{h':Heap} {Bs:List HP} {X:HP},aa B h0 h' (X::aq bf r 1 aI P::Bs)→fM h' x m:=fun{h' Bs X} H'=>by
  have hs:=H'.seq 1 rfl fun _=>rfl
  have hc:=(H'.own 1 rfl).cap
  subst hx;subst hm
  exact⟨rfl,rfl,rfl,rfl,by show Seq _ _ r 1 aI (az l l.length);rw[←hP];exact hs,ca.nil _ _ _ _,hc,Nat.le_refl _⟩
 have hok:((bN l).2&&(cF p&&bZ extra 0 16))=true:=by
  rw[ep,em];unfold bZ;simp;omega
 have fokP:(P.any fun i=>decide (l.getD i.toNat 0<((aS m).length:Int)))=true→ct p extra w l=(7,w,[]):=fun hh=>by
  unfold ct;rw[if_pos hok,←hP,←hm,if_pos hh]
 have fokN:(P.any fun i=>decide (l.getD i.toNat 0<((aS m).length:Int)))=false→ct p extra w l=layAll (cd m P) w (cR l P.length):=fun hh=>by
  unfold ct;rw[if_pos hok,←hP,←hm,hh,if_neg (by decide)]
 have hat:∀i (hi:i<P.length),∃n:Nat,n<l.length∧P[i]=(n:Int)∧0<l.getD n 0:=by
  subst hP;exact fun i hi=>vj l l.length i hi
 refine aE (fun i:Nat=>(i:Int)) (fun i h'=>i≤P.length∧((P.take i).any fun i=>decide (l.getD i.toNat 0<((aS m).length:Int)))=false∧aa B h0 h' (bH cA a9 pw (bM x) w.offs (List.replicate 64 none) w (List.replicate 64 none)::aq bf r 1 aI P::As)) (fun i=>P.length-i) 0 rfl ⟨by omega,by simp,H6⟩ ?_
 rintro i h7 ⟨hi,hall,H7⟩
 dsimp only at*
 obtain⟨okc,hb7⟩:=aa.dH H7
 have hrl:r.len=P.length:=(H7.own 1 rfl).len
 refine an (fun e5=>?_) (fun e5=>?_)
 ·have hi':i<P.length:=by omega
  obtain⟨n,hn,en,hpos⟩:=hat i hi'
  refine(H7.seq 1 rfl fun _=>rfl).ef i rfl hi' (n:Int) (by rw[en];rfl) ?_
  refine(hS.at [_,_] H7).zA n rfl hn (l.getD n 0) (by rw[getD_lt hn];rfl) fun a14 hc14=>?_
  refine⟨a9,rfl,x,hb7.bp _ (by rfl),(lY x m h7 (hmx H7) hz).mono ?_⟩
  rintro _ h9 ⟨u,rfl,R9⟩
  have H9:=H7.cX R9
  have hul:=(aa.yy H9).1
  refine⟨u,rfl,mN R9.ao ⟨hc14,trivial⟩,?_⟩
  refine an (fun e6=>?_) (fun e6=>?_)
  ·rw[fokP (List.any_eq_true.2 ⟨P[i],List.getElem_mem hi',by rw[en,Int.toNat_natCast];exact decide_eq_true (by omega)⟩)]
   exact⟨fun _=>⟨rfl,H9.rest.rest.rest⟩,fun h=>absurd h (show¬(7:Int)=0 by decide)⟩
  ·refine⟨i+1,by rw[Go.Vc.wrap_small _ (by omega) (by omega)];rfl,⟨by omega,?_,H9.rest⟩,by omega⟩
   rw[aK _ _ hi',List.any_append,hall,Bool.false_or,List.any_cons,List.any_nil,Bool.or_false,en,Int.toNat_natCast]
   exact decide_eq_false (by omega)
 ·have hPi:i=P.length:=by omega
  subst hPi
  rw[List.take_length]at hall
  have fok:=fokN hall
  rw[←uz l]at H7
  refine aE (fun t:Nat×List (Option Addr)=>(t.1:Int)) (fun t h'=>t.1≤P.length∧aa B h0 h' (bH cA a9 pw (bM x) w.offs t.2 w (cR l t.1)::aq bf r 1 aI P::As)) (fun t=>P.length-t.1) (0,List.replicate 64 none) rfl ⟨by simp,H7⟩ ?_
  rintro⟨i,da⟩ h10 ⟨hi,H10⟩
  dsimp only at*
  obtain⟨okd,hb10⟩:=aa.dH H10
  refine an (fun e6=>?_) (fun e6=>?_)
  ·have hi':i<P.length:=by omega
   obtain⟨n,hn,en,hpos⟩:=hat i hi'
   have h512:=el512 n
   refine(H10.seq 1 rfl fun _=>rfl).ef i rfl hi' (n:Int) (by rw[en];rfl) ?_
   refine(hS.at [_,_] H10).ef n rfl hn (l.getD n 0) (by rw[getD_lt hn];rfl) ?_
   refine⟨a9,rfl,(wC (l.getD n 0) pw h10).mono ?_⟩
   rintro _ h11 ⟨Q1,_⟩
   obtain⟨b,rfl,R11⟩:=Q1 (by omega)
   have H11:=(H10.cX R11).bt 2 [1,0]
   refine⟨_,rfl,trivial,⟨by omega,by omega⟩,?_⟩
   rw[Int.toNat_natCast,Nat.mul_one]
   have hiQ:i<(az l l.length).length:=by rw[←hP];exact hi'
   have enQ:(az l l.length)[i]=(n:Int):=by rw[←en];simp only[hP]
   refine Go.Proofs.YtdhamoojccmbdaaGreatDoor.aa.y9 n (by omega) (uC l i n hiQ enQ (by omega)) H11 fun h12 H12=>?_
   refine⟨trivial,(i+1,da.set n (some b)),by dsimp only;rw[Go.Vc.wrap_small _ (by omega) (by omega)];rfl,⟨by dsimp only;omega,?_⟩,by dsimp only;omega⟩
   dsimp only
   rw[←uA l i n hiQ enQ (by omega)]
   exact H12
  ·have hPi:i=P.length:=by omega
   subst hPi
   refine⟨a9,rfl,x,hb10.bp _ (by rfl),(ve x m r P h10 (hmx H10) hz (H10.seq 1 rfl fun _=>rfl) (by omega)).mono ?_⟩
   rintro _ h13 ⟨u,ys,rfl,R13⟩
   have H13:=(H10.cX R13).bt 2 [1,0]
   refine⟨u,rfl,?_⟩
   have hspl:=kF m hz
   refine(xU u ys (cd m P) (St.kl 0 rfl fun _ hq=>hq) ?_ ?_ H13).mono ?_
   ·rw[oF]
    have:=Nat.mul_le_mul hPl hspl
    omega
   ·intro y hy
    obtain⟨hy1,hy2⟩:=iQ hy
    obtain⟨i,hi,e⟩:=List.getElem_of_mem hy1
    obtain⟨n,hn,en,_⟩:=hat i hi
    rw[←e,en,hy2]
    exact⟨⟨by omega,by omega⟩,by decide⟩
   rintro _ h14 ⟨rfl,H14⟩
   rw[fok]
   refine⟨_,rfl,dt (fun e7=>⟨fun _=>⟨rfl,H14.rest.rest.rest⟩,fun h=>absurd h e7⟩) fun e7=>⟨fun h=>absurd e7 h,fun _=>⟨a9,x,da,rfl,?_⟩⟩⟩
   rw[←hm]
   exact H14.nP.gH 1 rfl fun q hq=>by
    subst hx;subst hm
    exact⟨rfl,rfl,rfl,rfl,by show Seq _ _ r 1 aI (az l l.length);rw[←hP];exact hq.1.seq (fun _=>rfl) hq.2,ca.nil _ _ _ _,hq.1.cap,Nat.le_refl _⟩
end
end Go.Proofs.YtdhamoojccmbdaaGreatDoor
namespace Wl
open Go
end Wl
namespace Go.Proofs.YtdhamoojccmbdaaGreatDoor
open Go Go.Vc Go.Proofs Wl
set_option maxRecDepth 100000
section
variable {B:ag} {h0 h:Heap} {As:List HP} {a pw:Addr} {offs:Int} {da:List (Option Addr)} {w:Pow} {ds:aJ}
end
end Go.Proofs.YtdhamoojccmbdaaGreatDoor
namespace Go.Proofs.YtdhamoojccmbdaaGreatDoor
open Go Go.Vc Go.Proofs Wl
set_option maxRecDepth 100000
end Go.Proofs.YtdhamoojccmbdaaGreatDoor
namespace Go.Proofs.YtdhamoojccmbdaaGreatDoor
open Go Go.Vc Go.Proofs Wl
set_option maxRecDepth 100000
section
variable {B:ag} {h0 h h':Heap} {As:List HP} {s:Sl} {d:List iA}
end
end Go.Proofs.YtdhamoojccmbdaaGreatDoor
namespace Go.Proofs.YtdhamoojccmbdaaGreatDoor
open Go Go.Vc Go.Proofs Wl
set_option maxRecDepth 100000
section
variable {B:ag} {h0 h:Heap} {As:List HP}
end
end Go.Proofs.YtdhamoojccmbdaaGreatDoor
namespace Go.Proofs.YtdhamoojccmbdaaGreatDoor
open Go Go.Vc Go.Proofs Wl
set_option maxRecDepth 100000
section
variable {B:ag} {h0 h:Heap} {As:List HP} {a pw:Addr} {offs:Int} {da:List (Option Addr)} {w:Pow} {ds:aJ}
end
end Go.Proofs.YtdhamoojccmbdaaGreatDoor
namespace Go.Proofs.YtdhamoojccmbdaaGreatDoor
open Go Go.Vc Go.Proofs Wl
set_option maxRecDepth 100000
end Go.Proofs.YtdhamoojccmbdaaGreatDoor
namespace Go.Proofs.YtdhamoojccmbdaaGreatDoor
open Go Go.Vc Go.Proofs Wl
set_option maxRecDepth 100000
def za (p:Pm) (seed:Int) (l:Nat):Int:=if cF p&&decide ((l:Int)=p.1*p.2.2)then(if wi p seed (dW p)then 0 else 8)else 1
abbrev BY (p:Pm) (seed:Int) (m:Sl):List Value:=[.int .i64 p.1,.int .i64 p.2.1,.int .i64 p.2.2,.int .u32 seed,.slice m.ptr m.len m.cap]
end Go.Proofs.YtdhamoojccmbdaaGreatDoor
namespace Go.Proofs.YtdhamoojccmbdaaGreatDoor
open Go Go.Vc Go.Proofs Wl
set_option maxRecDepth 100000
def zb (h:Heap) (b:Addr) (p:Pm) (seed:Int) (M:aZ):Prop:=∃m:Sl,cn h b qO (BY p seed m)∧ey h m 1 aF M
theorem zb.up {h h':Heap} {b:Addr} {p:Pm} {seed:Int} {M:aZ} (hb:zb h b p seed M) (hp:ar (fun b=>b<h.size) h h'):zb h' b p seed M:=by
 obtain⟨m,h1,h2⟩:=hb
 exact⟨m,h1.ao hp h1.lt,h2.up hp⟩
end Go.Proofs.YtdhamoojccmbdaaGreatDoor
namespace Go.Proofs.YtdhamoojccmbdaaGreatDoor
open Go Go.Vc Go.Proofs Wl
set_option maxRecDepth 100000
theorem _root_.Wl.bV.za {p:Pm} {seed:Int} {d:Row} {K H w n:Nat} (B:bV p seed d K H w n):za p seed d.length=0:=by
 rw[Go.Proofs.YtdhamoojccmbdaaGreatDoor.za,B.may,B.full,B.len,B.k,B.s,decide_eq_true (by rw[Int.natCast_mul])];rfl
theorem _root_.Wl.bV.congr {p:Pm} {seed:Int} {d d':Row} {K H w n:Nat} (B:bV p seed d K H w n) (h:d'.length=K*w):bV p seed d' K H w n:=
 ⟨B.may,B.full,B.k,B.h,B.s,B.n,B.k1,B.k2,B.h1,B.h2,B.w1,B.w2,h⟩
end Go.Proofs.YtdhamoojccmbdaaGreatDoor
namespace Go.Proofs.YtdhamoojccmbdaaGreatDoor
open Go Go.Vc Go.Proofs Wl
set_option maxRecDepth 100000
end Go.Proofs.YtdhamoojccmbdaaGreatDoor
namespace Go.Proofs.YtdhamoojccmbdaaGreatDoor
open Go Go.Vc Go.Proofs Wl
set_option maxRecDepth 100000
end Go.Proofs.YtdhamoojccmbdaaGreatDoor
namespace Go.Proofs.YtdhamoojccmbdaaGreatDoor
open Go Go.Vc Go.Proofs Wl
set_option maxRecDepth 100000
end Go.Proofs.YtdhamoojccmbdaaGreatDoor
namespace Go.Proofs.YtdhamoojccmbdaaGreatDoor
open Go Go.Vc Go.Proofs Wl
set_option maxRecDepth 100000
end Go.Proofs.YtdhamoojccmbdaaGreatDoor
namespace Go.Proofs.YtdhamoojccmbdaaGreatDoor
open Go Go.Vc Go.Proofs Wl
set_option maxRecDepth 100000
section
variable {B:ag} {h0 h:Heap} {As:List HP} {a pw:Addr} {offs:Int} {da:List (Option Addr)} {w:Pow} {ds:aJ}
end
end Go.Proofs.YtdhamoojccmbdaaGreatDoor
namespace Wl
open Go
end Wl
namespace Go.Proofs.YtdhamoojccmbdaaGreatDoor
open Go Go.Vc Go.Proofs Wl
set_option maxRecDepth 100000
end Go.Proofs.YtdhamoojccmbdaaGreatDoor
namespace Go.Proofs.YtdhamoojccmbdaaGreatDoor
open Go Go.Vc Go.Proofs Wl
set_option maxRecDepth 100000
end Go.Proofs.YtdhamoojccmbdaaGreatDoor
namespace Go.Proofs.YtdhamoojccmbdaaGreatDoor
open Go Go.Vc Go.Proofs Wl
set_option maxRecDepth 100000
section
variable {B:ag} {h0 h:Heap} {As:List HP} {a pw:Addr} {offs:Int} {da:List (Option Addr)} {w:Pow} {ds:aJ}
end
end Go.Proofs.YtdhamoojccmbdaaGreatDoor
namespace Go.Proofs.YtdhamoojccmbdaaGreatDoor
open Go Go.Vc Go.Proofs Wl
set_option maxRecDepth 100000
end Go.Proofs.YtdhamoojccmbdaaGreatDoor
namespace Go.Vc
open Go Wl Go.Proofs.YtdhamoojccmbdaaGreatDoor
section
variable {α:Type} {B:ag} {h0 h:Heap} {As:List HP} {k:Nat} {f:α→List Value} {L M:List (Sl×List α)}
end
end Go.Vc
namespace Wl
open Go
end Wl
namespace Go.Proofs.YtdhamoojccmbdaaGreatDoor
open Go Go.Vc Go.Proofs Wl
set_option maxRecDepth 100000
section
variable {B:ag} {h0 h:Heap} {As:List HP} {a pw:Addr} {offs:Int} {da:List (Option Addr)} {w:Pow} {ds:aJ} {mc:List Value}
end
end Go.Proofs.YtdhamoojccmbdaaGreatDoor
namespace Wl
open Go
end Wl
namespace Go.Proofs.YtdhamoojccmbdaaGreatDoor
open Go Go.Vc Go.Proofs Wl
set_option maxRecDepth 100000
section
variable {B:ag} {h0 h:Heap} {As:List HP} {a pw:Addr} {offs:Int} {da:List (Option Addr)} {w:Pow} {ds:aJ}
end
end Go.Proofs.YtdhamoojccmbdaaGreatDoor
namespace Wl
open Go
def Pow.calm (w:Pow):Prop:=w.off=false∧w.fuse=none
theorem zc:Pow.new.calm:=⟨rfl,rfl⟩
theorem kG {w:Pow} (h:w.calm):w.step=(true,w):=by unfold Pow.step;rw[if_neg (by simp[h.1]),h.2]
theorem oG {w:Pow} (h:w.calm) (ds:aJ) (x:Int) (b:List UInt8):(bS w ds x b).2.1=w:=by
 unfold bS
 cases bI ds x with
 |none=>rfl
 |some d=>
  dsimp only
  unfold aU.append
  split
  ·rfl
  ·split
   ·rfl
   ·split
    ·rfl
    ·split
     ·rfl
     ·rw[kG h];rfl
theorem rV {w:Pow} (h:w.calm) (ds:aJ) (x:Int):(cL w ds x).2.1=w:=by
 unfold cL
 cases bI ds x with
 |none=>rfl
 |some d=>
  dsimp only
  unfold aU.sync
  split
  ·rfl
  ·rw[kG h];rfl
theorem hG {w:Pow} (h:w.calm):∀(l:List (Int×List UInt8)) (ds:aJ),(eS l w ds).2.1=w
 |[],_=>rfl
 |x::l,ds=>by
  rw[jQ,oG h]
  split
  ·exact hG h l _
  ·exact oG h _ _ _
theorem ql {w:Pow} (h:w.calm):∀(l:List Int) (ds:aJ),(eG l w ds).2.1=w
 |[],_=>rfl
 |x::l,ds=>by
  rw[lI,rV h]
  split
  ·exact ql h l _
  ·exact rV h _ _
theorem zd {w:Pow} (h:w.calm) (l:List (Int×List UInt8)) (ds:aJ):(layAll l w ds).2.1=w:=by
 unfold layAll
 dsimp only
 rw[hG h]
 split
 ·exact ql h _ _
 ·exact hG h _ _
theorem vo {w:Pow} {d:aU} {n:Nat} {b:List UInt8} (h:w.calm) (h1:d.lost=false) (h2:d.l.length+(n+1)≤d.room) (hb:b.length=64):d.append w b=(0,w,{d with l:=d.l++[b],wait:=d.wait+1,laid:=[],has:=false}):=by
 unfold aU.append
 rw[if_neg (by omega),if_neg (by simp[h1]),if_neg (by omega),if_neg (by simp[h.1]),kG h];rfl
theorem ye {w:Pow} {d:aU} (h:w.calm) (h1:d.lost=false):d.sync w=(0,w,{d with wait:=0,laid:=[],has:=false}):=by
 unfold aU.sync
 rw[if_neg (by simp[h1]),kG h];rfl
theorem Bl {ds:aJ} {s:Int} {d:aU} (h:bI ds s=some d):0≤s∧s<64:=by
 obtain⟨n,rfl,hn⟩:=ed h
 omega
def qm (ds:aJ) (P:List (Int×List UInt8)) (s:Int):Option aU:=
 (bI ds s).map fun d=>{d with l:=d.l++(P.filter (fun x=>decide (x.1=s))).map Prod.snd,wait:=d.wait+(P.filter (fun x=>decide (x.1=s))).length,laid:=if(P.filter (fun x=>decide (x.1=s))).isEmpty then d.laid else[],has:=if(P.filter (fun x=>decide (x.1=s))).isEmpty then d.has else false}
theorem nE {w:Pow} (h:w.calm) {S:List Int}:∀(P:List (Int×List UInt8)) (ds:aJ),Fit ds S (P.map Prod.fst)→(∀x∈P,x.1∈S∧x.2.length=64)→
  (eS P w ds).1=0∧Fit (eS P w ds).2.2 S []∧∀s,bI (eS P w ds).2.2 s=qm ds P s
 |[],ds,F,_=>⟨rfl,F,fun s=>by unfold qm;show bI ds s=_;cases bI ds s<;>simp⟩
 |x::P,ds,F,hP=>by
  obtain⟨d,hd,h1,h2⟩:=F.at_ x.1 (hP x (List.mem_cons_self ..)).1
  rw[List.map_cons,List.count_cons_self]at h2
  have hb:=(hP x (List.mem_cons_self ..)).2
  obtain⟨n,hn,hn64⟩:=ed hd
  have hap:=vo (n:=(P.map Prod.fst).count x.1) h h1 (by omega) hb
  have e:bS w ds x.1 x.2=(0,w,dR ds x.1 {d with l:=d.l++[x.2],wait:=d.wait+1,laid:=[],has:=false}):=by
   unfold bS;rw[hd];dsimp only;rw[hap]
  obtain⟨_,F'⟩:=sD w x.2 (x:=x.1) (Q:=P.map Prod.fst) F (hP x (List.mem_cons_self ..)).1 hb
  rw[jQ,e]
  rw[e]at F'
  dsimp only at F'⊢
  rw[if_pos rfl]
  obtain⟨a1,a2,a3⟩:=nE h P _ F' fun y hy=>hP y (List.mem_cons_of_mem _ hy)
  refine⟨a1,a2,fun s=>?_⟩
  rw[a3 s]
  unfold qm
  rw[hn,jK _ _ _ _ hn64 F.len,←hn]
  by_cases hs:s=x.1
  ·rw[if_pos hs,hs,hd]
   simp only[Option.map_some,List.filter_cons,decide_true,if_true,List.map_cons,List.length_cons,List.append_assoc,List.singleton_append,List.isEmpty_cons,Bool.false_eq_true,if_false]
   congr 1
   simp only[aU.mk.injEq,true_and,and_true]
   refine⟨by omega,?_,?_⟩<;>split<;>rfl
  ·rw[if_neg hs]
   simp only[List.filter_cons,decide_eq_true_eq,if_neg (show¬x.1=s from fun hh=>hs hh.symm)]
theorem qn {w:Pow} (h:w.calm) {S:List Int}:∀(l:List Int) (ds:aJ),Fit ds S []→(∀x∈l,x∈S)→
  (eG l w ds).1=0∧Fit (eG l w ds).2.2 S []∧∀s,bI (eG l w ds).2.2 s=(bI ds s).map fun d=>if s∈l then{d with wait:=0,laid:=[],has:=false}else d
 |[],ds,F,_=>⟨rfl,F,fun s=>by show bI ds s=_;cases bI ds s<;>simp⟩
 |x::l,ds,F,hl=>by
  obtain⟨d,hd,h1,h2⟩:=F.at_ x (hl x (List.mem_cons_self ..))
  obtain⟨n,hn,hn64⟩:=ed hd
  have e:cL w ds x=(0,w,dR ds x {d with wait:=0,laid:=[],has:=false}):=by
   unfold cL;rw[hd];dsimp only;rw[ye h h1]
  obtain⟨_,F'⟩:=vm w F (hl x (List.mem_cons_self ..))
  rw[lI,e]
  rw[e]at F'
  dsimp only at F'⊢
  rw[if_pos rfl]
  obtain⟨a1,a2,a3⟩:=qn h l _ F' fun y hy=>hl y (List.mem_cons_of_mem _ hy)
  refine⟨a1,a2,fun s=>?_⟩
  rw[a3 s,hn,jK _ _ _ _ hn64 F.len,←hn]
  by_cases hs:s=x
  ·subst hs
   rw[if_pos rfl,hd]
   simp only[Option.map_some,List.mem_cons,true_or,if_true]
   congr 1
   split<;>rfl
  ·rw[if_neg hs]
   cases bI ds s with
   |none=>rfl
   |some d'=>simp[hs]
end Wl
namespace Go.Proofs.YtdhamoojccmbdaaGreatDoor
open Go Go.Vc Go.Proofs Wl
set_option maxRecDepth 100000
section
variable {B:ag} {h0 h h':Heap} {As:List HP} {a:Addr} {w:Pow}
end
section
variable {B:ag} {h0 h h':Heap} {As:List HP} {a pw:Addr} {d:aU} {w:Pow}
end
end Go.Proofs.YtdhamoojccmbdaaGreatDoor
namespace Go.Proofs.YtdhamoojccmbdaaGreatDoor
open Go Go.Vc Go.Proofs Wl
set_option maxRecDepth 100000
section
variable {B:ag} {h0 h h':Heap} {As:List HP}
end
end Go.Proofs.YtdhamoojccmbdaaGreatDoor
namespace Go.Proofs.YtdhamoojccmbdaaGreatDoor
open Go Go.Vc Go.Proofs Wl
set_option maxRecDepth 100000
end Go.Proofs.YtdhamoojccmbdaaGreatDoor
namespace Wl
open Go
end Wl
namespace Go.Proofs.YtdhamoojccmbdaaGreatDoor
open Go Go.Vc Go.Proofs Wl
set_option maxRecDepth 100000
end Go.Proofs.YtdhamoojccmbdaaGreatDoor
namespace Wl
open Go
end Wl
namespace Go.Proofs.YtdhamoojccmbdaaGreatDoor
open Go Go.Vc Go.Proofs Wl
set_option maxRecDepth 100000
end Go.Proofs.YtdhamoojccmbdaaGreatDoor
namespace Go.Proofs.YtdhamoojccmbdaaGreatDoor
open Go Go.Vc Go.Proofs Wl
set_option maxRecDepth 100000
end Go.Proofs.YtdhamoojccmbdaaGreatDoor
namespace Wl
open Go
def Has (ds:aJ) (S:List Int):Prop:=ds.length=64∧∀s∈S,∃d,bI ds s=some d
theorem Has.set {ds:aJ} {S:List Int} {n:Nat} {d:aU} (F:Has ds S) (hn:n<64):Has (dR ds (n:Int) d) S:=by
 refine⟨by unfold dR;rw[List.length_set];exact F.1,fun s hs=>?_⟩
 rw[jK _ _ _ _ hn F.1]
 by_cases h:s=(n:Int)
 ·rw[if_pos h];exact⟨_,rfl⟩
 ·rw[if_neg h];exact F.2 s hs
theorem Has.append {ds:aJ} {S:List Int} (F:Has ds S) (w:Pow) (x:Int) (b:List UInt8):Has (bS w ds x b).2.2 S:=by
 unfold bS
 cases hd:bI ds x with
 |none=>exact F
 |some d=>
  obtain⟨n,rfl,hn⟩:=ed hd
  exact F.set hn
theorem Has.sync {ds:aJ} {S:List Int} (F:Has ds S) (w:Pow) (x:Int):Has (cL w ds x).2.2 S:=by
 unfold cL
 cases hd:bI ds x with
 |none=>exact F
 |some d=>
  obtain⟨n,rfl,hn⟩:=ed hd
  exact F.set hn
end Wl
namespace Go.Vc
open Go Wl
end Go.Vc
namespace Go.Proofs.YtdhamoojccmbdaaGreatDoor
open Go Go.Vc Go.Proofs Wl
set_option maxRecDepth 100000
section
variable {B:ag} {h0 h h':Heap} {As:List HP} {a pw:Addr} {mc:List Value} {offs:Int} {da:List (Option Addr)} {w:Pow} {ds:aJ}
end
end Go.Proofs.YtdhamoojccmbdaaGreatDoor
namespace Go.Proofs.YtdhamoojccmbdaaGreatDoor
open Go Go.Vc Go.Proofs Wl
set_option maxRecDepth 100000
section
variable {B:ag} {h0 h h':Heap} {As:List HP} {a pw:Addr} {mc:List Value} {offs:Int} {da:List (Option Addr)} {w:Pow} {ds:aJ}
end
end Go.Proofs.YtdhamoojccmbdaaGreatDoor
namespace Go.Vc
open Go Wl Go.Proofs.YtdhamoojccmbdaaGreatDoor
def iG (p:Pm) (extra:Int) (l:List Int):Int:=
 if(bN l).2&&(cF p&&bZ extra 0 16)then
  if(az l l.length).any fun i=>decide (l.getD i.toNat 0<((aS (aX p extra l)).length:Int))then 7 else 0
 else 1
theorem wS (p:Pm) (extra:Int) (w:Pow) (l:List Int):ct p extra w l=if iG p extra l=0 then layAll (cd (aX p extra l) (az l l.length)) w (cR l (az l l.length).length)else(iG p extra l,w,[]):=by
 unfold ct iG
 by_cases h:((bN l).2&&(cF p&&bZ extra 0 16))=true
 ·rw[if_pos h,if_pos h]
  by_cases h2:((az l l.length).any fun i=>decide (l.getD i.toNat 0<((aS (aX p extra l)).length:Int)))=true
  ·rw[if_pos h2,if_pos h2];rfl
  ·rw[if_neg h2,if_neg h2];rfl
 ·rw[if_neg h,if_neg h];rfl
theorem qo {p:Pm} {extra:Int} {l:List Int} (h:iG p extra l=0):cF p=true∧0≤extra∧extra≤16∧(bN l).2=true∧((az l l.length).any fun i=>decide (l.getD i.toNat 0<((aS (aX p extra l)).length:Int)))=false:=by
 unfold iG at h
 by_cases h1:((bN l).2&&(cF p&&bZ extra 0 16))=true
 ·rw[if_pos h1]at h
  by_cases h2:((az l l.length).any fun i=>decide (l.getD i.toNat 0<((aS (aX p extra l)).length:Int)))=true
  ·rw[if_pos h2]at h;cases h
  ·unfold bZ at h1
   simp only[Bool.and_eq_true,decide_eq_true_eq]at h1
   exact⟨h1.2.1,h1.2.2.1,h1.2.2.2,h1.1,by simpa using h2⟩
 ·rw[if_neg h1]at h;cases h
end Go.Vc
namespace Go.Proofs.YtdhamoojccmbdaaGreatDoor
open Go Go.Vc Go.Proofs Wl
set_option maxRecDepth 20000
end Go.Proofs.YtdhamoojccmbdaaGreatDoor
namespace Wl
end Wl
namespace Go.Proofs.YtdhamoojccmbdaaGreatDoor
open Go Go.Vc Go.Proofs Wl
set_option maxRecDepth 100000
end Go.Proofs.YtdhamoojccmbdaaGreatDoor
namespace Go.Vc
open Go Wl Go.Proofs.YtdhamoojccmbdaaGreatDoor
theorem ze {w:Pow} (h:w.calm) {S:List Int} (P:List (Int×List UInt8)) (ds:aJ) (F:Fit ds S (P.map Prod.fst)) (hP:∀x∈P,x.1∈S∧x.2.length=64):
  (layAll P w ds).1=0∧Fit (layAll P w ds).2.2 S []∧∀s,bI (layAll P w ds).2.2 s=(qm ds P s).map fun d=>if s∈cE (P.map Prod.fst)then{d with wait:=0,laid:=[],has:=false}else d:=by
 obtain⟨a1,a2,a3⟩:=nE h P ds F hP
 have hw:=hG h P ds
 unfold layAll
 dsimp only
 rw[if_pos a1,hw]
 obtain⟨b1,b2,b3⟩:=qn h (S:=S) (cE (P.map Prod.fst)) (eS P w ds).2.2 a2 fun x hx=>by
  unfold cE at hx
  have hx':=(List.mem_filter.1 hx).2
  obtain⟨y,hy,rfl⟩:=List.mem_map.1 (of_decide_eq_true hx')
  exact(hP y hy).1
 exact⟨b1,b2,fun s=>by rw[b3 s,a3 s]⟩
theorem mq (l:List Int) (k:Nat):(az l k).Pairwise (·<·):=by
 unfold az
 refine List.Pairwise.filter _ (List.pairwise_map.2 ?_)
 exact(List.pairwise_lt_range (n:=k)).imp fun h=>by omega
theorem Aw {l:List Int} {most:Int} (h1:l.Pairwise (·<·)) (h2:∀x∈l,0≤x∧x≤most):gM l most=true:=by
 unfold gM
 refine jh fun i hi=>?_
 unfold dL bZ
 have hg:l.getD i 0=l[i]:=by rw[List.getD_eq_getElem?_getD,List.getElem?_eq_getElem hi];rfl
 have:=h2 l[i] (List.getElem_mem hi)
 rw[hg,decide_eq_true this.1,decide_eq_true this.2,Bool.true_and,Bool.true_and]
 by_cases h0:i=0
 ·rw[decide_eq_true h0];rfl
 ·have hg':l.getD (i-1) 0=l[i-1]:=by rw[List.getD_eq_getElem?_getD,List.getElem?_eq_getElem (by omega)];rfl
  rw[hg',decide_eq_true (List.pairwise_iff_getElem.1 h1 (i-1) i (by omega) hi (by omega)),Bool.or_true]
theorem o8 {p:Pm} {extra:Int} {l:List Int} (hl:l.length≤64) (e0:iG p extra l=0):cj (aX p extra l)=true:=by
 obtain⟨h1,h2,h3,_⟩:=qo e0
 have hh:fx (aX p extra l)=true:=by
  unfold fx bZ aX
  simp[h1,h2,h3]
 have hr:gM (aX p extra l).drives 63=true:=Aw (mq l l.length) fun x hx=>by
  obtain⟨n,hn,rfl,_⟩:=(ka l l.length x).1 hx
  omega
 unfold cj
 rw[hh,hr];rfl
theorem sE (p:Pm) (extra:Int) (l:List Int) (hl:l.length≤24):(aS (aX p extra l)).length≤1:=by
 unfold aS dV
 rw[List.length_map,List.length_range]
 have hp:=fN l l.length
 have:(eJ (aX p extra l)).length≤19+24:=by
  unfold eJ
  split
  ·simp only[List.length_append,bh,List.length_cons,List.length_nil,List.length_map,aX,List.flatMap_nil];omega
  ·simp
 omega
end Go.Vc
namespace Wl
open Go
end Wl
namespace Go.Vc
open Go Wl Go.Proofs.YtdhamoojccmbdaaGreatDoor
theorem yf (l:List (Int×List UInt8)) (k:Int):(l.map Prod.fst).count k=(l.filter fun y=>decide (y.1=k)).length:=by
 induction l with
 |nil=>rfl
 |cons y l ih=>
  rw[List.map_cons,List.count_cons,ih,List.filter_cons]
  by_cases h:y.1=k
  ·rw[if_pos (decide_eq_true h),if_pos (by simpa using h)];rfl
  ·rw[if_neg (by simpa using h),if_neg (by simpa using h)];rfl
end Go.Vc
namespace Go.Vc
open Go Wl Go.Proofs.YtdhamoojccmbdaaGreatDoor
theorem nF (n:aP) (k:Int):∀{live:List Int},live.Nodup→k∈live→((cd n live).filter fun y=>decide (y.1=k)).map Prod.snd=aS n
 |[],_,hk=>by cases hk
 |x::live,hnd,hk=>by
  have e:cd n (x::live)=(aS n).map (fun c=>(x,c))++cd n live:=by unfold cd;rw[List.flatMap_cons]
  obtain⟨hx,hnd'⟩:=List.nodup_cons.1 hnd
  rw[e,List.filter_append,List.map_append]
  by_cases hxk:x=k
  ·subst hxk
   have h1:((aS n).map (fun c=>(x,c))).filter (fun y=>decide (y.1=x))=(aS n).map (fun c=>(x,c)):=List.filter_eq_self.2 fun y hy=>by
    obtain⟨c,_,rfl⟩:=List.mem_map.1 hy
    exact decide_eq_true rfl
   have h2:(cd n live).filter (fun y=>decide (y.1=x))=[]:=List.filter_eq_nil_iff.2 fun y hy=>by
    have:=(iQ hy).1
    have hne:y.1≠x:=fun h=>hx (h▸this)
    simpa using hne
   rw[h1,h2,List.map_nil,List.append_nil,List.map_map]
   exact List.map_id _
  ·have h1:((aS n).map (fun c=>(x,c))).filter (fun y=>decide (y.1=k))=[]:=List.filter_eq_nil_iff.2 fun y hy=>by
    obtain⟨c,_,rfl⟩:=List.mem_map.1 hy
    simpa using hxk
   rw[h1,List.map_nil,List.nil_append]
   rcases List.mem_cons.1 hk with h|h
   ·exact absurd h.symm hxk
   ·exact nF n k hnd' h
end Go.Vc
namespace Go.Proofs.YtdhamoojccmbdaaGreatDoor
open Go Go.Vc Go.Proofs Wl
end Go.Proofs.YtdhamoojccmbdaaGreatDoor
namespace Go.Proofs.YtdhamoojccmbdaaGreatDoor
open Go Go.Vc Go.Proofs Wl
end Go.Proofs.YtdhamoojccmbdaaGreatDoor
namespace Wl
open Go
theorem zf {ds:aJ} {k:Int} {d0 d:aU} (h64:ds.length=64) (hk:bI ds k=some d0) (s:Int):bI (dR ds k d) s=if s=k then some d else bI ds s:=by
 obtain⟨n,rfl,hn⟩:=ed hk
 exact jK ds n d s hn h64
end Wl
namespace Wl
open Go
end Wl
namespace Go.Proofs.YtdhamoojccmbdaaGreatDoor
open Go Go.Vc Go.Proofs Wl
end Go.Proofs.YtdhamoojccmbdaaGreatDoor
namespace Go.Proofs.YtdhamoojccmbdaaGreatDoor
open Go Go.Vc Go.Proofs Wl
end Go.Proofs.YtdhamoojccmbdaaGreatDoor
namespace Wl
open Go
def kH (cs:List (List UInt8)) (d:aU):aU:=if cs.isEmpty then d else{d with l:=d.l++cs,wait:=0,laid:=[],has:=false}
def jn (P:List (Int×List UInt8)) (s:Int):List (List UInt8):=(P.filter fun x=>decide (x.1=s)).map Prod.snd
theorem zg {P:List (Int×List UInt8)} {s:Int} (h:∀x∈P,x.1≠s):jn P s=[]:=by
 unfold jn
 rw[List.filter_eq_nil_iff.2 fun x hx=>by simpa using h x hx];rfl
theorem uD (P:List (Int×List UInt8)) (s:Int):(jn P s).length=(P.map Prod.fst).count s:=by
 unfold jn;rw[List.length_map];exact(Go.Vc.yf P s).symm
theorem oH {l:List Int} {s:Int} (h:0≤s∧s<64):s∈cE l↔s∈l:=by
 unfold cE
 rw[List.mem_filter,decide_eq_true_eq]
 refine⟨fun h=>h.2,fun h'=>⟨?_,h'⟩⟩
 exact List.mem_map.2 ⟨s.toNat,List.mem_range.2 (by omega),by omega⟩
theorem Bm {w:Pow} (hw:w.calm) {ds:aJ} {P:List (Int×List UInt8)} (h64:ds.length=64)
  (hfit:∀x∈P,x.2.length=64∧∃d,bI ds x.1=some d∧d.lost=false∧d.l.length+(jn P x.1).length≤d.room):
  ∃ds',layAll P w ds=(0,w,ds')∧ds'.length=64∧∀s,bI ds' s=(bI ds s).map (kH (jn P s)):=by
 have F:Fit ds (P.map Prod.fst) (P.map Prod.fst):=⟨h64,fun k hk=>by
  obtain⟨x,hx,rfl⟩:=List.mem_map.1 hk
  obtain⟨_,d,h1,h2,h3⟩:=hfit x hx
  rw[uD]at h3
  exact⟨d,h1,h2,h3⟩⟩
 obtain⟨a1,a2,a3⟩:=Go.Vc.ze hw P ds F fun x hx=>⟨List.mem_map.2 ⟨x,hx,rfl⟩,(hfit x hx).1⟩
 refine⟨(layAll P w ds).2.2,?_,a2.len,fun s=>?_⟩
 ·have h2:=zd hw P ds
  exact Prod.ext a1 (Prod.ext h2 rfl)
 ·rw[a3 s]
  unfold qm
  cases hd:bI ds s with
  |none=>rfl
  |some d=>
   obtain⟨hs0,hs1⟩:=Bl hd
   rw[Option.map_some,Option.map_some,Option.map_some]
   congr 1
   unfold kH
   have hm:s∈P.map Prod.fst↔(jn P s).isEmpty=false:=by
    rw[←List.count_pos_iff,←uD]
    cases hc:jn P s<;>simp
   by_cases he:(jn P s).isEmpty=true
   ·have h0:jn P s=[]:=List.isEmpty_iff.1 he
    have h1:(P.filter fun x=>decide (x.1=s))=[]:=List.map_eq_nil_iff.1 h0
    rw[if_neg (fun h=>by rw[oH ⟨hs0,hs1⟩,hm]at h;rw[h]at he;cases he),if_pos he,h1]
    simp
   ·have hf:(jn P s).isEmpty=false:=by simpa using he
    rw[if_pos ((oH ⟨hs0,hs1⟩).2 (hm.2 hf)),if_neg he]
    rfl
end Wl
namespace Go.Proofs.YtdhamoojccmbdaaGreatDoor
open Go Go.Vc Go.Proofs Wl
theorem rW {n:aP} {live:List Int} (hnd:live.Nodup) (s:Int):jn (cd n live) s=if s∈live then aS n else[]:=by
 by_cases h:s∈live
 ·rw[if_pos h];exact nF n s hnd h
 ·rw[if_neg h];exact zg fun x hx he=>h (he▸(iQ hx).1)
theorem zh {m:aP} (h:cj m=true):aS m≠[]:=by
 unfold aS dV eJ
 rw[if_pos h]
 intro e
 have:=congrArg List.length e
 simp[bh]at this
 omega
theorem zi {ds:aJ} {l:List Int} {k:Int} (h:k∈cw ds l):k∈l∧∃d,bI ds k=some d∧d.lost=false:=by
 obtain⟨h1,h2⟩:=List.mem_filter.1 h
 unfold isLive at h2
 cases hd:bI ds k with
 |none=>rw[hd]at h2;cases h2
 |some d=>rw[hd]at h2;exact⟨h1,d,rfl,by simpa using h2⟩
end Go.Proofs.YtdhamoojccmbdaaGreatDoor
namespace Go.Proofs.YtdhamoojccmbdaaGreatDoor
open Go Go.Vc Go.Proofs Wl
theorem qp (l:List Int) (hl:l.length≤64) (s:Int):bI (cR l (az l l.length).length) s=if s∈az l l.length then some (aU.new (l.getD s.toNat 0).toNat)else none:=by
 by_cases hs:0≤s∧s<64
 ·unfold bI cR
  rw[if_pos hs,List.getElem?_map,List.getElem?_range (by omega),Option.map_some,List.take_of_length_le (Nat.le_refl _)]
  have e:((s.toNat:Nat):Int)=s:=by omega
  rw[e]
  by_cases h:s∈az l l.length
  ·rw[if_pos h];rfl
  ·rw[if_neg h];rfl
 ·rw[if_neg (fun h=>?_)]
  ·unfold bI;rw[if_neg hs]
  ·obtain⟨n,hn,rfl,_⟩:=(ka l l.length s).1 h
   omega
theorem yg {p:Pm} {extra:Int} {l:List Int} (hl:l.length≤64) (e0:iG p extra l=0):
  ∃D,ct p extra Pow.new l=(0,Pow.new,D)∧D.length=64∧∀s,bI D s=if s∈az l l.length then some ⟨(l.getD s.toNat 0).toNat,aS (aX p extra l),0,[],false,false⟩else none:=by
 have hm:=o8 hl e0
 have hnd:(az l l.length).Nodup:=(mq l l.length).imp fun h e=>by omega
 have hany:=(qo e0).2.2.2.2
 rw[wS,if_pos e0]
 obtain⟨D,h1,h2,h3⟩:=Bm zc (ds:=cR l (az l l.length).length) (P:=cd (aX p extra l) (az l l.length)) (vi _ _) fun x hx=>by
  obtain⟨hx1,hx2⟩:=iQ hx
  refine⟨hx2,aU.new (l.getD x.1.toNat 0).toNat,by rw[qp l hl,if_pos hx1],rfl,?_⟩
  rw[rW hnd,if_pos hx1]
  have:=List.any_eq_false.1 hany x.1 hx1
  simp only[decide_eq_true_eq]at this
  show 0+_≤(l.getD x.1.toNat 0).toNat
  omega
 refine⟨D,h1,h2,fun s=>?_⟩
 rw[h3,qp l hl,rW hnd]
 by_cases h:s∈az l l.length
 ·rw[if_pos h,if_pos h,if_pos h,Option.map_some]
  unfold kH
  rw[if_neg (by simpa using zh hm)]
  rfl
 ·rw[if_neg h,if_neg h,if_neg h];rfl
theorem wT {p:Pm} {n:Int} (h:n≤p.1*p.2.2*8):countP p n≤8:=by
 unfold countP
 split
 ·rename_i hh
  rw[Bool.and_eq_true,decide_eq_true_eq]at hh
  have:=(fC p).1 hh.1
  have hs:0<p.1*p.2.2:=Int.mul_pos (by omega) (by omega)
  have:(n-1)/(p.1*p.2.2)<8:=Int.ediv_lt_of_lt_mul hs (by rw[Int.mul_comm 8];omega)
  omega
 ·decide
end Go.Proofs.YtdhamoojccmbdaaGreatDoor
namespace Go.Proofs.YtdhamoojccmbdaaGreatDoor
open Go Go.Vc Go.Proofs Wl
theorem rm {m:aP} (h:cj m=true):dz m:=by
 obtain⟨h1,h2,h3,h4,h5,h6,h7⟩:=(oU m).1 h
 have hd:=rK h
 refine⟨by omega,by omega,fun e he=>?_⟩
 obtain⟨b1,b2,b3,b4,b5⟩:=(yQ m e).1 (h5 e he)
 have:=wT b3.2
 have hn:e.name.size≤12:=by unfold ju at b1;simp at b1;omega
 omega
set_option maxRecDepth 100000
section
variable {B:ag} {h0 h:Heap} {As:List HP} {a pw:Addr} {offs:Int} {da:List (Option Addr)} {w:Pow} {ds:aJ}
end
end Go.Proofs.YtdhamoojccmbdaaGreatDoor
namespace Go.Vc
open Go Wl
section
variable {k:Kit} {B:ag} {h0 h:Heap} {As:List HP} {a pw b:Addr} {mc:List Value} {offs:Int} {da:List (Option Addr)} {w:Pow} {ds:aJ} {d:aU} {n:Nat}
end
end Go.Vc
namespace Go.Proofs.YtdhamoojccmbdaaGreatDoor
open Go Go.Vc Go.Proofs Wl
section
set_option maxRecDepth 20000
variable {B:ag} {h0 h:Heap} {As:List HP} {a pw b:Addr} {mc:List Value} {offs:Int} {da:List (Option Addr)} {w:Pow} {ds:aJ} {d:aU}
def gi (slot cells:Int):Bool:=decide ((0≤slot∧slot<64)∧1≤cells∧cells≤512)
end
end Go.Proofs.YtdhamoojccmbdaaGreatDoor
