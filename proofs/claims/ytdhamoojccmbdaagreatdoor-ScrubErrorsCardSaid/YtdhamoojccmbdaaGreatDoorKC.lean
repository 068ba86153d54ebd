/- Part of the proofs that the laws of this seat answer true whatever the input reads, and leave it as it was; no condition. -/
import Derived.Test.YtdhamoojccmbdaaGreatDoorKB
import Derived.Test.YtdhamoojccmbdaaGreatDoorKA
import Derived.Test.YtdhamoojccmbdaaGreatDoorTabS
import Derived.Test.YtdhamoojccmbdaaGreatDoorPlA
import Derived.Test.YtdhamoojccmbdaaGreatDoorPlI
set_option linter.unusedVariables false
set_option linter.unusedSimpArgs false
namespace Go.Vc
open Go Wl
section
variable {k:Kit} {B:ag} {h0 h:Heap} {As:List HP} {a pw b:Addr} {mc:List Value} {offs:Int} {da:List (Option Addr)} {w:Pow} {ds:aJ} {d:aU} {n:Nat}
end
end Go.Vc
namespace Go.Proofs.YtdhamoojccmbdaaGreatDoor
open Go Go.Vc Go.Proofs Wl
set_option maxRecDepth 100000
section
variable {B:ag} {h0 h:Heap} {As:List HP} {a pw b:Addr} {offs:Int} {da:List (Option Addr)} {w:Pow} {ds:aJ} {d:aU}
end
end Go.Proofs.YtdhamoojccmbdaaGreatDoor
namespace Go.Proofs.YtdhamoojccmbdaaGreatDoor
open Go Go.Vc Go.Proofs Wl
set_option maxRecDepth 100000
section
variable {B:ag} {h0 h:Heap} {As:List HP} {a pw:Addr} {offs:Int} {da:List (Option Addr)} {w:Pow} {ds:aJ} {mc:List Value}
theorem uE {k:Int} {d:aU} (hd:bI ds k=some d) (H:aa B h0 h (bH cA a pw mc offs da w ds::As)):∃(b:Addr) (s bl:Sl),gZ da k=some b∧cn h b bE (dw pw d s bl)∧ey h s 1 aF d.l∧cg d:=by
 obtain⟨ok,_⟩:=aa.dH H
 rcases lZ ok k with⟨h1,_⟩|⟨n,d',b,rfl,hn,h1,h2,h3,h4⟩
 ·rw[h1]at hd;cases hd
 ·rw[h2]at hd
  injection hd with hd
  subst hd
  obtain⟨b',hb',H1⟩:=Go.Vc.aa.jf H h1
  rw[h3]at hb'
  injection hb' with hb'
  injection hb' with hb'
  subst hb'
  obtain⟨okd,s,bl,H2⟩:=aa.nT H1
  exact⟨b,s,bl,h4,H2.box 0 rfl,(H2.bt 2 [1,0]).zB fun _=>rfl,okd⟩
theorem uF {k:Int} (H:aa B h0 h (bH cA a pw mc offs da w ds::As)):ae Tryz.prog bw #[.pointer (some a),.int .i64 k] h fun v h'=>v=.pointer (gZ da k)∧h'=h:=by
 obtain⟨ok,hb⟩:=aa.dH H
 exact iP k ok hb
end
end Go.Proofs.YtdhamoojccmbdaaGreatDoor
namespace Go.Proofs.YtdhamoojccmbdaaGreatDoor
open Go Go.Vc Go.Proofs Wl
end Go.Proofs.YtdhamoojccmbdaaGreatDoor
namespace Go.Proofs.YtdhamoojccmbdaaGreatDoor
open Go Go.Vc Go.Proofs Wl
end Go.Proofs.YtdhamoojccmbdaaGreatDoor
namespace Go.Proofs.YtdhamoojccmbdaaGreatDoor
open Go Go.Vc Go.Proofs Wl
end Go.Proofs.YtdhamoojccmbdaaGreatDoor
namespace Go.Proofs.YtdhamoojccmbdaaGreatDoor
open Go Go.Vc Go.Proofs Wl
set_option maxRecDepth 100000
def qq (a b c:Int):Int×Int×Int:=(1+a%6,1+b%3,1+c%9)
theorem wU (a b c:Int) (h:Heap):ae Tryz.prog kc #[.int .i64 a,.int .i64 b,.int .i64 c] h fun v h'=>v=vN (qq a b c)∧Sp h h' []:=by
 refine j3 a b c ?_
 unfold gl
 refine(Sp.refl h).alloc ah rfl fun x h1 H1=>?_
 refine(bB a 6 h1 (by decide) (by decide)).mono ?_
 rintro v h2 ⟨rfl,rfl⟩
 refine⟨_,rfl,(bB b 3 h2 (by decide) (by decide)).mono ?_⟩
 rintro v h3 ⟨rfl,rfl⟩
 refine⟨_,rfl,(bB c 9 h3 (by decide) (by decide)).mono ?_⟩
 rintro v h4 ⟨rfl,rfl⟩
 refine⟨_,rfl,?_⟩
 dsimp only
 rw[wrap_small _ (by omega) (by omega),wrap_small _ (by omega) (by omega),wrap_small _ (by omega) (by omega)]
 refine H1.storeAll ah 0 rfl rfl [.int .i64 (1+a%6),.int .i64 (1+b%3),.int .i64 (1+c%9)] rfl rfl rfl rfl fun h5 H5=>?_
 exact⟨qq a b c,(H5.box 0 rfl).bp _ rfl,rfl,.zip H5.ao⟩
end Go.Proofs.YtdhamoojccmbdaaGreatDoor
namespace Go.Proofs.YtdhamoojccmbdaaGreatDoor
open Go Go.Vc Go.Proofs Wl
end Go.Proofs.YtdhamoojccmbdaaGreatDoor
namespace Go.Proofs.YtdhamoojccmbdaaGreatDoor
open Go Go.Vc Go.Proofs Wl
theorem vp (m n:aP):gP m (aS n)=[]:=by
 unfold gP
 rw[wx];simp[qE]
end Go.Proofs.YtdhamoojccmbdaaGreatDoor
namespace Go.Proofs.YtdhamoojccmbdaaGreatDoor
open Go Go.Vc Go.Proofs Wl
set_option maxRecDepth 100000
def df (a pw:Addr) (da:List (Option Addr)) (offs:Int) (w:Pow) (ds:aJ) (m:aP):HP:=HP.ex fun x:bX=>(bH cA a pw (bM x) offs da w ds).sep (iB x m)
section
variable {B:ag} {h0 h:Heap} {As:List HP} {a pw:Addr} {offs:Int} {da:List (Option Addr)} {w:Pow} {ds:aJ} {m:aP}
theorem eW (H:aa B h0 h (df a pw da offs w ds m::As)):∃x,aa B h0 h (bH cA a pw (bM x) offs da w ds::iB x m::As):=by
 obtain⟨x,H⟩:=H.nQ
 exact⟨x,H.px.xa⟩
theorem l6 {x:bX} (H:aa B h0 h (bH cA a pw (bM x) offs da w ds::iB x m::As)):aa B h0 h (df a pw da offs w ds m::As):=
 aa.pv (F:=fun x:bX=>(bH cA a pw (bM x) offs da w ds).sep (iB x m)) x H.xa.js
end
section
variable {B:ag} {h0 h:Heap} {As:List HP} {a pw:Addr} {offs:Int} {da:List (Option Addr)} {w:Pow} {ds:aJ} {m:aP}
theorem Bn (H:aa B h0 h (df a pw da offs w ds m::As)):ds.length=64∧∀k d,bI ds k=some d→d.l.length≤d.room∧d.room≤512∧cg d:=by
 obtain⟨x,H⟩:=eW H
 obtain⟨ok,_⟩:=aa.dH H
 refine⟨ok.ls,fun k d hd=>?_⟩
 obtain⟨b,s,bl,_,_,_,okd⟩:=uE hd H
 exact⟨okd.len,okd.room,okd⟩
theorem qt (p:Pm) (extra:Int) (s:Sl) (l:List Int) (hS:St B h0 As fun h=>Rd h s 1 aI l) (hl:l.length≤64) (e0:iG p extra l=0) (hw:w=Pow.new) (H:aa B h0 h (bW aN pw w::As)):
  ae Tryz.prog kv #[vN p,.int .i64 extra,.pointer (some pw),.slice s.ptr s.len s.cap] h fun v h'=>∃(a:Addr) (da:List (Option Addr)) (D:aJ),v=.tuple #[.pointer (some a),.int .i64 0]∧D.length=64∧
   (∀s,bI D s=if s∈az l l.length then some ⟨(l.getD s.toNat 0).toNat,aS (aX p extra l),0,[],false,false⟩else none)∧aa B h0 h' (df a pw da 0 Pow.new D (aX p extra l)::As):=by
 subst hw
 obtain⟨D,f1,f2,f3⟩:=yg (p:=p) (extra:=extra) (l:=l) hl e0
 refine(vn p extra s l hS (by omega) H).mono ?_
 rintro _ h' ⟨_,Q0⟩
 rw[f1]at Q0
 obtain⟨a,y,da,rfl,H7⟩:=Q0 rfl
 exact⟨a,da,D,rfl,f2,f3,l6 H7⟩
theorem zj (hm:cj m=true) (H:aa B h0 h (df a pw da offs w ds m::As)):
  ae Tryz.prog hZ #[.pointer (some a)] h fun v h'=>∃r:Sl,v=.slice r.ptr r.len r.cap∧Sp h h' [aq bf r 1 aI (cw ds m.drives)]:=by
 obtain⟨x,H⟩:=eW H
 exact ri x m (H.at 1 rfl) (rm hm) H
theorem zk (hm:cj m=true) (H:aa B h0 h (df a pw da offs w ds m::As)):
  ae Tryz.prog fY #[.pointer (some a)] h fun v h'=>∃y:bX,v=ft y∧Sp h h' [iB y m]:=by
 obtain⟨x,H⟩:=eW H
 exact rj x m (H.at 1 rfl) (rm hm) H
theorem yh (k:Int) (H:aa B h0 h (df a pw da offs w ds m::As)):ae Tryz.prog bw #[.pointer (some a),.int .i64 k] h fun v h'=>v=.pointer (gZ da k)∧h'=h:=by
 obtain⟨x,H⟩:=eW H
 exact uF H
theorem Ax {k:Int} {d:aU} (hd:bI ds k=some d) (H:aa B h0 h (df a pw da offs w ds m::As)):∃b,gZ da k=some b:=by
 obtain⟨x,H⟩:=eW H
 obtain⟨b,_,_,hb,_⟩:=uE hd H
 exact⟨b,hb⟩
theorem zl {k:Int} {d:aU} {b:Addr} (hd:bI ds k=some d) (hb:gZ da k=some b) (H:aa B h0 h (df a pw da offs w ds m::As)):∃s bl:Sl,cn h b bE (dw pw d s bl)∧ey h s 1 aF d.l∧cg d:=by
 obtain⟨x,H⟩:=eW H
 obtain⟨b',s,bl,hb',q1,q2,q3⟩:=uE hd H
 rw[hb]at hb'
 injection hb' with hb'
 subst hb'
 exact⟨s,bl,q1,q2,q3⟩
theorem zm (H:aa B h0 h (df a pw da offs w ds m::As)):ae Tryz.prog ic #[.pointer (some a)] h fun v h'=>v=.bool (qj w offs)∧h'=h:=by
 obtain⟨x,H⟩:=eW H
 exact rk H
theorem rX (H:aa B h0 h (df a pw da offs w ds m::As)):ae Tryz.prog gS #[.pointer (some a)] h fun v h'=>v=.pointer (some pw)∧h'=h:=by
 obtain⟨x,H⟩:=eW H
 exact sC H
end
end Go.Proofs.YtdhamoojccmbdaaGreatDoor
namespace Wl
open Go Go.Proofs.YtdhamoojccmbdaaGreatDoor Go.Vc
def dg (m:aP):List Int→Pow→aJ→Int×Pow×aJ
 |[],w,ds=>(0,w,ds)
 |k::l,w,ds=>match bI ds k with
  |none=>dg m l w ds
  |some d=>if d.l=cD m d.l then dg m l w ds else
   if(d.rewrite w (cD m d.l)).1=0 then dg m l (d.rewrite w (cD m d.l)).2.1 (dR ds k (d.rewrite w (cD m d.l)).2.2)
   else((d.rewrite w (cD m d.l)).1,(d.rewrite w (cD m d.l)).2.1,dR ds k (d.rewrite w (cD m d.l)).2.2)
theorem o9 {m:aP} {w:Pow} {ds:aJ}:∀{l:List Int},(∀k∈l,∀d,bI ds k=some d→d.l=cD m d.l)→dg m l w ds=(0,w,ds)
 |[],_=>rfl
 |k::l,h=>by
  unfold dg
  cases hd:bI ds k with
  |none=>exact o9 fun j hj=>h j (List.mem_cons_of_mem _ hj)
  |some d=>
   dsimp only
   rw[if_pos (h k List.mem_cons_self d hd)]
   exact o9 fun j hj=>h j (List.mem_cons_of_mem _ hj)
end Wl
namespace Go.Proofs.YtdhamoojccmbdaaGreatDoor
open Go Go.Vc Go.Proofs Wl
set_option maxRecDepth 100000
theorem vq (a b:Sl) (la lb:List (List UInt8)) (h:Heap) (ha:ey h a 1 aF la) (hb:ey h b 1 aF lb) (hl:la.length≤2^30):
  ae Tryz.prog eU #[.slice a.ptr a.len a.cap,.slice b.ptr b.len b.cap,.func (.func iw) #[] #[]] h fun v h'=>v=.bool (decide (la=lb))∧h'=h:=by
 refine eE a b (iw,#[],#[]) ?_
 unfold cO
 have hla:=ha.len
 have hlb:=hb.len
 refine dt (fun e=>⟨?_,rfl⟩) fun e=>?_
 ·rw[decide_eq_false (fun h=>e (by rw[hla,hlb,h]))]
 have hll:la.length=lb.length:=by omega
 refine aE (fun i:Nat=>(i:Int)) (fun i h'=>i≤la.length∧la.take i=lb.take i∧h'=h) (fun i=>la.length-i) 0 rfl ⟨by omega,by simp,rfl⟩ ?_
 rintro i h1 ⟨hi,hp,rfl⟩
 refine an (fun e1=>?_) (fun e1=>?_)
 ·have hi':i<la.length:=by
   have e':(i:Int)<(a.len:Int):=e1
   omega
  refine ha.get i rfl hi' fun r hr=>hb.get i rfl (by omega) fun r2 hr2=>eN (by rfl) ?_
  refine(j9 r r2 _ _ h1 hr hr2).mono ?_
  rintro _ _ ⟨rfl,rfl⟩
  refine⟨_,rfl,aV (fun e2=>⟨?_,rfl⟩) fun e2=>?_⟩
  ·rw[decide_eq_false (fun h=>of_decide_eq_false e2 (by simp only[h]))]
  ·refine⟨i+1,by rw[Go.Vc.wrap_small _ (by omega) (by omega)];rfl,⟨by omega,?_,rfl⟩,by omega⟩
   rw[aK _ _ hi',aK _ _ (show i<lb.length by omega),hp,of_decide_eq_true e2]
 ·have e':¬(i:Int)<(a.len:Int):=e1
  rw[List.take_of_length_le (by omega),List.take_of_length_le (by omega)]at hp
  exact⟨by rw[decide_eq_true hp],rfl⟩
abbrev uG (a:Addr) (y:bX) (lv:Sl) (t most k:Int):List Value:=.pointer (some a)::(bM y++[.slice lv.ptr lv.len lv.cap,.int .i64 t,.int .i64 most,.int .i64 k])
section
variable {B:ag} {h0 h:Heap} {As:List HP} {a pw:Addr} {offs:Int} {da:List (Option Addr)} {w:Pow} {ds:aJ} {m:aP}
theorem vr {k:Int} {d:aU} {b:Addr} (x:Sl) (l:List (List UInt8)) (hS:St B h0 As fun h=>ey h x 1 aF l) (hl:l.length≤2^20) (hcl:∀c∈l,c.length≤2^20) (hd:bI ds k=some d) (hb:gZ da k=some b) (H:aa B h0 h (df a pw da offs w ds m::As)):
  ae Tryz.prog gm #[.pointer (some b),.slice x.ptr x.len x.cap] h fun v h'=>v=.int .i64 (d.rewrite w l).1∧aa B h0 h' (df a pw da offs (d.rewrite w l).2.1 (dR ds k (d.rewrite w l).2.2) m::As):=by
 obtain⟨y,H⟩:=eW H
 obtain⟨ok,_⟩:=aa.dH H
 obtain⟨n,rfl,hn⟩:=ed hd
 have h4:ds[n]?=some (some d):=by
  unfold bI at hd
  rw[if_pos (by omega),Int.toNat_natCast]at hd
  cases hX:ds[n]? with
  |none=>rw[hX]at hd;cases hd
  |some o=>rw[hX]at hd;exact congrArg some hd
 obtain⟨b',hb',H1⟩:=Go.Vc.aa.jf H h4
 have hbb:b'=b:=by
  unfold gZ at hb
  rw[if_pos (by omega),Int.toNat_natCast,hb']at hb
  injection hb
 subst hbb
 refine(uB x l H1 (fun Bs h' H'=>(hS.cons.cons) Bs h' H') hl hcl).mono ?_
 rintro _ h' ⟨rfl,H2⟩
 have H3:=Go.Vc.aa.o6 (k:=cA) (n:=n) hb' H2
 refine⟨rfl,?_⟩
 have e:dR ds (n:Int) (d.rewrite w l).2.2=ds.set n (some (d.rewrite w l).2.2):=by simp only[dR,Int.toNat_natCast]
 rw[e]
 exact l6 H3
theorem sF {m:aP} {l:List (List UInt8)} (hz:dz m) (hl:l.length≤512):(cD m l).length≤4000∧∀c∈cD m l,c.length≤64:=by
 refine⟨?_,fun c hc=>?_⟩
 ·have:=kF m hz
  have:=qk m l
  unfold cD;rw[List.length_append];omega
 ·unfold cD at hc
  rcases List.mem_append.1 hc with hc|hc
  ·exact Nat.le_of_eq (pD hc)
  ·exact vk hc
theorem wV {c:Addr} (y:bX) (lv:Sl) (live:List Int) (t most k:Int) (hm:cj m=true) (hl:live.length≤64) (hlive:∀k∈live,∃d,bI ds k=some d)
  (hS:St B h0 As fun h=>cn h c dN (uG a y lv t most k)∧fM h y m∧Rd h lv 1 aI live) (H:aa B h0 h (df a pw da offs w ds m::As)):
  ae Tryz.prog kf #[.pointer (some c)] h fun v h'=>v=.int .i64 (dg m live w ds).1∧aa B h0 h' (df a pw da offs (dg m live w ds).2.1 (dg m live w ds).2.2 m::As):=by
 refine j5 (some c) ?_
 unfold gp
 have hz:=rm hm
 have hs0:=hS.at [_] H
 have hlvl:=hs0.2.2.len
 refine⟨c,rfl,lv,hs0.1.cell rfl,?_⟩
 refine aE (fun t:Nat×Pow×aJ=>(t.1:Int)) (fun t h'=>t.1≤live.length∧(∀k∈live,∃d,bI t.2.2 k=some d)∧dg m live w ds=dg m (live.drop t.1) t.2.1 t.2.2∧aa B h0 h' (df a pw da offs t.2.1 t.2.2 m::As)) (fun t=>live.length-t.1) (0,w,ds) rfl ⟨by omega,hlive,rfl,H⟩ ?_
 rintro⟨i,w1,ds1⟩ h1 ⟨hi,hlv1,hcl,H1⟩
 dsimp only at hi hlv1 hcl H1⊢
 obtain⟨hbx,hy,hlr⟩:=hS.at [_] H1
 refine an (fun e=>?_) fun e=>?_
 ·have hi':i<live.length:=by omega
  obtain⟨d,hd⟩:=hlv1 live[i] (List.getElem_mem hi')
  obtain⟨b,hb⟩:=Ax hd H1
  refine hlr.ef i rfl hi' live[i] rfl ⟨c,rfl,some a,hbx.cell0 rfl,(yh _ H1).mono ?_⟩
  rintro _ h2 ⟨rfl,rfl⟩
  rw[hb]
  obtain⟨s,bl,q1,q2,q3⟩:=zl hd hb H1
  have hlen:=q3.len;have hroom:=q3.room
  obtain⟨k1,k2⟩:=sF hz (show d.l.length≤512 by omega)
  refine⟨_,rfl,c,rfl,y,hbx.cells 1 _ rfl,(yc s bl y m q1 q2 q3 hy hz).mono ?_⟩
  rintro _ h3 ⟨r11,rfl,R3⟩
  refine⟨r11,rfl,(uo s bl (q1.ao R3.ao q1.lt) (q2.up R3.ao) q3).mono ?_⟩
  rintro _ h4 ⟨r12,rfl,R4⟩
  have hk4:ey h4 r11 1 aF (cD m d.l):=(R3.zB fun _=>rfl).up R4.ao
  refine⟨r12,rfl,(vq r12 r11 _ _ h4 (R4.zB fun _=>rfl) hk4 (by omega)).mono ?_⟩
  rintro _ h5 ⟨rfl,rfl⟩
  have e0:live.drop i=live[i]::live.drop (i+1):=List.drop_eq_getElem_cons hi'
  have H3:=(H1.cX R3).up R4.ao
  refine⟨_,rfl,an (fun e2=>?_) fun e2=>?_⟩
  ·refine⟨(i+1,w1,ds1),by dsimp only;rw[Go.Vc.wrap_small _ (by omega) (by omega)];rfl,⟨by dsimp only;omega,hlv1,?_,H3.bt 1 []⟩,by dsimp only;omega⟩
   rw[hcl,e0]
   show dg m (live[i]::live.drop (i+1)) w1 ds1=dg m (live.drop (i+1)) w1 ds1
   rw[dg,hd]
   dsimp only
   rw[if_pos e2]
  ·obtain⟨rs,H4⟩:=H3.Bf fun _=>rfl
   have H4:aa B h0 h5 (df a pw da offs w1 ds1 m::fa (qA 1 aF) 1 cv r11 rs (cD m d.l)::As):=H4.bt 2 [1,0]
   refine(vr r11 (cD m d.l) (St.kl (A:=fa (qA 1 aF) 1 cv r11 rs (cD m d.l)) 0 rfl fun h' hq=>⟨rs,hq.1,hq.2.1,hq.2.2⟩) (by omega) (fun c hc=>by have:=k2 c hc;omega) hd hb H4).mono ?_
   rintro _ h6 ⟨rfl,H6⟩
   have H6:=H6.bt 2 [0]
   refine⟨_,rfl,dt (fun e3=>?_) fun e3=>?_⟩
   ·have ec:dg m live w ds=((d.rewrite w1 (cD m d.l)).1,(d.rewrite w1 (cD m d.l)).2.1,dR ds1 live[i] (d.rewrite w1 (cD m d.l)).2.2):=by
     rw[hcl,e0,dg,hd]
     dsimp only
     rw[if_neg e2,if_neg e3]
    rw[ec]
    exact⟨rfl,H6⟩
   ·refine⟨(i+1,(d.rewrite w1 (cD m d.l)).2.1,dR ds1 live[i] (d.rewrite w1 (cD m d.l)).2.2),by dsimp only;rw[Go.Vc.wrap_small _ (by omega) (by omega)];rfl,⟨by dsimp only;omega,fun k hk=>?_,?_,H6⟩,by dsimp only;omega⟩
    ·dsimp only
     rw[zf (Bn H1).1 hd]
     split
     ·exact⟨_,rfl⟩
     ·exact hlv1 k hk
    ·dsimp only
     rw[hcl,e0,dg,hd]
     dsimp only
     rw[if_neg e2,if_pos (by simpa using e3)]
 ·have:i=live.length:=by omega
  subst this
  rw[List.drop_length]at hcl
  rw[hcl]
  exact⟨rfl,H1⟩
end
end Go.Proofs.YtdhamoojccmbdaaGreatDoor
namespace Go.Proofs.YtdhamoojccmbdaaGreatDoor
open Go Go.Vc Go.Proofs Wl
set_option maxRecDepth 100000
theorem vP {n:Nat}:∀{j i:Nat},i≤j→2*j≤n→ch n i≤ch n j
 |0,i,h,_=>by
   have:i=0:=by omega
   subst this;exact Nat.le_refl _
 |j+1,i,h,hj=>by
  by_cases hi:i=j+1
  ·subst hi;exact Nat.le_refl _
  ·exact Nat.le_trans (vP (by omega) (by omega)) (zK (by omega))
theorem rn (n t:Int) (h:Heap):ae Tryz.prog sw #[.int .i64 n,.int .i64 t] h fun v h'=>v=.bool (decide (0≤n∧n≤64∧0≤t∧t≤n))∧h'=h:=by
 refine q7 n t ?_
 unfold nt
 refine an (fun h1=>an (fun h2=>an (fun h3=>⟨?_,rfl⟩) (fun h3=>⟨?_,rfl⟩)) (fun h2=>⟨?_,rfl⟩)) (fun h1=>⟨?_,rfl⟩)
 ·congr 1;exact decide_eq_decide.2 (by omega)
 ·rw[decide_eq_false (by omega)]
 ·rw[decide_eq_false (by omega)]
 ·rw[decide_eq_false (by omega)]
theorem rp (n t:Int) (h:Heap) (hn:-(2^62)≤n∧n≤2^62) (ht:-(2^62)≤t∧t≤2^62):ae Tryz.prog sm #[.int .i64 n,.int .i64 t] h fun v h'=>v=.int .i64 (fH n t)∧h'=h:=by
 refine qS n t ?_
 unfold nf
 refine(rn n t h).mono ?_
 rintro v h1 ⟨rfl,rfl⟩
 refine⟨_,rfl,aV (fun e=>?_) (fun e=>?_)⟩
 ·have e:=of_decide_eq_false e
  unfold fH;rw[if_neg e];exact⟨rfl,rfl⟩
 ·have e:=of_decide_eq_true e
  obtain⟨N,rfl⟩:∃N:Nat,n=N:=⟨n.toNat,by omega⟩
  obtain⟨T,rfl⟩:∃T:Nat,t=T:=⟨t.toNat,by omega⟩
  have hc:fH N T=((min (ch N T) 4097:Nat):Int):=by unfold fH;rw[if_pos e];rfl
  rw[hc]
  obtain⟨m,hm⟩:∃m,m=min T (N-T):=⟨_,rfl⟩
  have hmch:ch N m=ch N T:=by
   rw[hm]
   rcases Nat.le_total T (N-T)with h2|h2
   ·rw[Nat.min_eq_left h2]
   ·rw[Nat.min_eq_right h2,←pN N T (by omega)]
  have ebound:(if IntKind.wrap .i64 ((N:Int)-T)<(T:Int)then IntKind.wrap .i64 ((N:Int)-T)else(T:Int))=(m:Int):=by
   rw[wrap_small _ (by omega) (by omega)];split<;>omega
  rw[ebound]
  refine aE (fun i:Nat=>(((ch N i:Nat):Int),(i:Int))) (fun i h'=>h'=h1∧i≤m∧ch N i≤4096) (fun i=>m-i) 0 (by rw[fm];rfl) ⟨rfl,by omega,by rw[fm];omega⟩ ?_
  rintro i h2 ⟨rfl,hi,hci⟩
  dsimp only
  refine an (fun e2=>?_) (fun e2=>?_)
  ·have hi':i<m:=by omega
   have hN:N≤64:=by omega
   have hnx:=vL (n:=N) (k:=i) (by omega)
   have hmul:ch N i*(N-i)≤4096*64:=Nat.mul_le_mul hci (by omega)
   have e3:IntKind.wrap .i64 ((N:Int)-i)=((N-i:Nat):Int):=by rw[wrap_small _ (by omega) (by omega)];omega
   have e4:IntKind.wrap .i64 (((ch N i:Nat):Int)*((N-i:Nat):Int))=((ch N i*(N-i):Nat):Int):=by rw[←Int.natCast_mul,wrap_small _ (by omega) (by omega)]
   have e5:IntKind.wrap .i64 ((i:Int)+1)=((i+1:Nat):Int):=by rw[wrap_small _ (by omega) (by omega)];rfl
   have e6:Int.tdiv ((ch N i*(N-i):Nat):Int) ((i+1:Nat):Int)=((ch N (i+1):Nat):Int):=by
    rw[←hnx,←Int.ofNat_tdiv,Nat.mul_div_cancel _ (by omega)]
   have hle:ch N (i+1)≤4096*64:=by
    have:ch N (i+1)*1≤ch N (i+1)*(i+1):=Nat.mul_le_mul_left _ (by omega)
    omega
   rw[e3,e4,e5,e6,wrap_small _ (by omega) (by omega)]
   refine⟨by omega,an (fun e7=>?_) (fun e7=>?_)⟩
   ·have:=vP (n:=N) (j:=m) (i:=i+1) (by omega) (by omega)
    refine⟨?_,rfl⟩
    rw[show min (ch N T) 4097=4097 by omega];rfl
   ·exact⟨i+1,rfl,⟨rfl,by omega,by omega⟩,by omega⟩
  ·have:i=m:=by omega
   subst this
   refine⟨?_,rfl⟩
   rw[show min (ch N T) 4097=ch N i by omega]
end Go.Proofs.YtdhamoojccmbdaaGreatDoor
namespace Wl
open Go Go.Proofs.YtdhamoojccmbdaaGreatDoor Go.Vc
def cu (m:aP) (offs:Int) (w:Pow) (ds:aJ) (t most:Int):Int:=
 if qj w offs then 14 else if t<0∨t≥((cw ds m.drives).length:Int)∨most<0∨most>64 then 1 else if fH ((cw ds m.drives).length:Int) t>4096 then 13 else 0
end Wl
namespace Go.Proofs.YtdhamoojccmbdaaGreatDoor
open Go Go.Vc Go.Proofs Wl
set_option maxRecDepth 100000
theorem sG (t most:Int) (h:Heap):ae Tryz.prog k9 #[.pointer none,.int .i64 t,.int .i64 most] h fun v h'=>v=.tuple #[.int .i64 0,.int .i64 14]∧h'=h:=by
 refine ky none t most ?_
 unfold jk
 exact bc (ck (fun _=>⟨rfl,rfl⟩) fun e=>by cases e)
section
variable {B:ag} {h0 h:Heap} {As:List HP} {a pw:Addr} {offs:Int} {da:List (Option Addr)} {w:Pow} {ds:aJ} {m:aP}
theorem Ay (n:Int) (hn:n<2^62) (H:aa B h0 h (df a pw da offs w ds m::As)):ae Tryz.prog iY #[.pointer (some pw),.int .i64 n] h fun v h'=>v=.tuple #[]∧aa B h0 h' (df a pw da offs (w.arm n) ds m::As):=by
 obtain⟨x,H⟩:=eW H
 obtain⟨ok,H1⟩:=H.iF
 refine(yV n hn (H1.bt 2 [1,0])).mono ?_
 rintro _ h' ⟨rfl,H2⟩
 exact⟨rfl,l6 ((H2.bt 2 [1,0]).je ok)⟩
theorem zn (H:aa B h0 h (df a pw da offs w ds m::As)):ae Tryz.prog ib #[.pointer (some pw)] h fun v h'=>v=.bool w.step.1∧aa B h0 h' (df a pw da offs w.step.2 ds m::As):=by
 obtain⟨x,H⟩:=eW H
 obtain⟨ok,H1⟩:=H.iF
 refine(kD (H1.bt 2 [1,0])).mono ?_
 rintro _ h' ⟨rfl,H2⟩
 exact⟨rfl,l6 ((H2.bt 2 [1,0]).je ok)⟩
theorem db (t most:Int) (hm:cj m=true) (ho:m.aB=[]) (hc:∀k∈cw ds m.drives,∀d,bI ds k=some d→d.l=cD m d.l) (ht:-(2^62)≤t∧t≤2^62) (H:aa B h0 h (df a pw da offs w ds m::As)):
  ae Tryz.prog k9 #[.pointer (some a),.int .i64 t,.int .i64 most] h fun v h'=>v=.tuple #[.int .i64 0,.int .i64 (cu m offs w ds t most)]∧aa B h0 h' (df a pw da offs w ds m::As):=by
 refine ky (some a) t most ?_
 unfold jk
 have hdl:=rK hm
 obtain⟨live,hlive⟩:∃live,live=cw ds m.drives:=⟨_,rfl⟩
 have hll:live.length≤64:=by rw[hlive];exact Nat.le_trans (List.length_filter_le _ _) hdl
 refine bc (ck (fun e=>by cases e) fun _=>(zm H).mono ?_)
 rintro _ h1 ⟨rfl,rfl⟩
 refine⟨_,rfl,ck (fun e=>?_) fun e1=>?_⟩
 ·have:cu m offs w ds t most=14:=by unfold cu;rw[if_pos e]
  rw[this];exact⟨rfl,H⟩
 have ep:cu m offs w ds t most=(if t<0∨t≥(live.length:Int)∨most<0∨most>64 then 1 else if fH (live.length:Int) t>4096 then 13 else 0):=by
  unfold cu
  rw[if_neg (by rw[e1];decide),←hlive]
 rw[ep]
 refine(zk hm H).mono ?_
 rintro _ h2 ⟨y,rfl,R2⟩
 have H2:=H.cX R2
 refine⟨y,rfl,(zj hm (H2.bt 2 [1,0])).mono ?_⟩
 rintro _ h3 ⟨lv,rfl,R3⟩
 rw[←hlive]at R3
 have H3:=H2.cX R3
 refine⟨lv,rfl,H3.boxed fun a5 h5 H5=>?_⟩
 have H5:aa B h0 h5 (df a pw da offs w ds m::aA a5 dN (uG a y lv t most 0)::aq bf lv 1 aI live::iB y m::As):=(H5.eP).bt 4 [3,0,1,2]
 have hlvl:=(H5.own 2 rfl).len
 have hb5:=H5.box 1 rfl
 refine bc (dJ (fun(b:Bool) h'=>b=decide (t<0∨t≥(live.length:Int)∨most<0∨most>64)∧h'=h5) ?_ ?_)
 ·refine an (fun e=>⟨by rw[decide_eq_true (.inl e)],rfl⟩) fun ea=>⟨a5,rfl,lv,hb5.cell rfl,an (fun e=>⟨by rw[decide_eq_true (.inr (.inl (by omega)))],rfl⟩) fun eb=>an (fun e=>⟨by rw[decide_eq_true (.inr (.inr (.inl e)))],rfl⟩) fun ec=>⟨?_,rfl⟩⟩
  rw[decide_eq_decide];omega
 rintro b h6 ⟨rfl,rfl⟩
 refine an (fun e=>by rw[if_pos e];exact⟨rfl,H5.bt 4 [0]⟩) fun e2=>?_
 rw[if_neg e2]
 refine⟨a5,rfl,lv,hb5.cell rfl,(rp ((lv.len:Nat):Int) t h6 (by omega) ht).mono ?_⟩
 rintro _ h7 ⟨rfl,rfl⟩
 rw[hlvl]
 refine⟨_,rfl,an (fun e=>by rw[if_pos e];exact⟨rfl,H5.bt 4 [0]⟩) fun e3=>?_⟩
 rw[if_neg e3]
 have hS:St B h0 (aA a5 dN (uG a y lv t most 0)::aq bf lv 1 aI live::iB y m::As) fun h=>cn h a5 dN (uG a y lv t most 0)∧fM h y m∧Rd h lv 1 aI live:=fun Bs h' H'=>
  ⟨(St.kl (A:=aA a5 dN (uG a y lv t most 0)) 0 rfl fun _ hq=>hq.1) Bs h' H',(St.kl (A:=iB y m) 2 rfl fun _ hq=>hq) Bs h' H',(St.kl (A:=aq bf lv 1 aI live) (Q:=fun h=>Rd h lv 1 aI live) 1 rfl fun h' hq=>hq.1.seq (fun _=>rfl) hq.2) Bs h' H'⟩
 refine(wV y lv live t most 0 hm hll (fun k hk=>by obtain⟨_,d,hd,_⟩:=zi (show k∈cw ds m.drives by rw[←hlive];exact hk);exact⟨d,hd⟩) hS H5).mono ?_
 rintro _ h8 ⟨rfl,H8⟩
 have ecl:dg m live w ds=(0,w,ds):=o9 fun k hk d hd=>hc k (by rw[←hlive];exact hk) d hd
 rw[ecl]at H8⊢
 have hb8:=H8.box 1 rfl
 have hy8:fM h8 y m:=H8.at 3 rfl
 have hol:=ca.len hy8.aB
 rw[ho]at hol
 have hol0:y.2.2.2.2.2.2.2.len=0:=hol
 refine⟨_,rfl,dt (fun e=>absurd rfl e) fun _=>⟨a5,rfl,y.2.2.2.2.2.2.2,by rw[addr_add];exact hb8.cell rfl,?_⟩⟩
 refine aE (fun _:Unit=>(0:Int)) (fun _ h'=>h'=h8) (fun _=>0) () rfl rfl ?_
 rintro _ h9 rfl
 refine an (fun e=>?_) fun _=>⟨a5,rfl,0,hb8.cell rfl,rfl,H8.bt 4 [0]⟩
 exfalso
 rw[hol0]at e
 exact absurd e (by decide)
end
end Go.Proofs.YtdhamoojccmbdaaGreatDoor
namespace Go.Proofs.YtdhamoojccmbdaaGreatDoor
open Go Go.Vc Go.Proofs Wl
end Go.Proofs.YtdhamoojccmbdaaGreatDoor
namespace Go.Proofs.YtdhamoojccmbdaaGreatDoor
open Go Go.Vc Go.Proofs Wl
end Go.Proofs.YtdhamoojccmbdaaGreatDoor
namespace Go.Proofs.YtdhamoojccmbdaaGreatDoor
open Go Go.Vc Go.Proofs Wl
end Go.Proofs.YtdhamoojccmbdaaGreatDoor
namespace Go.Proofs.YtdhamoojccmbdaaGreatDoor
open Go Go.Vc Go.Proofs Wl
theorem mT {l:List Int} (h:l.Pairwise (·<·)):eI l=l:=by
 have hp:(eI l).Perm l:=List.mergeSort_perm _ _
 have hs:(eI l).Pairwise (fun a b=>decide (a≤b)=true):=List.pairwise_mergeSort (fun a b c h1 h2=>by simp at*;omega) (fun a b=>by simp;omega) l
 refine hp.eq_of_pairwise (le:=fun a b:Int=>decide (a≤b)=true) ?_ hs (h.imp fun h=>by simp;omega)
 intro a b _ _ h1 h2;simp at h1 h2;omega
theorem eZ (c:Nat) (x:Int) (hx:0<x):az (List.replicate c x) (List.replicate c x).length=(List.range c).map fun i:Nat=>(i:Int):=by
 rw[List.length_replicate]
 unfold az
 refine List.filter_eq_self.2 fun y hy=>?_
 obtain⟨i,hi,rfl⟩:=List.mem_map.1 hy
 have hi:=List.mem_range.1 hi
 simp[List.getD_eq_getElem?_getD,hi];omega
theorem yi {p:Pm} {extra:Int} (hp:cF p=true) (hx:0≤extra∧extra≤16) (c:Nat) (x:Int) (hc:1≤c∧c≤24) (hx2:1≤x∧x≤512):iG p extra (List.replicate c x)=0:=by
 have h1:(bN (List.replicate c x)).2=true:=by
  have hall:(List.replicate c x).all (bZ · 0 512)=true:=List.all_eq_true.2 fun y hy=>by
   rw[List.eq_of_mem_replicate hy];exact(fQ _ _ _).2 ⟨by omega,by omega⟩
  unfold bN
  rw[if_pos hall,eZ c x (by omega),List.length_replicate]
  simp;omega
 have h2:bZ extra 0 16=true:=(fQ _ _ _).2 hx
 have h3:((az (List.replicate c x) (List.replicate c x).length).any fun i=>decide ((List.replicate c x).getD i.toNat 0<((aS (aX p extra (List.replicate c x))).length:Int)))=false:=by
  refine List.any_eq_false.2 fun y hy=>?_
  rw[eZ c x (by omega)]at hy
  obtain⟨i,hi,rfl⟩:=List.mem_map.1 hy
  have hi:=List.mem_range.1 hi
  have hs:=sE p extra (List.replicate c x) (by simp;omega)
  have hg:(List.replicate c x).getD ((i:Int)).toNat 0=x:=by rw[Int.toNat_natCast];simp[List.getD_eq_getElem?_getD,hi]
  rw[hg]
  simp;omega
 unfold iG
 rw[h1,hp,h2,h3];rfl
structure kI (p:Pm) (extra:Int) (c:Nat) (x:Int) (m:aP) (D:aJ):Prop where
 m_eq:m=aX p extra (List.replicate c x)
 len:D.length=64
 may:cj m=true
 dr:m.drives=(List.range c).map fun i:Nat=>(i:Int)
 at_:∀s,bI D s=if s∈m.drives then some ⟨x.toNat,aS m,0,[],false,false⟩else none
theorem zo {p:Pm} {extra:Int} {c:Nat} {x:Int} (hp:cF p=true) (he:0≤extra∧extra≤16) (hc:1≤c∧c≤24) (hx2:1≤x∧x≤512) {D:aJ} (h64:D.length=64)
  (hD:∀s,bI D s=if s∈az (List.replicate c x) (List.replicate c x).length then some ⟨((List.replicate c x).getD s.toNat 0).toNat,aS (aX p extra (List.replicate c x)),0,[],false,false⟩else none):kI p extra c x (aX p extra (List.replicate c x)) D:=by
 have e0:=yi hp he c x hc hx2
 refine⟨rfl,h64,o8 (by simp;omega) e0,eZ c x (by omega),fun s=>?_⟩
 rw[hD s]
 show(if s∈az _ _ then _ else none)=(if s∈az _ _ then _ else none)
 by_cases h:s∈az (List.replicate c x) (List.replicate c x).length
 ·rw[if_pos h,if_pos h]
  rw[eZ c x (by omega)]at h
  obtain⟨i,hi,rfl⟩:=List.mem_map.1 h
  have hi:=List.mem_range.1 hi
  rw[Int.toNat_natCast,k6 0 (by simpa using hi),List.getElem_replicate]
 ·rw[if_neg h,if_neg h]
theorem kI.live {p:Pm} {extra:Int} {c:Nat} {x:Int} {m:aP} {D:aJ} (F:kI p extra c x m D):cw D m.drives=m.drives:=List.filter_eq_self.2 fun k hk=>by
 unfold isLive;rw[F.at_ k,if_pos hk];rfl
theorem kI.aB {p:Pm} {extra:Int} {c:Nat} {x:Int} {m:aP} {D:aJ} (F:kI p extra c x m D):m.aB=[]∧m.seq=1∧m.next=0∧m.p=p∧m.extra=extra:=by rw[F.m_eq];exact⟨rfl,rfl,rfl,rfl,rfl⟩
end Go.Proofs.YtdhamoojccmbdaaGreatDoor
namespace Go.Proofs.YtdhamoojccmbdaaGreatDoor
open Go Go.Vc Go.Proofs Wl
theorem sH (p:Pm) (extra:Int) (l:List Int) (hl:l.length≤64):(aS (aX p extra l)).length≤2:=by
 unfold aS dV
 rw[List.length_map,List.length_range]
 have hp:=fN l l.length
 have:(eJ (aX p extra l)).length≤19+64:=by
  unfold eJ
  split
  ·simp only[List.length_append,bh,List.length_cons,List.length_nil,List.length_map,aX,List.flatMap_nil];omega
  ·simp
 omega
theorem uH {p:Pm} {extra:Int} (hp:cF p=true) (hx:0≤extra∧extra≤16) (c:Nat) (x:Int) (hc:1≤c∧c≤64) (hx2:2≤x∧x≤512):iG p extra (List.replicate c x)=0:=by
 have h1:(bN (List.replicate c x)).2=true:=by
  have hall:(List.replicate c x).all (bZ · 0 512)=true:=List.all_eq_true.2 fun y hy=>by
   rw[List.eq_of_mem_replicate hy];exact(fQ _ _ _).2 ⟨by omega,by omega⟩
  unfold bN
  rw[if_pos hall,eZ c x (by omega),List.length_replicate]
  simp;omega
 have h2:bZ extra 0 16=true:=(fQ _ _ _).2 hx
 have h3:((az (List.replicate c x) (List.replicate c x).length).any fun i=>decide ((List.replicate c x).getD i.toNat 0<((aS (aX p extra (List.replicate c x))).length:Int)))=false:=by
  refine List.any_eq_false.2 fun y hy=>?_
  rw[eZ c x (by omega)]at hy
  obtain⟨i,hi,rfl⟩:=List.mem_map.1 hy
  have hi:=List.mem_range.1 hi
  have hs:=sH p extra (List.replicate c x) (by simp;omega)
  have hg:(List.replicate c x).getD ((i:Int)).toNat 0=x:=by rw[Int.toNat_natCast];simp[List.getD_eq_getElem?_getD,hi]
  rw[hg]
  simp;omega
 unfold iG
 rw[h1,hp,h2,h3];rfl
theorem Az {p:Pm} {extra:Int} {c:Nat} {x:Int} (hp:cF p=true) (he:0≤extra∧extra≤16) (hc:1≤c∧c≤64) (hx2:2≤x∧x≤512) {D:aJ} (h64:D.length=64)
  (hD:∀s,bI D s=if s∈az (List.replicate c x) (List.replicate c x).length then some ⟨((List.replicate c x).getD s.toNat 0).toNat,aS (aX p extra (List.replicate c x)),0,[],false,false⟩else none):kI p extra c x (aX p extra (List.replicate c x)) D:=by
 have e0:=uH hp he c x hc hx2
 refine⟨rfl,h64,o8 (by simp;omega) e0,eZ c x (by omega),fun s=>?_⟩
 rw[hD s]
 show(if s∈az _ _ then _ else none)=(if s∈az _ _ then _ else none)
 by_cases h:s∈az (List.replicate c x) (List.replicate c x).length
 ·rw[if_pos h,if_pos h]
  rw[eZ c x (by omega)]at h
  obtain⟨i,hi,rfl⟩:=List.mem_map.1 h
  have hi:=List.mem_range.1 hi
  rw[Int.toNat_natCast,k6 0 (by simpa using hi),List.getElem_replicate]
 ·rw[if_neg h,if_neg h]
theorem wW {k:Nat}:∀{n m:Nat},n≤m→ch n k≤ch m k
 |n,0,h=>by rw[Nat.le_zero.1 h];exact Nat.le_refl _
 |n,m+1,h=>by
  by_cases e:n=m+1
  ·subst e;exact Nat.le_refl _
  ·refine Nat.le_trans (wW (n:=n) (m:=m) (by omega)) ?_
   cases k with
   |zero=>rw[fm,fm];exact Nat.le_refl _
   |succ k=>rw[ch];omega
theorem uI {n:Nat}:∀{j i:Nat},i≤j→2*j≤n→ch n i≤ch n j
 |0,i,h,_=>by rw[Nat.le_zero.1 h];exact Nat.le_refl _
 |j+1,i,h,hj=>by
  by_cases hi:i=j+1
  ·subst hi;exact Nat.le_refl _
  ·exact Nat.le_trans (uI (by omega) (by omega)) (zK (by omega))
theorem AA {n t:Nat} (hn:40≤n) (h3:3≤t) (ht:t+3≤n):9880≤ch n t:=by
 have h0:ch 40 3=9880:=by decide+kernel
 have key:∀j,3≤j→2*j≤n→9880≤ch n j:=fun j h1 h2=>by
  have:=wW (k:=3) hn
  have:=uI (n:=n) h1 h2
  omega
 by_cases h:2*t≤n
 ·exact key t h3 h
 ·rw[pN n t (by omega)];exact key (n-t) (by omega) (by omega)
theorem Bo {n:Nat} (hn:n≤64):ch n 2≤2016:=by
 have h0:ch 64 2=2016:=by decide+kernel
 have:=wW (k:=2) hn
 omega
theorem vt {n t:Nat} (hn:40≤n∧n≤64) (h3:3≤t) (ht:t+3≤n):fH n t=4097:=by
 have:=AA hn.1 h3 ht
 unfold fH
 rw[if_pos ⟨by omega,by omega,by omega,by omega⟩,Int.toNat_natCast,Int.toNat_natCast,Nat.min_eq_right (by omega)];rfl
theorem wX {n:Nat} (hn:2≤n∧n≤64):fH n 2≤2016:=by
 have:=Bo hn.2
 unfold fH
 rw[if_pos ⟨by omega,by omega,by omega,by omega⟩,Int.toNat_natCast]
 show((min (ch n (2:Int).toNat) 4097:Nat):Int)≤2016
 rw[show(2:Int).toNat=2 from rfl,Nat.min_eq_left (by omega)];omega
end Go.Proofs.YtdhamoojccmbdaaGreatDoor
namespace Go.Proofs.YtdhamoojccmbdaaGreatDoor
open Go Go.Vc Go.Proofs
set_option maxRecDepth 100000
end Go.Proofs.YtdhamoojccmbdaaGreatDoor
namespace Go.Proofs.YtdhamoojccmbdaaGreatDoor
open Go Go.Vc Go.Proofs Wl
set_option maxRecDepth 100000
end Go.Proofs.YtdhamoojccmbdaaGreatDoor
namespace Go.Proofs.YtdhamoojccmbdaaGreatDoor
open Go Go.Vc Go.Proofs Wl
set_option maxRecDepth 100000
end Go.Proofs.YtdhamoojccmbdaaGreatDoor
namespace Go.Proofs.YtdhamoojccmbdaaGreatDoor
open Go Go.Vc Go.Proofs Wl
set_option maxRecDepth 100000
section
variable {B B':ag} {h0 h0' h h':Heap} {As As':List HP} {a b pw pw2:Addr} {d:aU}
end
end Go.Proofs.YtdhamoojccmbdaaGreatDoor
namespace Go.Proofs.YtdhamoojccmbdaaGreatDoor
open Go Go.Vc Go.Proofs Wl
section
set_option maxRecDepth 20000
variable {B:ag} {h0 h:Heap} {As:List HP} {a a2 pw pw2:Addr} {mc:List Value} {offs:Int} {da da2:List (Option Addr)} {w:Pow} {ds:aJ}
end
end Go.Proofs.YtdhamoojccmbdaaGreatDoor
namespace Go.Proofs.YtdhamoojccmbdaaGreatDoor
open Go Go.Vc Go.Proofs Wl
section
set_option maxRecDepth 20000
variable {B:ag} {h0 h:Heap} {As:List HP} {a pw b:Addr} {x:bX} {offs:Int} {da:List (Option Addr)} {w:Pow} {ds:aJ} {d:aU}
end
end Go.Proofs.YtdhamoojccmbdaaGreatDoor
namespace Go.Vc
open Go Wl Go.Proofs.YtdhamoojccmbdaaGreatDoor
def iH (l:List Int) (k:Nat):Int:=l.getD k 0
def dn (l:List Int):Pm:=qq (iH l 0) (iH l 1) (iH l 2)
def kb (l:List Int):Nat:=(2+iH l 4%4).toNat
def nG (l:List Int):List Int:=(List.range (kb l)).map fun i=>8+iH l (5+i)%50
def wY (l:List Int):Int:=iH l 3%7
theorem AB (l:List Int):2≤kb l∧kb l≤5:=by unfold kb;omega
theorem zp (l:List Int):(nG l).length=kb l:=by simp[nG]
end Go.Vc
namespace Go.Proofs.YtdhamoojccmbdaaGreatDoor
open Go Go.Vc Go.Proofs Wl
section
set_option maxRecDepth 20000
variable {B:ag} {h0 h:Heap} {As:List HP} {a pw:Addr} {offs:Int} {da:List (Option Addr)} {w:Pow} {ds:aJ}
theorem iI (s:Sl) (l:List Int) (k:Nat) (h:Heap) (hs:Rd h s 1 aI l):ae Tryz.prog lh #[.slice s.ptr s.len s.cap,.int .i64 k] h fun v h'=>v=.int .i64 (iH l k)∧h'=h:=by
 refine kR s k ?_
 unfold gT iH
 have hl:=hs.len
 refine an (fun e=>?_) (fun e=>⟨?_,rfl⟩)
 ·have hk:k<l.length:=by omega
  refine hs.ef k rfl hk (l.getD k 0) (by rw[getD_lt hk];rfl) ⟨rfl,rfl⟩
 ·rw[List.getD_eq_getElem?_getD,List.getElem?_eq_none (by omega)];rfl
theorem vu (s:Sl) (l:List Int) (h:Heap) (hs:Rd h s 1 aI l):ae Tryz.prog jY #[.slice s.ptr s.len s.cap] h fun v h'=>∃r:Sl,v=.tuple #[vN (dn l),.int .i64 (wY l),.slice r.ptr r.len r.cap]∧Sp h h' [aq bf r 1 aI (nG l)]:=by
 refine jx s ?_
 unfold fW
 refine(Sp.refl h).alloc ah rfl fun a1 h1 H1=>?_
 have hs1:=hs.up H1.ao
 refine(iI s l 0 h1 hs1).mono ?_
 rintro _ _ ⟨rfl,rfl⟩
 refine⟨_,rfl,(iI s l 1 _ hs1).mono ?_⟩
 rintro _ _ ⟨rfl,rfl⟩
 refine⟨_,rfl,(iI s l 2 _ hs1).mono ?_⟩
 rintro _ h4 ⟨rfl,rfl⟩
 refine⟨_,rfl,(wU _ _ _ h4).mono ?_⟩
 rintro _ h5 ⟨rfl,R5⟩
 have H5:=H1.up R5.ao
 refine⟨dn l,rfl,?_⟩
 refine H5.alloc ah rfl fun a6 h6 H6=>?_
 refine H6.storeAll ah 1 rfl rfl [.int .i64 (dn l).1,.int .i64 (dn l).2.1,.int .i64 (dn l).2.2] rfl rfl rfl rfl fun h7 H7=>?_
 have H7:Sp h h7 [aq bf ⟨none,0,0⟩ 1 aI ((nG l).take 0),aA a6 bL [.int .i64 (dn l).1,.int .i64 (dn l).2.1,.int .i64 (dn l).2.2],aA a1 bL [.int .i64 0,.int .i64 0,.int .i64 0]]:=(H7.nil bf 1 aI).cS [2,1,0]
 have hn:=AB l
 have hcl:=zp l
 refine aE (fun t:Sl×Nat=>(t.1,(t.2:Int))) (fun t h'=>t.2≤kb l∧Sp h h' [aq bf t.1 1 aI ((nG l).take t.2),aA a6 bL [.int .i64 (dn l).1,.int .i64 (dn l).2.1,.int .i64 (dn l).2.2],aA a1 bL [.int .i64 0,.int .i64 0,.int .i64 0]]) (fun t=>kb l-t.2) (⟨none,0,0⟩,0) rfl ⟨by simp,H7⟩ ?_
 rintro⟨o,i⟩ h8 ⟨hi,H8⟩
 dsimp only at*
 have hs8:=hs.up H8.ao
 refine(iI s l 4 h8 hs8).mono ?_
 rintro _ _ ⟨rfl,rfl⟩
 refine⟨_,rfl,(bB _ 4 _ (by decide) (by decide)).mono ?_⟩
 rintro _ h8 ⟨rfl,rfl⟩
 refine⟨_,rfl,?_⟩
 have hb:=H8.box 1 rfl
 dsimp only
 rw[Go.Vc.wrap_small (2+iH l 4%4) (by omega) (by omega)]
 have ecn:2+iH l 4%4=(kb l:Int):=by unfold kb;omega
 rw[ecn]
 refine an (fun e=>?_) (fun e=>?_)
 ·have hi':i<kb l:=by omega
  rw[Go.Vc.wrap_small ((5:Int)+i) (by omega) (by omega)]
  have e5:(5:Int)+i=((5+i:Nat):Int):=by omega
  rw[e5]
  refine(iI s l (5+i) h8 hs8).mono ?_
  rintro _ _ ⟨rfl,rfl⟩
  refine⟨_,rfl,(bB _ 50 _ (by decide) (by decide)).mono ?_⟩
  rintro _ h12 ⟨rfl,rfl⟩
  refine⟨_,rfl,?_⟩
  dsimp only
  rw[Go.Vc.wrap_small (8+iH l (5+i)%50) (by omega) (by omega)]
  refine H8.push ah 0 rfl ny rfl (by decide) (fun _=>rfl) jD (8+iH l (5+i)%50) rfl (by decide) (by simp;omega) fun o' h13 H13=>?_
  refine⟨(o',i+1),by dsimp only;rw[Go.Vc.wrap_small _ (by omega) (by omega)];rfl,⟨by dsimp only;omega,?_⟩,by dsimp only;omega⟩
  dsimp only
  rw[aK _ _ (show i<(nG l).length by omega)]
  have e6:(nG l)[i]'(by omega)=8+iH l (5+i)%50:=by simp[nG]
  rw[e6];exact H13
 ·have hin:i=kb l:=by omega
  subst hin
  rw[List.take_of_length_le (by omega)]at H8
  have hc:aC.ok [(a6,(.int .i64 (dn l).1)),(a6.add 1,(.int .i64 (dn l).2.1)),(a6.add 2,(.int .i64 (dn l).2.2))] h8:=⟨hb.cell0 rfl,hb.cell rfl,hb.cell rfl,trivial⟩
  refine⟨dn l,hb.bp _ rfl,(iI s l 3 h8 hs8).mono ?_⟩
  rintro _ _ ⟨rfl,rfl⟩
  refine⟨_,rfl,hc,(bB _ 7 _ (by decide) (by decide)).mono ?_⟩
  rintro _ h16 ⟨rfl,rfl⟩
  refine⟨_,rfl,hc,?_⟩
  refine H8.storeAll ah 2 rfl rfl [.int .i64 (dn l).1,.int .i64 (dn l).2.1,.int .i64 (dn l).2.2] rfl rfl rfl rfl fun h17 H17=>⟨trivial,?_⟩
  exact⟨dn l,(H17.box 2 rfl).bp _ rfl,o,rfl,H17.cS [0]⟩
end
end Go.Proofs.YtdhamoojccmbdaaGreatDoor
namespace Go.Proofs.YtdhamoojccmbdaaGreatDoor
open Go Go.Vc Go.Proofs Wl
section
set_option maxRecDepth 20000
theorem kU {p:Pm} {E:Int} {c:Nat} {x:Int} {m:aP} {D:aJ} (F:kI p E c x m D):∀k∈cw D m.drives,∀d,bI D k=some d→d.l=cD m d.l:=fun k hk d hd=>by
 rw[F.live]at hk
 rw[F.at_,if_pos hk]at hd
 injection hd with hd
 subst hd
 show aS m=cD m (aS m)
 unfold cD hF
 rw[vp];simp
theorem uJ (h:Heap):ae Tryz.prog j1 #[] h fun v h'=>v=.bool true∧Sp h h' []:=by
 refine jz ?_
 unfold fZ
 refine(rR h).mono ?_
 rintro _ h1 ⟨pw,rfl,R1⟩
 refine⟨_,rfl,R1.lit ah aI ny rfl [5] rfl (show 1*1≤2^20 by decide) rfl fun v2 h2 H2=>?_⟩
 have hp:cF (1,1,1)=true:=by decide
 refine(qt (1,1,1) 0 v2 [5] (As:=[aq bf v2 1 aI [5]]) (St.kl 0 rfl fun h' hq=>hq.1.seq (fun _=>rfl) hq.2) (by decide) (yi hp (by decide) 1 5 (by decide) (by decide)) rfl H2).mono ?_
 rintro _ h3 ⟨a,da,D,rfl,f2,f3,H3⟩
 have F:=zo (c:=1) (x:=5) hp (by decide) (by decide) (by decide) f2 f3
 obtain⟨m,hm⟩:∃m,m=aX (1,1,1) 0 (List.replicate 1 5):=⟨_,rfl⟩
 rw[←hm]at F
 have H3:Sp h h3 [df a pw da 0 Pow.new D m,aq bf v2 1 aI [5]]:=by rw[hm];exact H3
 have hll:(cw D m.drives).length=1:=by rw[F.live,F.dr];rfl
 have s0:cu m 0 Pow.new D 0 0=0:=by
  unfold cu;rw[if_neg (by decide),hll,if_neg (by decide),if_neg (by decide)]
 have s1:cu m 0 Pow.new D 1 0=1:=by
  unfold cu;rw[if_neg (by decide),hll,if_pos (by decide)]
 refine⟨(some a,0),rfl,(db 0 0 F.may F.aB.1 (kU F) (by decide) H3).mono ?_⟩
 rintro _ h4 ⟨rfl,H4⟩
 rw[s0]
 refine⟨(0,0),rfl,(db 1 0 F.may F.aB.1 (kU F) (by decide) H4).mono ?_⟩
 rintro _ h5 ⟨rfl,H5⟩
 rw[s1]
 exact⟨(0,1),rfl,dO (fun _=>dO (fun _=>dO (fun _=>⟨rfl,.zip H5.ao⟩) fun e=>absurd rfl e) fun e=>absurd rfl e) fun e=>absurd rfl e⟩
theorem pc (s:Sl) (l:List Int) (t most n:Int) (h:Heap) (hs:Rd h s 1 aI l):
  ae Tryz.prog dX #[.slice s.ptr s.len s.cap,.int .i64 t,.int .i64 most,.int .i64 n] h fun v h'=>v=.bool true∧Sp h h' []:=by
 refine gD s t most n ?_
 unfold ez
 refine(vu s l h hs).mono ?_
 rintro _ h1 ⟨r,rfl,R1⟩
 refine⟨(dn l,wY l,r),rfl,R1.alloc ah rfl fun a2 h2 H2=>?_⟩
 refine H2.storeAll ah 1 rfl rfl [.int .i64 (dn l).1,.int .i64 (dn l).2.1,.int .i64 (dn l).2.2] rfl rfl rfl rfl fun h3 H3=>?_
 obtain⟨p,hpd⟩:∃p,p=dn l:=⟨_,rfl⟩
 obtain⟨E,hE⟩:∃E,E=wY l:=⟨_,rfl⟩
 have hp:cF p=true:=by rw[hpd];unfold dn;rw[fC];unfold qq;dsimp only;omega
 have hE6:0≤E∧E≤6:=by rw[hE];unfold wY;omega
 rw[←hpd,←hE]
 rw[←hpd]at H3
 have H3:Sp h h3 [aq bf ⟨none,0,0⟩ 1 aI (List.replicate 0 9),aA a2 bL [.int .i64 p.1,.int .i64 p.2.1,.int .i64 p.2.2]]:=(H3.nil bf 1 aI).cS [2,1]
 obtain⟨c,hc⟩:∃c:Nat,(c:Int)=40+n%25:=⟨(40+n%25).toNat,by omega⟩
 have hc5:40≤c∧c≤64:=by omega
 refine aE (fun t:Sl×Nat=>(t.1,(t.2:Int))) (fun t h'=>t.2≤c∧Sp h h' [aq bf t.1 1 aI (List.replicate t.2 9),aA a2 bL [.int .i64 p.1,.int .i64 p.2.1,.int .i64 p.2.2]]) (fun t=>c-t.2) (⟨none,0,0⟩,0) rfl ⟨Nat.zero_le _,H3⟩ ?_
 rintro⟨u,i⟩ h4 ⟨hi,H4⟩
 dsimp only at hi H4⊢
 refine(bB n 25 h4 (by decide) (by decide)).mono ?_
 rintro _ h5 ⟨rfl,rfl⟩
 refine⟨_,rfl,?_⟩
 dsimp only
 rw[Go.Vc.wrap_small (40+n%25) (by omega) (by omega),←hc]
 refine an (fun e=>?_) fun e=>?_
 ·refine H4.push ah 0 rfl ny rfl (by decide) (fun _=>rfl) jD 9 rfl (by decide) (by simp;omega) fun o h7 H7=>?_
  refine⟨(o,i+1),by dsimp only;rw[Go.Vc.wrap_small _ (by omega) (by omega)];rfl,⟨by dsimp only;omega,?_⟩,by dsimp only;omega⟩
  dsimp only
  rw[List.replicate_succ']
  exact H7
 have hic:i=c:=by omega
 subst hic
 have hul:=(H4.own 0 rfl).len
 rw[List.length_replicate]at hul
 have e0:iG p E (List.replicate i 9)=0:=uH hp (by omega) i 9 (by omega) (by decide)
 refine dJ (fun(t:Option Addr×Int) h'=>∃(a pw:Addr) (da:List (Option Addr)) (m:aP) (D:aJ),t=(some a,0)∧kI p E i 9 m D∧Sp h h' [df a pw da 0 Pow.new D m]) ?_ ?_
 ·refine⟨p,(H4.box 1 rfl).bp _ rfl,(rR h5).mono ?_⟩
  rintro _ h8 ⟨pw,rfl,R8⟩
  have H8:=H4.cX R8
  have hb:=H8.box 2 rfl
  refine⟨_,rfl,⟨hb.cell0 rfl,hb.cell rfl,hb.cell rfl,trivial⟩,(qt p E u (List.replicate i 9) (As:=[aq bf u 1 aI (List.replicate i 9),aA a2 bL [.int .i64 p.1,.int .i64 p.2.1,.int .i64 p.2.2]]) (St.kl 0 rfl fun h' hq=>hq.1.seq (fun _=>rfl) hq.2) (by simp;omega) e0 rfl H8).mono ?_⟩
  rintro _ h9 ⟨a,da,D,rfl,f2,f3,H9⟩
  exact⟨(some a,0),rfl,trivial,a,pw,da,_,D,rfl,Az (c:=i) (x:=9) hp (by omega) (by omega) (by decide) f2 f3,H9.cS [0]⟩
 rintro⟨_,_⟩ h10 ⟨a,pw,da,m,D,he,F,H10⟩
 injection he with he1 he2
 subst he1 he2
 refine bc (dt (fun e=>absurd rfl e) fun _=>ck (fun e=>by cases e) fun _=>?_)
 have hll:(cw D m.drives).length=i:=by rw[F.live,F.dr,List.length_map,List.length_range]
 have hcl:=kU F
 have ho:=F.aB.1
 dsimp only
 rw[hul]
 have es:∀t' most',cu m 0 Pow.new D t' most'=(if t'<0∨t'≥(i:Int)∨most'<0∨most'>64 then 1 else if fH (i:Int) t'>4096 then 13 else 0):=fun t' most'=>by
  unfold cu
  rw[if_neg (by decide),hll]
 rw[Go.Vc.wrap_small ((i:Int)-6) (by omega) (by omega)]
 refine(bB t ((i:Int)-6) h10 (by omega) (by omega)).mono ?_
 rintro _ h12 ⟨rfl,rfl⟩
 have q0:=Int.emod_nonneg t (show((i:Int)-6)≠0 by omega)
 have q1:=Int.emod_lt_of_pos t (show(0:Int)<(i:Int)-6 by omega)
 obtain⟨T,hT⟩:∃T:Nat,(T:Int)=3+t%((i:Int)-6):=⟨(3+t%((i:Int)-6)).toNat,by omega⟩
 refine⟨_,rfl,?_⟩
 dsimp only
 rw[Go.Vc.wrap_small (3+t%((i:Int)-6)) (by omega) (by omega),←hT]
 refine(db T 5 F.may ho hcl (by omega) H10).mono ?_
 rintro _ h13 ⟨rfl,H13⟩
 have eA:cu m 0 Pow.new D T 5=13:=by
  rw[es,if_neg (by omega),vt hc5 (by omega) (by omega),if_pos (by decide)]
 rw[eA]
 refine⟨(0,13),rfl,(bB most 100 h13 (by decide) (by decide)).mono ?_⟩
 rintro _ h14 ⟨rfl,rfl⟩
 refine⟨_,rfl,?_⟩
 dsimp only
 rw[Go.Vc.wrap_small (65+most%100) (by omega) (by omega)]
 refine(db 3 (65+most%100) F.may ho hcl (by decide) H13).mono ?_
 rintro _ h15 ⟨rfl,H15⟩
 rw[show cu m 0 Pow.new D 3 (65+most%100)=1 by rw[es,if_pos (by omega)]]
 refine⟨(0,1),rfl,(bB t 100 h15 (by decide) (by decide)).mono ?_⟩
 rintro _ h16 ⟨rfl,rfl⟩
 refine⟨_,rfl,?_⟩
 dsimp only
 rw[Go.Vc.wrap_small ((i:Int)+t%100) (by omega) (by omega)]
 refine(db ((i:Int)+t%100) 5 F.may ho hcl (by omega) H15).mono ?_
 rintro _ h17 ⟨rfl,H17⟩
 rw[show cu m 0 Pow.new D ((i:Int)+t%100) 5=1 by rw[es,if_pos (by omega)]]
 refine⟨(0,1),rfl,(bB t 100 h17 (by decide) (by decide)).mono ?_⟩
 rintro _ h18 ⟨rfl,rfl⟩
 refine⟨_,rfl,?_⟩
 dsimp only
 rw[Go.Vc.wrap_small (-1-t%100) (by omega) (by omega)]
 refine(db (-1-t%100) 5 F.may ho hcl (by omega) H17).mono ?_
 rintro _ h19 ⟨rfl,H19⟩
 rw[show cu m 0 Pow.new D (-1-t%100) 5=1 by rw[es,if_pos (by omega)]]
 refine⟨(0,1),rfl,(bB most 100 h19 (by decide) (by decide)).mono ?_⟩
 rintro _ h20 ⟨rfl,rfl⟩
 refine⟨_,rfl,?_⟩
 dsimp only
 rw[Go.Vc.wrap_small (-1-most%100) (by omega) (by omega)]
 refine(db 1 (-1-most%100) F.may ho hcl (by decide) H19).mono ?_
 rintro _ h21 ⟨rfl,H21⟩
 rw[show cu m 0 Pow.new D 1 (-1-most%100)=1 by rw[es,if_pos (by omega)]]
 refine⟨(0,1),rfl,(sG 0 0 h21).mono ?_⟩
 rintro _ h22 ⟨rfl,rfl⟩
 refine⟨(0,14),rfl,(db 2 0 F.may ho hcl (by decide) H21).mono ?_⟩
 rintro _ h23 ⟨rfl,H23⟩
 rw[show cu m 0 Pow.new D 2 0=0 by
  have:=wX (n:=i) ⟨by omega,by omega⟩
  rw[es,if_neg (by omega),if_neg (by omega)]]
 refine⟨(0,0),rfl,(rX H23).mono ?_⟩
 rintro _ h24 ⟨rfl,rfl⟩
 refine⟨_,rfl,(Ay 0 (by decide) H23).mono ?_⟩
 rintro _ h25 ⟨rfl,H25⟩
 refine⟨(),rfl,(rX H25).mono ?_⟩
 rintro _ h26 ⟨rfl,rfl⟩
 refine⟨_,rfl,(zn H25).mono ?_⟩
 rintro _ h27 ⟨rfl,H27⟩
 refine⟨_,rfl,(db 0 0 F.may ho hcl (by decide) H27).mono ?_⟩
 rintro _ h28 ⟨rfl,H28⟩
 rw[show cu m 0 (Pow.new.arm 0).step.2 D 0 0=14 by unfold cu;rw[if_pos (by decide)]]
 refine⟨(0,14),rfl,dO (fun _=>dO (fun _=>dO (fun _=>dO (fun _=>dO (fun _=>dO (fun _=>dO (fun _=>dO (fun _=>dO (fun _=>(uJ h28).mono ?_) fun e=>absurd rfl e) fun e=>absurd rfl e) fun e=>absurd rfl e) fun e=>absurd rfl e) fun e=>absurd rfl e) fun e=>absurd rfl e) fun e=>absurd rfl e) fun e=>absurd rfl e) fun e=>absurd rfl e⟩
 rintro _ h29 ⟨rfl,R29⟩
 exact⟨_,rfl,rfl,.zip (H28.up R29.ao).ao⟩
theorem l7 (s:Sl) (l:List Int) (t most n:Int) (h:Heap) (hs:Rd h s 1 aI l):
  ae Tryz.prog dX #[.slice s.ptr s.len s.cap,.int .i64 t,.int .i64 most,.int .i64 n] h fun v h'=>v=.bool true∧ar (fun b=>b<h.size) h h':=
 (pc s l t most n h hs).mono fun _ _ ⟨a,b⟩=>⟨a,b.ao⟩
end
end Go.Proofs.YtdhamoojccmbdaaGreatDoor
