/- Part of the proofs that the laws of this seat answer true whatever the input reads, and leave it as it was; no condition. -/
import Derived.Test.YtkciobclldnoiaaGreatKB
import Derived.Test.YtkciobclldnoiaaGreatKA
import Derived.Test.YtkciobclldnoiaaGreatPlG
import Derived.Test.YtkciobclldnoiaaGreatPlI
import Derived.Test.YtkciobclldnoiaaGreatTabS
import Derived.Test.YtkciobclldnoiaaGreatPlA
set_option linter.unusedVariables false
set_option linter.unusedSimpArgs false
namespace Go.Proofs.YtkciobclldnoiaaGreat
open Go Go.Vc Go.Proofs Wl
section
set_option maxRecDepth 20000
variable {B:au} {h0 h:Heap} {As:List HP} {a pw b:Addr} {mc:List Value} {offs:Int} {da:List (Option Addr)} {w:Pow} {ds:aN} {d:bx}
theorem kd {p:au} (s:Sl) (l:List Int) (x:Int) (h:Heap) (hs:Seq h p s 1 av l) (hl:l.length≤2^40):ab Tryz.prog oc #[.slice s.ptr s.len s.cap,.int .i64 x] h fun v h'=>v=.bool (decide (x∈l))∧h'=h:=by
 refine nB s x ?_
 unfold jF
 refine(pG s x (R:=fun v h'=>(∃i:Int,v=.int .i64 i∧(decide (i≥0)=decide (x∈l)))∧h'=h) ?_).mono ?_
 ·unfold kE
  have hsl:=hs.len
  refine aB (fun i:Nat=>(i:Int)) (fun i h'=>i≤l.length∧x∉l.take i∧h'=h) (fun i=>l.length-i) 0 rfl ⟨by omega,by simp,rfl⟩ ?_
  rintro i h1 ⟨hi,hno,rfl⟩
  refine al (fun e1=>?_) (fun e1=>?_)
  ·have hi':i<l.length:=by
    have e':(i:Int)<(s.len:Int):=e1
    omega
   refine hs.cr i rfl hi' l[i] rfl ?_
   refine cY (fun e2=>⟨⟨i,rfl,?_⟩,rfl⟩) (fun e2=>?_)
   ·rw[decide_eq_true (show(i:Int)≥0 by omega),decide_eq_true (by rw[e2];exact List.getElem_mem hi')]
   ·refine⟨i+1,by rw[Go.Vc.wrap_small _ (by omega) (by omega)];rfl,⟨by omega,fun hm=>?_,rfl⟩,by omega⟩
    rw[aM _ _ hi']at hm
    rcases List.mem_append.1 hm with hm|hm
    ·exact hno hm
    ·exact e2 (List.mem_singleton.1 hm)
  ·have e':¬(i:Int)<(s.len:Int):=e1
   rw[List.take_of_length_le (by omega)]at hno
   exact⟨⟨-1,rfl,by rw[decide_eq_false hno];rfl⟩,rfl⟩
 ·rintro _ h1 ⟨⟨i,rfl,hi⟩,rfl⟩
  exact⟨i,rfl,by rw[hi],rfl⟩
theorem qR (H:aa B h0 h (aI aR a pw mc offs da w ds::As)):ab Tryz.prog Fk #[.pointer (some a)] h fun v h'=>v=.bool (dT w offs)∧h'=h:=by
 refine DP (some a) ?_
 unfold yc
 refine bu (fun e=>by cases e) fun _=>(sC H).mono ?_
 rintro _ _ ⟨rfl,rfl⟩
 exact⟨_,rfl,rfl,rfl⟩
def fx (slot cells:Int):Bool:=decide ((0≤slot∧slot<64)∧1≤cells∧cells≤512)
theorem Ii (slot cells:Int) (h:Heap):ab Tryz.prog Cb #[.int .i64 slot,.int .i64 cells] h fun v h'=>v=.bool (fx slot cells)∧h'=h:=by
 refine Ag slot cells ?_
 unfold uk fx
 refine al (fun e1=>al (fun e2=>al (fun e3=>⟨?_,rfl⟩) fun e3=>⟨?_,rfl⟩) fun e2=>⟨?_,rfl⟩) fun e1=>⟨?_,rfl⟩
 ·congr 1;rw[decide_eq_decide];omega
 all_goals (rw[decide_eq_false (by omega)])
theorem Ij (slot cells:Int) (x:bw) (m:aF) (hx:cL h x m) (hz:bR m) (H:aa B h0 h (aI aR a pw (aD x) offs da w ds::As)) (hc:dT w offs=true∨fx slot cells=false∨slot∈m.drives):
  ab Tryz.prog Fh #[.pointer (some a),.int .i64 slot,.int .i64 cells] h fun v h'=>v=.int .i64 (if dT w offs then 14 else if fx slot cells then 4 else 1)∧Sp h h' []:=by
 refine DL (some a) slot cells ?_
 unfold xZ
 have hdl:=hz.dr
 refine(qR H).mono ?_
 rintro _ h1 ⟨rfl,rfl⟩
 refine⟨_,rfl,bu (fun e=>⟨by rw[e];rfl,Sp.refl _⟩) fun e=>?_⟩
 refine(mQ x m hx hz H).mono ?_
 rintro _ h2 ⟨y,rfl,R2⟩
 refine⟨y,rfl,R2.alloc ag rfl fun a3 h3 H3=>?_⟩
 refine H3.storeAll ag 1 rfl rfl (aD y) rfl rfl rfl rfl fun h4 H4=>?_
 have H4:Sp h1 h4 [bC y m,aj a3 ao (aD y)]:=H4
 refine(Ii slot cells h4).mono ?_
 rintro _ h5 ⟨rfl,rfl⟩
 refine⟨_,rfl,aX (fun e2=>⟨by rw[e,e2];rfl,.zip H4.ah⟩) fun e2=>?_⟩
 have hy:cL h5 y m:=H4.at 0 rfl
 refine⟨y.2.2.2.2.2.2.1,(H4.box 1 rfl).cell rfl,(kd _ m.drives slot h5 hy.drives (by omega)).mono ?_⟩
 rintro _ h6 ⟨rfl,rfl⟩
 refine⟨_,rfl,bu (fun e3=>⟨by rw[e,e2];rfl,.zip H4.ah⟩) fun e3=>?_⟩
 rcases hc with hc|hc|hc
 ·rw[e]at hc;cases hc
 ·rw[e2]at hc;cases hc
 ·exact absurd hc (of_decide_eq_false e3)
theorem w4 (slot:Int) (x:bw) (m:aF) (hx:cL h x m) (hz:bR m) (H:aa B h0 h (aI aR a pw (aD x) offs da w ds::As)) (hc:dT w offs=true∨slot∉bg ds m.drives):
  ab Tryz.prog oa #[.pointer (some a),.int .i64 slot] h fun v h'=>v=.int .i64 (if dT w offs then 14 else 5)∧Sp h h' []:=by
 refine rO (some a) slot ?_
 unfold pz
 have hdl:=hz.dr
 refine(qR H).mono ?_
 rintro _ h1 ⟨rfl,rfl⟩
 refine⟨_,rfl,bu (fun e=>⟨by rw[e];rfl,Sp.refl _⟩) fun e=>?_⟩
 refine(dS x m hx hz H).mono ?_
 rintro _ h2 ⟨r,rfl,R2⟩
 have hll:(bg ds m.drives).length≤m.drives.length:=List.length_filter_le _ _
 refine⟨r,rfl,(kd r _ slot h2 (R2.seq 0 rfl fun _=>rfl) (by omega)).mono ?_⟩
 rintro _ h3 ⟨rfl,rfl⟩
 refine⟨_,rfl,aX (fun e3=>⟨by rw[e];rfl,.zip R2.ah⟩) fun e3=>?_⟩
 rcases hc with hc|hc
 ·rw[e]at hc;cases hc
 ·exact absurd (of_decide_eq_true e3) hc
theorem J2 (H:aa B h0 h (jb pw b d::As)):ab Tryz.prog uY #[.pointer (some b)] h fun v h'=>v=.tuple #[]∧aa B h0 h' (jb pw b d.q6::As):=by
 refine tu (some b) ?_
 unfold nE
 obtain⟨ok,s,sb,H1⟩:=H.nf
 refine bu (fun _=>?_) fun e=>by cases e
 refine⟨b,rfl,H1.store ag 0 rfl rfl 6 [.bool true] rfl rfl rfl (by simp[ez]) fun h2 H2=>?_⟩
 refine⟨b,rfl,H2.store ag 0 rfl rfl 2 [.slice none 0 0] rfl rfl rfl (by simp[ez]) fun h3 H3=>?_⟩
 refine⟨b,rfl,H3.store ag 0 rfl rfl 3 [.int .i64 0] rfl rfl rfl (by simp[ez]) fun h4 H4=>?_⟩
 refine⟨b,rfl,H4.store ag 0 rfl rfl 4 [.slice none 0 0] rfl rfl rfl (by simp[ez]) fun h5 H5=>?_⟩
 refine⟨b,rfl,H5.store ag 0 rfl rfl 5 [.bool false] rfl rfl rfl (by simp[ez]) fun h6 H6=>⟨rfl,?_⟩⟩
 refine aa.sv (s:=⟨none,0,0⟩) (b:=⟨none,0,0⟩) ⟨Nat.le_refl _,Nat.zero_le _,ok.room,by simp[bx.q6],Nat.zero_le _,by simp[bx.q6]⟩ ?_
 exact((H6.q5 aW aE 1 aG).q5 aW aE 1 aG).aS 5 [2,0,1]
theorem Ik (n:Nat) (x:bw) (m:aF) (hx:cL h x m) (hz:bR m) (H:aa B h0 h (aI aR a pw (aD x) offs da w ds::As)) (hd:dT w offs=false) (hl:(n:Int)∈bg ds m.drives) (hn:ds[n]?=some (some d)):
  ab Tryz.prog oa #[.pointer (some a),.int .i64 n] h fun v h'=>v=.int .i64 0∧aa B h0 h' (aI aR a pw (aD x) offs da w (ds.set n (some d.q6))::As):=by
 refine rO (some a) n ?_
 unfold pz
 have hdl:=hz.dr
 refine(qR H).mono ?_
 rintro _ h1 ⟨rfl,rfl⟩
 refine⟨_,rfl,bu (fun e=>by rw[hd]at e;cases e) fun e=>?_⟩
 refine(dS x m hx hz H).mono ?_
 rintro _ h2 ⟨r,rfl,R2⟩
 have hll:(bg ds m.drives).length≤m.drives.length:=List.length_filter_le _ _
 refine⟨r,rfl,(kd r _ (n:Int) h2 (R2.seq 0 rfl fun _=>rfl) (by omega)).mono ?_⟩
 rintro _ h3 ⟨rfl,rfl⟩
 refine⟨_,rfl,aX (fun e3=>absurd hl (of_decide_eq_false e3)) fun e3=>?_⟩
 have H3:=H.up R2.ah
 obtain⟨ok,hb⟩:=aa.cb H3
 refine(ik (n:Int) ok hb).mono ?_
 rintro _ h4 ⟨rfl,rfl⟩
 obtain⟨b,hb',H5⟩:=Go.Vc.aa.gX H3 hn
 have hn64:n<64:=by
  have:=(List.getElem?_eq_some_iff.1 hb').1
  rw[ok.la]at this;exact this
 have hp:ij da (n:Int)=some b:=by unfold ij;rw[if_pos (by omega),Int.toNat_natCast,hb'];rfl
 rw[hp]
 refine⟨_,rfl,(J2 H5).mono ?_⟩
 rintro _ h6 ⟨rfl,H6⟩
 exact⟨(),rfl,rfl,Go.Vc.aa.pR (k:=aR) (n:=n) hb' H6⟩
end
end Go.Proofs.YtkciobclldnoiaaGreat
namespace Go.Vc
open Go Wl
section
variable {k:Kit} {B:au} {h0 h:Heap} {As:List HP} {a pw b:Addr} {mc:List Value} {offs:Int} {da:List (Option Addr)} {w:Pow} {ds:aN} {d:bx} {n:Nat}
theorem J3 (h8:mc.length=8):(cx mc pw offs da).set (10+n) (.pointer none)=cx mc pw offs (da.set n none):=by
 unfold cx
 rw[List.set_append_right _ _ (by omega),h8,show 10+n-8=n+1+1 by omega,List.set_cons_succ,List.set_cons_succ,List.map_set]
theorem aa.Ng (ok:eT mc da ds) (hn:n<64) (H:aa B h0 h (aj a k.tS (cx mc pw offs (da.set n none))::cR k.tP pw w::(fi k pw da ds++As))):aa B h0 h (aI k a pw mc offs (da.set n none) w (ds.set n none)::As):=by
 have hla:=ok.la
 have hls:=ok.ls
 have ok':eT mc (da.set n none) (ds.set n none):=⟨ok.l8,by simp[hla],by simp[hls],fun i=>by
  by_cases hin:n=i
  ·subst hin
   rw[List.getD_eq_getElem?_getD,List.getD_eq_getElem?_getD,List.getElem?_set_self (by omega),List.getElem?_set_self (by omega)];rfl
  ·have:=ok.same i
   rw[List.getD_eq_getElem?_getD,List.getD_eq_getElem?_getD]at this⊢
   rw[List.getElem?_set_ne hin,List.getElem?_set_ne hin];exact this⟩
 have hll:=zt (k:=k) (pw:=pw) ok
 have hset:fi k pw (da.set n none) (ds.set n none)=(fi k pw da ds).set n emp:=by
  apply List.ext_getElem?
  intro j
  simp only[fi,List.getElem?_set,List.getElem?_zipWith,List.length_zipWith]
  by_cases hij:n=j
  ·subst hij
   rw[if_pos rfl,if_pos (by omega),if_pos rfl,if_pos (by omega),if_pos rfl,if_pos (by omega)];rfl
  ·simp[hij]
 refine aa.nO ok' ?_
 rw[hset]
 obtain⟨L,hLe⟩:∃L,L=fi k pw da ds:=⟨_,rfl⟩
 rw[←hLe]at H hll⊢
 have hLn:n<L.length:=by omega
 have H:=H.fZ (n+2) (A:=L[n]) (D:=emp) (by rw[List.getElem?_cons_succ,List.getElem?_cons_succ,List.getElem?_append_left hLn,List.getElem?_eq_getElem hLn]) (fun _ _=>trivial)
 have e0:(aj a k.tS (cx mc pw offs (da.set n none))::cR k.tP pw w::(L++As)).set (n+2) emp=aj a k.tS (cx mc pw offs (da.set n none))::cR k.tP pw w::(L.set n emp++As):=by
  rw[List.set_cons_succ,List.set_cons_succ,List.set_append_left _ _ hLn]
 rw[e0]at H
 exact H
end
end Go.Vc
namespace Go.Proofs.YtkciobclldnoiaaGreat
open Go Go.Vc Go.Proofs Wl
set_option maxRecDepth 100000
def jx (m:aF) (l:List Int):aF:={m with seq:=m.seq+1,drives:=l}
section
variable {B:au} {h0 h:Heap} {As:List HP} {a pw b:Addr} {offs:Int} {da:List (Option Addr)} {w:Pow} {ds:aN} {d:bx}
theorem GK (n:Nat) (hn:n<64) (x:bw) (H:aa B h0 h (aI aR a pw (aD x) offs da w ds::As)):
  ab Tryz.prog vP #[.pointer (some a),.int .i64 n,.pointer none] h fun v h'=>v=.tuple #[]∧aa B h0 h' (aI aR a pw (aD x) offs (da.set n none) w (ds.set n none)::As):=by
 refine uV (some a) n none ?_
 unfold oo
 refine bu (fun _=>?_) fun e=>by cases e
 refine al (fun _=>al (fun _=>?_) fun e=>absurd (show(n:Int)<64 by omega) e) fun e=>absurd (show(n:Int)≥0 by omega) e
 refine⟨a,rfl,⟨by omega,by omega⟩,?_⟩
 rw[Int.toNat_natCast,Nat.mul_one]
 obtain⟨ok,H2⟩:=Go.Vc.aa.mP H
 have he:(a.add 10).add n=a.add (10+n):=by unfold Addr.add;simp[Nat.add_assoc]
 rw[he]
 refine H2.storeAt ag 0 rfl rfl rfl rfl rfl (by simp[ok.la];omega) fun h' H3=>?_
 rw[List.set_cons_zero,J3 ok.l8]at H3
 exact⟨rfl,aa.Ng ok hn H3⟩
theorem BG (x:bw) (m:aF) (hx:cL h x m) (hz:bR m) (H:aa B h0 h (aI aR a pw (aD x) offs da w ds::As)):
  ab Tryz.prog gJ #[.pointer (some a)] h fun v h'=>∃(y:bw) (L:List (di×Wl.cK)) (pool:List (Sl×List Int)),v=dj y∧(y.1=m.seq∧y.2.1=m.next∧(y.2.2.1,y.2.2.2.1,y.2.2.2.2.1)=m.p∧y.2.2.2.2.2.1=m.extra)∧L.map Prod.snd=m.aJ∧(∀p∈L,tO pool p)∧
   Sp h h' [dd 1 av pool,an aA y.2.2.2.2.2.2.1 1 av m.drives,an aQ y.2.2.2.2.2.2.2 4 bE (L.map Prod.fst)]:=by
 refine jT (some a) ?_
 unfold ie
 obtain⟨ok,hb⟩:=aa.cb H
 refine(Sp.refl h).alloc ag rfl fun a1 h1 H1=>?_
 have hb1:=hb.ah H1.ah hb.lt
 refine bu (fun e=>by cases e) (fun _=>⟨a,rfl,x,hb1.aL _ rfl,(mM x m h1 (hx.up H1.ah) hz).mono ?_⟩)
 rintro _ h2 ⟨y,L,pool,rfl,hf,hm,hL,R2⟩
 have H2:=H1.comp R2
 refine⟨y,rfl,?_⟩
 refine H2.store ag 0 rfl rfl 0 (aD y) rfl rfl rfl (by simp[Value.cells]) fun h3 H3=>?_
 exact⟨y,(H3.box 0 rfl).aL _ rfl,y,L,pool,rfl,hf,hm,hL,H3.cE [1,2,3]⟩
end
end Go.Proofs.YtkciobclldnoiaaGreat
namespace Go.Proofs.YtkciobclldnoiaaGreat
open Go Go.Vc Go.Proofs Wl
set_option maxRecDepth 100000
section
variable {B:au} {h0 h:Heap} {As:List HP} {a pw:Addr} {offs:Int} {da:List (Option Addr)} {w:Pow} {ds:aN} {mc:List Value}
theorem sJ {k:Int} {d:bx} (hd:bD ds k=some d) (H:aa B h0 h (aI aR a pw mc offs da w ds::As)):∃(b:Addr) (s bl:Sl),ij da k=some b∧bK h b bX (ez pw d s bl)∧fJ h s 1 aG d.l∧dC d:=by
 obtain⟨ok,_⟩:=aa.cb H
 rcases jd ok k with⟨h1,_⟩|⟨n,d',b,rfl,hn,h1,h2,h3,h4⟩
 ·rw[h1]at hd;cases hd
 ·rw[h2]at hd
  injection hd with hd
  subst hd
  obtain⟨b',hb',H1⟩:=Go.Vc.aa.gX H h1
  rw[h3]at hb'
  injection hb' with hb'
  injection hb' with hb'
  subst hb'
  obtain⟨okd,s,bl,H2⟩:=aa.nf H1
  exact⟨b,s,bl,h4,H2.box 0 rfl,(H2.aS 2 [1,0]).Iy fun _=>rfl,okd⟩
theorem GL {k:Int} (hd:bD ds k=none) (H:aa B h0 h (aI aR a pw mc offs da w ds::As)):ij da k=none:=by
 obtain⟨ok,_⟩:=aa.cb H
 rcases jd ok k with⟨_,h2⟩|⟨n,d',b,rfl,hn,h1,h2,h3,h4⟩
 ·exact h2
 ·rw[h2]at hd;cases hd
theorem mb {k:Int} (H:aa B h0 h (aI aR a pw mc offs da w ds::As)):ab Tryz.prog bQ #[.pointer (some a),.int .i64 k] h fun v h'=>v=.pointer (ij da k)∧h'=h:=by
 obtain⟨ok,hb⟩:=aa.cb H
 exact ik k ok hb
end
end Go.Proofs.YtkciobclldnoiaaGreat
namespace Go.Proofs.YtkciobclldnoiaaGreat
open Go Go.Vc Go.Proofs Wl
end Go.Proofs.YtkciobclldnoiaaGreat
namespace Go.Proofs.YtkciobclldnoiaaGreat
open Go Go.Vc Go.Proofs Wl
end Go.Proofs.YtkciobclldnoiaaGreat
namespace Go.Proofs.YtkciobclldnoiaaGreat
open Go Go.Vc Go.Proofs Wl
end Go.Proofs.YtkciobclldnoiaaGreat
namespace Go.Proofs.YtkciobclldnoiaaGreat
open Go Go.Vc Go.Proofs Wl
set_option maxRecDepth 100000
def w5 (a b c:Int):Int×Int×Int:=(1+a%6,1+b%3,1+c%9)
theorem J4 (a b c:Int) (h:Heap):ab Tryz.prog qh #[.int .i64 a,.int .i64 b,.int .i64 c] h fun v h'=>v=kI (w5 a b c)∧Sp h h' []:=by
 refine pA a b c ?_
 unfold kC
 refine(Sp.refl h).alloc ag rfl fun x h1 H1=>?_
 refine(dO a 6 h1 (by decide) (by decide)).mono ?_
 rintro v h2 ⟨rfl,rfl⟩
 refine⟨_,rfl,(dO b 3 h2 (by decide) (by decide)).mono ?_⟩
 rintro v h3 ⟨rfl,rfl⟩
 refine⟨_,rfl,(dO c 9 h3 (by decide) (by decide)).mono ?_⟩
 rintro v h4 ⟨rfl,rfl⟩
 refine⟨_,rfl,?_⟩
 dsimp only
 rw[wrap_small _ (by omega) (by omega),wrap_small _ (by omega) (by omega),wrap_small _ (by omega) (by omega)]
 refine H1.storeAll ag 0 rfl rfl [.int .i64 (1+a%6),.int .i64 (1+b%3),.int .i64 (1+c%9)] rfl rfl rfl rfl fun h5 H5=>?_
 exact⟨w5 a b c,(H5.box 0 rfl).aL _ rfl,rfl,.zip H5.ah⟩
end Go.Proofs.YtkciobclldnoiaaGreat
namespace Go.Proofs.YtkciobclldnoiaaGreat
open Go Go.Vc Go.Proofs Wl
end Go.Proofs.YtkciobclldnoiaaGreat
namespace Go.Proofs.YtkciobclldnoiaaGreat
open Go Go.Vc Go.Proofs Wl
theorem J5 {m:aF} {ds:aN} {name:ByteArray} {n:Nat} (h1:gS name=true) (h2:∀e∈m.aJ,e.name≠name) (h3:(n:Int)≤m.p.1*m.p.2.2*8) (h4:m.aJ.length≤11) (h5:bg ds m.drives≠[]) (h6:m.next≤16777215) (h7:m.seq≤2147483646):dw m false ds name n=0:=by
 have ha:m.aJ.any (lX name)=false:=List.any_eq_false.2 fun e he h=>h2 e he (BB (by unfold lX at h;simpa using h))
 unfold dw
 rw[if_neg (by decide),if_neg (by simp[h1]),if_neg (by simp[ha]),if_neg (by omega),if_neg (by rintro(h|h|h);exact h5 h;omega;omega)]
end Go.Proofs.YtkciobclldnoiaaGreat
namespace Go.Proofs.YtkciobclldnoiaaGreat
open Go Go.Vc Go.Proofs Wl
set_option maxRecDepth 100000
def gN (a pw:Addr) (da:List (Option Addr)) (offs:Int) (w:Pow) (ds:aN) (m:aF):HP:=HP.ex fun x:bw=>(aI aR a pw (aD x) offs da w ds).sep (bC x m)
section
variable {B:au} {h0 h:Heap} {As:List HP} {a pw:Addr} {offs:Int} {da:List (Option Addr)} {w:Pow} {ds:aN} {m:aF}
theorem lq (H:aa B h0 h (gN a pw da offs w ds m::As)):∃x,aa B h0 h (aI aR a pw (aD x) offs da w ds::bC x m::As):=by
 obtain⟨x,H⟩:=H.xn
 exact⟨x,H.zQ.Km⟩
theorem mU {x:bw} (H:aa B h0 h (aI aR a pw (aD x) offs da w ds::bC x m::As)):aa B h0 h (gN a pw da offs w ds m::As):=
 aa.zP (F:=fun x:bw=>(aI aR a pw (aD x) offs da w ds).sep (bC x m)) x H.Km.lz
end
section
variable {B:au} {h0 h:Heap} {As:List HP} {a pw:Addr} {offs:Int} {da:List (Option Addr)} {w:Pow} {ds:aN} {m:aF}
theorem Ps (H:aa B h0 h (gN a pw da offs w ds m::As)):ds.length=64∧∀k d,bD ds k=some d→d.l.length≤d.room∧d.room≤512∧dC d:=by
 obtain⟨x,H⟩:=lq H
 obtain⟨ok,_⟩:=aa.cb H
 refine⟨ok.ls,fun k d hd=>?_⟩
 obtain⟨b,s,bl,_,_,_,okd⟩:=sJ hd H
 exact⟨okd.len,okd.room,okd⟩
theorem BH (p:Pm) (extra:Int) (s:Sl) (l:List Int) (hS:St B h0 As fun h=>Rd h s 1 av l) (hl:l.length≤64) (e0:qd p extra l=0) (hw:w=Pow.new) (H:aa B h0 h (cR bt pw w::As)):
  ab Tryz.prog qB #[kI p,.int .i64 extra,.pointer (some pw),.slice s.ptr s.len s.cap] h fun v h'=>∃(a:Addr) (da:List (Option Addr)) (D:aN),v=.tuple #[.pointer (some a),.int .i64 0]∧D.length=64∧
   (∀s,bD D s=if s∈aY l l.length then some ⟨(l.getD s.toNat 0).toNat,bh (bS p extra l),0,[],false,false⟩else none)∧aa B h0 h' (gN a pw da 0 Pow.new D (bS p extra l)::As):=by
 subst hw
 obtain⟨D,f1,f2,f3⟩:=LL (p:=p) (extra:=extra) (l:=l) hl e0
 refine(yz p extra s l hS (by omega) H).mono ?_
 rintro _ h' ⟨_,Q0⟩
 rw[f1]at Q0
 obtain⟨a,y,da,rfl,H7⟩:=Q0 rfl
 exact⟨a,da,D,rfl,f2,f3,mU H7⟩
theorem Oy (name:ByteArray) (s:Sl) (b:List UInt8) (hS:St B h0 As fun h=>Rd h s 1 aG b) (hsc:s.len≤s.cap) (hn:name.size≤2^40) (hm:bO m=true) (hbl:b.length≤2^20) (H:aa B h0 h (gN a pw da offs w ds m::As)):
  ab Tryz.prog ny #[.pointer (some a),.string name,.slice s.ptr s.len s.cap] h fun v h'=>v=.int .i64 (eC m offs w ds name b).1∧
   aa B h0 h' (gN a pw da offs (eC m offs w ds name b).2.2.1 (eC m offs w ds name b).2.2.2 (eC m offs w ds name b).2.1::As):=by
 obtain⟨x,H⟩:=lq H
 obtain⟨g1,g2,g3,g4⟩:=(gV m).1 ((eK m).1 hm).1
 refine(M5 x m name s b hS hsc hn (mT hm) g3 g4 (kB hm) (kU hm) (by omega) (by omega) hbl H).mono ?_
 rintro _ h' ⟨rfl,y,H'⟩
 exact⟨rfl,mU H'⟩
theorem ud (hm:bO m=true) (H:aa B h0 h (gN a pw da offs w ds m::As)):
  ab Tryz.prog gJ #[.pointer (some a)] h fun v h'=>∃y:bw,v=dj y∧Sp h h' [bC y m]:=by
 obtain⟨x,H⟩:=lq H
 exact mQ x m (H.at 1 rfl) (mT hm) H
theorem LN (k:Int) (H:aa B h0 h (gN a pw da offs w ds m::As)):ab Tryz.prog bQ #[.pointer (some a),.int .i64 k] h fun v h'=>v=.pointer (ij da k)∧h'=h:=by
 obtain⟨x,H⟩:=lq H
 exact mb H
theorem LO {k:Int} (hd:bD ds k=none) (H:aa B h0 h (gN a pw da offs w ds m::As)):ij da k=none:=by
 obtain⟨x,H⟩:=lq H
 exact GL hd H
theorem DC (o b:Int) (hm:bO m=true) (H:aa B h0 h (gN a pw da offs w ds m::As)):
  ab Tryz.prog lH #[.pointer (some a),.int .i64 o,.int .i64 b] h fun v h'=>∃r:Sl,v=.slice r.ptr r.len r.cap∧Sp h h' [eV fc r aA 1 av (fA m ds o b (bg ds m.drives))]:=by
 have hok:=(Ps H).2
 obtain⟨x,H⟩:=lq H
 exact JV x m o b (H.at 1 rfl) (mT hm) (kU hm) (fun k d hd=>by have:=hok k d hd;omega) H
end
end Go.Proofs.YtkciobclldnoiaaGreat
namespace Go.Proofs.YtkciobclldnoiaaGreat
open Go Go.Vc Go.Proofs Wl
set_option maxRecDepth 100000
section
variable {B:au} {h0 h:Heap} {As:List HP}
theorem w6 {α:Type} {g:α→Bool} {l:List α} {i:Nat} (h:i<l.length) (hno:∀j (hj:j<l.length),j<i→g l[j]=false) (hi:g l[i]=true):l.findIdx g=i:=by
 rw[List.findIdx_eq h];exact⟨hi,fun j hj=>hno j (by omega) hj⟩
theorem Il (s:Sl) (l:List Int) (fid:FuncId) (caps:Array Value) (g:Int→Bool) (Q:Heap→Prop) (hg:C.fns[fid]?=some true) (hQ:St B h0 As Q) (hfn:∀x h',Q h'→ab Tryz.prog fid ([Value.int .i64 x]++caps.toList).toArray h' fun v h''=>v=.bool (g x)∧Sp h' h'' []) (H:aa B h0 h (an aA s 1 av l::As)) (hl:l.length≤2^20):
  ab Tryz.prog nI #[.slice s.ptr s.len s.cap,.func (.func fid) #[] caps] h fun v h'=>v=.int .i64 (if l.findIdx g<l.length then(l.findIdx g:Int)else-1)∧aa B h0 h' (an aA s 1 av l::As):=by
 refine fD s (fid,#[],caps) ?_
 unfold eF
 have hsl:=(H.own 0 rfl).len
 refine aB (fun i:Nat=>(i:Int)) (fun i h'=>aa B h0 h' (an aA s 1 av l::As)∧i≤l.length∧∀j (hj:j<l.length),j<i→g l[j]=false) (fun i=>l.length-i) 0 rfl ⟨H,by omega,fun j _ hj=>by omega⟩ ?_
 rintro i h1 ⟨H1,hi,hno⟩
 refine al (fun e=>?_) (fun e=>?_)
 ·have hi':i<l.length:=by omega
  refine(H1.seq 0 rfl fun _=>rfl).cr i rfl hi' _ rfl ?_
  refine dU hg ?_
  refine(hfn l[i] h1 (hQ.at [_] H1)).mono ?_
  rintro _ h2 ⟨rfl,R2⟩
  refine⟨_,rfl,bu (fun e2=>?_) (fun e2=>?_)⟩
  ·rw[w6 hi' hno e2,if_pos hi'];exact⟨rfl,H1.up R2.ah⟩
  ·refine⟨i+1,by rw[Go.Vc.wrap_small _ (by omega) (by omega)];rfl,⟨H1.up R2.ah,by omega,fun j hj hji=>?_⟩,by omega⟩
   rcases Nat.lt_succ_iff_lt_or_eq.1 hji with h3|rfl
   ·exact hno j hj h3
   ·exact e2
 ·have hno':¬l.findIdx g<l.length:=by
   rw[List.findIdx_lt_length]
   rintro⟨x,hx,hx0⟩
   obtain⟨j,hj,rfl⟩:=List.getElem_of_mem hx
   rw[hno j hj (by omega)]at hx0;cases hx0
  rw[if_neg hno'];exact⟨rfl,H1⟩
theorem J6 {α:Type} {g:α→Bool} {l:List α} {j:Nat} (h:j<l.findIdx g) (hj:j<l.length):g l[j]=false:=by
 simpa using List.not_of_lt_findIdx h
structure jG {α:Type} (g:α→Bool) (l l':List α) (i j:Nat):Prop where
 len:l'.length=l.length
 le:i≤j
 pre:l'.take i=(l.take j).filter fun x=>!g x
 post:l'.drop j=l.drop j
theorem jG.start {α:Type} {g:α→Bool} {l:List α} {i:Nat} (h:i<l.length) (he:l.findIdx g=i):jG g l l i (i+1):=by
 refine⟨rfl,by omega,?_,rfl⟩
 have hgi:g l[i]=true:=by
  have:=List.findIdx_getElem (xs:=l) (p:=g) (w:=by rw[he];exact h)
  simpa[he]using this
 rw[aM _ _ h,List.filter_append,List.filter_cons,hgi]
 have:(l.take i).filter (fun x=>!g x)=l.take i:=List.filter_eq_self.2 fun x hx=>by
  obtain⟨j,hj,rfl⟩:=List.getElem_of_mem hx
  simp only[List.length_take]at hj
  rw[List.getElem_take,J6 (g:=g) (l:=l) (j:=j) (by omega) (by omega)];rfl
 rw[this];simp
theorem jG.at_ {α:Type} {g:α→Bool} {l l':List α} {i j:Nat} (x:jG g l l' i j) (hj:j<l.length):l'[j]'(by rw[x.len];exact hj)=l[j]:=by
 have h:=congrArg (fun m=>m[0]?) x.post
 simp only[List.getElem?_drop,Nat.add_zero]at h
 rw[List.getElem?_eq_getElem hj,List.getElem?_eq_getElem (by rw[x.len];exact hj)]at h
 exact Option.some.inj h
theorem jG.keep {α:Type} {g:α→Bool} {l l':List α} {i j:Nat} (x:jG g l l' i j) (hj:j<l.length) (hg:g l[j]=false):jG g l (l'.set i l[j]) (i+1) (j+1):=by
 have hl:=x.len;have hle:=x.le
 refine⟨by simp[hl],by omega,?_,?_⟩
 ·rw[aM _ _ (by simp;omega),List.getElem_set_self,List.take_set_of_le (Nat.le_refl _),x.pre,aM _ _ hj,List.filter_append,List.filter_cons,hg];rfl
 ·rw[List.drop_set_of_lt (by omega)]
  have h1:=congrArg (List.drop 1) x.post
  simpa[List.drop_drop]using h1
theorem jG.skip {α:Type} {g:α→Bool} {l l':List α} {i j:Nat} (x:jG g l l' i j) (hj:j<l.length) (hg:g l[j]=true):jG g l l' i (j+1):=by
 have hl:=x.len;have hle:=x.le
 refine⟨hl,by omega,?_,?_⟩
 ·rw[x.pre,aM _ _ hj,List.filter_append,List.filter_cons,hg];simp
 ·have h1:=congrArg (List.drop 1) x.post
  simpa[List.drop_drop]using h1
theorem filter_all {α:Type} {g:α→Bool} {l:List α} (h:¬l.findIdx g<l.length):l.filter (fun x=>!g x)=l:=List.filter_eq_self.2 fun x hx=>by
 have:g x=false:=by
  cases hh:g x with
  |false=>rfl
  |true=>exact absurd (List.findIdx_lt_length.2 ⟨x,hx,hh⟩) h
 rw[this];rfl
theorem w7 (s:Sl) (l:List Int) (fid:FuncId) (caps:Array Value) (g:Int→Bool) (Q:Heap→Prop) (hg:C.fns[fid]?=some true) (hQ:St B h0 As Q) (hfn:∀x h',Q h'→ab Tryz.prog fid ([Value.int .i64 x]++caps.toList).toArray h' fun v h''=>v=.bool (g x)∧Sp h' h'' []) (H:aa B h0 h (an aA s 1 av l::As)) (hl:l.length≤2^20):
  ab Tryz.prog mK #[.slice s.ptr s.len s.cap,.func (.func fid) #[] caps] h fun v h'=>∃r:Sl,v=.slice r.ptr r.len r.cap∧aa B h0 h' (an aA r 1 av (l.filter fun x=>!g x)::As):=by
 refine mh s (fid,#[],caps) ?_
 unfold iR
 refine(Il s l fid caps g Q hg hQ hfn H hl).mono ?_
 rintro _ h1 ⟨rfl,H1⟩
 have hsl:=(H.own 0 rfl).len
 have hsc:=(H.own 0 rfl).cap
 refine⟨_,rfl,cY (fun e=>?_) (fun e=>?_)⟩
 ·have hno:¬l.findIdx g<l.length:=fun hh=>by rw[if_pos hh]at e;omega
  exact⟨s,rfl,by rw[filter_all hno];exact H1⟩
 ·have hyes:l.findIdx g<l.length:=by
   by_cases hh:l.findIdx g<l.length
   ·exact hh
   ·rw[if_neg hh]at e;exact absurd rfl e
  rw[if_pos hyes]
  refine aB (fun t:Nat×Nat×List Int=>((t.1:Int),(t.2.1:Int))) (fun t h'=>jG g l t.2.2 t.1 t.2.1∧t.2.1≤l.length∧aa B h0 h' (an aA s 1 av t.2.2::As)) (fun t=>l.length-t.2.1) (l.findIdx g,l.findIdx g+1,l) (by rw[Go.Vc.wrap_small _ (by omega) (by omega)];rfl) ⟨jG.start hyes rfl,by dsimp only;omega,H1⟩ ?_
  rintro⟨i,j,l'⟩ h2 ⟨M2,hj,H2⟩
  dsimp only at*
  have hl':=M2.len;have hle:=M2.le
  refine al (fun e2=>?_) (fun e2=>?_)
  ·have hj':j<l.length:=by omega
   refine(H2.seq 0 rfl fun _=>rfl).cr j rfl (by omega) _ rfl ?_
   rw[M2.at_ hj']
   refine dU hg ?_
   refine(hfn l[j] h2 (hQ.at [_] H2)).mono ?_
   rintro _ h3 ⟨rfl,R3⟩
   have H3:=H2.up R3.ah
   refine⟨_,rfl,aX (fun e3=>?_) (fun e3=>?_)⟩
   ·refine H3.set ag 0 rfl (fun _=>rfl) rfl i rfl (by omega) l[j] rfl rfl rfl fun h4 H4=>?_
    exact⟨(i+1,j+1,l'.set i l[j]),by dsimp only;rw[Go.Vc.wrap_small _ (by omega) (by omega),Go.Vc.wrap_small _ (by omega) (by omega)];rfl,⟨M2.keep hj' (by simpa using e3),by dsimp only;omega,H4⟩,by dsimp only;omega⟩
   ·exact⟨(i,j+1,l'),by dsimp only;rw[Go.Vc.wrap_small _ (by omega) (by omega)];rfl,⟨M2.skip hj' (by simpa using e3),by dsimp only;omega,H3⟩,by dsimp only;omega⟩
  ·have hje:j=l.length:=by omega
   subst hje
   refine⟨⟨by omega,by omega⟩,?_⟩
   rw[Int.toNat_natCast]
   refine H2.nt ag 0 rfl iY (fun _=>rfl) rfl (by decide) i (by omega) fun h3 H3=>⟨⟨by omega,by omega⟩,⟨s.ptr,i,s.cap⟩,rfl,?_⟩
   have:=M2.pre
   rw[List.take_length]at this
   rw[←this];exact H3
end
end Go.Proofs.YtkciobclldnoiaaGreat
namespace Go.Proofs.YtkciobclldnoiaaGreat
open Go Go.Vc Go.Proofs Wl
set_option maxRecDepth 100000
section
variable {B:au} {h0 h:Heap} {As:List HP}
theorem Im (s:Sl) (l:List bf) (fid:FuncId) (caps:Array Value) (g:bf→Bool) (Q:Heap→Prop) (hg:C.fns[fid]?=some true) (hQ:St B h0 As Q) (hfn:∀x h',Q h'→ab Tryz.prog fid ([recv x]++caps.toList).toArray h' fun v h''=>v=.bool (g x)∧Sp h' h'' []) (H:aa B h0 h (an aC s 8 aV l::As)) (hl:l.length≤2^20):
  ab Tryz.prog iO #[.slice s.ptr s.len s.cap,.func (.func fid) #[] caps] h fun v h'=>v=.int .i64 (if l.findIdx g<l.length then(l.findIdx g:Int)else-1)∧aa B h0 h' (an aC s 8 aV l::As):=by
 refine iI s (fid,#[],caps) ?_
 unfold fh
 have hsl:=(H.own 0 rfl).len
 refine aB (fun i:Nat=>(i:Int)) (fun i h'=>aa B h0 h' (an aC s 8 aV l::As)∧i≤l.length∧∀j (hj:j<l.length),j<i→g l[j]=false) (fun i=>l.length-i) 0 rfl ⟨H,by omega,fun j _ hj=>by omega⟩ ?_
 rintro i h1 ⟨H1,hi,hno⟩
 refine al (fun e=>?_) (fun e=>?_)
 ·have hi':i<l.length:=by omega
  refine(H1.seq 0 rfl fun _=>rfl).eu (g:=aV) i rfl hi' l[i] rfl ?_
  refine dU hg ?_
  refine(hfn l[i] h1 (hQ.at [_] H1)).mono ?_
  rintro _ h2 ⟨rfl,R2⟩
  refine⟨_,rfl,bu (fun e2=>?_) (fun e2=>?_)⟩
  ·rw[w6 hi' hno e2,if_pos hi'];exact⟨rfl,H1.up R2.ah⟩
  ·refine⟨i+1,by rw[Go.Vc.wrap_small _ (by omega) (by omega)];rfl,⟨H1.up R2.ah,by omega,fun j hj hji=>?_⟩,by omega⟩
   rcases Nat.lt_succ_iff_lt_or_eq.1 hji with h3|rfl
   ·exact hno j hj h3
   ·exact e2
 ·have hno':¬l.findIdx g<l.length:=by
   rw[List.findIdx_lt_length]
   rintro⟨x,hx,hx0⟩
   obtain⟨j,hj,rfl⟩:=List.getElem_of_mem hx
   rw[hno j hj (by omega)]at hx0;cases hx0
  rw[if_neg hno'];exact⟨rfl,H1⟩
theorem GM (s:Sl) (l:List bf) (fid:FuncId) (caps:Array Value) (g:bf→Bool) (Q:Heap→Prop) (hg:C.fns[fid]?=some true) (hQ:St B h0 As Q) (hfn:∀x h',Q h'→ab Tryz.prog fid ([recv x]++caps.toList).toArray h' fun v h''=>v=.bool (g x)∧Sp h' h'' []) (H:aa B h0 h (an aC s 8 aV l::As)) (hl:l.length≤2^20):
  ab Tryz.prog iH #[.slice s.ptr s.len s.cap,.func (.func fid) #[] caps] h fun v h'=>∃r:Sl,v=.slice r.ptr r.len r.cap∧aa B h0 h' (an aC r 8 aV (l.filter fun x=>!g x)::As):=by
 refine iu s (fid,#[],caps) ?_
 unfold eW
 refine(Im s l fid caps g Q hg hQ hfn H hl).mono ?_
 rintro _ h1 ⟨rfl,H1⟩
 have hsl:=(H.own 0 rfl).len
 have hsc:=(H.own 0 rfl).cap
 refine⟨_,rfl,cY (fun e=>?_) (fun e=>?_)⟩
 ·have hno:¬l.findIdx g<l.length:=fun hh=>by rw[if_pos hh]at e;omega
  exact⟨s,rfl,by rw[filter_all hno];exact H1⟩
 ·have hyes:l.findIdx g<l.length:=by
   by_cases hh:l.findIdx g<l.length
   ·exact hh
   ·rw[if_neg hh]at e;exact absurd rfl e
  rw[if_pos hyes]
  refine aB (fun t:Nat×Nat×List bf=>((t.1:Int),(t.2.1:Int))) (fun t h'=>jG g l t.2.2 t.1 t.2.1∧t.2.1≤l.length∧aa B h0 h' (an aC s 8 aV t.2.2::As)) (fun t=>l.length-t.2.1) (l.findIdx g,l.findIdx g+1,l) (by rw[Go.Vc.wrap_small _ (by omega) (by omega)];rfl) ⟨jG.start hyes rfl,by dsimp only;omega,H1⟩ ?_
  rintro⟨i,j,l'⟩ h2 ⟨M2,hj,H2⟩
  dsimp only at*
  have hl':=M2.len;have hle:=M2.le
  refine al (fun e2=>?_) (fun e2=>?_)
  ·have hj':j<l.length:=by omega
   refine(H2.seq 0 rfl fun _=>rfl).eu (g:=aV) j rfl (by omega) l[j] (by rw[M2.at_ hj']) ?_
   refine H2.alloc ag rfl fun a5 h3 H3=>?_
   have H3:=H3.bW
   refine H3.storeAll ag 0 rfl rfl (aV l[j]) rfl rfl rfl rfl fun h4 H4=>?_
   refine⟨l[j],(H4.box 0 rfl).aL _ rfl,?_⟩
   refine dU hg ?_
   refine(hfn l[j] h4 (hQ.at [_,_] H4)).mono ?_
   rintro _ h5 ⟨rfl,R5⟩
   have H5:=H4.up R5.ah
   have H3:=H5.PB
   refine⟨_,rfl,aX (fun e3=>?_) (fun e3=>?_)⟩
   ·refine⟨l[j],(H5.box 0 rfl).aL _ rfl,?_⟩
    refine H3.set ag 0 rfl (fun _=>rfl) rfl i rfl (by omega) l[j] rfl rfl rfl fun h4 H4=>?_
    exact⟨(i+1,j+1,l'.set i l[j]),by dsimp only;rw[Go.Vc.wrap_small _ (by omega) (by omega),Go.Vc.wrap_small _ (by omega) (by omega)];rfl,⟨M2.keep hj' (by simpa using e3),by dsimp only;omega,H4⟩,by dsimp only;omega⟩
   ·exact⟨(i,j+1,l'),by dsimp only;rw[Go.Vc.wrap_small _ (by omega) (by omega)];rfl,⟨M2.skip hj' (by simpa using e3),by dsimp only;omega,H3⟩,by dsimp only;omega⟩
  ·have hje:j=l.length:=by omega
   subst hje
   refine⟨⟨by omega,by omega⟩,?_⟩
   rw[Int.toNat_natCast]
   refine H2.nt ag 0 rfl MG (fun _=>rfl) rfl (by decide) i (by omega) fun h3 H3=>⟨⟨by omega,by omega⟩,⟨s.ptr,i,s.cap⟩,rfl,?_⟩
   have:=M2.pre
   rw[List.take_length]at this
   rw[←this];exact H3
end
end Go.Proofs.YtkciobclldnoiaaGreat
namespace Wl
open Go Go.Proofs.YtkciobclldnoiaaGreat Go.Vc
def jA (r:db):Int×Int×Int:=(r.object,r.block,r.id)
def j0 (m:aF) (ds:aN) (k:Int):List db:=match bD ds k with|some d=>if d.lost then[]else fa m d.l|none=>[]
def sK (m:aF) (ds:aN) (l:List Int):List (Int×Int×Int):=l.flatMap fun k=>(j0 m ds k).map jA
def w8 (m:aF) (ds:aN) (slot:Int) (others:List Int):List db:=(j0 m ds slot).filter fun r=>!decide (jA r∈sK m ds others)
def nU (others:List Int) (r:db):List Int:=(List.range (fz r.object r.block others).length).map fun i:Nat=>lY (fz r.object r.block others) (r.id+i)
def ke (m:aF) (ds:aN) (pages:Nat) (others:List Int) (g:List Int) (r:db):Option Int:=(nU others r).find? fun k=>eU m ds k ((pages:Int)+g.getD k.toNat 0+1)
def nV (m:aF) (ds:aN) (pages:Nat) (others:List Int):List db→List Int→List (Int×List UInt8)→Option (List Int×List (Int×List UInt8))
 |[],g,l=>some (g,l)
 |r::rs,g,l=>match ke m ds pages others g r with
  |none=>none
  |some k=>nV m ds pages others rs (g.set k.toNat (g.getD k.toNat 0+1)) (l++[(k,dV r)])
end Wl
namespace Go.Proofs.YtkciobclldnoiaaGreat
open Go Go.Vc Go.Proofs Wl
set_option maxRecDepth 100000
abbrev DD (x:Int):Value:=.int .i64 x
def bF (a:Addr) (x y:bw) (oth:Sl) (pages:Int) (g:List Int) (sl:Sl):List Value:=.pointer (some a)::(aD x++(aD y++(.slice oth.ptr oth.len oth.cap::.int .i64 pages::(g.map DD++[.slice sl.ptr sl.len sl.cap]))))
theorem CM {a:Addr} {x y:bw} {oth:Sl} {pages:Int} {g:List Int} {sl:Sl} (h64:g.length=64) {k:Nat} (hk:k<64):(bF a x y oth pages g sl)[19+k]?=some (DD (g.getD k 0)):=by
 unfold bF
 have e:∀(l:List Value),(.pointer (some a)::(aD x++(aD y++(.slice oth.ptr oth.len oth.cap::.int .i64 pages::l))):List Value)[19+k]?=l[k]?:=fun l=>by
  rw[show 19+k=k+19 by omega]
  rfl
 rw[e,List.getElem?_append_left (by simp[h64];omega),List.getElem?_map,List.getElem?_eq_getElem (by omega),iE 0 (by omega)];rfl
theorem xC {a:Addr} {x y:bw} {oth:Sl} {pages:Int} {g:List Int} {sl:Sl} (h64:g.length=64):(bF a x y oth pages g sl)[83]?=some (.slice sl.ptr sl.len sl.cap):=by
 unfold bF
 have e:∀(l:List Value),(.pointer (some a)::(aD x++(aD y++(.slice oth.ptr oth.len oth.cap::.int .i64 pages::l))):List Value)[83]?=l[64]?:=fun l=>rfl
 rw[e,List.getElem?_append_right (by simp[h64])]
 simp[h64]
theorem J7 {a:Addr} {x y:bw} {oth:Sl} {pages:Int} {g:List Int} {sl:Sl} (h64:g.length=64) {k:Nat} (hk:k<64) (v:Int):(bF a x y oth pages g sl).set (19+k) (DD v)=bF a x y oth pages (g.set k v) sl:=by
 unfold bF
 have e:∀(l:List Value),(.pointer (some a)::(aD x++(aD y++(.slice oth.ptr oth.len oth.cap::.int .i64 pages::l))):List Value).set (19+k) (DD v)=.pointer (some a)::(aD x++(aD y++(.slice oth.ptr oth.len oth.cap::.int .i64 pages::(l.set k (DD v))))):=fun l=>by
  rw[show 19+k=k+19 by omega];rfl
 rw[e,List.set_append_left _ _ (by simp[h64];omega),List.map_set]
theorem J8 {a:Addr} {x y:bw} {oth:Sl} {pages:Int} {g:List Int} {sl:Sl} (h64:g.length=64) (s2:Sl):(bF a x y oth pages g sl).set 83 (.slice s2.ptr s2.len s2.cap)=bF a x y oth pages g s2:=by
 unfold bF
 have e:∀(l:List Value),(.pointer (some a)::(aD x++(aD y++(.slice oth.ptr oth.len oth.cap::.int .i64 pages::l))):List Value).set 83 (.slice s2.ptr s2.len s2.cap)=.pointer (some a)::(aD x++(aD y++(.slice oth.ptr oth.len oth.cap::.int .i64 pages::(l.set 64 (.slice s2.ptr s2.len s2.cap))))):=fun l=>rfl
 rw[e,List.set_append_right _ _ (by simp[h64])]
 simp[h64]
theorem lr {a:Addr} {x y:bw} {oth:Sl} {pages:Int} {g:List Int} {sl:Sl} (h64:g.length=64):(bF a x y oth pages g sl).length=84:=by simp[bF,h64]
section
variable {B:au} {h0 h:Heap} {As:List HP} {a pw v:Addr} {offs:Int} {da:List (Option Addr)} {w:Pow} {ds:aN} {mc:List Value}
theorem GN (y:bf) (h:Heap):ab Tryz.prog Hl #[recv y] h fun v h'=>v=kf (y.1,y.2.1,y.2.2.1)∧Sp h h' []:=by
 refine FI y ?_
 unfold AH
 refine(Sp.refl h).boxed fun a1 h1 H1=>H1.alloc ag rfl fun a2 h2 H2=>?_
 have hb:=H2.box 0 rfl
 refine⟨y.1,hb.cell0 rfl,y.2.1,hb.cell rfl,y.2.2.1,hb.cell rfl,?_⟩
 refine H2.storeAll ag 1 rfl rfl [.int .i64 y.1,.int .i64 y.2.1,.int .i64 y.2.2.1] rfl rfl rfl rfl fun h3 H3=>?_
 exact⟨(y.1,y.2.1,y.2.2.1),(H3.box 1 rfl).aL _ rfl,rfl,.zip H3.ah⟩
theorem BI {xm yn:bw} {m:aF} {oth sl:Sl} {pages:Nat} {g:List Int} (slot more:Int) (hs:0≤slot∧slot<64) (h64:g.length=64) (hpg:pages≤2^30) (hg:∀x∈g,0≤x∧x≤2^30) (hmo:0≤more∧more≤2^30) (hx:cL h xm m) (hz:bR m)
  (hb:bK h v bc (bF a xm yn oth pages g sl)) (H:aa B h0 h (aI aR a pw mc offs da w ds::As)):
  ab Tryz.prog wh #[.pointer (some v),.int .i64 slot,.int .i64 more] h fun v h'=>v=.bool (eU m ds slot ((pages:Int)+g.getD slot.toNat 0+more))∧Sp h h' []:=by
 refine u9 (some v) slot more ?_
 unfold ow
 have hk:slot.toNat<64:=by omega
 have hgk:=CM (a:=a) (x:=xm) (y:=yn) (oth:=oth) (pages:=pages) (sl:=sl) h64 hk
 have hgb:0≤g.getD slot.toNat 0∧g.getD slot.toNat 0≤2^30:=by rw[iE 0 (by omega)];exact hg _ (List.getElem_mem _)
 have ce:cellOf h ((v.add 19).add (slot.toNat*1))=some (DD (g.getD slot.toNat 0)):=by rw[addr_add,Nat.mul_one];exact hb.cell hgk
 have cm:∀j,j<8→cellOf h ((v.add 1).add j)=(aD xm)[j]?:=fun j hj=>by
  rw[addr_add]
  have:(aD xm)[j]?=some ((aD xm)[j]'(by simpa using hj)):=List.getElem?_eq_getElem _
  rw[this]
  refine hb.cell ?_
  rw[Nat.add_comm,←this]
  unfold bF
  rw[List.getElem?_cons_succ,List.getElem?_append_left (by simpa using hj)]
 refine⟨v,rfl,some a,hb.cell0 rfl,v,rfl,xm,hb.cells 1 _ rfl,v,rfl,pages,hb.cell rfl,v,rfl,⟨hs.1,hs.2⟩,g.getD slot.toNat 0,ce,?_⟩
 have e1:IntKind.wrap .i64 (IntKind.wrap .i64 ((pages:Int)+g.getD slot.toNat 0)+more)=(pages:Int)+g.getD slot.toNat 0+more:=by
  rw[Go.Vc.wrap_small ((pages:Int)+g.getD slot.toNat 0) (by omega) (by omega),Go.Vc.wrap_small _ (by omega) (by omega)]
 rw[e1]
 obtain⟨ok,hbx⟩:=aa.cb H
 refine(ik slot ok hbx).mono ?_
 rintro _ h1 ⟨rfl,rfl⟩
 have held:∀{h':Heap},Sp h1 h' []→ak.ok [((v.add 19).add (slot.toNat*1),DD (g.getD slot.toNat 0)),(v.add 18,.int .i64 pages)] h':=fun{h'} R=>qt R.ah ⟨ce,hb.cell rfl,trivial⟩
 refine⟨_,rfl,⟨ce,hb.cell rfl,cm 0 (by omega),cm 1 (by omega),cm 2 (by omega),cm 3 (by omega),cm 4 (by omega),cm 5 (by omega),cm 6 (by omega),cm 7 (by omega),trivial⟩,?_⟩
 cases hd:bD ds slot with
 |none=>
  rw[GL hd H]
  refine(wP xm _ h1).mono ?_
  rintro _ h2 ⟨rfl,R2⟩
  exact⟨_,rfl,held R2,by unfold eU;rw[hd],R2⟩
 |some d=>
  obtain⟨b,s,bl,hb',q1,q2,q3⟩:=sJ hd H
  rw[hb']
  refine(wO s bl xm m _ q1 q2 q2.len q3 hx hz).mono ?_
  rintro _ h2 ⟨rfl,R2⟩
  exact⟨_,rfl,held R2,by unfold eU;rw[hd],R2⟩
end
end Go.Proofs.YtkciobclldnoiaaGreat
namespace Go.Proofs.YtkciobclldnoiaaGreat
open Go Go.Vc Go.Proofs Wl
set_option maxRecDepth 100000
section
variable {B:au} {h0 h:Heap} {As:List HP} {a pw v:Addr} {offs:Int} {da:List (Option Addr)} {w:Pow} {ds:aN} {mc:List Value}
theorem zA {o b k:Int} {l:List Int} (h:k∈fz o b l):k∈l∧0≤k∧k<64:=by
 unfold fz at h
 split at h
 ·exact(DA _ _ _).1 h
 ·cases h
theorem IV {o:List Int} (ho:o≠[]) {i:Int} (hi:0≤i):lY o i∈o:=by
 have:=LB ho i.toNat
 rwa [show((i.toNat:Nat):Int)=i by omega]at this
theorem Nh {others:List Int} {r:db} {k:Int} (hr:0≤r.id) (h:k∈nU others r):k∈others∧0≤k∧k<64:=by
 unfold nU at h
 obtain⟨i,hi,rfl⟩:=List.mem_map.1 h
 have hi:=List.mem_range.1 hi
 exact zA (IV (fun h0=>by rw[h0]at hi;exact Nat.not_lt_zero _ hi) (by omega))
theorem LP {l:List Int} (h:l.Nodup):(fG l).Pairwise (·<·):=by
 have hp:(fG l).Perm l:=List.mergeSort_perm _ _
 have hs:(fG l).Pairwise (fun a b=>decide (a≤b)=true):=List.pairwise_mergeSort (fun a b c h1 h2=>by simp at*;omega) (fun a b=>by simp;omega) l
 have hn:(fG l).Pairwise (fun a b=>a≠b):=hp.nodup_iff.2 h
 exact(hs.and hn).imp fun h=>by have h1:=of_decide_eq_true h.1;have h2:=h.2;omega
theorem LQ {l:List Int} (h:l.Nodup) (hin:∀k∈l,0≤k∧k<64):l.length≤64:=by
 have hp:(fG l).Perm l:=List.mergeSort_perm _ _
 have:=yZ (a:=0) (b:=64) (LP h) (fun k hk=>hin k (hp.mem_iff.1 hk)) (by decide)
 rw[hp.length_eq]at this;omega
theorem Io (o b:Int) (l:List Int):(fz o b l).length≤64:=by
 refine LQ ?_ fun k hk=>(zA hk).2
 unfold fz
 split
 ·exact M4 _ _
 ·exact List.nodup_nil
theorem BJ {α:Type} {p:α→Bool}:∀{l:List α} {i:Nat} (hi:i<l.length),(∀j (hj:j<i),p (l[j]'(by omega))=false)→p l[i]=true→l.find? p=some l[i]
 |[],i,hi,_,_=>absurd hi (by simp)
 |x::l,0,_,_,h=>List.find?_cons_of_pos h
 |x::l,i+1,hi,hno,h=>by
  have h0:p x=false:=hno 0 (by omega)
  rw[List.find?_cons_of_neg (by simp[h0])]
  exact BJ (l:=l) (i:=i) (by simpa using hi) (fun j hj=>hno (j+1) (by omega)) h
theorem J9 {xm yn:bw} {m:aF} {oth sl:Sl} {pages:Nat} {g others:List Int} {l:List (Int×List UInt8)} (y:bf) (r:db) (hr:0≤r.id∧r.id≤65535) (h64:g.length=64) (hpg:pages≤2^30) (hg:∀x∈g,0≤x∧x≤2^20) (hl:l.length≤2^20) (hol:others.length≤64)
  (hS:St B h0 As fun h=>cL h xm m∧Rd h oth 1 av others∧ly cF h y r) (hz:bR m)
  (H:aa B h0 h (aI aR a pw mc offs da w ds::aj v bc (bF a xm yn oth pages g sl)::dX bo sl 2 piv cT l::As)):
  ab Tryz.prog vb #[.pointer (some v),recv y] h fun u h'=>(ke m ds pages others g r=none→u=.bool false∧aa B h0 h' (aI aR a pw mc offs da w ds::aj v bc (bF a xm yn oth pages g sl)::dX bo sl 2 piv cT l::As))∧
   (∀k,ke m ds pages others g r=some k→u=.bool true∧∃sl',aa B h0 h' (aI aR a pw mc offs da w ds::aj v bc (bF a xm yn oth pages (g.set k.toNat (g.getD k.toNat 0+1)) sl')::dX bo sl' 2 piv cT (l++[(k,dV r)])::As)):=by
 refine tE (some v) y ?_
 unfold nK
 refine H.boxed fun a1 h1 H1=>?_
 have H1:=H1.bW
 have H1:aa B h0 h1 (aj a1 aC (aV y)::aI aR a pw mc offs da w ds::aj v bc (bF a xm yn oth pages g sl)::dX bo sl 2 piv cT l::As):=H1
 obtain⟨_,ho1,hy1⟩:=hS.at [_,_,_,_] H1
 obtain⟨e1,e2,e3,e4,e5,e6,e7⟩:=hy1.1
 have hb1:=H1.box 0 rfl
 have hv1:=H1.box 2 rfl
 refine⟨y.1,hb1.cell0 rfl,y.2.1,hb1.cell rfl,v,rfl,oth,hv1.cell rfl,?_⟩
 rw[e1,e2]
 refine(yA r.object r.block oth others h1 ho1 (by omega)).mono ?_
 rintro _ h2 ⟨ord,rfl,R2⟩
 obtain⟨order,hord⟩:∃order,order=fz r.object r.block others:=⟨_,rfl⟩
 rw[←hord]at R2
 have H2:=H1.ck R2
 have hoin:∀k∈order,k∈others∧0≤k∧k<64:=fun k hk=>by rw[hord]at hk;exact zA hk
 have hol2:order.length≤64:=by rw[hord];exact Io _ _ _
 have htl:(nU others r).length=order.length:=by unfold nU;rw[List.length_map,List.length_range,hord]
 have hta:∀j (hj:j<(nU others r).length),(nU others r)[j]=lY order (r.id+(j:Int)):=fun j hj=>by simp[nU,hord]
 refine⟨ord,rfl,trivial,?_⟩
 refine aB (fun i:Nat=>(i:Int)) (fun i h'=>i≤order.length∧(∀j,j<i→eU m ds (lY order (r.id+(j:Int))) ((pages:Int)+g.getD (lY order (r.id+(j:Int))).toNat 0+1)=false)∧aa B h0 h' (an aA ord 1 av order::aj a1 aC (aV y)::aI aR a pw mc offs da w ds::aj v bc (bF a xm yn oth pages g sl)::dX bo sl 2 piv cT l::As)) (fun i=>order.length-i) 0 rfl ⟨by omega,fun j hj=>by omega,H2⟩ ?_
 rintro i h3 ⟨hi,hno,H3⟩
 dsimp only
 have hordl:=(H3.own 0 rfl).len
 refine al (fun e=>?_) fun e=>?_
 ·have hi':i<order.length:=by omega
  refine⟨y.2.2.1,(H3.box 1 rfl).cell rfl,?_⟩
  rw[e3,Go.Vc.wrap_small (r.id+(i:Int)) (by omega) (by omega)]
  refine(IT ord order (r.id+i) h3 (H3.seq 0 rfl fun _=>rfl)).mono ?_
  rintro _ h4 ⟨rfl,rfl⟩
  obtain⟨k,hk⟩:∃k,k=lY order (r.id+(i:Int)):=⟨_,rfl⟩
  have hkm:k∈order:=by rw[hk];exact IV (fun h0=>by rw[h0]at hi';exact Nat.not_lt_zero _ hi') (by omega)
  obtain⟨hko,hk0,hk1⟩:=hoin k hkm
  rw[←hk]
  have H4:aa B h0 h4 (aI aR a pw mc offs da w ds::aj v bc (bF a xm yn oth pages g sl)::dX bo sl 2 piv cT l::an aA ord 1 av order::aj a1 aC (aV y)::As):=H3.aS 5 [2,3,4,0,1]
  obtain⟨hx4,_,_⟩:=hS.at [_,_,_,_,_] H4
  refine⟨k,rfl,(BI k 1 ⟨hk0,hk1⟩ h64 hpg (fun x hx=>by have:=hg x hx;omega) (by omega) hx4 hz (H4.box 1 rfl) H4).mono ?_⟩
  rintro _ h5 ⟨rfl,R5⟩
  have H5:=H4.up R5.ah
  refine⟨_,rfl,bu (fun e8=>?_) fun e8=>?_⟩
  ·have hfor:ke m ds pages others g r=some k:=by
    unfold ke
    rw[BJ (i:=i) (by omega) (fun j hj=>by rw[hta];exact hno j hj) (by rw[hta,←hk];exact e8),hta,←hk]
   have hkn:k.toNat<64:=by omega
   have hgk:=CM (a:=a) (x:=xm) (y:=yn) (oth:=oth) (pages:=pages) (sl:=sl) h64 hkn
   have hgb:0≤g.getD k.toNat 0∧g.getD k.toNat 0≤2^20:=by rw[iE 0 (by omega)];exact hg _ (List.getElem_mem _)
   refine⟨v,rfl,⟨hk0,hk1⟩,g.getD k.toNat 0,by rw[addr_add,Nat.mul_one];exact(H5.box 1 rfl).cell hgk,v,rfl,⟨hk0,hk1⟩,?_⟩
   rw[addr_add,Nat.mul_one,Go.Vc.wrap_small (g.getD k.toNat 0+1) (by omega) (by omega)]
   refine H5.storeAt ag 1 rfl rfl rfl rfl rfl (by rw[lr h64];omega) fun h6 H6=>?_
   rw[J7 h64 hkn]at H6
   obtain⟨g',hg'⟩:∃g',g'=g.set k.toNat (g.getD k.toNat 0+1):=⟨_,rfl⟩
   have h64':g'.length=64:=by rw[hg',List.length_set];exact h64
   rw[←hg']at H6
   have H6:aa B h0 h6 (aI aR a pw mc offs da w ds::aj v bc (bF a xm yn oth pages g' sl)::dX bo sl 2 piv cT l::an aA ord 1 av order::aj a1 aC (aV y)::As):=H6
   obtain⟨_,_,hy6⟩:=hS.at [_,_,_,_,_] H6
   have hb6:=H6.box 1 rfl
   refine⟨trivial,v,rfl,sl,hb6.cell (xC h64'),y,(H6.box 4 rfl).aL _ rfl,(nh y r h6 hy6).mono ?_⟩
   rintro _ h7 ⟨u,rfl,R7⟩
   have H7:=(H6.ck R7).fZ 0 rfl (D:=EA cT (k,u) (k,dV r)) fun z hz=>⟨rfl,hz.1.seq (fun _=>rfl) hz.2⟩
   have H7:aa B h0 h7 (EA cT (k,u) (k,dV r)::aI aR a pw mc offs da w ds::aj v bc (bF a xm yn oth pages g' sl)::dX bo sl 2 piv cT l::an aA ord 1 av order::aj a1 aC (aV y)::As):=H7
   have hb7:=H7.box 2 rfl
   refine⟨u,rfl,⟨hb7.cell (xC h64'),trivial⟩,?_⟩
   refine H7.oP ag piv wH rfl [(k,u)] rfl (show 1*2≤2^20 by decide) rfl ⟨hb7.cell (xC h64'),trivial⟩ ?_
   refine aa.Nv ag H7 3 0 (by decide) (a:=(k,u)) rfl rfl wH rfl (by decide) (fun _=>rfl) xz (parts:=#[(0,.agg #[.int .i64 k,.slice u.ptr u.len u.cap])]) (by kernel_rfl) (by decide) (by omega) fun o3 h9 H9=>⟨trivial,v,rfl,?_⟩
   have H9:aa B h0 h9 (emp::aI aR a pw mc offs da w ds::aj v bc (bF a xm yn oth pages g' sl)::dX bo o3 2 piv cT (l++[(k,dV r)])::an aA ord 1 av order::aj a1 aC (aV y)::As):=H9
   refine H9.storeAt ag 2 rfl rfl rfl rfl rfl (by rw[lr h64'];omega) fun h10 H10=>?_
   rw[J8 h64']at H10
   refine⟨trivial,fun hh=>by rw[hfor]at hh;(cases hh),fun k' hh=>?_⟩
   rw[hfor]at hh
   injection hh with hh
   subst hh
   rw[←hg']
   have H10:aa B h0 h10 (emp::aI aR a pw mc offs da w ds::aj v bc (bF a xm yn oth pages g' o3)::dX bo o3 2 piv cT (l++[(k,dV r)])::an aA ord 1 av order::aj a1 aC (aV y)::As):=H10
   exact⟨rfl,o3,H10.aS 6 [1,2,3]⟩
  ·refine⟨i+1,by rw[Go.Vc.wrap_small _ (by omega) (by omega)];rfl,⟨by omega,fun j hj=>?_,H5.aS 5 [3,4,0,1,2]⟩,by omega⟩
   rcases Nat.lt_succ_iff_lt_or_eq.1 hj with h|rfl
   ·exact hno j h
   ·rw[←hk];exact e8
 ·have hnone:ke m ds pages others g r=none:=by
   unfold ke
   refine List.find?_eq_none.2 fun x hx=>?_
   obtain⟨j,hj,rfl⟩:=List.getElem_of_mem hx
   rw[hta,hno j (by omega)];decide
  refine⟨fun _=>⟨rfl,H3.aS 5 [2,3,4]⟩,fun k hh=>by rw[hnone]at hh;cases hh⟩
end
end Go.Proofs.YtkciobclldnoiaaGreat
namespace Go.Proofs.YtkciobclldnoiaaGreat
open Go Go.Vc Go.Proofs Wl
set_option maxRecDepth 100000
theorem Pt:nZ Tryz.prog xX aA:=
 ⟨⟨⟨"object",3,0,false, "", "wellspring/fleet",0⟩,⟨"block",3,1,false, "", "wellspring/fleet",8⟩,⟨"id",3,2,false, "", "wellspring/fleet",16⟩,by kernel_rfl,by decide,by decide,by decide,rfl,rfl,rfl,rfl,rfl,rfl⟩,by kernel_rfl,by kernel_rfl,fun w=>Tryz.isAgg3 w⟩
theorem Pu:Tryz.prog.underlying bL=some (.map xX KS):=by kernel_rfl
theorem PK:ar Tryz.prog (zeroValue KS) (.bool false):=fun w=>Tryz.zeroValue4 w
theorem BL (x:bw) (h:Heap):ab Tryz.prog jE #[.pointer none,dj x] h fun v h'=>∃r:Sl,v=.slice r.ptr r.len r.cap∧Sp h h' [bA r []]:=by
 refine px none x ?_
 unfold mI
 refine(Sp.refl h).boxed fun a1 h1 H1=>?_
 refine(ml none (R:=fun v h'=>v=.slice none 0 0∧h'=h1) ?_).mono ?_
 ·unfold kl
  exact bu (fun _=>⟨rfl,rfl⟩) fun e=>by cases e
 rintro _ h2 ⟨rfl,rfl⟩
 refine⟨⟨none,0,0⟩,rfl,?_⟩
 have H2:Sp h h2 [bA ⟨none,0,0⟩ []]:=(H1.nil aC 8 aV).cE [1]
 refine aB (fun _:Unit=>((⟨none,0,0⟩:Sl),(-1:Int))) (fun _ h'=>Sp h h' [bA ⟨none,0,0⟩ []]) (fun _=>0) () rfl H2 ?_
 rintro _ h3 H3
 dsimp only
 rw[show IntKind.wrap .i64 ((-1:Int)+1)=0 from rfl]
 refine al (fun e=>?_) (fun e=>absurd (show(0:Int)≥((0:Nat):Int)by decide) e)
 refine(qN [] (by simp) H3).mono ?_
 rintro _ h4 ⟨rfl,H4⟩
 refine⟨(),rfl,(pS _ (by simp) H4).mono ?_⟩
 rintro _ h5 ⟨r5,rfl,H5⟩
 refine⟨r5,rfl,r5,rfl,?_⟩
 have:Ga (([]:List bf).mergeSort bH)=[]:=by simp[Ga,gF]
 rw[this]at H5
 exact H5
section
variable {B:au} {h0 h:Heap} {As:List HP} {a pw v:Addr} {offs:Int} {da:List (Option Addr)} {w:Pow} {ds:aN} {mc:List Value}
theorem ue {m:aF} {d:bx} (ok:dC d):(fa m d.l).length≤512:=by
 have:=nQ m d.l;have:=ok.len;have:=ok.room;omega
theorem Ka {xm yn:bw} {m:aF} {oth sl:Sl} {pages:Int} {g others:List Int} (o:Option Addr) (rs:List db) (ho:(o=none∧rs=[])∨∃k d b,o=some b∧ij da k=some b∧bD ds k=some d∧rs=fa m d.l)
  (hlive:∀k∈others,∃d,bD ds k=some d∧d.lost=false) (hol:others.length≤64) (hS:St B h0 As fun h=>cL h xm m∧Rd h oth 1 av others) (hz:bR m)
  (H:aa B h0 h (aI aR a pw mc offs da w ds::aj v bc (bF a xm yn oth pages g sl)::As)):
  ab Tryz.prog va #[.pointer (some v),.pointer o] h fun u h'=>∃(r:Sl) (T:List (bf×db)),u=.slice r.ptr r.len r.cap∧T.map Prod.snd=(rs.filter fun r=>!decide (jA r∈sK m ds others))∧Sp h h' [bA r (T.map Prod.fst),dL T]:=by
 refine tC (some v) o ?_
 unfold nJ
 refine Ff fun q h1 hq hs hp=>?_
 have R1:Sp h h1 [n5 q []]:=.one (any hp) ⟨hs,by omega,hs.lt⟩
 refine R1.alloc ag rfl fun a2 h2 R2=>?_
 refine R2.storeAll ag 1 rfl rfl [.map (some q)] rfl rfl rfl rfl fun h3 R3=>?_
 have R3:Sp h h3 [n5 q [],aj a2 bL [.map (some q)]]:=R3
 have H3:=H.up R3.ah
 have hv3:=H3.box 1 rfl
 have cm:∀{h':Heap},bK h' v bc (bF a xm yn oth pages g sl)→∀j,j<8→cellOf h' ((v.add 1).add j)=(aD xm)[j]?:=fun{h'} hb j hj=>by
  rw[addr_add]
  have:(aD xm)[j]?=some ((aD xm)[j]'(by simpa using hj)):=List.getElem?_eq_getElem _
  rw[this]
  refine hb.cell ?_
  rw[Nat.add_comm,←this]
  unfold bF
  rw[List.getElem?_cons_succ,List.getElem?_append_left (by simpa using hj)]
 refine⟨v,rfl,oth,hv3.cell rfl,?_⟩
 have hol3:=(hS.at [_,_] H3).2.len
 refine aB (fun t:Nat×List (Int×Int×Int)=>(t.1:Int)) (fun t h'=>t.1≤others.length∧(∀x,x∈t.2↔x∈sK m ds (others.take t.1))∧Sp h h' [n5 q t.2,aj a2 bL [.map (some q)]]) (fun t=>others.length-t.1) (0,[]) rfl ⟨Nat.zero_le _,fun x=>by simp[sK],R3⟩ ?_
 rintro⟨i,ks⟩ h4 ⟨hi,hks,R4⟩
 dsimp only at hi hks⊢
 have H4:=H.up R4.ah
 have hv4:=H4.box 1 rfl
 obtain⟨hx4,ho4⟩:=hS.at [_,_] H4
 refine al (fun e=>?_) fun e=>?_
 ·have hi':i<others.length:=by omega
  refine ho4.cr i rfl hi' others[i] rfl ?_
  obtain⟨d,hd,hdl⟩:=hlive others[i] (List.getElem_mem hi')
  obtain⟨b,s,bl,hb,q1,q2,q3⟩:=sJ hd H4
  refine aU ⟨v,rfl,some a,hv4.cell0 rfl,v,rfl,xm,hv4.cells 1 _ rfl,(mb H4).mono ?_⟩
  rintro _ h5 ⟨rfl,rfl⟩
  rw[hb]
  refine⟨_,rfl,⟨cm hv4 0 (by omega),cm hv4 1 (by omega),cm hv4 2 (by omega),cm hv4 3 (by omega),cm hv4 4 (by omega),cm hv4 5 (by omega),cm hv4 6 (by omega),cm hv4 7 (by omega),trivial⟩,?_⟩
  refine(pT b pw d s bl xm m h5 q1 q2 q3 hx4 hz).mono ?_
  rintro _ h6 ⟨r13,ys,rfl,R6⟩
  refine⟨r13,rfl,trivial,?_⟩
  dsimp only
  have hra:j0 m ds others[i]=fa m d.l:=by unfold j0;rw[hd];dsimp only;rw[if_neg (by simp[hdl])]
  have hrl:=ue (m:=m) q3
  obtain⟨rl,hrl0⟩:∃rl,rl=fa m d.l:=⟨_,rfl⟩
  rw[←hrl0]at R6 hra hrl
  have R6:Sp h h6 [n5 q ks,aj a2 bL [.map (some q)],cG cF 8 aV r13 ys rl]:=R4.comp R6
  have F6:=R6.fN 2 rfl
  have h13:=F6.1.len
  have hyl:=F6.2.1
  refine aB (fun t:Nat×List (Int×Int×Int)=>(t.1:Int)) (fun t h'=>t.1≤rl.length∧(∀x,x∈t.2↔x∈sK m ds (others.take i)∨x∈(rl.take t.1).map jA)∧Sp h h' [n5 q t.2,aj a2 bL [.map (some q)],cG cF 8 aV r13 ys rl]) (fun t=>rl.length-t.1) (0,ks) rfl ⟨Nat.zero_le _,fun x=>by rw[hks];simp,R6⟩ ?_
  rintro⟨j,ks2⟩ h7 ⟨hj,hks2,R7⟩
  dsimp only at hj hks2⊢
  have F7:=R7.fN 2 rfl
  refine al (fun e2=>?_) fun e2=>?_
  ·have hj':j<rl.length:=by omega
   obtain⟨hrow1,hrow2⟩:=Fix.row F7 hj'
   obtain⟨y,hy⟩:∃y,y=ys[j]'(by omega):=⟨_,rfl⟩
   rw[←hy]at hrow1 hrow2
   refine F7.1.eu (g:=aV) j rfl (by omega) y (by rw[hy]) ?_
   refine R7.alloc ag rfl fun a18 h8 R8=>?_
   refine R8.storeAll ag 3 rfl rfl (aV y) rfl rfl rfl rfl fun h9 R9=>?_
   have R9:Sp h h9 [n5 q ks2,aj a2 bL [.map (some q)],cG cF 8 aV r13 ys rl,aj a18 aC (aV y)]:=R9
   refine⟨some q,(R9.box 1 rfl).cell0 rfl,y,(R9.box 3 rfl).aL _ rfl,(GN y h9).mono ?_⟩
   rintro _ h10 ⟨rfl,R10⟩
   have R10:Sp h h10 [n5 q ks2,aj a2 bL [.map (some q)],cG cF 8 aV r13 ys rl,aj a18 aC (aV y)]:=R9.up R10.ah
   refine⟨(y.1,y.2.1,y.2.2.1),rfl,⟨(R10.box 1 rfl).cell0 rfl,trivial⟩,?_⟩
   have hset:lG h10 q ks2:=(R10.at 0 rfl).1
   refine hset.update Pu Pt fun h11 hs11 hp11 hz11=>?_
   have hkey:(y.1,y.2.1,y.2.2.1)=jA rl[j]:=by unfold jA;rw[hrow1.1,hrow1.2.1,hrow1.2.2.1]
   rw[hkey]at hs11
   have R11:Sp h h11 [n5 q (if jA rl[j]∈ks2 then ks2 else ks2++[jA rl[j]]),aj a2 bL [.map (some q)],cG cF 8 aV r13 ys rl,aj a18 aC (aV y)]:=
    R10.step 0 rfl (D:=n5 q (if jA rl[j]∈ks2 then ks2 else ks2++[jA rl[j]])) fun q0 hq0 hlt=>⟨hp11.mono fun b _ hb hon=>hb (by rw[hon];exact hq0.2),hs11,⟨by rw[hz11];exact hlt _ hq0.2,.inl hq0.2⟩⟩
   refine⟨trivial,(j+1,if jA rl[j]∈ks2 then ks2 else ks2++[jA rl[j]]),by dsimp only;rw[Go.Vc.wrap_small _ (by omega) (by omega)];rfl,⟨by dsimp only;omega,fun x=>?_,R11.cE [0,1,2]⟩,by dsimp only;omega⟩
   dsimp only
   rw[aM _ _ hj',List.map_append,List.mem_append,List.map_cons,List.map_nil,List.mem_singleton,←or_assoc,←hks2]
   by_cases hm:jA rl[j]∈ks2
   ·rw[if_pos hm]
    exact⟨fun h=>.inl h,fun h=>by rcases h with h|rfl;exact h;exact hm⟩
   ·rw[if_neg hm,List.mem_append,List.mem_singleton]
  ·refine⟨(i+1,ks2),by dsimp only;rw[Go.Vc.wrap_small _ (by omega) (by omega)];rfl,⟨by dsimp only;omega,fun x=>?_,R7.cE [0,1]⟩,by dsimp only;omega⟩
   dsimp only
   have e2':¬(j:Int)<(r13.len:Int):=e2
   have hjt:rl.take j=rl:=List.take_of_length_le (by omega)
   rw[hks2,hjt,aM _ _ hi']
   unfold sK
   rw[List.flatMap_append,List.mem_append,List.flatMap_cons,List.flatMap_nil,List.append_nil,hra]
 ·have hie:i=others.length:=by omega
  subst hie
  rw[List.take_length]at hks
  refine⟨v,rfl,xm,hv4.cells 1 _ rfl,?_⟩
  have hrec:ab Tryz.prog jE #[.pointer o,dj xm] h4 fun u h'=>∃(r:Sl) (T:List (bf×db)),u=.slice r.ptr r.len r.cap∧T.map Prod.snd=rs∧T.length≤512∧Keyed T∧Sp h4 h' [bA r (T.map Prod.fst),dL T]:=by
   rcases ho with⟨rfl,rfl⟩|⟨k,d,b,rfl,hb,hd,rfl⟩
   ·refine(BL xm h4).mono ?_
    rintro _ h' ⟨r,rfl,R⟩
    exact⟨r,[],rfl,rfl,by simp,(fun t ht=>by cases ht),R.comp (.one (A:=dL []) (aH.refl _ _) (fun t ht=>(by cases ht)))⟩
   ·obtain⟨b',s,bl,hb',q1,q2,q3⟩:=sJ hd H4
    rw[hb]at hb'
    injection hb' with hb'
    subst hb'
    refine(uM b pw d s bl xm m h4 q1 q2 q3 hx4 hz).mono ?_
    rintro _ h' ⟨r,T,rfl,hT,hk,R⟩
    exact⟨r,T,rfl,hT,by have:=ue (m:=m) q3;rw[←hT,List.length_map]at this;exact this,hk,R⟩
  refine hrec.mono ?_
  rintro _ h5 ⟨r,T,rfl,hT,hTl,hK,R5⟩
  have H5:Sp h h5 (an aC r 8 aV (T.map Prod.fst)::[dL T,n5 q ks,aj a2 bL [.map (some q)]]):=(R4.comp R5).cE [2,3,0,1]
  refine⟨r,rfl,(GM r (T.map Prod.fst) si #[.pointer (some a2)] (fun y=>decide ((y.1,y.2.1,y.2.2.1)∈ks)) (fun h'=>lG h' q ks∧bK h' a2 bL [.map (some q)]) (by rfl) (As:=[dL T,n5 q ks,aj a2 bL [.map (some q)]])
   ((St.cQ (A:=n5 q ks) 1 rfl fun h' hq=>hq.1).and (St.cQ (A:=aj a2 bL [.map (some q)]) 2 rfl fun h' hq=>hq.1)) ?_ H5 (by rw[List.length_map];omega)).mono ?_⟩
  ·rintro y h' ⟨hs',hb'⟩
   refine ru y a2 ?_
   unfold lR
   refine(Sp.refl h').boxed fun a1 h6 R6=>?_
   have hb6:=hb'.ah R6.ah hb'.lt
   refine⟨some q,hb6.cell0 rfl,y,(R6.box 0 rfl).aL _ rfl,(GN y h6).mono ?_⟩
   rintro _ h7 ⟨rfl,R7⟩
   have P7:=(R6.up R7.ah).ah
   refine⟨(y.1,y.2.1,y.2.2.1),rfl,⟨(hb'.ah P7 hb'.lt).cell0 rfl,trivial⟩,?_⟩
   refine(hs'.ah P7 hs'.lt).lookup Pu Pt PK ?_
   exact⟨trivial,rfl,.zip P7⟩
  ·rintro _ h6 ⟨r',rfl,R6⟩
   refine⟨r',rfl,r',T.filter (fun t=>!decide (jA t.2∈ks)),rfl,?_,?_⟩
   ·rw[←hT,List.filter_map]
    congr 1
    refine List.filter_congr fun t ht=>?_
    simp only[Function.comp_apply,hks]
   ·have e:(T.map Prod.fst).filter (fun y=>!decide ((y.1,y.2.1,y.2.2.1)∈ks))=(T.filter (fun t=>!decide (jA t.2∈ks))).map Prod.fst:=by
     rw[List.filter_map]
     congr 1
     refine List.filter_congr fun t ht=>?_
     obtain⟨k1,k2,k3⟩:=hK t ht
     have ek:(t.1.1,t.1.2.1,t.1.2.2.1)=jA t.2:=by unfold jA;rw[k1,k2,k3]
     show(!decide ((t.1.1,t.1.2.1,t.1.2.2.1)∈ks))=_
     rw[ek]
    rw[e]at R6
    exact(R6.fZ 1 rfl (D:=dL (T.filter (fun t=>!decide (jA t.2∈ks)))) fun q0 hq0 t ht=>hq0 t (List.mem_filter.1 ht).1).cE [0,1]
end
end Go.Proofs.YtkciobclldnoiaaGreat
namespace Wl
open Go Go.Proofs.YtkciobclldnoiaaGreat Go.Vc
def me (m:aF) (ds:aN) (pages:Nat) (others:List Int) (slot:Int):Option (List Int×List (Int×List UInt8)):=
 if others.any fun k=>!eU m ds k (pages:Int)then none else nV m ds pages others (w8 m ds slot others) (List.replicate 64 0) []
end Wl
namespace Go.Proofs.YtkciobclldnoiaaGreat
open Go Go.Vc Go.Proofs Wl
set_option maxRecDepth 100000
section
variable {B:au} {h0 h:Heap} {As:List HP} {a pw v:Addr} {offs:Int} {da:List (Option Addr)} {w:Pow} {ds:aN} {mc:List Value}
theorem GO (h:Heap):ab Tryz.prog mr #[.pointer none] h fun v h'=>v=.bool false∧h'=h:=by
 refine lK none ?_
 unfold jU
 exact bu (fun e=>by cases e) fun _=>⟨rfl,rfl⟩
theorem LR {xm yn:bw} {m:aF} {oth:Sl} {pages:Nat} {others:List Int} (slot:Int) (hpg:pages≤2^30) (hin:∀k∈others,0≤k∧k<64) (hlive:∀k∈others,∃d,bD ds k=some d∧d.lost=false) (hol:others.length≤64)
  (hS:St B h0 As fun h=>cL h xm m∧Rd h oth 1 av others) (hz:bR m)
  (H:aa B h0 h (aI aR a pw mc offs da w ds::aj v bc (bF a xm yn oth pages (List.replicate 64 0) ⟨none,0,0⟩)::As)):
  ab Tryz.prog vX #[.pointer (some v),.int .i64 slot] h fun u h'=>(me m ds pages others slot=none→u=.bool false∧∃mv,aa B h0 h' (aI aR a pw mc offs da w ds::aj v bc mv::As))∧
   (∀gl,me m ds pages others slot=some gl→u=.bool true∧∃sl',aa B h0 h' (aI aR a pw mc offs da w ds::aj v bc (bF a xm yn oth pages gl.1 sl')::dX bo sl' 2 piv cT gl.2::As)∧gl.1.length=64∧(∀x∈gl.1,0≤x∧x≤512)∧gl.2.length≤512∧∀y∈gl.2,y.1∈others∧y.2.length≤64):=by
 refine uZ (some v) slot ?_
 unfold ou
 refine H.boxed fun a1 h1 H1=>?_
 have H1:aa B h0 h1 (aj a1 dv [.pointer (some v)]::aI aR a pw mc offs da w ds::aj v bc (bF a xm yn oth pages (List.replicate 64 0) ⟨none,0,0⟩)::As):=H1.bW
 have hb1:=H1.box 0 rfl
 have hv1:=H1.box 2 rfl
 obtain⟨hx1,ho1⟩:=hS.at [_,_,_] H1
 refine⟨some v,hb1.cell0 rfl,v,rfl,oth,hv1.cell rfl,?_⟩
 have hg0:∀k:Int,(List.replicate 64 (0:Int)).getD k.toNat 0=0:=fun k=>by
  rw[List.getD_eq_getElem?_getD,List.getElem?_replicate];split<;>rfl
 refine(Du tz #[] #[.pointer (some a1)] (fun k=>!eU m ds k (pages:Int)) oth others h1 (by rfl) ho1 (by omega) fun k hk h' R'=>?_).mono ?_
 ·refine sa k a1 ?_
  unfold mw
  have H':=H1.up R'.ah
  refine⟨some v,(H'.box 0 rfl).cell0 rfl,?_⟩
  have H'c:=H'.aS 3 [1,2,0]
  refine(BI k 0 (hin k hk) (by simp) hpg (fun x hx=>by rw[List.eq_of_mem_replicate hx];decide) (by decide) (hS.at [_,_,_] H'c).1 hz (H'c.box 1 rfl) H'c).mono ?_
  rintro _ h2 ⟨rfl,R2⟩
  refine⟨_,rfl,?_,R2⟩
  rw[hg0,Int.add_zero,Int.add_zero]
 rintro _ h2 ⟨rfl,R2⟩
 have H2:=H1.up R2.ah
 refine⟨_,rfl,bu (fun e=>?_) fun e=>?_⟩
 ·have hn:me m ds pages others slot=none:=by unfold me;rw[if_pos e]
  exact⟨fun _=>⟨rfl,_,H2.aS 3 [1,2]⟩,fun gl hh=>by rw[hn]at hh;cases hh⟩
 have hpl:me m ds pages others slot=nV m ds pages others (w8 m ds slot others) (List.replicate 64 0) []:=by unfold me;rw[if_neg (by rw[e];decide)]
 rw[hpl]
 refine⟨some v,(H2.box 0 rfl).cell0 rfl,v,rfl,some a,(H2.box 2 rfl).cell0 rfl,?_⟩
 have H2c:aa B h0 h2 (aI aR a pw mc offs da w ds::aj v bc (bF a xm yn oth pages (List.replicate 64 0) ⟨none,0,0⟩)::aj a1 dv [.pointer (some v)]::As):=H2.aS 3 [1,2,0]
 refine(mb H2c).mono ?_
 rintro _ h3 ⟨rfl,rfl⟩
 refine⟨_,rfl,?_⟩
 refine cI (fun(o:Option Addr) h'=>h'=h3∧((o=none∧j0 m ds slot=[])∨∃k d b,o=some b∧ij da k=some b∧bD ds k=some d∧j0 m ds slot=fa m d.l)) ?_ ?_
 ·cases hd:bD ds slot with
  |none=>
   rw[GL hd H2c]
   refine(GO h3).mono ?_
   rintro _ _ ⟨rfl,rfl⟩
   exact⟨false,rfl,bu (fun e=>by cases e) fun _=>⟨rfl,.inl ⟨rfl,by unfold j0;rw[hd]⟩⟩⟩
  |some d=>
   obtain⟨b,s,bl,hb,q1,q2,q3⟩:=sJ hd H2c
   rw[hb]
   refine(qI s bl q1).mono ?_
   rintro _ _ ⟨rfl,rfl⟩
   refine⟨_,rfl,bu (fun e=>⟨rfl,.inl ⟨rfl,by unfold j0;rw[hd];dsimp only;rw[if_pos e]⟩⟩) fun e=>⟨rfl,.inr ⟨slot,d,b,rfl,hb,hd,by unfold j0;rw[hd];dsimp only;rw[if_neg (by rw[e];decide)]⟩⟩⟩
 rintro o h5 ⟨rfl,ho⟩
 refine⟨some v,(H2c.box 2 rfl).cell0 rfl,?_⟩
 refine(Ka (As:=aj a1 dv [.pointer (some v)]::As) o (j0 m ds slot) ho hlive hol hS.cons hz H2c).mono ?_
 rintro _ h6 ⟨r,T,rfl,hT,R6⟩
 obtain⟨rs,hrs⟩:∃rs,rs=w8 m ds slot others:=⟨_,rfl⟩
 have hT:T.map Prod.snd=rs:=by rw[hT,hrs];rfl
 have hrsl:rs.length≤512:=by
  rw[hrs]
  refine Nat.le_trans (List.length_filter_le _ _) ?_
  rcases ho with⟨_,h⟩|⟨k,d,b,_,hb,hd,h⟩
  ·rw[h];decide
  ·rw[h]
   obtain⟨_,_,_,_,_,_,q3⟩:=sJ hd H2c
   exact ue q3
 have hmay:∀x∈rs,jO x=true:=fun x hx=>by
  rw[hrs]at hx
  have hx:=(List.mem_filter.1 hx).1
  rcases ho with⟨_,h⟩|⟨k,d,b,_,hb,hd,h⟩
  ·rw[h]at hx;cases hx
  ·rw[h]at hx
   obtain⟨_,_,_,hc⟩:=Bz hx
   exact By hc
 rw[←hrs]
 have H6:aa B h0 h6 (dX bo ⟨none,0,0⟩ 2 piv cT []::aI aR a pw mc offs da w ds::aj v bc (bF a xm yn oth pages (List.replicate 64 0) ⟨none,0,0⟩)::aj a1 dv [.pointer (some v)]::(As++[bA r (T.map Prod.fst),dL T])):=((H2c.comp R6).OK bo 2 piv cT).bW
 have H6:aa B h0 h6 (aI aR a pw mc offs da w ds::aj v bc (bF a xm yn oth pages (List.replicate 64 0) ⟨none,0,0⟩)::dX bo ⟨none,0,0⟩ 2 piv cT []::aj a1 dv [.pointer (some v)]::(As++[bA r (T.map Prod.fst),dL T])):=H6.aS 4 [1,2,0,3]
 have fr:∀{h':Heap} {X Y Z W:HP},aa B h0 h' (X::Y::Z::W::(As++[bA r (T.map Prod.fst),dL T]))→aa B h0 h' (X::Y::Z::W::bA r (T.map Prod.fst)::dL T::As):=fun{h' X Y Z W} H'=>by
  have h1:aa B h0 h' ([bA r (T.map Prod.fst),dL T]++(X::Y::Z::W::As)):=aa.front (As:=X::Y::Z::W::As) (Bs:=[bA r (T.map Prod.fst),dL T]) H'
  exact aa.aS (As:=bA r (T.map Prod.fst)::dL T::X::Y::Z::W::As) h1 6 [2,3,4,5,0,1]
 have H6:=fr H6
 have hrl:=(H6.own 4 rfl).len
 rw[List.length_map]at hrl
 have hTl:T.length=rs.length:=by rw[←hT,List.length_map]
 refine⟨r,rfl,?_⟩
 refine aB (fun t:Nat×List Int×List (Int×List UInt8)×Sl=>(t.1:Int))
  (fun t h'=>t.1≤rs.length∧nV m ds pages others rs (List.replicate 64 0) []=nV m ds pages others (rs.drop t.1) t.2.1 t.2.2.1∧t.2.1.length=64∧(∀x∈t.2.1,0≤x∧x≤t.1)∧t.2.2.1.length≤t.1∧(∀y∈t.2.2.1,y.1∈others∧y.2.length≤64)∧
   aa B h0 h' (aI aR a pw mc offs da w ds::aj v bc (bF a xm yn oth pages t.2.1 t.2.2.2)::dX bo t.2.2.2 2 piv cT t.2.2.1::aj a1 dv [.pointer (some v)]::bA r (T.map Prod.fst)::dL T::As))
  (fun t=>rs.length-t.1) (0,List.replicate 64 0,[],⟨none,0,0⟩) rfl ⟨Nat.zero_le _,rfl,by simp,fun x hx=>by rw[List.eq_of_mem_replicate hx];exact⟨Int.le_refl _,Int.le_refl _⟩,Nat.le_refl _,(fun y hy=>by cases hy),H6⟩ ?_
 rintro⟨j,g,l,sl⟩ h7 ⟨hj,htk,h64,hg,hll,hly,H7⟩
 dsimp only at hj htk h64 hg hll hly H7⊢
 refine al (fun e2=>?_) fun e2=>?_
 ·have hj':j<rs.length:=by omega
  have hjT:j<T.length:=by omega
  refine(H7.seq 4 rfl fun _=>rfl).eu (g:=aV) j rfl (by rw[List.length_map];exact hjT) T[j].1 (by rw[List.getElem_map]) ?_
  refine H7.alloc ag rfl fun a17 h8 H8=>?_
  have H8:=H8.bW
  refine H8.storeAll ag 0 rfl rfl (aV T[j].1) rfl rfl rfl rfl fun h9 H9=>?_
  have H9:aa B h0 h9 (aj a17 aC (aV T[j].1)::aI aR a pw mc offs da w ds::aj v bc (bF a xm yn oth pages g sl)::dX bo sl 2 piv cT l::aj a1 dv [.pointer (some v)]::bA r (T.map Prod.fst)::dL T::As):=H9
  refine⟨some v,(H9.box 4 rfl).cell0 rfl,T[j].1,(H9.box 0 rfl).aL _ rfl,?_⟩
  have hrj:T[j].2=rs[j]:=by
   have h1:(T.map Prod.snd)[j]?=rs[j]?:=by rw[hT]
   rw[List.getElem?_map,List.getElem?_eq_getElem hjT,List.getElem?_eq_getElem hj']at h1
   injection h1
  have hmr:=(jP _).1 (hmay rs[j] (List.getElem_mem hj'))
  refine(J9 (v:=v) (xm:=xm) (yn:=yn) (oth:=oth) (others:=others) (As:=aj a1 dv [.pointer (some v)]::bA r (T.map Prod.fst)::dL T::aj a17 aC (aV T[j].1)::As) T[j].1 rs[j] hmr.2.2.1 h64 hpg (fun x hx=>by have:=hg x hx;omega) (by omega) hol
   (fun Bs h' H'=>?_) hz (H9.aS 7 [1,2,3,4,5,6,0])).mono ?_
  ·obtain⟨z1,z2⟩:=hS.cons.cons.cons.cons Bs h' H'
   refine⟨z1,z2,?_⟩
   have z3:=(St.cQ (B:=B) (h0:=h0) (As:=aj a1 dv [.pointer (some v)]::bA r (T.map Prod.fst)::dL T::aj a17 aC (aV T[j].1)::As) (A:=dL T) (Q:=fun h=>ly cF h T[j].1 T[j].2) 2 rfl fun h' hq=>hq T[j] (List.getElem_mem hjT)) Bs h' H'
   rw[hrj]at z3
   exact z3
  ·rintro _ h10 ⟨Q0,Q1⟩
   have hstep:nV m ds pages others (rs.drop j) g l=match ke m ds pages others g rs[j]with
     |none=>none
     |some k=>nV m ds pages others (rs.drop (j+1)) (g.set k.toNat (g.getD k.toNat 0+1)) (l++[(k,dV rs[j])]):=by
    rw[List.drop_eq_getElem_cons hj'];rfl
   cases hf:ke m ds pages others g rs[j]with
   |none=>
    obtain⟨rfl,H10⟩:=Q0 hf
    rw[hf]at hstep
    refine⟨false,rfl,aX (fun _=>?_) fun e=>by cases e⟩
    exact⟨fun _=>⟨rfl,_,H10.aS 7 [0,1]⟩,fun gl hh=>by rw[htk,hstep]at hh;cases hh⟩
   |some k=>
    obtain⟨rfl,sl',H10⟩:=Q1 k hf
    rw[hf]at hstep
    dsimp only at hstep
    obtain⟨hko,hk0,hk1⟩:=Nh hmr.2.2.1.1 (List.mem_of_find?_eq_some hf)
    refine⟨true,rfl,aX (fun e=>by cases e) fun _=>?_⟩
    refine⟨(j+1,g.set k.toNat (g.getD k.toNat 0+1),l++[(k,dV rs[j])],sl'),by dsimp only;rw[Go.Vc.wrap_small _ (by omega) (by omega)];rfl,⟨by dsimp only;omega,by dsimp only;rw[htk,hstep],by dsimp only;rw[List.length_set];exact h64,fun x hx=>?_,by dsimp only;rw[List.length_append];simp;omega,fun y hy=>?_,H10.aS 7 [0,1,2,3,4,5]⟩,by dsimp only;omega⟩
    ·dsimp only at hx⊢
     rcases List.mem_or_eq_of_mem_set hx with hx|rfl
     ·have:=hg x hx;omega
     ·have:=hg (g.getD k.toNat 0) (by rw[iE 0 (by omega)];exact List.getElem_mem _);omega
    ·dsimp only at hy
     rcases List.mem_append.1 hy with hy|hy
     ·exact hly y hy
     ·rw[List.mem_singleton.1 hy]
      exact⟨hko,by rw[yU (hmay rs[j] (List.getElem_mem hj'))];exact Nat.le_refl _⟩
 ·have e2':¬(j:Int)<(r.len:Int):=e2
  rw[List.drop_of_length_le (by omega)]at htk
  have htk:nV m ds pages others rs (List.replicate 64 0) []=some (g,l):=htk
  refine⟨fun hh=>by rw[htk]at hh;(cases hh),fun gl hh=>?_⟩
  rw[htk]at hh
  injection hh with hh
  subst hh
  exact⟨rfl,sl,H7.aS 6 [0,1,2],h64,fun x hx=>by have:=hg x hx;omega,by dsimp only;omega,hly⟩
end
end Go.Proofs.YtkciobclldnoiaaGreat
namespace Wl
open Go Go.Proofs.YtkciobclldnoiaaGreat Go.Vc
def cB (m:aF) (offs:Int) (w:Pow) (ds:aN) (slot:Int):Int×aF×Pow×aN:=
 if dT w offs then(14,m,w,ds)else if slot∉m.drives then(5,m,w,ds)else
 let others:=(bg ds m.drives).filter fun k=>!decide (k=slot)
 let n:=jx m (m.drives.filter fun k=>!decide (k=slot))
 let pages:=(bh n).length
 if others=[]∨m.seq≥2147483647 then(7,m,w,ds)else
 match me m ds pages others slot with
 |none=>(7,m,w,ds)
 |some gl=>
  let r1:=makes m (fun k=>(pages:Int)+gl.1.getD k.toNat 0) others w ds
  if r1.1≠0 then(r1.1,m,r1.2)else
  let r2:=layAll gl.2 r1.2.1 r1.2.2
  if r2.1≠0 then(r2.1,m,r2.2)else
  let r3:=dF m offs r2.2.1 r2.2.2 n
  if r3.1≠0 then r3 else(0,r3.2.1,r3.2.2.1,r3.2.2.2.set slot.toNat none)
end Wl
namespace Go.Proofs.YtkciobclldnoiaaGreat
open Go Go.Vc Go.Proofs Wl
set_option maxRecDepth 100000
theorem LS (a:Addr) (x y:bw):ar Tryz.prog (Instr.build bc #[(0,.pointer (some a)),(1,dj x),(2,dj y)]) (.agg (bF a x y ⟨none,0,0⟩ 0 (List.replicate 64 0) ⟨none,0,0⟩).toArray):=
 pc ag (i:=_) rfl rfl rfl (vs:=[(0,.pointer (some a)),(1,dj x),(2,dj y)]) (cells:=(bF a x y ⟨none,0,0⟩ 0 (List.replicate 64 0) ⟨none,0,0⟩).toArray) (by kernel_rfl)
section
variable {B:au} {h0 h:Heap} {As:List HP} {a pw v:Addr} {offs:Int} {da:List (Option Addr)} {w:Pow} {ds:aN} {mc:List Value}
theorem Ip (x:bw) (m:aF) (k n:Int) (hk:0≤k∧k<64) (hS:St B h0 As fun h=>cL h x m) (hz:bR m) (H:aa B h0 h (aI aR a pw mc offs da w ds::As)):
  ab Tryz.prog pF #[.pointer (ij da k),dj x,.int .i64 n] h fun u h'=>u=.int .i64 (cJ m w ds k n).1∧aa B h0 h' (aI aR a pw mc offs da (cJ m w ds k n).2.1 (cJ m w ds k n).2.2::As):=by
 obtain⟨ok,hb⟩:=aa.cb H
 obtain⟨j,rfl⟩:∃j:Nat,k=j:=⟨k.toNat,by omega⟩
 rcases jd ok (j:Int)with⟨e1,e2⟩|⟨n',d,b,e0,e1,e2,e3,e4,e5⟩
 ·rw[e2]
  have es:cJ m w ds j n=(5,w,ds):=by unfold cJ;rw[e1]
  refine(wQ x _ h).mono ?_
  rintro _ h3 ⟨rfl,R3⟩
  rw[es]
  exact⟨rfl,H.up R3.ah⟩
 ·rw[e5]
  have en:j=n':=by omega
  subst en
  obtain⟨b',hb',H5⟩:=Go.Vc.aa.gX H e2
  rw[e4]at hb'
  injection hb' with hb'
  injection hb' with hb'
  subst hb'
  have es:cJ m w ds j n=((eG m w d n).1,(eG m w d n).2.1,ds.set j (some (eG m w d n).2.2)):=by unfold cJ;rw[e3];simp only[fC,Int.toNat_natCast]
  refine(Dt x m n (fun Bs h' hh=>hS (Bs++[_]) h' (by rw[List.append_assoc];exact hh)) hz H5).mono ?_
  rintro _ h3 ⟨rfl,H6⟩
  rw[es]
  exact⟨rfl,Go.Vc.aa.pR (k:=aR) (n:=j) e4 H6⟩
theorem LU {a:Addr} {x y:bw} {oth:Sl} {pages:Int} {g:List Int} {sl:Sl} (o2:Sl):(bF a x y oth pages g sl).set 17 (.slice o2.ptr o2.len o2.cap)=bF a x y o2 pages g sl:=rfl
theorem Ni {a:Addr} {x y:bw} {oth:Sl} {pages:Int} {g:List Int} {sl:Sl} (p2:Int):(bF a x y oth pages g sl).set 18 (.int .i64 p2)=bF a x y oth p2 g sl:=rfl
theorem LV {a:Addr} {x y:bw} {oth:Sl} {pages:Int} {g:List Int} {sl:Sl} (s2:Int):(bF a x y oth pages g sl).set 9 (.int .i64 s2)=bF a x (s2,y.2) oth pages g sl:=rfl
theorem Nj {a:Addr} {x y:bw} {oth:Sl} {pages:Int} {g:List Int} {sl:Sl} (d2:Sl):(bF a x y oth pages g sl).set 15 (.slice d2.ptr d2.len d2.cap)=bF a x (y.1,y.2.1,y.2.2.1,y.2.2.2.1,y.2.2.2.2.1,y.2.2.2.2.2.1,d2,y.2.2.2.2.2.2.2) oth pages g sl:=rfl
theorem LW (n slot:Int) (a1:Addr) (h:Heap) (hb:bK h a1 aA [.int .i64 slot]):ab Tryz.prog bI #[.int .i64 n,.pointer (some a1)] h fun u h'=>u=.bool (n !=slot)∧Sp h h' []:=by
 refine vU n a1 ?_
 unfold pC
 exact⟨slot,hb.cell0 rfl,rfl,Sp.refl h⟩
theorem Pv (n slot:Int):(!(n !=slot))=decide (n=slot):=by
 by_cases h:n=slot
 ·subst h;simp
 ·simp[h]
theorem Iq (slot:Int) (x:bw) (m:aF) (hm:bO m=true) (H:aa B h0 h (aI aR a pw (aD x) offs da w ds::bC x m::As)):
  ab Tryz.prog qC #[.pointer (some a),.int .i64 slot] h fun v h'=>v=.int .i64 (cB m offs w ds slot).1∧
   ∃y da',aa B h0 h' (aI aR a pw (aD y) offs da' (cB m offs w ds slot).2.2.1 (cB m offs w ds slot).2.2.2::bC y (cB m offs w ds slot).2.1::As):=by
 refine y7 (some a) slot ?_
 unfold rP
 have hz:=mT hm
 have hd64:=kU hm
 have hdin:=kB hm
 obtain⟨g1,g2,g3,g4⟩:=(gV m).1 ((eK m).1 hm).1
 refine H.boxed fun a1 h1 H1=>?_
 have H1:aa B h0 h1 (aI aR a pw (aD x) offs da w ds::bC x m::aj a1 aA [.int .i64 slot]::As):=(H1.bW).aS 3 [1,2,0]
 refine(qR H1).mono ?_
 rintro _ h2 ⟨rfl,rfl⟩
 refine⟨_,rfl,bu (fun e=>?_) fun e1=>?_⟩
 ·have ep:cB m offs w ds slot=(14,m,w,ds):=by unfold cB;rw[if_pos e]
  rw[ep];exact⟨rfl,x,da,H1.aS 3 [0,1]⟩
 refine(mQ x m (H1.at 1 rfl) hz H1).mono ?_
 rintro _ h3 ⟨y,rfl,R3⟩
 have H3:=H1.ck R3
 refine⟨y,rfl,H3.alloc ag rfl fun a4 h4 H4=>?_⟩
 have H4:=H4.bW
 refine H4.storeAll ag 0 rfl rfl (aD y) rfl rfl rfl rfl fun h5 H5=>?_
 have H5:aa B h0 h5 (aI aR a pw (aD x) offs da w ds::bC x m::aj a4 ao (aD y)::bC y m::aj a1 aA [.int .i64 slot]::As):=H5.aS 5 [2,3,0,1,4]
 have hy5:cL h5 y m:=H5.at 3 rfl
 refine⟨y.2.2.2.2.2.2.1,(H5.box 2 rfl).cell rfl,slot,(H5.box 4 rfl).cell0 rfl,(kd _ m.drives slot h5 hy5.drives (by omega)).mono ?_⟩
 rintro _ h6 ⟨rfl,rfl⟩
 refine⟨_,rfl,aX (fun e2=>?_) fun e2=>?_⟩
 ·have ep:cB m offs w ds slot=(5,m,w,ds):=by unfold cB;rw[if_neg (by rw[e1];decide),if_pos (of_decide_eq_false e2)]
  rw[ep];exact⟨rfl,x,da,H5.aS 5 [0,1]⟩
 have hslot:slot∈m.drives:=of_decide_eq_true e2
 refine H5.alloc ag rfl fun a8 h7 H7=>?_
 have H7:=H7.bW
 refine H7.storeAll ag 0 rfl rfl [.func (.func bI) #[] #[.pointer (some a1)]] rfl rfl rfl rfl fun h8 H8=>?_
 have H8:aa B h0 h8 (aI aR a pw (aD x) offs da w ds::bC x m::aj a8 cH [.func (.func bI) #[] #[.pointer (some a1)]]::aj a1 aA [.int .i64 slot]::aj a4 ao (aD y)::bC y m::As):=H8.aS 6 [1,2,0,5,3,4]
 refine aU ⟨y,(H8.box 4 rfl).aL _ rfl,(BG x m (H8.at 1 rfl) hz H8).mono ?_⟩
 rintro _ h9 ⟨y2,L,pool,rfl,hf,hmo,hL,R9⟩
 have H9:=(H8.comp R9).front
 have hbm:bK h9 a4 ao (aD y):=(H8.up R9.ah).box 4 rfl
 have heldM:∀{h':Heap},bK h' a4 ao (aD y)→ak.ok [(a4,.int .i64 y.1),(a4.add 1,.int .i64 y.2.1),(a4.add 2,.int .i64 y.2.2.1),(a4.add 3,.int .i64 y.2.2.2.1),(a4.add 4,.int .i64 y.2.2.2.2.1),(a4.add 5,.int .i64 y.2.2.2.2.2.1),(a4.add 6,.slice y.2.2.2.2.2.2.1.ptr y.2.2.2.2.2.2.1.len y.2.2.2.2.2.2.1.cap),(a4.add 7,.slice y.2.2.2.2.2.2.2.ptr y.2.2.2.2.2.2.2.len y.2.2.2.2.2.2.2.cap)] h':=fun{h'} hb=>⟨hb.cell0 rfl,hb.cell rfl,hb.cell rfl,hb.cell rfl,hb.cell rfl,hb.cell rfl,hb.cell rfl,hb.cell rfl,trivial⟩
 refine⟨y2,rfl,heldM hbm,_,LS a y y2,H9.boxed fun a12 h10 H10=>⟨heldM ?_,?_⟩⟩
 ·exact(show aa B h0 h10 _ from H10).box 7 rfl
 have H10:aa B h0 h10 (aj a12 bc (bF a y y2 ⟨none,0,0⟩ 0 (List.replicate 64 0) ⟨none,0,0⟩)::dd 1 av pool::an aA y2.2.2.2.2.2.2.1 1 av m.drives::an aQ y2.2.2.2.2.2.2.2 4 bE (L.map Prod.fst)::aI aR a pw (aD x) offs da w ds::bC x m::aj a8 cH [.func (.func bI) #[] #[.pointer (some a1)]]::aj a1 aA [.int .i64 slot]::aj a4 ao (aD y)::bC y m::As):=H10.bW
 have H10:aa B h0 h10 (aI aR a pw (aD x) offs da w ds::bC x m::aj a8 cH [.func (.func bI) #[] #[.pointer (some a1)]]::aj a1 aA [.int .i64 slot]::aj a12 bc (bF a y y2 ⟨none,0,0⟩ 0 (List.replicate 64 0) ⟨none,0,0⟩)::an aA y2.2.2.2.2.2.2.1 1 av m.drives::dd 1 av pool::an aQ y2.2.2.2.2.2.2.2 4 bE (L.map Prod.fst)::aj a4 ao (aD y)::bC y m::As):=H10.aS 10 [4,5,6,7,0,2,1,3,8,9]
 refine(dS x m (H10.at 1 rfl) hz H10).mono ?_
 rintro _ h12 ⟨lv,rfl,R12⟩
 have H12:=H10.ck R12
 have hll:(bg ds m.drives).length≤m.drives.length:=List.length_filter_le _ _
 have hcl:∀(fid:FuncId) (hfid:fid=oq∨fid=ot) (n:Int) (h':Heap),(bK h' a8 cH [.func (.func bI) #[] #[.pointer (some a1)]]∧bK h' a1 aA [.int .i64 slot])→ab Tryz.prog fid ([Value.int .i64 n]++(#[Value.pointer (some a8)]:Array Value).toList).toArray h' fun v h''=>v=.bool (decide (n=slot))∧Sp h' h'' []:=fun fid hfid n h' hb=>by
  obtain⟨hb1,hb2⟩:=hb
  have core:∃x1:FuncId×Array Value×Array Value,cellOf h' a8=some (.func (.func x1.1) x1.2.1 x1.2.2)∧fI C x1.1 (x1.2.1.toList++[(.int .i64 n)]++x1.2.2.toList) (.one (.sc .bool)) h' fun r2 h1=>(Value.bool (!r2)=.bool (decide (n=slot))∧Sp h' h1 []):=by
   refine⟨(bI,#[],#[.pointer (some a1)]),hb1.cell0 rfl,dU (by rfl) ((LW n slot a1 h' hb2).mono ?_)⟩
   rintro _ h'' ⟨rfl,R⟩
   exact⟨_,rfl,by rw[Pv],R⟩
  rcases hfid with rfl|rfl
  ·refine vV n a8 ?_
   unfold pD
   exact core
  ·refine vW n a8 ?_
   unfold pE
   exact core
 refine⟨lv,rfl,(w7 lv (bg ds m.drives) oq #[.pointer (some a8)] (fun n=>decide (n=slot)) (fun h'=>bK h' a8 cH [.func (.func bI) #[] #[.pointer (some a1)]]∧bK h' a1 aA [.int .i64 slot]) (by rfl)
  ((St.cQ (A:=aj a8 cH [.func (.func bI) #[] #[.pointer (some a1)]]) 2 rfl fun h' hq=>hq.1).and (St.cQ (A:=aj a1 aA [.int .i64 slot]) 3 rfl fun h' hq=>hq.1)) (fun n h' hb=>hcl _ (.inl rfl) n h' hb) H12 (by omega)).mono ?_⟩
 rintro _ h13 ⟨r15,rfl,H13⟩
 obtain⟨others,hoth⟩:∃others,others=(bg ds m.drives).filter fun k=>!decide (k=slot):=⟨_,rfl⟩
 rw[←hoth]at H13
 have hol:others.length≤64:=by rw[hoth];exact Nat.le_trans (List.length_filter_le _ _) (by omega)
 have hoin:∀k∈others,0≤k∧k<64:=fun k hk=>by rw[hoth]at hk;exact hdin k (qe (List.mem_filter.1 hk).1).1
 have holive:∀k∈others,∃d,bD ds k=some d∧d.lost=false:=fun k hk=>by rw[hoth]at hk;exact(qe (List.mem_filter.1 hk).1).2
 refine⟨r15,rfl,a12,rfl,?_⟩
 refine H13.storeAt ag 5 rfl rfl rfl rfl rfl (by rw[lr (by simp)];omega) fun h14 H14=>?_
 rw[LU r15]at H14
 have H14:aa B h0 h14 (an aA r15 1 av others::aI aR a pw (aD x) offs da w ds::bC x m::aj a8 cH [.func (.func bI) #[] #[.pointer (some a1)]]::aj a1 aA [.int .i64 slot]::aj a12 bc (bF a y y2 r15 0 (List.replicate 64 0) ⟨none,0,0⟩)::an aA y2.2.2.2.2.2.2.1 1 av m.drives::dd 1 av pool::an aQ y2.2.2.2.2.2.2.2 4 bE (L.map Prod.fst)::aj a4 ao (aD y)::bC y m::As):=H14
 have hr15:=(H14.own 0 rfl).len
 have seven:∀{h':Heap} {w':Pow} {ds':aN} {Ds:List HP},aa B h0 h' (aI aR a pw (aD x) offs da w ds::bC x m::As)→cB m offs w ds slot=(7,m,w,ds)→(Value.int .i64 7=.int .i64 (cB m offs w ds slot).1∧∃y da',aa B h0 h' (aI aR a pw (aD y) offs da' (cB m offs w ds slot).2.2.1 (cB m offs w ds slot).2.2.2::bC y (cB m offs w ds slot).2.1::As)):=fun{h' w' ds' Ds} H' ep=>by
  rw[ep];exact⟨rfl,x,da,H'⟩
 have e7:(others=[]∨m.seq≥2147483647)→cB m offs w ds slot=(7,m,w,ds):=fun hc=>by
  unfold cB
  rw[if_neg (by rw[e1];decide),if_neg (fun hh=>hh hslot)]
  dsimp only
  rw[←hoth,if_pos hc]
 refine aU ⟨a12,rfl,r15,(H14.box 5 rfl).cell rfl,cY (fun e=>?_) fun e3=>⟨y.1,(H14.box 9 rfl).cell0 rfl,al (fun e=>?_) fun e4=>?_⟩⟩
 ·exact seven (w':=w) (ds':=ds) (Ds:=[]) (H14.aS 11 [1,2]) (e7 (.inl (List.length_eq_zero_iff.1 (by omega))))
 ·rw[hy5.seq]at e
  exact seven (w':=w) (ds':=ds) (Ds:=[]) (H14.aS 11 [1,2]) (e7 (.inr e))
 rw[hy5.seq]at e4
 have hone:others≠[]:=fun h=>e3 (by rw[hr15,h];rfl)
 refine⟨a12,rfl,y2.1,(H14.box 5 rfl).cell rfl,a12,rfl,?_⟩
 rw[hf.1,Go.Vc.wrap_small (m.seq+1) (by omega) (by omega)]
 refine H14.storeAt ag 5 rfl rfl rfl rfl rfl (by rw[lr (by simp)];omega) fun h16 H16=>?_
 rw[LV (m.seq+1)]at H16
 have H16:aa B h0 h16 (an aA y2.2.2.2.2.2.2.1 1 av m.drives::an aA r15 1 av others::aI aR a pw (aD x) offs da w ds::bC x m::aj a8 cH [.func (.func bI) #[] #[.pointer (some a1)]]::aj a1 aA [.int .i64 slot]::aj a12 bc (bF a y (m.seq+1,y2.2) r15 0 (List.replicate 64 0) ⟨none,0,0⟩)::dd 1 av pool::an aQ y2.2.2.2.2.2.2.2 4 bE (L.map Prod.fst)::aj a4 ao (aD y)::bC y m::As):=H16.aS 11 [6,0,1,2,3,4,5,7,8,9,10]
 refine⟨a12,rfl,y2.2.2.2.2.2.2.1,by rw[addr_add];exact(H16.box 6 rfl).cell rfl,?_⟩
 refine(w7 y2.2.2.2.2.2.2.1 m.drives ot #[.pointer (some a8)] (fun n=>decide (n=slot)) (fun h'=>bK h' a8 cH [.func (.func bI) #[] #[.pointer (some a1)]]∧bK h' a1 aA [.int .i64 slot]) (by rfl)
  ((St.cQ (A:=aj a8 cH [.func (.func bI) #[] #[.pointer (some a1)]]) 3 rfl fun h' hq=>hq.1).and (St.cQ (A:=aj a1 aA [.int .i64 slot]) 4 rfl fun h' hq=>hq.1)) (fun n h' hb=>hcl _ (.inr rfl) n h' hb) H16 (by omega)).mono ?_
 rintro _ h17 ⟨r26,rfl,H17⟩
 obtain⟨dr,hdr⟩:∃dr,dr=m.drives.filter fun k=>!decide (k=slot):=⟨_,rfl⟩
 rw[←hdr]at H17
 refine⟨r26,rfl,a12,rfl,?_⟩
 rw[addr_add]
 refine H17.storeAt ag 6 rfl rfl rfl rfl rfl (by rw[lr (by simp)];omega) fun h18 H18=>?_
 rw[show 9+6=15 from rfl,Nj r26]at H18
 obtain⟨y4,hy4⟩:∃y4:bw,y4=(m.seq+1,y2.2.1,y2.2.2.1,y2.2.2.2.1,y2.2.2.2.2.1,y2.2.2.2.2.2.1,r26,y2.2.2.2.2.2.2.2):=⟨_,rfl⟩
 have ed:y4.2.2.2.2.2.2.1=r26:=by rw[hy4]
 have eo:y4.2.2.2.2.2.2.2=y2.2.2.2.2.2.2.2:=by rw[hy4]
 obtain⟨N,hN⟩:∃N,N=jx m dr:=⟨_,rfl⟩
 have H18:aa B h0 h18 (an aA y4.2.2.2.2.2.2.1 1 av N.drives::an aA r15 1 av others::aI aR a pw (aD x) offs da w ds::bC x m::aj a8 cH [.func (.func bI) #[] #[.pointer (some a1)]]::aj a1 aA [.int .i64 slot]::aj a12 bc (bF a y y4 r15 0 (List.replicate 64 0) ⟨none,0,0⟩)::dd 1 av pool::an aQ y4.2.2.2.2.2.2.2 4 bE (L.map Prod.fst)::aj a4 ao (aD y)::bC y m::As):=by rw[ed,eo,hN,hy4];exact H18
 have H18:aa B h0 h18 (bC y4 N::an aA r15 1 av others::aI aR a pw (aD x) offs da w ds::bC x m::aj a8 cH [.func (.func bI) #[] #[.pointer (some a1)]]::aj a1 aA [.int .i64 slot]::aj a12 bc (bF a y y4 r15 0 (List.replicate 64 0) ⟨none,0,0⟩)::aj a4 ao (aD y)::bC y m::As):=
  aa.zr (m:=N) (L:=L) (pool:=pool) (by rw[hN,hy4];exact⟨rfl,hf.2.1,hf.2.2.1,hf.2.2.2⟩) (by rw[hN];exact hmo) hL (H18.aS 11 [7,0,8,1,2,3,4,5,6,9,10])
 have hNz:bR N:=by rw[hN];exact⟨by show dr.length≤_;rw[hdr];exact Nat.le_trans (List.length_filter_le _ _) (by omega),hz.ob,hz.nm⟩
 refine⟨a12,rfl,y4,(H18.box 6 rfl).cells 9 _ rfl,(ka y4 N h18 (H18.at 0 rfl) hNz).mono ?_⟩
 rintro _ h19 ⟨pg,rfl,R19⟩
 have hpgl:=(aa.sV R19).1
 have hspl:=gY N hNz
 obtain⟨pn,hpn⟩:∃pn,pn=(bh N).length:=⟨_,rfl⟩
 rw[←hpn]at hpgl hspl
 have H19:=H18.up R19.ah
 refine⟨pg,rfl,a12,rfl,?_⟩
 refine H19.storeAt ag 6 rfl rfl rfl rfl rfl (by rw[lr (by simp)];omega) fun h20 H20=>?_
 rw[Ni (pg.len:Int),hpgl]at H20
 have H20:aa B h0 h20 (aI aR a pw (aD x) offs da w ds::aj a12 bc (bF a y y4 r15 pn (List.replicate 64 0) ⟨none,0,0⟩)::an aA r15 1 av others::bC y4 N::aj a1 aA [.int .i64 slot]::aj a4 ao (aD y)::bC y m::bC x m::As):=H20.aS 9 [2,6,1,0,5,7,8,3]
 obtain⟨T,hT⟩:∃T,T=an aA r15 1 av others::bC y4 N::aj a1 aA [.int .i64 slot]::aj a4 ao (aD y)::bC y m::bC x m::As:=⟨_,rfl⟩
 have tL:St B h0 T fun h=>Rd h r15 1 av others:=by rw[hT];exact St.cQ (A:=an aA r15 1 av others) 0 rfl fun _ hq=>hq.1.seq (fun _=>rfl) hq.2
 have tN:St B h0 T fun h=>cL h y4 N:=by rw[hT];exact St.cQ 1 rfl fun _ hq=>hq
 have tS:St B h0 T fun h=>bK h a1 aA [.int .i64 slot]:=by rw[hT];exact St.cQ (A:=aj a1 aA [.int .i64 slot]) 2 rfl fun _ hq=>hq.1
 have tB:St B h0 T fun h=>bK h a4 ao (aD y):=by rw[hT];exact St.cQ (A:=aj a4 ao (aD y)) 3 rfl fun _ hq=>hq.1
 have tY:St B h0 T fun h=>cL h y m:=by rw[hT];exact St.cQ 4 rfl fun _ hq=>hq
 have fin:∀{h':Heap} {w':Pow} {ds':aN} {da':List (Option Addr)} {X:HP},aa B h0 h' (aI aR a pw (aD x) offs da' w' ds'::X::T)→aa B h0 h' (aI aR a pw (aD x) offs da' w' ds'::bC x m::As):=fun{h' w' ds' da' X} H'=>by
  rw[hT]at H'
  exact H'.aS 8 [0,7]
 rw[←hT]at H20
 refine⟨slot,(tS.at [_,_] H20).cell0 rfl,?_⟩
 have epl:cB m offs w ds slot=match me m ds pn others slot with
   |none=>(7,m,w,ds)
   |some gl=>
    if(makes m (fun k=>(pn:Int)+gl.1.getD k.toNat 0) others w ds).1≠0 then((makes m (fun k=>(pn:Int)+gl.1.getD k.toNat 0) others w ds).1,m,(makes m (fun k=>(pn:Int)+gl.1.getD k.toNat 0) others w ds).2)else
    if(layAll gl.2 (makes m (fun k=>(pn:Int)+gl.1.getD k.toNat 0) others w ds).2.1 (makes m (fun k=>(pn:Int)+gl.1.getD k.toNat 0) others w ds).2.2).1≠0 then((layAll gl.2 (makes m (fun k=>(pn:Int)+gl.1.getD k.toNat 0) others w ds).2.1 (makes m (fun k=>(pn:Int)+gl.1.getD k.toNat 0) others w ds).2.2).1,m,(layAll gl.2 (makes m (fun k=>(pn:Int)+gl.1.getD k.toNat 0) others w ds).2.1 (makes m (fun k=>(pn:Int)+gl.1.getD k.toNat 0) others w ds).2.2).2)else
    let r3:=dF m offs (layAll gl.2 (makes m (fun k=>(pn:Int)+gl.1.getD k.toNat 0) others w ds).2.1 (makes m (fun k=>(pn:Int)+gl.1.getD k.toNat 0) others w ds).2.2).2.1 (layAll gl.2 (makes m (fun k=>(pn:Int)+gl.1.getD k.toNat 0) others w ds).2.1 (makes m (fun k=>(pn:Int)+gl.1.getD k.toNat 0) others w ds).2.2).2.2 N
    if r3.1≠0 then r3 else(0,r3.2.1,r3.2.2.1,r3.2.2.2.set slot.toNat none):=by
  unfold cB
  rw[if_neg (by rw[e1];decide),if_neg (fun hh=>hh hslot)]
  dsimp only
  rw[←hoth,←hdr,←hN,←hpn,if_neg (by rintro(h|h);exact hone h;exact e4 h)]
 rw[epl]
 refine(LR (v:=a12) (xm:=y) (yn:=y4) (oth:=r15) (others:=others) slot (by omega) hoin holive hol (tY.and tL) hz H20).mono ?_
 rintro _ h21 ⟨Q0,Q1⟩
 cases hpl:me m ds pn others slot with
 |none=>
  obtain⟨rfl,mv,H21⟩:=Q0 hpl
  exact⟨false,rfl,aX (fun _=>⟨rfl,x,da,fin H21⟩) fun e=>by cases e⟩
 |some gl=>
  obtain⟨rfl,sl',H21,h64,hgl,hll2,hly⟩:=Q1 gl hpl
  refine⟨true,rfl,aX (fun e=>by cases e) fun _=>?_⟩
  dsimp only
  obtain⟨NN,hNN⟩:∃NN:Int→Int,NN=fun k=>(pn:Int)+gl.1.getD k.toNat 0:=⟨_,rfl⟩
  rw[←hNN]
  obtain⟨Z,hZ⟩:∃Z,Z=makes m NN others w ds:=⟨_,rfl⟩
  rw[←hZ]
  refine⟨a12,rfl,r15,(H21.box 1 rfl).cell rfl,?_⟩
  refine aB (fun t:Nat×Pow×aN=>(t.1:Int)) (fun t h'=>t.1≤others.length∧Z=makes m NN (others.drop t.1) t.2.1 t.2.2∧aa B h0 h' (aI aR a pw (aD x) offs da t.2.1 t.2.2::aj a12 bc (bF a y y4 r15 pn gl.1 sl')::dX bo sl' 2 piv cT gl.2::T)) (fun t=>others.length-t.1) (0,w,ds) rfl ⟨Nat.zero_le _,hZ,H21⟩ ?_
  rintro⟨i,w1,ds1⟩ h22 ⟨hi,hmk,H22⟩
  dsimp only at hi hmk H22⊢
  have hb22:=H22.box 1 rfl
  refine al (fun e=>?_) fun e=>?_
  ·have hi':i<others.length:=by omega
   rw[Bi _ _ _ _ _ _ hi']at hmk
   refine(tL.at [_,_,_] H22).cr i rfl hi' others[i] rfl ?_
   obtain⟨k,hk⟩:∃k,k=others[i]:=⟨_,rfl⟩
   have hk64:=hoin others[i] (List.getElem_mem hi')
   rw[←hk]at hmk hk64⊢
   have hkn:k.toNat<64:=by omega
   have hgk:∀{h':Heap},bK h' a12 bc (bF a y y4 r15 pn gl.1 sl')→cellOf h' ((a12.add 19).add (k.toNat*1))=some (DD (gl.1.getD k.toNat 0)):=fun{h'} hb=>by
    rw[addr_add,Nat.mul_one];exact hb.cell (CM h64 hkn)
   have hgb:0≤gl.1.getD k.toNat 0∧gl.1.getD k.toNat 0≤512:=by rw[iE 0 (by omega)];exact hgl _ (List.getElem_mem _)
   have hb4:=tB.at [_,_,_] H22
   refine aU ⟨y,hb4.aL _ rfl,a12,rfl,(pn:Int),hb22.cell rfl,a12,rfl,⟨hk64.1,hk64.2⟩,gl.1.getD k.toNat 0,hgk hb22,(mb H22).mono ?_⟩
   rintro _ h23 ⟨rfl,rfl⟩
   obtain⟨c1,c2,c3,c4,c5,c6,c7,c8,_⟩:=heldM hb4
   refine⟨_,rfl,⟨hgk hb22,hb22.cell rfl,c1,c2,c3,c4,c5,c6,c7,c8,trivial⟩,?_⟩
   rw[Go.Vc.wrap_small ((pn:Int)+gl.1.getD k.toNat 0) (by omega) (by omega)]
   refine(Ip y m k ((pn:Int)+gl.1.getD k.toNat 0) hk64 (As:=aj a12 bc (bF a y y4 r15 pn gl.1 sl')::dX bo sl' 2 piv cT gl.2::T) tY.cons.cons hz H22).mono ?_
   have hNk:NN k=(pn:Int)+gl.1.getD k.toNat 0:=by rw[hNN]
   rw[←hNk]
   obtain⟨res,hres⟩:∃res,res=cJ m w1 ds1 k (NN k):=⟨_,rfl⟩
   rw[←hres]at hmk⊢
   rintro _ h24 ⟨rfl,H24⟩
   refine⟨res.1,rfl,⟨hgk (H24.box 1 rfl),(H24.box 1 rfl).cell rfl,trivial⟩,bP (fun e5=>?_) fun e5=>?_⟩
   ·rw[if_neg e5]at hmk
    rw[hmk,if_pos e5]
    exact⟨rfl,x,da,fin (H24.aS 3 [0,1])⟩
   ·rw[if_pos e5]at hmk
    exact⟨(i+1,res.2.1,res.2.2),by dsimp only;rw[Go.Vc.wrap_small _ (by omega) (by omega)];rfl,⟨by dsimp only;omega,hmk,H24⟩,by dsimp only;omega⟩
  ·have hil:others.drop i=[]:=List.drop_of_length_le (by omega)
   rw[hil]at hmk
   have hmk:Z=(0,w1,ds1):=hmk
   rw[hmk]
   rw[if_neg (by simp)]
   dsimp only
   refine⟨a12,rfl,sl',hb22.cell (xC h64),?_⟩
   obtain⟨ys,H25⟩:=H22.OL 2 rfl fun _=>rfl
   have H25:aa B h0 h22 (aI aR a pw (aD x) offs da w1 ds1::aj a12 bc (bF a y y4 r15 pn gl.1 sl')::cG cT 2 piv sl' ys gl.2::T):=H25
   refine(qM sl' ys gl.2 (As:=aj a12 bc (bF a y y4 r15 pn gl.1 sl')::cG cT 2 piv sl' ys gl.2::T) (St.cQ 1 rfl fun _ hq=>hq) (by omega) (fun z hz'=>⟨hoin _ (hly z hz').1,by have:=(hly z hz').2;omega⟩) H25).mono ?_
   rintro _ h26 ⟨rfl,H26⟩
   obtain⟨r2,hr2⟩:∃r2,r2=layAll gl.2 w1 ds1:=⟨_,rfl⟩
   rw[←hr2]at H26⊢
   refine⟨_,rfl,bP (fun e5=>?_) fun e5=>?_⟩
   ·rw[if_pos e5]
    exact⟨rfl,x,da,fin (H26.aS 3 [0,1])⟩
   rw[if_neg (by simpa using e5)]
   refine⟨a12,rfl,y4,(H26.box 1 rfl).cells 9 _ rfl,?_⟩
   have H26:aa B h0 h26 (aI aR a pw (aD x) offs da r2.2.1 r2.2.2::bC x m::aj a1 aA [.int .i64 slot]::bC y4 N::As):=by
    rw[hT]at H26
    exact H26.aS 9 [0,8,5,4]
   refine(Ih x m y4 N (As:=aj a1 aA [.int .i64 slot]::bC y4 N::As) (St.cQ 1 rfl fun _ hq=>hq) hz hNz (by omega) H26).mono ?_
   rintro _ h27 ⟨rfl,y5,H27⟩
   obtain⟨r3,hr3⟩:∃r3,r3=dF m offs r2.2.1 r2.2.2 N:=⟨_,rfl⟩
   rw[←hr3]at H27⊢
   refine⟨_,rfl,bP (fun e6=>?_) fun e6=>?_⟩
   ·rw[if_pos e6]
    exact⟨rfl,y5,da,H27.aS 4 [0,1]⟩
   rw[if_neg (by simpa using e6)]
   refine⟨slot,(H27.box 2 rfl).cell0 rfl,?_⟩
   have hs64:=hdin slot hslot
   obtain⟨sn,hsn⟩:∃sn:Nat,slot=sn:=⟨slot.toNat,by omega⟩
   subst hsn
   refine(GK sn (by omega) y5 (H27.aS 4 [0,1])).mono ?_
   rintro _ h28 ⟨rfl,H28⟩
   exact⟨(),rfl,rfl,y5,_,H28⟩
end
end Go.Proofs.YtkciobclldnoiaaGreat
namespace Wl
open Go Go.Proofs.YtkciobclldnoiaaGreat Go.Vc
def mf (m:aF) (offs:Int) (w:Pow) (ds:aN) (slot:Int):Int×aN:=
 if dT w offs then(14,ds)else if slot∉bg ds m.drives then(5,ds)else
 match bD ds slot with
 |some d=>(0,fC ds slot d.q6)
 |none=>(5,ds)
end Wl
namespace Go.Proofs.YtkciobclldnoiaaGreat
open Go Go.Vc Go.Proofs Wl
set_option maxRecDepth 100000
section
variable {B:au} {h0 h:Heap} {As:List HP} {a pw:Addr} {offs:Int} {da:List (Option Addr)} {w:Pow} {ds:aN} {m:aF}
theorem oN (slot:Int) (hm:bO m=true) (H:aa B h0 h (gN a pw da offs w ds m::As)):
  ab Tryz.prog qC #[.pointer (some a),.int .i64 slot] h fun v h'=>v=.int .i64 (cB m offs w ds slot).1∧
   ∃da',aa B h0 h' (gN a pw da' offs (cB m offs w ds slot).2.2.1 (cB m offs w ds slot).2.2.2 (cB m offs w ds slot).2.1::As):=by
 obtain⟨x,H⟩:=lq H
 refine(Iq slot x m hm H).mono ?_
 rintro _ h' ⟨rfl,y,da',H'⟩
 exact⟨rfl,da',mU H'⟩
theorem Nk (slot:Int) (hm:bO m=true) (H:aa B h0 h (gN a pw da offs w ds m::As)):
  ab Tryz.prog oa #[.pointer (some a),.int .i64 slot] h fun v h'=>v=.int .i64 (mf m offs w ds slot).1∧aa B h0 h' (gN a pw da offs w (mf m offs w ds slot).2 m::As):=by
 obtain⟨x,H⟩:=lq H
 by_cases hc:dT w offs=true∨slot∉bg ds m.drives
 ·refine(w4 slot x m (H.at 1 rfl) (mT hm) H hc).mono ?_
  rintro _ h' ⟨rfl,R⟩
  by_cases hd:dT w offs=true
  ·have e:mf m offs w ds slot=(14,ds):=by unfold mf;rw[if_pos hd]
   rw[e,if_pos hd]
   exact⟨rfl,mU (H.up R.ah)⟩
  ·have hs:slot∉bg ds m.drives:=hc.resolve_left hd
   have e:mf m offs w ds slot=(5,ds):=by unfold mf;rw[if_neg hd,if_pos hs]
   rw[e,if_neg hd]
   exact⟨rfl,mU (H.up R.ah)⟩
 ·have hd:¬dT w offs=true:=fun h=>hc (.inl h)
  have hs:¬slot∉bg ds m.drives:=fun h=>hc (.inr h)
  have hs':slot∈bg ds m.drives:=Decidable.not_not.1 hs
  obtain⟨h1,d,h2,h3⟩:=qe hs'
  obtain⟨n,rfl,hn⟩:=hF h2
  have h4:ds[n]?=some (some d):=by
   unfold bD at h2
   rw[if_pos (by omega),Int.toNat_natCast]at h2
   cases hX:ds[n]? with
   |none=>rw[hX]at h2;cases h2
   |some o=>rw[hX]at h2;exact congrArg some h2
  refine(Ik n x m (H.at 1 rfl) (mT hm) H (by simpa using hd) hs' h4).mono ?_
  rintro _ h' ⟨rfl,H'⟩
  have e:mf m offs w ds (n:Int)=(0,ds.set n (some d.q6)):=by
   unfold mf;rw[if_neg hd,if_neg hs,h2];simp only[fC,Int.toNat_natCast]
  rw[e]
  exact⟨rfl,mU H'⟩
end
end Go.Proofs.YtkciobclldnoiaaGreat
namespace Go.Proofs.YtkciobclldnoiaaGreat
open Go Go.Vc Go.Proofs Wl
theorem GP {m:aF} {offs:Int} {w:Pow} {ds:aN} {n:aF} (hw:w.calm) (h64:ds.length=64) (hd:dT w offs=false) (hn:bO n=true) (hs:n.seq=m.seq+1):
  let live:=bg ds n.drives
  let N:Int→Int:=fun _=>((bh n).length:Int)
  (live=[]∨dp m ds live N=false→dF m offs w ds n=(7,m,w,ds))∧(live≠[]→dp m ds live N=true→∃ds',dF m offs w ds n=(0,n,w,ds')∧ds'.length=64∧
   ∀k,bD ds' k=(bD ds k).map fun d=>if k∈live then fv (bh n) (gG m d (bh n).length)else d):=by
 intro live N
 have hnd:live.Nodup:=wY (Ac hn)
 have e:dF m offs w ds n=(if live=[]∨dp m ds live N=false then(7,m,w,ds)else
   if(makes m N live w ds).1≠0 then((makes m N live w ds).1,m,(makes m N live w ds).2)else
   ((layAll (bn n live) (makes m N live w ds).2.1 (makes m N live w ds).2.2).1,if(layAll (bn n live) (makes m N live w ds).2.1 (makes m N live w ds).2.2).1=0 then n else m,(layAll (bn n live) (makes m N live w ds).2.1 (makes m N live w ds).2.2).2)):=by
  unfold dF
  rw[if_neg (by rw[hd];decide),if_neg (by rw[hn,decide_eq_false (by simpa using hs)];decide)]
 refine⟨fun h=>by rw[e,if_pos h],fun hne hf=>?_⟩
 rw[e,if_neg (by rintro(h|h);exact hne h;rw[hf]at h;cases h)]
 obtain⟨d1,m1,m2,m3⟩:=uc hw (N:=N) hnd h64 hf
 rw[m1]
 dsimp only
 rw[if_neg (by simp)]
 obtain⟨d3,p1,p2,p3⟩:=BC hw (ds:=d1) (P:=bn n live) m2 fun x hx=>by
  obtain⟨hxl,hx64⟩:=il hx
  obtain⟨d',hd',hfd⟩:=rA (List.all_eq_true.1 hf x.1 hxl)
  obtain⟨r1,r2,r3⟩:=BA hfd
  refine⟨hx64,gG m d' (N x.1),?_,r1,?_⟩
  ·rw[m3,hd',Option.map_some,if_pos hxl]
  ·rw[lp hnd,if_pos hxl,r2]
   have:N x.1=((bh n).length:Int):=rfl
   omega
 rw[p1]
 refine⟨d3,rfl,p2,fun k=>?_⟩
 rw[p3,m3,Option.map_map]
 congr 1
 funext d
 show fv (iL (bn n live) k) (if k∈live then gG m d (N k)else d)=_
 rw[lp hnd]
 by_cases hk:k∈live
 ·rw[if_pos hk,if_pos hk,if_pos hk]
 ·rw[if_neg hk,if_neg hk,if_neg hk];rfl
theorem BM {m:aF} {ds:aN} {live:List Int} {N:Int→Int} (h:∀k∈live,∃d,bD ds k=some d∧d.lost=false∧0≤N k∧(d.l.length:Int)+N k≤d.room):dp m ds live N=true:=(roomy (w:=Pow.new) h).1
theorem yE {m:aF} {d:bx} {n:Int} (h:(d.l.length:Int)+max n 0≤d.room):gG m d n=d:=by
 unfold gG
 rw[if_pos (by unfold ee;exact decide_eq_true (by omega))]
theorem Ir {m:aF} {l:List Int} (hm:bO m=true) (hs:m.seq≤2147483646) (hl:l.Pairwise (·<·)) (hin:∀k∈l,0≤k∧k<64):bO {m with seq:=m.seq+1,drives:=l}=true:=by
 obtain⟨h1,h2,h3,h4,h5,h6,h7⟩:=(eK m).1 hm
 obtain⟨a1,a2,a3,a4⟩:=(gV m).1 h1
 refine(eK _).2 ⟨(gV _).2 ⟨⟨?_,?_⟩,a2,a3,a4⟩,hl,fun k hk=>?_,h4,h5,h6,h7⟩
 ·show 1≤m.seq+1;omega
 ·show m.seq+1≤_;omega
 ·have:=hin k hk;exact⟨this.1,by omega⟩
end Go.Proofs.YtkciobclldnoiaaGreat
namespace Go.Proofs.YtkciobclldnoiaaGreat
open Go Go.Vc Go.Proofs Wl
end Go.Proofs.YtkciobclldnoiaaGreat
namespace Go.Proofs.YtkciobclldnoiaaGreat
open Go Go.Vc Go.Proofs Wl
end Go.Proofs.YtkciobclldnoiaaGreat
namespace Go.Proofs.YtkciobclldnoiaaGreat
open Go Go.Vc Go.Proofs Wl
theorem vD {l:List Int} (h:l.Pairwise (·<·)):fG l=l:=by
 have hp:(fG l).Perm l:=List.mergeSort_perm _ _
 have hs:(fG l).Pairwise (fun a b=>decide (a≤b)=true):=List.pairwise_mergeSort (fun a b c h1 h2=>by simp at*;omega) (fun a b=>by simp;omega) l
 refine hp.eq_of_pairwise (le:=fun a b:Int=>decide (a≤b)=true) ?_ hs (h.imp fun h=>by simp;omega)
 intro a b _ _ h1 h2;simp at h1 h2;omega
theorem qS (c:Nat) (x:Int) (hx:0<x):aY (List.replicate c x) (List.replicate c x).length=(List.range c).map fun i:Nat=>(i:Int):=by
 rw[List.length_replicate]
 unfold aY
 refine List.filter_eq_self.2 fun y hy=>?_
 obtain⟨i,hi,rfl⟩:=List.mem_map.1 hy
 have hi:=List.mem_range.1 hi
 simp[List.getD_eq_getElem?_getD,hi];omega
theorem LX {p:Pm} {extra:Int} (hp:bU p=true) (hx:0≤extra∧extra≤16) (c:Nat) (x:Int) (hc:1≤c∧c≤24) (hx2:1≤x∧x≤512):qd p extra (List.replicate c x)=0:=by
 have h1:(dE (List.replicate c x)).2=true:=by
  have hall:(List.replicate c x).all (dG · 0 512)=true:=List.all_eq_true.2 fun y hy=>by
   rw[List.eq_of_mem_replicate hy];exact(ju _ _ _).2 ⟨by omega,by omega⟩
  unfold dE
  rw[if_pos hall,qS c x (by omega),List.length_replicate]
  simp;omega
 have h2:dG extra 0 16=true:=(ju _ _ _).2 hx
 have h3:((aY (List.replicate c x) (List.replicate c x).length).any fun i=>decide ((List.replicate c x).getD i.toNat 0<((bh (bS p extra (List.replicate c x))).length:Int)))=false:=by
  refine List.any_eq_false.2 fun y hy=>?_
  rw[qS c x (by omega)]at hy
  obtain⟨i,hi,rfl⟩:=List.mem_map.1 hy
  have hi:=List.mem_range.1 hi
  have hs:=Em p extra (List.replicate c x) (by simp;omega)
  have hg:(List.replicate c x).getD ((i:Int)).toNat 0=x:=by rw[Int.toNat_natCast];simp[List.getD_eq_getElem?_getD,hi]
  rw[hg]
  simp;omega
 unfold qd
 rw[h1,hp,h2,h3];rfl
structure xD (p:Pm) (extra:Int) (c:Nat) (x:Int) (m:aF) (D:aN):Prop where
 m_eq:m=bS p extra (List.replicate c x)
 len:D.length=64
 may:bO m=true
 dr:m.drives=(List.range c).map fun i:Nat=>(i:Int)
 at_:∀s,bD D s=if s∈m.drives then some ⟨x.toNat,bh m,0,[],false,false⟩else none
theorem GQ {p:Pm} {extra:Int} {c:Nat} {x:Int} (hp:bU p=true) (he:0≤extra∧extra≤16) (hc:1≤c∧c≤24) (hx2:1≤x∧x≤512) {D:aN} (h64:D.length=64)
  (hD:∀s,bD D s=if s∈aY (List.replicate c x) (List.replicate c x).length then some ⟨((List.replicate c x).getD s.toNat 0).toNat,bh (bS p extra (List.replicate c x)),0,[],false,false⟩else none):xD p extra c x (bS p extra (List.replicate c x)) D:=by
 have e0:=LX hp he c x hc hx2
 refine⟨rfl,h64,Gy (by simp;omega) e0,qS c x (by omega),fun s=>?_⟩
 rw[hD s]
 show(if s∈aY _ _ then _ else none)=(if s∈aY _ _ then _ else none)
 by_cases h:s∈aY (List.replicate c x) (List.replicate c x).length
 ·rw[if_pos h,if_pos h]
  rw[qS c x (by omega)]at h
  obtain⟨i,hi,rfl⟩:=List.mem_map.1 h
  have hi:=List.mem_range.1 hi
  rw[Int.toNat_natCast,iE 0 (by simpa using hi),List.getElem_replicate]
 ·rw[if_neg h,if_neg h]
theorem xD.live {p:Pm} {extra:Int} {c:Nat} {x:Int} {m:aF} {D:aN} (F:xD p extra c x m D):bg D m.drives=m.drives:=List.filter_eq_self.2 fun k hk=>by
 unfold isLive;rw[F.at_ k,if_pos hk];rfl
theorem xD.aJ {p:Pm} {extra:Int} {c:Nat} {x:Int} {m:aF} {D:aN} (F:xD p extra c x m D):m.aJ=[]∧m.seq=1∧m.next=0∧m.p=p∧m.extra=extra:=by rw[F.m_eq];exact⟨rfl,rfl,rfl,rfl,rfl⟩
theorem LY {M:aF} {D2:aN} {b:List UInt8} {name:ByteArray} (hM:bO M=true) (h64:D2.length=64) (ho:M.aJ=[]) (hs:M.seq≤100) (hx:M.next≤100) (hne:bg D2 M.drives≠[]) (hn:gS name=true) (hb:(b.length:Int)≤M.p.1*M.p.2.2*8)
  (hr:∀j∈bg D2 M.drives,∃d,bD D2 j=some d∧d.lost=false∧(d.l.length:Int)+9+(bj M.p b).length*(M.p.1+M.extra).toNat≤d.room):
  (cz M.p M.next (bj M.p b).length=none→eC M 0 Pow.new D2 name b=(8,M,Pow.new,D2))∧∀t,cz M.p M.next (bj M.p b).length=some t→
   bO (iy M ⟨name,M.next,b.length,t⟩)=true∧∃D3,eC M 0 Pow.new D2 name b=(0,iy M ⟨name,M.next,b.length,t⟩,Pow.new,D3)∧D3.length=64∧
    ∀k,bD D3 k=(bD D2 k).map fun d=>if k∈bg D2 M.drives then fv ((iK M M.next t (bj M.p b) (bg D2 M.drives) k (bj M.p b).length).map dV++bh (iy M ⟨name,M.next,b.length,t⟩)) d else d:=by
 have hrf:dw M (dT Pow.new 0) D2 name b.length=0:=J5 hn (fun e he=>by rw[ho]at he;cases he) hb (by rw[ho];decide) hne (by omega) (by omega)
 obtain⟨_,P0⟩:=LK (m:=M) (offs:=0) (w:=Pow.new) (ds:=D2) (name:=name) (b:=b) zy h64 hM
 obtain⟨P1,P2⟩:=P0 hrf
 refine⟨P1,fun t ht=>?_⟩
 obtain⟨hmn,_,P3⟩:=P2 t ht
 refine⟨hmn,?_⟩
 have h9:=BF hmn
 have hN:∀j,iA (bh (iy M ⟨name,M.next,b.length,t⟩)).length (cV M M.next t (bj M.p b) (bg D2 M.drives) (bj M.p b).length) j≤9+(bj M.p b).length*(M.p.1+M.extra).toNat∧0≤iA (bh (iy M ⟨name,M.next,b.length,t⟩)).length (cV M M.next t (bj M.p b) (bg D2 M.drives) (bj M.p b).length) j:=fun j=>by
  rw[wZ,GH,List.length_map]
  have:=yD M M.next t (bj M.p b) (bg D2 M.drives) j (bj M.p b).length
  have e:(((bj M.p b).length*(M.p.1+M.extra).toNat:Nat):Int)=((bj M.p b).length:Int)*((M.p.1+M.extra).toNat:Int):=Int.natCast_mul _ _
  omega
 obtain⟨D3,q1,q2,q3⟩:=P3 (BM fun j hj=>by
  obtain⟨d,r1,r2,r3⟩:=hr j hj
  have:=hN j
  exact⟨d,r1,r2,this.2,by omega⟩)
 refine⟨D3,q1,q2,fun k=>?_⟩
 rw[q3 k]
 cases hd:bD D2 k with
 |none=>rfl
 |some d=>
  rw[Option.map_some,Option.map_some]
  by_cases hk:k∈bg D2 M.drives
  ·obtain⟨d',r1,r2,r3⟩:=hr k hk
   rw[hd]at r1
   injection r1 with r1
   subst r1
   have:=hN k
   rw[if_pos hk,if_pos hk,yE (by omega)]
  ·rw[if_neg hk,if_neg hk]
end Go.Proofs.YtkciobclldnoiaaGreat
namespace Go.Proofs.YtkciobclldnoiaaGreat
open Go Go.Vc Go.Proofs Wl
theorem Is (m n:aF) (l:List (List UInt8)):fa m (l++bh n)=fa m l:=by
 unfold fa
 rw[List.filterMap_append,Js,List.append_nil]
theorem GR (m:aF) (l:List Int) (c:List (List UInt8)):fa (jx m l) c=fa m c:=rfl
theorem Kb (w:Pow) (ds:aN):layAll [] w ds=(0,w,ds):=by
 unfold layAll
 have h1:gO [] w ds=(0,w,ds):=rfl
 have h2:dK (([]:List (Int×List UInt8)).map Prod.fst)=[]:=by unfold dK;simp
 rw[h1]
 simp only[if_pos]
 rw[h2];rfl
structure Pw (M:aF) (D:aN):Prop where
 may:bO M=true
 len:D.length=64
 dr:M.drives=[0,1]
 seq:M.seq≤100
 at_:∀k,k=0∨k=1→∃d,bD D k=some d∧d.lost=false∧d.l.length≤100∧d.room=300
theorem GS {M:aF} {D:aN} (T:Pw M D):bg D M.drives=[0,1]:=by
 rw[T.dr]
 refine List.filter_eq_self.2 fun k hk=>?_
 simp only[List.mem_cons,List.not_mem_nil,or_false]at hk
 obtain⟨d,h1,h2,_⟩:=T.at_ k hk
 unfold isLive;rw[h1];simp[h2]
theorem Kc {M:aF} {D:aN} (T:Pw M D) {g:Int} (hg:g=0∨g=1):
  ∃D1,mf M 0 Pow.new D g=(0,D1)∧cB M 0 Pow.new D1 (1-g)=(7,M,Pow.new,D1)∧
   ∃D2,cB M 0 Pow.new D1 g=(0,jx M [1-g],Pow.new,D2)∧D2.length=64∧bO (jx M [1-g])=true∧bD D2 g=none∧bg D2 [1-g]=[1-g]∧
    fA (jx M [1-g]) D2 0 0 [1-g]=[(fA M D 0 0 [0,1]).getD (1-g).toNat []]∧cB (jx M [1-g]) 0 Pow.new D2 (1-g)=(7,jx M [1-g],Pow.new,D2):=by
 have hlv:=GS T
 obtain⟨dg,a1,a2,a3,a4⟩:=T.at_ g hg
 obtain⟨dh,b1,b2,b3,b4⟩:=T.at_ (1-g) (by omega)
 obtain⟨D1,hD1⟩:∃D1,D1=fC D g dg.q6:=⟨_,rfl⟩
 have h64:D1.length=64:=by rw[hD1,GC];exact T.len
 have hat:∀s,bD D1 s=if s=g then some dg.q6 else bD D s:=fun s=>by rw[hD1];exact GD T.len a1 s
 have e1:mf M 0 Pow.new D g=(0,D1):=by
  unfold mf
  rw[if_neg (by decide),if_neg (by rw[hlv];rcases hg with rfl|rfl<;>simp),a1,hD1]
 have c1:bD D1 (1-g)=some dh:=by rw[hat,if_neg (by omega)];exact b1
 have c2:bD D1 g=some dg.q6:=by rw[hat,if_pos rfl]
 have hl1:bg D1 M.drives=[1-g]:=by
  rw[T.dr]
  have i1:isLive D1 (1-g)=true:=by unfold isLive;rw[c1];simp[b2]
  have i2:isLive D1 g=false:=by unfold isLive;rw[c2];rfl
  rcases hg with rfl|rfl
  ·have i1':isLive D1 1=true:=i1
   show([0,1]:List Int).filter (isLive D1)=[1]
   simp[i1',i2]
  ·have i1':isLive D1 0=true:=i1
   show([0,1]:List Int).filter (isLive D1)=[0]
   simp[i1',i2]
 have hin:∀s,s=g∨s=1-g→s∈M.drives:=fun s hs=>by rw[T.dr];simp;omega
 have full:∀{M':aF} {D':aN} {s:Int},s∈M'.drives→bg D' M'.drives=[s]→cB M' 0 Pow.new D' s=(7,M',Pow.new,D'):=fun{M' D' s} h1 h2=>by
  unfold cB
  rw[if_neg (by decide),if_neg (fun hh=>hh h1)]
  dsimp only
  rw[h2,if_pos (.inl (by simp))]
 refine⟨D1,e1,full (hin _ (.inr rfl)) hl1,?_⟩
 obtain⟨N,hN⟩:∃N,N=jx M [1-g]:=⟨_,rfl⟩
 have hmN:bO N=true:=by rw[hN];exact Ir T.may (by have:=T.seq;omega) (by simp) (by simp;omega)
 have hp9:=BF hmN
 have hlN:bg D1 N.drives=[1-g]:=by
  rw[hN]
  show bg D1 [1-g]=_
  unfold bg isLive
  simp[c1,b2]
 obtain⟨_,C2⟩:=GP (m:=M) (offs:=0) (w:=Pow.new) (ds:=D1) (n:=N) zy h64 rfl hmN (by rw[hN];rfl)
 rw[hlN]at C2
 have room:∀k∈[1-g],∃d,bD D1 k=some d∧d.lost=false∧(0:Int)≤(bh N).length∧(d.l.length:Int)+(bh N).length≤d.room:=fun k hk=>by
  rw[List.mem_singleton.1 hk]
  exact⟨dh,c1,b2,by omega,by omega⟩
 obtain⟨D3,q1,q2,q3⟩:=C2 (by simp) (BM room)
 have hothers:(bg D1 M.drives).filter (fun k=>!decide (k=g))=[1-g]:=by
  rw[hl1]
  have:¬(1-g=g):=by omega
  simp[this]
 have hdr:M.drives.filter (fun k=>!decide (k=g))=[1-g]:=by
  rw[T.dr];rcases hg with rfl|rfl<;>decide
 have hfit:eU M D1 (1-g) ((bh N).length:Int)=true:=by
  unfold eU;rw[c1]
  show jg _ _ _=true
  unfold jg ee
  simp only[b2,Bool.not_false,Bool.true_and,Bool.or_eq_true,decide_eq_true_eq]
  left;omega
 have hplan:me M D1 (bh N).length [1-g] g=some (List.replicate 64 0,[]):=by
  unfold me
  rw[if_neg (by simp[hfit])]
  have:w8 M D1 g [1-g]=[]:=by
   unfold w8 j0
   rw[c2]
   dsimp only
   rw[if_pos (show dg.q6.lost=true from rfl)];rfl
  rw[this];rfl
 have hmk:makes M (fun k=>((bh N).length:Int)+(List.replicate 64 (0:Int)).getD k.toNat 0) [1-g] Pow.new D1=(0,Pow.new,D1):=by
  refine(roomy (m:=M) (w:=Pow.new) (live:=[1-g]) fun k hk=>?_).2
  obtain⟨d,r1,r2,r3,r4⟩:=room k hk
  have hz:(List.replicate 64 (0:Int)).getD k.toNat 0=0:=by rw[List.getD_eq_getElem?_getD,List.getElem?_replicate];split<;>rfl
  exact⟨d,r1,r2,by rw[hz];omega,by rw[hz];omega⟩
 have e2:cB M 0 Pow.new D1 g=(0,N,Pow.new,D3.set g.toNat none):=by
  unfold cB
  rw[if_neg (by decide),if_neg (fun hh=>hh (hin _ (.inl rfl)))]
  dsimp only
  rw[hothers,hdr,←hN,if_neg (by rintro(h|h);simp at h;have:=T.seq;omega),hplan]
  dsimp only
  rw[hmk]
  rw[if_neg (by simp)]
  dsimp only
  rw[Kb]
  rw[if_neg (by simp)]
  dsimp only
  rw[q1]
  rw[if_neg (by simp)]
 have hgn:∃gn:Nat,g=gn∧gn<64:=⟨g.toNat,by omega,by omega⟩
 obtain⟨gn,hgn,hgn64⟩:=hgn
 have hatN:∀s,bD (D3.set g.toNat none) s=if s=g then none else bD D3 s:=fun s=>by
  unfold bD
  by_cases hs:0≤s∧s<64
  ·rw[if_pos hs,List.getElem?_set]
   by_cases he:s=g
   ·subst he
    rw[if_pos rfl,if_pos (by omega),if_pos rfl];rfl
   ·rw[if_neg (by omega),if_neg he,if_pos hs]
  ·rw[if_neg hs,if_neg hs];split<;>rfl
 have f1:bD (D3.set g.toNat none) (1-g)=some (fv (bh N) dh):=by
  rw[hatN,if_neg (by omega),q3,c1,Option.map_some,if_pos (by simp),yE (by omega)]
 have hl3:bg (D3.set g.toNat none) [1-g]=[1-g]:=by
  unfold bg isLive
  simp[f1,(nT _ _).1,b2]
 rw[←hN]
 refine⟨D3.set g.toNat none,e2,by rw[List.length_set];exact q2,hmN,by rw[hatN,if_pos rfl],hl3,?_,?_⟩
 ·have s1:lZ N (D3.set g.toNat none) 0 0 (1-g)=lZ M D 0 0 (1-g):=by
   unfold lZ
   rw[f1,b1]
   show nR N 0 0 (fv (bh N) dh).l=nR M 0 0 dh.l
   unfold nR
   rw[GJ,Is,hN,GR]
  have e:∀(X:aF) (Y:aN) (k:Int),jh X Y [k] 0 0=lZ X Y 0 0 k:=fun X Y k=>by unfold jh;rw[List.flatMap_cons,List.flatMap_nil,List.append_nil]
  unfold fA
  simp only[List.map_cons,List.map_nil,e,s1]
  rcases hg with rfl|rfl<;>rfl
 ·exact full (by rw[hN];exact List.mem_singleton.2 rfl) (by rw[hN];exact hl3)
end Go.Proofs.YtkciobclldnoiaaGreat
namespace Go.Proofs.YtkciobclldnoiaaGreat
open Go Go.Vc Go.Proofs
set_option maxRecDepth 100000
theorem jq {p q:au} (a b:Sl) (la lb:List Int) (h:Heap) (ha:Seq h p a 1 av la) (hb:Seq h q b 1 av lb) (hs:la.length≤2^40):
  ab Tryz.prog n9 #[.slice a.ptr a.len a.cap,.slice b.ptr b.len b.cap] h fun v h'=>v=.bool (decide (la=lb))∧h'=h:=by
 refine nu a b ?_
 unfold jD
 have hal:=ha.len;have hbl:=hb.len
 refine bP (fun hne=>⟨?_,rfl⟩) (fun heq=>?_)
 ·rw[decide_eq_false (fun e=>hne (by rw[hal,hbl,e]))]
 ·refine aB (fun k:Nat=>(k:Int)) (fun k h'=>h'=h∧k≤la.length∧la.take k=lb.take k) (fun k=>la.length-k) 0 rfl ⟨rfl,by omega,by simp⟩ ?_
  rintro k h' ⟨rfl,hk,ht⟩
  refine al (fun hlt=>?_) (fun hge=>?_)
  ·have hk':k<la.length:=by omega
   have hk2:k<lb.length:=by omega
   refine ha.cr k rfl hk' _ rfl ?_
   refine hb.cr k rfl hk2 _ rfl ?_
   refine bP (fun hne=>⟨?_,rfl⟩) (fun heq=>?_)
   ·rw[decide_eq_false]
    intro e;subst e;exact hne rfl
   ·rw[wrap_small _ (by omega) (by omega)]
    exact⟨k+1,by simp,⟨rfl,by omega,by rw[aM _ _ hk',aM _ _ hk2,ht,heq]⟩,by omega⟩
  ·have:k=la.length:=by omega
   subst this
   rw[List.take_of_length_le (by omega),List.take_of_length_le (by omega)]at ht
   exact⟨by rw[decide_eq_true ht],rfl⟩
end Go.Proofs.YtkciobclldnoiaaGreat
namespace Go.Proofs.YtkciobclldnoiaaGreat
open Go Go.Vc Go.Proofs Wl
set_option maxRecDepth 100000
theorem CN (x y:bw) (m:aF) (h:Heap) (hx:cL h x m) (hy:cL h y m) (hz:bR m):ab Tryz.prog nz #[dj x,dj y] h fun v h'=>v=.bool true∧Sp h h' []:=by
 refine mJ x y ?_
 unfold jl
 refine(Sp.refl h).boxed fun a1 h1 H1=>?_
 refine H1.boxed fun a2 h2 H2=>?_
 have H2:Sp h h2 [aj a1 ao (aD x),aj a2 ao (aD y)]:=H2
 have b1:=H2.box 0 rfl
 have b2:=H2.box 1 rfl
 have hp1:x.2.2.1=m.p.1:=congrArg (·.1) hx.p
 have hp2:x.2.2.2.1=m.p.2.1:=congrArg (·.2.1) hx.p
 have hp3:x.2.2.2.2.1=m.p.2.2:=congrArg (·.2.2) hx.p
 have hq1:y.2.2.1=m.p.1:=congrArg (·.1) hy.p
 have hq2:y.2.2.2.1=m.p.2.1:=congrArg (·.2.1) hy.p
 have hq3:y.2.2.2.2.1=m.p.2.2:=congrArg (·.2.2) hy.p
 have hdl:=hz.dr
 have hol:=hz.ob
 have hxl:=cW.len hx.aJ
 have hyl:=cW.len hy.aJ
 refine aU ⟨m.seq,by rw[←hx.seq];exact b1.cell0 rfl,m.seq,by rw[←hy.seq];exact b2.cell0 rfl,bP (fun e=>absurd rfl e) fun _=>?_⟩
 refine⟨m.next,by rw[←hx.next];exact b1.cell rfl,m.next,by rw[←hy.next];exact b2.cell rfl,bP (fun e=>absurd rfl e) fun _=>?_⟩
 refine⟨m.p,by rw[←hp1,←hp2,←hp3];exact b1.qK 2 rfl rfl rfl,m.p,by rw[←hq1,←hq2,←hq3];exact b2.qK 2 rfl rfl rfl,_,Lf _ _ m.p m.p,aX (fun e=>absurd e (by simp)) fun _=>?_⟩
 refine⟨m.extra,by rw[←hx.extra];exact b1.cell rfl,m.extra,by rw[←hy.extra];exact b2.cell rfl,bP (fun e=>absurd rfl e) fun _=>?_⟩
 refine⟨x.2.2.2.2.2.2.1,b1.cell rfl,y.2.2.2.2.2.2.1,b2.cell rfl,(jq _ _ m.drives m.drives h2 (hx.up H2.ah).drives (hy.up H2.ah).drives (by omega)).mono ?_⟩
 rintro _ h3 ⟨rfl,rfl⟩
 refine⟨_,rfl,aX (fun e=>absurd e (by simp)) fun _=>⟨x.2.2.2.2.2.2.2,b1.cell rfl,y.2.2.2.2.2.2.2,b2.cell rfl,bP (fun e=>absurd (by omega) e) fun _=>?_⟩⟩
 refine⟨x.2.2.2.2.2.2.2,b1.cell rfl,?_⟩
 obtain⟨us,F⟩:=cW.fix hx.aJ
 obtain⟨vs,G⟩:=cW.fix hy.aJ
 have hul:=F.2.1
 have hvl:=G.2.1
 refine aB (fun i:Nat=>(i:Int)) (fun i h'=>i≤m.aJ.length∧Sp h h' [aj a1 ao (aD x),aj a2 ao (aD y)]) (fun i=>m.aJ.length-i) 0 rfl ⟨by omega,H2⟩ ?_
 rintro i h5 ⟨hi,H5⟩
 refine al (fun e=>?_) (fun e=>?_)
 ·have hi':i<m.aJ.length:=by
   have e':(i:Int)<(x.2.2.2.2.2.2.2.len:Int):=e
   omega
  obtain⟨E,hE⟩:∃E,E=m.aJ[i]:=⟨_,rfl⟩
  have hz1:=hz.nm _ (List.getElem_mem hi')
  rw[←hE]at hz1
  obtain⟨u,hu⟩:∃u,u=us[i]'(by omega):=⟨_,rfl⟩
  obtain⟨v,hv⟩:∃v,v=vs[i]'(by omega):=⟨_,rfl⟩
  obtain⟨a21,ha,zz,hc,hzz⟩:=F.1.eu (g:=bE) (i:=(i:Int)) i rfl (by omega) u (by rw[hu]) (K:=fun t=>t=u) rfl
  obtain⟨a24,hb,zz2,hd,hzz2⟩:=G.1.eu (g:=bE) (i:=(i:Int)) i rfl (by omega) v (by rw[hv]) (K:=fun t=>t=v) rfl
  rw[hzz]at hc
  rw[hzz2]at hd
  obtain⟨⟨u1,u2,u3⟩,u4⟩:=Fix.row F hi'
  obtain⟨⟨v1,v2,v3⟩,v4⟩:=Fix.row G hi'
  rw[←hE,←hu]at u1 u2 u3 u4
  rw[←hE,←hv]at v1 v2 v3 v4
  refine cI (fun st h'=>∃Bs,Sp h h' (aj a1 ao (aD x)::aj a2 ao (aD y)::aj st.1 aQ (bE u)::aj st.2 aQ (bE v)::Bs)) ?_ ?_
  ·have keep:∀{h':Heap} {Bs:List HP},Sp h h' (aj a1 ao (aD x)::aj a2 ao (aD y)::Bs)→
     ak.ok [(a24.add ((i:Int).toNat*4),(.string v.1)),((a24.add ((i:Int).toNat*4)).add 1,(.int .i64 v.2.1)),((a24.add ((i:Int).toNat*4)).add 2,(.int .i64 v.2.2.1)),((a24.add ((i:Int).toNat*4)).add 3,(.slice v.2.2.2.ptr v.2.2.2.len v.2.2.2.cap)),(a2.add 7,(.slice y.2.2.2.2.2.2.2.ptr y.2.2.2.2.2.2.2.len y.2.2.2.2.2.2.2.cap)),(a21.add ((i:Int).toNat*4),(.string u.1)),((a21.add ((i:Int).toNat*4)).add 1,(.int .i64 u.2.1)),((a21.add ((i:Int).toNat*4)).add 2,(.int .i64 u.2.2.1)),((a21.add ((i:Int).toNat*4)).add 3,(.slice u.2.2.2.ptr u.2.2.2.len u.2.2.2.cap)),(a1.add 7,(.slice x.2.2.2.2.2.2.2.ptr x.2.2.2.2.2.2.2.len x.2.2.2.2.2.2.2.cap))] h':=fun{h' Bs} H'=>by
    have hp:=H'.ah
    exact⟨hp.cell (cu hd.1) hd.1,hp.cell (cu hd.2.1) hd.2.1,hp.cell (cu hd.2.2.1) hd.2.2.1,hp.cell (cu hd.2.2.2.1) hd.2.2.2.1,(H'.box 1 rfl).cell rfl,hp.cell (cu hc.1) hc.1,hp.cell (cu hc.2.1) hc.2.1,hp.cell (cu hc.2.2.1) hc.2.2.1,hp.cell (cu hc.2.2.2.1) hc.2.2.2.1,(H'.box 0 rfl).cell rfl,trivial⟩
   have k5:=keep H5
   have hp:=H5.ah
   refine⟨x.2.2.2.2.2.2.2,(H5.box 0 rfl).cell rfl,a21,ha,u,⟨hp.cell (cu hc.1) hc.1,hp.cell (cu hc.2.1) hc.2.1,hp.cell (cu hc.2.2.1) hc.2.2.1,hp.cell (cu hc.2.2.2.1) hc.2.2.2.1,trivial⟩,y.2.2.2.2.2.2.2,(H5.box 1 rfl).cell rfl,a24,hb,v,⟨hp.cell (cu hd.1) hd.1,hp.cell (cu hd.2.1) hd.2.1,hp.cell (cu hd.2.2.1) hd.2.2.1,hp.cell (cu hd.2.2.2.1) hd.2.2.2.1,trivial⟩,?_,?_⟩
   ·refine H5.alloc ag rfl fun a26 h6 H6=>⟨keep H6,H6.alloc ag rfl fun a27 h7 H7=>⟨keep H7,?_⟩⟩
    refine H7.storeAll ag 2 rfl rfl (bE u) rfl rfl rfl rfl fun h8 H8=>?_
    obtain⟨k1,k2,k3,k4,k5,_⟩:=keep H8
    refine⟨⟨k1,k2,k3,k4,k5,trivial⟩,H8.storeAll ag 3 rfl rfl (bE v) rfl rfl rfl rfl fun h9 H9=>⟨trivial,[],H9⟩⟩
   ·refine H5.alloc ag rfl fun a26 h6 H6=>⟨keep H6,H6.alloc ag rfl fun a27 h7 H7=>⟨keep H7,?_⟩⟩
    refine H7.storeAll ag 3 rfl rfl (bE u) rfl rfl rfl rfl fun h8 H8=>?_
    obtain⟨k1,k2,k3,k4,k5,_⟩:=keep H8
    refine⟨⟨k1,k2,k3,k4,k5,trivial⟩,H8.storeAll ag 2 rfl rfl (bE v) rfl rfl rfl rfl fun h9 H9=>⟨trivial,[],H9.aS 4 [0,1,3,2]⟩⟩
  ·rintro⟨s1,s2⟩ h9 ⟨Bs,H9⟩
   dsimp only at H9⊢
   have c1:=H9.box 2 rfl
   have c2:=H9.box 3 rfl
   have hlt:=hz1.2
   refine⟨E.name,by rw[←u1];exact c1.cell0 rfl,E.name,by rw[←v1];exact c2.cell0 rfl,aX (fun e=>absurd e (by simp)) fun _=>?_⟩
   refine⟨E.object,by rw[←u2];exact c1.cell rfl,E.object,by rw[←v2];exact c2.cell rfl,bP (fun e=>absurd rfl e) fun _=>?_⟩
   refine⟨E.length,by rw[←u3];exact c1.cell rfl,E.length,by rw[←v3];exact c2.cell rfl,bP (fun e=>absurd rfl e) fun _=>?_⟩
   refine⟨u.2.2.2,c1.cell rfl,v.2.2.2,c2.cell rfl,(jq _ _ E.tries E.tries h9 (Seq.up u4 H9.ah) (Seq.up v4 H9.ah) (by omega)).mono ?_⟩
   rintro _ h10 ⟨rfl,rfl⟩
   refine⟨_,rfl,aX (fun e=>absurd e (by simp)) fun _=>⟨i+1,by rw[Go.Vc.wrap_small _ (by omega) (by omega)];rfl,⟨by omega,H9.aS 2 [0,1]|>.EV (As:=[_,_])⟩,by omega⟩⟩
 ·exact⟨rfl,.zip H5.ah⟩
end Go.Proofs.YtkciobclldnoiaaGreat
namespace Go.Proofs.YtkciobclldnoiaaGreat
open Go Go.Vc Go.Proofs Wl
set_option maxRecDepth 100000
end Go.Proofs.YtkciobclldnoiaaGreat
namespace Go.Proofs.YtkciobclldnoiaaGreat
open Go Go.Vc Go.Proofs Wl
set_option maxRecDepth 100000
section
variable {B B':au} {h0 h0' h h':Heap} {As As':List HP} {a b pw pw2:Addr} {d:bx}
end
end Go.Proofs.YtkciobclldnoiaaGreat
namespace Go.Proofs.YtkciobclldnoiaaGreat
open Go Go.Vc Go.Proofs Wl
section
set_option maxRecDepth 20000
variable {B:au} {h0 h:Heap} {As:List HP} {a a2 pw pw2:Addr} {mc:List Value} {offs:Int} {da da2:List (Option Addr)} {w:Pow} {ds:aN}
end
end Go.Proofs.YtkciobclldnoiaaGreat
namespace Go.Proofs.YtkciobclldnoiaaGreat
open Go Go.Vc Go.Proofs Wl
section
set_option maxRecDepth 20000
variable {B:au} {h0 h:Heap} {As:List HP} {a pw b:Addr} {x:bw} {offs:Int} {da:List (Option Addr)} {w:Pow} {ds:aN} {d:bx}
end
end Go.Proofs.YtkciobclldnoiaaGreat
namespace Go.Vc
open Go Wl Go.Proofs.YtkciobclldnoiaaGreat
def mV (l:List Int) (k:Nat):Int:=l.getD k 0
def gj (l:List Int):Pm:=w5 (mV l 0) (mV l 1) (mV l 2)
def qf (l:List Int):Nat:=(2+mV l 4%4).toNat
def w9 (l:List Int):List Int:=(List.range (qf l)).map fun i=>8+mV l (5+i)%50
def Kd (l:List Int):Int:=mV l 3%7
theorem Oz (l:List Int):2≤qf l∧qf l≤5:=by unfold qf;omega
theorem Nl (l:List Int):(w9 l).length=qf l:=by simp[w9]
end Go.Vc
namespace Go.Proofs.YtkciobclldnoiaaGreat
open Go Go.Vc Go.Proofs Wl
section
set_option maxRecDepth 20000
variable {B:au} {h0 h:Heap} {As:List HP} {a pw:Addr} {offs:Int} {da:List (Option Addr)} {w:Pow} {ds:aN}
theorem mW (s:Sl) (l:List Int) (k:Nat) (h:Heap) (hs:Rd h s 1 av l):ab Tryz.prog rQ #[.slice s.ptr s.len s.cap,.int .i64 k] h fun v h'=>v=.int .i64 (mV l k)∧h'=h:=by
 refine q9 s k ?_
 unfold lI mV
 have hl:=hs.len
 refine al (fun e=>?_) (fun e=>⟨?_,rfl⟩)
 ·have hk:k<l.length:=by omega
  refine hs.cr k rfl hk (l.getD k 0) (by rw[getD_lt hk];rfl) ⟨rfl,rfl⟩
 ·rw[List.getD_eq_getElem?_getD,List.getElem?_eq_none (by omega)];rfl
theorem It (s:Sl) (l:List Int) (h:Heap) (hs:Rd h s 1 av l):ab Tryz.prog pr #[.slice s.ptr s.len s.cap] h fun v h'=>∃r:Sl,v=.tuple #[kI (gj l),.int .i64 (Kd l),.slice r.ptr r.len r.cap]∧Sp h h' [an aA r 1 av (w9 l)]:=by
 refine oI s ?_
 unfold kg
 refine(Sp.refl h).alloc ag rfl fun a1 h1 H1=>?_
 have hs1:=hs.up H1.ah
 refine(mW s l 0 h1 hs1).mono ?_
 rintro _ _ ⟨rfl,rfl⟩
 refine⟨_,rfl,(mW s l 1 _ hs1).mono ?_⟩
 rintro _ _ ⟨rfl,rfl⟩
 refine⟨_,rfl,(mW s l 2 _ hs1).mono ?_⟩
 rintro _ h4 ⟨rfl,rfl⟩
 refine⟨_,rfl,(J4 _ _ _ h4).mono ?_⟩
 rintro _ h5 ⟨rfl,R5⟩
 have H5:=H1.up R5.ah
 refine⟨gj l,rfl,?_⟩
 refine H5.alloc ag rfl fun a6 h6 H6=>?_
 refine H6.storeAll ag 1 rfl rfl [.int .i64 (gj l).1,.int .i64 (gj l).2.1,.int .i64 (gj l).2.2] rfl rfl rfl rfl fun h7 H7=>?_
 have H7:Sp h h7 [an aA ⟨none,0,0⟩ 1 av ((w9 l).take 0),aj a6 ba [.int .i64 (gj l).1,.int .i64 (gj l).2.1,.int .i64 (gj l).2.2],aj a1 ba [.int .i64 0,.int .i64 0,.int .i64 0]]:=(H7.nil aA 1 av).cE [2,1,0]
 have hn:=Oz l
 have hcl:=Nl l
 refine aB (fun t:Sl×Nat=>(t.1,(t.2:Int))) (fun t h'=>t.2≤qf l∧Sp h h' [an aA t.1 1 av ((w9 l).take t.2),aj a6 ba [.int .i64 (gj l).1,.int .i64 (gj l).2.1,.int .i64 (gj l).2.2],aj a1 ba [.int .i64 0,.int .i64 0,.int .i64 0]]) (fun t=>qf l-t.2) (⟨none,0,0⟩,0) rfl ⟨by simp,H7⟩ ?_
 rintro⟨o,i⟩ h8 ⟨hi,H8⟩
 dsimp only at*
 have hs8:=hs.up H8.ah
 refine(mW s l 4 h8 hs8).mono ?_
 rintro _ _ ⟨rfl,rfl⟩
 refine⟨_,rfl,(dO _ 4 _ (by decide) (by decide)).mono ?_⟩
 rintro _ h8 ⟨rfl,rfl⟩
 refine⟨_,rfl,?_⟩
 have hb:=H8.box 1 rfl
 dsimp only
 rw[Go.Vc.wrap_small (2+mV l 4%4) (by omega) (by omega)]
 have ecn:2+mV l 4%4=(qf l:Int):=by unfold qf;omega
 rw[ecn]
 refine al (fun e=>?_) (fun e=>?_)
 ·have hi':i<qf l:=by omega
  rw[Go.Vc.wrap_small ((5:Int)+i) (by omega) (by omega)]
  have e5:(5:Int)+i=((5+i:Nat):Int):=by omega
  rw[e5]
  refine(mW s l (5+i) h8 hs8).mono ?_
  rintro _ _ ⟨rfl,rfl⟩
  refine⟨_,rfl,(dO _ 50 _ (by decide) (by decide)).mono ?_⟩
  rintro _ h12 ⟨rfl,rfl⟩
  refine⟨_,rfl,?_⟩
  dsimp only
  rw[Go.Vc.wrap_small (8+mV l (5+i)%50) (by omega) (by omega)]
  refine H8.push ag 0 rfl iY rfl (by decide) (fun _=>rfl) jr (8+mV l (5+i)%50) rfl (by decide) (by simp;omega) fun o' h13 H13=>?_
  refine⟨(o',i+1),by dsimp only;rw[Go.Vc.wrap_small _ (by omega) (by omega)];rfl,⟨by dsimp only;omega,?_⟩,by dsimp only;omega⟩
  dsimp only
  rw[aM _ _ (show i<(w9 l).length by omega)]
  have e6:(w9 l)[i]'(by omega)=8+mV l (5+i)%50:=by simp[w9]
  rw[e6];exact H13
 ·have hin:i=qf l:=by omega
  subst hin
  rw[List.take_of_length_le (by omega)]at H8
  have hc:ak.ok [(a6,(.int .i64 (gj l).1)),(a6.add 1,(.int .i64 (gj l).2.1)),(a6.add 2,(.int .i64 (gj l).2.2))] h8:=⟨hb.cell0 rfl,hb.cell rfl,hb.cell rfl,trivial⟩
  refine⟨gj l,hb.aL _ rfl,(mW s l 3 h8 hs8).mono ?_⟩
  rintro _ _ ⟨rfl,rfl⟩
  refine⟨_,rfl,hc,(dO _ 7 _ (by decide) (by decide)).mono ?_⟩
  rintro _ h16 ⟨rfl,rfl⟩
  refine⟨_,rfl,hc,?_⟩
  refine H8.storeAll ag 2 rfl rfl [.int .i64 (gj l).1,.int .i64 (gj l).2.1,.int .i64 (gj l).2.2] rfl rfl rfl rfl fun h17 H17=>⟨trivial,?_⟩
  exact⟨gj l,(H17.box 2 rfl).aL _ rfl,o,rfl,H17.cE [0]⟩
theorem Nn:(dn (1,1,1) 0 Pow.new [5]).1=0:=by decide+kernel
end
end Go.Proofs.YtkciobclldnoiaaGreat
namespace Go.Proofs.YtkciobclldnoiaaGreat
open Go Go.Vc Go.Proofs Wl
section
set_option maxRecDepth 20000
variable {B:au} {h0 h:Heap} {As:List HP} {a pw b:Addr} {mc:List Value} {offs:Int} {da:List (Option Addr)} {w:Pow} {ds:aN} {d:bx}
theorem Eo:dT (dn (1,1,1) 0 Pow.new [5]).2.1 Pow.new.offs=false∧(3:Int)∉bg (dn (1,1,1) 0 Pow.new [5]).2.2 (bS (1,1,1) 0 [5]).drives∧(0:Int)∈(bS (1,1,1) 0 [5]).drives:=by decide+kernel
theorem xa (h:Heap):ab Tryz.prog py #[] h fun v h'=>v=.bool true∧Sp h h' []:=by
 refine oK ?_
 unfold ki
 obtain⟨f1,f2,f3⟩:=Eo
 refine(wB h).mono ?_
 rintro _ h1 ⟨pw,rfl,R1⟩
 refine⟨_,rfl,?_⟩
 refine R1.lit ag av iY rfl [5] rfl (show 1*1≤2^20 by decide) rfl fun s2 h2 H2=>?_
 refine(yz (1,1,1) 0 s2 [5] (As:=[an aA s2 1 av [5]]) (St.cQ 0 rfl fun h' hq=>hq.1.seq (fun _=>rfl) hq.2) (by decide) H2).mono ?_
 rintro _ h3 ⟨_,Q⟩
 obtain⟨a,x,da,rfl,H3⟩:=Q Nn
 have hz:bR (bS (1,1,1) 0 [5]):=Bg _ _ _ (by decide)
 have hx:cL h3 x (bS (1,1,1) 0 [5]):=H3.at 1 rfl
 refine⟨(some a,0),rfl,cY (fun _=>?_) fun e=>absurd rfl e⟩
 refine(w4 3 x _ hx hz H3 (.inr f2)).mono ?_
 rintro _ h4 ⟨rfl,R4⟩
 rw[f1,if_neg (by decide)]
 refine⟨5,rfl,cY (fun _=>?_) fun e=>absurd rfl e⟩
 refine(Ij 0 5 x _ (hx.up R4.ah) hz (H3.up R4.ah) (.inr (.inr f3))).mono ?_
 rintro _ h5 ⟨rfl,R5⟩
 rw[f1,if_neg (by decide),show fx 0 5=true by decide,if_pos rfl]
 exact⟨4,rfl,rfl,.zip ((H3.up R4.ah).up R5.ah).ah⟩
end
end Go.Proofs.YtkciobclldnoiaaGreat
namespace Go.Proofs.YtkciobclldnoiaaGreat
open Go Go.Vc Go.Proofs Wl
section
set_option maxRecDepth 20000
theorem OA:gS fU=true:=by decide+kernel
end
end Go.Proofs.YtkciobclldnoiaaGreat
namespace Go.Proofs.YtkciobclldnoiaaGreat
open Go Go.Vc Go.Proofs Wl
section
set_option maxRecDepth 20000
abbrev xb (p:Pm):List Value:=[.int .i64 p.1,.int .i64 p.2.1,.int .i64 p.2.2]
theorem CO (s:Sl) (l:List Int) (n x gone:Int) (h:Heap) (hs:Rd h s 1 av l):
  ab Tryz.prog iF #[.slice s.ptr s.len s.cap,.int .i64 n,.int .i64 x,.int .i64 gone] h fun v h'=>v=.bool true∧Sp h h' []:=by
 refine mg s n x gone ?_
 unfold iQ
 refine(It s l h hs).mono ?_
 rintro _ h1 ⟨r,rfl,R1⟩
 refine⟨(gj l,Kd l,r),rfl,R1.alloc ag rfl fun a2 h2 H2=>?_⟩
 refine H2.storeAll ag 1 rfl rfl (xb (gj l)) rfl rfl rfl rfl fun h3 H3=>?_
 obtain⟨p,hpd⟩:∃p,p=gj l:=⟨_,rfl⟩
 obtain⟨E,hE⟩:∃E,E=Kd l:=⟨_,rfl⟩
 have hp:bU p=true:=by rw[hpd];unfold gj;rw[cg];unfold w5;dsimp only;omega
 have hps:p.1≤6∧p.2.2≤9:=by rw[hpd];unfold gj w5;dsimp only;omega
 have hpm:=(cg p).1 hp
 have hE6:0≤E∧E≤6:=by rw[hE];unfold Kd;omega
 rw[←hpd,←hE]
 rw[←hpd]at H3
 have H3:Sp h h3 [aj a2 ba (xb p)]:=H3.cE [1]
 have e0:qd p E [300,300]=0:=LX hp (by omega) 2 300 (by omega) (by omega)
 have hq0:0<p.1*p.2.2:=Int.mul_pos (by omega) (by omega)
 have hq1:p.1*p.2.2≤6*9:=Int.mul_le_mul hps.1 hps.2 (by omega) (by omega)
 refine cI (fun(t:Option Addr×Int) h'=>∃(a pw:Addr) (da:List (Option Addr)) (m:aF) (D:aN),t=(some a,0)∧xD p E 2 300 m D∧Sp h h' [gN a pw da 0 Pow.new D m,aj a2 ba (xb p)]) ?_ ?_
 ·refine⟨p,(H3.box 0 rfl).aL _ rfl,(wB h3).mono ?_,?_⟩
  ·rintro _ h4 ⟨pw,rfl,R4⟩
   have H4:=H3.ck R4
   have hb:=H4.box 1 rfl
   refine⟨_,rfl,⟨hb.cell0 rfl,hb.cell rfl,hb.cell rfl,trivial⟩,H4.lit ag av iY rfl [300,300] rfl (show 2*1≤2^20 by decide) rfl fun v5 h5 H5=>?_⟩
   have H5:Sp h h5 [cR bt pw Pow.new,aj a2 ba (xb p),an aA v5 1 av [300,300]]:=H5
   have hb:=H5.box 1 rfl
   refine⟨⟨hb.cell0 rfl,hb.cell rfl,hb.cell rfl,trivial⟩,(BH p E v5 [300,300] (As:=[aj a2 ba (xb p),an aA v5 1 av [300,300]]) (St.cQ 1 rfl fun h' hq=>hq.1.seq (fun _=>rfl) hq.2) (by decide) e0 rfl H5).mono ?_⟩
   rintro _ h6 ⟨a,da,D,rfl,f2,f3,H6⟩
   exact⟨(some a,0),rfl,trivial,a,pw,da,_,D,rfl,GQ (c:=2) (x:=300) hp (by omega) (by omega) (by omega) f2 f3,H6.cE [0,1]⟩
  ·refine H3.lit ag av iY rfl [300,300] rfl (show 2*1≤2^20 by decide) rfl fun v7 h7 H7=>?_
   have H7:Sp h h7 [aj a2 ba (xb p),an aA v7 1 av [300,300]]:=H7
   have hb:=H7.box 0 rfl
   refine⟨⟨hb.cell0 rfl,hb.cell rfl,hb.cell rfl,trivial⟩,(wB h7).mono ?_⟩
   rintro _ h8 ⟨pw,rfl,R8⟩
   have H8:=H7.ck R8
   have hb:=H8.box 1 rfl
   refine⟨_,rfl,⟨hb.cell0 rfl,hb.cell rfl,hb.cell rfl,trivial⟩,(BH p E v7 [300,300] (As:=[aj a2 ba (xb p),an aA v7 1 av [300,300]]) (St.cQ 1 rfl fun h' hq=>hq.1.seq (fun _=>rfl) hq.2) (by decide) e0 rfl H8).mono ?_⟩
   rintro _ h9 ⟨a,da,D,rfl,f2,f3,H9⟩
   exact⟨(some a,0),rfl,trivial,a,pw,da,_,D,rfl,GQ (c:=2) (x:=300) hp (by omega) (by omega) (by omega) f2 f3,H9.cE [0,1]⟩
 rintro⟨_,_⟩ h10 ⟨a,pw,da,m,D,he,F,H10⟩
 injection he with he1 he2
 subst he1 he2
 refine aU (bP (fun e=>absurd rfl e) fun _=>bu (fun e=>by cases e) fun _=>?_)
 obtain⟨o1,o2,o3,o4,o5⟩:=F.aJ
 have hmdr:m.drives=[0,1]:=by rw[F.dr];rfl
 have hp9m:=BF F.may
 have hDat:∀k,k=0∨k=1→∃d,bD D k=some d∧d.lost=false∧d.l.length≤9∧d.room=300:=fun k hk=>by
  refine⟨_,by rw[F.at_ k,if_pos (by rw[hmdr];simp;omega)],rfl,hp9m,rfl⟩
 have hFlv:bg D m.drives=[0,1]:=by rw[F.live,hmdr]
 refine⟨p.1,(H10.box 1 rfl).cell0 rfl,p.2.2,(H10.box 1 rfl).cell rfl,?_⟩
 have e3:2*p.1*p.2.2=2*(p.1*p.2.2):=Int.mul_assoc _ _ _
 rw[Go.Vc.wrap_small (2*p.1) (by omega) (by omega),e3,Go.Vc.wrap_small (2*(p.1*p.2.2)) (by omega) (by omega)]
 refine(dO n (2*(p.1*p.2.2)) h10 (by omega) (by omega)).mono ?_
 rintro _ h12 ⟨rfl,rfl⟩
 have hn0:=Int.emod_nonneg n (show 2*(p.1*p.2.2)≠0 by omega)
 have hn1:=Int.emod_lt_of_pos n (show 0<2*(p.1*p.2.2)by omega)
 obtain⟨N,hN⟩:∃N:Nat,(N:Int)=n%(2*(p.1*p.2.2)):=⟨(n%(2*(p.1*p.2.2))).toNat,by omega⟩
 refine⟨_,rfl,?_⟩
 dsimp only
 rw[←hN]
 refine(JW N x h12 (by omega)).mono ?_
 rintro _ h13 ⟨sb,b,rfl,hbl,R13⟩
 have H13:Sp h h13 [gN a pw da 0 Pow.new D m,an aE sb 1 aG b,aj a2 ba (xb p)]:=(H10.ck R13).cE [1,0,2]
 refine⟨sb,rfl,(Oy fU sb b (As:=[an aE sb 1 aG b,aj a2 ba (xb p)]) (St.cQ 0 rfl fun h' hq=>hq.1.seq (fun _=>rfl) hq.2) (H13.own 1 rfl).cap (by decide) F.may (by omega) H13).mono ?_⟩
 have hnb:(bj p b).length≤3:=by
  have h1:=wX hp b
  have hle:countP p b.length≤3:=by
   unfold countP
   split
   ·have h2:((b.length:Int)-1)/(p.1*p.2.2)<3:=Int.ediv_lt_of_lt_mul hq0 (by rw[Int.mul_comm 3];omega)
    omega
   ·decide
  omega
 have h36:(bj p b).length*(p.1+E).toNat≤3*12:=Nat.mul_le_mul hnb (by omega)
 obtain⟨P1,P2⟩:=LY (M:=m) (D2:=D) (b:=b) (name:=fU) F.may F.len o1 (by omega) (by omega) (by rw[hFlv];simp) OA (by rw[o4];omega) (by
  rw[hFlv,o4,o5]
  intro j hj
  simp only[List.mem_cons,List.not_mem_nil,or_false]at hj
  obtain⟨d,q1,q2,q3,q4⟩:=hDat j hj
  have e:(((bj p b).length*(p.1+E).toNat:Nat):Int)=((bj p b).length:Int)*((p.1+E).toNat:Int):=Int.natCast_mul _ _
  exact⟨d,q1,q2,by omega⟩)
 rw[o3,o4]at P1 P2
 rw[hFlv]at P2
 rintro _ h14 ⟨rfl,H14⟩
 have hput:((eC m 0 Pow.new D fU b).1=0∨(eC m 0 Pow.new D fU b).1=8)∧(eC m 0 Pow.new D fU b).2.2.1=Pow.new∧Pw (eC m 0 Pow.new D fU b).2.1 (eC m 0 Pow.new D fU b).2.2.2:=by
  cases ht:cz p 0 (bj p b).length with
  |none=>
   rw[P1 ht]
   refine⟨.inr rfl,rfl,F.may,F.len,hmdr,by show m.seq≤100;omega,fun k hk=>?_⟩
   obtain⟨d,q1,q2,q3,q4⟩:=hDat k hk
   exact⟨d,q1,q2,by omega,q4⟩
  |some t=>
   obtain⟨hmn,D3,q1,q2,q3⟩:=P2 t ht
   rw[q1]
   refine⟨.inl rfl,rfl,hmn,q2,hmdr,by show m.seq+1≤100;omega,fun k hk=>?_⟩
   obtain⟨d,r1,r2,r3,r4⟩:=hDat k hk
   have:=q3 k
   rw[r1,Option.map_some,if_pos (by simp;omega)]at this
   refine⟨_,this,by rw[(nT _ _).1];exact r2,?_,by rw[(nT _ _).2];exact r4⟩
   rw[GJ,List.length_append,List.length_append,List.length_map]
   have h1:=yD m 0 t (bj p b) [0,1] k (bj p b).length
   rw[o4,o5]at h1
   have h2:=BF hmn
   omega
 obtain⟨hf,hw,T⟩:=hput
 rw[hw]at H14
 obtain⟨f,hfd⟩:∃f,f=(eC m 0 Pow.new D fU b).1:=⟨_,rfl⟩
 obtain⟨M,hM⟩:∃M,M=(eC m 0 Pow.new D fU b).2.1:=⟨_,rfl⟩
 obtain⟨D',hD'⟩:∃D',D'=(eC m 0 Pow.new D fU b).2.2.2:=⟨_,rfl⟩
 rw[←hfd]at hf⊢
 rw[←hM,←hD']at T H14
 have hlv:=GS T
 have hMz:=mT T.may
 refine⟨f,rfl,(dO gone 2 h14 (by decide) (by decide)).mono ?_⟩
 rintro _ h15 ⟨rfl,rfl⟩
 obtain⟨g,hg⟩:∃g,g=gone%2:=⟨_,rfl⟩
 have hg2:g=0∨g=1:=by omega
 rw[←hg]
 refine⟨g,rfl,?_⟩
 have hwr:IntKind.wrap .i64 (1-g)=1-g:=Go.Vc.wrap_small _ (by omega) (by omega)
 dsimp only
 rw[hwr]
 obtain⟨D1,l1,l2,D2,l3,l4,l5,l6,l7,l8,l9⟩:=Kc T hg2
 refine(ud T.may H14).mono ?_
 rintro _ h16 ⟨z,rfl,R16⟩
 have H16:=H14.comp R16
 have H16:Sp h h16 [gN a pw da 0 Pow.new D' M,an aE sb 1 aG b,aj a2 ba (xb p),bC z M]:=H16
 refine⟨z,rfl,(DC 0 0 T.may H16).mono ?_⟩
 rintro _ h17 ⟨wr,rfl,R17⟩
 rw[hlv]at R17
 have H17:=H16.comp R17
 refine⟨wr,rfl,H17.alloc ag rfl fun a20 h18 H18=>?_⟩
 refine H18.storeAll ag 5 rfl rfl (aD z) rfl rfl rfl rfl fun h19 H19=>?_
 obtain⟨W,hW⟩:∃W,W=fA M D' 0 0 [0,1]:=⟨_,rfl⟩
 have hWl:W.length=2:=by rw[hW];rfl
 rw[←hW]at H19 l8
 have H19:Sp h h19 [gN a pw da 0 Pow.new D' M,eV fc wr aA 1 av W,bC z M,aj a20 ao (aD z)]:=(show Sp h h19 [gN a pw da 0 Pow.new D' M,an aE sb 1 aG b,aj a2 ba (xb p),bC z M,eV fc wr aA 1 av W,aj a20 ao (aD z)]from H19).cE [0,4,3,5]
 obtain⟨rs,H19⟩:=aa.Ev (H19.aS 2 [1,0]) fun _=>rfl
 have H19:Sp h h19 [gN a pw da 0 Pow.new D' M,cG (je 1 av) 1 cy wr rs W,bC z M,aj a20 ao (aD z)]:=H19.cE [1,0,2,3]
 have Fx19:=H19.fN 1 rfl
 have hwrl:=Fx19.1.len
 have hrsl:=Fx19.2.1
 refine cI (fun _ h'=>∃da,Sp h h' [gN a pw da 0 Pow.new D1 M,cG (je 1 av) 1 cy wr rs W]) ?_ ?_
 ·refine(Nk g T.may H19).mono ?_
  rintro _ h20 ⟨rfl,H20⟩
  rw[l1]at H20⊢
  refine⟨0,rfl,trivial,bP (fun e=>absurd rfl e) fun _=>?_⟩
  refine(oN (1-g) T.may H20).mono ?_
  rintro _ h21 ⟨rfl,da',H21⟩
  rw[l2]at H21⊢
  refine⟨7,rfl,trivial,bP (fun e=>absurd rfl e) fun _=>?_⟩
  refine⟨z,(H21.box 3 rfl).aL _ rfl,(ud T.may H21).mono ?_⟩
  rintro _ h22 ⟨y,rfl,R22⟩
  have H22:=H21.comp R22
  have hb:=H22.box 3 rfl
  refine⟨y,rfl,⟨hb.cell0 rfl,hb.cell rfl,hb.cell rfl,hb.cell rfl,hb.cell rfl,hb.cell rfl,hb.cell rfl,hb.cell rfl,trivial⟩,?_⟩
  refine(CN y z M h22 (R22.at 0 rfl) (H22.at 2 rfl) hMz).mono ?_
  rintro _ h23 ⟨rfl,R23⟩
  exact⟨true,rfl,trivial,aX (fun e=>by cases e) fun _=>⟨da',(H22.up R23.ah).cE [0,1]⟩⟩
 rintro _ h24 ⟨da,H24⟩
 obtain⟨N2,hN2⟩:∃N2,N2=jx M [1-g]:=⟨_,rfl⟩
 rw[←hN2]at l3 l5 l8 l9
 have hN2d:N2.drives=[1-g]:=by rw[hN2];rfl
 refine cI (fun _ h'=>∃da,Sp h h' [gN a pw da 0 Pow.new D2 N2,cG (je 1 av) 1 cy wr rs W]) ?_ ?_
 ·refine bP (fun e=>absurd (by rw[hwrl,hrsl,hWl];rfl) e) fun _=>?_
  refine(oN g T.may H24).mono ?_
  rintro _ h25 ⟨rfl,da',H25⟩
  rw[l3]at H25⊢
  refine⟨0,rfl,bP (fun e=>absurd rfl e) fun _=>(LN g H25).mono ?_⟩
  rintro _ h26 ⟨rfl,rfl⟩
  rw[LO l6 H25]
  exact⟨none,rfl,aX (fun e=>by cases e) fun _=>⟨da',H25⟩⟩
 rintro _ h27 ⟨da,H27⟩
 have hj:(1-g).toNat<W.length:=by omega
 obtain⟨row,hrow⟩:∃row,row=W[(1-g).toNat]:=⟨_,rfl⟩
 have hW2:W.getD (1-g).toNat []=row:=by rw[hrow,iE [] hj]
 rw[hW2]at l8
 have hrowl:row.length≤100:=by
  obtain⟨d,q1,q2,q3,q4⟩:=T.at_ (1-g) (by omega)
  have e:row=(jh M D' [1-g] 0 0).map Prod.fst:=by
   rw[←hW2,hW]
   unfold fA
   rcases hg2 with h|h<;>subst h<;>rfl
  rw[e,List.length_map]
  unfold jh lZ
  rw[List.flatMap_cons,List.flatMap_nil,List.append_nil,q1]
  exact Nat.le_trans (Bt _ _ _ _) q3
 refine(DC 0 0 l5 H27).mono ?_
 rintro _ h28 ⟨r30,rfl,R28⟩
 rw[hN2d,l7,l8]at R28
 have H28:=H27.comp R28
 obtain⟨rs2,R28⟩:=aa.Ev R28 fun _=>rfl
 have Fx:=R28.fN 0 rfl
 have h30l:=Fx.1.len
 have hrs2:=Fx.2.1
 have Fw:=H28.fN 1 rfl
 have hrow2:=(Fix.row Fx (i:=0) (by simp)).1
 have hroww:=(Fix.row Fw (i:=(1-g).toNat) (by omega)).1
 simp only[List.getElem_cons_zero]at hrow2
 rw[←hrow]at hroww
 refine⟨r30,rfl,?_⟩
 rcases hf with rfl|rfl
 rotate_left
 refine cY (fun e=>absurd e (by decide)) fun _=>?_
 all_goals
  refine cY (fun _=>?_) fun e=>absurd rfl e
  refine cY (fun _=>?_) fun e=>absurd (by rw[h30l,hrs2];rfl) e
  refine Fx.1.I9 0 rfl (by rw[hrs2];exact Nat.one_pos) ?_
  refine Fw.1.I9 (1-g).toNat (by omega) (by omega) ?_
  refine(jq _ _ _ _ h28 hrow2 hroww (by omega)).mono ?_
  rintro _ h29 ⟨rfl,rfl⟩
  refine⟨_,rfl,trivial,bu (fun _=>⟨?_,?_⟩) fun e=>by rw[decide_eq_true rfl]at e;cases e⟩
  ·refine(ud l5 H28).mono ?_
   rintro _ h30 ⟨y,rfl,R30⟩
   have H30:=H28.comp R30
   have hy:cL h30 y N2:=R30.at 0 rfl
   refine⟨y,rfl,trivial,H30.lit ag av iY rfl [1-g] rfl (show 1*1≤2^20 by decide) rfl fun v37 h31 H31=>⟨trivial,?_⟩⟩
   have hy31:Rd h31 y.2.2.2.2.2.2.1 1 av N2.drives:=(H31.at 3 rfl:cL h31 y N2).drives
   rw[hN2d]at hy31
   refine(jq _ _ _ _ h31 hy31 (H31.seq 4 rfl fun _=>rfl) (by simp)).mono ?_
   rintro _ h32 ⟨rfl,rfl⟩
   refine⟨_,rfl,trivial,bu (fun _=>(oN (1-g) l5 H31).mono ?_) fun e=>by rw[decide_eq_true rfl]at e;cases e⟩
   rintro _ h33 ⟨rfl,da3,H33⟩
   rw[l9]
   refine⟨7,rfl,trivial,cY (fun _=>(xa h33).mono ?_) fun e=>absurd rfl e⟩
   rintro _ h34 ⟨rfl,R34⟩
   exact⟨true,rfl,trivial,rfl,.zip (H33.up R34.ah).ah⟩
  ·refine H28.lit ag av iY rfl [1-g] rfl (show 1*1≤2^20 by decide) rfl fun v41 h35 H35=>⟨trivial,?_⟩
   refine(ud l5 H35).mono ?_
   rintro _ h36 ⟨y,rfl,R36⟩
   have H36:=H35.comp R36
   have hy36:Rd h36 y.2.2.2.2.2.2.1 1 av N2.drives:=(R36.at 0 rfl:cL h36 y N2).drives
   rw[hN2d]at hy36
   refine⟨y,rfl,trivial,(jq _ _ _ _ h36 hy36 (H36.seq 3 rfl fun _=>rfl) (by simp)).mono ?_⟩
   rintro _ h37 ⟨rfl,rfl⟩
   refine⟨_,rfl,trivial,bu (fun _=>(oN (1-g) l5 H36).mono ?_) fun e=>by rw[decide_eq_true rfl]at e;cases e⟩
   rintro _ h38 ⟨rfl,da3,H38⟩
   rw[l9]
   refine⟨7,rfl,trivial,cY (fun _=>(xa h38).mono ?_) fun e=>absurd rfl e⟩
   rintro _ h39 ⟨rfl,R39⟩
   exact⟨true,rfl,trivial,rfl,.zip (H38.up R39.ah).ah⟩
theorem xc (s:Sl) (l:List Int) (n x gone:Int) (h:Heap) (hs:Rd h s 1 av l):
  ab Tryz.prog iF #[.slice s.ptr s.len s.cap,.int .i64 n,.int .i64 x,.int .i64 gone] h fun v h'=>v=.bool true∧aH (fun b=>b<h.size) h h':=
 (CO s l n x gone h hs).mono fun _ _ ⟨a,b⟩=>⟨a,b.ah⟩
end
end Go.Proofs.YtkciobclldnoiaaGreat
