/- Part of the proofs that the laws of this seat answer true whatever the input reads, and leave it as it was; no condition. -/
import Derived.Test.YtkciobclldnoiaaGreatKB
import Derived.Test.YtkciobclldnoiaaGreatKA
import Derived.Test.YtkciobclldnoiaaGreatPlI
import Derived.Test.YtkciobclldnoiaaGreatTabS
import Derived.Test.YtkciobclldnoiaaGreatPlA
set_option linter.unusedVariables false
set_option linter.unusedSimpArgs false
namespace Go.Proofs.YtkciobclldnoiaaGreat
open Go Go.Vc Go.Proofs Wl
end Go.Proofs.YtkciobclldnoiaaGreat
namespace Go.Proofs.YtkciobclldnoiaaGreat
open Go Go.Vc Go.Proofs Wl
theorem Ik {m:aC} {ds:aR} {name:ByteArray} {n:Nat} (h1:gq name=true) (h2:∀e∈m.aG,e.name≠name) (h3:(n:Int)≤m.p.1*m.p.2.2*8) (h4:m.aG.length≤11) (h5:bz ds m.drives≠[]) (h6:m.next≤16777215) (h7:m.seq≤2147483646):cV m false ds name n=0:=by
 have ha:m.aG.any (kU name)=false:=List.any_eq_false.2 fun e he h=>h2 e he (zD (by unfold kU at h;simpa using h))
 unfold cV
 rw[if_neg (by decide),if_neg (by simp[h1]),if_neg (by simp[ha]),if_neg (by omega),if_neg (by rintro(h|h|h);exact h5 h;omega;omega)]
end Go.Proofs.YtkciobclldnoiaaGreat
namespace Go.Proofs.YtkciobclldnoiaaGreat
open Go Go.Vc Go.Proofs Wl
theorem EN {m:aC} {offs:Int} {w:Pow} {ds:aR} {n:aC} (hw:w.calm) (h64:ds.length=64) (hd:eP w offs=false) (hn:bG n=true) (hs:n.seq=m.seq+1):
  let live:=bz ds n.drives
  let N:Int→Int:=fun _=>((aZ n).length:Int)
  (live=[]∨cR m ds live N=false→cb m offs w ds n=(7,m,w,ds))∧(live≠[]→cR m ds live N=true→∃ds',cb m offs w ds n=(0,n,w,ds')∧ds'.length=64∧
   ∀k,bF ds' k=(bF ds k).map fun d=>if k∈live then eU (aZ n) (gd m d (aZ n).length)else d):=by
 intro live N
 have hnd:live.Nodup:=ve (yi hn)
 have e:cb m offs w ds n=(if live=[]∨cR m ds live N=false then(7,m,w,ds)else
   if(makes m N live w ds).1≠0 then((makes m N live w ds).1,m,(makes m N live w ds).2)else
   ((layAll (bh n live) (makes m N live w ds).2.1 (makes m N live w ds).2.2).1,if(layAll (bh n live) (makes m N live w ds).2.1 (makes m N live w ds).2.2).1=0 then n else m,(layAll (bh n live) (makes m N live w ds).2.1 (makes m N live w ds).2.2).2)):=by
  unfold cb
  rw[if_neg (by rw[hd];decide),if_neg (by rw[hn,decide_eq_false (by simpa using hs)];decide)]
 refine⟨fun h=>by rw[e,if_pos h],fun hne hf=>?_⟩
 rw[e,if_neg (by rintro(h|h);exact hne h;rw[hf]at h;cases h)]
 obtain⟨d1,m1,m2,m3⟩:=rR hw (N:=N) hnd h64 hf
 rw[m1]
 dsimp only
 rw[if_neg (by simp)]
 obtain⟨d3,p1,p2,p3⟩:=zE hw (ds:=d1) (P:=bh n live) m2 fun x hx=>by
  obtain⟨hxl,hx64⟩:=gK hx
  obtain⟨d',hd',hfd⟩:=pR (List.all_eq_true.1 hf x.1 hxl)
  obtain⟨r1,r2,r3⟩:=zC hfd
  refine⟨hx64,gd m d' (N x.1),?_,r1,?_⟩
  ·rw[m3,hd',Option.map_some,if_pos hxl]
  ·rw[kr hnd,if_pos hxl,r2]
   have:N x.1=((aZ n).length:Int):=rfl
   omega
 rw[p1]
 refine⟨d3,rfl,p2,fun k=>?_⟩
 rw[p3,m3,Option.map_map]
 congr 1
 funext d
 show eU (ib (bh n live) k) (if k∈live then gd m d (N k)else d)=_
 rw[kr hnd]
 by_cases hk:k∈live
 ·rw[if_pos hk,if_pos hk,if_pos hk]
 ·rw[if_neg hk,if_neg hk,if_neg hk];rfl
theorem zH {m:aC} {ds:aR} {live:List Int} {N:Int→Int} (h:∀k∈live,∃d,bF ds k=some d∧d.lost=false∧0≤N k∧(d.l.length:Int)+N k≤d.room):cR m ds live N=true:=(roomy (w:=Pow.new) h).1
theorem wI {m:aC} {d:bn} {n:Int} (h:(d.l.length:Int)+max n 0≤d.room):gd m d n=d:=by
 unfold gd
 rw[if_pos (by unfold dU;exact decide_eq_true (by omega))]
theorem Gm {m:aC} {l:List Int} (hm:bG m=true) (hs:m.seq≤2147483646) (hl:l.Pairwise (·<·)) (hin:∀k∈l,0≤k∧k<64):bG {m with seq:=m.seq+1,drives:=l}=true:=by
 obtain⟨h1,h2,h3,h4,h5,h6,h7⟩:=(dO m).1 hm
 obtain⟨a1,a2,a3,a4⟩:=(gw m).1 h1
 refine(dO _).2 ⟨(gw _).2 ⟨⟨?_,?_⟩,a2,a3,a4⟩,hl,fun k hk=>?_,h4,h5,h6,h7⟩
 ·show 1≤m.seq+1;omega
 ·show m.seq+1≤_;omega
 ·have:=hin k hk;exact⟨this.1,by omega⟩
end Go.Proofs.YtkciobclldnoiaaGreat
namespace Go.Vc
open Go Wl
section
variable {k:Kit} {B:aq} {h0 h:Heap} {As:List HP} {a pw b:Addr} {mc:List Value} {offs:Int} {da:List (Option Addr)} {w:Pow} {ds:aR} {d:bn} {n:Nat}
theorem aa.Lp (ok:dD mc da ds) (hn:n<64) (H:aa B h0 h (an a k.tS (bJ mc pw offs (da.set n (some b)))::bX k.tP pw w::(dC k pw da ds++(eJ k.tD (k.f pw) b d::As)))):aa B h0 h (aP k a pw mc offs (da.set n (some b)) w (ds.set n (some d))::As):=by
 have hla:=ok.la
 have hls:=ok.ls
 have ok':dD mc (da.set n (some b)) (ds.set n (some d)):=⟨ok.l8,by simp[hla],by simp[hls],fun i=>by
  by_cases hin:n=i
  ·subst hin
   rw[List.getD_eq_getElem?_getD,List.getD_eq_getElem?_getD,List.getElem?_set_self (by omega),List.getElem?_set_self (by omega)];rfl
  ·have:=ok.same i
   rw[List.getD_eq_getElem?_getD,List.getD_eq_getElem?_getD]at this⊢
   rw[List.getElem?_set_ne hin,List.getElem?_set_ne hin];exact this⟩
 have hll:=rK (k:=k) (pw:=pw) ok
 have hset:dC k pw (da.set n (some b)) (ds.set n (some d))=(dC k pw da ds).set n (eJ k.tD (k.f pw) b d):=by
  apply List.ext_getElem?
  intro j
  simp only[dC,List.getElem?_set,List.getElem?_zipWith,List.length_zipWith]
  by_cases hij:n=j
  ·subst hij
   rw[if_pos rfl,if_pos (by omega),if_pos rfl,if_pos (by omega),if_pos rfl,if_pos (by omega)];rfl
  ·simp[hij]
 refine aa.ko ok' ?_
 rw[hset]
 obtain⟨L,hLe⟩:∃L,L=dC k pw da ds:=⟨_,rfl⟩
 rw[←hLe]at H hll⊢
 have hLn:n<L.length:=by omega
 have H:=H.il (n+2) (A:=L[n]) (D:=emp) (by rw[List.getElem?_cons_succ,List.getElem?_cons_succ,List.getElem?_append_left hLn,List.getElem?_eq_getElem hLn]) (fun _ _=>trivial)
 have e0:(an a k.tS (bJ mc pw offs (da.set n (some b)))::bX k.tP pw w::(L++(eJ k.tD (k.f pw) b d::As))).set (n+2) emp=an a k.tS (bJ mc pw offs (da.set n (some b)))::bX k.tP pw w::(L.set n emp++(eJ k.tD (k.f pw) b d::As)):=by
  rw[List.set_cons_succ,List.set_cons_succ,List.set_append_left _ _ hLn]
 rw[e0]at H
 have hl2:(L.set n emp).length=L.length:=List.length_set
 have H1:=H.cons (L.length+2) (A:=eJ k.tD (k.f pw) b d) (by
  rw[List.getElem?_cons_succ,List.getElem?_cons_succ,List.getElem?_append_right (by omega),hl2,Nat.sub_self];rfl)
 have e:(an a k.tS (bJ mc pw offs (da.set n (some b)))::bX k.tP pw w::(L.set n emp++(eJ k.tD (k.f pw) b d::As))).set (L.length+2) emp=an a k.tS (bJ mc pw offs (da.set n (some b)))::bX k.tP pw w::(L.set n emp++(emp::As)):=by
  rw[List.set_cons_succ,List.set_cons_succ,List.set_append_right _ _ (by omega),hl2,Nat.sub_self];rfl
 rw[e]at H1
 have H2:=H1.ba 3 [0,2,1]
 have H3:aa B h0 h (eJ k.tD (k.f pw) b d::bX k.tP pw w::an a k.tS (bJ mc pw offs (da.set n (some b)))::(L.set n emp++(emp::As))):=H2
 have H4:=aa.AN n hLn H3
 have H5:=aa.closeAll (an a k.tS (bJ mc pw offs (da.set n (some b)))::bX k.tP pw w::L.set n (eJ k.tD (k.f pw) b d)) H4
 exact aa.nw (L:=an a k.tS (bJ mc pw offs (da.set n (some b)))::bX k.tP pw w::L.set n (eJ k.tD (k.f pw) b d)) H5.qY
end
end Go.Vc
namespace Go.Proofs.YtkciobclldnoiaaGreat
open Go Go.Vc Go.Proofs Wl
section
set_option maxRecDepth 20000
variable {B:aq} {h0 h:Heap} {As:List HP} {a pw b:Addr} {mc:List Value} {offs:Int} {da:List (Option Addr)} {w:Pow} {ds:aR} {d:bn}
theorem lR {p:aq} (s:Sl) (l:List Int) (x:Int) (h:Heap) (hs:Seq h p s 1 aw l) (hl:l.length≤2^40):ab Tryz.prog mM #[.slice s.ptr s.len s.cap,.int .i64 x] h fun v h'=>v=.bool (decide (x∈l))∧h'=h:=by
 refine mq s x ?_
 unfold iU
 refine(nX s x (R:=fun v h'=>(∃i:Int,v=.int .i64 i∧(decide (i≥0)=decide (x∈l)))∧h'=h) ?_).mono ?_
 ·unfold jX
  have hsl:=hs.len
  refine az (fun i:Nat=>(i:Int)) (fun i h'=>i≤l.length∧x∉l.take i∧h'=h) (fun i=>l.length-i) 0 rfl ⟨by omega,by simp,rfl⟩ ?_
  rintro i h1 ⟨hi,hno,rfl⟩
  refine aj (fun e1=>?_) (fun e1=>?_)
  ·have hi':i<l.length:=by
    have e':(i:Int)<(s.len:Int):=e1
    omega
   refine hs.cv i rfl hi' l[i] rfl ?_
   refine cJ (fun e2=>⟨⟨i,rfl,?_⟩,rfl⟩) (fun e2=>?_)
   ·rw[decide_eq_true (show(i:Int)≥0 by omega),decide_eq_true (by rw[e2];exact List.getElem_mem hi')]
   ·refine⟨i+1,by rw[Go.Vc.wrap_small _ (by omega) (by omega)];rfl,⟨by omega,fun hm=>?_,rfl⟩,by omega⟩
    rw[aL _ _ hi']at hm
    rcases List.mem_append.1 hm with hm|hm
    ·exact hno hm
    ·exact e2 (List.mem_singleton.1 hm)
  ·have e':¬(i:Int)<(s.len:Int):=e1
   rw[List.take_of_length_le (by omega)]at hno
   exact⟨⟨-1,rfl,by rw[decide_eq_false hno];rfl⟩,rfl⟩
 ·rintro _ h1 ⟨⟨i,rfl,hi⟩,rfl⟩
  exact⟨i,rfl,by rw[hi],rfl⟩
theorem vi (H:aa B h0 h (aP bc a pw mc offs da w ds::As)):ab Tryz.prog DB #[.pointer (some a)] h fun v h'=>v=.bool (eP w offs)∧h'=h:=by
 refine B2 (some a) ?_
 unfold wb
 refine bt (fun e=>by cases e) fun _=>(qH H).mono ?_
 rintro _ _ ⟨rfl,rfl⟩
 exact⟨_,rfl,rfl,rfl⟩
def dK (slot cells:Int):Bool:=decide ((0≤slot∧slot<64)∧1≤cells∧cells≤512)
theorem wJ (slot cells:Int) (h:Heap):ab Tryz.prog Ah #[.int .i64 slot,.int .i64 cells] h fun v h'=>v=.bool (dK slot cells)∧h'=h:=by
 refine yl slot cells ?_
 unfold sa dK
 refine aj (fun e1=>aj (fun e2=>aj (fun e3=>⟨?_,rfl⟩) fun e3=>⟨?_,rfl⟩) fun e2=>⟨?_,rfl⟩) fun e1=>⟨?_,rfl⟩
 ·congr 1;rw[decide_eq_decide];omega
 all_goals (rw[decide_eq_false (by omega)])
theorem Gn (slot cells:Int) (x:bB) (m:aC) (hx:dm h x m) (hz:b9 m) (H:aa B h0 h (aP bc a pw (aF x) offs da w ds::As)) (hc:eP w offs=true∨dK slot cells=false∨slot∈m.drives):
  ab Tryz.prog jf #[.pointer (some a),.int .i64 slot,.int .i64 cells] h fun v h'=>v=.int .i64 (if eP w offs then 14 else if dK slot cells then 4 else 1)∧Sp h h' []:=by
 refine rZ (some a) slot cells ?_
 unfold py
 have hdl:=hz.dr
 refine(vi H).mono ?_
 rintro _ h1 ⟨rfl,rfl⟩
 refine⟨_,rfl,bt (fun e=>⟨by rw[e];rfl,Sp.refl _⟩) fun e=>?_⟩
 refine(qG x m hx hz H).mono ?_
 rintro _ h2 ⟨y,rfl,R2⟩
 refine⟨y,rfl,R2.alloc ag rfl fun a3 h3 H3=>?_⟩
 refine H3.storeAll ag 1 rfl rfl (aF y) rfl rfl rfl rfl fun h4 H4=>?_
 have H4:Sp h1 h4 [bU y m,an a3 ao (aF y)]:=H4
 refine(wJ slot cells h4).mono ?_
 rintro _ h5 ⟨rfl,rfl⟩
 refine⟨_,rfl,aY (fun e2=>⟨by rw[e,e2];rfl,.zip H4.ah⟩) fun e2=>?_⟩
 have hy:dm h5 y m:=H4.at 0 rfl
 refine⟨y.2.2.2.2.2.2.1,(H4.box 1 rfl).cell rfl,(lR _ m.drives slot h5 hy.drives (by omega)).mono ?_⟩
 rintro _ h6 ⟨rfl,rfl⟩
 refine⟨_,rfl,bt (fun e3=>⟨by rw[e,e2];rfl,.zip H4.ah⟩) fun e3=>?_⟩
 rcases hc with hc|hc|hc
 ·rw[e]at hc;cases hc
 ·rw[e2]at hc;cases hc
 ·exact absurd hc (of_decide_eq_false e3)
theorem JW (n:Nat) (hn:n<64) (x:bB) (H:aa B h0 h (iB pw b d::aP bc a pw (aF x) offs da w ds::As)):
  ab Tryz.prog mr #[.pointer (some a),.int .i64 n,.pointer (some b)] h fun v h'=>v=.tuple #[]∧aa B h0 h' (aP bc a pw (aF x) offs (da.set n (some b)) w (ds.set n (some d))::As):=by
 refine lh (some a) n (some b) ?_
 unfold jH
 refine bt (fun _=>?_) fun e=>by cases e
 refine aj (fun _=>aj (fun _=>?_) fun e=>absurd (show(n:Int)<64 by omega) e) fun e=>absurd (show(n:Int)≥0 by omega) e
 refine⟨a,rfl,⟨by omega,by omega⟩,?_⟩
 rw[Int.toNat_natCast,Nat.mul_one]
 have H1:aa B h0 h (aP bc a pw (aF x) offs da w ds::iB pw b d::As):=H.ba 2 [1,0]
 obtain⟨ok,H2⟩:=Go.Vc.aa.kd H1
 have he:(a.add 10).add n=a.add (10+n):=by unfold Addr.add;simp[Nat.add_assoc]
 rw[he]
 refine H2.storeAt ag 0 rfl rfl rfl rfl rfl (by simp[ok.la];omega) fun h' H3=>?_
 rw[List.set_cons_zero,Bz ok.l8]at H3
 exact⟨rfl,aa.Lp ok hn H3⟩
theorem EO (slot:Int) (x:bB) (m:aC) (hx:dm h x m) (hz:b9 m) (H:aa B h0 h (aP bc a pw (aF x) offs da w ds::As)) (hc:eP w offs=true∨slot∉bz ds m.drives):
  ab Tryz.prog BY #[.pointer (some a),.int .i64 slot] h fun v h'=>v=.int .i64 (if eP w offs then 14 else 5)∧Sp h h' []:=by
 refine Af (some a) slot ?_
 unfold ue
 have hdl:=hz.dr
 refine(vi H).mono ?_
 rintro _ h1 ⟨rfl,rfl⟩
 refine⟨_,rfl,bt (fun e=>⟨by rw[e];rfl,Sp.refl _⟩) fun e=>?_⟩
 refine(fe x m hx hz H).mono ?_
 rintro _ h2 ⟨r,rfl,R2⟩
 have hll:(bz ds m.drives).length≤m.drives.length:=List.length_filter_le _ _
 refine⟨r,rfl,(lR r _ slot h2 (R2.seq 0 rfl fun _=>rfl) (by omega)).mono ?_⟩
 rintro _ h3 ⟨rfl,rfl⟩
 refine⟨_,rfl,aY (fun e3=>⟨by rw[e];rfl,.zip R2.ah⟩) fun e3=>?_⟩
 rcases hc with hc|hc
 ·rw[e]at hc;cases hc
 ·exact absurd (of_decide_eq_true e3) hc
end
end Go.Proofs.YtkciobclldnoiaaGreat
namespace Go.Vc
open Go Wl
section
variable {k:Kit} {B:aq} {h0 h:Heap} {As:List HP} {a pw b:Addr} {mc:List Value} {offs:Int} {da:List (Option Addr)} {w:Pow} {ds:aR} {d:bn} {n:Nat}
theorem Il (h8:mc.length=8):(bJ mc pw offs da).set (10+n) (.pointer none)=bJ mc pw offs (da.set n none):=by
 unfold bJ
 rw[List.set_append_right _ _ (by omega),h8,show 10+n-8=n+1+1 by omega,List.set_cons_succ,List.set_cons_succ,List.map_set]
theorem aa.Lq (ok:dD mc da ds) (hn:n<64) (H:aa B h0 h (an a k.tS (bJ mc pw offs (da.set n none))::bX k.tP pw w::(dC k pw da ds++As))):aa B h0 h (aP k a pw mc offs (da.set n none) w (ds.set n none)::As):=by
 have hla:=ok.la
 have hls:=ok.ls
 have ok':dD mc (da.set n none) (ds.set n none):=⟨ok.l8,by simp[hla],by simp[hls],fun i=>by
  by_cases hin:n=i
  ·subst hin
   rw[List.getD_eq_getElem?_getD,List.getD_eq_getElem?_getD,List.getElem?_set_self (by omega),List.getElem?_set_self (by omega)];rfl
  ·have:=ok.same i
   rw[List.getD_eq_getElem?_getD,List.getD_eq_getElem?_getD]at this⊢
   rw[List.getElem?_set_ne hin,List.getElem?_set_ne hin];exact this⟩
 have hll:=rK (k:=k) (pw:=pw) ok
 have hset:dC k pw (da.set n none) (ds.set n none)=(dC k pw da ds).set n emp:=by
  apply List.ext_getElem?
  intro j
  simp only[dC,List.getElem?_set,List.getElem?_zipWith,List.length_zipWith]
  by_cases hij:n=j
  ·subst hij
   rw[if_pos rfl,if_pos (by omega),if_pos rfl,if_pos (by omega),if_pos rfl,if_pos (by omega)];rfl
  ·simp[hij]
 refine aa.ko ok' ?_
 rw[hset]
 obtain⟨L,hLe⟩:∃L,L=dC k pw da ds:=⟨_,rfl⟩
 rw[←hLe]at H hll⊢
 have hLn:n<L.length:=by omega
 have H:=H.il (n+2) (A:=L[n]) (D:=emp) (by rw[List.getElem?_cons_succ,List.getElem?_cons_succ,List.getElem?_append_left hLn,List.getElem?_eq_getElem hLn]) (fun _ _=>trivial)
 have e0:(an a k.tS (bJ mc pw offs (da.set n none))::bX k.tP pw w::(L++As)).set (n+2) emp=an a k.tS (bJ mc pw offs (da.set n none))::bX k.tP pw w::(L.set n emp++As):=by
  rw[List.set_cons_succ,List.set_cons_succ,List.set_append_left _ _ hLn]
 rw[e0]at H
 exact H
end
end Go.Vc
namespace Go.Proofs.YtkciobclldnoiaaGreat
open Go Go.Vc Go.Proofs Wl
set_option maxRecDepth 100000
def vE (m:aC) (l:List Int):aC:={m with seq:=m.seq+1,drives:=l}
def gm (m:aC) (offs:Int) (w:Pow) (ds:aR) (slot cells:Int):Int×aC×Pow×aR:=
 if eP w offs then(14,m,w,ds)else if dK slot cells=false then(1,m,w,ds)else if slot∈m.drives then(4,m,w,ds)else if m.seq≥2147483647 then(7,m,w,ds)else
 let r:=cb m offs w (ds.set slot.toNat (some (bn.new cells.toNat))) (vE m (fE (m.drives++[slot])))
 (r.1,r.2.1,r.2.2.1,if r.1=7 then r.2.2.2.set slot.toNat none else r.2.2.2)
section
variable {B:aq} {h0 h:Heap} {As:List HP} {a pw b:Addr} {offs:Int} {da:List (Option Addr)} {w:Pow} {ds:aR} {d:bn}
theorem EP (n:Nat) (hn:n<64) (x:bB) (H:aa B h0 h (aP bc a pw (aF x) offs da w ds::As)):
  ab Tryz.prog mr #[.pointer (some a),.int .i64 n,.pointer none] h fun v h'=>v=.tuple #[]∧aa B h0 h' (aP bc a pw (aF x) offs (da.set n none) w (ds.set n none)::As):=by
 refine lh (some a) n none ?_
 unfold jH
 refine bt (fun _=>?_) fun e=>by cases e
 refine aj (fun _=>aj (fun _=>?_) fun e=>absurd (show(n:Int)<64 by omega) e) fun e=>absurd (show(n:Int)≥0 by omega) e
 refine⟨a,rfl,⟨by omega,by omega⟩,?_⟩
 rw[Int.toNat_natCast,Nat.mul_one]
 obtain⟨ok,H2⟩:=Go.Vc.aa.kd H
 have he:(a.add 10).add n=a.add (10+n):=by unfold Addr.add;simp[Nat.add_assoc]
 rw[he]
 refine H2.storeAt ag 0 rfl rfl rfl rfl rfl (by simp[ok.la];omega) fun h' H3=>?_
 rw[List.set_cons_zero,Il ok.l8]at H3
 exact⟨rfl,aa.Lq ok hn H3⟩
theorem zI (x:bB) (m:aC) (hx:dm h x m) (hz:b9 m) (H:aa B h0 h (aP bc a pw (aF x) offs da w ds::As)):
  ab Tryz.prog gi #[.pointer (some a)] h fun v h'=>∃(y:bB) (L:List (cN×Wl.cu)) (pool:List (Sl×List Int)),v=dF y∧(y.1=m.seq∧y.2.1=m.next∧(y.2.2.1,y.2.2.2.1,y.2.2.2.2.1)=m.p∧y.2.2.2.2.2.1=m.extra)∧L.map Prod.snd=m.aG∧(∀p∈L,rJ pool p)∧
   Sp h h' [eO 1 aw pool,ak aJ y.2.2.2.2.2.2.1 1 aw m.drives,ak aM y.2.2.2.2.2.2.2 4 bD (L.map Prod.fst)]:=by
 refine jg (some a) ?_
 unfold gI
 obtain⟨ok,hb⟩:=aa.cG H
 refine(Sp.refl h).alloc ag rfl fun a1 h1 H1=>?_
 have hb1:=hb.ah H1.ah hb.lt
 refine bt (fun e=>by cases e) (fun _=>⟨a,rfl,x,hb1.aH _ rfl,(lK x m h1 (hx.up H1.ah) hz).mono ?_⟩)
 rintro _ h2 ⟨y,L,pool,rfl,hf,hm,hL,R2⟩
 have H2:=H1.comp R2
 refine⟨y,rfl,?_⟩
 refine H2.store ag 0 rfl rfl 0 (aF y) rfl rfl rfl (by simp[Value.cells]) fun h3 H3=>?_
 exact⟨y,(H3.box 0 rfl).aH _ rfl,y,L,pool,rfl,hf,hm,hL,H3.cW [1,2,3]⟩
theorem JX (slot cells:Int) (x:bB) (m:aC) (hm:bG m=true) (H:aa B h0 h (aP bc a pw (aF x) offs da w ds::bU x m::As)):
  ab Tryz.prog jf #[.pointer (some a),.int .i64 slot,.int .i64 cells] h fun v h'=>v=.int .i64 (gm m offs w ds slot cells).1∧
   ∃y da',aa B h0 h' (aP bc a pw (aF y) offs da' (gm m offs w ds slot cells).2.2.1 (gm m offs w ds slot cells).2.2.2::bU y (gm m offs w ds slot cells).2.1::As):=by
 refine rZ (some a) slot cells ?_
 unfold py
 have hz:=nC hm
 have hd64:=mg hm
 obtain⟨g1,g2,g3,g4⟩:=(gw m).1 ((dO m).1 hm).1
 refine(vi H).mono ?_
 rintro _ h1 ⟨rfl,rfl⟩
 refine⟨_,rfl,bt (fun e=>?_) fun e1=>?_⟩
 ·have ep:gm m offs w ds slot cells=(14,m,w,ds):=by unfold gm;rw[if_pos e]
  rw[ep];exact⟨rfl,x,da,H⟩
 refine(zI x m (H.at 1 rfl) hz H).mono ?_
 rintro _ h2 ⟨y,L,pool,rfl,hf,hmo,hL,R2⟩
 have H2:=(H.comp R2).front
 refine⟨y,rfl,H2.alloc ag rfl fun a3 h3 H3=>?_⟩
 have H3:=H3.cA
 refine H3.storeAll ag 0 rfl rfl (aF y) rfl rfl rfl rfl fun h4 H4=>?_
 have H4:aa B h0 h4 (an a3 ao (aF y)::eO 1 aw pool::ak aJ y.2.2.2.2.2.2.1 1 aw m.drives::ak aM y.2.2.2.2.2.2.2 4 bD (L.map Prod.fst)::aP bc a pw (aF x) offs da w ds::bU x m::As):=H4
 refine(wJ slot cells h4).mono ?_
 rintro _ h5 ⟨rfl,rfl⟩
 refine⟨_,rfl,aY (fun e2=>?_) fun e2=>?_⟩
 ·have ep:gm m offs w ds slot cells=(1,m,w,ds):=by unfold gm;rw[if_neg (by rw[e1];decide),if_pos e2]
  rw[ep];exact⟨rfl,x,da,H4.ba 6 [4,5]⟩
 refine⟨y.2.2.2.2.2.2.1,(H4.box 0 rfl).cell rfl,(lR _ m.drives slot h5 (H4.seq 2 rfl fun _=>rfl) (by omega)).mono ?_⟩
 rintro _ h6 ⟨rfl,rfl⟩
 refine⟨_,rfl,bt (fun e3=>?_) fun e3=>?_⟩
 ·have ep:gm m offs w ds slot cells=(4,m,w,ds):=by unfold gm;rw[if_neg (by rw[e1];decide),if_neg (by rw[e2];decide),if_pos (of_decide_eq_true e3)]
  rw[ep];exact⟨rfl,x,da,H4.ba 6 [4,5]⟩
 have hnin:slot∉m.drives:=of_decide_eq_false e3
 refine⟨y.1,(H4.box 0 rfl).cell0 rfl,aj (fun e4=>?_) fun e4=>?_⟩
 ·rw[hf.1]at e4
  have ep:gm m offs w ds slot cells=(7,m,w,ds):=by unfold gm;rw[if_neg (by rw[e1];decide),if_neg (by rw[e2];decide),if_neg hnin,if_pos e4]
  rw[ep];exact⟨rfl,x,da,H4.ba 6 [4,5]⟩
 rw[hf.1]at e4
 have hrr:=of_decide_eq_true e2
 obtain⟨n,hn⟩:∃n:Nat,slot=n:=⟨slot.toNat,by omega⟩
 have hn64:n<64:=by omega
 have H5:aa B h0 h6 (aP bc a pw (aF x) offs da w ds::an a3 ao (aF y)::eO 1 aw pool::ak aJ y.2.2.2.2.2.2.1 1 aw m.drives::ak aM y.2.2.2.2.2.2.2 4 bD (L.map Prod.fst)::bU x m::As):=H4.ba 6 [4,0,1,2,3,5]
 refine(Cq H5).mono ?_
 rintro _ h7 ⟨rfl,rfl⟩
 refine⟨_,rfl,(y7 cells pw h7).mono ?_⟩
 rintro _ h8 ⟨Q1,_⟩
 obtain⟨b,rfl,R8⟩:=Q1 ⟨hrr.2.1,hrr.2.2⟩
 have H8:=H5.cq R8
 subst hn
 refine⟨_,rfl,(JW n hn64 x H8).mono ?_⟩
 rintro _ h9 ⟨rfl,H9⟩
 obtain⟨ds1,hds1⟩:∃ds1,ds1=ds.set n (some (bn.new cells.toNat)):=⟨_,rfl⟩
 rw[←hds1]at H9
 have H9:aa B h0 h9 (an a3 ao (aF y)::ak aJ y.2.2.2.2.2.2.1 1 aw m.drives::eO 1 aw pool::ak aM y.2.2.2.2.2.2.2 4 bD (L.map Prod.fst)::aP bc a pw (aF x) offs (da.set n (some b)) w ds1::bU x m::As):=H9.ba 6 [1,3,2,4,0,5]
 refine⟨(),rfl,y.1,(H9.box 0 rfl).cell0 rfl,?_⟩
 rw[hf.1,Go.Vc.wrap_small (m.seq+1) (by omega) (by omega)]
 refine H9.nH ag 0 rfl rfl [.int .i64 (m.seq+1)] rfl rfl rfl (by simp[Value.cells]) fun h10 H10=>?_
 have H10:aa B h0 h10 (an a3 ao (.int .i64 (m.seq+1)::(aF y).drop 1)::ak aJ y.2.2.2.2.2.2.1 1 aw m.drives::eO 1 aw pool::ak aM y.2.2.2.2.2.2.2 4 bD (L.map Prod.fst)::aP bc a pw (aF x) offs (da.set n (some b)) w ds1::bU x m::As):=H10
 refine⟨_,(H10.box 0 rfl).cell rfl,?_⟩
 refine H10.push ag 1 rfl jN rfl (by decide) (fun _=>rfl) iJ (n:Int) rfl (by decide) (by omega) fun o h12 H12=>?_
 refine H12.store ag 0 rfl rfl 6 [.slice o.ptr o.len o.cap] rfl rfl rfl (by simp[Value.cells]) fun h13 H13=>?_
 obtain⟨y2,hy2⟩:∃y2:bB,y2=(m.seq+1,y.2.1,y.2.2.1,y.2.2.2.1,y.2.2.2.2.1,y.2.2.2.2.2.1,o,y.2.2.2.2.2.2.2):=⟨_,rfl⟩
 have ed:y2.2.2.2.2.2.2.1=o:=by rw[hy2]
 have eo:y2.2.2.2.2.2.2.2=y.2.2.2.2.2.2.2:=by rw[hy2]
 have H13:aa B h0 h13 (an a3 ao (aF y2)::ak aJ y2.2.2.2.2.2.2.1 1 aw (m.drives++[(n:Int)])::eO 1 aw pool::ak aM y2.2.2.2.2.2.2.2 4 bD (L.map Prod.fst)::aP bc a pw (aF x) offs (da.set n (some b)) w ds1::bU x m::As):=by rw[ed,eo,hy2];exact H13
 refine⟨_,(H13.box 0 rfl).cell rfl,(uL y2.2.2.2.2.2.2.1 (m.drives++[(n:Int)]) h13 (H13.own 1 rfl) (by simp;omega)).mono ?_⟩
 rintro _ h14 ⟨rfl,o14,p14⟩
 have H14:=H13.gW 1 rfl p14 o14
 obtain⟨dr,hdr⟩:∃dr,dr=fE (m.drives++[(n:Int)]):=⟨_,rfl⟩
 rw[←hdr]at H14
 have H14:aa B h0 h14 (an a3 ao (aF y2)::ak aJ y2.2.2.2.2.2.2.1 1 aw dr::eO 1 aw pool::ak aM y2.2.2.2.2.2.2.2 4 bD (L.map Prod.fst)::aP bc a pw (aF x) offs (da.set n (some b)) w ds1::bU x m::As):=H14
 refine⟨(),rfl,y2,(H14.box 0 rfl).aH _ rfl,?_⟩
 obtain⟨M,hM⟩:∃M,M=vE m dr:=⟨_,rfl⟩
 have H15:aa B h0 h14 (bU y2 M::aP bc a pw (aF x) offs (da.set n (some b)) w ds1::bU x m::As):=aa.xw (m:=M) (L:=L) (pool:=pool) (by rw[hM,hy2];exact⟨rfl,hf.2.1,hf.2.2.1,hf.2.2.2⟩) (by rw[hM];exact hmo) hL (by rw[hM];exact H14.ba 6 [2,1,3,4,5])
 have hMz:b9 M:=by rw[hM];exact⟨by show dr.length≤_;rw[hdr,tw];simp;omega,hz.ob,hz.nm⟩
 refine(Gk x m y2 M (As:=bU y2 M::As) (St.eM 0 rfl fun _ hq=>hq) hz hMz (by omega) (H15.ba 3 [1,2,0])).mono ?_
 rintro _ h16 ⟨rfl,y3,H16⟩
 have ep:gm m offs w ds n cells=((cb m offs w ds1 M).1,(cb m offs w ds1 M).2.1,(cb m offs w ds1 M).2.2.1,if(cb m offs w ds1 M).1=7 then(cb m offs w ds1 M).2.2.2.set n none else(cb m offs w ds1 M).2.2.2):=by
  unfold gm
  rw[if_neg (by rw[e1];decide),if_neg (by rw[e2];decide),if_neg hnin,if_neg e4,hM,hdr,hds1];rfl
 rw[ep]
 obtain⟨r,hr⟩:∃r,r=cb m offs w ds1 M:=⟨_,rfl⟩
 rw[←hr]at H16⊢
 refine⟨_,rfl,aW (cJ (fun e7=>?_) fun e7=>?_)⟩
 ·refine(EP n hn64 y3 (H16.ba 3 [0,1])).mono ?_
  rintro _ h17 ⟨rfl,H17⟩
  exact⟨(),rfl,rfl,y3,_,by rw[if_pos e7];exact H17⟩
 ·exact⟨rfl,y3,_,by rw[if_neg e7];exact H16.ba 3 [0,1]⟩
end
end Go.Proofs.YtkciobclldnoiaaGreat
namespace Go.Proofs.YtkciobclldnoiaaGreat
open Go Go.Vc Go.Proofs Wl
end Go.Proofs.YtkciobclldnoiaaGreat
namespace Go.Proofs.YtkciobclldnoiaaGreat
open Go Go.Vc Go.Proofs Wl
theorem Im {o b:Int} {live:List Int} (ho:0≤o∧o≤16777215) (hb:0≤b∧b<8) (hnd:live.Nodup) (hin:∀k∈live,0≤k∧k<64):(dV o b live).Nodup∧(dV o b live).Perm live:=by
 have e:dV o b live=mF ((8*o+b)%64).toNat live:=by unfold dV;rw[if_pos (by omega)]
 rw[e]
 have h1:=Lc ((8*o+b)%64).toNat live
 refine⟨h1,(List.perm_ext_iff_of_nodup h1 hnd).2 fun a=>?_⟩
 rw[BM]
 exact⟨fun h=>h.1,fun h=>⟨h,hin a h⟩⟩
end Go.Proofs.YtkciobclldnoiaaGreat
namespace Go.Proofs.YtkciobclldnoiaaGreat
open Go Go.Vc Go.Proofs Wl
theorem nO {l:List Int} (h:l.Pairwise (·<·)):fE l=l:=by
 have hp:(fE l).Perm l:=List.mergeSort_perm _ _
 have hs:(fE l).Pairwise (fun a b=>decide (a≤b)=true):=List.pairwise_mergeSort (fun a b c h1 h2=>by simp at*;omega) (fun a b=>by simp;omega) l
 refine hp.eq_of_pairwise (le:=fun a b:Int=>decide (a≤b)=true) ?_ hs (h.imp fun h=>by simp;omega)
 intro a b _ _ h1 h2;simp at h1 h2;omega
theorem pe (c:Nat) (x:Int) (hx:0<x):aU (List.replicate c x) (List.replicate c x).length=(List.range c).map fun i:Nat=>(i:Int):=by
 rw[List.length_replicate]
 unfold aU
 refine List.filter_eq_self.2 fun y hy=>?_
 obtain⟨i,hi,rfl⟩:=List.mem_map.1 hy
 have hi:=List.mem_range.1 hi
 simp[List.getD_eq_getElem?_getD,hi];omega
theorem JY {p:Pm} {extra:Int} (hp:bO p=true) (hx:0≤extra∧extra≤16) (c:Nat) (x:Int) (hc:1≤c∧c≤24) (hx2:1≤x∧x≤512):oz p extra (List.replicate c x)=0:=by
 have h1:(dd (List.replicate c x)).2=true:=by
  have hall:(List.replicate c x).all (de · 0 512)=true:=List.all_eq_true.2 fun y hy=>by
   rw[List.eq_of_mem_replicate hy];exact(iL _ _ _).2 ⟨by omega,by omega⟩
  unfold dd
  rw[if_pos hall,pe c x (by omega),List.length_replicate]
  simp;omega
 have h2:de extra 0 16=true:=(iL _ _ _).2 hx
 have h3:((aU (List.replicate c x) (List.replicate c x).length).any fun i=>decide ((List.replicate c x).getD i.toNat 0<((aZ (bL p extra (List.replicate c x))).length:Int)))=false:=by
  refine List.any_eq_false.2 fun y hy=>?_
  rw[pe c x (by omega)]at hy
  obtain⟨i,hi,rfl⟩:=List.mem_map.1 hy
  have hi:=List.mem_range.1 hi
  have hs:=Cy p extra (List.replicate c x) (by simp;omega)
  have hg:(List.replicate c x).getD ((i:Int)).toNat 0=x:=by rw[Int.toNat_natCast];simp[List.getD_eq_getElem?_getD,hi]
  rw[hg]
  simp;omega
 unfold oz
 rw[h1,hp,h2,h3];rfl
structure rS (p:Pm) (extra:Int) (c:Nat) (x:Int) (m:aC) (D:aR):Prop where
 m_eq:m=bL p extra (List.replicate c x)
 len:D.length=64
 may:bG m=true
 dr:m.drives=(List.range c).map fun i:Nat=>(i:Int)
 at_:∀s,bF D s=if s∈m.drives then some ⟨x.toNat,aZ m,0,[],false,false⟩else none
theorem ER {p:Pm} {extra:Int} {c:Nat} {x:Int} (hp:bO p=true) (he:0≤extra∧extra≤16) (hc:1≤c∧c≤24) (hx2:1≤x∧x≤512) {D:aR} (h64:D.length=64)
  (hD:∀s,bF D s=if s∈aU (List.replicate c x) (List.replicate c x).length then some ⟨((List.replicate c x).getD s.toNat 0).toNat,aZ (bL p extra (List.replicate c x)),0,[],false,false⟩else none):rS p extra c x (bL p extra (List.replicate c x)) D:=by
 have e0:=JY hp he c x hc hx2
 refine⟨rfl,h64,EE (by simp;omega) e0,pe c x (by omega),fun s=>?_⟩
 rw[hD s]
 show(if s∈aU _ _ then _ else none)=(if s∈aU _ _ then _ else none)
 by_cases h:s∈aU (List.replicate c x) (List.replicate c x).length
 ·rw[if_pos h,if_pos h]
  rw[pe c x (by omega)]at h
  obtain⟨i,hi,rfl⟩:=List.mem_map.1 h
  have hi:=List.mem_range.1 hi
  rw[Int.toNat_natCast,nS 0 (by simpa using hi),List.getElem_replicate]
 ·rw[if_neg h,if_neg h]
theorem rS.live {p:Pm} {extra:Int} {c:Nat} {x:Int} {m:aC} {D:aR} (F:rS p extra c x m D):bz D m.drives=m.drives:=List.filter_eq_self.2 fun k hk=>by
 unfold isLive;rw[F.at_ k,if_pos hk];rfl
theorem rS.aG {p:Pm} {extra:Int} {c:Nat} {x:Int} {m:aC} {D:aR} (F:rS p extra c x m D):m.aG=[]∧m.seq=1∧m.next=0∧m.p=p∧m.extra=extra:=by rw[F.m_eq];exact⟨rfl,rfl,rfl,rfl,rfl⟩
theorem BO {s c:Int} (h:0≤s∧s<64) (h2:1≤c∧c≤512):dK s c=true:=by
 unfold dK;exact decide_eq_true ⟨h,h2.1,h2.2⟩
theorem Io {p:Pm} {extra:Int} {m:aC} {D:aR} (F:rS p extra 2 200 m D) {k c:Int} (hk:2≤k∧k<64) (hc:100≤c∧c≤499):
  let M:=vE m [0,1,k]
  bG M=true∧∃D2,gm m 0 Pow.new D k c=(0,M,Pow.new,D2)∧D2.length=64∧bz D2 M.drives=[0,1,k]∧(∀j∈[0,1,k],∃d,bF D2 j=some d∧d.lost=false∧kW M d.l=true∧d.l.length≤18∧100≤d.room)∧∃d,bF D2 k=some d∧d.l=aZ M∧d.room=c.toNat:=by
 intro M
 obtain⟨o1,o2,o3,o4,o5⟩:=F.aG
 have hdr:m.drives=[0,1]:=by rw[F.dr];rfl
 have hM:bG M=true:=Gm F.may (by omega) (by simp;omega) (by simp;omega)
 refine⟨hM,?_⟩
 have hso:fE (m.drives++[k])=[0,1,k]:=by rw[hdr];exact nO (by simp;omega)
 obtain⟨ds1,hds⟩:∃ds1,ds1=D.set k.toNat (some (bn.new c.toNat)):=⟨_,rfl⟩
 have h64:ds1.length=64:=by rw[hds,List.length_set];exact F.len
 have hat:∀s,bF ds1 s=if s=k then some (bn.new c.toNat)else bF D s:=fun s=>by
  have:=lQ D k.toNat (bn.new c.toNat) s (by omega) F.len
  unfold fD at this
  rw[show((k.toNat:Nat):Int)=k by omega]at this
  rw[hds];exact this
 have a0:bF ds1 0=some ⟨200,aZ m,0,[],false,false⟩:=by rw[hat,if_neg (by omega),F.at_,if_pos (by rw[hdr];simp)];rfl
 have a1:bF ds1 1=some ⟨200,aZ m,0,[],false,false⟩:=by rw[hat,if_neg (by omega),F.at_,if_pos (by rw[hdr];simp)];rfl
 have a2:bF ds1 k=some (bn.new c.toNat):=by rw[hat,if_pos rfl]
 have hlive:bz ds1 M.drives=[0,1,k]:=by
  show bz ds1 [0,1,k]=_
  refine List.filter_eq_self.2 fun j hj=>?_
  simp only[List.mem_cons,List.not_mem_nil,or_false]at hj
  unfold isLive
  rcases hj with rfl|rfl|rfl
  ·rw[a0];rfl
  ·rw[a1];rfl
  ·rw[a2];rfl
 have hp9:=EM hM
 have hp9':=EM F.may
 have room:∀j∈[0,1,k],∃d,bF ds1 j=some d∧d.lost=false∧d.l.length≤9∧100≤d.room:=fun j hj=>by
  simp only[List.mem_cons,List.not_mem_nil,or_false]at hj
  rcases hj with rfl|rfl|rfl
  ·exact⟨_,a0,rfl,hp9',show 100≤200 by decide⟩
  ·exact⟨_,a1,rfl,hp9',show 100≤200 by decide⟩
  ·exact⟨_,a2,rfl,Nat.zero_le _,by show 100≤c.toNat;omega⟩
 obtain⟨_,C2⟩:=EN (m:=m) (offs:=0) (w:=Pow.new) (ds:=ds1) (n:=M) xC h64 rfl hM rfl
 rw[hlive]at C2
 obtain⟨D2,q1,q2,q3⟩:=C2 (by simp) (zH fun j hj=>by
  obtain⟨d,r1,r2,r3,r4⟩:=room j hj
  exact⟨d,r1,r2,by omega,by omega⟩)
 have hat2:∀j∈[0,1,k],∀d,bF ds1 j=some d→bF D2 j=some (eU (aZ M) d):=fun j hj d hd=>by
  rw[q3 j,hd,Option.map_some,if_pos hj]
  obtain⟨d',r1,r2,r3,r4⟩:=room j hj
  rw[hd]at r1
  injection r1 with r1
  subst r1
  rw[wI (by omega)]
 refine⟨D2,?_,q2,?_,fun j hj=>?_,?_⟩
 ·unfold gm
  rw[if_neg (by decide),if_neg (by rw[BO (by omega) (by omega)];decide),if_neg (by rw[hdr];simp;omega),if_neg (by omega),hso,←hds]
  show((cb m 0 Pow.new ds1 M).1,(cb m 0 Pow.new ds1 M).2.1,(cb m 0 Pow.new ds1 M).2.2.1,_)=_
  rw[q1];rfl
 ·show bz D2 [0,1,k]=_
  refine List.filter_eq_self.2 fun j hj=>?_
  obtain⟨d,r1,r2,_⟩:=room j hj
  unfold isLive
  rw[hat2 j hj d r1]
  dsimp only
  rw[(ku _ _).1,r2];rfl
 ·obtain⟨d,r1,r2,r3,r4⟩:=room j hj
  refine⟨_,hat2 j hj d r1,by rw[(ku _ _).1];exact r2,?_,by rw[vf,List.length_append];omega,by rw[(ku _ _).2];exact r4⟩
  unfold kW
  rw[hM,Bool.true_and,vf]
  exact List.all_eq_true.2 fun pg hpg=>decide_eq_true (List.mem_append_right _ hpg)
 ·refine⟨_,hat2 k (by simp) _ a2,by rw[vf];rfl,by rw[(ku _ _).2];rfl⟩
theorem JZ {M:aC} {D2:aR} {b:List UInt8} {name:ByteArray} (hM:bG M=true) (h64:D2.length=64) (ho:M.aG=[]) (hs:M.seq≤100) (hx:M.next≤100) (hne:bz D2 M.drives≠[]) (hn:gq name=true) (hb:(b.length:Int)≤M.p.1*M.p.2.2*8)
  (hr:∀j∈bz D2 M.drives,∃d,bF D2 j=some d∧d.lost=false∧(d.l.length:Int)+9+(aV M.p b).length*(M.p.1+M.extra).toNat≤d.room):
  (ca M.p M.next (aV M.p b).length=none→fM M 0 Pow.new D2 name b=(8,M,Pow.new,D2))∧∀t,ca M.p M.next (aV M.p b).length=some t→
   bG (dY M ⟨name,M.next,b.length,t⟩)=true∧∃D3,fM M 0 Pow.new D2 name b=(0,dY M ⟨name,M.next,b.length,t⟩,Pow.new,D3)∧D3.length=64∧
    ∀k,bF D3 k=(bF D2 k).map fun d=>if k∈bz D2 M.drives then eU ((dn M M.next t (aV M.p b) (bz D2 M.drives) k (aV M.p b).length).map dz++aZ (dY M ⟨name,M.next,b.length,t⟩)) d else d:=by
 have hrf:cV M (eP Pow.new 0) D2 name b.length=0:=Ik hn (fun e he=>by rw[ho]at he;cases he) hb (by rw[ho];decide) hne (by omega) (by omega)
 obtain⟨_,P0⟩:=JT (m:=M) (offs:=0) (w:=Pow.new) (ds:=D2) (name:=name) (b:=b) xC h64 hM
 obtain⟨P1,P2⟩:=P0 hrf
 refine⟨P1,fun t ht=>?_⟩
 obtain⟨hmn,_,P3⟩:=P2 t ht
 refine⟨hmn,?_⟩
 have h9:=EM hmn
 have hN:∀j,gT (aZ (dY M ⟨name,M.next,b.length,t⟩)).length (cF M M.next t (aV M.p b) (bz D2 M.drives) (aV M.p b).length) j≤9+(aV M.p b).length*(M.p.1+M.extra).toNat∧0≤gT (aZ (dY M ⟨name,M.next,b.length,t⟩)).length (cF M M.next t (aV M.p b) (bz D2 M.drives) (aV M.p b).length) j:=fun j=>by
  rw[vg,EJ,List.length_map]
  have:=Gj M M.next t (aV M.p b) (bz D2 M.drives) j (aV M.p b).length
  have e:(((aV M.p b).length*(M.p.1+M.extra).toNat:Nat):Int)=((aV M.p b).length:Int)*((M.p.1+M.extra).toNat:Int):=Int.natCast_mul _ _
  omega
 obtain⟨D3,q1,q2,q3⟩:=P3 (zH fun j hj=>by
  obtain⟨d,r1,r2,r3⟩:=hr j hj
  have:=hN j
  exact⟨d,r1,r2,this.2,by omega⟩)
 refine⟨D3,q1,q2,fun k=>?_⟩
 rw[q3 k]
 cases hd:bF D2 k with
 |none=>rfl
 |some d=>
  rw[Option.map_some,Option.map_some]
  by_cases hk:k∈bz D2 M.drives
  ·obtain⟨d',r1,r2,r3⟩:=hr k hk
   rw[hd]at r1
   injection r1 with r1
   subst r1
   have:=hN k
   rw[if_pos hk,if_pos hk,wI (by omega)]
  ·rw[if_neg hk,if_neg hk]
end Go.Proofs.YtkciobclldnoiaaGreat
namespace Go.Proofs.YtkciobclldnoiaaGreat
open Go Go.Vc Go.Proofs Wl
set_option maxRecDepth 100000
section
variable {B:aq} {h0 h:Heap} {As:List HP} {a pw:Addr} {offs:Int} {da:List (Option Addr)} {w:Pow} {ds:aR} {mc:List Value}
theorem ES {k:Int} {d:bn} (hd:bF ds k=some d) (H:aa B h0 h (aP bc a pw mc offs da w ds::As)):∃(b:Addr) (s bl:Sl),hJ da k=some b∧bN h b bM (eK pw d s bl)∧eV h s 1 aD d.l∧dj d:=by
 obtain⟨ok,_⟩:=aa.cG H
 rcases lN ok k with⟨h1,_⟩|⟨n,d',b,rfl,hn,h1,h2,h3,h4⟩
 ·rw[h1]at hd;cases hd
 ·rw[h2]at hd
  injection hd with hd
  subst hd
  obtain⟨b',hb',H1⟩:=Go.Vc.aa.kp H h1
  rw[h3]at hb'
  injection hb' with hb'
  injection hb' with hb'
  subst hb'
  obtain⟨okd,s,bl,H2⟩:=aa.o0 H1
  exact⟨b,s,bl,h4,H2.box 0 rfl,(H2.ba 2 [1,0]).Gw fun _=>rfl,okd⟩
theorem ET {k:Int} (H:aa B h0 h (aP bc a pw mc offs da w ds::As)):ab Tryz.prog cr #[.pointer (some a),.int .i64 k] h fun v h'=>v=.pointer (hJ da k)∧h'=h:=by
 obtain⟨ok,hb⟩:=aa.cG H
 exact l5 k ok hb
theorem EU {k:Int} {d:bn} {b:Addr} (x:bB) (m:aC) (hd:bF ds k=some d) (hb:hJ da k=some b) (hx:dm h x m) (hz:b9 m) (H:aa B h0 h (aP bc a pw mc offs da w ds::As)):
  ab Tryz.prog mL #[.pointer (some b),dF x] h fun v h'=>v=.bool (kW m d.l)∧Sp h h' []:=by
 obtain⟨b',s,bl,hb',q1,q2,q3⟩:=ES hd H
 rw[hb]at hb'
 injection hb' with hb'
 subst hb'
 exact HZ b pw d s bl x m h q1 q2 q3 hx hz
end
end Go.Proofs.YtkciobclldnoiaaGreat
namespace Go.Proofs.YtkciobclldnoiaaGreat
open Go Go.Vc Go.Proofs Wl
set_option maxRecDepth 100000
def fw (a pw:Addr) (da:List (Option Addr)) (offs:Int) (w:Pow) (ds:aR) (m:aC):HP:=HP.ex fun x:bB=>(aP bc a pw (aF x) offs da w ds).sep (bU x m)
section
variable {B:aq} {h0 h:Heap} {As:List HP} {a pw:Addr} {offs:Int} {da:List (Option Addr)} {w:Pow} {ds:aR} {m:aC}
theorem kv (H:aa B h0 h (fw a pw da offs w ds m::As)):∃x,aa B h0 h (aP bc a pw (aF x) offs da w ds::bU x m::As):=by
 obtain⟨x,H⟩:=H.vq
 exact⟨x,H.xT.Iz⟩
theorem xD {x:bB} (H:aa B h0 h (aP bc a pw (aF x) offs da w ds::bU x m::As)):aa B h0 h (fw a pw da offs w ds m::As):=
 aa.xS (F:=fun x:bB=>(aP bc a pw (aF x) offs da w ds).sep (bU x m)) x H.Iz.nc
end
section
variable {B:aq} {h0 h:Heap} {As:List HP} {a pw:Addr} {offs:Int} {da:List (Option Addr)} {w:Pow} {ds:aR} {m:aC}
theorem zJ (p:Pm) (extra:Int) (s:Sl) (l:List Int) (hS:St B h0 As fun h=>Rd h s 1 aw l) (hl:l.length≤64) (e0:oz p extra l=0) (hw:w=Pow.new) (H:aa B h0 h (bX bo pw w::As)):
  ab Tryz.prog oT #[j3 p,.int .i64 extra,.pointer (some pw),.slice s.ptr s.len s.cap] h fun v h'=>∃(a:Addr) (da:List (Option Addr)) (D:aR),v=.tuple #[.pointer (some a),.int .i64 0]∧D.length=64∧
   (∀s,bF D s=if s∈aU l l.length then some ⟨(l.getD s.toNat 0).toNat,aZ (bL p extra l),0,[],false,false⟩else none)∧aa B h0 h' (fw a pw da 0 Pow.new D (bL p extra l)::As):=by
 subst hw
 obtain⟨D,f1,f2,f3⟩:=JU (p:=p) (extra:=extra) (l:=l) hl e0
 refine(wE p extra s l hS (by omega) H).mono ?_
 rintro _ h' ⟨_,Q0⟩
 rw[f1]at Q0
 obtain⟨a,y,da,rfl,H7⟩:=Q0 rfl
 exact⟨a,da,D,rfl,f2,f3,xD H7⟩
theorem MA (name:ByteArray) (s:Sl) (b:List UInt8) (hS:St B h0 As fun h=>Rd h s 1 aD b) (hsc:s.len≤s.cap) (hn:name.size≤2^40) (hm:bG m=true) (hbl:b.length≤2^20) (H:aa B h0 h (fw a pw da offs w ds m::As)):
  ab Tryz.prog ml #[.pointer (some a),.string name,.slice s.ptr s.len s.cap] h fun v h'=>v=.int .i64 (fM m offs w ds name b).1∧
   aa B h0 h' (fw a pw da offs (fM m offs w ds name b).2.2.1 (fM m offs w ds name b).2.2.2 (fM m offs w ds name b).2.1::As):=by
 obtain⟨x,H⟩:=kv H
 obtain⟨g1,g2,g3,g4⟩:=(gw m).1 ((dO m).1 hm).1
 refine(Ld x m name s b hS hsc hn (nC hm) g3 g4 (lZ hm) (mg hm) (by omega) (by omega) hbl H).mono ?_
 rintro _ h' ⟨rfl,y,H'⟩
 exact⟨rfl,xD H'⟩
theorem GR (slot cells:Int) (hm:bG m=true) (H:aa B h0 h (fw a pw da offs w ds m::As)):
  ab Tryz.prog jf #[.pointer (some a),.int .i64 slot,.int .i64 cells] h fun v h'=>v=.int .i64 (gm m offs w ds slot cells).1∧
   ∃da',aa B h0 h' (fw a pw da' offs (gm m offs w ds slot cells).2.2.1 (gm m offs w ds slot cells).2.2.2 (gm m offs w ds slot cells).2.1::As):=by
 obtain⟨x,H⟩:=kv H
 refine(JX slot cells x m hm H).mono ?_
 rintro _ h' ⟨rfl,y,da',H'⟩
 exact⟨rfl,da',xD H'⟩
theorem EV (hm:bG m=true) (H:aa B h0 h (fw a pw da offs w ds m::As)):
  ab Tryz.prog kY #[.pointer (some a)] h fun v h'=>∃r:Sl,v=.slice r.ptr r.len r.cap∧Sp h h' [ak aJ r 1 aw (bz ds m.drives)]:=by
 obtain⟨x,H⟩:=kv H
 exact fe x m (H.at 1 rfl) (nC hm) H
theorem EW (hm:bG m=true) (H:aa B h0 h (fw a pw da offs w ds m::As)):
  ab Tryz.prog gi #[.pointer (some a)] h fun v h'=>∃y:bB,v=dF y∧Sp h h' [bU y m]:=by
 obtain⟨x,H⟩:=kv H
 exact qG x m (H.at 1 rfl) (nC hm) H
theorem pf (k:Int) (H:aa B h0 h (fw a pw da offs w ds m::As)):ab Tryz.prog cr #[.pointer (some a),.int .i64 k] h fun v h'=>v=.pointer (hJ da k)∧h'=h:=by
 obtain⟨x,H⟩:=kv H
 exact ET H
theorem AU {k:Int} {d:bn} (hd:bF ds k=some d) (H:aa B h0 h (fw a pw da offs w ds m::As)):∃b,hJ da k=some b:=by
 obtain⟨x,H⟩:=kv H
 obtain⟨b,_,_,hb,_⟩:=ES hd H
 exact⟨b,hb⟩
theorem J0 {k:Int} {d:bn} {b:Addr} (z:bB) (n:aC) (hd:bF ds k=some d) (hb:hJ da k=some b) (hx:dm h z n) (hz:b9 n) (H:aa B h0 h (fw a pw da offs w ds m::As)):
  ab Tryz.prog mL #[.pointer (some b),dF z] h fun v h'=>v=.bool (kW n d.l)∧Sp h h' []:=by
 obtain⟨x,H⟩:=kv H
 exact EU z n hd hb hx hz H
theorem EX {k:Int} {d:bn} {b:Addr} (hd:bF ds k=some d) (hb:hJ da k=some b) (H:aa B h0 h (fw a pw da offs w ds m::As)):∃s bl:Sl,bN h b bM (eK pw d s bl)∧eV h s 1 aD d.l∧dj d:=by
 obtain⟨x,H⟩:=kv H
 obtain⟨b',s,bl,hb',q1,q2,q3⟩:=ES hd H
 rw[hb]at hb'
 injection hb' with hb'
 subst hb'
 exact⟨s,bl,q1,q2,q3⟩
theorem Lr {k:Int} {d:bn} {b:Addr} (hd:bF ds k=some d) (hb:hJ da k=some b) (H:aa B h0 h (fw a pw da offs w ds m::As)):
  ab Tryz.prog lf #[.pointer (some b)] h fun v h'=>v=.int .i64 d.room∧h'=h:=by
 obtain⟨s,bl,q1,q2,q3⟩:=EX hd hb H
 exact Bv s bl q1
theorem Gp {k:Int} {d:bn} {b:Addr} (z:bB) (n:aC) (hd:bF ds k=some d) (hb:hJ da k=some b) (hx:dm h z n) (hz:b9 n) (H:aa B h0 h (fw a pw da offs w ds m::As)):
  ab Tryz.prog oU #[.pointer (some b),dF z] h fun v h'=>∃(r:Sl) (ys:List bg),v=.slice r.ptr r.len r.cap∧Sp h h' [dw dt 8 bs r ys (gv n d.l)]:=by
 obtain⟨s,bl,q1,q2,q3⟩:=EX hd hb H
 exact uS b pw d s bl z n h q1 q2 q3 hx hz
end
end Go.Proofs.YtkciobclldnoiaaGreat
namespace Go.Proofs.YtkciobclldnoiaaGreat
open Go Go.Vc Go.Proofs
set_option maxRecDepth 100000
theorem CB {p q:aq} (a b:Sl) (la lb:List Int) (h:Heap) (ha:Seq h p a 1 aw la) (hb:Seq h q b 1 aw lb) (hs:la.length≤2^40):
  ab Tryz.prog mK #[.slice a.ptr a.len a.cap,.slice b.ptr b.len b.cap] h fun v h'=>v=.bool (decide (la=lb))∧h'=h:=by
 refine mh a b ?_
 unfold iT
 have hal:=ha.len;have hbl:=hb.len
 refine cw (fun hne=>⟨?_,rfl⟩) (fun heq=>?_)
 ·rw[decide_eq_false (fun e=>hne (by rw[hal,hbl,e]))]
 ·refine az (fun k:Nat=>(k:Int)) (fun k h'=>h'=h∧k≤la.length∧la.take k=lb.take k) (fun k=>la.length-k) 0 rfl ⟨rfl,by omega,by simp⟩ ?_
  rintro k h' ⟨rfl,hk,ht⟩
  refine aj (fun hlt=>?_) (fun hge=>?_)
  ·have hk':k<la.length:=by omega
   have hk2:k<lb.length:=by omega
   refine ha.cv k rfl hk' _ rfl ?_
   refine hb.cv k rfl hk2 _ rfl ?_
   refine cw (fun hne=>⟨?_,rfl⟩) (fun heq=>?_)
   ·rw[decide_eq_false]
    intro e;subst e;exact hne rfl
   ·rw[wrap_small _ (by omega) (by omega)]
    exact⟨k+1,by simp,⟨rfl,by omega,by rw[aL _ _ hk',aL _ _ hk2,ht,heq]⟩,by omega⟩
  ·have:k=la.length:=by omega
   subst this
   rw[List.take_of_length_le (by omega),List.take_of_length_le (by omega)]at ht
   exact⟨by rw[decide_eq_true ht],rfl⟩
end Go.Proofs.YtkciobclldnoiaaGreat
namespace Go.Proofs.YtkciobclldnoiaaGreat
open Go Go.Vc Go.Proofs Wl
set_option maxRecDepth 100000
end Go.Proofs.YtkciobclldnoiaaGreat
namespace Go.Proofs.YtkciobclldnoiaaGreat
open Go Go.Vc Go.Proofs Wl
set_option maxRecDepth 100000
end Go.Proofs.YtkciobclldnoiaaGreat
namespace Go.Proofs.YtkciobclldnoiaaGreat
open Go Go.Vc Go.Proofs Wl
set_option maxRecDepth 100000
section
variable {B B':aq} {h0 h0' h h':Heap} {As As':List HP} {a b pw pw2:Addr} {d:bn}
end
end Go.Proofs.YtkciobclldnoiaaGreat
namespace Go.Proofs.YtkciobclldnoiaaGreat
open Go Go.Vc Go.Proofs Wl
section
set_option maxRecDepth 20000
variable {B:aq} {h0 h:Heap} {As:List HP} {a a2 pw pw2:Addr} {mc:List Value} {offs:Int} {da da2:List (Option Addr)} {w:Pow} {ds:aR}
end
end Go.Proofs.YtkciobclldnoiaaGreat
namespace Go.Proofs.YtkciobclldnoiaaGreat
open Go Go.Vc Go.Proofs Wl
section
set_option maxRecDepth 20000
variable {B:aq} {h0 h:Heap} {As:List HP} {a pw b:Addr} {x:bB} {offs:Int} {da:List (Option Addr)} {w:Pow} {ds:aR} {d:bn}
end
end Go.Proofs.YtkciobclldnoiaaGreat
namespace Go.Vc
open Go Wl Go.Proofs.YtkciobclldnoiaaGreat
def lS (l:List Int) (k:Nat):Int:=l.getD k 0
def fk (l:List Int):Pm:=vh (lS l 0) (lS l 1) (lS l 2)
def oA (l:List Int):Nat:=(2+lS l 4%4).toNat
def vj (l:List Int):List Int:=(List.range (oA l)).map fun i=>8+lS l (5+i)%50
def Ip (l:List Int):Int:=lS l 3%7
theorem MB (l:List Int):2≤oA l∧oA l≤5:=by unfold oA;omega
theorem Ls (l:List Int):(vj l).length=oA l:=by simp[vj]
end Go.Vc
namespace Go.Proofs.YtkciobclldnoiaaGreat
open Go Go.Vc Go.Proofs Wl
section
set_option maxRecDepth 20000
variable {B:aq} {h0 h:Heap} {As:List HP} {a pw:Addr} {offs:Int} {da:List (Option Addr)} {w:Pow} {ds:aR}
theorem lT (s:Sl) (l:List Int) (k:Nat) (h:Heap) (hs:Rd h s 1 aw l):ab Tryz.prog qd #[.slice s.ptr s.len s.cap,.int .i64 k] h fun v h'=>v=.int .i64 (lS l k)∧h'=h:=by
 refine pA s k ?_
 unfold kG lS
 have hl:=hs.len
 refine aj (fun e=>?_) (fun e=>⟨?_,rfl⟩)
 ·have hk:k<l.length:=by omega
  refine hs.cv k rfl hk (l.getD k 0) (by rw[getD_lt hk];rfl) ⟨rfl,rfl⟩
 ·rw[List.getD_eq_getElem?_getD,List.getElem?_eq_none (by omega)];rfl
theorem Gq (s:Sl) (l:List Int) (h:Heap) (hs:Rd h s 1 aw l):ab Tryz.prog nT #[.slice s.ptr s.len s.cap] h fun v h'=>∃r:Sl,v=.tuple #[j3 (fk l),.int .i64 (Ip l),.slice r.ptr r.len r.cap]∧Sp h h' [ak aJ r 1 aw (vj l)]:=by
 refine nk s ?_
 unfold jD
 refine(Sp.refl h).alloc ag rfl fun a1 h1 H1=>?_
 have hs1:=hs.up H1.ah
 refine(lT s l 0 h1 hs1).mono ?_
 rintro _ _ ⟨rfl,rfl⟩
 refine⟨_,rfl,(lT s l 1 _ hs1).mono ?_⟩
 rintro _ _ ⟨rfl,rfl⟩
 refine⟨_,rfl,(lT s l 2 _ hs1).mono ?_⟩
 rintro _ h4 ⟨rfl,rfl⟩
 refine⟨_,rfl,(Ij _ _ _ h4).mono ?_⟩
 rintro _ h5 ⟨rfl,R5⟩
 have H5:=H1.up R5.ah
 refine⟨fk l,rfl,?_⟩
 refine H5.alloc ag rfl fun a6 h6 H6=>?_
 refine H6.storeAll ag 1 rfl rfl [.int .i64 (fk l).1,.int .i64 (fk l).2.1,.int .i64 (fk l).2.2] rfl rfl rfl rfl fun h7 H7=>?_
 have H7:Sp h h7 [ak aJ ⟨none,0,0⟩ 1 aw ((vj l).take 0),an a6 aT [.int .i64 (fk l).1,.int .i64 (fk l).2.1,.int .i64 (fk l).2.2],an a1 aT [.int .i64 0,.int .i64 0,.int .i64 0]]:=(H7.nil aJ 1 aw).cW [2,1,0]
 have hn:=MB l
 have hcl:=Ls l
 refine az (fun t:Sl×Nat=>(t.1,(t.2:Int))) (fun t h'=>t.2≤oA l∧Sp h h' [ak aJ t.1 1 aw ((vj l).take t.2),an a6 aT [.int .i64 (fk l).1,.int .i64 (fk l).2.1,.int .i64 (fk l).2.2],an a1 aT [.int .i64 0,.int .i64 0,.int .i64 0]]) (fun t=>oA l-t.2) (⟨none,0,0⟩,0) rfl ⟨by simp,H7⟩ ?_
 rintro⟨o,i⟩ h8 ⟨hi,H8⟩
 dsimp only at*
 have hs8:=hs.up H8.ah
 refine(lT s l 4 h8 hs8).mono ?_
 rintro _ _ ⟨rfl,rfl⟩
 refine⟨_,rfl,(dc _ 4 _ (by decide) (by decide)).mono ?_⟩
 rintro _ h8 ⟨rfl,rfl⟩
 refine⟨_,rfl,?_⟩
 have hb:=H8.box 1 rfl
 dsimp only
 rw[Go.Vc.wrap_small (2+lS l 4%4) (by omega) (by omega)]
 have ecn:2+lS l 4%4=(oA l:Int):=by unfold oA;omega
 rw[ecn]
 refine aj (fun e=>?_) (fun e=>?_)
 ·have hi':i<oA l:=by omega
  rw[Go.Vc.wrap_small ((5:Int)+i) (by omega) (by omega)]
  have e5:(5:Int)+i=((5+i:Nat):Int):=by omega
  rw[e5]
  refine(lT s l (5+i) h8 hs8).mono ?_
  rintro _ _ ⟨rfl,rfl⟩
  refine⟨_,rfl,(dc _ 50 _ (by decide) (by decide)).mono ?_⟩
  rintro _ h12 ⟨rfl,rfl⟩
  refine⟨_,rfl,?_⟩
  dsimp only
  rw[Go.Vc.wrap_small (8+lS l (5+i)%50) (by omega) (by omega)]
  refine H8.push ag 0 rfl jN rfl (by decide) (fun _=>rfl) iJ (8+lS l (5+i)%50) rfl (by decide) (by simp;omega) fun o' h13 H13=>?_
  refine⟨(o',i+1),by dsimp only;rw[Go.Vc.wrap_small _ (by omega) (by omega)];rfl,⟨by dsimp only;omega,?_⟩,by dsimp only;omega⟩
  dsimp only
  rw[aL _ _ (show i<(vj l).length by omega)]
  have e6:(vj l)[i]'(by omega)=8+lS l (5+i)%50:=by simp[vj]
  rw[e6];exact H13
 ·have hin:i=oA l:=by omega
  subst hin
  rw[List.take_of_length_le (by omega)]at H8
  have hc:au.ok [(a6,(.int .i64 (fk l).1)),(a6.add 1,(.int .i64 (fk l).2.1)),(a6.add 2,(.int .i64 (fk l).2.2))] h8:=⟨hb.cell0 rfl,hb.cell rfl,hb.cell rfl,trivial⟩
  refine⟨fk l,hb.aH _ rfl,(lT s l 3 h8 hs8).mono ?_⟩
  rintro _ _ ⟨rfl,rfl⟩
  refine⟨_,rfl,hc,(dc _ 7 _ (by decide) (by decide)).mono ?_⟩
  rintro _ h16 ⟨rfl,rfl⟩
  refine⟨_,rfl,hc,?_⟩
  refine H8.storeAll ag 2 rfl rfl [.int .i64 (fk l).1,.int .i64 (fk l).2.1,.int .i64 (fk l).2.2] rfl rfl rfl rfl fun h17 H17=>⟨trivial,?_⟩
  exact⟨fk l,(H17.box 2 rfl).aH _ rfl,o,rfl,H17.cW [0]⟩
theorem Lt:(cQ (1,1,1) 0 Pow.new [5]).1=0:=by decide+kernel
end
end Go.Proofs.YtkciobclldnoiaaGreat
namespace Go.Proofs.YtkciobclldnoiaaGreat
open Go Go.Vc Go.Proofs Wl
section
set_option maxRecDepth 20000
variable {B:aq} {h0 h:Heap} {As:List HP} {a pw b:Addr} {mc:List Value} {offs:Int} {da:List (Option Addr)} {w:Pow} {ds:aR} {d:bn}
theorem CC:eP (cQ (1,1,1) 0 Pow.new [5]).2.1 Pow.new.offs=false∧(3:Int)∉bz (cQ (1,1,1) 0 Pow.new [5]).2.2 (bL (1,1,1) 0 [5]).drives∧(0:Int)∈(bL (1,1,1) 0 [5]).drives:=by decide+kernel
theorem EY (h:Heap):ab Tryz.prog jh #[] h fun v h'=>v=.bool true∧Sp h h' []:=by
 refine nr ?_
 unfold jF
 obtain⟨f1,f2,f3⟩:=CC
 refine(uJ h).mono ?_
 rintro _ h1 ⟨pw,rfl,R1⟩
 refine⟨_,rfl,?_⟩
 refine R1.lit ag aw jN rfl [5] rfl (show 1*1≤2^20 by decide) rfl fun s2 h2 H2=>?_
 refine(wE (1,1,1) 0 s2 [5] (As:=[ak aJ s2 1 aw [5]]) (St.eM 0 rfl fun h' hq=>hq.1.seq (fun _=>rfl) hq.2) (by decide) H2).mono ?_
 rintro _ h3 ⟨_,Q⟩
 obtain⟨a,x,da,rfl,H3⟩:=Q Lt
 have hz:b9 (bL (1,1,1) 0 [5]):=zk _ _ _ (by decide)
 have hx:dm h3 x (bL (1,1,1) 0 [5]):=H3.at 1 rfl
 refine⟨(some a,0),rfl,cJ (fun _=>?_) fun e=>absurd rfl e⟩
 refine(EO 3 x _ hx hz H3 (.inr f2)).mono ?_
 rintro _ h4 ⟨rfl,R4⟩
 rw[f1,if_neg (by decide)]
 refine⟨5,rfl,cJ (fun _=>?_) fun e=>absurd rfl e⟩
 refine(Gn 0 5 x _ (hx.up R4.ah) hz (H3.up R4.ah) (.inr (.inr f3))).mono ?_
 rintro _ h5 ⟨rfl,R5⟩
 rw[f1,if_neg (by decide),show dK 0 5=true by decide,if_pos rfl]
 exact⟨4,rfl,rfl,.zip ((H3.up R4.ah).up R5.ah).ah⟩
end
end Go.Proofs.YtkciobclldnoiaaGreat
namespace Go.Proofs.YtkciobclldnoiaaGreat
open Go Go.Vc Go.Proofs Wl
section
set_option maxRecDepth 20000
theorem MC:gq lI=true:=by decide+kernel
theorem Iq {M:aC} {b:List UInt8} {t:List Int} {name:ByteArray} (hM:bG M=true) (ho:M.aG=[]) (hx:M.next≤100) (h8:(aV M.p b).length≤8) (ht:ca M.p M.next (aV M.p b).length=some t) (live:List Int) (k:Int) (n1:aC):
  gv (dY M ⟨name,M.next,b.length,t⟩) (aZ n1++(dn M M.next t (aV M.p b) live k (aV M.p b).length).map dz++aZ (dY M ⟨name,M.next,b.length,t⟩))=dn M M.next t (aV M.p b) live k (aV M.p b).length:=by
 rw[BS]
 refine I8 (qO _ _ _ _ _ _ _) fun r hr=>?_
 obtain⟨j,id,rfl,hj,hid⟩:=zB hr
 exact⟨Gl (e:=⟨name,M.next,b.length,t⟩) (k:=j) (GQ hM (by omega) h8 ht hj hid) ho rfl rfl (by show j<t.length;rw[gB ht];exact hj),wF _ _ _⟩
theorem Gr {M:aC} {o:Int} {t:List Int} {bl:List (List UInt8)} {live:List Int} {k:Int} {n:Nat} (ho:0≤o∧o≤16777215) (hnd:live.Nodup) (hin:∀k∈live,0≤k∧k<64) (hk:k∈live) (hn:1≤n) (hT:live.length≤(M.p.1+M.extra).toNat):dn M o t bl live k n≠[]:=by
 obtain⟨o1,o2⟩:=Im (o:=o) (b:=0) ho (by omega) hnd hin
 obtain⟨j,hj,he⟩:=List.getElem_of_mem (o2.mem_iff.2 hk)
 have hl:=o2.length_eq
 obtain⟨n',rfl⟩:∃n',n=n'+1:=⟨n-1,by omega⟩
 have e0:ia M o t bl live k 0≠[]:=fun h=>by
  have h1:=Gh M o t bl live k 0
  rw[h]at h1
  have h2:=Ii (order:=dV o 0 live) o1 j hj (M.p.1+M.extra).toNat
  rw[he]at h2
  have h3:=congrArg List.length h1
  simp only[List.map_nil,List.length_nil,List.length_map]at h3
  have h4:=Dv (n:=(dV o 0 live).length) (by omega) (M.p.1+M.extra).toNat j hj
  have h5:1≤(M.p.1+M.extra).toNat/(dV o 0 live).length:=(Nat.one_le_div_iff (by omega)).2 (by omega)
  have h2':((List.range (M.p.1+M.extra).toNat).filter fun id=>decide (ly (dV o 0 live) (id:Nat)=k)).length=0:=h3.symm
  omega
 intro h
 apply e0
 have:ia M o t bl live k 0⊆dn M o t bl live k (n'+1):=fun r hr=>List.mem_flatMap.2 ⟨0,List.mem_range.2 (by omega),hr⟩
 rw[h]at this
 exact List.eq_nil_of_subset_nil this
theorem AV (s:Sl) (l:List Int) (slot cells n x:Int) (h:Heap) (hs:Rd h s 1 aw l):
  ab Tryz.prog gZ #[.slice s.ptr s.len s.cap,.int .i64 slot,.int .i64 cells,.int .i64 n,.int .i64 x] h fun v h'=>v=.bool true∧Sp h h' []:=by
 refine kX s slot cells n x ?_
 unfold ij
 refine(Gq s l h hs).mono ?_
 rintro _ h1 ⟨r,rfl,R1⟩
 refine⟨(fk l,Ip l,r),rfl,R1.alloc ag rfl fun a2 h2 H2=>?_⟩
 refine H2.storeAll ag 1 rfl rfl [.int .i64 (fk l).1,.int .i64 (fk l).2.1,.int .i64 (fk l).2.2] rfl rfl rfl rfl fun h3 H3=>?_
 obtain⟨p,hpd⟩:∃p,p=fk l:=⟨_,rfl⟩
 obtain⟨E,hE⟩:∃E,E=Ip l:=⟨_,rfl⟩
 have hp:bO p=true:=by rw[hpd];unfold fk;rw[bP];unfold vh;dsimp only;omega
 have hps:p.1≤6∧p.2.2≤9:=by rw[hpd];unfold fk vh;dsimp only;omega
 have hpm:=(bP p).1 hp
 have hE6:0≤E∧E≤6:=by rw[hE];unfold Ip;omega
 rw[←hpd,←hE]
 rw[←hpd]at H3
 have H3:Sp h h3 [an a2 aT [.int .i64 p.1,.int .i64 p.2.1,.int .i64 p.2.2]]:=H3.cW [1]
 have e0:oz p E [200,200]=0:=JY hp (by omega) 2 200 (by omega) (by omega)
 have hq0:0<p.1*p.2.2:=Int.mul_pos (by omega) (by omega)
 have hq1:p.1*p.2.2≤6*9:=Int.mul_le_mul hps.1 hps.2 (by omega) (by omega)
 refine cC (fun(t:Option Addr×Int) h'=>∃(a pw:Addr) (da:List (Option Addr)) (m:aC) (D:aR),t=(some a,0)∧rS p E 2 200 m D∧Sp h h' [fw a pw da 0 Pow.new D m,an a2 aT [.int .i64 p.1,.int .i64 p.2.1,.int .i64 p.2.2]]) ?_ ?_
 ·refine⟨p,(H3.box 0 rfl).aH _ rfl,(uJ h3).mono ?_,?_⟩
  ·rintro _ h4 ⟨pw,rfl,R4⟩
   have H4:=H3.cq R4
   have hb:=H4.box 1 rfl
   refine⟨_,rfl,⟨hb.cell0 rfl,hb.cell rfl,hb.cell rfl,trivial⟩,H4.lit ag aw jN rfl [200,200] rfl (show 2*1≤2^20 by decide) rfl fun v5 h5 H5=>?_⟩
   have H5:Sp h h5 [bX bo pw Pow.new,an a2 aT [.int .i64 p.1,.int .i64 p.2.1,.int .i64 p.2.2],ak aJ v5 1 aw [200,200]]:=H5
   have hb:=H5.box 1 rfl
   refine⟨⟨hb.cell0 rfl,hb.cell rfl,hb.cell rfl,trivial⟩,(zJ p E v5 [200,200] (As:=[an a2 aT [.int .i64 p.1,.int .i64 p.2.1,.int .i64 p.2.2],ak aJ v5 1 aw [200,200]]) (St.eM 1 rfl fun h' hq=>hq.1.seq (fun _=>rfl) hq.2) (by decide) e0 rfl H5).mono ?_⟩
   rintro _ h6 ⟨a,da,D,rfl,f2,f3,H6⟩
   exact⟨(some a,0),rfl,trivial,a,pw,da,_,D,rfl,ER (c:=2) (x:=200) hp (by omega) (by omega) (by omega) f2 f3,H6.cW [0,1]⟩
  ·refine H3.lit ag aw jN rfl [200,200] rfl (show 2*1≤2^20 by decide) rfl fun v7 h7 H7=>?_
   have H7:Sp h h7 [an a2 aT [.int .i64 p.1,.int .i64 p.2.1,.int .i64 p.2.2],ak aJ v7 1 aw [200,200]]:=H7
   have hb:=H7.box 0 rfl
   refine⟨⟨hb.cell0 rfl,hb.cell rfl,hb.cell rfl,trivial⟩,(uJ h7).mono ?_⟩
   rintro _ h8 ⟨pw,rfl,R8⟩
   have H8:=H7.cq R8
   have hb:=H8.box 1 rfl
   refine⟨_,rfl,⟨hb.cell0 rfl,hb.cell rfl,hb.cell rfl,trivial⟩,(zJ p E v7 [200,200] (As:=[an a2 aT [.int .i64 p.1,.int .i64 p.2.1,.int .i64 p.2.2],ak aJ v7 1 aw [200,200]]) (St.eM 1 rfl fun h' hq=>hq.1.seq (fun _=>rfl) hq.2) (by decide) e0 rfl H8).mono ?_⟩
   rintro _ h9 ⟨a,da,D,rfl,f2,f3,H9⟩
   exact⟨(some a,0),rfl,trivial,a,pw,da,_,D,rfl,ER (c:=2) (x:=200) hp (by omega) (by omega) (by omega) f2 f3,H9.cW [0,1]⟩
 rintro⟨_,_⟩ h10 ⟨a,pw,da,m,D,he,F,H10⟩
 injection he with he1 he2
 subst he1 he2
 refine aW (cw (fun e=>absurd rfl e) fun _=>bt (fun e=>by cases e) fun _=>?_)
 refine(dc slot 62 h10 (by decide) (by decide)).mono ?_
 rintro _ h10 ⟨rfl,rfl⟩
 refine⟨_,rfl,(dc cells 400 h10 (by decide) (by decide)).mono ?_⟩
 rintro _ h10 ⟨rfl,rfl⟩
 refine⟨_,rfl,?_⟩
 obtain⟨k,hk⟩:∃k,k=2+slot%62:=⟨_,rfl⟩
 obtain⟨c,hc⟩:∃c,c=100+cells%400:=⟨_,rfl⟩
 have hk2:2≤k∧k<64:=by omega
 have hc2:100≤c∧c≤499:=by omega
 rw[Go.Vc.wrap_small (2+slot%62) (by omega) (by omega),Go.Vc.wrap_small (100+cells%400) (by omega) (by omega),←hk,←hc]
 obtain⟨hMay,D2,ad,d64,hlv,hall,hnew⟩:=Io F hk2 hc2
 obtain⟨M,hM⟩:∃M,M=vE m [0,1,k]:=⟨_,rfl⟩
 rw[←hM]at hMay ad hlv hall hnew
 have hMdr:M.drives=[0,1,k]:=by rw[hM];rfl
 obtain⟨o1,o2,o3,o4,o5⟩:=F.aG
 have hMo:M.aG=[]∧M.seq=2∧M.next=0∧M.p=p∧M.extra=E:=by rw[hM];exact⟨o1,by show m.seq+1=2;omega,o3,o4,o5⟩
 obtain⟨m1,m2,m3,m4,m5⟩:=hMo
 refine cC (fun _ h'=>∃da',Sp h h' [fw a pw da' 0 Pow.new D2 M,an a2 aT [.int .i64 p.1,.int .i64 p.2.1,.int .i64 p.2.2]]) ?_ ?_
 ·refine(GR k c F.may H10).mono ?_
  rintro _ h14 ⟨rfl,da',H14⟩
  rw[ad]at H14⊢
  refine⟨0,rfl,cw (fun e=>absurd rfl e) fun _=>(EV hMay H14).mono ?_⟩
  rintro _ h15 ⟨lv,rfl,R15⟩
  rw[hlv]at R15
  have H15:=H14.comp R15
  refine⟨lv,rfl,H15.lit ag aw jN rfl [0,1,k] rfl (show 3*1≤2^20 by decide) rfl fun v16 h16 H16=>?_⟩
  have H16:Sp h h16 [fw a pw da' 0 Pow.new D2 M,an a2 aT [.int .i64 p.1,.int .i64 p.2.1,.int .i64 p.2.2],ak aJ lv 1 aw [0,1,k],ak aJ v16 1 aw [0,1,k]]:=H16
  refine(CB lv v16 _ _ h16 (H16.seq 2 rfl fun _=>rfl) (H16.seq 3 rfl fun _=>rfl) (by simp)).mono ?_
  rintro _ h17 ⟨rfl,rfl⟩
  obtain⟨dk,hdk,hdl,hdr⟩:=hnew
  obtain⟨b,hb⟩:=AU hdk H16
  refine⟨_,rfl,aY (fun e=>by rw[decide_eq_true rfl]at e;cases e) fun _=>(pf k H16).mono ?_⟩
  rintro _ _ ⟨rfl,rfl⟩
  rw[hb]
  refine⟨_,rfl,bt (fun e=>by cases e) fun _=>(pf k H16).mono ?_⟩
  rintro _ _ ⟨rfl,rfl⟩
  rw[hb]
  refine⟨_,rfl,(Lr hdk hb H16).mono ?_⟩
  rintro _ _ ⟨rfl,rfl⟩
  exact⟨_,rfl,cw (fun e=>absurd (by rw[hdr];omega) e) fun _=>⟨da',H16.cW [0,1]⟩⟩
 rintro _ h21 ⟨da,H21⟩
 have hMz:=nC hMay
 refine(EW hMay H21).mono ?_
 rintro _ h22 ⟨z,rfl,R22⟩
 have H22:=H21.cq R22
 refine⟨z,rfl,H22.alloc ag rfl fun a23 h23 H23=>?_⟩
 have H23:=H23.cA
 refine H23.storeAll ag 0 rfl rfl (aF z) rfl rfl rfl rfl fun h24 H24=>?_
 have H24:Sp h h24 [fw a pw da 0 Pow.new D2 M,an a23 ao (aF z),bU z M,an a2 aT [.int .i64 p.1,.int .i64 p.2.1,.int .i64 p.2.2]]:=H24.ba 3 [2,0,1]
 refine(EV hMay H24).mono ?_
 rintro _ h25 ⟨lv,rfl,R25⟩
 rw[hlv]at R25
 have H25:=H24.comp R25
 refine⟨lv,rfl,?_⟩
 refine az (fun i:Nat=>(i:Int)) (fun j h'=>j≤3∧Sp h h' [fw a pw da 0 Pow.new D2 M,an a23 ao (aF z),bU z M,an a2 aT [.int .i64 p.1,.int .i64 p.2.1,.int .i64 p.2.2],ak aJ lv 1 aw [0,1,k]]) (fun j=>3-j) 0 rfl ⟨by omega,H25⟩ ?_
 rintro j h26 ⟨hj,H26⟩
 dsimp only
 have hlv3:lv.len=3:=(H26.own 4 rfl).len
 refine aj (fun e=>?_) fun e=>?_
 ·have hj':j<[0,1,k].length:=by show j<3;omega
  refine(H26.seq 4 rfl fun _=>rfl).cv j rfl hj' [0,1,k][j] rfl ?_
  obtain⟨d,hd,hd1,hd2,hd3,hd4⟩:=hall [0,1,k][j] (List.getElem_mem hj')
  obtain⟨b,hb⟩:=AU hd H26
  refine⟨z,(H26.box 1 rfl).aH _ rfl,(pf _ H26).mono ?_⟩
  rintro _ _ ⟨rfl,rfl⟩
  have hbx:=H26.box 1 rfl
  rw[hb]
  refine⟨_,rfl,⟨hbx.cell0 rfl,hbx.cell rfl,hbx.cell rfl,hbx.cell rfl,hbx.cell rfl,hbx.cell rfl,hbx.cell rfl,hbx.cell rfl,trivial⟩,(J0 z M hd hb (H26.at 2 rfl) hMz H26).mono ?_⟩
  rintro _ h28 ⟨rfl,R28⟩
  refine⟨_,rfl,trivial,aY (fun e=>by rw[hd2]at e;cases e) fun _=>?_⟩
  exact⟨j+1,by rw[Go.Vc.wrap_small _ (by omega) (by omega)];rfl,⟨by omega,H26.up R28.ah⟩,by omega⟩
 refine⟨p.1,(H26.box 3 rfl).cell0 rfl,p.2.2,(H26.box 3 rfl).cell rfl,?_⟩
 have e3:2*p.1*p.2.2=2*(p.1*p.2.2):=Int.mul_assoc _ _ _
 rw[Go.Vc.wrap_small (2*p.1) (by omega) (by omega),e3,Go.Vc.wrap_small (2*(p.1*p.2.2)) (by omega) (by omega)]
 refine(dc n (2*(p.1*p.2.2)) h26 (by omega) (by omega)).mono ?_
 rintro _ h29 ⟨rfl,rfl⟩
 have hn0:=Int.emod_nonneg n (show 2*(p.1*p.2.2)≠0 by omega)
 have hn1:=Int.emod_lt_of_pos n (show 0<2*(p.1*p.2.2)by omega)
 obtain⟨N,hN⟩:∃N:Nat,(N:Int)=1+n%(2*(p.1*p.2.2)):=⟨(1+n%(2*(p.1*p.2.2))).toNat,by omega⟩
 refine⟨_,rfl,?_⟩
 dsimp only
 rw[Go.Vc.wrap_small (1+n%(2*(p.1*p.2.2))) (by omega) (by omega),←hN]
 refine(HX N x h29 (by omega)).mono ?_
 rintro _ h30 ⟨sb,b,rfl,hbl,R30⟩
 have H30:Sp h h30 [fw a pw da 0 Pow.new D2 M,ak aB sb 1 aD b,an a23 ao (aF z),bU z M,an a2 aT [.int .i64 p.1,.int .i64 p.2.1,.int .i64 p.2.2]]:=(H26.cq R30).cW [1,0,2,3,4]
 refine⟨sb,rfl,(MA lI sb b (As:=[ak aB sb 1 aD b,an a23 ao (aF z),bU z M,an a2 aT [.int .i64 p.1,.int .i64 p.2.1,.int .i64 p.2.2]]) (St.eM 0 rfl fun h' hq=>hq.1.seq (fun _=>rfl) hq.2) (H30.own 1 rfl).cap (by decide) hMay (by omega) H30).mono ?_⟩
 have hnb:(aV p b).length≤3∧1≤(aV p b).length:=by
  have h1:=vd hp b
  have hle:countP p b.length≤3∧1≤countP p b.length:=by
   unfold countP
   rw[if_pos (by rw[hp,decide_eq_true (by omega)];rfl)]
   have h2:((b.length:Int)-1)/(p.1*p.2.2)<3:=Int.ediv_lt_of_lt_mul hq0 (by rw[Int.mul_comm 3];omega)
   have h3:0≤((b.length:Int)-1)/(p.1*p.2.2):=Int.ediv_nonneg (by omega) (by omega)
   omega
  omega
 have h36:(aV p b).length*(p.1+E).toNat≤3*12:=Nat.mul_le_mul hnb.1 (by omega)
 obtain⟨P1,P2⟩:=JZ (M:=M) (D2:=D2) (b:=b) (name:=lI) hMay d64 m1 (by omega) (by omega) (by rw[hlv];simp) MC (by rw[m4];omega) (by
  rw[hlv,m4,m5]
  intro j hj
  obtain⟨d,q1,q2,q3,q4,q5⟩:=hall j hj
  have e:(((aV p b).length*(p.1+E).toNat:Nat):Int)=((aV p b).length:Int)*((p.1+E).toNat:Int):=Int.natCast_mul _ _
  exact⟨d,q1,q2,by omega⟩)
 rw[m3,m4]at P1 P2
 rw[hlv]at P2
 rintro _ h31 ⟨rfl,H31⟩
 have hadd:∀(m':aC) (D':aR) (hm':bG m'=true) (hd':m'.drives=[0,1,k]) (da':List (Option Addr)) {h':Heap} {As:List HP},Sp h h' (fw a pw da' 0 Pow.new D' m'::As)→
   ab Tryz.prog jf #[.pointer (some a),.int .i64 k,.int .i64 c] h' fun v h''=>v=.int .i64 4∧Sp h h'' []:=fun m' D' hm' hd' da' {h' As} H'=>by
  refine(GR k c hm' H').mono ?_
  rintro _ h'' ⟨rfl,da'',H''⟩
  have:gm m' 0 Pow.new D' k c=(4,m',Pow.new,D'):=by
   unfold gm
   rw[if_neg (by decide),if_neg (by rw[BO (by omega) (by omega)];decide),if_pos (by rw[hd'];simp)]
  rw[this]
  exact⟨rfl,.zip H''.ah⟩
 have fin:∀{h':Heap} (m':aC) (D':aR) (hm':bG m'=true) (hd':m'.drives=[0,1,k]),Sp h h' [fw a pw da 0 Pow.new D' m',an a23 ao (aF z)]→
   (∃x41:Int,cellOf h' a23=some (.int .i64 x41)∧Br (x41==(2:Int)) (ae Tryz.prog jf #[.pointer (some a),.int .i64 k,.int .i64 c] (.one (.sc (.int .i64))) h' fun r42 h36=>
    Br (r42==(4:Int)) (ae Tryz.prog jh #[] (.one (.sc .bool)) h36 fun r43 h37=>(Value.bool r43=.bool true∧Sp h h37 [])) (Value.bool false=.bool true∧Sp h h36 [])) (Value.bool false=.bool true∧Sp h h' [])):=fun{h'} m' D' hm' hd' H'=>by
  refine⟨z.1,(H'.box 1 rfl).cell0 rfl,cJ (fun _=>(hadd m' D' hm' hd' da H').mono ?_) fun e=>absurd ?_ e⟩
  ·rintro _ h36 ⟨rfl,H36⟩
   refine⟨4,rfl,cJ (fun _=>(EY h36).mono ?_) fun e=>absurd rfl e⟩
   rintro _ h37 ⟨rfl,R37⟩
   exact⟨true,rfl,rfl,.zip (H36.up R37.ah).ah⟩
  ·have hz:dm h22 z M:=R22.at 0 rfl
   rw[hz.seq,m2]
 cases ht:ca p 0 (aV p b).length with
 |none=>
  rw[P1 ht]at H31⊢
  refine⟨8,rfl,aW (cJ (fun e=>absurd e (by decide)) fun _=>?_)⟩
  exact cJ (fun e=>absurd e (by decide)) fun _=>cJ (fun _=>fin M D2 hMay hMdr (H31.cW [0,2])) fun e=>absurd rfl e
 |some t=>
  obtain⟨hmn,D3,q1,q2,q3⟩:=P2 t ht
  rw[q1]at H31⊢
  obtain⟨n2,hn2⟩:∃n2,n2=dY M ⟨lI,0,b.length,t⟩:=⟨_,rfl⟩
  rw[←hn2]at H31 hmn q1 q3
  have hn2d:n2.drives=[0,1,k]:=by rw[hn2];exact hMdr
  have H31:Sp h h31 [fw a pw da 0 Pow.new D3 n2,ak aB sb 1 aD b,an a23 ao (aF z),bU z M,an a2 aT [.int .i64 p.1,.int .i64 p.2.1,.int .i64 p.2.2]]:=H31
  refine⟨0,rfl,cC (fun _ h'=>Sp h h' [fw a pw da 0 Pow.new D3 n2,an a23 ao (aF z)]) ?_ ?_⟩
  ·refine cJ (fun _=>⟨p.1,(H31.box 4 rfl).cell0 rfl,aj (fun e3=>?_) fun e3=>H31.cW [0,2]⟩) fun e=>absurd rfl e
   rw[Go.Vc.wrap_small _ (by omega) (by omega)]at e3
   obtain⟨dk,hdk,hdl,hdr⟩:=hnew
   have hd3:=q3 k
   rw[hdk,Option.map_some,if_pos (by simp)]at hd3
   obtain⟨bp,hbp⟩:=AU hd3 H31
   refine(pf k H31).mono ?_
   rintro _ _ ⟨rfl,rfl⟩
   rw[hbp]
   refine⟨_,rfl,(EW hmn H31).mono ?_⟩
   rintro _ h33 ⟨y,rfl,R33⟩
   have H33:=H31.cq R33
   have H33c:=H33.ba 2 [1,0]
   refine⟨y,rfl,(Gp y n2 hd3 hbp (H33.at 0 rfl) (nC hmn) H33c).mono ?_⟩
   rintro _ h34 ⟨rr,ys,rfl,R34⟩
   have Fx:=R34.im 0 rfl
   have hrl:=Fx.1.len
   have hyl:=Fx.2.1
   refine⟨rr,rfl,cJ (fun e=>?_) fun _=>(H33c.up R34.ah).cW [0,3]⟩
   exfalso
   have hnil:gv n2 (eU (List.map dz (dn M 0 t (aV p b) [0,1,k] k (aV p b).length)++aZ n2) dk).l=[]:=List.length_eq_zero_iff.1 (by omega)
   rw[vf,hdl,←List.append_assoc]at hnil
   have:=Iq (name:=lI) (b:=b) (t:=t) hMay m1 (by omega) (by rw[m4];omega) (by rw[m3,m4];exact ht) [0,1,k] k M
   rw[m3,m4,←hn2,hnil]at this
   exact Gr (M:=M) (o:=0) (t:=t) (bl:=aV p b) (live:=[0,1,k]) (k:=k) (n:=(aV p b).length) (by omega) (by simp;omega) (by simp;omega) (by simp) hnb.2 (by rw[m4,m5];show 3≤_;omega) this.symm
  ·rintro _ h35 H35
   exact cJ (fun _=>fin n2 D3 hmn hn2d H35) fun e=>absurd rfl e
theorem vk (s:Sl) (l:List Int) (slot cells n x:Int) (h:Heap) (hs:Rd h s 1 aw l):
  ab Tryz.prog gZ #[.slice s.ptr s.len s.cap,.int .i64 slot,.int .i64 cells,.int .i64 n,.int .i64 x] h fun v h'=>v=.bool true∧aE (fun b=>b<h.size) h h':=
 (AV s l slot cells n x h hs).mono fun _ _ ⟨a,b⟩=>⟨a,b.ah⟩
end
end Go.Proofs.YtkciobclldnoiaaGreat
