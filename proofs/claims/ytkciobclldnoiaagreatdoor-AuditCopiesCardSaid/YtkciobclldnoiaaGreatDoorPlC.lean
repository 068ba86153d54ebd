/- Part of the proofs that the laws of this seat answer true whatever the input reads, and leave it as it was; no condition. -/
import Derived.Test.YtkciobclldnoiaaGreatDoorPlA
set_option linter.unusedVariables false
set_option linter.unusedSimpArgs false
namespace Go.Vc
open Go
section
variable {α:Type} {B:aj} {h0 h:Heap} {As:List HP} {e e2 k:Nat} {s:Sl} {f:α→List Value} {rs:List Sl} {ll:List (List α)}
theorem aa.GP (H:aa B h0 h (As++(an e s 1 bg rs::bn e2 k f rs ll))) (hl:rs.length=ll.length) (hw:∀x,(f x).length=k) (n:Nat) (hn:n≤ll.length):aa B h0 h (As++[bL e ⟨s.ptr,n,s.cap⟩ 1 bg (bC k f) (ll.take n)]):=by
 classical
 obtain⟨lo,p,c,z,a⟩:=H
 refine⟨lo,p,fun b=>if c b>As.length then As.length+1 else c b,fun b hb=>?_,fun j X hj=>?_⟩
 ·have:=z b hb;dsimp only;rw[if_neg (by omega)];exact this
 ·by_cases hjl:j<As.length
  ·rw[List.getElem?_append_left hjl]at hj
   refine X.mono (a j X (by rw[List.getElem?_append_left hjl];exact hj)) fun b hb=>⟨hb.1,?_⟩
   dsimp only;rw[if_neg (by omega)];exact hb.2
  ·rw[List.getElem?_append_right (by omega)]at hj
   have hj0:j=As.length:=by
    have:=(List.getElem?_eq_some_iff.1 hj).1
    simp at this;omega
   subst hj0
   simp at hj
   subst hj
   have h1:=a As.length (an e s 1 bg rs) (by rw[List.getElem?_append_right (Nat.le_refl _)];simp)
   refine⟨rs.take n,fun b=>b<h.size∧c b>As.length+1,h1.1.cut (fun _=>rfl) n (by omega),fun b hb=>?_,fun b hb=>?_,by simp[hl],fun i r l h2 h3=>?_⟩
   ·have hb':=h1.2 b hb
    refine⟨⟨hb'.1,?_⟩,fun hh=>by omega⟩
    dsimp only;rw[if_pos (by omega)]
   ·refine⟨hb.1,?_⟩
    dsimp only;rw[if_pos (by omega)]
   ·rw[List.getElem?_take]at h2 h3
    split at h2
    ·rename_i hin
     rw[if_pos hin]at h3
     have hi:i<ll.length:=(List.getElem?_eq_some_iff.1 h3).1
     have hg:=dq (e:=e2) (k:=k) (f:=f) hl i hi
     have h4:=a (As.length+(i+1)) _ (by rw[List.getElem?_append_right (by omega)];simpa using hg)
     have e1:rs[i]'(by omega)=r:=by rw[List.getElem?_eq_getElem (by omega)]at h2;simpa using h2
     have e3:ll[i]=l:=by rw[List.getElem?_eq_getElem hi]at h3;simpa using h3
     rw[e1,e3]at h4
     exact h4.1.seq hw fun b hb=>⟨(h4.2 b hb).1,by have:=(h4.2 b hb).2;omega⟩
    ·cases h2
theorem aa.Ia {s:Sl} {ll:List (List α)} (H:aa B h0 h As) (i:Nat) (hi:As[i]?=some (kQ e s k f ll)):aa B h0 h (As.set i (bL e s 1 bg (bC k f) ll)):=H.fl i hi fun _ hq=>hq
end
theorem eW.Iy {α:Type} {h:Heap} {s:Sl} {k:Nat} {f:α→List Value} {ll:List (List α)} (x:eW h s k f ll):fJ (bh (bC k f) 1 bg) h s ll:=by
 obtain⟨rs,a⟩:=x;exact bh.Hl a
end Go.Vc
namespace Go.Vc
open Go
theorem xc {h h':Heap} {p:aj} (hp:aD p h h'):∀{L:aE},L.ok h→(∀x∈L,p x.1.block)→L.ok h'
 |[],_,_=>trivial
 |x::L,hk,hq=>⟨hp.cell (hq x (by simp)) hk.1,xc hp hk.2 fun y hy=>hq y (by simp[hy])⟩
theorem kh {h h':Heap} (hp:aD (fun b=>b<h.size) h h') {L:aE} (hk:L.ok h):L.ok h':=xc hp hk (by
 clear hp
 induction L with
 |nil=>intro x hx;cases hx
 |cons y L ih=>
  intro x hx
  rcases List.mem_cons.1 hx with rfl|hx
  ·exact kP hk.1
  ·exact ih hk.2 x hx)
theorem aw.both {P:Program} {s:Sem Value} {h:Heap} {K:Sl→Heap→Prop} {Q:Heap→Prop} (h1:aw P s (.one (.sc .slc)) h fun _ h'=>Q h') (h2:aw P s (.one (.sc .slc)) h K):aw P s (.one (.sc .slc)) h fun x h'=>Q h'∧K x h':=by
 intro w hw
 obtain⟨v1,w1,a1,a2,x1,a3,a4⟩:=h1 w hw
 obtain⟨v2,w2,b1,b2,x2,b3,b4⟩:=h2 w hw
 rw[a1]at b1
 cases b1
 exact⟨_,_,a1,a2,x2,b3,a4,b4⟩
theorem aa.mZ {α:Type} {B:aj} {C:Ctx} {h0 h:Heap} {As:List HP} {e t k by_:Nat} {z:List Value} {K:Sl→Heap→Prop} (hC:C.Ok) (H:aa B h0 h As) (f:α→List Value) (he:bt C.tomV t e k z by_) (hk0:z.length=k) {n:Nat} {parts:Array (Nat×Value)} (l:List α) (hn:l.length=n) (hnk:n*k≤2^20)
  (hfill:Instr.fill (fun i=>some (i*k,k)) (dX z n).toArray parts.toList=some (l.flatMap f).toArray) {L:aE} (hL:L.ok h) (h2:aw C.P (Instr.buildSlice t n parts) (.one (.sc .slc)) h K):
  aw C.P (Instr.buildSlice t n parts) (.one (.sc .slc)) h fun x h'=>L.ok h'∧K x h':=
 aw.both ((Sp.refl h).lit hC f he hk0 l hn hnk hfill fun _ _ H'=>kh H'.ai hL) h2
end Go.Vc
namespace Go.Vc
open Go
section
variable {B:aj} {h0 h h':Heap} {As Bs:List HP} {A D E:HP} {i j:Nat}
theorem aa.front (H:aa B h0 h (As++Bs)):aa B h0 h (Bs++As):=
 H.pick (fun j=>if j<Bs.length then As.length+j else if j<Bs.length+As.length then j-Bs.length else j)
  (fun a b hab=>by(try dsimp only at hab);split at hab<;>split at hab<;>(try split at hab)<;>(try split at hab)<;>omega) fun j X hj=>by
  try dsimp only
  split
  ·rename_i hlt
   rw[List.getElem?_append_left hlt]at hj
   rw[List.getElem?_append_right (by omega),Nat.add_sub_cancel_left];exact hj
  ·rename_i hlt
   rw[List.getElem?_append_right (by omega)]at hj
   have:=(List.getElem?_eq_some_iff.1 hj).1
   rw[if_pos (by omega),List.getElem?_append_left this];exact hj
theorem aa.ee (H:aa B h0 h (As++[A])):aa B h0 h (A::As):=H.front
theorem aa.dv (H:aa B h0 h As) (R:Sp h h' [A]):aa B h0 h' (A::As):=(H.comp R).ee
theorem aa.og (H:aa B h0 h (A::As)):aa B h0 h As:=H.rest
theorem aa.j9 (H:aa B h0 h (A::D::As)):aa B h0 h (A::As):=H.del 1
theorem aa.oh {ι:Type} {F:ι→HP} (H:aa B h0 h (HP.ex F::As)):∃x,aa B h0 h (F x::As):=H.HU 0 rfl
theorem aa.pV {ι:Type} {F:ι→HP} (x:ι) (H:aa B h0 h (F x::As)):aa B h0 h (HP.ex F::As):=H.close' 0 x rfl
theorem aa.pW (H:aa B h0 h (A.sep D::As)):aa B h0 h (D::A::As):=(H.split 0 rfl).ee
theorem aa.iL (H:aa B h0 h (D::A::As)):aa B h0 h (A.sep D::As):=by
 have h2:aa B h0 h (emp::A.sep D::As):=H.join 1 0 (by decide) rfl rfl
 exact h2.rest
theorem aa.zj (H:aa B h0 h (A::D::As)):aa B h0 h (D::A::As):=H.Gi 0 1 rfl rfl
end
end Go.Vc
namespace Go.Vc
open Go
theorem Seq.sV {h:Heap} {p:aj} {s:Sl} {rs:List Sl} (hs:Seq h p s 1 bg rs) {i:Int} (n:Nat) (hi:i=n) (hn:n<rs.length) {K:Sl→Prop} (hk:K rs[n]):
  ∃a:Addr,(s.ptr=some a∧0≤i∧i<((s.len:Nat):Int))∧∃x:Sl,cellOf h (a.add (i.toNat*1))=some (.slice x.ptr x.len x.cap)∧K x:=
 hs.bT (g:=fun r:Sl=>Value.slice r.ptr r.len r.cap) n hi hn rs[n] rfl hk
end Go.Vc
namespace Go.Vc
open Go
def St (B:aj) (h0:Heap) (As:List HP) (Q:Heap→Prop):Prop:=∀(Bs:List HP) (h':Heap),aa B h0 h' (Bs++As)→Q h'
section
variable {B:aj} {h0 h h':Heap} {As Bs:List HP} {A:HP} {Q:Heap→Prop}
theorem St.at (x:St B h0 As Q) (Bs:List HP) (H:aa B h0 h (Bs++As)):Q h:=x Bs h H
theorem St.base (hq:Q h0) (hs:∀h',aD B h0 h'→Q h'):St B h0 As Q:=fun _ _ H=>hs _ H.ai
theorem St.ud (j:Nat) (hj:As[j]?=some A) (hs:∀h',A.p h' (fun b=>b<h'.size)→Q h'):St B h0 As Q:=fun Bs h' H=>hs _ (H.at (Bs.length+j) (by rw[List.getElem?_append_right (by omega),Nat.add_sub_cancel_left];exact hj))
theorem St.cons (x:St B h0 As Q):St B h0 (A::As) Q:=fun Bs h' H=>x (Bs++[A]) h' (by rw[List.append_assoc];exact H)
end
end Go.Vc
namespace Go.Vc
open Go
section
variable {β:Type} {E:ik Sl β} {h:Heap} {q:aj} {s:Sl} {ll:List β}
theorem bh.It (x:(bh E 1 bg).p h q s ll) {i:Int} (n:Nat) (hi:i=n) (hn:n<ll.length) {K:Sl→Prop} (hk:∀(a:Addr) (r:Sl),s.ptr=some a→cellOf h (a.add (n*1))=some (.slice r.ptr r.len r.cap)→E.p h q r ll[n]→K r):
  ∃a:Addr,(s.ptr=some a∧0≤i∧i<((s.len:Nat):Int))∧∃x:Sl,cellOf h (a.add (i.toNat*1))=some (.slice x.ptr x.len x.cap)∧K x:=by
 subst hi
 obtain⟨rs,h1,h2,h3⟩:=bh.mj x
 obtain⟨b,o,e1,e2,e3⟩:=h1.elem n (rs[n]'(by omega)) (List.getElem?_eq_getElem (by omega))
 have h4:=e3.1
 rw[add_eq,Nat.add_zero]at h4
 have h5:cellOf h ((⟨b,o,none⟩:Addr).add (n*1))=some (.slice (rs[n]'(by omega)).ptr (rs[n]'(by omega)).len (rs[n]'(by omega)).cap):=by rw[add_eq];exact h4
 refine⟨_,⟨e1,by omega,by rw[h1.len];omega⟩,rs[n]'(by omega),by rw[Int.toNat_natCast];exact h5,hk _ _ e1 h5 (h3 n (by omega) hn)⟩
theorem bh.pick (x:(bh E 1 bg).p h q s ll) (n:Nat) (hn:n<ll.length) {a:Addr} {r:Sl} (ha:s.ptr=some a) (hc:cellOf h (a.add (n*1))=some (.slice r.ptr r.len r.cap)):E.p h q r ll[n]:=by
 obtain⟨rs,h1,h2,h3⟩:=bh.mj x
 obtain⟨b,o,e1,e2,e3⟩:=h1.elem n (rs[n]'(by omega)) (List.getElem?_eq_getElem (by omega))
 rw[ha]at e1
 injection e1 with e1
 subst e1
 have h4:=e3.1
 rw[add_eq,Nat.add_zero]at h4
 have h5:cellOf h ((⟨b,o,none⟩:Addr).add (n*1))=some (.slice (rs[n]'(by omega)).ptr (rs[n]'(by omega)).len (rs[n]'(by omega)).cap):=by rw[add_eq];exact h4
 rw[hc]at h5
 have h6:=h3 n (by omega) hn
 generalize rs[n]'(by omega)=r' at h5 h6
 obtain⟨p1,l1,c1⟩:=r
 obtain⟨p2,l2,c2⟩:=r'
 simp at h5
 obtain⟨rfl,rfl,rfl⟩:=h5
 exact h6
end
end Go.Vc
namespace Go.Vc
open Go
theorem pX {α:Type} {l:List α} (hn:l.Nodup) {a b:Nat} (ha:a<l.length) (hb:b<l.length) (h:l[a]=l[b]):a=b:=by
 have h1:=List.pairwise_iff_getElem.1 hn
 rcases Nat.lt_trichotomy a b with hlt|he|hgt
 ·exact absurd h (h1 a b ha hb hlt)
 ·exact he
 ·exact absurd h.symm (h1 b a hb ha hgt)
theorem aa.cL {B:aj} {h0 h:Heap} {As:List HP} (H:aa B h0 h As) (L:List Nat) (hl:∀j∈L,j<As.length:=by simp) (hn:L.Nodup:=by decide):aa B h0 h (L.map fun j=>As.getD j emp):=by
 refine H.pick (fun i=>if h:i<L.length then L[i]else As.length+i) (fun a b hab=>?_) fun i A2 hi=>?_
 ·try dsimp only at hab
  split at hab<;>split at hab
  ·exact pX hn _ _ hab
  ·have:=hl _ (List.getElem_mem (l:=L) (n:=a) (by assumption));omega
  ·have:=hl _ (List.getElem_mem (l:=L) (n:=b) (by assumption));omega
  ·omega
 ·try dsimp only
  rw[List.getElem?_map]at hi
  split
  ·rename_i hlt
   rw[List.getElem?_eq_getElem hlt]at hi
   have hlt2:=hl _ (List.getElem_mem hlt)
   simp only[Option.map_some,Option.some.injEq]at hi
   rw[←hi,List.getD_eq_getElem?_getD,List.getElem?_eq_getElem hlt2];rfl
  ·rename_i hlt
   rw[List.getElem?_eq_none (by omega)]at hi;simp at hi
end Go.Vc
namespace Go.Vc
open Go
theorem St.mk' {B:aj} {h0:Heap} {As:List HP} {Q:Heap→Prop} (x:∀h',aa B h0 h' As→Q h'):St B h0 As Q:=fun Bs h' H=>x h' (H.take Bs.length fun i A hi=>by
 rw[List.getElem?_append_right (by omega),Nat.add_sub_cancel_left];exact hi)
theorem St.mono {B:aj} {h0:Heap} {As:List HP} {Q Q':Heap→Prop} (x:St B h0 As Q) (hq:∀h,Q h→Q' h):St B h0 As Q':=fun Bs h' H=>hq _ (x Bs h' H)
theorem St.and {B:aj} {h0:Heap} {As:List HP} {Q Q':Heap→Prop} (x:St B h0 As Q) (y:St B h0 As Q'):St B h0 As fun h=>Q h∧Q' h:=fun Bs h' H=>⟨x Bs h' H,y Bs h' H⟩
end Go.Vc
namespace Go.Vc
open Go
theorem aa.cg {B:aj} {h0 h:Heap} {As:List HP} (H:aa B h0 h As) (k:Nat) (L:List Nat) (hk:k≤As.length:=by simp) (hl:∀j∈L,j<k:=by simp) (hn:L.Nodup:=by decide):aa B h0 h (L.map (fun j=>As.getD j emp)++As.drop k):=by
 refine H.pick (fun i=>if h:i<L.length then L[i]else k+(i-L.length)) (fun a b hab=>?_) fun i A2 hi=>?_
 ·try dsimp only at hab
  split at hab<;>split at hab
  ·exact pX hn _ _ hab
  ·have:=hl _ (List.getElem_mem (l:=L) (n:=a) (by assumption));omega
  ·have:=hl _ (List.getElem_mem (l:=L) (n:=b) (by assumption));omega
  ·omega
 ·try dsimp only
  by_cases hlt:i<L.length
  ·rw[dif_pos hlt]
   rw[List.getElem?_append_left (by simpa using hlt),List.getElem?_map,List.getElem?_eq_getElem hlt]at hi
   have hlt2:=hl _ (List.getElem_mem hlt)
   simp only[Option.map_some,Option.some.injEq]at hi
   rw[←hi,List.getD_eq_getElem?_getD,List.getElem?_eq_getElem (by omega)];rfl
  ·rw[dif_neg hlt]
   rw[List.getElem?_append_right (by simpa using hlt),List.length_map,List.getElem?_drop]at hi
   exact hi
end Go.Vc
namespace Go.Vc
open Go
section
variable {α β:Type} {E:ik α β} {C:Ctx} {k e t by_:Nat} {f:α→List Value} {B:aj} {h0 h h':Heap} {As:List HP} {q:aj} {s:Sl} {rs:List α} {ll:List β} {ti:TI} {z:List Value}
def Fix (E:ik α β) (k:Nat) (f:α→List Value) (h:Heap) (q:aj) (s:Sl) (rs:List α) (ll:List β):Prop:=Seq h q s k f rs∧rs.length=ll.length∧∀(i:Nat) r l,rs[i]?=some r→ll[i]?=some l→E.p h q r l
theorem Fix.ai (x:Fix E k f h q s rs ll) (hp:aD q h h'):Fix E k f h' q s rs ll:=⟨x.1.ai hp,x.2.1,fun i r l h1 h2=>E.loc (x.2.2 i r l h1 h2) hp⟩
theorem Fix.mono {q':aj} (x:Fix E k f h q s rs ll) (hq:∀b,q b→q' b):Fix E k f h q' s rs ll:=⟨x.1.mono hq,x.2.1,fun i r l h1 h2=>E.mono (x.2.2 i r l h1 h2) hq⟩
abbrev mq (E:ik α β) (k:Nat) (f:α→List Value) (h:Heap) (s:Sl) (rs:List α) (ll:List β):Prop:=Fix E k f h (fun b=>b<h.size) s rs ll
theorem mq.up (x:mq E k f h s rs ll) (hp:aD (fun b=>b<h.size) h h'):mq E k f h' s rs ll:=(Fix.ai x hp).mono fun _ hb=>Nat.lt_of_lt_of_le hb hp.1
theorem Fix.row (x:Fix E k f h q s rs ll) {i:Nat} (hi:i<ll.length):E.p h q (rs[i]'(by rw[x.2.1];exact hi)) ll[i]:=x.2.2 i _ _ (List.getElem?_eq_getElem _) (List.getElem?_eq_getElem _)
theorem bh.fix (x:(bh E k f).p h q s ll):∃rs,Fix E k f h q s rs ll:=x
theorem Fix.Iz (x:Fix E k f h q s rs ll):(bh E k f).p h q s ll:=⟨rs,x⟩
def eC (E:ik α β) (k:Nat) (f:α→List Value) (s:Sl) (rs:List α) (ll:List β):HP:=⟨fun h q=>Fix E k f h q s rs ll,fun x hp=>x.ai hp,fun x hq=>x.mono hq⟩
theorem aa.iM (H:aa B h0 h As) (i:Nat) (hi:As[i]?=some (eC E k f s rs ll)):mq E k f h s rs ll:=H.at i hi
end
end Go.Vc
namespace Go.Vc
open Go
section
variable {α:Type} {C:Ctx} {B:aj} {h0 h:Heap} {As:List HP} {e t k:Nat} {s:Sl} {f:α→List Value} {l:List α} {i:TI}
theorem Own.Ft (hC:C.Ok) (ho:Own h e s k f l) (hw:∀x,(f x).length=k) (hi:C.T.get t=some i) {x:Int} (n:Nat) (hx:x=n) (hn:n<l.length) (j:Nat) (vs:List Value) (hj:j+vs.length≤k) {val:Value} (y:α) (hv:val.cells=vs.toArray) (hsz:i.size=vs.length)
  (hone:vs.all (·.oneCell')=true) (hy:f y=(f l[n]).take j++vs++(f l[n]).drop (j+vs.length)) {K:Heap→Prop} (hk:∀h',Own h' e s k f (l.set n y)→aD (fun b=>¬s.on b) h h'→K h'):
  ∃a:Addr,(s.ptr=some a∧0≤x∧x<((s.len:Nat):Int))∧ab C.P (Instr.storeAt t (.pointer (some ((a.add (x.toNat*k)).add j))) val) h fun _ h'=>K h':=by
 subst hx
 rcases ho.head with⟨_,_,h3⟩|⟨b,rest,h1,h2,h3,h4⟩
 ·subst h3;simp at hn
 ·refine⟨_,⟨h1,by omega,by rw[ho.len];omega⟩,?_⟩
  unfold Instr.storeAt
  refine ab.bind (ab.pure' ?_)
  unfold storeVar
  refine ab.bind (ab.always (bM hC.toOk hi) ?_)
  rw[hv,hsz]
  simp only[List.size_toArray,ne_eq,not_true,if_false]
  rw[add_eq,add_eq,Nat.zero_add,Int.toNat_natCast]
  have hsplit:l=l.take n++l[n]::l.drop (n+1):=by rw[←List.drop_eq_getElem_cons hn,List.take_append_drop]
  have hset:l.set n y=l.take n++y::l.drop (n+1):=List.set_eq_take_append_cons_drop.trans (if_pos hn)
  have hpre:((l.take n).flatMap f).length=n*k:=by rw[ck hw,List.length_take,Nat.min_eq_left (by omega)]
  have hln:=hw l[n]
  have hcut:f l[n]=(f l[n]).take j++((f l[n]).drop j).take vs.length++(f l[n]).drop (j+vs.length):=by
   rw[List.append_assoc,←List.drop_drop,List.take_append_drop,List.take_append_drop]
  refine bV (e:=e) (pre:=(l.take n).flatMap f++(f l[n]).take j) (old:=((f l[n]).drop j).take vs.length) (post:=(f l[n]).drop (j+vs.length)++((l.drop (n+1)).flatMap f++rest)) ?_ ?_ ?_ ?_ ?_
  ·have:l.flatMap f++rest=(l.take n).flatMap f++(f l[n]).take j++((f l[n]).drop j).take vs.length++((f l[n]).drop (j+vs.length)++((l.drop (n+1)).flatMap f++rest)):=by
    have e1:=congrArg (List.flatMap f) hsplit
    rw[List.flatMap_append,List.flatMap_cons]at e1
    rw[e1]
    generalize f l[n]=z at hcut
    rw[List.append_assoc]at hcut
    simp only[List.append_assoc]
    congr 1
    conv=>lhs;rw[hcut]
    simp only[List.append_assoc]
   rw[←this];exact h2
  ·simp;omega
  ·rw[List.length_append,hpre,List.length_take];omega
  ·intro c hc
   exact List.all_eq_true.1 hone c hc
  ·refine hk _ ⟨by rw[List.length_set];exact ho.len,.inr ⟨b,rest,h1,?_,h3,h4⟩⟩ (aD.dI h2 (fun hh=>hh ⟨0,h1⟩))
   rw[di h2,if_pos rfl,hset,List.flatMap_append,List.flatMap_cons,hy]
   simp[List.append_assoc]
theorem aa.Ft (hC:C.Ok) (H:aa B h0 h As) (i':Nat) (hi':As[i']?=some (an e s k f l)) (hw:∀x,(f x).length=k) (hi:C.T.get t=some i) {x:Int} (n:Nat) (hx:x=n) (hn:n<l.length) (j:Nat) (vs:List Value) (hj:j+vs.length≤k) {val:Value} (y:α) (hv:val.cells=vs.toArray) (hsz:i.size=vs.length)
  (hone:vs.all (·.oneCell')=true) (hy:f y=(f l[n]).take j++vs++(f l[n]).drop (j+vs.length)) {K:Heap→Prop} (hk:∀h',aa B h0 h' (As.set i' (an e s k f (l.set n y)))→K h'):
  ∃a:Addr,(s.ptr=some a∧0≤x∧x<((s.len:Nat):Int))∧ab C.P (Instr.storeAt t (.pointer (some ((a.add (x.toNat*k)).add j))) val) h fun _ h'=>K h':=
 (H.own i' hi').Ft hC hw hi n hx hn j vs hj y hv hsz hone hy fun h' z w=>hk h' (H.hG i' hi' w z)
end
end Go.Vc
namespace Go.Vc
open Go
def HP.all:List HP→HP
 |[]=>emp
 |A::L=>A.sep (HP.all L)
section
variable {B:aj} {h0 h h':Heap} {As L:List HP} {A D E:HP}
theorem aa.na:∀{L:List HP} {As:List HP},aa B h0 h (HP.all L::As)→aa B h0 h (L++As)
 |[],_,H=>H.rest
 |A::L,As,H=>by
  have H1:aa B h0 h (HP.all L::A::As):=H.pW
  have H2:=aa.na H1
  exact H2.pick (fun i=>if i=0 then L.length else if i≤L.length then i-1 else i) (fun a b hab=>by(try dsimp only at hab);split at hab<;>split at hab<;>(try split at hab)<;>(try split at hab)<;>omega) fun i X hi=>by
   try dsimp only
   rw[List.cons_append]at hi
   cases i with
   |zero=>simp at hi;subst hi;rw[if_pos rfl,List.getElem?_append_right (Nat.le_refl _),Nat.sub_self];rfl
   |succ i=>
    rw[List.getElem?_cons_succ]at hi
    rw[if_neg (by omega)]
    by_cases hl:i<L.length
    ·rw[List.getElem?_append_left hl]at hi
     rw[if_pos (by omega),List.getElem?_append_left (by omega)];simpa using hi
    ·rw[List.getElem?_append_right (by omega)]at hi
     rw[if_neg (by omega),List.getElem?_append_right (by omega)]
     rw[show i+1-L.length=(i-L.length)+1 by omega,List.getElem?_cons_succ];exact hi
theorem aa.closeAll:∀(L:List HP) {As:List HP},aa B h0 h (L++As)→aa B h0 h (HP.all L::As)
 |[],As,H=>((H.comp (.one (A:=emp) (aD.refl _ _) trivial)).ee:aa B h0 h (emp::As))
 |A::L,As,H=>by
  have H1:aa B h0 h (L++(A::As)):=H.pick (fun i=>if i<L.length then i+1 else if i=L.length then 0 else i) (fun a b hab=>by(try dsimp only at hab);split at hab<;>split at hab<;>(try split at hab)<;>(try split at hab)<;>omega) fun i X hi=>by
   try dsimp only
   by_cases hl:i<L.length
   ·rw[List.getElem?_append_left hl]at hi
    rw[if_pos hl,List.cons_append,List.getElem?_cons_succ,List.getElem?_append_left hl];exact hi
   ·rw[List.getElem?_append_right (by omega)]at hi
    by_cases he:i=L.length
    ·subst he
     rw[Nat.sub_self]at hi
     rw[if_neg (by omega),if_pos rfl];simpa using hi
    ·rw[if_neg hl,if_neg he,List.cons_append]
     obtain⟨j,rfl⟩:∃j,i=L.length+(j+1):=⟨i-L.length-1,by omega⟩
     rw[Nat.add_sub_cancel_left,List.getElem?_cons_succ]at hi
     rw[show L.length+(j+1)=(L.length+j)+1 by omega,List.getElem?_cons_succ,List.getElem?_append_right (by omega),Nat.add_sub_cancel_left];exact hi
  exact(aa.closeAll L H1).iL
theorem aa.sW {P:Prop} (H:aa B h0 h (A.and P::As)):aa B h0 h (A::As)∧P:=⟨H.HV 0 rfl,H.fact 0 rfl⟩
theorem aa.tosW {P:Prop} (H:aa B h0 h (A::As)) (p:P):aa B h0 h (A.and P::As):=H.HW 0 rfl p
end
def dV {α:Type} (e:TypeId) (s:Sl) (e2:TypeId) (k:Nat) (f:α→List Value) (ll:List (List α)):HP:=
 HP.ex fun rs:List Sl=>(HP.all (an e s 1 bg rs::bn e2 k f rs ll)).and (rs.length=ll.length)
section
variable {α:Type} {C:Ctx} {B:aj} {h0 h h':Heap} {As:List HP} {e e2 k t by_:Nat} {s:Sl} {f:α→List Value} {ll:List (List α)}
theorem aa.yy (H:aa B h0 h (dV e s e2 k f ll::As)):∃rs:List Sl,rs.length=ll.length∧aa B h0 h ((an e s 1 bg rs::bn e2 k f rs ll)++As):=by
 obtain⟨rs,H⟩:=H.oh
 obtain⟨H,hl⟩:=H.sW
 exact⟨rs,hl,H.na⟩
theorem aa.zk {rs:List Sl} (hl:rs.length=ll.length) (H:aa B h0 h ((an e s 1 bg rs::bn e2 k f rs ll)++As)):aa B h0 h (dV e s e2 k f ll::As):=
 ((aa.closeAll _ H).tosW hl).pV (F:=fun rs:List Sl=>(HP.all (an e s 1 bg rs::bn e2 k f rs ll)).and (rs.length=ll.length)) rs
theorem aa.vP (H:aa B h0 h As) (e e2 k:Nat) (f:α→List Value):aa B h0 h (dV e ⟨none,0,0⟩ e2 k f []::As):=
 aa.zk (rs:=[]) rfl ((H.nil e 1 bg).ee)
theorem aa.Fu {Bs:List HP} (H:aa B h0 h (As++Bs)):aa B h0 h As:=H.pick id (fun _ _ h=>h) fun i A hi=>by
 rw[id,List.getElem?_append_left (List.getElem?_eq_some_iff.1 hi).1];exact hi
theorem aa.DX (H:aa B h0 h (dV e s e2 k f ll::As)) (hw:∀x,(f x).length=k):eW h s k f ll:=by
 obtain⟨rs,hl,H⟩:=H.yy
 exact aa.B3 (aa.Fu H) hl hw
theorem aa.vQ (H:aa B h0 h (dV e s e2 k f ll::As)):s.len=ll.length∧s.len≤s.cap:=by
 obtain⟨rs,hl,H⟩:=H.yy
 exact⟨by rw[(H.own 0 rfl).len,hl],(H.own 0 rfl).cap⟩
theorem aa.yz (hC:C.Ok) {r:Sl} {x:List α} (H:aa B h0 h (dV e s e2 k f ll::an e2 r k f x::As)) (he:bt C.tomV t e 1 [.slice none 0 0] 24) (hsz:ll.length+1≤2^32) {ty:Nat} {K:Sl→Heap→Prop}
  (hk:∀s' h',aa B h0 h' (dV e s' e2 k f (ll++[x])::As)→K s' h'):
  aw C.P (Instr.buildSlice t 1 #[(0,.slice r.ptr r.len r.cap)]) (.one (.sc .slc)) h fun v h1=>aw C.P (Builtin.append_ #[t,t] ty #[.slice s.ptr s.len s.cap,.slice v.ptr v.len v.cap]) (.one (.sc .slc)) h1 K:=by
 obtain⟨rs,hl,H⟩:=H.yy
 refine H.push hC 0 rfl he rfl (by decide) (fun _=>rfl) jg r rfl (by decide) (by omega) fun s' h' H'=>hk s' h' ?_
 refine aa.zk (rs:=rs++[r]) (by simp[hl]) ?_
 rw[pM hl]
 have H':aa B h0 h' (an e s' 1 bg (rs++[r])::(bn e2 k f rs ll++an e2 r k f x::As)):=H'
 have e1:an e s' 1 bg (rs++[r])::(bn e2 k f rs ll++[an e2 r k f x])++As=an e s' 1 bg (rs++[r])::(bn e2 k f rs ll++an e2 r k f x::As):=by simp
 rw[e1];exact H'
end
end Go.Vc
