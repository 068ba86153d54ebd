/- Part of the proofs that the laws of this seat answer true whatever the input reads, and leave it as it was; no condition. -/
import Derived.Test.YteieadfggboeeaaGreatDoorPlA
set_option linter.unusedVariables false
set_option linter.unusedSimpArgs false
namespace Go.Vc
open Go
section
variable {P:Program}
end
end Go.Vc
namespace Go.Vc
open Go
theorem vg (a b:ByteArray):(a==b)=decide (a=b):=by
 cases a with
 |mk a=>
  cases b with
  |mk b=>
   have h:((ByteArray.mk a)==(ByteArray.mk b))=(a==b):=rfl
   rw[h,Bool.eq_iff_iff,beq_iff_eq,decide_eq_true_eq,ByteArray.mk.injEq]
theorem tz (a:ByteArray):(a==a)=true:=by rw[vg,decide_eq_true rfl]
theorem wY {a b:ByteArray} (h:a≠b):(a==b)=false:=by rw[vg,decide_eq_false h]
section
variable {α:Type}
def eJ (x:ByteArray) (v:α):List (ByteArray×α)→List (ByteArray×α)
 |[]=>[(x,v)]
 |(k,u)::t=>if k=x then(k,v)::t else(k,u)::eJ x v t
def dF (x:ByteArray):List (ByteArray×α)→Option α
 |[]=>none
 |(k,u)::t=>if k=x then some u else dF x t
def qG (x:ByteArray):List (ByteArray×α)→List (ByteArray×α)
 |[]=>[]
 |(k,u)::t=>if k=x then t else(k,u)::qG x t
theorem pR {x:ByteArray} (v:α):∀{l:List (ByteArray×α)},dF x l=none→eJ x v l=l++[(x,v)]
 |[],_=>rfl
 |(k,u)::t,h=>by
  unfold dF at h
  split at h
  ·cases h
  ·rename_i hk
   unfold eJ
   rw[if_neg hk,pR v h];rfl
structure go (h:Heap) (r:Nat) (g:α→Value) (kvs:List (ByteArray×α)):Prop where
 ex:∃es clock,h[r]?=some (.map es clock)∧es.toList.map (fun e=>(e.key,e.val))=kvs.map (fun p=>(Value.string p.1,g p.2))
variable {P:Program} {h h':Heap} {r:Nat} {g:α→Value} {kvs:List (ByteArray×α)}
theorem go.aq {p:aj} (hm:go h r g kvs) (hp:ax p h h') (hr:p r):go h' r g kvs:=by
 obtain⟨es,clock,h1,h2⟩:=hm.ex
 exact⟨es,clock,hp.block hr h1,h2⟩
theorem go.lt (hm:go h r g kvs):r<h.size:=by
 obtain⟨es,clock,h1,h2⟩:=hm.ex
 exact lt_of_block h1
theorem kQ {x:ByteArray}:∀{L:List MapEntry} {kvs:List (ByteArray×α)} {n:Nat},L.map (fun e=>(e.key,e.val))=kvs.map (fun p=>(Value.string p.1,g p.2))→dF x kvs=none→
  Instr.findNow .string (.string x) L n=some none
 |[],_,_,_,_=>rfl
 |e::L,[],_,h,_=>by simp at h
 |e::L,(k,u)::t,n,h,hg=>by
  simp only[List.map_cons,List.cons.injEq,Prod.mk.injEq]at h
  obtain⟨⟨h1,h2⟩,h3⟩:=h
  unfold dF at hg
  split at hg
  ·cases hg
  ·rename_i hne
   have:(x==k)=false:=wY fun e=>hne e.symm
   simp only[Instr.findNow,Instr.sameNow,h1,this]
   exact kQ h3 hg
theorem kR {x:ByteArray} {u:α}:∀{L:List MapEntry} {kvs:List (ByteArray×α)} {n:Nat},L.map (fun e=>(e.key,e.val))=kvs.map (fun p=>(Value.string p.1,g p.2))→dF x kvs=some u→
  ∃j e,Instr.findNow .string (.string x) L n=some (some (n+j,g u))∧L[j]?=some e∧e.key=.string x∧
   (∀(v:α) (f:MapEntry→MapEntry),(∀e,e.key=Value.string x→((f e).key,(f e).val)=(Value.string x,g v))→(L.modify j f).map (fun e=>(e.key,e.val))=(eJ x v kvs).map (fun p=>(Value.string p.1,g p.2)))∧
   (L.eraseIdx j).map (fun e=>(e.key,e.val))=(qG x kvs).map (fun p=>(Value.string p.1,g p.2))
 |[],[],_,_,hg=>by cases hg
 |e::L,[],_,h,_=>by simp at h
 |[],_::_,_,h,_=>by simp at h
 |e::L,(k,w)::t,n,h,hg=>by
  simp only[List.map_cons,List.cons.injEq,Prod.mk.injEq]at h
  obtain⟨⟨h1,h2⟩,h3⟩:=h
  unfold dF at hg
  by_cases hk:k=x
  ·subst hk
   rw[if_pos rfl]at hg
   cases hg
   refine⟨0,e,?_,rfl,h1,fun v f hf=>?_,?_⟩
   ·simp only[Instr.findNow,Instr.sameNow,h1,tz,h2,Nat.add_zero]
   ·simp only[eJ,if_true,List.modify_zero_cons,List.map_cons,h3,hf e h1]
   ·simp only[qG,if_true,List.eraseIdx_cons_zero,h3]
  ·rw[if_neg hk]at hg
   obtain⟨j,e',g1,g2,g3,g4,g5⟩:=kR (n:=n+1) h3 hg
   refine⟨j+1,e',?_,g2,g3,fun v f hf=>?_,?_⟩
   ·have:(x==k)=false:=wY fun e=>hk e.symm
    simp only[Instr.findNow,Instr.sameNow,h1,this]
    rw[g1];congr 3;omega
   ·simp only[eJ,hk,if_false,List.modify_succ_cons,List.map_cons,g4 v f hf,h1,h2]
   ·simp only[qG,hk,if_false,List.eraseIdx_cons_succ,List.map_cons,g5,h1,h2]
theorem mb {kt:TypeId} {x:ByteArray} {b:Bool} (hk:P.underlying kt=some .string) (n:Nat):ao P (Instr.checkKey b (n+1) kt (.string x)) ():=by
 unfold Instr.checkKey
 exact(ak hk).bind .pure
theorem rm {t:Nat} {K:Option Nat→Heap→Prop} (g:α→Value) (hk:∀r h',r=h.size→go h' r g []→ax (fun _=>True) h h'→K (some r) h'):
  au P (Instr.makeMap t none) (.one (.sc .mp)) h K:=by
 unfold au Instr.makeMap
 refine aa.bind (aa.ft (aa.pure' ⟨some h.size,rfl,hk _ _ rfl ⟨#[],0,by simp,rfl⟩ (ax.push _ _ _)⟩))
theorem go.wu {t kt et:Nat} {u0:α} {x:ByteArray} (hm:go h r g kvs) (ht:P.underlying t=some (.map kt et)) (hkt:P.underlying kt=some .string) (hz:ao P (zeroValue et) (g u0))
  {rt:Rt} {K:rt.den→Heap→Prop} (hk:∃d:rt.den,Value.tuple #[g ((dF x kvs).getD u0),.bool (dF x kvs).isSome]=rt.enc d∧K d h):
  au P (Instr.lookup t (.map (some r)) (.string x) true) rt h K:=by
 obtain⟨es,clock,h1,h2⟩:=hm.ex
 unfold au Instr.lookup
 refine aa.bind (aa.always (ak ht) ?_)
 refine aa.bind (aa.tm h1 (fun _ _ _ h=>by cases h) ?_)
 refine aa.bind (aa.pure' ?_)
 refine aa.bind (aa.always (mb hkt 9999) ?_)
 unfold Instr.findKey
 refine aa.bind (aa.bind (aa.always (ak hkt) ?_))
 cases hg:dF x kvs with
 |none=>
  rw[kQ h2 hg]
  refine aa.pure' ?_
  refine aa.bind (aa.always hz ?_)
  refine aa.bind (aa.pure' (aa.pure' ?_))
  rw[hg]at hk
  exact hk
 |some u=>
  obtain⟨j,e,g1,_⟩:=kR (x:=x) (n:=0) h2 hg
  rw[g1]
  refine aa.pure' ?_
  refine aa.bind (aa.pure' (aa.pure' ?_))
  rw[hg]at hk
  exact hk
theorem go.update {t kt et:Nat} {x:ByteArray} (v:α) (hm:go h r g kvs) (ht:P.underlying t=some (.map kt et)) (hkt:P.underlying kt=some .string)
  {K:Unit→Heap→Prop} (hk:∀h',go h' r g (eJ x v kvs)→ax (·≠r) h h'→h'.size=h.size→K () h'):
  aa P (Instr.mapUpdate t (.map (some r)) (.string x) (g v)) h K:=by
 obtain⟨es,clock,h1,h2⟩:=hm.ex
 have hr:=lt_of_block h1
 unfold Instr.mapUpdate
 refine aa.bind (aa.always (ak ht) ?_)
 refine aa.bind (aa.tm h1 (fun _ _ _ h=>by cases h) ?_)
 refine aa.bind (aa.always (mb hkt 9999) ?_)
 unfold Instr.findKey
 refine aa.bind (aa.bind (aa.always (ak hkt) ?_))
 have aq:∀o,ax (·≠r) h (h.setIfInBounds r o):=fun o=>ax.cX h1 (fun hh=>hh rfl)
 cases hg:dF x kvs with
 |none=>
  rw[kQ h2 hg]
  refine aa.pure' ?_
  refine aa.tp h1 (fun _ _ _ h=>by cases h) ?_
  refine hk _ ⟨_,_,by rw[Array.getElem?_setIfInBounds,if_pos rfl,if_pos hr],?_⟩ (aq _) (by simp)
  rw[pR v hg]
  simp[h2]
 |some u=>
  obtain⟨j,e,g1,g2,g3,g4,_⟩:=kR (x:=x) (n:=0) h2 hg
  rw[g1]
  refine aa.pure' ?_
  have he:es[0+j]?=some e:=by rw[Nat.zero_add,←Array.getElem?_toList];exact g2
  dsimp only
  rw[he]
  simp only[Option.map_some,Option.getD_some,g3]
  refine aa.bind ?_
  unfold Instr.keyThatStays
  have hs:Instr.sameBits 10000 (.string x) (.string x)=true:=by simp only[Instr.sameBits,tz]
  rw[hs,if_pos rfl]
  refine aa.pure' ?_
  refine aa.tp h1 (fun _ _ _ h=>by cases h) ?_
  refine hk _ ⟨_,_,by rw[Array.getElem?_setIfInBounds,if_pos rfl,if_pos hr],?_⟩ (aq _) (by simp)
  rw[Array.toList_modify,Nat.zero_add]
  exact g4 v _ fun _ _=>rfl
end
def rn {α:Type} (r:Nat) (g:α→Value) (kvs:List (ByteArray×α)):HP:=
 ⟨fun h q=>go h r g kvs∧q r,fun x hp=>⟨x.1.aq hp x.2,x.2⟩,fun x hq=>⟨x.1,hq _ x.2⟩⟩
end Go.Vc
namespace Go.Vc
open Go
def HP.sep (A D:HP):HP:=
 ⟨fun h q=>∃q1 q2:aj,(∀b,q1 b→¬q2 b)∧(∀b,q1 b→q b)∧(∀b,q2 b→q b)∧A.p h q1∧D.p h q2,
  fun⟨q1,q2,a,b,c,d,e⟩ hp=>⟨q1,q2,a,b,c,A.loc d (hp.mono fun x _ hx=>b x hx),D.loc e (hp.mono fun x _ hx=>c x hx)⟩,
  fun⟨q1,q2,a,b,c,d,e⟩ hq=>⟨q1,q2,a,fun x hx=>hq x (b x hx),fun x hx=>hq x (c x hx),d,e⟩⟩
def HP.ex {ι:Type} (F:ι→HP):HP:=⟨fun h q=>∃i,(F i).p h q,fun⟨i,a⟩ hp=>⟨i,(F i).loc a hp⟩,fun⟨i,a⟩ hq=>⟨i,(F i).mono a hq⟩⟩
def HP.and (A:HP) (P:Prop):HP:=⟨fun h q=>A.p h q∧P,fun a hp=>⟨A.loc a.1 hp,a.2⟩,fun a hq=>⟨A.mono a.1 hq,a.2⟩⟩
section
variable {B:aj} {h0 h h':Heap} {As Bs:List HP} {A D E:HP} {i j:Nat}
theorem ab.split (H:ab B h0 h As) (i:Nat) (hi:As[i]?=some (A.sep D)):ab B h0 h (As.set i A++[D]):=by
 classical
 obtain⟨lo,p,c,z,a⟩:=H
 obtain⟨q1,q2,hd,s1,s2,hA,hD⟩:=a i _ hi
 have hlt:=(List.getElem?_eq_some_iff.1 hi).1
 refine⟨lo,p,fun b=>if q2 b then As.length+1 else c b,fun b hb=>?_,fun j X hj=>?_⟩
 ·have h1:=z b hb
  dsimp only
  rw[if_neg];exact h1
  intro h2;have:=(s2 b h2).2;omega
 ·by_cases hl:j<As.length
  ·rw[List.getElem?_append_left (by simpa using hl),List.getElem?_set]at hj
   split at hj
   ·rename_i hij
    subst hij
    first|rw[if_pos hl]at hj|skip
    injection hj with hj
    subst hj
    refine A.mono hA fun b hb=>⟨(s1 b hb).1,?_⟩
    dsimp only
    rw[if_neg (hd b hb)];exact(s1 b hb).2
   ·rename_i hij
    refine X.mono (a j X hj) fun b hb=>⟨hb.1,?_⟩
    dsimp only
    rw[if_neg];exact hb.2
    intro h2;have:=(s2 b h2).2;omega
  ·rw[List.getElem?_append_right (by simpa using hl)]at hj
   rw[List.length_set]at hj
   have hj0:j=As.length:=by
    have:=(List.getElem?_eq_some_iff.1 hj).1
    simp at this;omega
   subst hj0
   simp at hj
   subst hj
   refine D.mono hD fun b hb=>⟨(s2 b hb).1,?_⟩
   dsimp only
   rw[if_pos hb]
theorem ab.join (H:ab B h0 h As) (i j:Nat) (hij:i≠j) (hi:As[i]?=some A) (hj:As[j]?=some D):ab B h0 h ((As.set i (A.sep D)).set j emp):=
 H.merge i j hij hi hj fun q1 q2 hd hA hD=>⟨q1,q2,hd,fun _ hb=>.inl hb,fun _ hb=>.inr hb,hA,hD⟩
theorem ab.yQ {ι:Type} {F:ι→HP} (H:ab B h0 h As) (i:Nat) (hi:As[i]?=some (HP.ex F)):∃x,ab B h0 h (As.set i (F x)):=by
 obtain⟨lo,p,c,z,a⟩:=H
 obtain⟨x,hx⟩:=a i _ hi
 refine⟨x,lo,p,c,z,fun j X hj=>?_⟩
 rw[List.getElem?_set]at hj
 split at hj
 ·rename_i hij
  subst hij
  split at hj
  ·injection hj with hj;subst hj;exact hx
  ·cases hj
 ·exact a j X hj
theorem ab.close' {ι:Type} {F:ι→HP} (H:ab B h0 h As) (i:Nat) (x:ι) (hi:As[i]?=some (F x)):ab B h0 h (As.set i (HP.ex F)):=H.nB i hi fun _ hq=>⟨x,hq⟩
theorem ab.fact {P:Prop} (H:ab B h0 h As) (i:Nat) (hi:As[i]?=some (A.and P)):P:=(H.at i hi).2
theorem ab.yR {P:Prop} (H:ab B h0 h As) (i:Nat) (hi:As[i]?=some (A.and P)):ab B h0 h (As.set i A):=H.nB i hi fun _ hq=>hq.1
theorem ab.yS {P:Prop} (H:ab B h0 h As) (i:Nat) (hi:As[i]?=some A) (hp:P):ab B h0 h (As.set i (A.and P)):=H.nB i hi fun _ hq=>⟨hq,hp⟩
theorem ab.cons (H:ab B h0 h As) (i:Nat) (hi:As[i]?=some A):ab B h0 h (A::As.set i emp):=by
 obtain⟨lo,p,c,z,a⟩:=H
 have hlt:=(List.getElem?_eq_some_iff.1 hi).1
 refine⟨lo,p,fun b=>if c b=i+1 then 1 else if c b=0 then 0 else c b+1,fun b hb=>?_,fun j X hj=>?_⟩
 ·have:=z b hb;dsimp only;rw[if_neg (by omega),if_pos this]
 ·cases j with
  |zero=>
   simp at hj;subst hj
   refine A.mono (a i A hi) fun b hb=>⟨hb.1,by dsimp only;rw[if_pos hb.2]⟩
  |succ j=>
   rw[List.getElem?_cons_succ,List.getElem?_set]at hj
   split at hj
   ·rename_i hij
    injection hj with hj;subst hj;trivial
   ·rename_i hij
    refine X.mono (a j X hj) fun b hb=>⟨hb.1,by dsimp only;rw[if_neg (by omega),if_neg (by omega)];omega⟩
theorem ab.rest (H:ab B h0 h (A::As)):ab B h0 h As:=H.pick (fun j=>j+1) (fun a b h=>by omega) fun j X hj=>by simpa using hj
end
end Go.Vc
namespace Go.Vc
open Go
structure iM (α β:Type) where
 p:Heap→aj→α→β→Prop
 loc:∀{h h':Heap} {q:aj} {a:α} {b:β},p h q a b→ax q h h'→p h' q a b
 mono:∀{h:Heap} {q q':aj} {a:α} {b:β},p h q a b→(∀x,q x→q' x)→p h q' a b
def uc {α:Type} (k:Nat) (f:α→List Value):iM Sl (List α):=⟨fun h q s l=>Seq h q s k f l,fun a hp=>a.aq hp,fun a hq=>a.mono hq⟩
def cL {α β:Type} (E:iM α β) (k:Nat) (f:α→List Value):iM Sl (List β):=
 ⟨fun h q s ll=>∃rs:List α,Seq h q s k f rs∧rs.length=ll.length∧∀(i:Nat) r l,rs[i]?=some r→ll[i]?=some l→E.p h q r l,
  fun⟨rs,a,b,c⟩ hp=>⟨rs,a.aq hp,b,fun i r l h1 h2=>E.loc (c i r l h1 h2) hp⟩,fun⟨rs,a,b,c⟩ hq=>⟨rs,a.mono hq,b,fun i r l h1 h2=>E.mono (c i r l h1 h2) hq⟩⟩
abbrev zB {α β:Type} (E:iM α β) (h:Heap) (a:α) (b:β):Prop:=E.p h (fun b=>b<h.size) a b
section
variable {α β:Type} {E:iM α β} {k:Nat} {f:α→List Value} {h h':Heap} {q:aj} {s:Sl} {ll:List β} {a:α} {b:β}
theorem cL.yT (x:(cL E k f).p h q s ll):∃rs:List α,Seq h q s k f rs∧rs.length=ll.length∧∀(i:Nat) (h1:i<rs.length) (h2:i<ll.length),E.p h q rs[i] ll[i]:=by
 obtain⟨rs,a,b,c⟩:=x
 exact⟨rs,a,b,fun i h1 h2=>c i _ _ (List.getElem?_eq_getElem h1) (List.getElem?_eq_getElem h2)⟩
theorem cL.len (x:(cL E k f).p h q s ll):s.len=ll.length:=by obtain⟨rs,a,b,c⟩:=x;rw[a.len,b]
theorem cL.nil (h:Heap) (q:aj) (pt:Option Addr) (c:Nat):(cL E k f).p h q ⟨pt,0,c⟩ []:=⟨[],Seq.nil h q c pt k f,rfl,fun i r l h1=>by simp at h1⟩
theorem cL.take (x:(cL E k f).p h q s ll) (n:Nat) (hn:n≤ll.length):(cL E k f).p h q ⟨s.ptr,n,s.cap⟩ (ll.take n):=by
 obtain⟨rs,a,b,c⟩:=x
 refine⟨rs.take n,a.take n (by omega),by simp[b],fun i r l h1 h2=>?_⟩
 rw[List.getElem?_take]at h1 h2
 split at h1
 ·rename_i hi;rw[if_pos hi]at h2;exact c i r l h1 h2
 ·cases h1
end
section
variable {α β:Type} {E:iM α β} {C:Ctx} {k e t:Nat} {f:α→List Value} {B:aj} {h0 h h':Heap} {As:List HP} {s:Sl} {ll:List β} {z:List Value} {by_:Nat}
end
end Go.Vc
namespace Go.Vc
open Go
section
variable {α β:Type} {E:iM α β} {k e:Nat} {f:α→List Value} {B:aj} {h0 h:Heap} {As:List HP} {s:Sl}
end
end Go.Vc
namespace Go.Vc
open Go
section
variable {α:Type} {B:aj} {h0 h:Heap} {As:List HP} {e e2 k:Nat} {s:Sl} {f:α→List Value} {rs:List Sl} {ll:List (List α)}
end
end Go.Vc
namespace Go.Vc
open Go
theorem pS {h h':Heap} {p:aj} (hp:ax p h h'):∀{L:ar},L.ok h→(∀x∈L,p x.1.block)→L.ok h'
 |[],_,_=>trivial
 |x::L,hk,hq=>⟨hp.cell (hq x (by simp)) hk.1,pS hp hk.2 fun y hy=>hq y (by simp[hy])⟩
theorem pT {h h':Heap} (hp:ax (fun b=>b<h.size) h h') {L:ar} (hk:L.ok h):L.ok h':=pS hp hk (by
 clear hp
 induction L with
 |nil=>intro x hx;cases hx
 |cons y L ih=>
  intro x hx
  rcases List.mem_cons.1 hx with rfl|hx
  ·exact cg hk.1
  ·exact ih hk.2 x hx)
theorem au.both {P:Program} {s:Sem Value} {h:Heap} {K:Sl→Heap→Prop} {Q:Heap→Prop} (h1:au P s (.one (.sc .slc)) h fun _ h'=>Q h') (h2:au P s (.one (.sc .slc)) h K):au P s (.one (.sc .slc)) h fun x h'=>Q h'∧K x h':=by
 intro w hw
 obtain⟨v1,w1,a1,a2,x1,a3,a4⟩:=h1 w hw
 obtain⟨v2,w2,b1,b2,x2,b3,b4⟩:=h2 w hw
 rw[a1]at b1
 cases b1
 exact⟨_,_,a1,a2,x2,b3,a4,b4⟩
theorem ab.pi {α:Type} {B:aj} {C:Ctx} {h0 h:Heap} {As:List HP} {e t k by_:Nat} {z:List Value} {K:Sl→Heap→Prop} (hC:C.Ok) (H:ab B h0 h As) (f:α→List Value) (he:bf C.tokh t e k z by_) (hk0:z.length=k) {n:Nat} {parts:Array (Nat×Value)} (l:List α) (hn:l.length=n) (hnk:n*k≤2^20)
  (hfill:Instr.fill (fun i=>some (i*k,k)) (cD z n).toArray parts.toList=some (l.flatMap f).toArray) {L:ar} (hL:L.ok h) (h2:au C.P (Instr.buildSlice t n parts) (.one (.sc .slc)) h K):
  au C.P (Instr.buildSlice t n parts) (.one (.sc .slc)) h fun x h'=>L.ok h'∧K x h':=
 au.both ((Sp.refl h).lit hC f he hk0 l hn hnk hfill fun _ _ H'=>pT H'.aq hL) h2
end Go.Vc
namespace Go.Vc
open Go
section
variable {B:aj} {h0 h h':Heap} {As Bs:List HP} {A D E:HP} {i j:Nat}
theorem ab.front (H:ab B h0 h (As++Bs)):ab B h0 h (Bs++As):=
 H.pick (fun j=>if j<Bs.length then As.length+j else if j<Bs.length+As.length then j-Bs.length else j)
  (fun a b hab=>by(try dsimp only at hab);split at hab<;>split at hab<;>(try split at hab)<;>(try split at hab)<;>omega) fun j X hj=>by
  try dsimp only
  split
  ·rename_i hlt
   rw[List.getElem?_append_left hlt]at hj
   rw[List.getElem?_append_right (by omega),Nat.add_sub_cancel_left];exact hj
  ·rename_i hlt
   rw[List.getElem?_append_right (by omega)]at hj
   have:=(List.getElem?_eq_some_iff.1 hj).1
   rw[if_pos (by omega),List.getElem?_append_left this];exact hj
theorem ab.cz (H:ab B h0 h (As++[A])):ab B h0 h (A::As):=H.front
theorem ab.im (H:ab B h0 h As) (R:Sp h h' [A]):ab B h0 h' (A::As):=(H.comp R).cz
theorem ab.mP (H:ab B h0 h (A::D::As)):ab B h0 h (A::As):=H.del 1
theorem ab.qH {ι:Type} {F:ι→HP} (H:ab B h0 h (HP.ex F::As)):∃x,ab B h0 h (F x::As):=H.yQ 0 rfl
theorem ab.rp {ι:Type} {F:ι→HP} (x:ι) (H:ab B h0 h (F x::As)):ab B h0 h (HP.ex F::As):=H.close' 0 x rfl
theorem ab.rq (H:ab B h0 h (A.sep D::As)):ab B h0 h (D::A::As):=(H.split 0 rfl).cz
theorem ab.qI (H:ab B h0 h (D::A::As)):ab B h0 h (A.sep D::As):=by
 have h2:ab B h0 h (emp::A.sep D::As):=H.join 1 0 (by decide) rfl rfl
 exact h2.rest
end
end Go.Vc
namespace Go.Vc
open Go
theorem Seq.zH {h:Heap} {p:aj} {s:Sl} {rs:List Sl} (hs:Seq h p s 1 fI rs) {i:Int} (n:Nat) (hi:i=n) (hn:n<rs.length) {K:Sl→Prop} (hk:K rs[n]):
  ∃a:Addr,(s.ptr=some a∧0≤i∧i<((s.len:Nat):Int))∧∃x:Sl,cellOf h (a.add (i.toNat*1))=some (.slice x.ptr x.len x.cap)∧K x:=
 hs.bd (g:=fun r:Sl=>Value.slice r.ptr r.len r.cap) n hi hn rs[n] rfl hk
end Go.Vc
namespace Go.Vc
open Go
def St (B:aj) (h0:Heap) (As:List HP) (Q:Heap→Prop):Prop:=∀(Bs:List HP) (h':Heap),ab B h0 h' (Bs++As)→Q h'
section
variable {B:aj} {h0 h h':Heap} {As Bs:List HP} {A:HP} {Q:Heap→Prop}
theorem St.at (x:St B h0 As Q) (Bs:List HP) (H:ab B h0 h (Bs++As)):Q h:=x Bs h H
theorem St.base (hq:Q h0) (hs:∀h',ax B h0 h'→Q h'):St B h0 As Q:=fun _ _ H=>hs _ H.aq
theorem St.wZ (j:Nat) (hj:As[j]?=some A) (hs:∀h',A.p h' (fun b=>b<h'.size)→Q h'):St B h0 As Q:=fun Bs h' H=>hs _ (H.at (Bs.length+j) (by rw[List.getElem?_append_right (by omega),Nat.add_sub_cancel_left];exact hj))
theorem St.cons (x:St B h0 As Q):St B h0 (A::As) Q:=fun Bs h' H=>x (Bs++[A]) h' (by rw[List.append_assoc];exact H)
end
end Go.Vc
namespace Go.Vc
open Go
section
variable {β:Type} {E:iM Sl β} {h:Heap} {q:aj} {s:Sl} {ll:List β}
end
end Go.Vc
namespace Go.Vc
open Go
theorem me {α:Type} {l:List α} (hn:l.Nodup) {a b:Nat} (ha:a<l.length) (hb:b<l.length) (h:l[a]=l[b]):a=b:=by
 have h1:=List.pairwise_iff_getElem.1 hn
 rcases Nat.lt_trichotomy a b with hlt|he|hgt
 ·exact absurd h (h1 a b ha hb hlt)
 ·exact he
 ·exact absurd h.symm (h1 b a hb ha hgt)
theorem ab.de {B:aj} {h0 h:Heap} {As:List HP} (H:ab B h0 h As) (L:List Nat) (hl:∀j∈L,j<As.length:=by simp) (hn:L.Nodup:=by decide):ab B h0 h (L.map fun j=>As.getD j emp):=by
 refine H.pick (fun i=>if h:i<L.length then L[i]else As.length+i) (fun a b hab=>?_) fun i A2 hi=>?_
 ·try dsimp only at hab
  split at hab<;>split at hab
  ·exact me hn _ _ hab
  ·have:=hl _ (List.getElem_mem (l:=L) (n:=a) (by assumption));omega
  ·have:=hl _ (List.getElem_mem (l:=L) (n:=b) (by assumption));omega
  ·omega
 ·try dsimp only
  rw[List.getElem?_map]at hi
  split
  ·rename_i hlt
   rw[List.getElem?_eq_getElem hlt]at hi
   have hlt2:=hl _ (List.getElem_mem hlt)
   simp only[Option.map_some,Option.some.injEq]at hi
   rw[←hi,List.getD_eq_getElem?_getD,List.getElem?_eq_getElem hlt2];rfl
  ·rename_i hlt
   rw[List.getElem?_eq_none (by omega)]at hi;simp at hi
end Go.Vc
namespace Go.Vc
open Go
theorem St.mk' {B:aj} {h0:Heap} {As:List HP} {Q:Heap→Prop} (x:∀h',ab B h0 h' As→Q h'):St B h0 As Q:=fun Bs h' H=>x h' (H.take Bs.length fun i A hi=>by
 rw[List.getElem?_append_right (by omega),Nat.add_sub_cancel_left];exact hi)
end Go.Vc
namespace Go.Vc
open Go
theorem ab.bL {B:aj} {h0 h:Heap} {As:List HP} (H:ab B h0 h As) (k:Nat) (L:List Nat) (hk:k≤As.length:=by simp) (hl:∀j∈L,j<k:=by simp) (hn:L.Nodup:=by decide):ab B h0 h (L.map (fun j=>As.getD j emp)++As.drop k):=by
 refine H.pick (fun i=>if h:i<L.length then L[i]else k+(i-L.length)) (fun a b hab=>?_) fun i A2 hi=>?_
 ·try dsimp only at hab
  split at hab<;>split at hab
  ·exact me hn _ _ hab
  ·have:=hl _ (List.getElem_mem (l:=L) (n:=a) (by assumption));omega
  ·have:=hl _ (List.getElem_mem (l:=L) (n:=b) (by assumption));omega
  ·omega
 ·try dsimp only
  by_cases hlt:i<L.length
  ·rw[dif_pos hlt]
   rw[List.getElem?_append_left (by simpa using hlt),List.getElem?_map,List.getElem?_eq_getElem hlt]at hi
   have hlt2:=hl _ (List.getElem_mem hlt)
   simp only[Option.map_some,Option.some.injEq]at hi
   rw[←hi,List.getD_eq_getElem?_getD,List.getElem?_eq_getElem (by omega)];rfl
  ·rw[dif_neg hlt]
   rw[List.getElem?_append_right (by simpa using hlt),List.length_map,List.getElem?_drop]at hi
   exact hi
end Go.Vc
namespace Go.Vc
open Go
section
variable {α β:Type} {E:iM α β} {C:Ctx} {k e t by_:Nat} {f:α→List Value} {B:aj} {h0 h h':Heap} {As:List HP} {q:aj} {s:Sl} {rs:List α} {ll:List β} {ti:TI} {z:List Value}
def Fix (E:iM α β) (k:Nat) (f:α→List Value) (h:Heap) (q:aj) (s:Sl) (rs:List α) (ll:List β):Prop:=Seq h q s k f rs∧rs.length=ll.length∧∀(i:Nat) r l,rs[i]?=some r→ll[i]?=some l→E.p h q r l
theorem Fix.aq (x:Fix E k f h q s rs ll) (hp:ax q h h'):Fix E k f h' q s rs ll:=⟨x.1.aq hp,x.2.1,fun i r l h1 h2=>E.loc (x.2.2 i r l h1 h2) hp⟩
theorem Fix.mono {q':aj} (x:Fix E k f h q s rs ll) (hq:∀b,q b→q' b):Fix E k f h q' s rs ll:=⟨x.1.mono hq,x.2.1,fun i r l h1 h2=>E.mono (x.2.2 i r l h1 h2) hq⟩
abbrev lr (E:iM α β) (k:Nat) (f:α→List Value) (h:Heap) (s:Sl) (rs:List α) (ll:List β):Prop:=Fix E k f h (fun b=>b<h.size) s rs ll
theorem lr.up (x:lr E k f h s rs ll) (hp:ax (fun b=>b<h.size) h h'):lr E k f h' s rs ll:=(Fix.aq x hp).mono fun _ hb=>Nat.lt_of_lt_of_le hb hp.1
theorem Fix.row (x:Fix E k f h q s rs ll) {i:Nat} (hi:i<ll.length):E.p h q (rs[i]'(by rw[x.2.1];exact hi)) ll[i]:=x.2.2 i _ _ (List.getElem?_eq_getElem _) (List.getElem?_eq_getElem _)
theorem cL.fix (x:(cL E k f).p h q s ll):∃rs,Fix E k f h q s rs ll:=x
theorem Fix.zR (x:Fix E k f h q s rs ll):(cL E k f).p h q s ll:=⟨rs,x⟩
def pj (E:iM α β) (k:Nat) (f:α→List Value) (s:Sl) (rs:List α) (ll:List β):HP:=⟨fun h q=>Fix E k f h q s rs ll,fun x hp=>x.aq hp,fun x hq=>x.mono hq⟩
theorem ab.xa (H:ab B h0 h As) (i:Nat) (hi:As[i]?=some (pj E k f s rs ll)):lr E k f h s rs ll:=H.at i hi
end
end Go.Vc
namespace Go.Vc
open Go
section
variable {α:Type} {P:Program} {B:aj} {h0 h h':Heap} {As:List HP} {r:Nat} {g:α→Value} {kvs:List (ByteArray×α)}
theorem ab.yl {t:Nat} (H:ab B h0 h As) (g:α→Value) {K:Option Nat→Heap→Prop} (hk:∀r h',ab B h0 h' (As++[rn r g []])→K (some r) h'):au P (Instr.makeMap t none) (.one (.sc .mp)) h K:=
 rm g fun r h' hr hm hp=>hk r h' (H.comp (.one (any hp) ⟨hm,by omega,hm.lt⟩))
theorem ab.map (H:ab B h0 h As) (i:Nat) (hi:As[i]?=some (rn r g kvs)):go h r g kvs:=(H.at i hi).1
theorem ab.rr {t kt et:Nat} {x:ByteArray} (v:α) (H:ab B h0 h As) (i:Nat) (hi:As[i]?=some (rn r g kvs)) (ht:P.underlying t=some (.map kt et)) (hkt:P.underlying kt=some .string)
  {K:Unit→Heap→Prop} (hk:∀h',ab B h0 h' (As.set i (rn r g (eJ x v kvs)))→K () h'):aa P (Instr.mapUpdate t (.map (some r)) (.string x) (g v)) h K:=
 (H.map i hi).update v ht hkt fun h' hm hp hs=>hk h' (H.step i hi fun q hq hlt=>⟨hp.mono fun b _ hb e=>hb (e▸hq.2),hm,hm.lt,.inl hq.2⟩)
end
section
variable {α:Type}
end
end Go.Vc
