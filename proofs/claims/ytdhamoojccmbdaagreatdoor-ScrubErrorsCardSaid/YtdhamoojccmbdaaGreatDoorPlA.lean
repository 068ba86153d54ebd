/- Part of the proofs that the laws of this seat answer true whatever the input reads, and leave it as it was; no condition. -/
import Derived.Test.YtdhamoojccmbdaaGreatDoorVcA
set_option linter.unusedVariables false
set_option linter.unusedSimpArgs false
namespace Go.Vc
open Go
section
variable {A B:Prop}
theorem an {p:Prop} [Decidable p] (h1:p→A) (h2:¬p→B):Br (decide p) A B:=by
 by_cases h:p
 ·rw[decide_eq_true h];exact h1 h
 ·rw[decide_eq_false h];exact h2 h
theorem dO {a b:Int} (h1:a=b→A) (h2:a≠b→B):Br (a==b) A B:=by
 by_cases h:a=b
 ·rw[beq_iff_eq.2 h];exact h1 h
 ·rw[beq_eq_false_iff_ne.2 h];exact h2 h
theorem dt {a b:Int} (h1:a≠b→A) (h2:a=b→B):Br (a !=b) A B:=by
 by_cases h:a=b
 ·rw[show(a !=b)=false by simp[h]];exact h2 h
 ·rw[show(a !=b)=true by simp[h]];exact h1 h
theorem ck {b:Bool} (h1:b=true→A) (h2:b=false→B):Br b A B:=by
 cases b
 ·exact h2 rfl
 ·exact h1 rfl
theorem aV {b:Bool} (h1:b=false→A) (h2:b=true→B):Br (!b) A B:=by
 cases b
 ·exact h1 rfl
 ·exact h2 rfl
end
theorem bc {σ:Type} {rest:σ→Heap→Prop} {B:(σ→Heap→Prop)→Prop} (h:B rest):bn rest B:=⟨rest,fun _ _ x=>x,h⟩
theorem dJ {σ:Type} {rest:σ→Heap→Prop} {B:(σ→Heap→Prop)→Prop} (R:σ→Heap→Prop) (h1:B R) (h2:∀s h,R s h→rest s h):bn rest B:=⟨R,h2,h1⟩
theorem aE {σ:Type} {B:σ→(σ→Heap→Prop)→Heap→Prop} {s:σ} {h:Heap} {τ:Type} (V:τ→σ) (I:τ→Heap→Prop) (μ:τ→Nat) (t0:τ) (hs:s=V t0) (h0:I t0 h)
  (hr:∀t h,I t h→B (V t) (fun s' h'=>∃t',s'=V t'∧I t' h'∧μ t'<μ t) h):aR B s h:=⟨τ,V,I,μ,t0,hs,h0,hr⟩
end Go.Vc
namespace Go.Vc
open Go
abbrev ag:=Nat→Prop
def ar (p:ag) (h h':Heap):Prop:=h.size≤h'.size∧∀b,b<h.size→p b→h'[b]?=h[b]?
def Sl.on (s:Sl) (b:Nat):Prop:=∃o,s.ptr=some ⟨b,o,none⟩
section
variable {p q:ag} {h h' h'':Heap}
theorem ar.refl (p:ag) (h:Heap):ar p h h:=⟨Nat.le_refl _,fun _ _ _=>rfl⟩
theorem ar.trans (a:ar p h h') (b:ar p h' h''):ar p h h'':=⟨Nat.le_trans a.1 b.1,fun k hk hp=>(b.2 k (Nat.lt_of_lt_of_le hk a.1) hp).trans (a.2 k hk hp)⟩
theorem ar.then (a:ar p h h') (b:ar q h' h'') (hq:∀k,k<h.size→p k→q k):ar p h h'':=⟨Nat.le_trans a.1 b.1,fun k hk hp=>(b.2 k (Nat.lt_of_lt_of_le hk a.1) (hq k hk hp)).trans (a.2 k hk hp)⟩
theorem ar.mono (a:ar p h h') (hq:∀b,b<h.size→q b→p b):ar q h h':=⟨a.1,fun k hk hp=>a.2 k hk (hq k hk hp)⟩
theorem ar.push (p:ag) (h:Heap) (o:Obj):ar p h (h.push o):=⟨by simp,fun b hb _=>by rw[Array.getElem?_push,if_neg (by omega)]⟩
theorem ar.mA {a:Addr} {v:Value} (hp:¬p a.block):ar p h (mA h a v):=⟨by simp[Go.Vc.mA],fun b _ hq=>by
 simp only[Go.Vc.mA,Array.getElem?_modify]
 rw[if_neg (fun e=>hp (by rw[e];exact hq))]⟩
theorem lD {a:Addr} {v:Value} (hc:cellOf h a=some v):a.block<h.size:=by
 unfold cellOf at hc
 cases hb:h[a.block]? with
 |none=>rw[hb]at hc;cases hc
 |some o=>exact(Array.getElem?_eq_some_iff.1 hb).1
theorem lt_of_block {b:Nat} {o:Obj} (hb:h[b]?=some o):b<h.size:=(Array.getElem?_eq_some_iff.1 hb).1
theorem ar.cell (a:ar p h h') {x:Addr} {v:Value} (hp:p x.block) (hc:cellOf h x=some v):cellOf h' x=some v:=by
 have:=a.2 _ (lD hc) hp
 unfold cellOf at*
 rw[this];exact hc
theorem ar.block (a:ar p h h') {b:Nat} {o:Obj} (hp:p b) (hb:h[b]?=some o):h'[b]?=some o:=by rw[a.2 b (lt_of_block hb) hp];exact hb
theorem ar.cells (a:ar p h h') {x:Addr} (hp:p x.block):∀{vs:List Value} {i:Nat},aj h x i vs→aj h' x i vs
 |[],_,_=>trivial
 |v::r,i,hc=>⟨a.cell (by unfold Addr.add;split<;>exact hp) hc.1,ar.cells a hp hc.2⟩
end
theorem add_eq (b o n:Nat):(⟨b,o,none⟩:Addr).add n=⟨b,o+n,none⟩:=by
 unfold Addr.add
 split
 ·rename_i h;subst h;rfl
 ·rfl
theorem add_zero (a:Addr):a.add 0=a:=rfl
theorem lE {h:Heap} {b o:Nat} {c:Array Value} {e:TypeId} {f:Nat×Nat} (hb:h[b]?=some (.cells c e f)):cellOf h ⟨b,o,none⟩=c[o]?:=by
 unfold cellOf;rw[hb];rfl
theorem yu {h:Heap} {b o:Nat} {c:Array Value} {e:TypeId} (hb:h[b]?=some (.cells c e (0,0))):vQ h ⟨b,o,none⟩=false:=by
 unfold vQ;rw[hb];simp
structure Seq {α:Type} (h:Heap) (p:ag) (s:Sl) (k:Nat) (f:α→List Value) (l:List α):Prop where
 len:s.len=l.length
 elem:∀i x,l[i]?=some x→∃b o,s.ptr=some ⟨b,o,none⟩∧p b∧aj h ⟨b,o+i*k,none⟩ 0 (f x)
section
variable {α:Type} {h h':Heap} {p q:ag} {s:Sl} {k:Nat} {f:α→List Value} {l:List α}
theorem Seq.ao (hs:Seq h p s k f l) (hp:ar p h h'):Seq h' p s k f l:=⟨hs.len,fun i x hx=>by
 obtain⟨b,o,h1,h2,h3⟩:=hs.elem i x hx
 exact⟨b,o,h1,h2,hp.cells h2 h3⟩⟩
theorem Seq.mono (hs:Seq h p s k f l) (hp:∀b,p b→q b):Seq h q s k f l:=⟨hs.len,fun i x hx=>by
 obtain⟨b,o,h1,h2,h3⟩:=hs.elem i x hx
 exact⟨b,o,h1,hp b h2,h3⟩⟩
theorem Seq.nil (h:Heap) (p:ag) (c:Nat) (pt:Option Addr) (k:Nat) (f:α→List Value):Seq h p ⟨pt,0,c⟩ k f []:=⟨rfl,fun i x hx=>by simp at hx⟩
theorem Seq.ef {X:Type} {g:X→Value} (hs:Seq h p s 1 f l) {i:Int} (n:Nat) (hi:i=n) (hn:n<l.length) (x:X) (hx:f l[n]=[g x]) {K:X→Prop} (hk:K x):
  ∃a:Addr,(s.ptr=some a∧0≤i∧i<((s.len:Nat):Int))∧∃x:X,cellOf h (a.add (i.toNat*1))=some (g x)∧K x:=by
 subst hi
 obtain⟨b,o,h1,_,h3⟩:=hs.elem n l[n] (List.getElem?_eq_getElem hn)
 refine⟨_,⟨h1,by omega,by rw[hs.len];omega⟩,x,?_,hk⟩
 rw[hx]at h3
 have:=h3.1
 rw[add_eq,Nat.add_zero]at this
 rw[add_eq];simpa using this
theorem Seq.fp {X:Type} {g:X→List Value} (hs:Seq h p s k f l) {i:Int} (n:Nat) (hi:i=n) (hn:n<l.length) (x:X) (hx:f l[n]=g x) {K:X→Prop} (hk:K x):
  ∃a:Addr,(s.ptr=some a∧0≤i∧i<((s.len:Nat):Int))∧∃x:X,aj h (a.add (i.toNat*k)) 0 (g x)∧K x:=by
 subst hi
 obtain⟨b,o,h1,_,h3⟩:=hs.elem n l[n] (List.getElem?_eq_getElem hn)
 refine⟨_,⟨h1,by omega,by rw[hs.len];omega⟩,x,?_,hk⟩
 rw[add_eq]
 rw[hx]at h3
 simpa using h3
end
def aI (n:Int):List Value:=[.int .i64 n]
def aF (n:UInt8):List Value:=[.int .u8 n.toNat]
def cv (s:Sl):List Value:=[.slice s.ptr s.len s.cap]
structure fB {α:Type} (h:Heap) (p:ag) (s:Sl) (k:Nat) (f:α→List Value) (ll:List (List α)) (rs:List Sl):Prop where
 top:Seq h p s 1 cv rs
 len:rs.length=ll.length
 row:∀(i:Nat) (r:Sl) (l:List α),rs[i]?=some r→ll[i]?=some l→Seq h p r k f l
section
variable {α:Type} {h h':Heap} {p q:ag} {s:Sl} {k:Nat} {f:α→List Value} {ll:List (List α)} {rs:List Sl}
theorem fB.ao (hs:fB h p s k f ll rs) (hp:ar p h h'):fB h' p s k f ll rs:=⟨hs.top.ao hp,hs.len,fun i r l h1 h2=>(hs.row i r l h1 h2).ao hp⟩
theorem fB.mono (hs:fB h p s k f ll rs) (hp:∀b,p b→q b):fB h q s k f ll rs:=⟨hs.top.mono hp,hs.len,fun i r l h1 h2=>(hs.row i r l h1 h2).mono hp⟩
theorem fB.BQ (hs:fB h p s k f ll rs):s.len=ll.length:=by rw[hs.top.len,hs.len]
theorem fB.get (hs:fB h p s k f ll rs) {i:Int} (n:Nat) (hi:i=n) (hn:n<ll.length) {K:Sl→Prop} (hk:∀r,Seq h p r k f ll[n]→rs[n]?=some r→K r):
  ∃a:Addr,(s.ptr=some a∧0≤i∧i<((s.len:Nat):Int))∧∃x:Sl,cellOf h (a.add (i.toNat*1))=some (.slice x.ptr x.len x.cap)∧K x:=by
 have hn':n<rs.length:=by rw[hs.len];exact hn
 have h1:rs[n]?=some rs[n]:=List.getElem?_eq_getElem hn'
 exact hs.top.ef n hi hn' rs[n] rfl (hk _ (hs.row n _ _ h1 (List.getElem?_eq_getElem hn)) h1)
end
structure Own {α:Type} (h:Heap) (e:TypeId) (s:Sl) (k:Nat) (f:α→List Value) (l:List α):Prop where
 len:s.len=l.length
 head:(s.ptr=none∧s.cap=0∧l=[])∨∃b rest,s.ptr=some ⟨b,0,none⟩∧h[b]?=some (.cells (l.flatMap f++rest).toArray e (0,0))∧rest.length=(s.cap-s.len)*k∧s.len≤s.cap
theorem bK {α:Type} {k:Nat} {f:α→List Value} (hw:∀x,(f x).length=k):∀(l:List α),(l.flatMap f).length=l.length*k
 |[]=>by simp
 |x::r=>by rw[List.flatMap_cons,List.length_append,hw,bK hw r,List.length_cons,Nat.succ_mul];omega
theorem tf {α:Type} {k:Nat} {f:α→List Value} (hw:∀x,(f x).length=k):∀(l:List α) (i:Nat) (x:α),l[i]?=some x→∃pre post,l.flatMap f=pre++f x++post∧pre.length=i*k
 |y::r,0,x,h=>by simp at h;subst h;exact⟨[],r.flatMap f,by simp,by simp⟩
 |y::r,i+1,x,h=>by
  obtain⟨pre,post,h1,h2⟩:=tf hw r i x (by simpa using h)
  exact⟨f y++pre,post,by simp[h1],by rw[List.length_append,hw,h2,Nat.succ_mul];omega⟩
theorem kO {h:Heap} {b o:Nat} {e:TypeId} {fr:Nat×Nat}:∀{vs pre post:List Value} {i:Nat},h[b]?=some (.cells (pre++vs++post).toArray e fr)→pre.length=o+i→aj h ⟨b,o,none⟩ i vs
 |[],_,_,_,_,_=>trivial
 |v::r,pre,post,i,hb,hl=>by
  refine⟨?_,kO (pre:=pre++[v]) (post:=post) (by simpa using hb) (by simp;omega)⟩
  rw[add_eq,lE hb,←hl]
  simp
def cV (h:Heap) (b:Nat) (o:Obj):Heap:=h.setIfInBounds b o
theorem cH {h:Heap} {b c:Nat} {o x:Obj} (hb:h[b]?=some x):(cV h b o)[c]?=if b=c then some o else h[c]?:=by
 unfold cV
 rw[Array.getElem?_setIfInBounds]
 split
 ·rename_i e;subst e;rw[if_pos (lt_of_block hb)]
 ·rfl
theorem w7 {h:Heap} {b o:Nat} {c:Array Value} {e:TypeId} {f:Nat×Nat} {v:Value} (hb:h[b]?=some (.cells c e f)):mA h ⟨b,o,none⟩ v=cV h b (.cells (c.setIfInBounds o v) e f):=by
 apply Array.ext_getElem?
 intro i
 rw[cH hb]
 simp only[mA,Array.getElem?_modify]
 split
 ·rename_i hi;subst hi;rw[hb];rfl
 ·rfl
theorem w8 (h:Heap) (b:Nat) (o o':Obj):cV (cV h b o) b o'=cV h b o':=by
 unfold cV;simp
theorem ar.cV {p:ag} {h:Heap} {b:Nat} {o x:Obj} (hb:h[b]?=some x) (hp:¬p b):ar p h (cV h b o):=⟨by simp[Go.Vc.cV],fun c _ hq=>by
 rw[cH hb,if_neg (fun e=>hp (by rw[e];exact hq))]⟩
theorem bD {P:Program} {b o:Nat} {e:TypeId} {K:Unit→Heap→Prop}:∀{vs pre old post:List Value} {i:Nat} {h:Heap},h[b]?=some (.cells (pre++old++post).toArray e (0,0))→old.length=vs.length→pre.length=o+i→
  (∀v∈vs,v.oneCell'=true)→K () (cV h b (.cells (pre++vs++post).toArray e (0,0)))→ab P (storeCells ⟨b,o,none⟩ vs i) h K
 |[],pre,old,post,i,h,hb,hl,hp,hv,hk=>by
  have:old=[]:=List.eq_nil_of_length_eq_zero (by simpa using hl)
  subst this
  refine ab.pure' ?_
  have e1:cV h b (.cells (pre++[]++post).toArray e (0,0))=h:=by
   apply Array.ext_getElem?
   intro c
   rw[cH hb]
   split
   ·rename_i hc;subst hc;exact hb.symm
   ·rfl
  rw[e1]at hk;exact hk
 |v::r,pre,old,post,i,h,hb,hl,hp,hv,hk=>by
  cases old with
  |nil=>simp at hl
  |cons u old=>
   simp only[storeCells]
   refine ab.bind ?_
   rw[add_eq]
   have hc:cellOf h ⟨b,o+i,none⟩=some u:=by rw[lE hb,←hp];simp
   refine ab.AD (hv v (by simp)) hc (yu hb) ?_
   rw[w7 hb]
   have hset:(pre++(u::old)++post).toArray.setIfInBounds (o+i) v=((pre++[v])++old++post).toArray:=by
    rw[←hp]
    apply Array.ext'
    simp
   rw[hset]
   refine bD (e:=e) (pre:=pre++[v]) (old:=old) (post:=post) ?_ (by simpa using hl) (by simp;omega) (fun x hx=>hv x (by simp[hx])) ?_
   ·rw[cH hb,if_pos rfl]
   ·rw[w8];simpa using hk
theorem qz {P:Program} {h:Heap} {a:Addr} {vs:List Value} {n:Nat} {K:Array Value→Heap→Prop} (hn:vs.length=n) (hc:aj h a 0 vs) (hk:K vs.toArray h):ab P (loadCells a n) h K:=fun w hw=>by
 subst hw
 refine⟨vs.toArray,w,?_,bz.refl w,hk⟩
 have:=run_loadCells (P:=P) (w:=w) (a:=a) vs 0 #[] hc
 rw[hn]at this
 unfold loadCells
 rw[this];simp
section
variable {α:Type} {h h':Heap} {p:ag} {e:TypeId} {s:Sl} {k:Nat} {f:α→List Value} {l:List α}
theorem Own.lt (ho:Own h e s k f l) {b:Nat} (hb:s.on b):b<h.size:=by
 rcases ho.head with⟨h1,_,_⟩|⟨b',rest,h1,h2,_,_⟩
 ·obtain⟨o,h0⟩:=hb;rw[h1]at h0;cases h0
 ·obtain⟨o,h0⟩:=hb
  rw[h1]at h0
  cases h0
  exact lt_of_block h2
theorem Own.ao (ho:Own h e s k f l) (hp:ar p h h') (hon:∀b,s.on b→p b):Own h' e s k f l:=⟨ho.len,by
 rcases ho.head with h1|⟨b,rest,h1,h2,h3,h4⟩
 ·exact .inl h1
 ·exact .inr ⟨b,rest,h1,hp.block (hon b ⟨0,h1⟩) h2,h3,h4⟩⟩
theorem Own.seq (ho:Own h e s k f l) (hw:∀x,(f x).length=k) (hon:∀b,s.on b→p b):Seq h p s k f l:=⟨ho.len,fun i x hx=>by
 rcases ho.head with⟨_,_,h1⟩|⟨b,rest,h1,h2,h3,h4⟩
 ·subst h1;simp at hx
 ·obtain⟨pre,post,g1,g2⟩:=tf hw l i x hx
  refine⟨b,0,h1,hon b ⟨0,h1⟩,kO (e:=e) (fr:=(0,0)) (pre:=pre) (post:=post++rest) ?_ (by omega)⟩
  rw[h2,g1];simp⟩
theorem Own.nil (h:Heap) (e:TypeId) (k:Nat) (f:α→List Value):Own h e ⟨none,0,0⟩ k f []:=⟨rfl,.inl ⟨rfl,rfl,rfl⟩⟩
theorem Own.cap (ho:Own h e s k f l):s.len≤s.cap:=by
 rcases ho.head with⟨h1,h2,h3⟩|⟨b,rest,h1,h2,h3,h4⟩
 ·have:=ho.len;rw[h3]at this;simp at this;omega
 ·exact h4
end
end Go.Vc
namespace Go.Vc
open Go
theorem ab.always {α:Type} {P:Program} {s:Sem α} {v:α} {h:Heap} {K:α→Heap→Prop} (ha:ak P s v) (hk:K v h):ab P s h K:=fun w hw=>⟨v,w,ha w,bz.refl w,by rw[hw];exact hk⟩
structure bk (C:kX) (t e k:Nat) (z:List Value) (by_:Nat):Prop where
 ex:∃i j,C.T.get t=some i∧i.bj=.slice e∧C.T.get e=some j∧j.size=k∧j.zero=z∧j.bytes=by_
section
variable {C:Ctx} {t e k:Nat} {z:List Value} {by_:Nat}
theorem bk.under (he:bk C.tokX t e k z by_) (hC:C.Ok):C.P.underlying t=some (.slice e):=by
 obtain⟨i,j,h1,h2,_⟩:=he.ex
 have:=hC.bj h1
 rw[h2]at this
 exact dU this
theorem bk.size (he:bk C.tokX t e k z by_) (hC:C.Ok):ak C.P (sizeOf e) k:=by
 obtain⟨i,j,_,_,h1,h2,_⟩:=he.ex
 rw[←h2];exact bx hC.toOk h1
theorem bk.info (he:bk C.tokX t e k z by_) (hC:C.Ok):∃f,C.P.info? e=some f∧f.size=k∧f.bytes=by_∧∃zv,f.zero=some zv∧zv.cells=z.toArray:=by
 obtain⟨i,j,_,_,h1,h2,h3,h4⟩:=he.ex
 obtain⟨f,g1,g2,g3,zv,g4,g5⟩:=hC.info h1
 exact⟨f,g1,g2.trans h2,g3.trans h4,zv,g4,by apply Array.ext';rw[g5,h3]⟩
end
def du (z:List Value):Nat→List Value
 |0=>[]
 |n+1=>z++du z n
theorem gu (z:List Value):∀n,(du z n).length=n*z.length
 |0=>by simp[du]
 |n+1=>by rw[du,List.length_append,gu z n,Nat.succ_mul];omega
theorem tg (z:List Value):∀(n i:Nat),i<n*z.length→(du z n)[i]?=z[i%z.length]?
 |0,i,h=>by simp at h
 |n+1,i,h=>by
  have hpos:0<z.length:=Nat.pos_of_ne_zero fun e=>by rw[e]at h;simp at h
  rw[du]
  by_cases hi:i<z.length
  ·rw[List.getElem?_append_left hi,Nat.mod_eq_of_lt hi]
  ·rw[List.getElem?_append_right (by omega),tg z n (i-z.length) (by rw[Nat.succ_mul]at h;omega)]
   congr 1
   conv=>rhs;rw[show i=(i-z.length)+z.length by omega,Nat.add_mod_right]
theorem th (z:List Value) (n m:Nat) (hm:m=n*z.length):((Array.range m).map (fun i=>z.toArray[i%z.toArray.size]!))=(du z n).toArray:=by
 apply Array.ext_getElem?
 intro i
 subst hm
 simp only[Array.getElem?_map,Array.getElem?_range,List.getElem?_toArray]
 by_cases hi:i<n*z.length
 ·rw[tg z n i hi]
  have hpos:0<z.length:=Nat.pos_of_ne_zero fun e=>by rw[e]at hi;simp at hi
  have:=Nat.mod_lt i hpos
  simp[hi,this]
 ·rw[List.getElem?_eq_none (by rw[gu];omega)]
  simp[hi]
theorem mJ (z:List Value) (n:Nat):Builtin.zeroCells z.toArray n=(du z n).toArray:=th z n _ (by simp)
theorem vv (newLen:Nat):∀(r c:Nat),Builtin.growBy newLen r c≤(c+768)*2^r
 |0,c=>by simp[Builtin.growBy]
 |r+1,c=>by
  unfold Builtin.growBy
  split
  ·exact Nat.le_trans (Nat.le_add_right c 768) (Nat.le_mul_of_pos_right _ (Nat.two_pow_pos _))
  ·refine Nat.le_trans (vv newLen r _) ?_
   rw[Nat.pow_succ,Nat.mul_comm (2^r) 2,←Nat.mul_assoc]
   exact Nat.mul_le_mul_right _ (by omega)
theorem Bq (o n:Nat) (h:o<n):(o+768)*2^4≤16*n+16*768:=by omega
theorem vw (newLen oldCap:Nat) (h:oldCap<newLen):Builtin.nextslicecap newLen oldCap≤16*newLen+16*768:=by
 unfold Builtin.nextslicecap
 split
 ·omega
 ·split
  ·omega
  ·exact Nat.le_trans (vv newLen 4 oldCap) (Bq _ _ h)
section
variable {C:Ctx} {t t2 e k:Nat} {z:List Value} {by_:Nat} {α:Type} {h:Heap} {p:ag} {s v:Sl} {f:α→List Value} {l l2:List α}
theorem cK {P:Program} {K:Array Value→Heap→Prop} (hw:∀x,(f x).length=k) (hv:Seq h p v k f l) (hk:K (l.flatMap f).toArray h):
  ab P (Builtin.firstCells k v.len (.slice v.ptr v.len v.cap)) h K:=by
 cases hp:v.ptr with
 |none=>
  have:l=[]:=by
   cases l with
   |nil=>rfl
   |cons x r=>obtain⟨b,o,h1,_⟩:=hv.elem 0 x (by simp);rw[hp]at h1;cases h1
  subst this
  exact ab.pure' hk
 |some a=>
  refine qz (by rw[bK hw,←hv.len]) ?_ hk
  cases l with
  |nil=>trivial
  |cons x0 r0=>
   obtain⟨b,o,h1,_,_⟩:=hv.elem 0 x0 (by simp)
   rw[hp]at h1
   cases h1
   have key:∀(r:List α) (n:Nat),(∀i x,r[i]?=some x→aj h ⟨b,o+(n+i)*k,none⟩ 0 (f x))→aj h ⟨b,o,none⟩ (n*k) (r.flatMap f):=by
    intro r
    induction r with
    |nil=>intro n _;trivial
    |cons x r ih=>
     intro n hr
     have h0:=hr 0 x (by simp)
     have h2:=ih (n+1) (fun i y hy=>by have:=hr (i+1) y (by simpa using hy);rw[show n+1+i=n+(i+1)by omega];exact this)
     rw[List.flatMap_cons]
     have app:∀(us vs:List Value) (i:Nat),aj h ⟨b,o,none⟩ i us→aj h ⟨b,o,none⟩ (i+us.length) vs→aj h ⟨b,o,none⟩ i (us++vs):=by
      intro us
      induction us with
      |nil=>intro vs i _ h2;simpa using h2
      |cons u us ih=>intro vs i h1 h2;exact⟨h1.1,ih vs (i+1) h1.2 (by rw[show i+1+us.length=i+(us.length+1)by omega];exact h2)⟩
     refine app _ _ _ ?_ (by rw[hw,←Nat.succ_mul];exact h2)
     have shift:∀(us:List Value) (i m:Nat),aj h ⟨b,o+m,none⟩ i us→aj h ⟨b,o,none⟩ (m+i) us:=by
      intro us
      induction us with
      |nil=>intros;trivial
      |cons u us ih=>
       intro i m h1
       refine⟨?_,ih (i+1) m h1.2⟩
       have:=h1.1
       rw[add_eq]at this⊢
       rw[←Nat.add_assoc];exact this
     have:=shift (f x) 0 ((n+0)*k) h0
     simpa using this
   have:=key (x0::r0) 0 (fun i x hx=>by
    obtain⟨b',o',h1,_,h3⟩:=hv.elem i x hx
    rw[hp]at h1
    cases h1
    simpa using h3)
   simpa using this
theorem vY (hC:C.Ok) (he:bk C.tokX t e k z by_) (h2:∃i e2,C.T.get t2=some i∧i.bj=.slice e2) (hz:z.length=k) (hby:0<by_∧by_≤128) (hw:∀x,(f x).length=k)
  (ho:Own h e s k f l) (hv:Seq h p v k f l2) (hone:∀x,∀c∈f x,c.oneCell'=true) (hsz:l.length+l2.length≤2^32) {ty:Nat} {K:Sl→Heap→Prop}
  (hk:∀s' h',Own h' e s' k f (l++l2)→ar (fun b=>¬s.on b) h h'→(∀b,s'.on b→s.on b∨h.size≤b)→K s' h'):
  av C.P (Builtin.append_ #[t,t2] ty #[.slice s.ptr s.len s.cap,.slice v.ptr v.len v.cap]) (.one (.sc .slc)) h K:=by
 obtain⟨i2,e2,g1,g2⟩:=h2
 have hu2:C.P.underlying t2=some (.slice e2):=by have:=hC.bj g1;rw[g2]at this;exact dU this
 obtain⟨inf,x1,x2,x3,zv,x4,x5⟩:=he.info hC
 unfold av Builtin.append_
 simp only[List.getElem?_toArray,List.getElem?_cons_zero,List.getElem?_cons_succ]
 refine ab.bind (ab.always (al (he.under hC)) ?_)
 refine ab.bind (ab.always (he.size hC) ?_)
 refine ab.bind (ab.always (al hu2) ?_)
 refine ab.bind (ab.pure' ?_)
 simp only[Bool.false_eq_true,if_false,Bool.not_false,if_true]
 refine ab.bind (ab.pure' ?_)
 have hlen:=ho.len
 have hlen2:=hv.len
 by_cases hfit:s.len+v.len≤s.cap
 ·rw[if_pos hfit]
  refine ab.bind (cK hw hv ?_)
  rcases ho.head with⟨p1,p2,p3⟩|⟨b,rest,p1,p2,p3,p4⟩
  ·rw[p1]
   have hl2:l2=[]:=List.eq_nil_of_length_eq_zero (by omega)
   subst hl2
   refine ab.pure' ⟨⟨none,s.len+v.len,s.cap⟩,rfl,hk _ _ ⟨?_,.inl ⟨rfl,p2,by simp[p3]⟩⟩ (ar.refl _ _) ?_⟩
   ·simp;omega
   ·rintro b' ⟨o,ho'⟩;cases ho'
  ·rw[p1]
   refine ab.bind ?_
   rw[add_eq,Nat.zero_add]
   have hflat:=bK hw l
   have hflat2:=bK hw l2
   have hrl:(l2.flatMap f).length≤rest.length:=by
    rw[hflat2,p3]
    exact Nat.mul_le_mul_right k (by omega)
   refine bD (e:=e) (pre:=l.flatMap f) (old:=rest.take (l2.flatMap f).length) (post:=rest.drop (l2.flatMap f).length) ?_ ?_ ?_ ?_ ?_
   ·rw[List.append_assoc,List.take_append_drop];exact p2
   ·rw[List.length_take];exact Nat.min_eq_left hrl
   ·rw[hflat,hlen];omega
   ·intro c hc
    obtain⟨x,_,hxc⟩:=List.mem_flatMap.1 hc
    exact hone x c hxc
   ·refine ab.pure' ⟨⟨some ⟨b,0,none⟩,s.len+v.len,s.cap⟩,rfl,hk _ _ ⟨?_,.inr ⟨b,rest.drop (l2.flatMap f).length,rfl,?_,?_,hfit⟩⟩ ?_ ?_⟩
    ·simp;omega
    ·rw[cH p2,if_pos rfl];simp
    ·rw[List.length_drop,p3,hflat2,←Nat.sub_mul]
     show(s.cap-s.len-l2.length)*k=(s.cap-(s.len+v.len))*k
     congr 1;omega
    ·exact ar.cV p2 (fun hn=>hn ⟨0,p1⟩)
    ·rintro b' ⟨o,ho'⟩;cases ho';exact .inl ⟨0,p1⟩
 ·rw[if_neg hfit]
  have hseq:Seq h (fun _=>True) s k f l:=ho.seq hw (fun _ _=>trivial)
  have hcap:=ho.cap
  refine ab.bind (ab.always (bo x1) ?_)
  rw[if_neg (fun hh=>by rcases hh.2 with h|h<;>first|exact h|(rw[x3]at h;omega))]
  refine ab.bind (ab.always (bo x1) ?_)
  have hnx:=vw (s.len+v.len) s.cap (by omega)
  rw[if_neg (by
   have:Builtin.nextslicecap (s.len+v.len) s.cap*inf.bytes≤(16*2^32+16*768)*128:=Nat.mul_le_mul (by omega) (by rw[x3];exact hby.2)
   omega)]
  refine ab.bind (ab.qv ⟨fun hf=>(by cases hf),fun _ nn=>?_⟩)
  refine ab.bind (ab.always (bo x1) ?_)
  refine ab.bind (ab.oI ?_)
  refine ab.bind (cK hw hseq ?_)
  refine ab.bind (cK hw hv ?_)
  have hzv:ak C.P (zeroValue e) zv:=(bo x1).bind (by rw[x4];exact .pure)
  refine ab.bind (ab.always hzv ?_)
  rw[x5,mJ]
  unfold newRow
  refine ab.bind (ab.bind (ab.ig (ab.pure' (ab.pure' ?_))))
  generalize hcc:Question.cut (Question.appendCap (s.len+v.len) s.cap e) nn=cc
  have hcc':s.len+v.len≤cc:=by rw[←hcc];simp only[Question.cut];omega
  refine⟨⟨some ⟨h.size,0,none⟩,s.len+v.len,cc⟩,rfl,hk _ _ ⟨?_,.inr ⟨h.size,du z (cc-(s.len+v.len)),rfl,?_,?_,hcc'⟩⟩ (ar.push _ _ _) ?_⟩
  ·simp;omega
  ·simp
  ·rw[gu,hz]
  ·rintro b' ⟨o,ho'⟩;cases ho';exact .inr (Nat.le_refl _)
end
end Go.Vc
namespace Go.Vc
open Go
structure cn (h:Heap) (a:Addr) (e:TypeId) (cs:List Value):Prop where
 off:a.off=0
 spot:a.spot=none
 blk:h[a.block]?=some (.cells cs.toArray e (0,0))
section
variable {h h':Heap} {a:Addr} {e:TypeId} {cs:List Value} {p:ag}
theorem cn.addr (hb:cn h a e cs):a=⟨a.block,0,none⟩:=by
 obtain⟨b,o,s⟩:=a
 have:=hb.off;have:=hb.spot
 simp_all
theorem cn.ao (hb:cn h a e cs) (hp:ar p h h') (ha:p a.block):cn h' a e cs:=⟨hb.off,hb.spot,hp.block ha hb.blk⟩
theorem cn.lt (hb:cn h a e cs):a.block<h.size:=lt_of_block hb.blk
theorem cn.cell (hb:cn h a e cs) {j:Nat} {v:Value} (hv:cs[j]?=some v):cellOf h (a.add j)=some v:=by
 rw[hb.addr,add_eq,lE hb.blk]
 simpa using hv
theorem cn.cell0 (hb:cn h a e cs) {v:Value} (hv:cs[0]?=some v):cellOf h a=some v:=hb.cell (j:=0) hv
theorem cn.cells (hb:cn h a e cs) (j:Nat) (vs:List Value) (hv:(cs.drop j).take vs.length=vs):aj h (a.add j) 0 vs:=by
 rw[hb.addr,add_eq,Nat.zero_add]
 have hlen:vs.length≤(cs.drop j).length:=by
  have:=congrArg List.length hv
  rw[List.length_take]at this
  omega
 rcases Nat.lt_or_ge cs.length j with hj|hj
 ·rw[List.length_drop]at hlen
  have:vs=[]:=List.eq_nil_of_length_eq_zero (by omega)
  subst this;trivial
 ·refine kO (e:=e) (fr:=(0,0)) (pre:=cs.take j) (post:=(cs.drop j).drop vs.length) ?_ (by simp;omega)
  have:cs.take j++vs++(cs.drop j).drop vs.length=cs:=by
   conv=>lhs;rw[List.append_assoc];arg 2;arg 1;rw[←hv]
   rw[List.take_append_drop,List.take_append_drop]
  rw[this];exact hb.blk
theorem cn.bp (hb:cn h a e cs) (vs:List Value) (hv:cs.take vs.length=vs):aj h a 0 vs:=hb.cells 0 vs hv
end
section
variable {C:Ctx} {t:Nat} {i:TI} {h:Heap}
theorem w9 (hC:C.Ok) (hi:C.T.get t=some i) {K:Addr→Heap→Prop} (hk:∀a h',a.block=h.size→cn h' a t i.zero→ar (fun _=>True) h h'→h'.size=h.size+1→K a h'):
  aW C.P (Instr.alloc t true (.tuple #[])) h K:=by
 obtain⟨z,hz,hzc⟩:=iJ hC.toOk hi
 unfold aW Instr.alloc
 refine ab.bind (ab.always hz ?_)
 refine ab.bind (ab.bind (ab.bind (ab.ig (ab.pure' (ab.pure' (ab.pure' ?_))))))
 refine⟨⟨h.size,0,none⟩,rfl,hk _ _ rfl ⟨rfl,rfl,?_⟩ (ar.push _ _ _) (by simp)⟩
 rw[←hzc];simp
theorem zZ {v:Value} {P:Program} {K:Addr→Heap→Prop} (hk:∀a h',a.block=h.size→cn h' a t v.cells.toList→ar (fun _=>True) h h'→h'.size=h.size+1→K a h'):
  aW P (Instr.box t v) h K:=by
 unfold aW Instr.box
 refine ab.bind (ab.bind (ab.bind (ab.ig (ab.pure' (ab.pure' (ab.pure' ?_))))))
 refine⟨⟨h.size,0,none⟩,rfl,hk _ _ rfl ⟨rfl,rfl,?_⟩ (ar.push _ _ _) (by simp)⟩
 simp
theorem run_store (hC:C.Ok) {a:Addr} {e:TypeId} {cs:List Value} (hb:cn h a e cs) (hi:C.T.get t=some i) (off:Nat) {v:Value} (vs:List Value) (hv:v.cells=vs.toArray) (hsz:i.size=vs.length)
  (hone:vs.all (·.oneCell')=true) (hfit:off+vs.length≤cs.length) {K:Unit→Heap→Prop}
  (hk:∀h',cn h' a e (cs.take off++vs++cs.drop (off+vs.length))→ar (·≠a.block) h h'→h'.size=h.size→K () h'):
  ab C.P (Instr.storeAt t (.pointer (some (a.add off))) v) h K:=by
 have ha:=hb.addr
 unfold Instr.storeAt
 refine ab.bind (ab.pure' ?_)
 unfold storeVar
 refine ab.bind (ab.always (bx hC.toOk hi) ?_)
 rw[hv,hsz]
 simp only[List.size_toArray,ne_eq,not_true,if_false]
 rw[ha,add_eq,Nat.zero_add]
 refine bD (e:=e) (pre:=cs.take off) (old:=(cs.drop off).take vs.length) (post:=cs.drop (off+vs.length)) ?_ ?_ ?_ ?_ ?_
 ·have:cs.take off++(cs.drop off).take vs.length++cs.drop (off+vs.length)=cs:=by
   rw[←List.drop_drop,List.append_assoc,List.take_append_drop,List.take_append_drop]
  rw[this];exact hb.blk
 ·simp;omega
 ·simp;omega
 ·intro x hx
  have:=List.all_eq_true.1 hone x hx
  exact this
 ·refine hk _ ⟨hb.off,hb.spot,?_⟩ (ar.cV hb.blk (by simp)) (by simp[cV])
  rw[cH hb.blk,if_pos rfl]
end
section
variable {C:Ctx} {t e k:Nat} {z:List Value} {by_:Nat} {α:Type} {h:Heap} {p:ag} {s v:Sl} {f:α→List Value} {l l2:List α}
theorem mK {x0:α} (hz:f x0=z):∀n,du z n=(List.replicate n x0).flatMap f
 |0=>rfl
 |n+1=>by rw[du,List.replicate_succ,List.flatMap_cons,hz,mK hz n]
theorem wrap_small (x:Int) (h1:-9223372036854775808≤x) (h2:x≤9223372036854775807):IntKind.wrap .i64 x=x:=by
 show(if(true&&decide (x%2^64≥2^63))=true then x%2^64-2^64 else x%2^64)=x
 by_cases hx:x%2^64≥2^63
 ·rw[if_pos (by rw[Bool.true_and];exact decide_eq_true hx)];omega
 ·rw[if_neg (by rw[Bool.true_and];exact fun h=>hx (of_decide_eq_true h))];omega
theorem run_make (hC:C.Ok) (he:bk C.tokX t e k z by_) (hby:0<by_∧by_≤128) (x0:α) (hz:f x0=z) (hk0:z.length=k) {k1 k2:IntKind} {n c:Int} (m mc:Nat) (hn:n=m) (hc:c=mc) (hle:m≤mc) (hsm:mc≤2^32)
  {K:Sl→Heap→Prop} (hk:∀s' h',Own h' e s' k f (List.replicate m x0)→s'.ptr=some ⟨h.size,0,none⟩→s'.cap=mc→ar (fun _=>True) h h'→h'.size=h.size+1→K s' h'):
  av C.P (Instr.makeSlice t (.int k1 n) (.int k2 c)) (.one (.sc .slc)) h K:=by
 subst hn;subst hc
 obtain⟨inf,x1,x2,x3,zv,x4,x5⟩:=he.info hC
 unfold av Instr.makeSlice
 refine ab.bind (ab.always (al (he.under hC)) ?_)
 refine ab.bind (ab.pure' ?_)
 refine ab.bind (ab.pure' ?_)
 refine ab.bind (ab.always (bo x1) ?_)
 have w1:IntKind.wrap .i64 (m:Int)=m:=wrap_small _ (by omega) (by omega)
 have w2:IntKind.wrap .i64 (mc:Int)=mc:=wrap_small _ (by omega) (by omega)
 have hb:¬((inf.bytes:Int)*(mc:Int)>2^48):=by
  rw[x3]
  have:by_*mc≤128*2^32:=Nat.mul_le_mul hby.2 hsm
  have:((by_:Int)*(mc:Int))≤((128*2^32:Nat):Int):=by exact_mod_cast this
  omega
 simp only[w1,w2]
 rw[if_neg (by simp;omega)]
 refine ab.bind (ab.oI ?_)
 refine ab.bind (ab.always (he.size hC) ?_)
 have hzv:ak C.P (zeroValue e) zv:=(bo x1).bind (by rw[x4];exact .pure)
 have fin:∀zz:Array Value,(mc*k≠0→zz=z.toArray)→ab C.P (do
   let a←newRow e ((Array.range (mc*k)).map (zz[·%zz.size]!))
   pure (Value.slice (some a) m mc)) h (fun v h'=>∃x:(Rt.one (.sc .slc)).den,v=(Rt.one (.sc .slc)).enc x∧K x h'):=by
  intro zz hzz
  have hrow:((Array.range (mc*k)).map (zz[·%zz.size]!))=(du z mc).toArray:=by
   by_cases h0:mc*k=0
   ·rw[h0]
    have:du z mc=[]:=List.eq_nil_of_length_eq_zero (by rw[gu,hk0,h0])
    rw[this];simp
   ·rw[hzz h0];exact th z mc _ (by rw[hk0])
  rw[hrow]
  refine ab.bind (ab.bind (ab.ig (ab.pure' (ab.pure' ?_))))
  refine⟨⟨some ⟨h.size,0,none⟩,m,mc⟩,rfl,hk _ _ ⟨by simp,.inr ⟨h.size,du z (mc-m),rfl,?_,?_,hle⟩⟩ rfl rfl (ar.push _ _ _) (by simp)⟩
  ·have:du z mc=(List.replicate m x0).flatMap f++du z (mc-m):=by
    rw[mK hz,mK hz,←List.flatMap_append,List.replicate_append_replicate]
    congr 2;omega
   rw[this];simp
  ·rw[gu,hk0]
 simp only[Int.toNat_natCast]
 by_cases h0:mc*k=0
 ·rw[if_pos h0]
  exact ab.bind (ab.pure' (fin _ (fun h=>absurd h0 h)))
 ·rw[if_neg h0]
  refine ab.bind (ab.always hzv ?_)
  exact ab.bind (ab.pure' (fin _ (fun _=>x5)))
theorem vx (hC:C.Ok) (he:bk C.tokX t e k z by_) (hk0:z.length=k) {n:Nat} {parts:Array (Nat×Value)} (l:List α) (hn:l.length=n) (hnk:n*k≤2^20)
  (hfill:Instr.fill (fun i=>some (i*k,k)) (du z n).toArray parts.toList=some (l.flatMap f).toArray) {K:Sl→Heap→Prop}
  (hk:∀s' h',Own h' e s' k f l→s'.ptr=some ⟨h.size,0,none⟩→ar (fun _=>True) h h'→h'.size=h.size+1→K s' h'):
  av C.P (Instr.buildSlice t n parts) (.one (.sc .slc)) h K:=by
 obtain⟨inf,x1,x2,x3,zv,x4,x5⟩:=he.info hC
 unfold av Instr.buildSlice
 refine ab.bind (ab.always (al (he.under hC)) ?_)
 refine ab.bind (ab.always (he.size hC) ?_)
 rw[if_neg (by omega)]
 have hzv:ak C.P (zeroValue e) zv:=(bo x1).bind (by rw[x4];exact .pure)
 have fin:∀zz:Array Value,(n*k≠0→zz=z.toArray)→ab C.P (do
   let some cells:=Instr.fill (fun i=>some (i*k,k)) ((Array.range (n*k)).map (zz[·%zz.size]!)) parts.toList
    |stuck "buildSlice: a part of the wrong size"
   pure (Value.slice (some (←newRow e cells)) n n)) h (fun v h'=>∃x:(Rt.one (.sc .slc)).den,v=(Rt.one (.sc .slc)).enc x∧K x h'):=by
  intro zz hzz
  have hrow:((Array.range (n*k)).map (zz[·%zz.size]!))=(du z n).toArray:=by
   by_cases h0:n*k=0
   ·rw[h0]
    have:du z n=[]:=List.eq_nil_of_length_eq_zero (by rw[gu,hk0,h0])
    rw[this];simp
   ·rw[hzz h0];exact th z n _ (by rw[hk0])
  rw[hrow,hfill]
  refine ab.bind (ab.bind (ab.ig (ab.pure' (ab.pure' ?_))))
  refine⟨⟨some ⟨h.size,0,none⟩,n,n⟩,rfl,hk _ _ ⟨hn.symm,.inr ⟨h.size,[],rfl,by simp,by simp,Nat.le_refl _⟩⟩ rfl (ar.push _ _ _) (by simp)⟩
 by_cases h0:n*k=0
 ·rw[if_pos h0]
  exact ab.bind (ab.pure' (fin _ (fun h=>absurd h0 h)))
 ·rw[if_neg h0]
  refine ab.bind (ab.always hzv ?_)
  exact ab.bind (ab.pure' (fin _ (fun _=>x5)))
theorem Own.set {i:TI} (hC:C.Ok) (ho:Own h e s k f l) (hw:∀x,(f x).length=k) (hi:C.T.get t=some i) {x:Int} (n:Nat) (hx:x=n) (hn:n<l.length) {val:Value} (y:α) (hv:val.cells=(f y).toArray) (hsz:i.size=k)
  (hone:(f y).all (·.oneCell')=true) {K:Heap→Prop} (hk:∀h',Own h' e s k f (l.set n y)→ar (fun b=>¬s.on b) h h'→h'.size=h.size→K h'):
  ∃a:Addr,(s.ptr=some a∧0≤x∧x<((s.len:Nat):Int))∧ab C.P (Instr.storeAt t (.pointer (some (a.add (x.toNat*k)))) val) h fun _ h'=>K h':=by
 subst hx
 rcases ho.head with⟨_,_,h3⟩|⟨b,rest,h1,h2,h3,h4⟩
 ·subst h3;simp at hn
 ·refine⟨_,⟨h1,by omega,by rw[ho.len];omega⟩,?_⟩
  unfold Instr.storeAt
  refine ab.bind (ab.pure' ?_)
  unfold storeVar
  refine ab.bind (ab.always (bx hC.toOk hi) ?_)
  rw[hv,hsz]
  have hfl:=hw y
  simp only[List.size_toArray,hfl,ne_eq,not_true,if_false]
  rw[add_eq,Nat.zero_add,Int.toNat_natCast]
  have hsplit:l=l.take n++l[n]::l.drop (n+1):=by rw[←List.drop_eq_getElem_cons hn,List.take_append_drop]
  have hset:l.set n y=l.take n++y::l.drop (n+1):=List.set_eq_take_append_cons_drop.trans (if_pos hn)
  have hpre:((l.take n).flatMap f).length=n*k:=by rw[bK hw,List.length_take,Nat.min_eq_left (by omega)]
  refine bD (e:=e) (pre:=(l.take n).flatMap f) (old:=f l[n]) (post:=(l.drop (n+1)).flatMap f++rest) ?_ ?_ ?_ ?_ ?_
  ·have:l.flatMap f++rest=(l.take n).flatMap f++f l[n]++((l.drop (n+1)).flatMap f++rest):=by
    have e1:=congrArg (List.flatMap f) hsplit
    rw[List.flatMap_append,List.flatMap_cons]at e1
    rw[e1]
    simp
   rw[←this];exact h2
  ·rw[hw,hw]
  ·rw[hpre];omega
  ·intro c hc
   have:=List.all_eq_true.1 hone c hc
   exact this
  ·refine hk _ ⟨by rw[List.length_set];exact ho.len,.inr ⟨b,rest,h1,?_,h3,h4⟩⟩ (ar.cV h2 (fun hh=>hh ⟨0,h1⟩)) (by simp[cV])
   rw[cH h2,if_pos rfl,hset]
   simp
end
end Go.Vc
namespace Go.Vc
open Go
def grow (c:Nat→Nat) (n i:Nat):Nat→Nat:=fun b=>if b<n then c b else i
theorem cz {c:Nat→Nat} {n i b:Nat} (h:b<n):grow c n i b=c b:=if_pos h
theorem oM {c:Nat→Nat} {n i b:Nat} (h:n≤b):grow c n i b=i:=if_neg (by omega)
structure dK {α:Type} (h:Heap) (c:Nat→Nat) (i:Nat) (e:TypeId) (s:Sl) (k:Nat) (f:α→List Value) (l:List α):Prop where
 own:Own h e s k f l
 bA:∀b,s.on b→c b=i
structure lF (h:Heap) (c:Nat→Nat) (i:Nat) (a:Addr) (e:TypeId) (cs:List Value):Prop where
 box:cn h a e cs
 bA:c a.block=i
structure oN (h0 h:Heap) (c:Nat→Nat):Prop where
 ao:ar (fun b=>b<h0.size) h0 h
 bA:∀b,b<h0.size→c b=0
section
variable {α:Type} {h h' h0:Heap} {c:Nat→Nat} {i j n m:Nat} {e:TypeId} {s:Sl} {k:Nat} {f:α→List Value} {l:List α} {a:Addr} {cs:List Value}
theorem dK.keep (ho:dK h c j e s k f l) (hp:ar (fun b=>c b≠i) h h') (hij:j≠i):dK h' (grow c h.size m) j e s k f l:=
 ⟨ho.own.ao hp fun b hb=>by rw[ho.bA b hb];exact hij,fun b hb=>by rw[cz (ho.own.lt hb)];exact ho.bA b hb⟩
theorem lF.keep (ho:lF h c j a e cs) (hp:ar (fun b=>c b≠i) h h') (hij:j≠i):lF h' (grow c h.size m) j a e cs:=
 ⟨ho.box.ao hp (by rw[ho.bA];exact hij),by rw[cz ho.box.lt];exact ho.bA⟩
theorem oN.keep (ho:oN h0 h c) (hp:ar (fun b=>c b≠i) h h') (hi:i≠0):oN h0 h' (grow c h.size m):=
 ⟨ho.ao.then hp fun b hb _=>by rw[ho.bA b hb];exact hi.symm,fun b hb=>by rw[cz (Nat.lt_of_lt_of_le hb ho.ao.1)];exact ho.bA b hb⟩
theorem oN.refl (h:Heap):oN h h (fun _=>0):=⟨ar.refl _ _,fun _ _=>rfl⟩
theorem dK.seq (ho:dK h c j e s k f l) (hw:∀x,(f x).length=k):Seq h (fun b=>c b=j) s k f l:=ho.own.seq hw ho.bA
theorem dK.nil (h:Heap) (c:Nat→Nat) (i:Nat) (e:TypeId) (k:Nat) (f:α→List Value):dK h c i e ⟨none,0,0⟩ k f []:=⟨Own.nil h e k f,fun b hb=>by obtain⟨o,ho⟩:=hb;cases ho⟩
def tj (h:Heap) (c:Nat→Nat) (i:Nat) (s:Sl) (k:Nat) (f:α→List Value) (l:List α):Prop:=Seq h (fun b=>b<h.size∧c b=i) s k f l
theorem tj.keep (hs:tj h c j s k f l) (hp:ar (fun b=>c b≠i) h h') (hij:j≠i):tj h' (grow c h.size m) j s k f l:=
 (Seq.ao hs (hp.mono fun b _ hb=>by rw[hb.2];exact hij)).mono fun b hb=>⟨Nat.lt_of_lt_of_le hb.1 hp.1,by rw[cz hb.1];exact hb.2⟩
theorem tj.new (hs:Seq h' (fun b=>h.size≤b∧b<h'.size) s k f l):tj h' (grow c h.size i) i s k f l:=
 Seq.mono hs fun b hb=>⟨hb.2,oM hb.1⟩
theorem dK.fresh (ho:dK h c i e s k f l) (hb:oN h0 h c) (hi:i≠0) (hw:∀x,(f x).length=k):Seq h (fun b=>h0.size≤b∧b<h.size) s k f l:=
 ho.own.seq hw fun b hon=>⟨Nat.le_of_not_lt fun hlt=>hi (by rw[←ho.bA b hon,hb.bA b hlt]),ho.own.lt hon⟩
theorem ar.bA (hp:ar (fun _=>True) h h') (c:Nat→Nat) (i:Nat):ar (fun b=>c b≠i) h h':=hp.mono fun _ _ _=>trivial
end
section
variable {α:Type} {C:Ctx} {h h' h0:Heap} {c:Nat→Nat} {i:Nat} {e t t2:Nat} {s v:Sl} {k by_:Nat} {f:α→List Value} {l l2:List α} {a:Addr} {cs z:List Value} {p:ag} {ti:TI}
theorem lF.store (hC:C.Ok) (hb:lF h c i a e cs) (hi:C.T.get t=some ti) (off:Nat) {v:Value} (vs:List Value) (hv:v.cells=vs.toArray) (hsz:ti.size=vs.length)
  (hone:vs.all (·.oneCell')=true) (hfit:off+vs.length≤cs.length) {K:Unit→Heap→Prop}
  (hk:∀h',lF h' (grow c h.size i) i a e (cs.take off++vs++cs.drop (off+vs.length))→ar (fun b=>c b≠i) h h'→K () h'):
  ab C.P (Instr.storeAt t (.pointer (some (a.add off))) v) h K:=
 run_store hC hb.box hi off vs hv hsz hone hfit fun h' x y z=>hk h' ⟨x,by rw[cz hb.box.lt];exact hb.bA⟩ (y.mono fun b _ hb' h2=>hb' (by rw[h2];exact hb.bA))
theorem lF.tk (hC:C.Ok) (hb:lF h c i a e cs) (hi:C.T.get t=some ti) {v:Value} (vs:List Value) (hv:v.cells=vs.toArray) (hsz:ti.size=vs.length)
  (hone:vs.all (·.oneCell')=true) (hfit:vs.length≤cs.length) {K:Unit→Heap→Prop}
  (hk:∀h',lF h' (grow c h.size i) i a e (vs++cs.drop vs.length)→ar (fun b=>c b≠i) h h'→K () h'):
  ab C.P (Instr.storeAt t (.pointer (some a)) v) h K:=
 hb.store hC hi 0 vs hv hsz hone (by omega) (fun h' x y=>hk h' (by simpa using x) y)
theorem dK.append (hC:C.Ok) (ho:dK h c i e s k f l) (he:bk C.tokX t e k z by_) (h2:∃i e2,C.T.get t2=some i∧i.bj=.slice e2) (hz:z.length=k) (hby:0<by_∧by_≤128) (hw:∀x,(f x).length=k)
  (hv:Seq h p v k f l2) (hone:∀x,∀c∈f x,c.oneCell'=true) (hsz:l.length+l2.length≤2^32) {ty:Nat} {K:Sl→Heap→Prop}
  (hk:∀s' h',dK h' (grow c h.size i) i e s' k f (l++l2)→ar (fun b=>c b≠i) h h'→K s' h'):
  av C.P (Builtin.append_ #[t,t2] ty #[.slice s.ptr s.len s.cap,.slice v.ptr v.len v.cap]) (.one (.sc .slc)) h K:=
 vY hC he h2 hz hby hw ho.own hv hone hsz fun s' h' x y w=>hk s' h' ⟨x,fun b hb=>by
  rcases w b hb with w|w
  ·rw[cz (ho.own.lt w)];exact ho.bA b w
  ·exact oM w⟩ (y.mono fun b _ hb' h2=>hb' (ho.bA b h2))
theorem dK.set (hC:C.Ok) (ho:dK h c i e s k f l) (hw:∀x,(f x).length=k) (hi:C.T.get t=some ti) {x:Int} (n:Nat) (hx:x=n) (hn:n<l.length) {val:Value} (y:α) (hv:val.cells=(f y).toArray) (hsz:ti.size=k)
  (hone:(f y).all (·.oneCell')=true) {K:Heap→Prop} (hk:∀h',dK h' (grow c h.size i) i e s k f (l.set n y)→ar (fun b=>c b≠i) h h'→K h'):
  ∃a:Addr,(s.ptr=some a∧0≤x∧x<((s.len:Nat):Int))∧ab C.P (Instr.storeAt t (.pointer (some (a.add (x.toNat*k)))) val) h fun _ h'=>K h':=
 ho.own.set hC hw hi n hx hn y hv hsz hone fun h' z w _=>hk h' ⟨z,fun b hb=>by rw[cz (ho.own.lt hb)];exact ho.bA b hb⟩ (w.mono fun b _ hb' h2=>hb' (ho.bA b h2))
end
end Go.Vc
namespace Go.Vc
open Go
section
variable {α:Type} {C:Ctx} {h h' h0:Heap} {c:Nat→Nat} {i j n m:Nat} {e t:Nat} {s v:Sl} {k by_:Nat} {f:α→List Value} {l l2:List α} {z:List Value} {p:ag}
theorem grow_grow {c:Nat→Nat} {n m i:Nat} (h:n≤m):grow (grow c n i) m i=grow c n i:=by
 funext b
 unfold grow
 split
 ·rfl
 ·rw[if_neg (by omega)]
theorem ar.step (a:ar (fun b=>c b≠i) h h') {h'':Heap} (b:ar (fun b=>grow c h.size i b≠i) h' h''):ar (fun b=>c b≠i) h h'':=
 a.then b fun x hx hc=>by rw[cz hx];exact hc
theorem dK.push (hC:C.Ok) (ho:dK h c i e s k f l) (he:bk C.tokX t e k z by_) (hz:z.length=k) (hby:0<by_∧by_≤128) (hw:∀x,(f x).length=k)
  (hone:∀x,∀c∈f x,c.oneCell'=true) (x:α) {parts:Array (Nat×Value)} (hfill:Instr.fill (fun i=>some (i*k,k)) (du z 1).toArray parts.toList=some ([x].flatMap f).toArray)
  (hk1:1*k≤2^20) (hsz:l.length+1≤2^32) {ty:Nat} {K:Sl→Heap→Prop}
  (hk:∀s' h',dK h' (grow c h.size i) i e s' k f (l++[x])→ar (fun b=>c b≠i) h h'→K s' h'):
  av C.P (Instr.buildSlice t 1 parts) (.one (.sc .slc)) h fun v h1=>av C.P (Builtin.append_ #[t,t] ty #[.slice s.ptr s.len s.cap,.slice v.ptr v.len v.cap]) (.one (.sc .slc)) h1 K:=by
 refine vx hC he hz [x] rfl hk1 hfill fun v h1 hv hvp hp _=>?_
 have hp1:ar (fun b=>c b≠i) h h1:=hp.bA c i
 have ho1:dK h1 (grow c h.size i) i e s k f l:=⟨ho.own.ao hp fun _ _=>trivial,fun b hb=>by rw[cz (ho.own.lt hb)];exact ho.bA b hb⟩
 have hsz1:h.size≤h1.size:=hp.1
 obtain⟨ii,jj,x1,x2,_⟩:=he.ex
 refine ho1.append hC he ⟨ii,e,x1,x2⟩ hz hby hw (hv.seq (p:=fun _=>True) hw fun _ _=>trivial) hone hsz fun s' h2 hs2 hp2=>?_
 rw[grow_grow hsz1]at hs2
 exact hk s' h2 hs2 (hp1.step hp2)
structure iL (h:Heap) (c:Nat→Nat) (top lo:Nat) (e:TypeId) (s:Sl) (k:Nat) (f:α→List Value) (ll:List (List α)) (rs:List Sl):Prop where
 own:dK h c top e s 1 cv rs
 len:rs.length=ll.length
 row:∀(i:Nat) r l,rs[i]?=some r→ll[i]?=some l→Seq h (fun b=>b<h.size∧lo≤c b∧c b<lo+ll.length) r k f l
theorem iL.keep {ll:List (List α)} {rs:List Sl} {top lo:Nat} (hr:iL h c top lo e s k f ll rs) (hp:ar (fun b=>c b≠i) h h') (h1:top≠i) (h2:i<lo∨lo+ll.length≤i):iL h' (grow c h.size m) top lo e s k f ll rs:=
 ⟨hr.own.keep hp h1,hr.len,fun i' r l hr' hl'=>((hr.row i' r l hr' hl').ao (hp.mono fun b _ hb=>by rintro rfl;omega)).mono fun b hb=>⟨Nat.lt_of_lt_of_le hb.1 hp.1,by rw[cz hb.1];exact hb.2⟩⟩
theorem iL.nil (h:Heap) (c:Nat→Nat) (top lo:Nat) (e:TypeId) (k:Nat) (f:α→List Value):iL h c top lo e ⟨none,0,0⟩ k f [] []:=
 ⟨dK.nil _ _ _ _ _ _,rfl,fun i r l h=>by simp at h⟩
theorem tl:∀x,∀c∈cv x,c.oneCell'=true:=by intro x c hc;simp only[cv,List.mem_singleton]at hc;subst hc;rfl
theorem iL.push {ll:List (List α)} {rs:List Sl} {top lo:Nat} {r:Sl} {x:List α} (hC:C.Ok) (hr:iL h c top lo e s k f ll rs) (he:bk C.tokX t e 1 [.slice none 0 0] 24)
  (hx:Seq h (fun b=>b<h.size∧c b=lo+ll.length) r k f x) (htop:top<lo) (hsz:ll.length+1≤2^32) {ty:Nat} {K:Sl→Heap→Prop}
  (hk:∀s' h',iL h' (grow c h.size top) top lo e s' k f (ll++[x]) (rs++[r])→ar (fun b=>c b≠top) h h'→K s' h'):
  av C.P (Instr.buildSlice t 1 #[(0,.slice r.ptr r.len r.cap)]) (.one (.sc .slc)) h fun v h1=>av C.P (Builtin.append_ #[t,t] ty #[.slice s.ptr s.len s.cap,.slice v.ptr v.len v.cap]) (.one (.sc .slc)) h1 K:=by
 refine hr.own.push hC he rfl (by decide) (fun _=>rfl) tl r rfl (by decide) (by rw[hr.len];exact hsz) fun s' h' hs' hp'=>hk s' h' ⟨hs',by simp[hr.len],fun i r' l' h1 h2=>?_⟩ hp'
 have grown:∀{q:ag} {rr:Sl} {l:List α},Seq h q rr k f l→(∀b,q b→b<h.size∧lo≤c b∧c b<lo+(ll++[x]).length)→Seq h' (fun b=>b<h'.size∧lo≤grow c h.size top b∧grow c h.size top b<lo+(ll++[x]).length) rr k f l:=fun hs hq=>
  (hs.ao (hp'.mono fun b _ hb=>by have:=hq b hb;omega)).mono fun b hb=>by
   have:=hq b hb
   rw[cz this.1]
   exact⟨Nat.lt_of_lt_of_le this.1 hp'.1,this.2⟩
 have hl:=hr.len
 by_cases hi:i<ll.length
 ·rw[List.getElem?_append_left (by omega)]at h1 h2
  exact grown (hr.row i r' l' h1 h2) fun b hb=>⟨hb.1,hb.2.1,by simp;omega⟩
 ·have hi':i=ll.length:=by
   have:=(List.getElem?_eq_some_iff.1 h2).1
   simp at this;omega
  subst hi'
  simp at h2
  rw[←hl]at h1
  simp at h1
  subst h1;subst h2
  exact grown hx fun b hb=>⟨hb.1,by omega,by simp;omega⟩
theorem iL.fresh {ll:List (List α)} {rs:List Sl} {top lo:Nat} (hr:iL h c top lo e s k f ll rs) (hB:oN h0 h c) (ht:top≠0) (hlo:lo≠0):fB h (fun b=>h0.size≤b∧b<h.size) s k f ll rs:=
 ⟨hr.own.fresh hB ht fun _=>rfl,hr.len,fun i r l h1 h2=>(hr.row i r l h1 h2).mono fun b hb=>⟨Nat.le_of_not_lt fun hlt=>by have:=hB.bA b hlt;omega,hb.1⟩⟩
theorem Own.AK {i:TI} (hC:C.Ok) (ho:Own h e s k f l) (hw:∀x,(f x).length=k) (hi:C.T.get t=some i) {x:Int} (n cp:Nat) (hx:x=n) (hn:l.length≤n) (hn2:n<s.cap) (hcp:cp=s.cap) {val:Value} (y:α) (hv:val.cells=(f y).toArray) (hsz:i.size=k)
  (hone:(f y).all (·.oneCell')=true) {K:Heap→Prop} (hk:∀h',Own h' e s k f l→ar (fun b=>¬s.on b) h h'→h'.size=h.size→K h'):
  ∃a:Addr,(s.ptr=some a∧0≤x∧x<((cp:Nat):Int))∧ab C.P (Instr.storeAt t (.pointer (some (a.add (x.toNat*k)))) val) h fun _ h'=>K h':=by
 subst hx hcp
 rcases ho.head with⟨_,h2,h3⟩|⟨b,rest,h1,h2,h3,h4⟩
 ·omega
 ·refine⟨_,⟨h1,by omega,by omega⟩,?_⟩
  unfold Instr.storeAt
  refine ab.bind (ab.pure' ?_)
  unfold storeVar
  refine ab.bind (ab.always (bx hC.toOk hi) ?_)
  rw[hv,hsz]
  have hfl:=hw y
  simp only[List.size_toArray,hfl,ne_eq,not_true,if_false]
  rw[add_eq,Nat.zero_add,Int.toNat_natCast]
  have hlen:=ho.len
  have hfl2:=bK hw l
  have hlow:l.length*k≤n*k:=Nat.mul_le_mul_right k hn
  have hhigh:(n+1)*k≤s.cap*k:=Nat.mul_le_mul_right k hn2
  have hsub:(s.cap-s.len)*k=s.cap*k-l.length*k:=by rw[Nat.sub_mul,hlen]
  have hs1:(n+1)*k=n*k+k:=Nat.succ_mul n k
  refine bD (e:=e) (pre:=l.flatMap f++rest.take (n*k-l.length*k)) (old:=(rest.drop (n*k-l.length*k)).take k) (post:=rest.drop (n*k-l.length*k+k)) ?_ ?_ ?_ ?_ ?_
  ·have:l.flatMap f++rest=l.flatMap f++rest.take (n*k-l.length*k)++(rest.drop (n*k-l.length*k)).take k++rest.drop (n*k-l.length*k+k):=by
    rw[List.append_assoc,List.append_assoc,←List.drop_drop,List.take_append_drop,List.take_append_drop]
   rw[←this];exact h2
  ·rw[hfl,List.length_take,List.length_drop];omega
  ·rw[List.length_append,List.length_take,hfl2];omega
  ·intro c hc
   have:=List.all_eq_true.1 hone c hc
   exact this
  ·refine hk _ ⟨hlen,.inr ⟨b,rest.take (n*k-l.length*k)++f y++rest.drop (n*k-l.length*k+k),h1,?_,?_,h4⟩⟩ (ar.cV h2 (fun hh=>hh ⟨0,h1⟩)) (by simp[cV])
   ·rw[cH h2,if_pos rfl];simp
   ·simp only[List.length_append,List.length_take,List.length_drop,hfl];omega
theorem Own.copy (hC:C.Ok) (he:bk C.tokX t e k z by_) (hw:∀x,(f x).length=k) (ho:Own h e s k f l) (hv:Seq h p v k f l2) (hlen:l2.length=l.length) (hone:∀x,∀c∈f x,c.oneCell'=true) {t2 ty:Nat} {K:Int→Heap→Prop}
  (hk:∀h',Own h' e s k f l2→ar (fun b=>¬s.on b) h h'→h'.size=h.size→K l2.length h'):
  av C.P (Builtin.copy_ #[t,t2] ty #[.slice s.ptr s.len s.cap,.slice v.ptr v.len v.cap]) (.one (.sc (.int .i64))) h K:=by
 unfold av Builtin.copy_
 simp only[List.getElem?_toArray,List.getElem?_cons_zero,List.getElem?_cons_succ]
 refine ab.bind (ab.always (al (he.under hC)) ?_)
 refine ab.bind (ab.pure' ?_)
 refine ab.bind (ab.always (he.size hC) ?_)
 have hl1:=ho.len;have hl2:=hv.len
 have hmin:Nat.min v.len s.len=v.len:=Nat.min_eq_left (by omega)
 rw[hmin]
 refine ab.bind (cK hw hv ?_)
 rcases ho.head with⟨h1,h2,h3⟩|⟨b,rest,h1,h2,h3,h4⟩
 ·rw[h1]
  have:l2=[]:=List.eq_nil_of_length_eq_zero (by rw[hlen,h3];rfl)
  subst this
  refine ab.pure' ⟨0,by simp[goInt,hl2],hk h ⟨by rw[hl1,h3],.inl ⟨h1,h2,rfl⟩⟩ (ar.refl _ _) rfl⟩
 ·rw[h1]
  refine ab.bind ?_
  refine bD (e:=e) (pre:=[]) (old:=l.flatMap f) (post:=rest) (by simpa using h2) (by rw[bK hw,bK hw,hlen]) rfl ?_ ?_
  ·intro c hc
   obtain⟨x,_,hxc⟩:=List.mem_flatMap.1 hc
   exact hone x c hxc
  ·refine ab.pure' ⟨_,by rw[goInt,hl2],hk _ ⟨by rw[hl1,hlen],.inr ⟨b,rest,h1,?_,h3,h4⟩⟩ (ar.cV h2 (fun hn=>hn ⟨0,h1⟩)) (by simp[cV])⟩
   rw[cH h2,if_pos rfl];simp
end
end Go.Vc
namespace Go.Vc
open Go
def sI {α:Type} (x:Int) (v:α):List (Int×α)→List (Int×α)
 |[]=>[(x,v)]
 |(k,u)::t=>if k=x then(k,v)::t else(k,u)::sI x v t
def lG {α:Type} (x:Int):List (Int×α)→Option α
 |[]=>none
 |(k,u)::t=>if k=x then some u else lG x t
structure lH {α:Type} (h:Heap) (r:Nat) (g:α→Value) (kvs:List (Int×α)):Prop where
 ex:∃es clock,h[r]?=some (.map es clock)∧es.toList.map (fun e=>(e.key,e.val))=kvs.map (fun p=>(Value.int .i64 p.1,g p.2))
section
variable {α:Type} {P:Program} {h h':Heap} {r:Nat} {g:α→Value} {kvs:List (Int×α)}
theorem lH.ao {p:ag} (hm:lH h r g kvs) (hp:ar p h h') (hr:p r):lH h' r g kvs:=by
 obtain⟨es,clock,h1,h2⟩:=hm.ex
 exact⟨es,clock,hp.block hr h1,h2⟩
theorem lH.lt (hm:lH h r g kvs):r<h.size:=by
 obtain⟨es,clock,h1,h2⟩:=hm.ex
 exact lt_of_block h1
theorem mL {x:Int}:∀{L:List MapEntry} {kvs:List (Int×α)} {n:Nat},L.map (fun e=>(e.key,e.val))=kvs.map (fun p=>(Value.int .i64 p.1,g p.2))→lG x kvs=none→
  Instr.findNow (.int .i64) (.int .i64 x) L n=some none
 |[],_,_,_,_=>rfl
 |e::L,[],_,h,_=>by simp at h
 |e::L,(k,u)::t,n,h,hg=>by
  simp only[List.map_cons,List.cons.injEq,Prod.mk.injEq]at h
  obtain⟨⟨h1,h2⟩,h3⟩:=h
  unfold lG at hg
  split at hg
  ·cases hg
  ·rename_i hne
   have:(x==k)=false:=by simp;exact fun e=>hne e.symm
   simp only[Instr.findNow,Instr.sameNow,h1,if_true,this]
   exact mL h3 hg
theorem mM {x:Int} {u:α} (v:α) (f:MapEntry→MapEntry) (hf:∀e,e.key=Value.int .i64 x→((f e).key,(f e).val)=(Value.int .i64 x,g v)):∀{L:List MapEntry} {kvs:List (Int×α)} {n:Nat},L.map (fun e=>(e.key,e.val))=kvs.map (fun p=>(Value.int .i64 p.1,g p.2))→lG x kvs=some u→
  ∃j e,Instr.findNow (.int .i64) (.int .i64 x) L n=some (some (n+j,g u))∧L[j]?=some e∧e.key=.int .i64 x∧(L.modify j f).map (fun e=>(e.key,e.val))=(sI x v kvs).map (fun p=>(Value.int .i64 p.1,g p.2))
 |[],[],_,_,hg=>by cases hg
 |e::L,[],_,h,_=>by simp at h
 |[],_::_,_,h,_=>by simp at h
 |e::L,(k,w)::t,n,h,hg=>by
  simp only[List.map_cons,List.cons.injEq,Prod.mk.injEq]at h
  obtain⟨⟨h1,h2⟩,h3⟩:=h
  unfold lG at hg
  by_cases hk:k=x
  ·subst hk
   rw[if_pos rfl]at hg
   cases hg
   refine⟨0,e,?_,rfl,h1,?_⟩
   ·simp only[Instr.findNow,Instr.sameNow,h1,if_true,beq_self_eq_true,h2,Nat.add_zero]
   ·simp only[sI,if_true,List.modify_zero_cons,List.map_cons,h3,hf e h1]
  ·rw[if_neg hk]at hg
   obtain⟨j,e',g1,g2,g3,g4⟩:=mM v f hf (n:=n+1) h3 hg
   refine⟨j+1,e',?_,g2,g3,?_⟩
   ·have:(x==k)=false:=by simp;exact fun e=>hk e.symm
    simp only[Instr.findNow,Instr.sameNow,h1,if_true,this]
    rw[g1];congr 3;omega
   ·simp only[sI,hk,if_false,List.modify_succ_cons,List.map_cons,g4,h1,h2]
theorem tm {kt:TypeId} {k:IntKind} {x:Int} {b:Bool} (hk:P.underlying kt=some (.int k)) (n:Nat):ak P (Instr.checkKey b (n+1) kt (.int k x)) ():=by
 unfold Instr.checkKey
 exact(al hk).bind .pure
theorem lH.lookup {t kt et:Nat} {u0:α} {x:Int} (hm:lH h r g kvs) (ht:P.underlying t=some (.map kt et)) (hkt:P.underlying kt=some (.int .i64)) (hz:ak P (zeroValue et) (g u0))
  {rt:Rt} {K:rt.den→Heap→Prop} (hk:∃d:rt.den,g ((lG x kvs).getD u0)=rt.enc d∧K d h):
  av P (Instr.lookup t (.map (some r)) (.int .i64 x) false) rt h K:=by
 obtain⟨es,clock,h1,h2⟩:=hm.ex
 unfold av Instr.lookup
 refine ab.bind (ab.always (al ht) ?_)
 refine ab.bind (ab.zT h1 (fun _ _ _ h=>by cases h) ?_)
 refine ab.bind (ab.pure' ?_)
 refine ab.bind (ab.always (tm hkt 9999) ?_)
 unfold Instr.findKey
 refine ab.bind (ab.bind (ab.always (al hkt) ?_))
 cases hg:lG x kvs with
 |none=>
  rw[mL h2 hg]
  refine ab.pure' ?_
  refine ab.bind (ab.always hz ?_)
  refine ab.bind (ab.pure' (ab.pure' ?_))
  rw[hg]at hk
  exact hk
 |some u=>
  obtain⟨j,e,g1,_⟩:=mM (x:=x) (n:=0) u (fun e=>⟨e.key,g u,e.born⟩) (fun e hk=>by simp[hk]) h2 hg
  rw[g1]
  refine ab.pure' ?_
  refine ab.bind (ab.pure' (ab.pure' ?_))
  rw[hg]at hk
  exact hk
end
end Go.Vc
namespace Go.Vc
open Go
theorem yv (x n:Int) (hn:0<n):x%n=if x.tmod n<0 then x.tmod n+n else x.tmod n:=by
 have h1:=Int.tmod_lt_of_pos x hn
 have h2:-n<x.tmod n:=Int.lt_tmod_of_pos x hn
 have e1:=Int.tmod_add_mul_tdiv x n
 have hpos:0≤(if x.tmod n<0 then x.tmod n+n else x.tmod n)∧(if x.tmod n<0 then x.tmod n+n else x.tmod n)<n:=by split<;>omega
 have e2:x=(if x.tmod n<0 then x.tmod n+n else x.tmod n)+n*(if x.tmod n<0 then x.tdiv n-1 else x.tdiv n):=by
  split
  ·rw[Int.mul_sub];omega
  ·omega
 conv=>lhs;rw[e2]
 rw[Int.add_mul_emod_self_left]
 exact Int.emod_eq_of_lt hpos.1 hpos.2
theorem aK {α:Type} (l:List α) (k:Nat) (h:k<l.length):l.take (k+1)=l.take k++[l[k]]:=List.take_succ_eq_append_getElem h
theorem jD:∀x,∀c∈aI x,c.oneCell'=true:=by intro x c hc;simp only[aI,List.mem_singleton]at hc;subst hc;rfl
theorem eO:∀x,∀c∈aF x,c.oneCell'=true:=by intro x c hc;simp only[aF,List.mem_singleton]at hc;subst hc;rfl
theorem up {h h1 h2:Heap} (a:ar (fun b=>b<h.size) h h1) (b:ar (fun b=>b<h1.size) h1 h2):ar (fun b=>b<h.size) h h2:=
 a.then b fun _ hb _=>Nat.lt_of_lt_of_le hb a.1
theorem any {h h1:Heap} (a:ar (fun _=>True) h h1):ar (fun b=>b<h.size) h h1:=a.mono fun _ _ _=>trivial
theorem Seq.up {α:Type} {h h':Heap} {s:Sl} {k:Nat} {f:α→List Value} {l:List α} (hs:Seq h (fun b=>b<h.size) s k f l) (hp:ar (fun b=>b<h.size) h h'):Seq h' (fun b=>b<h'.size) s k f l:=
 (hs.ao hp).mono fun _ hb=>Nat.lt_of_lt_of_le hb hp.1
theorem fB.up {α:Type} {h h':Heap} {s:Sl} {k:Nat} {f:α→List Value} {l:List (List α)} {rs:List Sl} (hs:fB h (fun b=>b<h.size) s k f l rs) (hp:ar (fun b=>b<h.size) h h'):fB h' (fun b=>b<h'.size) s k f l rs:=
 (hs.ao hp).mono fun _ hb=>Nat.lt_of_lt_of_le hb hp.1
theorem Seq.drop {α:Type} {h:Heap} {p:ag} {s:Sl} {w:Nat} {f:α→List Value} {l:List α} (hs:Seq h p s w f l) (k:Nat) (hc:s.len≤s.cap):
  Seq h p ⟨if s.cap=k then s.ptr else s.ptr.map (·.add (k*w)),s.len-k,s.cap-k⟩ w f (l.drop k):=by
 have hl:=hs.len
 refine⟨by simp[hl],fun i x hx=>?_⟩
 rw[List.getElem?_drop]at hx
 obtain⟨b,o,h1,h2,h3⟩:=hs.elem _ x hx
 have hlt:=(List.getElem?_eq_some_iff.1 hx).1
 refine⟨b,o+k*w,?_,h2,?_⟩
 ·dsimp only
  rw[if_neg (by omega),h1,Option.map_some,add_eq]
 ·rw[show o+k*w+i*w=o+(k+i)*w by rw[Nat.add_mul];omega];exact h3
theorem Seq.take {α:Type} {h:Heap} {p:ag} {s:Sl} {w:Nat} {f:α→List Value} {l:List α} (hs:Seq h p s w f l) (k:Nat) (hk:k≤l.length):
  Seq h p ⟨s.ptr,k,s.cap⟩ w f (l.take k):=by
 refine⟨by simp;omega,fun i x hx=>?_⟩
 rw[List.getElem?_take]at hx
 split at hx
 ·exact hs.elem i x hx
 ·cases hx
theorem getD_lt {α:Type} {l:List α} {d:α} {i:Nat} (h:i<l.length):l.getD i d=l[i]:=by rw[List.getD_eq_getElem?_getD,List.getElem?_eq_getElem h];rfl
end Go.Vc
namespace Go.Vc
open Go
structure HP where
 p:Heap→ag→Prop
 loc:∀{h h':Heap} {q:ag},p h q→ar q h h'→p h' q
 mono:∀{h:Heap} {q q':ag},p h q→(∀b,q b→q' b)→p h q'
def emp:HP:=⟨fun _ _=>True,fun _ _=>trivial,fun _ _=>trivial⟩
def aq {α:Type} (e:TypeId) (s:Sl) (k:Nat) (f:α→List Value) (l:List α):HP:=
 ⟨fun h q=>Own h e s k f l∧∀b,s.on b→q b,fun a hp=>⟨a.1.ao hp a.2,a.2⟩,fun a hq=>⟨a.1,fun b hb=>hq b (a.2 b hb)⟩⟩
def aA (a:Addr) (e:TypeId) (cs:List Value):HP:=
 ⟨fun h q=>cn h a e cs∧q a.block,fun x hp=>⟨x.1.ao hp x.2,x.2⟩,fun x hq=>⟨x.1,hq _ x.2⟩⟩
def tn {α:Type} (s:Sl) (k:Nat) (f:α→List Value) (l:List α):HP:=
 ⟨fun h q=>Seq h q s k f l,fun a hp=>a.ao hp,fun a hq=>a.mono hq⟩
def zx {α:Type} (e:TypeId) (s:Sl) (k:Nat) (f:α→List Value) (ll:List (List α)):HP:=
 ⟨fun h q=>∃(rs:List Sl) (q1:ag),Own h e s 1 cv rs∧(∀b,s.on b→q b∧¬q1 b)∧(∀b,q1 b→q b)∧rs.length=ll.length∧∀(i:Nat) r l,rs[i]?=some r→ll[i]?=some l→Seq h q1 r k f l,
  fun⟨rs,q1,a,b,c,d,e⟩ hp=>⟨rs,q1,a.ao hp fun x hx=>(b x hx).1,b,c,d,fun i r l h1 h2=>(e i r l h1 h2).ao (hp.mono fun x _ hx=>c x hx)⟩,
  fun⟨rs,q1,a,b,c,d,e⟩ hq=>⟨rs,q1,a,fun x hx=>⟨hq x (b x hx).1,(b x hx).2⟩,fun x hx=>hq x (c x hx),d,e⟩⟩
structure aa (B:ag) (h0 h:Heap) (As:List HP):Prop where
 low:∀b,B b→b<h0.size
 ao:ar B h0 h
 ex:∃c:Nat→Nat,(∀b,B b→c b=0)∧∀(i:Nat) (A:HP),As[i]?=some A→A.p h (fun b=>b<h.size∧c b=i+1)
abbrev Sp (h0 h:Heap) (As:List HP):Prop:=aa (fun b=>b<h0.size) h0 h As
section
variable {B:ag} {h0 h h':Heap} {As Bs:List HP} {A A2 D:HP} {c:Nat→Nat} {i j:Nat}
theorem Sp.refl (h:Heap):Sp h h []:=⟨fun _ h=>h,ar.refl _ _,fun _=>0,fun _ _=>rfl,fun i A hi=>by simp at hi⟩
theorem aa.le (H:aa B h0 h As):h0.size≤h.size:=H.ao.1
theorem aa.at (H:aa B h0 h As) (i:Nat) (hi:As[i]?=some A):A.p h (fun b=>b<h.size):=by
 obtain⟨c,_,h2⟩:=H.ex
 exact A.mono (h2 i A hi) fun _ hb=>hb.1
theorem aa.fin (H:aa B h0 h As) (i:Nat) (hi:As[i]?=some A):A.p h (fun b=>¬B b∧b<h.size):=by
 obtain⟨c,h1,h2⟩:=H.ex
 exact A.mono (h2 i A hi) fun b hb=>⟨fun hlt=>by have:=h1 b hlt;omega,hb.1⟩
theorem Sp.fresh (H:Sp h0 h As) (i:Nat) (hi:As[i]?=some A):A.p h (fun b=>h0.size≤b∧b<h.size):=
 A.mono (aa.fin H i hi) fun b hb=>⟨by omega,hb.2⟩
theorem aa.comp (H:aa B h0 h As) (R:Sp h h' Bs):aa B h0 h' (As++Bs):=by
 obtain⟨lo,p1,c1,z1,a1⟩:=H
 obtain⟨_,p2,c2,z2,a2⟩:=R
 have hle:=p1.1
 refine⟨lo,p1.then p2 fun b hb _=>Nat.lt_of_lt_of_le hb hle,fun b=>if b<h.size then c1 b else if c2 b=0 then 0 else As.length+c2 b,fun b hb=>?_,fun i A hi=>?_⟩
 ·dsimp only;rw[if_pos (Nat.lt_of_lt_of_le (lo b hb) hle)];exact z1 b hb
 ·by_cases hl:i<As.length
  ·rw[List.getElem?_append_left hl]at hi
   refine A.mono (A.loc (a1 i A hi) (p2.mono fun b _ hb=>hb.1)) fun b hb=>⟨Nat.lt_of_lt_of_le hb.1 p2.1,?_⟩
   dsimp only;rw[if_pos hb.1];exact hb.2
  ·rw[List.getElem?_append_right (by omega)]at hi
   refine A.mono (a2 _ A hi) fun b hb=>⟨hb.1,?_⟩
   have:¬b<h.size:=fun hlt=>by have:=z2 b hlt;omega
   dsimp only;rw[if_neg this,if_neg (by omega)];omega
theorem aa.up (H:aa B h0 h As) (R:ar (fun b=>b<h.size) h h'):aa B h0 h' As:=by
 have:=H.comp (Bs:=[]) ⟨fun _ h=>h,R,fun _=>0,fun _ _=>rfl,fun i A hi=>by simp at hi⟩
 simpa using this
theorem Sp.one (R:ar (fun b=>b<h.size) h h') (ha:A.p h' (fun b=>h.size≤b∧b<h'.size)):Sp h h' [A]:=by
 refine⟨fun _ h=>h,R,fun b=>if b<h.size then 0 else 1,fun b hb=>if_pos hb,fun i A2 hi=>?_⟩
 cases i with
 |succ i=>simp at hi
 |zero=>
  simp at hi
  subst hi
  exact A.mono ha fun b hb=>⟨hb.2,by dsimp only;rw[if_neg (by omega)]⟩
theorem Sp.zip (R:ar (fun b=>b<h.size) h h'):Sp h h' []:=aa.up (Sp.refl h) R
theorem aa.enter (q:ag) (c:Nat→Nat) (hq:∀b,q b→b<h.size) (a:∀(i:Nat) (A:HP),As[i]?=some A→A.p h (fun b=>q b∧c b=i+1)):aa (fun b=>b<h.size∧¬q b) h h As:=by
 classical
 refine⟨fun b hb=>hb.1,ar.refl _ _,fun b=>if q b then c b else 0,fun b hb=>if_neg hb.2,fun i A hi=>A.mono (a i A hi) fun b hb=>⟨hq b hb.1,?_⟩⟩
 dsimp only;rw[if_pos hb.1];exact hb.2
theorem aa.sJ (lo:∀b,B b→b<h0.size) (hp0:ar B h0 h) (z:∀b,B b→c b=0) (a:∀(i:Nat) (A:HP),As[i]?=some A→A.p h (fun b=>b<h.size∧c b=i+1))
  (hp:ar (fun b=>¬(b<h.size∧c b=i+1)) h h') (ha:D.p h' (fun b=>b<h'.size∧((b<h.size∧c b=i+1)∨h.size≤b))):aa B h0 h' (As.set i D):=by
 refine⟨lo,hp0.then hp fun b _ hb hn=>by have:=z b hb;omega,grow c h.size (i+1),fun b hb=>?_,fun j A hj=>?_⟩
 ·rw[cz (Nat.lt_of_lt_of_le (lo b hb) hp0.1)];exact z b hb
 ·rw[List.getElem?_set]at hj
  split at hj
  ·rename_i hij
   subst hij
   split at hj
   ·injection hj with hj
    subst hj
    refine D.mono ha fun b hb=>⟨hb.1,?_⟩
    rcases hb.2 with h1|h1
    ·rw[cz h1.1];exact h1.2
    ·exact oM h1
   ·cases hj
  ·rename_i hij
   refine A.mono (A.loc (a j A hj) (hp.mono fun b _ hb hn=>by omega)) fun b hb=>⟨Nat.lt_of_lt_of_le hb.1 hp.1,?_⟩
   rw[cz hb.1];exact hb.2
theorem aa.step (H:aa B h0 h As) (i:Nat) (hi:As[i]?=some A) (hs:∀q:ag,A.p h q→(∀b,q b→b<h.size)→ar (fun b=>¬q b) h h'∧D.p h' (fun b=>b<h'.size∧(q b∨h.size≤b))):aa B h0 h' (As.set i D):=by
 obtain⟨lo,p,c,z,a⟩:=H
 obtain⟨h1,h2⟩:=hs _ (a i A hi) fun b hb=>hb.1
 exact aa.sJ lo p z a h1 h2
theorem aa.gH (H:aa B h0 h As) (i:Nat) (hi:As[i]?=some A) (hs:∀q:ag,A.p h q→D.p h q):aa B h0 h (As.set i D):=
 H.step i hi fun q hq hlt=>⟨ar.refl _ _,D.mono (hs q hq) fun b hb=>⟨hlt b hb,.inl hb⟩⟩
theorem aa.merge (H:aa B h0 h As) (i j:Nat) (hij:i≠j) (hi:As[i]?=some A) (hj:As[j]?=some A2)
  (hm:∀q1 q2:ag,(∀b,q1 b→¬q2 b)→A.p h q1→A2.p h q2→D.p h (fun b=>q1 b∨q2 b)):aa B h0 h ((As.set i D).set j emp):=by
 obtain⟨lo,p,c,z,a⟩:=H
 refine⟨lo,p,fun b=>if c b=j+1 then i+1 else c b,fun b hb=>?_,fun k A' hk=>?_⟩
 ·have:=z b hb;dsimp only;rw[if_neg (by omega)];exact this
 ·rw[List.getElem?_set]at hk
  split at hk
  ·split at hk
   ·cases hk;trivial
   ·cases hk
  ·rename_i hjk
   rw[List.getElem?_set]at hk
   split at hk
   ·rename_i hik
    subst hik
    split at hk
    ·injection hk with hk
     subst hk
     refine D.mono (hm _ _ (fun b h1 h2=>by omega) (a i A hi) (a j A2 hj)) fun b hb=>?_
     rcases hb with h1|h1
     ·exact⟨h1.1,by dsimp only;rw[if_neg (by omega)];exact h1.2⟩
     ·exact⟨h1.1,by dsimp only;rw[if_pos h1.2]⟩
    ·cases hk
   ·rename_i hik
    refine A'.mono (a k A' hk) fun b hb=>⟨hb.1,?_⟩
    dsimp only;rw[if_neg (by omega)];exact hb.2
theorem aa.pick (H:aa B h0 h As) (f:Nat→Nat) (hf:∀i j,f i=f j→i=j) (hB:∀(i:Nat) (A2:HP),Bs[i]?=some A2→As[f i]?=some A2):aa B h0 h Bs:=by
 obtain⟨lo,p,c,z,a⟩:=H
 classical
 refine⟨lo,p,fun b=>if hb:∃i,c b=f i+1 then hb.choose+1 else 0,fun b hb=>?_,fun i A2 hi=>?_⟩
 ·have:=z b hb
  dsimp only
  rw[dif_neg]
  rintro⟨i,hi⟩
  omega
 ·refine A2.mono (a _ _ (hB i A2 hi)) fun b hb=>⟨hb.1,?_⟩
  have hex:∃i,c b=f i+1:=⟨i,hb.2⟩
  dsimp only
  rw[dif_pos hex]
  have h1:=hex.choose_spec
  have h2:=hf hex.choose i (by omega)
  rw[h2]
theorem aa.take (H:aa B h0 h As) (n:Nat) (hB:∀(i:Nat) (A2:HP),Bs[i]?=some A2→As[n+i]?=some A2):aa B h0 h Bs:=H.pick (fun i=>n+i) (fun _ _ h=>by omega) hB
end
section
variable {B:ag} {α:Type} {C:Ctx} {h0 h h':Heap} {As:List HP} {i e t t2:Nat} {s v:Sl} {k by_:Nat} {f:α→List Value} {l l2:List α} {a:Addr} {cs z:List Value} {p:ag} {ti:TI}
theorem aa.own (H:aa B h0 h As) (i:Nat) (hi:As[i]?=some (aq e s k f l)):Own h e s k f l:=(H.at i hi).1
theorem aa.seq (H:aa B h0 h As) (i:Nat) (hi:As[i]?=some (aq e s k f l)) (hw:∀x,(f x).length=k):Seq h (fun b=>b<h.size) s k f l:=(H.at i hi).1.seq hw (H.at i hi).2
theorem aa.rd (H:aa B h0 h As) (i:Nat) (hi:As[i]?=some (tn s k f l)):Seq h (fun b=>b<h.size) s k f l:=H.at i hi
theorem aa.box (H:aa B h0 h As) (i:Nat) (hi:As[i]?=some (aA a e cs)):cn h a e cs:=(H.at i hi).1
theorem aa.iq (H:aa B h0 h As) (i:Nat) (hi:As[i]?=some (aq e s k f l)) {β:Type} {e' k':Nat} {g:β→List Value} {l':List β} (hp:ar (fun b=>¬s.on b) h h') (ho:Own h' e' s k' g l'):aa B h0 h' (As.set i (aq e' s k' g l')):=
 H.step i hi fun _ hq hlt=>⟨hp.mono fun b _ hb hon=>hb (hq.2 b hon),ho,fun b hb=>⟨Nat.lt_of_lt_of_le (hlt b (hq.2 b hb)) hp.1,.inl (hq.2 b hb)⟩⟩
theorem aa.z6 (H:aa B h0 h As) (i:Nat) (hi:As[i]?=some (aA a e cs)) {cs':List Value} (hp:ar (fun b=>b≠a.block) h h') (ho:cn h' a e cs'):aa B h0 h' (As.set i (aA a e cs')):=
 H.step i hi fun q hq hlt=>⟨hp.mono fun b _ hb hon=>hb (by rw[hon];exact hq.2),ho,⟨Nat.lt_of_lt_of_le (hlt _ hq.2) hp.1,.inl hq.2⟩⟩
theorem aa.freeze (H:aa B h0 h As) (i:Nat) (hi:As[i]?=some (aq e s k f l)) (hw:∀x,(f x).length=k):aa B h0 h (As.set i (tn s k f l)):=H.gH i hi fun _ hq=>hq.1.seq hw hq.2
theorem aa.set (hC:C.Ok) (H:aa B h0 h As) (i:Nat) (hi:As[i]?=some (aq e s k f l)) (hw:∀x,(f x).length=k) (ht:C.T.get t=some ti) {x:Int} (n:Nat) (hx:x=n) (hn:n<l.length) {val:Value} (y:α) (hv:val.cells=(f y).toArray) (hsz:ti.size=k)
  (hone:(f y).all (·.oneCell')=true) {K:Heap→Prop} (hk:∀h',aa B h0 h' (As.set i (aq e s k f (l.set n y)))→K h'):
  ∃a:Addr,(s.ptr=some a∧0≤x∧x<((s.len:Nat):Int))∧ab C.P (Instr.storeAt t (.pointer (some (a.add (x.toNat*k)))) val) h fun _ h'=>K h':=
 (H.own i hi).set hC hw ht n hx hn y hv hsz hone fun h' z w _=>hk h' (H.iq i hi w z)
theorem aa.push (hC:C.Ok) (H:aa B h0 h As) (i:Nat) (hi:As[i]?=some (aq e s k f l)) (he:bk C.tokX t e k z by_) (hz:z.length=k) (hby:0<by_∧by_≤128) (hw:∀x,(f x).length=k)
  (hone:∀x,∀c∈f x,c.oneCell'=true) (x:α) {parts:Array (Nat×Value)} (hfill:Instr.fill (fun i=>some (i*k,k)) (du z 1).toArray parts.toList=some ([x].flatMap f).toArray)
  (hk1:1*k≤2^20) (hsz:l.length+1≤2^32) {ty:Nat} {K:Sl→Heap→Prop}
  (hk:∀s' h',aa B h0 h' (As.set i (aq e s' k f (l++[x])))→K s' h'):
  av C.P (Instr.buildSlice t 1 parts) (.one (.sc .slc)) h fun v h1=>av C.P (Builtin.append_ #[t,t] ty #[.slice s.ptr s.len s.cap,.slice v.ptr v.len v.cap]) (.one (.sc .slc)) h1 K:=by
 obtain⟨lo,pp,c,zz,a⟩:=H
 have ha:=a i _ hi
 have ho:dK h c (i+1) e s k f l:=⟨ha.1,fun b hb=>(ha.2 b hb).2⟩
 refine ho.push hC he hz hby hw hone x hfill hk1 hsz fun s' h' ho' hp'=>hk s' h' ?_
 refine aa.sJ lo pp zz a (hp'.mono fun b hb hn hc=>hn ⟨hb,hc⟩) ⟨ho'.own,fun b hb=>⟨ho'.own.lt hb,?_⟩⟩
 have:=ho'.bA b hb
 by_cases hlt:b<h.size
 ·rw[cz hlt]at this;exact .inl ⟨hlt,this⟩
 ·exact .inr (by omega)
theorem aa.append (hC:C.Ok) (H:aa B h0 h As) (i:Nat) (hi:As[i]?=some (aq e s k f l)) (he:bk C.tokX t e k z by_) (h2:∃i e2,C.T.get t2=some i∧i.bj=.slice e2) (hz:z.length=k) (hby:0<by_∧by_≤128) (hw:∀x,(f x).length=k)
  (hv:Seq h p v k f l2) (hone:∀x,∀c∈f x,c.oneCell'=true) (hsz:l.length+l2.length≤2^32) {ty:Nat} {K:Sl→Heap→Prop}
  (hk:∀s' h',aa B h0 h' (As.set i (aq e s' k f (l++l2)))→K s' h'):
  av C.P (Builtin.append_ #[t,t2] ty #[.slice s.ptr s.len s.cap,.slice v.ptr v.len v.cap]) (.one (.sc .slc)) h K:=by
 obtain⟨lo,pp,c,zz,a⟩:=H
 have ha:=a i _ hi
 have ho:dK h c (i+1) e s k f l:=⟨ha.1,fun b hb=>(ha.2 b hb).2⟩
 refine ho.append hC he h2 hz hby hw hv hone hsz fun s' h' ho' hp'=>hk s' h' ?_
 refine aa.sJ lo pp zz a (hp'.mono fun b hb hn hc=>hn ⟨hb,hc⟩) ⟨ho'.own,fun b hb=>⟨ho'.own.lt hb,?_⟩⟩
 have:=ho'.bA b hb
 by_cases hlt:b<h.size
 ·rw[cz hlt]at this;exact .inl ⟨hlt,this⟩
 ·exact .inr (by omega)
theorem vy {h h':Heap} {n:Nat} (hn:n=h.size) (ho:Own h' e s k f l) (hp:s.ptr=some ⟨n,0,none⟩) (hpr:ar (fun _=>True) h h'):Sp h h' [aq e s k f l]:=
 .one (any hpr) ⟨ho,fun b hb=>⟨by obtain⟨o,hb⟩:=hb;rw[hp]at hb;cases hb;omega,ho.lt hb⟩⟩
theorem aa.make (hC:C.Ok) (H:aa B h0 h As) (f:α→List Value) (he:bk C.tokX t e k z by_) (hby:0<by_∧by_≤128) (x0:α) (hz:f x0=z) (hk0:z.length=k) {k1 k2:IntKind} {n cc:Int} (m mc:Nat) (hn:n=m) (hc:cc=mc) (hle:m≤mc) (hsm:mc≤2^32)
  {K:Sl→Heap→Prop} (hk:∀s' h',s'.len=m→s'.cap=mc→aa B h0 h' (As++[aq e s' k f (List.replicate m x0)])→K s' h'):
  av C.P (Instr.makeSlice t (.int k1 n) (.int k2 cc)) (.one (.sc .slc)) h K:=
 run_make hC he hby x0 hz hk0 m mc hn hc hle hsm fun s' h' x y w zz _=>hk s' h' (by rw[x.len];simp) w (H.comp (vy rfl x y zz))
theorem aa.lit (hC:C.Ok) (H:aa B h0 h As) (f:α→List Value) (he:bk C.tokX t e k z by_) (hk0:z.length=k) {n:Nat} {parts:Array (Nat×Value)} (l:List α) (hn:l.length=n) (hnk:n*k≤2^20)
  (hfill:Instr.fill (fun i=>some (i*k,k)) (du z n).toArray parts.toList=some (l.flatMap f).toArray) {K:Sl→Heap→Prop}
  (hk:∀s' h',aa B h0 h' (As++[aq e s' k f l])→K s' h'):
  av C.P (Instr.buildSlice t n parts) (.one (.sc .slc)) h K:=
 vx hC he hk0 l hn hnk hfill fun s' h' x y zz _=>hk s' h' (H.comp (vy rfl x y zz))
theorem vz {h h':Heap} (hn:a.block=h.size) (ho:cn h' a e cs) (hpr:ar (fun _=>True) h h'):Sp h h' [aA a e cs]:=
 .one (any hpr) ⟨ho,by omega,ho.lt⟩
theorem aa.alloc (hC:C.Ok) (H:aa B h0 h As) (hi:C.T.get t=some ti) {K:Addr→Heap→Prop} (hk:∀a h',aa B h0 h' (As++[aA a t ti.zero])→K a h'):
  aW C.P (Instr.alloc t true (.tuple #[])) h K:=
 w9 hC hi fun a h' x y zz _=>hk a h' (H.comp (vz x y zz))
theorem aa.boxed (H:aa B h0 h As) {P:Program} {v:Value} {K:Addr→Heap→Prop} (hk:∀a h',aa B h0 h' (As++[aA a t v.cells.toList])→K a h'):
  aW P (Instr.box t v) h K:=
 zZ fun a h' x y zz _=>hk a h' (H.comp (vz x y zz))
theorem aa.store (hC:C.Ok) (H:aa B h0 h As) (i:Nat) (hi:As[i]?=some (aA a e cs)) (ht:C.T.get t=some ti) (off:Nat) {v:Value} (vs:List Value) (hv:v.cells=vs.toArray) (hsz:ti.size=vs.length)
  (hone:vs.all (·.oneCell')=true) (hfit:off+vs.length≤cs.length) {K:Unit→Heap→Prop}
  (hk:∀h',aa B h0 h' (As.set i (aA a e (cs.take off++vs++cs.drop (off+vs.length))))→K () h'):
  ab C.P (Instr.storeAt t (.pointer (some (a.add off))) v) h K:=
 run_store hC (H.box i hi) ht off vs hv hsz hone hfit fun h' x y _=>hk h' (H.z6 i hi y x)
theorem aa.tk (hC:C.Ok) (H:aa B h0 h As) (i:Nat) (hi:As[i]?=some (aA a e cs)) (ht:C.T.get t=some ti) {v:Value} (vs:List Value) (hv:v.cells=vs.toArray) (hsz:ti.size=vs.length)
  (hone:vs.all (·.oneCell')=true) (hfit:vs.length≤cs.length) {K:Unit→Heap→Prop}
  (hk:∀h',aa B h0 h' (As.set i (aA a e (vs++cs.drop vs.length)))→K () h'):
  ab C.P (Instr.storeAt t (.pointer (some a)) v) h K:=
 H.store hC i hi ht 0 vs hv hsz hone (by omega) (fun h' x=>hk h' (by simpa using x))
theorem aa.copy (hC:C.Ok) (H:aa B h0 h As) (i:Nat) (hi:As[i]?=some (aq e s k f l)) (he:bk C.tokX t e k z by_) (hw:∀x,(f x).length=k) (hv:Seq h p v k f l2) (hlen:l2.length=l.length) (hone:∀x,∀c∈f x,c.oneCell'=true) {ty:Nat} {K:Int→Heap→Prop}
  (hk:∀h',aa B h0 h' (As.set i (aq e s k f l2))→K l2.length h'):
  av C.P (Builtin.copy_ #[t,t2] ty #[.slice s.ptr s.len s.cap,.slice v.ptr v.len v.cap]) (.one (.sc (.int .i64))) h K:=
 (H.own i hi).copy hC he hw hv hlen hone fun h' x y _=>hk h' (H.iq i hi y x)
theorem aa.AK (hC:C.Ok) (H:aa B h0 h As) (i:Nat) (hi:As[i]?=some (aq e s k f l)) (hw:∀x,(f x).length=k) (ht:C.T.get t=some ti) {x:Int} (n cp:Nat) (hx:x=n) (hn:l.length≤n) (hn2:n<s.cap) (hcp:cp=s.cap) {val:Value} (y:α) (hv:val.cells=(f y).toArray) (hsz:ti.size=k)
  (hone:(f y).all (·.oneCell')=true) {K:Heap→Prop} (hk:∀h',aa B h0 h' (As.set i (aq e s k f l))→K h'):
  ∃a:Addr,(s.ptr=some a∧0≤x∧x<((cp:Nat):Int))∧ab C.P (Instr.storeAt t (.pointer (some (a.add (x.toNat*k)))) val) h fun _ h'=>K h':=
 (H.own i hi).AK hC hw ht n cp hx hn hn2 hcp y hv hsz hone fun h' z w _=>hk h' (H.iq i hi w z)
theorem aa.nil (H:aa B h0 h As) (e k:Nat) (f:α→List Value):aa B h0 h (As++[aq e ⟨none,0,0⟩ k f []]):=
 H.comp (.one (ar.refl _ _) ⟨Own.nil h e k f,fun b hb=>by obtain⟨o,hb⟩:=hb;cases hb⟩)
theorem aa.rows (H:aa B h0 h As) (i:Nat) {ll:List (List α)} (hi:As[i]?=some (zx e s k f ll)):∃rs,fB h (fun b=>b<h.size) s k f ll rs:=by
 obtain⟨rs,q1,a,b,c,d,e⟩:=H.at i hi
 exact⟨rs,a.seq (fun _=>rfl) fun x hx=>(b x hx).1,d,fun i r l h1 h2=>(e i r l h1 h2).mono c⟩
end
end Go.Vc
namespace Go.Vc
open Go
section
variable {C:Ctx} {t:Nat} {i:TI} {h:Heap}
theorem tp (hC:C.Ok) (hi:C.T.get t=some i) {fs:List (Nat×TypeId)} (hfs:i.bj=.struct fs) {ps:List (Nat×Nat)} (hps:placesOf C.T fs=some ps) {vs:List (Nat×Value)} {cells:Array Value}
  (hcells:Instr.fill (fun n=>ps[n]?) i.zero.toArray vs=some cells):ak C.P (Instr.build t vs.toArray) (.agg cells):=by
 obtain⟨z,hz,hzc⟩:=iJ hC.toOk hi
 have hzc':i.zero.toArray=z.cells:=by rw[←hzc]
 have hd:=hC.bj hi
 rw[hfs]at hd
 obtain⟨gs,hg,rfl⟩:=gF hd
 refine hz.bind ((al hg).bind ?_)
 have hpl:ak C.P (gs.mapM fun f=>(do pure (f.offset,←sizeOf f.type):Sem (Nat×Nat))) ps.toArray:=by
  rw[Array.mapM_eq_mapM_toList]
  intro w
  have:=gg hC.toOk hps w
  rw[map_eq_pure_bind,Sem.run_bind,this]
  rfl
 refine hpl.bind ?_
 have hcc:Instr.fill (fun n=>ps.toArray[n]?) z.cells vs.toArray.toList=some cells:=by
  rw[←hzc'];simpa using hcells
 rw[hcc]
 exact .pure
end
theorem take_set {α:Type} (l:List α) (n:Nat) (x:α) (h:n<l.length):l.take n++[x]++l.drop (n+1)=l.set n x:=by
 rw[List.set_eq_take_append_cons_drop,if_pos h];simp
section
variable {B:ag} {C:Ctx} {h0 h h':Heap} {As:List HP} {e t:Nat} {a:Addr} {cs:List Value} {ti:TI}
theorem aa.storeAt (hC:C.Ok) (H:aa B h0 h As) (i:Nat) (hi:As[i]?=some (aA a e cs)) (ht:C.T.get t=some ti) {off:Nat} {v:Value} (hv:v.cells=#[v]) (hsz:ti.size=1)
  (hone:v.oneCell'=true) (hfit:off<cs.length) {K:Unit→Heap→Prop}
  (hk:∀h',aa B h0 h' (As.set i (aA a e (cs.set off v)))→K () h'):
  ab C.P (Instr.storeAt t (.pointer (some (a.add off))) v) h K:=
 H.store hC i hi ht off [v] hv hsz (by simp[hone]) (by simp;omega) fun h' x=>hk h' (by rw[←take_set _ _ _ hfit];simpa using x)
theorem aa.storeAll (hC:C.Ok) (H:aa B h0 h As) (i:Nat) (hi:As[i]?=some (aA a e cs)) (ht:C.T.get t=some ti) {v:Value} (vs:List Value) (hv:v.cells=vs.toArray) (hsz:ti.size=vs.length)
  (hone:vs.all (·.oneCell')=true) (hfit:vs.length=cs.length) {K:Unit→Heap→Prop}
  (hk:∀h',aa B h0 h' (As.set i (aA a e vs))→K () h'):
  ab C.P (Instr.storeAt t (.pointer (some a)) v) h K:=
 H.tk hC i hi ht vs hv hsz hone (by omega) fun h' x=>hk h' (by rw[List.drop_of_length_le (by omega),List.append_nil]at x;exact x)
end
end Go.Vc
namespace Go.Vc
open Go
abbrev Rd {α:Type} (h:Heap) (s:Sl) (k:Nat) (f:α→List Value) (l:List α):Prop:=Seq h (fun b=>b<h.size) s k f l
abbrev ey {α:Type} (h:Heap) (s:Sl) (k:Nat) (f:α→List Value) (ll:List (List α)):Prop:=∃rs,fB h (fun b=>b<h.size) s k f ll rs
section
variable {α:Type} {B:ag} {h0 h h':Heap} {As:List HP} {s:Sl} {k e:Nat} {f:α→List Value} {l:List α} {ll:List (List α)}
theorem ey.up (hs:ey h s k f ll) (hp:ar (fun b=>b<h.size) h h'):ey h' s k f ll:=by
 obtain⟨rs,hs⟩:=hs;exact⟨rs,fB.up hs hp⟩
theorem ey.len (hs:ey h s k f ll):s.len=ll.length:=by obtain⟨rs,hs⟩:=hs;exact hs.BQ
theorem ey.get (hs:ey h s k f ll) {i:Int} (n:Nat) (hi:i=n) (hn:n<ll.length) {K:Sl→Prop} (hk:∀r,Rd h r k f ll[n]→K r):
  ∃a:Addr,(s.ptr=some a∧0≤i∧i<((s.len:Nat):Int))∧∃x:Sl,cellOf h (a.add (i.toNat*1))=some (.slice x.ptr x.len x.cap)∧K x:=by
 obtain⟨rs,hs⟩:=hs;exact hs.get n hi hn fun r hr _=>hk r hr
theorem Seq.isSome {p:ag} (hs:Seq h p s k f l) (hl:l≠[]):s.ptr.isNone=false:=by
 cases l with
 |nil=>exact absurd rfl hl
 |cons x t=>obtain⟨b,o,h1,_⟩:=hs.elem 0 x (by simp);rw[h1];rfl
theorem Seq.isNil {p:ag} (hs:Seq h p s k f l) (hl:s.ptr.isNone=true):l=[]:=by
 cases l with
 |nil=>rfl
 |cons x t=>rw[hs.isSome (by simp)]at hl;cases hl
theorem aa.vA (H:aa B h0 h As) (i:Nat) (hi:As[i]?=some (zx e s k f ll)):ey h s k f ll:=H.rows i hi
end
end Go.Vc
namespace Go.Vc
open Go
section
variable {B:ag} {h0 h h':Heap} {As Bs:List HP} {A D:HP}
theorem aa.del (H:aa B h0 h As) (i:Nat):aa B h0 h (As.eraseIdx i):=
 H.pick (fun j=>if j<i then j else j+1) (fun a b hab=>by split at hab<;>split at hab<;>omega) fun j A hj=>by
  rw[List.getElem?_eraseIdx]at hj
  split at hj
  ·rename_i hlt;rw[if_pos hlt];exact hj
  ·rename_i hlt;rw[if_neg hlt];exact hj
theorem aa.call (H:aa B h0 h As) (i:Nat) (hi:As[i]?=some A) (q:ag) (hq:∀q':ag,A.p h q'→∀b,q b→q' b) (R:aa (fun b=>b<h.size∧¬q b) h h' (D::Bs)):aa B h0 h' (As.set i D++Bs):=by
 classical
 obtain⟨lo,p1,c1,z1,a1⟩:=H
 obtain⟨_,p2,c2,z2,a2⟩:=R
 have hle:=p1.1
 have hlen:=(List.getElem?_eq_some_iff.1 hi).1
 have hqc:∀b,q b→b<h.size∧c1 b=i+1:=hq _ (a1 i A hi)
 have nq:∀b,B b→b<h.size∧¬q b:=fun b hb=>⟨Nat.lt_of_lt_of_le (lo b hb) hle,fun hh=>by have:=z1 b hb;have:=hqc b hh;omega⟩
 let c:Nat→Nat:=fun b=>if b<h.size∧¬q b then(if c1 b=i+1 then 0 else c1 b)else if c2 b=0 then 0 else if c2 b=1 then i+1 else As.length+c2 b-1
 have cold:∀b,b<h.size∧¬q b→c1 b≠i+1→c b=c1 b:=fun b hb hn=>by show ite _ _ _=_;rw[if_pos hb,if_neg hn]
 have cnew:∀b,c2 b≠0→c b=if c2 b=1 then i+1 else As.length+c2 b-1:=fun b hb=>by
  have:¬(b<h.size∧¬q b):=fun hh=>hb (z2 b hh)
  show ite _ _ _=_;rw[if_neg this,if_neg hb]
 refine⟨lo,p1.then p2 fun b _ hb=>nq b hb,c,fun b hb=>?_,fun k A' hk=>?_⟩
 ·have:=z1 b hb
  rw[cold b (nq b hb) (by omega)];exact this
 ·by_cases hl:k<As.length
  ·rw[List.getElem?_append_left (by simpa using hl),List.getElem?_set]at hk
   split at hk
   ·rename_i hik
    subst hik
    injection hk with hk
    subst hk
    refine D.mono (a2 0 D rfl) fun b hb=>⟨hb.1,?_⟩
    rw[cnew b (by omega),if_pos hb.2]
   ·rename_i hik
    have hnq:∀b,b<h.size∧c1 b=k+1→b<h.size∧¬q b:=fun b hb=>⟨hb.1,fun hh=>by have:=hqc b hh;omega⟩
    refine A'.mono (A'.loc (a1 k A' hk) (p2.mono fun b _ hb=>hnq b hb)) fun b hb=>⟨Nat.lt_of_lt_of_le hb.1 p2.1,?_⟩
    rw[cold b (hnq b hb) (by omega)];exact hb.2
  ·rw[List.getElem?_append_right (by simpa using hl)]at hk
   rw[List.length_set]at hk
   have h2:=a2 (k-As.length+1) A' (by simpa using hk)
   refine A'.mono h2 fun b hb=>⟨hb.1,?_⟩
   rw[cnew b (by omega),if_neg (by omega)];omega
end
end Go.Vc
namespace Go.Vc
open Go
section
variable {B:ag} {α:Type} {h0 h h':Heap} {As Bs:List HP} {A D:HP} {e k:Nat} {s:Sl} {f:α→List Value} {l:List α}
theorem aa.off (H:aa B h0 h As) (i j:Nat) (hij:i≠j) (hi:As[i]?=some (aq e s k f l)) (hj:As[j]?=some A):A.p h (fun b=>b<h.size∧¬s.on b):=by
 obtain⟨_,_,c,_,a⟩:=H
 refine A.mono (a j A hj) fun b hb=>⟨hb.1,fun hon=>?_⟩
 have:=(a i _ hi).2 b hon
 omega
theorem aa.base (H:aa B h0 h As) (i:Nat) (hi:As[i]?=some (aq e s k f l)) {b:Nat} (hb:B b):¬s.on b:=fun hon=>by
 obtain⟨_,_,c,z,a⟩:=H
 have:=(a i _ hi).2 b hon
 have:=z b hb
 omega
theorem aa.Bt (H:aa B h0 h As) (i j:Nat) {A2:HP} (hi:As[i]?=some A) (hj:As[j]?=some A2):aa B h0 h ((As.set i A2).set j A):=by
 have hil:=(List.getElem?_eq_some_iff.1 hi).1
 have hjl:=(List.getElem?_eq_some_iff.1 hj).1
 refine H.pick (fun x=>if x=j then i else if x=i then j else x) (fun a b hab=>by split at hab<;>split at hab<;>(try split at hab)<;>(try split at hab)<;>omega) fun x A3 hx=>?_
 rw[List.getElem?_set,List.getElem?_set]at hx
 by_cases h1:j=x
 ·subst h1
  simp[hjl]at hx
  subst hx;simpa using hi
 ·by_cases h2:i=x
  ·subst h2
   simp[h1,hil]at hx
   subst hx
   rw[if_neg (fun hh=>h1 hh.symm),if_pos rfl];exact hj
  ·simp[h1,h2]at hx
   rw[if_neg (fun hh=>h1 hh.symm),if_neg (fun hh=>h2 hh.symm)];exact hx
end
def cq {α:Type} (e k:Nat) (f:α→List Value) (rs:List Sl) (ll:List (List α)):List HP:=List.zipWith (fun r l=>aq e r k f l) rs ll
section
variable {α:Type} {e k:Nat} {f:α→List Value} {rs:List Sl} {ll:List (List α)}
theorem kP (h:rs.length=ll.length) (i:Nat) (hi:i<ll.length):(cq e k f rs ll)[i]?=some (aq e (rs[i]'(by omega)) k f ll[i]):=by
 have h1:i<rs.length:=by omega
 simp[cq,List.getElem?_zipWith,List.getElem?_eq_getElem hi,List.getElem?_eq_getElem h1]
theorem tq (h:rs.length=ll.length) (r:Sl) (l:List α):cq e k f (rs++[r]) (ll++[l])=cq e k f rs ll++[aq e r k f l]:=by
 unfold cq;rw[List.zipWith_append h];rfl
theorem aa.zy {B:ag} {h0 h:Heap} {s:Sl} {e1:Nat} (H:aa B h0 h (aq e1 s 1 cv rs::cq e k f rs ll)) (hl:rs.length=ll.length) (hw:∀x,(f x).length=k):ey h s k f ll:=by
 refine⟨rs,H.seq 0 rfl (fun _=>rfl),hl,fun i r l h1 h2=>?_⟩
 have hi:i<ll.length:=(List.getElem?_eq_some_iff.1 h2).1
 have hg:=kP (e:=e) (k:=k) (f:=f) hl i hi
 have h3:=H.seq (i+1) (by simpa using hg) hw
 have e1:rs[i]'(by omega)=r:=by rw[List.getElem?_eq_getElem (by omega)]at h1;simpa using h1
 have e2:ll[i]=l:=by rw[List.getElem?_eq_getElem hi]at h2;simpa using h2
 rw[e1,e2]at h3;exact h3
end
end Go.Vc
namespace Go.Vc
open Go
section
variable {α:Type} {h:Heap} {p:ag} {s:Sl} {f:α→List Value} {l:List α}
theorem Seq.zA {X:Type} {g:X→Value} (hs:Seq h p s 1 f l) {i:Int} (n:Nat) (hi:i=n) (hn:n<l.length) (x:X) (hx:f l[n]=[g x]) {K:Addr→X→Prop} (hk:∀a:Addr,cellOf h (a.add (i.toNat*1))=some (g x)→K a x):
  ∃a:Addr,(s.ptr=some a∧0≤i∧i<((s.len:Nat):Int))∧∃x:X,cellOf h (a.add (i.toNat*1))=some (g x)∧K a x:=by
 subst hi
 obtain⟨b,o,h1,_,h3⟩:=hs.elem n l[n] (List.getElem?_eq_getElem hn)
 rw[hx]at h3
 have h4:=h3.1
 rw[add_eq,Nat.add_zero]at h4
 have h5:cellOf h ((⟨b,o,none⟩:Addr).add ((n:Int).toNat*1))=some (g x):=by rw[add_eq];simpa using h4
 exact⟨_,⟨h1,by omega,by rw[hs.len];omega⟩,x,h5,hk _ h5⟩
end
end Go.Vc
namespace Go.Vc
open Go
theorem Seq.BR {h:Heap} {p:ag} {s:Sl} {rs:List Sl} (hs:Seq h p s 1 cv rs) {i:Int} (n:Nat) (hi:i=n) (hn:n<rs.length) {K:Addr→Sl→Prop}
  (hk:∀a:Addr,cellOf h (a.add (i.toNat*1))=some (.slice rs[n].ptr rs[n].len rs[n].cap)→p (a.add (i.toNat*1)).block→K a rs[n]):
  ∃a:Addr,(s.ptr=some a∧0≤i∧i<((s.len:Nat):Int))∧∃x:Sl,cellOf h (a.add (i.toNat*1))=some (.slice x.ptr x.len x.cap)∧K a x:=by
 subst hi
 obtain⟨b,o,h1,h2,h3⟩:=hs.elem n rs[n] (List.getElem?_eq_getElem hn)
 have h4:=h3.1
 rw[add_eq,Nat.add_zero]at h4
 have h5:cellOf h ((⟨b,o,none⟩:Addr).add ((n:Int).toNat*1))=some (.slice rs[n].ptr rs[n].len rs[n].cap):=by rw[add_eq];simpa using h4
 exact⟨_,⟨h1,by omega,by rw[hs.len];omega⟩,rs[n],h5,hk _ h5 (by rw[add_eq];exact h2)⟩
end Go.Vc
namespace Go.Vc
open Go
section
variable {B:ag} {α:Type} {h0 h:Heap} {As:List HP} {e k:Nat} {s:Sl} {f:α→List Value} {l:List α}
theorem Own.cut (ho:Own h e s k f l) (hw:∀x,(f x).length=k) (j:Nat) (hj:j≤l.length):Own h e ⟨s.ptr,j,s.cap⟩ k f (l.take j):=by
 have hl:=ho.len
 refine⟨by simp;omega,?_⟩
 rcases ho.head with⟨h1,h2,h3⟩|⟨b,rest,h1,h2,h3,h4⟩
 ·subst h3
  exact .inl ⟨h1,h2,by simp⟩
 ·refine .inr ⟨b,(l.drop j).flatMap f++rest,h1,?_,?_,by dsimp only;omega⟩
  ·rw[←List.append_assoc,←List.flatMap_append,List.take_append_drop];exact h2
  ·rw[List.length_append,bK hw,List.length_drop,h3,←Nat.add_mul]
   dsimp only
   congr 1;omega
theorem aa.cut (H:aa B h0 h As) (i:Nat) (hi:As[i]?=some (aq e s k f l)) (hw:∀x,(f x).length=k) (j:Nat) (hj:j≤l.length):aa B h0 h (As.set i (aq e ⟨s.ptr,j,s.cap⟩ k f (l.take j))):=
 H.gH i hi fun _ hq=>⟨hq.1.cut hw j hj,hq.2⟩
end
end Go.Vc
namespace Go.Vc
open Go
section
variable {B:ag} {α:Type} {C:Ctx} {h0 h:Heap} {As:List HP} {e t k:Nat} {s:Sl} {f:α→List Value} {l:List α} {ti:TI}
theorem Own.tt (hC:C.Ok) (ho:Own h e s k f l) (hw:∀x,(f x).length=k) (hi:C.T.get t=some ti) {x:Int} {cp:Nat} (hx:x=l.length) (hcap:l.length<s.cap) (hcp:cp=s.cap) {val:Value} (y:α) (hv:val.cells=(f y).toArray) (hsz:ti.size=k)
  (hone:(f y).all (·.oneCell')=true) {K:Heap→Prop} (hk:∀h',Own h' e ⟨s.ptr,l.length+1,s.cap⟩ k f (l++[y])→ar (fun b=>¬s.on b) h h'→K h'):
  ∃a:Addr,(s.ptr=some a∧0≤x∧x<((cp:Nat):Int))∧ab C.P (Instr.storeAt t (.pointer (some (a.add (x.toNat*k)))) val) h fun _ h'=>K h':=by
 subst hx hcp
 have hlen:=ho.len
 rcases ho.head with⟨_,h2,h3⟩|⟨b,rest,h1,h2,h3,h4⟩
 ·omega
 ·refine⟨_,⟨h1,by omega,by omega⟩,?_⟩
  unfold Instr.storeAt
  refine ab.bind (ab.pure' ?_)
  unfold storeVar
  refine ab.bind (ab.always (bx hC.toOk hi) ?_)
  rw[hv,hsz]
  have hfl:=hw y
  simp only[List.size_toArray,hfl,ne_eq,not_true,if_false]
  rw[add_eq,Nat.zero_add,Int.toNat_natCast]
  have hfl2:=bK hw l
  have hge:k≤rest.length:=by
   rw[h3,hlen]
   have:=Nat.mul_le_mul_right k (show 1≤s.cap-l.length by omega)
   omega
  refine bD (e:=e) (pre:=l.flatMap f) (old:=rest.take k) (post:=rest.drop k) ?_ ?_ ?_ ?_ ?_
  ·rw[List.append_assoc,List.take_append_drop];exact h2
  ·rw[hfl,List.length_take];omega
  ·rw[hfl2];omega
  ·intro c hc
   exact List.all_eq_true.1 hone c hc
  ·refine hk _ ⟨by simp,.inr ⟨b,rest.drop k,h1,?_,?_,by dsimp only;omega⟩⟩ (ar.cV h2 (fun hh=>hh ⟨0,h1⟩))
   ·rw[cH h2,if_pos rfl];simp
   ·rw[List.length_drop,h3,hlen]
    dsimp only
    rw[Nat.sub_add_eq,Nat.sub_mul (s.cap-l.length) 1 k,Nat.one_mul]
theorem aa.tt (hC:C.Ok) (H:aa B h0 h As) (i:Nat) (hi:As[i]?=some (aq e s k f l)) (hw:∀x,(f x).length=k) (ht:C.T.get t=some ti) {x:Int} {cp:Nat} (hx:x=l.length) (hcap:l.length<s.cap) (hcp:cp=s.cap) {val:Value} (y:α) (hv:val.cells=(f y).toArray) (hsz:ti.size=k)
  (hone:(f y).all (·.oneCell')=true) {K:Heap→Prop} (hk:∀h',aa B h0 h' (As.set i (aq e ⟨s.ptr,l.length+1,s.cap⟩ k f (l++[y])))→K h'):
  ∃a:Addr,(s.ptr=some a∧0≤x∧x<((cp:Nat):Int))∧ab C.P (Instr.storeAt t (.pointer (some (a.add (x.toNat*k)))) val) h fun _ h'=>K h':=
 (H.own i hi).tt hC hw ht hx hcap hcp y hv hsz hone fun h' z w=>hk h' (H.step i hi fun _ hq hlt=>⟨w.mono fun b _ hb hon=>hb (hq.2 b hon),z,fun b hb=>⟨Nat.lt_of_lt_of_le (hlt b (hq.2 b hb)) w.1,.inl (hq.2 b hb)⟩⟩)
end
end Go.Vc
namespace Go.Vc
open Go
section
variable {C:Ctx} {t t2 ty e k:Nat} {z:List Value} {by_:Nat} {α:Type} {h h0:Heap} {p B:ag} {s v:Sl} {f:α→List Value} {l l2:List α} {As:List HP}
theorem Own.tu (hC:C.Ok) (he:bk C.tokX t e k z by_) (hw:∀x,(f x).length=k) (ho:Own h e s k f l) (hv:Seq h p v k f l2) (hone:∀x,∀c∈f x,c.oneCell'=true) {K:Int→Heap→Prop}
  (hk:∀n h',Own h' e s k f (l2.take l.length++l.drop l2.length)→ar (fun b=>¬s.on b) h h'→K n h'):
  av C.P (Builtin.copy_ #[t,t2] ty #[.slice s.ptr s.len s.cap,.slice v.ptr v.len v.cap]) (.one (.sc (.int .i64))) h K:=by
 unfold av Builtin.copy_
 simp only[List.getElem?_toArray,List.getElem?_cons_zero,List.getElem?_cons_succ]
 refine ab.bind (ab.always (al (he.under hC)) ?_)
 refine ab.bind (ab.pure' ?_)
 refine ab.bind (ab.always (he.size hC) ?_)
 have hl1:=ho.len;have hl2:=hv.len
 obtain⟨m,hm⟩:∃m,m=Nat.min v.len s.len:=⟨_,rfl⟩
 rw[←hm]
 have hm1:m≤l2.length:=by rw[hm,←hl2];exact Nat.min_le_left _ _
 have hm2:m≤l.length:=by rw[hm,←hl1];exact Nat.min_le_right _ _
 have hm3:m=min l2.length l.length:=by rw[hm,hl1,hl2]
 have hv':=hv.take m hm1
 have e0:l2.take l.length++l.drop l2.length=l2.take m++l.drop m:=by
  rcases Nat.le_total l2.length l.length with hh|hh
  ·rw[List.take_of_length_le hh,show m=l2.length by omega,List.take_length]
  ·rw[show m=l.length by omega,List.drop_of_length_le hh,List.drop_length]
 rw[e0]at hk
 have efc:Builtin.firstCells k m (.slice v.ptr v.len v.cap)=Builtin.firstCells k m (.slice v.ptr m v.cap):=by cases v.ptr<;>rfl
 rw[efc]
 refine ab.bind (cK (v:=⟨v.ptr,m,v.cap⟩) hw hv' ?_)
 rcases ho.head with⟨h1,h2,h3⟩|⟨b,rest,h1,h2,h3,h4⟩
 ·rw[h1]
  subst h3
  have:m=0:=by simpa using hm2
  subst this
  refine ab.pure' ⟨_,rfl,hk _ h ?_ (ar.refl _ _)⟩
  simpa using ho
 ·rw[h1]
  refine ab.bind ?_
  have esp:l.flatMap f++rest=(l.take m).flatMap f++((l.drop m).flatMap f++rest):=by
   rw[←List.append_assoc,←List.flatMap_append,List.take_append_drop]
  rw[esp]at h2
  refine bD (e:=e) (pre:=[]) (old:=(l.take m).flatMap f) (post:=(l.drop m).flatMap f++rest) (by simpa using h2) (by rw[bK hw,bK hw,List.length_take,List.length_take];congr 1;omega) rfl ?_ ?_
  ·intro c hc
   obtain⟨x,_,hxc⟩:=List.mem_flatMap.1 hc
   exact hone x c hxc
  ·refine ab.pure' ⟨_,rfl,hk _ _ ⟨by rw[hl1,List.length_append,List.length_take,List.length_drop];omega,.inr ⟨b,rest,h1,?_,h3,h4⟩⟩ (ar.cV h2 (fun hn=>hn ⟨0,h1⟩))⟩
   rw[cH h2,if_pos rfl,List.flatMap_append];simp
theorem aa.tu (hC:C.Ok) (H:aa B h0 h As) (i:Nat) (hi:As[i]?=some (aq e s k f l)) (he:bk C.tokX t e k z by_) (hw:∀x,(f x).length=k) (hv:Seq h p v k f l2) (hone:∀x,∀c∈f x,c.oneCell'=true) {K:Int→Heap→Prop}
  (hk:∀n h',aa B h0 h' (As.set i (aq e s k f (l2.take l.length++l.drop l2.length)))→K n h'):
  av C.P (Builtin.copy_ #[t,t2] ty #[.slice s.ptr s.len s.cap,.slice v.ptr v.len v.cap]) (.one (.sc (.int .i64))) h K:=
 (H.own i hi).tu hC he hw hv hone fun n h' x y=>hk n h' (H.iq i hi y x)
end
def AL {α:Type} (l:List α) (w i:Nat):List α:=(l.drop (i*w)).take w
theorem z7 {α:Type} {l:List α} {w i:Nat} (hi:(i+1)*w≤l.length):(AL l w i).length=w:=by
 have e:(i+1)*w=i*w+w:=Nat.succ_mul i w
 simp only[AL,List.length_take,List.length_drop];omega
end Go.Vc
namespace Go.Vc
open Go
def HP.sep (A D:HP):HP:=
 ⟨fun h q=>∃q1 q2:ag,(∀b,q1 b→¬q2 b)∧(∀b,q1 b→q b)∧(∀b,q2 b→q b)∧A.p h q1∧D.p h q2,
  fun⟨q1,q2,a,b,c,d,e⟩ hp=>⟨q1,q2,a,b,c,A.loc d (hp.mono fun x _ hx=>b x hx),D.loc e (hp.mono fun x _ hx=>c x hx)⟩,
  fun⟨q1,q2,a,b,c,d,e⟩ hq=>⟨q1,q2,a,fun x hx=>hq x (b x hx),fun x hx=>hq x (c x hx),d,e⟩⟩
def HP.ex {ι:Type} (F:ι→HP):HP:=⟨fun h q=>∃i,(F i).p h q,fun⟨i,a⟩ hp=>⟨i,(F i).loc a hp⟩,fun⟨i,a⟩ hq=>⟨i,(F i).mono a hq⟩⟩
def HP.pure (P:Prop):HP:=⟨fun _ _=>P,fun a _=>a,fun a _=>a⟩
def HP.and (A:HP) (P:Prop):HP:=⟨fun h q=>A.p h q∧P,fun a hp=>⟨A.loc a.1 hp,a.2⟩,fun a hq=>⟨A.mono a.1 hq,a.2⟩⟩
section
variable {B:ag} {h0 h h':Heap} {As Bs:List HP} {A D E:HP} {i j:Nat}
theorem aa.split (H:aa B h0 h As) (i:Nat) (hi:As[i]?=some (A.sep D)):aa B h0 h (As.set i A++[D]):=by
 classical
 obtain⟨lo,p,c,z,a⟩:=H
 obtain⟨q1,q2,hd,s1,s2,hA,hD⟩:=a i _ hi
 have hlt:=(List.getElem?_eq_some_iff.1 hi).1
 refine⟨lo,p,fun b=>if q2 b then As.length+1 else c b,fun b hb=>?_,fun j X hj=>?_⟩
 ·have h1:=z b hb
  dsimp only
  rw[if_neg];exact h1
  intro h2;have:=(s2 b h2).2;omega
 ·by_cases hl:j<As.length
  ·rw[List.getElem?_append_left (by simpa using hl),List.getElem?_set]at hj
   split at hj
   ·rename_i hij
    subst hij
    first|rw[if_pos hl]at hj|skip
    injection hj with hj
    subst hj
    refine A.mono hA fun b hb=>⟨(s1 b hb).1,?_⟩
    dsimp only
    rw[if_neg (hd b hb)];exact(s1 b hb).2
   ·rename_i hij
    refine X.mono (a j X hj) fun b hb=>⟨hb.1,?_⟩
    dsimp only
    rw[if_neg];exact hb.2
    intro h2;have:=(s2 b h2).2;omega
  ·rw[List.getElem?_append_right (by simpa using hl)]at hj
   rw[List.length_set]at hj
   have hj0:j=As.length:=by
    have:=(List.getElem?_eq_some_iff.1 hj).1
    simp at this;omega
   subst hj0
   simp at hj
   subst hj
   refine D.mono hD fun b hb=>⟨(s2 b hb).1,?_⟩
   dsimp only
   rw[if_pos hb]
theorem aa.join (H:aa B h0 h As) (i j:Nat) (hij:i≠j) (hi:As[i]?=some A) (hj:As[j]?=some D):aa B h0 h ((As.set i (A.sep D)).set j emp):=
 H.merge i j hij hi hj fun q1 q2 hd hA hD=>⟨q1,q2,hd,fun _ hb=>.inl hb,fun _ hb=>.inr hb,hA,hD⟩
theorem aa.Bu {ι:Type} {F:ι→HP} (H:aa B h0 h As) (i:Nat) (hi:As[i]?=some (HP.ex F)):∃x,aa B h0 h (As.set i (F x)):=by
 obtain⟨lo,p,c,z,a⟩:=H
 obtain⟨x,hx⟩:=a i _ hi
 refine⟨x,lo,p,c,z,fun j X hj=>?_⟩
 rw[List.getElem?_set]at hj
 split at hj
 ·rename_i hij
  subst hij
  split at hj
  ·injection hj with hj;subst hj;exact hx
  ·cases hj
 ·exact a j X hj
theorem aa.close' {ι:Type} {F:ι→HP} (H:aa B h0 h As) (i:Nat) (x:ι) (hi:As[i]?=some (F x)):aa B h0 h (As.set i (HP.ex F)):=H.gH i hi fun _ hq=>⟨x,hq⟩
theorem aa.fact {P:Prop} (H:aa B h0 h As) (i:Nat) (hi:As[i]?=some (A.and P)):P:=(H.at i hi).2
theorem aa.Bv {P:Prop} (H:aa B h0 h As) (i:Nat) (hi:As[i]?=some (A.and P)):aa B h0 h (As.set i A):=H.gH i hi fun _ hq=>hq.1
theorem aa.Bw {P:Prop} (H:aa B h0 h As) (i:Nat) (hi:As[i]?=some A) (hp:P):aa B h0 h (As.set i (A.and P)):=H.gH i hi fun _ hq=>⟨hq,hp⟩
theorem aa.cons (H:aa B h0 h As) (i:Nat) (hi:As[i]?=some A):aa B h0 h (A::As.set i emp):=by
 obtain⟨lo,p,c,z,a⟩:=H
 have hlt:=(List.getElem?_eq_some_iff.1 hi).1
 refine⟨lo,p,fun b=>if c b=i+1 then 1 else if c b=0 then 0 else c b+1,fun b hb=>?_,fun j X hj=>?_⟩
 ·have:=z b hb;dsimp only;rw[if_neg (by omega),if_pos this]
 ·cases j with
  |zero=>
   simp at hj;subst hj
   refine A.mono (a i A hi) fun b hb=>⟨hb.1,by dsimp only;rw[if_pos hb.2]⟩
  |succ j=>
   rw[List.getElem?_cons_succ,List.getElem?_set]at hj
   split at hj
   ·rename_i hij
    injection hj with hj;subst hj;trivial
   ·rename_i hij
    refine X.mono (a j X hj) fun b hb=>⟨hb.1,by dsimp only;rw[if_neg (by omega),if_neg (by omega)];omega⟩
theorem aa.rest (H:aa B h0 h (A::As)):aa B h0 h As:=H.pick (fun j=>j+1) (fun a b h=>by omega) fun j X hj=>by simpa using hj
end
end Go.Vc
namespace Go.Vc
open Go
structure gI (α β:Type) where
 p:Heap→ag→α→β→Prop
 loc:∀{h h':Heap} {q:ag} {a:α} {b:β},p h q a b→ar q h h'→p h' q a b
 mono:∀{h:Heap} {q q':ag} {a:α} {b:β},p h q a b→(∀x,q x→q' x)→p h q' a b
def qA {α:Type} (k:Nat) (f:α→List Value):gI Sl (List α):=⟨fun h q s l=>Seq h q s k f l,fun a hp=>a.ao hp,fun a hq=>a.mono hq⟩
def ca {α β:Type} (E:gI α β) (k:Nat) (f:α→List Value):gI Sl (List β):=
 ⟨fun h q s ll=>∃rs:List α,Seq h q s k f rs∧rs.length=ll.length∧∀(i:Nat) r l,rs[i]?=some r→ll[i]?=some l→E.p h q r l,
  fun⟨rs,a,b,c⟩ hp=>⟨rs,a.ao hp,b,fun i r l h1 h2=>E.loc (c i r l h1 h2) hp⟩,fun⟨rs,a,b,c⟩ hq=>⟨rs,a.mono hq,b,fun i r l h1 h2=>E.mono (c i r l h1 h2) hq⟩⟩
def EA {α β:Type} (E:gI α β) (a:α) (b:β):HP:=⟨fun h q=>E.p h q a b,fun x hp=>E.loc x hp,fun x hq=>E.mono x hq⟩
abbrev kj {α β:Type} (E:gI α β) (h:Heap) (a:α) (b:β):Prop:=E.p h (fun b=>b<h.size) a b
section
variable {α β:Type} {E:gI α β} {k:Nat} {f:α→List Value} {h h':Heap} {q:ag} {s:Sl} {ll:List β} {a:α} {b:β}
theorem kj.up (x:kj E h a b) (hp:ar (fun b=>b<h.size) h h'):kj E h' a b:=E.mono (E.loc x hp) fun _ hb=>Nat.lt_of_lt_of_le hb hp.1
theorem ca.sK (x:(ca E k f).p h q s ll):∃rs:List α,Seq h q s k f rs∧rs.length=ll.length∧∀(i:Nat) (h1:i<rs.length) (h2:i<ll.length),E.p h q rs[i] ll[i]:=by
 obtain⟨rs,a,b,c⟩:=x
 exact⟨rs,a,b,fun i h1 h2=>c i _ _ (List.getElem?_eq_getElem h1) (List.getElem?_eq_getElem h2)⟩
theorem ca.len (x:(ca E k f).p h q s ll):s.len=ll.length:=by obtain⟨rs,a,b,c⟩:=x;rw[a.len,b]
theorem ca.nil (h:Heap) (q:ag) (pt:Option Addr) (c:Nat):(ca E k f).p h q ⟨pt,0,c⟩ []:=⟨[],Seq.nil h q c pt k f,rfl,fun i r l h1=>by simp at h1⟩
theorem ca.take (x:(ca E k f).p h q s ll) (n:Nat) (hn:n≤ll.length):(ca E k f).p h q ⟨s.ptr,n,s.cap⟩ (ll.take n):=by
 obtain⟨rs,a,b,c⟩:=x
 refine⟨rs.take n,a.take n (by omega),by simp[b],fun i r l h1 h2=>?_⟩
 rw[List.getElem?_take]at h1 h2
 split at h1
 ·rename_i hi;rw[if_pos hi]at h2;exact c i r l h1 h2
 ·cases h1
theorem ca.drop (x:(ca E k f).p h q s ll) (n:Nat) (hc:s.len≤s.cap):(ca E k f).p h q ⟨if s.cap=n then s.ptr else s.ptr.map (·.add (n*k)),s.len-n,s.cap-n⟩ (ll.drop n):=by
 obtain⟨rs,a,b,c⟩:=x
 refine⟨rs.drop n,a.drop n hc,by simp[b],fun i r l h1 h2=>?_⟩
 rw[List.getElem?_drop]at h1 h2
 exact c _ r l h1 h2
theorem ca.get {X:Type} {g:X→Value} (x:(ca E 1 f).p h q s ll) {i:Int} (n:Nat) (hi:i=n) (hn:n<ll.length) (u:α→X) (hu:∀r,f r=[g (u r)]) {K:X→Prop} (hk:∀r,E.p h q r ll[n]→K (u r)):
  ∃a:Addr,(s.ptr=some a∧0≤i∧i<((s.len:Nat):Int))∧∃x:X,cellOf h (a.add (i.toNat*1))=some (g x)∧K x:=by
 obtain⟨rs,h1,h2,h3⟩:=ca.sK x
 exact h1.ef n hi (by omega) (u (rs[n]'(by omega))) (hu _) (hk _ (h3 n (by omega) hn))
theorem ca.BR {E:gI Sl β} (x:(ca E 1 cv).p h q s ll) {i:Int} (n:Nat) (hi:i=n) (hn:n<ll.length) {K:Sl→Prop} (hk:∀r,E.p h q r ll[n]→K r):
  ∃a:Addr,(s.ptr=some a∧0≤i∧i<((s.len:Nat):Int))∧∃x:Sl,cellOf h (a.add (i.toNat*1))=some (.slice x.ptr x.len x.cap)∧K x:=
 ca.get (g:=fun r:Sl=>Value.slice r.ptr r.len r.cap) x n hi hn id (fun _=>rfl) hk
end
section
variable {α β:Type} {E:gI α β} {C:Ctx} {k e t:Nat} {f:α→List Value} {B:ag} {h0 h h':Heap} {As:List HP} {s:Sl} {ll:List β} {z:List Value} {by_:Nat}
theorem aa.BN {a:α} {b:β} (H:aa B h0 h As) (i:Nat) (hi:As[i]?=some (EA E a b)):kj E h a b:=H.at i hi
end
end Go.Vc
namespace Go.Vc
open Go
section
variable {α β:Type} {E:gI α β} {k e:Nat} {f:α→List Value} {B:ag} {h0 h:Heap} {As:List HP} {s:Sl}
end
end Go.Vc
namespace Go.Vc
open Go
section
variable {α:Type} {B:ag} {h0 h:Heap} {As:List HP} {e e2 k:Nat} {s:Sl} {f:α→List Value} {rs:List Sl} {ll:List (List α)}
end
end Go.Vc
namespace Go.Vc
open Go
theorem rC {h h':Heap} {p:ag} (hp:ar p h h'):∀{L:aC},L.ok h→(∀x∈L,p x.1.block)→L.ok h'
 |[],_,_=>trivial
 |x::L,hk,hq=>⟨hp.cell (hq x (by simp)) hk.1,rC hp hk.2 fun y hy=>hq y (by simp[hy])⟩
theorem mN {h h':Heap} (hp:ar (fun b=>b<h.size) h h') {L:aC} (hk:L.ok h):L.ok h':=rC hp hk (by
 clear hp
 induction L with
 |nil=>intro x hx;cases hx
 |cons y L ih=>
  intro x hx
  rcases List.mem_cons.1 hx with rfl|hx
  ·exact lD hk.1
  ·exact ih hk.2 x hx)
theorem av.both {P:Program} {s:Sem Value} {h:Heap} {K:Sl→Heap→Prop} {Q:Heap→Prop} (h1:av P s (.one (.sc .slc)) h fun _ h'=>Q h') (h2:av P s (.one (.sc .slc)) h K):av P s (.one (.sc .slc)) h fun x h'=>Q h'∧K x h':=by
 intro w hw
 obtain⟨v1,w1,a1,a2,x1,a3,a4⟩:=h1 w hw
 obtain⟨v2,w2,b1,b2,x2,b3,b4⟩:=h2 w hw
 rw[a1]at b1
 cases b1
 exact⟨_,_,a1,a2,x2,b3,a4,b4⟩
theorem aa.nO {α:Type} {B:ag} {C:Ctx} {h0 h:Heap} {As:List HP} {e t k by_:Nat} {z:List Value} {K:Sl→Heap→Prop} (hC:C.Ok) (H:aa B h0 h As) (f:α→List Value) (he:bk C.tokX t e k z by_) (hk0:z.length=k) {n:Nat} {parts:Array (Nat×Value)} (l:List α) (hn:l.length=n) (hnk:n*k≤2^20)
  (hfill:Instr.fill (fun i=>some (i*k,k)) (du z n).toArray parts.toList=some (l.flatMap f).toArray) {L:aC} (hL:L.ok h) (h2:av C.P (Instr.buildSlice t n parts) (.one (.sc .slc)) h K):
  av C.P (Instr.buildSlice t n parts) (.one (.sc .slc)) h fun x h'=>L.ok h'∧K x h':=
 av.both ((Sp.refl h).lit hC f he hk0 l hn hnk hfill fun _ _ H'=>mN H'.ao hL) h2
end Go.Vc
namespace Go.Vc
open Go
section
variable {B:ag} {h0 h h':Heap} {As Bs:List HP} {A D E:HP} {i j:Nat}
theorem aa.front (H:aa B h0 h (As++Bs)):aa B h0 h (Bs++As):=
 H.pick (fun j=>if j<Bs.length then As.length+j else if j<Bs.length+As.length then j-Bs.length else j)
  (fun a b hab=>by(try dsimp only at hab);split at hab<;>split at hab<;>(try split at hab)<;>(try split at hab)<;>omega) fun j X hj=>by
  try dsimp only
  split
  ·rename_i hlt
   rw[List.getElem?_append_left hlt]at hj
   rw[List.getElem?_append_right (by omega),Nat.add_sub_cancel_left];exact hj
  ·rename_i hlt
   rw[List.getElem?_append_right (by omega)]at hj
   have:=(List.getElem?_eq_some_iff.1 hj).1
   rw[if_pos (by omega),List.getElem?_append_left this];exact hj
theorem aa.eP (H:aa B h0 h (As++[A])):aa B h0 h (A::As):=H.front
theorem aa.cX (H:aa B h0 h As) (R:Sp h h' [A]):aa B h0 h' (A::As):=(H.comp R).eP
theorem aa.nP (H:aa B h0 h (A::D::As)):aa B h0 h (A::As):=H.del 1
theorem aa.nQ {ι:Type} {F:ι→HP} (H:aa B h0 h (HP.ex F::As)):∃x,aa B h0 h (F x::As):=H.Bu 0 rfl
theorem aa.pv {ι:Type} {F:ι→HP} (x:ι) (H:aa B h0 h (F x::As)):aa B h0 h (HP.ex F::As):=H.close' 0 x rfl
theorem aa.px (H:aa B h0 h (A.sep D::As)):aa B h0 h (D::A::As):=(H.split 0 rfl).eP
theorem aa.js (H:aa B h0 h (D::A::As)):aa B h0 h (A.sep D::As):=by
 have h2:aa B h0 h (emp::A.sep D::As):=H.join 1 0 (by decide) rfl rfl
 exact h2.rest
theorem aa.xa (H:aa B h0 h (A::D::As)):aa B h0 h (D::A::As):=H.Bt 0 1 rfl rfl
end
end Go.Vc
namespace Go.Vc
open Go
theorem Seq.AM {h:Heap} {p:ag} {s:Sl} {rs:List Sl} (hs:Seq h p s 1 cv rs) {i:Int} (n:Nat) (hi:i=n) (hn:n<rs.length) {K:Sl→Prop} (hk:K rs[n]):
  ∃a:Addr,(s.ptr=some a∧0≤i∧i<((s.len:Nat):Int))∧∃x:Sl,cellOf h (a.add (i.toNat*1))=some (.slice x.ptr x.len x.cap)∧K x:=
 hs.ef (g:=fun r:Sl=>Value.slice r.ptr r.len r.cap) n hi hn rs[n] rfl hk
end Go.Vc
namespace Go.Vc
open Go
def St (B:ag) (h0:Heap) (As:List HP) (Q:Heap→Prop):Prop:=∀(Bs:List HP) (h':Heap),aa B h0 h' (Bs++As)→Q h'
section
variable {B:ag} {h0 h h':Heap} {As Bs:List HP} {A:HP} {Q:Heap→Prop}
theorem St.at (x:St B h0 As Q) (Bs:List HP) (H:aa B h0 h (Bs++As)):Q h:=x Bs h H
theorem St.base (hq:Q h0) (hs:∀h',ar B h0 h'→Q h'):St B h0 As Q:=fun _ _ H=>hs _ H.ao
theorem St.kl (j:Nat) (hj:As[j]?=some A) (hs:∀h',A.p h' (fun b=>b<h'.size)→Q h'):St B h0 As Q:=fun Bs h' H=>hs _ (H.at (Bs.length+j) (by rw[List.getElem?_append_right (by omega),Nat.add_sub_cancel_left];exact hj))
theorem St.cons (x:St B h0 As Q):St B h0 (A::As) Q:=fun Bs h' H=>x (Bs++[A]) h' (by rw[List.append_assoc];exact H)
end
end Go.Vc
namespace Go.Vc
open Go
section
variable {β:Type} {E:gI Sl β} {h:Heap} {q:ag} {s:Sl} {ll:List β}
theorem ca.pick (x:(ca E 1 cv).p h q s ll) (n:Nat) (hn:n<ll.length) {a:Addr} {r:Sl} (ha:s.ptr=some a) (hc:cellOf h (a.add (n*1))=some (.slice r.ptr r.len r.cap)):E.p h q r ll[n]:=by
 obtain⟨rs,h1,h2,h3⟩:=ca.sK x
 obtain⟨b,o,e1,e2,e3⟩:=h1.elem n (rs[n]'(by omega)) (List.getElem?_eq_getElem (by omega))
 rw[ha]at e1
 injection e1 with e1
 subst e1
 have h4:=e3.1
 rw[add_eq,Nat.add_zero]at h4
 have h5:cellOf h ((⟨b,o,none⟩:Addr).add (n*1))=some (.slice (rs[n]'(by omega)).ptr (rs[n]'(by omega)).len (rs[n]'(by omega)).cap):=by rw[add_eq];exact h4
 rw[hc]at h5
 have h6:=h3 n (by omega) hn
 generalize rs[n]'(by omega)=r' at h5 h6
 obtain⟨p1,l1,c1⟩:=r
 obtain⟨p2,l2,c2⟩:=r'
 simp at h5
 obtain⟨rfl,rfl,rfl⟩:=h5
 exact h6
end
end Go.Vc
namespace Go.Vc
open Go
theorem mO {α:Type} {l:List α} (hn:l.Nodup) {a b:Nat} (ha:a<l.length) (hb:b<l.length) (h:l[a]=l[b]):a=b:=by
 have h1:=List.pairwise_iff_getElem.1 hn
 rcases Nat.lt_trichotomy a b with hlt|he|hgt
 ·exact absurd h (h1 a b ha hb hlt)
 ·exact he
 ·exact absurd h.symm (h1 b a hb ha hgt)
theorem aa.cS {B:ag} {h0 h:Heap} {As:List HP} (H:aa B h0 h As) (L:List Nat) (hl:∀j∈L,j<As.length:=by simp) (hn:L.Nodup:=by decide):aa B h0 h (L.map fun j=>As.getD j emp):=by
 refine H.pick (fun i=>if h:i<L.length then L[i]else As.length+i) (fun a b hab=>?_) fun i A2 hi=>?_
 ·try dsimp only at hab
  split at hab<;>split at hab
  ·exact mO hn _ _ hab
  ·have:=hl _ (List.getElem_mem (l:=L) (n:=a) (by assumption));omega
  ·have:=hl _ (List.getElem_mem (l:=L) (n:=b) (by assumption));omega
  ·omega
 ·try dsimp only
  rw[List.getElem?_map]at hi
  split
  ·rename_i hlt
   rw[List.getElem?_eq_getElem hlt]at hi
   have hlt2:=hl _ (List.getElem_mem hlt)
   simp only[Option.map_some,Option.some.injEq]at hi
   rw[←hi,List.getD_eq_getElem?_getD,List.getElem?_eq_getElem hlt2];rfl
  ·rename_i hlt
   rw[List.getElem?_eq_none (by omega)]at hi;simp at hi
end Go.Vc
namespace Go.Vc
open Go
theorem St.mk' {B:ag} {h0:Heap} {As:List HP} {Q:Heap→Prop} (x:∀h',aa B h0 h' As→Q h'):St B h0 As Q:=fun Bs h' H=>x h' (H.take Bs.length fun i A hi=>by
 rw[List.getElem?_append_right (by omega),Nat.add_sub_cancel_left];exact hi)
theorem St.mono {B:ag} {h0:Heap} {As:List HP} {Q Q':Heap→Prop} (x:St B h0 As Q) (hq:∀h,Q h→Q' h):St B h0 As Q':=fun Bs h' H=>hq _ (x Bs h' H)
theorem St.and {B:ag} {h0:Heap} {As:List HP} {Q Q':Heap→Prop} (x:St B h0 As Q) (y:St B h0 As Q'):St B h0 As fun h=>Q h∧Q' h:=fun Bs h' H=>⟨x Bs h' H,y Bs h' H⟩
end Go.Vc
namespace Go.Vc
open Go
theorem aa.bt {B:ag} {h0 h:Heap} {As:List HP} (H:aa B h0 h As) (k:Nat) (L:List Nat) (hk:k≤As.length:=by simp) (hl:∀j∈L,j<k:=by simp) (hn:L.Nodup:=by decide):aa B h0 h (L.map (fun j=>As.getD j emp)++As.drop k):=by
 refine H.pick (fun i=>if h:i<L.length then L[i]else k+(i-L.length)) (fun a b hab=>?_) fun i A2 hi=>?_
 ·try dsimp only at hab
  split at hab<;>split at hab
  ·exact mO hn _ _ hab
  ·have:=hl _ (List.getElem_mem (l:=L) (n:=a) (by assumption));omega
  ·have:=hl _ (List.getElem_mem (l:=L) (n:=b) (by assumption));omega
  ·omega
 ·try dsimp only
  by_cases hlt:i<L.length
  ·rw[dif_pos hlt]
   rw[List.getElem?_append_left (by simpa using hlt),List.getElem?_map,List.getElem?_eq_getElem hlt]at hi
   have hlt2:=hl _ (List.getElem_mem hlt)
   simp only[Option.map_some,Option.some.injEq]at hi
   rw[←hi,List.getD_eq_getElem?_getD,List.getElem?_eq_getElem (by omega)];rfl
  ·rw[dif_neg hlt]
   rw[List.getElem?_append_right (by simpa using hlt),List.length_map,List.getElem?_drop]at hi
   exact hi
end Go.Vc
namespace Go.Vc
open Go
section
variable {α β:Type} {E:gI α β} {C:Ctx} {k e t by_:Nat} {f:α→List Value} {B:ag} {h0 h h':Heap} {As:List HP} {q:ag} {s:Sl} {rs:List α} {ll:List β} {ti:TI} {z:List Value}
def Fix (E:gI α β) (k:Nat) (f:α→List Value) (h:Heap) (q:ag) (s:Sl) (rs:List α) (ll:List β):Prop:=Seq h q s k f rs∧rs.length=ll.length∧∀(i:Nat) r l,rs[i]?=some r→ll[i]?=some l→E.p h q r l
theorem Fix.ao (x:Fix E k f h q s rs ll) (hp:ar q h h'):Fix E k f h' q s rs ll:=⟨x.1.ao hp,x.2.1,fun i r l h1 h2=>E.loc (x.2.2 i r l h1 h2) hp⟩
theorem Fix.mono {q':ag} (x:Fix E k f h q s rs ll) (hq:∀b,q b→q' b):Fix E k f h q' s rs ll:=⟨x.1.mono hq,x.2.1,fun i r l h1 h2=>E.mono (x.2.2 i r l h1 h2) hq⟩
abbrev km (E:gI α β) (k:Nat) (f:α→List Value) (h:Heap) (s:Sl) (rs:List α) (ll:List β):Prop:=Fix E k f h (fun b=>b<h.size) s rs ll
theorem km.up (x:km E k f h s rs ll) (hp:ar (fun b=>b<h.size) h h'):km E k f h' s rs ll:=(Fix.ao x hp).mono fun _ hb=>Nat.lt_of_lt_of_le hb hp.1
theorem Fix.row (x:Fix E k f h q s rs ll) {i:Nat} (hi:i<ll.length):E.p h q (rs[i]'(by rw[x.2.1];exact hi)) ll[i]:=x.2.2 i _ _ (List.getElem?_eq_getElem _) (List.getElem?_eq_getElem _)
theorem ca.fix (x:(ca E k f).p h q s ll):∃rs,Fix E k f h q s rs ll:=x
theorem Fix.BZ (x:Fix E k f h q s rs ll):(ca E k f).p h q s ll:=⟨rs,x⟩
def fa (E:gI α β) (k:Nat) (f:α→List Value) (s:Sl) (rs:List α) (ll:List β):HP:=⟨fun h q=>Fix E k f h q s rs ll,fun x hp=>x.ao hp,fun x hq=>x.mono hq⟩
theorem aa.kn (H:aa B h0 h As) (i:Nat) (hi:As[i]?=some (fa E k f s rs ll)):km E k f h s rs ll:=H.at i hi
end
end Go.Vc
namespace Go.Vc
open Go
section
variable {α:Type} {C:Ctx} {B:ag} {h0 h:Heap} {As:List HP} {e t k:Nat} {s:Sl} {f:α→List Value} {l:List α} {i:TI}
theorem Own.yw (hC:C.Ok) (ho:Own h e s k f l) (hw:∀x,(f x).length=k) (hi:C.T.get t=some i) {x:Int} (n:Nat) (hx:x=n) (hn:n<l.length) (j:Nat) (vs:List Value) (hj:j+vs.length≤k) {val:Value} (y:α) (hv:val.cells=vs.toArray) (hsz:i.size=vs.length)
  (hone:vs.all (·.oneCell')=true) (hy:f y=(f l[n]).take j++vs++(f l[n]).drop (j+vs.length)) {K:Heap→Prop} (hk:∀h',Own h' e s k f (l.set n y)→ar (fun b=>¬s.on b) h h'→K h'):
  ∃a:Addr,(s.ptr=some a∧0≤x∧x<((s.len:Nat):Int))∧ab C.P (Instr.storeAt t (.pointer (some ((a.add (x.toNat*k)).add j))) val) h fun _ h'=>K h':=by
 subst hx
 rcases ho.head with⟨_,_,h3⟩|⟨b,rest,h1,h2,h3,h4⟩
 ·subst h3;simp at hn
 ·refine⟨_,⟨h1,by omega,by rw[ho.len];omega⟩,?_⟩
  unfold Instr.storeAt
  refine ab.bind (ab.pure' ?_)
  unfold storeVar
  refine ab.bind (ab.always (bx hC.toOk hi) ?_)
  rw[hv,hsz]
  simp only[List.size_toArray,ne_eq,not_true,if_false]
  rw[add_eq,add_eq,Nat.zero_add,Int.toNat_natCast]
  have hsplit:l=l.take n++l[n]::l.drop (n+1):=by rw[←List.drop_eq_getElem_cons hn,List.take_append_drop]
  have hset:l.set n y=l.take n++y::l.drop (n+1):=List.set_eq_take_append_cons_drop.trans (if_pos hn)
  have hpre:((l.take n).flatMap f).length=n*k:=by rw[bK hw,List.length_take,Nat.min_eq_left (by omega)]
  have hln:=hw l[n]
  have hcut:f l[n]=(f l[n]).take j++((f l[n]).drop j).take vs.length++(f l[n]).drop (j+vs.length):=by
   rw[List.append_assoc,←List.drop_drop,List.take_append_drop,List.take_append_drop]
  refine bD (e:=e) (pre:=(l.take n).flatMap f++(f l[n]).take j) (old:=((f l[n]).drop j).take vs.length) (post:=(f l[n]).drop (j+vs.length)++((l.drop (n+1)).flatMap f++rest)) ?_ ?_ ?_ ?_ ?_
  ·have:l.flatMap f++rest=(l.take n).flatMap f++(f l[n]).take j++((f l[n]).drop j).take vs.length++((f l[n]).drop (j+vs.length)++((l.drop (n+1)).flatMap f++rest)):=by
    have e1:=congrArg (List.flatMap f) hsplit
    rw[List.flatMap_append,List.flatMap_cons]at e1
    rw[e1]
    generalize f l[n]=z at hcut
    rw[List.append_assoc]at hcut
    simp only[List.append_assoc]
    congr 1
    conv=>lhs;rw[hcut]
    simp only[List.append_assoc]
   rw[←this];exact h2
  ·simp;omega
  ·rw[List.length_append,hpre,List.length_take];omega
  ·intro c hc
   exact List.all_eq_true.1 hone c hc
  ·refine hk _ ⟨by rw[List.length_set];exact ho.len,.inr ⟨b,rest,h1,?_,h3,h4⟩⟩ (ar.cV h2 (fun hh=>hh ⟨0,h1⟩))
   rw[cH h2,if_pos rfl,hset,List.flatMap_append,List.flatMap_cons,hy]
   simp[List.append_assoc]
theorem aa.yw (hC:C.Ok) (H:aa B h0 h As) (i':Nat) (hi':As[i']?=some (aq e s k f l)) (hw:∀x,(f x).length=k) (hi:C.T.get t=some i) {x:Int} (n:Nat) (hx:x=n) (hn:n<l.length) (j:Nat) (vs:List Value) (hj:j+vs.length≤k) {val:Value} (y:α) (hv:val.cells=vs.toArray) (hsz:i.size=vs.length)
  (hone:vs.all (·.oneCell')=true) (hy:f y=(f l[n]).take j++vs++(f l[n]).drop (j+vs.length)) {K:Heap→Prop} (hk:∀h',aa B h0 h' (As.set i' (aq e s k f (l.set n y)))→K h'):
  ∃a:Addr,(s.ptr=some a∧0≤x∧x<((s.len:Nat):Int))∧ab C.P (Instr.storeAt t (.pointer (some ((a.add (x.toNat*k)).add j))) val) h fun _ h'=>K h':=
 (H.own i' hi').yw hC hw hi n hx hn j vs hj y hv hsz hone hy fun h' z w=>hk h' (H.iq i' hi' w z)
end
end Go.Vc
namespace Go.Vc
open Go
def HP.all:List HP→HP
 |[]=>emp
 |A::L=>A.sep (HP.all L)
section
variable {B:ag} {h0 h h':Heap} {As L:List HP} {A D E:HP}
theorem aa.kZ:∀{L:List HP} {As:List HP},aa B h0 h (HP.all L::As)→aa B h0 h (L++As)
 |[],_,H=>H.rest
 |A::L,As,H=>by
  have H1:aa B h0 h (HP.all L::A::As):=H.px
  have H2:=aa.kZ H1
  exact H2.pick (fun i=>if i=0 then L.length else if i≤L.length then i-1 else i) (fun a b hab=>by(try dsimp only at hab);split at hab<;>split at hab<;>(try split at hab)<;>(try split at hab)<;>omega) fun i X hi=>by
   try dsimp only
   rw[List.cons_append]at hi
   cases i with
   |zero=>simp at hi;subst hi;rw[if_pos rfl,List.getElem?_append_right (Nat.le_refl _),Nat.sub_self];rfl
   |succ i=>
    rw[List.getElem?_cons_succ]at hi
    rw[if_neg (by omega)]
    by_cases hl:i<L.length
    ·rw[List.getElem?_append_left hl]at hi
     rw[if_pos (by omega),List.getElem?_append_left (by omega)];simpa using hi
    ·rw[List.getElem?_append_right (by omega)]at hi
     rw[if_neg (by omega),List.getElem?_append_right (by omega)]
     rw[show i+1-L.length=(i-L.length)+1 by omega,List.getElem?_cons_succ];exact hi
theorem aa.closeAll:∀(L:List HP) {As:List HP},aa B h0 h (L++As)→aa B h0 h (HP.all L::As)
 |[],As,H=>((H.comp (.one (A:=emp) (ar.refl _ _) trivial)).eP:aa B h0 h (emp::As))
 |A::L,As,H=>by
  have H1:aa B h0 h (L++(A::As)):=H.pick (fun i=>if i<L.length then i+1 else if i=L.length then 0 else i) (fun a b hab=>by(try dsimp only at hab);split at hab<;>split at hab<;>(try split at hab)<;>(try split at hab)<;>omega) fun i X hi=>by
   try dsimp only
   by_cases hl:i<L.length
   ·rw[List.getElem?_append_left hl]at hi
    rw[if_pos hl,List.cons_append,List.getElem?_cons_succ,List.getElem?_append_left hl];exact hi
   ·rw[List.getElem?_append_right (by omega)]at hi
    by_cases he:i=L.length
    ·subst he
     rw[Nat.sub_self]at hi
     rw[if_neg (by omega),if_pos rfl];simpa using hi
    ·rw[if_neg hl,if_neg he,List.cons_append]
     obtain⟨j,rfl⟩:∃j,i=L.length+(j+1):=⟨i-L.length-1,by omega⟩
     rw[Nat.add_sub_cancel_left,List.getElem?_cons_succ]at hi
     rw[show L.length+(j+1)=(L.length+j)+1 by omega,List.getElem?_cons_succ,List.getElem?_append_right (by omega),Nat.add_sub_cancel_left];exact hi
  exact(aa.closeAll L H1).js
theorem aa.oO {P:Prop} (H:aa B h0 h (A.and P::As)):aa B h0 h (A::As)∧P:=⟨H.Bv 0 rfl,H.fact 0 rfl⟩
theorem aa.tooO {P:Prop} (H:aa B h0 h (A::As)) (p:P):aa B h0 h (A.and P::As):=H.Bw 0 rfl p
end
def fv {α:Type} (e:TypeId) (s:Sl) (e2:TypeId) (k:Nat) (f:α→List Value) (ll:List (List α)):HP:=
 HP.ex fun rs:List Sl=>(HP.all (aq e s 1 cv rs::cq e2 k f rs ll)).and (rs.length=ll.length)
section
variable {α:Type} {C:Ctx} {B:ag} {h0 h h':Heap} {As:List HP} {e e2 k t by_:Nat} {s:Sl} {f:α→List Value} {ll:List (List α)}
theorem aa.py (H:aa B h0 h (fv e s e2 k f ll::As)):∃rs:List Sl,rs.length=ll.length∧aa B h0 h ((aq e s 1 cv rs::cq e2 k f rs ll)++As):=by
 obtain⟨rs,H⟩:=H.nQ
 obtain⟨H,hl⟩:=H.oO
 exact⟨rs,hl,H.kZ⟩
theorem aa.tv {rs:List Sl} (hl:rs.length=ll.length) (H:aa B h0 h ((aq e s 1 cv rs::cq e2 k f rs ll)++As)):aa B h0 h (fv e s e2 k f ll::As):=
 ((aa.closeAll _ H).tooO hl).pv (F:=fun rs:List Sl=>(HP.all (aq e s 1 cv rs::cq e2 k f rs ll)).and (rs.length=ll.length)) rs
theorem aa.qB (H:aa B h0 h As) (e e2 k:Nat) (f:α→List Value):aa B h0 h (fv e ⟨none,0,0⟩ e2 k f []::As):=
 aa.tv (rs:=[]) rfl ((H.nil e 1 cv).eP)
theorem aa.yx {Bs:List HP} (H:aa B h0 h (As++Bs)):aa B h0 h As:=H.pick id (fun _ _ h=>h) fun i A hi=>by
 rw[id,List.getElem?_append_left (List.getElem?_eq_some_iff.1 hi).1];exact hi
theorem aa.zB (H:aa B h0 h (fv e s e2 k f ll::As)) (hw:∀x,(f x).length=k):ey h s k f ll:=by
 obtain⟨rs,hl,H⟩:=H.py
 exact aa.zy (aa.yx H) hl hw
theorem aa.yy (H:aa B h0 h (fv e s e2 k f ll::As)):s.len=ll.length∧s.len≤s.cap:=by
 obtain⟨rs,hl,H⟩:=H.py
 exact⟨by rw[(H.own 0 rfl).len,hl],(H.own 0 rfl).cap⟩
theorem aa.sM (hC:C.Ok) {r:Sl} {x:List α} (H:aa B h0 h (fv e s e2 k f ll::aq e2 r k f x::As)) (he:bk C.tokX t e 1 [.slice none 0 0] 24) (hsz:ll.length+1≤2^32) {ty:Nat} {K:Sl→Heap→Prop}
  (hk:∀s' h',aa B h0 h' (fv e s' e2 k f (ll++[x])::As)→K s' h'):
  av C.P (Instr.buildSlice t 1 #[(0,.slice r.ptr r.len r.cap)]) (.one (.sc .slc)) h fun v h1=>av C.P (Builtin.append_ #[t,t] ty #[.slice s.ptr s.len s.cap,.slice v.ptr v.len v.cap]) (.one (.sc .slc)) h1 K:=by
 obtain⟨rs,hl,H⟩:=H.py
 refine H.push hC 0 rfl he rfl (by decide) (fun _=>rfl) tl r rfl (by decide) (by omega) fun s' h' H'=>hk s' h' ?_
 refine aa.tv (rs:=rs++[r]) (by simp[hl]) ?_
 rw[tq hl]
 have H':aa B h0 h' (aq e s' 1 cv (rs++[r])::(cq e2 k f rs ll++aq e2 r k f x::As)):=H'
 have e1:aq e s' 1 cv (rs++[r])::(cq e2 k f rs ll++[aq e2 r k f x])++As=aq e s' 1 cv (rs++[r])::(cq e2 k f rs ll++aq e2 r k f x::As):=by simp
 rw[e1];exact H'
end
end Go.Vc
namespace Gf
set_option maxRecDepth 100000
theorem yz {p:UInt8→Prop} (h:∀n,n<256→p (UInt8.ofNat n)) (a:UInt8):p a:=by
 have:=h a.toNat (UInt8.toNat_lt a)
 rwa [UInt8.ofNat_toNat]at this
def x2 (a:UInt8):UInt8:=(a<<<1)^^^(if a&&&0x80=0 then 0 else 0x1b)
def x3 (a:UInt8):UInt8:=x2 a^^^a
def pw:Nat→UInt8
 |0=>1
 |n+1=>x3 (pw n)
theorem z8 (a b c:UInt8):(a^^^b)&&&c=(a&&&c)^^^(b&&&c):=by
 apply UInt8.toBitVec_inj.1
 simp[UInt8.toBitVec_xor,UInt8.toBitVec_and]
 ext i hi
 simp[Bool.and_xor_distrib_right]
theorem Aa (a b:UInt8):(a^^^b)<<<1=(a<<<1)^^^(b<<<1):=by
 apply UInt8.toBitVec_inj.1
 simp[UInt8.toBitVec_xor,UInt8.toBitVec_shiftLeft,BitVec.shiftLeft_xor_distrib]
theorem tw:∀a:UInt8,a&&&0x80=0∨a&&&0x80=0x80:=yz (by decide+kernel)
theorem yA (a b c d:UInt8):(a^^^b)^^^(c^^^d)=(a^^^c)^^^(b^^^d):=by ac_rfl
theorem AN (a b:UInt8):x2 (a^^^b)=x2 a^^^x2 b:=by
 unfold x2
 rw[z8,Aa]
 rcases tw a with ha|ha<;>rcases tw b with hb|hb<;>rw[ha,hb]
 ·simp
 ·simp[UInt8.xor_assoc]
 ·rw[yA];simp
 ·rw[yA];simp
theorem AO (a b:UInt8):x3 (a^^^b)=x3 a^^^x3 b:=by unfold x3;rw[AN,yA]
def jP:Nat→UInt8→UInt8
 |0,a=>a
 |n+1,a=>x3 (jP n a)
theorem vB (a b:UInt8):∀n,jP n (a^^^b)=jP n a^^^jP n b
 |0=>rfl
 |n+1=>by simp only[jP,vB a b n,AO]
theorem qC (a:UInt8) (m:Nat):∀n,jP (n+m) a=jP n (jP m a)
 |0=>by simp[jP]
 |n+1=>by rw[Nat.add_right_comm];simp only[jP,qC a m n]
theorem tz:∀n,jP n 0=0
 |0=>rfl
 |n+1=>by rw[jP,tz n];rfl
theorem k0:∀n,pw n=jP n 1
 |0=>rfl
 |n+1=>by rw[pw,jP,k0 n]
def BS:Nat:=939374623831894136699086600277250597547650664638770418422125146541797353646788332867483593573384618611044815625336497665827114626705134492515730415652478061620339993830966980270842846318821775850471098591710629241171812800746666233448222972174585295916389942636813666312872914849454985560152530477328703759683306625234997237483834721220409437442253146756845415190424543171129629468776480674528486868811725071010351012234056630775688111116293610821126543142160426617079940511630006820862697466582575257349116925728488930366609138264019883664906661504235885380294353134295748489096855100647154935187045898006656778240
def lg (a:UInt8):Nat:=(BS>>>(8*a.toNat))%256
theorem Bx:∀a:UInt8,lg a<255:=yz (by decide+kernel)
theorem zC:∀a:UInt8,a≠0→pw (lg a)=a:=yz (by decide+kernel)
theorem zD:∀n,n<255→lg (pw n)=n:=by decide+kernel
theorem AP:pw 255=1:=by decide+kernel
theorem zE:∀n,n<255→pw n≠0:=by decide+kernel
theorem xb (n:Nat):pw (n+255)=pw n:=by
 rw[k0,qC,←k0 255,AP,←k0]
theorem xc (n:Nat):pw (n%255)=pw n:=by
 have:∀k m,pw (m+255*k)=pw m:=by
  intro k
  induction k with
  |zero=>intro m;rfl
  |succ k ih=>intro m;rw[Nat.mul_succ,←Nat.add_assoc,xb,ih]
 have h:=this (n/255) (n%255)
 rw[Nat.mod_add_div]at h
 exact h.symm
def mul (a b:UInt8):UInt8:=if a=0∨b=0 then 0 else pw ((lg a+lg b)%255)
def inv (a:UInt8):UInt8:=if a=0 then 0 else pw ((255-lg a)%255)
theorem mul_zero (a:UInt8):mul a 0=0:=by simp[mul]
theorem zero_mul (a:UInt8):mul 0 a=0:=by simp[mul]
theorem mul_comm (a b:UInt8):mul a b=mul b a:=by
 unfold mul
 rw[Nat.add_comm]
 by_cases h:a=0∨b=0
 ·rw[if_pos h,if_pos h.symm]
 ·rw[if_neg h,if_neg fun x=>h x.symm]
theorem tC (a b:UInt8) (ha:a≠0):mul a b=jP (lg a) b:=by
 by_cases hb:b=0
 ·subst hb;rw[mul_zero,tz]
 ·rw[mul,if_neg (by simp[ha,hb]),xc,k0,qC,←k0,zC b hb]
theorem jE (a b c:UInt8):mul a (b^^^c)=mul a b^^^mul a c:=by
 by_cases ha:a=0
 ·subst ha;simp[zero_mul]
 ·rw[tC _ _ ha,tC _ _ ha,tC _ _ ha,vB]
theorem vC (a b c:UInt8):mul (a^^^b) c=mul a c^^^mul b c:=by rw[mul_comm,jE,mul_comm c a,mul_comm c b]
theorem xd {a b:UInt8} (ha:a≠0) (hb:b≠0):mul a b≠0:=by
 rw[mul,if_neg (by simp[ha,hb])]
 exact zE _ (Nat.mod_lt _ (by decide))
theorem xe {a b:UInt8} (ha:a≠0) (hb:b≠0):lg (mul a b)=(lg a+lg b)%255:=by
 rw[mul,if_neg (by simp[ha,hb]),zD _ (Nat.mod_lt _ (by decide))]
theorem mul_assoc (a b c:UInt8):mul (mul a b) c=mul a (mul b c):=by
 by_cases ha:a=0
 ·subst ha;simp[zero_mul]
 by_cases hb:b=0
 ·subst hb;simp[zero_mul,mul_zero]
 by_cases hc:c=0
 ·subst hc;simp[mul_zero]
 rw[mul,if_neg (by simp[xd ha hb,hc]),xe ha hb,mul,if_neg (by simp[ha,xd hb hc]),xe hb hc]
 congr 1
 omega
theorem AQ:lg 1=0:=by decide+kernel
theorem one_mul (a:UInt8):mul 1 a=a:=by
 by_cases ha:a=0
 ·subst ha;rfl
 ·rw[mul,if_neg (by simp[ha]),AQ,Nat.zero_add,xc,zC a ha]
theorem mul_one (a:UInt8):mul a 1=a:=by rw[mul_comm,one_mul]
theorem AR {a:UInt8} (ha:a≠0):inv a≠0:=by
 rw[inv,if_neg ha];exact zE _ (Nat.mod_lt _ (by decide))
theorem qD {a:UInt8} (ha:a≠0):mul a (inv a)=1:=by
 have hl:=Bx a
 rw[mul,if_neg (by simp[ha,AR ha]),inv,if_neg ha,zD _ (Nat.mod_lt _ (by decide))]
 have:(lg a+(255-lg a)%255)%255=0:=by omega
 rw[this];rfl
end Gf
