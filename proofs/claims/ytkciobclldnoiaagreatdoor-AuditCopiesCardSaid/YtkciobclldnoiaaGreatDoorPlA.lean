/- Part of the proofs that the laws of this seat answer true whatever the input reads, and leave it as it was; no condition. -/
import Derived.Test.YtkciobclldnoiaaGreatDoorVcA
set_option linter.unusedVariables false
set_option linter.unusedSimpArgs false
namespace Go.Vc
open Go
section
variable {A B:Prop}
theorem ah {p:Prop} [Decidable p] (h1:p→A) (h2:¬p→B):Br (decide p) A B:=by
 by_cases h:p
 ·rw[decide_eq_true h];exact h1 h
 ·rw[decide_eq_false h];exact h2 h
theorem cM {a b:Int} (h1:a=b→A) (h2:a≠b→B):Br (a==b) A B:=by
 by_cases h:a=b
 ·rw[beq_iff_eq.2 h];exact h1 h
 ·rw[beq_eq_false_iff_ne.2 h];exact h2 h
theorem cI {a b:Int} (h1:a≠b→A) (h2:a=b→B):Br (a !=b) A B:=by
 by_cases h:a=b
 ·rw[show(a !=b)=false by simp[h]];exact h2 h
 ·rw[show(a !=b)=true by simp[h]];exact h1 h
theorem bH {b:Bool} (h1:b=true→A) (h2:b=false→B):Br b A B:=by
 cases b
 ·exact h2 rfl
 ·exact h1 rfl
theorem aW {b:Bool} (h1:b=false→A) (h2:b=true→B):Br (!b) A B:=by
 cases b
 ·exact h1 rfl
 ·exact h2 rfl
theorem yR {b:Bool} (h:b=true) (h1:A):Br b A B:=by subst h;exact h1
theorem nS {b:Bool} (h:b=false) (h1:B):Br b A B:=by subst h;exact h1
end
theorem aS {σ:Type} {rest:σ→Heap→Prop} {B:(σ→Heap→Prop)→Prop} (h:B rest):ba rest B:=⟨rest,fun _ _ x=>x,h⟩
theorem dt {σ:Type} {rest:σ→Heap→Prop} {B:(σ→Heap→Prop)→Prop} (R:σ→Heap→Prop) (h1:B R) (h2:∀s h,R s h→rest s h):ba rest B:=⟨R,h2,h1⟩
theorem au {σ:Type} {B:σ→(σ→Heap→Prop)→Heap→Prop} {s:σ} {h:Heap} {τ:Type} (V:τ→σ) (I:τ→Heap→Prop) (μ:τ→Nat) (t0:τ) (hs:s=V t0) (h0:I t0 h)
  (hr:∀t h,I t h→B (V t) (fun s' h'=>∃t',s'=V t'∧I t' h'∧μ t'<μ t) h):aH B s h:=⟨τ,V,I,μ,t0,hs,h0,hr⟩
end Go.Vc
namespace Go.Vc
open Go
abbrev aj:=Nat→Prop
def aD (p:aj) (h h':Heap):Prop:=h.size≤h'.size∧∀b,b<h.size→p b→h'[b]?=h[b]?
def Sl.on (s:Sl) (b:Nat):Prop:=∃o,s.ptr=some ⟨b,o,none⟩
section
variable {p q:aj} {h h' h'':Heap}
theorem aD.refl (p:aj) (h:Heap):aD p h h:=⟨Nat.le_refl _,fun _ _ _=>rfl⟩
theorem aD.trans (a:aD p h h') (b:aD p h' h''):aD p h h'':=⟨Nat.le_trans a.1 b.1,fun k hk hp=>(b.2 k (Nat.lt_of_lt_of_le hk a.1) hp).trans (a.2 k hk hp)⟩
theorem aD.then (a:aD p h h') (b:aD q h' h'') (hq:∀k,k<h.size→p k→q k):aD p h h'':=⟨Nat.le_trans a.1 b.1,fun k hk hp=>(b.2 k (Nat.lt_of_lt_of_le hk a.1) (hq k hk hp)).trans (a.2 k hk hp)⟩
theorem aD.mono (a:aD p h h') (hq:∀b,b<h.size→q b→p b):aD q h h':=⟨a.1,fun k hk hp=>a.2 k hk (hq k hk hp)⟩
theorem aD.push (p:aj) (h:Heap) (o:Obj):aD p h (h.push o):=⟨by simp,fun b hb _=>by rw[Array.getElem?_push,if_neg (by omega)]⟩
theorem aD.py {a:Addr} {v:Value} (hp:¬p a.block):aD p h (py h a v):=⟨by simp[Go.Vc.py],fun b _ hq=>by
 simp only[Go.Vc.py,Array.getElem?_modify]
 rw[if_neg (fun e=>hp (by rw[e];exact hq))]⟩
theorem kP {a:Addr} {v:Value} (hc:cellOf h a=some v):a.block<h.size:=by
 unfold cellOf at hc
 cases hb:h[a.block]? with
 |none=>rw[hb]at hc;cases hc
 |some o=>exact(Array.getElem?_eq_some_iff.1 hb).1
theorem lt_of_block {b:Nat} {o:Obj} (hb:h[b]?=some o):b<h.size:=(Array.getElem?_eq_some_iff.1 hb).1
theorem aD.cell (a:aD p h h') {x:Addr} {v:Value} (hp:p x.block) (hc:cellOf h x=some v):cellOf h' x=some v:=by
 have:=a.2 _ (kP hc) hp
 unfold cellOf at*
 rw[this];exact hc
theorem aD.block (a:aD p h h') {b:Nat} {o:Obj} (hp:p b) (hb:h[b]?=some o):h'[b]?=some o:=by rw[a.2 b (lt_of_block hb) hp];exact hb
theorem aD.cells (a:aD p h h') {x:Addr} (hp:p x.block):∀{vs:List Value} {i:Nat},ak h x i vs→ak h' x i vs
 |[],_,_=>trivial
 |v::r,i,hc=>⟨a.cell (by unfold Addr.add;split<;>exact hp) hc.1,aD.cells a hp hc.2⟩
end
theorem add_eq (b o n:Nat):(⟨b,o,none⟩:Addr).add n=⟨b,o+n,none⟩:=by
 unfold Addr.add
 split
 ·rename_i h;subst h;rfl
 ·rfl
theorem add_zero (a:Addr):a.add 0=a:=rfl
theorem nT {h:Heap} {b o:Nat} {c:Array Value} {e:TypeId} {f:Nat×Nat} (hb:h[b]?=some (.cells c e f)):cellOf h ⟨b,o,none⟩=c[o]?:=by
 unfold cellOf;rw[hb];rfl
theorem E4 {h:Heap} {b o:Nat} {c:Array Value} {e:TypeId} (hb:h[b]?=some (.cells c e (0,0))):Cn h ⟨b,o,none⟩=false:=by
 unfold Cn;rw[hb];simp
structure Seq {α:Type} (h:Heap) (p:aj) (s:Sl) (k:Nat) (f:α→List Value) (l:List α):Prop where
 len:s.len=l.length
 elem:∀i x,l[i]?=some x→∃b o,s.ptr=some ⟨b,o,none⟩∧p b∧ak h ⟨b,o+i*k,none⟩ 0 (f x)
section
variable {α:Type} {h h':Heap} {p q:aj} {s:Sl} {k:Nat} {f:α→List Value} {l:List α}
theorem Seq.ai (hs:Seq h p s k f l) (hp:aD p h h'):Seq h' p s k f l:=⟨hs.len,fun i x hx=>by
 obtain⟨b,o,h1,h2,h3⟩:=hs.elem i x hx
 exact⟨b,o,h1,h2,hp.cells h2 h3⟩⟩
theorem Seq.mono (hs:Seq h p s k f l) (hp:∀b,p b→q b):Seq h q s k f l:=⟨hs.len,fun i x hx=>by
 obtain⟨b,o,h1,h2,h3⟩:=hs.elem i x hx
 exact⟨b,o,h1,hp b h2,h3⟩⟩
theorem Seq.nil (h:Heap) (p:aj) (c:Nat) (pt:Option Addr) (k:Nat) (f:α→List Value):Seq h p ⟨pt,0,c⟩ k f []:=⟨rfl,fun i x hx=>by simp at hx⟩
theorem Seq.bT {X:Type} {g:X→Value} (hs:Seq h p s 1 f l) {i:Int} (n:Nat) (hi:i=n) (hn:n<l.length) (x:X) (hx:f l[n]=[g x]) {K:X→Prop} (hk:K x):
  ∃a:Addr,(s.ptr=some a∧0≤i∧i<((s.len:Nat):Int))∧∃x:X,cellOf h (a.add (i.toNat*1))=some (g x)∧K x:=by
 subst hi
 obtain⟨b,o,h1,_,h3⟩:=hs.elem n l[n] (List.getElem?_eq_getElem hn)
 refine⟨_,⟨h1,by omega,by rw[hs.len];omega⟩,x,?_,hk⟩
 rw[hx]at h3
 have:=h3.1
 rw[add_eq,Nat.add_zero]at this
 rw[add_eq];simpa using this
theorem Seq.fT {X:Type} {g:X→List Value} (hs:Seq h p s k f l) {i:Int} (n:Nat) (hi:i=n) (hn:n<l.length) (x:X) (hx:f l[n]=g x) {K:X→Prop} (hk:K x):
  ∃a:Addr,(s.ptr=some a∧0≤i∧i<((s.len:Nat):Int))∧∃x:X,ak h (a.add (i.toNat*k)) 0 (g x)∧K x:=by
 subst hi
 obtain⟨b,o,h1,_,h3⟩:=hs.elem n l[n] (List.getElem?_eq_getElem hn)
 refine⟨_,⟨h1,by omega,by rw[hs.len];omega⟩,x,?_,hk⟩
 rw[add_eq]
 rw[hx]at h3
 simpa using h3
end
def aC (n:Int):List Value:=[.int .i64 n]
def az (n:UInt8):List Value:=[.int .u8 n.toNat]
def bg (s:Sl):List Value:=[.slice s.ptr s.len s.cap]
structure gy {α:Type} (h:Heap) (p:aj) (s:Sl) (k:Nat) (f:α→List Value) (ll:List (List α)) (rs:List Sl):Prop where
 top:Seq h p s 1 bg rs
 len:rs.length=ll.length
 row:∀(i:Nat) (r:Sl) (l:List α),rs[i]?=some r→ll[i]?=some l→Seq h p r k f l
section
variable {α:Type} {h h':Heap} {p q:aj} {s:Sl} {k:Nat} {f:α→List Value} {ll:List (List α)} {rs:List Sl}
theorem gy.ai (hs:gy h p s k f ll rs) (hp:aD p h h'):gy h' p s k f ll rs:=⟨hs.top.ai hp,hs.len,fun i r l h1 h2=>(hs.row i r l h1 h2).ai hp⟩
theorem gy.mono (hs:gy h p s k f ll rs) (hp:∀b,p b→q b):gy h q s k f ll rs:=⟨hs.top.mono hp,hs.len,fun i r l h1 h2=>(hs.row i r l h1 h2).mono hp⟩
theorem gy.Iq (hs:gy h p s k f ll rs):s.len=ll.length:=by rw[hs.top.len,hs.len]
theorem gy.get (hs:gy h p s k f ll rs) {i:Int} (n:Nat) (hi:i=n) (hn:n<ll.length) {K:Sl→Prop} (hk:∀r,Seq h p r k f ll[n]→rs[n]?=some r→K r):
  ∃a:Addr,(s.ptr=some a∧0≤i∧i<((s.len:Nat):Int))∧∃x:Sl,cellOf h (a.add (i.toNat*1))=some (.slice x.ptr x.len x.cap)∧K x:=by
 have hn':n<rs.length:=by rw[hs.len];exact hn
 have h1:rs[n]?=some rs[n]:=List.getElem?_eq_getElem hn'
 exact hs.top.bT n hi hn' rs[n] rfl (hk _ (hs.row n _ _ h1 (List.getElem?_eq_getElem hn)) h1)
end
structure Own {α:Type} (h:Heap) (e:TypeId) (s:Sl) (k:Nat) (f:α→List Value) (l:List α):Prop where
 len:s.len=l.length
 head:(s.ptr=none∧s.cap=0∧l=[])∨∃b rest,s.ptr=some ⟨b,0,none⟩∧h[b]?=some (.cells (l.flatMap f++rest).toArray e (0,0))∧rest.length=(s.cap-s.len)*k∧s.len≤s.cap
theorem ck {α:Type} {k:Nat} {f:α→List Value} (hw:∀x,(f x).length=k):∀(l:List α),(l.flatMap f).length=l.length*k
 |[]=>by simp
 |x::r=>by rw[List.flatMap_cons,List.length_append,hw,ck hw r,List.length_cons,Nat.succ_mul];omega
theorem yS {α:Type} {k:Nat} {f:α→List Value} (hw:∀x,(f x).length=k):∀(l:List α) (i:Nat) (x:α),l[i]?=some x→∃pre post,l.flatMap f=pre++f x++post∧pre.length=i*k
 |y::r,0,x,h=>by simp at h;subst h;exact⟨[],r.flatMap f,by simp,by simp⟩
 |y::r,i+1,x,h=>by
  obtain⟨pre,post,h1,h2⟩:=yS hw r i x (by simpa using h)
  exact⟨f y++pre,post,by simp[h1],by rw[List.length_append,hw,h2,Nat.succ_mul];omega⟩
theorem mK {h:Heap} {b o:Nat} {e:TypeId} {fr:Nat×Nat}:∀{vs pre post:List Value} {i:Nat},h[b]?=some (.cells (pre++vs++post).toArray e fr)→pre.length=o+i→ak h ⟨b,o,none⟩ i vs
 |[],_,_,_,_,_=>trivial
 |v::r,pre,post,i,hb,hl=>by
  refine⟨?_,mK (pre:=pre++[v]) (post:=post) (by simpa using hb) (by simp;omega)⟩
  rw[add_eq,nT hb,←hl]
  simp
def dI (h:Heap) (b:Nat) (o:Obj):Heap:=h.setIfInBounds b o
theorem di {h:Heap} {b c:Nat} {o x:Obj} (hb:h[b]?=some x):(dI h b o)[c]?=if b=c then some o else h[c]?:=by
 unfold dI
 rw[Array.getElem?_setIfInBounds]
 split
 ·rename_i e;subst e;rw[if_pos (lt_of_block hb)]
 ·rfl
theorem Dv {h:Heap} {b o:Nat} {c:Array Value} {e:TypeId} {f:Nat×Nat} {v:Value} (hb:h[b]?=some (.cells c e f)):py h ⟨b,o,none⟩ v=dI h b (.cells (c.setIfInBounds o v) e f):=by
 apply Array.ext_getElem?
 intro i
 rw[di hb]
 simp only[py,Array.getElem?_modify]
 split
 ·rename_i hi;subst hi;rw[hb];rfl
 ·rfl
theorem Dw (h:Heap) (b:Nat) (o o':Obj):dI (dI h b o) b o'=dI h b o':=by
 unfold dI;simp
theorem aD.dI {p:aj} {h:Heap} {b:Nat} {o x:Obj} (hb:h[b]?=some x) (hp:¬p b):aD p h (dI h b o):=⟨by simp[Go.Vc.dI],fun c _ hq=>by
 rw[di hb,if_neg (fun e=>hp (by rw[e];exact hq))]⟩
theorem bV {P:Program} {b o:Nat} {e:TypeId} {K:Unit→Heap→Prop}:∀{vs pre old post:List Value} {i:Nat} {h:Heap},h[b]?=some (.cells (pre++old++post).toArray e (0,0))→old.length=vs.length→pre.length=o+i→
  (∀v∈vs,v.oneCell'=true)→K () (dI h b (.cells (pre++vs++post).toArray e (0,0)))→ab P (storeCells ⟨b,o,none⟩ vs i) h K
 |[],pre,old,post,i,h,hb,hl,hp,hv,hk=>by
  have:old=[]:=List.eq_nil_of_length_eq_zero (by simpa using hl)
  subst this
  refine ab.pure' ?_
  have e1:dI h b (.cells (pre++[]++post).toArray e (0,0))=h:=by
   apply Array.ext_getElem?
   intro c
   rw[di hb]
   split
   ·rename_i hc;subst hc;exact hb.symm
   ·rfl
  rw[e1]at hk;exact hk
 |v::r,pre,old,post,i,h,hb,hl,hp,hv,hk=>by
  cases old with
  |nil=>simp at hl
  |cons u old=>
   simp only[storeCells]
   refine ab.bind ?_
   rw[add_eq]
   have hc:cellOf h ⟨b,o+i,none⟩=some u:=by rw[nT hb,←hp];simp
   refine ab.G7 (hv v (by simp)) hc (E4 hb) ?_
   rw[Dv hb]
   have hset:(pre++(u::old)++post).toArray.setIfInBounds (o+i) v=((pre++[v])++old++post).toArray:=by
    rw[←hp]
    apply Array.ext'
    simp
   rw[hset]
   refine bV (e:=e) (pre:=pre++[v]) (old:=old) (post:=post) ?_ (by simpa using hl) (by simp;omega) (fun x hx=>hv x (by simp[hx])) ?_
   ·rw[di hb,if_pos rfl]
   ·rw[Dw];simpa using hk
theorem vE {P:Program} {h:Heap} {a:Addr} {vs:List Value} {n:Nat} {K:Array Value→Heap→Prop} (hn:vs.length=n) (hc:ak h a 0 vs) (hk:K vs.toArray h):ab P (loadCells a n) h K:=fun w hw=>by
 subst hw
 refine⟨vs.toArray,w,?_,bK.refl w,hk⟩
 have:=run_loadCells (P:=P) (w:=w) (a:=a) vs 0 #[] hc
 rw[hn]at this
 unfold loadCells
 rw[this];simp
section
variable {α:Type} {h h':Heap} {p:aj} {e:TypeId} {s:Sl} {k:Nat} {f:α→List Value} {l:List α}
theorem Own.lt (ho:Own h e s k f l) {b:Nat} (hb:s.on b):b<h.size:=by
 rcases ho.head with⟨h1,_,_⟩|⟨b',rest,h1,h2,_,_⟩
 ·obtain⟨o,h0⟩:=hb;rw[h1]at h0;cases h0
 ·obtain⟨o,h0⟩:=hb
  rw[h1]at h0
  cases h0
  exact lt_of_block h2
theorem Own.ai (ho:Own h e s k f l) (hp:aD p h h') (hon:∀b,s.on b→p b):Own h' e s k f l:=⟨ho.len,by
 rcases ho.head with h1|⟨b,rest,h1,h2,h3,h4⟩
 ·exact .inl h1
 ·exact .inr ⟨b,rest,h1,hp.block (hon b ⟨0,h1⟩) h2,h3,h4⟩⟩
theorem Own.seq (ho:Own h e s k f l) (hw:∀x,(f x).length=k) (hon:∀b,s.on b→p b):Seq h p s k f l:=⟨ho.len,fun i x hx=>by
 rcases ho.head with⟨_,_,h1⟩|⟨b,rest,h1,h2,h3,h4⟩
 ·subst h1;simp at hx
 ·obtain⟨pre,post,g1,g2⟩:=yS hw l i x hx
  refine⟨b,0,h1,hon b ⟨0,h1⟩,mK (e:=e) (fr:=(0,0)) (pre:=pre) (post:=post++rest) ?_ (by omega)⟩
  rw[h2,g1];simp⟩
theorem Own.nil (h:Heap) (e:TypeId) (k:Nat) (f:α→List Value):Own h e ⟨none,0,0⟩ k f []:=⟨rfl,.inl ⟨rfl,rfl,rfl⟩⟩
theorem Own.cap (ho:Own h e s k f l):s.len≤s.cap:=by
 rcases ho.head with⟨h1,h2,h3⟩|⟨b,rest,h1,h2,h3,h4⟩
 ·have:=ho.len;rw[h3]at this;simp at this;omega
 ·exact h4
end
end Go.Vc
namespace Go.Vc
open Go
theorem ab.always {α:Type} {P:Program} {s:Sem α} {v:α} {h:Heap} {K:α→Heap→Prop} (ha:ao P s v) (hk:K v h):ab P s h K:=fun w hw=>⟨v,w,ha w,bK.refl w,by rw[hw];exact hk⟩
structure bt (C:mV) (t e k:Nat) (z:List Value) (by_:Nat):Prop where
 ex:∃i j,C.T.get t=some i∧i.bE=.slice e∧C.T.get e=some j∧j.size=k∧j.zero=z∧j.bytes=by_
section
variable {C:Ctx} {t e k:Nat} {z:List Value} {by_:Nat}
theorem bt.under (he:bt C.tomV t e k z by_) (hC:C.Ok):C.P.underlying t=some (.slice e):=by
 obtain⟨i,j,h1,h2,_⟩:=he.ex
 have:=hC.bE h1
 rw[h2]at this
 exact fq this
theorem bt.size (he:bt C.tomV t e k z by_) (hC:C.Ok):ao C.P (sizeOf e) k:=by
 obtain⟨i,j,_,_,h1,h2,_⟩:=he.ex
 rw[←h2];exact bM hC.toOk h1
theorem bt.info (he:bt C.tomV t e k z by_) (hC:C.Ok):∃f,C.P.info? e=some f∧f.size=k∧f.bytes=by_∧∃zv,f.zero=some zv∧zv.cells=z.toArray:=by
 obtain⟨i,j,_,_,h1,h2,h3,h4⟩:=he.ex
 obtain⟨f,g1,g2,g3,zv,g4,g5⟩:=hC.info h1
 exact⟨f,g1,g2.trans h2,g3.trans h4,zv,g4,by apply Array.ext';rw[g5,h3]⟩
end
def dX (z:List Value):Nat→List Value
 |0=>[]
 |n+1=>z++dX z n
theorem iQ (z:List Value):∀n,(dX z n).length=n*z.length
 |0=>by simp[dX]
 |n+1=>by rw[dX,List.length_append,iQ z n,Nat.succ_mul];omega
theorem yT (z:List Value):∀(n i:Nat),i<n*z.length→(dX z n)[i]?=z[i%z.length]?
 |0,i,h=>by simp at h
 |n+1,i,h=>by
  have hpos:0<z.length:=Nat.pos_of_ne_zero fun e=>by rw[e]at h;simp at h
  rw[dX]
  by_cases hi:i<z.length
  ·rw[List.getElem?_append_left hi,Nat.mod_eq_of_lt hi]
  ·rw[List.getElem?_append_right (by omega),yT z n (i-z.length) (by rw[Nat.succ_mul]at h;omega)]
   congr 1
   conv=>rhs;rw[show i=(i-z.length)+z.length by omega,Nat.add_mod_right]
theorem yU (z:List Value) (n m:Nat) (hm:m=n*z.length):((Array.range m).map (fun i=>z.toArray[i%z.toArray.size]!))=(dX z n).toArray:=by
 apply Array.ext_getElem?
 intro i
 subst hm
 simp only[Array.getElem?_map,Array.getElem?_range,List.getElem?_toArray]
 by_cases hi:i<n*z.length
 ·rw[yT z n i hi]
  have hpos:0<z.length:=Nat.pos_of_ne_zero fun e=>by rw[e]at hi;simp at hi
  have:=Nat.mod_lt i hpos
  simp[hi,this]
 ·rw[List.getElem?_eq_none (by rw[iQ];omega)]
  simp[hi]
theorem pH (z:List Value) (n:Nat):Builtin.zeroCells z.toArray n=(dX z n).toArray:=yU z n _ (by simp)
theorem BX (newLen:Nat):∀(r c:Nat),Builtin.growBy newLen r c≤(c+768)*2^r
 |0,c=>by simp[Builtin.growBy]
 |r+1,c=>by
  unfold Builtin.growBy
  split
  ·exact Nat.le_trans (Nat.le_add_right c 768) (Nat.le_mul_of_pos_right _ (Nat.two_pow_pos _))
  ·refine Nat.le_trans (BX newLen r _) ?_
   rw[Nat.pow_succ,Nat.mul_comm (2^r) 2,←Nat.mul_assoc]
   exact Nat.mul_le_mul_right _ (by omega)
theorem HT (o n:Nat) (h:o<n):(o+768)*2^4≤16*n+16*768:=by omega
theorem BY (newLen oldCap:Nat) (h:oldCap<newLen):Builtin.nextslicecap newLen oldCap≤16*newLen+16*768:=by
 unfold Builtin.nextslicecap
 split
 ·omega
 ·split
  ·omega
  ·exact Nat.le_trans (BX newLen 4 oldCap) (HT _ _ h)
section
variable {C:Ctx} {t t2 e k:Nat} {z:List Value} {by_:Nat} {α:Type} {h:Heap} {p:aj} {s v:Sl} {f:α→List Value} {l l2:List α}
theorem dj {P:Program} {K:Array Value→Heap→Prop} (hw:∀x,(f x).length=k) (hv:Seq h p v k f l) (hk:K (l.flatMap f).toArray h):
  ab P (Builtin.firstCells k v.len (.slice v.ptr v.len v.cap)) h K:=by
 cases hp:v.ptr with
 |none=>
  have:l=[]:=by
   cases l with
   |nil=>rfl
   |cons x r=>obtain⟨b,o,h1,_⟩:=hv.elem 0 x (by simp);rw[hp]at h1;cases h1
  subst this
  exact ab.pure' hk
 |some a=>
  refine vE (by rw[ck hw,←hv.len]) ?_ hk
  cases l with
  |nil=>trivial
  |cons x0 r0=>
   obtain⟨b,o,h1,_,_⟩:=hv.elem 0 x0 (by simp)
   rw[hp]at h1
   cases h1
   have key:∀(r:List α) (n:Nat),(∀i x,r[i]?=some x→ak h ⟨b,o+(n+i)*k,none⟩ 0 (f x))→ak h ⟨b,o,none⟩ (n*k) (r.flatMap f):=by
    intro r
    induction r with
    |nil=>intro n _;trivial
    |cons x r ih=>
     intro n hr
     have h0:=hr 0 x (by simp)
     have h2:=ih (n+1) (fun i y hy=>by have:=hr (i+1) y (by simpa using hy);rw[show n+1+i=n+(i+1)by omega];exact this)
     rw[List.flatMap_cons]
     have app:∀(us vs:List Value) (i:Nat),ak h ⟨b,o,none⟩ i us→ak h ⟨b,o,none⟩ (i+us.length) vs→ak h ⟨b,o,none⟩ i (us++vs):=by
      intro us
      induction us with
      |nil=>intro vs i _ h2;simpa using h2
      |cons u us ih=>intro vs i h1 h2;exact⟨h1.1,ih vs (i+1) h1.2 (by rw[show i+1+us.length=i+(us.length+1)by omega];exact h2)⟩
     refine app _ _ _ ?_ (by rw[hw,←Nat.succ_mul];exact h2)
     have shift:∀(us:List Value) (i m:Nat),ak h ⟨b,o+m,none⟩ i us→ak h ⟨b,o,none⟩ (m+i) us:=by
      intro us
      induction us with
      |nil=>intros;trivial
      |cons u us ih=>
       intro i m h1
       refine⟨?_,ih (i+1) m h1.2⟩
       have:=h1.1
       rw[add_eq]at this⊢
       rw[←Nat.add_assoc];exact this
     have:=shift (f x) 0 ((n+0)*k) h0
     simpa using this
   have:=key (x0::r0) 0 (fun i x hx=>by
    obtain⟨b',o',h1,_,h3⟩:=hv.elem i x hx
    rw[hp]at h1
    cases h1
    simpa using h3)
   simpa using this
theorem Cv (hC:C.Ok) (he:bt C.tomV t e k z by_) (h2:∃i e2,C.T.get t2=some i∧i.bE=.slice e2) (hz:z.length=k) (hby:0<by_∧by_≤128) (hw:∀x,(f x).length=k)
  (ho:Own h e s k f l) (hv:Seq h p v k f l2) (hone:∀x,∀c∈f x,c.oneCell'=true) (hsz:l.length+l2.length≤2^32) {ty:Nat} {K:Sl→Heap→Prop}
  (hk:∀s' h',Own h' e s' k f (l++l2)→aD (fun b=>¬s.on b) h h'→(∀b,s'.on b→s.on b∨h.size≤b)→K s' h'):
  aw C.P (Builtin.append_ #[t,t2] ty #[.slice s.ptr s.len s.cap,.slice v.ptr v.len v.cap]) (.one (.sc .slc)) h K:=by
 obtain⟨i2,e2,g1,g2⟩:=h2
 have hu2:C.P.underlying t2=some (.slice e2):=by have:=hC.bE g1;rw[g2]at this;exact fq this
 obtain⟨inf,x1,x2,x3,zv,x4,x5⟩:=he.info hC
 unfold aw Builtin.append_
 simp only[List.getElem?_toArray,List.getElem?_cons_zero,List.getElem?_cons_succ]
 refine ab.bind (ab.always (aq (he.under hC)) ?_)
 refine ab.bind (ab.always (he.size hC) ?_)
 refine ab.bind (ab.always (aq hu2) ?_)
 refine ab.bind (ab.pure' ?_)
 simp only[Bool.false_eq_true,if_false,Bool.not_false,if_true]
 refine ab.bind (ab.pure' ?_)
 have hlen:=ho.len
 have hlen2:=hv.len
 by_cases hfit:s.len+v.len≤s.cap
 ·rw[if_pos hfit]
  refine ab.bind (dj hw hv ?_)
  rcases ho.head with⟨p1,p2,p3⟩|⟨b,rest,p1,p2,p3,p4⟩
  ·rw[p1]
   have hl2:l2=[]:=List.eq_nil_of_length_eq_zero (by omega)
   subst hl2
   refine ab.pure' ⟨⟨none,s.len+v.len,s.cap⟩,rfl,hk _ _ ⟨?_,.inl ⟨rfl,p2,by simp[p3]⟩⟩ (aD.refl _ _) ?_⟩
   ·simp;omega
   ·rintro b' ⟨o,ho'⟩;cases ho'
  ·rw[p1]
   refine ab.bind ?_
   rw[add_eq,Nat.zero_add]
   have hflat:=ck hw l
   have hflat2:=ck hw l2
   have hrl:(l2.flatMap f).length≤rest.length:=by
    rw[hflat2,p3]
    exact Nat.mul_le_mul_right k (by omega)
   refine bV (e:=e) (pre:=l.flatMap f) (old:=rest.take (l2.flatMap f).length) (post:=rest.drop (l2.flatMap f).length) ?_ ?_ ?_ ?_ ?_
   ·rw[List.append_assoc,List.take_append_drop];exact p2
   ·rw[List.length_take];exact Nat.min_eq_left hrl
   ·rw[hflat,hlen];omega
   ·intro c hc
    obtain⟨x,_,hxc⟩:=List.mem_flatMap.1 hc
    exact hone x c hxc
   ·refine ab.pure' ⟨⟨some ⟨b,0,none⟩,s.len+v.len,s.cap⟩,rfl,hk _ _ ⟨?_,.inr ⟨b,rest.drop (l2.flatMap f).length,rfl,?_,?_,hfit⟩⟩ ?_ ?_⟩
    ·simp;omega
    ·rw[di p2,if_pos rfl];simp
    ·rw[List.length_drop,p3,hflat2,←Nat.sub_mul]
     show(s.cap-s.len-l2.length)*k=(s.cap-(s.len+v.len))*k
     congr 1;omega
    ·exact aD.dI p2 (fun hn=>hn ⟨0,p1⟩)
    ·rintro b' ⟨o,ho'⟩;cases ho';exact .inl ⟨0,p1⟩
 ·rw[if_neg hfit]
  have hseq:Seq h (fun _=>True) s k f l:=ho.seq hw (fun _ _=>trivial)
  have hcap:=ho.cap
  refine ab.bind (ab.always (bG x1) ?_)
  rw[if_neg (fun hh=>by rcases hh.2 with h|h<;>first|exact h|(rw[x3]at h;omega))]
  refine ab.bind (ab.always (bG x1) ?_)
  have hnx:=BY (s.len+v.len) s.cap (by omega)
  rw[if_neg (by
   have:Builtin.nextslicecap (s.len+v.len) s.cap*inf.bytes≤(16*2^32+16*768)*128:=Nat.mul_le_mul (by omega) (by rw[x3];exact hby.2)
   omega)]
  refine ab.bind (ab.vA ⟨fun hf=>(by cases hf),fun _ nn=>?_⟩)
  refine ab.bind (ab.always (bG x1) ?_)
  refine ab.bind (ab.sv ?_)
  refine ab.bind (dj hw hseq ?_)
  refine ab.bind (dj hw hv ?_)
  have hzv:ao C.P (zeroValue e) zv:=(bG x1).bind (by rw[x4];exact .pure)
  refine ab.bind (ab.always hzv ?_)
  rw[x5,pH]
  unfold newRow
  refine ab.bind (ab.bind (ab.jM (ab.pure' (ab.pure' ?_))))
  generalize hcc:Question.cut (Question.appendCap (s.len+v.len) s.cap e) nn=cc
  have hcc':s.len+v.len≤cc:=by rw[←hcc];simp only[Question.cut];omega
  refine⟨⟨some ⟨h.size,0,none⟩,s.len+v.len,cc⟩,rfl,hk _ _ ⟨?_,.inr ⟨h.size,dX z (cc-(s.len+v.len)),rfl,?_,?_,hcc'⟩⟩ (aD.push _ _ _) ?_⟩
  ·simp;omega
  ·simp
  ·rw[iQ,hz]
  ·rintro b' ⟨o,ho'⟩;cases ho';exact .inr (Nat.le_refl _)
end
end Go.Vc
namespace Go.Vc
open Go
structure b9 (h:Heap) (a:Addr) (e:TypeId) (cs:List Value):Prop where
 off:a.off=0
 spot:a.spot=none
 blk:h[a.block]?=some (.cells cs.toArray e (0,0))
section
variable {h h':Heap} {a:Addr} {e:TypeId} {cs:List Value} {p:aj}
theorem b9.addr (hb:b9 h a e cs):a=⟨a.block,0,none⟩:=by
 obtain⟨b,o,s⟩:=a
 have:=hb.off;have:=hb.spot
 simp_all
theorem b9.ai (hb:b9 h a e cs) (hp:aD p h h') (ha:p a.block):b9 h' a e cs:=⟨hb.off,hb.spot,hp.block ha hb.blk⟩
theorem b9.lt (hb:b9 h a e cs):a.block<h.size:=lt_of_block hb.blk
theorem b9.cell (hb:b9 h a e cs) {j:Nat} {v:Value} (hv:cs[j]?=some v):cellOf h (a.add j)=some v:=by
 rw[hb.addr,add_eq,nT hb.blk]
 simpa using hv
theorem b9.cell0 (hb:b9 h a e cs) {v:Value} (hv:cs[0]?=some v):cellOf h a=some v:=hb.cell (j:=0) hv
theorem b9.cells (hb:b9 h a e cs) (j:Nat) (vs:List Value) (hv:(cs.drop j).take vs.length=vs):ak h (a.add j) 0 vs:=by
 rw[hb.addr,add_eq,Nat.zero_add]
 have hlen:vs.length≤(cs.drop j).length:=by
  have:=congrArg List.length hv
  rw[List.length_take]at this
  omega
 rcases Nat.lt_or_ge cs.length j with hj|hj
 ·rw[List.length_drop]at hlen
  have:vs=[]:=List.eq_nil_of_length_eq_zero (by omega)
  subst this;trivial
 ·refine mK (e:=e) (fr:=(0,0)) (pre:=cs.take j) (post:=(cs.drop j).drop vs.length) ?_ (by simp;omega)
  have:cs.take j++vs++(cs.drop j).drop vs.length=cs:=by
   conv=>lhs;rw[List.append_assoc];arg 2;arg 1;rw[←hv]
   rw[List.take_append_drop,List.take_append_drop]
  rw[this];exact hb.blk
theorem b9.aY (hb:b9 h a e cs) (vs:List Value) (hv:cs.take vs.length=vs):ak h a 0 vs:=hb.cells 0 vs hv
end
section
variable {C:Ctx} {t:Nat} {i:TI} {h:Heap}
theorem Dx (hC:C.Ok) (hi:C.T.get t=some i) {K:Addr→Heap→Prop} (hk:∀a h',a.block=h.size→b9 h' a t i.zero→aD (fun _=>True) h h'→h'.size=h.size+1→K a h'):
  aU C.P (Instr.alloc t true (.tuple #[])) h K:=by
 obtain⟨z,hz,hzc⟩:=j4 hC.toOk hi
 unfold aU Instr.alloc
 refine ab.bind (ab.always hz ?_)
 refine ab.bind (ab.bind (ab.bind (ab.jM (ab.pure' (ab.pure' (ab.pure' ?_))))))
 refine⟨⟨h.size,0,none⟩,rfl,hk _ _ rfl ⟨rfl,rfl,?_⟩ (aD.push _ _ _) (by simp)⟩
 rw[←hzc];simp
theorem GD {v:Value} {P:Program} {K:Addr→Heap→Prop} (hk:∀a h',a.block=h.size→b9 h' a t v.cells.toList→aD (fun _=>True) h h'→h'.size=h.size+1→K a h'):
  aU P (Instr.box t v) h K:=by
 unfold aU Instr.box
 refine ab.bind (ab.bind (ab.bind (ab.jM (ab.pure' (ab.pure' (ab.pure' ?_))))))
 refine⟨⟨h.size,0,none⟩,rfl,hk _ _ rfl ⟨rfl,rfl,?_⟩ (aD.push _ _ _) (by simp)⟩
 simp
theorem run_store (hC:C.Ok) {a:Addr} {e:TypeId} {cs:List Value} (hb:b9 h a e cs) (hi:C.T.get t=some i) (off:Nat) {v:Value} (vs:List Value) (hv:v.cells=vs.toArray) (hsz:i.size=vs.length)
  (hone:vs.all (·.oneCell')=true) (hfit:off+vs.length≤cs.length) {K:Unit→Heap→Prop}
  (hk:∀h',b9 h' a e (cs.take off++vs++cs.drop (off+vs.length))→aD (·≠a.block) h h'→h'.size=h.size→K () h'):
  ab C.P (Instr.storeAt t (.pointer (some (a.add off))) v) h K:=by
 have ha:=hb.addr
 unfold Instr.storeAt
 refine ab.bind (ab.pure' ?_)
 unfold storeVar
 refine ab.bind (ab.always (bM hC.toOk hi) ?_)
 rw[hv,hsz]
 simp only[List.size_toArray,ne_eq,not_true,if_false]
 rw[ha,add_eq,Nat.zero_add]
 refine bV (e:=e) (pre:=cs.take off) (old:=(cs.drop off).take vs.length) (post:=cs.drop (off+vs.length)) ?_ ?_ ?_ ?_ ?_
 ·have:cs.take off++(cs.drop off).take vs.length++cs.drop (off+vs.length)=cs:=by
   rw[←List.drop_drop,List.append_assoc,List.take_append_drop,List.take_append_drop]
  rw[this];exact hb.blk
 ·simp;omega
 ·simp;omega
 ·intro x hx
  have:=List.all_eq_true.1 hone x hx
  exact this
 ·refine hk _ ⟨hb.off,hb.spot,?_⟩ (aD.dI hb.blk (by simp)) (by simp[dI])
  rw[di hb.blk,if_pos rfl]
theorem Cw (hC:C.Ok) {a:Addr} {e:TypeId} {cs:List Value} (hb:b9 h a e cs) (hi:C.T.get t=some i) {v:Value} (vs:List Value) (hv:v.cells=vs.toArray) (hsz:i.size=vs.length)
  (hone:vs.all (·.oneCell')=true) (hfit:vs.length≤cs.length) {K:Unit→Heap→Prop}
  (hk:∀h',b9 h' a e (vs++cs.drop vs.length)→aD (·≠a.block) h h'→h'.size=h.size→K () h'):
  ab C.P (Instr.storeAt t (.pointer (some a)) v) h K:=
 run_store hC hb hi 0 vs hv hsz hone (by omega) (fun h' x y z=>hk h' (by simpa using x) y z)
end
section
variable {C:Ctx} {t e k:Nat} {z:List Value} {by_:Nat} {α:Type} {h:Heap} {p:aj} {s v:Sl} {f:α→List Value} {l l2:List α}
theorem pI {x0:α} (hz:f x0=z):∀n,dX z n=(List.replicate n x0).flatMap f
 |0=>rfl
 |n+1=>by rw[dX,List.replicate_succ,List.flatMap_cons,hz,pI hz n]
theorem wrap_small (x:Int) (h1:-9223372036854775808≤x) (h2:x≤9223372036854775807):IntKind.wrap .i64 x=x:=by
 show(if(true&&decide (x%2^64≥2^63))=true then x%2^64-2^64 else x%2^64)=x
 by_cases hx:x%2^64≥2^63
 ·rw[if_pos (by rw[Bool.true_and];exact decide_eq_true hx)];omega
 ·rw[if_neg (by rw[Bool.true_and];exact fun h=>hx (of_decide_eq_true h))];omega
theorem run_make (hC:C.Ok) (he:bt C.tomV t e k z by_) (hby:0<by_∧by_≤128) (x0:α) (hz:f x0=z) (hk0:z.length=k) {k1 k2:IntKind} {n c:Int} (m mc:Nat) (hn:n=m) (hc:c=mc) (hle:m≤mc) (hsm:mc≤2^32)
  {K:Sl→Heap→Prop} (hk:∀s' h',Own h' e s' k f (List.replicate m x0)→s'.ptr=some ⟨h.size,0,none⟩→s'.cap=mc→aD (fun _=>True) h h'→h'.size=h.size+1→K s' h'):
  aw C.P (Instr.makeSlice t (.int k1 n) (.int k2 c)) (.one (.sc .slc)) h K:=by
 subst hn;subst hc
 obtain⟨inf,x1,x2,x3,zv,x4,x5⟩:=he.info hC
 unfold aw Instr.makeSlice
 refine ab.bind (ab.always (aq (he.under hC)) ?_)
 refine ab.bind (ab.pure' ?_)
 refine ab.bind (ab.pure' ?_)
 refine ab.bind (ab.always (bG x1) ?_)
 have w1:IntKind.wrap .i64 (m:Int)=m:=wrap_small _ (by omega) (by omega)
 have w2:IntKind.wrap .i64 (mc:Int)=mc:=wrap_small _ (by omega) (by omega)
 have hb:¬((inf.bytes:Int)*(mc:Int)>2^48):=by
  rw[x3]
  have:by_*mc≤128*2^32:=Nat.mul_le_mul hby.2 hsm
  have:((by_:Int)*(mc:Int))≤((128*2^32:Nat):Int):=by exact_mod_cast this
  omega
 simp only[w1,w2]
 rw[if_neg (by simp;omega)]
 refine ab.bind (ab.sv ?_)
 refine ab.bind (ab.always (he.size hC) ?_)
 have hzv:ao C.P (zeroValue e) zv:=(bG x1).bind (by rw[x4];exact .pure)
 have fin:∀zz:Array Value,(mc*k≠0→zz=z.toArray)→ab C.P (do
   let a←newRow e ((Array.range (mc*k)).map (zz[·%zz.size]!))
   pure (Value.slice (some a) m mc)) h (fun v h'=>∃x:(Rt.one (.sc .slc)).den,v=(Rt.one (.sc .slc)).enc x∧K x h'):=by
  intro zz hzz
  have hrow:((Array.range (mc*k)).map (zz[·%zz.size]!))=(dX z mc).toArray:=by
   by_cases h0:mc*k=0
   ·rw[h0]
    have:dX z mc=[]:=List.eq_nil_of_length_eq_zero (by rw[iQ,hk0,h0])
    rw[this];simp
   ·rw[hzz h0];exact yU z mc _ (by rw[hk0])
  rw[hrow]
  refine ab.bind (ab.bind (ab.jM (ab.pure' (ab.pure' ?_))))
  refine⟨⟨some ⟨h.size,0,none⟩,m,mc⟩,rfl,hk _ _ ⟨by simp,.inr ⟨h.size,dX z (mc-m),rfl,?_,?_,hle⟩⟩ rfl rfl (aD.push _ _ _) (by simp)⟩
  ·have:dX z mc=(List.replicate m x0).flatMap f++dX z (mc-m):=by
    rw[pI hz,pI hz,←List.flatMap_append,List.replicate_append_replicate]
    congr 2;omega
   rw[this];simp
  ·rw[iQ,hk0]
 simp only[Int.toNat_natCast]
 by_cases h0:mc*k=0
 ·rw[if_pos h0]
  exact ab.bind (ab.pure' (fin _ (fun h=>absurd h0 h)))
 ·rw[if_neg h0]
  refine ab.bind (ab.always hzv ?_)
  exact ab.bind (ab.pure' (fin _ (fun _=>x5)))
theorem BZ (hC:C.Ok) (he:bt C.tomV t e k z by_) (hk0:z.length=k) {n:Nat} {parts:Array (Nat×Value)} (l:List α) (hn:l.length=n) (hnk:n*k≤2^20)
  (hfill:Instr.fill (fun i=>some (i*k,k)) (dX z n).toArray parts.toList=some (l.flatMap f).toArray) {K:Sl→Heap→Prop}
  (hk:∀s' h',Own h' e s' k f l→s'.ptr=some ⟨h.size,0,none⟩→aD (fun _=>True) h h'→h'.size=h.size+1→K s' h'):
  aw C.P (Instr.buildSlice t n parts) (.one (.sc .slc)) h K:=by
 obtain⟨inf,x1,x2,x3,zv,x4,x5⟩:=he.info hC
 unfold aw Instr.buildSlice
 refine ab.bind (ab.always (aq (he.under hC)) ?_)
 refine ab.bind (ab.always (he.size hC) ?_)
 rw[if_neg (by omega)]
 have hzv:ao C.P (zeroValue e) zv:=(bG x1).bind (by rw[x4];exact .pure)
 have fin:∀zz:Array Value,(n*k≠0→zz=z.toArray)→ab C.P (do
   let some cells:=Instr.fill (fun i=>some (i*k,k)) ((Array.range (n*k)).map (zz[·%zz.size]!)) parts.toList
    |stuck "buildSlice: a part of the wrong size"
   pure (Value.slice (some (←newRow e cells)) n n)) h (fun v h'=>∃x:(Rt.one (.sc .slc)).den,v=(Rt.one (.sc .slc)).enc x∧K x h'):=by
  intro zz hzz
  have hrow:((Array.range (n*k)).map (zz[·%zz.size]!))=(dX z n).toArray:=by
   by_cases h0:n*k=0
   ·rw[h0]
    have:dX z n=[]:=List.eq_nil_of_length_eq_zero (by rw[iQ,hk0,h0])
    rw[this];simp
   ·rw[hzz h0];exact yU z n _ (by rw[hk0])
  rw[hrow,hfill]
  refine ab.bind (ab.bind (ab.jM (ab.pure' (ab.pure' ?_))))
  refine⟨⟨some ⟨h.size,0,none⟩,n,n⟩,rfl,hk _ _ ⟨hn.symm,.inr ⟨h.size,[],rfl,by simp,by simp,Nat.le_refl _⟩⟩ rfl (aD.push _ _ _) (by simp)⟩
 by_cases h0:n*k=0
 ·rw[if_pos h0]
  exact ab.bind (ab.pure' (fin _ (fun h=>absurd h0 h)))
 ·rw[if_neg h0]
  refine ab.bind (ab.always hzv ?_)
  exact ab.bind (ab.pure' (fin _ (fun _=>x5)))
theorem Own.set {i:TI} (hC:C.Ok) (ho:Own h e s k f l) (hw:∀x,(f x).length=k) (hi:C.T.get t=some i) {x:Int} (n:Nat) (hx:x=n) (hn:n<l.length) {val:Value} (y:α) (hv:val.cells=(f y).toArray) (hsz:i.size=k)
  (hone:(f y).all (·.oneCell')=true) {K:Heap→Prop} (hk:∀h',Own h' e s k f (l.set n y)→aD (fun b=>¬s.on b) h h'→h'.size=h.size→K h'):
  ∃a:Addr,(s.ptr=some a∧0≤x∧x<((s.len:Nat):Int))∧ab C.P (Instr.storeAt t (.pointer (some (a.add (x.toNat*k)))) val) h fun _ h'=>K h':=by
 subst hx
 rcases ho.head with⟨_,_,h3⟩|⟨b,rest,h1,h2,h3,h4⟩
 ·subst h3;simp at hn
 ·refine⟨_,⟨h1,by omega,by rw[ho.len];omega⟩,?_⟩
  unfold Instr.storeAt
  refine ab.bind (ab.pure' ?_)
  unfold storeVar
  refine ab.bind (ab.always (bM hC.toOk hi) ?_)
  rw[hv,hsz]
  have hfl:=hw y
  simp only[List.size_toArray,hfl,ne_eq,not_true,if_false]
  rw[add_eq,Nat.zero_add,Int.toNat_natCast]
  have hsplit:l=l.take n++l[n]::l.drop (n+1):=by rw[←List.drop_eq_getElem_cons hn,List.take_append_drop]
  have hset:l.set n y=l.take n++y::l.drop (n+1):=List.set_eq_take_append_cons_drop.trans (if_pos hn)
  have hpre:((l.take n).flatMap f).length=n*k:=by rw[ck hw,List.length_take,Nat.min_eq_left (by omega)]
  refine bV (e:=e) (pre:=(l.take n).flatMap f) (old:=f l[n]) (post:=(l.drop (n+1)).flatMap f++rest) ?_ ?_ ?_ ?_ ?_
  ·have:l.flatMap f++rest=(l.take n).flatMap f++f l[n]++((l.drop (n+1)).flatMap f++rest):=by
    have e1:=congrArg (List.flatMap f) hsplit
    rw[List.flatMap_append,List.flatMap_cons]at e1
    rw[e1]
    simp
   rw[←this];exact h2
  ·rw[hw,hw]
  ·rw[hpre];omega
  ·intro c hc
   have:=List.all_eq_true.1 hone c hc
   exact this
  ·refine hk _ ⟨by rw[List.length_set];exact ho.len,.inr ⟨b,rest,h1,?_,h3,h4⟩⟩ (aD.dI h2 (fun hh=>hh ⟨0,h1⟩)) (by simp[dI])
   rw[di h2,if_pos rfl,hset]
   simp
end
end Go.Vc
namespace Go.Vc
open Go
def grow (c:Nat→Nat) (n i:Nat):Nat→Nat:=fun b=>if b<n then c b else i
theorem cG {c:Nat→Nat} {n i b:Nat} (h:b<n):grow c n i b=c b:=if_pos h
theorem sC {c:Nat→Nat} {n i b:Nat} (h:n≤b):grow c n i b=i:=if_neg (by omega)
structure dY {α:Type} (h:Heap) (c:Nat→Nat) (i:Nat) (e:TypeId) (s:Sl) (k:Nat) (f:α→List Value) (l:List α):Prop where
 own:Own h e s k f l
 aV:∀b,s.on b→c b=i
structure nU (h:Heap) (c:Nat→Nat) (i:Nat) (a:Addr) (e:TypeId) (cs:List Value):Prop where
 box:b9 h a e cs
 aV:c a.block=i
structure sD (h0 h:Heap) (c:Nat→Nat):Prop where
 ai:aD (fun b=>b<h0.size) h0 h
 aV:∀b,b<h0.size→c b=0
section
variable {α:Type} {h h' h0:Heap} {c:Nat→Nat} {i j n m:Nat} {e:TypeId} {s:Sl} {k:Nat} {f:α→List Value} {l:List α} {a:Addr} {cs:List Value}
theorem dY.keep (ho:dY h c j e s k f l) (hp:aD (fun b=>c b≠i) h h') (hij:j≠i):dY h' (grow c h.size m) j e s k f l:=
 ⟨ho.own.ai hp fun b hb=>by rw[ho.aV b hb];exact hij,fun b hb=>by rw[cG (ho.own.lt hb)];exact ho.aV b hb⟩
theorem nU.keep (ho:nU h c j a e cs) (hp:aD (fun b=>c b≠i) h h') (hij:j≠i):nU h' (grow c h.size m) j a e cs:=
 ⟨ho.box.ai hp (by rw[ho.aV];exact hij),by rw[cG ho.box.lt];exact ho.aV⟩
theorem sD.keep (ho:sD h0 h c) (hp:aD (fun b=>c b≠i) h h') (hi:i≠0):sD h0 h' (grow c h.size m):=
 ⟨ho.ai.then hp fun b hb _=>by rw[ho.aV b hb];exact hi.symm,fun b hb=>by rw[cG (Nat.lt_of_lt_of_le hb ho.ai.1)];exact ho.aV b hb⟩
theorem sD.refl (h:Heap):sD h h (fun _=>0):=⟨aD.refl _ _,fun _ _=>rfl⟩
theorem dY.seq (ho:dY h c j e s k f l) (hw:∀x,(f x).length=k):Seq h (fun b=>c b=j) s k f l:=ho.own.seq hw ho.aV
theorem dY.nil (h:Heap) (c:Nat→Nat) (i:Nat) (e:TypeId) (k:Nat) (f:α→List Value):dY h c i e ⟨none,0,0⟩ k f []:=⟨Own.nil h e k f,fun b hb=>by obtain⟨o,ho⟩:=hb;cases ho⟩
def yV (h:Heap) (c:Nat→Nat) (i:Nat) (s:Sl) (k:Nat) (f:α→List Value) (l:List α):Prop:=Seq h (fun b=>b<h.size∧c b=i) s k f l
theorem yV.keep (hs:yV h c j s k f l) (hp:aD (fun b=>c b≠i) h h') (hij:j≠i):yV h' (grow c h.size m) j s k f l:=
 (Seq.ai hs (hp.mono fun b _ hb=>by rw[hb.2];exact hij)).mono fun b hb=>⟨Nat.lt_of_lt_of_le hb.1 hp.1,by rw[cG hb.1];exact hb.2⟩
theorem yV.new (hs:Seq h' (fun b=>h.size≤b∧b<h'.size) s k f l):yV h' (grow c h.size i) i s k f l:=
 Seq.mono hs fun b hb=>⟨hb.2,sC hb.1⟩
theorem dY.fresh (ho:dY h c i e s k f l) (hb:sD h0 h c) (hi:i≠0) (hw:∀x,(f x).length=k):Seq h (fun b=>h0.size≤b∧b<h.size) s k f l:=
 ho.own.seq hw fun b hon=>⟨Nat.le_of_not_lt fun hlt=>hi (by rw[←ho.aV b hon,hb.aV b hlt]),ho.own.lt hon⟩
theorem aD.aV (hp:aD (fun _=>True) h h') (c:Nat→Nat) (i:Nat):aD (fun b=>c b≠i) h h':=hp.mono fun _ _ _=>trivial
end
section
variable {α:Type} {C:Ctx} {h h' h0:Heap} {c:Nat→Nat} {i:Nat} {e t t2:Nat} {s v:Sl} {k by_:Nat} {f:α→List Value} {l l2:List α} {a:Addr} {cs z:List Value} {p:aj} {ti:TI}
theorem nU.store (hC:C.Ok) (hb:nU h c i a e cs) (hi:C.T.get t=some ti) (off:Nat) {v:Value} (vs:List Value) (hv:v.cells=vs.toArray) (hsz:ti.size=vs.length)
  (hone:vs.all (·.oneCell')=true) (hfit:off+vs.length≤cs.length) {K:Unit→Heap→Prop}
  (hk:∀h',nU h' (grow c h.size i) i a e (cs.take off++vs++cs.drop (off+vs.length))→aD (fun b=>c b≠i) h h'→K () h'):
  ab C.P (Instr.storeAt t (.pointer (some (a.add off))) v) h K:=
 run_store hC hb.box hi off vs hv hsz hone hfit fun h' x y z=>hk h' ⟨x,by rw[cG hb.box.lt];exact hb.aV⟩ (y.mono fun b _ hb' h2=>hb' (by rw[h2];exact hb.aV))
theorem nU.yW (hC:C.Ok) (hb:nU h c i a e cs) (hi:C.T.get t=some ti) {v:Value} (vs:List Value) (hv:v.cells=vs.toArray) (hsz:ti.size=vs.length)
  (hone:vs.all (·.oneCell')=true) (hfit:vs.length≤cs.length) {K:Unit→Heap→Prop}
  (hk:∀h',nU h' (grow c h.size i) i a e (vs++cs.drop vs.length)→aD (fun b=>c b≠i) h h'→K () h'):
  ab C.P (Instr.storeAt t (.pointer (some a)) v) h K:=
 hb.store hC hi 0 vs hv hsz hone (by omega) (fun h' x y=>hk h' (by simpa using x) y)
theorem dY.append (hC:C.Ok) (ho:dY h c i e s k f l) (he:bt C.tomV t e k z by_) (h2:∃i e2,C.T.get t2=some i∧i.bE=.slice e2) (hz:z.length=k) (hby:0<by_∧by_≤128) (hw:∀x,(f x).length=k)
  (hv:Seq h p v k f l2) (hone:∀x,∀c∈f x,c.oneCell'=true) (hsz:l.length+l2.length≤2^32) {ty:Nat} {K:Sl→Heap→Prop}
  (hk:∀s' h',dY h' (grow c h.size i) i e s' k f (l++l2)→aD (fun b=>c b≠i) h h'→K s' h'):
  aw C.P (Builtin.append_ #[t,t2] ty #[.slice s.ptr s.len s.cap,.slice v.ptr v.len v.cap]) (.one (.sc .slc)) h K:=
 Cv hC he h2 hz hby hw ho.own hv hone hsz fun s' h' x y w=>hk s' h' ⟨x,fun b hb=>by
  rcases w b hb with w|w
  ·rw[cG (ho.own.lt w)];exact ho.aV b w
  ·exact sC w⟩ (y.mono fun b _ hb' h2=>hb' (ho.aV b h2))
theorem dY.set (hC:C.Ok) (ho:dY h c i e s k f l) (hw:∀x,(f x).length=k) (hi:C.T.get t=some ti) {x:Int} (n:Nat) (hx:x=n) (hn:n<l.length) {val:Value} (y:α) (hv:val.cells=(f y).toArray) (hsz:ti.size=k)
  (hone:(f y).all (·.oneCell')=true) {K:Heap→Prop} (hk:∀h',dY h' (grow c h.size i) i e s k f (l.set n y)→aD (fun b=>c b≠i) h h'→K h'):
  ∃a:Addr,(s.ptr=some a∧0≤x∧x<((s.len:Nat):Int))∧ab C.P (Instr.storeAt t (.pointer (some (a.add (x.toNat*k)))) val) h fun _ h'=>K h':=
 ho.own.set hC hw hi n hx hn y hv hsz hone fun h' z w _=>hk h' ⟨z,fun b hb=>by rw[cG (ho.own.lt hb)];exact ho.aV b hb⟩ (w.mono fun b _ hb' h2=>hb' (ho.aV b h2))
end
end Go.Vc
namespace Go.Vc
open Go
section
variable {α:Type} {C:Ctx} {h h' h0:Heap} {c:Nat→Nat} {i j n m:Nat} {e t:Nat} {s v:Sl} {k by_:Nat} {f:α→List Value} {l l2:List α} {z:List Value} {p:aj}
theorem grow_grow {c:Nat→Nat} {n m i:Nat} (h:n≤m):grow (grow c n i) m i=grow c n i:=by
 funext b
 unfold grow
 split
 ·rfl
 ·rw[if_neg (by omega)]
theorem aD.step (a:aD (fun b=>c b≠i) h h') {h'':Heap} (b:aD (fun b=>grow c h.size i b≠i) h' h''):aD (fun b=>c b≠i) h h'':=
 a.then b fun x hx hc=>by rw[cG hx];exact hc
theorem dY.push (hC:C.Ok) (ho:dY h c i e s k f l) (he:bt C.tomV t e k z by_) (hz:z.length=k) (hby:0<by_∧by_≤128) (hw:∀x,(f x).length=k)
  (hone:∀x,∀c∈f x,c.oneCell'=true) (x:α) {parts:Array (Nat×Value)} (hfill:Instr.fill (fun i=>some (i*k,k)) (dX z 1).toArray parts.toList=some ([x].flatMap f).toArray)
  (hk1:1*k≤2^20) (hsz:l.length+1≤2^32) {ty:Nat} {K:Sl→Heap→Prop}
  (hk:∀s' h',dY h' (grow c h.size i) i e s' k f (l++[x])→aD (fun b=>c b≠i) h h'→K s' h'):
  aw C.P (Instr.buildSlice t 1 parts) (.one (.sc .slc)) h fun v h1=>aw C.P (Builtin.append_ #[t,t] ty #[.slice s.ptr s.len s.cap,.slice v.ptr v.len v.cap]) (.one (.sc .slc)) h1 K:=by
 refine BZ hC he hz [x] rfl hk1 hfill fun v h1 hv hvp hp _=>?_
 have hp1:aD (fun b=>c b≠i) h h1:=hp.aV c i
 have ho1:dY h1 (grow c h.size i) i e s k f l:=⟨ho.own.ai hp fun _ _=>trivial,fun b hb=>by rw[cG (ho.own.lt hb)];exact ho.aV b hb⟩
 have hsz1:h.size≤h1.size:=hp.1
 obtain⟨ii,jj,x1,x2,_⟩:=he.ex
 refine ho1.append hC he ⟨ii,e,x1,x2⟩ hz hby hw (hv.seq (p:=fun _=>True) hw fun _ _=>trivial) hone hsz fun s' h2 hs2 hp2=>?_
 rw[grow_grow hsz1]at hs2
 exact hk s' h2 hs2 (hp1.step hp2)
structure j6 (h:Heap) (c:Nat→Nat) (top lo:Nat) (e:TypeId) (s:Sl) (k:Nat) (f:α→List Value) (ll:List (List α)) (rs:List Sl):Prop where
 own:dY h c top e s 1 bg rs
 len:rs.length=ll.length
 row:∀(i:Nat) r l,rs[i]?=some r→ll[i]?=some l→Seq h (fun b=>b<h.size∧lo≤c b∧c b<lo+ll.length) r k f l
theorem j6.keep {ll:List (List α)} {rs:List Sl} {top lo:Nat} (hr:j6 h c top lo e s k f ll rs) (hp:aD (fun b=>c b≠i) h h') (h1:top≠i) (h2:i<lo∨lo+ll.length≤i):j6 h' (grow c h.size m) top lo e s k f ll rs:=
 ⟨hr.own.keep hp h1,hr.len,fun i' r l hr' hl'=>((hr.row i' r l hr' hl').ai (hp.mono fun b _ hb=>by rintro rfl;omega)).mono fun b hb=>⟨Nat.lt_of_lt_of_le hb.1 hp.1,by rw[cG hb.1];exact hb.2⟩⟩
theorem j6.nil (h:Heap) (c:Nat→Nat) (top lo:Nat) (e:TypeId) (k:Nat) (f:α→List Value):j6 h c top lo e ⟨none,0,0⟩ k f [] []:=
 ⟨dY.nil _ _ _ _ _ _,rfl,fun i r l h=>by simp at h⟩
theorem jg:∀x,∀c∈bg x,c.oneCell'=true:=by intro x c hc;simp only[bg,List.mem_singleton]at hc;subst hc;rfl
theorem j6.push {ll:List (List α)} {rs:List Sl} {top lo:Nat} {r:Sl} {x:List α} (hC:C.Ok) (hr:j6 h c top lo e s k f ll rs) (he:bt C.tomV t e 1 [.slice none 0 0] 24)
  (hx:Seq h (fun b=>b<h.size∧c b=lo+ll.length) r k f x) (htop:top<lo) (hsz:ll.length+1≤2^32) {ty:Nat} {K:Sl→Heap→Prop}
  (hk:∀s' h',j6 h' (grow c h.size top) top lo e s' k f (ll++[x]) (rs++[r])→aD (fun b=>c b≠top) h h'→K s' h'):
  aw C.P (Instr.buildSlice t 1 #[(0,.slice r.ptr r.len r.cap)]) (.one (.sc .slc)) h fun v h1=>aw C.P (Builtin.append_ #[t,t] ty #[.slice s.ptr s.len s.cap,.slice v.ptr v.len v.cap]) (.one (.sc .slc)) h1 K:=by
 refine hr.own.push hC he rfl (by decide) (fun _=>rfl) jg r rfl (by decide) (by rw[hr.len];exact hsz) fun s' h' hs' hp'=>hk s' h' ⟨hs',by simp[hr.len],fun i r' l' h1 h2=>?_⟩ hp'
 have grown:∀{q:aj} {rr:Sl} {l:List α},Seq h q rr k f l→(∀b,q b→b<h.size∧lo≤c b∧c b<lo+(ll++[x]).length)→Seq h' (fun b=>b<h'.size∧lo≤grow c h.size top b∧grow c h.size top b<lo+(ll++[x]).length) rr k f l:=fun hs hq=>
  (hs.ai (hp'.mono fun b _ hb=>by have:=hq b hb;omega)).mono fun b hb=>by
   have:=hq b hb
   rw[cG this.1]
   exact⟨Nat.lt_of_lt_of_le this.1 hp'.1,this.2⟩
 have hl:=hr.len
 by_cases hi:i<ll.length
 ·rw[List.getElem?_append_left (by omega)]at h1 h2
  exact grown (hr.row i r' l' h1 h2) fun b hb=>⟨hb.1,hb.2.1,by simp;omega⟩
 ·have hi':i=ll.length:=by
   have:=(List.getElem?_eq_some_iff.1 h2).1
   simp at this;omega
  subst hi'
  simp at h2
  rw[←hl]at h1
  simp at h1
  subst h1;subst h2
  exact grown hx fun b hb=>⟨hb.1,by omega,by simp;omega⟩
theorem j6.fresh {ll:List (List α)} {rs:List Sl} {top lo:Nat} (hr:j6 h c top lo e s k f ll rs) (hB:sD h0 h c) (ht:top≠0) (hlo:lo≠0):gy h (fun b=>h0.size≤b∧b<h.size) s k f ll rs:=
 ⟨hr.own.fresh hB ht fun _=>rfl,hr.len,fun i r l h1 h2=>(hr.row i r l h1 h2).mono fun b hb=>⟨Nat.le_of_not_lt fun hlt=>by have:=hB.aV b hlt;omega,hb.1⟩⟩
theorem Own.Hg {i:TI} (hC:C.Ok) (ho:Own h e s k f l) (hw:∀x,(f x).length=k) (hi:C.T.get t=some i) {x:Int} (n cp:Nat) (hx:x=n) (hn:l.length≤n) (hn2:n<s.cap) (hcp:cp=s.cap) {val:Value} (y:α) (hv:val.cells=(f y).toArray) (hsz:i.size=k)
  (hone:(f y).all (·.oneCell')=true) {K:Heap→Prop} (hk:∀h',Own h' e s k f l→aD (fun b=>¬s.on b) h h'→h'.size=h.size→K h'):
  ∃a:Addr,(s.ptr=some a∧0≤x∧x<((cp:Nat):Int))∧ab C.P (Instr.storeAt t (.pointer (some (a.add (x.toNat*k)))) val) h fun _ h'=>K h':=by
 subst hx hcp
 rcases ho.head with⟨_,h2,h3⟩|⟨b,rest,h1,h2,h3,h4⟩
 ·omega
 ·refine⟨_,⟨h1,by omega,by omega⟩,?_⟩
  unfold Instr.storeAt
  refine ab.bind (ab.pure' ?_)
  unfold storeVar
  refine ab.bind (ab.always (bM hC.toOk hi) ?_)
  rw[hv,hsz]
  have hfl:=hw y
  simp only[List.size_toArray,hfl,ne_eq,not_true,if_false]
  rw[add_eq,Nat.zero_add,Int.toNat_natCast]
  have hlen:=ho.len
  have hfl2:=ck hw l
  have hlow:l.length*k≤n*k:=Nat.mul_le_mul_right k hn
  have hhigh:(n+1)*k≤s.cap*k:=Nat.mul_le_mul_right k hn2
  have hsub:(s.cap-s.len)*k=s.cap*k-l.length*k:=by rw[Nat.sub_mul,hlen]
  have hs1:(n+1)*k=n*k+k:=Nat.succ_mul n k
  refine bV (e:=e) (pre:=l.flatMap f++rest.take (n*k-l.length*k)) (old:=(rest.drop (n*k-l.length*k)).take k) (post:=rest.drop (n*k-l.length*k+k)) ?_ ?_ ?_ ?_ ?_
  ·have:l.flatMap f++rest=l.flatMap f++rest.take (n*k-l.length*k)++(rest.drop (n*k-l.length*k)).take k++rest.drop (n*k-l.length*k+k):=by
    rw[List.append_assoc,List.append_assoc,←List.drop_drop,List.take_append_drop,List.take_append_drop]
   rw[←this];exact h2
  ·rw[hfl,List.length_take,List.length_drop];omega
  ·rw[List.length_append,List.length_take,hfl2];omega
  ·intro c hc
   have:=List.all_eq_true.1 hone c hc
   exact this
  ·refine hk _ ⟨hlen,.inr ⟨b,rest.take (n*k-l.length*k)++f y++rest.drop (n*k-l.length*k+k),h1,?_,?_,h4⟩⟩ (aD.dI h2 (fun hh=>hh ⟨0,h1⟩)) (by simp[dI])
   ·rw[di h2,if_pos rfl];simp
   ·simp only[List.length_append,List.length_take,List.length_drop,hfl];omega
theorem Own.copy (hC:C.Ok) (he:bt C.tomV t e k z by_) (hw:∀x,(f x).length=k) (ho:Own h e s k f l) (hv:Seq h p v k f l2) (hlen:l2.length=l.length) (hone:∀x,∀c∈f x,c.oneCell'=true) {t2 ty:Nat} {K:Int→Heap→Prop}
  (hk:∀h',Own h' e s k f l2→aD (fun b=>¬s.on b) h h'→h'.size=h.size→K l2.length h'):
  aw C.P (Builtin.copy_ #[t,t2] ty #[.slice s.ptr s.len s.cap,.slice v.ptr v.len v.cap]) (.one (.sc (.int .i64))) h K:=by
 unfold aw Builtin.copy_
 simp only[List.getElem?_toArray,List.getElem?_cons_zero,List.getElem?_cons_succ]
 refine ab.bind (ab.always (aq (he.under hC)) ?_)
 refine ab.bind (ab.pure' ?_)
 refine ab.bind (ab.always (he.size hC) ?_)
 have hl1:=ho.len;have hl2:=hv.len
 have hmin:Nat.min v.len s.len=v.len:=Nat.min_eq_left (by omega)
 rw[hmin]
 refine ab.bind (dj hw hv ?_)
 rcases ho.head with⟨h1,h2,h3⟩|⟨b,rest,h1,h2,h3,h4⟩
 ·rw[h1]
  have:l2=[]:=List.eq_nil_of_length_eq_zero (by rw[hlen,h3];rfl)
  subst this
  refine ab.pure' ⟨0,by simp[goInt,hl2],hk h ⟨by rw[hl1,h3],.inl ⟨h1,h2,rfl⟩⟩ (aD.refl _ _) rfl⟩
 ·rw[h1]
  refine ab.bind ?_
  refine bV (e:=e) (pre:=[]) (old:=l.flatMap f) (post:=rest) (by simpa using h2) (by rw[ck hw,ck hw,hlen]) rfl ?_ ?_
  ·intro c hc
   obtain⟨x,_,hxc⟩:=List.mem_flatMap.1 hc
   exact hone x c hxc
  ·refine ab.pure' ⟨_,by rw[goInt,hl2],hk _ ⟨by rw[hl1,hlen],.inr ⟨b,rest,h1,?_,h3,h4⟩⟩ (aD.dI h2 (fun hn=>hn ⟨0,h1⟩)) (by simp[dI])⟩
   rw[di h2,if_pos rfl];simp
end
end Go.Vc
namespace Go.Vc
open Go
def yv {α:Type} (x:Int) (v:α):List (Int×α)→List (Int×α)
 |[]=>[(x,v)]
 |(k,u)::t=>if k=x then(k,v)::t else(k,u)::yv x v t
def nV {α:Type} (x:Int):List (Int×α)→Option α
 |[]=>none
 |(k,u)::t=>if k=x then some u else nV x t
structure nW {α:Type} (h:Heap) (r:Nat) (g:α→Value) (kvs:List (Int×α)):Prop where
 ex:∃es clock,h[r]?=some (.map es clock)∧es.toList.map (fun e=>(e.key,e.val))=kvs.map (fun p=>(Value.int .i64 p.1,g p.2))
section
variable {α:Type} {P:Program} {h h':Heap} {r:Nat} {g:α→Value} {kvs:List (Int×α)}
theorem nW.ai {p:aj} (hm:nW h r g kvs) (hp:aD p h h') (hr:p r):nW h' r g kvs:=by
 obtain⟨es,clock,h1,h2⟩:=hm.ex
 exact⟨es,clock,hp.block hr h1,h2⟩
theorem nW.lt (hm:nW h r g kvs):r<h.size:=by
 obtain⟨es,clock,h1,h2⟩:=hm.ex
 exact lt_of_block h1
theorem pJ {x:Int}:∀{L:List MapEntry} {kvs:List (Int×α)} {n:Nat},L.map (fun e=>(e.key,e.val))=kvs.map (fun p=>(Value.int .i64 p.1,g p.2))→nV x kvs=none→
  Instr.findNow (.int .i64) (.int .i64 x) L n=some none
 |[],_,_,_,_=>rfl
 |e::L,[],_,h,_=>by simp at h
 |e::L,(k,u)::t,n,h,hg=>by
  simp only[List.map_cons,List.cons.injEq,Prod.mk.injEq]at h
  obtain⟨⟨h1,h2⟩,h3⟩:=h
  unfold nV at hg
  split at hg
  ·cases hg
  ·rename_i hne
   have:(x==k)=false:=by simp;exact fun e=>hne e.symm
   simp only[Instr.findNow,Instr.sameNow,h1,if_true,this]
   exact pJ h3 hg
theorem pK {x:Int} {u:α} (v:α) (f:MapEntry→MapEntry) (hf:∀e,e.key=Value.int .i64 x→((f e).key,(f e).val)=(Value.int .i64 x,g v)):∀{L:List MapEntry} {kvs:List (Int×α)} {n:Nat},L.map (fun e=>(e.key,e.val))=kvs.map (fun p=>(Value.int .i64 p.1,g p.2))→nV x kvs=some u→
  ∃j e,Instr.findNow (.int .i64) (.int .i64 x) L n=some (some (n+j,g u))∧L[j]?=some e∧e.key=.int .i64 x∧(L.modify j f).map (fun e=>(e.key,e.val))=(yv x v kvs).map (fun p=>(Value.int .i64 p.1,g p.2))
 |[],[],_,_,hg=>by cases hg
 |e::L,[],_,h,_=>by simp at h
 |[],_::_,_,h,_=>by simp at h
 |e::L,(k,w)::t,n,h,hg=>by
  simp only[List.map_cons,List.cons.injEq,Prod.mk.injEq]at h
  obtain⟨⟨h1,h2⟩,h3⟩:=h
  unfold nV at hg
  by_cases hk:k=x
  ·subst hk
   rw[if_pos rfl]at hg
   cases hg
   refine⟨0,e,?_,rfl,h1,?_⟩
   ·simp only[Instr.findNow,Instr.sameNow,h1,if_true,beq_self_eq_true,h2,Nat.add_zero]
   ·simp only[yv,if_true,List.modify_zero_cons,List.map_cons,h3,hf e h1]
  ·rw[if_neg hk]at hg
   obtain⟨j,e',g1,g2,g3,g4⟩:=pK v f hf (n:=n+1) h3 hg
   refine⟨j+1,e',?_,g2,g3,?_⟩
   ·have:(x==k)=false:=by simp;exact fun e=>hk e.symm
    simp only[Instr.findNow,Instr.sameNow,h1,if_true,this]
    rw[g1];congr 3;omega
   ·simp only[yv,hk,if_false,List.modify_succ_cons,List.map_cons,g4,h1,h2]
theorem yX {kt:TypeId} {k:IntKind} {x:Int} {b:Bool} (hk:P.underlying kt=some (.int k)) (n:Nat):ao P (Instr.checkKey b (n+1) kt (.int k x)) ():=by
 unfold Instr.checkKey
 exact(aq hk).bind .pure
theorem nW.lookup {t kt et:Nat} {u0:α} {x:Int} (hm:nW h r g kvs) (ht:P.underlying t=some (.map kt et)) (hkt:P.underlying kt=some (.int .i64)) (hz:ao P (zeroValue et) (g u0))
  {rt:Rt} {K:rt.den→Heap→Prop} (hk:∃d:rt.den,g ((nV x kvs).getD u0)=rt.enc d∧K d h):
  aw P (Instr.lookup t (.map (some r)) (.int .i64 x) false) rt h K:=by
 obtain⟨es,clock,h1,h2⟩:=hm.ex
 unfold aw Instr.lookup
 refine ab.bind (ab.always (aq ht) ?_)
 refine ab.bind (ab.Gx h1 (fun _ _ _ h=>by cases h) ?_)
 refine ab.bind (ab.pure' ?_)
 refine ab.bind (ab.always (yX hkt 9999) ?_)
 unfold Instr.findKey
 refine ab.bind (ab.bind (ab.always (aq hkt) ?_))
 cases hg:nV x kvs with
 |none=>
  rw[pJ h2 hg]
  refine ab.pure' ?_
  refine ab.bind (ab.always hz ?_)
  refine ab.bind (ab.pure' (ab.pure' ?_))
  rw[hg]at hk
  exact hk
 |some u=>
  obtain⟨j,e,g1,_⟩:=pK (x:=x) (n:=0) u (fun e=>⟨e.key,g u,e.born⟩) (fun e hk=>by simp[hk]) h2 hg
  rw[g1]
  refine ab.pure' ?_
  refine ab.bind (ab.pure' (ab.pure' ?_))
  rw[hg]at hk
  exact hk
end
end Go.Vc
namespace Go.Vc
open Go
theorem yY (x n:Int) (hn:0<n):x%n=if x.tmod n<0 then x.tmod n+n else x.tmod n:=by
 have h1:=Int.tmod_lt_of_pos x hn
 have h2:-n<x.tmod n:=Int.lt_tmod_of_pos x hn
 have e1:=Int.tmod_add_mul_tdiv x n
 have hpos:0≤(if x.tmod n<0 then x.tmod n+n else x.tmod n)∧(if x.tmod n<0 then x.tmod n+n else x.tmod n)<n:=by split<;>omega
 have e2:x=(if x.tmod n<0 then x.tmod n+n else x.tmod n)+n*(if x.tmod n<0 then x.tdiv n-1 else x.tdiv n):=by
  split
  ·rw[Int.mul_sub];omega
  ·omega
 conv=>lhs;rw[e2]
 rw[Int.add_mul_emod_self_left]
 exact Int.emod_eq_of_lt hpos.1 hpos.2
theorem aI {α:Type} (l:List α) (k:Nat) (h:k<l.length):l.take (k+1)=l.take k++[l[k]]:=List.take_succ_eq_append_getElem h
theorem iX:∀x,∀c∈aC x,c.oneCell'=true:=by intro x c hc;simp only[aC,List.mem_singleton]at hc;subst hc;rfl
theorem fU:∀x,∀c∈az x,c.oneCell'=true:=by intro x c hc;simp only[az,List.mem_singleton]at hc;subst hc;rfl
theorem up {h h1 h2:Heap} (a:aD (fun b=>b<h.size) h h1) (b:aD (fun b=>b<h1.size) h1 h2):aD (fun b=>b<h.size) h h2:=
 a.then b fun _ hb _=>Nat.lt_of_lt_of_le hb a.1
theorem any {h h1:Heap} (a:aD (fun _=>True) h h1):aD (fun b=>b<h.size) h h1:=a.mono fun _ _ _=>trivial
theorem Seq.up {α:Type} {h h':Heap} {s:Sl} {k:Nat} {f:α→List Value} {l:List α} (hs:Seq h (fun b=>b<h.size) s k f l) (hp:aD (fun b=>b<h.size) h h'):Seq h' (fun b=>b<h'.size) s k f l:=
 (hs.ai hp).mono fun _ hb=>Nat.lt_of_lt_of_le hb hp.1
theorem gy.up {α:Type} {h h':Heap} {s:Sl} {k:Nat} {f:α→List Value} {l:List (List α)} {rs:List Sl} (hs:gy h (fun b=>b<h.size) s k f l rs) (hp:aD (fun b=>b<h.size) h h'):gy h' (fun b=>b<h'.size) s k f l rs:=
 (hs.ai hp).mono fun _ hb=>Nat.lt_of_lt_of_le hb hp.1
theorem Seq.drop {α:Type} {h:Heap} {p:aj} {s:Sl} {w:Nat} {f:α→List Value} {l:List α} (hs:Seq h p s w f l) (k:Nat) (hc:s.len≤s.cap):
  Seq h p ⟨if s.cap=k then s.ptr else s.ptr.map (·.add (k*w)),s.len-k,s.cap-k⟩ w f (l.drop k):=by
 have hl:=hs.len
 refine⟨by simp[hl],fun i x hx=>?_⟩
 rw[List.getElem?_drop]at hx
 obtain⟨b,o,h1,h2,h3⟩:=hs.elem _ x hx
 have hlt:=(List.getElem?_eq_some_iff.1 hx).1
 refine⟨b,o+k*w,?_,h2,?_⟩
 ·dsimp only
  rw[if_neg (by omega),h1,Option.map_some,add_eq]
 ·rw[show o+k*w+i*w=o+(k+i)*w by rw[Nat.add_mul];omega];exact h3
theorem Seq.take {α:Type} {h:Heap} {p:aj} {s:Sl} {w:Nat} {f:α→List Value} {l:List α} (hs:Seq h p s w f l) (k:Nat) (hk:k≤l.length):
  Seq h p ⟨s.ptr,k,s.cap⟩ w f (l.take k):=by
 refine⟨by simp;omega,fun i x hx=>?_⟩
 rw[List.getElem?_take]at hx
 split at hx
 ·exact hs.elem i x hx
 ·cases hx
theorem getD_lt {α:Type} {l:List α} {d:α} {i:Nat} (h:i<l.length):l.getD i d=l[i]:=by rw[List.getD_eq_getElem?_getD,List.getElem?_eq_getElem h];rfl
end Go.Vc
namespace Go.Vc
open Go
structure HP where
 p:Heap→aj→Prop
 loc:∀{h h':Heap} {q:aj},p h q→aD q h h'→p h' q
 mono:∀{h:Heap} {q q':aj},p h q→(∀b,q b→q' b)→p h q'
def emp:HP:=⟨fun _ _=>True,fun _ _=>trivial,fun _ _=>trivial⟩
def an {α:Type} (e:TypeId) (s:Sl) (k:Nat) (f:α→List Value) (l:List α):HP:=
 ⟨fun h q=>Own h e s k f l∧∀b,s.on b→q b,fun a hp=>⟨a.1.ai hp a.2,a.2⟩,fun a hq=>⟨a.1,fun b hb=>hq b (a.2 b hb)⟩⟩
def aA (a:Addr) (e:TypeId) (cs:List Value):HP:=
 ⟨fun h q=>b9 h a e cs∧q a.block,fun x hp=>⟨x.1.ai hp x.2,x.2⟩,fun x hq=>⟨x.1,hq _ x.2⟩⟩
def sE {α:Type} (s:Sl) (k:Nat) (f:α→List Value) (l:List α):HP:=
 ⟨fun h q=>Seq h q s k f l,fun a hp=>a.ai hp,fun a hq=>a.mono hq⟩
def kQ {α:Type} (e:TypeId) (s:Sl) (k:Nat) (f:α→List Value) (ll:List (List α)):HP:=
 ⟨fun h q=>∃(rs:List Sl) (q1:aj),Own h e s 1 bg rs∧(∀b,s.on b→q b∧¬q1 b)∧(∀b,q1 b→q b)∧rs.length=ll.length∧∀(i:Nat) r l,rs[i]?=some r→ll[i]?=some l→Seq h q1 r k f l,
  fun⟨rs,q1,a,b,c,d,e⟩ hp=>⟨rs,q1,a.ai hp fun x hx=>(b x hx).1,b,c,d,fun i r l h1 h2=>(e i r l h1 h2).ai (hp.mono fun x _ hx=>c x hx)⟩,
  fun⟨rs,q1,a,b,c,d,e⟩ hq=>⟨rs,q1,a,fun x hx=>⟨hq x (b x hx).1,(b x hx).2⟩,fun x hx=>hq x (c x hx),d,e⟩⟩
structure aa (B:aj) (h0 h:Heap) (As:List HP):Prop where
 low:∀b,B b→b<h0.size
 ai:aD B h0 h
 ex:∃c:Nat→Nat,(∀b,B b→c b=0)∧∀(i:Nat) (A:HP),As[i]?=some A→A.p h (fun b=>b<h.size∧c b=i+1)
abbrev Sp (h0 h:Heap) (As:List HP):Prop:=aa (fun b=>b<h0.size) h0 h As
section
variable {B:aj} {h0 h h':Heap} {As Bs:List HP} {A A2 D:HP} {c:Nat→Nat} {i j:Nat}
theorem Sp.refl (h:Heap):Sp h h []:=⟨fun _ h=>h,aD.refl _ _,fun _=>0,fun _ _=>rfl,fun i A hi=>by simp at hi⟩
theorem aa.le (H:aa B h0 h As):h0.size≤h.size:=H.ai.1
theorem aa.at (H:aa B h0 h As) (i:Nat) (hi:As[i]?=some A):A.p h (fun b=>b<h.size):=by
 obtain⟨c,_,h2⟩:=H.ex
 exact A.mono (h2 i A hi) fun _ hb=>hb.1
theorem aa.fin (H:aa B h0 h As) (i:Nat) (hi:As[i]?=some A):A.p h (fun b=>¬B b∧b<h.size):=by
 obtain⟨c,h1,h2⟩:=H.ex
 exact A.mono (h2 i A hi) fun b hb=>⟨fun hlt=>by have:=h1 b hlt;omega,hb.1⟩
theorem Sp.fresh (H:Sp h0 h As) (i:Nat) (hi:As[i]?=some A):A.p h (fun b=>h0.size≤b∧b<h.size):=
 A.mono (aa.fin H i hi) fun b hb=>⟨by omega,hb.2⟩
theorem aa.comp (H:aa B h0 h As) (R:Sp h h' Bs):aa B h0 h' (As++Bs):=by
 obtain⟨lo,p1,c1,z1,a1⟩:=H
 obtain⟨_,p2,c2,z2,a2⟩:=R
 have hle:=p1.1
 refine⟨lo,p1.then p2 fun b hb _=>Nat.lt_of_lt_of_le hb hle,fun b=>if b<h.size then c1 b else if c2 b=0 then 0 else As.length+c2 b,fun b hb=>?_,fun i A hi=>?_⟩
 ·dsimp only;rw[if_pos (Nat.lt_of_lt_of_le (lo b hb) hle)];exact z1 b hb
 ·by_cases hl:i<As.length
  ·rw[List.getElem?_append_left hl]at hi
   refine A.mono (A.loc (a1 i A hi) (p2.mono fun b _ hb=>hb.1)) fun b hb=>⟨Nat.lt_of_lt_of_le hb.1 p2.1,?_⟩
   dsimp only;rw[if_pos hb.1];exact hb.2
  ·rw[List.getElem?_append_right (by omega)]at hi
   refine A.mono (a2 _ A hi) fun b hb=>⟨hb.1,?_⟩
   have:¬b<h.size:=fun hlt=>by have:=z2 b hlt;omega
   dsimp only;rw[if_neg this,if_neg (by omega)];omega
theorem aa.up (H:aa B h0 h As) (R:aD (fun b=>b<h.size) h h'):aa B h0 h' As:=by
 have:=H.comp (Bs:=[]) ⟨fun _ h=>h,R,fun _=>0,fun _ _=>rfl,fun i A hi=>by simp at hi⟩
 simpa using this
theorem Sp.one (R:aD (fun b=>b<h.size) h h') (ha:A.p h' (fun b=>h.size≤b∧b<h'.size)):Sp h h' [A]:=by
 refine⟨fun _ h=>h,R,fun b=>if b<h.size then 0 else 1,fun b hb=>if_pos hb,fun i A2 hi=>?_⟩
 cases i with
 |succ i=>simp at hi
 |zero=>
  simp at hi
  subst hi
  exact A.mono ha fun b hb=>⟨hb.2,by dsimp only;rw[if_neg (by omega)]⟩
theorem Sp.zip (R:aD (fun b=>b<h.size) h h'):Sp h h' []:=aa.up (Sp.refl h) R
theorem aa.enter (q:aj) (c:Nat→Nat) (hq:∀b,q b→b<h.size) (a:∀(i:Nat) (A:HP),As[i]?=some A→A.p h (fun b=>q b∧c b=i+1)):aa (fun b=>b<h.size∧¬q b) h h As:=by
 classical
 refine⟨fun b hb=>hb.1,aD.refl _ _,fun b=>if q b then c b else 0,fun b hb=>if_neg hb.2,fun i A hi=>A.mono (a i A hi) fun b hb=>⟨hq b hb.1,?_⟩⟩
 dsimp only;rw[if_pos hb.1];exact hb.2
theorem aa.Hi (q:aj) (hq:∀b,q b→b<h.size) (a:A.p h q):aa (fun b=>b<h.size∧¬q b) h h [A]:=
 .enter q (fun _=>1) hq fun i A2 hi=>by
  cases i with
  |succ i=>simp at hi
  |zero=>simp at hi;subst hi;exact A.mono a fun b hb=>⟨hb,rfl⟩
theorem aa.re (lo:∀b,B b→b<h0.size) (hp0:aD B h0 h) (z:∀b,B b→c b=0) (a:∀(i:Nat) (A:HP),As[i]?=some A→A.p h (fun b=>b<h.size∧c b=i+1))
  (hp:aD (fun b=>¬(b<h.size∧c b=i+1)) h h') (ha:D.p h' (fun b=>b<h'.size∧((b<h.size∧c b=i+1)∨h.size≤b))):aa B h0 h' (As.set i D):=by
 refine⟨lo,hp0.then hp fun b _ hb hn=>by have:=z b hb;omega,grow c h.size (i+1),fun b hb=>?_,fun j A hj=>?_⟩
 ·rw[cG (Nat.lt_of_lt_of_le (lo b hb) hp0.1)];exact z b hb
 ·rw[List.getElem?_set]at hj
  split at hj
  ·rename_i hij
   subst hij
   split at hj
   ·injection hj with hj
    subst hj
    refine D.mono ha fun b hb=>⟨hb.1,?_⟩
    rcases hb.2 with h1|h1
    ·rw[cG h1.1];exact h1.2
    ·exact sC h1
   ·cases hj
  ·rename_i hij
   refine A.mono (A.loc (a j A hj) (hp.mono fun b _ hb hn=>by omega)) fun b hb=>⟨Nat.lt_of_lt_of_le hb.1 hp.1,?_⟩
   rw[cG hb.1];exact hb.2
theorem aa.step (H:aa B h0 h As) (i:Nat) (hi:As[i]?=some A) (hs:∀q:aj,A.p h q→(∀b,q b→b<h.size)→aD (fun b=>¬q b) h h'∧D.p h' (fun b=>b<h'.size∧(q b∨h.size≤b))):aa B h0 h' (As.set i D):=by
 obtain⟨lo,p,c,z,a⟩:=H
 obtain⟨h1,h2⟩:=hs _ (a i A hi) fun b hb=>hb.1
 exact aa.re lo p z a h1 h2
theorem aa.fl (H:aa B h0 h As) (i:Nat) (hi:As[i]?=some A) (hs:∀q:aj,A.p h q→D.p h q):aa B h0 h (As.set i D):=
 H.step i hi fun q hq hlt=>⟨aD.refl _ _,D.mono (hs q hq) fun b hb=>⟨hlt b hb,.inl hb⟩⟩
theorem aa.merge (H:aa B h0 h As) (i j:Nat) (hij:i≠j) (hi:As[i]?=some A) (hj:As[j]?=some A2)
  (hm:∀q1 q2:aj,(∀b,q1 b→¬q2 b)→A.p h q1→A2.p h q2→D.p h (fun b=>q1 b∨q2 b)):aa B h0 h ((As.set i D).set j emp):=by
 obtain⟨lo,p,c,z,a⟩:=H
 refine⟨lo,p,fun b=>if c b=j+1 then i+1 else c b,fun b hb=>?_,fun k A' hk=>?_⟩
 ·have:=z b hb;dsimp only;rw[if_neg (by omega)];exact this
 ·rw[List.getElem?_set]at hk
  split at hk
  ·split at hk
   ·cases hk;trivial
   ·cases hk
  ·rename_i hjk
   rw[List.getElem?_set]at hk
   split at hk
   ·rename_i hik
    subst hik
    split at hk
    ·injection hk with hk
     subst hk
     refine D.mono (hm _ _ (fun b h1 h2=>by omega) (a i A hi) (a j A2 hj)) fun b hb=>?_
     rcases hb with h1|h1
     ·exact⟨h1.1,by dsimp only;rw[if_neg (by omega)];exact h1.2⟩
     ·exact⟨h1.1,by dsimp only;rw[if_pos h1.2]⟩
    ·cases hk
   ·rename_i hik
    refine A'.mono (a k A' hk) fun b hb=>⟨hb.1,?_⟩
    dsimp only;rw[if_neg (by omega)];exact hb.2
theorem aa.pick (H:aa B h0 h As) (f:Nat→Nat) (hf:∀i j,f i=f j→i=j) (hB:∀(i:Nat) (A2:HP),Bs[i]?=some A2→As[f i]?=some A2):aa B h0 h Bs:=by
 obtain⟨lo,p,c,z,a⟩:=H
 classical
 refine⟨lo,p,fun b=>if hb:∃i,c b=f i+1 then hb.choose+1 else 0,fun b hb=>?_,fun i A2 hi=>?_⟩
 ·have:=z b hb
  dsimp only
  rw[dif_neg]
  rintro⟨i,hi⟩
  omega
 ·refine A2.mono (a _ _ (hB i A2 hi)) fun b hb=>⟨hb.1,?_⟩
  have hex:∃i,c b=f i+1:=⟨i,hb.2⟩
  dsimp only
  rw[dif_pos hex]
  have h1:=hex.choose_spec
  have h2:=hf hex.choose i (by omega)
  rw[h2]
theorem aa.take (H:aa B h0 h As) (n:Nat) (hB:∀(i:Nat) (A2:HP),Bs[i]?=some A2→As[n+i]?=some A2):aa B h0 h Bs:=H.pick (fun i=>n+i) (fun _ _ h=>by omega) hB
end
section
variable {B:aj} {α:Type} {C:Ctx} {h0 h h':Heap} {As:List HP} {i e t t2:Nat} {s v:Sl} {k by_:Nat} {f:α→List Value} {l l2:List α} {a:Addr} {cs z:List Value} {p:aj} {ti:TI}
theorem aa.own (H:aa B h0 h As) (i:Nat) (hi:As[i]?=some (an e s k f l)):Own h e s k f l:=(H.at i hi).1
theorem aa.seq (H:aa B h0 h As) (i:Nat) (hi:As[i]?=some (an e s k f l)) (hw:∀x,(f x).length=k):Seq h (fun b=>b<h.size) s k f l:=(H.at i hi).1.seq hw (H.at i hi).2
theorem aa.rd (H:aa B h0 h As) (i:Nat) (hi:As[i]?=some (sE s k f l)):Seq h (fun b=>b<h.size) s k f l:=H.at i hi
theorem aa.box (H:aa B h0 h As) (i:Nat) (hi:As[i]?=some (aA a e cs)):b9 h a e cs:=(H.at i hi).1
theorem aa.hG (H:aa B h0 h As) (i:Nat) (hi:As[i]?=some (an e s k f l)) {β:Type} {e' k':Nat} {g:β→List Value} {l':List β} (hp:aD (fun b=>¬s.on b) h h') (ho:Own h' e' s k' g l'):aa B h0 h' (As.set i (an e' s k' g l')):=
 H.step i hi fun _ hq hlt=>⟨hp.mono fun b _ hb hon=>hb (hq.2 b hon),ho,fun b hb=>⟨Nat.lt_of_lt_of_le (hlt b (hq.2 b hb)) hp.1,.inl (hq.2 b hb)⟩⟩
theorem aa.rf (H:aa B h0 h As) (i:Nat) (hi:As[i]?=some (aA a e cs)) {cs':List Value} (hp:aD (fun b=>b≠a.block) h h') (ho:b9 h' a e cs'):aa B h0 h' (As.set i (aA a e cs')):=
 H.step i hi fun q hq hlt=>⟨hp.mono fun b _ hb hon=>hb (by rw[hon];exact hq.2),ho,⟨Nat.lt_of_lt_of_le (hlt _ hq.2) hp.1,.inl hq.2⟩⟩
theorem aa.freeze (H:aa B h0 h As) (i:Nat) (hi:As[i]?=some (an e s k f l)) (hw:∀x,(f x).length=k):aa B h0 h (As.set i (sE s k f l)):=H.fl i hi fun _ hq=>hq.1.seq hw hq.2
theorem aa.set (hC:C.Ok) (H:aa B h0 h As) (i:Nat) (hi:As[i]?=some (an e s k f l)) (hw:∀x,(f x).length=k) (ht:C.T.get t=some ti) {x:Int} (n:Nat) (hx:x=n) (hn:n<l.length) {val:Value} (y:α) (hv:val.cells=(f y).toArray) (hsz:ti.size=k)
  (hone:(f y).all (·.oneCell')=true) {K:Heap→Prop} (hk:∀h',aa B h0 h' (As.set i (an e s k f (l.set n y)))→K h'):
  ∃a:Addr,(s.ptr=some a∧0≤x∧x<((s.len:Nat):Int))∧ab C.P (Instr.storeAt t (.pointer (some (a.add (x.toNat*k)))) val) h fun _ h'=>K h':=
 (H.own i hi).set hC hw ht n hx hn y hv hsz hone fun h' z w _=>hk h' (H.hG i hi w z)
theorem aa.push (hC:C.Ok) (H:aa B h0 h As) (i:Nat) (hi:As[i]?=some (an e s k f l)) (he:bt C.tomV t e k z by_) (hz:z.length=k) (hby:0<by_∧by_≤128) (hw:∀x,(f x).length=k)
  (hone:∀x,∀c∈f x,c.oneCell'=true) (x:α) {parts:Array (Nat×Value)} (hfill:Instr.fill (fun i=>some (i*k,k)) (dX z 1).toArray parts.toList=some ([x].flatMap f).toArray)
  (hk1:1*k≤2^20) (hsz:l.length+1≤2^32) {ty:Nat} {K:Sl→Heap→Prop}
  (hk:∀s' h',aa B h0 h' (As.set i (an e s' k f (l++[x])))→K s' h'):
  aw C.P (Instr.buildSlice t 1 parts) (.one (.sc .slc)) h fun v h1=>aw C.P (Builtin.append_ #[t,t] ty #[.slice s.ptr s.len s.cap,.slice v.ptr v.len v.cap]) (.one (.sc .slc)) h1 K:=by
 obtain⟨lo,pp,c,zz,a⟩:=H
 have ha:=a i _ hi
 have ho:dY h c (i+1) e s k f l:=⟨ha.1,fun b hb=>(ha.2 b hb).2⟩
 refine ho.push hC he hz hby hw hone x hfill hk1 hsz fun s' h' ho' hp'=>hk s' h' ?_
 refine aa.re lo pp zz a (hp'.mono fun b hb hn hc=>hn ⟨hb,hc⟩) ⟨ho'.own,fun b hb=>⟨ho'.own.lt hb,?_⟩⟩
 have:=ho'.aV b hb
 by_cases hlt:b<h.size
 ·rw[cG hlt]at this;exact .inl ⟨hlt,this⟩
 ·exact .inr (by omega)
theorem aa.append (hC:C.Ok) (H:aa B h0 h As) (i:Nat) (hi:As[i]?=some (an e s k f l)) (he:bt C.tomV t e k z by_) (h2:∃i e2,C.T.get t2=some i∧i.bE=.slice e2) (hz:z.length=k) (hby:0<by_∧by_≤128) (hw:∀x,(f x).length=k)
  (hv:Seq h p v k f l2) (hone:∀x,∀c∈f x,c.oneCell'=true) (hsz:l.length+l2.length≤2^32) {ty:Nat} {K:Sl→Heap→Prop}
  (hk:∀s' h',aa B h0 h' (As.set i (an e s' k f (l++l2)))→K s' h'):
  aw C.P (Builtin.append_ #[t,t2] ty #[.slice s.ptr s.len s.cap,.slice v.ptr v.len v.cap]) (.one (.sc .slc)) h K:=by
 obtain⟨lo,pp,c,zz,a⟩:=H
 have ha:=a i _ hi
 have ho:dY h c (i+1) e s k f l:=⟨ha.1,fun b hb=>(ha.2 b hb).2⟩
 refine ho.append hC he h2 hz hby hw hv hone hsz fun s' h' ho' hp'=>hk s' h' ?_
 refine aa.re lo pp zz a (hp'.mono fun b hb hn hc=>hn ⟨hb,hc⟩) ⟨ho'.own,fun b hb=>⟨ho'.own.lt hb,?_⟩⟩
 have:=ho'.aV b hb
 by_cases hlt:b<h.size
 ·rw[cG hlt]at this;exact .inl ⟨hlt,this⟩
 ·exact .inr (by omega)
theorem B0 {h h':Heap} {n:Nat} (hn:n=h.size) (ho:Own h' e s k f l) (hp:s.ptr=some ⟨n,0,none⟩) (hpr:aD (fun _=>True) h h'):Sp h h' [an e s k f l]:=
 .one (any hpr) ⟨ho,fun b hb=>⟨by obtain⟨o,hb⟩:=hb;rw[hp]at hb;cases hb;omega,ho.lt hb⟩⟩
theorem aa.make (hC:C.Ok) (H:aa B h0 h As) (f:α→List Value) (he:bt C.tomV t e k z by_) (hby:0<by_∧by_≤128) (x0:α) (hz:f x0=z) (hk0:z.length=k) {k1 k2:IntKind} {n cc:Int} (m mc:Nat) (hn:n=m) (hc:cc=mc) (hle:m≤mc) (hsm:mc≤2^32)
  {K:Sl→Heap→Prop} (hk:∀s' h',s'.len=m→s'.cap=mc→aa B h0 h' (As++[an e s' k f (List.replicate m x0)])→K s' h'):
  aw C.P (Instr.makeSlice t (.int k1 n) (.int k2 cc)) (.one (.sc .slc)) h K:=
 run_make hC he hby x0 hz hk0 m mc hn hc hle hsm fun s' h' x y w zz _=>hk s' h' (by rw[x.len];simp) w (H.comp (B0 rfl x y zz))
theorem aa.lit (hC:C.Ok) (H:aa B h0 h As) (f:α→List Value) (he:bt C.tomV t e k z by_) (hk0:z.length=k) {n:Nat} {parts:Array (Nat×Value)} (l:List α) (hn:l.length=n) (hnk:n*k≤2^20)
  (hfill:Instr.fill (fun i=>some (i*k,k)) (dX z n).toArray parts.toList=some (l.flatMap f).toArray) {K:Sl→Heap→Prop}
  (hk:∀s' h',aa B h0 h' (As++[an e s' k f l])→K s' h'):
  aw C.P (Instr.buildSlice t n parts) (.one (.sc .slc)) h K:=
 BZ hC he hk0 l hn hnk hfill fun s' h' x y zz _=>hk s' h' (H.comp (B0 rfl x y zz))
theorem B1 {h h':Heap} (hn:a.block=h.size) (ho:b9 h' a e cs) (hpr:aD (fun _=>True) h h'):Sp h h' [aA a e cs]:=
 .one (any hpr) ⟨ho,by omega,ho.lt⟩
theorem aa.alloc (hC:C.Ok) (H:aa B h0 h As) (hi:C.T.get t=some ti) {K:Addr→Heap→Prop} (hk:∀a h',aa B h0 h' (As++[aA a t ti.zero])→K a h'):
  aU C.P (Instr.alloc t true (.tuple #[])) h K:=
 Dx hC hi fun a h' x y zz _=>hk a h' (H.comp (B1 x y zz))
theorem aa.boxed (H:aa B h0 h As) {P:Program} {v:Value} {K:Addr→Heap→Prop} (hk:∀a h',aa B h0 h' (As++[aA a t v.cells.toList])→K a h'):
  aU P (Instr.box t v) h K:=
 GD fun a h' x y zz _=>hk a h' (H.comp (B1 x y zz))
theorem aa.store (hC:C.Ok) (H:aa B h0 h As) (i:Nat) (hi:As[i]?=some (aA a e cs)) (ht:C.T.get t=some ti) (off:Nat) {v:Value} (vs:List Value) (hv:v.cells=vs.toArray) (hsz:ti.size=vs.length)
  (hone:vs.all (·.oneCell')=true) (hfit:off+vs.length≤cs.length) {K:Unit→Heap→Prop}
  (hk:∀h',aa B h0 h' (As.set i (aA a e (cs.take off++vs++cs.drop (off+vs.length))))→K () h'):
  ab C.P (Instr.storeAt t (.pointer (some (a.add off))) v) h K:=
 run_store hC (H.box i hi) ht off vs hv hsz hone hfit fun h' x y _=>hk h' (H.rf i hi y x)
theorem aa.yW (hC:C.Ok) (H:aa B h0 h As) (i:Nat) (hi:As[i]?=some (aA a e cs)) (ht:C.T.get t=some ti) {v:Value} (vs:List Value) (hv:v.cells=vs.toArray) (hsz:ti.size=vs.length)
  (hone:vs.all (·.oneCell')=true) (hfit:vs.length≤cs.length) {K:Unit→Heap→Prop}
  (hk:∀h',aa B h0 h' (As.set i (aA a e (vs++cs.drop vs.length)))→K () h'):
  ab C.P (Instr.storeAt t (.pointer (some a)) v) h K:=
 H.store hC i hi ht 0 vs hv hsz hone (by omega) (fun h' x=>hk h' (by simpa using x))
theorem aa.copy (hC:C.Ok) (H:aa B h0 h As) (i:Nat) (hi:As[i]?=some (an e s k f l)) (he:bt C.tomV t e k z by_) (hw:∀x,(f x).length=k) (hv:Seq h p v k f l2) (hlen:l2.length=l.length) (hone:∀x,∀c∈f x,c.oneCell'=true) {ty:Nat} {K:Int→Heap→Prop}
  (hk:∀h',aa B h0 h' (As.set i (an e s k f l2))→K l2.length h'):
  aw C.P (Builtin.copy_ #[t,t2] ty #[.slice s.ptr s.len s.cap,.slice v.ptr v.len v.cap]) (.one (.sc (.int .i64))) h K:=
 (H.own i hi).copy hC he hw hv hlen hone fun h' x y _=>hk h' (H.hG i hi y x)
theorem aa.Hg (hC:C.Ok) (H:aa B h0 h As) (i:Nat) (hi:As[i]?=some (an e s k f l)) (hw:∀x,(f x).length=k) (ht:C.T.get t=some ti) {x:Int} (n cp:Nat) (hx:x=n) (hn:l.length≤n) (hn2:n<s.cap) (hcp:cp=s.cap) {val:Value} (y:α) (hv:val.cells=(f y).toArray) (hsz:ti.size=k)
  (hone:(f y).all (·.oneCell')=true) {K:Heap→Prop} (hk:∀h',aa B h0 h' (As.set i (an e s k f l))→K h'):
  ∃a:Addr,(s.ptr=some a∧0≤x∧x<((cp:Nat):Int))∧ab C.P (Instr.storeAt t (.pointer (some (a.add (x.toNat*k)))) val) h fun _ h'=>K h':=
 (H.own i hi).Hg hC hw ht n cp hx hn hn2 hcp y hv hsz hone fun h' z w _=>hk h' (H.hG i hi w z)
theorem aa.nil (H:aa B h0 h As) (e k:Nat) (f:α→List Value):aa B h0 h (As++[an e ⟨none,0,0⟩ k f []]):=
 H.comp (.one (aD.refl _ _) ⟨Own.nil h e k f,fun b hb=>by obtain⟨o,hb⟩:=hb;cases hb⟩)
theorem aa.Gh (H:aa B h0 h As) (e k:Nat) (f:α→List Value):aa B h0 h (As++[kQ e ⟨none,0,0⟩ k f []]):=
 H.comp (.one (aD.refl _ _) ⟨[],fun _=>False,Own.nil h e 1 bg,fun b hb=>(by obtain⟨o,hb⟩:=hb;cases hb),fun _ hb=>hb.elim,rfl,fun i r l h=>by simp at h⟩)
theorem aa.GF (hC:C.Ok) (H:aa B h0 h As) (i j:Nat) (hij:i≠j) {ll:List (List α)} {r:Sl} {x:List α} (hi:As[i]?=some (kQ e s k f ll)) (hj:As[j]?=some (sE r k f x)) (he:bt C.tomV t e 1 [.slice none 0 0] 24)
  (hsz:ll.length+1≤2^32) {ty:Nat} {K:Sl→Heap→Prop} (hk:∀s' h',aa B h0 h' ((As.set j emp).set i (kQ e s' k f (ll++[x])))→K s' h'):
  aw C.P (Instr.buildSlice t 1 #[(0,.slice r.ptr r.len r.cap)]) (.one (.sc .slc)) h fun v h1=>aw C.P (Builtin.append_ #[t,t] ty #[.slice s.ptr s.len s.cap,.slice v.ptr v.len v.cap]) (.one (.sc .slc)) h1 K:=by
 have H2:=H.merge i j hij hi hj (D:=⟨fun h q=>∃(rs:List Sl) (q1:aj),Own h e s 1 bg rs∧(∀b,s.on b→q b∧¬q1 b)∧(∀b,q1 b→q b)∧rs.length=ll.length∧(∀(i:Nat) r l,rs[i]?=some r→ll[i]?=some l→Seq h q1 r k f l)∧Seq h q1 r k f x,
  fun⟨rs,q1,a,b,c,d,e,f⟩ hp=>⟨rs,q1,a.ai hp fun x hx=>(b x hx).1,b,c,d,fun i r l h1 h2=>(e i r l h1 h2).ai (hp.mono fun x _ hx=>c x hx),f.ai (hp.mono fun x _ hx=>c x hx)⟩,
  fun⟨rs,q1,a,b,c,d,e,f⟩ hq=>⟨rs,q1,a,fun x hx=>⟨hq x (b x hx).1,(b x hx).2⟩,fun x hx=>hq x (c x hx),d,e,f⟩⟩)
  (fun q1 q2 hd hA hB=>by
   obtain⟨rs,q3,a,b,c,d,e'⟩:=hA
   refine⟨rs,fun b=>q3 b∨q2 b,a,fun x hx=>⟨.inl (b x hx).1,fun hh=>hh.elim (b x hx).2 (hd x (b x hx).1)⟩,fun x hx=>hx.elim (fun h=>.inl (c x h)) .inr,d,fun i r l h1 h2=>(e' i r l h1 h2).mono fun _ h=>.inl h,Seq.mono hB fun _ h=>.inr h⟩)
 have hlt:i<As.length:=(List.getElem?_eq_some_iff.1 hi).1
 obtain⟨lo,pp,c,zz,a⟩:=H2
 have ha:=a i _ (by rw[List.getElem?_set_ne (Ne.symm hij),List.getElem?_set_self hlt])
 obtain⟨rs,q1,a1,a2,a3,a4,a5,a6⟩:=ha
 let c':Nat→Nat:=fun b=> @ite _ (q1 b) (Classical.propDecidable _) (As.length+2) (c b)
 have hn1:∀b,q1 b→b<h.size∧c b=i+1:=a3
 have ho:dY h c' (i+1) e s 1 bg rs:=⟨a1,fun b hb=>by
  have:=a2 b hb
  show @ite _ (q1 b) (Classical.propDecidable _) _ _=_
  rw[if_neg this.2];exact this.1.2⟩
 refine ho.push hC he rfl (by decide) (fun _=>rfl) jg r rfl (by decide) (by omega) fun s' h' ho' hp'=>hk s' h' ?_
 rw[List.set_comm _ _ (Ne.symm hij)]
 rw[←List.set_set (l:=As) (i:=i),List.set_comm _ _ hij]
 have hq1:∀b,q1 b→c' b≠i+1:=fun b hb=>by
  show @ite _ (q1 b) (Classical.propDecidable _) _ _≠_
  rw[if_pos hb];omega
 refine aa.re lo pp zz a (hp'.mono fun b hb hn hc=>hn ⟨hb,?_⟩) ⟨rs++[r],fun b=>q1 b∧b<h.size,ho'.own,fun b hb=>?_,fun b hb=>⟨Nat.lt_of_lt_of_le hb.2 hp'.1,.inl ⟨hb.2,(hn1 b hb.1).2⟩⟩,by simp[a4],fun i' r' l' h1 h2=>?_⟩
 ·by_cases hb1:q1 b
  ·exact(hn1 b hb1).2
  ·have hc': @ite _ (q1 b) (Classical.propDecidable _) (As.length+2) (c b)=i+1:=hc
   rw[if_neg hb1]at hc';exact hc'
 ·have hcol:=ho'.aV b hb
  by_cases hlt:b<h.size
  ·rw[cG hlt]at hcol
   have hnb:¬q1 b:=fun hb1=>hq1 b hb1 hcol
   have hc': @ite _ (q1 b) (Classical.propDecidable _) (As.length+2) (c b)=i+1:=hcol
   rw[if_neg hnb]at hc'
   exact⟨⟨ho'.own.lt hb,.inl ⟨hlt,hc'⟩⟩,fun hh=>hnb hh.1⟩
  ·exact⟨⟨ho'.own.lt hb,.inr (by omega)⟩,fun hh=>hlt hh.2⟩
 ·have key:∀{rr:Sl} {l:List α},Seq h q1 rr k f l→Seq h' (fun b=>q1 b∧b<h.size) rr k f l:=fun hs=>
   (hs.mono (q:=fun b=>q1 b∧b<h.size) fun b hb=>⟨hb,(hn1 b hb).1⟩).ai (hp'.mono fun b _ hb=>hq1 b hb.1)
  by_cases hi':i'<rs.length
  ·rw[List.getElem?_append_left hi']at h1
   rw[List.getElem?_append_left (by omega)]at h2
   exact key (a5 i' r' l' h1 h2)
  ·have:i'=rs.length:=by
    have:=(List.getElem?_eq_some_iff.1 h1).1
    simp at this;omega
   subst this
   simp at h1
   rw[a4]at h2
   simp at h2
   subst h1;subst h2
   exact key a6
theorem aa.rows (H:aa B h0 h As) (i:Nat) {ll:List (List α)} (hi:As[i]?=some (kQ e s k f ll)):∃rs,gy h (fun b=>b<h.size) s k f ll rs:=by
 obtain⟨rs,q1,a,b,c,d,e⟩:=H.at i hi
 exact⟨rs,a.seq (fun _=>rfl) fun x hx=>(b x hx).1,d,fun i r l h1 h2=>(e i r l h1 h2).mono c⟩
end
end Go.Vc
namespace Go.Vc
open Go
theorem E5 (vs:List Value):∀(pre old post:List Value),old.length=vs.length→((vs.zipIdx 0).foldl (fun(cs:Array Value) (p:Value×Nat)=>cs.setIfInBounds (pre.length+p.2) p.1) (pre++old++post).toArray)=(pre++vs++post).toArray:=by
 have key:∀(vs pre old post:List Value) (k:Nat),old.length=vs.length→pre.length=pre.length→∀n,n+k=pre.length→((vs.zipIdx k).foldl (fun(cs:Array Value) (p:Value×Nat)=>cs.setIfInBounds (n+p.2) p.1) (pre++old++post).toArray)=(pre++vs++post).toArray:=by
  intro vs
  induction vs with
  |nil=>intro pre old post k h1 _ n _;rw[List.eq_nil_of_length_eq_zero h1];rfl
  |cons v vs ih=>
   intro pre old post k h1 _ n hn
   cases old with
   |nil=>simp at h1
   |cons u old=>
    rw[List.zipIdx_cons,List.foldl_cons]
    have e:(pre++(u::old)++post).toArray.setIfInBounds (n+k) v=((pre++[v])++old++post).toArray:=by
     rw[hn];apply Array.ext';simp
    dsimp only
    rw[e,ih (pre++[v]) old post (k+1) (by simpa using h1) rfl n (by simp;omega)]
    simp
 intro pre old post h
 exact key vs pre old post 0 h rfl pre.length (by omega)
theorem yZ {place:Nat→Option (Nat×Nat)} {i:Nat} {v:Value} {vs pre old post:List Value} {rest:List (Nat×Value)} (hv:v.cells=vs.toArray) (hp:place i=some (pre.length,vs.length)) (ho:old.length=vs.length):
  Instr.fill place (pre++old++post).toArray ((i,v)::rest)=Instr.fill place (pre++vs++post).toArray rest:=by
 conv=>lhs;unfold Instr.fill
 simp only[hp,hv]
 rw[if_neg (by simp;omega)]
 congr 1
 have:=E5 vs pre old post ho
 simpa using this
section
variable {C:Ctx} {t:Nat} {i:TI} {h:Heap}
theorem pL (hC:C.Ok) (hi:C.T.get t=some i) {fs:List (Nat×TypeId)} (hfs:i.bE=.struct fs) {ps:List (Nat×Nat)} (hps:placesOf C.T fs=some ps) {vs:List (Nat×Value)} {cells:Array Value}
  (hcells:Instr.fill (fun n=>ps[n]?) i.zero.toArray vs=some cells):ao C.P (Instr.build t vs.toArray) (.agg cells):=by
 obtain⟨z,hz,hzc⟩:=j4 hC.toOk hi
 have hzc':i.zero.toArray=z.cells:=by rw[←hzc]
 have hd:=hC.bE hi
 rw[hfs]at hd
 obtain⟨gs,hg,rfl⟩:=je hd
 refine hz.bind ((aq hg).bind ?_)
 have hpl:ao C.P (gs.mapM fun f=>(do pure (f.offset,←sizeOf f.type):Sem (Nat×Nat))) ps.toArray:=by
  rw[Array.mapM_eq_mapM_toList]
  intro w
  have:=iA hC.toOk hps w
  rw[map_eq_pure_bind,Sem.run_bind,this]
  rfl
 refine hpl.bind ?_
 have hcc:Instr.fill (fun n=>ps.toArray[n]?) z.cells vs.toArray.toList=some cells:=by
  rw[←hzc'];simpa using hcells
 rw[hcc]
 exact .pure
end
theorem take_set {α:Type} (l:List α) (n:Nat) (x:α) (h:n<l.length):l.take n++[x]++l.drop (n+1)=l.set n x:=by
 rw[List.set_eq_take_append_cons_drop,if_pos h];simp
section
variable {B:aj} {C:Ctx} {h0 h h':Heap} {As:List HP} {e t:Nat} {a:Addr} {cs:List Value} {ti:TI}
theorem aa.storeAt (hC:C.Ok) (H:aa B h0 h As) (i:Nat) (hi:As[i]?=some (aA a e cs)) (ht:C.T.get t=some ti) {off:Nat} {v:Value} (hv:v.cells=#[v]) (hsz:ti.size=1)
  (hone:v.oneCell'=true) (hfit:off<cs.length) {K:Unit→Heap→Prop}
  (hk:∀h',aa B h0 h' (As.set i (aA a e (cs.set off v)))→K () h'):
  ab C.P (Instr.storeAt t (.pointer (some (a.add off))) v) h K:=
 H.store hC i hi ht off [v] hv hsz (by simp[hone]) (by simp;omega) fun h' x=>hk h' (by rw[←take_set _ _ _ hfit];simpa using x)
theorem aa.storeAll (hC:C.Ok) (H:aa B h0 h As) (i:Nat) (hi:As[i]?=some (aA a e cs)) (ht:C.T.get t=some ti) {v:Value} (vs:List Value) (hv:v.cells=vs.toArray) (hsz:ti.size=vs.length)
  (hone:vs.all (·.oneCell')=true) (hfit:vs.length=cs.length) {K:Unit→Heap→Prop}
  (hk:∀h',aa B h0 h' (As.set i (aA a e vs))→K () h'):
  ab C.P (Instr.storeAt t (.pointer (some a)) v) h K:=
 H.yW hC i hi ht vs hv hsz hone (by omega) fun h' x=>hk h' (by rw[List.drop_of_length_le (by omega),List.append_nil]at x;exact x)
end
theorem tT (n:Nat) (hn:n≤9223372036854775807):IntKind.wrap .i64 (n:Int)=n:=wrap_small _ (by omega) (by omega)
end Go.Vc
namespace Go.Vc
open Go
abbrev Rd {α:Type} (h:Heap) (s:Sl) (k:Nat) (f:α→List Value) (l:List α):Prop:=Seq h (fun b=>b<h.size) s k f l
abbrev eW {α:Type} (h:Heap) (s:Sl) (k:Nat) (f:α→List Value) (ll:List (List α)):Prop:=∃rs,gy h (fun b=>b<h.size) s k f ll rs
section
variable {α:Type} {B:aj} {h0 h h':Heap} {As:List HP} {s:Sl} {k e:Nat} {f:α→List Value} {l:List α} {ll:List (List α)}
theorem eW.up (hs:eW h s k f ll) (hp:aD (fun b=>b<h.size) h h'):eW h' s k f ll:=by
 obtain⟨rs,hs⟩:=hs;exact⟨rs,gy.up hs hp⟩
theorem eW.len (hs:eW h s k f ll):s.len=ll.length:=by obtain⟨rs,hs⟩:=hs;exact hs.Iq
theorem eW.get (hs:eW h s k f ll) {i:Int} (n:Nat) (hi:i=n) (hn:n<ll.length) {K:Sl→Prop} (hk:∀r,Rd h r k f ll[n]→K r):
  ∃a:Addr,(s.ptr=some a∧0≤i∧i<((s.len:Nat):Int))∧∃x:Sl,cellOf h (a.add (i.toNat*1))=some (.slice x.ptr x.len x.cap)∧K x:=by
 obtain⟨rs,hs⟩:=hs;exact hs.get n hi hn fun r hr _=>hk r hr
theorem Seq.isSome {p:aj} (hs:Seq h p s k f l) (hl:l≠[]):s.ptr.isNone=false:=by
 cases l with
 |nil=>exact absurd rfl hl
 |cons x t=>obtain⟨b,o,h1,_⟩:=hs.elem 0 x (by simp);rw[h1];rfl
theorem Seq.isNil {p:aj} (hs:Seq h p s k f l) (hl:s.ptr.isNone=true):l=[]:=by
 cases l with
 |nil=>rfl
 |cons x t=>rw[hs.isSome (by simp)]at hl;cases hl
theorem aa.B2 (H:aa B h0 h As) (i:Nat) (hi:As[i]?=some (kQ e s k f ll)):eW h s k f ll:=H.rows i hi
end
end Go.Vc
namespace Go.Vc
open Go
section
variable {B:aj} {h0 h h':Heap} {As Bs:List HP} {A D:HP}
theorem aa.del (H:aa B h0 h As) (i:Nat):aa B h0 h (As.eraseIdx i):=
 H.pick (fun j=>if j<i then j else j+1) (fun a b hab=>by split at hab<;>split at hab<;>omega) fun j A hj=>by
  rw[List.getElem?_eraseIdx]at hj
  split at hj
  ·rename_i hlt;rw[if_pos hlt];exact hj
  ·rename_i hlt;rw[if_neg hlt];exact hj
theorem aa.call (H:aa B h0 h As) (i:Nat) (hi:As[i]?=some A) (q:aj) (hq:∀q':aj,A.p h q'→∀b,q b→q' b) (R:aa (fun b=>b<h.size∧¬q b) h h' (D::Bs)):aa B h0 h' (As.set i D++Bs):=by
 classical
 obtain⟨lo,p1,c1,z1,a1⟩:=H
 obtain⟨_,p2,c2,z2,a2⟩:=R
 have hle:=p1.1
 have hlen:=(List.getElem?_eq_some_iff.1 hi).1
 have hqc:∀b,q b→b<h.size∧c1 b=i+1:=hq _ (a1 i A hi)
 have nq:∀b,B b→b<h.size∧¬q b:=fun b hb=>⟨Nat.lt_of_lt_of_le (lo b hb) hle,fun hh=>by have:=z1 b hb;have:=hqc b hh;omega⟩
 let c:Nat→Nat:=fun b=>if b<h.size∧¬q b then(if c1 b=i+1 then 0 else c1 b)else if c2 b=0 then 0 else if c2 b=1 then i+1 else As.length+c2 b-1
 have cold:∀b,b<h.size∧¬q b→c1 b≠i+1→c b=c1 b:=fun b hb hn=>by show ite _ _ _=_;rw[if_pos hb,if_neg hn]
 have cnew:∀b,c2 b≠0→c b=if c2 b=1 then i+1 else As.length+c2 b-1:=fun b hb=>by
  have:¬(b<h.size∧¬q b):=fun hh=>hb (z2 b hh)
  show ite _ _ _=_;rw[if_neg this,if_neg hb]
 refine⟨lo,p1.then p2 fun b _ hb=>nq b hb,c,fun b hb=>?_,fun k A' hk=>?_⟩
 ·have:=z1 b hb
  rw[cold b (nq b hb) (by omega)];exact this
 ·by_cases hl:k<As.length
  ·rw[List.getElem?_append_left (by simpa using hl),List.getElem?_set]at hk
   split at hk
   ·rename_i hik
    subst hik
    injection hk with hk
    subst hk
    refine D.mono (a2 0 D rfl) fun b hb=>⟨hb.1,?_⟩
    rw[cnew b (by omega),if_pos hb.2]
   ·rename_i hik
    have hnq:∀b,b<h.size∧c1 b=k+1→b<h.size∧¬q b:=fun b hb=>⟨hb.1,fun hh=>by have:=hqc b hh;omega⟩
    refine A'.mono (A'.loc (a1 k A' hk) (p2.mono fun b _ hb=>hnq b hb)) fun b hb=>⟨Nat.lt_of_lt_of_le hb.1 p2.1,?_⟩
    rw[cold b (hnq b hb) (by omega)];exact hb.2
  ·rw[List.getElem?_append_right (by simpa using hl)]at hk
   rw[List.length_set]at hk
   have h2:=a2 (k-As.length+1) A' (by simpa using hk)
   refine A'.mono h2 fun b hb=>⟨hb.1,?_⟩
   rw[cnew b (by omega),if_neg (by omega)];omega
end
end Go.Vc
namespace Go.Vc
open Go
section
variable {B:aj} {α:Type} {h0 h h':Heap} {As Bs:List HP} {A D:HP} {e k:Nat} {s:Sl} {f:α→List Value} {l:List α}
theorem aa.off (H:aa B h0 h As) (i j:Nat) (hij:i≠j) (hi:As[i]?=some (an e s k f l)) (hj:As[j]?=some A):A.p h (fun b=>b<h.size∧¬s.on b):=by
 obtain⟨_,_,c,_,a⟩:=H
 refine A.mono (a j A hj) fun b hb=>⟨hb.1,fun hon=>?_⟩
 have:=(a i _ hi).2 b hon
 omega
theorem aa.base (H:aa B h0 h As) (i:Nat) (hi:As[i]?=some (an e s k f l)) {b:Nat} (hb:B b):¬s.on b:=fun hon=>by
 obtain⟨_,_,c,z,a⟩:=H
 have:=(a i _ hi).2 b hon
 have:=z b hb
 omega
theorem aa.Hj (H:aa B h0 h (As++[D])) (i:Nat) (hi:i<As.length):aa B h0 h (As.set i D):=
 H.pick (fun j=>if j<As.length then(if j=i then As.length else j)else j+1) (fun a b hab=>by split at hab<;>split at hab<;>(try split at hab)<;>(try split at hab)<;>omega) fun j A hj=>by
  have hlt:j<As.length:=by have:=(List.getElem?_eq_some_iff.1 hj).1;simpa using this
  rw[if_pos hlt]
  rw[List.getElem?_set]at hj
  split at hj
  ·rename_i hij
   subst hij
   rw[if_pos rfl,List.getElem?_append_right (Nat.le_refl _),Nat.sub_self]
   exact hj
  ·rename_i hij
   rw[if_neg (fun hh=>hij hh.symm),List.getElem?_append_left hlt];exact hj
theorem aa.Gi (H:aa B h0 h As) (i j:Nat) {A2:HP} (hi:As[i]?=some A) (hj:As[j]?=some A2):aa B h0 h ((As.set i A2).set j A):=by
 have hil:=(List.getElem?_eq_some_iff.1 hi).1
 have hjl:=(List.getElem?_eq_some_iff.1 hj).1
 refine H.pick (fun x=>if x=j then i else if x=i then j else x) (fun a b hab=>by split at hab<;>split at hab<;>(try split at hab)<;>(try split at hab)<;>omega) fun x A3 hx=>?_
 rw[List.getElem?_set,List.getElem?_set]at hx
 by_cases h1:j=x
 ·subst h1
  simp[hjl]at hx
  subst hx;simpa using hi
 ·by_cases h2:i=x
  ·subst h2
   simp[h1,hil]at hx
   subst hx
   rw[if_neg (fun hh=>h1 hh.symm),if_pos rfl];exact hj
  ·simp[h1,h2]at hx
   rw[if_neg (fun hh=>h1 hh.symm),if_neg (fun hh=>h2 hh.symm)];exact hx
end
def bn {α:Type} (e k:Nat) (f:α→List Value) (rs:List Sl) (ll:List (List α)):List HP:=List.zipWith (fun r l=>an e r k f l) rs ll
section
variable {α:Type} {e k:Nat} {f:α→List Value} {rs:List Sl} {ll:List (List α)}
theorem gv (h:rs.length=ll.length):(bn e k f rs ll).length=ll.length:=by simp[bn,h]
theorem dq (h:rs.length=ll.length) (i:Nat) (hi:i<ll.length):(bn e k f rs ll)[i]?=some (an e (rs[i]'(by omega)) k f ll[i]):=by
 have h1:i<rs.length:=by omega
 simp[bn,List.getElem?_zipWith,List.getElem?_eq_getElem hi,List.getElem?_eq_getElem h1]
theorem pM (h:rs.length=ll.length) (r:Sl) (l:List α):bn e k f (rs++[r]) (ll++[l])=bn e k f rs ll++[an e r k f l]:=by
 unfold bn;rw[List.zipWith_append h];rfl
theorem j7 (h:rs.length=ll.length) (i:Nat) (r:Sl) (l:List α):(bn e k f rs ll).set i (an e r k f l)=bn e k f (rs.set i r) (ll.set i l):=by
 apply List.ext_getElem?
 intro j
 simp only[bn,List.getElem?_set,List.getElem?_zipWith,List.length_zipWith]
 by_cases hij:i=j
 ·subst hij
  by_cases hi:i<ll.length
  ·have:i<rs.length:=by omega
   simp[hi,this];omega
  ·have:¬i<rs.length:=by omega
   simp[hi];omega
 ·simp[hij]
theorem y0 (h:rs.length=ll.length) (i:Nat) (hi:i<ll.length) (l:List α):(bn e k f rs ll).set i (an e (rs[i]'(by omega)) k f l)=bn e k f rs (ll.set i l):=by
 rw[j7 h,List.set_getElem_self]
theorem aa.B3 {B:aj} {h0 h:Heap} {s:Sl} {e1:Nat} (H:aa B h0 h (an e1 s 1 bg rs::bn e k f rs ll)) (hl:rs.length=ll.length) (hw:∀x,(f x).length=k):eW h s k f ll:=by
 refine⟨rs,H.seq 0 rfl (fun _=>rfl),hl,fun i r l h1 h2=>?_⟩
 have hi:i<ll.length:=(List.getElem?_eq_some_iff.1 h2).1
 have hg:=dq (e:=e) (k:=k) (f:=f) hl i hi
 have h3:=H.seq (i+1) (by simpa using hg) hw
 have e1:rs[i]'(by omega)=r:=by rw[List.getElem?_eq_getElem (by omega)]at h1;simpa using h1
 have e2:ll[i]=l:=by rw[List.getElem?_eq_getElem hi]at h2;simpa using h2
 rw[e1,e2]at h3;exact h3
end
end Go.Vc
namespace Go.Vc
open Go
section
variable {α:Type} {h:Heap} {p:aj} {s:Sl} {f:α→List Value} {l:List α}
theorem Seq.Cx {X:Type} {g:X→Value} (hs:Seq h p s 1 f l) {i:Int} (n:Nat) (hi:i=n) (hn:n<l.length) (x:X) (hx:f l[n]=[g x]) {K:Addr→X→Prop} (hk:∀a:Addr,cellOf h (a.add (i.toNat*1))=some (g x)→K a x):
  ∃a:Addr,(s.ptr=some a∧0≤i∧i<((s.len:Nat):Int))∧∃x:X,cellOf h (a.add (i.toNat*1))=some (g x)∧K a x:=by
 subst hi
 obtain⟨b,o,h1,_,h3⟩:=hs.elem n l[n] (List.getElem?_eq_getElem hn)
 rw[hx]at h3
 have h4:=h3.1
 rw[add_eq,Nat.add_zero]at h4
 have h5:cellOf h ((⟨b,o,none⟩:Addr).add ((n:Int).toNat*1))=some (g x):=by rw[add_eq];simpa using h4
 exact⟨_,⟨h1,by omega,by rw[hs.len];omega⟩,x,h5,hk _ h5⟩
end
end Go.Vc
namespace Go.Vc
open Go
theorem Seq.lu {h:Heap} {p:aj} {s:Sl} {rs:List Sl} (hs:Seq h p s 1 bg rs) {i:Int} (n:Nat) (hi:i=n) (hn:n<rs.length) {K:Addr→Sl→Prop}
  (hk:∀a:Addr,cellOf h (a.add (i.toNat*1))=some (.slice rs[n].ptr rs[n].len rs[n].cap)→p (a.add (i.toNat*1)).block→K a rs[n]):
  ∃a:Addr,(s.ptr=some a∧0≤i∧i<((s.len:Nat):Int))∧∃x:Sl,cellOf h (a.add (i.toNat*1))=some (.slice x.ptr x.len x.cap)∧K a x:=by
 subst hi
 obtain⟨b,o,h1,h2,h3⟩:=hs.elem n rs[n] (List.getElem?_eq_getElem hn)
 have h4:=h3.1
 rw[add_eq,Nat.add_zero]at h4
 have h5:cellOf h ((⟨b,o,none⟩:Addr).add ((n:Int).toNat*1))=some (.slice rs[n].ptr rs[n].len rs[n].cap):=by rw[add_eq];simpa using h4
 exact⟨_,⟨h1,by omega,by rw[hs.len];omega⟩,rs[n],h5,hk _ h5 (by rw[add_eq];exact h2)⟩
end Go.Vc
namespace Go.Vc
open Go
section
variable {B:aj} {α:Type} {h0 h:Heap} {As:List HP} {e k:Nat} {s:Sl} {f:α→List Value} {l:List α}
theorem Own.cut (ho:Own h e s k f l) (hw:∀x,(f x).length=k) (j:Nat) (hj:j≤l.length):Own h e ⟨s.ptr,j,s.cap⟩ k f (l.take j):=by
 have hl:=ho.len
 refine⟨by simp;omega,?_⟩
 rcases ho.head with⟨h1,h2,h3⟩|⟨b,rest,h1,h2,h3,h4⟩
 ·subst h3
  exact .inl ⟨h1,h2,by simp⟩
 ·refine .inr ⟨b,(l.drop j).flatMap f++rest,h1,?_,?_,by dsimp only;omega⟩
  ·rw[←List.append_assoc,←List.flatMap_append,List.take_append_drop];exact h2
  ·rw[List.length_append,ck hw,List.length_drop,h3,←Nat.add_mul]
   dsimp only
   congr 1;omega
theorem aa.cut (H:aa B h0 h As) (i:Nat) (hi:As[i]?=some (an e s k f l)) (hw:∀x,(f x).length=k) (j:Nat) (hj:j≤l.length):aa B h0 h (As.set i (an e ⟨s.ptr,j,s.cap⟩ k f (l.take j))):=
 H.fl i hi fun _ hq=>⟨hq.1.cut hw j hj,hq.2⟩
end
end Go.Vc
namespace Go.Vc
open Go
section
variable {B:aj} {α:Type} {C:Ctx} {h0 h:Heap} {As:List HP} {e t k:Nat} {s:Sl} {f:α→List Value} {l:List α} {ti:TI}
theorem Own.y5 (hC:C.Ok) (ho:Own h e s k f l) (hw:∀x,(f x).length=k) (hi:C.T.get t=some ti) {x:Int} {cp:Nat} (hx:x=l.length) (hcap:l.length<s.cap) (hcp:cp=s.cap) {val:Value} (y:α) (hv:val.cells=(f y).toArray) (hsz:ti.size=k)
  (hone:(f y).all (·.oneCell')=true) {K:Heap→Prop} (hk:∀h',Own h' e ⟨s.ptr,l.length+1,s.cap⟩ k f (l++[y])→aD (fun b=>¬s.on b) h h'→K h'):
  ∃a:Addr,(s.ptr=some a∧0≤x∧x<((cp:Nat):Int))∧ab C.P (Instr.storeAt t (.pointer (some (a.add (x.toNat*k)))) val) h fun _ h'=>K h':=by
 subst hx hcp
 have hlen:=ho.len
 rcases ho.head with⟨_,h2,h3⟩|⟨b,rest,h1,h2,h3,h4⟩
 ·omega
 ·refine⟨_,⟨h1,by omega,by omega⟩,?_⟩
  unfold Instr.storeAt
  refine ab.bind (ab.pure' ?_)
  unfold storeVar
  refine ab.bind (ab.always (bM hC.toOk hi) ?_)
  rw[hv,hsz]
  have hfl:=hw y
  simp only[List.size_toArray,hfl,ne_eq,not_true,if_false]
  rw[add_eq,Nat.zero_add,Int.toNat_natCast]
  have hfl2:=ck hw l
  have hge:k≤rest.length:=by
   rw[h3,hlen]
   have:=Nat.mul_le_mul_right k (show 1≤s.cap-l.length by omega)
   omega
  refine bV (e:=e) (pre:=l.flatMap f) (old:=rest.take k) (post:=rest.drop k) ?_ ?_ ?_ ?_ ?_
  ·rw[List.append_assoc,List.take_append_drop];exact h2
  ·rw[hfl,List.length_take];omega
  ·rw[hfl2];omega
  ·intro c hc
   exact List.all_eq_true.1 hone c hc
  ·refine hk _ ⟨by simp,.inr ⟨b,rest.drop k,h1,?_,?_,by dsimp only;omega⟩⟩ (aD.dI h2 (fun hh=>hh ⟨0,h1⟩))
   ·rw[di h2,if_pos rfl];simp
   ·rw[List.length_drop,h3,hlen]
    dsimp only
    rw[Nat.sub_add_eq,Nat.sub_mul (s.cap-l.length) 1 k,Nat.one_mul]
theorem aa.y5 (hC:C.Ok) (H:aa B h0 h As) (i:Nat) (hi:As[i]?=some (an e s k f l)) (hw:∀x,(f x).length=k) (ht:C.T.get t=some ti) {x:Int} {cp:Nat} (hx:x=l.length) (hcap:l.length<s.cap) (hcp:cp=s.cap) {val:Value} (y:α) (hv:val.cells=(f y).toArray) (hsz:ti.size=k)
  (hone:(f y).all (·.oneCell')=true) {K:Heap→Prop} (hk:∀h',aa B h0 h' (As.set i (an e ⟨s.ptr,l.length+1,s.cap⟩ k f (l++[y])))→K h'):
  ∃a:Addr,(s.ptr=some a∧0≤x∧x<((cp:Nat):Int))∧ab C.P (Instr.storeAt t (.pointer (some (a.add (x.toNat*k)))) val) h fun _ h'=>K h':=
 (H.own i hi).y5 hC hw ht hx hcap hcp y hv hsz hone fun h' z w=>hk h' (H.step i hi fun _ hq hlt=>⟨w.mono fun b _ hb hon=>hb (hq.2 b hon),z,fun b hb=>⟨Nat.lt_of_lt_of_le (hlt b (hq.2 b hb)) w.1,.inl (hq.2 b hb)⟩⟩)
end
end Go.Vc
namespace Go.Vc
open Go
section
variable {C:Ctx} {t t2 ty e k:Nat} {z:List Value} {by_:Nat} {α:Type} {h h0:Heap} {p B:aj} {s v:Sl} {f:α→List Value} {l l2:List α} {As:List HP}
theorem Own.y6 (hC:C.Ok) (he:bt C.tomV t e k z by_) (hw:∀x,(f x).length=k) (ho:Own h e s k f l) (hv:Seq h p v k f l2) (hone:∀x,∀c∈f x,c.oneCell'=true) {K:Int→Heap→Prop}
  (hk:∀n h',Own h' e s k f (l2.take l.length++l.drop l2.length)→aD (fun b=>¬s.on b) h h'→K n h'):
  aw C.P (Builtin.copy_ #[t,t2] ty #[.slice s.ptr s.len s.cap,.slice v.ptr v.len v.cap]) (.one (.sc (.int .i64))) h K:=by
 unfold aw Builtin.copy_
 simp only[List.getElem?_toArray,List.getElem?_cons_zero,List.getElem?_cons_succ]
 refine ab.bind (ab.always (aq (he.under hC)) ?_)
 refine ab.bind (ab.pure' ?_)
 refine ab.bind (ab.always (he.size hC) ?_)
 have hl1:=ho.len;have hl2:=hv.len
 obtain⟨m,hm⟩:∃m,m=Nat.min v.len s.len:=⟨_,rfl⟩
 rw[←hm]
 have hm1:m≤l2.length:=by rw[hm,←hl2];exact Nat.min_le_left _ _
 have hm2:m≤l.length:=by rw[hm,←hl1];exact Nat.min_le_right _ _
 have hm3:m=min l2.length l.length:=by rw[hm,hl1,hl2]
 have hv':=hv.take m hm1
 have e0:l2.take l.length++l.drop l2.length=l2.take m++l.drop m:=by
  rcases Nat.le_total l2.length l.length with hh|hh
  ·rw[List.take_of_length_le hh,show m=l2.length by omega,List.take_length]
  ·rw[show m=l.length by omega,List.drop_of_length_le hh,List.drop_length]
 rw[e0]at hk
 have efc:Builtin.firstCells k m (.slice v.ptr v.len v.cap)=Builtin.firstCells k m (.slice v.ptr m v.cap):=by cases v.ptr<;>rfl
 rw[efc]
 refine ab.bind (dj (v:=⟨v.ptr,m,v.cap⟩) hw hv' ?_)
 rcases ho.head with⟨h1,h2,h3⟩|⟨b,rest,h1,h2,h3,h4⟩
 ·rw[h1]
  subst h3
  have:m=0:=by simpa using hm2
  subst this
  refine ab.pure' ⟨_,rfl,hk _ h ?_ (aD.refl _ _)⟩
  simpa using ho
 ·rw[h1]
  refine ab.bind ?_
  have esp:l.flatMap f++rest=(l.take m).flatMap f++((l.drop m).flatMap f++rest):=by
   rw[←List.append_assoc,←List.flatMap_append,List.take_append_drop]
  rw[esp]at h2
  refine bV (e:=e) (pre:=[]) (old:=(l.take m).flatMap f) (post:=(l.drop m).flatMap f++rest) (by simpa using h2) (by rw[ck hw,ck hw,List.length_take,List.length_take];congr 1;omega) rfl ?_ ?_
  ·intro c hc
   obtain⟨x,_,hxc⟩:=List.mem_flatMap.1 hc
   exact hone x c hxc
  ·refine ab.pure' ⟨_,rfl,hk _ _ ⟨by rw[hl1,List.length_append,List.length_take,List.length_drop];omega,.inr ⟨b,rest,h1,?_,h3,h4⟩⟩ (aD.dI h2 (fun hn=>hn ⟨0,h1⟩))⟩
   rw[di h2,if_pos rfl,List.flatMap_append];simp
theorem aa.y6 (hC:C.Ok) (H:aa B h0 h As) (i:Nat) (hi:As[i]?=some (an e s k f l)) (he:bt C.tomV t e k z by_) (hw:∀x,(f x).length=k) (hv:Seq h p v k f l2) (hone:∀x,∀c∈f x,c.oneCell'=true) {K:Int→Heap→Prop}
  (hk:∀n h',aa B h0 h' (As.set i (an e s k f (l2.take l.length++l.drop l2.length)))→K n h'):
  aw C.P (Builtin.copy_ #[t,t2] ty #[.slice s.ptr s.len s.cap,.slice v.ptr v.len v.cap]) (.one (.sc (.int .i64))) h K:=
 (H.own i hi).y6 hC he hw hv hone fun n h' x y=>hk n h' (H.hG i hi y x)
end
def Hk {α:Type} (l:List α) (w i:Nat):List α:=(l.drop (i*w)).take w
theorem GG {α:Type} {l:List α} {w i:Nat} (hi:(i+1)*w≤l.length):(Hk l w i).length=w:=by
 have e:(i+1)*w=i*w+w:=Nat.succ_mul i w
 simp only[Hk,List.length_take,List.length_drop];omega
end Go.Vc
namespace Go.Vc
open Go
def HP.sep (A D:HP):HP:=
 ⟨fun h q=>∃q1 q2:aj,(∀b,q1 b→¬q2 b)∧(∀b,q1 b→q b)∧(∀b,q2 b→q b)∧A.p h q1∧D.p h q2,
  fun⟨q1,q2,a,b,c,d,e⟩ hp=>⟨q1,q2,a,b,c,A.loc d (hp.mono fun x _ hx=>b x hx),D.loc e (hp.mono fun x _ hx=>c x hx)⟩,
  fun⟨q1,q2,a,b,c,d,e⟩ hq=>⟨q1,q2,a,fun x hx=>hq x (b x hx),fun x hx=>hq x (c x hx),d,e⟩⟩
def HP.ex {ι:Type} (F:ι→HP):HP:=⟨fun h q=>∃i,(F i).p h q,fun⟨i,a⟩ hp=>⟨i,(F i).loc a hp⟩,fun⟨i,a⟩ hq=>⟨i,(F i).mono a hq⟩⟩
def HP.pure (P:Prop):HP:=⟨fun _ _=>P,fun a _=>a,fun a _=>a⟩
def HP.and (A:HP) (P:Prop):HP:=⟨fun h q=>A.p h q∧P,fun a hp=>⟨A.loc a.1 hp,a.2⟩,fun a hq=>⟨A.mono a.1 hq,a.2⟩⟩
section
variable {B:aj} {h0 h h':Heap} {As Bs:List HP} {A D E:HP} {i j:Nat}
theorem aa.split (H:aa B h0 h As) (i:Nat) (hi:As[i]?=some (A.sep D)):aa B h0 h (As.set i A++[D]):=by
 classical
 obtain⟨lo,p,c,z,a⟩:=H
 obtain⟨q1,q2,hd,s1,s2,hA,hD⟩:=a i _ hi
 have hlt:=(List.getElem?_eq_some_iff.1 hi).1
 refine⟨lo,p,fun b=>if q2 b then As.length+1 else c b,fun b hb=>?_,fun j X hj=>?_⟩
 ·have h1:=z b hb
  dsimp only
  rw[if_neg];exact h1
  intro h2;have:=(s2 b h2).2;omega
 ·by_cases hl:j<As.length
  ·rw[List.getElem?_append_left (by simpa using hl),List.getElem?_set]at hj
   split at hj
   ·rename_i hij
    subst hij
    first|rw[if_pos hl]at hj|skip
    injection hj with hj
    subst hj
    refine A.mono hA fun b hb=>⟨(s1 b hb).1,?_⟩
    dsimp only
    rw[if_neg (hd b hb)];exact(s1 b hb).2
   ·rename_i hij
    refine X.mono (a j X hj) fun b hb=>⟨hb.1,?_⟩
    dsimp only
    rw[if_neg];exact hb.2
    intro h2;have:=(s2 b h2).2;omega
  ·rw[List.getElem?_append_right (by simpa using hl)]at hj
   rw[List.length_set]at hj
   have hj0:j=As.length:=by
    have:=(List.getElem?_eq_some_iff.1 hj).1
    simp at this;omega
   subst hj0
   simp at hj
   subst hj
   refine D.mono hD fun b hb=>⟨(s2 b hb).1,?_⟩
   dsimp only
   rw[if_pos hb]
theorem aa.join (H:aa B h0 h As) (i j:Nat) (hij:i≠j) (hi:As[i]?=some A) (hj:As[j]?=some D):aa B h0 h ((As.set i (A.sep D)).set j emp):=
 H.merge i j hij hi hj fun q1 q2 hd hA hD=>⟨q1,q2,hd,fun _ hb=>.inl hb,fun _ hb=>.inr hb,hA,hD⟩
theorem aa.HU {ι:Type} {F:ι→HP} (H:aa B h0 h As) (i:Nat) (hi:As[i]?=some (HP.ex F)):∃x,aa B h0 h (As.set i (F x)):=by
 obtain⟨lo,p,c,z,a⟩:=H
 obtain⟨x,hx⟩:=a i _ hi
 refine⟨x,lo,p,c,z,fun j X hj=>?_⟩
 rw[List.getElem?_set]at hj
 split at hj
 ·rename_i hij
  subst hij
  split at hj
  ·injection hj with hj;subst hj;exact hx
  ·cases hj
 ·exact a j X hj
theorem aa.close' {ι:Type} {F:ι→HP} (H:aa B h0 h As) (i:Nat) (x:ι) (hi:As[i]?=some (F x)):aa B h0 h (As.set i (HP.ex F)):=H.fl i hi fun _ hq=>⟨x,hq⟩
theorem aa.fact {P:Prop} (H:aa B h0 h As) (i:Nat) (hi:As[i]?=some (A.and P)):P:=(H.at i hi).2
theorem aa.HV {P:Prop} (H:aa B h0 h As) (i:Nat) (hi:As[i]?=some (A.and P)):aa B h0 h (As.set i A):=H.fl i hi fun _ hq=>hq.1
theorem aa.HW {P:Prop} (H:aa B h0 h As) (i:Nat) (hi:As[i]?=some A) (hp:P):aa B h0 h (As.set i (A.and P)):=H.fl i hi fun _ hq=>⟨hq,hp⟩
theorem aa.cons (H:aa B h0 h As) (i:Nat) (hi:As[i]?=some A):aa B h0 h (A::As.set i emp):=by
 obtain⟨lo,p,c,z,a⟩:=H
 have hlt:=(List.getElem?_eq_some_iff.1 hi).1
 refine⟨lo,p,fun b=>if c b=i+1 then 1 else if c b=0 then 0 else c b+1,fun b hb=>?_,fun j X hj=>?_⟩
 ·have:=z b hb;dsimp only;rw[if_neg (by omega),if_pos this]
 ·cases j with
  |zero=>
   simp at hj;subst hj
   refine A.mono (a i A hi) fun b hb=>⟨hb.1,by dsimp only;rw[if_pos hb.2]⟩
  |succ j=>
   rw[List.getElem?_cons_succ,List.getElem?_set]at hj
   split at hj
   ·rename_i hij
    injection hj with hj;subst hj;trivial
   ·rename_i hij
    refine X.mono (a j X hj) fun b hb=>⟨hb.1,by dsimp only;rw[if_neg (by omega),if_neg (by omega)];omega⟩
theorem aa.rest (H:aa B h0 h (A::As)):aa B h0 h As:=H.pick (fun j=>j+1) (fun a b h=>by omega) fun j X hj=>by simpa using hj
end
end Go.Vc
namespace Go.Vc
open Go
structure ik (α β:Type) where
 p:Heap→aj→α→β→Prop
 loc:∀{h h':Heap} {q:aj} {a:α} {b:β},p h q a b→aD q h h'→p h' q a b
 mono:∀{h:Heap} {q q':aj} {a:α} {b:β},p h q a b→(∀x,q x→q' x)→p h q' a b
def bC {α:Type} (k:Nat) (f:α→List Value):ik Sl (List α):=⟨fun h q s l=>Seq h q s k f l,fun a hp=>a.ai hp,fun a hq=>a.mono hq⟩
def bh {α β:Type} (E:ik α β) (k:Nat) (f:α→List Value):ik Sl (List β):=
 ⟨fun h q s ll=>∃rs:List α,Seq h q s k f rs∧rs.length=ll.length∧∀(i:Nat) r l,rs[i]?=some r→ll[i]?=some l→E.p h q r l,
  fun⟨rs,a,b,c⟩ hp=>⟨rs,a.ai hp,b,fun i r l h1 h2=>E.loc (c i r l h1 h2) hp⟩,fun⟨rs,a,b,c⟩ hq=>⟨rs,a.mono hq,b,fun i r l h1 h2=>E.mono (c i r l h1 h2) hq⟩⟩
def EA {α β:Type} (E:ik α β) (a:α) (b:β):HP:=⟨fun h q=>E.p h q a b,fun x hp=>E.loc x hp,fun x hq=>E.mono x hq⟩
abbrev fJ {α β:Type} (E:ik α β) (h:Heap) (a:α) (b:β):Prop:=E.p h (fun b=>b<h.size) a b
def bL {α β:Type} (e:TypeId) (s:Sl) (k:Nat) (f:α→List Value) (E:ik α β) (ll:List β):HP:=
 ⟨fun h q=>∃(rs:List α) (q1:aj),Own h e s k f rs∧(∀b,s.on b→q b∧¬q1 b)∧(∀b,q1 b→q b)∧rs.length=ll.length∧∀(i:Nat) r l,rs[i]?=some r→ll[i]?=some l→E.p h q1 r l,
  fun⟨rs,q1,a,b,c,d,e⟩ hp=>⟨rs,q1,a.ai hp fun x hx=>(b x hx).1,b,c,d,fun i r l h1 h2=>E.loc (e i r l h1 h2) (hp.mono fun x _ hx=>c x hx)⟩,
  fun⟨rs,q1,a,b,c,d,e⟩ hq=>⟨rs,q1,a,fun x hx=>⟨hq x (b x hx).1,(b x hx).2⟩,fun x hx=>hq x (c x hx),d,e⟩⟩
section
variable {α β:Type} {E:ik α β} {k:Nat} {f:α→List Value} {h h':Heap} {q:aj} {s:Sl} {ll:List β} {a:α} {b:β}
theorem fJ.up (x:fJ E h a b) (hp:aD (fun b=>b<h.size) h h'):fJ E h' a b:=E.mono (E.loc x hp) fun _ hb=>Nat.lt_of_lt_of_le hb hp.1
theorem bh.mj (x:(bh E k f).p h q s ll):∃rs:List α,Seq h q s k f rs∧rs.length=ll.length∧∀(i:Nat) (h1:i<rs.length) (h2:i<ll.length),E.p h q rs[i] ll[i]:=by
 obtain⟨rs,a,b,c⟩:=x
 exact⟨rs,a,b,fun i h1 h2=>c i _ _ (List.getElem?_eq_getElem h1) (List.getElem?_eq_getElem h2)⟩
theorem bh.len (x:(bh E k f).p h q s ll):s.len=ll.length:=by obtain⟨rs,a,b,c⟩:=x;rw[a.len,b]
theorem bh.nil (h:Heap) (q:aj) (pt:Option Addr) (c:Nat):(bh E k f).p h q ⟨pt,0,c⟩ []:=⟨[],Seq.nil h q c pt k f,rfl,fun i r l h1=>by simp at h1⟩
theorem bh.take (x:(bh E k f).p h q s ll) (n:Nat) (hn:n≤ll.length):(bh E k f).p h q ⟨s.ptr,n,s.cap⟩ (ll.take n):=by
 obtain⟨rs,a,b,c⟩:=x
 refine⟨rs.take n,a.take n (by omega),by simp[b],fun i r l h1 h2=>?_⟩
 rw[List.getElem?_take]at h1 h2
 split at h1
 ·rename_i hi;rw[if_pos hi]at h2;exact c i r l h1 h2
 ·cases h1
theorem bh.drop (x:(bh E k f).p h q s ll) (n:Nat) (hc:s.len≤s.cap):(bh E k f).p h q ⟨if s.cap=n then s.ptr else s.ptr.map (·.add (n*k)),s.len-n,s.cap-n⟩ (ll.drop n):=by
 obtain⟨rs,a,b,c⟩:=x
 refine⟨rs.drop n,a.drop n hc,by simp[b],fun i r l h1 h2=>?_⟩
 rw[List.getElem?_drop]at h1 h2
 exact c _ r l h1 h2
theorem bh.get {X:Type} {g:X→Value} (x:(bh E 1 f).p h q s ll) {i:Int} (n:Nat) (hi:i=n) (hn:n<ll.length) (u:α→X) (hu:∀r,f r=[g (u r)]) {K:X→Prop} (hk:∀r,E.p h q r ll[n]→K (u r)):
  ∃a:Addr,(s.ptr=some a∧0≤i∧i<((s.len:Nat):Int))∧∃x:X,cellOf h (a.add (i.toNat*1))=some (g x)∧K x:=by
 obtain⟨rs,h1,h2,h3⟩:=bh.mj x
 exact h1.bT n hi (by omega) (u (rs[n]'(by omega))) (hu _) (hk _ (h3 n (by omega) hn))
theorem bh.lu {E:ik Sl β} (x:(bh E 1 bg).p h q s ll) {i:Int} (n:Nat) (hi:i=n) (hn:n<ll.length) {K:Sl→Prop} (hk:∀r,E.p h q r ll[n]→K r):
  ∃a:Addr,(s.ptr=some a∧0≤i∧i<((s.len:Nat):Int))∧∃x:Sl,cellOf h (a.add (i.toNat*1))=some (.slice x.ptr x.len x.cap)∧K x:=
 bh.get (g:=fun r:Sl=>Value.slice r.ptr r.len r.cap) x n hi hn id (fun _=>rfl) hk
theorem bh.Hl {γ:Type} {k2:Nat} {g:γ→List Value} {l:List (List γ)} {rs:List Sl} (x:gy h q s k2 g l rs):(bh (bC k2 g) 1 bg).p h q s l:=⟨rs,x.top,x.len,x.row⟩
theorem bh.toeW {γ:Type} {k2:Nat} {g:γ→List Value} {l:List (List γ)} (x:fJ (bh (bC k2 g) 1 bg) h s l):eW h s k2 g l:=by
 obtain⟨rs,a,b,c⟩:=x;exact⟨rs,a,b,c⟩
end
section
variable {α β:Type} {E:ik α β} {C:Ctx} {k e t:Nat} {f:α→List Value} {B:aj} {h0 h h':Heap} {As:List HP} {s:Sl} {ll:List β} {z:List Value} {by_:Nat}
theorem aa.Cy (H:aa B h0 h As) (e k:Nat) (f:α→List Value) (E:ik α β):aa B h0 h (As++[bL e ⟨none,0,0⟩ k f E []]):=
 H.comp (.one (aD.refl _ _) ⟨[],fun _=>False,Own.nil h e k f,fun b hb=>(by obtain⟨o,hb⟩:=hb;cases hb),fun _ hb=>hb.elim,rfl,fun i r l h=>by simp at h⟩)
theorem aa.Dy (H:aa B h0 h As) (i:Nat) (hi:As[i]?=some (bL e s k f E ll)) (hw:∀x,(f x).length=k):fJ (bh E k f) h s ll:=by
 obtain⟨rs,q1,a,b,c,d,e⟩:=H.at i hi
 exact⟨rs,a.seq hw fun x hx=>(b x hx).1,d,fun i r l h1 h2=>E.mono (e i r l h1 h2) c⟩
theorem aa.B4 (H:aa B h0 h As) (i:Nat) (hi:As[i]?=some (bL e s k f E ll)) (hw:∀x,(f x).length=k):aa B h0 h (As.set i (EA (bh E k f) s ll)):=
 H.fl i hi fun q ⟨rs,q1,a,b,c,d,e⟩=>⟨rs,a.seq hw fun x hx=>(b x hx).1,d,fun i r l h1 h2=>E.mono (e i r l h1 h2) c⟩
theorem aa.Im {a:α} {b:β} (H:aa B h0 h As) (i:Nat) (hi:As[i]?=some (EA E a b)):fJ E h a b:=H.at i hi
theorem aa.E6 (H:aa B h0 h As) (i:Nat) (hi:As[i]?=some (bL e s k f E ll)):s.len=ll.length∧s.len≤s.cap:=by
 obtain⟨rs,q1,a,b,c,d,e⟩:=H.at i hi
 exact⟨by rw[a.len,d],a.cap⟩
theorem aa.tU (hC:C.Ok) (H:aa B h0 h As) (i j:Nat) (hij:i≠j) {a:α} {b:β} (hi:As[i]?=some (bL e s k f E ll)) (hj:As[j]?=some (EA E a b)) (he:bt C.tomV t e k z by_) (hz:z.length=k) (hby:0<by_∧by_≤128) (hw:∀x,(f x).length=k)
  (hone:∀x,∀c∈f x,c.oneCell'=true) {parts:Array (Nat×Value)} (hfill:Instr.fill (fun i=>some (i*k,k)) (dX z 1).toArray parts.toList=some ([a].flatMap f).toArray) (hk1:1*k≤2^20)
  (hsz:ll.length+1≤2^32) {ty:Nat} {K:Sl→Heap→Prop} (hk:∀s' h',aa B h0 h' ((As.set j emp).set i (bL e s' k f E (ll++[b])))→K s' h'):
  aw C.P (Instr.buildSlice t 1 parts) (.one (.sc .slc)) h fun v h1=>aw C.P (Builtin.append_ #[t,t] ty #[.slice s.ptr s.len s.cap,.slice v.ptr v.len v.cap]) (.one (.sc .slc)) h1 K:=by
 have H2:=H.merge i j hij hi hj (D:=⟨fun h q=>∃(rs:List α) (q1:aj),Own h e s k f rs∧(∀b,s.on b→q b∧¬q1 b)∧(∀b,q1 b→q b)∧rs.length=ll.length∧(∀(i:Nat) r l,rs[i]?=some r→ll[i]?=some l→E.p h q1 r l)∧E.p h q1 a b,
  fun⟨rs,q1,a,b,c,d,e,f⟩ hp=>⟨rs,q1,a.ai hp fun x hx=>(b x hx).1,b,c,d,fun i r l h1 h2=>E.loc (e i r l h1 h2) (hp.mono fun x _ hx=>c x hx),E.loc f (hp.mono fun x _ hx=>c x hx)⟩,
  fun⟨rs,q1,a,b,c,d,e,f⟩ hq=>⟨rs,q1,a,fun x hx=>⟨hq x (b x hx).1,(b x hx).2⟩,fun x hx=>hq x (c x hx),d,e,f⟩⟩)
  (fun q1 q2 hd hA hB=>by
   obtain⟨rs,q3,a,b,c,d,e'⟩:=hA
   refine⟨rs,fun b=>q3 b∨q2 b,a,fun x hx=>⟨.inl (b x hx).1,fun hh=>hh.elim (b x hx).2 (hd x (b x hx).1)⟩,fun x hx=>hx.elim (fun h=>.inl (c x h)) .inr,d,fun i r l h1 h2=>E.mono (e' i r l h1 h2) fun _ h=>.inl h,E.mono hB fun _ h=>.inr h⟩)
 have hlt:i<As.length:=(List.getElem?_eq_some_iff.1 hi).1
 obtain⟨lo,pp,c,zz,ax⟩:=H2
 have ha:=ax i _ (by rw[List.getElem?_set_ne (Ne.symm hij),List.getElem?_set_self hlt])
 obtain⟨rs,q1,a1,a2,a3,a4,a5,a6⟩:=ha
 let c':Nat→Nat:=fun b=> @ite _ (q1 b) (Classical.propDecidable _) (As.length+2) (c b)
 have hn1:∀b,q1 b→b<h.size∧c b=i+1:=a3
 have ho:dY h c' (i+1) e s k f rs:=⟨a1,fun b hb=>by
  have:=a2 b hb
  show @ite _ (q1 b) (Classical.propDecidable _) _ _=_
  rw[if_neg this.2];exact this.1.2⟩
 refine ho.push hC he hz hby hw hone a hfill hk1 (by omega) fun s' h' ho' hp'=>hk s' h' ?_
 rw[List.set_comm _ _ (Ne.symm hij)]
 rw[←List.set_set (l:=As) (i:=i),List.set_comm _ _ hij]
 have hq1:∀b,q1 b→c' b≠i+1:=fun b hb=>by
  show @ite _ (q1 b) (Classical.propDecidable _) _ _≠_
  rw[if_pos hb];omega
 refine aa.re lo pp zz ax (hp'.mono fun b hb hn hc=>hn ⟨hb,?_⟩) ⟨rs++[a],fun b=>q1 b∧b<h.size,ho'.own,fun b hb=>?_,fun b hb=>⟨Nat.lt_of_lt_of_le hb.2 hp'.1,.inl ⟨hb.2,(hn1 b hb.1).2⟩⟩,by simp[a4],fun i' r' l' h1 h2=>?_⟩
 ·by_cases hb1:q1 b
  ·exact(hn1 b hb1).2
  ·have hc': @ite _ (q1 b) (Classical.propDecidable _) (As.length+2) (c b)=i+1:=hc
   rw[if_neg hb1]at hc';exact hc'
 ·have hcol:=ho'.aV b hb
  by_cases hlt:b<h.size
  ·rw[cG hlt]at hcol
   have hnb:¬q1 b:=fun hb1=>hq1 b hb1 hcol
   have hc': @ite _ (q1 b) (Classical.propDecidable _) (As.length+2) (c b)=i+1:=hcol
   rw[if_neg hnb]at hc'
   exact⟨⟨ho'.own.lt hb,.inl ⟨hlt,hc'⟩⟩,fun hh=>hnb hh.1⟩
  ·exact⟨⟨ho'.own.lt hb,.inr (by omega)⟩,fun hh=>hlt hh.2⟩
 ·have key:∀{rr:α} {l:β},E.p h q1 rr l→E.p h' (fun b=>q1 b∧b<h.size) rr l:=fun hs=>
   E.loc (E.mono hs (q':=fun b=>q1 b∧b<h.size) fun b hb=>⟨hb,(hn1 b hb).1⟩) (hp'.mono fun b _ hb=>hq1 b hb.1)
  by_cases hi':i'<rs.length
  ·rw[List.getElem?_append_left hi']at h1
   rw[List.getElem?_append_left (by omega)]at h2
   exact key (a5 i' r' l' h1 h2)
  ·have:i'=rs.length:=by
    have:=(List.getElem?_eq_some_iff.1 h1).1
    simp at this;omega
   subst this
   simp at h1
   rw[a4]at h2
   simp at h2
   subst h1;subst h2
   exact key a6
end
end Go.Vc
namespace Go.Vc
open Go
section
variable {α β:Type} {E:ik α β} {k e:Nat} {f:α→List Value} {B:aj} {h0 h:Heap} {As:List HP} {s:Sl}
theorem aa.Hm (H:aa B h0 h As) (i j:Nat) (hij:i≠j) {a:α} {b:β} (hi:As[i]?=some (an e s k f [a])) (hj:As[j]?=some (EA E a b)):aa B h0 h ((As.set i (bL e s k f E [b])).set j emp):=
 H.merge i j hij hi hj fun q1 q2 hd hA hB=>⟨[a],q2,hA.1,fun x hx=>⟨.inl (hA.2 x hx),hd x (hA.2 x hx)⟩,fun _ hb=>.inr hb,rfl,fun i r l h1 h2=>by
  cases i with
  |succ i=>simp at h1
  |zero=>simp at h1 h2;subst h1;subst h2;exact hB⟩
theorem aa.tV {α:Type} {f:α→List Value} {l:List α} (H:aa B h0 h As) (i:Nat) (hi:As[i]?=some (an e s k f l)) (hw:∀x,(f x).length=k):aa B h0 h (As.set i (EA (bC k f) s l)):=H.fl i hi fun _ hq=>hq.1.seq hw hq.2
end
end Go.Vc
namespace Gf
set_option maxRecDepth 100000
theorem E7 {p:UInt8→Prop} (h:∀n,n<256→p (UInt8.ofNat n)) (a:UInt8):p a:=by
 have:=h a.toNat (UInt8.toNat_lt a)
 rwa [UInt8.ofNat_toNat]at this
def x2 (a:UInt8):UInt8:=(a<<<1)^^^(if a&&&0x80=0 then 0 else 0x1b)
def x3 (a:UInt8):UInt8:=x2 a^^^a
def pw:Nat→UInt8
 |0=>1
 |n+1=>x3 (pw n)
theorem GH (a b c:UInt8):(a^^^b)&&&c=(a&&&c)^^^(b&&&c):=by
 apply UInt8.toBitVec_inj.1
 simp[UInt8.toBitVec_xor,UInt8.toBitVec_and]
 ext i hi
 simp[Bool.and_xor_distrib_right]
theorem GI (a b:UInt8):(a^^^b)<<<1=(a<<<1)^^^(b<<<1):=by
 apply UInt8.toBitVec_inj.1
 simp[UInt8.toBitVec_xor,UInt8.toBitVec_shiftLeft,BitVec.shiftLeft_xor_distrib]
theorem y7:∀a:UInt8,a&&&0x80=0∨a&&&0x80=0x80:=E7 (by decide+kernel)
theorem E8 (a b c d:UInt8):(a^^^b)^^^(c^^^d)=(a^^^c)^^^(b^^^d):=by ac_rfl
theorem Hn (a b:UInt8):x2 (a^^^b)=x2 a^^^x2 b:=by
 unfold x2
 rw[GH,GI]
 rcases y7 a with ha|ha<;>rcases y7 b with hb|hb<;>rw[ha,hb]
 ·simp
 ·simp[UInt8.xor_assoc]
 ·rw[E8];simp
 ·rw[E8];simp
theorem Ho (a b:UInt8):x3 (a^^^b)=x3 a^^^x3 b:=by unfold x3;rw[Hn,E8]
def lx:Nat→UInt8→UInt8
 |0,a=>a
 |n+1,a=>x3 (lx n a)
theorem B5 (a b:UInt8):∀n,lx n (a^^^b)=lx n a^^^lx n b
 |0=>rfl
 |n+1=>by simp only[lx,B5 a b n,Ho]
theorem vF (a:UInt8) (m:Nat):∀n,lx (n+m) a=lx n (lx m a)
 |0=>by simp[lx]
 |n+1=>by rw[Nat.add_right_comm];simp only[lx,vF a m n]
theorem y8:∀n,lx n 0=0
 |0=>rfl
 |n+1=>by rw[lx,y8 n];rfl
theorem mY:∀n,pw n=lx n 1
 |0=>rfl
 |n+1=>by rw[pw,lx,mY n]
def Ir:Nat:=939374623831894136699086600277250597547650664638770418422125146541797353646788332867483593573384618611044815625336497665827114626705134492515730415652478061620339993830966980270842846318821775850471098591710629241171812800746666233448222972174585295916389942636813666312872914849454985560152530477328703759683306625234997237483834721220409437442253146756845415190424543171129629468776480674528486868811725071010351012234056630775688111116293610821126543142160426617079940511630006820862697466582575257349116925728488930366609138264019883664906661504235885380294353134295748489096855100647154935187045898006656778240
def lg (a:UInt8):Nat:=(Ir>>>(8*a.toNat))%256
theorem tW:∀a:UInt8,lg a<255:=E7 (by decide+kernel)
theorem Cz:∀a:UInt8,a≠0→pw (lg a)=a:=E7 (by decide+kernel)
theorem CA:∀n,n<255→lg (pw n)=n:=by decide+kernel
theorem Hp:pw 255=1:=by decide+kernel
theorem CB:∀n,n<255→pw n≠0:=by decide+kernel
theorem Dz (n:Nat):pw (n+255)=pw n:=by
 rw[mY,vF,←mY 255,Hp,←mY]
theorem DA (n:Nat):pw (n%255)=pw n:=by
 have:∀k m,pw (m+255*k)=pw m:=by
  intro k
  induction k with
  |zero=>intro m;rfl
  |succ k ih=>intro m;rw[Nat.mul_succ,←Nat.add_assoc,Dz,ih]
 have h:=this (n/255) (n%255)
 rw[Nat.mod_add_div]at h
 exact h.symm
def mul (a b:UInt8):UInt8:=if a=0∨b=0 then 0 else pw ((lg a+lg b)%255)
def inv (a:UInt8):UInt8:=if a=0 then 0 else pw ((255-lg a)%255)
theorem mul_zero (a:UInt8):mul a 0=0:=by simp[mul]
theorem zero_mul (a:UInt8):mul 0 a=0:=by simp[mul]
theorem mul_comm (a b:UInt8):mul a b=mul b a:=by
 unfold mul
 rw[Nat.add_comm]
 by_cases h:a=0∨b=0
 ·rw[if_pos h,if_pos h.symm]
 ·rw[if_neg h,if_neg fun x=>h x.symm]
theorem y9 (a b:UInt8) (ha:a≠0):mul a b=lx (lg a) b:=by
 by_cases hb:b=0
 ·subst hb;rw[mul_zero,y8]
 ·rw[mul,if_neg (by simp[ha,hb]),DA,mY,vF,←mY,Cz b hb]
theorem k4 (a b c:UInt8):mul a (b^^^c)=mul a b^^^mul a c:=by
 by_cases ha:a=0
 ·subst ha;simp[zero_mul]
 ·rw[y9 _ _ ha,y9 _ _ ha,y9 _ _ ha,B5]
theorem B6 (a b c:UInt8):mul (a^^^b) c=mul a c^^^mul b c:=by rw[mul_comm,k4,mul_comm c a,mul_comm c b]
theorem DB {a b:UInt8} (ha:a≠0) (hb:b≠0):mul a b≠0:=by
 rw[mul,if_neg (by simp[ha,hb])]
 exact CB _ (Nat.mod_lt _ (by decide))
theorem DC {a b:UInt8} (ha:a≠0) (hb:b≠0):lg (mul a b)=(lg a+lg b)%255:=by
 rw[mul,if_neg (by simp[ha,hb]),CA _ (Nat.mod_lt _ (by decide))]
theorem mul_assoc (a b c:UInt8):mul (mul a b) c=mul a (mul b c):=by
 by_cases ha:a=0
 ·subst ha;simp[zero_mul]
 by_cases hb:b=0
 ·subst hb;simp[zero_mul,mul_zero]
 by_cases hc:c=0
 ·subst hc;simp[mul_zero]
 rw[mul,if_neg (by simp[DB ha hb,hc]),DC ha hb,mul,if_neg (by simp[ha,DB hb hc]),DC hb hc]
 congr 1
 omega
theorem Hq:lg 1=0:=by decide+kernel
theorem one_mul (a:UInt8):mul 1 a=a:=by
 by_cases ha:a=0
 ·subst ha;rfl
 ·rw[mul,if_neg (by simp[ha]),Hq,Nat.zero_add,DA,Cz a ha]
theorem mul_one (a:UInt8):mul a 1=a:=by rw[mul_comm,one_mul]
theorem Hr {a:UInt8} (ha:a≠0):inv a≠0:=by
 rw[inv,if_neg ha];exact CB _ (Nat.mod_lt _ (by decide))
theorem vG {a:UInt8} (ha:a≠0):mul a (inv a)=1:=by
 have hl:=tW a
 rw[mul,if_neg (by simp[ha,Hr ha]),inv,if_neg ha,CA _ (Nat.mod_lt _ (by decide))]
 have:(lg a+(255-lg a)%255)%255=0:=by omega
 rw[this];rfl
end Gf
namespace Wl
def bP (p:Int×Int×Int):Bool:=decide (p.1≥1)&&(decide (p.1≤16)&&(decide (p.2.1≥1)&&(decide (p.2.1≤4)&&(decide (p.2.2≥1)&&decide (p.2.2≤24)))))
theorem dJ (p:Int×Int×Int):bP p=true↔(1≤p.1∧p.1≤16)∧(1≤p.2.1∧p.2.1≤4)∧1≤p.2.2∧p.2.2≤24:=by
 simp[bP,and_assoc]
def cd (p:Int×Int×Int):Int:=if bP p then p.1+p.2.1 else 0
end Wl
namespace Wl
open Go
def w4 (s:Int):Int:=IntKind.wrap .u64 (IntKind.wrap .u64 (s*(6364136223846793005:Int))+(1442695040888963407:Int))
def told (s:Int):Int:=IntKind.wrap .u32 (Int.fdiv (w4 s) (2^min (32:Int).toNat (IntKind.bits .u64)))
def gp (s n:Int):Int:=IntKind.wrap .i64 (Int.tmod (IntKind.wrap .u64 (told s)) (IntKind.wrap .u64 n))
theorem wrap_u64 (x:Int):IntKind.wrap .u64 x=x%18446744073709551616:=rfl
theorem nX (s n:Int) (h1:0<n) (h2:n≤2^62):0≤gp s n∧gp s n<n:=by
 unfold gp
 have e1:IntKind.wrap .u64 n=n:=by rw[wrap_u64];omega
 rw[e1]
 have e0:0≤IntKind.wrap .u64 (told s):=by rw[wrap_u64];omega
 have e2:=Int.tmod_lt_of_pos (IntKind.wrap .u64 (told s)) h1
 have e3:0≤Int.tmod (IntKind.wrap .u64 (told s)) n:=Int.tmod_nonneg n e0
 rw[Go.Vc.wrap_small _ (by omega) (by omega)]
 exact⟨e3,e2⟩
def nY (l:List Int) (i:Nat):Int:=l.getD i 0
def rh (l:List Int) (i j:Nat):List Int:=(l.set i (nY l j)).set j (nY l i)
theorem E9 (l:List Int) (i j:Nat):(rh l i j).length=l.length:=by simp[rh]
def dF (n:Nat) (s:Int) (l:List Int):Nat→Int×List Int
 |0=>(s,l)
 |k+1=>(w4 (dF n s l k).1,rh (dF n s l k).2 k (k+(gp (dF n s l k).1 ((n-k:Nat):Int)).toNat))
theorem nZ (n:Nat) (s:Int) (l:List Int):∀k,(dF n s l k).2.length=l.length
 |0=>rfl
 |k+1=>by rw[dF,E9,nZ n s l k]
theorem sF {l:List Int} {i:Nat} (h:i<l.length):nY l i∈l:=by
 rw[nY,List.getD_eq_getElem?_getD,List.getElem?_eq_getElem h];exact List.getElem_mem h
theorem Fa {l:List Int} {i j:Nat} (hi:i<l.length) (hj:j<l.length) {x:Int} (hx:x∈rh l i j):x∈l:=by
 rcases List.mem_or_eq_of_mem_set hx with h|h
 ·rcases List.mem_or_eq_of_mem_set h with h|h
  ·exact h
  ·rw[h];exact sF hj
 ·rw[h];exact sF hi
def upto (n:Nat):List Int:=(List.range n).map fun i:Nat=>(i:Int)
theorem iR (n:Nat):(upto n).length=n:=by simp[upto]
theorem sG (n:Nat) (s:Int):∀k,k≤n→∀x∈(dF n s (upto n) k).2,0≤x∧x<n
 |0,_,x,hx=>by
  simp only[dF,upto,List.mem_map,List.mem_range]at hx
  obtain⟨i,hi,rfl⟩:=hx
  omega
 |k+1,hk,x,hx=>by
  have hb:k<n→n-k≤2^62→k+(gp (dF n s (upto n) k).1 ((n-k:Nat):Int)).toNat<n:=fun h1 h2=>by
   have:=nX (dF n s (upto n) k).1 ((n-k:Nat):Int) (by omega) (by omega)
   omega
  have hl:=nZ n s (upto n) k
  rw[iR]at hl
  by_cases hbig:n-k≤2^62
  ·refine sG n s k (by omega) x (Fa (by omega) ?_ hx)
   have:=hb (by omega) hbig
   omega
  ·--beyond any size:what is set is 0 or a member
   have key:∀y∈rh (dF n s (upto n) k).2 k (k+(gp (dF n s (upto n) k).1 ((n-k:Nat):Int)).toNat),y∈(dF n s (upto n) k).2∨y=0:=by
    intro y hy
    have g:∀i,nY (dF n s (upto n) k).2 i∈(dF n s (upto n) k).2∨nY (dF n s (upto n) k).2 i=0:=fun i=>by
     by_cases h:i<(dF n s (upto n) k).2.length
     ·exact .inl (sF h)
     ·right;simp only[nY,List.getD_eq_getElem?_getD];rw[List.getElem?_eq_none (by omega)];rfl
    rcases List.mem_or_eq_of_mem_set hy with h|h
    ·rcases List.mem_or_eq_of_mem_set h with h|h
     ·exact .inl h
     ·rw[h];exact g _
    ·rw[h];exact g _
   rcases key x hx with h|h
   ·exact sG n s k (by omega) x h
   ·subst h;omega
def fN (l:List Int):List Int:=l.mergeSort fun x y=>decide (x≤y)
theorem w5 (l:List Int):(fN l).length=l.length:=List.length_mergeSort l
theorem w6 (l:List Int) (x:Int):x∈fN l↔x∈l:=List.mem_mergeSort
def tX (s:Int) (n k:Nat):List Int:=fN ((dF n s (upto n) k).2.take k)
theorem Fb {s:Int} {n k:Nat} (hk:k≤n) {x:Int} (hx:x∈tX s n k):0≤x∧x<n:=
 sG n s k hk x (List.mem_of_mem_take ((w6 _ _).1 hx))
theorem Fc (s:Int) (n k:Nat) (hk:k≤n):(tX s n k).length=k:=by
 rw[tX,w5,List.length_take,nZ,iR];omega
def cJ (l:Nat):Nat:=if l≤1 then l else if l≤4 then 2 else if l≤9 then 3 else if l≤16 then 4 else 5
def ri (r:Nat):Nat:=if r=0 then 0 else if r=1 then 1 else if r≤3 then 2 else 3
def jQ (l k:Nat):Nat:=
 (if k>1 then 1048576/(k*(k-1))else 1048576/l)+
  (if k<l/cJ l then 1048576*cJ l/(l*k)else if k=l/cJ l then 1048576*cJ l*ri (cJ l)/l else 0)
def gM (l:Nat):Nat→Nat
 |0=>0
 |k+1=>gM l k+jQ l (k+1)
def eX (l:Nat):List Int:=(List.range l).map fun k=>((gM l (k+1):Nat):Int)
theorem gf (l:Nat):(eX l).length=l:=by simp[eX]
def CC (t:List Int) (x:Int):Nat:=(t.findIdx fun y=>decide (y>x))+1
theorem tY:∀l,l≤20→∀k,k≤20→jQ l k≤2^30:=by decide+kernel
theorem rj (l:Nat) (hl:l≤20):∀k,k≤20→gM l k≤k*2^30
 |0,_=>by simp[gM]
 |k+1,hk=>by
  have:=rj l hl k (by omega)
  have:=tY l hl (k+1) hk
  rw[gM];omega
theorem za:∀l,l≤20→1≤l→0<gM l l:=by decide+kernel
theorem tZ (l:Nat) (h:1≤l):(eX l).getLast?=some ((gM l l:Nat):Int):=by
 obtain⟨k,rfl⟩:∃k,l=k+1:=⟨l-1,by omega⟩
 simp[eX,List.range_succ]
def DD (seed id:Int):Int:=IntKind.wrap .u64 (IntKind.wrap .u32 ((BitVec.ofInt (IntKind.bits .u32) seed^^^(BitVec.ofInt (IntKind.bits .u32) (IntKind.wrap .u32 ((IntKind.wrap .u32 id)*(2654435761:Int))))).toNat:Nat))
def yw (s:Int) (n:Nat):Nat:=CC (eX n) (gp s (gM n n))
theorem n0 (s:Int) (n:Nat) (h1:1≤n) (h2:n≤20):yw s n≤n:=by
 unfold yw CC
 have hs:=za n h2 h1
 have hs2:=rj n h2 n h2
 have hb:=nX s (gM n n) (by omega) (by omega)
 have:=List.findIdx_lt_length_of_exists (p:=fun y=>decide (y>gp s (gM n n))) (xs:=eX n) ⟨_,List.mem_of_getLast? (tZ n h1),by simpa using hb.2⟩
 rw[gf]at this
 omega
def cU (id:Int):Bool:=decide (0≤id)&&decide (id≤65535)
def n5 (n:Nat) (seed id:Int):List Int:=tX (w4 (w4 (DD seed id))) n (yw (w4 (DD seed id)) n)
theorem DE {n:Nat} (h1:1≤n) (h2:n≤20) {seed id x:Int} (hx:x∈n5 n seed id):0≤x∧x<n:=Fb (n0 _ n h1 h2) hx
theorem DF {n:Nat} (h1:1≤n) (h2:n≤20) (seed id:Int):(n5 n seed id).length≤n:=by
 rw[n5,Fc _ _ _ (n0 _ n h1 h2)];exact n0 _ n h1 h2
def ml (n:Nat) (l:List Int):List UInt8:=l.foldl (fun r i=>r.set i.toNat 1) (List.replicate n 0)
theorem sH (n:Nat) (l:List Int):(ml n l).length=n:=by
 have:∀(l:List Int) (r:List UInt8),(l.foldl (fun r i=>r.set i.toNat 1) r).length=r.length:=by
  intro l
  induction l with
  |nil=>intro r;rfl
  |cons a t ih=>intro r;rw[List.foldl_cons,ih];simp
 rw[ml,this];simp
def sI (n:Nat) (seed id:Int):List UInt8:=ml n (n5 n seed id)
theorem zb (n:Nat) (seed id:Int):(sI n seed id).length=n:=sH _ _
def gN (K H h:Nat):List UInt8:=(List.range K).map (fun j=>Gf.pw ((h+1)*(j+1)%255))++(List.range H).map fun i=>if i=h then 1 else 0
end Wl
namespace Wl
def bX (K H:Nat):List (List UInt8):=(List.range H).map (gN K H)
theorem pN (K H h:Nat):(gN K H h).length=K+H:=by simp[gN]
def iu (p:Int×Int×Int) (seed:Int) (ids:List Int):List (List UInt8):=
 if bP p then bX p.1.toNat p.2.1.toNat++(ids.filter cU).map (sI (cd p).toNat seed)else[]
theorem sJ {α:Type} {f:α→Bool} {l:List α} {k:Nat} (hk:k<l.length):(l.take (k+1)).filter f=if f l[k]then(l.take k).filter f++[l[k]]else(l.take k).filter f:=by
 rw[List.take_succ_eq_append_getElem hk,List.filter_append]
 by_cases h:f l[k]=true<;>simp[h]
end Wl
namespace Wl
abbrev Row:=List UInt8
abbrev aT:=List Row
def scaleB (c:UInt8) (l:Row):Row:=l.map (Gf.mul c)
def cf (c:UInt8) (a to:Row):Row:=List.zipWith (fun x y=>y^^^Gf.mul c x) a to
def aP (r:Row) (aV:Nat):UInt8:=r.getD aV 0
def aK (m:aT) (i:Nat):Row:=m.getD i []
def dT (m:aT) (top aV:Nat):Option Nat:=(List.range m.length).find? fun i=>decide (top≤i)&&(aP (aK m i) aV !=0)
def ey (m:aT) (i j:Nat):aT:=(m.set i (aK m j)).set j (aK m i)
def cu (top aV:Nat) (m:aT) (k:Nat):aT:=m.mapIdx fun i r=>if i<k∧i≠top then cf (aP r aV) (aK m top) r else r
def fg (top aV:Nat) (m:aT):aT:=m.set top (scaleB (Gf.inv (aP (aK m top) aV)) (aK m top))
def ez (s:Nat×aT) (aV:Nat):Nat×aT:=
 match dT s.2 s.1 aV with
 |none=>s
 |some i=>(s.1+1,cu s.1 aV (fg s.1 aV (ey s.2 s.1 i)) s.2.length)
def aX (m:aT):Nat→Nat×aT
 |0=>(0,m)
 |c+1=>ez (aX m c) c
def cT (m:aT):Nat:=(aK m 0).length
def bA (m:aT):Nat:=(aX m (cT m)).1
def aL (n:Nat) (m:aT):Prop:=∀r∈m,r.length=n
theorem iY (c:UInt8) (l:Row):(scaleB c l).length=l.length:=by simp[scaleB]
theorem bk {c:UInt8} {a t:Row} (h:a.length=t.length):(cf c a t).length=t.length:=by simp[cf,h]
theorem bY {m:aT} {i:Nat} (h:i<m.length):aK m i=m[i]:=by rw[aK,List.getD_eq_getElem?_getD,List.getElem?_eq_getElem h];rfl
theorem ca {n:Nat} {m:aT} (h:aL n m) {i:Nat} (hi:i<m.length):(aK m i).length=n:=by rw[bY hi];exact h _ (List.getElem_mem hi)
theorem sK {n:Nat} {m:aT} (h:aL n m) {i:Nat} {r:Row} (hr:r.length=n):aL n (m.set i r):=fun x hx=>by
 rcases List.mem_or_eq_of_mem_set hx with h1|h1
 ·exact h x h1
 ·rw[h1];exact hr
theorem CD {P:Nat→Bool} {n:Nat} (h:∀j,j<n→P j=false):(List.range n).find? P=none:=by
 rw[List.find?_eq_none]
 intro x hx
 rw[List.mem_range]at hx
 simp[h x hx]
theorem CE {P:Nat→Bool} {n k:Nat} (hk:k<n) (h:∀j,j<k→P j=false) (hp:P k=true):(List.range n).find? P=some k:=by
 rw[List.find?_eq_some_iff_append]
 refine⟨hp,List.range k,List.range' (k+1) (n-k-1),?_,fun a ha=>?_⟩
 ·rw[List.range_eq_range',List.range_eq_range']
  have e1:n=k+(n-k):=by omega
  have e2:n-k=(n-k-1)+1:=by omega
  conv=>lhs;rw[e1,←List.range'_append_1 (s:=0) (m:=k) (n:=n-k)]
  rw[Nat.zero_add]
  conv=>lhs;rw[e2,List.range'_succ]
 ·rw[List.mem_range]at ha
  simp[h a ha]
theorem j8 {m:aT} {top aV i:Nat} (h:dT m top aV=some i):top≤i∧i<m.length∧aP (aK m i) aV≠0:=by
 have h1:=List.find?_some h
 have h2:=List.mem_of_find?_eq_some h
 simp at h1 h2
 exact⟨h1.1,h2,h1.2⟩
theorem AQ {m:aT} {top aV:Nat} (h:dT m top aV=none):∀i,top≤i→i<m.length→aP (aK m i) aV=0:=fun i h1 h2=>by
 have:=List.find?_eq_none.1 h i (List.mem_range.2 h2)
 simpa[h1]using this
theorem gd (m:aT) (i j:Nat):(ey m i j).length=m.length:=by simp[ey]
theorem pO {n:Nat} {m:aT} (h:aL n m) {i j:Nat} (hi:i<m.length) (hj:j<m.length):aL n (ey m i j):=sK (sK h (ca h hj)) (ca h hi)
theorem iS (t c:Nat) (m:aT):(fg t c m).length=m.length:=by simp[fg]
theorem mm {n:Nat} {m:aT} (h:aL n m) {t c:Nat} (ht:t<m.length):aL n (fg t c m):=sK h (by rw[iY];exact ca h ht)
theorem iT (t c:Nat) (m:aT) (k:Nat):(cu t c m k).length=m.length:=by simp[cu]
theorem mn {n:Nat} {m:aT} (h:aL n m) {t c k:Nat} (ht:t<m.length):aL n (cu t c m k):=fun x hx=>by
 obtain⟨i,hi,rfl⟩:=List.mem_mapIdx.1 hx
 have hl:=h _ (List.getElem_mem hi)
 split
 ·rw[bk (by rw[ca h ht,hl])];exact hl
 ·exact hl
theorem DG (t c:Nat) (m:aT):cu t c m 0=m:=by
 apply List.ext_getElem?
 intro i
 simp[cu,List.getElem?_mapIdx]
theorem jR {t c k:Nat} {m:aT} {i:Nat} (hi:i<m.length):aK (cu t c m k) i=if i<k∧i≠t then cf (aP (aK m i) c) (aK m t) (aK m i)else aK m i:=by
 rw[bY (by rw[iT];exact hi),bY hi];simp[cu]
theorem DH {t c k:Nat} {m:aT} (hk:k<m.length) (hkt:k≠t):cu t c m (k+1)=(cu t c m k).set k (cf (aP (aK m k) c) (aK m t) (aK m k)):=by
 apply List.ext_getElem?
 intro i
 simp only[cu,List.getElem?_set,List.getElem?_mapIdx,List.length_mapIdx]
 by_cases hik:k=i
 ·subst hik
  simp only[if_true,hk,List.getElem?_eq_getElem hk,Option.map_some]
  rw[if_pos ⟨by omega,hkt⟩,bY hk]
 ·rw[if_neg hik]
  congr 1
  funext r
  by_cases h:i<k∧i≠t
  ·rw[if_pos h,if_pos ⟨by omega,h.2⟩]
  ·rw[if_neg h,if_neg (fun hh=>h ⟨by omega,hh.2⟩)]
theorem DI {t c:Nat} {m:aT}:cu t c m (t+1)=cu t c m t:=by
 apply List.ext_getElem?
 intro i
 simp only[cu,List.getElem?_mapIdx]
 congr 1
 funext r
 by_cases h:i<t∧i≠t
 ·rw[if_pos h,if_pos ⟨by omega,h.2⟩]
 ·rw[if_neg h,if_neg (fun hh=>h ⟨by omega,hh.2⟩)]
theorem DJ {n:Nat} {s:Nat×aT} (h:aL n s.2) (aV:Nat):aL n (ez s aV).2∧(ez s aV).2.length=s.2.length:=by
 unfold ez
 cases hb:dT s.2 s.1 aV with
 |none=>exact⟨h,rfl⟩
 |some i=>
  have hh:=j8 hb
  dsimp only
  refine⟨mn (mm (pO h (by omega) hh.2.1) (by rw[gd];omega)) (by rw[iS,gd];omega),by rw[iT,iS,gd]⟩
theorem fB {n:Nat} {m:aT} (h:aL n m):∀c,aL n (aX m c).2∧(aX m c).2.length=m.length
 |0=>⟨h,rfl⟩
 |c+1=>by
  have:=fB h c
  have h2:=DJ this.1 c
  rw[aX]
  exact⟨h2.1,by rw[h2.2,this.2]⟩
theorem Fe {s:Nat×aT} (h:s.1≤s.2.length) (aV:Nat):(ez s aV).1≤(ez s aV).2.length:=by
 unfold ez
 cases hb:dT s.2 s.1 aV with
 |none=>exact h
 |some i=>
  have hh:=j8 hb
  dsimp only
  rw[iT,iS,gd];omega
theorem n9 (m:aT):∀c,(aX m c).1≤(aX m c).2.length
 |0=>by simp[aX]
 |c+1=>Fe (n9 m c) c
end Wl
namespace Wl
open Classical
theorem gO (a:UInt8):a^^^a=0:=UInt8.xor_self
theorem vH (a b:UInt8):(a^^^b)^^^b=a:=by rw[UInt8.xor_assoc,gO,UInt8.xor_zero]
theorem bB {c:UInt8} {a t:Row} (h:a.length=t.length) (j:Nat):aP (cf c a t) j=aP t j^^^Gf.mul c (aP a j):=by
 simp only[aP,cf,List.getD_eq_getElem?_getD,List.getElem?_zipWith]
 by_cases hj:j<a.length
 ·rw[List.getElem?_eq_getElem hj,List.getElem?_eq_getElem (by omega)];rfl
 ·rw[List.getElem?_eq_none (by omega),List.getElem?_eq_none (by omega)];simp[Gf.mul_zero]
theorem mo (c:UInt8) (a:Row) (j:Nat):aP (scaleB c a) j=Gf.mul c (aP a j):=by
 simp only[aP,scaleB,List.getD_eq_getElem?_getD,List.getElem?_map]
 cases a[j]? with
 |none=>simp[Gf.mul_zero]
 |some x=>rfl
def bR (n:Nat):Row:=List.replicate n 0
theorem du (n j:Nat):aP (bR n) j=0:=by
 simp only[aP,bR,List.getD_eq_getElem?_getD,List.getElem?_replicate];split<;>rfl
theorem dU {n:Nat} {a b:Row} (ha:a.length=n) (hb:b.length=n) (h:∀j,j<n→aP a j=aP b j):a=b:=by
 apply List.ext_getElem (by omega)
 intro j h1 h2
 have:=h j (by omega)
 simpa[aP,List.getD_eq_getElem?_getD,List.getElem?_eq_getElem h1,List.getElem?_eq_getElem h2]using this
inductive Span (n:Nat) (m:aT):Row→Prop
 |zero:Span n m (bR n)
 |add (c:UInt8) (r v:Row):r∈m→Span n m v→Span n m (cf c r v)
section
variable {n:Nat} {m m':aT}
theorem Span.len (hm:aL n m) {v:Row} (h:Span n m v):v.length=n:=by
 induction h with
 |zero=>simp[bR]
 |add c r v hr _ ih=>rw[bk (by rw[hm r hr,ih])];exact ih
theorem Span.comb (hm:aL n m) {u v:Row} (hu:Span n m u) (hv:Span n m v) (c:UInt8):Span n m (cf c u v):=by
 induction hu with
 |zero=>
  have:cf c (bR n) v=v:=dU (n:=n) (by rw[bk (by simp[bR,hv.len hm])];exact hv.len hm) (hv.len hm) fun j _=>by
   rw[bB (by simp[bR,hv.len hm]),du,Gf.mul_zero,UInt8.xor_zero]
  rw[this];exact hv
 |add d r w hr hw ih=>
  have l1:=hv.len hm;have l2:=hw.len hm;have l3:=hm r hr
  have:cf c (cf d r w) v=cf (Gf.mul c d) r (cf c w v):=dU (n:=n) (by rw[bk (by rw[bk (by omega)];omega)];exact l1) (by rw[bk (by rw[bk (by omega)];omega),bk (by omega)];exact l1) fun j _=>by
   rw[bB (by rw[bk (by omega)];omega),bB (by omega),bB (by rw[bk (by omega)];omega),bB (by omega),Gf.k4,Gf.mul_assoc]
   ac_rfl
  rw[this];exact .add _ _ _ hr ih
theorem Span.row (hm:aL n m) {r:Row} (hr:r∈m):Span n m r:=by
 have:=Span.add 1 r _ hr (.zero (n:=n) (m:=m))
 have e:cf 1 r (bR n)=r:=dU (n:=n) (by rw[bk (by simp[bR,hm r hr])];simp[bR]) (hm r hr) fun j _=>by
  rw[bB (by simp[bR,hm r hr]),du,Gf.one_mul,UInt8.zero_xor]
 rwa [e]at this
theorem Span.sub (hm:aL n m) (h:∀r∈m',Span n m r) {v:Row} (hv:Span n m' v):Span n m v:=by
 induction hv with
 |zero=>exact .zero
 |add c r v hr _ ih=>exact(h r hr).comb hm ih c
theorem Span.mono (h:∀r∈m',r∈m) {v:Row} (hv:Span n m' v):Span n m v:=by
 induction hv with
 |zero=>exact .zero
 |add c r v hr _ ih=>exact .add c r v (h r hr) ih
theorem Span.Hs (hm:aL n m) (φ:Row→UInt8) (h0:φ (bR n)=0) (ha:∀c a t,a.length=n→t.length=n→φ (cf c a t)=φ t^^^Gf.mul c (φ a)) (hr:∀r∈m,φ r=0) {v:Row} (hv:Span n m v):φ v=0:=by
 induction hv with
 |zero=>exact h0
 |add c r v hr' hv ih=>rw[ha c r v (hm r hr') (hv.len hm),ih,hr r hr',Gf.mul_zero,UInt8.xor_zero]
end
def mL (S:Row→Prop) (j:Nat):Prop:=∃v,S v∧(∀i,i<j→aP v i=0)∧aP v j≠0
noncomputable def leads (S:Row→Prop) (n:Nat):Nat:=(List.range n).countP fun j=>decide (mL S j)
structure Way (n:Nat) (m:aT) (c top:Nat) (rows:aT):Prop where
 even:aL n rows
 len:rows.length=m.length
 tle:top≤rows.length
 span:∀v,Span n rows v↔Span n m v
 cnt:top=leads (Span n m) c
 piv:∃p:Nat→Nat,(∀i,i<top→p i<c)∧(∀i,i<top→∀k,k<rows.length→aP (aK rows k) (p i)=if k=i then 1 else 0)∧(∀i,i<top→∀j,j<p i→aP (aK rows i) j=0)∧(∀i j,i<j→j<top→p i<p j)
 low:∀k,top≤k→k<rows.length→∀j,j<c→aP (aK rows k) j=0
theorem mem_row {m:aT} {i:Nat} (h:i<m.length):aK m i∈m:=by rw[bY h];exact List.getElem_mem h
theorem dg {m:aT} {r:Row} (h:r∈m):∃i,i<m.length∧r=aK m i:=by
 obtain⟨i,hi,rfl⟩:=List.getElem_of_mem h
 exact⟨i,hi,(bY hi).symm⟩
theorem vI {m:aT} {i j:Nat} {r:Row} (hi:i<m.length):aK (m.set i r) j=if i=j then r else aK m j:=by
 simp only[aK,List.getD_eq_getElem?_getD,List.getElem?_set]
 by_cases h:i=j
 ·subst h;simp[hi]
 ·simp[h]
theorem ly {m:aT} {i j k:Nat} (hi:i<m.length) (hj:j<m.length):aK (ey m i j) k=if k=j then aK m i else if k=i then aK m j else aK m k:=by
 rw[ey,vI (by simpa using hj),vI hi]
 by_cases h1:j=k
 ·rw[if_pos h1,if_pos h1.symm]
 ·rw[if_neg h1,if_neg (show¬k=j from fun h=>h1 h.symm)]
  by_cases h2:i=k
  ·rw[if_pos h2,if_pos h2.symm]
  ·rw[if_neg h2,if_neg (show¬k=i from fun h=>h2 h.symm)]
theorem oa {m:aT} {t c k:Nat} (ht:t<m.length):aK (fg t c m) k=if t=k then scaleB (Gf.inv (aP (aK m t) c)) (aK m t)else aK m k:=by
 rw[fg,vI ht]
section
variable {n:Nat} {m:aT}
theorem DK (hm:aL n m) {i j:Nat} (hi:i<m.length) (hj:j<m.length) (v:Row):Span n (ey m i j) v↔Span n m v:=by
 refine⟨Span.mono fun r hr=>?_,Span.mono fun r hr=>?_⟩
 ·obtain⟨k,hk,rfl⟩:=dg hr
  rw[gd]at hk
  rw[ly hi hj]
  split
  ·exact mem_row hi
  ·split
   ·exact mem_row hj
   ·exact mem_row hk
 ·obtain⟨k,hk,rfl⟩:=dg hr
  have e:∀x,x<m.length→aK (ey m i j) x∈ey m i j:=fun x hx=>mem_row (by rw[gd];exact hx)
  by_cases h1:k=i
  ·subst h1;have:=e j hj;rw[ly hi hj,if_pos rfl]at this;exact this
  ·by_cases h2:k=j
   ·subst h2;have:=e i hi;rw[ly hi hj]at this
    by_cases h3:i=k
    ·exact absurd h3.symm h1
    ·rw[if_neg h3,if_pos rfl]at this;exact this
   ·have:=e k hk;rw[ly hi hj,if_neg h2,if_neg h1]at this;exact this
theorem DL (hm:aL n m) {t c:Nat} (ht:t<m.length) (hne:aP (aK m t) c≠0) (v:Row):Span n (fg t c m) v↔Span n m v:=by
 have hev:=mm hm (c:=c) ht
 have hl:=ca hm ht
 have sc:∀(x:UInt8) (r:Row),r.length=n→scaleB x r=cf x r (bR n):=fun x r hr=>dU (n:=n) (by rw[iY,hr]) (by rw[bk (by simp[bR,hr])];simp[bR]) fun j _=>by
  rw[mo,bB (by simp[bR,hr]),du,UInt8.zero_xor]
 refine⟨Span.sub hm fun r hr=>?_,Span.sub hev fun r hr=>?_⟩
 ·obtain⟨k,hk,rfl⟩:=dg hr
  rw[iS]at hk
  rw[oa ht]
  split
  ·rw[sc _ _ hl];exact .add _ _ _ (mem_row ht) .zero
  ·exact Span.row hm (mem_row hk)
 ·obtain⟨k,hk,rfl⟩:=dg hr
  have e:∀x,x<m.length→Span n (fg t c m) (aK (fg t c m) x):=fun x hx=>Span.row hev (mem_row (by rw[iS];exact hx))
  by_cases h1:t=k
  ·subst h1
   have:=e t ht
   rw[oa ht,if_pos rfl]at this
   have h2:=this.comb hev .zero (aP (aK m t) c)
   have e3:cf (aP (aK m t) c) (scaleB (Gf.inv (aP (aK m t) c)) (aK m t)) (bR n)=aK m t:=dU (n:=n) (by rw[bk (by simp[bR,iY,hl])];simp[bR]) hl fun j _=>by
    rw[bB (by simp[bR,iY,hl]),du,UInt8.zero_xor,mo,←Gf.mul_assoc,Gf.vG hne,Gf.one_mul]
   rw[e3]at h2;exact h2
  ·have:=e k hk;rw[oa ht,if_neg h1]at this;exact this
theorem DM (hm:aL n m) {t c:Nat} (ht:t<m.length) (v:Row):Span n (cu t c m m.length) v↔Span n m v:=by
 have hev:=mn hm (c:=c) (k:=m.length) ht
 have hl:=ca hm ht
 refine⟨Span.sub hm fun r hr=>?_,Span.sub hev fun r hr=>?_⟩
 ·obtain⟨k,hk,rfl⟩:=dg hr
  rw[iT]at hk
  rw[jR hk]
  split
  ·exact .add _ _ _ (mem_row ht) (Span.row hm (mem_row hk))
  ·exact Span.row hm (mem_row hk)
 ·obtain⟨k,hk,rfl⟩:=dg hr
  have e:∀x,x<m.length→Span n (cu t c m m.length) (aK (cu t c m m.length) x):=fun x hx=>Span.row hev (mem_row (by rw[iT];exact hx))
  have et:=e t ht
  rw[jR ht,if_neg (by simp)]at et
  by_cases h1:k=t
  ·subst h1;exact et
  ·have h2:=e k hk
   rw[jR hk,if_pos ⟨hk,h1⟩]at h2
   have h3:=et.comb hev h2 (aP (aK m k) c)
   have hk':=ca hm hk
   have e3:cf (aP (aK m k) c) (aK m t) (cf (aP (aK m k) c) (aK m t) (aK m k))=aK m k:=dU (n:=n) (by rw[bk (by rw[bk (by omega)];omega),bk (by omega)];exact hk') hk' fun j _=>by
    rw[bB (by rw[bk (by omega)];omega),bB (by omega),vH]
   rw[e3]at h3;exact h3
def fC (f g:Nat→UInt8):Nat→UInt8
 |0=>0
 |k+1=>fC f g k^^^Gf.mul (f k) (g k)
theorem gP (f g:Nat→UInt8):∀k,(∀i,i<k→f i=0)→fC f g k=0
 |0,_=>rfl
 |k+1,h=>by rw[fC,gP f g k fun i hi=>h i (by omega),h k (by omega),Gf.zero_mul];rfl
theorem vJ (f g:Nat→UInt8) (x:Nat):∀k,x<k→(∀i,i<k→f i=if x=i then 1 else 0)→fC f g k=g x
 |0,hx,_=>by omega
 |k+1,hx,h=>by
  rw[fC]
  by_cases hk:x=k
  ·subst hk
   rw[gP f g x fun i hi=>by rw[h i (by omega),if_neg (by omega)],h x (by omega),if_pos rfl,Gf.one_mul,UInt8.zero_xor]
  ·rw[vJ f g x k (by omega) fun i hi=>h i (by omega),h k (by omega),if_neg hk,Gf.zero_mul,UInt8.xor_zero]
theorem vK (f1 f2 g:Nat→UInt8) (c:UInt8):∀k,fC (fun i=>f1 i^^^Gf.mul c (f2 i)) g k=fC f1 g k^^^Gf.mul c (fC f2 g k)
 |0=>by simp[fC,Gf.mul_zero]
 |k+1=>by
  rw[fC,fC,fC,vK f1 f2 g c k,Gf.k4,Gf.B6,Gf.mul_assoc]
  ac_rfl
theorem ua (S:Row→Prop) (c:Nat):leads S (c+1)=leads S c+if mL S c then 1 else 0:=by
 simp only[leads,List.range_succ,List.countP_append,List.countP_cons,List.countP_nil]
 by_cases h:mL S c<;>simp[h]
theorem DN (hm:aL n m):Way n m 0 0 m:=⟨hm,rfl,by omega,fun _=>Iff.rfl,by simp[leads],⟨fun _=>0,fun i hi=>by omega,fun i hi=>by omega,fun i hi=>by omega,fun i j _ hj=>by omega⟩,fun k _ _ j hj=>by omega⟩
theorem Ff (hm:aL n m) {c top:Nat} {rows:aT} (w:Way n m c top rows) (hc:c<n):Way n m (c+1) (ez (top,rows) c).1 (ez (top,rows) c).2:=by
 obtain⟨hev,hlen,htl,hsp,hcnt,⟨p,p1,p2,p3,p4⟩,hlow⟩:=w
 have hS:∀v,Span n rows v↔Span n m v:=hsp
 have hSeq:Span n rows=Span n m:=funext fun v=>propext (hS v)
 unfold ez
 dsimp only
 cases hb:dT rows top c with
 |none=>
  have hno:=AQ hb
  dsimp only
  have hnl:¬mL (Span n m) c:=by
   rw[←hSeq]
   rintro⟨v,hv,hz,hne⟩
   apply hne
   have hφ:=Span.Hs hev (fun v=>aP v c^^^fC (fun i=>aP v (p i)) (fun i=>aP (aK rows i) c) top) (by
     simp only[du];rw[gP _ _ _ fun i _=>rfl];rfl) (fun x a t ha ht=>by
     simp only[bB (show a.length=t.length by omega)]
     rw[vK,Gf.k4];ac_rfl) (fun r hr=>by
     obtain⟨k,hk,rfl⟩:=dg hr
     by_cases hkt:k<top
     ·rw[vJ _ _ k top hkt fun i hi=>by rw[p2 i hi k hk]];exact gO _
     ·rw[hno k (by omega) hk,gP _ _ _ fun i hi=>by rw[p2 i hi k hk,if_neg (by omega)]];rfl) hv
   rw[gP _ _ _ fun i hi=>hz _ (p1 i hi),UInt8.xor_zero]at hφ
   exact hφ
  refine⟨hev,hlen,htl,hsp,by rw[ua,if_neg hnl,hcnt];rfl,⟨p,fun i hi=>by have:=p1 i hi;omega,p2,p3,p4⟩,fun k hk1 hk2 j hj=>?_⟩
  rcases Nat.lt_succ_iff_lt_or_eq.1 hj with h|rfl
  ·exact hlow k hk1 hk2 j h
  ·exact hno k hk1 hk2
 |some at_=>
  have hh:=j8 hb
  obtain⟨h1,h2,h3⟩:=hh
  dsimp only
  have htt:top<rows.length:=by omega
  obtain⟨r1,hr1⟩:∃r1,r1=ey rows top at_:=⟨_,rfl⟩
  have l1:r1.length=rows.length:=by rw[hr1,gd]
  have ev1:aL n r1:=by rw[hr1];exact pO hev htt h2
  have q1:∀k,aK r1 k=if k=at_ then aK rows top else if k=top then aK rows at_ else aK rows k:=fun k=>by rw[hr1,ly htt h2]
  have q1t:aK r1 top=aK rows at_:=by
   rw[q1]
   by_cases h:top=at_
   ·rw[if_pos h,h]
   ·rw[if_neg h,if_pos rfl]
  have hne1:aP (aK r1 top) c≠0:=by rw[q1t];exact h3
  obtain⟨r2,hr2⟩:∃r2,r2=fg top c r1:=⟨_,rfl⟩
  have l2:r2.length=rows.length:=by rw[hr2,iS,l1]
  have ev2:aL n r2:=by rw[hr2];exact mm ev1 (by omega)
  have q2:∀k,aK r2 k=if top=k then scaleB (Gf.inv (aP (aK r1 top) c)) (aK r1 top)else aK r1 k:=fun k=>by rw[hr2,oa (by omega)]
  have hz2:∀j,aP (aK r1 top) j=0→aP (aK r2 top) j=0:=fun j hj=>by rw[q2,if_pos rfl,mo,hj,Gf.mul_zero]
  have hone:aP (aK r2 top) c=1:=by rw[q2,if_pos rfl,mo,Gf.mul_comm,Gf.vG hne1]
  obtain⟨r3,hr3⟩:∃r3,r3=cu top c r2 rows.length:=⟨_,rfl⟩
  have l3:r3.length=rows.length:=by rw[hr3,iT,l2]
  have q3:∀k,k<rows.length→∀j,aP (aK r3 k) j=if k=top then aP (aK r2 top) j else aP (aK r1 k) j^^^Gf.mul (aP (aK r1 k) c) (aP (aK r2 top) j):=fun k hk j=>by
   rw[hr3,jR (by omega)]
   by_cases h:k=top
   ·rw[if_neg (by omega),if_pos h,h]
   ·have e:=q2 k
    rw[if_neg (fun hh=>h hh.symm)]at e
    rw[if_pos ⟨hk,h⟩,if_neg h,bB (by rw[ca ev2 (by omega),ca ev2 (by omega)]),e]
  have low1:∀j,j<c→aP (aK r2 top) j=0:=fun j hj=>hz2 j (by rw[q1t];exact hlow at_ h1 h2 j hj)
  have keep:∀k,k<rows.length→∀j,j<c→aP (aK r3 k) j=if k=top then 0 else aP (aK r1 k) j:=fun k hk j hj=>by
   rw[q3 k hk,low1 j hj,Gf.mul_zero,UInt8.xor_zero]
  have old1:∀k,k<top→aK r1 k=aK rows k:=fun k hk=>by rw[q1,if_neg (by omega),if_neg (by omega)]
  have zer1:∀k,top≤k→k<rows.length→∀j,j<c→aP (aK r1 k) j=0:=fun k hk1 hk2 j hj=>by
   rw[q1]
   split
   ·exact hlow top (Nat.le_refl _) htt j hj
   ·split
    ·exact hlow at_ h1 h2 j hj
    ·exact hlow k hk1 hk2 j hj
  have hspan:∀v,Span n r3 v↔Span n m v:=fun v=>by
   rw[hr3,show rows.length=r2.length by omega,DM ev2 (by omega),hr2,DL ev1 (by omega) hne1,hr1,DK hev htt h2,hS]
  have hlead:mL (Span n m) c:=⟨aK r3 top,(hspan _).1 (Span.row (by rw[hr3];exact mn ev2 (by omega)) (mem_row (by omega))),fun j hj=>by rw[keep top htt j hj,if_pos rfl],by rw[q3 top htt,if_pos rfl,hone];decide⟩
  have hr3':cu top c (fg top c (ey rows top at_)) rows.length=r3:=by rw[hr3,hr2,hr1]
  rw[hr3']
  refine⟨by rw[hr3];exact mn ev2 (by omega),by omega,by omega,hspan,by rw[ua,if_pos hlead,hcnt],⟨fun i=>if i<top then p i else c,fun i hi=>?_,fun i hi k hk=>?_,fun i hi j hj=>?_,fun i j hij hj=>?_⟩,fun k hk1 hk2 j hj=>?_⟩
  ·dsimp only;split
   ·have:=p1 i (by assumption);omega
   ·omega
  ·dsimp only
   by_cases hit:i<top
   ·rw[if_pos hit,keep k (by omega) _ (p1 i hit)]
    by_cases hkt:k<top
    ·rw[if_neg (by omega),old1 k hkt];exact p2 i hit k (by omega)
    ·rw[if_neg (show¬k=i by omega)]
     split
     ·rfl
     ·exact zer1 k (by omega) (by omega) _ (p1 i hit)
   ·have hie:i=top:=by omega
    subst hie
    rw[if_neg hit,q3 k (by omega)]
    by_cases hki:k=i
    ·rw[if_pos hki,if_pos hki];exact hone
    ·rw[if_neg hki,if_neg hki,hone,Gf.mul_one];exact gO _
  ·dsimp only at hj
   by_cases hit:i<top
   ·rw[if_pos hit]at hj
    have:=p1 i hit
    rw[keep i (by omega) j (by omega),if_neg (by omega),old1 i hit]
    exact p3 i hit j hj
   ·have hie:i=top:=by omega
    subst hie
    rw[if_neg hit]at hj
    rw[keep i (by omega) j hj,if_pos rfl]
  ·dsimp only
   rw[if_pos (show i<top by omega)]
   split
   ·exact p4 i j hij (by assumption)
   ·exact p1 i (by omega)
  ·rcases Nat.lt_succ_iff_lt_or_eq.1 hj with h|rfl
   ·rw[keep k (by omega) j h,if_neg (by omega)];exact zer1 k (by omega) (by omega) j h
   ·rw[q3 k (by omega),if_neg (by omega),hone,Gf.mul_one];exact gO _
theorem rk (hm:aL n m):∀c,c≤n→Way n m c (aX m c).1 (aX m c).2
 |0,_=>DN hm
 |c+1,h=>by rw[aX];exact Ff hm (rk hm c (by omega)) (by omega)
theorem ft:∀c,aX [] c=(0,[])
 |0=>rfl
 |c+1=>by rw[aX,ft c];rfl
theorem gg (hm:aL n m):bA m=leads (Span n m) n:=by
 rw[←(rk hm n (Nat.le_refl _)).cnt,bA]
 cases m with
 |nil=>rw[ft,ft]
 |cons x t=>rw[cT,bY (by simp)];rw[show((x::t)[0]).length=n from hm _ (by simp)]
end
section
variable {n:Nat} {m m':aT}
theorem CF {S S':Row→Prop} (h:∀v,S v→S' v) (n:Nat):leads S n≤leads S' n:=by
 refine List.countP_mono_left fun j _ hj=>?_
 simp only[decide_eq_true_eq]at hj⊢
 obtain⟨v,h1,h2⟩:=hj
 exact⟨v,h v h1,h2⟩
theorem lz (hm:aL n m):bA m≤n:=by
 rw[gg hm]
 have:=List.countP_le_length (p:=fun j=>decide (mL (Span n m) j)) (l:=List.range n)
 simpa[leads]using this
theorem w7 (hm:aL n m) (hm':aL n m') (h:∀r∈m,r∈m'):bA m≤bA m':=by
 rw[gg hm,gg hm'];exact CF (fun v=>Span.mono h) n
theorem DO {P Q:Nat→Bool} (l:List Nat) (hd:l.Nodup) (h1:∀a∈l,P a=true→Q a=true) (h2:∀a∈l,∀b∈l,Q a=true→P a=false→Q b=true→P b=false→a=b):l.countP Q≤l.countP P+1:=by
 induction l with
 |nil=>simp
 |cons x t ih=>
  rw[List.nodup_cons]at hd
  have ih':=ih hd.2 (fun a ha=>h1 a (by simp[ha])) (fun a ha b hb=>h2 a (by simp[ha]) b (by simp[hb]))
  simp only[List.countP_cons]
  cases hQ:Q x with
  |false=>
   have:(if P x=true then 1 else 0)≥0:=by omega
   simp;omega
  |true=>
   cases hP:P x with
   |true=>simp;omega
   |false=>
    have:t.countP Q≤t.countP P:=by
     refine List.countP_mono_left fun a ha hq=>?_
     cases hpa:P a with
     |true=>rfl
     |false=>
      have:=h2 x (by simp) a (by simp[ha]) hQ hP hq hpa
      subst this
      exact absurd ha hd.1
    simp;omega
theorem w8 (hm:aL n m) {r:Row} (hr:r.length=n) {v:Row} (hv:Span n (m++[r]) v):∃(c:UInt8) (u:Row),Span n m u∧v=cf c r u:=by
 have hev:aL n (m++[r]):=fun x hx=>by
  rcases List.mem_append.1 hx with h|h
  ·exact hm x h
  ·rw[List.mem_singleton.1 h];exact hr
 induction hv with
 |zero=>exact⟨0,bR n,.zero,(dU (n:=n) (by rw[bk (by simp[bR,hr])];simp[bR]) (by simp[bR]) fun j _=>by rw[bB (by simp[bR,hr]),du,Gf.zero_mul];rfl).symm⟩
 |add d x w hx hw ih=>
  obtain⟨c,u,hu,rfl⟩:=ih
  have hul:=hu.len hm
  rcases List.mem_append.1 hx with h|h
  ·have hxl:=hm x h
   refine⟨c,cf d x u,.add d x u h hu,dU (n:=n) (by rw[bk (by rw[bk (by omega)];omega),bk (by omega)];exact hul) (by rw[bk (by rw[bk (by omega)];omega),bk (by omega)];exact hul) fun j _=>?_⟩
   rw[bB (by rw[bk (by omega)];omega),bB (by omega),bB (by rw[bk (by omega)];omega),bB (by omega)]
   ac_rfl
  ·have hxr:=List.mem_singleton.1 h
   subst hxr
   refine⟨c^^^d,u,hu,dU (n:=n) (by rw[bk (by rw[bk (by omega)];omega),bk (by omega)];exact hul) (by rw[bk (by omega)];exact hul) fun j _=>?_⟩
   rw[bB (by rw[bk (by omega)];omega),bB (by omega),bB (by omega),Gf.B6]
   ac_rfl
theorem gQ (hm:aL n m) {r:Row} (hr:r.length=n):aL n (m++[r]):=fun x hx=>by
 rcases List.mem_append.1 hx with h|h
 ·exact hm x h
 ·rw[List.mem_singleton.1 h];exact hr
theorem DP (hm:aL n m) {r:Row} (hr:r.length=n):bA m≤bA (m++[r])∧bA (m++[r])≤bA m+1:=by
 have hev:=gQ hm hr
 refine⟨w7 hm hev fun x hx=>by simp[hx],?_⟩
 rw[gg hm,gg hev]
 refine DO _ List.nodup_range (fun a _ ha=>?_) (fun a _ b _ qa pa qb pb=>?_)
 ·simp only[decide_eq_true_eq]at ha⊢
  obtain⟨v,h1,h2⟩:=ha
  exact⟨v,Span.mono (fun x hx=>by simp[hx]) h1,h2⟩
 ·simp only[decide_eq_true_eq,decide_eq_false_iff_not]at qa pa qb pb
  have key:∀a b,mL (Span n (m++[r])) a→¬mL (Span n m) a→mL (Span n (m++[r])) b→¬mL (Span n m) b→¬a<b:=by
   rintro a b ⟨v,hv,hz,hne⟩ pa ⟨w,hw,hzw,hnw⟩ pb hab
   obtain⟨c,u,hu,rfl⟩:=w8 hm hr hv
   obtain⟨d,u',hu',rfl⟩:=w8 hm hr hw
   have l1:=hu.len hm;have l2:=hu'.len hm
   have hd:d≠0:=by
    rintro rfl
    apply pb
    refine⟨u',hu',fun i hi=>?_,?_⟩
    ·have:=hzw i hi;rw[bB (by omega),Gf.zero_mul,UInt8.xor_zero]at this;exact this
    ·rw[bB (by omega),Gf.zero_mul,UInt8.xor_zero]at hnw;exact hnw
   apply pa
   refine⟨cf (Gf.mul c (Gf.inv d)) u' u,hu'.comb hm hu _,?_⟩
   have hval:∀j,aP (cf (Gf.mul c (Gf.inv d)) u' u) j=aP (cf c r u) j^^^Gf.mul (Gf.mul c (Gf.inv d)) (aP (cf d r u') j):=fun j=>by
    rw[bB (by omega),bB (by omega),bB (by omega),Gf.k4,←Gf.mul_assoc (Gf.mul c (Gf.inv d)) d,Gf.mul_assoc c (Gf.inv d) d,Gf.mul_comm (Gf.inv d) d,Gf.vG hd,Gf.mul_one]
    have:∀x y z:UInt8,x^^^y=x^^^z^^^(y^^^z):=fun x y z=>by
     have:x^^^z^^^(y^^^z)=x^^^y^^^(z^^^z):=by ac_rfl
     rw[this,gO,UInt8.xor_zero]
    exact this _ _ _
   refine⟨fun i hi=>?_,?_⟩
   ·rw[hval,hz i hi,hzw i (by omega),Gf.mul_zero];rfl
   ·rw[hval,hzw a hab,Gf.mul_zero,UInt8.xor_zero];exact hne
  have h1:=key a b qa pa qb pb
  have h2:=key b a qb pb qa pa
  omega
theorem pP (m:aT) (h:aL n m):bA m≤m.length:=by
 have key:∀k,k≤m.length→bA (m.take k)≤k:=by
  intro k
  induction k with
  |zero=>intro _;simp[bA,cT,aK,aX]
  |succ k ih=>
   intro hk
   have ht:aL n (m.take k):=fun x hx=>h x (List.mem_of_mem_take hx)
   have h1:=ih (by omega)
   rw[List.take_succ_eq_append_getElem (by omega)]
   have h2:=(DP ht (h _ (List.getElem_mem (show k<m.length by omega)))).2
   omega
 have:=key m.length (Nat.le_refl _)
 rwa [List.take_of_length_le (Nat.le_refl _)]at this
end
end Wl
namespace Wl
open Go
def yx (p:Int×Int×Int) (seed:Int) (ids:List Int):Nat:=bA (iu p seed ids)
def CG (p:Int×Int×Int) (seed:Int) (ids:List Int):Bool:=bP p&&((yx p seed ids:Int)==cd p)
def fu (p:Int×Int×Int):List Int:=upto (max 0 (min p.1 16)).toNat
theorem sM {p:Int×Int×Int} (h:bP p=true):cd p=p.1+p.2.1:=by rw[cd,if_pos h]
theorem DQ (p:Int×Int×Int) (seed:Int) (ids:List Int):aL (cd p).toNat (iu p seed ids):=by
 intro r hr
 unfold iu at hr
 split at hr
 ·rename_i hp
  have:=(dJ p).1 hp
  rcases List.mem_append.1 hr with h|h
  ·obtain⟨x,_,rfl⟩:=List.mem_map.1 h
   rw[pN,sM hp];omega
  ·obtain⟨x,_,rfl⟩:=List.mem_map.1 h
   exact zb _ _ _
 ·cases hr
end Wl
namespace Wl
def eZ (a b:aT):aT:=List.zipWith (·++·) a b
def fD (n:Nat) (m:aT):aT:=m.map (List.take n)
theorem sN {r:Row} {n j:Nat} (h:j<n):aP (r.take n) j=aP r j:=by
 simp only[aP,List.getD_eq_getElem?_getD,List.getElem?_take];rw[if_pos h]
theorem Fg (r:Row) (n j:Nat):aP (r.drop n) j=aP r (n+j):=by
 simp only[aP,List.getD_eq_getElem?_getD,List.getElem?_drop]
theorem k5 (n:Nat) (m:aT) (i:Nat):aK (fD n m) i=(aK m i).take n:=by
 simp only[aK,fD,List.getD_eq_getElem?_getD,List.getElem?_map]
 cases m[i]? with
 |none=>simp
 |some r=>rfl
theorem vL (n:Nat) (m:aT):(fD n m).length=m.length:=by simp[fD]
theorem CH {n top aV:Nat} (m:aT) (h:aV<n):dT (fD n m) top aV=dT m top aV:=by
 unfold dT
 rw[vL]
 congr 1
 funext i
 rw[k5,sN h]
theorem vM (n:Nat) (m:aT) (i:Nat) (r:Row):fD n (m.set i r)=(fD n m).set i (r.take n):=by simp[fD,List.map_set]
theorem Fh (n:Nat) (m:aT) (i j:Nat):fD n (ey m i j)=ey (fD n m) i j:=by
 rw[ey,vM,vM,ey,k5,k5]
theorem DR (n:Nat) (c:UInt8) (r:Row):(scaleB c r).take n=scaleB c (r.take n):=by simp[scaleB,List.map_take]
theorem GJ (n:Nat) (c:UInt8) (a t:Row):(cf c a t).take n=cf c (a.take n) (t.take n):=by simp[cf,List.take_zipWith]
theorem Fi {n aV:Nat} (h:aV<n) (t:Nat) (m:aT):fD n (fg t aV m)=fg t aV (fD n m):=by
 rw[fg,vM,DR,fg,k5,sN h]
theorem Fj {n aV:Nat} (h:aV<n) (t k:Nat) (m:aT):fD n (cu t aV m k)=cu t aV (fD n m) k:=by
 apply List.ext_getElem?
 intro i
 simp only[fD,cu,List.getElem?_map,List.getElem?_mapIdx]
 cases m[i]? with
 |none=>rfl
 |some r=>
  simp only[Option.map_some]
  congr 1
  have:=k5 n m t
  rw[fD]at this
  rw[this,sN h]
  split
  ·exact GJ _ _ _ _
  ·rfl
theorem Fk {n aV:Nat} (h:aV<n) (s:Nat×aT):((ez s aV).1,fD n (ez s aV).2)=ez (s.1,fD n s.2) aV:=by
 unfold ez
 dsimp only
 rw[CH _ h]
 cases dT s.2 s.1 aV with
 |none=>rfl
 |some i=>dsimp only;rw[Fj h,Fi h,Fh,vL]
theorem ub (n:Nat) (m:aT):∀c,c≤n→((aX m c).1,fD n (aX m c).2)=aX (fD n m) c
 |0,_=>rfl
 |c+1,h=>by
  have ih:=ub n m c (by omega)
  rw[aX,aX,Fk (show c<n by omega),ih]
theorem iZ {a b:aT} (h:a.length=b.length):(eZ a b).length=a.length:=by simp[eZ,h]
theorem rl {a b:aT} (h:a.length=b.length) {i:Nat} (hi:i<a.length):aK (eZ a b) i=aK a i++aK b i:=by
 rw[bY (by rw[iZ h];exact hi),bY hi,bY (by omega)];simp[eZ]
theorem lA {n w:Nat} {a b:aT} (h:a.length=b.length) (ha:aL n a) (hb:aL w b):aL (n+w) (eZ a b):=fun r hr=>by
 obtain⟨i,hi,rfl⟩:=dg hr
 rw[iZ h]at hi
 rw[rl h hi,List.length_append,ca ha hi,ca hb (by omega)]
theorem GK {n:Nat} {a b:aT} (h:a.length=b.length) (ha:aL n a):fD n (eZ a b)=a:=by
 apply List.ext_getElem (by rw[vL,iZ h])
 intro i h1 h2
 have:=k5 n (eZ a b) i
 rw[bY h1,rl h h2,List.take_left' (ca ha h2),bY h2]at this
 exact this
theorem Fl {n:Nat} {a:aT} (ha:aL n a):(aX a n).1=bA a:=by
 rw[bA]
 cases a with
 |nil=>rw[ft,ft]
 |cons x t=>rw[cT,bY (by simp)];rw[show((x::t)[0]).length=n from ha _ (by simp)]
theorem Fm {n:Nat} {a b:aT} (h:a.length=b.length) (ha:aL n a):(aX (eZ a b) n).1=bA a:=by
 have:=congrArg Prod.fst (ub n (eZ a b) n (Nat.le_refl _))
 rw[GK h ha]at this
 rw[←Fl ha];exact this
def oc (w:Nat) (r:Row) (X:aT):Nat→Row
 |0=>bR w
 |k+1=>cf (aP r k) (aK X k) (oc w r X k)
theorem sO {n w:Nat} {X:aT} (hX:aL w X) (hl:X.length=n) (r:Row):∀k,k≤n→(oc w r X k).length=w
 |0,_=>by simp[oc,bR]
 |k+1,h=>by
  have ih:=sO hX hl r k (by omega)
  rw[oc,bk (by rw[ca hX (by omega),ih])];exact ih
theorem sP {n w:Nat} {X:aT} (hX:aL w X) (hl:X.length=n) (r:Row) (j:Nat):∀k,k≤n→aP (oc w r X k) j=fC (fun i=>aP r i) (fun i=>aP (aK X i) j) k
 |0,_=>by rw[oc,du];rfl
 |k+1,h=>by
  have ih:=sP hX hl r j k (by omega)
  rw[oc,bB (by rw[ca hX (by omega),sO hX hl r k (by omega)]),ih];rfl
def pQ (n w:Nat) (a b X:aT):Prop:=X.length=n∧aL w X∧∀i,i<a.length→oc w (aK a i) X n=aK b i
def lB (n:Nat) (X:aT) (k:Nat) (v:Row):UInt8:=aP v (n+k)^^^fC (fun i=>aP v i) (fun i=>aP (aK X i) k) n
theorem kR {f f' g g':Nat→UInt8}:∀k,(∀i,i<k→f i=f' i)→(∀i,i<k→g i=g' i)→fC f g k=fC f' g' k
 |0,_,_=>rfl
 |k+1,h1,h2=>by rw[fC,fC,kR k (fun i hi=>h1 i (by omega)) (fun i hi=>h2 i (by omega)),h1 k (by omega),h2 k (by omega)]
theorem B7 (n:Nat) (X:aT) (k:Nat) (c:UInt8) (a t:Row) (h:a.length=t.length):lB n X k (cf c a t)=lB n X k t^^^Gf.mul c (lB n X k a):=by
 unfold lB
 rw[bB h]
 have:fC (fun i=>aP (cf c a t) i) (fun i=>aP (aK X i) k) n=fC (fun i=>aP t i^^^Gf.mul c (aP a i)) (fun i=>aP (aK X i) k) n:=kR n (fun i _=>bB h i) fun _ _=>rfl
 rw[this,vK,Gf.k4];ac_rfl
theorem B8 {a b:Row} {n:Nat} (ha:a.length=n) (k:Nat):aP (a++b) (n+k)=aP b k:=by
 simp only[aP,List.getD_eq_getElem?_getD]
 rw[List.getElem?_append_right (by omega),ha,Nat.add_sub_cancel_left]
theorem zc {a b:Row} {n j:Nat} (ha:a.length=n) (hj:j<n):aP (a++b) j=aP a j:=by
 simp only[aP,List.getD_eq_getElem?_getD]
 rw[List.getElem?_append_left (by omega)]
theorem pR {a b:UInt8}:a^^^b=0↔a=b:=by
 constructor
 ·intro h
  have:=congrArg (·^^^b) h
  simp only[UInt8.zero_xor]at this
  rwa [vH]at this
 ·rintro rfl;exact gO _
theorem CI {n w:Nat} {a b X:aT} (h:a.length=b.length) (ha:aL n a) (hb:aL w b) (hl:X.length=n) (hX:aL w X):pQ n w a b X↔∀k,k<w→∀v,Span (n+w) (eZ a b) v→lB n X k v=0:=by
 have hev:=lA h ha hb
 constructor
 ·intro hs k hk v hv
  refine Span.Hs hev (lB n X k) ?_ (fun c a t h1 h2=>B7 n X k c a t (by omega)) (fun r hr=>?_) hv
  ·unfold lB
   rw[du,gP _ _ n fun i _=>du _ _];rfl
  ·obtain⟨i,hi,rfl⟩:=dg hr
   rw[iZ h]at hi
   rw[rl h hi]
   unfold lB
   rw[B8 (ca ha hi),←hs.2.2 i hi,sP hX hl _ k n (Nat.le_refl _),pR]
   exact kR n (fun j hj=>(zc (ca ha hi) hj).symm) fun _ _=>rfl
 ·intro hp
  refine⟨hl,hX,fun i hi=>dU (n:=w) (sO hX hl _ n (Nat.le_refl _)) (ca hb (by omega)) fun k hk=>?_⟩
  have:=hp k hk _ (Span.row hev (mem_row (show i<(eZ a b).length by rw[iZ h];exact hi)))
  rw[rl h hi]at this
  unfold lB at this
  rw[B8 (ca ha hi),pR]at this
  rw[this,sP hX hl _ k n (Nat.le_refl _)]
  exact kR n (fun j hj=>(zc (ca ha hi) hj).symm) fun _ _=>rfl
theorem Ht {n:Nat} {p:Nat→Nat} (h1:∀i,i<n→p i<n) (h2:∀i j,i<j→j<n→p i<p j):∀i,i<n→p i=i:=by
 have lo:∀i,i<n→i≤p i:=by
  intro i
  induction i with
  |zero=>intro _;omega
  |succ i ih=>intro hi;have:=ih (by omega);have:=h2 i (i+1) (by omega) hi;omega
 have up:∀k i,i+k+1=n→p i≤i:=by
  intro k
  induction k with
  |zero=>intro i hi;have:=h1 i (by omega);omega
  |succ k ih=>intro i hi;have:=ih (i+1) (by omega);have:=h2 i (i+1) (by omega) (by omega);omega
 intro i hi
 have:=lo i hi
 have:=up (n-1-i) i (by omega)
 omega
def od (n:Nat) (a b:aT):aT:=(((aX (eZ a b) n).2).take n).map (List.drop n)
def Gj (n:Nat) (a b:aT):Prop:=∀r∈((aX (eZ a b) n).2).drop n,r=bR r.length
section
variable {n w:Nat} {a b:aT}
theorem GL (h:a.length=b.length) (ha:aL n a) (hb:aL w b) (hr:bA a=n):(od n a b).length=n∧aL w (od n a b):=by
 have hev:=lA h ha hb
 have h2:=fB hev n
 have h3:=pP a ha
 refine⟨by rw[od,List.length_map,List.length_take,h2.2,iZ h];omega,fun r hr'=>?_⟩
 obtain⟨x,hx,rfl⟩:=List.mem_map.1 hr'
 rw[List.length_drop,h2.1 x (List.mem_of_mem_take hx)];omega
theorem GM (h:a.length=b.length) (ha:aL n a) (hr:bA a=n) {i:Nat} (hi:i<n):aK (od n a b) i=(aK (aX (eZ a b) n).2 i).drop n:=by
 simp only[aK,od,List.getD_eq_getElem?_getD,List.getElem?_map,List.getElem?_take]
 rw[if_pos hi]
 cases(aX (eZ a b) n).2[i]? with
 |none=>simp
 |some r=>rfl
theorem Fo (h:a.length=b.length) (ha:aL n a) (hb:aL w b) (hr:bA a=n):
  (∀v,Span (n+w) (aX (eZ a b) n).2 v↔Span (n+w) (eZ a b) v)∧(aX (eZ a b) n).2.length=a.length∧(∀i,i<n→∀k,k<a.length→aP (aK (aX (eZ a b) n).2 k) i=if k=i then 1 else 0):=by
 have hev:=lA h ha hb
 have W:=rk hev n (by omega)
 have ht:(aX (eZ a b) n).1=n:=by rw[Fm h ha,hr]
 obtain⟨p,p1,p2,p3,p4⟩:=W.piv
 rw[ht]at p1 p2 p3 p4
 have hid:=Ht p1 p4
 have hl:(aX (eZ a b) n).2.length=a.length:=by rw[W.len,iZ h]
 refine⟨W.span,hl,fun i hi k hk=>?_⟩
 have:=p2 i hi k (by omega)
 rwa [hid i hi]at this
theorem Fp {X:aT} {r:Row} {i k:Nat} (hi:i<n) (hr:∀j,j<n→aP r j=if i=j then 1 else 0):lB n X k r=aP r (n+k)^^^aP (aK X i) k:=by
 unfold lB
 rw[vJ _ _ i n hi fun j hj=>hr j hj]
theorem GN {X:aT} {r:Row} {k:Nat} (hr:∀j,j<n→aP r j=0):lB n X k r=aP r (n+k):=by
 unfold lB
 rw[gP _ _ n hr,UInt8.xor_zero]
theorem CJ (h:a.length=b.length) (ha:aL n a) (hb:aL w b) (hr:bA a=n) (hc:Gj n a b):pQ n w a b (od n a b):=by
 have hev:=lA h ha hb
 have h2:=fB hev n
 obtain⟨hsp,hl,hd⟩:=Fo h ha hb hr
 have hle:=pP a ha
 obtain⟨s1,s2⟩:=GL h ha hb hr
 refine(CI h ha hb s1 s2).2 fun k hk v hv=>?_
 refine Span.Hs h2.1 (lB n (od n a b) k) ?_ (fun c x t h1 h2=>B7 n _ k c x t (by omega)) (fun r hr'=>?_) ((hsp v).2 hv)
 ·unfold lB
  rw[du,gP _ _ n fun i _=>du _ _];rfl
 ·obtain⟨i,hi,rfl⟩:=dg hr'
  by_cases hin:i<n
  ·rw[Fp hin fun j hj=>hd j hj i (by omega),GM h ha hr hin,Fg];exact gO _
  ·rw[GN fun j hj=>by rw[hd j hj i (by omega),if_neg (by omega)]]
   have:aK (aX (eZ a b) n).2 i∈(aX (eZ a b) n).2.drop n:=by
    rw[bY hi]
    obtain⟨d,rfl⟩:∃d,i=n+d:=⟨i-n,by omega⟩
    rw[←List.getElem_drop (h:=by rw[List.length_drop];omega)]
    exact List.getElem_mem _
   rw[hc _ this,du]
theorem AR (h:a.length=b.length) (ha:aL n a) (hb:aL w b) (hn:a.length=n):Gj n a b:=by
 have hev:=lA h ha hb
 have h2:=fB hev n
 intro r hr
 rw[List.drop_of_length_le (by rw[h2.2,iZ h];omega)]at hr
 cases hr
end
end Wl
namespace Wl
end Wl
namespace Wl
open Go Go.Vc
def iD (K H w:Nat) (d:Row):aT:=List.replicate H (bR w)++(List.range K).map (Hk d w)
def CK (p:Int×Int×Int) (seed:Int) (d:Row):aT:=od (cd p).toNat (iu p seed (fu p)) (iD p.1.toNat p.2.1.toNat p.2.2.toNat d)
structure cv (p:Int×Int×Int) (seed:Int) (d:Row) (K H w n:Nat):Prop where
 may:bP p=true
 full:CG p seed (fu p)=true
 k:p.1=K
 h:p.2.1=H
 s:p.2.2=w
 n:n=K+H
 k1:1≤K
 k2:K≤16
 h1:1≤H
 h2:H≤4
 w1:1≤w
 w2:w≤24
 len:d.length=K*w
section
variable {p:Int×Int×Int} {seed:Int} {d:Row} {K H w n:Nat}
theorem cv.lC (B:cv p seed d K H w n):cd p=n:=by rw[sM B.may,B.k,B.h,B.n];rfl
theorem cv.CL (B:cv p seed d K H w n):(cd p).toNat=n:=by rw[B.lC];rfl
theorem CM (hK:p.1=(K:Int)) (h:K≤16):fu p=upto K:=by
 rw[fu];congr 1;omega
theorem AS (h:K≤16):(upto K).filter cU=upto K:=by
 rw[List.filter_eq_self]
 intro x hx
 simp[upto]at hx
 obtain⟨a,ha,rfl⟩:=hx
 simp[cU];omega
theorem cv.B3 (B:cv p seed d K H w n):iu p seed (fu p)=bX K H++(List.range K).map fun i:Nat=>sI n seed (i:Int):=by
 rw[iu,if_pos B.may,CM B.k B.k2,AS B.k2,B.k,B.h,B.CL,Int.toNat_natCast,Int.toNat_natCast,upto,List.map_map]
 rfl
theorem cv.zd (B:cv p seed d K H w n):(iu p seed (fu p)).length=n:=by
 rw[B.B3,List.length_append,List.length_map,List.length_range,bX,List.length_map,List.length_range,B.n];omega
theorem cv.B9 (B:cv p seed d K H w n):aL n (iu p seed (fu p)):=by
 have:=DQ p seed (fu p)
 rwa [B.CL]at this
theorem cv.Is (B:cv p seed d K H w n):bA (iu p seed (fu p))=n:=by
 have h:=B.full
 rw[CG,B.may,B.lC,yx]at h
 simp at h
 exact Int.ofNat.inj h
theorem DS (K H w:Nat) (d:Row):(iD K H w d).length=K+H:=by simp[iD];omega
theorem uc (hl:d.length=K*w):aL w (iD K H w d):=fun r hr=>by
 rcases List.mem_append.1 hr with h|h
 ·rw[(List.mem_replicate.1 h).2];simp[bR]
 ·obtain⟨i,hi,rfl⟩:=List.mem_map.1 h
  rw[List.mem_range]at hi
  exact GG (by rw[hl];exact Nat.mul_le_mul_right w hi)
theorem DT {i:Nat} (hi:i<H):aK (iD K H w d) i=bR w:=by
 rw[aK,iD,List.getD_eq_getElem?_getD,List.getElem?_append_left (by simpa using hi)];simp[hi]
theorem cv.rU (B:cv p seed d K H w n):CK p seed d=od n (iu p seed (fu p)) (iD K H w d):=by
 rw[CK,B.CL,B.k,B.h,B.s];rfl
theorem cv.lens (B:cv p seed d K H w n):(iu p seed (fu p)).length=(iD K H w d).length:=by rw[B.zd,DS,B.n]
theorem cv.pQ (B:cv p seed d K H w n):pQ n w (iu p seed (fu p)) (iD K H w d) (CK p seed d):=by
 rw[B.rU]
 exact CJ B.lens B.B9 (uc B.len) B.Is (AR B.lens B.B9 (uc B.len) B.zd)
theorem cv.Hu (B:cv p seed d K H w n) {i:Nat} (hi:i<H):aK (iu p seed (fu p)) i=gN K H i:=by
 rw[B.B3,aK,List.getD_eq_getElem?_getD,List.getElem?_append_left (by simpa[bX]using hi)];simp[bX,hi]
theorem cv.low (B:cv p seed d K H w n) {i:Nat} (hi:i<H):oc w (gN K H i) (CK p seed d) n=bR w:=by
 have:=B.pQ.2.2 i (by rw[B.zd,B.n];omega)
 rwa [B.Hu hi,DT hi]at this
theorem cv.n1 (B:cv p seed d K H w n):1≤n:=by have:=B.n;have:=B.k1;omega
theorem cv.n2 (B:cv p seed d K H w n):n≤20:=by have:=B.n;have:=B.k2;have:=B.h2;omega
end
end Wl
namespace Wl
end Wl
namespace Go.Proofs.YtkciobclldnoiaaGreatDoor
open Go Go.Vc
def gC:Nat→Nat→Nat→List (List Nat)
 |0,_,_=>[[]]
 |t+1,a,n=>(List.range' a (n-t-a)).flatMap fun i=>(gC t (i+1) n).map (i::·)
def fh (n:Nat):List Nat→Option (List Nat)
 |[]=>none
 |x::l=>match fh n l with
  |some l'=>some (x::l')
  |none=>if x+l.length+1<n then some (List.range' (x+1) (l.length+1))else none
inductive jh (n:Nat):List Nat→List (List Nat)→Prop
 |last {l:List Nat}:fh n l=none→jh n l [l]
 |more {l l':List Nat} {L:List (List Nat)}:fh n l=some l'→jh n l' L→jh n l (l::L)
theorem pS {n:Nat}:∀{l l':List Nat},fh n l=some l'→l'.length=l.length
 |[],_,h=>by cases h
 |x::l,l',h=>by
  unfold fh at h
  cases hs:fh n l with
  |some m=>rw[hs]at h;injection h with h;subst h;simp[pS hs]
  |none=>
   rw[hs]at h
   dsimp only at h
   split at h
   ·injection h with h;subst h;simp
   ·cases h
theorem jh.cons {n x t:Nat} {l:List Nat} {L R:List (List Nat)} (h:jh n l L) (hl:l.length=t) (hx:x+t+1<n) (hR:jh n (List.range' (x+1) (t+1)) R):jh n (x::l) (L.map (x::·)++R):=by
 induction h with
 |last hs=>exact .more (by unfold fh;rw[hs];dsimp only;rw[if_pos (by omega),hl]) hR
 |more hs _ ih=>exact .more (by unfold fh;rw[hs]) (ih (by rw[pS hs,hl]))
theorem jh.HY {n x t:Nat} {l:List Nat} {L:List (List Nat)} (h:jh n l L) (hl:l.length=t) (hx:¬x+t+1<n):jh n (x::l) (L.map (x::·)):=by
 induction h with
 |last hs=>exact .last (by unfold fh;rw[hs];dsimp only;rw[if_neg (by omega)])
 |more hs _ ih=>exact .more (by unfold fh;rw[hs]) (ih (by rw[pS hs,hl]))
theorem pT (n:Nat):∀t a,a+t≤n→jh n (List.range' a t) (gC t a n)
 |0,a,_=>.last rfl
 |t+1,a,h=>by
  have key:∀m a,a+(t+1)≤n→m+1=n-t-a→jh n (List.range' a (t+1)) ((List.range' a (m+1)).flatMap fun i=>(gC t (i+1) n).map (i::·)):=by
   intro m
   induction m with
   |zero=>
    intro a h hm
    have:=(pT n t (a+1) (by omega)).HY (x:=a) (t:=t) (by simp) (by omega)
    simpa[List.range'_succ]using this
   |succ m ih=>
    intro a h hm
    have:=(pT n t (a+1) (by omega)).cons (x:=a) (t:=t) (by simp) (by omega) (ih (a+1) (by omega) (by omega))
    rw[List.range'_succ,List.range'_succ (n:=m+1),List.flatMap_cons]
    exact this
  have:=key (n-t-a-1) a h (by omega)
  rw[show n-t-a-1+1=n-t-a by omega]at this
  exact this
theorem ze {n:Nat}:∀(i:Nat) (l m:List Nat),i≤l.length→fh n (l.drop i)=some m→fh n l=some (l.take i++m)
 |0,l,m,_,h=>by simpa using h
 |i+1,[],m,h,_=>by simp at h
 |i+1,x::l,m,h,hs=>by
  have:=ze i l m (by simpa using h) (by simpa using hs)
  unfold fh;rw[this];simp
theorem sQ {n:Nat}:∀{t a:Nat} {s:List Nat},s∈gC t a n→s.length=t∧(∀x∈s,a≤x∧x<n)∧s.Pairwise (·<·)
 |0,a,s,h=>by simp[gC]at h;subst h;simp
 |t+1,a,s,h=>by
  simp only[gC,List.mem_flatMap,List.mem_map,List.mem_range'_1]at h
  obtain⟨i,hi,l,hl,rfl⟩:=h
  obtain⟨h1,h2,h3⟩:=sQ hl
  refine⟨by simp[h1],?_,List.pairwise_cons.2 ⟨fun x hx=>(h2 x hx).1,h3⟩⟩
  intro x hx
  rcases List.mem_cons.1 hx with rfl|hx
  ·omega
  ·have:=h2 x hx;omega
def ch:Nat→Nat→Nat
 |_,0=>1
 |0,_+1=>0
 |n+1,k+1=>ch n k+ch n (k+1)
theorem hJ (n:Nat):ch n 0=1:=by cases n<;>rfl
theorem rm:∀(n k:Nat),n<k→ch n k=0
 |_,0,h=>by omega
 |0,k+1,_=>rfl
 |n+1,k+1,h=>by rw[ch,rm n k (by omega),rm n (k+1) (by omega)]
theorem vN:∀n,ch n n=1
 |0=>rfl
 |n+1=>by rw[ch,vN n,rm n (n+1) (by omega)]
theorem pU:∀(n k:Nat),(k+1)*ch (n+1) (k+1)=(n+1)*ch n k
 |0,0=>rfl
 |0,k+1=>by rw[rm 0 (k+1) (by omega),rm (0+1) (k+1+1) (by omega)];simp
 |n+1,0=>by
  have:=pU n 0
  rw[hJ]at this⊢
  rw[ch,hJ,Nat.mul_add,this];omega
 |n+1,k+1=>by
  have h1:=pU n k
  have h2:=pU n (k+1)
  rw[ch]
  have e:(k+1+1)*(ch (n+1) (k+1)+ch (n+1) (k+1+1))=((k+1)*ch (n+1) (k+1)+ch (n+1) (k+1))+(k+1+1)*ch (n+1) (k+1+1):=by
   rw[Nat.mul_add,Nat.succ_mul (k+1)]
  rw[e,h1,h2]
  have e3:ch (n+1) (k+1)=ch n k+ch n (k+1):=rfl
  rw[e3,Nat.succ_mul (n+1),Nat.mul_add (n+1)]
  omega
theorem Ca {n k:Nat} (h:k≤n):ch n (k+1)*(k+1)=ch n k*(n-k):=by
 cases n with
 |zero=>
  have:k=0:=by omega
  subst this;rfl
 |succ n=>
  have h1:=pU n k
  have h2:(n+1)*ch n k=(n+1-k)*ch (n+1) k:=by
   cases k with
   |zero=>rw[hJ,hJ];simp
   |succ k=>
    have h3:=pU n k
    have e3:ch (n+1) (k+1)=ch n k+ch n (k+1):=rfl
    have e:(n+1)*ch (n+1) (k+1)=(n+1)*ch n k+(n+1)*ch n (k+1):=by rw[e3,Nat.mul_add]
    have e2:(n+1-(k+1))*ch (n+1) (k+1)=(n+1)*ch (n+1) (k+1)-(k+1)*ch (n+1) (k+1):=Nat.sub_mul _ _ _
    rw[e2,h3,e];omega
  rw[Nat.mul_comm,h1,h2,Nat.mul_comm]
theorem HZ {n k:Nat} (h:2*(k+1)≤n+1):ch n k≤ch n (k+1):=by
 have h1:=Ca (n:=n) (k:=k) (by omega)
 by_cases h0:ch n k=0
 ·omega
 ·have h2:ch n k*(k+1)≤ch n (k+1)*(k+1):=by rw[h1];exact Nat.mul_le_mul_left _ (by omega)
  exact Nat.le_of_mul_le_mul_right h2 (by omega)
theorem zf:∀(n k:Nat),k≤n→ch n k=ch n (n-k)
 |0,0,_=>rfl
 |n+1,0,_=>by rw[hJ,Nat.sub_zero,vN]
 |n+1,k+1,h=>by
  by_cases hk:k=n
  ·subst hk;rw[vN,Nat.sub_self,hJ]
  ·have h1:=zf n k (by omega)
   have h2:=zf n (k+1) (by omega)
   rw[show n+1-(k+1)=(n-(k+1))+1 by omega,ch,ch,h1,h2,show n-k=n-(k+1)+1 by omega];omega
theorem sS (n:Nat):∀t a,a≤n→(gC t a n).length=ch (n-a) t
 |0,a,_=>by rw[hJ];rfl
 |t+1,a,h=>by
  have key:∀m a,m=n-t-a→a≤n→((List.range' a m).flatMap fun i=>(gC t (i+1) n).map (i::·)).length=ch (n-a) (t+1):=by
   intro m
   induction m with
   |zero=>intro a hm ha;rw[rm _ _ (by omega)];rfl
   |succ m ih=>
    intro a hm ha
    rw[List.range'_succ,List.flatMap_cons,List.length_append,List.length_map,sS n t (a+1) (by omega),ih (a+1) (by omega) (by omega)]
    rw[show n-a=n-(a+1)+1 by omega];rfl
  exact key _ a rfl h
def fa (n t:Int):Int:=if 0≤n∧n≤64∧0≤t∧t≤n then(min (ch n.toNat t.toNat) 4097:Nat)else 0
end Go.Proofs.YtkciobclldnoiaaGreatDoor
namespace Wl
open Classical
def cV (r:Row):Nat:=r.findIdx (fun x=>x !=0)
def cj (M:aT) (r:Row):Row:=M.foldl (fun out x=>cf (aP out (cV x)) x out) r
def gS (m:aT):aT:=(aX m (cT m)).2.take (bA m)
def zg (M:aT) (r:Row):aT:=if cV (cj M r)<(cj M r).length then gS (M++[cj M r])else M
theorem vO {r:Row} {c:Nat} (h:c<r.length):aP r c=r[c]:=by rw[aP,List.getD_eq_getElem?_getD,List.getElem?_eq_getElem h];rfl
theorem GO {r:Row} {j:Nat} (h:aP r j≠0):cV r<r.length:=by
 have hj:j<r.length:=Nat.lt_of_not_le fun hh=>h (by simp[aP,List.getD_eq_getElem?_getD,List.getElem?_eq_none hh])
 rw[cV,List.findIdx_lt_length]
 exact⟨r[j],List.getElem_mem hj,by rw[←vO hj];simpa using h⟩
theorem DU {r:Row} (h:¬cV r<r.length):r=bR r.length:=by
 rw[cV,List.findIdx_lt_length]at h
 refine dU rfl (by simp[bR]) fun j hj=>?_
 rw[du,vO hj]
 have h2:¬((r[j] !=0)=true):=fun hh=>h ⟨r[j],List.getElem_mem hj,hh⟩
 simpa using h2
section
variable {n:Nat} {m M A:aT}
theorem sT (hM:aL n M) {r:Row} (hr:r.length=n):(cj M r).length=n:=by
 unfold cj
 induction M generalizing r with
 |nil=>exact hr
 |cons x M ih=>
  rw[List.foldl_cons]
  exact ih (fun y hy=>hM y (List.mem_cons_of_mem _ hy)) (by rw[bk (by rw[hM x (by simp),hr])];exact hr)
theorem DV {c:UInt8} {a t:Row} (h:a.length=t.length):cf c a (cf c a t)=t:=
 dU (n:=t.length) (by rw[bk (by rw[bk h];exact h),bk h]) rfl fun j _=>by
  rw[bB (by rw[bk h];exact h),bB h,vH]
theorem w9 (hm:aL n m) (hM:∀x∈M,Span n m x) {r:Row} (hr:r.length=n):Span n m (cj M r)↔Span n m r:=by
 unfold cj
 induction M generalizing r with
 |nil=>exact Iff.rfl
 |cons x M ih=>
  have hx:=hM x (by simp)
  have hl:x.length=r.length:=by rw[hx.len hm,hr]
  rw[List.foldl_cons,ih (fun y hy=>hM y (List.mem_cons_of_mem _ hy)) (by rw[bk hl];exact hr)]
  refine⟨fun h=>?_,fun h=>hx.comb hm h _⟩
  have:=hx.comb hm h (aP r (cV x))
  rw[DV hl]at this;exact this
structure oe (n:Nat) (M A:aT):Prop where
 even:aL n M
 evenA:aL n A
 span:∀v,Span n M v↔Span n A v
 len:M.length=bA A
 lead:∀x∈M,cV x<n
theorem Hv (n:Nat):oe n [] []:=⟨fun _ h=>(by cases h),fun _ h=>(by cases h),fun _=>Iff.rfl,by simp[bA,ft],fun _ h=>(by cases h)⟩
theorem xa (hm:aL n m) (hA:aL n A) (h:∀v,Span n m v↔Span n A v):bA m=bA A:=by
 rw[gg hm,gg hA];congr 1;funext v;exact propext (h v)
theorem Fq (hm:aL n m):Way n m n (bA m) (aX m (cT m)).2:=by
 have h:=rk hm n (Nat.le_refl _)
 cases m with
 |nil=>rw[ft]at h;rw[bA,ft];exact h
 |cons x t=>
  have hw:cT (x::t)=n:=by rw[cT,bY (by simp)];exact hm _ (by simp)
  rw[bA,hw];exact h
theorem Hw (hm:aL n m):aL n (gS m)∧(∀v,Span n (gS m) v↔Span n m v)∧(gS m).length=bA m∧∀x∈gS m,cV x<n:=by
 have w:=Fq hm
 obtain⟨hev,hlen,htl,hsp,hcnt,⟨p,p1,p2,p3,p4⟩,hlow⟩:=w
 have hev':aL n (gS m):=fun x hx=>hev x (List.mem_of_mem_take hx)
 refine⟨hev',fun v=>?_,by rw[gS,List.length_take];omega,fun x hx=>?_⟩
 ·rw[←hsp v]
  refine⟨Span.mono fun r hr=>List.mem_of_mem_take hr,Span.sub hev' fun r hr=>?_⟩
  obtain⟨k,hk,rfl⟩:=dg hr
  by_cases hkt:k<bA m
  ·refine Span.row hev' ?_
   have:aK (aX m (cT m)).2 k=aK (gS m) k:=by
    rw[bY hk,bY (by rw[gS,List.length_take];omega)];simp[gS]
   rw[this];exact mem_row (by rw[gS,List.length_take];omega)
  ·have:aK (aX m (cT m)).2 k=bR n:=dU (hev _ hr) (by simp[bR]) fun j hj=>by rw[du];exact hlow k (by omega) hk j hj
   rw[this];exact .zero
 ·obtain⟨k,hk,rfl⟩:=dg hx
  have hk':k<bA m:=by rw[gS,List.length_take]at hk;omega
  have hk2:k<(aX m (cT m)).2.length:=by omega
  have e:aK (gS m) k=aK (aX m (cT m)).2 k:=by rw[bY hk2,bY hk];simp[gS]
  have h1:=p2 k hk' k hk2
  rw[if_pos rfl]at h1
  have h2:=GO (r:=aK (gS m) k) (j:=p k) (by rw[e,h1];decide)
  rw[hev' _ hx]at h2;exact h2
theorem Fs (h:∀v,Span n M v↔Span n A v) (hM:aL n M) (hA:aL n A) {r:Row} (hr:r.length=n) {rest:Row} (hl:rest.length=n)
  (hs:∀m,aL n m→(∀x∈M,Span n m x)→(Span n m rest↔Span n m r)):∀v,Span n (M++[rest]) v↔Span n (A++[r]) v:=fun v=>by
 have e1:=gQ hM hl
 have e2:=gQ hA hr
 have m1:∀x∈M,Span n (M++[rest]) x:=fun x hx=>Span.row e1 (List.mem_append_left _ hx)
 have m2:∀x∈M,Span n (A++[r]) x:=fun x hx=>Span.mono (fun y hy=>List.mem_append_left _ hy) ((h x).1 (Span.row hM hx))
 constructor
 ·refine Span.sub e2 fun y hy=>?_
  rcases List.mem_append.1 hy with hy|hy
  ·exact m2 y hy
  ·rw[List.mem_singleton]at hy;subst hy
   exact(hs _ e2 m2).2 (Span.row e2 (by simp))
 ·refine Span.sub e1 fun y hy=>?_
  rcases List.mem_append.1 hy with hy|hy
  ·exact Span.mono (fun z hz=>List.mem_append_left _ hz) ((h y).2 (Span.row hA hy))
  ·rw[List.mem_singleton]at hy;subst hy
   exact(hs _ e1 m1).1 (Span.row e1 (by simp))
theorem DW (h:oe n M A) {r:Row} (hr:r.length=n):oe n (zg M r) (A++[r]):=by
 have hl:=sT h.even hr
 have hs:=Fs h.span h.even h.evenA hr hl fun m hm hM=>w9 hm hM hr
 have e2:=gQ h.evenA hr
 unfold zg
 split
 ·have t:=Hw (gQ h.even hl)
  refine⟨t.1,e2,fun v=>(t.2.1 v).trans (hs v),?_,t.2.2.2⟩
  rw[t.2.2.1];exact xa (gQ h.even hl) e2 hs
 ·rename_i hz
  have hz:=DU hz
  have hin:Span n M r:=(w9 h.even (fun x hx=>Span.row h.even hx) hr).1 (by rw[hz,hl];exact .zero)
  have key:∀v,Span n M v↔Span n (A++[r]) v:=fun v=>by
   rw[h.span v]
   refine⟨Span.mono fun x hx=>List.mem_append_left _ hx,Span.sub h.evenA fun y hy=>?_⟩
   rcases List.mem_append.1 hy with hy|hy
   ·exact Span.row h.evenA hy
   ·rw[List.mem_singleton]at hy;subst hy;exact(h.span _).1 hin
  refine⟨h.even,e2,key,?_,h.lead⟩
  rw[h.len];exact xa h.evenA e2 fun v=>(h.span v).symm.trans (key v)
end
end Wl
