/- Part of the proofs that the laws of this seat answer true whatever the input reads, and leave it as it was; no condition. -/
import Derived.Test.YteieadfggboeeaaGreatDoorVcA
set_option linter.unusedVariables false
set_option linter.unusedSimpArgs false
namespace Go.Vc
open Go
section
variable {A B:Prop}
theorem an {p:Prop} [Decidable p] (h1:p→A) (h2:¬p→B):Br (decide p) A B:=by
 by_cases h:p
 ·rw[decide_eq_true h];exact h1 h
 ·rw[decide_eq_false h];exact h2 h
theorem bn {a b:Int} (h1:a=b→A) (h2:a≠b→B):Br (a==b) A B:=by
 by_cases h:a=b
 ·rw[beq_iff_eq.2 h];exact h1 h
 ·rw[beq_eq_false_iff_ne.2 h];exact h2 h
theorem cT {a b:Int} (h1:a≠b→A) (h2:a=b→B):Br (a !=b) A B:=by
 by_cases h:a=b
 ·rw[show(a !=b)=false by simp[h]];exact h2 h
 ·rw[show(a !=b)=true by simp[h]];exact h1 h
theorem bV {b:Bool} (h1:b=true→A) (h2:b=false→B):Br b A B:=by
 cases b
 ·exact h2 rfl
 ·exact h1 rfl
theorem bm {b:Bool} (h1:b=false→A) (h2:b=true→B):Br (!b) A B:=by
 cases b
 ·exact h1 rfl
 ·exact h2 rfl
theorem jV {b:Bool} (h:b=true) (h1:A):Br b A B:=by subst h;exact h1
theorem qY {b:Bool} (h:b=false) (h1:B):Br b A B:=by subst h;exact h1
end
theorem aJ {σ:Type} {rest:σ→Heap→Prop} {B:(σ→Heap→Prop)→Prop} (h:B rest):aD rest B:=⟨rest,fun _ _ x=>x,h⟩
theorem bu {σ:Type} {rest:σ→Heap→Prop} {B:(σ→Heap→Prop)→Prop} (R:σ→Heap→Prop) (h1:B R) (h2:∀s h,R s h→rest s h):aD rest B:=⟨R,h2,h1⟩
theorem aE {σ:Type} {B:σ→(σ→Heap→Prop)→Heap→Prop} {s:σ} {h:Heap} {τ:Type} (V:τ→σ) (I:τ→Heap→Prop) (μ:τ→Nat) (t0:τ) (hs:s=V t0) (h0:I t0 h)
  (hr:∀t h,I t h→B (V t) (fun s' h'=>∃t',s'=V t'∧I t' h'∧μ t'<μ t) h):aS B s h:=⟨τ,V,I,μ,t0,hs,h0,hr⟩
end Go.Vc
namespace Go.Vc
open Go
abbrev aj:=Nat→Prop
def ax (p:aj) (h h':Heap):Prop:=h.size≤h'.size∧∀b,b<h.size→p b→h'[b]?=h[b]?
def Sl.on (s:Sl) (b:Nat):Prop:=∃o,s.ptr=some ⟨b,o,none⟩
section
variable {p q:aj} {h h' h'':Heap}
theorem ax.refl (p:aj) (h:Heap):ax p h h:=⟨Nat.le_refl _,fun _ _ _=>rfl⟩
theorem ax.then (a:ax p h h') (b:ax q h' h'') (hq:∀k,k<h.size→p k→q k):ax p h h'':=⟨Nat.le_trans a.1 b.1,fun k hk hp=>(b.2 k (Nat.lt_of_lt_of_le hk a.1) (hq k hk hp)).trans (a.2 k hk hp)⟩
theorem ax.mono (a:ax p h h') (hq:∀b,b<h.size→q b→p b):ax q h h':=⟨a.1,fun k hk hp=>a.2 k hk (hq k hk hp)⟩
theorem ax.push (p:aj) (h:Heap) (o:Obj):ax p h (h.push o):=⟨by simp,fun b hb _=>by rw[Array.getElem?_push,if_neg (by omega)]⟩
theorem cg {a:Addr} {v:Value} (hc:cellOf h a=some v):a.block<h.size:=by
 unfold cellOf at hc
 cases hb:h[a.block]? with
 |none=>rw[hb]at hc;cases hc
 |some o=>exact(Array.getElem?_eq_some_iff.1 hb).1
theorem lt_of_block {b:Nat} {o:Obj} (hb:h[b]?=some o):b<h.size:=(Array.getElem?_eq_some_iff.1 hb).1
theorem ax.cell (a:ax p h h') {x:Addr} {v:Value} (hp:p x.block) (hc:cellOf h x=some v):cellOf h' x=some v:=by
 have:=a.2 _ (cg hc) hp
 unfold cellOf at*
 rw[this];exact hc
theorem ax.block (a:ax p h h') {b:Nat} {o:Obj} (hp:p b) (hb:h[b]?=some o):h'[b]?=some o:=by rw[a.2 b (lt_of_block hb) hp];exact hb
theorem ax.cells (a:ax p h h') {x:Addr} (hp:p x.block):∀{vs:List Value} {i:Nat},ai h x i vs→ai h' x i vs
 |[],_,_=>trivial
 |v::r,i,hc=>⟨a.cell (by unfold Addr.add;split<;>exact hp) hc.1,ax.cells a hp hc.2⟩
end
theorem add_eq (b o n:Nat):(⟨b,o,none⟩:Addr).add n=⟨b,o+n,none⟩:=by
 unfold Addr.add
 split
 ·rename_i h;subst h;rfl
 ·rfl
theorem add_zero (a:Addr):a.add 0=a:=rfl
theorem il {h:Heap} {b o:Nat} {c:Array Value} {e:TypeId} {f:Nat×Nat} (hb:h[b]?=some (.cells c e f)):cellOf h ⟨b,o,none⟩=c[o]?:=by
 unfold cellOf;rw[hb];rfl
theorem wo {h:Heap} {b o:Nat} {c:Array Value} {e:TypeId} (hb:h[b]?=some (.cells c e (0,0))):tM h ⟨b,o,none⟩=false:=by
 unfold tM;rw[hb];simp
structure Seq {α:Type} (h:Heap) (p:aj) (s:Sl) (k:Nat) (f:α→List Value) (l:List α):Prop where
 len:s.len=l.length
 elem:∀i x,l[i]?=some x→∃b o,s.ptr=some ⟨b,o,none⟩∧p b∧ai h ⟨b,o+i*k,none⟩ 0 (f x)
section
variable {α:Type} {h h':Heap} {p q:aj} {s:Sl} {k:Nat} {f:α→List Value} {l:List α}
theorem Seq.aq (hs:Seq h p s k f l) (hp:ax p h h'):Seq h' p s k f l:=⟨hs.len,fun i x hx=>by
 obtain⟨b,o,h1,h2,h3⟩:=hs.elem i x hx
 exact⟨b,o,h1,h2,hp.cells h2 h3⟩⟩
theorem Seq.mono (hs:Seq h p s k f l) (hp:∀b,p b→q b):Seq h q s k f l:=⟨hs.len,fun i x hx=>by
 obtain⟨b,o,h1,h2,h3⟩:=hs.elem i x hx
 exact⟨b,o,h1,hp b h2,h3⟩⟩
theorem Seq.nil (h:Heap) (p:aj) (c:Nat) (pt:Option Addr) (k:Nat) (f:α→List Value):Seq h p ⟨pt,0,c⟩ k f []:=⟨rfl,fun i x hx=>by simp at hx⟩
theorem Seq.bd {X:Type} {g:X→Value} (hs:Seq h p s 1 f l) {i:Int} (n:Nat) (hi:i=n) (hn:n<l.length) (x:X) (hx:f l[n]=[g x]) {K:X→Prop} (hk:K x):
  ∃a:Addr,(s.ptr=some a∧0≤i∧i<((s.len:Nat):Int))∧∃x:X,cellOf h (a.add (i.toNat*1))=some (g x)∧K x:=by
 subst hi
 obtain⟨b,o,h1,_,h3⟩:=hs.elem n l[n] (List.getElem?_eq_getElem hn)
 refine⟨_,⟨h1,by omega,by rw[hs.len];omega⟩,x,?_,hk⟩
 rw[hx]at h3
 have:=h3.1
 rw[add_eq,Nat.add_zero]at this
 rw[add_eq];simpa using this
theorem Seq.qZ {X:Type} {g:X→List Value} (hs:Seq h p s k f l) {i:Int} (n:Nat) (hi:i=n) (hn:n<l.length) (x:X) (hx:f l[n]=g x) {K:X→Prop} (hk:K x):
  ∃a:Addr,(s.ptr=some a∧0≤i∧i<((s.len:Nat):Int))∧∃x:X,ai h (a.add (i.toNat*k)) 0 (g x)∧K x:=by
 subst hi
 obtain⟨b,o,h1,_,h3⟩:=hs.elem n l[n] (List.getElem?_eq_getElem hn)
 refine⟨_,⟨h1,by omega,by rw[hs.len];omega⟩,x,?_,hk⟩
 rw[add_eq]
 rw[hx]at h3
 simpa using h3
end
def aA (n:Int):List Value:=[.int .i64 n]
def aB (n:UInt8):List Value:=[.int .u8 n.toNat]
def fI (s:Sl):List Value:=[.slice s.ptr s.len s.cap]
structure zW {α:Type} (h:Heap) (p:aj) (s:Sl) (k:Nat) (f:α→List Value) (ll:List (List α)) (rs:List Sl):Prop where
 top:Seq h p s 1 fI rs
 len:rs.length=ll.length
 row:∀(i:Nat) (r:Sl) (l:List α),rs[i]?=some r→ll[i]?=some l→Seq h p r k f l
section
variable {α:Type} {h h':Heap} {p q:aj} {s:Sl} {k:Nat} {f:α→List Value} {ll:List (List α)} {rs:List Sl}
end
structure Own {α:Type} (h:Heap) (e:TypeId) (s:Sl) (k:Nat) (f:α→List Value) (l:List α):Prop where
 len:s.len=l.length
 head:(s.ptr=none∧s.cap=0∧l=[])∨∃b rest,s.ptr=some ⟨b,0,none⟩∧h[b]?=some (.cells (l.flatMap f++rest).toArray e (0,0))∧rest.length=(s.cap-s.len)*k∧s.len≤s.cap
theorem bO {α:Type} {k:Nat} {f:α→List Value} (hw:∀x,(f x).length=k):∀(l:List α),(l.flatMap f).length=l.length*k
 |[]=>by simp
 |x::r=>by rw[List.flatMap_cons,List.length_append,hw,bO hw r,List.length_cons,Nat.succ_mul];omega
theorem ra {α:Type} {k:Nat} {f:α→List Value} (hw:∀x,(f x).length=k):∀(l:List α) (i:Nat) (x:α),l[i]?=some x→∃pre post,l.flatMap f=pre++f x++post∧pre.length=i*k
 |y::r,0,x,h=>by simp at h;subst h;exact⟨[],r.flatMap f,by simp,by simp⟩
 |y::r,i+1,x,h=>by
  obtain⟨pre,post,h1,h2⟩:=ra hw r i x (by simpa using h)
  exact⟨f y++pre,post,by simp[h1],by rw[List.length_append,hw,h2,Nat.succ_mul];omega⟩
theorem jW {h:Heap} {b o:Nat} {e:TypeId} {fr:Nat×Nat}:∀{vs pre post:List Value} {i:Nat},h[b]?=some (.cells (pre++vs++post).toArray e fr)→pre.length=o+i→ai h ⟨b,o,none⟩ i vs
 |[],_,_,_,_,_=>trivial
 |v::r,pre,post,i,hb,hl=>by
  refine⟨?_,jW (pre:=pre++[v]) (post:=post) (by simpa using hb) (by simp;omega)⟩
  rw[add_eq,il hb,←hl]
  simp
def cX (h:Heap) (b:Nat) (o:Obj):Heap:=h.setIfInBounds b o
theorem cY {h:Heap} {b c:Nat} {o x:Obj} (hb:h[b]?=some x):(cX h b o)[c]?=if b=c then some o else h[c]?:=by
 unfold cX
 rw[Array.getElem?_setIfInBounds]
 split
 ·rename_i e;subst e;rw[if_pos (lt_of_block hb)]
 ·rfl
theorem uV {h:Heap} {b o:Nat} {c:Array Value} {e:TypeId} {f:Nat×Nat} {v:Value} (hb:h[b]?=some (.cells c e f)):tN h ⟨b,o,none⟩ v=cX h b (.cells (c.setIfInBounds o v) e f):=by
 apply Array.ext_getElem?
 intro i
 rw[cY hb]
 simp only[tN,Array.getElem?_modify]
 split
 ·rename_i hi;subst hi;rw[hb];rfl
 ·rfl
theorem uW (h:Heap) (b:Nat) (o o':Obj):cX (cX h b o) b o'=cX h b o':=by
 unfold cX;simp
theorem ax.cX {p:aj} {h:Heap} {b:Nat} {o x:Obj} (hb:h[b]?=some x) (hp:¬p b):ax p h (cX h b o):=⟨by simp[Go.Vc.cX],fun c _ hq=>by
 rw[cY hb,if_neg (fun e=>hp (by rw[e];exact hq))]⟩
theorem cd {P:Program} {b o:Nat} {e:TypeId} {K:Unit→Heap→Prop}:∀{vs pre old post:List Value} {i:Nat} {h:Heap},h[b]?=some (.cells (pre++old++post).toArray e (0,0))→old.length=vs.length→pre.length=o+i→
  (∀v∈vs,v.oneCell'=true)→K () (cX h b (.cells (pre++vs++post).toArray e (0,0)))→aa P (storeCells ⟨b,o,none⟩ vs i) h K
 |[],pre,old,post,i,h,hb,hl,hp,hv,hk=>by
  have:old=[]:=List.eq_nil_of_length_eq_zero (by simpa using hl)
  subst this
  refine aa.pure' ?_
  have e1:cX h b (.cells (pre++[]++post).toArray e (0,0))=h:=by
   apply Array.ext_getElem?
   intro c
   rw[cY hb]
   split
   ·rename_i hc;subst hc;exact hb.symm
   ·rfl
  rw[e1]at hk;exact hk
 |v::r,pre,old,post,i,h,hb,hl,hp,hv,hk=>by
  cases old with
  |nil=>simp at hl
  |cons u old=>
   simp only[storeCells]
   refine aa.bind ?_
   rw[add_eq]
   have hc:cellOf h ⟨b,o+i,none⟩=some u:=by rw[il hb,←hp];simp
   refine aa.ya (hv v (by simp)) hc (wo hb) ?_
   rw[uV hb]
   have hset:(pre++(u::old)++post).toArray.setIfInBounds (o+i) v=((pre++[v])++old++post).toArray:=by
    rw[←hp]
    apply Array.ext'
    simp
   rw[hset]
   refine cd (e:=e) (pre:=pre++[v]) (old:=old) (post:=post) ?_ (by simpa using hl) (by simp;omega) (fun x hx=>hv x (by simp[hx])) ?_
   ·rw[cY hb,if_pos rfl]
   ·rw[uW];simpa using hk
theorem pe {P:Program} {h:Heap} {a:Addr} {vs:List Value} {n:Nat} {K:Array Value→Heap→Prop} (hn:vs.length=n) (hc:ai h a 0 vs) (hk:K vs.toArray h):aa P (loadCells a n) h K:=fun w hw=>by
 subst hw
 refine⟨vs.toArray,w,?_,aL.refl w,hk⟩
 have:=run_loadCells (P:=P) (w:=w) (a:=a) vs 0 #[] hc
 rw[hn]at this
 unfold loadCells
 rw[this];simp
section
variable {α:Type} {h h':Heap} {p:aj} {e:TypeId} {s:Sl} {k:Nat} {f:α→List Value} {l:List α}
theorem Own.lt (ho:Own h e s k f l) {b:Nat} (hb:s.on b):b<h.size:=by
 rcases ho.head with⟨h1,_,_⟩|⟨b',rest,h1,h2,_,_⟩
 ·obtain⟨o,h0⟩:=hb;rw[h1]at h0;cases h0
 ·obtain⟨o,h0⟩:=hb
  rw[h1]at h0
  cases h0
  exact lt_of_block h2
theorem Own.aq (ho:Own h e s k f l) (hp:ax p h h') (hon:∀b,s.on b→p b):Own h' e s k f l:=⟨ho.len,by
 rcases ho.head with h1|⟨b,rest,h1,h2,h3,h4⟩
 ·exact .inl h1
 ·exact .inr ⟨b,rest,h1,hp.block (hon b ⟨0,h1⟩) h2,h3,h4⟩⟩
theorem Own.seq (ho:Own h e s k f l) (hw:∀x,(f x).length=k) (hon:∀b,s.on b→p b):Seq h p s k f l:=⟨ho.len,fun i x hx=>by
 rcases ho.head with⟨_,_,h1⟩|⟨b,rest,h1,h2,h3,h4⟩
 ·subst h1;simp at hx
 ·obtain⟨pre,post,g1,g2⟩:=ra hw l i x hx
  refine⟨b,0,h1,hon b ⟨0,h1⟩,jW (e:=e) (fr:=(0,0)) (pre:=pre) (post:=post++rest) ?_ (by omega)⟩
  rw[h2,g1];simp⟩
theorem Own.nil (h:Heap) (e:TypeId) (k:Nat) (f:α→List Value):Own h e ⟨none,0,0⟩ k f []:=⟨rfl,.inl ⟨rfl,rfl,rfl⟩⟩
theorem Own.cap (ho:Own h e s k f l):s.len≤s.cap:=by
 rcases ho.head with⟨h1,h2,h3⟩|⟨b,rest,h1,h2,h3,h4⟩
 ·have:=ho.len;rw[h3]at this;simp at this;omega
 ·exact h4
end
end Go.Vc
namespace Go.Vc
open Go
theorem aa.always {α:Type} {P:Program} {s:Sem α} {v:α} {h:Heap} {K:α→Heap→Prop} (ha:ao P s v) (hk:K v h):aa P s h K:=fun w hw=>⟨v,w,ha w,aL.refl w,by rw[hw];exact hk⟩
structure bf (C:kh) (t e k:Nat) (z:List Value) (by_:Nat):Prop where
 ex:∃i j,C.T.get t=some i∧i.aQ=.slice e∧C.T.get e=some j∧j.size=k∧j.zero=z∧j.bytes=by_
section
variable {C:Ctx} {t e k:Nat} {z:List Value} {by_:Nat}
theorem bf.under (he:bf C.tokh t e k z by_) (hC:C.Ok):C.P.underlying t=some (.slice e):=by
 obtain⟨i,j,h1,h2,_⟩:=he.ex
 have:=hC.aQ h1
 rw[h2]at this
 exact cS this
theorem bf.size (he:bf C.tokh t e k z by_) (hC:C.Ok):ao C.P (sizeOf e) k:=by
 obtain⟨i,j,_,_,h1,h2,_⟩:=he.ex
 rw[←h2];exact bh hC.toOk h1
theorem bf.info (he:bf C.tokh t e k z by_) (hC:C.Ok):∃f,C.P.info? e=some f∧f.size=k∧f.bytes=by_∧∃zv,f.zero=some zv∧zv.cells=z.toArray:=by
 obtain⟨i,j,_,_,h1,h2,h3,h4⟩:=he.ex
 obtain⟨f,g1,g2,g3,zv,g4,g5⟩:=hC.info h1
 exact⟨f,g1,g2.trans h2,g3.trans h4,zv,g4,by apply Array.ext';rw[g5,h3]⟩
end
def cD (z:List Value):Nat→List Value
 |0=>[]
 |n+1=>z++cD z n
theorem fm (z:List Value):∀n,(cD z n).length=n*z.length
 |0=>by simp[cD]
 |n+1=>by rw[cD,List.length_append,fm z n,Nat.succ_mul];omega
theorem rb (z:List Value):∀(n i:Nat),i<n*z.length→(cD z n)[i]?=z[i%z.length]?
 |0,i,h=>by simp at h
 |n+1,i,h=>by
  have hpos:0<z.length:=Nat.pos_of_ne_zero fun e=>by rw[e]at h;simp at h
  rw[cD]
  by_cases hi:i<z.length
  ·rw[List.getElem?_append_left hi,Nat.mod_eq_of_lt hi]
  ·rw[List.getElem?_append_right (by omega),rb z n (i-z.length) (by rw[Nat.succ_mul]at h;omega)]
   congr 1
   conv=>rhs;rw[show i=(i-z.length)+z.length by omega,Nat.add_mod_right]
theorem rc (z:List Value) (n m:Nat) (hm:m=n*z.length):((Array.range m).map (fun i=>z.toArray[i%z.toArray.size]!))=(cD z n).toArray:=by
 apply Array.ext_getElem?
 intro i
 subst hm
 simp only[Array.getElem?_map,Array.getElem?_range,List.getElem?_toArray]
 by_cases hi:i<n*z.length
 ·rw[rb z n i hi]
  have hpos:0<z.length:=Nat.pos_of_ne_zero fun e=>by rw[e]at hi;simp at hi
  have:=Nat.mod_lt i hpos
  simp[hi,this]
 ·rw[List.getElem?_eq_none (by rw[fm];omega)]
  simp[hi]
theorem lX (z:List Value) (n:Nat):Builtin.zeroCells z.toArray n=(cD z n).toArray:=rc z n _ (by simp)
theorem tq (newLen:Nat):∀(r c:Nat),Builtin.growBy newLen r c≤(c+768)*2^r
 |0,c=>by simp[Builtin.growBy]
 |r+1,c=>by
  unfold Builtin.growBy
  split
  ·exact Nat.le_trans (Nat.le_add_right c 768) (Nat.le_mul_of_pos_right _ (Nat.two_pow_pos _))
  ·refine Nat.le_trans (tq newLen r _) ?_
   rw[Nat.pow_succ,Nat.mul_comm (2^r) 2,←Nat.mul_assoc]
   exact Nat.mul_le_mul_right _ (by omega)
theorem yM (o n:Nat) (h:o<n):(o+768)*2^4≤16*n+16*768:=by omega
theorem tr (newLen oldCap:Nat) (h:oldCap<newLen):Builtin.nextslicecap newLen oldCap≤16*newLen+16*768:=by
 unfold Builtin.nextslicecap
 split
 ·omega
 ·split
  ·omega
  ·exact Nat.le_trans (tq newLen 4 oldCap) (yM _ _ h)
section
variable {C:Ctx} {t t2 e k:Nat} {z:List Value} {by_:Nat} {α:Type} {h:Heap} {p:aj} {s v:Sl} {f:α→List Value} {l l2:List α}
theorem ce {P:Program} {K:Array Value→Heap→Prop} (hw:∀x,(f x).length=k) (hv:Seq h p v k f l) (hk:K (l.flatMap f).toArray h):
  aa P (Builtin.firstCells k v.len (.slice v.ptr v.len v.cap)) h K:=by
 cases hp:v.ptr with
 |none=>
  have:l=[]:=by
   cases l with
   |nil=>rfl
   |cons x r=>obtain⟨b,o,h1,_⟩:=hv.elem 0 x (by simp);rw[hp]at h1;cases h1
  subst this
  exact aa.pure' hk
 |some a=>
  refine pe (by rw[bO hw,←hv.len]) ?_ hk
  cases l with
  |nil=>trivial
  |cons x0 r0=>
   obtain⟨b,o,h1,_,_⟩:=hv.elem 0 x0 (by simp)
   rw[hp]at h1
   cases h1
   have key:∀(r:List α) (n:Nat),(∀i x,r[i]?=some x→ai h ⟨b,o+(n+i)*k,none⟩ 0 (f x))→ai h ⟨b,o,none⟩ (n*k) (r.flatMap f):=by
    intro r
    induction r with
    |nil=>intro n _;trivial
    |cons x r ih=>
     intro n hr
     have h0:=hr 0 x (by simp)
     have h2:=ih (n+1) (fun i y hy=>by have:=hr (i+1) y (by simpa using hy);rw[show n+1+i=n+(i+1)by omega];exact this)
     rw[List.flatMap_cons]
     have app:∀(us vs:List Value) (i:Nat),ai h ⟨b,o,none⟩ i us→ai h ⟨b,o,none⟩ (i+us.length) vs→ai h ⟨b,o,none⟩ i (us++vs):=by
      intro us
      induction us with
      |nil=>intro vs i _ h2;simpa using h2
      |cons u us ih=>intro vs i h1 h2;exact⟨h1.1,ih vs (i+1) h1.2 (by rw[show i+1+us.length=i+(us.length+1)by omega];exact h2)⟩
     refine app _ _ _ ?_ (by rw[hw,←Nat.succ_mul];exact h2)
     have shift:∀(us:List Value) (i m:Nat),ai h ⟨b,o+m,none⟩ i us→ai h ⟨b,o,none⟩ (m+i) us:=by
      intro us
      induction us with
      |nil=>intros;trivial
      |cons u us ih=>
       intro i m h1
       refine⟨?_,ih (i+1) m h1.2⟩
       have:=h1.1
       rw[add_eq]at this⊢
       rw[←Nat.add_assoc];exact this
     have:=shift (f x) 0 ((n+0)*k) h0
     simpa using this
   have:=key (x0::r0) 0 (fun i x hx=>by
    obtain⟨b',o',h1,_,h3⟩:=hv.elem i x hx
    rw[hp]at h1
    cases h1
    simpa using h3)
   simpa using this
theorem tY (hC:C.Ok) (he:bf C.tokh t e k z by_) (h2:∃i e2,C.T.get t2=some i∧i.aQ=.slice e2) (hz:z.length=k) (hby:0<by_∧by_≤128) (hw:∀x,(f x).length=k)
  (ho:Own h e s k f l) (hv:Seq h p v k f l2) (hone:∀x,∀c∈f x,c.oneCell'=true) (hsz:l.length+l2.length≤2^32) {ty:Nat} {K:Sl→Heap→Prop}
  (hk:∀s' h',Own h' e s' k f (l++l2)→ax (fun b=>¬s.on b) h h'→(∀b,s'.on b→s.on b∨h.size≤b)→K s' h'):
  au C.P (Builtin.append_ #[t,t2] ty #[.slice s.ptr s.len s.cap,.slice v.ptr v.len v.cap]) (.one (.sc .slc)) h K:=by
 obtain⟨i2,e2,g1,g2⟩:=h2
 have hu2:C.P.underlying t2=some (.slice e2):=by have:=hC.aQ g1;rw[g2]at this;exact cS this
 obtain⟨inf,x1,x2,x3,zv,x4,x5⟩:=he.info hC
 unfold au Builtin.append_
 simp only[List.getElem?_toArray,List.getElem?_cons_zero,List.getElem?_cons_succ]
 refine aa.bind (aa.always (ak (he.under hC)) ?_)
 refine aa.bind (aa.always (he.size hC) ?_)
 refine aa.bind (aa.always (ak hu2) ?_)
 refine aa.bind (aa.pure' ?_)
 simp only[Bool.false_eq_true,if_false,Bool.not_false,if_true]
 refine aa.bind (aa.pure' ?_)
 have hlen:=ho.len
 have hlen2:=hv.len
 by_cases hfit:s.len+v.len≤s.cap
 ·rw[if_pos hfit]
  refine aa.bind (ce hw hv ?_)
  rcases ho.head with⟨p1,p2,p3⟩|⟨b,rest,p1,p2,p3,p4⟩
  ·rw[p1]
   have hl2:l2=[]:=List.eq_nil_of_length_eq_zero (by omega)
   subst hl2
   refine aa.pure' ⟨⟨none,s.len+v.len,s.cap⟩,rfl,hk _ _ ⟨?_,.inl ⟨rfl,p2,by simp[p3]⟩⟩ (ax.refl _ _) ?_⟩
   ·simp;omega
   ·rintro b' ⟨o,ho'⟩;cases ho'
  ·rw[p1]
   refine aa.bind ?_
   rw[add_eq,Nat.zero_add]
   have hflat:=bO hw l
   have hflat2:=bO hw l2
   have hrl:(l2.flatMap f).length≤rest.length:=by
    rw[hflat2,p3]
    exact Nat.mul_le_mul_right k (by omega)
   refine cd (e:=e) (pre:=l.flatMap f) (old:=rest.take (l2.flatMap f).length) (post:=rest.drop (l2.flatMap f).length) ?_ ?_ ?_ ?_ ?_
   ·rw[List.append_assoc,List.take_append_drop];exact p2
   ·rw[List.length_take];exact Nat.min_eq_left hrl
   ·rw[hflat,hlen];omega
   ·intro c hc
    obtain⟨x,_,hxc⟩:=List.mem_flatMap.1 hc
    exact hone x c hxc
   ·refine aa.pure' ⟨⟨some ⟨b,0,none⟩,s.len+v.len,s.cap⟩,rfl,hk _ _ ⟨?_,.inr ⟨b,rest.drop (l2.flatMap f).length,rfl,?_,?_,hfit⟩⟩ ?_ ?_⟩
    ·simp;omega
    ·rw[cY p2,if_pos rfl];simp
    ·rw[List.length_drop,p3,hflat2,←Nat.sub_mul]
     show(s.cap-s.len-l2.length)*k=(s.cap-(s.len+v.len))*k
     congr 1;omega
    ·exact ax.cX p2 (fun hn=>hn ⟨0,p1⟩)
    ·rintro b' ⟨o,ho'⟩;cases ho';exact .inl ⟨0,p1⟩
 ·rw[if_neg hfit]
  have hseq:Seq h (fun _=>True) s k f l:=ho.seq hw (fun _ _=>trivial)
  have hcap:=ho.cap
  refine aa.bind (aa.always (aU x1) ?_)
  rw[if_neg (fun hh=>by rcases hh.2 with h|h<;>first|exact h|(rw[x3]at h;omega))]
  refine aa.bind (aa.always (aU x1) ?_)
  have hnx:=tr (s.len+v.len) s.cap (by omega)
  rw[if_neg (by
   have:Builtin.nextslicecap (s.len+v.len) s.cap*inf.bytes≤(16*2^32+16*768)*128:=Nat.mul_le_mul (by omega) (by rw[x3];exact hby.2)
   omega)]
  refine aa.bind (aa.oZ ⟨fun hf=>(by cases hf),fun _ nn=>?_⟩)
  refine aa.bind (aa.always (aU x1) ?_)
  refine aa.bind (aa.nw ?_)
  refine aa.bind (ce hw hseq ?_)
  refine aa.bind (ce hw hv ?_)
  have hzv:ao C.P (zeroValue e) zv:=(aU x1).bind (by rw[x4];exact .pure)
  refine aa.bind (aa.always hzv ?_)
  rw[x5,lX]
  unfold newRow
  refine aa.bind (aa.bind (aa.ft (aa.pure' (aa.pure' ?_))))
  generalize hcc:Question.cut (Question.appendCap (s.len+v.len) s.cap e) nn=cc
  have hcc':s.len+v.len≤cc:=by rw[←hcc];simp only[Question.cut];omega
  refine⟨⟨some ⟨h.size,0,none⟩,s.len+v.len,cc⟩,rfl,hk _ _ ⟨?_,.inr ⟨h.size,cD z (cc-(s.len+v.len)),rfl,?_,?_,hcc'⟩⟩ (ax.push _ _ _) ?_⟩
  ·simp;omega
  ·simp
  ·rw[fm,hz]
  ·rintro b' ⟨o,ho'⟩;cases ho';exact .inr (Nat.le_refl _)
end
end Go.Vc
namespace Go.Vc
open Go
structure bH (h:Heap) (a:Addr) (e:TypeId) (cs:List Value):Prop where
 off:a.off=0
 spot:a.spot=none
 blk:h[a.block]?=some (.cells cs.toArray e (0,0))
section
variable {h h':Heap} {a:Addr} {e:TypeId} {cs:List Value} {p:aj}
theorem bH.addr (hb:bH h a e cs):a=⟨a.block,0,none⟩:=by
 obtain⟨b,o,s⟩:=a
 have:=hb.off;have:=hb.spot
 simp_all
theorem bH.aq (hb:bH h a e cs) (hp:ax p h h') (ha:p a.block):bH h' a e cs:=⟨hb.off,hb.spot,hp.block ha hb.blk⟩
theorem bH.lt (hb:bH h a e cs):a.block<h.size:=lt_of_block hb.blk
theorem bH.cell (hb:bH h a e cs) {j:Nat} {v:Value} (hv:cs[j]?=some v):cellOf h (a.add j)=some v:=by
 rw[hb.addr,add_eq,il hb.blk]
 simpa using hv
theorem bH.cell0 (hb:bH h a e cs) {v:Value} (hv:cs[0]?=some v):cellOf h a=some v:=hb.cell (j:=0) hv
theorem bH.cells (hb:bH h a e cs) (j:Nat) (vs:List Value) (hv:(cs.drop j).take vs.length=vs):ai h (a.add j) 0 vs:=by
 rw[hb.addr,add_eq,Nat.zero_add]
 have hlen:vs.length≤(cs.drop j).length:=by
  have:=congrArg List.length hv
  rw[List.length_take]at this
  omega
 rcases Nat.lt_or_ge cs.length j with hj|hj
 ·rw[List.length_drop]at hlen
  have:vs=[]:=List.eq_nil_of_length_eq_zero (by omega)
  subst this;trivial
 ·refine jW (e:=e) (fr:=(0,0)) (pre:=cs.take j) (post:=(cs.drop j).drop vs.length) ?_ (by simp;omega)
  have:cs.take j++vs++(cs.drop j).drop vs.length=cs:=by
   conv=>lhs;rw[List.append_assoc];arg 2;arg 1;rw[←hv]
   rw[List.take_append_drop,List.take_append_drop]
  rw[this];exact hb.blk
theorem bH.bc (hb:bH h a e cs) (vs:List Value) (hv:cs.take vs.length=vs):ai h a 0 vs:=hb.cells 0 vs hv
end
section
variable {C:Ctx} {t:Nat} {i:TI} {h:Heap}
theorem uX (hC:C.Ok) (hi:C.T.get t=some i) {K:Addr→Heap→Prop} (hk:∀a h',a.block=h.size→bH h' a t i.zero→ax (fun _=>True) h h'→h'.size=h.size+1→K a h'):
  aI C.P (Instr.alloc t true (.tuple #[])) h K:=by
 obtain⟨z,hz,hzc⟩:=jR hC.toOk hi
 unfold aI Instr.alloc
 refine aa.bind (aa.always hz ?_)
 refine aa.bind (aa.bind (aa.bind (aa.ft (aa.pure' (aa.pure' (aa.pure' ?_))))))
 refine⟨⟨h.size,0,none⟩,rfl,hk _ _ rfl ⟨rfl,rfl,?_⟩ (ax.push _ _ _) (by simp)⟩
 rw[←hzc];simp
theorem xy {v:Value} {P:Program} {K:Addr→Heap→Prop} (hk:∀a h',a.block=h.size→bH h' a t v.cells.toList→ax (fun _=>True) h h'→h'.size=h.size+1→K a h'):
  aI P (Instr.box t v) h K:=by
 unfold aI Instr.box
 refine aa.bind (aa.bind (aa.bind (aa.ft (aa.pure' (aa.pure' (aa.pure' ?_))))))
 refine⟨⟨h.size,0,none⟩,rfl,hk _ _ rfl ⟨rfl,rfl,?_⟩ (ax.push _ _ _) (by simp)⟩
 simp
theorem run_store (hC:C.Ok) {a:Addr} {e:TypeId} {cs:List Value} (hb:bH h a e cs) (hi:C.T.get t=some i) (off:Nat) {v:Value} (vs:List Value) (hv:v.cells=vs.toArray) (hsz:i.size=vs.length)
  (hone:vs.all (·.oneCell')=true) (hfit:off+vs.length≤cs.length) {K:Unit→Heap→Prop}
  (hk:∀h',bH h' a e (cs.take off++vs++cs.drop (off+vs.length))→ax (·≠a.block) h h'→h'.size=h.size→K () h'):
  aa C.P (Instr.storeAt t (.pointer (some (a.add off))) v) h K:=by
 have ha:=hb.addr
 unfold Instr.storeAt
 refine aa.bind (aa.pure' ?_)
 unfold storeVar
 refine aa.bind (aa.always (bh hC.toOk hi) ?_)
 rw[hv,hsz]
 simp only[List.size_toArray,ne_eq,not_true,if_false]
 rw[ha,add_eq,Nat.zero_add]
 refine cd (e:=e) (pre:=cs.take off) (old:=(cs.drop off).take vs.length) (post:=cs.drop (off+vs.length)) ?_ ?_ ?_ ?_ ?_
 ·have:cs.take off++(cs.drop off).take vs.length++cs.drop (off+vs.length)=cs:=by
   rw[←List.drop_drop,List.append_assoc,List.take_append_drop,List.take_append_drop]
  rw[this];exact hb.blk
 ·simp;omega
 ·simp;omega
 ·intro x hx
  have:=List.all_eq_true.1 hone x hx
  exact this
 ·refine hk _ ⟨hb.off,hb.spot,?_⟩ (ax.cX hb.blk (by simp)) (by simp[cX])
  rw[cY hb.blk,if_pos rfl]
end
section
variable {C:Ctx} {t e k:Nat} {z:List Value} {by_:Nat} {α:Type} {h:Heap} {p:aj} {s v:Sl} {f:α→List Value} {l l2:List α}
theorem lY {x0:α} (hz:f x0=z):∀n,cD z n=(List.replicate n x0).flatMap f
 |0=>rfl
 |n+1=>by rw[cD,List.replicate_succ,List.flatMap_cons,hz,lY hz n]
theorem wrap_small (x:Int) (h1:-9223372036854775808≤x) (h2:x≤9223372036854775807):IntKind.wrap .i64 x=x:=by
 show(if(true&&decide (x%2^64≥2^63))=true then x%2^64-2^64 else x%2^64)=x
 by_cases hx:x%2^64≥2^63
 ·rw[if_pos (by rw[Bool.true_and];exact decide_eq_true hx)];omega
 ·rw[if_neg (by rw[Bool.true_and];exact fun h=>hx (of_decide_eq_true h))];omega
theorem run_make (hC:C.Ok) (he:bf C.tokh t e k z by_) (hby:0<by_∧by_≤128) (x0:α) (hz:f x0=z) (hk0:z.length=k) {k1 k2:IntKind} {n c:Int} (m mc:Nat) (hn:n=m) (hc:c=mc) (hle:m≤mc) (hsm:mc≤2^32)
  {K:Sl→Heap→Prop} (hk:∀s' h',Own h' e s' k f (List.replicate m x0)→s'.ptr=some ⟨h.size,0,none⟩→s'.cap=mc→ax (fun _=>True) h h'→h'.size=h.size+1→K s' h'):
  au C.P (Instr.makeSlice t (.int k1 n) (.int k2 c)) (.one (.sc .slc)) h K:=by
 subst hn;subst hc
 obtain⟨inf,x1,x2,x3,zv,x4,x5⟩:=he.info hC
 unfold au Instr.makeSlice
 refine aa.bind (aa.always (ak (he.under hC)) ?_)
 refine aa.bind (aa.pure' ?_)
 refine aa.bind (aa.pure' ?_)
 refine aa.bind (aa.always (aU x1) ?_)
 have w1:IntKind.wrap .i64 (m:Int)=m:=wrap_small _ (by omega) (by omega)
 have w2:IntKind.wrap .i64 (mc:Int)=mc:=wrap_small _ (by omega) (by omega)
 have hb:¬((inf.bytes:Int)*(mc:Int)>2^48):=by
  rw[x3]
  have:by_*mc≤128*2^32:=Nat.mul_le_mul hby.2 hsm
  have:((by_:Int)*(mc:Int))≤((128*2^32:Nat):Int):=by exact_mod_cast this
  omega
 simp only[w1,w2]
 rw[if_neg (by simp;omega)]
 refine aa.bind (aa.nw ?_)
 refine aa.bind (aa.always (he.size hC) ?_)
 have hzv:ao C.P (zeroValue e) zv:=(aU x1).bind (by rw[x4];exact .pure)
 have fin:∀zz:Array Value,(mc*k≠0→zz=z.toArray)→aa C.P (do
   let a←newRow e ((Array.range (mc*k)).map (zz[·%zz.size]!))
   pure (Value.slice (some a) m mc)) h (fun v h'=>∃x:(Rt.one (.sc .slc)).den,v=(Rt.one (.sc .slc)).enc x∧K x h'):=by
  intro zz hzz
  have hrow:((Array.range (mc*k)).map (zz[·%zz.size]!))=(cD z mc).toArray:=by
   by_cases h0:mc*k=0
   ·rw[h0]
    have:cD z mc=[]:=List.eq_nil_of_length_eq_zero (by rw[fm,hk0,h0])
    rw[this];simp
   ·rw[hzz h0];exact rc z mc _ (by rw[hk0])
  rw[hrow]
  refine aa.bind (aa.bind (aa.ft (aa.pure' (aa.pure' ?_))))
  refine⟨⟨some ⟨h.size,0,none⟩,m,mc⟩,rfl,hk _ _ ⟨by simp,.inr ⟨h.size,cD z (mc-m),rfl,?_,?_,hle⟩⟩ rfl rfl (ax.push _ _ _) (by simp)⟩
  ·have:cD z mc=(List.replicate m x0).flatMap f++cD z (mc-m):=by
    rw[lY hz,lY hz,←List.flatMap_append,List.replicate_append_replicate]
    congr 2;omega
   rw[this];simp
  ·rw[fm,hk0]
 simp only[Int.toNat_natCast]
 by_cases h0:mc*k=0
 ·rw[if_pos h0]
  exact aa.bind (aa.pure' (fin _ (fun h=>absurd h0 h)))
 ·rw[if_neg h0]
  refine aa.bind (aa.always hzv ?_)
  exact aa.bind (aa.pure' (fin _ (fun _=>x5)))
theorem tt (hC:C.Ok) (he:bf C.tokh t e k z by_) (hk0:z.length=k) {n:Nat} {parts:Array (Nat×Value)} (l:List α) (hn:l.length=n) (hnk:n*k≤2^20)
  (hfill:Instr.fill (fun i=>some (i*k,k)) (cD z n).toArray parts.toList=some (l.flatMap f).toArray) {K:Sl→Heap→Prop}
  (hk:∀s' h',Own h' e s' k f l→s'.ptr=some ⟨h.size,0,none⟩→ax (fun _=>True) h h'→h'.size=h.size+1→K s' h'):
  au C.P (Instr.buildSlice t n parts) (.one (.sc .slc)) h K:=by
 obtain⟨inf,x1,x2,x3,zv,x4,x5⟩:=he.info hC
 unfold au Instr.buildSlice
 refine aa.bind (aa.always (ak (he.under hC)) ?_)
 refine aa.bind (aa.always (he.size hC) ?_)
 rw[if_neg (by omega)]
 have hzv:ao C.P (zeroValue e) zv:=(aU x1).bind (by rw[x4];exact .pure)
 have fin:∀zz:Array Value,(n*k≠0→zz=z.toArray)→aa C.P (do
   let some cells:=Instr.fill (fun i=>some (i*k,k)) ((Array.range (n*k)).map (zz[·%zz.size]!)) parts.toList
    |stuck "buildSlice: a part of the wrong size"
   pure (Value.slice (some (←newRow e cells)) n n)) h (fun v h'=>∃x:(Rt.one (.sc .slc)).den,v=(Rt.one (.sc .slc)).enc x∧K x h'):=by
  intro zz hzz
  have hrow:((Array.range (n*k)).map (zz[·%zz.size]!))=(cD z n).toArray:=by
   by_cases h0:n*k=0
   ·rw[h0]
    have:cD z n=[]:=List.eq_nil_of_length_eq_zero (by rw[fm,hk0,h0])
    rw[this];simp
   ·rw[hzz h0];exact rc z n _ (by rw[hk0])
  rw[hrow,hfill]
  refine aa.bind (aa.bind (aa.ft (aa.pure' (aa.pure' ?_))))
  refine⟨⟨some ⟨h.size,0,none⟩,n,n⟩,rfl,hk _ _ ⟨hn.symm,.inr ⟨h.size,[],rfl,by simp,by simp,Nat.le_refl _⟩⟩ rfl (ax.push _ _ _) (by simp)⟩
 by_cases h0:n*k=0
 ·rw[if_pos h0]
  exact aa.bind (aa.pure' (fin _ (fun h=>absurd h0 h)))
 ·rw[if_neg h0]
  refine aa.bind (aa.always hzv ?_)
  exact aa.bind (aa.pure' (fin _ (fun _=>x5)))
theorem Own.set {i:TI} (hC:C.Ok) (ho:Own h e s k f l) (hw:∀x,(f x).length=k) (hi:C.T.get t=some i) {x:Int} (n:Nat) (hx:x=n) (hn:n<l.length) {val:Value} (y:α) (hv:val.cells=(f y).toArray) (hsz:i.size=k)
  (hone:(f y).all (·.oneCell')=true) {K:Heap→Prop} (hk:∀h',Own h' e s k f (l.set n y)→ax (fun b=>¬s.on b) h h'→h'.size=h.size→K h'):
  ∃a:Addr,(s.ptr=some a∧0≤x∧x<((s.len:Nat):Int))∧aa C.P (Instr.storeAt t (.pointer (some (a.add (x.toNat*k)))) val) h fun _ h'=>K h':=by
 subst hx
 rcases ho.head with⟨_,_,h3⟩|⟨b,rest,h1,h2,h3,h4⟩
 ·subst h3;simp at hn
 ·refine⟨_,⟨h1,by omega,by rw[ho.len];omega⟩,?_⟩
  unfold Instr.storeAt
  refine aa.bind (aa.pure' ?_)
  unfold storeVar
  refine aa.bind (aa.always (bh hC.toOk hi) ?_)
  rw[hv,hsz]
  have hfl:=hw y
  simp only[List.size_toArray,hfl,ne_eq,not_true,if_false]
  rw[add_eq,Nat.zero_add,Int.toNat_natCast]
  have hsplit:l=l.take n++l[n]::l.drop (n+1):=by rw[←List.drop_eq_getElem_cons hn,List.take_append_drop]
  have hset:l.set n y=l.take n++y::l.drop (n+1):=List.set_eq_take_append_cons_drop.trans (if_pos hn)
  have hpre:((l.take n).flatMap f).length=n*k:=by rw[bO hw,List.length_take,Nat.min_eq_left (by omega)]
  refine cd (e:=e) (pre:=(l.take n).flatMap f) (old:=f l[n]) (post:=(l.drop (n+1)).flatMap f++rest) ?_ ?_ ?_ ?_ ?_
  ·have:l.flatMap f++rest=(l.take n).flatMap f++f l[n]++((l.drop (n+1)).flatMap f++rest):=by
    have e1:=congrArg (List.flatMap f) hsplit
    rw[List.flatMap_append,List.flatMap_cons]at e1
    rw[e1]
    simp
   rw[←this];exact h2
  ·rw[hw,hw]
  ·rw[hpre];omega
  ·intro c hc
   have:=List.all_eq_true.1 hone c hc
   exact this
  ·refine hk _ ⟨by rw[List.length_set];exact ho.len,.inr ⟨b,rest,h1,?_,h3,h4⟩⟩ (ax.cX h2 (fun hh=>hh ⟨0,h1⟩)) (by simp[cX])
   rw[cY h2,if_pos rfl,hset]
   simp
end
end Go.Vc
namespace Go.Vc
open Go
def grow (c:Nat→Nat) (n i:Nat):Nat→Nat:=fun b=>if b<n then c b else i
theorem ef {c:Nat→Nat} {n i b:Nat} (h:b<n):grow c n i b=c b:=if_pos h
theorem re {c:Nat→Nat} {n i b:Nat} (h:n≤b):grow c n i b=i:=if_neg (by omega)
structure jX {α:Type} (h:Heap) (c:Nat→Nat) (i:Nat) (e:TypeId) (s:Sl) (k:Nat) (f:α→List Value) (l:List α):Prop where
 own:Own h e s k f l
 oo:∀b,s.on b→c b=i
structure zX (h:Heap) (c:Nat→Nat) (i:Nat) (a:Addr) (e:TypeId) (cs:List Value):Prop where
 box:bH h a e cs
 oo:c a.block=i
structure zY (h0 h:Heap) (c:Nat→Nat):Prop where
 aq:ax (fun b=>b<h0.size) h0 h
 oo:∀b,b<h0.size→c b=0
section
variable {α:Type} {h h' h0:Heap} {c:Nat→Nat} {i j n m:Nat} {e:TypeId} {s:Sl} {k:Nat} {f:α→List Value} {l:List α} {a:Addr} {cs:List Value}
theorem ax.oo (hp:ax (fun _=>True) h h') (c:Nat→Nat) (i:Nat):ax (fun b=>c b≠i) h h':=hp.mono fun _ _ _=>trivial
end
section
variable {α:Type} {C:Ctx} {h h' h0:Heap} {c:Nat→Nat} {i:Nat} {e t t2:Nat} {s v:Sl} {k by_:Nat} {f:α→List Value} {l l2:List α} {a:Addr} {cs z:List Value} {p:aj} {ti:TI}
theorem jX.append (hC:C.Ok) (ho:jX h c i e s k f l) (he:bf C.tokh t e k z by_) (h2:∃i e2,C.T.get t2=some i∧i.aQ=.slice e2) (hz:z.length=k) (hby:0<by_∧by_≤128) (hw:∀x,(f x).length=k)
  (hv:Seq h p v k f l2) (hone:∀x,∀c∈f x,c.oneCell'=true) (hsz:l.length+l2.length≤2^32) {ty:Nat} {K:Sl→Heap→Prop}
  (hk:∀s' h',jX h' (grow c h.size i) i e s' k f (l++l2)→ax (fun b=>c b≠i) h h'→K s' h'):
  au C.P (Builtin.append_ #[t,t2] ty #[.slice s.ptr s.len s.cap,.slice v.ptr v.len v.cap]) (.one (.sc .slc)) h K:=
 tY hC he h2 hz hby hw ho.own hv hone hsz fun s' h' x y w=>hk s' h' ⟨x,fun b hb=>by
  rcases w b hb with w|w
  ·rw[ef (ho.own.lt w)];exact ho.oo b w
  ·exact re w⟩ (y.mono fun b _ hb' h2=>hb' (ho.oo b h2))
end
end Go.Vc
namespace Go.Vc
open Go
section
variable {α:Type} {C:Ctx} {h h' h0:Heap} {c:Nat→Nat} {i j n m:Nat} {e t:Nat} {s v:Sl} {k by_:Nat} {f:α→List Value} {l l2:List α} {z:List Value} {p:aj}
theorem grow_grow {c:Nat→Nat} {n m i:Nat} (h:n≤m):grow (grow c n i) m i=grow c n i:=by
 funext b
 unfold grow
 split
 ·rfl
 ·rw[if_neg (by omega)]
theorem ax.step (a:ax (fun b=>c b≠i) h h') {h'':Heap} (b:ax (fun b=>grow c h.size i b≠i) h' h''):ax (fun b=>c b≠i) h h'':=
 a.then b fun x hx hc=>by rw[ef hx];exact hc
theorem jX.push (hC:C.Ok) (ho:jX h c i e s k f l) (he:bf C.tokh t e k z by_) (hz:z.length=k) (hby:0<by_∧by_≤128) (hw:∀x,(f x).length=k)
  (hone:∀x,∀c∈f x,c.oneCell'=true) (x:α) {parts:Array (Nat×Value)} (hfill:Instr.fill (fun i=>some (i*k,k)) (cD z 1).toArray parts.toList=some ([x].flatMap f).toArray)
  (hk1:1*k≤2^20) (hsz:l.length+1≤2^32) {ty:Nat} {K:Sl→Heap→Prop}
  (hk:∀s' h',jX h' (grow c h.size i) i e s' k f (l++[x])→ax (fun b=>c b≠i) h h'→K s' h'):
  au C.P (Instr.buildSlice t 1 parts) (.one (.sc .slc)) h fun v h1=>au C.P (Builtin.append_ #[t,t] ty #[.slice s.ptr s.len s.cap,.slice v.ptr v.len v.cap]) (.one (.sc .slc)) h1 K:=by
 refine tt hC he hz [x] rfl hk1 hfill fun v h1 hv hvp hp _=>?_
 have hp1:ax (fun b=>c b≠i) h h1:=hp.oo c i
 have ho1:jX h1 (grow c h.size i) i e s k f l:=⟨ho.own.aq hp fun _ _=>trivial,fun b hb=>by rw[ef (ho.own.lt hb)];exact ho.oo b hb⟩
 have hsz1:h.size≤h1.size:=hp.1
 obtain⟨ii,jj,x1,x2,_⟩:=he.ex
 refine ho1.append hC he ⟨ii,e,x1,x2⟩ hz hby hw (hv.seq (p:=fun _=>True) hw fun _ _=>trivial) hone hsz fun s' h2 hs2 hp2=>?_
 rw[grow_grow hsz1]at hs2
 exact hk s' h2 hs2 (hp1.step hp2)
structure zU (h:Heap) (c:Nat→Nat) (top lo:Nat) (e:TypeId) (s:Sl) (k:Nat) (f:α→List Value) (ll:List (List α)) (rs:List Sl):Prop where
 own:jX h c top e s 1 fI rs
 len:rs.length=ll.length
 row:∀(i:Nat) r l,rs[i]?=some r→ll[i]?=some l→Seq h (fun b=>b<h.size∧lo≤c b∧c b<lo+ll.length) r k f l
theorem yh:∀x,∀c∈fI x,c.oneCell'=true:=by intro x c hc;simp only[fI,List.mem_singleton]at hc;subst hc;rfl
end
end Go.Vc
namespace Go.Vc
open Go
structure zV {α:Type} (h:Heap) (r:Nat) (g:α→Value) (kvs:List (Int×α)):Prop where
 ex:∃es clock,h[r]?=some (.map es clock)∧es.toList.map (fun e=>(e.key,e.val))=kvs.map (fun p=>(Value.int .i64 p.1,g p.2))
section
variable {α:Type} {P:Program} {h h':Heap} {r:Nat} {g:α→Value} {kvs:List (Int×α)}
end
end Go.Vc
namespace Go.Vc
open Go
theorem wq (x n:Int) (hn:0<n):x%n=if x.tmod n<0 then x.tmod n+n else x.tmod n:=by
 have h1:=Int.tmod_lt_of_pos x hn
 have h2:-n<x.tmod n:=Int.lt_tmod_of_pos x hn
 have e1:=Int.tmod_add_mul_tdiv x n
 have hpos:0≤(if x.tmod n<0 then x.tmod n+n else x.tmod n)∧(if x.tmod n<0 then x.tmod n+n else x.tmod n)<n:=by split<;>omega
 have e2:x=(if x.tmod n<0 then x.tmod n+n else x.tmod n)+n*(if x.tmod n<0 then x.tdiv n-1 else x.tdiv n):=by
  split
  ·rw[Int.mul_sub];omega
  ·omega
 conv=>lhs;rw[e2]
 rw[Int.add_mul_emod_self_left]
 exact Int.emod_eq_of_lt hpos.1 hpos.2
theorem aF {α:Type} (l:List α) (k:Nat) (h:k<l.length):l.take (k+1)=l.take k++[l[k]]:=List.take_succ_eq_append_getElem h
theorem dq:∀x,∀c∈aA x,c.oneCell'=true:=by intro x c hc;simp only[aA,List.mem_singleton]at hc;subst hc;rfl
theorem dP:∀x,∀c∈aB x,c.oneCell'=true:=by intro x c hc;simp only[aB,List.mem_singleton]at hc;subst hc;rfl
theorem up {h h1 h2:Heap} (a:ax (fun b=>b<h.size) h h1) (b:ax (fun b=>b<h1.size) h1 h2):ax (fun b=>b<h.size) h h2:=
 a.then b fun _ hb _=>Nat.lt_of_lt_of_le hb a.1
theorem any {h h1:Heap} (a:ax (fun _=>True) h h1):ax (fun b=>b<h.size) h h1:=a.mono fun _ _ _=>trivial
theorem Seq.up {α:Type} {h h':Heap} {s:Sl} {k:Nat} {f:α→List Value} {l:List α} (hs:Seq h (fun b=>b<h.size) s k f l) (hp:ax (fun b=>b<h.size) h h'):Seq h' (fun b=>b<h'.size) s k f l:=
 (hs.aq hp).mono fun _ hb=>Nat.lt_of_lt_of_le hb hp.1
theorem Seq.drop {α:Type} {h:Heap} {p:aj} {s:Sl} {w:Nat} {f:α→List Value} {l:List α} (hs:Seq h p s w f l) (k:Nat) (hc:s.len≤s.cap):
  Seq h p ⟨if s.cap=k then s.ptr else s.ptr.map (·.add (k*w)),s.len-k,s.cap-k⟩ w f (l.drop k):=by
 have hl:=hs.len
 refine⟨by simp[hl],fun i x hx=>?_⟩
 rw[List.getElem?_drop]at hx
 obtain⟨b,o,h1,h2,h3⟩:=hs.elem _ x hx
 have hlt:=(List.getElem?_eq_some_iff.1 hx).1
 refine⟨b,o+k*w,?_,h2,?_⟩
 ·dsimp only
  rw[if_neg (by omega),h1,Option.map_some,add_eq]
 ·rw[show o+k*w+i*w=o+(k+i)*w by rw[Nat.add_mul];omega];exact h3
theorem Seq.take {α:Type} {h:Heap} {p:aj} {s:Sl} {w:Nat} {f:α→List Value} {l:List α} (hs:Seq h p s w f l) (k:Nat) (hk:k≤l.length):
  Seq h p ⟨s.ptr,k,s.cap⟩ w f (l.take k):=by
 refine⟨by simp;omega,fun i x hx=>?_⟩
 rw[List.getElem?_take]at hx
 split at hx
 ·exact hs.elem i x hx
 ·cases hx
theorem getD_lt {α:Type} {l:List α} {d:α} {i:Nat} (h:i<l.length):l.getD i d=l[i]:=by rw[List.getD_eq_getElem?_getD,List.getElem?_eq_getElem h];rfl
end Go.Vc
namespace Go.Vc
open Go
structure HP where
 p:Heap→aj→Prop
 loc:∀{h h':Heap} {q:aj},p h q→ax q h h'→p h' q
 mono:∀{h:Heap} {q q':aj},p h q→(∀b,q b→q' b)→p h q'
def emp:HP:=⟨fun _ _=>True,fun _ _=>trivial,fun _ _=>trivial⟩
def aw {α:Type} (e:TypeId) (s:Sl) (k:Nat) (f:α→List Value) (l:List α):HP:=
 ⟨fun h q=>Own h e s k f l∧∀b,s.on b→q b,fun a hp=>⟨a.1.aq hp a.2,a.2⟩,fun a hq=>⟨a.1,fun b hb=>hq b (a.2 b hb)⟩⟩
def af (a:Addr) (e:TypeId) (cs:List Value):HP:=
 ⟨fun h q=>bH h a e cs∧q a.block,fun x hp=>⟨x.1.aq hp x.2,x.2⟩,fun x hq=>⟨x.1,hq _ x.2⟩⟩
def wr {α:Type} (s:Sl) (k:Nat) (f:α→List Value) (l:List α):HP:=
 ⟨fun h q=>Seq h q s k f l,fun a hp=>a.aq hp,fun a hq=>a.mono hq⟩
structure ab (B:aj) (h0 h:Heap) (As:List HP):Prop where
 low:∀b,B b→b<h0.size
 aq:ax B h0 h
 ex:∃c:Nat→Nat,(∀b,B b→c b=0)∧∀(i:Nat) (A:HP),As[i]?=some A→A.p h (fun b=>b<h.size∧c b=i+1)
abbrev Sp (h0 h:Heap) (As:List HP):Prop:=ab (fun b=>b<h0.size) h0 h As
section
variable {B:aj} {h0 h h':Heap} {As Bs:List HP} {A A2 D:HP} {c:Nat→Nat} {i j:Nat}
theorem Sp.refl (h:Heap):Sp h h []:=⟨fun _ h=>h,ax.refl _ _,fun _=>0,fun _ _=>rfl,fun i A hi=>by simp at hi⟩
theorem ab.at (H:ab B h0 h As) (i:Nat) (hi:As[i]?=some A):A.p h (fun b=>b<h.size):=by
 obtain⟨c,_,h2⟩:=H.ex
 exact A.mono (h2 i A hi) fun _ hb=>hb.1
theorem ab.comp (H:ab B h0 h As) (R:Sp h h' Bs):ab B h0 h' (As++Bs):=by
 obtain⟨lo,p1,c1,z1,a1⟩:=H
 obtain⟨_,p2,c2,z2,a2⟩:=R
 have hle:=p1.1
 refine⟨lo,p1.then p2 fun b hb _=>Nat.lt_of_lt_of_le hb hle,fun b=>if b<h.size then c1 b else if c2 b=0 then 0 else As.length+c2 b,fun b hb=>?_,fun i A hi=>?_⟩
 ·dsimp only;rw[if_pos (Nat.lt_of_lt_of_le (lo b hb) hle)];exact z1 b hb
 ·by_cases hl:i<As.length
  ·rw[List.getElem?_append_left hl]at hi
   refine A.mono (A.loc (a1 i A hi) (p2.mono fun b _ hb=>hb.1)) fun b hb=>⟨Nat.lt_of_lt_of_le hb.1 p2.1,?_⟩
   dsimp only;rw[if_pos hb.1];exact hb.2
  ·rw[List.getElem?_append_right (by omega)]at hi
   refine A.mono (a2 _ A hi) fun b hb=>⟨hb.1,?_⟩
   have:¬b<h.size:=fun hlt=>by have:=z2 b hlt;omega
   dsimp only;rw[if_neg this,if_neg (by omega)];omega
theorem ab.up (H:ab B h0 h As) (R:ax (fun b=>b<h.size) h h'):ab B h0 h' As:=by
 have:=H.comp (Bs:=[]) ⟨fun _ h=>h,R,fun _=>0,fun _ _=>rfl,fun i A hi=>by simp at hi⟩
 simpa using this
theorem Sp.one (R:ax (fun b=>b<h.size) h h') (ha:A.p h' (fun b=>h.size≤b∧b<h'.size)):Sp h h' [A]:=by
 refine⟨fun _ h=>h,R,fun b=>if b<h.size then 0 else 1,fun b hb=>if_pos hb,fun i A2 hi=>?_⟩
 cases i with
 |succ i=>simp at hi
 |zero=>
  simp at hi
  subst hi
  exact A.mono ha fun b hb=>⟨hb.2,by dsimp only;rw[if_neg (by omega)]⟩
theorem Sp.zip (R:ax (fun b=>b<h.size) h h'):Sp h h' []:=ab.up (Sp.refl h) R
theorem ab.qF (lo:∀b,B b→b<h0.size) (hp0:ax B h0 h) (z:∀b,B b→c b=0) (a:∀(i:Nat) (A:HP),As[i]?=some A→A.p h (fun b=>b<h.size∧c b=i+1))
  (hp:ax (fun b=>¬(b<h.size∧c b=i+1)) h h') (ha:D.p h' (fun b=>b<h'.size∧((b<h.size∧c b=i+1)∨h.size≤b))):ab B h0 h' (As.set i D):=by
 refine⟨lo,hp0.then hp fun b _ hb hn=>by have:=z b hb;omega,grow c h.size (i+1),fun b hb=>?_,fun j A hj=>?_⟩
 ·rw[ef (Nat.lt_of_lt_of_le (lo b hb) hp0.1)];exact z b hb
 ·rw[List.getElem?_set]at hj
  split at hj
  ·rename_i hij
   subst hij
   split at hj
   ·injection hj with hj
    subst hj
    refine D.mono ha fun b hb=>⟨hb.1,?_⟩
    rcases hb.2 with h1|h1
    ·rw[ef h1.1];exact h1.2
    ·exact re h1
   ·cases hj
  ·rename_i hij
   refine A.mono (A.loc (a j A hj) (hp.mono fun b _ hb hn=>by omega)) fun b hb=>⟨Nat.lt_of_lt_of_le hb.1 hp.1,?_⟩
   rw[ef hb.1];exact hb.2
theorem ab.step (H:ab B h0 h As) (i:Nat) (hi:As[i]?=some A) (hs:∀q:aj,A.p h q→(∀b,q b→b<h.size)→ax (fun b=>¬q b) h h'∧D.p h' (fun b=>b<h'.size∧(q b∨h.size≤b))):ab B h0 h' (As.set i D):=by
 obtain⟨lo,p,c,z,a⟩:=H
 obtain⟨h1,h2⟩:=hs _ (a i A hi) fun b hb=>hb.1
 exact ab.qF lo p z a h1 h2
theorem ab.nB (H:ab B h0 h As) (i:Nat) (hi:As[i]?=some A) (hs:∀q:aj,A.p h q→D.p h q):ab B h0 h (As.set i D):=
 H.step i hi fun q hq hlt=>⟨ax.refl _ _,D.mono (hs q hq) fun b hb=>⟨hlt b hb,.inl hb⟩⟩
theorem ab.merge (H:ab B h0 h As) (i j:Nat) (hij:i≠j) (hi:As[i]?=some A) (hj:As[j]?=some A2)
  (hm:∀q1 q2:aj,(∀b,q1 b→¬q2 b)→A.p h q1→A2.p h q2→D.p h (fun b=>q1 b∨q2 b)):ab B h0 h ((As.set i D).set j emp):=by
 obtain⟨lo,p,c,z,a⟩:=H
 refine⟨lo,p,fun b=>if c b=j+1 then i+1 else c b,fun b hb=>?_,fun k A' hk=>?_⟩
 ·have:=z b hb;dsimp only;rw[if_neg (by omega)];exact this
 ·rw[List.getElem?_set]at hk
  split at hk
  ·split at hk
   ·cases hk;trivial
   ·cases hk
  ·rename_i hjk
   rw[List.getElem?_set]at hk
   split at hk
   ·rename_i hik
    subst hik
    split at hk
    ·injection hk with hk
     subst hk
     refine D.mono (hm _ _ (fun b h1 h2=>by omega) (a i A hi) (a j A2 hj)) fun b hb=>?_
     rcases hb with h1|h1
     ·exact⟨h1.1,by dsimp only;rw[if_neg (by omega)];exact h1.2⟩
     ·exact⟨h1.1,by dsimp only;rw[if_pos h1.2]⟩
    ·cases hk
   ·rename_i hik
    refine A'.mono (a k A' hk) fun b hb=>⟨hb.1,?_⟩
    dsimp only;rw[if_neg (by omega)];exact hb.2
theorem ab.pick (H:ab B h0 h As) (f:Nat→Nat) (hf:∀i j,f i=f j→i=j) (hB:∀(i:Nat) (A2:HP),Bs[i]?=some A2→As[f i]?=some A2):ab B h0 h Bs:=by
 obtain⟨lo,p,c,z,a⟩:=H
 classical
 refine⟨lo,p,fun b=>if hb:∃i,c b=f i+1 then hb.choose+1 else 0,fun b hb=>?_,fun i A2 hi=>?_⟩
 ·have:=z b hb
  dsimp only
  rw[dif_neg]
  rintro⟨i,hi⟩
  omega
 ·refine A2.mono (a _ _ (hB i A2 hi)) fun b hb=>⟨hb.1,?_⟩
  have hex:∃i,c b=f i+1:=⟨i,hb.2⟩
  dsimp only
  rw[dif_pos hex]
  have h1:=hex.choose_spec
  have h2:=hf hex.choose i (by omega)
  rw[h2]
theorem ab.take (H:ab B h0 h As) (n:Nat) (hB:∀(i:Nat) (A2:HP),Bs[i]?=some A2→As[n+i]?=some A2):ab B h0 h Bs:=H.pick (fun i=>n+i) (fun _ _ h=>by omega) hB
end
section
variable {B:aj} {α:Type} {C:Ctx} {h0 h h':Heap} {As:List HP} {i e t t2:Nat} {s v:Sl} {k by_:Nat} {f:α→List Value} {l l2:List α} {a:Addr} {cs z:List Value} {p:aj} {ti:TI}
theorem ab.own (H:ab B h0 h As) (i:Nat) (hi:As[i]?=some (aw e s k f l)):Own h e s k f l:=(H.at i hi).1
theorem ab.seq (H:ab B h0 h As) (i:Nat) (hi:As[i]?=some (aw e s k f l)) (hw:∀x,(f x).length=k):Seq h (fun b=>b<h.size) s k f l:=(H.at i hi).1.seq hw (H.at i hi).2
theorem ab.rd (H:ab B h0 h As) (i:Nat) (hi:As[i]?=some (wr s k f l)):Seq h (fun b=>b<h.size) s k f l:=H.at i hi
theorem ab.box (H:ab B h0 h As) (i:Nat) (hi:As[i]?=some (af a e cs)):bH h a e cs:=(H.at i hi).1
theorem ab.mO (H:ab B h0 h As) (i:Nat) (hi:As[i]?=some (aw e s k f l)) {β:Type} {e' k':Nat} {g:β→List Value} {l':List β} (hp:ax (fun b=>¬s.on b) h h') (ho:Own h' e' s k' g l'):ab B h0 h' (As.set i (aw e' s k' g l')):=
 H.step i hi fun _ hq hlt=>⟨hp.mono fun b _ hb hon=>hb (hq.2 b hon),ho,fun b hb=>⟨Nat.lt_of_lt_of_le (hlt b (hq.2 b hb)) hp.1,.inl (hq.2 b hb)⟩⟩
theorem ab.tu (H:ab B h0 h As) (i:Nat) (hi:As[i]?=some (af a e cs)) {cs':List Value} (hp:ax (fun b=>b≠a.block) h h') (ho:bH h' a e cs'):ab B h0 h' (As.set i (af a e cs')):=
 H.step i hi fun q hq hlt=>⟨hp.mono fun b _ hb hon=>hb (by rw[hon];exact hq.2),ho,⟨Nat.lt_of_lt_of_le (hlt _ hq.2) hp.1,.inl hq.2⟩⟩
theorem ab.freeze (H:ab B h0 h As) (i:Nat) (hi:As[i]?=some (aw e s k f l)) (hw:∀x,(f x).length=k):ab B h0 h (As.set i (wr s k f l)):=H.nB i hi fun _ hq=>hq.1.seq hw hq.2
theorem ab.set (hC:C.Ok) (H:ab B h0 h As) (i:Nat) (hi:As[i]?=some (aw e s k f l)) (hw:∀x,(f x).length=k) (ht:C.T.get t=some ti) {x:Int} (n:Nat) (hx:x=n) (hn:n<l.length) {val:Value} (y:α) (hv:val.cells=(f y).toArray) (hsz:ti.size=k)
  (hone:(f y).all (·.oneCell')=true) {K:Heap→Prop} (hk:∀h',ab B h0 h' (As.set i (aw e s k f (l.set n y)))→K h'):
  ∃a:Addr,(s.ptr=some a∧0≤x∧x<((s.len:Nat):Int))∧aa C.P (Instr.storeAt t (.pointer (some (a.add (x.toNat*k)))) val) h fun _ h'=>K h':=
 (H.own i hi).set hC hw ht n hx hn y hv hsz hone fun h' z w _=>hk h' (H.mO i hi w z)
theorem ab.push (hC:C.Ok) (H:ab B h0 h As) (i:Nat) (hi:As[i]?=some (aw e s k f l)) (he:bf C.tokh t e k z by_) (hz:z.length=k) (hby:0<by_∧by_≤128) (hw:∀x,(f x).length=k)
  (hone:∀x,∀c∈f x,c.oneCell'=true) (x:α) {parts:Array (Nat×Value)} (hfill:Instr.fill (fun i=>some (i*k,k)) (cD z 1).toArray parts.toList=some ([x].flatMap f).toArray)
  (hk1:1*k≤2^20) (hsz:l.length+1≤2^32) {ty:Nat} {K:Sl→Heap→Prop}
  (hk:∀s' h',ab B h0 h' (As.set i (aw e s' k f (l++[x])))→K s' h'):
  au C.P (Instr.buildSlice t 1 parts) (.one (.sc .slc)) h fun v h1=>au C.P (Builtin.append_ #[t,t] ty #[.slice s.ptr s.len s.cap,.slice v.ptr v.len v.cap]) (.one (.sc .slc)) h1 K:=by
 obtain⟨lo,pp,c,zz,a⟩:=H
 have ha:=a i _ hi
 have ho:jX h c (i+1) e s k f l:=⟨ha.1,fun b hb=>(ha.2 b hb).2⟩
 refine ho.push hC he hz hby hw hone x hfill hk1 hsz fun s' h' ho' hp'=>hk s' h' ?_
 refine ab.qF lo pp zz a (hp'.mono fun b hb hn hc=>hn ⟨hb,hc⟩) ⟨ho'.own,fun b hb=>⟨ho'.own.lt hb,?_⟩⟩
 have:=ho'.oo b hb
 by_cases hlt:b<h.size
 ·rw[ef hlt]at this;exact .inl ⟨hlt,this⟩
 ·exact .inr (by omega)
theorem ab.append (hC:C.Ok) (H:ab B h0 h As) (i:Nat) (hi:As[i]?=some (aw e s k f l)) (he:bf C.tokh t e k z by_) (h2:∃i e2,C.T.get t2=some i∧i.aQ=.slice e2) (hz:z.length=k) (hby:0<by_∧by_≤128) (hw:∀x,(f x).length=k)
  (hv:Seq h p v k f l2) (hone:∀x,∀c∈f x,c.oneCell'=true) (hsz:l.length+l2.length≤2^32) {ty:Nat} {K:Sl→Heap→Prop}
  (hk:∀s' h',ab B h0 h' (As.set i (aw e s' k f (l++l2)))→K s' h'):
  au C.P (Builtin.append_ #[t,t2] ty #[.slice s.ptr s.len s.cap,.slice v.ptr v.len v.cap]) (.one (.sc .slc)) h K:=by
 obtain⟨lo,pp,c,zz,a⟩:=H
 have ha:=a i _ hi
 have ho:jX h c (i+1) e s k f l:=⟨ha.1,fun b hb=>(ha.2 b hb).2⟩
 refine ho.append hC he h2 hz hby hw hv hone hsz fun s' h' ho' hp'=>hk s' h' ?_
 refine ab.qF lo pp zz a (hp'.mono fun b hb hn hc=>hn ⟨hb,hc⟩) ⟨ho'.own,fun b hb=>⟨ho'.own.lt hb,?_⟩⟩
 have:=ho'.oo b hb
 by_cases hlt:b<h.size
 ·rw[ef hlt]at this;exact .inl ⟨hlt,this⟩
 ·exact .inr (by omega)
theorem pf {h h':Heap} {n:Nat} (hn:n=h.size) (ho:Own h' e s k f l) (hp:s.ptr=some ⟨n,0,none⟩) (hpr:ax (fun _=>True) h h'):Sp h h' [aw e s k f l]:=
 .one (any hpr) ⟨ho,fun b hb=>⟨by obtain⟨o,hb⟩:=hb;rw[hp]at hb;cases hb;omega,ho.lt hb⟩⟩
theorem ab.make (hC:C.Ok) (H:ab B h0 h As) (f:α→List Value) (he:bf C.tokh t e k z by_) (hby:0<by_∧by_≤128) (x0:α) (hz:f x0=z) (hk0:z.length=k) {k1 k2:IntKind} {n cc:Int} (m mc:Nat) (hn:n=m) (hc:cc=mc) (hle:m≤mc) (hsm:mc≤2^32)
  {K:Sl→Heap→Prop} (hk:∀s' h',s'.len=m→s'.cap=mc→ab B h0 h' (As++[aw e s' k f (List.replicate m x0)])→K s' h'):
  au C.P (Instr.makeSlice t (.int k1 n) (.int k2 cc)) (.one (.sc .slc)) h K:=
 run_make hC he hby x0 hz hk0 m mc hn hc hle hsm fun s' h' x y w zz _=>hk s' h' (by rw[x.len];simp) w (H.comp (pf rfl x y zz))
theorem ab.lit (hC:C.Ok) (H:ab B h0 h As) (f:α→List Value) (he:bf C.tokh t e k z by_) (hk0:z.length=k) {n:Nat} {parts:Array (Nat×Value)} (l:List α) (hn:l.length=n) (hnk:n*k≤2^20)
  (hfill:Instr.fill (fun i=>some (i*k,k)) (cD z n).toArray parts.toList=some (l.flatMap f).toArray) {K:Sl→Heap→Prop}
  (hk:∀s' h',ab B h0 h' (As++[aw e s' k f l])→K s' h'):
  au C.P (Instr.buildSlice t n parts) (.one (.sc .slc)) h K:=
 tt hC he hk0 l hn hnk hfill fun s' h' x y zz _=>hk s' h' (H.comp (pf rfl x y zz))
theorem tv {h h':Heap} (hn:a.block=h.size) (ho:bH h' a e cs) (hpr:ax (fun _=>True) h h'):Sp h h' [af a e cs]:=
 .one (any hpr) ⟨ho,by omega,ho.lt⟩
theorem ab.alloc (hC:C.Ok) (H:ab B h0 h As) (hi:C.T.get t=some ti) {K:Addr→Heap→Prop} (hk:∀a h',ab B h0 h' (As++[af a t ti.zero])→K a h'):
  aI C.P (Instr.alloc t true (.tuple #[])) h K:=
 uX hC hi fun a h' x y zz _=>hk a h' (H.comp (tv x y zz))
theorem ab.boxed (H:ab B h0 h As) {P:Program} {v:Value} {K:Addr→Heap→Prop} (hk:∀a h',ab B h0 h' (As++[af a t v.cells.toList])→K a h'):
  aI P (Instr.box t v) h K:=
 xy fun a h' x y zz _=>hk a h' (H.comp (tv x y zz))
theorem ab.store (hC:C.Ok) (H:ab B h0 h As) (i:Nat) (hi:As[i]?=some (af a e cs)) (ht:C.T.get t=some ti) (off:Nat) {v:Value} (vs:List Value) (hv:v.cells=vs.toArray) (hsz:ti.size=vs.length)
  (hone:vs.all (·.oneCell')=true) (hfit:off+vs.length≤cs.length) {K:Unit→Heap→Prop}
  (hk:∀h',ab B h0 h' (As.set i (af a e (cs.take off++vs++cs.drop (off+vs.length))))→K () h'):
  aa C.P (Instr.storeAt t (.pointer (some (a.add off))) v) h K:=
 run_store hC (H.box i hi) ht off vs hv hsz hone hfit fun h' x y _=>hk h' (H.tu i hi y x)
theorem ab.uY (hC:C.Ok) (H:ab B h0 h As) (i:Nat) (hi:As[i]?=some (af a e cs)) (ht:C.T.get t=some ti) {v:Value} (vs:List Value) (hv:v.cells=vs.toArray) (hsz:ti.size=vs.length)
  (hone:vs.all (·.oneCell')=true) (hfit:vs.length≤cs.length) {K:Unit→Heap→Prop}
  (hk:∀h',ab B h0 h' (As.set i (af a e (vs++cs.drop vs.length)))→K () h'):
  aa C.P (Instr.storeAt t (.pointer (some a)) v) h K:=
 H.store hC i hi ht 0 vs hv hsz hone (by omega) (fun h' x=>hk h' (by simpa using x))
theorem ab.nil (H:ab B h0 h As) (e k:Nat) (f:α→List Value):ab B h0 h (As++[aw e ⟨none,0,0⟩ k f []]):=
 H.comp (.one (ax.refl _ _) ⟨Own.nil h e k f,fun b hb=>by obtain⟨o,hb⟩:=hb;cases hb⟩)
end
end Go.Vc
namespace Go.Vc
open Go
section
variable {C:Ctx} {t:Nat} {i:TI} {h:Heap}
theorem lZ (hC:C.Ok) (hi:C.T.get t=some i) {fs:List (Nat×TypeId)} (hfs:i.aQ=.struct fs) {ps:List (Nat×Nat)} (hps:placesOf C.T fs=some ps) {vs:List (Nat×Value)} {cells:Array Value}
  (hcells:Instr.fill (fun n=>ps[n]?) i.zero.toArray vs=some cells):ao C.P (Instr.build t vs.toArray) (.agg cells):=by
 obtain⟨z,hz,hzc⟩:=jR hC.toOk hi
 have hzc':i.zero.toArray=z.cells:=by rw[←hzc]
 have hd:=hC.aQ hi
 rw[hfs]at hd
 obtain⟨gs,hg,rfl⟩:=fG hd
 refine hz.bind ((ak hg).bind ?_)
 have hpl:ao C.P (gs.mapM fun f=>(do pure (f.offset,←sizeOf f.type):Sem (Nat×Nat))) ps.toArray:=by
  rw[Array.mapM_eq_mapM_toList]
  intro w
  have:=eU hC.toOk hps w
  rw[map_eq_pure_bind,Sem.run_bind,this]
  rfl
 refine hpl.bind ?_
 have hcc:Instr.fill (fun n=>ps.toArray[n]?) z.cells vs.toArray.toList=some cells:=by
  rw[←hzc'];simpa using hcells
 rw[hcc]
 exact .pure
end
theorem take_set {α:Type} (l:List α) (n:Nat) (x:α) (h:n<l.length):l.take n++[x]++l.drop (n+1)=l.set n x:=by
 rw[List.set_eq_take_append_cons_drop,if_pos h];simp
section
variable {B:aj} {C:Ctx} {h0 h h':Heap} {As:List HP} {e t:Nat} {a:Addr} {cs:List Value} {ti:TI}
theorem ab.storeAt (hC:C.Ok) (H:ab B h0 h As) (i:Nat) (hi:As[i]?=some (af a e cs)) (ht:C.T.get t=some ti) {off:Nat} {v:Value} (hv:v.cells=#[v]) (hsz:ti.size=1)
  (hone:v.oneCell'=true) (hfit:off<cs.length) {K:Unit→Heap→Prop}
  (hk:∀h',ab B h0 h' (As.set i (af a e (cs.set off v)))→K () h'):
  aa C.P (Instr.storeAt t (.pointer (some (a.add off))) v) h K:=
 H.store hC i hi ht off [v] hv hsz (by simp[hone]) (by simp;omega) fun h' x=>hk h' (by rw[←take_set _ _ _ hfit];simpa using x)
theorem ab.storeAll (hC:C.Ok) (H:ab B h0 h As) (i:Nat) (hi:As[i]?=some (af a e cs)) (ht:C.T.get t=some ti) {v:Value} (vs:List Value) (hv:v.cells=vs.toArray) (hsz:ti.size=vs.length)
  (hone:vs.all (·.oneCell')=true) (hfit:vs.length=cs.length) {K:Unit→Heap→Prop}
  (hk:∀h',ab B h0 h' (As.set i (af a e vs))→K () h'):
  aa C.P (Instr.storeAt t (.pointer (some a)) v) h K:=
 H.uY hC i hi ht vs hv hsz hone (by omega) fun h' x=>hk h' (by rw[List.drop_of_length_le (by omega),List.append_nil]at x;exact x)
end
end Go.Vc
namespace Go.Vc
open Go
abbrev Rd {α:Type} (h:Heap) (s:Sl) (k:Nat) (f:α→List Value) (l:List α):Prop:=Seq h (fun b=>b<h.size) s k f l
section
variable {α:Type} {B:aj} {h0 h h':Heap} {As:List HP} {s:Sl} {k e:Nat} {f:α→List Value} {l:List α} {ll:List (List α)}
theorem Seq.isSome {p:aj} (hs:Seq h p s k f l) (hl:l≠[]):s.ptr.isNone=false:=by
 cases l with
 |nil=>exact absurd rfl hl
 |cons x t=>obtain⟨b,o,h1,_⟩:=hs.elem 0 x (by simp);rw[h1];rfl
theorem Seq.isNil {p:aj} (hs:Seq h p s k f l) (hl:s.ptr.isNone=true):l=[]:=by
 cases l with
 |nil=>rfl
 |cons x t=>rw[hs.isSome (by simp)]at hl;cases hl
end
end Go.Vc
namespace Go.Vc
open Go
section
variable {B:aj} {h0 h h':Heap} {As Bs:List HP} {A D:HP}
theorem ab.del (H:ab B h0 h As) (i:Nat):ab B h0 h (As.eraseIdx i):=
 H.pick (fun j=>if j<i then j else j+1) (fun a b hab=>by split at hab<;>split at hab<;>omega) fun j A hj=>by
  rw[List.getElem?_eraseIdx]at hj
  split at hj
  ·rename_i hlt;rw[if_pos hlt];exact hj
  ·rename_i hlt;rw[if_neg hlt];exact hj
end
end Go.Vc
namespace Go.Vc
open Go
section
variable {B:aj} {α:Type} {h0 h h':Heap} {As Bs:List HP} {A D:HP} {e k:Nat} {s:Sl} {f:α→List Value} {l:List α}
end
def cQ {α:Type} (e k:Nat) (f:α→List Value) (rs:List Sl) (ll:List (List α)):List HP:=List.zipWith (fun r l=>aw e r k f l) rs ll
section
variable {α:Type} {e k:Nat} {f:α→List Value} {rs:List Sl} {ll:List (List α)}
theorem sy (h:rs.length=ll.length) (i:Nat) (hi:i<ll.length):(cQ e k f rs ll)[i]?=some (aw e (rs[i]'(by omega)) k f ll[i]):=by
 have h1:i<rs.length:=by omega
 simp[cQ,List.getElem?_zipWith,List.getElem?_eq_getElem hi,List.getElem?_eq_getElem h1]
theorem rf (h:rs.length=ll.length) (r:Sl) (l:List α):cQ e k f (rs++[r]) (ll++[l])=cQ e k f rs ll++[aw e r k f l]:=by
 unfold cQ;rw[List.zipWith_append h];rfl
end
end Go.Vc
namespace Go.Vc
open Go
section
variable {α:Type} {h:Heap} {p:aj} {s:Sl} {f:α→List Value} {l:List α}
theorem Seq.tZ {X:Type} {g:X→Value} (hs:Seq h p s 1 f l) {i:Int} (n:Nat) (hi:i=n) (hn:n<l.length) (x:X) (hx:f l[n]=[g x]) {K:Addr→X→Prop} (hk:∀a:Addr,cellOf h (a.add (i.toNat*1))=some (g x)→K a x):
  ∃a:Addr,(s.ptr=some a∧0≤i∧i<((s.len:Nat):Int))∧∃x:X,cellOf h (a.add (i.toNat*1))=some (g x)∧K a x:=by
 subst hi
 obtain⟨b,o,h1,_,h3⟩:=hs.elem n l[n] (List.getElem?_eq_getElem hn)
 rw[hx]at h3
 have h4:=h3.1
 rw[add_eq,Nat.add_zero]at h4
 have h5:cellOf h ((⟨b,o,none⟩:Addr).add ((n:Int).toNat*1))=some (g x):=by rw[add_eq];simpa using h4
 exact⟨_,⟨h1,by omega,by rw[hs.len];omega⟩,x,h5,hk _ h5⟩
end
end Go.Vc
namespace Go.Vc
open Go
end Go.Vc
namespace Go.Vc
open Go
section
variable {B:aj} {α:Type} {h0 h:Heap} {As:List HP} {e k:Nat} {s:Sl} {f:α→List Value} {l:List α}
theorem Own.cut (ho:Own h e s k f l) (hw:∀x,(f x).length=k) (j:Nat) (hj:j≤l.length):Own h e ⟨s.ptr,j,s.cap⟩ k f (l.take j):=by
 have hl:=ho.len
 refine⟨by simp;omega,?_⟩
 rcases ho.head with⟨h1,h2,h3⟩|⟨b,rest,h1,h2,h3,h4⟩
 ·subst h3
  exact .inl ⟨h1,h2,by simp⟩
 ·refine .inr ⟨b,(l.drop j).flatMap f++rest,h1,?_,?_,by dsimp only;omega⟩
  ·rw[←List.append_assoc,←List.flatMap_append,List.take_append_drop];exact h2
  ·rw[List.length_append,bO hw,List.length_drop,h3,←Nat.add_mul]
   dsimp only
   congr 1;omega
end
end Go.Vc
namespace Go.Vc
open Go
section
variable {B:aj} {α:Type} {C:Ctx} {h0 h:Heap} {As:List HP} {e t k:Nat} {s:Sl} {f:α→List Value} {l:List α} {ti:TI}
end
end Go.Vc
namespace Go.Vc
open Go
section
variable {C:Ctx} {t t2 ty e k:Nat} {z:List Value} {by_:Nat} {α:Type} {h h0:Heap} {p B:aj} {s v:Sl} {f:α→List Value} {l l2:List α} {As:List HP}
theorem Own.rg (hC:C.Ok) (he:bf C.tokh t e k z by_) (hw:∀x,(f x).length=k) (ho:Own h e s k f l) (hv:Seq h p v k f l2) (hone:∀x,∀c∈f x,c.oneCell'=true) {K:Int→Heap→Prop}
  (hk:∀n h',Own h' e s k f (l2.take l.length++l.drop l2.length)→ax (fun b=>¬s.on b) h h'→K n h'):
  au C.P (Builtin.copy_ #[t,t2] ty #[.slice s.ptr s.len s.cap,.slice v.ptr v.len v.cap]) (.one (.sc (.int .i64))) h K:=by
 unfold au Builtin.copy_
 simp only[List.getElem?_toArray,List.getElem?_cons_zero,List.getElem?_cons_succ]
 refine aa.bind (aa.always (ak (he.under hC)) ?_)
 refine aa.bind (aa.pure' ?_)
 refine aa.bind (aa.always (he.size hC) ?_)
 have hl1:=ho.len;have hl2:=hv.len
 obtain⟨m,hm⟩:∃m,m=Nat.min v.len s.len:=⟨_,rfl⟩
 rw[←hm]
 have hm1:m≤l2.length:=by rw[hm,←hl2];exact Nat.min_le_left _ _
 have hm2:m≤l.length:=by rw[hm,←hl1];exact Nat.min_le_right _ _
 have hm3:m=min l2.length l.length:=by rw[hm,hl1,hl2]
 have hv':=hv.take m hm1
 have e0:l2.take l.length++l.drop l2.length=l2.take m++l.drop m:=by
  rcases Nat.le_total l2.length l.length with hh|hh
  ·rw[List.take_of_length_le hh,show m=l2.length by omega,List.take_length]
  ·rw[show m=l.length by omega,List.drop_of_length_le hh,List.drop_length]
 rw[e0]at hk
 have efc:Builtin.firstCells k m (.slice v.ptr v.len v.cap)=Builtin.firstCells k m (.slice v.ptr m v.cap):=by cases v.ptr<;>rfl
 rw[efc]
 refine aa.bind (ce (v:=⟨v.ptr,m,v.cap⟩) hw hv' ?_)
 rcases ho.head with⟨h1,h2,h3⟩|⟨b,rest,h1,h2,h3,h4⟩
 ·rw[h1]
  subst h3
  have:m=0:=by simpa using hm2
  subst this
  refine aa.pure' ⟨_,rfl,hk _ h ?_ (ax.refl _ _)⟩
  simpa using ho
 ·rw[h1]
  refine aa.bind ?_
  have esp:l.flatMap f++rest=(l.take m).flatMap f++((l.drop m).flatMap f++rest):=by
   rw[←List.append_assoc,←List.flatMap_append,List.take_append_drop]
  rw[esp]at h2
  refine cd (e:=e) (pre:=[]) (old:=(l.take m).flatMap f) (post:=(l.drop m).flatMap f++rest) (by simpa using h2) (by rw[bO hw,bO hw,List.length_take,List.length_take];congr 1;omega) rfl ?_ ?_
  ·intro c hc
   obtain⟨x,_,hxc⟩:=List.mem_flatMap.1 hc
   exact hone x c hxc
  ·refine aa.pure' ⟨_,rfl,hk _ _ ⟨by rw[hl1,List.length_append,List.length_take,List.length_drop];omega,.inr ⟨b,rest,h1,?_,h3,h4⟩⟩ (ax.cX h2 (fun hn=>hn ⟨0,h1⟩))⟩
   rw[cY h2,if_pos rfl,List.flatMap_append];simp
theorem ab.rg (hC:C.Ok) (H:ab B h0 h As) (i:Nat) (hi:As[i]?=some (aw e s k f l)) (he:bf C.tokh t e k z by_) (hw:∀x,(f x).length=k) (hv:Seq h p v k f l2) (hone:∀x,∀c∈f x,c.oneCell'=true) {K:Int→Heap→Prop}
  (hk:∀n h',ab B h0 h' (As.set i (aw e s k f (l2.take l.length++l.drop l2.length)))→K n h'):
  au C.P (Builtin.copy_ #[t,t2] ty #[.slice s.ptr s.len s.cap,.slice v.ptr v.len v.cap]) (.one (.sc (.int .i64))) h K:=
 (H.own i hi).rg hC he hw hv hone fun n h' x y=>hk n h' (H.mO i hi y x)
end
end Go.Vc
