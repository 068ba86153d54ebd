/- Lemmas for the proof of the law; no condition. -/
import Derived.Test.YtodpiocopjpjpaaGreatDoorVcA
import Derived.Sort.Grow
import Derived.Lib.SlicesCompact
import Derived.Lib.RowBridge
import Derived.Shelf.SlSortCmp.NoneTotal
set_option linter.unusedVariables false
set_option linter.unusedSimpArgs false
open Nat renaming min_eq_left -> wM
open List renaming exists_mem_of_ne_nil -> vD, mem_take_iff_getElem -> yl, range -> qn, replicate -> qf, set_comm -> vh, set_eq_take_append_cons_drop -> w9, size_toArray -> yT, take_zero -> xI, zipWith -> zc
open Go.Value renaming int -> xU
open Go.IntKind renaming bits -> qz, i64 -> ka, signed -> vp, u32 -> ke, u64 -> kf, u8 -> kb, wrap -> qd
open Array renaming ext' -> vn, ext_getElem? -> ve, range -> xM, toList_map -> xn
open Go.Builtin renaming append_ -> zo, clear_ -> vW, copy_ -> yV, firstCells -> wJ, nextslicecap -> vo, zeroCells -> yC
open Bool renaming or_eq_true -> yG
open Go.Instr renaming alloc -> yR, box -> vU, buildSlice -> zE, checkKey -> vX, fill -> wB, makeSlice -> zx, storeAt -> qF
open Int renaming fdiv -> zr, fdiv_eq_ediv_of_nonneg -> ye, tmod -> xO
open UInt8 renaming ofNat -> zL
open Prod renaming fst -> qD
open BitVec renaming ofInt -> qG, ofNat_toNat -> vQ, setWidth_eq -> vR
set_option maxRecDepth 100000
open Option renaming some -> dB, none -> eH
open Bool renaming true -> eS, false -> eX
open Go renaming Value -> fz, Addr -> f7
open Go.Qw renaming cellOf -> f8, Heap -> f9
open List renaming length -> i4
namespace Go.Qw
open Go.Proofs
variable {A B:Prop}
theorem ae{p:Prop}[Decidable p](b:p->A)(a:¬p->B):Br (decide p) A B:=by
 by_cases h:p
 .rw[hU h];exact b h
 .rw[ii h];exact a h
theorem aY{a b:Int}(c:a=b->A)(d:a≠b->B):Br (a==b) A B:=by
 by_cases h:a=b
 .rw[beq_iff_eq.2 h];exact c h
 .rw[beq_eq_false_iff_ne.2 h];exact d h
theorem bH{a b:Int}(c:a≠b->A)(d:a=b->B):Br (a !=b) A B:=by
 by_cases h:a=b
 .rw[show(a !=b)=eX by simp[h]];exact d h
 .rw[show(a !=b)=eS by simp[h]];exact c h
theorem aP{b:Bool}(c:b=eS->A)(a:b=eX->B):Br b A B:=by
 cases b
 .exact a i5
 .exact c i5
theorem aX{b:Bool}(c:b=eX->A)(a:b=eS->B):Br (!b) A B:=by
 cases b
 .exact c i5
 .exact a i5
theorem CF{b:Bool}(h:b=eS)(a:A):Br b A B:=by subst h;exact a
theorem tK{b:Bool}(h:b=eX)(a:B):Br b A B:=by subst h;exact a
theorem aJ{σ:Type}{rest:σ->f9->Prop}{B:(σ->f9->Prop)->Prop}(h:B rest):AL rest B:=⟨rest,λ_ _ x=>x,h⟩
theorem bF{σ:Type}{rest:σ->f9->Prop}{B:(σ->f9->Prop)->Prop}(R:σ->f9->Prop)(a:B R)(b:∀s h,R s h->rest s h):AL rest B:=⟨R,b,a⟩
theorem an{σ:Type}{B:σ->(σ->f9->Prop)->f9->Prop}{s:σ}{h:f9}{τ:Type}(V:τ->σ)(I:τ->f9->Prop)(μ:τ->Nat)(t0:τ)(d:s=V t0)(h0:I t0 h)
  (b:∀t h,I t h->B (V t) (λc h'=>∃a,c=V a/\I a h'/\μ a<μ t) h):iu B s h:=⟨τ,V,I,μ,t0,d,h0,b⟩
abbrev aw:=Nat->Prop
def aS(p:aw)(h h':f9):Prop:=h.size<=h'.size/\∀b,b<h.size->p b->h'[b]?=h[b]?
def Sl.on(s:Sl)(b:Nat):Prop:=∃o,s.ptr=dB ⟨b,o,eH⟩
variable {p q:aw} {h h' h'':f9}
theorem aS.refl(p:aw)(h:f9):aS p h h:=⟨qi _,λ_ _ _=>rfl⟩
theorem aS.trans(a:aS p h h')(b:aS p h' h''):aS p h h'':=⟨qM a.1 b.1,λk d c=>(b.2 k (qT d a.1) c).trans (a.2 k d c)⟩
theorem aS.then(a:aS p h h')(b:aS q h' h'')(e:∀k,k<h.size->p k->q k):aS p h h'':=⟨qM a.1 b.1,λk c d=>(b.2 k (qT c a.1) (e k c d)).trans (a.2 k c d)⟩
theorem aS.mono(a:aS p h h')(e:∀b,b<h.size->q b->p b):aS q h h':=⟨a.1,λk c d=>a.2 k c (e k c d)⟩
theorem aS.push(p:aw)(h:f9)(o:Obj):aS p h (h.push o):=⟨js,λb a _=>j1⟩
theorem uo{a:f7}{v:fz}(b:f8 h a=dB v):a.block<h.size:=by
 unfold f8 at b
 grind
theorem lt_of_block{b:Nat}{o:Obj}(a:h[b]?=dB o):b<h.size:=(Array.getElem?_eq_some_iff.1 a).1
theorem aS.cell(a:aS p h h'){x:f7}{v:fz}(c:p x.block)(b:f8 h x=dB v):f8 h' x=dB v:=by
 have:=a.2 _ (uo b) c;unfold f8 at*
 grind
theorem aS.block(a:aS p h h'){b:Nat}{o:Obj}(d:p b)(c:h[b]?=dB o):h'[b]?=dB o:=by rw[a.2 b (lt_of_block c) d];exact c
theorem aS.cells(a:aS p h h'){x:f7}(b:p x.block):∀{vs:aW} {i:Nat},bt h x i vs->bt h' x i vs
 |[],_,_=>trivial
 |v::r,i,hc=>⟨a.cell (by unfold Addr.add;grind) hc.1,aS.cells a b hc.2⟩
theorem add_eq(b o n:Nat):(⟨b,o,eH⟩:f7).add n=⟨b,o+n,eH⟩:=by unfold Addr.add;simp
theorem add_zero(a:f7):a.add 0=a:=rfl
theorem CG{h:f9}{b o:Nat}{c:Array fz}{e:TypeId}{f:Nat×Nat}(a:h[b]?=dB (.cells c e f)):f8 h ⟨b,o,eH⟩=c[o]?:=by unfold f8;grind
theorem aby{h:f9}{b o:Nat}{c:Array fz}{e:TypeId}(a:h[b]?=dB (.cells c e (0,0))):UB h ⟨b,o,eH⟩=eX:=by unfold UB;grind
structure Seq {α:Type} (h:f9) (p:aw) (s:Sl) (k:Nat) (f:α->aW) (l:List α):Prop where
 len:s.len=i4 l
 elem:∀i x,l[i]?=dB x->∃b o,s.ptr=dB ⟨b,o,eH⟩/\p b/\bt h ⟨b,o+i*k,eH⟩ 0 (f x)
variable {α:Type} {s:Sl} {k:Nat} {f:α->aW} {l:List α}
theorem Seq.ac(c:Seq h p s k f l)(g:aS p h h'):Seq h' p s k f l:=⟨c.len,λi x e=>by
 obtain⟨b,o,d,a,h3⟩:=c.elem i x e;exact⟨b,o,d,a,g.cells a h3⟩⟩
theorem Seq.mono(a:Seq h p s k f l)(g:∀b,p b->q b):Seq h q s k f l:=⟨a.len,λi x c=>by
 obtain⟨b,o,d,e,h3⟩:=a.elem i x c
 grind⟩
theorem Seq.nil(h:f9)(p:aw)(c:Nat)(a:bL)(k:Nat)(f:α->aW):Seq h p ⟨a,0,c⟩ k f []:=⟨i5,λi x b=>j1⟩
theorem Seq.bm{X:Type}{g:X->fz}(c:Seq h p s 1 f l){i:Int}(n:Nat)(m:i=n)(k:n<i4 l)(x:X)(e:f l[n]=[g x]){K:X->Prop}(j:K x):
  ∃a:f7,(s.ptr=dB a/\0<=i/\i<((s.len:Nat):Int))/\∃x:X,f8 h (a.add (i.toNat*1))=dB (g x)/\K x:=by
 obtain⟨b,o,d,_,h3⟩:=c.elem n l[n] (qc k);refine⟨_,⟨d,i6,by rw[c.len];omega⟩,x,?_,j⟩;rw[e]at h3;have:=h3.1;rw[add_eq,]at this;rw[add_eq];grind
theorem Seq.dO{X:Type}{g:X->aW}(c:Seq h p s k f l){i:Int}(n:Nat)(q:i=n)(j:n<i4 l)(x:X)(m:f l[n]=g x){K:X->Prop}(e:K x):
  ∃a:f7,(s.ptr=dB a/\0<=i/\i<((s.len:Nat):Int))/\∃x:X,bt h (a.add (i.toNat*k)) 0 (g x)/\K x:=by
 obtain⟨b,o,d,_,h3⟩:=c.elem n l[n] (qc j);refine⟨_,⟨d,i6,by rw[c.len];omega⟩,x,?_,e⟩;rw[add_eq]
 grind
def az(n:Int):aW:=[xU ka n]
def aB(n:UInt8):aW:=[xU kb n.toNat]
def fS(b:Bool):aW:=[.bool b]
def bx(s:Sl):aW:=[.slice s.ptr s.len s.cap]
structure iP {α:Type} (h:f9) (p:aw) (s:Sl) (k:Nat) (f:α->aW) (ll:List (List α)) (rs:List Sl):Prop where
 top:Seq h p s 1 bx rs
 len:i4 rs=i4 ll
 row:∀(i:Nat) (r:Sl) (l:List α),rs[i]?=dB r->ll[i]?=dB l->Seq h p r k f l
variable {ll:List (List α)} {rs:List Sl}
theorem iP.ac(a:iP h p s k f ll rs)(b:aS p h h'):iP h' p s k f ll rs:=⟨a.top.ac b,a.len,λi r l c d=>(a.row i r l c d).ac b⟩
theorem iP.mono(a:iP h p s k f ll rs)(c:∀b,p b->q b):iP h q s k f ll rs:=⟨a.top.mono c,a.len,λi r l d e=>(a.row i r l d e).mono c⟩
theorem iP.OB(a:iP h p s k f ll rs):s.len=i4 ll:=by rw[a.top.len,a.len]
theorem iP.get(c:iP h p s k f ll rs){i:Int}(n:Nat)(j:i=n)(e:n<i4 ll){K:Sl->Prop}(g:∀r,Seq h p r k f ll[n]->rs[n]?=dB r->K r):
  ∃a:f7,(s.ptr=dB a/\0<=i/\i<((s.len:Nat):Int))/\∃x:Sl,f8 h (a.add (i.toNat*1))=dB (.slice x.ptr x.len x.cap)/\K x:=by
 have b:n<i4 rs:=by rw[c.len];exact e
 have d:rs[n]?=dB rs[n]:=qc b;exact c.top.bm n j b rs[n] i5 (g _ (c.row n _ _ d (qc e)) d)
structure Own {α:Type} (h:f9) (e:TypeId) (s:Sl) (k:Nat) (f:α->aW) (l:List α):Prop where
 len:s.len=i4 l
 head:(s.ptr=eH/\s.cap=0/\l=[])∨∃b rest,s.ptr=dB ⟨b,0,eH⟩/\h[b]?=dB (.cells (l.flatMap f++rest).toArray e (0,0))/\rest.length=(s.cap-s.len)*k/\s.len<=s.cap
theorem dX{α:Type}{k:Nat}{f:α->aW}(a:∀x,i4 (f x)=k):∀(l:List α),i4 (l.flatMap f)=i4 l*k
 |[]=>js
 |x::r=>by rw[zg,qu,a,dX a r,q8,zW];omega
theorem CH{α:Type}{k:Nat}{f:α->aW}(a:∀x,i4 (f x)=k):∀(l:List α) (i:Nat) (x:α),l[i]?=dB x->∃pre post,l.flatMap f=pre++f x++post/\pre.length=i*k
 |y::r,0,x,h=>by simp at h;subst h;simp
 |y::r,i+1,x,h=>by
  obtain⟨pre,post,b,c⟩:=CH a r i x j1;exact⟨f y++pre,post,j1,j1⟩
theorem sH{h:f9}{b o:Nat}{e:TypeId}{fr:Nat×Nat}:∀{vs pre post:aW} {i:Nat},h[b]?=dB (.cells (pre++vs++post).toArray e fr)->i4 pre=o+i->bt h ⟨b,o,eH⟩ i vs
 |[],_,_,_,_,_=>trivial
 |v::r,pre,post,i,hb,hl=>by
  refine⟨?_,sH (pre:=pre++[v]) (post:=post) (by simpa using hb) j1⟩;rw[add_eq,CG hb,<-hl];simp
def jk(h:f9)(b:Nat)(o:Obj):f9:=h.setIfInBounds b o
theorem iX{h:f9}{b c:Nat}{o x:Obj}(a:h[b]?=dB x):(jk h b o)[c]?=if b=c then dB o else h[c]?:=by
 unfold jk
 grind
theorem XM{h:f9}{b o:Nat}{c:Array fz}{e:TypeId}{f:Nat×Nat}{v:fz}(a:h[b]?=dB (.cells c e f)):UC h ⟨b,o,eH⟩ v=jk h b (.cells (c.setIfInBounds o v) e f):=by
 apply ve;intro i;rw[iX a];simp only[UC,]
 grind
theorem XN(h:f9)(b:Nat)(o a:Obj):jk (jk h b o) b a=jk h b a:=by unfold jk;simp
theorem aS.jk{p:aw}{h:f9}{b:Nat}{o x:Obj}(d:h[b]?=dB x)(a:¬p b):aS p h (jk h b o):=⟨by simp[Qw.jk],λc _ f=>by
 rw[iX d,g9 λe=>a j1]⟩
theorem fY{P:Program}{b o:Nat}{e:TypeId}{K:Unit->f9->Prop}:∀{vs pre old post:aW} {i:Nat} {h:f9},h[b]?=dB (.cells (pre++old++post).toArray e (0,0))->i4 old=i4 vs->i4 pre=o+i->
  (∀v∈vs,v.oneCell'=eS)->K () (jk h b (.cells (pre++vs++post).toArray e (0,0)))->aj P (storeCells ⟨b,o,eH⟩ vs i) h K
 |[],pre,old,post,i,h,hb,hl,hp,hv,hk=>by
  have:old=[]:=qU i6;refine aj.pure' ?_;have g:jk h b (.cells (pre++[]++post).toArray e (0,0))=h:=by
   apply ve;intro c;rw[iX hb]
   grind
  grind
 |v::r,pre,old,post,i,h,hb,hl,hp,hv,hk=>by
  cases old with
  |nil=>grind
  |cons u old=>
   refine aj.bind ?_;rw[add_eq];have d:f8 h ⟨b,o+i,eH⟩=dB u:=by rw[CG hb,<-hp];simp
   refine aj.agp (hv v js) d (aby hb) ?_;rw[XM hb];have a:(pre++(u::old)++post).toArray.setIfInBounds (o+i) v=((pre++[v])++old++post).toArray:=by rw[<-hp];simp
   rw[a];refine fY (e:=e) (pre:=pre++[v]) (old:=old) (post:=post) ?_ j1 jj (λx f=>hv x j1) ?_
   .rw[iX hb,g0 rfl]
   .rw[XN];grind
theorem KL{P:Program}{h:f9}{a:f7}{vs:aW}{n:Nat}{K:Array fz->f9->Prop}(e:i4 vs=n)(c:bt h a 0 vs)(d:K vs.toArray h):aj P (loadCells a n) h K:=λw b=>by
 subst b;refine⟨vs.toArray,w,?_,dC.refl w,d⟩;have:=run_loadCells (P:=P) (w:=w) (a:=a) vs 0 #[] c;unfold loadCells
 grind
variable {e:TypeId}
theorem Own.lt(c:Own h e s k f l){b:Nat}(a:s.on b):b<h.size:=by
 rcases c.head with⟨h1,_,_⟩|⟨b',rest,h1,h2,_,_⟩
 .obtain⟨o,h0⟩:=a;grind
 .obtain⟨o,h0⟩:=a
  grind
theorem Own.ac(c:Own h e s k f l)(d:aS p h h')(a:∀b,s.on b->p b):Own h' e s k f l:=⟨c.len,by
 rcases c.head with h1|⟨b,rest,h1,h2,h3,h4⟩
 .grind
 .exact .inr ⟨b,rest,h1,d.block (a b ⟨0,h1⟩) h2,h3,h4⟩⟩
theorem Own.seq(c:Own h e s k f l)(g:∀x,i4 (f x)=k)(a:∀b,s.on b->p b):Seq h p s k f l:=⟨c.len,λi x d=>by
 rcases c.head with⟨_,_,h1⟩|⟨b,rest,h1,h2,h3,h4⟩
 .grind
 .obtain⟨pre,post,m,j⟩:=CH g l i x d;refine⟨b,0,h1,a b ⟨0,h1⟩,sH (e:=e) (fr:=(0,0)) (pre:=pre) (post:=post++rest) ?_ i6⟩
  grind⟩
theorem Own.nil(h:f9)(e:TypeId)(k:Nat)(f:α->aW):Own h e ⟨eH,0,0⟩ k f []:=⟨i5,.inl ⟨i5,i5,i5⟩⟩
theorem Own.cap(a:Own h e s k f l):s.len<=s.cap:=by
 rcases a.head with⟨h1,h2,h3⟩|⟨b,rest,h1,h2,h3,h4⟩
 .have:=a.len;grind
 grind
theorem aj.always{α:Type}{P:Program}{s:Sem α}{v:α}{h:f9}{K:α->f9->Prop}(a:aH P s v)(c:K v h):aj P s h K:=λw b=>⟨v,w,a w,dC.refl w,j1⟩
structure bV (C:BX) (t e k:Nat) (z:aW) (by_:Nat):Prop where
 ex:∃i j,C.T.get t=dB i/\i.cv=.slice e/\C.T.get e=dB j/\j.size=k/\j.zero=z/\j.bytes=by_
variable {t:Nat} {z:aW} {by_:Nat}
section
variable {C:Ctx} {e:Nat}
theorem bV.under(d:bV C.toBX t e k z by_)(c:C.Ok):C.P.underlying t=dB (.slice e):=by obtain⟨i,j,a,b,_⟩:=d.ex;have:=c.cv a;rw[b]at this;exact ji this
theorem bV.size(d:bV C.toBX t e k z by_)(c:C.Ok):aH C.P (sizeOf e) k:=by obtain⟨i,j,_,_,a,b,_⟩:=d.ex;rw[<-b];exact eV c.toOk a
theorem bV.info(c:bV C.toBX t e k z by_)(d:C.Ok):∃f,C.P.info? e=dB f/\f.size=k/\f.bytes=by_/\∃a,f.zero=dB a/\a.cells=z.toArray:=by
 obtain⟨i,j,_,_,b,o,h3,m⟩:=c.ex;obtain⟨f,p,l,h,a,n,g⟩:=d.info b
 grind
end
def jl(z:aW):Nat->aW
 |0=>[]
 |n+1=>z++jl z n
theorem oR(z:aW):∀n,i4 (jl z n)=n*i4 z
 |0=>by simp[jl]
 |n+1=>by rw[jl,qu,oR z n,zW];omega
theorem OC(z:aW):∀(n i:Nat),i<n*i4 z->(jl z n)[i]?=z[i%i4 z]?
 |0,i,h=>i6
 |n+1,i,h=>by
  rw[jl];by_cases a:i<i4 z
  .rw[qq a,Nat.mod_eq_of_lt a]
  .rw[qk i6,OC z n (i-i4 z) j1]
   conv=>rhs;rw[show i=(i-i4 z)+i4 z by omega,Nat.add_mod_right]
theorem OD(z:aW)(n m:Nat)(c:m=n*i4 z):((xM m).map λi=>z.toArray[i%z.toArray.size]!)=(jl z n).toArray:=by
 apply ve;intro i;subst c;simp only[wb];by_cases b:i<n*i4 z
 .rw[OC z n i b];have a:0<i4 z:=Nat.pos_of_ne_zero λe=>j1
  have:=yW i a
  grind
 .rw[zd (by rw[oR];omega)];simp[b]
theorem El(z:aW)(n:Nat):yC z.toArray n=(jl z n).toArray:=OD z n _ (i5)
theorem TK(a:Nat):∀(r c:Nat),Builtin.growBy a r c<=(c+768)*2^r
 |0,c=>by simp[Builtin.growBy]
 |r+1,c=>by
  unfold Builtin.growBy;split
  .exact qM (Nat.le_add_right c 768) (Nat.le_mul_of_pos_right _ (Nat.two_pow_pos _))
  .refine qM (TK a r _) ?_;rw[Nat.pow_succ,Nat.mul_comm (2^r) 2,<-Nat.mul_assoc];exact zi _ i6
theorem aiM(o n:Nat)(h:o<n):(o+768)*2^4<=16*n+16*768:=i6
theorem TL(a b:Nat)(h:b<a:=by omega):vo a b<=16*a+16*768:=by
 unfold vo;split
 .omega
 .split
  .omega
  .exact qM (TK a 4 b) (aiM _ _ h)
variable {t2:Nat} {v:Sl} {l2:List α}
section
variable {C:Ctx} {e:Nat}
theorem ia{P:Program}{K:Array fz->f9->Prop}(z:∀x,i4 (f x)=k)(d:Seq h p v k f l)(s:K (l.flatMap f).toArray h):
  aj P (wJ k v.len (.slice v.ptr v.len v.cap)) h K:=by
 cases hp:v.ptr with
 |none=>
  have:l=[]:=by
   cases l with
   |nil=>rfl
   |cons x r=>obtain⟨b,o,c,_⟩:=d.elem 0 x (rfl);grind
  subst this;exact aj.pure' s
 |some a=>
  refine KL (by rw[dX z,<-d.len]) ?_ s;cases l with
  |nil=>trivial
  |cons j r0=>
   obtain⟨b,o,c,_,_⟩:=d.elem 0 j (rfl);rw[hp]at c;cases c;have e:∀(r:List α) (n:Nat),(∀i x,r[i]?=dB x->bt h ⟨b,o+(n+i)*k,eH⟩ 0 (f x))->bt h ⟨b,o,eH⟩ (n*k) (r.flatMap f):=by
    intro r
    induction r with
    |nil=>intro n _;trivial
    |cons x r ih=>
     intro n q;have h0:=q 0 x (i5);have t:=ih (n+1) (λi y w=>by have:=q (i+1) y q6;grind);have app:∀(us vs:aW) (i:Nat),bt h ⟨b,o,eH⟩ i us->bt h ⟨b,o,eH⟩ (i+i4 us) vs->bt h ⟨b,o,eH⟩ i (us++vs):=by
      intro us
      induction us with
      |nil=>simp
      |cons u us ih=>intro vs i c t;exact⟨c.1,ih vs (i+1) c.2 j1⟩
     refine app _ _ _ ?_ j1;have g:∀(us:aW) (i m:Nat),bt h ⟨b,o+m,eH⟩ i us->bt h ⟨b,o,eH⟩ (m+i) us:=by
      intro us
      induction us with
      |nil=>intros;trivial
      |cons u us ih=>
       intro i m c;refine⟨?_,ih (i+1) m c.2⟩;have:=c.1;rw[add_eq]at this⊢;rw[<-wX];omega
     grind
   have:=e (j::r0) 0 (λi x A=>by
    obtain⟨D,B,c,_,h3⟩:=d.elem i x A
    grind)
   simpa using this
theorem Vb(w:C.Ok)(I:bV C.toBX t e k z by_)(W:∃i e2,C.T.get t2=dB i/\i.cv=.slice e2)(Y:i4 z=k)(H:0<by_/\by_<=128)(m:∀x,i4 (f x)=k)
  (A:Own h e s k f l) (F:Seq h p v k f l2) (r:∀x,∀c∈f x,c.oneCell'=eS) (ab:i4 l+i4 l2<=2^32) {ty:Nat} {K:Sl->f9->Prop}
  (E:∀N h',Own h' e N k f (l++l2)->aS (λb=>¬s.on b) h h'->(∀b,N.on b->s.on b∨h.size<=b)->K N h'):
  bI C.P (zo #[t,t2] ty #[.slice s.ptr s.len s.cap,.slice v.ptr v.len v.cap]) (.one (.sc .slc)) h K:=by
 obtain⟨i2,e2,g1,U⟩:=W;have L:C.P.underlying t2=dB (.slice e2):=by have:=w.cv g1;rw[U]at this;exact ji this
 obtain⟨M,y,x2,x3,zv,x4,V⟩:=I.info w;unfold bI zo;simp only[wb,w7,qO];refine aj.bind (aj.always (aF (I.under w)) ?_);refine aj.bind (aj.always (I.size w) ?_);refine aj.bind (aj.always (aF L) ?_);refine aj.bind (aj.pure' ?_);simp only[zh,if_false,yb,if_true];refine aj.bind (aj.pure' ?_);have q:=A.len;have O:=F.len;by_cases d:s.len+v.len<=s.cap
 .rw[g0 d];refine aj.bind (ia m F ?_);rcases A.head with⟨p1,p2,p3⟩|⟨b,rest,p1,p2,p3,p4⟩
  .rw[p1];have B:l2=[]:=qU i6;subst B;refine aj.pure' ⟨⟨eH,s.len+v.len,s.cap⟩,i5,E _ _ ⟨?_,.inl ⟨i5,p2,by simp[p3]⟩⟩ (aS.refl _ _) ?_⟩
   .simp;omega
   .rintro S ⟨o,g⟩;cases g
  .rw[p1];refine aj.bind ?_;rw[add_eq,wo];have j:=dX m l;have a:=dX m l2;have D:i4 (l2.flatMap f)<=i4 rest:=by rw[a,p3];exact zi k i6
   refine fY (e:=e) (pre:=l.flatMap f) (old:=rest.take (l2.flatMap f).length) (post:=rest.drop (l2.flatMap f).length) ?_ ?_ ?_ ?_ ?_
   .rw[qm,qy];exact p2
   .rw[qH];exact wM D
   .rw[j,q];omega
   .intro c hc;obtain⟨x,_,G⟩:=zM.1 hc;exact r x c G
   .refine aj.pure' ⟨⟨dB ⟨b,0,eH⟩,s.len+v.len,s.cap⟩,i5,E _ _ ⟨?_,.inr ⟨b,rest.drop (l2.flatMap f).length,i5,?_,?_,d⟩⟩ ?_ ?_⟩
    .simp;omega
    .rw[iX p2,g0 rfl];simp
    .rw[q9,p3,a,<-Nat.sub_mul];show(s.cap-s.len-i4 l2)*k=(s.cap-(s.len+v.len))*k;congr 1;omega
    .exact aS.jk p2 (λX=>X ⟨0,p1⟩)
    .rintro S ⟨o,g⟩;cases g;exact .inl ⟨0,p1⟩
 .rw[g9 d];have n:Seq h (λ_=>True) s k f l:=A.seq m λ_ _=>trivial;have R:=A.cap;refine aj.bind (aj.always (dj y) ?_);rw[g9 λhh=>by rcases hh.2 with h|h<;>first|exact h|(rw[x3]at h;omega)];refine aj.bind (aj.always (dj y) ?_);have Z:=TL (s.len+v.len) s.cap;rw[g9 (by
   have:vo (s.len+v.len) s.cap*M.bytes<=(16*2^32+16*768)*128:=zK i6 (by rw[x3];exact H.2);omega)]
  refine aj.bind (aj.KE ⟨λhf=>(by cases hf),λ_ nn=>?_⟩);refine aj.bind (aj.always (dj y) ?_);refine aj.bind (aj.Hr ?_);refine aj.bind (ia m n ?_);refine aj.bind (ia m F ?_);have Q:aH C.P (zeroValue e) zv:=(dj y).bind (by rw[x4];exact .pure);refine aj.bind (aj.always Q ?_);rw[V,El];unfold newRow;refine aj.bind (aj.bind (aj.nO (aj.pure' (aj.pure' ?_))));generalize J:Question.cut (Question.appendCap (s.len+v.len) s.cap e) nn=cc;have u:s.len+v.len<=cc:=by rw[<-J];simp only[Question.cut];omega
  refine⟨⟨dB ⟨h.size,0,eH⟩,s.len+v.len,cc⟩,i5,E _ _ ⟨?_,.inr ⟨h.size,jl z (cc-(s.len+v.len)),i5,?_,?_,u⟩⟩ (aS.push _ _ _) ?_⟩
  .simp;omega
  .simp
  .rw[oR,Y]
  .rintro S ⟨o,g⟩;cases g;exact .inr (qi _)
end
structure bN (h:f9) (a:f7) (e:TypeId) (cs:aW):Prop where
 off:a.off=0
 spot:a.spot=eH
 fy:h[a.block]?=dB (.cells cs.toArray e (0,0))
variable {a:f7} {cs:aW}
theorem bN.addr(c:bN h a e cs):a=⟨a.block,0,eH⟩:=by
 obtain⟨b,o,s⟩:=a;have:=c.off;have:=c.spot
 simp_all
theorem bN.ac(b:bN h a e cs)(c:aS p h h')(d:p a.block):bN h' a e cs:=⟨b.off,b.spot,c.block d b.fy⟩
theorem bN.lt(b:bN h a e cs):a.block<h.size:=lt_of_block b.fy
theorem bN.cell(b:bN h a e cs){j:Nat}{v:fz}(c:cs[j]?=dB v):f8 h (a.add j)=dB v:=by
 rw[b.addr,add_eq,CG b.fy]
 grind
theorem bN.cell0(b:bN h a e cs){v:fz}(c:cs[0]?=dB v):f8 h a=dB v:=b.cell (j:=0) c
theorem bN.cells(c:bN h a e cs)(j:Nat)(vs:aW)(d:(cs.drop j).take vs.length=vs):bt h (a.add j) 0 vs:=by
 rw[c.addr,add_eq,];have b:i4 vs<=i4 (cs.drop j):=j1
 rcases Nat.lt_or_ge cs.length j with hj|hj
 .rw[q9]at b;have:vs=[]:=qU i6;subst this;trivial
 .refine sH (e:=e) (fr:=(0,0)) (pre:=cs.take j) (post:=(cs.drop j).drop vs.length) ?_ j1;have:cs.take j++vs++(cs.drop j).drop vs.length=cs:=by
   conv=>lhs;rw[qm];arg 2;arg 1;rw[<-d]
   rw[qy,qy]
  rw[this];exact c.fy
theorem bN.aE(b:bN h a e cs)(vs:aW)(c:cs.take vs.length=vs):bt h a 0 vs:=b.cells 0 vs c
variable {i:TI}
section
variable {C:Ctx}
theorem AN(d:C.Ok)(f:C.T.get t=dB i){K:f7->f9->Prop}(e:∀a h',a.block=h.size->bN h' a t i.zero->aS (λ_=>True) h h'->h'.size=h.size+1->K a h'):
  un C.P (yR t eS (.tuple #[])) h K:=by
 obtain⟨z,c,b⟩:=sE d.toOk f;refine aj.bind (aj.always c ?_);refine aj.bind (aj.bind (aj.bind (aj.nO (aj.pure' (aj.pure' (aj.pure' ?_))))));refine⟨⟨h.size,0,eH⟩,i5,e _ _ i5 ⟨i5,i5,?_⟩ (aS.push _ _ _) js⟩;rw[<-b];simp
theorem TM{v:fz}{P:Program}{K:f7->f9->Prop}(b:∀a h',a.block=h.size->bN h' a t v.cells.toList->aS (λ_=>True) h h'->h'.size=h.size+1->K a h'):
  un P (vU t v) h K:=by
 refine aj.bind (aj.bind (aj.bind (aj.nO (aj.pure' (aj.pure' (aj.pure' ?_))))));refine⟨⟨h.size,0,eH⟩,i5,b _ _ i5 ⟨i5,i5,?_⟩ (aS.push _ _ _) js⟩;simp
theorem run_store(l:C.Ok){a:f7}{e:TypeId}{b:aW}(c:bN h a e b)(m:C.T.get t=dB i)(off:Nat){v:fz}(vs:aW)(j:v.cells=vs.toArray)(d:i.size=i4 vs)
  (f:vs.all (·.oneCell')=eS) (g:off+i4 vs<=i4 b) {K:Unit->f9->Prop}
  (n:∀h',bN h' a e (b.take off++vs++b.drop (off+i4 vs))->aS (·≠a.block) h h'->h'.size=h.size->K () h'):
  aj C.P (qF t (.pointer (dB (a.add off))) v) h K:=by
 have k:=c.addr;refine aj.bind (aj.pure' ?_);refine aj.bind (aj.always (eV l.toOk m) ?_);rw[j,d];simp only[yT,ne_eq,];rw[k,add_eq,];refine fY (e:=e) (pre:=b.take off) (old:=(b.drop off).take vs.length) (post:=b.drop (off+i4 vs)) ?_ ?_ ?_ ?_ ?_
 .have:b.take off++(b.drop off).take vs.length++b.drop (off+i4 vs)=b:=by rw[<-zD,qm,qy,qy]
  rw[this];exact c.fy
 .grind
 .grind
 .grind
 .refine n _ ⟨c.off,c.spot,?_⟩ (aS.jk c.fy js) (by simp[jk]);rw[iX c.fy,g0 rfl]
theorem uq(j:C.Ok){a:f7}{e:TypeId}{c:aW}(k:bN h a e c)(l:C.T.get t=dB i){v:fz}(vs:aW)(g:v.cells=vs.toArray)(d:i.size=i4 vs)
  (b:vs.all (·.oneCell')=eS) (f:i4 vs<=i4 c) {K:Unit->f9->Prop}
  (m:∀h',bN h' a e (vs++c.drop vs.length)->aS (·≠a.block) h h'->h'.size=h.size->K () h'):
  aj C.P (qF t (.pointer (dB a)) v) h K:=
 run_store j k l 0 vs g d b i6 (λh' x y z=>m h' j1 y z)
end
section
variable {C:Ctx} {e:Nat}
theorem Em{b:α}(a:f b=z):∀n,jl z n=(qf n b).flatMap f
 |0=>rfl
 |n+1=>by rw[jl,List.replicate_succ,zg,a,Em a n]
theorem af(x:Int)(b:-9223372036854775808<=x:=by omega)(a:x<=9223372036854775807:=by omega):qd ka x=x:=by
 show(if(eS&&decide (x%2^64>=2^63))=eS then x%2^64-2^64 else x%2^64)=x
 grind
theorem run_make(j:C.Ok)(r:bV C.toBX t e k z by_)(p:0<by_/\by_<=128)(l:α)(A:f l=z)(d:i4 z=k){I M:IntKind}{n c:Int}(m b:Nat)(F:n=m)(G:c=b)(q:m<=b)(o:b<=2^32)
  {K:Sl->f9->Prop} (H:∀i h',Own h' e i k f (qf m l)->i.ptr=dB ⟨h.size,0,eH⟩->i.cap=b->aS (λ_=>True) h h'->h'.size=h.size+1->K i h'):
  bI C.P (zx t (.int I n) (.int M c)) (.one (.sc .slc)) h K:=by
 subst F;subst G;obtain⟨u,y,x2,x3,J,N,D⟩:=r.info j;refine aj.bind (aj.always (aF (r.under j)) ?_);refine aj.bind (aj.pure' ?_);refine aj.bind (aj.pure' ?_);refine aj.bind (aj.always (dj y) ?_);have L:qd ka (m)=m:=af _;have E:qd ka (b)=b:=af _;have O:¬((u.bytes)*(b)>2^48):=by
  have:by_*b<=128*2^32:=zK p.2 o
  grind
 simp only[L,E];rw[g9 j1];refine aj.bind (aj.Hr ?_);refine aj.bind (aj.always (r.size j) ?_);have w:aH C.P (zeroValue e) J:=(dj y).bind (by rw[N];exact .pure);have fin:∀g:Array fz,(b*k≠0->g=z.toArray)->aj C.P (do
   let a<-newRow e ((xM (b*k)).map (g[·%g.size]!))
   pure (Value.slice (dB a) m b)) h (λv h'=>∃x:(Rt.one (.sc .slc)).den,v=(Rt.one (.sc .slc)).enc x/\K x h'):=by
  intro g s;have B:((xM (b*k)).map (g[·%g.size]!))=(jl z b).toArray:=by
   by_cases h0:b*k=0
   .rw[];have:jl z b=[]:=qU (by rw[oR,d,h0])
    grind
   .rw[s h0];exact OD z b _ (by rw[d])
  rw[];refine aj.bind (aj.bind (aj.nO (aj.pure' (aj.pure' ?_))));refine⟨⟨dB ⟨h.size,0,eH⟩,m,b⟩,i5,H _ _ ⟨js,.inr ⟨h.size,jl z (b-m),i5,?_,?_,q⟩⟩ i5 i5 (aS.push _ _ _) js⟩
  .have:jl z b=(qf m l).flatMap f++jl z (b-m):=by
    rw[Em A,Em A,<-zb,List.replicate_append_replicate]
    grind
   grind
  .rw[oR,d]
 simp only[qj];by_cases h0:b*k=0
 .rw[g0 h0];exact aj.bind (aj.pure' (fin _ λh=>absurd h0 h))
 .rw[g9 h0];refine aj.bind (aj.always w ?_);exact aj.bind (aj.pure' (fin _ λ_=>D))
theorem KM(j:C.Ok)(m:bV C.toBX t e k z by_)(d:i4 z=k){n:Nat}{parts:Array (Nat×fz)}(l:List α)(u:i4 l=n)(A:n*k<=2^20)
  (b:wB (λi=>dB (i*k,k)) (jl z n).toArray parts.toList=dB (l.flatMap f).toArray) {K:Sl->f9->Prop}
  (w:∀p h',Own h' e p k f l->p.ptr=dB ⟨h.size,0,eH⟩->aS (λ_=>True) h h'->h'.size=h.size+1->K p h'):
  bI C.P (zE t n parts) (.one (.sc .slc)) h K:=by
 obtain⟨B,s,x2,x3,y,D,r⟩:=m.info j;unfold bI zE;refine aj.bind (aj.always (aF (m.under j)) ?_);refine aj.bind (aj.always (m.size j) ?_);rw[g9 i6];have q:aH C.P (zeroValue e) y:=(dj s).bind (by rw[D];exact .pure);have fin:∀c:Array fz,(n*k≠0->c=z.toArray)->aj C.P (do
   let dB cells:=wB (λi=>dB (i*k,k)) ((xM (n*k)).map (c[·%c.size]!)) parts.toList
    |stuck "buildSlice: a part of the wrong size"
   pure (Value.slice (dB (<-newRow e cells)) n n)) h (λv h'=>∃x:(Rt.one (.sc .slc)).den,v=(Rt.one (.sc .slc)).enc x/\K x h'):=by
  intro c o;have g:((xM (n*k)).map (c[·%c.size]!))=(jl z n).toArray:=by
   by_cases h0:n*k=0
   .rw[h0];have:jl z n=[]:=qU (by rw[oR,d,h0]);rw[this];simp
   .rw[o h0];exact OD z n _ (by rw[d])
  rw[g,b];refine aj.bind (aj.bind (aj.nO (aj.pure' (aj.pure' ?_))));refine⟨⟨dB ⟨h.size,0,eH⟩,n,n⟩,i5,w _ _ ⟨u.symm,.inr ⟨h.size,[],i5,js,js,qi _⟩⟩ i5 (aS.push _ _ _) js⟩
 by_cases h0:n*k=0
 .rw[g0 h0];exact aj.bind (aj.pure' (fin _ λh=>absurd h0 h))
 .rw[g9 h0];refine aj.bind (aj.always q ?_);exact aj.bind (aj.pure' (fin _ λ_=>r))
theorem Own.set{i:TI}(z:C.Ok)(q:Own h e s k f l)(p:∀x,i4 (f x)=k)(G:C.T.get t=dB i){x:Int}(n:Nat)(F:x=n)(r:n<i4 l){o:fz}(y:α)(D:o.cells=(f y).toArray)(v:i.size=k)
  (j:(f y).all (·.oneCell')=eS) {K:f9->Prop} (B:∀h',Own h' e s k f (l.set n y)->aS (λb=>¬s.on b) h h'->h'.size=h.size->K h'):
  ∃a:f7,(s.ptr=dB a/\0<=x/\x<((s.len:Nat):Int))/\aj C.P (qF t (.pointer (dB (a.add (x.toNat*k)))) o) h λ_ h'=>K h':=by
 subst F;rcases q.head with⟨_,_,h3⟩|⟨b,rest,h1,h2,h3,h4⟩
 .subst h3;simp at r
 .refine⟨_,⟨h1,i6,by rw[q.len];omega⟩,?_⟩;unfold qF;refine aj.bind (aj.pure' ?_);unfold storeVar;refine aj.bind (aj.always (eV z.toOk G) ?_);rw[D,v];have u:=p y;simp only[yT,u,ne_eq,not_true,if_false];rw[add_eq,wo,qj];have d:l=l.take n++l[n]::l.drop (n+1):=by rw[<-qJ r,qy]
  have g:l.set n y=l.take n++y::l.drop (n+1):=w9.trans (g0 r);have m:i4 ((l.take n).flatMap f)=n*k:=by rw[dX p,qH,wM i6]
  refine fY (e:=e) (pre:=(l.take n).flatMap f) (old:=f l[n]) (post:=(l.drop (n+1)).flatMap f++rest) ?_ ?_ ?_ ?_ ?_
  .have:l.flatMap f++rest=(l.take n).flatMap f++f l[n]++((l.drop (n+1)).flatMap f++rest):=by have w:=congrArg (List.flatMap f) d;rw[zb,zg]at w;rw[w];simp
   rw[<-this];exact h2
  .rw[p,p]
  .rw[m];omega
  .intro c A;have:=qS.1 j c A;exact this
  .refine B _ ⟨by rw[zf];exact q.len,.inr ⟨b,rest,h1,?_,h3,h4⟩⟩ (aS.jk h2 λE=>E ⟨0,h1⟩) (by simp[jk]);rw[iX h2,g0 i5,g];simp
end
def grow(c:Nat->Nat)(n i:Nat):Nat->Nat:=λb=>if b<n then c b else i
theorem hJ{c:Nat->Nat}{n i b:Nat}(h:b<n):grow c n i b=c b:=g0 h
theorem rT{c:Nat->Nat}{n i b:Nat}(h:n<=b:=by omega):grow c n i b=i:=g9 i6
structure ez {α:Type} (h:f9) (c:Nat->Nat) (i:Nat) (e:TypeId) (s:Sl) (k:Nat) (f:α->aW) (l:List α):Prop where
 own:Own h e s k f l
 bg:∀b,s.on b->c b=i
structure lx (h:f9) (c:Nat->Nat) (i:Nat) (a:f7) (e:TypeId) (cs:aW):Prop where
 box:bN h a e cs
 bg:c a.block=i
structure nc (h0 h:f9) (c:Nat->Nat):Prop where
 ac:aS (λb=>b<h0.size) h0 h
 bg:∀b,b<h0.size->c b=0
variable {h0:f9} {c:Nat->Nat} {j n m:Nat}
section
variable {i:Nat}
theorem ez.keep(a:ez h c j e s k f l)(n:aS (λb=>c b≠i) h h')(g:j≠i):ez h' (grow c h.size m) j e s k f l:=
 ⟨a.own.ac n λb d=>by rw[a.bg b d];exact g,λb d=>by rw[hJ (a.own.lt d)];exact a.bg b d⟩
theorem lx.keep(d:lx h c j a e cs)(g:aS (λb=>c b≠i) h h')(f:j≠i):lx h' (grow c h.size m) j a e cs:=
 ⟨d.box.ac g (by rw[d.bg];exact f),by rw[hJ d.box.lt];exact d.bg⟩
theorem nc.keep(a:nc h0 h c)(e:aS (λb=>c b≠i) h h')(f:i≠0):nc h0 h' (grow c h.size m):=
 ⟨a.ac.then e λb d _=>by rw[a.bg b d];omega,λb d=>by rw[hJ (qT d a.ac.1)];exact a.bg b d⟩
theorem nc.refl(h:f9):nc h h (λ_=>0):=⟨aS.refl _ _,λ_ _=>rfl⟩
theorem ez.seq(a:ez h c j e s k f l)(d:∀x,i4 (f x)=k):Seq h (λb=>c b=j) s k f l:=a.own.seq d a.bg
theorem ez.Vd(a:ez h c j e s k f l)(d:∀x,i4 (f x)=k):Seq h (λb=>b<h.size) s k f l:=a.own.seq d λ_ g=>a.own.lt g
theorem ez.nil(h:f9)(c:Nat->Nat)(i:Nat)(e:TypeId)(k:Nat)(f:α->aW):ez h c i e ⟨eH,0,0⟩ k f []:=⟨Own.nil h e k f,λb d=>by obtain⟨o,a⟩:=d;cases a⟩
theorem aS.bg(a:aS (λ_=>True) h h')(c:Nat->Nat)(i:Nat):aS (λb=>c b≠i) h h':=a.mono λ_ _ _=>trivial
end
variable {ti:TI}
section
variable {C:Ctx} {i e:Nat}
theorem ur(d:C.Ok)(_:nc h0 h c)(i:Nat)(f:C.T.get t=dB ti){K:f7->f9->Prop}(e:∀a h',lx h' (grow c h.size i) i a t ti.zero->aS (λb=>c b≠i) h h'->K a h'):
  un C.P (yR t eS (.tuple #[])) h K:=
 AN d f λa h' x y z _=>e a h' ⟨y,by rw[rT]⟩ (z.bg c i)
theorem OE(P:Program)(_:nc h0 h c)(i:Nat){v:fz}{K:f7->f9->Prop}(d:∀a h',lx h' (grow c h.size i) i a t v.cells.toList->aS (λb=>c b≠i) h h'->K a h'):
  un P (vU t v) h K:=
 TM λa h' x y z _=>d a h' ⟨y,by rw[rT]⟩ (z.bg c i)
theorem lx.store(m:C.Ok)(g:lx h c i a e cs)(p:C.T.get t=dB ti)(off:Nat){v:fz}(vs:aW)(o:v.cells=vs.toArray)(k:ti.size=i4 vs)
  (d:vs.all (·.oneCell')=eS) (f:off+i4 vs<=i4 cs) {K:Unit->f9->Prop}
  (n:∀h',lx h' (grow c h.size i) i a e (cs.take off++vs++cs.drop (off+i4 vs))->aS (λb=>c b≠i) h h'->K () h'):
  aj C.P (qF t (.pointer (dB (a.add off))) v) h K:=
 run_store m g.box p off vs o k d f λh' x y z=>n h' ⟨x,by rw[hJ g.box.lt];exact g.bg⟩ (y.mono λb _ j l=>j (by rw[l];exact g.bg))
theorem lx.fM(j:C.Ok)(k:lx h c i a e cs)(n:C.T.get t=dB ti){v:fz}(vs:aW)(m:v.cells=vs.toArray)(f:ti.size=i4 vs)
  (d:vs.all (·.oneCell')=eS) (g:i4 vs<=i4 cs) {K:Unit->f9->Prop}
  (l:∀h',lx h' (grow c h.size i) i a e (vs++cs.drop vs.length)->aS (λb=>c b≠i) h h'->K () h'):
  aj C.P (qF t (.pointer (dB a)) v) h K:=
 k.store j n 0 vs m f d i6 (λh' x y=>l h' j1 y)
theorem AO(r:C.Ok)(_:nc h0 h c)(i:Nat)(f:α->aW)(D:bV C.toBX t e k z by_)(j:0<by_/\by_<=128)(d:α)(u:f d=z)(l:i4 z=k){A E:IntKind}{n p:Int}(m:Nat)(s:n=m)(v:p=m)(g:m<=2^32)
  {K:Sl->f9->Prop} (w:∀a h',ez h' (grow c h.size i) i e a k f (qf m d)->aS (λb=>c b≠i) h h'->K a h'):
  bI C.P (zx t (.int A n) (.int E p)) (.one (.sc .slc)) h K:=
 run_make r D j d u l m m s v (qi _) g λa h' x y _ z _=>w a h' ⟨x,λb B=>by obtain⟨o,q⟩:=B;rw[y]at q;cases q;rw[rT (qi _)]⟩ (z.bg c i)
theorem HB(p:C.Ok)(_:nc h0 h c)(i:Nat)(f:α->aW)(u:bV C.toBX t e k z by_)(g:i4 z=k){n:Nat}{parts:Array (Nat×fz)}(l:List α)(q:i4 l=n)(j:n*k<=2^20)
  (a:wB (λi=>dB (i*k,k)) (jl z n).toArray parts.toList=dB (l.flatMap f).toArray) {K:Sl->f9->Prop}
  (r:∀d h',ez h' (grow c h.size i) i e d k f l->aS (λb=>c b≠i) h h'->K d h'):
  bI C.P (zE t n parts) (.one (.sc .slc)) h K:=
 KM p u g l q j a λd h' x y z _=>r d h' ⟨x,λb s=>by obtain⟨o,m⟩:=s;rw[y]at m;cases m;rw[rT (qi _)]⟩ (z.bg c i)
theorem ez.append(q:C.Ok)(d:ez h c i e s k f l)(E:bV C.toBX t e k z by_)(j:∃i e2,C.T.get t2=dB i/\i.cv=.slice e2)(r:i4 z=k)(n:0<by_/\by_<=128)(u:∀x,i4 (f x)=k)
  (B:Seq h p v k f l2) (a:∀x,∀c∈f x,c.oneCell'=eS) (o:i4 l+i4 l2<=2^32) {ty:Nat} {K:Sl->f9->Prop}
  (A:∀g h',ez h' (grow c h.size i) i e g k f (l++l2)->aS (λb=>c b≠i) h h'->K g h'):
  bI C.P (zo #[t,t2] ty #[.slice s.ptr s.len s.cap,.slice v.ptr v.len v.cap]) (.one (.sc .slc)) h K:=
 Vb q E j r n u d.own B a o λg h' x y w=>A g h' ⟨x,λb D=>by
  rcases w b D with w|w
  .rw[hJ (d.own.lt w)];exact d.bg b w
  .exact rT w⟩ (y.mono λb _ m j=>m (d.bg b j))
theorem ez.set(r:C.Ok)(j:ez h c i e s k f l)(v:∀x,i4 (f x)=k)(E:C.T.get t=dB ti){x:Int}(n:Nat)(D:x=n)(u:n<i4 l){g:fz}(y:α)(B:g.cells=(f y).toArray)(o:ti.size=k)
  (d:(f y).all (·.oneCell')=eS) {K:f9->Prop} (A:∀h',ez h' (grow c h.size i) i e s k f (l.set n y)->aS (λb=>c b≠i) h h'->K h'):
  ∃a:f7,(s.ptr=dB a/\0<=x/\x<((s.len:Nat):Int))/\aj C.P (qF t (.pointer (dB (a.add (x.toNat*k)))) g) h λ_ h'=>K h':=
 j.own.set r v E n D u y B o d λh' z w _=>A h' ⟨z,λb p=>by rw[hJ (j.own.lt p)];exact j.bg b p⟩ (w.mono λb _ m q=>m (j.bg b q))
end
section
variable {C:Ctx} {i e:Nat}
theorem grow_grow{c:Nat->Nat}{n m i:Nat}(h:n<=m):grow (grow c n i) m i=grow c n i:=by
 unfold grow
 grind
theorem aS.step(a:aS (λb=>c b≠i) h h'){d:f9}(b:aS (λb=>grow c h.size i b≠i) h' d):aS (λb=>c b≠i) h d:=
 a.then b λx e f=>by rw[hJ e];exact f
theorem ez.push(E:C.Ok)(q:ez h c i e s k f l)(A:bV C.toBX t e k z by_)(F:i4 z=k)(y:0<by_/\by_<=128)(G:∀x,i4 (f x)=k)
  (j:∀x,∀c∈f x,c.oneCell'=eS) (x:α) {parts:Array (Nat×fz)} (a:wB (λi=>dB (i*k,k)) (jl z 1).toArray parts.toList=dB ([x].flatMap f).toArray)
  (w:1*k<=2^20) (D:i4 l+1<=2^32) {ty:Nat} {K:Sl->f9->Prop}
  (M:∀n h',ez h' (grow c h.size i) i e n k f (l++[x])->aS (λb=>c b≠i) h h'->K n h'):
  bI C.P (zE t 1 parts) (.one (.sc .slc)) h λv g=>bI C.P (zo #[t,t] ty #[.slice s.ptr s.len s.cap,.slice v.ptr v.len v.cap]) (.one (.sc .slc)) g K:=by
 refine KM E A F [x] i5 w a λv g N O B _=>?_;have u:aS (λb=>c b≠i) h g:=B.bg c i;have r:ez g (grow c h.size i) i e s k f l:=⟨q.own.ac B λ_ _=>trivial,λb H=>by rw[hJ (q.own.lt H)];exact q.bg b H⟩
 have d:h.size<=g.size:=B.1;obtain⟨I,Q,L,x2,_⟩:=A.ex;refine r.append E A ⟨I,e,L,x2⟩ F y G (N.seq (p:=λ_=>True) G λ_ _=>trivial) j D λn J m o=>?_;rw[grow_grow d]at m;exact M n J m (u.step o)
structure ajT (h:f9) (c:Nat->Nat) (top lo:Nat) (e:TypeId) (s:Sl) (k:Nat) (f:α->aW) (ll:List (List α)) (rs:List Sl):Prop where
 own:ez h c top e s 1 bx rs
 len:i4 rs=i4 ll
 row:∀(i:Nat) r l,rs[i]?=dB r->ll[i]?=dB l->Seq h (λb=>b<h.size/\lo<=c b/\c b<lo+i4 ll) r k f l
theorem jN:∀x,∀c∈bx x,c.oneCell'=eS:=by intro x c a;simp only[bx,qw]at a;subst a;rfl
end
structure ajU {α:Type} (h:f9) (r:Nat) (g:α->fz) (kvs:List (Int×α)):Prop where
 ex:∃es clock,h[r]?=dB (.map es clock)/\es.toList.map (λe=>(e.key,e.val))=kvs.map (λp=>(Value.int .i64 p.1,g p.2))
variable {P:Program} {r:Nat} {g:α->fz} {kvs:List (Int×α)}
theorem OF{a:TypeId}{k:IntKind}{x:Int}{b:Bool}(c:P.underlying a=dB (.int k))(n:Nat):aH P (vX b (n+1) a (.int k x)) ():=by unfold vX;exact(aF c).bind .pure
theorem HC(x n:Int)(b:0<n:=by decide):x%n=if x.tmod n<0 then x.tmod n+n else x.tmod n:=by
 have c:=vf x b;have d:-n<x.tmod n:=Int.lt_tmod_of_pos x b;have e:=Int.tmod_add_mul_tdiv x n;have a:0<=(if x.tmod n<0 then x.tmod n+n else x.tmod n)/\(if x.tmod n<0 then x.tmod n+n else x.tmod n)<n:=j1
 have e2:x=(if x.tmod n<0 then x.tmod n+n else x.tmod n)+n*(if x.tmod n<0 then x.tdiv n-1 else x.tdiv n):=j1
 conv=>lhs;rw[e2]
 rw[Int.add_mul_emod_self_left];exact Int.emod_eq_of_lt a.1 a.2
theorem aG{α:Type}(l:List α)(k:Nat)(h:k<i4 l:=by omega):l.take (k+1)=l.take k++[l[k]]:=zl h
theorem eZ:∀x,∀c∈az x,c.oneCell'=eS:=by intro x c a;simp only[az,qw]at a;subst a;rfl
theorem ib:∀x,∀c∈aB x,c.oneCell'=eS:=by intro x c a;simp only[aB,qw]at a;subst a;rfl
theorem up{h c d:f9}(a:aS (λb=>b<h.size) h c)(b:aS (λb=>b<c.size) c d):aS (λb=>b<h.size) h d:=
 a.then b λ_ e _=>qT e a.1
theorem any{h c:f9}(a:aS (λ_=>True) h c):aS (λb=>b<h.size) h c:=a.mono λ_ _ _=>trivial
theorem Seq.up{α:Type}{h h':f9}{s:Sl}{k:Nat}{f:α->aW}{l:List α}(d:Seq h (λb=>b<h.size) s k f l)(a:aS (λb=>b<h.size) h h'):Seq h' (λb=>b<h'.size) s k f l:=
 (d.ac a).mono λ_ c=>qT c a.1
theorem iP.up{α:Type}{h h':f9}{s:Sl}{k:Nat}{f:α->aW}{l:List (List α)}{rs:List Sl}(d:iP h (λb=>b<h.size) s k f l rs)(a:aS (λb=>b<h.size) h h'):iP h' (λb=>b<h'.size) s k f l rs:=
 (d.ac a).mono λ_ c=>qT c a.1
theorem Seq.drop{α:Type}{h:f9}{p:aw}{s:Sl}{w:Nat}{f:α->aW}{l:List α}(c:Seq h p s w f l)(k:Nat)(j:s.len<=s.cap):
  Seq h p ⟨if s.cap=k then s.ptr else s.ptr.map (·.add (k*w)),s.len-k,s.cap-k⟩ w f (l.drop k):=by
 have m:=c.len;refine⟨j1,λi x a=>?_⟩;rw[wZ]at a;obtain⟨b,o,e,d,h3⟩:=c.elem _ x a;have g:=(ql.1 a).1;refine⟨b,o+k*w,?_,d,?_⟩
 .rw[g9 i6,e,qW,add_eq]
 grind
theorem Seq.take{α:Type}{h:f9}{p:aw}{s:Sl}{w:Nat}{f:α->aW}{l:List α}(b:Seq h p s w f l)(k:Nat)(c:k<=i4 l):
  Seq h p ⟨s.ptr,k,s.cap⟩ w f (l.take k):=by
 refine⟨j1,λi x a=>?_⟩;rw[List.getElem?_take]at a;split at a
 .exact b.elem i x a
 grind
theorem getD_lt{α:Type}{l:List α}{d:α}{i:Nat}(h:i<i4 l:=by omega):l.getD i d=l[i]:=j1
structure HP where
 p:f9->aw->Prop
 loc:∀{h h':f9} {q:aw},p h q->aS q h h'->p h' q
 mono:∀{h:f9} {q q':aw},p h q->(∀b,q b->q' b)->p h q'
def emp:HP:=⟨λ_ _=>True,λ_ _=>trivial,λ_ _=>trivial⟩
def aq{α:Type}(e:TypeId)(s:Sl)(k:Nat)(f:α->aW)(l:List α):HP:=
 ⟨λh q=>Own h e s k f l/\∀b,s.on b->q b,λa c=>⟨a.1.ac c a.2,a.2⟩,λa g=>⟨a.1,λb d=>g b (a.2 b d)⟩⟩
def ak(a:f7)(e:TypeId)(b:aW):HP:=
 ⟨λh q=>bN h a e b/\q a.block,λx c=>⟨x.1.ac c x.2,x.2⟩,λx d=>⟨x.1,d _ x.2⟩⟩
def tO{α:Type}(s:Sl)(k:Nat)(f:α->aW)(l:List α):HP:=
 ⟨λh q=>Seq h q s k f l,λa b=>a.ac b,λa c=>a.mono c⟩
def fB{α:Type}(e:TypeId)(s:Sl)(k:Nat)(f:α->aW)(m:List (List α)):HP:=
 ⟨λh q=>∃(rs:List Sl) (j:aw),Own h e s 1 bx rs/\(∀b,s.on b->q b/\¬j b)/\(∀b,j b->q b)/\rs.length=i4 m/\∀(i:Nat) r l,rs[i]?=dB r->m[i]?=dB l->Seq h j r k f l,
  λ⟨rs,j,a,b,c,d,e⟩ hp=>⟨rs,j,a.ac hp λx g=>(b x g).1,b,c,d,λi r l o n=>(e i r l o n).ac (hp.mono λx _ g=>c x g)⟩,
  λ⟨rs,j,a,b,c,d,e⟩ hq=>⟨rs,j,a,λx g=>⟨hq x (b x g).1,(b x g).2⟩,λx g=>hq x (c x g),d,e⟩⟩
structure aa (B:aw) (h0 h:f9) (As:List HP):Prop where
 low:∀b,B b->b<h0.size
 ac:aS B h0 h
 ex:∃c:Nat->Nat,(∀b,B b->c b=0)/\∀(i:Nat) (A:HP),As[i]?=dB A->A.p h (λb=>b<h.size/\c b=i+1)
abbrev Sp(h0 h:f9)(As:List HP):Prop:=aa (λb=>b<h0.size) h0 h As
variable {As:List HP} {A2 D:HP}
section
variable {B:aw} {Bs:List HP} {A:HP} {i:Nat}
theorem Sp.refl(h:f9):Sp h h []:=⟨λ_ h=>h,aS.refl _ _,λ_=>0,λ_ _=>rfl,λi A a=>j1⟩
theorem aa.at(H:aa B h0 h As)(i:Nat)(e:As[i]?=dB A):A.p h (λb=>b<h.size):=by obtain⟨c,_,a⟩:=H.ex;exact A.mono (a i A e) λ_ d=>d.1
theorem aa.fin(H:aa B h0 h As)(i:Nat)(f:As[i]?=dB A):A.p h (λb=>¬B b/\b<h.size):=by obtain⟨c,g,d⟩:=H.ex;exact A.mono (d i A f) λb e=>⟨λa=>j1,e.1⟩
theorem Sp.fresh(H:Sp h0 h As)(i:Nat)(c:As[i]?=dB A):A.p h (λb=>h0.size<=b/\b<h.size):=
 A.mono (aa.fin H i c) λb a=>⟨i6,a.2⟩
theorem aa.comp(H:aa B h0 h As)(R:Sp h h' Bs):aa B h0 h' (As++Bs):=by
 obtain⟨k,g,m,o,j⟩:=H;obtain⟨_,e,f,p,l⟩:=R;have d:=g.1;refine⟨k,g.then e λb a _=>qT a d,λb=>if b<h.size then m b else if f b=0 then 0 else As.length+f b,λb a=>?_,λi A c=>?_⟩
 .grind
 .by_cases n:i<i4 As
  .rw[qq n]at c;refine A.mono (A.loc (j i A c) (e.mono λb _ a=>a.1)) λb a=>⟨qT a.1 e.1,?_⟩
   grind
  .rw[qk i6]at c;refine A.mono (l _ A c) λb a=>⟨a.1,?_⟩
   grind
theorem aa.up(H:aa B h0 h As)(R:aS (λb=>b<h.size) h h'):aa B h0 h' As:=by
 have:=H.comp (Bs:=[]) ⟨λ_ h=>h,R,λ_=>0,λ_ _=>rfl,λi A a=>j1⟩
 grind
theorem Sp.one(R:aS (λb=>b<h.size) h h')(c:A.p h' λb=>h.size<=b/\b<h'.size):Sp h h' [A]:=by
 refine⟨λ_ h=>h,R,λb=>if b<h.size then 0 else 1,λb a=>g0 a,λi A2 d=>?_⟩
 grind
theorem Sp.zip(R:aS (λb=>b<h.size) h h'):Sp h h' []:=aa.up (Sp.refl h) R
theorem aa.enter(q:aw)(c:Nat->Nat)(f:∀b,q b->b<h.size)(a:∀(i:Nat) (A:HP),As[i]?=dB A->A.p h λb=>q b/\c b=i+1):aa (λb=>b<h.size/\¬q b) h h As:=by
 classical
 refine⟨λb d=>d.1,aS.refl _ _,λb=>if q b then c b else 0,λb d=>g9 d.2,λi A e=>A.mono (a i A e) λb d=>⟨f b d.1,?_⟩⟩
 grind
theorem aa.OG(q:aw)(c:∀b,q b->b<h.size)(a:A.p h q):aa (λb=>b<h.size/\¬q b) h h [A]:=
 .enter q (λ_=>1) c λi A2 d=>by
  cases i with
  |succ i=>grind
  |zero=>grind
theorem aa.CI(l:∀b,B b->b<h0.size)(f:aS B h0 h)(z:∀b,B b->c b=0)(a:∀(i:Nat) (A:HP),As[i]?=dB A->A.p h λb=>b<h.size/\c b=i+1)
  (g:aS (λb=>¬(b<h.size/\c b=i+1)) h h') (m:D.p h' λb=>b<h'.size/\((b<h.size/\c b=i+1)∨h.size<=b)):aa B h0 h' (As.set i D):=by
 refine⟨l,f.then g λb _ d n=>j1,grow c h.size (i+1),λb d=>?_,λj A e=>?_⟩
 .rw[hJ (qT (l b d) f.1)];grind
 .rw[qV]at e;split at e
  .rename_i k;subst k;split at e
   .injection e with e
    subst e;refine D.mono m λb d=>⟨d.1,?_⟩
    rcases d.2 with h1|h1
    .rw[hJ h1.1];grind
    .exact rT h1
   grind
  .refine A.mono (A.loc (a j A e) (g.mono λb _ d n=>i6)) λb d=>⟨qT d.1 g.1,?_⟩
   rw[hJ d.1];omega
theorem aa.step(H:aa B h0 h As)(i:Nat)(j:As[i]?=dB A)(f:∀q:aw,A.p h q->(∀b,q b->b<h.size)->aS (λb=>¬q b) h h'/\D.p h' λb=>b<h'.size/\(q b∨h.size<=b)):aa B h0 h' (As.set i D):=by obtain⟨k,p,c,z,a⟩:=H;obtain⟨d,e⟩:=f _ (a i A j) λb g=>g.1;exact aa.CI k p z a d e
theorem aa.fN(H:aa B h0 h As)(i:Nat)(e:As[i]?=dB A)(d:∀q:aw,A.p h q->D.p h q):aa B h0 h (As.set i D):=
 H.step i e λq f a=>⟨aS.refl _ _,D.mono (d q f) λb c=>⟨a b c,.inl c⟩⟩
theorem aa.merge(H:aa B h0 h As)(i j:Nat)(q:i≠j)(r:As[i]?=dB A)(o:As[j]?=dB A2)
  (m:∀e f:aw,(∀b,e b->¬f b)->A.p h e->A2.p h f->D.p h λb=>e b∨f b):aa B h0 h ((As.set i D).set j emp):=by
 obtain⟨n,p,c,z,a⟩:=H;refine⟨n,p,λb=>if c b=j+1 then i+1 else c b,λb g=>?_,λk l d=>?_⟩
 .grind
 .rw[qV]at d;split at d
  .split at d
   .cases d;trivial
   grind
  .rw[qV]at d;split at d
   .split at d
    .injection d with d
     subst d;refine D.mono (m _ _ (λb t s=>i6) (a i A r) (a j A2 o)) λb g=>?_
     grind
    .cases d
   .refine l.mono (a k l d) λb g=>⟨g.1,?_⟩
    dsimp only;rw[g9 i6];omega
theorem aa.pick(H:aa B h0 h As)(f:Nat->Nat)(m:∀i j,f i=f j->i=j)(g:∀(i:Nat) (A2:HP),Bs[i]?=dB A2->As[f i]?=dB A2):aa B h0 h Bs:=by
 obtain⟨l,p,c,z,a⟩:=H
 classical
 refine⟨l,p,λb=>if d:∃i,c b=f i+1 then d.choose+1 else 0,λb d=>?_,λi A2 k=>?_⟩
 .grind
 .refine A2.mono (a _ _ (g i A2 k)) λb d=>⟨d.1,?_⟩
  have e:∃i,c b=f i+1:=⟨i,d.2⟩
  grind
theorem aa.take(H:aa B h0 h As)(n:Nat)(a:∀(i:Nat) (A2:HP),Bs[i]?=dB A2->As[n+i]?=dB A2):aa B h0 h Bs:=H.pick (λi=>n+i) (λ_ _ h=>i6) a
end
section
variable {B:aw} {C:Ctx} {i e:Nat}
theorem aa.own(H:aa B h0 h As)(i:Nat)(a:As[i]?=dB (aq e s k f l)):Own h e s k f l:=(H.at i a).1
theorem aa.seq(H:aa B h0 h As)(i:Nat)(a:As[i]?=dB (aq e s k f l))(c:∀x,i4 (f x)=k):Seq h (λb=>b<h.size) s k f l:=(H.at i a).1.seq c (H.at i a).2
theorem aa.rd(H:aa B h0 h As)(i:Nat)(a:As[i]?=dB (tO s k f l)):Seq h (λb=>b<h.size) s k f l:=H.at i a
theorem aa.box(H:aa B h0 h As)(i:Nat)(b:As[i]?=dB (ak a e cs)):bN h a e cs:=(H.at i b).1
theorem aa.nQ(H:aa B h0 h As)(i:Nat)(q:As[i]?=dB (aq e s k f l)){β:Type}{m n:Nat}{g:β->aW}{l':List β}(o:aS (λb=>¬s.on b) h h')(p:Own h' m s n g l'):aa B h0 h' (As.set i (aq m s n g l')):=
 H.step i q λ_ j d=>⟨o.mono λb _ a c=>a (j.2 b c),p,λb a=>⟨qT (d b (j.2 b a)) o.1,.inl (j.2 b a)⟩⟩
theorem aa.pi(H:aa B h0 h As)(i:Nat)(m:As[i]?=dB (ak a e cs)){c:aW}(j:aS (λb=>b≠a.block) h h')(k:bN h' a e c):aa B h0 h' (As.set i (ak a e c)):=
 H.step i m λq g f=>⟨j.mono λb _ l d=>l (by rw[d];exact g.2),k,⟨qT (f _ g.2) j.1,.inl g.2⟩⟩
theorem aa.freeze(H:aa B h0 h As)(i:Nat)(c:As[i]?=dB (aq e s k f l))(b:∀x,i4 (f x)=k):aa B h0 h (As.set i (tO s k f l)):=H.fN i c λ_ a=>a.1.seq b a.2
theorem aa.set(j:C.Ok)(H:aa B h0 h As)(i:Nat)(g:As[i]?=dB (aq e s k f l))(o:∀x,i4 (f x)=k)(r:C.T.get t=dB ti){x:Int}(n:Nat)(u:x=n)(m:n<i4 l){c:fz}(y:α)(q:c.cells=(f y).toArray)(d:ti.size=k)
  (b:(f y).all (·.oneCell')=eS) {K:f9->Prop} (p:∀h',aa B h0 h' (As.set i (aq e s k f (l.set n y)))->K h'):
  ∃a:f7,(s.ptr=dB a/\0<=x/\x<((s.len:Nat):Int))/\aj C.P (qF t (.pointer (dB (a.add (x.toNat*k)))) c) h λ_ h'=>K h':=
 (H.own i g).set j o r n u m y q d b λh' z w _=>p h' (H.nQ i g w z)
theorem aa.push(y:C.Ok)(H:aa B h0 h As)(i:Nat)(Q:As[i]?=dB (aq e s k f l))(N:bV C.toBX t e k z by_)(G:i4 z=k)(q:0<by_/\by_<=128)(I:∀x,i4 (f x)=k)
  (m:∀x,∀c∈f x,c.oneCell'=eS) (x:α) {parts:Array (Nat×fz)} (g:wB (λi=>dB (i*k,k)) (jl z 1).toArray parts.toList=dB ([x].flatMap f).toArray)
  (p:1*k<=2^20) (u:i4 l+1<=2^32) {ty:Nat} {K:Sl->f9->Prop}
  (L:∀n h',aa B h0 h' (As.set i (aq e n k f (l++[x])))->K n h'):
  bI C.P (zE t 1 parts) (.one (.sc .slc)) h λv M=>bI C.P (zo #[t,t] ty #[.slice s.ptr s.len s.cap,.slice v.ptr v.len v.cap]) (.one (.sc .slc)) M K:=by
 obtain⟨E,O,c,F,a⟩:=H;have w:=a i _ Q;have A:ez h c (i+1) e s k f l:=⟨w.1,λb j=>(w.2 b j).2⟩
 refine A.push y N G q I m x g p u λn h' d o=>L n h' ?_;refine aa.CI E O F a (o.mono λb j D J=>D ⟨j,J⟩) ⟨d.own,λb j=>⟨d.own.lt j,?_⟩⟩;have:=d.bg b j;by_cases r:b<h.size
 .rw[hJ r]at this;grind
 grind
theorem aa.append(y:C.Ok)(H:aa B h0 h As)(i:Nat)(Q:As[i]?=dB (aq e s k f l))(N:bV C.toBX t e k z by_)(w:∃i e2,C.T.get t2=dB i/\i.cv=.slice e2)(G:i4 z=k)(o:0<by_/\by_<=128)(I:∀x,i4 (f x)=k)
  (M:Seq h p v k f l2) (j:∀x,∀c∈f x,c.oneCell'=eS) (r:i4 l+i4 l2<=2^32) {ty:Nat} {K:Sl->f9->Prop}
  (L:∀m h',aa B h0 h' (As.set i (aq e m k f (l++l2)))->K m h'):
  bI C.P (zo #[t,t2] ty #[.slice s.ptr s.len s.cap,.slice v.ptr v.len v.cap]) (.one (.sc .slc)) h K:=by
 obtain⟨E,O,c,F,a⟩:=H;have u:=a i _ Q;have A:ez h c (i+1) e s k f l:=⟨u.1,λb g=>(u.2 b g).2⟩
 refine A.append y N w G o I M j r λm h' d n=>L m h' ?_;refine aa.CI E O F a (n.mono λb g D J=>D ⟨g,J⟩) ⟨d.own,λb g=>⟨d.own.lt g,?_⟩⟩;have:=d.bg b g;by_cases q:b<h.size
 .rw[hJ q]at this;grind
 grind
theorem KN{h h':f9}{n:Nat}(i:n=h.size)(d:Own h' e s k f l)(g:s.ptr=dB ⟨n,0,eH⟩)(c:aS (λ_=>True) h h'):Sp h h' [aq e s k f l]:=
 .one (any c) ⟨d,λb a=>⟨by obtain⟨o,a⟩:=a;grind,d.lt a⟩⟩
theorem aa.make(o:C.Ok)(H:aa B h0 h As)(f:α->aW)(A:bV C.toBX t e k z by_)(g:0<by_/\by_<=128)(c:α)(r:f c=z)(j:i4 z=k){v D:IntKind}{n l:Int}(m b:Nat)(p:n=m)(s:l=b)(i:m<=b)(d:b<=2^32)
  {K:Sl->f9->Prop} (u:∀a h',a.len=m->a.cap=b->aa B h0 h' (As++[aq e a k f (qf m c)])->K a h'):
  bI C.P (zx t (.int v n) (.int D l)) (.one (.sc .slc)) h K:=
 run_make o A g c r j m b p s i d λa h' x y w q _=>u a h' (by rw[x.len];simp) w (H.comp (KN i5 x y q))
theorem aa.lit(g:C.Ok)(H:aa B h0 h As)(f:α->aW)(p:bV C.toBX t e k z by_)(c:i4 z=k){n:Nat}{parts:Array (Nat×fz)}(l:List α)(j:i4 l=n)(d:n*k<=2^20)
  (a:wB (λi=>dB (i*k,k)) (jl z n).toArray parts.toList=dB (l.flatMap f).toArray) {K:Sl->f9->Prop}
  (o:∀b h',aa B h0 h' (As++[aq e b k f l])->K b h'):
  bI C.P (zE t n parts) (.one (.sc .slc)) h K:=
 KM g p c l j d a λb h' x y m _=>o b h' (H.comp (KN i5 x y m))
theorem KO{h h':f9}(d:a.block=h.size)(c:bN h' a e cs)(b:aS (λ_=>True) h h'):Sp h h' [ak a e cs]:=
 .one (any b) ⟨c,i6,c.lt⟩
theorem aa.alloc(c:C.Ok)(H:aa B h0 h As)(e:C.T.get t=dB ti){K:f7->f9->Prop}(d:∀a h',aa B h0 h' (As++[ak a t ti.zero])->K a h'):
  un C.P (yR t eS (.tuple #[])) h K:=
 AN c e λa h' x y b _=>d a h' (H.comp (KO x y b))
theorem aa.boxed(H:aa B h0 h As){P:Program}{v:fz}{K:f7->f9->Prop}(c:∀a h',aa B h0 h' (As++[ak a t v.cells.toList])->K a h'):
  un P (vU t v) h K:=
 TM λa h' x y b _=>c a h' (H.comp (KO x y b))
theorem aa.store(k:C.Ok)(H:aa B h0 h As)(i:Nat)(f:As[i]?=dB (ak a e cs))(g:C.T.get t=dB ti)(off:Nat){v:fz}(vs:aW)(j:v.cells=vs.toArray)(d:ti.size=i4 vs)
  (b:vs.all (·.oneCell')=eS) (c:off+i4 vs<=i4 cs) {K:Unit->f9->Prop}
  (l:∀h',aa B h0 h' (As.set i (ak a e (cs.take off++vs++cs.drop (off+i4 vs))))->K () h'):
  aj C.P (qF t (.pointer (dB (a.add off))) v) h K:=
 run_store k (H.box i f) g off vs j d b c λh' x y _=>l h' (H.pi i f y x)
theorem aa.fM(g:C.Ok)(H:aa B h0 h As)(i:Nat)(l:As[i]?=dB (ak a e cs))(f:C.T.get t=dB ti){v:fz}(vs:aW)(k:v.cells=vs.toArray)(c:ti.size=i4 vs)
  (b:vs.all (·.oneCell')=eS) (d:i4 vs<=i4 cs) {K:Unit->f9->Prop}
  (j:∀h',aa B h0 h' (As.set i (ak a e (vs++cs.drop vs.length)))->K () h'):
  aj C.P (qF t (.pointer (dB a)) v) h K:=
 H.store g i l f 0 vs k c b i6 (λh' x=>j h' j1)
theorem aa.nil(H:aa B h0 h As)(e k:Nat)(f:α->aW):aa B h0 h (As++[aq e ⟨eH,0,0⟩ k f []]):=
 H.comp (.one (aS.refl _ _) ⟨Own.nil h e k f,λb a=>by obtain⟨o,a⟩:=a;cases a⟩)
theorem aa.CJ(H:aa B h0 h As)(e k:Nat)(f:α->aW):aa B h0 h (As++[fB e ⟨eH,0,0⟩ k f []]):=
 H.comp (.one (aS.refl _ _) ⟨[],λ_=>False,Own.nil h e 1 bx,λb a=>(by obtain⟨o,a⟩:=a;cases a),λ_ a=>a.elim,rfl,λi r l h=>js⟩)
theorem aa.pj(W:C.Ok)(H:aa B h0 h As)(i j:Nat)(z:i≠j){I:List (List α)}{r:Sl}{x:List α}(T:As[i]?=dB (fB e s k f I))(hj:As[j]?=dB (tO r k f x))(he:bV C.toBX t e 1 [.slice eH 0 0] 24)
  (ab:i4 I+1<=2^32) {ty:Nat} {K:Sl->f9->Prop} (hk:∀O h',aa B h0 h' ((As.set j emp).set i (fB e O k f (I++[x])))->K O h'):
  bI C.P (zE t 1 #[(0,.slice r.ptr r.len r.cap)]) (.one (.sc .slc)) h λv u=>bI C.P (zo #[t,t] ty #[.slice s.ptr s.len s.cap,.slice v.ptr v.len v.cap]) (.one (.sc .slc)) u K:=by
 have H2:=H.merge i j z T hj (D:=⟨λh q=>∃(rs:List Sl) (g:aw),Own h e s 1 bx rs/\(∀b,s.on b->q b/\¬g b)/\(∀b,g b->q b)/\rs.length=i4 I/\(∀(i:Nat) r l,rs[i]?=dB r->I[i]?=dB l->Seq h g r k f l)/\Seq h g r k f x,
  λ⟨rs,g,a,b,c,d,e,f⟩ hp=>⟨rs,g,a.ac hp λx n=>(b x n).1,b,c,d,λi r l u y=>(e i r l u y).ac (hp.mono λx _ n=>c x n),f.ac (hp.mono λx _ n=>c x n)⟩,
  λ⟨rs,g,a,b,c,d,e,f⟩ hq=>⟨rs,g,a,λx n=>⟨hq x (b x n).1,(b x n).2⟩,λx n=>hq x (c x n),d,e,f⟩⟩)
  (λg q2 Y V hB=>by
   obtain⟨rs,q3,a,b,c,d,e'⟩:=V;refine⟨rs,λb=>q3 b∨q2 b,a,λx n=>⟨.inl (b x n).1,λL=>L.elim (b x n).2 (Y x (b x n).1)⟩,λx n=>n.elim (λh=>.inl (c x h)) .inr,d,λi r l u y=>(e' i r l u y).mono λ_ h=>.inl h,Seq.mono hB λ_ h=>.inr h⟩)
 have w:i<i4 As:=(ql.1 T).1;obtain⟨lo,pp,c,zz,a⟩:=H2;have ha:=a i _ (by rw[wk (Ne.symm z),zy w]);obtain⟨rs,g,X,a2,a3,a4,a5,U⟩:=ha;let c':Nat->Nat:=λb=> @ite _ (g b) (Classical.propDecidable _) (i4 As+2) (c b);have G:∀b,g b->b<h.size/\c b=i+1:=a3;have ho:ez h c' (i+1) e s 1 bx rs:=⟨X,λb m=>by
  have:=a2 b m;show @ite _ (g b) (Classical.propDecidable _) _ _=_;rw[g9 this.2];exact this.1.2⟩
 refine ho.push W he i5 i7 (λ_=>rfl) jN r i5 i7 i6 λO h' A F=>hk O h' ?_;rw[vh _ _ (Ne.symm z)];rw[<-yx (l:=As) (i:=i),vh _ _ z];have N:∀b,g b->c' b≠i+1:=λb m=>by
  show @ite _ (g b) (Classical.propDecidable _) _ _≠_;rw[g0 m];omega
 refine aa.CI lo pp zz a (F.mono λb m Z hc=>Z ⟨m,?_⟩) ⟨rs++[r],λb=>g b/\b<h.size,A.own,λb m=>?_,λb m=>⟨qT m.2 F.1,.inl ⟨m.2,(G b m.1).2⟩⟩,by simp[a4],λQ r' l' u y=>?_⟩
 .by_cases E:g b
  .exact(G b E).2
  .have p:@ite _ (g b) (Classical.propDecidable _) (i4 As+2) (c b)=i+1:=hc;rw[g9 E]at p;exact p
 .have o:=A.bg b m;by_cases w:b<h.size
  .rw[hJ w]at o;have M:¬g b:=λE=>N b E o;have p:@ite _ (g b) (Classical.propDecidable _) (i4 As+2) (c b)=i+1:=o;rw[g9 M]at p;exact⟨⟨A.own.lt m,.inl ⟨w,p⟩⟩,λL=>M L.1⟩
  .exact⟨⟨A.own.lt m,.inr i6⟩,λL=>w L.2⟩
 .have J:∀{S:Sl} {l:List α},Seq h g S k f l->Seq h' (λb=>g b/\b<h.size) S k f l:=λhs=>
   (hs.mono (q:=λb=>g b/\b<h.size) λb m=>⟨m,(G b m).1⟩).ac (F.mono λb _ m=>N b m.1)
  by_cases R:Q<i4 rs
  .rw[qq R]at u;rw[qq i6]at y;exact J (a5 Q r' l' u y)
  .have:Q=i4 rs:=by have:=(ql.1 u).1;simp at this;omega
   subst this;simp at u;rw[a4]at y;simp at y;subst u;subst y;exact J U
theorem aa.rows(H:aa B h0 h As)(i:Nat){g:List (List α)}(o:As[i]?=dB (fB e s k f g)):∃rs,iP h (λb=>b<h.size) s k f g rs:=by obtain⟨rs,p,a,b,c,d,e⟩:=H.at i o;exact⟨rs,a.seq (λ_=>rfl) λx m=>(b x m).1,d,λi r l j n=>(e i r l j n).mono c⟩
end
theorem abz(vs:aW):∀(pre old post:aW),i4 old=i4 vs->((vs.zipIdx 0).foldl (λ(cs:Array fz) (p:fz×Nat)=>cs.setIfInBounds (i4 pre+p.2) p.1) (pre++old++post).toArray)=(pre++vs++post).toArray:=by
 have a:∀(vs pre old post:aW) (k:Nat),i4 old=i4 vs->i4 pre=i4 pre->∀n,n+k=i4 pre->((vs.zipIdx k).foldl (λ(cs) (p)=>cs.setIfInBounds (n+p.2) p.1) (pre++old++post).toArray)=(pre++vs++post).toArray:=by
  intro vs
  induction vs with
  |nil=>intro pre old post k b _ n _;rw[qU b];rfl
  |cons v vs ih=>
   intro pre old post k b _ n c;cases old with
   |nil=>grind
   |cons u old=>
    rw[List.zipIdx_cons,zA];have e:(pre++(u::old)++post).toArray.setIfInBounds (n+k) v=((pre++[v])++old++post).toArray:=by rw[c];simp
    rw[e,ih (pre++[v]) old post (k+1) j1 i5 n jj];simp
 intro pre old post h;exact a vs pre old post 0 h i5 pre.length (i5)
theorem OH{a:Nat->Option (Nat×Nat)}{i:Nat}{v:fz}{vs pre old post:aW}{rest:List (Nat×fz)}(d:v.cells=vs.toArray)(c:a i=dB (i4 pre,i4 vs))(b:i4 old=i4 vs):
  wB a (pre++old++post).toArray ((i,v)::rest)=wB a (pre++vs++post).toArray rest:=by
 conv=>lhs;unfold wB
 have:=abz vs pre old post b
 grind
section
variable {C:Ctx}
theorem pI(d:C.Ok)(l:C.T.get t=dB i){j:List (Nat×TypeId)}(c:i.cv=.struct j){b:List (Nat×Nat)}(g:placesOf C.T j=dB b){vs:List (Nat×fz)}{cells:Array fz}
  (a:wB (λn=>b[n]?) i.zero.toArray vs=dB cells):aH C.P (Instr.build t vs.toArray) (.agg cells):=by
 obtain⟨z,p,r⟩:=sE d.toOk l;have m:i.zero.toArray=z.cells:=j1
 have k:=d.cv l;rw[c]at k;obtain⟨q,o,rfl⟩:=pF k;refine p.bind ((aF o).bind ?_);have e:aH C.P (q.mapM λf=>(do pure (f.offset,<-sizeOf f.type))) b.toArray:=by rw[Array.mapM_eq_mapM_toList];intro w;have:=vx d.toOk g w;rw[map_eq_pure_bind,Sem.run_bind,this];rfl
 refine e.bind ?_;have h:wB (λn=>b.toArray[n]?) z.cells vs.toArray.toList=dB cells:=j1
 rw[h];exact .pure
end
theorem take_set{α:Type}(l:List α)(n:Nat)(x:α)(h:n<i4 l):l.take n++[x]++l.drop (n+1)=l.set n x:=by rw[w9,g0 h];simp
section
variable {B:aw} {C:Ctx} {e:Nat}
theorem aa.storeAt(j:C.Ok)(H:aa B h0 h As)(i:Nat)(l:As[i]?=dB (ak a e cs))(f:C.T.get t=dB ti){off:Nat}{v:fz}(g:v.cells=#[v])(c:ti.size=1)
  (d:v.oneCell'=eS) (b:off<i4 cs) {K:Unit->f9->Prop}
  (k:∀h',aa B h0 h' (As.set i (ak a e (cs.set off v)))->K () h'):
  aj C.P (qF t (.pointer (dB (a.add off))) v) h K:=
 H.store j i l f off [v] g c j1 j1 λh' x=>k h' (by rw[<-take_set _ _ _ b];grind)
theorem aa.storeAll(g:C.Ok)(H:aa B h0 h As)(i:Nat)(l:As[i]?=dB (ak a e cs))(f:C.T.get t=dB ti){v:fz}(vs:aW)(k:v.cells=vs.toArray)(c:ti.size=i4 vs)
  (b:vs.all (·.oneCell')=eS) (d:i4 vs=i4 cs) {K:Unit->f9->Prop}
  (j:∀h',aa B h0 h' (As.set i (ak a e vs))->K () h'):
  aj C.P (qF t (.pointer (dB a)) v) h K:=
 H.fM g i l f vs k c b i6 λh' x=>j h' j1
end
theorem nR(n:Nat)(a:n<=9223372036854775807:=by omega):qd ka (n:Int)=n:=af _
abbrev Rd{α:Type}(h:f9)(s:Sl)(k:Nat)(f:α->aW)(l:List α):Prop:=Seq h (λb=>b<h.size) s k f l
abbrev fm{α:Type}(h:f9)(s:Sl)(k:Nat)(f:α->aW)(a:List (List α)):Prop:=∃rs,iP h (λb=>b<h.size) s k f a rs
section
variable {B:aw} {e:Nat}
theorem fm.up(a:fm h s k f ll)(c:aS (λb=>b<h.size) h h'):fm h' s k f ll:=by obtain⟨rs,a⟩:=a;exact⟨rs,iP.up a c⟩
theorem fm.len(a:fm h s k f ll):s.len=i4 ll:=by obtain⟨rs,a⟩:=a;exact a.OB
theorem fm.get(b:fm h s k f ll){i:Int}(n:Nat)(e:i=n)(g:n<i4 ll){K:Sl->Prop}(d:∀r,Rd h r k f ll[n]->K r):
  ∃a:f7,(s.ptr=dB a/\0<=i/\i<((s.len:Nat):Int))/\∃x:Sl,f8 h (a.add (i.toNat*1))=dB (.slice x.ptr x.len x.cap)/\K x:=by
 obtain⟨rs,b⟩:=b;exact b.get n e g λr c _=>d r c
theorem Seq.isSome{p:aw}(a:Seq h p s k f l)(d:l≠[]):s.ptr.isNone=eX:=by
 cases l with
 |nil=>grind
 |cons x t=>obtain⟨b,o,c,_⟩:=a.elem 0 x (rfl);grind
theorem Seq.isNil{p:aw}(b:Seq h p s k f l)(a:s.ptr.isNone=eS):l=[]:=by
 cases l with
 |nil=>rfl
 |cons x t=>rw[b.isSome js]at a;cases a
theorem aa.DJ(H:aa B h0 h As)(i:Nat)(a:As[i]?=dB (fB e s k f ll)):fm h s k f ll:=H.rows i a
end
section
variable {B:aw} {Bs:List HP} {A:HP}
theorem aa.del(H:aa B h0 h As)(i:Nat):aa B h0 h (As.eraseIdx i):=
 H.pick (λj=>if j<i then j else j+1) (λa b c=>j1) λj A d=>j1
theorem aa.call(H:aa B h0 h As)(i:Nat)(E:As[i]?=dB A)(q:aw)(K:∀q':aw,A.p h q'->∀b,q b->q' b)(R:aa (λb=>b<h.size/\¬q b) h h' (D::Bs)):aa B h0 h' (As.set i D++Bs):=by
 classical
 obtain⟨v,x,g,I,u⟩:=H;obtain⟨_,t,f,L,w⟩:=R;have r:=x.1;have y:=(ql.1 E).1;have m:∀b,q b->b<h.size/\g b=i+1:=K _ (u i A E);have F:∀b,B b->b<h.size/\¬q b:=λb a=>⟨qT (v b a) r,λo=>by have:=I b a;have:=m b o;omega⟩
 let c:Nat->Nat:=λb=>if b<h.size/\¬q b then(if g b=i+1 then 0 else g b)else if f b=0 then 0 else if f b=1 then i+1 else As.length+f b-1
 have n:∀b,b<h.size/\¬q b->g b≠i+1->c b=g b:=λb a J=>by show ite _ _ _=_;rw[g0 a,g9 J]
 have e:∀b,f b≠0->c b=if f b=1 then i+1 else As.length+f b-1:=λb a=>j1
 refine⟨v,x.then t λb _ a=>F b a,c,λb a=>?_,λk l d=>?_⟩
 .grind
 .by_cases z:k<i4 As
  .rw[qq (by simpa using z),qV]at d;split at d
   .rename_i s;subst s;injection d with d
    subst d;refine D.mono (w 0 D i5) λb a=>⟨a.1,?_⟩
    rw[e b i6,g0 a.2]
   .have j:∀b,b<h.size/\g b=k+1->b<h.size/\¬q b:=λb a=>⟨a.1,λo=>by have:=m b o;omega⟩
    refine l.mono (l.loc (u k l d) (t.mono λb _ a=>j b a)) λb a=>⟨qT a.1 t.1,?_⟩
    rw[n b (j b a) i6];exact a.2
  .rw[qk (by simpa using z)]at d;have G:=w (k-i4 As+1) l rb;refine l.mono G λb a=>⟨a.1,?_⟩
   rw[e b i6,g9 i6];omega
end
section
variable {B:aw} {Bs:List HP} {A:HP} {e:Nat}
theorem aa.off(H:aa B h0 h As)(i j:Nat)(n:i≠j)(o:As[i]?=dB (aq e s k f l))(g:As[j]?=dB A):A.p h (λb=>b<h.size/\¬s.on b):=by
 obtain⟨_,_,c,_,a⟩:=H;refine A.mono (a j A g) λb m=>⟨m.1,λd=>?_⟩
 have:=(a i _ o).2 b d;omega
theorem aa.base(H:aa B h0 h As)(i:Nat)(j:As[i]?=dB (aq e s k f l)){b:Nat}(g:B b):¬s.on b:=λd=>by
 obtain⟨_,_,c,z,a⟩:=H;have:=(a i _ j).2 b d;have:=z b g;omega
theorem aa.OI(H:aa B h0 h (As++[D]))(i:Nat)(k:i<i4 As):aa B h0 h (As.set i D):=
 H.pick (λj=>if j<i4 As then(if j=i then As.length else j)else j+1) (λa b c=>by split at c<;>split at c<;>(try split at c)<;>(try split at c)<;>omega) λj A f=>by
  have e:j<i4 As:=by have:=(ql.1 f).1;simpa using this
  rw[g0 e];rw[qV]at f;split at f
  .rename_i d;subst d;rw[g0 i5,qk (qi _),za];exact f
  .rename_i d;rw[g9 λg=>d g.symm,qq e];exact f
theorem aa.Ve(H:aa B h0 h As)(i j:Nat){A2:HP}(n:As[i]?=dB A)(m:As[j]?=dB A2):aa B h0 h ((As.set i A2).set j A):=by
 have k:=(ql.1 n).1;have l:=(ql.1 m).1;refine H.pick (λx=>if x=j then i else if x=i then j else x) (λa b c=>by split at c<;>split at c<;>(try split at c)<;>(try split at c)<;>omega) λx o d=>?_;rw[qV,qV]at d;by_cases e:j=x
 .subst e;simp[l]at d;subst d;simpa using n
 .by_cases g:i=x
  .subst g;simp[e,k]at d;subst d;rw[g9 λf=>e f.symm,g0 rfl];exact m
  .simp[e,g]at d;rw[g9 λf=>e f.symm,g9 λf=>g f.symm];exact d
end
def bu{α:Type}(e k:Nat)(f:α->aW)(rs:List Sl)(a:List (List α)):List HP:=zc (λr l=>aq e r k f l) rs a
section
variable {e:Nat}
theorem jd(h:i4 rs=i4 ll):i4 (bu e k f rs ll)=i4 ll:=by simp[bu,h]
theorem fo(h:i4 rs=i4 ll)(i:Nat)(a:i<i4 ll):(bu e k f rs ll)[i]?=dB (aq e (rs[i]'i6) k f ll[i]):=by
 have b:i<i4 rs:=i6
 simp[bu,wc,qc a,qc b]
theorem pJ(h:i4 rs=i4 ll)(r:Sl)(l:List α):bu e k f (rs++[r]) (ll++[l])=bu e k f rs ll++[aq e r k f l]:=by unfold bu;rw[List.zipWith_append h];rfl
theorem je(h:i4 rs=i4 ll)(i:Nat)(r:Sl)(l:List α):(bu e k f rs ll).set i (aq e r k f l)=bu e k f (rs.set i r) (ll.set i l):=by
 apply zp;intro j;simp only[bu,qV,wc,List.length_zipWith];by_cases a:i=j
 .subst a;by_cases b:i<i4 ll
  .have:i<i4 rs:=i6
   simp[b,this];omega
  .have:¬i<i4 rs:=i6
   simp[b];omega
 .simp[a]
theorem OJ(h:i4 rs=i4 ll)(i:Nat)(a:i<i4 ll)(l:List α):(bu e k f rs ll).set i (aq e (rs[i]'i6) k f l)=bu e k f rs (ll.set i l):=by rw[je h,List.set_getElem_self]
theorem aa.IY{B:aw}{h0 h:f9}{s:Sl}{b:Nat}(H:aa B h0 h (aq b s 1 bx rs::bu e k f rs ll))(d:i4 rs=i4 ll)(m:∀x,i4 (f x)=k):fm h s k f ll:=by
 refine⟨rs,H.seq 0 i5 λ_=>rfl,d,λi r l c a=>?_⟩;have g:i<i4 ll:=(ql.1 a).1;have j:=fo (e:=e) (k:=k) (f:=f) d i g;have h3:=H.seq (i+1) (by simpa using j) m;have b:rs[i]'i6=r:=by rw[qc i6]at c;simpa using c
 have e2:ll[i]=l:=by rw[qc g]at a;simpa using a
 rw[b,e2]at h3;exact h3
end
theorem Seq.IZ{X:Type}{g:X->fz}(e:Seq h p s 1 f l){i:Int}(n:Nat)(r:i=n)(j:n<i4 l)(x:X)(q:f l[n]=[g x]){K:f7->X->Prop}(k:∀a:f7,f8 h (a.add (i.toNat*1))=dB (g x)->K a x):
  ∃a:f7,(s.ptr=dB a/\0<=i/\i<((s.len:Nat):Int))/\∃x:X,f8 h (a.add (i.toNat*1))=dB (g x)/\K a x:=by
 subst r;obtain⟨b,o,m,_,h3⟩:=e.elem n l[n] (qc j);rw[q]at h3;have d:=h3.1;rw[add_eq,yc]at d;have c:f8 h ((⟨b,o,eH⟩:f7).add ((n:Int).toNat*1))=dB (g x):=by rw[add_eq];simpa using d
 exact⟨_,⟨m,i6,by rw[e.len];omega⟩,x,c,k _ c⟩
theorem Seq.jS{h:f9}{p:aw}{s:Sl}{rs:List Sl}(e:Seq h p s 1 bx rs){i:Int}(n:Nat)(l:i=n)(g:n<i4 rs){K:f7->Sl->Prop}
  (j:∀a:f7,f8 h (a.add (i.toNat*1))=dB (.slice rs[n].ptr rs[n].len rs[n].cap)->p (a.add (i.toNat*1)).block->K a rs[n]):
  ∃a:f7,(s.ptr=dB a/\0<=i/\i<((s.len:Nat):Int))/\∃x:Sl,f8 h (a.add (i.toNat*1))=dB (.slice x.ptr x.len x.cap)/\K a x:=by
 subst l;obtain⟨b,o,k,f,h3⟩:=e.elem n rs[n] (qc g);have d:=h3.1;rw[add_eq,yc]at d;have c:f8 h ((⟨b,o,eH⟩:f7).add ((n:Int).toNat*1))=dB (.slice rs[n].ptr rs[n].len rs[n].cap):=by rw[add_eq];simpa using d
 exact⟨_,⟨k,i6,by rw[e.len];omega⟩,rs[n],c,j _ c (by rw[add_eq];exact f)⟩
section
variable {B:aw} {e:Nat}
theorem Own.cut(a:Own h e s k f l)(c:∀x,i4 (f x)=k)(j:Nat)(d:j<=i4 l):Own h e ⟨s.ptr,j,s.cap⟩ k f (l.take j):=by
 have g:=a.len;refine⟨jj,?_⟩;rcases a.head with⟨h1,h2,h3⟩|⟨b,rest,h1,h2,h3,h4⟩
 .subst h3;exact .inl ⟨h1,h2,js⟩
 .refine .inr ⟨b,(l.drop j).flatMap f++rest,h1,?_,?_,i9⟩
  .rw[<-qm,<-zb,qy];exact h2
  .rw[qu,dX c,q9,h3,<-Nat.add_mul];dsimp only;congr 1;omega
theorem aa.cut(H:aa B h0 h As)(i:Nat)(d:As[i]?=dB (aq e s k f l))(b:∀x,i4 (f x)=k)(j:Nat)(c:j<=i4 l):aa B h0 h (As.set i (aq e ⟨s.ptr,j,s.cap⟩ k f (l.take j))):=
 H.fN i d λ_ a=>⟨a.1.cut b j c,a.2⟩
end
section
variable {B:aw} {C:Ctx} {e:Nat}
end
section
variable {C:Ctx} {ty e:Nat} {B:aw}
theorem Own.Ja(A:C.Ok)(D:bV C.toBX t e k z by_)(o:∀x,i4 (f x)=k)(i:Own h e s k f l)(B:Seq h p v k f l2)(E:∀x,∀c∈f x,c.oneCell'=eS){K:Int->f9->Prop}
  (q:∀n h',Own h' e s k f (l2.take l.length++l.drop l2.length)->aS (λb=>¬s.on b) h h'->K n h'):
  bI C.P (yV #[t,t2] ty #[.slice s.ptr s.len s.cap,.slice v.ptr v.len v.cap]) (.one (.sc (.int .i64))) h K:=by
 unfold bI yV;simp only[wb,w7,qO];refine aj.bind (aj.always (aF (D.under A)) ?_);refine aj.bind (aj.pure' ?_);refine aj.bind (aj.always (D.size A) ?_);have d:=i.len;have a:=B.len;obtain⟨m,g⟩:=z6 (Nat.min v.len s.len)
 rw[<-g];have y:m<=i4 l2:=by rw[g,<-a];exact Nat.min_le_left _ _
 have u:m<=i4 l:=by rw[g,<-d];exact Nat.min_le_right _ _
 have F:m=min l2.length l.length:=by rw[g,d,a]
 have w:=B.take m y;have H:l2.take l.length++l.drop l2.length=l2.take m++l.drop m:=by
  rcases Nat.le_total l2.length l.length with hh|hh
  .grind
  .rw[show m=i4 l by omega,qY hh,List.drop_length]
 rw[H]at q;have j:wJ k m (.slice v.ptr v.len v.cap)=wJ k m (.slice v.ptr m v.cap):=by cases v.ptr<;>rfl
 rw[j];refine aj.bind (ia (v:=⟨v.ptr,m,v.cap⟩) o w ?_);rcases i.head with⟨h1,h2,h3⟩|⟨b,rest,h1,h2,h3,h4⟩
 .rw[h1];subst h3;have:m=0:=by simpa using u
  subst this;refine aj.pure' ⟨_,i5,q _ h ?_ (aS.refl _ _)⟩;simpa using i
 .rw[h1];refine aj.bind ?_;have r:l.flatMap f++rest=(l.take m).flatMap f++((l.drop m).flatMap f++rest):=by rw[<-qm,<-zb,qy]
  rw[r]at h2;refine fY (e:=e) (pre:=[]) (old:=(l.take m).flatMap f) (post:=(l.drop m).flatMap f++rest) (by simpa using h2) (by rw[dX o,dX o,qH,qH];congr 1;omega) i5 ?_ ?_
  .grind
  .refine aj.pure' ⟨_,i5,q _ _ ⟨j1,.inr ⟨b,rest,h1,?_,h3,h4⟩⟩ (aS.jk h2 λG=>G ⟨0,h1⟩)⟩;rw[iX h2,g0 i5,zb];simp
theorem aa.Ja(j:C.Ok)(H:aa B h0 h As)(i:Nat)(b:As[i]?=dB (aq e s k f l))(o:bV C.toBX t e k z by_)(g:∀x,i4 (f x)=k)(d:Seq h p v k f l2)(a:∀x,∀c∈f x,c.oneCell'=eS){K:Int->f9->Prop}
  (m:∀n h',aa B h0 h' (As.set i (aq e s k f (l2.take l.length++l.drop l2.length)))->K n h'):
  bI C.P (yV #[t,t2] ty #[.slice s.ptr s.len s.cap,.slice v.ptr v.len v.cap]) (.one (.sc (.int .i64))) h K:=
 (H.own i b).Ja j o g d a λn h' x y=>m n h' (H.nQ i b y x)
end
def KP(d:Sl)(w i:Nat):Sl:=⟨if d.cap=i*w then d.ptr else d.ptr.map (·.add (i*w*1)),(i+1)*w-i*w,d.cap-i*w⟩
def En{α:Type}(l:List α)(w i:Nat):List α:=(l.drop (i*w)).take w
theorem Seq.piece{α:Type}{h:f9}{p:aw}{s:Sl}{f:α->aW}{l:List α}(d:Seq h p s 1 f l)(c:s.len<=s.cap)(w i:Nat)(g:(i+1)*w<=i4 l):Seq h p (KP s w i) 1 f (En l w i):=by
 have a:=d.drop (i*w) c;have e:(i+1)*w=i*w+w:=zW i w;have b:=a.take w mn;have e2:(i+1)*w-i*w=w:=i6
 unfold KP En;rw[e2];exact b
theorem afd{α:Type}{l:List α}{w i:Nat}(a:(i+1)*w<=i4 l):i4 (En l w i)=w:=by have e:(i+1)*w=i*w+w:=zW i w;simp only[En,qH,q9];omega
def HP.sep(A D:HP):HP:=
 ⟨λh q=>∃i f:aw,(∀b,i b->¬f b)/\(∀b,i b->q b)/\(∀b,f b->q b)/\A.p h i/\D.p h f,
  λ⟨i,f,a,b,c,d,e⟩ hp=>⟨i,f,a,b,c,A.loc d (hp.mono λx _ g=>b x g),D.loc e (hp.mono λx _ g=>c x g)⟩,
  λ⟨i,f,a,b,c,d,e⟩ hq=>⟨i,f,a,λx g=>hq x (b x g),λx g=>hq x (c x g),d,e⟩⟩
def HP.ex{ι:Type}(F:ι->HP):HP:=⟨λh q=>∃i,(F i).p h q,λ⟨i,a⟩ hp=>⟨i,(F i).loc a hp⟩,λ⟨i,a⟩ hq=>⟨i,(F i).mono a hq⟩⟩
def HP.and(A:HP)(P:Prop):HP:=⟨λh q=>A.p h q/\P,λa b=>⟨A.loc a.1 b,a.2⟩,λa c=>⟨A.mono a.1 c,a.2⟩⟩
variable {E:HP}
section
variable {B:aw} {Bs:List HP} {A:HP} {i:Nat}
theorem aa.split(H:aa B h0 h As)(i:Nat)(m:As[i]?=dB (A.sep D)):aa B h0 h (As.set i A++[D]):=by
 classical
 obtain⟨q,p,c,z,a⟩:=H;obtain⟨u,s,o,k,s2,n,r⟩:=a i _ m;have t:=(ql.1 m).1;refine⟨q,p,λb=>if s b then As.length+1 else c b,λb e=>?_,λj X d=>?_⟩
 .grind
 .by_cases l:j<i4 As
  .rw[qq qs,qV]at d;split at d
   .rename_i g;subst g;injection d with d
    subst d;refine A.mono n λb e=>⟨(k b e).1,?_⟩
    dsimp only;rw[g9 (o b e)];exact(k b e).2
   .refine X.mono (a j X d) λb e=>⟨e.1,?_⟩
    grind
  .rw[qk qs]at d;have f:j=i4 As:=j1
   subst f;simp at d;subst d;refine D.mono r λb e=>⟨(s2 b e).1,?_⟩
   dsimp only;rw[g0 e]
theorem aa.join(H:aa B h0 h As)(i j:Nat)(b:i≠j)(l:As[i]?=dB A)(g:As[j]?=dB D):aa B h0 h ((As.set i (A.sep D)).set j emp):=
 H.merge i j b l g λf c k e d=>⟨f,c,k,λ_ a=>.inl a,λ_ a=>.inr a,e,d⟩
theorem aa.Vf{ι:Type}{F:ι->HP}(H:aa B h0 h As)(i:Nat)(f:As[i]?=dB (HP.ex F)):∃x,aa B h0 h (As.set i (F x)):=by
 obtain⟨g,p,c,z,a⟩:=H;obtain⟨x,e⟩:=a i _ f;refine⟨x,g,p,c,z,λj X b=>?_⟩;rw[qV]at b;split at b
 .rename_i d;subst d;split at b
  .injection b with b;subst b;exact e
  .cases b
 .exact a j X b
theorem aa.close'{ι:Type}{F:ι->HP}(H:aa B h0 h As)(i:Nat)(x:ι)(a:As[i]?=dB (F x)):aa B h0 h (As.set i (HP.ex F)):=H.fN i a λ_ b=>⟨x,b⟩
theorem aa.fact{P:Prop}(H:aa B h0 h As)(i:Nat)(a:As[i]?=dB (A.and P)):P:=(H.at i a).2
theorem aa.aeb{P:Prop}(H:aa B h0 h As)(i:Nat)(a:As[i]?=dB (A.and P)):aa B h0 h (As.set i A):=H.fN i a λ_ b=>b.1
theorem aa.aiN{P:Prop}(H:aa B h0 h As)(i:Nat)(b:As[i]?=dB A)(a:P):aa B h0 h (As.set i (A.and P)):=H.fN i b λ_ c=>⟨c,a⟩
theorem aa.cons(H:aa B h0 h As)(i:Nat)(g:As[i]?=dB A):aa B h0 h (A::As.set i emp):=by
 obtain⟨l,p,c,z,a⟩:=H;have k:=(ql.1 g).1;refine⟨l,p,λb=>if c b=i+1 then 1 else if c b=0 then 0 else c b+1,λb e=>?_,λj X d=>?_⟩
 .have:=z b e;dsimp only;rw[g9 i6,g0 this]
 .cases j with
  |zero=>
   simp at d;subst d;refine A.mono (a i A g) λb e=>⟨e.1,by dsimp only;rw[g0 e.2]⟩
  |succ j=>
   rw[qO,qV]at d;split at d
   .rename_i f;injection d with d;subst d;trivial
   .rename_i f;refine X.mono (a j X d) λb e=>⟨e.1,by dsimp only;rw[g9 i6,g9 i6];omega⟩
theorem aa.rest(H:aa B h0 h (A::As)):aa B h0 h As:=H.pick (λj=>j+1) (λa b h=>i6) λj X c=>rc
end
structure jm (α β:Type) where
 p:f9->aw->α->β->Prop
 loc:∀{h h':f9} {q:aw} {a:α} {b:β},p h q a b->aS q h h'->p h' q a b
 mono:∀{h:f9} {q q':aw} {a:α} {b:β},p h q a b->(∀x,q x->q' x)->p h q' a b
def cG{α:Type}(k:Nat)(f:α->aW):jm Sl (List α):=⟨λh q s l=>Seq h q s k f l,λa b=>a.ac b,λa c=>a.mono c⟩
def tQ{α:Type}(k:Nat)(f:α->aW):jm Sl (List α):=⟨λh q s l=>Seq h q s k f l/\(l=[]->s.ptr=eH),λa b=>⟨a.1.ac b,a.2⟩,λa c=>⟨a.1.mono c,a.2⟩⟩
def bM{α β:Type}(E:jm α β)(k:Nat)(f:α->aW):jm Sl (List β):=
 ⟨λh q s ll=>∃rs:List α,Seq h q s k f rs/\rs.length=i4 ll/\∀(i:Nat) r l,rs[i]?=dB r->ll[i]?=dB l->E.p h q r l,
  λ⟨rs,a,b,c⟩ hp=>⟨rs,a.ac hp,b,λi r l d e=>E.loc (c i r l d e) hp⟩,λ⟨rs,a,b,c⟩ hq=>⟨rs,a.mono hq,b,λi r l d e=>E.mono (c i r l d e) hq⟩⟩
def agS{α β:Type}(E:jm α β)(P:α->β->Prop):jm α β:=⟨λh q a b=>E.p h q a b/\P a b,λa c=>⟨E.loc a.1 c,a.2⟩,λa d=>⟨E.mono a.1 d,a.2⟩⟩
def EA{α β:Type}(E:jm α β)(a:α)(b:β):HP:=⟨λh q=>E.p h q a b,λx c=>E.loc x c,λx d=>E.mono x d⟩
abbrev eF{α β:Type}(E:jm α β)(h:f9)(a:α)(b:β):Prop:=E.p h (λb=>b<h.size) a b
def bY{α β:Type}(e:TypeId)(s:Sl)(k:Nat)(f:α->aW)(E:jm α β)(m:List β):HP:=
 ⟨λh q=>∃(rs:List α) (j:aw),Own h e s k f rs/\(∀b,s.on b->q b/\¬j b)/\(∀b,j b->q b)/\rs.length=i4 m/\∀(i:Nat) r l,rs[i]?=dB r->m[i]?=dB l->E.p h j r l,
  λ⟨rs,j,a,b,c,d,e⟩ hp=>⟨rs,j,a.ac hp λx g=>(b x g).1,b,c,d,λi r l o n=>E.loc (e i r l o n) (hp.mono λx _ g=>c x g)⟩,
  λ⟨rs,j,a,b,c,d,e⟩ hq=>⟨rs,j,a,λx g=>⟨hq x (b x g).1,(b x g).2⟩,λx g=>hq x (c x g),d,e⟩⟩
variable {β:Type} {b:β}
section
variable {E:jm α β} {ll:List β} {a:α}
theorem eF.up(x:eF E h a b)(c:aS (λb=>b<h.size) h h'):eF E h' a b:=E.mono (E.loc x c) λ_ d=>qT d c.1
theorem bM.kI(x:(bM E k f).p h q s ll):∃rs:List α,Seq h q s k f rs/\rs.length=i4 ll/\∀(i:Nat) (d:i<i4 rs) (e:i<i4 ll),E.p h q rs[i] ll[i]:=by obtain⟨rs,a,b,c⟩:=x;exact⟨rs,a,b,λi d e=>c i _ _ (qc d) (qc e)⟩
theorem bM.len(x:(bM E k f).p h q s ll):s.len=i4 ll:=by obtain⟨rs,a,b,c⟩:=x;rw[a.len,b]
theorem bM.nil(h:f9)(q:aw)(a:bL)(c:Nat):(bM E k f).p h q ⟨a,0,c⟩ []:=⟨[],Seq.nil h q c a k f,i5,λi r l b=>js⟩
theorem bM.take(x:(bM E k f).p h q s ll)(n:Nat)(g:n<=i4 ll):(bM E k f).p h q ⟨s.ptr,n,s.cap⟩ (ll.take n):=by
 obtain⟨rs,a,b,c⟩:=x;refine⟨rs.take n,a.take n i6,qb,λi r l d e=>?_⟩
 grind
theorem bM.get{X:Type}{g:X->fz}(x:(bM E 1 f).p h q s ll){i:Int}(n:Nat)(e:i=n)(j:n<i4 ll)(u:α->X)(c:∀r,f r=[g (u r)]){K:X->Prop}(d:∀r,E.p h q r ll[n]->K (u r)):
  ∃a:f7,(s.ptr=dB a/\0<=i/\i<((s.len:Nat):Int))/\∃x:X,f8 h (a.add (i.toNat*1))=dB (g x)/\K x:=by
 obtain⟨rs,b,k,h3⟩:=bM.kI x;exact b.bm n e i6 (u (rs[n]'i6)) (c _) (d _ (h3 n i6 j))
theorem bM.jS{E:jm Sl β}(x:(bM E 1 bx).p h q s ll){i:Int}(n:Nat)(c:i=n)(d:n<i4 ll){K:Sl->Prop}(b:∀r,E.p h q r ll[n]->K r):
  ∃a:f7,(s.ptr=dB a/\0<=i/\i<((s.len:Nat):Int))/\∃x:Sl,f8 h (a.add (i.toNat*1))=dB (.slice x.ptr x.len x.cap)/\K x:=
 bM.get (g:=λr:Sl=>Value.slice r.ptr r.len r.cap) x n c d id (λ_=>rfl) b
theorem bM.tofm{γ:Type}{d:Nat}{g:γ->aW}{l:List (List γ)}(x:eF (bM (cG d g) 1 bx) h s l):fm h s d g l:=by obtain⟨rs,a,b,c⟩:=x;exact⟨rs,a,b,c⟩
theorem bM.impl{α':Type}{d:Type}{E':jm α d}(u:β->d)(g:∀{h q a b},E.p h q a b->E'.p h q a (u b))(x:(bM E k f).p h q s ll):(bM E' k f).p h q s (ll.map u):=by
 obtain⟨rs,a,b,c⟩:=x;refine⟨rs,a,qb,λi r l e j=>?_⟩
 grind
end
section
variable {E:jm α β} {C:Ctx} {e:Nat} {B:aw} {ll:List β}
theorem aa.CK(H:aa B h0 h As)(e k:Nat)(f:α->aW)(E:jm α β):aa B h0 h (As++[bY e ⟨eH,0,0⟩ k f E []]):=
 H.comp (.one (aS.refl _ _) ⟨[],λ_=>False,Own.nil h e k f,λb a=>(by obtain⟨o,a⟩:=a;cases a),λ_ a=>a.elim,rfl,λi r l h=>js⟩)
theorem aa.LR(H:aa B h0 h As)(i:Nat)(o:As[i]?=dB (bY e s k f E ll))(n:∀x,i4 (f x)=k):eF (bM E k f) h s ll:=by obtain⟨rs,p,a,b,c,d,e⟩:=H.at i o;exact⟨rs,a.seq n λx j=>(b x j).1,d,λi r l g m=>E.mono (e i r l g m) c⟩
theorem aa.TN(H:aa B h0 h As)(i:Nat)(o:As[i]?=dB (bY e s k f E ll))(m:∀x,i4 (f x)=k):aa B h0 h (As.set i (EA (bM E k f) s ll)):=
 H.fN i o λq ⟨rs,p,a,b,c,d,e⟩=>⟨rs,a.seq m λx j=>(b x j).1,d,λi r l g n=>E.mono (e i r l g n) c⟩
theorem aa.eAt{a:α}{b:β}(H:aa B h0 h As)(i:Nat)(c:As[i]?=dB (EA E a b)):eF E h a b:=H.at i c
theorem aa.Vg(H:aa B h0 h As)(i:Nat)(g:As[i]?=dB (bY e s k f E ll)):s.len=i4 ll/\s.len<=s.cap:=by obtain⟨rs,j,a,b,c,d,e⟩:=H.at i g;exact⟨by rw[a.len,d],a.cap⟩
theorem aa.pK(hC:C.Ok)(H:aa B h0 h As)(i j:Nat)(F:i≠j){a:α}{b:β}(Y:As[i]?=dB (bY e s k f E ll))(hj:As[j]?=dB (EA E a b))(he:bV C.toBX t e k z by_)(hz:i4 z=k)(U:0<by_/\by_<=128)(hw:∀x,i4 (f x)=k)
  (O:∀x,∀c∈f x,c.oneCell'=eS) {parts:Array (Nat×fz)} (G:wB (λi=>dB (i*k,k)) (jl z 1).toArray parts.toList=dB ([a].flatMap f).toArray) (W:1*k<=2^20)
  (ab:i4 ll+1<=2^32) {ty:Nat} {K:Sl->f9->Prop} (hk:∀S h',aa B h0 h' ((As.set j emp).set i (bY e S k f E (ll++[b])))->K S h'):
  bI C.P (zE t 1 parts) (.one (.sc .slc)) h λv o=>bI C.P (zo #[t,t] ty #[.slice s.ptr s.len s.cap,.slice v.ptr v.len v.cap]) (.one (.sc .slc)) o K:=by
 have H2:=H.merge i j F Y hj (D:=⟨λh q=>∃(rs:List α) (g:aw),Own h e s k f rs/\(∀b,s.on b->q b/\¬g b)/\(∀b,g b->q b)/\rs.length=i4 ll/\(∀(i:Nat) r l,rs[i]?=dB r->ll[i]?=dB l->E.p h g r l)/\E.p h g a b,
  λ⟨rs,g,a,b,c,d,e,f⟩ hp=>⟨rs,g,a.ac hp λx n=>(b x n).1,b,c,d,λi r l o A=>E.loc (e i r l o A) (hp.mono λx _ n=>c x n),E.loc f (hp.mono λx _ n=>c x n)⟩,
  λ⟨rs,g,a,b,c,d,e,f⟩ hq=>⟨rs,g,a,λx n=>⟨hq x (b x n).1,(b x n).2⟩,λx n=>hq x (c x n),d,e,f⟩⟩)
  (λg q2 hd hA hB=>by
   obtain⟨rs,q3,a,b,c,d,e'⟩:=hA;refine⟨rs,λb=>q3 b∨q2 b,a,λx n=>⟨.inl (b x n).1,λQ=>Q.elim (b x n).2 (hd x (b x n).1)⟩,λx n=>n.elim (λh=>.inl (c x h)) .inr,d,λi r l o A=>E.mono (e' i r l o A) λ_ h=>.inl h,E.mono hB λ_ h=>.inr h⟩)
 have w:i<i4 As:=(ql.1 Y).1;obtain⟨lo,pp,c,zz,ax⟩:=H2;have ha:=ax i _ (by rw[wk (Ne.symm F),zy w]);obtain⟨rs,g,a1,a2,a3,a4,a5,a6⟩:=ha;let c':Nat->Nat:=λb=> @ite _ (g b) (Classical.propDecidable _) (i4 As+2) (c b);have L:∀b,g b->b<h.size/\c b=i+1:=a3;have ho:ez h c' (i+1) e s k f rs:=⟨a1,λb m=>by
  have:=a2 b m;show @ite _ (g b) (Classical.propDecidable _) _ _=_;rw[g9 this.2];exact this.1.2⟩
 refine ho.push hC he hz U hw O a G W i6 λS h' y I=>hk S h' ?_;rw[vh _ _ (Ne.symm F)];rw[<-yx (l:=As) (i:=i),vh _ _ F];have M:∀b,g b->c' b≠i+1:=λb m=>by
  show @ite _ (g b) (Classical.propDecidable _) _ _≠_;rw[g0 m];omega
 refine aa.CI lo pp zz ax (I.mono λb m hn hc=>hn ⟨m,?_⟩) ⟨rs++[a],λb=>g b/\b<h.size,y.own,λb m=>?_,λb m=>⟨qT m.2 I.1,.inl ⟨m.2,(L b m.1).2⟩⟩,by simp[a4],λT r' l' o A=>?_⟩
 .grind
 .have u:=y.bg b m;by_cases w:b<h.size
  .rw[hJ w]at u;have R:¬g b:=λX=>M b X u;have J:@ite _ (g b) (Classical.propDecidable _) (i4 As+2) (c b)=i+1:=u;rw[g9 R]at J;exact⟨⟨y.own.lt m,.inl ⟨w,J⟩⟩,λQ=>R Q.1⟩
  .exact⟨⟨y.own.lt m,.inr i6⟩,λQ=>w Q.2⟩
 .have N:∀{Z:α} {l:β},E.p h g Z l->E.p h' (λb=>g b/\b<h.size) Z l:=λhs=>
   E.loc (E.mono hs (q':=λb=>g b/\b<h.size) λb m=>⟨m,(L b m).1⟩) (I.mono λb _ m=>M b m.1)
  by_cases V:T<i4 rs
  .rw[qq V]at o;rw[qq i6]at A;exact N (a5 T r' l' o A)
  .have:T=i4 rs:=by have:=(ql.1 o).1;simp at this;omega
   subst this;simp at o;rw[a4]at A;simp at A;subst o;subst A;exact N a6
theorem aa.ajq{N:TI}(R:C.Ok)(H:aa B h0 h As)(i j:Nat)(u:i≠j){a:α}{b:β}(O:As[i]?=dB (bY e s k f E ll))(Y:As[j]?=dB (EA E a b))(Z:∀x,i4 (f x)=k)(ht:C.T.get t=dB N){x:Int}(n:Nat)(g:x=n)(hn:n<i4 ll){F:fz}(hv:F.cells=(f a).toArray)(L:N.size=k)
  (A:(f a).all (·.oneCell')=eS) {K:f9->Prop} (hk:∀h',aa B h0 h' ((As.set j emp).set i (bY e s k f E (ll.set n b)))->K h'):
  ∃a:f7,(s.ptr=dB a/\0<=x/\x<((s.len:Nat):Int))/\aj C.P (qF t (.pointer (dB (a.add (x.toNat*k)))) F) h λ_ h'=>K h':=by
 have H2:=H.merge i j u O Y (D:=⟨λh q=>∃(rs:List α) (m:aw),Own h e s k f rs/\(∀b,s.on b->q b/\¬m b)/\(∀b,m b->q b)/\rs.length=i4 ll/\(∀(i:Nat) r l,rs[i]?=dB r->ll[i]?=dB l->E.p h m r l)/\E.p h m a b,
  λ⟨rs,m,a,b,c,d,e,f⟩ hp=>⟨rs,m,a.ac hp λx g=>(b x g).1,b,c,d,λi r l I G=>E.loc (e i r l I G) (hp.mono λx _ g=>c x g),E.loc f (hp.mono λx _ g=>c x g)⟩,
  λ⟨rs,m,a,b,c,d,e,f⟩ hq=>⟨rs,m,a,λx g=>⟨hq x (b x g).1,(b x g).2⟩,λx g=>hq x (c x g),d,e,f⟩⟩)
  (λm q2 U Q hB=>by
   obtain⟨rs,V,a,b,c,d,e'⟩:=Q;refine⟨rs,λb=>V b∨q2 b,a,λx g=>⟨.inl (b x g).1,λhh=>hh.elim (b x g).2 (U x (b x g).1)⟩,λx g=>g.elim (λh=>.inl (c x h)) .inr,d,λi r l I G=>E.mono (e' i r l I G) λ_ h=>.inl h,E.mono hB λ_ h=>.inr h⟩)
 have J:i<i4 As:=(ql.1 O).1;obtain⟨W,pp,c,X,ax⟩:=H2;have ha:=ax i _ (by rw[wk (Ne.symm u),zy J]);obtain⟨rs,m,S,y,a3,a4,a5,a6⟩:=ha;refine S.set R Z ht n g i6 a hv L A λh' z w _=>hk h' ?_;rw[vh _ _ (Ne.symm u)];rw[<-yx (l:=As) (i:=i),vh _ _ u];have keep:∀{M:α} {l:β},E.p h m M l->E.p h' m M l:=λhs=>E.loc hs (w.mono λb _ o v=>(y b v).2 o);refine aa.CI W pp X ax (w.mono λb _ o v=>o (y b v).1) ⟨rs.set n a,m,z,λb o=>⟨⟨qT (y b o).1.1 w.1,.inl (y b o).1⟩,(y b o).2⟩,λb o=>⟨qT (a3 b o).1 w.1,.inl (a3 b o)⟩,by simp[a4],λi' r' l' I G=>?_⟩
 grind
end
section
variable {E:jm α β} {e:Nat} {B:aw}
theorem aa.agT(H:aa B h0 h As)(i j:Nat)(d:i≠j){a:α}{b:β}(v:As[i]?=dB (aq e s k f [a]))(p:As[j]?=dB (EA E a b)):aa B h0 h ((As.set i (bY e s k f E [b])).set j emp):=
 H.merge i j d v p λw q o c u=>⟨[a],q,c.1,λx n=>⟨.inl (c.2 x n),o x (c.2 x n)⟩,λ_ t=>.inr t,i5,λi r l g m=>by
  cases i with
  |succ i=>simp at g
  |zero=>simp at g m;subst g;subst m;exact u⟩
theorem aa.AP{α:Type}{f:α->aW}{l:List α}(H:aa B h0 h As)(i:Nat)(c:As[i]?=dB (aq e s k f l))(b:∀x,i4 (f x)=k):aa B h0 h (As.set i (EA (cG k f) s l)):=H.fN i c λ_ a=>a.1.seq b a.2
end
variable {e2:Nat}
section
variable {B:aw} {e:Nat}
theorem aa.afe(H:aa B h0 h (As++(aq e s 1 bx rs::bu e2 k f rs ll)))(y:i4 rs=i4 ll)(F:∀x,i4 (f x)=k)(n:Nat)(J:n<=i4 ll):aa B h0 h (As++[bY e ⟨s.ptr,n,s.cap⟩ 1 bx (cG k f) (ll.take n)]):=by
 classical
 obtain⟨E,p,c,z,a⟩:=H;refine⟨E,p,λb=>if c b>i4 As then As.length+1 else c b,λb d=>?_,λj X o=>?_⟩
 .grind
 .by_cases g:j<i4 As
  .rw[qq g]at o;refine X.mono (a j X (by rw[qq g];exact o)) λb d=>⟨d.1,?_⟩
   grind
  .have q:j=i4 As:=j1
   subst q;simp at o;subst o;have w:=a As.length (aq e s 1 bx rs) js;refine⟨rs.take n,λb=>b<h.size/\c b>i4 As+1,w.1.cut (λ_=>rfl) n i6,λb d=>?_,λb d=>?_,by simp[y],λi r l t h3=>?_⟩
   .have A:=w.2 b d
    grind
   .grind
   .rw[List.getElem?_take]at t h3;split at t
    .rename_i u;rw[g0 u]at h3;have v:i<i4 ll:=(ql.1 h3).1;have D:=fo (e:=e2) (k:=k) (f:=f) y i v;have m:=a (i4 As+(i+1)) _ (by rw[qk i6];simpa using D);have I:rs[i]'i6=r:=j1
     have G:ll[i]=l:=by rw[qc v]at h3;simpa using h3
     rw[I,G]at m;exact m.1.seq F λb d=>⟨(m.2 b d).1,by have:=(m.2 b d).2;omega⟩
    .cases t
theorem aa.NV{s:Sl}{a:List (List α)}(H:aa B h0 h As)(i:Nat)(b:As[i]?=dB (fB e s k f a)):aa B h0 h (As.set i (bY e s 1 bx (cG k f) a)):=H.fN i b λ_ c=>c
end
theorem LS{h h':f9}{p:aw}(a:aS p h h'):∀{L:bQ},L.ok h->(∀x∈L,p x.1.block)->L.ok h'
 |[],_,_=>trivial
 |x::L,hk,hq=>⟨a.cell (hq x js) hk.1,LS a hk.2 λy b=>hq y j1⟩
theorem jo{h h':f9}(d:aS (λb=>b<h.size) h h'){L:bQ}(c:L.ok h):L.ok h':=LS d c (by
 induction L with
 |nil=>simp
 |cons y L ih=>
  intro x a;rcases qX.1 a with rfl|a
  .exact uo c.1
  .exact ih c.2 x a)
theorem bI.both{P:Program}{s:Sem fz}{h:f9}{K:Sl->f9->Prop}{Q:f9->Prop}(c:bI P s (.one (.sc .slc)) h λ_ h'=>Q h')(b:bI P s (.one (.sc .slc)) h K):bI P s (.one (.sc .slc)) h λx h'=>Q h'/\K x h':=by
 intro w a;obtain⟨k,n,g,l,i,a3,a4⟩:=c w a;obtain⟨j,f,o,d,x2,m,e⟩:=b w a
 grind
theorem aa.nS{α:Type}{B:aw}{C:Ctx}{h0 h:f9}{As:List HP}{e t k b:Nat}{z:aW}{K:Sl->f9->Prop}(m:C.Ok)(H:aa B h0 h As)(f:α->aW)(p:bV C.toBX t e k z b)(c:i4 z=k){n:Nat}{parts:Array (Nat×fz)}(l:List α)(o:i4 l=n)(d:n*k<=2^20)
  (a:wB (λi=>dB (i*k,k)) (jl z n).toArray parts.toList=dB (l.flatMap f).toArray) {L:bQ} (g:L.ok h) (j:bI C.P (zE t n parts) (.one (.sc .slc)) h K):
  bI C.P (zE t n parts) (.one (.sc .slc)) h λx h'=>L.ok h'/\K x h':=
 bI.both ((Sp.refl h).lit m f p c l o d a λ_ _ q=>jo q.ac g) j
section
variable {B:aw} {Bs:List HP} {A:HP} {i:Nat}
theorem aa.front(H:aa B h0 h (As++Bs)):aa B h0 h (Bs++As):=
 H.pick (λj=>if j<i4 Bs then As.length+j else if j<i4 Bs+i4 As then j-i4 Bs else j)
  (λa b c=>j1) λj X d=>j1
theorem aa.aZ(H:aa B h0 h (As++[A])):aa B h0 h (A::As):=H.front
theorem aa.bS(H:aa B h0 h As)(R:Sp h h' [A]):aa B h0 h' (A::As):=(H.comp R).aZ
theorem aa.nT(H:aa B h0 h (A::As)):aa B h0 h As:=H.rest
theorem aa.pL(H:aa B h0 h (A::D::As)):aa B h0 h (A::As):=H.del 1
theorem aa.sI{ι:Type}{F:ι->HP}(H:aa B h0 h (HP.ex F::As)):∃x,aa B h0 h (F x::As):=H.Vf 0 i5
theorem aa.wn{ι:Type}{F:ι->HP}(x:ι)(H:aa B h0 h (F x::As)):aa B h0 h (HP.ex F::As):=H.close' 0 x i5
theorem aa.sZ(H:aa B h0 h (A.sep D::As)):aa B h0 h (D::A::As):=(H.split 0 i5).aZ
theorem aa.mh(H:aa B h0 h (D::A::As)):aa B h0 h (A.sep D::As):=by have a:aa B h0 h (emp::A.sep D::As):=H.join 1 0 i7 i5 i5;exact a.rest
theorem aa.oy(H:aa B h0 h (A::D::As)):aa B h0 h (D::A::As):=H.Ve 0 1 i5 i5
end
theorem Seq.mi{h:f9}{p:aw}{s:Sl}{rs:List Sl}(b:Seq h p s 1 bx rs){i:Int}(n:Nat)(d:i=n)(e:n<i4 rs){K:Sl->Prop}(c:K rs[n]):
  ∃a:f7,(s.ptr=dB a/\0<=i/\i<((s.len:Nat):Int))/\∃x:Sl,f8 h (a.add (i.toNat*1))=dB (.slice x.ptr x.len x.cap)/\K x:=
 b.bm (g:=λr:Sl=>Value.slice r.ptr r.len r.cap) n d e rs[n] i5 c
def St(B:aw)(h0:f9)(As:List HP)(Q:f9->Prop):Prop:=∀(Bs:List HP) (h':f9),aa B h0 h' (Bs++As)->Q h'
variable {Q:f9->Prop}
section
variable {B:aw} {Bs:List HP} {A:HP}
theorem St.at(x:St B h0 As Q)(Bs:List HP)(H:aa B h0 h (Bs++As)):Q h:=x Bs h H
theorem St.base(b:Q h0)(a:∀h',aS B h0 h'->Q h'):St B h0 As Q:=λ_ _ H=>a _ H.ac
theorem St.cR(j:Nat)(c:As[j]?=dB A)(a:∀h',A.p h' (λb=>b<h'.size)->Q h'):St B h0 As Q:=λBs h' H=>a _ (H.at (i4 Bs+j) j1)
theorem St.cons(x:St B h0 As Q):St B h0 (A::As) Q:=λBs h' H=>x (Bs++[A]) h' j1
end
section
variable {E:jm Sl β} {ll:List β}
theorem bM.ajr(x:(bM E 1 bx).p h q s ll){i:Int}(n:Nat)(m:i=n)(g:n<i4 ll){K:Sl->Prop}(j:∀(a:f7) (r:Sl),s.ptr=dB a->f8 h (a.add (n*1))=dB (.slice r.ptr r.len r.cap)->E.p h q r ll[n]->K r):
  ∃a:f7,(s.ptr=dB a/\0<=i/\i<((s.len:Nat):Int))/\∃x:Sl,f8 h (a.add (i.toNat*1))=dB (.slice x.ptr x.len x.cap)/\K x:=by
 obtain⟨rs,c,l,h3⟩:=bM.kI x;obtain⟨b,o,d,e2,k⟩:=c.elem n (rs[n]'i6) (qc i6);have f:=k.1;have e:f8 h ((⟨b,o,eH⟩:f7).add (n*1))=dB (.slice (rs[n]'i6).ptr (rs[n]'i6).len (rs[n]'i6).cap):=by rw[add_eq];exact f
 refine⟨_,⟨d,i6,by rw[c.len];omega⟩,rs[n]'i6,j1,j _ _ d e (h3 n i6 g)⟩
theorem bM.pick(x:(bM E 1 bx).p h q s ll)(n:Nat)(f:n<i4 ll){a:f7}{r:Sl}(t:s.ptr=dB a)(l:f8 h (a.add (n*1))=dB (.slice r.ptr r.len r.cap)):E.p h q r ll[n]:=by
 obtain⟨rs,g,j,h3⟩:=bM.kI x;obtain⟨b,o,v,e2,i⟩:=g.elem n (rs[n]'i6) (qc i6);have d:=i.1;have c:f8 h ((⟨b,o,eH⟩:f7).add (n*1))=dB (.slice (rs[n]'i6).ptr (rs[n]'i6).len (rs[n]'i6).cap):=by rw[add_eq];exact d
 have e:=h3 n i6 f;generalize rs[n]'i6=r' at c e;obtain⟨m,l1,u⟩:=r;obtain⟨w,l2,k⟩:=r'
 grind
end
theorem Eo{α:Type}{l:List α}(c:l.Nodup){a b:Nat}(e:a<i4 l)(f:b<i4 l)(h:l[a]=l[b]):a=b:=by
 have d:=q7.1 c
 grind
theorem aa.bO{B:aw}{h0 h:f9}{As:List HP}(H:aa B h0 h As)(L:List Nat)(d:∀j∈L,j<i4 As:=by simp)(e:L.Nodup:=by decide):aa B h0 h (L.map λj=>As.getD j emp):=by
 refine H.pick (λi=>if h:i<i4 L then L[i]else As.length+i) (λa b c=>?_) λi A2 f=>?_
 .split at c<;>split at c
  .exact Eo e _ _ c
  .have:=d _ (qe (l:=L) (n:=a) i6);omega
  .have:=d _ (qe (l:=L) (n:=b) i6);omega
  .omega
 grind
theorem St.mk'{B:aw}{h0:f9}{As:List HP}{Q:f9->Prop}(x:∀h',aa B h0 h' As->Q h'):St B h0 As Q:=λBs h' H=>x h' (H.take Bs.length λi A a=>j1)
theorem St.here{B:aw}{h0 h:f9}{As:List HP}{Q:f9->Prop}(x:St B h0 As Q)(H:aa B h0 h As):Q h:=x [] h H
theorem St.mono{B:aw}{h0:f9}{As:List HP}{Q a:f9->Prop}(x:St B h0 As Q)(b:∀h,Q h->a h):St B h0 As a:=λBs h' H=>b _ (x Bs h' H)
theorem St.and{B:aw}{h0:f9}{As:List HP}{Q a:f9->Prop}(x:St B h0 As Q)(y:St B h0 As a):St B h0 As λh=>Q h/\a h:=λBs h' H=>⟨x Bs h' H,y Bs h' H⟩
theorem aa.aI{B:aw}{h0 h:f9}{As:List HP}(H:aa B h0 h As)(k:Nat)(L:List Nat)(m:k<=i4 As:=by simp)(e:∀j∈L,j<k:=by simp)(g:L.Nodup:=by decide):aa B h0 h (L.map (λj=>As.getD j emp)++As.drop k):=by
 refine H.pick (λi=>if h:i<i4 L then L[i]else k+(i-i4 L)) (λa b c=>?_) λi A2 o=>?_
 .split at c<;>split at c
  .exact Eo g _ _ c
  .have:=e _ (qe (l:=L) (n:=a) j1);omega
  .have:=e _ (qe (l:=L) (n:=b) i6);omega
  .omega
 .by_cases d:i<i4 L
  .have f:=e _ (qe d)
   grind
  grind
section
variable {E:jm α β} {C:Ctx} {e:Nat} {B:aw} {rs:List α} {ll:List β}
def Fix(E:jm α β)(k:Nat)(f:α->aW)(h:f9)(q:aw)(s:Sl)(rs:List α)(a:List β):Prop:=Seq h q s k f rs/\rs.length=i4 a/\∀(i:Nat) r l,rs[i]?=dB r->a[i]?=dB l->E.p h q r l
theorem Fix.ac(x:Fix E k f h q s rs ll)(a:aS q h h'):Fix E k f h' q s rs ll:=⟨x.1.ac a,x.2.1,λi r l b c=>E.loc (x.2.2 i r l b c) a⟩
theorem Fix.mono{q':aw}(x:Fix E k f h q s rs ll)(a:∀b,q b->q' b):Fix E k f h q' s rs ll:=⟨x.1.mono a,x.2.1,λi r l c d=>E.mono (x.2.2 i r l c d) a⟩
abbrev oz(E:jm α β)(k:Nat)(f:α->aW)(h:f9)(s:Sl)(rs:List α)(a:List β):Prop:=Fix E k f h (λb=>b<h.size) s rs a
theorem oz.up(x:oz E k f h s rs ll)(a:aS (λb=>b<h.size) h h'):oz E k f h' s rs ll:=(Fix.ac x a).mono λ_ c=>qT c a.1
theorem Fix.row(x:Fix E k f h q s rs ll){i:Nat}(a:i<i4 ll):E.p h q (rs[i]'(by rw[x.2.1];exact a)) ll[i]:=x.2.2 i _ _ (qc _) (qc _)
theorem bM.fix(x:(bM E k f).p h q s ll):∃rs,Fix E k f h q s rs ll:=x
theorem Fix.elt(x:Fix E k f h q s rs ll):(bM E k f).p h q s ll:=⟨rs,x⟩
def dn(E:jm α β)(k:Nat)(f:α->aW)(s:Sl)(rs:List α)(a:List β):HP:=⟨λh q=>Fix E k f h q s rs a,λx b=>x.ac b,λx c=>x.mono c⟩
theorem aa.HD(H:aa B h0 h As)(i:Nat)(m:As[i]?=dB (bY e s k f E ll))(o:∀x,i4 (f x)=k):∃rs,aa B h0 h (As.set i (dn E k f s rs ll)):=by
 have g:i<i4 As:=(ql.1 m).1;have p:aa B h0 h (As.set i (HP.ex λrs=>dn E k f s rs ll)):=H.fN i m λq ⟨rs,v,a,b,c,d,e⟩=>⟨rs,a.seq o λx u=>(b x u).1,d,λi r l t n=>E.mono (e i r l t n) c⟩
 obtain⟨rs,j⟩:=p.Vf i (zy g);exact⟨rs,by rw[yx]at j;exact j⟩
theorem aa.dZ(H:aa B h0 h As)(i:Nat)(a:As[i]?=dB (dn E k f s rs ll)):oz E k f h s rs ll:=H.at i a
theorem aa.Ep(d:C.Ok)(H:aa B h0 h As)(f:C.T.get t=dB ti){K:f7->f9->Prop}(e:∀a h',aS (λb=>b<h.size) h h'->aa B h0 h' (As++[ak a t ti.zero])->K a h'):
  un C.P (yR t eS (.tuple #[])) h K:=
 AN d f λa h' x y c _=>e a h' (c.mono λ_ _ _=>trivial) (H.comp (KO x y c))
theorem aa.Jb(q:C.Ok)(H:aa B h0 h As)(f:α->aW)(D:bV C.toBX t e k z by_)(i:0<by_/\by_<=128)(d:α)(s:f d=z)(l:i4 z=k){A E:IntKind}{n o:Int}(m c:Nat)(r:n=m)(u:o=c)(j:m<=c)(g:c<=2^32)
  {K:Sl->f9->Prop} (v:∀a h',a.len=m->aS (λb=>b<h.size) h h'->aa B h0 h' (As++[aq e a k f (qf m d)])->K a h'):
  bI C.P (zx t (.int A n) (.int E o)) (.one (.sc .slc)) h K:=
 run_make q D i d s l m c r u j g λa h' x y w p _=>v a h' (by rw[x.len];simp) (p.mono λ_ _ _=>trivial) (H.comp (KN i5 x y p))
end
section
variable {C:Ctx} {B:aw} {e:Nat}
theorem Own.abA(z:C.Ok)(p:Own h e s k f l)(u:∀x,i4 (f x)=k)(I:C.T.get t=dB i){x:Int}(n:Nat)(H:x=n)(r:n<i4 l)(j:Nat)(vs:aW)(J:j+i4 vs<=k){m:fz}(y:α)(E:m.cells=vs.toArray)(q:i.size=i4 vs)
  (g:vs.all (·.oneCell')=eS) (A:f y=(f l[n]).take j++vs++(f l[n]).drop (j+i4 vs)) {K:f9->Prop} (D:∀h',Own h' e s k f (l.set n y)->aS (λb=>¬s.on b) h h'->K h'):
  ∃a:f7,(s.ptr=dB a/\0<=x/\x<((s.len:Nat):Int))/\aj C.P (qF t (.pointer (dB ((a.add (x.toNat*k)).add j))) m) h λ_ h'=>K h':=by
 subst H;rcases p.head with⟨_,_,h3⟩|⟨b,rest,h1,h2,h3,h4⟩
 .subst h3;simp at r
 .refine⟨_,⟨h1,i6,by rw[p.len];omega⟩,?_⟩;refine aj.bind (aj.pure' ?_);refine aj.bind (aj.always (eV z.toOk I) ?_);rw[E,q];simp only[yT,ne_eq,not_true,if_false];rw[add_eq,add_eq,wo,qj];have o:l=l.take n++l[n]::l.drop (n+1):=js
  have d:l.set n y=l.take n++y::l.drop (n+1):=w9.trans (g0 r);have w:i4 ((l.take n).flatMap f)=n*k:=by rw[dX u,qH,wM i6]
  have G:=u l[n];have v:f l[n]=(f l[n]).take j++((f l[n]).drop j).take vs.length++(f l[n]).drop (j+i4 vs):=by rw[qm,<-zD,qy,qy]
  refine fY (e:=e) (pre:=(l.take n).flatMap f++(f l[n]).take j) (old:=((f l[n]).drop j).take vs.length) (post:=(f l[n]).drop (j+i4 vs)++((l.drop (n+1)).flatMap f++rest)) ?_ ?_ ?_ ?_ ?_
  .grind
  .simp;omega
  .grind
  .intro c B;exact qS.1 g c B
  .refine D _ ⟨by rw[zf];exact p.len,.inr ⟨b,rest,h1,?_,h3,h4⟩⟩ (aS.jk h2 λF=>F ⟨0,h1⟩);rw[iX h2,g0 i5,d,zb,zg,A];simp
theorem aa.abA(o:C.Ok)(H:aa B h0 h As)(g:Nat)(b:As[g]?=dB (aq e s k f l))(r:∀x,i4 (f x)=k)(E:C.T.get t=dB i){x:Int}(n:Nat)(D:x=n)(p:n<i4 l)(j:Nat)(vs:aW)(u:j+i4 vs<=k){d:fz}(y:α)(A:d.cells=vs.toArray)(m:i.size=i4 vs)
  (c:vs.all (·.oneCell')=eS) (q:f y=(f l[n]).take j++vs++(f l[n]).drop (j+i4 vs)) {K:f9->Prop} (v:∀h',aa B h0 h' (As.set g (aq e s k f (l.set n y)))->K h'):
  ∃a:f7,(s.ptr=dB a/\0<=x/\x<((s.len:Nat):Int))/\aj C.P (qF t (.pointer (dB ((a.add (x.toNat*k)).add j))) d) h λ_ h'=>K h':=
 (H.own g b).abA o r E n D p j vs u y A m c q λh' z w=>v h' (H.nQ g b w z)
end
def HP.all:List HP->HP
 |[]=>emp
 |A::L=>A.sep (HP.all L)
variable {L:List HP}
section
variable {B:aw} {A:HP}
theorem aa.pk:∀{L:List HP} {As:List HP},aa B h0 h (HP.all L::As)->aa B h0 h (L++As)
 |[],_,H=>H.rest
 |A::L,As,H=>by
  have c:aa B h0 h (HP.all L::A::As):=H.sZ;have d:=aa.pk c;exact d.pick (λi=>if i=0 then L.length else if i<=i4 L then i-1 else i) (λa b e=>j1) λi X f=>j1
theorem aa.closeAll:∀(L:List HP) {As:List HP},aa B h0 h (L++As)->aa B h0 h (HP.all L::As)
 |[],As,H=>((H.comp (.one (A:=emp) (aS.refl _ _) A0)).aZ)
 |A::L,As,H=>by
  have c:aa B h0 h (L++(A::As)):=H.pick (λi=>if i<i4 L then i+1 else if i=i4 L then 0 else i) (λa b d=>j1) λi X e=>j1
  exact(aa.closeAll L c).mh
theorem aa.HE{P:Prop}(H:aa B h0 h (A.and P::As)):aa B h0 h (A::As)/\P:=⟨H.aeb 0 i5,H.fact 0 i5⟩
theorem aa.toHE{P:Prop}(H:aa B h0 h (A::As))(p:P):aa B h0 h (A.and P::As):=H.aiN 0 i5 p
end
def fC{α:Type}(e:TypeId)(s:Sl)(b:TypeId)(k:Nat)(f:α->aW)(a:List (List α)):HP:=
 HP.ex λrs:List Sl=>(HP.all (aq e s 1 bx rs::bu b k f rs a)).and (i4 rs=i4 a)
section
variable {C:Ctx} {B:aw} {e:Nat}
theorem aa.CL(H:aa B h0 h (fC e s e2 k f ll::As)):∃rs:List Sl,i4 rs=i4 ll/\aa B h0 h ((aq e s 1 bx rs::bu e2 k f rs ll)++As):=by obtain⟨rs,H⟩:=H.sI;obtain⟨H,a⟩:=H.HE;exact⟨rs,a,H.pk⟩
theorem aa.Et{rs:List Sl}(a:i4 rs=i4 ll)(H:aa B h0 h ((aq e s 1 bx rs::bu e2 k f rs ll)++As)):aa B h0 h (fC e s e2 k f ll::As):=
 ((aa.closeAll _ H).toHE a).wn (F:=λrs:List Sl=>(HP.all (aq e s 1 bx rs::bu e2 k f rs ll)).and (i4 rs=i4 ll)) rs
theorem aa.ww(H:aa B h0 h As)(e a k:Nat)(f:α->aW):aa B h0 h (fC e ⟨eH,0,0⟩ a k f []::As):=
 aa.Et (rs:=[]) i5 ((H.nil e 1 bx).aZ)
theorem aa.HG{Bs:List HP}(H:aa B h0 h (As++Bs)):aa B h0 h As:=H.pick id (λ_ _ h=>h) λi A a=>j1
theorem aa.Cb(H:aa B h0 h (fC e s e2 k f ll::As))(a:∀x,i4 (f x)=k):fm h s k f ll:=by obtain⟨rs,b,H⟩:=H.CL;exact aa.IY (aa.HG H) b a
theorem aa.pM(H:aa B h0 h (fC e s e2 k f ll::As)):s.len=i4 ll/\s.len<=s.cap:=by obtain⟨rs,a,H⟩:=H.CL;exact⟨by rw[(H.own 0 i5).len,a],(H.own 0 i5).cap⟩
theorem aa.CM(b:C.Ok){r:Sl}{x:List α}(H:aa B h0 h (fC e s e2 k f ll::aq e2 r k f x::As))(g:bV C.toBX t e 1 [.slice eH 0 0] 24)(j:i4 ll+1<=2^32){ty:Nat}{K:Sl->f9->Prop}
  (c:∀a h',aa B h0 h' (fC e a e2 k f (ll++[x])::As)->K a h'):
  bI C.P (zE t 1 #[(0,.slice r.ptr r.len r.cap)]) (.one (.sc .slc)) h λv d=>bI C.P (zo #[t,t] ty #[.slice s.ptr s.len s.cap,.slice v.ptr v.len v.cap]) (.one (.sc .slc)) d K:=by
 obtain⟨rs,i,H⟩:=H.CL;refine H.push b 0 i5 g i5 i7 (λ_=>rfl) jN r i5 i7 i6 λa h' l=>c a h' ?_;refine aa.Et (rs:=rs++[r]) j1 ?_;rw[pJ i]
 grind
end
namespace Gf
theorem OK{p:UInt8->Prop}(h:∀n,n<256->p (zL n))(a:UInt8):p a:=by
 have:=h a.toNat (UInt8.toNat_lt a)
 rwa [UInt8.ofNat_toNat]at this
def x2(a:UInt8):UInt8:=(a<<<1)^^^(if a&&&0x80=0 then 0 else 0x1b)
def x3(a:UInt8):UInt8:=x2 a^^^a
def pw:Nat->UInt8
 |0=>1
 |n+1=>x3 (pw n)
theorem aff(a b c:UInt8):(a^^^b)&&&c=(a&&&c)^^^(b&&&c):=by apply UInt8.toBitVec_inj.1;ext i hi;simp[Bool.and_xor_distrib_right]
theorem afg(a b:UInt8):(a^^^b)<<<1=(a<<<1)^^^(b<<<1):=by apply UInt8.toBitVec_inj.1;simp[BitVec.shiftLeft_xor_distrib]
theorem OL:∀a:UInt8,a&&&0x80=0∨a&&&0x80=0x80:=OK j5
theorem agU(a b c d:UInt8):(a^^^b)^^^(c^^^d)=(a^^^c)^^^(b^^^d):=by ac_rfl
theorem agV(a b:UInt8):x2 (a^^^b)=x2 a^^^x2 b:=by
 unfold x2;rw[aff,afg];rcases OL a with ha|ha<;>rcases OL b with hb|hb<;>rw[ha,hb]
 .simp
 .grind
 .grind
 .rw[agU];simp
theorem agW(a b:UInt8):x3 (a^^^b)=x3 a^^^x3 b:=by unfold x3;rw[agV,agU]
def wW:Nat->UInt8->UInt8
 |0,a=>a
 |n+1,a=>x3 (wW n a)
theorem TO(a b:UInt8):∀n,wW n (a^^^b)=wW n a^^^wW n b
 |0=>rfl
 |n+1=>by simp only[wW,TO a b n,agW]
theorem KQ(a:UInt8)(m:Nat):∀n,wW (n+m) a=wW n (wW m a)
 |0=>by simp[wW]
 |n+1=>by rw[Nat.add_right_comm];simp only[wW,KQ a m n]
theorem OM:∀n,wW n 0=0
 |0=>rfl
 |n+1=>by rw[wW,OM n];rfl
theorem Cc:∀n,pw n=wW n 1
 |0=>rfl
 |n+1=>by rw[pw,wW,Cc n]
def ajs:Nat:=939374623831894136699086600277250597547650664638770418422125146541797353646788332867483593573384618611044815625336497665827114626705134492515730415652478061620339993830966980270842846318821775850471098591710629241171812800746666233448222972174585295916389942636813666312872914849454985560152530477328703759683306625234997237483834721220409437442253146756845415190424543171129629468776480674528486868811725071010351012234056630775688111116293610821126543142160426617079940511630006820862697466582575257349116925728488930366609138264019883664906661504235885380294353134295748489096855100647154935187045898006656778240
def lg(a:UInt8):Nat:=(ajs>>>(8*a.toNat))%256
theorem Jc:∀a:UInt8,lg a<255:=OK j5
theorem Vh:∀a:UInt8,a≠0->pw (lg a)=a:=OK j5
theorem Vi:∀n,n<255->lg (pw n)=n:=j5
theorem agX:pw 255=1:=k8
theorem Vj:∀n,n<255->pw n≠0:=j5
theorem XO(n:Nat):pw (n+255)=pw n:=by rw[Cc,KQ,<-Cc 255,agX,<-Cc]
theorem XP(n:Nat):pw (n%255)=pw n:=by
 have:∀k m,pw (m+255*k)=pw m:=by
  intro k
  induction k with
  |zero=>simp
  |succ k ih=>intro m;rw[Nat.mul_succ,<-wX,XO,ih]
 have h:=this (n/255) (n%255)
 grind
def mul(a b:UInt8):UInt8:=if a=0∨b=0 then 0 else pw ((lg a+lg b)%255)
def inv(a:UInt8):UInt8:=if a=0 then 0 else pw ((255-lg a)%255)
theorem mul_zero(a:UInt8):mul a 0=0:=by simp[mul]
theorem zero_mul(a:UInt8):mul 0 a=0:=rfl
theorem mul_comm(a b:UInt8):mul a b=mul b a:=by
 unfold mul
 grind
theorem ON(a b:UInt8)(d:a≠0):mul a b=wW (lg a) b:=by
 by_cases c:b=0
 .subst c;rw[mul_zero,OM]
 .rw[mul,g9 j1,XP,Cc,KQ,<-Cc,Vh b c]
theorem kr(a b c:UInt8):mul a (b^^^c)=mul a b^^^mul a c:=by
 by_cases d:a=0
 .subst d;simp[zero_mul]
 .rw[ON _ _ d,ON _ _ d,ON _ _ d,TO]
theorem TP(a b c:UInt8):mul (a^^^b) c=mul a c^^^mul b c:=by rw[mul_comm,kr,mul_comm c a,mul_comm c b]
theorem XQ{a b:UInt8}(c:a≠0)(d:b≠0):mul a b≠0:=by rw[mul,g9 j1];exact Vj _ (yW _ i7)
theorem XR{a b:UInt8}(c:a≠0)(d:b≠0):lg (mul a b)=(lg a+lg b)%255:=by rw[mul,g9 j1,Vi _ (yW _ i7)]
theorem mul_assoc(a b c:UInt8):mul (mul a b) c=mul a (mul b c):=by
 by_cases f:a=0
 .subst f;rfl
 by_cases d:b=0
 .subst d;simp[zero_mul,mul_zero]
 by_cases e:c=0
 .subst e;simp[mul_zero]
 rw[mul,g9 (by simp[XQ f d,e]),XR f d,mul,g9 (by simp[f,XQ d e]),XR d e]
 grind
theorem agY:lg 1=0:=rfl
theorem one_mul(a:UInt8):mul 1 a=a:=by
 by_cases b:a=0
 .subst b;rfl
 .rw[mul,g9 j1,agY,wo,XP,Vh a b]
theorem mul_one(a:UInt8):mul a 1=a:=by rw[mul_comm,one_mul]
theorem agZ{a:UInt8}(b:a≠0):inv a≠0:=by rw[inv,g9 b];exact Vj _ (yW _ i7)
theorem Cd{a:UInt8}(b:a≠0):mul a (inv a)=1:=by
 have c:=Jc a;rw[mul,g9 (by simp[b,agZ b]),inv,g9 b,Vi _ (yW _ i7)];have:(lg a+(255-lg a)%255)%255=0:=i6
 rw[this];rfl
end Gf
structure Pow where
 off:Bool
 fuse:Option Nat
 offs:Int
def Pow.new:Pow:=⟨eX,eH,0⟩
def Pow.step(w:Pow):Bool×Pow:=
 if w.off then(eX,w)else match w.fuse with
 |none=>(eS,w)
 |some 0=>(eX,⟨eS,dB 0,Go.IntKind.wrap .i64 (w.offs+1)⟩)
 |some (k+1)=>(eS,⟨eX,dB k,w.offs⟩)
structure be where
 room:Nat
 l:ct
 wait:Nat
 laid:ct
 has:Bool
 lost:Bool
def be.new(a:Nat):be:=⟨a,[],0,[],eX,eX⟩
def be.append(w:Pow)(d:be)(b:aL):Int×Pow×be:=
 if b.length≠64 then(1,w,d)
 else if d.lost then(5,w,d)
 else if d.room<=i4 d.l then(7,w,d)
 else if w.off then(14,w,d)
 else if w.step.1 then(0,w.step.2,{d with l:=d.l++[b],wait:=d.wait+1,laid:=[],has:=eX})
 else(14,w.step.2,{d with l:=d.l++[b],wait:=d.wait+1})
def be.sync(w:Pow)(d:be):Int×Pow×be:=
 if d.lost then(5,w,d)
 else if w.step.1 then(0,w.step.2,{d with wait:=0,laid:=[],has:=eX})
 else(14,w.step.2,d)
def be.rewrite(w:Pow)(d:be)(l:ct):Int×Pow×be:=
 if !l.all (λb=>decide (i4 b=64))then(1,w,d)
 else if d.lost then(5,w,d)
 else if d.room<i4 l then(7,w,d)
 else if w.off then(14,w,d)
 else if w.step.1 then(0,w.step.2,{d with l:=l,wait:=0,laid:=[],has:=eX})
 else(14,w.step.2,{d with laid:=l,has:=eS})
def be.Eu(d:be):be:={d with lost:=eS,l:=[],wait:=0,laid:=[],has:=eX}
abbrev aD:=List (Option be)
def aT(ds:aD)(slot:Int):Option be:=if 0<=slot/\slot<64 then(ds[slot.toNat]?).join else eH
def ck(ds:aD)(slot:Int)(d:be):aD:=ds.set slot.toNat (dB d)
def isLive(ds:aD)(slot:Int):Bool:=match aT ds slot with|some d=>!d.lost|none=>eX
def aK(ds:aD)(a:av):av:=a.filter (isLive ds)
def gv(w:Pow)(ds:aD)(slot:Int)(b:aL):Int×Pow×aD:=
 match aT ds slot with
 |none=>(if b.length≠64 then 1 else 5,w,ds)
 |some d=>((d.append w b).1,(d.append w b).2.1,ck ds slot (d.append w b).2.2)
def ic(w:Pow)(ds:aD)(slot:Int):Int×Pow×aD:=
 match aT ds slot with
 |none=>(5,w,ds)
 |some d=>((d.sync w).1,(d.sync w).2.1,ck ds slot (d.sync w).2.2)
def lM:List (Int×aL)->Pow->aD->Int×Pow×aD
 |[],w,ds=>(0,w,ds)
 |x::l,w,ds=>let r:=gv w ds x.1 x.2;if r.1=0 then lM l r.2.1 r.2.2 else r
def fp:av->Pow->aD->Int×Pow×aD
 |[],w,ds=>(0,w,ds)
 |x::l,w,ds=>let r:=ic w ds x;if r.1=0 then fp l r.2.1 r.2.2 else r
theorem ut(x:Int)(l:av)(w:Pow)(ds:aD):fp (x::l) w ds=if(ic w ds x).1=0 then fp l (ic w ds x).2.1 (ic w ds x).2.2 else ic w ds x:=rfl
theorem xg(x:Int×aL)(l:List (Int×aL))(w:Pow)(ds:aD):lM (x::l) w ds=if(gv w ds x.1 x.2).1=0 then lM l (gv w ds x.1 x.2).2.1 (gv w ds x.1 x.2).2.2 else gv w ds x.1 x.2:=rfl
def cL(l:av):av:=((qn 64).map λi:Nat=>(i:Int)).filter λi=>decide (i∈l)
def layAll(l:List (Int×aL))(w:Pow)(ds:aD):Int×Pow×aD:=
 let r:=lM l w ds
 if r.1=0 then fp (cL (l.map qD)) r.2.1 r.2.2 else r
theorem HI(l:av):l.flatMap az=l.map (Value.int .i64):=by
 induction l with
 |nil=>rfl
 |cons a t ih=>rw[zg,ih];rfl
theorem LU{w:World}{e:TypeId}{b:Nat}{rest:aW}{l:av}(c:w.heap[b]?=dB (.cells (l.flatMap az++rest).toArray e (0,0))):Sort.Holds (Value.int .i64) w b 0 l.toArray:=by
 intro j d;have a:j<i4 l:=j1
 refine⟨?_,by simp[World.frozen?,c]⟩;rw[HI]at c;have:(l.map (Value.int .i64)++rest)[j]?=dB (xU ka l[j]):=j1
 simp[World.cell?,c,this,a]
theorem OO(l l':av)(rest:aW)(a:i4 l'=i4 l):Sort.putCells (Value.int .i64) 0 l'.toArray (l.flatMap az++rest).toArray=(l'.flatMap az++rest).toArray:=by
 rw[HI,HI];simp only[Sort.putCells,]
 grind
theorem OP{P:Program}{id:FuncId}(u:∀(fy off cap:Nat) (m:av) (w:World),Sort.Holds (Value.int .i64) w fy off m.toArray->fy<w.heap.size->i4 m<4611686018427387904->
   Calls P id #[.slice (dB ⟨fy,off,eH⟩) m.length cap] w λe w'=>e=.returned (.tuple #[])/\∃n os,w'=Sort.grow (Sort.putRow (Value.int .i64) (Sort.ahead w n) fy off (m.mergeSort λx y=>decide (x<=y)).toArray) os)
  (r:∀(p:bL) (cap:Nat) (w:World),Calls P id #[.slice p 0 cap] w λe w'=>e=.returned (.tuple #[])/\w'=w)
  {e:TypeId} {s:Sl} {l:av} {h:f9} (q:Own h e s 1 az l) (A:i4 l<2^40):
  ai P id #[.slice s.ptr s.len s.cap] h λv h'=>v=.tuple #[]/\Own h' e s 1 az (l.mergeSort λx y=>decide (x<=y))/\aS (λb=>¬s.on b) h h':=by
 intro w f;have d:=q.len;rcases q.head with⟨h1,h2,h3⟩|⟨b,rest,h1,h2,h3,h4⟩
 .subst h3;rw[d,h1];refine(r eH s.cap w).mono ?_;rintro t w' ⟨rfl,rfl⟩;have B:(([]:av).mergeSort λx y=>decide (x<=y))=[]:=js
  exact⟨_,i5,dC.refl _,i5,j1,by rw[<-f];exact aS.refl _ _⟩
 .rw[h1,d];have j:w.heap[b]?=dB (.cells (l.flatMap az++rest).toArray e (0,0)):=by rw[f];exact h2
  refine(u b 0 s.cap l w (LU j) (lt_of_block j) i6).mono ?_;rintro t w' ⟨rfl,n,os,rfl⟩;have g:=lt_of_block j;have i:i4 (l.mergeSort λx y=>decide (x<=y))=i4 l:=wD l;have a:∀k,k<h.size->(Sort.grow (Sort.putRow (Value.int .i64) (Sort.ahead w n) b 0 (l.mergeSort λx y=>decide (x<=y)).toArray) os).heap[k]?=if b=k then dB (.cells ((l.mergeSort λx y=>decide (x<=y)).flatMap az++rest).toArray e (0,0))else h[k]?:=by
   intro k o;rw[Sort.heap_grow_old _ _ (by simpa[Sort.putRow,Sort.mapBlock,Sort.ahead,f]using o)];simp only[Sort.putRow,Sort.mapBlock,Sort.ahead,ym];by_cases c:b=k
   .subst c;rw[g0 i5,g0 i5,j,qW,Sort.onCells,OO _ _ _ i]
   .rw[g9 c,g9 c,f]
  rw[f]at g;refine⟨_,i5,⟨i5,i5,i5,by simp[Sort.grow,Sort.putRow,Sort.mapBlock,Sort.ahead]⟩,i5,⟨by rw[i];exact d,.inr ⟨b,rest,h1,?_,h3,h4⟩⟩,?_,?_⟩
  .rw[a b g,g0 rfl]
  .grind
  .intro k o z;rw[a k o,g9 λc=>z ⟨0,by rw[h1,c]⟩]
def bB(p:Int×Int×Int):Bool:=decide (p.1>=1)&&(decide (p.1<=16)&&(decide (p.2.1>=1)&&(decide (p.2.1<=4)&&(decide (p.2.2>=1)&&decide (p.2.2<=24)))))
theorem bK(p:Int×Int×Int):bB p=eS↔(1<=p.1/\p.1<=16)/\(1<=p.2.1/\p.2.1<=4)/\1<=p.2.2/\p.2.2<=24:=by simp[bB,and_assoc]
def bp(p:Int×Int×Int):Int:=if bB p then p.1+p.2.1 else 0
def pN(s:Int):Int:=qd kf (qd kf (s*(6364136223846793005:Int))+(1442695040888963407:Int))
def told(s:Int):Int:=qd ke (zr (pN s) (2^min (32:Int).toNat (qz kf)))
def jO(s n:Int):Int:=qd ka (xO (qd kf (told s)) (qd kf n))
theorem wrap_u64(x:Int):qd kf x=x%18446744073709551616:=rfl
theorem wrap_u32(x:Int):qd ke x=x%4294967296:=rfl
theorem oS(s n:Int)(b:0<n:=by omega)(d:n<=2^62:=by omega):0<=jO s n/\jO s n<n:=by
 unfold jO;have c:qd kf n=n:=o5
 rw[c];have a:0<=qd kf (told s):=o5
 have e2:=vf (qd kf (told s)) b;have e:0<=xO (qd kf (told s)) n:=Int.tmod_nonneg n a;rw[Qw.af _];omega
def fi(l:av)(i:Nat):Int:=l.getD i 0
def jz(l:av)(i j:Nat):av:=(l.set i (fi l j)).set j (fi l i)
theorem rU(l:av)(i j:Nat):i4 (jz l i j)=i4 l:=by simp[jz]
def eC(n:Nat)(s:Int)(l:av):Nat->Int×av
 |0=>(s,l)
 |k+1=>(pN (eC n s l k).1,jz (eC n s l k).2 k (k+(jO (eC n s l k).1 ((n-k:Nat):Int)).toNat))
theorem rV(n:Nat)(s:Int)(l:av):∀k,(eC n s l k).2.length=i4 l
 |0=>rfl
 |k+1=>by rw[eC,rU,rV n s l k]
theorem HJ{l:av}{i:Nat}(h:i<i4 l):fi l i∈l:=by rw[fi,qg,qc h];simp
theorem abB{l:av}{i j:Nat}(c:i<i4 l)(b:j<i4 l){x:Int}(a:x∈jz l i j):x∈l:=by
 rcases zQ a with h|h
 .rcases zQ h with h|h
  .exact h
  .rw[h];exact HJ b
 .rw[h];exact HJ c
def upto(n:Nat):av:=(qn n).map λi:Nat=>(i:Int)
theorem gP(n:Nat):i4 (upto n)=n:=by simp[upto]
theorem HL(n:Nat)(s:Int):∀k,k<=n->∀x∈(eC n s (upto n) k).2,0<=x/\x<n
 |0,_,x,hx=>by
  simp only[eC,upto,qo,qK]at hx;omega
 |k+1,hk,x,hx=>by
  have l:k<n->n-k<=2^62->k+(jO (eC n s (upto n) k).1 ((n-k:Nat))).toNat<n:=λf j=>by
   have:=oS (eC n s (upto n) k).1 ((n-k:Nat));omega
  have e:=rV n s (upto n) k;rw[gP]at e;by_cases c:n-k<=2^62
  .refine HL n s k i6 x (abB i6 ?_ hx);omega
  .--beyond any size:what is set is 0 or a member
   have b:∀y∈jz (eC n s (upto n) k).2 k (k+(jO (eC n s (upto n) k).1 ((n-k:Nat))).toNat),y∈(eC n s (upto n) k).2∨y=0:=by
    intro y d;have g:∀i,fi (eC n s (upto n) k).2 i∈(eC n s (upto n) k).2∨fi (eC n s (upto n) k).2 i=0:=λi=>by
     by_cases h:i<(eC n s (upto n) k).2.length
     .exact .inl (HJ h)
     .simp only[fi,];grind
    rcases zQ d with h|h
    .grind
    grind
   rcases b x hx with h|h
   .exact HL n s k i6 x h
   grind
def gC(l:av):av:=l.mergeSort λx y=>decide (x<=y)
theorem Ew(l:av):i4 (gC l)=i4 l:=wD l
theorem AQ(l:av)(x:Int):x∈gC l↔x∈l:=List.mem_mergeSort
def AR(s:Int)(n k:Nat):av:=gC ((eC n s (upto n) k).2.take k)
theorem abC{s:Int}{n k:Nat}(b:k<=n){x:Int}(a:x∈AR s n k):0<=x/\x<n:=
 HL n s k b x (zn ((AQ _ _).1 a))
theorem abD(s:Int)(n k:Nat)(a:k<=n):i4 (AR s n k)=k:=by rw[AR,Ew,qH,rV,gP];omega
def cy(l:Nat):Nat:=if l<=1 then l else if l<=4 then 2 else if l<=9 then 3 else if l<=16 then 4 else 5
def sJ(r:Nat):Nat:=if r=0 then 0 else if r=1 then 1 else if r<=3 then 2 else 3
def lN(l k:Nat):Nat:=
 (if k>1 then 1048576/(k*(k-1))else 1048576/l)+
  (if k<l/cy l then 1048576*cy l/(l*k)else if k=l/cy l then 1048576*cy l*sJ (cy l)/l else 0)
def jT(l:Nat):Nat->Nat
 |0=>0
 |k+1=>jT l k+lN l (k+1)
def gf(l:Nat):av:=(qn l).map λk=>((jT l (k+1):Nat):Int)
theorem gD(l:Nat):i4 (gf l)=l:=by simp[gf]
def KR(t:av)(x:Int):Nat:=(t.findIdx λy=>decide (y>x))+1
theorem CN:∀l,l<=20->∀k,k<=20->lN l k<=2^30:=j5
theorem uS(l:Nat)(a:l<=20):∀k,k<=20->jT l k<=k*2^30
 |0,_=>by simp[jT]
 |k+1,hk=>by
  have:=uS l a k i6;have:=CN l a (k+1) hk;rw[jT];omega
theorem HM:∀l,l<=20->1<=l->0<jT l l:=j5
theorem CO(l:Nat)(h:1<=l):(gf l).getLast?=dB ((jT l l:Nat):Int):=by
 obtain⟨k,rfl⟩:∃k,l=k+1:=⟨l-1,i6⟩
 simp[gf,zt]
def ta(seed id:Int):Int:=qd kf (qd ke ((qG (qz ke) seed^^^(qG (qz ke) (qd ke ((qd ke id)*(2654435761:Int))))).toNat:Nat))
def uu(s:Int)(n:Nat):Nat:=KR (gf n) (jO s (jT n n))
theorem rX(s:Int)(n:Nat)(b:1<=n:=by omega)(a:n<=20:=by omega):uu s n<=n:=by unfold uu KR;have d:=HM n a b;have c:=uS n a n a;have e:=oS s (jT n n);have:=List.findIdx_lt_length_of_exists (p:=λy=>decide (y>jO s (jT n n))) (xs:=gf n) ⟨_,List.mem_of_getLast? (CO n b),j1⟩;rw[gD]at this;omega
def bE(id:Int):Bool:=decide (0<=id)&&decide (id<=65535)
def df(n:Nat)(seed id:Int):av:=AR (pN (pN (ta seed id))) n (uu (pN (ta seed id)) n)
theorem mf{n:Nat}(a:1<=n)(c:n<=20){seed id x:Int}(b:x∈df n seed id):0<=x/\x<n:=abC (rX _ n a c) b
theorem td{n:Nat}(a:1<=n)(b:n<=20)(seed id:Int):i4 (df n seed id)<=n:=by rw[df,abD _ _ _ (rX _ n a b)];exact rX _ n a b
def fT(n:Nat)(l:av):aL:=l.foldl (λr i=>r.set i.toNat 1) (qf n 0)
theorem oT(n:Nat)(l:av):i4 (fT n l)=n:=by
 have:∀(l:av) (r:aL),i4 (l.foldl (λr i=>r.set i.toNat 1) r)=i4 r:=by
  intro l
  induction l with
  |nil=>simp
  |cons a t ih=>grind
 rw[fT,this];simp
def ly(n:Nat)(seed id:Int):aL:=fT n (df n seed id)
theorem OQ(n:Nat)(seed id:Int):i4 (ly n seed id)=n:=oT _ _
def jH(K H h:Nat):aL:=(qn K).map (λj=>Gf.pw ((h+1)*(j+1)%255))++(qn H).map λi=>if i=h then 1 else 0
def bj(K H:Nat):ct:=(qn H).map (jH K H)
theorem xi(K H h:Nat):i4 (jH K H h)=K+H:=by simp[jH]
def db(p:Int×Int×Int)(seed:Int)(ids:av):ct:=
 if bB p then bj p.1.toNat p.2.1.toNat++(ids.filter bE).map (ly (bp p).toNat seed)else[]
theorem oU{α:Type}{f:α->Bool}{l:List α}{k:Nat}(a:k<i4 l):(l.take (k+1)).filter f=if f l[k]then(l.take k).filter f++[l[k]]else(l.take k).filter f:=by
 rw[zl a,]
 grind
abbrev Row:=aL
abbrev aO:=List Row
def scaleB(c:UInt8)(l:Row):Row:=l.map (Gf.mul c)
def cB(c:UInt8)(a to:Row):Row:=zc (λx y=>y^^^Gf.mul c x) a to
def aM(r:Row)(bg:Nat):UInt8:=r.getD bg 0
def aC(m:aO)(i:Nat):Row:=m.getD i []
def iJ(m:aO)(a bg:Nat):Option Nat:=(qn m.length).find? λi=>decide (a<=i)&&(aM (aC m i) bg !=0)
def gW(m:aO)(i j:Nat):aO:=(m.set i (aC m j)).set j (aC m i)
def dD(a bg:Nat)(m:aO)(k:Nat):aO:=m.mapIdx λi r=>if i<k/\i≠a then cB (aM r bg) (aC m a) r else r
def jA(a bg:Nat)(m:aO):aO:=m.set a (scaleB (Gf.inv (aM (aC m a) bg)) (aC m a))
def il(s:Nat×aO)(bg:Nat):Nat×aO:=
 match iJ s.2 s.1 bg with
 |none=>s
 |some i=>(s.1+1,dD s.1 bg (jA s.1 bg (gW s.2 s.1 i)) s.2.length)
def bD(m:aO):Nat->Nat×aO
 |0=>(0,m)
 |c+1=>il (bD m c) c
def dF(m:aO):Nat:=i4 (aC m 0)
def bP(m:aO):Nat:=(bD m (dF m)).1
def aU(n:Nat)(m:aO):Prop:=∀r∈m,i4 r=n
theorem nf(c:UInt8)(l:Row):i4 (scaleB c l)=i4 l:=by simp[scaleB]
theorem bR{c:UInt8}{a t:Row}(h:i4 a=i4 t):i4 (cB c a t)=i4 t:=by simp[cB,h]
theorem bv{m:aO}{i:Nat}(h:i<i4 m):aC m i=m[i]:=by rw[aC,qg,qc h];rfl
theorem ci{n:Nat}{m:aO}(h:aU n m){i:Nat}(a:i<i4 m:=by omega):i4 (aC m i)=n:=by rw[bv a];exact h _ (qe a)
theorem HN{n:Nat}{m:aO}(h:aU n m){i:Nat}{r:Row}(b:i4 r=n):aU n (m.set i r):=λx a=>by
 rcases zQ a with h1|h1
 .exact h x h1
 grind
theorem Jd{P:Nat->Bool}{n:Nat}(h:∀j,j<n->P j=eX):(qn n).find? P=eH:=j1
theorem Vk{P:Nat->Bool}{n k:Nat}(e:k<n)(h:∀j,j<k->P j=eX)(b:P k=eS):(qn n).find? P=dB k:=by
 rw[List.find?_eq_some_iff_append];refine⟨b,qn k,List.range' (k+1) (n-k-1),?_,λa d=>?_⟩
 .rw[yS,yS];have c:n=k+(n-k):=i6
  have e2:n-k=(n-k-1)+1:=i6
  conv=>lhs;rw[c,<-List.range'_append_1 (s:=0) (m:=k) (n:=n-k)]
  rw[wo]
  conv=>lhs;rw[e2,List.range'_succ]
 grind
theorem oA{m:aO}{a bg i:Nat}(h:iJ m a bg=dB i):a<=i/\i<i4 m/\aM (aC m i) bg≠0:=by
 have b:=List.find?_some h;have c:=List.mem_of_find?_eq_some h
 grind
theorem RG{m:aO}{a bg:Nat}(h:iJ m a bg=eH):∀i,a<=i->i<i4 m->aM (aC m i) bg=0:=λi c b=>by
 have:=List.find?_eq_none.1 h i (qK.2 b)
 grind
theorem kV(m:aO)(i j:Nat):i4 (gW m i j)=i4 m:=by simp[gW]
theorem AS{n:Nat}{m:aO}(h:aU n m){i j:Nat}(b:i<i4 m)(a:j<i4 m):aU n (gW m i j):=HN (HN h (ci h a)) (ci h b)
theorem ng(t c:Nat)(m:aO):i4 (jA t c m)=i4 m:=by simp[jA]
theorem te{n:Nat}{m:aO}(h:aU n m){t c:Nat}(a:t<i4 m):aU n (jA t c m):=HN h (by rw[nf];exact ci h a)
theorem nh(t c:Nat)(m:aO)(k:Nat):i4 (dD t c m k)=i4 m:=by simp[dD]
theorem AT{n:Nat}{m:aO}(h:aU n m){t c k:Nat}(b:t<i4 m):aU n (dD t c m k):=λx d=>by
 obtain⟨i,e,rfl⟩:=List.mem_mapIdx.1 d;have a:=h _ (qe e);split
 .rw[bR (by rw[ci h b,a])];exact a
 omega
theorem LV(t c:Nat)(m:aO):dD t c m 0=m:=by apply zp;simp[dD,]
theorem ni{t c k:Nat}{m:aO}{i:Nat}(a:i<i4 m):aC (dD t c m k) i=if i<k/\i≠t then cB (aM (aC m i) c) (aC m t) (aC m i)else aC m i:=by rw[bv (by rw[nh];exact a),bv a];simp[dD]
theorem Ex{t c k:Nat}{m:aO}(b:k<i4 m)(d:k≠t):dD t c m (k+1)=(dD t c m k).set k (cB (aM (aC m k) c) (aC m t) (aC m k)):=by
 apply zp;intro i;simp only[dD,qV,List.getElem?_mapIdx,List.length_mapIdx];by_cases a:k=i
 .subst a;simp only[if_true,b,qc b,qW];rw[g0 ⟨i6,d⟩,bv b]
 grind
theorem LW{t c:Nat}{m:aO}:dD t c m (t+1)=dD t c m t:=by
 simp only[dD,]
 grind
theorem XS{n:Nat}{s:Nat×aO}(h:aU n s.2)(bg:Nat):aU n (il s bg).2/\(il s bg).2.length=i4 s.2:=by
 unfold il;cases hb:iJ s.2 s.1 bg with
 |none=>grind
 |some i=>
  have a:=oA hb;refine⟨AT (te (AS h i6 a.2.1) (by rw[kV];omega)) (by rw[ng,kV];omega),by rw[nh,ng,kV]⟩
theorem gA{n:Nat}{m:aO}(h:aU n m):∀c,aU n (bD m c).2/\(bD m c).2.length=i4 m
 |0=>⟨h,i5⟩
 |c+1=>by
  have:=gA h c;have a:=XS this.1 c;rw[bD]
  grind
theorem abE{s:Nat×aO}(h:s.1<=i4 s.2)(bg:Nat):(il s bg).1<=(il s bg).2.length:=by
 unfold il;cases hb:iJ s.2 s.1 bg with
 |none=>exact h
 |some i=>
  have a:=oA hb;dsimp only;rw[nh,ng,kV];omega
theorem pO(m:aO):∀c,(bD m c).1<=(bD m c).2.length
 |0=>by simp[bD]
 |c+1=>abE (pO m c) c
variable {t t2 e k:Nat} {z:aW} {by_:Nat} {α:Type} {h h0:f9} {p B:aw} {s v:Sl} {f:α->aW} {l l2:List α} {As:List HP}
section
variable {C:Ctx} {ty:Nat}
theorem Own.OR(N:C.Ok)(R:bV C.toBX t e k z by_)(E:∀x,i4 (f x)=k)(r:Own h e s k f l)(Q:Seq h p v k f l2)(A:∀x,∀c∈f x,c.oneCell'=eS)(j:Nat)(V:j<=i4 l){q:bL}{G S:Nat}(g:q=if s.cap=j then s.ptr else s.ptr.map (·.add (j*k)))(B:G=s.len-j){K:Int->f9->Prop}
  (F:∀n h',Own h' e s k f (l.take j++(l2.take (i4 l-j)++l.drop (j+i4 l2)))->aS (λb=>¬s.on b) h h'->K n h'):
  bI C.P (yV #[t,t2] ty #[.slice q G S,.slice v.ptr v.len v.cap]) (.one (.sc (.int .i64))) h K:=by
 unfold bI yV;simp only[wb,w7,qO];refine aj.bind (aj.always (aF (R.under N)) ?_);refine aj.bind (aj.pure' ?_);refine aj.bind (aj.always (R.size N) ?_);have i:=r.len;have o:=Q.len;have O:=r.cap;obtain⟨m,D⟩:=z6 (Nat.min v.len G)
 rw[<-D];have M:m<=i4 l2:=by rw[D,<-o];exact Nat.min_le_left _ _
 have y:m<=i4 l-j:=by rw[D,<-i,B];exact Nat.min_le_right _ _
 have T:m=min l2.length (i4 l-j):=by rw[D,B,i,o]
 have L:=Q.take m M;have X:l2.take (i4 l-j)++l.drop (j+i4 l2)=l2.take m++l.drop (j+m):=by
  rcases Nat.le_total l2.length (i4 l-j)with hh|hh
  .rw[qh hh,show m=i4 l2 by omega,List.take_length]
  .rw[show m=i4 l-j by omega,qY (show l.length<=j+i4 l2 by omega),qY i6]
 rw[X]at F;have H:wJ k m (.slice v.ptr v.len v.cap)=wJ k m (.slice v.ptr m v.cap):=by cases v.ptr<;>rfl
 rw[H];refine aj.bind (ia (v:=⟨v.ptr,m,v.cap⟩) E L ?_);have d:m=0->l.take j++(l2.take m++l.drop (j+m))=l:=λe=>by rw[e];simp
 rcases r.head with⟨h1,h2,h3⟩|⟨b,rest,h1,h2,h3,h4⟩
 .have a:q=eH:=by rw[g,h1];split<;>rfl
  rw[a];subst h3;have:m=0:=by simp at y;exact y
  refine aj.pure' ⟨_,i5,F _ h ?_ (aS.refl _ _)⟩;rw[d this];exact r
 .by_cases w:s.cap=j
  .have a:q=dB ⟨b,0,eH⟩:=by rw[g,g0 w,h1]
   rw[a];have u:m=0:=i6
   refine aj.bind ?_;rw[u];simp only[xI,List.flatMap_nil];exact aj.pure' (aj.pure' ⟨_,i5,F _ h (by rw[d u];exact r) (aS.refl _ _)⟩)
  .have a:q=dB ⟨b,0+j*k,eH⟩:=by rw[g,g9 w,h1];simp only[qW];rw[add_eq]
   rw[a];refine aj.bind ?_;have I:l.flatMap f++rest=(l.take j).flatMap f++((l.drop j).take m).flatMap f++((l.drop (j+m)).flatMap f++rest):=by rw[<-qm,<-zb,<-zb,<-zD,qm (List.take j l),qy,qy]
   rw[I]at h2;refine fY (e:=e) (pre:=(l.take j).flatMap f) (old:=((l.drop j).take m).flatMap f) (post:=(l.drop (j+m)).flatMap f++rest) h2 (by rw[dX E,dX E,qH,qH,q9];congr 1;omega) (by rw[dX E,qH];rw[wM V];omega) ?_ ?_
   .intro c W;obtain⟨x,_,J⟩:=zM.1 W;exact A x c J
   .refine aj.pure' ⟨_,i5,F _ _ ⟨by rw[i,qu,qu,qH,qH,q9];omega,.inr ⟨b,rest,h1,?_,h3,h4⟩⟩ (aS.jk h2 λU=>U ⟨0,h1⟩)⟩;rw[iX h2,g0 i5,zb,zb];simp[qm]
theorem aa.OR(r:C.Ok)(H:aa B h0 h As)(i:Nat)(o:As[i]?=dB (aq e s k f l))(E:bV C.toBX t e k z by_)(u:∀x,i4 (f x)=k)(D:Seq h p v k f l2)(a:∀x,∀c∈f x,c.oneCell'=eS)(j:Nat)(w:j<=i4 l){g:bL}{m q:Nat}(b:g=if s.cap=j then s.ptr else s.ptr.map (·.add (j*k)))(d:m=s.len-j){K:Int->f9->Prop}
  (A:∀n h',aa B h0 h' (As.set i (aq e s k f (l.take j++(l2.take (i4 l-j)++l.drop (j+i4 l2)))))->K n h'):
  bI C.P (yV #[t,t2] ty #[.slice g m q,.slice v.ptr v.len v.cap]) (.one (.sc (.int .i64))) h K:=
 (H.own i o).OR r E u D a j w b d λn h' x y=>A n h' (H.nQ i o y x)
end
def b8(n:Int):UInt8:=zL (n%256).toNat
theorem fa(n:Int):qd kb n=((b8 n).toNat:Int):=by
 have e:((b8 n).toNat)=n%256:=by unfold b8;rw[UInt8.toNat_ofNat'];omega
 rw[e];rfl
abbrev kz:=BitVec 32
def kA(s:kz):kz:=if s&&&1#32=1#32 then(s>>>1)^^^3988292384#32 else s>>>1
def fb:Nat->kz->kz
 |0,s=>s
 |n+1,s=>kA (fb n s)
def mN(s:kz)(x:UInt8):kz:=fb 8 (s^^^BitVec.ofNat 32 x.toNat)
def lG(l:aL):kz:=l.foldl mN 4294967295#32
def mH(l:aL):kz:=4294967295#32^^^lG l
theorem Vl(l:aL)(x:UInt8):lG (l++[x])=mN (lG l) x:=by unfold lG;simp
theorem OS(s:kz):qd ke ((s.toNat:Nat):Int)=(s.toNat:Int):=by unfold qd;simp[qz,vp];omega
theorem Vm(a b:kz):qd ke ((qG (qz ke) (a.toNat:Int)^^^qG (qz ke) (b.toNat:Int)).toNat:Nat)=((a^^^b).toNat:Int):=by show qd ke (((qG 32 (a.toNat)^^^qG 32 (b.toNat)).toNat))=_;rw[w8,w8,vQ,vQ,vR,vR,OS]
theorem aiO(a b:kz):qd ke ((qG (qz ke) (a.toNat:Int)&&&qG (qz ke) (b.toNat:Int)).toNat:Nat)=((a&&&b).toNat:Int):=by show qd ke (((qG 32 (a.toNat)&&&qG 32 (b.toNat)).toNat))=_;rw[w8,w8,vQ,vQ,vR,vR,OS]
theorem LX(n:Int):qd ke n=((qG 32 n).toNat:Int):=by unfold qd;simp[qz,vp,];omega
theorem afh(s:kz):zr (s.toNat:Int) (2^min (1:Int).toNat (qz ke))=((s>>>1).toNat:Int):=by rw[show min (1:Int).toNat (qz ke)=1 from i5,ye _ i7,BitVec.toNat_ushiftRight,Nat.shiftRight_eq_div_pow];simp
theorem TQ(s:kz):((s&&&1#32).toNat:Int)=1↔s&&&1#32=1#32:=by
 constructor
 .intro h;apply BitVec.eq_of_toNat_eq
  grind
 grind
def mj(s:kz):aL:=(qn 4).map λi=>b8 (zr (s.toNat:Int) (2^(8*i)))
theorem CQ(s:kz):i4 (mj s)=4:=rfl
def eG(kind:Int)(a:aL):aL:=[87,115,1,b8 kind]++a++qf (55-i4 a) 0
def eI(kind:Int)(a:aL):aL:=
 if 1<=kind/\kind<=255/\a.length<=55 then eG kind a++mj (mH (eG kind a))++[165]else[]
theorem xu{kind:Int}{a:aL}(h:i4 a<=55):i4 (eG kind a)=59:=by simp[eG];omega
theorem mO{kind:Int}{a:aL}(b:1<=kind)(c:kind<=255)(h3:i4 a<=55):i4 (eI kind a)=64:=by unfold eI;rw[g0 ⟨b,c,h3⟩];simp[xu h3,CQ]
def jU(s:ByteArray):aL:=s.data.toList
theorem HO(s:ByteArray):i4 (jU s)=s.size:=rfl
def ajt(n:Nat):Obj->Obj
 | .cells c elem (lo,hi)=>.cells c elem (if lo==hi then(n,n+1)else(min lo n,max hi (n+1)))
 |o=>o
theorem aj.LY{P:Program}{h:f9}{b n:Nat}{c:Array fz}{e:TypeId}{K:Unit->f9->Prop}(g:h[b]?=dB (.cells c e (0,0)))(k:n=c.size)(i:∀h',(∀x,x≠b->h'[x]?=h[x]?)->h'.size=h.size->(∃f,h'[b]?=dB (.cells c e f))->K () h'):
  aj P (freeze {block:=b,off:=n} 1) h K:=λw a=>by
 refine⟨(),w.freeze {block:=b,off:=n} 1,run_freeze P w _ _,⟨i5,i5,i5,qi _⟩,?_⟩;subst a;have d:(w.freeze {block:=b,off:=n} 1).heap=w.heap.modify b (ajt n):=rfl;refine i _ (λx j=>?_) ?_ ?_
 .grind
 .grind
 .rw[d,ym,g0 i5,g];exact⟨_,i5⟩
section
variable {C:Ctx} {ts:Nat}
theorem afi(d:C.Ok)(v:∃i,C.T.get ts=dB i/\i.cv=.str)(q:∃i,C.T.get t=dB i/\i.cv=.slice e)(z:∃i,C.T.get e=dB i/\i.cv=.int .u8)(s:ByteArray){K:Sl->f9->Prop}(o:∀r h',Sp h h' [tO r 1 aB (jU s)]->K r h'):
  bI C.P (convert ts t (.string s)) (.one (.sc .slc)) h K:=by
 obtain⟨F,n,E⟩:=v;obtain⟨I,u,m⟩:=q;obtain⟨i3,a3,y⟩:=z;have p:C.P.underlying ts=dB .string:=by have:=d.cv n;rw[E]at this;exact uR this
 have A:C.P.underlying t=dB (.slice e):=by have:=d.cv u;rw[m]at this;exact ji this
 have u3:C.P.underlying e=dB (.int .u8):=by have:=d.cv a3;rw[y]at this;exact BZ this
 refine aj.bind (aj.always (aF p) ?_);refine aj.bind (aj.always (aF A) ?_);refine aj.bind (aj.always (aF u3) ?_);refine aj.bind (aj.KE ⟨λw=>(by cases w),λ_ D=>?_⟩);generalize B:Question.cut (Question.appendCap s.size 0 e) D=cc;refine aj.bind (aj.bind (aj.nO (aj.pure' ?_)));obtain⟨cs,a⟩:∃cs:Array fz,cs=s.data.map (λb=>Value.int .u8 b.toNat)++Array.replicate (cc-s.size) (Value.int .u8 0):=⟨_,rfl⟩
 rw[<-a];refine aj.bind (aj.bind (aj.XC ?_));have g:shapeOf (h.push (.cells cs e)) h.size=dB (e,cs.size):=by unfold shapeOf;simp
 rw[g];refine aj.LY (c:=cs) (e:=e) js i5 λh' G k j=>?_;refine aj.pure' ⟨⟨dB ⟨h.size,0,eH⟩,s.size,cc⟩,i5,o _ _ ?_⟩;obtain⟨f,j⟩:=j;refine .one ⟨by rw[k];simp,λb H _=>j1⟩ ?_;refine⟨i5,λi x l=>⟨h.size,0,i5,⟨qi _,by rw[k];simp⟩,?_,A0⟩⟩;rw[add_zero];have J:i<s.data.size:=by have:=(ql.1 l).1;simpa[jU]using this
 unfold f8;simp only[j,Nat.mul_one,wo,];rw[a,Array.getElem?_append_left j1,];have:s.data[i]?=dB x:=by rw[<-l];simp[jU]
 grind
end
section
variable {C:Ctx} {l:aL}
theorem Np(r:C.Ok)(F:bV C.toBX t e 1 z by_)(R:∃i,C.T.get t2=dB i/\i.cv=.str)(W:i4 z=1)(E:0<by_/\by_<=128)
  (v:Own h e s 1 aB l) (x:ByteArray) (ab:i4 l+x.size<=2^32) {ty:Nat} {K:Sl->f9->Prop}
  (B:∀J h',Own h' e J 1 aB (l++jU x)->aS (λb=>¬s.on b) h h'->(∀b,J.on b->s.on b∨h.size<=b)->K J h'):
  bI C.P (zo #[t,t2] ty #[.slice s.ptr s.len s.cap,.string x]) (.one (.sc .slc)) h K:=by
 obtain⟨i2,g1,O⟩:=R;have H:C.P.underlying t2=dB .string:=by have:=r.cv g1;rw[O]at this;exact uR this
 obtain⟨I,u,x2,x3,zv,x4,Q⟩:=F.info r;have p:∀y∈(jU x).flatMap aB,y.oneCell'=eS:=λy V=>by
  obtain⟨b,_,hb⟩:=zM.1 V;exact ib b y hb
 have g:((x.extract 0 x.size).data.map λb=>Value.int .u8 (b.toNat:Int))=((jU x).flatMap aB).toArray:=by
  have e0:x.extract 0 x.size=x:=by apply ByteArray.ext;simp[ByteArray.data_extract]
  rw[e0];apply vn;simp only[xn,jU];exact List.map_eq_flatMap
 unfold bI zo;simp only[wb,w7,qO];refine aj.bind (aj.always (aF (F.under r)) ?_);refine aj.bind (aj.always (F.size r) ?_);refine aj.bind (aj.always (aF H) ?_);refine aj.bind (aj.pure' ?_);simp only[zh,if_false,yb,if_true];refine aj.bind (aj.pure' ?_);have n:=v.len;have w:∀y,i4 (aB y)=1:=λ_=>rfl;have j:=dX w l;have a:=dX w (jU x);have S:=HO x;have m:∀{h:f9} {K:Array fz->f9->Prop},K ((jU x).flatMap aB).toArray h->aj C.P (wJ 1 x.size (.string x)) h K:=λ{h K} hK=>by
  unfold wJ;dsimp only;rw[g];exact aj.pure' hK
 by_cases f:s.len+x.size<=s.cap
 .rw[g0 f];refine aj.bind (m ?_);rcases v.head with⟨p1,p2,p3⟩|⟨b,rest,p1,p2,p3,p4⟩
  .rw[p1];have D:jU x=[]:=qU i6;refine aj.pure' ⟨⟨eH,s.len+x.size,s.cap⟩,i5,B _ _ ⟨?_,.inl ⟨i5,p2,by simp[p3,D]⟩⟩ (aS.refl _ _) ?_⟩
   .simp;omega
   .rintro N ⟨o,d⟩;cases d
  .rw[p1];refine aj.bind ?_;rw[add_eq,wo];have A:i4 ((jU x).flatMap aB)<=i4 rest:=by rw[a,p3];omega
   refine fY (e:=e) (pre:=l.flatMap aB) (old:=rest.take ((jU x).flatMap aB).length) (post:=rest.drop ((jU x).flatMap aB).length) ?_ ?_ ?_ ?_ ?_
   .rw[qm,qy];exact p2
   .rw[qH];exact wM A
   .rw[j,n];omega
   .intro c Y;exact p c (by simpa using Y)
   .refine aj.pure' ⟨⟨dB ⟨b,0,eH⟩,s.len+x.size,s.cap⟩,i5,B _ _ ⟨?_,.inr ⟨b,rest.drop ((jU x).flatMap aB).length,i5,?_,?_,f⟩⟩ ?_ ?_⟩
    .simp;omega
    .rw[iX p2,g0 rfl];simp
    .rw[q9,p3,a];show(s.cap-s.len)*1-i4 (jU x)*1=(s.cap-(s.len+x.size))*1;omega
    .exact aS.jk p2 (λU=>U ⟨0,p1⟩)
    .rintro N ⟨o,d⟩;cases d;exact .inl ⟨0,p1⟩
 .rw[g9 f];have k:Seq h (λ_=>True) s 1 aB l:=v.seq w λ_ _=>trivial;have M:=v.cap;refine aj.bind (aj.always (dj u) ?_);rw[g9 λZ=>by rcases Z.2 with h|h<;>first|exact h|(rw[x3]at h;omega)];refine aj.bind (aj.always (dj u) ?_);have X:=TL (s.len+x.size) s.cap;rw[g9 (by
   have:vo (s.len+x.size) s.cap*I.bytes<=(16*2^32+16*768)*128:=zK i6 (by rw[x3];exact E.2);omega)]
  refine aj.bind (aj.KE ⟨λhf=>(by cases hf),λ_ nn=>?_⟩);refine aj.bind (aj.always (dj u) ?_);refine aj.bind (aj.Hr ?_);refine aj.bind (ia w k ?_);refine aj.bind (m ?_);have L:aH C.P (zeroValue e) zv:=(dj u).bind (by rw[x4];exact .pure);refine aj.bind (aj.always L ?_);rw[Q,El];unfold newRow;refine aj.bind (aj.bind (aj.nO (aj.pure' (aj.pure' ?_))));generalize G:Question.cut (Question.appendCap (s.len+x.size) s.cap e) nn=cc;have q:s.len+x.size<=cc:=by rw[<-G];simp only[Question.cut];omega
  refine⟨⟨dB ⟨h.size,0,eH⟩,s.len+x.size,cc⟩,i5,B _ _ ⟨?_,.inr ⟨h.size,jl z (cc-(s.len+x.size)),i5,?_,?_,q⟩⟩ (aS.push _ _ _) ?_⟩
  .simp;omega
  .simp
  .rw[oR,W]
  .rintro N ⟨o,d⟩;cases d;exact .inr (qi _)
theorem aa.XT(q:C.Ok)(H:aa B h0 h As)(i:Nat)(F:As[i]?=dB (aq e s 1 aB l))(D:bV C.toBX t e 1 z by_)(p:∃i,C.T.get t2=dB i/\i.cv=.str)(w:i4 z=1)(k:0<by_/\by_<=128)
  (x:ByteArray) (o:i4 l+x.size<=2^32) {ty:Nat} {K:Sl->f9->Prop} (A:∀f h',aa B h0 h' (As.set i (aq e f 1 aB (l++jU x)))->K f h'):
  bI C.P (zo #[t,t2] ty #[.slice s.ptr s.len s.cap,.string x]) (.one (.sc .slc)) h K:=by
 obtain⟨u,E,c,v,a⟩:=H;have m:=a i _ F;refine Np q D p w k m.1 x o λf h' d g j=>A f h' ?_;refine aa.CI u E v a (g.mono λb n r y=>r (m.2 b y)) ⟨d,λb n=>⟨d.lt n,?_⟩⟩;rcases j b n with h1|h1
 .exact .inl (m.2 b h1)
 .exact .inr h1
end
structure bU where
 name:ByteArray
 object:Int
 length:Int
 tries:av
structure au where
 seq:Int
 next:Int
 p:Int×Int×Int
 extra:Int
 drives:av
 aA:List bU
def aiP:bU:=⟨⟨#[]⟩,0,0,[]⟩
def pP(l:List bU)(i:Nat):bU:=l.getD i aiP
theorem oV{l:List bU}{i:Nat}(h:i<i4 l:=by omega):pP l i=l[i]:=by unfold pP;grind
def ga(n a b:Int):Bool:=decide (a<=n)&&decide (n<=b)
def nj(c:UInt8):Bool:=(decide (97<=c.toNat)&&decide (c.toNat<=122))||(decide (48<=c.toNat)&&decide (c.toNat<=57))||decide (c.toNat=45)
def kW(s:ByteArray):Bool:=s.data.toList.all nj&&(decide (1<=s.size)&&decide (s.size<=12))
def fO(a b:ByteArray):Bool:=Op.bytesLess a.toList b.toList
def kB(l:av)(most:Int)(i:Nat):Bool:=ga (l.getD i 0) 0 most&&(decide (i=0)||decide (l.getD (i-1) 0<l.getD i 0))
def sK(l:av)(most:Int):Bool:=(qn l.length).all (kB l most)
def countP(p:Int×Int×Int)(n:Int):Int:=if bB p&&decide (0<n)then(n-1)/(p.1*p.2.2)+1 else 0
def iv(m:au)(x:bU):Bool:=
 kW x.name&&(ga x.object 0 (m.next-1)&&(ga x.length 0 (m.p.1*m.p.2.2*8)&&(x.tries.all (ga · 0 15)&&decide ((x.tries.length:Int)=countP m.p x.length))))
def pQ(m:au)(i:Nat):Bool:=
 iv m (pP m.aA i)&&((decide (i=0)||fO (pP m.aA (i-1)).name (pP m.aA i).name)&&!(m.aA.take i).any λy=>decide (y.object=(pP m.aA i).object))
def lH(m:au):Bool:=ga m.seq 1 2147483647&&(ga m.next 0 16777216&&(bB m.p&&ga m.extra 0 16))
def bh(m:au):Bool:=lH m&&(sK m.drives 63&&(decide (i4 m.aA<=12)&&(qn m.aA.length).all (pQ m)))
theorem Ey{p:Nat->Bool}{n i:Nat}(a:i<n)(h:p i=eX):(qn n).all p=eX:=List.all_eq_false.2 ⟨i,qK.2 a,j1⟩
theorem tR{p:Nat->Bool}{n:Nat}(h:∀i,i<n->p i=eS):(qn n).all p=eS:=qS.2 λi a=>h i (qK.1 a)
def cb(n:Int)(k:Nat):aL:=(qn k).map λi=>b8 (zr n (2^(8*(k-1-i))))
theorem cK(n:Int)(k:Nat):i4 (cb n k)=k:=by simp[cb]
def jB(x:bU):aL:=b8 x.name.size::(x.name.data.toList++(cb x.object 3++(cb x.length 2++x.tries.map b8)))
def gE(m:au):aL:=
 if bh m then cb m.seq 4++(cb m.next 4++([b8 m.p.1,b8 m.p.2.1,b8 m.p.2.2,b8 m.extra,b8 m.drives.length]++(m.drives.map b8++(b8 m.aA.length::m.aA.flatMap jB))))else[]
def kQ(seq a c:Int)(b:aL):aL:=eI 2 (cb seq 4++([b8 a,b8 c,b8 b.length]++b))
def iT(b:aL):Nat:=(i4 b+47)/48
def ba(m:au):ct:=(qn (iT (gE m))).map λi:Nat=>kQ m.seq i (iT (gE m)) (((gE m).drop (48*i)).take 48)
theorem XU{m:au}(h:bh m=eS):lH m=eS:=by unfold bh at h;grind
theorem OT{m:au}(h:lH m=eS):(1<=m.seq/\m.seq<=2147483647)/\(0<=m.next/\m.next<=16777216)/\bB m.p=eS/\0<=m.extra/\m.extra<=16:=by unfold lH ga at h;grind
theorem uv{m:au}{c:aL}(h:c∈ba m):i4 c=64:=by obtain⟨i,_,rfl⟩:=qo.1 h;exact mO i7 i7 m9
structure cH where
 object:Int
 block:Int
 id:Int
 p:Int×Int×Int
 seed:Int
 data:aL
theorem pR(n:Int):((b8 n).toNat:Int)=n%256:=by unfold b8;rw[UInt8.toNat_ofNat'];omega
def iQ(r:cH):Bool:=(ga r.object 0 16777215&&(ga r.block 0 7&&bE r.id))&&(bB r.p&&decide ((r.data.length:Int)=r.p.2.2))
def jC(r:cH):aL:=cb r.object 3++(cb r.block 1++(cb r.id 2++([b8 r.p.1,b8 r.p.2.1,b8 r.p.2.2]++(cb r.seed 4++r.data))))
def cD(r:cH):aL:=if iQ r then eI 1 (jC r)else[]
def dI(l:aL):Int:=l.foldl (λn x=>n*256+x.toNat) 0
def gg(c:aL):Option (Int×aL):=
 if c.length=64/\eI ((c.getD 3 0).toNat:Int) ((c.drop 4).take 55)=c then dB (((c.getD 3 0).toNat:Int),(c.drop 4).take 55)else eH
def uw(x:aL):cH:=
 ⟨dI (x.take 3),dI ((x.drop 3).take 1),dI ((x.drop 4).take 2),(dI ((x.drop 6).take 1),dI ((x.drop 7).take 1),dI ((x.drop 8).take 1)),dI ((x.drop 9).take 4),(x.drop 13).take (dI ((x.drop 8).take 1)).toNat⟩
def dS(c:aL):Option cH:=
 match gg c with
 |some (k,x)=>if k=1/\bB (uw x).p=eS/\cD (uw x)=c then dB (uw x)else eH
 |none=>eH
theorem XV(n:Int):cb n 1=[b8 n]:=by simp[cb]
theorem XW(n:Int):cb n 2=[b8 (zr n (2^8)),b8 n]:=by simp[cb,zt]
theorem RH(n:Int):cb n 3=[b8 (zr n (2^16)),b8 (zr n (2^8)),b8 n]:=by simp[cb,zt]
theorem Vn(n:Int):cb n 4=[b8 (zr n (2^24)),b8 (zr n (2^16)),b8 (zr n (2^8)),b8 n]:=by simp[cb,zt]
theorem CR{n:Int}(h0:0<=n:=by omega)(a:n<256:=by omega):dI [b8 n]=n:=by simp only[dI,zA,wu,pR];omega
theorem fdiv_pow(n:Int)(k:Nat):zr n (2^k)=n/(2^k):=ye _ (Int.pow_nonneg i7)
theorem abF{n:Int}(h0:0<=n)(a:n<65536):dI (cb n 2)=n:=by rw[XW,fdiv_pow];simp only[dI,zA,wu,pR];omega
theorem Vo{n:Int}(h0:0<=n)(a:n<16777216):dI (cb n 3)=n:=by rw[RH,fdiv_pow,fdiv_pow];simp only[dI,zA,wu,pR];omega
theorem LZ{n:Int}(h0:0<=n)(a:n<4294967296):dI (cb n 4)=n:=by rw[Vn,fdiv_pow,fdiv_pow,fdiv_pow];simp only[dI,zA,wu,pR];omega
theorem jI(r:cH):iQ r=eS↔(0<=r.object/\r.object<=16777215)/\(0<=r.block/\r.block<=7)/\(0<=r.id/\r.id<=65535)/\bB r.p=eS/\(r.data.length:Int)=r.p.2.2:=by unfold iQ ga bE;grind
theorem pm{r:cH}(h:iQ r=eS):i4 (jC r)=13+i4 r.data/\r.data.length<=24:=by obtain⟨_,_,_,a,b⟩:=(jI r).1 h;have:=(bK r.p).1 a;refine⟨by unfold jC;simp[cK];omega,i6⟩
theorem xy{r:cH}(h:iQ r=eS):i4 (cD r)=64:=by have:=pm h;unfold cD;rw[g0 h];exact mO i7 i7 i6
theorem AU{k:Int}{a:aL}(e:1<=k:=by decide)(f:k<=255:=by decide)(h3:i4 a<=55:=by omega):gg (eI k a)=dB (k,a++qf (55-i4 a) 0):=by
 obtain⟨x,c⟩:=z6 (a++qf (55-i4 a) 0)
 have b:i4 x=55:=j1
 have d:eI k a=[87,115,1,b8 k]++(x++(mj (mH (eG k a))++[165])):=by
  unfold eI;unfold eG
  grind
 have h:((eI k a).getD 3 0)=b8 k:=by rw[d];rfl
 have e2:((eI k a).drop 4).take 55=x:=by
  have:([87,115,1,b8 k]++(x++(mj (mH (eG k a))++[165]))).drop 4=x++(mj (mH (eG k a))++[165]):=rfl
  grind
 have i:((b8 k).toNat)=k:=by rw[pR];omega
 have j:eG k x=eG k a:=by unfold eG;rw[b,c];simp
 have g:eI k x=eI k a:=by
  unfold eI
  grind
 unfold gg;rw[h,e2,i,g0 ⟨mO e f h3,g⟩,c]
theorem Vp{r:cH}(h:iQ r=eS)(y:0<=r.seed/\r.seed<4294967296)(z:aL):uw (jC r++z)=r:=by
 obtain⟨x,w,h3,q,t⟩:=(jI r).1 h;have A:=(bK r.p).1 q;have l1:=cK r.object 3;have l2:=cK r.id 2;have l:=cK r.seed 4;have e:jC r++z=cb r.object 3++([b8 r.block]++(cb r.id 2++([b8 r.p.1]++([b8 r.p.2.1]++([b8 r.p.2.2]++(cb r.seed 4++(r.data++z))))))):=by unfold jC;rw[XV];simp[qm]
 have b:∀(u v:aL) (n:Nat),u.length=n->∀m,(u++v).drop (n+m)=v.drop m:=λu v n c m=>by
  rw[<-zD,<-c,List.drop_left]
 have a:∀(u v:aL) (n:Nat),u.length=n->(u++v).take n=u:=λu v n c=>by rw[<-c,vY]
 have g:(jC r++z).drop 3=[b8 r.block]++(cb r.id 2++([b8 r.p.1]++([b8 r.p.2.1]++([b8 r.p.2.2]++(cb r.seed 4++(r.data++z)))))):=by rw[e];exact b _ _ 3 l1 0
 have j:(jC r++z).drop 4=cb r.id 2++([b8 r.p.1]++([b8 r.p.2.1]++([b8 r.p.2.2]++(cb r.seed 4++(r.data++z))))):=by rw[show 4=3+1 from i5,<-zD,g];rfl
 have o:(jC r++z).drop 6=[b8 r.p.1]++([b8 r.p.2.1]++([b8 r.p.2.2]++(cb r.seed 4++(r.data++z)))):=by rw[show 6=4+2 from i5,<-zD,j];exact b _ _ 2 l2 0
 have k:(jC r++z).drop 7=[b8 r.p.2.1]++([b8 r.p.2.2]++(cb r.seed 4++(r.data++z))):=by rw[show 7=6+1 from i5,<-zD,o];rfl
 have f:(jC r++z).drop 8=[b8 r.p.2.2]++(cb r.seed 4++(r.data++z)):=by rw[show 8=7+1 from i5,<-zD,k];rfl
 have i:(jC r++z).drop 9=cb r.seed 4++(r.data++z):=by rw[show 9=8+1 from i5,<-zD,f];rfl
 have d:(jC r++z).drop 13=r.data++z:=by rw[show 13=9+4 from i5,<-zD,i];exact b _ _ 4 l 0
 have s:dI (((jC r++z).drop 8).take 1)=r.p.2.2:=by rw[f,a _ _ 1 i5,CR]
 unfold uw;rw[s,g,j,o,k,i,d];rw[a [b8 r.block] _ 1 i5,a _ _ 2 l2,a [b8 r.p.1] _ 1 i5,a [b8 r.p.2.1] _ 1 i5,a _ _ 4 l];have t0:(jC r++z).take 3=cb r.object 3:=by rw[e];exact a _ _ 3 l1
 rw[t0,Vo i6 i6,CR,abF i6 i6,CR,CR,LZ i6 i6];have:r.p.2.2.toNat=r.data.length:=i6
 rw[this,vY]
theorem po{r:cH}(h:iQ r=eS)(b:0<=r.seed/\r.seed<4294967296):dS (cD r)=dB r:=by
 have c:=pm h;have a:=((jI r).1 h).2.2.2.1;have e:cD r=eI 1 (jC r):=by unfold cD;rw[g0 h]
 unfold dS;rw[e,AU];dsimp only;rw[Vp h b,g0 ⟨i5,a,e⟩]
theorem Vq{c:aL}{r:cH}(h:dS c=dB r):cD r=c/\iQ r=eS/\bB r.p=eS:=by
 unfold dS at h;cases hc:gg c with
 |none=>rw[hc]at h;cases h
 |some kx=>
  rw[hc]at h;dsimp only at h;by_cases a:kx.1=1/\bB (uw kx.2).p=eS/\cD (uw kx.2)=c
  .rw[g0 a]at h;injection h with h
   subst h;refine⟨a.2.2,?_,a.2.1⟩;by_cases d:iQ (uw kx.2)=eS
   .exact d
   .exfalso;have b:=a.2.2;unfold cD at b;rw[g9 d]at b;unfold gg at hc;rw[<-b]at hc;simp at hc
  .rw[g9 a]at h;cases h
section
variable {C:Ctx} {ts:Nat}
theorem GW:∀(l:aL) (b:ByteArray),l.foldl ByteArray.push b=⟨(b.data.toList++l).toArray⟩
 |[],b=>js
 |x::l,b=>by
  rw[zA,GW l (b.push x)];simp
theorem KS(g:C.Ok)(A:∃i,C.T.get t=dB i/\i.cv=.slice e)(E:∃i,C.T.get ts=dB i/\i.cv=.str)(G:∃i,C.T.get e=dB i/\i.cv=.int .u8){s:Sl}{l:aL}{p:aw}(u:Seq h p s 1 aB l){K:ByteArray->f9->Prop}(q:K ⟨l.toArray⟩ h):
  bI C.P (convert t ts (.slice s.ptr s.len s.cap)) (.one (.sc .str)) h K:=by
 obtain⟨J,y,I⟩:=E;obtain⟨M,B,w⟩:=A;obtain⟨i3,a3,F⟩:=G;have z:C.P.underlying ts=dB .string:=by have:=g.cv y;rw[I]at this;exact uR this
 have H:C.P.underlying t=dB (.slice e):=by have:=g.cv B;rw[w]at this;exact ji this
 have u3:C.P.underlying e=dB (.int .u8):=by have:=g.cv a3;rw[F]at this;exact BZ this
 refine aj.bind (aj.always (aF H) ?_);refine aj.bind (aj.always (aF z) ?_);refine aj.bind (aj.always (aF u3) ?_);have D:=ia (P:=C.P) (f:=aB) (k:=1) (K:=λcs h'=>cs=(l.flatMap aB).toArray/\h'=h) (λ_=>rfl) u ⟨i5,i5⟩;cases hp:s.ptr with
 |none=>
  have:l=[]:=by
   cases l with
   |nil=>rfl
   |cons x r=>obtain⟨b,o,L,_⟩:=u.elem 0 x (rfl);grind
  subst this;exact aj.pure' ⟨⟨#[]⟩,i5,q⟩
 |some a=>
  have d:aj C.P (loadCells a s.len) h λcs h'=>cs=(l.flatMap aB).toArray/\h'=h:=by
   have:wJ 1 s.len (.slice (dB a) s.len s.cap)=loadCells a s.len:=by unfold wJ;simp
   grind
  refine aj.bind (d.mono ?_);rintro _ _ ⟨rfl,rfl⟩;have j:∀(l:aL) (b:ByteArray),aH C.P (forIn (m:=Sem) (l.flatMap aB) b λc r=>match c with
    |xU kb n=>do pure (ForInStep.yield (r.push (zL n.toNat)))
    |_=>do let r<-stuck "bytesToString: byte expected";pure r) (l.foldl ByteArray.push b):=λl=>by
   induction l with
   |nil=>intro b;exact .pure
   |cons x l ih=>
    intro b;have N:(x::l).flatMap aB=Value.int .u8 x.toNat::l.flatMap aB:=rfl;have e2:b.push (zL ((x.toNat:Int)).toNat)=b.push x:=js
    grind
  refine aj.bind (aj.always (v:=l.foldl ByteArray.push ByteArray.empty) ?_ ?_)
  .rw[List.forIn_toArray];exact j l _
  .refine aj.pure' ⟨_,i5,?_⟩;rw[GW];exact q
end
section
variable (le:α->α->Bool)
def jq(a b:α):Bool:=le a b&&le b a
def cC(l l':List α):Prop:=∀x,l.filter (jq le x)=l'.filter (jq le x)
def Sd(l:List α):Prop:=l.Pairwise λa b=>le a b=eS
structure Ord:Prop where
 trans:∀a b c,le a b=eS->le b c=eS->le a c=eS
 total:∀a b,(le a b||le b a)=eS
variable {le}
theorem Ord.Ez(o:Ord le){a b:α}(h:¬le a b=eS):le b a=eS:=by
 have:=o.total a b
 grind
theorem Ord.refl(o:Ord le)(a:α):le a a=eS:=by have:=o.total a a;grind
theorem cC.refl(l:List α):cC le l l:=λ_=>rfl
theorem cC.trans{l1 l2 a:List α}(h:cC le l1 l2)(k:cC le l2 a):cC le l1 a:=λx=>(h x).trans (k x)
theorem cC.symm{l1 l2:List α}(h:cC le l1 l2):cC le l2 l1:=λx=>(h x).symm
theorem cC.app{a b c d:List α}(h:cC le a b)(k:cC le c d):cC le (a++c) (b++d):=λx=>by
 rw[zk,zk,h x,k x]
theorem cC.mem(o:Ord le){l l':List α}(h:cC le l l'){y:α}(a:y∈l'):y∈l:=by
 have b:y∈l'.filter (jq le y):=qB.2 ⟨a,n8⟩;rw[<-h y]at b
 grind
theorem cC.XX(o:Ord le){u v:List α}(h:∀x∈u,∀y∈v,¬le x y=eS):cC le (u++v) (v++u):=λz=>by
 by_cases g:u.filter (jq le z)=[]
 .grind
 .by_cases i:v.filter (jq le z)=[]
  .grind
  .exfalso;obtain⟨x,f⟩:=vD _ g;obtain⟨y,e⟩:=vD _ i;obtain⟨c,b⟩:=qB.1 f;obtain⟨d,a⟩:=qB.1 e;unfold jq at b a;simp only[qx]at b a;exact h x c y d (o.trans _ _ _ b.2 a.1)
theorem cC.OU(o:Ord le){l:List α}(h:cC le [] l):l=[]:=by
 cases l with
 |nil=>rfl
 |cons a l=>exact absurd (cC.mem o h (qQ ..)) js
theorem Ma(o:Ord le):∀(l l':List α),Sd le l->Sd le l'->cC le l l'->l=l'
 |[],l',_,_,h=>(cC.OU o h).symm
 |a::l,[],_,_,h=>absurd (cC.OU o h.symm) js
 |a::l,b::l',s,s',h=>by
  have c:a=b:=by
   have d:le a b=eS:=by
    have:=cC.mem o h (y:=b) (qQ ..);rcases qX.1 this with e|e
    .rw[e];exact o.refl _
    .exact(zu.1 s).1 _ e
   have f:le b a=eS:=by
    have:=cC.mem o h.symm (y:=a) (qQ ..);rcases qX.1 this with e|e
    .grind
    .exact(zu.1 s').1 _ e
   have h3:=h a;have g:jq le a a=eS:=n8
   have e2:jq le a b=eS:=by unfold jq;grind
   grind
  subst c;rw[Ma o l l' (zu.1 s).2 (zu.1 s').2 λx=>by
   have h3:=h x
   grind]
theorem EB(o:Ord le)(l:List α):Sd le (l.mergeSort le)/\cC le l (l.mergeSort le):=by
 refine⟨wF o.trans o.total l,λx=>?_⟩;have f:(l.filter (jq le x)).Pairwise λa b=>le a b=eS:=by rw[List.pairwise_filter];refine List.Pairwise.imp ?_ (List.pairwise_of_forall (l:=l) (R:=λ_ _=>True) λ_ _=>trivial);intro a b _ d e;unfold jq at d e;simp only[qx]at d e;exact o.trans _ _ _ d.2 e.1
 have g:=List.sublist_mergeSort o.trans o.total f List.filter_sublist;have c:=g.filter (jq le x);rw[List.filter_filter]at c;simp only[Bool.and_self]at c;exact c.eq_of_length ((we l le).symm.filter _).length_eq
theorem aed(o:Ord le){l l':List α}(s:Sd le l')(h:cC le l l'):l'=l.mergeSort le:=by obtain⟨a,b⟩:=EB o l;exact Ma o _ _ s a (h.symm.trans b)
theorem Sd.app(o:Ord le){u v:List α}(a:Sd le u)(b:Sd le v)(h:∀x∈u,∀y∈v,le x y=eS):Sd le (u++v):=wK.2 ⟨a,b,h⟩
theorem Sd.left{u v:List α}(h:Sd le (u++v)):Sd le u:=(wK.1 h).1
theorem Sd.right{u v:List α}(h:Sd le (u++v)):Sd le v:=(wK.1 h).2.1
theorem Sd.Gn{u v:List α}(h:Sd le (u++v)):∀x∈u,∀y∈v,le x y=eS:=(wK.1 h).2.2
theorem Sd.at_(o:Ord le){l:List α}(h:Sd le l){i j:Nat}(b:i<=j)(a:j<i4 l):le (l[i]'i6) l[j]=eS:=by
 by_cases e:i=j
 .subst e;exact o.refl _
 .exact q7.1 h i j i6 a i6
theorem XY(o:Ord le){l1 l2 b a f g:List α}(j:Sd le (l1++l2))(p:Sd le (b++a))(n:∀x∈l1,∀y∈a,le x y=eS)(e:∀x∈l2,∀y∈b,¬le x y=eS)
  (i:cC le (l1++b) f) (k:Sd le f) (h:cC le (l2++a) g) (m:Sd le g):Sd le (f++g)/\cC le ((l1++l2)++(b++a)) (f++g):=by
 constructor
 .refine Sd.app o k m λx d y c=>?_;rcases qt.1 (cC.mem o i d)with d|d<;>rcases qt.1 (cC.mem o h c)with c|c
  .exact j.Gn x d y c
  .grind
  .exact o.Ez (e y c x d)
  .exact p.Gn x d y c
 .have l:cC le ((l1++l2)++(b++a)) ((l1++b)++(l2++a)):=by rw[show(l1++l2)++(b++a)=l1++((l2++b)++a)by simp,show(l1++b)++(l2++a)=l1++((b++l2)++a)by simp];exact(cC.refl _).app ((cC.XX o e).app (cC.refl _))
  exact l.trans (i.app h)
end
variable {le:α->α->Bool}
theorem uT(o:Ord le):∀{l l':List α},cC le l l'->i4 l=i4 l'
 |[],l',h=>by rw[cC.OU o h]
 |a::l,l',h=>by
  have f:=cC.mem o h.symm (y:=a) (qQ ..);obtain⟨u,v,j⟩:=List.append_of_mem f;have i:∃(u:List α) (b:α) (v:List α),l'=u++b::v/\(∀x∈u,jq le a x=eX)/\jq le a b=eS:=by
   have n:l'.filter (jq le a)≠[]:=λB=>by
    have:a∈l'.filter (jq le a):=qB.2 ⟨f,n8⟩
    grind
   clear j u v f h
   induction l' with
   |nil=>grind
   |cons c l' ih=>
    by_cases r:jq le a c=eS
    .exact⟨[],c,l',i5,js,r⟩
    grind
  obtain⟨u,b,v,rfl,w,t⟩:=i;have z:jq le a a=eS:=n8
  have g:=h a;have s:u.filter (jq le a)=[]:=wT.2 λx k=>j1
  rw[List.filter_cons_of_pos z,zk,List.filter_cons_of_pos t]at g;have A:a=b:=j1
  have m:cC le l (u++v):=λx=>by
   have k:=h x;rw[zk,]at k;by_cases e:jq le x a=eS
   .have p:u.filter (jq le x)=[]:=wT.2 λy q d=>by
     have:=w y q;unfold jq at this e d;simp only[qx]at e d;rw[o.trans _ _ _ e.2 d.1,o.trans _ _ _ d.2 e.1]at this
     grind
    grind
   grind
  rw[q8,uT o m]
  grind
theorem Je{P:Program}{id:FuncId}(D:∀(fy off cap:Nat) (g:av) (w:World),Sort.Holds (Value.int .i64) w fy off g.toArray->i4 g<=9223372036854775807->i4 g<=cap->
   Calls P id #[.slice (dB ⟨fy,off,eH⟩) g.length cap] w λe w'=>e=.returned (.slice (dB ⟨fy,off,eH⟩) (Lib.compact g).length cap)/\∃q,w'=Sort.putRow (Value.int .i64) (Sort.ahead w q) fy off (Lib.compact g++qf (i4 g-i4 (Lib.compact g)) 0).toArray)
  (z:∀(a:bL) (cap:Nat) (w:World),Calls P id #[.slice a 0 cap] w λe w'=>e=.returned (.slice a 0 cap)/\w'=w)
  {e:TypeId} {s:Sl} {l:av} {h:f9} (u:Own h e s 1 az l) (F:i4 l<2^40):
  ai P id #[.slice s.ptr s.len s.cap] h λv h'=>v=.slice s.ptr (Lib.compact l).length s.cap/\Own h' e ⟨s.ptr,i4 (Lib.compact l),s.cap⟩ 1 az (Lib.compact l)/\aS (λb=>¬s.on b) h h':=by
 intro w o;have f:=u.len;rcases u.head with⟨h1,h2,h3⟩|⟨b,rest,h1,h2,h3,h4⟩
 .subst h3;have x:Lib.compact ([]:av)=[]:=rfl;rw[f,h1];refine(z eH s.cap w).mono ?_;rintro B w' ⟨rfl,rfl⟩;refine⟨_,i5,dC.refl _,by rw[x];rfl,by rw[x];exact⟨i5,.inl ⟨i5,by simpa using h2,i5⟩⟩,by rw[<-o];exact aS.refl _ _⟩
 .rw[h1,f];have r:w.heap[b]?=dB (.cells (l.flatMap az++rest).toArray e (0,0)):=by rw[o];exact h2
  refine(D b 0 s.cap l w (LU r) i6 i6).mono ?_;rintro B w' ⟨rfl,n,rfl⟩;have j:=lt_of_block r;have A:=Lib.compact_length_le l;obtain⟨l',i⟩:∃l',l'=Lib.compact l++qf (i4 l-i4 (Lib.compact l)) 0:=⟨_,rfl⟩
  rw[<-i];have m:i4 l'=i4 l:=by rw[i];simp;omega
  have c:∀k,k<h.size->(Sort.putRow (Value.int .i64) (Sort.ahead w n) b 0 l'.toArray).heap[k]?=if b=k then dB (.cells (l'.flatMap az++rest).toArray e (0,0))else h[k]?:=by
   intro k y;simp only[Sort.putRow,Sort.mapBlock,Sort.ahead,ym];by_cases d:b=k
   .subst d;rw[g0 i5,g0 i5,r,qW,Sort.onCells,OO _ _ _ m]
   .rw[g9 d,g9 d,o]
  rw[o]at j;have p:Own (Sort.putRow (Value.int .i64) (Sort.ahead w n) b 0 l'.toArray).heap e s 1 az l':=⟨by rw[m];exact f,.inr ⟨b,rest,h1,by rw[c b j,g0 rfl],h3,h4⟩⟩
  have t:=p.cut (λ_=>rfl) (Lib.compact l).length i6;rw[i,vY]at t;refine⟨_,i5,⟨i5,i5,i5,js⟩,i5,j1,j1,?_⟩;intro k y E;rw[c k y,g9 λd=>E ⟨0,by rw[h1,d]⟩]
theorem xK(a:av)(s:a.Pairwise (·<=·)):∀m,m<=i4 a->(Lib.compactUpTo a.toArray m).Pairwise (·<·)/\(∀x,x∈Lib.compactUpTo a.toArray m↔∃j,j<m/\a[j]?=dB x)
 |0,_=>⟨by simp[Lib.compactUpTo],λx=>by simp[Lib.compactUpTo]⟩
 |m+1,hm=>by
  obtain⟨v,u⟩:=xK a s m i6;have g:m<i4 a:=i6
  have q:a.toArray[m]! =a[m]:=pa
  rw[Lib.compactUpTo_succ,q];have r:∀j (k:j<m),a[j]'i6<=a[m]:=λj k=>q7.1 s j m i6 g k;by_cases h:Lib.keeps a.toArray m=eS
  .rw[g0 h];have p:m=0∨a[m-1]'i6<a[m]:=by
    by_cases l:m=0
    .exact .inl l
    .right;have f:a.toArray[m-1]! =a[m-1]'i6:=by simp[show m-1<i4 a by omega]
     have w:a[m]≠a[m-1]'i6:=λn=>by
      have:=Lib.keeps_neg (d:=a.toArray) (m:=m) i6 (by rw[q,f];exact n);rw[this]at h;cases h
     have:=r (m-1) i6;omega
   have i:∀x∈Lib.compactUpTo a.toArray m,x<a[m]:=λx t=>by
    obtain⟨j,k,c⟩:=(u x).1 t;rw[qc i6]at c;injection c with c
    rcases p with h0|h0
    .omega
    .have h3:a[j]'i6<=a[m-1]'i6:=by
      by_cases b:j=m-1
      .subst b;exact Int.le_refl _
      .exact q7.1 s j (m-1) i6 i6 i6
     omega
   refine⟨wK.2 ⟨v,js,λx t y z=>?_⟩,λx=>?_⟩
   .rw[qw.1 z];exact i x t
   grind
  .rw[g9 h,List.append_nil];have l:m≠0:=λh0=>h (by subst h0;exact Lib.keeps_lt_one _ 0 i6);have o:a[m]=a[m-1]'i6:=by
    by_cases n:a[m]=a[m-1]'i6
    .exact n
    .have f:a.toArray[m-1]! =a[m-1]'i6:=by simp[show m-1<i4 a by omega]
     exact absurd (Lib.keeps_pos (d:=a.toArray) (m:=m) (by rw[q,f];exact n)) h
   refine⟨v,λx=>?_⟩;rw[u];constructor
   .rintro⟨j,k,e⟩;exact⟨j,i6,e⟩
   .rintro⟨j,k,e⟩;by_cases b:j=m
    .subst b;refine⟨j-1,i6,?_⟩;rw[qc g]at e;rw[qc i6,<-o];exact e
    .exact⟨j,i6,e⟩
theorem EC(l:av):(gC l).Pairwise (·<=·):=by have:=wF (le:=λx y:Int=>decide (x<=y)) (by intro a b c d e;simp at d e⊢;omega) (by intro a b;simp;omega) l;exact this.imp λh=>l0
theorem Vr(l:av)(h:∀x∈l,0<=x/\x<64):Lib.compact (gC l)=cL l:=by
 obtain⟨f,c⟩:=xK (gC l) (EC l) (gC l).length (qi _);have k:∀x,x∈Lib.compact (gC l)↔x∈l:=λx=>by
  unfold Lib.compact;rw[c,<-AQ l x,List.mem_iff_getElem?];constructor
  .rintro⟨j,_,e⟩;exact⟨j,e⟩
  .rintro⟨j,e⟩;exact⟨j,(ql.1 e).1,e⟩
 have i:(cL l).Pairwise (·<·):=by unfold cL;refine List.Pairwise.filter _ ?_;rw[List.pairwise_map];exact List.pairwise_lt_range.imp λh=>i6
 have d:∀x,x∈cL l↔x∈l:=λx=>by
  unfold cL;rw[qB,qo];constructor
  .rintro⟨_,c⟩;simpa using c
  .intro g;obtain⟨a,b⟩:=h x g;exact⟨⟨x.toNat,qK.2 i6,i6⟩,tg⟩
 have m:(Lib.compact (gC l)).Perm (cL l):=(List.perm_ext_iff_of_nodup (f.imp λh=>i6) (i.imp λh=>i6)).2 λx=>(k x).trans (d x).symm;exact m.eq_of_pairwise (le:=(·<·)) (λa b _ _ f c=>i6) f i
def cg(o b t:Int):Int:=(128*o+16*b+t)%4294967296
def eu(m:au)(r:cH):Bool:=iQ r&&(decide (r.p=m.p)&&m.aA.any λx=>decide (x.object=r.object)&&(decide (r.block<(x.tries.length:Int))&&decide (r.seed=cg r.object r.block (x.tries.getD r.block.toNat 0))))
def rK(a b:cH):Bool:=decide (a.object<b.object∨(a.object=b.object/\(a.block<b.block∨(a.block=b.block/\a.id<=b.id))))
def nU(a b:cH):Bool:=decide (a.object=b.object/\a.block=b.block/\a.id=b.id)
def Jf:cH:=⟨0,0,0,(0,0,0),0,[]⟩
def ux(l:List cH)(k:Nat):Bool:=decide (k=0)||!nU (l.getD k Jf) (l.getD (k-1) Jf)
def tU(l:List cH):List cH:=((qn l.length).filter (ux l)).map λi=>l.getD i Jf
def kJ(m:au)(c:aL):Option cH:=match dS c with|some r=>if eu m r then dB r else eH|none=>eH
def dJ(m:au)(l:ct):List cH:=tU ((l.filterMap (kJ m)).mergeSort rK)
theorem aha:Ord rK:=⟨λa b c d e=>by
 unfold rK at*
 grind,λa b=>by
 unfold rK
 grind⟩
theorem Vs(m:au)(l:ct)(i:Nat)(a:i<i4 l):(l.take (i+1)).filterMap (kJ m)=(l.take i).filterMap (kJ m)++(kJ m l[i]).toList:=by
 have:l.take (i+1)=l.take i++[l[i]]:=js
 grind
section
variable {C:Ctx}
theorem DL(z:aW)(n:Nat):(yC z.toArray n).toList.length=n*i4 z:=by simp[yC]
theorem Nq{z:aW}(c:∀v∈z,v.oneCell'=eS)(n:Nat):∀v∈(yC z.toArray n).toList,v.oneCell'=eS:=by
 intro v a;simp only[yC,xn,qo,]at a;obtain⟨i,d,rfl⟩:=a;have h0:0<i4 z:=j1
 have b:=yW i h0
 grind
theorem Own.nk(w:C.Ok)(i:Own h e s k f l)(B:bV C.toBX t e k z by_)(n:∀x,i4 (f x)=k)(y:i4 z=k)(d:∀v∈z,v.oneCell'=eS)(j:Nat)(A:j<=i4 l){ty:Nat}{K:f9->Prop}
  (o:∀h',Own h' e ⟨s.ptr,j,s.cap⟩ k f (l.take j)->aS (λb=>¬s.on b) h h'->K h'):
  aj C.P (vW #[t] ty #[.slice (if s.cap=j then s.ptr else s.ptr.map (·.add (j*k))) (s.len-j) (s.cap-j)]) h λ_ h'=>K h':=by
 have U:=i.len;have c:=i.cut n j A;unfold vW;refine aj.bind (aj.always (aF (B.under w)) ?_);by_cases u:j=i4 l
 .have L:s.len-j=0:=i6
  rw[L];generalize (if s.cap=j then s.ptr else s.ptr.map (·.add (j*k)))=q;cases q with
  |none=>exact aj.pure' (o h c (aS.refl _ _))
  |some a=>exact aj.pure' (o h c (aS.refl _ _))
 .rcases i.head with⟨h1,h2,h3⟩|⟨b,rest,h1,h2,h3,h4⟩
  .subst h3;simp at A u;omega
  .have g:s.cap≠j:=i6
   rw[g9 g,h1];obtain⟨m,D⟩:∃m,s.len-j=m+1:=⟨s.len-j-1,i6⟩
   rw[D];obtain⟨S,Q,R,N,G,O,F,T⟩:=B.ex;obtain⟨J,E,H⟩:=sE w.toOk G;refine aj.bind (aj.always E ?_);have r:J.cells=z.toArray:=by apply vn;rw[H,F]
   rw[r];refine aj.bind ?_;have M:((⟨b,0,eH⟩:f7).add (j*k))=⟨b,j*k,eH⟩:=by simp[add_eq]
   show aj C.P (storeCells ((⟨b,0,eH⟩:f7).add (j*k)) (yC z.toArray (m+1)).toList) h _;rw[M];have p:i4 (l.drop j)=m+1:=jj
   refine fY (e:=e) (pre:=(l.take j).flatMap f) (old:=(l.drop j).flatMap f) (post:=rest) ?_ ?_ ?_ (Nq d _) ?_
   .rw[<-zb,qy];exact h2
   .rw[dX n,p,DL,y]
   .rw[dX n,qH,wM i6];omega
   .refine aj.pure' (o _ ⟨jj,.inr ⟨b,(yC z.toArray (m+1)).toList++rest,h1,?_,?_,i9⟩⟩ ?_)
    .rw[iX h2,g0 rfl];simp
    .rw[qu,DL,y,h3,<-Nat.add_mul];dsimp only;congr 1;omega
    .exact aS.jk h2 λI=>I ⟨0,h1⟩
theorem aa.nk(n:C.Ok)(H:aa B h0 h As)(i:Nat)(m:As[i]?=dB (aq e s k f l))(w:bV C.toBX t e k z by_)(p:∀x,i4 (f x)=k)(o:i4 z=k)(a:∀v∈z,v.oneCell'=eS)(j:Nat)(r:j<=i4 l){ty:Nat}{K:f9->Prop}
  (u:∀h',aa B h0 h' (As.set i (aq e ⟨s.ptr,j,s.cap⟩ k f (l.take j)))->K h'):
  aj C.P (vW #[t] ty #[.slice (if s.cap=j then s.ptr else s.ptr.map (·.add (j*k))) (s.len-j) (s.cap-j)]) h λ_ h'=>K h':=
 (H.own i m).nk n w p o a j r λh' x y=>u h' (H.step i m λq g _=>⟨y.mono λb _ c d=>c (g.2 b d),x,λb c=>⟨x.lt c,.inl (g.2 b c)⟩⟩)
end
theorem NW:∀x y:aL,(Op.bytesLess x y||x==y)=!Op.bytesLess y x
 |[],[]=>rfl
 |[],_::_=>rfl
 |_::_,[]=>rfl
 |a::x,b::y=>by
  have f:=NW x y;have e:a<b∨a=b∨b<a:=j1
  rcases e with h|rfl|h
  .have c:¬b<a:=λh'=>j1
   have d:b≠a:=λh'=>j1
   simp[Op.bytesLess,h,c,d]
  .simp only[Op.bytesLess,]
   grind
  .have c:¬a<b:=λh'=>j1
   have d:a≠b:=λh'=>j1
   simp[Op.bytesLess,h,c,d]
theorem Gp:∀x y z:aL,Op.bytesLess x y=eS->Op.bytesLess y z=eS->Op.bytesLess x z=eS
 |x,[],_,h1,_=>by cases x<;>simp[Op.bytesLess]at h1
 |_,b::y,[],_,h2=>by simp[Op.bytesLess]at h2
 |[],_::_,_::_,_,_=>rfl
 |a::x,b::y,c::z,h1,h2=>by
  simp only[Op.bytesLess,yG,qx,beq_iff_eq]at h1 h2⊢;rcases h1 with h1|⟨rfl,h1⟩
  .grind
  .rcases h2 with h2|⟨rfl,h2⟩
   .grind
   .exact .inr ⟨i5,Gp x y z h1 h2⟩
theorem XZ(x:aL):Op.bytesLess x x=eX:=by
 have:=NW x x
 grind
def kC(a b:ByteArray):Bool:=!fO b a
theorem Jg(a b:ByteArray):kC a b=eS↔fO a b=eS∨a.toList=b.toList:=by unfold kC fO;rw[<-NW,yG,beq_iff_eq]
theorem ED(a b c:ByteArray)(d:kC a b=eS)(e:kC b c=eS):kC a c=eS:=by
 rw[Jg]at d e⊢;unfold fO at*;rcases d with d|d
 .rcases e with e|e
  .exact .inl (Gp _ _ _ d e)
  grind
 grind
theorem EE(a b:ByteArray):(kC a b||kC b a)=eS:=by
 unfold kC;cases h:fO b a with
 |false=>rfl
 |true=>
  have:fO a b=eX:=by
   cases h2:fO a b with
   |false=>rfl
   |true=>
    have:=Gp _ _ _ h h2;rw[XZ]at this;grind
  grind
def sM(a b:bU):Bool:=kC a.name b.name
def dK(m:au)(x:bU):au:={m with seq:=m.seq+1,next:=m.next+1,aA:=(m.aA++[x]).mergeSort sM}
section
open Classical
theorem nl(a:UInt8):a^^^a=0:=UInt8.xor_self
theorem uU(a b:UInt8):(a^^^b)^^^b=a:=by rw[UInt8.xor_assoc,nl,zV]
theorem cM{c:UInt8}{a t:Row}(h:i4 a=i4 t)(j:Nat):aM (cB c a t) j=aM t j^^^Gf.mul c (aM a j):=by
 simp only[aM,cB,qg,wc];by_cases b:j<i4 a
 .rw[qc b,qc i6];rfl
 .rw[zd i6,zd i6];simp[Gf.mul_zero]
theorem th(c:UInt8)(a:Row)(j:Nat):aM (scaleB c a) j=Gf.mul c (aM a j):=by
 simp only[aM,scaleB,qg,qR];cases a[j]? with
 |none=>simp[Gf.mul_zero]
 |some x=>rfl
def aN(n:Nat):Row:=qf n 0
theorem cu(n j:Nat):aM (aN n) j=0:=by simp only[aM,aN,qg,List.getElem?_replicate];split<;>rfl
theorem fc{n:Nat}{a b:Row}(e:i4 a=n)(f:i4 b=n)(h:∀j,j<n->aM a j=aM b j):a=b:=by apply wh i6;intro j c d;have:=h j i6;simpa[aM,qg,qc c,qc d]using this
inductive Span (n:Nat) (m:aO):Row->Prop
 |zero:Span n m (aN n)
 |add (c:UInt8) (r v:Row):r∈m->Span n m v->Span n m (cB c r v)
section
variable {n:Nat} {m m':aO}
theorem Span.len(a:aU n m){v:Row}(h:Span n m v):i4 v=n:=by
 induction h with
 |zero=>simp[aN]
 |add c r v hr _ ih=>rw[bR (by rw[a r hr,ih])];exact ih
theorem Span.comb(a:aU n m){u v:Row}(e:Span n m u)(b:Span n m v)(c:UInt8):Span n m (cB c u v):=by
 induction e with
 |zero=>
  have:cB c (aN n) v=v:=fc (n:=n) (by rw[bR (by simp[aN,b.len a])];exact b.len a) (b.len a) λj _=>by
   rw[cM (by simp[aN,b.len a]),cu,Gf.mul_zero,zV]
  rw[this];exact b
 |add d r w hr hw ih=>
  have l1:=b.len a;have l2:=hw.len a;have f:=a r hr;have:cB c (cB d r w) v=cB (Gf.mul c d) r (cB c w v):=fc (n:=n) (by rw[bR (by rw[bR i6];omega)];exact l1) (by rw[bR (by rw[bR i6];omega),bR i6];exact l1) λj _=>by
   rw[cM (by rw[bR i6];omega),cM i6,cM (by rw[bR i6];omega),cM i6,Gf.kr,Gf.mul_assoc]
   ac_rfl
  rw[this];exact .add _ _ _ hr ih
theorem Span.row(b:aU n m){r:Row}(a:r∈m):Span n m r:=by
 have:=Span.add 1 r _ a (.zero (n:=n) (m:=m));have e:cB 1 r (aN n)=r:=fc (n:=n) (by rw[bR (by simp[aN,b r a])];simp[aN]) (b r a) λj _=>by
  rw[cM (by simp[aN,b r a]),cu,Gf.one_mul,wv]
 rwa [e]at this
theorem Span.sub(a:aU n m)(h:∀r∈m',Span n m r){v:Row}(b:Span n m' v):Span n m v:=by
 induction b with
 |zero=>exact .zero
 |add c r v hr _ ih=>exact(h r hr).comb a ih c
theorem Span.mono(h:∀r∈m',r∈m){v:Row}(a:Span n m' v):Span n m v:=by
 induction a with
 |zero=>exact .zero
 |add c r v hr _ ih=>exact .add c r v (h r hr) ih
theorem Span.lin(d:aU n m)(φ:Row->UInt8)(h0:φ (aN n)=0)(f:∀c a t,i4 a=n->i4 t=n->φ (cB c a t)=φ t^^^Gf.mul c (φ a))(e:∀r∈m,φ r=0){v:Row}(b:Span n m v):φ v=0:=by
 induction b with
 |zero=>exact h0
 |add c r v hr' b ih=>rw[f c r v (d r hr') (b.len d),ih,e r hr',Gf.mul_zero,zV]
end
def BA(S:Row->Prop)(j:Nat):Prop:=∃v,S v/\(∀i,i<j->aM v i=0)/\aM v j≠0
noncomputable def leads(S:Row->Prop)(n:Nat):Nat:=(qn n).countP λj=>decide (BA S j)
structure Way (n:Nat) (m:aO) (c top:Nat) (rows:aO):Prop where
 even:aU n rows
 len:i4 rows=i4 m
 tle:top<=i4 rows
 span:∀v,Span n rows v↔Span n m v
 cnt:top=leads (Span n m) c
 piv:∃p:Nat->Nat,(∀i,i<top->p i<c)/\(∀i,i<top->∀k,k<i4 rows->aM (aC rows k) (p i)=if k=i then 1 else 0)/\(∀i,i<top->∀j,j<p i->aM (aC rows i) j=0)/\(∀i j,i<j->j<top->p i<p j)
 low:∀k,top<=k->k<i4 rows->∀j,j<c->aM (aC rows k) j=0
theorem mem_row{m:aO}{i:Nat}(h:i<i4 m:=by omega):aC m i∈m:=by rw[bv h];exact qe h
theorem fD{m:aO}{r:Row}(h:r∈m):∃i,i<i4 m/\r=aC m i:=by obtain⟨i,a,rfl⟩:=qA h;exact⟨i,a,(bv a).symm⟩
theorem lO{m:aO}{i j:Nat}{r:Row}(a:i<i4 m:=by omega):aC (m.set i r) j=if i=j then r else aC m j:=by
 simp only[aC,qg,qV];by_cases h:i=j
 .subst h;simp[a]
 .simp[h]
theorem xP{m:aO}{i j k:Nat}(d:i<i4 m)(c:j<i4 m):aC (gW m i j) k=if k=j then aC m i else if k=i then aC m j else aC m k:=by
 rw[gW,lO rc,lO d];by_cases a:j=k
 .rw[g0 a,g0 a.symm]
 .rw[g9 a,g9 (show¬k=j fromλh=>a h.symm)];by_cases b:i=k
  .rw[g0 b,g0 b.symm]
  .rw[g9 b,g9 (show¬k=i fromλh=>b h.symm)]
theorem CS{m:aO}{t c k:Nat}(a:t<i4 m):aC (jA t c m) k=if t=k then scaleB (Gf.inv (aM (aC m t) c)) (aC m t)else aC m k:=by rw[jA,lO a]
section
variable {n:Nat} {m:aO}
theorem Ya(l:aU n m){i j:Nat}(b:i<i4 m)(a:j<i4 m)(v:Row):Span n (gW m i j) v↔Span n m v:=by
 refine⟨Span.mono λr f=>?_,Span.mono λr f=>?_⟩
 .obtain⟨k,c,rfl⟩:=fD f;rw[kV]at c;rw[xP b a];split
  .exact mem_row b
  .split
   .exact mem_row a
   .exact mem_row c
 .obtain⟨k,c,rfl⟩:=fD f;have e:∀x,x<i4 m->aC (gW m i j) x∈gW m i j:=λx h=>mem_row (by rw[kV];exact h);by_cases d:k=i
  .subst d;have:=e j a;rw[xP b a,g0 rfl]at this;exact this
  .by_cases g:k=j
   .subst g;have:=e i b;rw[xP b a]at this;by_cases h3:i=k
    .exact absurd h3.symm d
    .rw[g9 h3,g0 rfl]at this;exact this
   .have:=e k c;rw[xP b a,g9 g,g9 d]at this;exact this
theorem Yb(f:aU n m){t c:Nat}(b:t<i4 m)(i:aM (aC m t) c≠0)(v:Row):Span n (jA t c m) v↔Span n m v:=by
 have d:=te f (c:=c) b;have h:=ci f b;have s:∀(x:UInt8) (r:Row),i4 r=n->scaleB x r=cB x r (aN n):=λx r a=>fc (n:=n) (by rw[nf,a]) (by rw[bR (by simp[aN,a])];simp[aN]) λj _=>by
  rw[th,cM (by simp[aN,a]),cu,wv]
 refine⟨Span.sub f λr a=>?_,Span.sub d λr a=>?_⟩
 .obtain⟨k,g,rfl⟩:=fD a;rw[ng]at g;rw[CS b];split
  .rw[s _ _ h];exact .add _ _ _ (mem_row b) .zero
  .exact Span.row f (mem_row g)
 .obtain⟨k,g,rfl⟩:=fD a;have e:∀x,x<i4 m->Span n (jA t c m) (aC (jA t c m) x):=λx q=>Span.row d (mem_row (by rw[ng];exact q));by_cases o:t=k
  .subst o;have:=e t b;rw[CS b,g0 rfl]at this;have l:=this.comb d .zero (aM (aC m t) c);have p:cB (aM (aC m t) c) (scaleB (Gf.inv (aM (aC m t) c)) (aC m t)) (aN n)=aC m t:=fc (n:=n) (by rw[bR (by simp[aN,nf,h])];simp[aN]) h λj _=>by
    rw[cM (by simp[aN,nf,h]),cu,wv,th,<-Gf.mul_assoc,Gf.Cd i,Gf.one_mul]
   rw[p]at l;exact l
  .have:=e k g;rw[CS b,g9 o]at this;exact this
theorem Yc(d:aU n m){t c:Nat}(f:t<i4 m)(v:Row):Span n (dD t c m m.length) v↔Span n m v:=by
 have b:=AT d (c:=c) (k:=i4 m) f;have s:=ci d f;refine⟨Span.sub d λr i=>?_,Span.sub b λr i=>?_⟩
 .obtain⟨k,a,rfl⟩:=fD i;rw[nh]at a;rw[ni a];split
  .exact .add _ _ _ (mem_row f) (Span.row d (mem_row a))
  .exact Span.row d (mem_row a)
 .obtain⟨k,a,rfl⟩:=fD i;have e:∀x,x<i4 m->Span n (dD t c m m.length) (aC (dD t c m m.length) x):=λx q=>Span.row b (mem_row (by rw[nh];exact q));have h:=e t f;rw[ni f,g9 js]at h;by_cases o:k=t
  .subst o;exact h
  .have l:=e k a;rw[ni a,g0 ⟨a,o⟩]at l;have h3:=h.comb b l (aM (aC m k) c);have g:=ci d a;have p:cB (aM (aC m k) c) (aC m t) (cB (aM (aC m k) c) (aC m t) (aC m k))=aC m k:=fc (n:=n) (by rw[bR (by rw[bR i6];omega),bR i6];exact g) g λj _=>by
    rw[cM (by rw[bR i6];omega),cM i6,uU]
   rw[p]at h3;exact h3
def bT(f g:Nat->UInt8):Nat->UInt8
 |0=>0
 |k+1=>bT f g k^^^Gf.mul (f k) (g k)
theorem gw(f g:Nat->UInt8):∀k,(∀i,i<k->f i=0)->bT f g k=0
 |0,_=>rfl
 |k+1,h=>by rw[bT,gw f g k λi a=>h i i6,h k i6,Gf.zero_mul];rfl
theorem Gq(f g:Nat->UInt8)(x:Nat):∀k,x<k->(∀i,i<k->f i=if x=i then 1 else 0)->bT f g k=g x
 |0,hx,_=>i6
 |k+1,hx,h=>by
  rw[bT];by_cases a:x=k
  .subst a;rw[gw f g x λi b=>by rw[h i i6,g9 i6],h x i6,g0 i5,Gf.one_mul,wv]
  .rw[Gq f g x k i6 λi b=>h i i6,h k i6,g9 a,Gf.zero_mul,zV]
theorem Gr(b a g:Nat->UInt8)(c:UInt8):∀k,bT (λi=>b i^^^Gf.mul c (a i)) g k=bT b g k^^^Gf.mul c (bT a g k)
 |0=>by simp[bT,Gf.mul_zero]
 |k+1=>by
  rw[bT,bT,bT,Gr b a g c k,Gf.kr,Gf.TP,Gf.mul_assoc]
  ac_rfl
theorem Jh(S:Row->Prop)(c:Nat):leads S (c+1)=leads S c+if BA S c then 1 else 0:=by simp only[leads,zt,List.countP_append,List.countP_cons,List.countP_nil];by_cases h:BA S c<;>simp[h]
theorem Yd(c:aU n m):Way n m 0 0 m:=⟨c,i5,i6,λ_=>Iff.rfl,by simp[leads],⟨λ_=>0,λi a=>i6,λi a=>i6,λi a=>i6,λi j _ b=>i6⟩,λk _ _ j b=>i6⟩
theorem abG(hm:aU n m){c b:Nat}{rows:aO}(w:Way n m c b rows)(hc:c<n):Way n m (c+1) (il (b,rows) c).1 (il (b,rows) c).2:=by
 obtain⟨F,Y,am,V,I,⟨p,P,p2,p3,p4⟩,f⟩:=w;have hS:∀v,Span n rows v↔Span n m v:=V;have R:Span n rows=Span n m:=funext λv=>propext (hS v);unfold il;dsimp only;cases hb:iJ rows b c with
 |none=>
  have U:=RG hb;dsimp only;have ah:¬BA (Span n m) c:=by
   rw[<-R];rintro⟨v,hv,hz,ad⟩;apply ad;have hφ:=Span.lin F (λv=>aM v c^^^bT (λi=>aM v (p i)) (λi=>aM (aC rows i) c) b) (by
     simp only[cu];rw[gw _ _ _ λi _=>rfl];rfl) (λx a t ha ht=>by
     simp only[cM (show a.length=i4 t by omega)];rw[Gr,Gf.kr];ac_rfl) (λr hr=>by
     obtain⟨k,H,rfl⟩:=fD hr;by_cases O:k<b
     .rw[Gq _ _ k b O λi E=>by rw[p2 i E k H]];exact nl _
     .rw[U k i6 H,gw _ _ _ λi E=>by rw[p2 i E k H,g9 i6]];rfl) hv
   rw[gw _ _ _ λi E=>hz _ (P i E),zV]at hφ;exact hφ
  refine⟨F,Y,am,V,by rw[Jh,g9 ah,I];rfl,⟨p,λi E=>by have:=P i E;omega,p2,p3,p4⟩,λk D A j d=>?_⟩;rcases qZ.1 d with h|rfl
  .exact f k D A j h
  .exact U k D A
 |some at_=>
  have hh:=oA hb;obtain⟨h1,T,h3⟩:=hh;dsimp only;have q:b<i4 rows:=i6
  obtain⟨g,z⟩:=z6 (gW rows b at_)
  have l1:i4 g=i4 rows:=by rw[z,kV]
  have X:aU n g:=by rw[z];exact AS F q T
  have q1:∀k,aC g k=if k=at_ then aC rows b else if k=b then aC rows at_ else aC rows k:=λk=>by rw[z,xP q T]
  have Z:aC g b=aC rows at_:=by
   rw[q1];by_cases h:b=at_
   .rw[g0 h,h]
   .rw[g9 h,g0 rfl]
  have M:aM (aC g b) c≠0:=by rw[Z];exact h3
  obtain⟨s,B⟩:=z6 (jA b c g)
  have l2:i4 s=i4 rows:=by rw[B,ng,l1]
  have y:aU n s:=by rw[B];exact te X i6
  have q2:∀k,aC s k=if b=k then scaleB (Gf.inv (aM (aC g b) c)) (aC g b)else aC g k:=λk=>by rw[B,CS i6]
  have ab:∀j,aM (aC g b) j=0->aM (aC s b) j=0:=λj d=>by rw[q2,g0 i5,th,d,Gf.mul_zero]
  have l:aM (aC s b) c=1:=by rw[q2,g0 i5,th,Gf.mul_comm,Gf.Cd M]
  obtain⟨K,o⟩:=z6 (dD b c s rows.length)
  have l3:i4 K=i4 rows:=by rw[o,nh,l2]
  have q3:∀k,k<i4 rows->∀j,aM (aC K k) j=if k=b then aM (aC s b) j else aM (aC g k) j^^^Gf.mul (aM (aC g k) c) (aM (aC s b) j):=λk H j=>by
   rw[o,ni i6];by_cases h:k=b
   .rw[g9 i6,g0 h,h]
   .have e:=q2 k;rw[g9 λhh=>h hh.symm]at e;rw[g0 ⟨H,h⟩,g9 h,cM (by rw[ci y,ci y]),e]
  have W:∀j,j<c->aM (aC s b) j=0:=λj d=>ab j (by rw[Z];exact f at_ h1 T j d);have keep:∀k,k<i4 rows->∀j,j<c->aM (aC K k) j=if k=b then 0 else aM (aC g k) j:=λk H j d=>by
   rw[q3 k H,W j d,Gf.mul_zero,zV]
  have L:∀k,k<b->aC g k=aC rows k:=λk H=>by rw[q1,g9 i6,g9 i6]
  have J:∀k,b<=k->k<i4 rows->∀j,j<c->aM (aC g k) j=0:=λk D A j d=>by
   rw[q1];split
   .exact f b (qi _) q j d
   .split
    .exact f at_ h1 T j d
    .exact f k D A j d
  have u:∀v,Span n K v↔Span n m v:=λv=>by
   rw[o,show rows.length=i4 s by omega,Yc y i6,B,Yb X i6 M,z,Ya F q T,hS]
  have Q:BA (Span n m) c:=⟨aC K b,(u _).1 (Span.row (by rw[o];exact AT y i6) (mem_row)),λj d=>by rw[keep b q j d,g0 rfl],by rw[q3 b q,g0 i5,l];decide⟩
  have S:dD b c (jA b c (gW rows b at_)) rows.length=K:=by rw[o,B,z]
  rw[S];refine⟨by rw[o];exact AT y i6,i6,i6,u,by rw[Jh,g0 Q,I],⟨λi=>if i<b then p i else c,λi E=>?_,λi E k H=>?_,λi E j d=>?_,λi j al d=>?_⟩,λk D A j d=>?_⟩
  .dsimp only;split
   .have:=P i (by assumption);omega
   .omega
  .dsimp only;by_cases hit:i<b
   .rw[g0 hit,keep k i6 _ (P i hit)];by_cases O:k<b
    .rw[g9 i6,L k O];exact p2 i hit k i6
    .rw[g9 (show¬k=i by omega)];split
     .rfl
     .exact J k i6 i6 _ (P i hit)
   .have N:i=b:=i6
    subst N;rw[g9 hit,q3 k i6];by_cases G:k=i
    .rw[g0 G,g0 G];exact l
    .rw[g9 G,g9 G,l,Gf.mul_one];exact nl _
  .dsimp only at d;by_cases hit:i<b
   .rw[g0 hit]at d;have:=P i hit;rw[keep i i6 j i6,g9 i6,L i hit];exact p3 i hit j d
   .have N:i=b:=i6
    subst N;rw[g9 hit]at d;rw[keep i i6 j d,g0 rfl]
  .dsimp only;rw[g0 (show i<b by omega)];split
   .exact p4 i j al (by assumption)
   .exact P i i6
  .rcases qZ.1 d with h|rfl
   .rw[keep k i6 j h,g9 i6];exact J k i6 i6 j h
   .rw[q3 k i6,g9 i6,l,Gf.mul_one];exact nl _
theorem Gs(a:aU n m):∀c,c<=n->Way n m c (bD m c).1 (bD m c).2
 |0,_=>Yd a
 |c+1,h=>by rw[bD];exact abG a (Gs a c i6) i6
theorem kX:∀c,bD [] c=(0,[])
 |0=>rfl
 |c+1=>by rw[bD,kX c];rfl
theorem mq(a:aU n m):bP m=leads (Span n m) n:=by
 rw[<-(Gs a n (qi _)).cnt,bP];cases m with
 |nil=>rw[kX,kX]
 |cons x t=>rw[dF,bv js];rw[show((x::t)[0]).length=n from a _ js]
end
section
variable {n:Nat} {m m':aO}
theorem Vt{S a:Row->Prop}(h:∀v,S v->a v)(n:Nat):leads S n<=leads a n:=by refine List.countP_mono_left λj _ b=>?_;simp only[decide_eq_true_eq]at b⊢;obtain⟨v,c,d⟩:=b;exact⟨v,h v c,d⟩
theorem lP(a:aU n m):bP m<=n:=by rw[mq a];have:=List.countP_le_length (p:=λj=>decide (BA (Span n m) j)) (l:=qn n);simpa[leads]using this
theorem EF(b:aU n m)(a:aU n m')(h:∀r∈m,r∈m'):bP m<=bP m':=by rw[mq b,mq a];exact Vt (λv=>Span.mono h) n
theorem Ye{P Q:Nat->Bool}(l:List Nat)(d:l.Nodup)(f:∀a∈l,P a=eS->Q a=eS)(e:∀a∈l,∀b∈l,Q a=eS->P a=eX->Q b=eS->P b=eX->a=b):l.countP Q<=l.countP P+1:=by
 induction l with
 |nil=>simp
 |cons x t ih=>
  rw[List.nodup_cons]at d;have g:=ih d.2 (λa c=>f a p0) λa c b h=>e a p0 b tr;simp only[List.countP_cons];cases hQ:Q x with
  |false=>
   have:(if P x=eS then 1 else 0)>=0:=i6
   simp;omega
  |true=>
   cases hP:P x with
   |true=>simp;omega
   |false=>
    have:t.countP Q<=t.countP P:=by
     refine List.countP_mono_left λa c i=>?_;cases hpa:P a with
     |true=>rfl
     |false=>
      have:=e x js a p0 hQ hP i hpa;subst this;exact absurd c d.1
    simp;omega
theorem Mb(g:aU n m){r:Row}(f:i4 r=n){v:Row}(k:Span n (m++[r]) v):∃(c:UInt8) (u:Row),Span n m u/\v=cB c r u:=by
 have l:aU n (m++[r]):=λx e=>by
  rcases qt.1 e with h|h
  .exact g x h
  .rw[qw.1 h];exact f
 induction k with
 |zero=>exact⟨0,aN n,.zero,(fc (n:=n) (by rw[bR (by simp[aN,f])];simp[aN]) lb λj _=>by rw[cM (by simp[aN,f]),cu,Gf.zero_mul];rfl).symm⟩
 |add d x w e hw ih=>
  obtain⟨c,u,i,rfl⟩:=ih;have a:=i.len g;rcases qt.1 e with h|h
  .have o:=g x h;refine⟨c,cB d x u,.add d x u h i,fc (n:=n) (by rw[bR (by rw[bR i6];omega),bR i6];exact a) (by rw[bR (by rw[bR i6];omega),bR i6];exact a) λj _=>?_⟩;rw[cM (by rw[bR i6];omega),cM i6,cM (by rw[bR i6];omega),cM i6]
   ac_rfl
  .have b:=qw.1 h;subst b;refine⟨c^^^d,u,i,fc (n:=n) (by rw[bR (by rw[bR i6];omega),bR i6];exact a) (by rw[bR i6];exact a) λj _=>?_⟩;rw[cM (by rw[bR i6];omega),cM i6,cM i6,Gf.TP]
   ac_rfl
theorem np(c:aU n m){r:Row}(b:i4 r=n):aU n (m++[r]):=λx a=>by
 rcases qt.1 a with h|h
 .exact c x h
 .rw[qw.1 h];exact b
theorem Yf(e:aU n m){r:Row}(D:i4 r=n):bP m<=bP (m++[r])/\bP (m++[r])<=bP m+1:=by
 have k:=np e D;refine⟨EF e k λx E=>by simp[E],?_⟩;rw[mq e,mq k];refine Ye _ List.nodup_range (λa _ J=>?_) (λa _ b _ B o t l=>?_)
 .simp only[decide_eq_true_eq]at J⊢;obtain⟨v,I,H⟩:=J;exact⟨v,Span.mono (λx E=>by simp[E]) I,H⟩
 .simp only[decide_eq_true_eq,decide_eq_false_iff_not]at B o t l;have q:∀a b,BA (Span n (m++[r])) a->¬BA (Span n m) a->BA (Span n (m++[r])) b->¬BA (Span n m) b->¬a<b:=by
   rintro a b ⟨v,O,M,A⟩ o ⟨w,N,h,p⟩ l G;obtain⟨c,u,K,rfl⟩:=Mb e D O;obtain⟨d,s,g,rfl⟩:=Mb e D N;have l1:=K.len e;have l2:=g.len e;have L:d≠0:=by
    rintro rfl;apply l;refine⟨s,g,λi F=>?_,?_⟩
    .have:=h i F;rw[cM i6,Gf.zero_mul,zV]at this;exact this
    .rw[cM i6,Gf.zero_mul,zV]at p;exact p
   apply o;refine⟨cB (Gf.mul c (Gf.inv d)) s u,g.comb e K _,?_⟩;have f:∀j,aM (cB (Gf.mul c (Gf.inv d)) s u) j=aM (cB c r u) j^^^Gf.mul (Gf.mul c (Gf.inv d)) (aM (cB d r s) j):=λj=>by
    rw[cM i6,cM i6,cM i6,Gf.kr,<-Gf.mul_assoc (Gf.mul c (Gf.inv d)) d,Gf.mul_assoc c (Gf.inv d) d,Gf.mul_comm (Gf.inv d) d,Gf.Cd L,Gf.mul_one];have:∀x y z:UInt8,x^^^y=x^^^z^^^(y^^^z):=λx y z=>by
     have:x^^^z^^^(y^^^z)=x^^^y^^^(z^^^z):=by ac_rfl
     rw[this,nl,zV]
    exact this _ _ _
   refine⟨λi F=>?_,?_⟩
   .rw[f,M i F,h i i6,Gf.mul_zero];rfl
   .rw[f,h a G,Gf.mul_zero,zV];exact A
  have I:=q a b B o t l;have H:=q b a t l B o;omega
theorem pS(m:aO)(h:aU n m):bP m<=i4 m:=by
 have a:∀k,k<=i4 m->bP (m.take k)<=k:=by
  intro k
  induction k with
  |zero=>intro _;simp[bP,dF,aC,bD]
  |succ k ih=>
   intro f;have b:aU n (m.take k):=λx c=>h x (zn c);have d:=ih i6;rw[zl i6];have e:=(Yf b (h _ (qe (show k<i4 m by omega)))).2;omega
 have:=a m.length (qi _)
 rwa [qh (qi _)]at this
end
def nV(p:Int×Int×Int)(seed:Int)(ids:av):Nat:=bP (db p seed ids)
def eK(p:Int×Int×Int)(seed:Int)(ids:av):Bool:=bB p&&((nV p seed ids:Int)==bp p)
def fj(p:Int×Int×Int):av:=upto (max 0 (min p.1 16)).toNat
theorem oW{p:Int×Int×Int}(h:bB p=eS):bp p=p.1+p.2.1:=by rw[bp,g0 h]
theorem jr(p:Int×Int×Int)(seed:Int)(ids:av):aU (bp p).toNat (db p seed ids):=by
 intro r a;unfold db at a;split at a
 .rename_i b;have:=(bK p).1 b;rcases qt.1 a with h|h
  .obtain⟨x,_,rfl⟩:=qo.1 h;rw[xi,oW b];omega
  .obtain⟨x,_,rfl⟩:=qo.1 h;exact OQ _ _ _
 grind
theorem HQ(p:Int×Int×Int)(seed:Int)(ids:av):i4 (db p seed ids)<=4+i4 ids:=by
 unfold db;split
 .rename_i a;have:=(bK p).1 a;have b:=List.length_filter_le bE ids;simp only[qu,bj,qp,zq];omega
 .simp
theorem Ji(K H:Nat):aU (K+H) (bj K H):=λr a=>by
 obtain⟨x,_,rfl⟩:=qo.1 a;exact xi _ _ _
theorem abH(p:Int×Int×Int)(seed:Int)(ids:av):(nV p seed ids:Int)<=bp p:=by
 have h:=lP (jr p seed ids);have:0<=bp p:=by
  unfold bp;split
  .rename_i a;have:=(bK p).1 a;omega
  .omega
 rw[nV];omega
theorem Mc(p:Int×Int×Int)(seed:Int)(ids:av)(id:Int):db p seed (ids++[id])=if bB p&&bE id then db p seed ids++[ly (bp p).toNat seed id]else db p seed ids:=by
 unfold db;cases bB p with
 |false=>rfl
 |true=>
  cases h:bE id with
  |false=>simp[zk,h]
  |true=>simp[zk,h]
def fE(a b:aO):aO:=zc (·++·) a b
def lA(n:Nat)(m:aO):aO:=m.map (List.take n)
theorem HR{r:Row}{n j:Nat}(h:j<n):aM (r.take n) j=aM r j:=by simp only[aM,];grind
theorem OV(r:Row)(n j:Nat):aM (r.drop n) j=aM r (n+j):=by simp only[aM,qg,wZ]
theorem uV(n:Nat)(m:aO)(i:Nat):aC (lA n m) i=(aC m i).take n:=by
 simp only[aC,lA,]
 grind
theorem KT(n:Nat)(m:aO):i4 (lA n m)=i4 m:=by simp[lA]
theorem Vu{n a bg:Nat}(m:aO)(h:bg<n):iJ (lA n m) a bg=iJ m a bg:=by unfold iJ;rw[KT];congr 1;funext i;rw[uV,HR h]
theorem KU(n:Nat)(m:aO)(i:Nat)(r:Row):lA n (m.set i r)=(lA n m).set i (r.take n):=by simp[lA,]
theorem abI(n:Nat)(m:aO)(i j:Nat):lA n (gW m i j)=gW (lA n m) i j:=by rw[gW,KU,KU,gW,uV,uV]
theorem Yg(n:Nat)(c:UInt8)(r:Row):(scaleB c r).take n=scaleB c (r.take n):=by simp[scaleB,]
theorem afj(n:Nat)(c:UInt8)(a t:Row):(cB c a t).take n=cB c (a.take n) (t.take n):=by simp[cB,List.take_zipWith]
theorem abJ{n bg:Nat}(h:bg<n)(t:Nat)(m:aO):lA n (jA t bg m)=jA t bg (lA n m):=by rw[jA,KU,Yg,jA,uV,HR h]
theorem abK{n bg:Nat}(h:bg<n)(t k:Nat)(m:aO):lA n (dD t bg m k)=dD t bg (lA n m) k:=by
 apply zp;intro i;simp only[lA,dD,qR,List.getElem?_mapIdx];cases m[i]? with
 |none=>rfl
 |some r=>
  simp only[qW];congr 1;have:=uV n m t;rw[lA]at this;rw[this,HR h];split
  .exact afj _ _ _ _
  .rfl
theorem abL{n bg:Nat}(h:bg<n)(s:Nat×aO):((il s bg).1,lA n (il s bg).2)=il (s.1,lA n s.2) bg:=by
 unfold il;rw[Vu _ h];cases iJ s.2 s.1 bg with
 |none=>rfl
 |some i=>rw[abK h,abJ h,abI,KT]
theorem Jj(n:Nat)(m:aO):∀c,c<=n->((bD m c).1,lA n (bD m c).2)=bD (lA n m) c
 |0,_=>rfl
 |c+1,h=>by
  have a:=Jj n m c i6;rw[bD,bD,abL (show c<n by omega),a]
theorem mP{a b:aO}(h:i4 a=i4 b):i4 (fE a b)=i4 a:=by simp[fE,h]
theorem Gt{a b:aO}(h:i4 a=i4 b){i:Nat}(c:i<i4 a):aC (fE a b) i=aC a i++aC b i:=by rw[bv (by rw[mP h];exact c),bv c,bv i6];simp[fE]
theorem nt{n w:Nat}{a b:aO}(h:i4 a=i4 b)(e:aU n a)(f:aU w b):aU (n+w) (fE a b):=λr d=>by
 obtain⟨i,c,rfl⟩:=fD d;rw[mP h]at c;rw[Gt h c,qu,ci e c,ci f]
theorem afk{n:Nat}{a b:aO}(h:i4 a=i4 b)(e:aU n a):lA n (fE a b)=a:=by
 apply wh (by rw[KT,mP h]);intro i d c;have:=uV n (fE a b) i;rw[bv d,Gt h c,List.take_left' (ci e c),bv c]at this
 grind
theorem abM{n:Nat}{a:aO}(b:aU n a):(bD a n).1=bP a:=by
 rw[bP];cases a with
 |nil=>rw[kX,kX]
 |cons x t=>rw[dF,bv js];rw[b _ js]
theorem HS{n:Nat}{a b:aO}(h:i4 a=i4 b)(c:aU n a):(bD (fE a b) n).1=bP a:=by have:=congrArg qD (Jj n (fE a b) n (qi _));rw[afk h c]at this;rw[<-abM c];grind
def rY(w:Nat)(r:Row)(X:aO):Nat->Row
 |0=>aN w
 |k+1=>cB (aM r k) (aC X k) (rY w r X k)
theorem iY{n w:Nat}{X:aO}(b:aU w X)(c:i4 X=n)(r:Row):∀k,k<=n->i4 (rY w r X k)=w
 |0,_=>by simp[rY,aN]
 |k+1,h=>by
  have a:=iY b c r k i6;rw[rY,bR (by rw[ci b,a])];exact a
theorem iw{n w:Nat}{X:aO}(a:aU w X)(b:i4 X=n)(r:Row)(j:Nat):∀k,k<=n->aM (rY w r X k) j=bT (λi=>aM r i) (λi=>aM (aC X i) j) k
 |0,_=>by rw[rY,cu];rfl
 |k+1,h=>by
  have c:=iw a b r j k i6;rw[rY,cM (by rw[ci a,iY a b r k i6]),c];rfl
def gM(n w:Nat)(a b X:aO):Prop:=i4 X=n/\aU w X/\∀i,i<i4 a->rY w (aC a i) X n=aC b i
theorem abN{m a:aO}(d:i4 m=i4 a)(h:∀i,i<i4 m->aC m i=aC a i):m=a:=by
 apply wh d;intro i b c;have:=h i b
 rwa [bv b,bv c]at this
def yd(n:Nat)(X:aO)(k:Nat)(v:Row):UInt8:=aM v (n+k)^^^bT (λi=>aM v i) (λi=>aM (aC X i) k) n
theorem gF{f f' g g':Nat->UInt8}:∀k,(∀i,i<k->f i=f' i)->(∀i,i<k->g i=g' i)->bT f g k=bT f' g' k
 |0,_,_=>rfl
 |k+1,h1,h2=>by rw[bT,bT,gF k (λi a=>h1 i i6) λi a=>h2 i i6,h1 k i6,h2 k i6]
theorem TR(n:Nat)(X:aO)(k:Nat)(c:UInt8)(a t:Row)(h:i4 a=i4 t:=by omega):yd n X k (cB c a t)=yd n X k t^^^Gf.mul c (yd n X k a):=by unfold yd;rw[cM h];have:bT (λi=>aM (cB c a t) i) (λi=>aM (aC X i) k) n=bT (λi=>aM t i^^^Gf.mul c (aM a i)) (λi=>aM (aC X i) k) n:=gF n (λi _=>cM h i) λ_ _=>rfl;rw[this,Gr,Gf.kr];ac_rfl
theorem TS{a b:Row}{n:Nat}(c:i4 a=n)(k:Nat):aM (a++b) (n+k)=aM b k:=by
 simp only[aM,]
 grind
theorem OW{a b:Row}{n j:Nat}(d:i4 a=n)(c:j<n):aM (a++b) j=aM a j:=by
 simp only[aM,]
 grind
theorem pT{a b:UInt8}:a^^^b=0↔a=b:=js
theorem Jk{n w:Nat}{a b X:aO}(h:i4 a=i4 b)(f:aU n a)(p:aU w b)(l:i4 X=n)(g:aU w X):gM n w a b X↔∀k,k<w->∀v,Span (n+w) (fE a b) v->yd n X k v=0:=by
 have e:=nt h f p;constructor
 .intro u k o v s;refine Span.lin e (yd n X k) ?_ (λc a t z y=>TR n X k c a t) (λr q=>?_) s
  .unfold yd;rw[cu,gw _ _ n λi _=>cu _ _];rfl
  .obtain⟨i,d,rfl⟩:=fD q;rw[mP h]at d;rw[Gt h d];unfold yd;rw[TS (ci f d),<-u.2.2 i d,iw g l _ k n (qi _),pT];exact gF n (λj m=>(OW (ci f d) m).symm) λ_ _=>rfl
 .intro x;refine⟨l,g,λi d=>fc (n:=w) (iY g l _ n (qi _)) (ci p) λk o=>?_⟩;have:=x k o _ (Span.row e (mem_row (show i<i4 (fE a b) by rw[mP h];exact d)));rw[Gt h d]at this;unfold yd at this;rw[TS (ci f d),pT]at this;rw[this,iw g l _ k n (qi _)];exact gF n (λj m=>(OW (ci f d) m).symm) λ_ _=>rfl
theorem ahb{n:Nat}{p:Nat->Nat}(d:∀i,i<n->p i<n)(b:∀i j,i<j->j<n->p i<p j):∀i,i<n->p i=i:=by
 have c:∀i,i<n->i<=p i:=by
  intro i
  induction i with
  |zero=>simp
  |succ i ih=>intro a;have:=b i (i+1) i6 a;omega
 have up:∀k i,i+k+1=n->p i<=i:=by
  intro k
  induction k with
  |zero=>grind
  |succ k ih=>intro i a;have:=ih (i+1) i6;grind
 intro i a;have:=c i a;have:=up (n-1-i) i i6;omega
def gQ(n:Nat)(a b:aO):aO:=(((bD (fE a b) n).2).take n).map (List.drop n)
def lI(n:Nat)(a b:aO):Prop:=∀r∈((bD (fE a b) n).2).drop n,r=aN r.length
section
variable {n w:Nat} {a b:aO}
theorem uW(h:i4 a=i4 b)(f:aU n a)(i:aU w b)(j:bP a=n):i4 (gQ n a b)=n/\aU w (gQ n a b):=by have d:=nt h f i;have e:=gA d n;have h3:=pS a f;refine⟨by rw[gQ,qp,qH,e.2,mP h];omega,λr c=>?_⟩;obtain⟨x,g,rfl⟩:=qo.1 c;rw[q9,e.1 x (zn g)];omega
theorem TT(h:i4 a=i4 b)(d:aU n a)(c:bP a=n){i:Nat}(e:i<n):aC (gQ n a b) i=(aC (bD (fE a b) n).2 i).drop n:=by
 simp only[aC,gQ,]
 grind
theorem OX(h:i4 a=i4 b)(e:aU n a)(l:aU w b)(g:bP a=n):
  (∀v,Span (n+w) (bD (fE a b) n).2 v↔Span (n+w) (fE a b) v)/\(bD (fE a b) n).2.length=i4 a/\(∀i,i<n->∀k,k<i4 a->aM (aC (bD (fE a b) n).2 k) i=if k=i then 1 else 0):=by
 have c:=nt h e l;have W:=Gs c n i6;have j:(bD (fE a b) n).1=n:=by rw[HS h e,g]
 obtain⟨p,d,o,q,f⟩:=W.piv;rw[j]at d o q f;have hid:=ahb d f;have m:(bD (fE a b) n).2.length=i4 a:=by rw[W.len,mP h]
 refine⟨W.span,m,λi s k r=>?_⟩
 grind
theorem OY{X:aO}{r:Row}{i k:Nat}(c:i<n)(b:∀j,j<n->aM r j=if i=j then 1 else 0):yd n X k r=aM r (n+k)^^^aM (aC X i) k:=by unfold yd;rw[Gq _ _ i n c λj a=>b j a]
theorem TU{X:aO}{r:Row}{k:Nat}(a:∀j,j<n->aM r j=0):yd n X k r=aM r (n+k):=by unfold yd;rw[gw _ _ n a,zV]
theorem ms(h:i4 a=i4 b)(l:aU n a)(o:aU w b)(s:bP a=n){X:aO}(f:gM n w a b X):X=gQ n a b/\lI n a b:=by
 have u:=nt h l o;have p:=gA u n;obtain⟨m,D,z⟩:=OX h l o s;have B:=pS a l;have v:=(Jk h l o f.1 f.2.1).1 f;obtain⟨x,s2⟩:=uW h l o s;constructor
 .refine abN (by rw[f.1,x]) λi d=>fc (n:=w) (ci f.2.1 d) (ci s2 (by rw[x];rw[f.1]at d;exact d)) λk A=>?_;rw[f.1]at d;have h3:=v k A _ ((m _).1 (Span.row p.1 (mem_row (show i<(bD (fE a b) n).2.length by omega))));rw[OY d λj q=>z j q i i6]at h3;rw[TT h l s d,OV];exact(pT.1 h3).symm
 .intro r t;obtain⟨i,d,rfl⟩:=qA t;rw[q9]at d;rw[z8];have g:n+i<(bD (fE a b) n).2.length:=i6
  have e:=bv g;have c:=ci p.1 g;rw[<-e,c];refine fc (n:=n+w) c lb λj q=>?_;rw[cu];by_cases y:j<n
  .grind
  .obtain⟨k,rfl⟩:∃k,j=n+k:=⟨j-n,i6⟩
   have h3:=v k i6 _ ((m _).1 (Span.row p.1 (mem_row g)))
   rwa [TU λj q=>j1]at h3
theorem pU(h:i4 a=i4 b)(e:aU n a)(g:aU w b)(o:bP a=n)(y:lI n a b):gM n w a b (gQ n a b):=by
 have l:=nt h e g;have s:=gA l n;obtain⟨p,G,u⟩:=OX h e g o;have B:=pS a e;obtain⟨A,s2⟩:=uW h e g o;refine(Jk h e g A s2).2 λk E v z=>?_;refine Span.lin s.1 (yd n (gQ n a b) k) ?_ (λc x t F s=>TR n _ k c x t) (λr q=>?_) ((p v).2 z)
 .unfold yd;rw[cu,gw _ _ n λi _=>cu _ _];rfl
 .obtain⟨i,D,rfl⟩:=fD q;by_cases f:i<n
  .rw[OY f λj m=>u j m i i6,TT h e o f,OV];exact nl _
  .rw[TU λj m=>by rw[u j m i i6,g9 i6]];have:aC (bD (fE a b) n).2 i∈(bD (fE a b) n).2.drop n:=by
    rw[bv D];obtain⟨d,rfl⟩:∃d,i=n+d:=⟨i-n,i6⟩
    rw[<-z8 (h:=by rw[q9];omega)];exact qe _
   rw[y _ this,cu]
theorem RI(h:i4 a=i4 b)(f:aU n a)(g:aU w b)(i:i4 a=n):lI n a b:=by have c:=nt h f g;have e:=gA c n;intro r d;rw[qY (by rw[e.2,mP h];omega)]at d;cases d
end
def OZ(l:av):Prop:=∀a b,a<i4 l->b<i4 l->fi l a=fi l b->a=b
theorem Gu{l:av}{i:Nat}(h:i<i4 l):fi l i=l[i]:=by rw[fi,qg,qc h];rfl
theorem abO{l:av}{i j k:Nat}(b:i<i4 l)(a:j<i4 l):fi (jz l i j) k=if k=j then fi l i else if k=i then fi l j else fi l k:=by
 simp only[fi,jz,]
 grind
theorem swap_inj{l:av}{i j:Nat}(o:i<i4 l)(f:j<i4 l)(h:OZ l):OZ (jz l i j):=by
 intro a b g m n;rw[rU]at g m;have c:∀k,k<i4 l->∃σ,σ<i4 l/\fi (jz l i j) k=fi l σ/\(σ=if k=j then i else if k=i then j else k):=λk p=>by
  rw[abO o f];by_cases e:k=j
  .rw[g0 e,g0 e];exact⟨i,o,i5,i5⟩
  .rw[g9 e,g9 e];by_cases d:k=i
   .rw[g0 d,g0 d];exact⟨j,f,i5,i5⟩
   .rw[g9 d,g9 d];exact⟨k,p,i5,i5⟩
 obtain⟨s,r,u,w⟩:=c a g;obtain⟨t,q,e2,v⟩:=c b m;rw[u,e2]at n;have:=h s t r q n
 grind
theorem Yh{l:av}(h:OZ l):l.Nodup:=by rw[List.nodup_iff_pairwise_ne,q7];intro i j b a c d;have:=h i j b a (by rw[Gu b,Gu a];exact d);omega
theorem abP(n:Nat):OZ (upto n):=by intro a b c d e;rw[gP]at c d;rw[Gu (by rw[gP];exact c),Gu (by rw[gP];exact d)]at e;simp[upto]at e;omega
theorem Pa(n:Nat)(s:Int):∀k,k<=n->n<=64->OZ (eC n s (upto n) k).2
 |0,_,_=>abP n
 |k+1,hk,hn=>by
  have a:=rV n s (upto n) k;rw[gP]at a;have:=oS (eC n s (upto n) k).1 ((n-k:Nat));exact swap_inj i6 i6 (Pa n s k i6 hn)
theorem Vv(s:Int)(n k:Nat)(a:k<=n)(b:n<=64):(AR s n k).Nodup:=by have h:=(Yh (Pa n s k a b)).sublist (List.take_sublist k _);exact(we _ _).nodup_iff.2 h
theorem CT{n:Nat}(a:1<=n)(b:n<=20)(seed id:Int):(df n seed id).Nodup:=Vv _ _ _ (rX _ n a b) i6
theorem RJ(n:Nat)(seed id:Int):(df n seed id).Pairwise (·<=·):=by have:=wF (le:=λx y:Int=>decide (x<=y)) j1 j1 ((eC n (pN (pN (ta seed id))) (upto n) (uu (pN (ta seed id)) n)).2.take (uu (pN (ta seed id)) n));exact this.imp js
theorem KV{r:Row}{i j:Nat}{x:UInt8}(a:i<i4 r):aM (r.set i x) j=if j=i then x else aM r j:=by
 simp only[aM,]
 grind
theorem Md(n:Nat)(l:av)(c:Int):fT n (l++[c])=(fT n l).set c.toNat 1:=by rw[fT,zH];rfl
theorem CV{n:Nat}:∀(l:av) (_:∀x∈l,0<=x/\x<(n:Int)) (j:Nat),aM (fT n l) j=if(j:Int)∈l then 1 else 0:=by
 intro l;have b:∀k,k<=i4 l->(∀x∈l,0<=x/\x<(n))->∀j:Nat,aM (fT n (l.take k)) j=if(j:Int)∈l.take k then 1 else 0:=by
  intro k
  induction k with
  |zero=>intro _ _ j;exact cu n j
  |succ k ih=>
   intro d a j;have c:=a _ (qe (show k<i4 l by omega));rw[zl i6,Md,KV sb,]
   grind
 intro a j;have:=b l.length (qi _) a j
 grind
theorem HT{f f' g:Nat->UInt8}{c:Nat}(h0:f c=0)(a:∀i,f' i=if i=c then 1 else f i):∀k,bT f' g k=bT f g k^^^if c<k then g c else 0
 |0=>by simp[bT]
 |k+1=>by
  rw[bT,bT,HT h0 a k,a k];by_cases b:k=c
  .subst b;rw[g0 i5,g9 i6,g0 i6,Gf.one_mul,h0,Gf.zero_mul]
  grind
def gx(w:Nat)(X:aO)(l:av):Row:=l.foldl (λs c=>cB 1 (aC X c.toNat) s) (aN w)
theorem CW(w:Nat)(X:aO)(l:av)(c:Int):gx w X (l++[c])=cB 1 (aC X c.toNat) (gx w X l):=by rw[gx,zH];rfl
theorem pV{n w:Nat}{X:aO}(b:aU w X)(e:i4 X=n){l:av}(a:∀x∈l,0<=x/\x<(n:Int)):∀k,k<=i4 l->i4 (gx w X (l.take k))=w:=by
 intro k
 induction k with
 |zero=>intro _;simp[gx,aN]
 |succ k ih=>
  intro d;have c:=a _ (qe (show k<i4 l by omega));rw[zl i6,CW,bR (by rw[ci b,ih i6])];exact ih i6
theorem TV{n w:Nat}{X:aO}(b:aU w X)(c:i4 X=n){l:av}(a:∀x∈l,0<=x/\x<(n:Int)):i4 (gx w X l)=w:=by
 have:=pV b c a l.length (qi _)
 rwa [qh (qi _)]at this
theorem afl{n w:Nat}{X:aO}(a:aU w X)(b:i4 X=n){l:av}(d:∀x∈l,0<=x/\x<(n:Int))(o:l.Nodup):gx w X l=rY w (fT n l) X n:=by
 have m:∀k,k<=i4 l->gx w X (l.take k)=rY w (fT n (l.take k)) X n:=by
  intro k
  induction k with
  |zero=>
   intro _;refine fc (n:=w) (by simp[gx,aN]) (iY a b _ n (qi _)) λj _=>?_;rw[iw a b _ j n (qi _),gw _ _ n λi _=>by simp only[xI,fT,wu];exact cu n i];simp only[xI,gx,wu];exact cu w j
  |succ k ih=>
   intro r;have q:=d _ (qe (show k<i4 l by omega));have p:=pV a b d k i6;rw[zl i6,CW,Md,ih i6];refine fc (n:=w) ?_ (iY a b _ n (qi _)) λj _=>?_
   .rw[bR (by rw[ci a,iY a b _ n (qi _)])];exact iY a b _ n (qi _)
   .rw[cM (by rw[ci a,iY a b _ n (qi _)]),iw a b _ j n (qi _),iw a b _ j n (qi _)];have g:l[k]∉l.take k:=λh=>by
     have e:l=l.take k++l[k]::l.drop (k+1):=by rw[<-qJ i6,qy]
     rw[e,List.nodup_append]at o;exact o.2.2 _ h _ qQ i5
    have h0:aM (fT n (l.take k)) l[k].toNat=0:=by
     rw[CV _ λx q=>d x (zn q),g9];intro h;apply g;have:((l[k].toNat:Nat):Int)=l[k]:=i6
     rwa [this]at h
    rw[HT (f:=λi=>aM (fT n (l.take k)) i) (c:=l[k].toNat) h0 (λi=>KV sb) n,g0 i6,Gf.one_mul]
 have:=m l.length (qi _)
 rwa [qh (qi _)]at this
def kY(K H w:Nat)(d:Row):aO:=qf H (aN w)++(qn K).map (En d w)
def dP(p:Int×Int×Int)(seed:Int)(d:Row):aO:=gQ (bp p).toNat (db p seed (fj p)) (kY p.1.toNat p.2.1.toNat p.2.2.toNat d)
structure co (p:Int×Int×Int) (seed:Int) (d:Row) (K H w n:Nat):Prop where
 may:bB p=eS
 full:eK p seed (fj p)=eS
 k:p.1=K
 h:p.2.1=H
 s:p.2.2=w
 n:n=K+H
 k1:1<=K
 k2:K<=16
 h1:1<=H
 h2:H<=4
 w1:1<=w
 w2:w<=24
 len:i4 d=K*w
theorem Vw{p:Int×Int×Int}{seed:Int}{d:Row}(a:bB p=eS)(b:eK p seed (fj p)=eS)(c:(i4 d:Int)=p.1*p.2.2):∃K H w n,co p seed d K H w n:=by
 have:=(bK p).1 a;refine⟨p.1.toNat,p.2.1.toNat,p.2.2.toNat,p.1.toNat+p.2.1.toNat,a,b,i6,i6,i6,i5,i6,i6,i6,i6,i6,i6,?_⟩
 grind
section
variable {p:Int×Int×Int} {seed:Int} {d:Row} {K H w n:Nat}
theorem co.dh(B:co p seed d K H w n):bp p=n:=by rw[oW B.may,B.k,B.h,B.n];rfl
theorem co.pW(B:co p seed d K H w n):(bp p).toNat=n:=by rw[B.dh];rfl
theorem Vx(a:p.1=(K:Int))(h:K<=16):fj p=upto K:=by rw[fj];grind
theorem RK(h:K<=16):(upto K).filter bE=upto K:=by rw[List.filter_eq_self];intro x a;simp[upto]at a;simp[bE];omega
theorem co.IY(B:co p seed d K H w n):db p seed (fj p)=bj K H++(qn K).map λi:Nat=>ly n seed (i:Int):=by rw[db,g0 B.may,Vx B.k B.k2,RK B.k2,B.k,B.h,B.pW,upto,List.map_map];rfl
theorem co.EG(B:co p seed d K H w n):i4 (db p seed (fj p))=n:=by rw[B.IY,qu,qp,zq,bj,qp,zq,B.n];omega
theorem co.Gv(B:co p seed d K H w n):aU n (db p seed (fj p)):=by
 have:=jr p seed (fj p)
 rwa [B.pW]at this
theorem co.KW(B:co p seed d K H w n):bP (db p seed (fj p))=n:=by
 have h:=B.full;rw[eK,B.dh,nV]at h
 grind
theorem EH(K H w:Nat)(d:Row):i4 (kY K H w d)=K+H:=by simp[kY];omega
theorem uy(c:i4 d=K*w):aU w (kY K H w d):=λr b=>by
 rcases qt.1 b with h|h
 .rw[(List.mem_replicate.1 h).2];simp[aN]
 .obtain⟨i,a,rfl⟩:=qo.1 h;rw[qK]at a;exact afd (by rw[c];exact zi w a)
theorem Yi{i:Nat}(a:i<H):aC (kY K H w d) i=aN w:=by rw[aC,kY,qg,qq j1];simp[a]
theorem Vy{i:Nat}(a:i<K):aC (kY K H w d) (H+i)=En d w i:=by rw[aC,kY,];simp[a]
theorem co.DM(B:co p seed d K H w n):dP p seed d=gQ n (db p seed (fj p)) (kY K H w d):=by rw[dP,B.pW,B.k,B.h,B.s];rfl
theorem co.lens(B:co p seed d K H w n):i4 (db p seed (fj p))=i4 (kY K H w d):=by rw[B.EG,EH,B.n]
theorem co.oB(B:co p seed d K H w n):i4 (dP p seed d)=n/\aU w (dP p seed d):=by rw[B.DM];exact uW B.lens B.Gv (uy B.len) B.KW
theorem co.gM(B:co p seed d K H w n):gM n w (db p seed (fj p)) (kY K H w d) (dP p seed d):=by rw[B.DM];exact pU B.lens B.Gv (uy B.len) B.KW (RI B.lens B.Gv (uy B.len) B.EG)
theorem co.ahc(B:co p seed d K H w n){i:Nat}(a:i<H):aC (db p seed (fj p)) i=jH K H i:=by rw[B.IY,aC,qg,qq (by simpa[bj]using a)];simp[bj,a]
theorem co.afm(B:co p seed d K H w n){i:Nat}(a:i<K):aC (db p seed (fj p)) (H+i)=ly n seed (i:Int):=by rw[B.IY,aC,];simp[bj,a]
theorem co.low(B:co p seed d K H w n){i:Nat}(a:i<H):rY w (jH K H i) (dP p seed d) n=aN w:=by
 have:=B.gM.2.2 i (by rw[B.EG,B.n];omega)
 rwa [B.ahc a,Yi a]at this
theorem co.high(B:co p seed d K H w n){i:Nat}(a:i<K):rY w (ly n seed (i:Int)) (dP p seed d) n=En d w i:=by
 have:=B.gM.2.2 (H+i) (by rw[B.EG,B.n];omega)
 rwa [B.afm a,Vy a]at this
theorem co.n1(B:co p seed d K H w n):1<=n:=by have:=B.n;have:=B.k1;omega
theorem co.n2(B:co p seed d K H w n):n<=20:=by have:=B.n;have:=B.k2;have:=B.h2;omega
theorem co.sym(B:co p seed d K H w n)(id:Int):gx w (dP p seed d) (df n seed id)=rY w (ly n seed id) (dP p seed d) n:=
 afl B.oB.2 B.oB.1 (λ_ a=>mf B.n1 B.n2 a) (CT B.n1 B.n2 seed id)
theorem co.abQ(B:co p seed d K H w n){i:Nat}(a:i<K):gx w (dP p seed d) (df n seed (i:Int))=En d w i:=by rw[B.sym,B.high a]
theorem co.Yj(B:co p seed d K H w n)(id:Int):i4 (gx w (dP p seed d) (df n seed id))=w:=
 TV B.oB.2 B.oB.1 λ_ a=>mf B.n1 B.n2 a
end
end
theorem RL{α:Type}{c k:Nat}{f:α->aW}:∀{rs:List Sl} {ll:List (List α)} (b:List Sl) (a:List (List α)),i4 rs=i4 ll->bu c k f (rs++b) (ll++a)=bu c k f rs ll++bu c k f b a:=by
 unfold bu
 grind
theorem aa.abR{B:aw}{h0 h:f9}{X:HP}:∀{L M:List HP},aa B h0 h (L++X::M)->aa B h0 h (L++M):=λ{L M} H=>by
 have:=H.del L.length
 grind
variable {h':f9} {e2:Nat} {s2:Sl} {ll:List (List α)}
section
variable {C:Ctx} {l2:List (List α)}
theorem aa.afn(r:C.Ok)(H:aa B h0 h (fC e s e2 k f ll::fC e s2 e2 k f l2::As))(y:bV C.toBX t e 1 [.slice eH 0 0] 24)(p:∃i e2,C.T.get t2=dB i/\i.cv=.slice e2)(A:i4 ll+i4 l2<=2^32){ty:Nat}{K:Sl->f9->Prop}
  (u:∀d h',aa B h0 h' (fC e d e2 k f (ll++l2)::As)->K d h'):
  bI C.P (zo #[t,t2] ty #[.slice s.ptr s.len s.cap,.slice s2.ptr s2.len s2.cap]) (.one (.sc .slc)) h K:=by
 obtain⟨rs,z,l⟩:=H.CL;obtain⟨c,j⟩:=z6 (bu e2 k f rs ll)
 rw[<-j]at l;have x:aa B h0 h (fC e s2 e2 k f l2::(As++(aq e s 1 bx rs::c))):=l.front;obtain⟨a,o,v⟩:=x.CL;obtain⟨L2,q⟩:=z6 (bu e2 k f a l2)
 have n:=v.front;rw[qm]at n;have D:=n.front;have m:aa B h0 h (aq e s 1 bx rs::(c++(aq e s2 1 bx a::(L2++As)))):=j1
 have w:Seq h (λb=>b<h.size) s2 1 bx a:=m.seq (i4 c+1) (by rw[qO,qk (qi _),za];rfl) λ_=>rfl;refine m.append r 0 i5 y p i5 i7 (λ_=>rfl) w jN i6 λd h' g=>u d h' ?_;have g:aa B h0 h' ((aq e d 1 bx (rs++a)::c)++(aq e s2 1 bx a::(L2++As))):=g;have E:=aa.abR g;refine aa.Et (rs:=rs++a) j1 ?_;rw[RL a l2 z,]
 grind
end
abbrev iy:=FloatKind.format .f64
theorem EI{P:Program}{a b c:Nat}(h:iy.add a b=dB c):aH P (Op.Complex.arith .add .f64 a b) c:=λw=>by
 have h':(FloatKind.format .f64).add a b=dB c:=h;unfold Op.Complex.arith Op.floatArith;simp only[h'];rfl
theorem EJ{P:Program}{a b c:Nat}(h:iy.sub a b=dB c):aH P (Op.Complex.arith .sub .f64 a b) c:=λw=>by
 have h':(FloatKind.format .f64).sub a b=dB c:=h;unfold Op.Complex.arith Op.floatArith;simp only[h'];rfl
theorem AV{P:Program}{a b c:Nat}(h:iy.mul a b=dB c):aH P (Op.Complex.arith .mul .f64 a b) c:=λw=>by
 have h':(FloatKind.format .f64).mul a b=dB c:=h;unfold Op.Complex.arith Op.floatArith;simp only[h'];rfl
theorem GX{P:Program}{op:BinOp}(h:op=.add∨op=.sub∨op=.mul)(t:TypeId)(x y:Operand)(a b:fz):aH P (eqGuard op t x y a b) ():=λw=>by
 rcases h with rfl|rfl|rfl<;>rfl
theorem afo{P:Program}{t:TypeId}{x y:Operand}{a b c d e f:Nat}(g:iy.add a c=dB e)(h:iy.add b d=dB f):kU P .add t x y (.complex .f64 a b) (.complex .f64 c d) (.complex .f64 e f):=
 (GX (.inl i5) t x y _ _).bind (show aH P (Op.complexOp .add .f64 a b c d) _ from(EI g).bind ((EI h).bind λ_=>rfl))
theorem afp{P:Program}{t:TypeId}{x y:Operand}{a b c d e f:Nat}(g:iy.sub a c=dB e)(h:iy.sub b d=dB f):kU P .sub t x y (.complex .f64 a b) (.complex .f64 c d) (.complex .f64 e f):=
 (GX (.inr (.inl i5)) t x y _ _).bind (show aH P (Op.complexOp .sub .f64 a b c d) _ from(EJ g).bind ((EJ h).bind λ_=>rfl))
theorem afq{P:Program}{t:TypeId}{x y:Operand}{a b c d e f g j i k:Nat}(p:iy.mul a c=dB g)(o:iy.mul b d=dB j)(h3:iy.sub g j=dB e)(m:iy.mul a d=dB i)(l:iy.mul b c=dB k)(n:iy.add i k=dB f):
  kU P .mul t x y (.complex .f64 a b) (.complex .f64 c d) (.complex .f64 e f):=by
 have q:aH P (Op.Complex.product a b c d) (e,f):=
  (AV p).bind ((AV o).bind ((EJ h3).bind ((AV m).bind ((AV l).bind ((EI n).bind λ_=>rfl)))))
 have h:∀x,aH P (Op.Complex.conv .f64 x .f64) x:=λx w=>rfl;refine aH.bind (v:=(e,f)) ?_ ?_
 .exact q
 .exact(h e).bind ((h f).bind λ_=>rfl)
section
open Go.Sort
theorem afr{w w':World}(j:dC w w')(g:aS (λb=>b<w.heap.size) w.heap w'.heap):∃q a,w'=Sort.grow (w.drewN q) a:=by
 refine⟨w'.drawn-w.drawn,w'.heap.extract w.heap.size w'.heap.size,?_⟩;have l:w.heap++w'.heap.extract w.heap.size w'.heap.size=w'.heap:=by
  apply ve;intro i;by_cases c:i<w.heap.size
  .rw[Array.getElem?_append_left c,g.2 i c c]
  grind
 obtain⟨d,f,h,a,e⟩:=w';obtain⟨k,e2,m,n⟩:=j;simp only[Sort.grow,World.drewN,World.mk.injEq]
 grind
theorem Mf{α:Type}[Inhabited α]{enc:α->aW}{k:Nat}(c:∀x,i4 (enc x)=k)(l:List α):flatK enc k l.toArray=(l.flatMap enc).toArray:=by
 refine ext_get! (by simp[dX c]) λt d=>?_;have a:t<i4 l*k:=rb
 have b:0<k:=j1
 rw[get_flatK _ _ _ t j1];have f:t/k<i4 l:=(Nat.div_lt_iff_lt_mul b).2 a;obtain⟨pre,post,h,e2⟩:=CH c l (t/k) l[t/k] (qc f);have g:t%k<k:=yW _ b;have e:t=t/k*k+t%k:=by rw[Nat.mul_comm];exact(Nat.div_add_mod t k).symm
 grind
theorem Vz{α:Type}[Inhabited α]{enc:α->aW}{k:Nat}(c:∀x,i4 (enc x)=k){w:World}{e:TypeId}{b:Nat}{rest:aW}{l:List α}(d:w.heap[b]?=dB (.cells (l.flatMap enc++rest).toArray e (0,0))):HoldsK enc k w b 0 l.toArray:=by
 intro j a;rw[Mf c]at a⊢;refine⟨?_,by simp[World.frozen?,d]⟩;simp only[World.cell?,]
 grind
theorem Yk{α:Type}[Inhabited α]{enc:α->aW}{k:Nat}(a:∀x,i4 (enc x)=k)(l l':List α)(rest:aW)(d:i4 l'=i4 l):putCells id 0 (flatK enc k l'.toArray) (l.flatMap enc++rest).toArray=(l'.flatMap enc++rest).toArray:=by
 rw[Mf a];have c:=dX a l;have b:=dX a l';rw[d]at b;apply ve;intro i;simp only[putCells,Array.getElem?_mapIdx,wb,yT,wo,Nat.zero_le,true_and,Nat.sub_zero];by_cases e:i<i4 l*k
 .rw[qq i6,qq i6,qc i6,qc i6,qW,g0 i6];rw[getElem!_pos _ i (by rw[yT];omega)];simp
 .rw[qk i6,qk i6,c,b];cases rest[i-i4 l*k]? with
  |none=>rfl
  |some x=>rw[qW,g9 i6]
theorem Nr{α:Type}[Inhabited α]{P:Program}{id_ g:FuncId}{enc:α->aW}{k:Nat}{cf:α->α->Int}(B:∀x,i4 (enc x)=k)
  (G:∀(fy cap:Nat) (l:List α) (w:World),CmpLays P g #[] enc k cf fy 0 l.length w->HoldsK enc k w fy 0 l.toArray->fy<w.heap.size->i4 l<4611686018427387904->
   Calls P id_ #[.slice (dB ⟨fy,0,eH⟩) l.length cap,.func (.func g) #[] #[]] w λe w'=>e=.returned (.tuple #[])/\∃n os,w'=sortWorldK enc k w fy 0 n (l.mergeSort λx y=>!(ltOf cf) y x).toArray os)
  (E:∀(p:bL) (cap:Nat) (w:World),Calls P id_ #[.slice p 0 cap,.func (.func g) #[] #[]] w λe w'=>e=.returned (.tuple #[])/\w'=w)
  (F:∀x y h,ai P g #[.agg (enc x).toArray,.agg (enc y).toArray] h λv h'=>v=xU ka (cf x y)/\aS (λb=>b<h.size) h h')
  {e:TypeId} {s:Sl} {l:List α} {h:f9} (z:Own h e s k enc l) (J:i4 l<2^40):
  ai P id_ #[.slice s.ptr s.len s.cap,.func (.func g) #[] #[]] h λv h'=>v=.tuple #[]/\Own h' e s k enc (l.mergeSort λx y=>!(ltOf cf) y x)/\aS (λb=>¬s.on b) h h':=by
 intro w i;have a:=z.len;rcases z.head with⟨h1,h2,h3⟩|⟨b,rest,h1,h2,h3,h4⟩
 .subst h3;rw[a,h1];refine(E eH s.cap w).mono ?_;rintro A w' ⟨rfl,rfl⟩;have D:(([]:List α).mergeSort λx y=>!(ltOf cf) y x)=[]:=js
  exact⟨_,i5,dC.refl _,i5,by rw[D];exact⟨a,.inl ⟨h1,h2,i5⟩⟩,by rw[<-i];exact aS.refl _ _⟩
 .rw[h1,a];have r:w.heap[b]?=dB (.cells (l.flatMap enc++rest).toArray e (0,0)):=by rw[i];exact h2
  have f:CmpLays P g #[] enc k cf b 0 l.length w:=λm os H _ x y=>by
   have:=F x y _ (sortWorldK enc k w b 0 m H os) i5;refine(show Calls P g (#[Value.agg (enc x).toArray,.agg (enc y).toArray]++#[]) _ _ from ?_);rw[Array.append_empty];refine this.mono ?_;rintro A w' ⟨v,rfl,I,rfl,u⟩;exact⟨i5,afr I u⟩
  refine(G b s.cap l w f (Vz B r) (lt_of_block r) i6).mono ?_;rintro A w' ⟨rfl,n,os,rfl⟩;have o:=lt_of_block r;have q:i4 (l.mergeSort λx y=>!(ltOf cf) y x)=i4 l:=wD l;have c:∀j,j<h.size->(sortWorldK enc k w b 0 n (l.mergeSort λx y=>!(ltOf cf) y x).toArray os).heap[j]?=if b=j then dB (.cells ((l.mergeSort λx y=>!(ltOf cf) y x).flatMap enc++rest).toArray e (0,0))else h[j]?:=by
   intro j t;unfold sortWorldK;rw[Sort.heap_grow_old _ _ (by simpa[putRowK,Sort.putRow,Sort.mapBlock,Sort.ahead,i]using t)];simp only[putRowK,Sort.putRow,Sort.mapBlock,Sort.ahead,ym];by_cases d:b=j
   .subst d;rw[g0 i5,g0 i5,r,qW,Sort.onCells,Yk B _ _ _ q]
   .rw[g9 d,g9 d,i]
  rw[i]at o;refine⟨_,i5,⟨i5,i5,i5,Nat.le_add_right _ _⟩,i5,⟨by rw[q];exact a,.inr ⟨b,rest,h1,?_,h3,h4⟩⟩,?_,?_⟩
  .rw[c b o,g0 rfl]
  .simp[sortWorldK,putRowK,Sort.grow,Sort.putRow,Sort.mapBlock,Sort.ahead,i]
  .intro j t u;rw[c j t,g9 λd=>u ⟨0,by rw[h1,d]⟩]
end
def dg(n:Int):Nat:=
 if n=0 then 0 else
  let m:=n.natAbs;let e:=m.log2
  (if n<0 then 2^63 else 0)+(1023+e)*2^52+(m-2^e)*2^(52-e)
structure DN where
 ax:Nat
 ay:Nat
 sx:Nat
 sy:Nat
 left:Int
 leg:Int
 second:Bool
def pX:Nat:=4607182418800017408
def fs0:DN:=⟨0,0,pX,0,1,1,eX⟩
def oX(a b:Nat):Nat:=(iy.add a b).getD 0
def aju(a b:Nat):Nat:=(iy.sub a b).getD 0
def tV(a b:Nat):Nat:=(iy.mul a b).getD 0
def tx(a b:Nat):Nat:=aju (tV a 0) (tV b pX)
def ty(a b:Nat):Nat:=oX (tV a pX) (tV b 0)
def DN.on(s:DN):DN:=
 if s.left-1>0 then{s with ax:=oX s.ax s.sx,ay:=oX s.ay s.sy,left:=s.left-1}
 else{ax:=oX s.ax s.sx,ay:=oX s.ay s.sy,sx:=tx s.sx s.sy,sy:=ty s.sx s.sy,leg:=if s.second then s.leg+1 else s.leg,left:=if s.second then s.leg+1 else s.leg,second:=!s.second}
def kj:Nat->DN
 |0=>fs0
 |n+1=>(kj n).on
def DN.ok(s:DN):Bool:=
 (iy.add s.ax s.sx).isSome&&(iy.add s.ay s.sy).isSome&&(iy.mul s.sx 0).isSome&&(iy.mul s.sy pX).isSome&&(iy.sub (tV s.sx 0) (tV s.sy pX)).isSome&&(iy.mul s.sx pX).isSome&&(iy.mul s.sy 0).isSome&&(iy.add (tV s.sx pX) (tV s.sy 0)).isSome&&decide (1<=s.left)&&decide (s.left<=100)&&decide (1<=s.leg)&&decide (s.leg<=100)
structure Yl where
 x:Int
 y:Int
 dx:Int
 dy:Int
 left:Int
 leg:Int
 turns:Int
def ajv:Yl:=⟨0,0,1,0,1,1,0⟩
def Yl.on(s:Yl):Yl:=
 if s.left-1=0 then
  {x:=s.x+s.dx,y:=s.y+s.dy,dx:=-s.dy,dy:=s.dx,leg:=if(s.turns+1)%2=0 then s.leg+1 else s.leg,left:=if(s.turns+1)%2=0 then s.leg+1 else s.leg,turns:=s.turns+1}
 else{s with x:=s.x+s.dx,y:=s.y+s.dy,left:=s.left-1}
def gT:Nat->Yl
 |0=>ajv
 |n+1=>(gT n).on
theorem aiQ:∀n,n<64->(kj n).ok=eS:=j5
theorem ahe:∀n,n<64->((kj n).ax==dg (gT n).x&&(kj n).ay==dg (gT n).y&&decide (-4<=(gT n).x)&&decide ((gT n).x<=4)&&decide (-4<=(gT n).y)&&decide ((gT n).y<=4))=eS:=j5
theorem ahf:∀i,i<9->∀j,j<9->iy.sub (dg ((i:Nat)-4:Int)) (dg ((j:Nat)-4:Int))=dB (dg ((i:Int)-(j:Int))):=j5
theorem ahg:∀i,i<17->iy.mul (dg ((i:Nat)-8:Int)) (dg ((i:Nat)-8:Int))=dB (dg (((i:Nat)-8:Int)*((i:Nat)-8:Int))):=j5
theorem ahh:∀i,i<9->∀j,j<9->iy.add (dg (((i:Nat):Int)*(i:Nat))) (dg (((j:Nat):Int)*(j:Nat)))=dB (dg (((i:Nat):Int)*(i:Nat)+((j:Nat):Int)*(j:Nat))):=j5
theorem Ym:∀m,m<129->∀n,n<129->iy.order (dg (m:Nat)) (dg (n:Nat))=dB (compare m n):=j5
theorem VA{seq a c:Int}{b:aL}(d:i4 b<=48):dS (kQ seq a c b)=eH:=by unfold dS kQ;rw[AU i7 i7 m9];dsimp only;rw[g9 (by rintro⟨h,_⟩;exact absurd h i7)]
theorem oC{m:au}{c:aL}(h:c∈ba m):dS c=eH:=by unfold ba at h;obtain⟨i,_,rfl⟩:=qo.1 h;exact VA jj
theorem Mg{α:Type}{R:α->α->Prop}(n:∀a b c,R a b->R b c->R a c){l:List α}(h:∀i (m:i+1<i4 l),R (l[i]'i6) l[i+1]):l.Pairwise R:=by
 have f:∀d i (g:i+(d+1)<i4 l),R (l[i]'i6) l[i+(d+1)]:=by
  intro d
  induction d with
  |zero=>omega
  |succ d ih=>grind
 refine q7.2 λi j m g k=>?_;have:=f (j-i-1) i i6;have e:i+(j-i-1+1)=j:=i6
 grind
theorem Mh{α:Type}{R:α->α->Prop}{l:List α}(h:l.Pairwise R)(i:Nat)(a:i+1<i4 l):R (l[i]'i6) l[i+1]:=q7.1 h i (i+1) i6 a i6
theorem gh{α:Type}{l:List α}{i:Nat}(d:α)(h:i<i4 l:=by omega):l.getD i d=l[i]:=j1
theorem mQ(n a b:Int):ga n a b=eS↔a<=n/\n<=b:=by unfold ga;simp
theorem Yn(l:av)(most:Int):sK l most=eS↔l.Pairwise (·<·)/\∀x∈l,0<=x/\x<=most:=by
 unfold sK;rw[qS];constructor
 .intro h;have j:∀i (d:i<i4 l),(0<=l[i]/\l[i]<=most)/\(i=0∨l.getD (i-1) 0<l[i]):=λi d=>by
   have:=h i (qK.2 d);unfold kB at this;rw[qx,mQ,]at this
   grind
  refine⟨Mg (R:=λa b:Int=>a<b) (λa b c e f=>Int.lt_trans e f) λi d=>?_,λx g=>?_⟩
  .grind
  .obtain⟨i,d,rfl⟩:=qA g;exact(j i d).1
 .rintro⟨e,f⟩ i d;have d:=qK.1 d;unfold kB;rw[gh 0 d,qx,mQ,yG,decide_eq_true_eq,decide_eq_true_eq];refine⟨f _ (qe d),?_⟩;cases i with
  |zero=>simp
  |succ i=>exact .inr (by rw[gh 0];exact Mh e i d)
theorem Pb(a b c:ByteArray)(d:fO a b=eS)(e:fO b c=eS):fO a c=eS:=Gp _ _ _ d e
theorem bG(m:au):bh m=eS↔lH m=eS/\m.drives.Pairwise (·<·)/\(∀k∈m.drives,0<=k/\k<=63)/\m.aA.length<=12/\(∀e∈m.aA,iv m e=eS)/\m.aA.Pairwise (λa b=>fO a.name b.name=eS)/\m.aA.Pairwise (λa b=>a.object≠b.object):=by
 unfold bh;rw[qx,qx,qx,Yn,decide_eq_true_eq,qS];have q:(∀i∈qn m.aA.length,pQ m i=eS)↔(∀e∈m.aA,iv m e=eS)/\m.aA.Pairwise (λa b=>fO a.name b.name=eS)/\m.aA.Pairwise (λa b=>a.object≠b.object):=by
  constructor
  .intro h;have p:∀i (l:i<m.aA.length),iv m m.aA[i]=eS/\(i=0∨fO (pP m.aA (i-1)).name m.aA[i].name=eS)/\∀y∈m.aA.take i,y.object≠m.aA[i].object:=λi l=>by
    have:=h i (qK.2 l);unfold pQ at this;rw[oV l,qx,qx,yG,decide_eq_true_eq,yB,wi]at this;exact⟨this.1,this.2.1,λy o=>by have:=this.2.2 y o;simpa using this⟩
   refine⟨λe u=>?_,Mg (R:=λa b:bU=>fO a.name b.name=eS) (λa b c r n=>Pb _ _ _ r n) λi l=>?_,q7.2 λi j l s t=>?_⟩
   .obtain⟨i,l,rfl⟩:=qA u;exact(p i l).1
   .rcases(p (i+1) l).2.1 with h0|h0
    .omega
    .rw[Nat.add_sub_cancel,oV]at h0;exact h0
   .refine(p j s).2.2 m.aA[i] ?_;exact yl.2 ⟨i,i6,i5⟩
  .rintro⟨r,n,h3⟩ i l;have l:=qK.1 l;unfold pQ;rw[oV l,qx,qx,yG,decide_eq_true_eq,yB,wi];refine⟨r _ (qe l),?_,λy o=>?_⟩
   .cases i with
    |zero=>exact .inl i5
    |succ i=>exact .inr (by rw[Nat.add_sub_cancel,oV];exact Mh n i l)
   .obtain⟨j,s,rfl⟩:=yl.1 o;have:=q7.1 h3 j i i6 l i6;simpa using this
 rw[q];constructor
 .rintro⟨a,⟨b,c⟩,d,e,f,g⟩;exact⟨a,b,c,d,e,f,g⟩
 .rintro⟨a,b,c,d,e,f,g⟩;exact⟨a,⟨b,c⟩,d,e,f,g⟩
theorem dl(m:au):lH m=eS↔(1<=m.seq/\m.seq<=2147483647)/\(0<=m.next/\m.next<=16777216)/\bB m.p=eS/\0<=m.extra/\m.extra<=16:=by unfold lH;rw[qx,qx,qx,mQ,mQ,mQ]
theorem gb(m:au)(x:bU):iv m x=eS↔kW x.name=eS/\(0<=x.object/\x.object<m.next)/\(0<=x.length/\x.length<=m.p.1*m.p.2.2*8)/\(∀t∈x.tries,0<=t/\t<=15)/\(x.tries.length:Int)=countP m.p x.length:=by
 unfold iv;rw[qx,qx,qx,qx,mQ,mQ,qS,decide_eq_true_eq];simp only[mQ];constructor
 .rintro⟨a,b,c,d,e⟩;exact⟨a,⟨b.1,i6⟩,c,d,e⟩
 .rintro⟨a,b,c,d,e⟩;exact⟨a,⟨b.1,i6⟩,c,d,e⟩
theorem mu{m:au}(h:bh m=eS):m.drives.Nodup:=((bG m).1 h).2.1.imp λh e=>i6
theorem gB{m:au}(h:bh m=eS):∀k∈m.drives,0<=k/\k<64:=λk a=>by have:=((bG m).1 h).2.2.1 k a;omega
theorem HU:∀{l:av} {a b:Int},l.Pairwise (·<·)->(∀k∈l,a<=k/\k<b)->a<=b->(i4 l:Int)<=b-a
 |[],a,b,_,_,h=>jj
 |x::l,a,b,hp,hl,h=>by
  obtain⟨d,e⟩:=zu.1 hp;have f:=hl x qQ;have:=HU (a:=x+1) (b:=b) e (λk c=>⟨by have:=d k c;omega,(hl k (List.mem_cons_of_mem _ c)).2⟩) i6;rw[q8];omega
theorem gy{m:au}(h:bh m=eS):i4 m.drives<=64:=by have:=HU ((bG m).1 h).2.1 (gB h) i7;omega
end Go.Qw
