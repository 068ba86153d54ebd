/- Lemmas for the proof of the law; no condition. -/
import Derived.Test.YtcjnjifdphcijaaGreatDoorVcA
import Derived.Sort.Grow
import Derived.Lib.SlicesCompact
import Derived.Lib.RowBridge
set_option linter.unusedVariables false
set_option linter.unusedSimpArgs false
open Array renaming ext' -> yI, getElem?_eq_some_iff -> yT, range -> xw, toList_map -> xf
open List renaming filter_cons_of_pos -> vd, getElem?_cons_zero -> yc, getElem?_mapIdx -> vy, getElem?_take -> vi, mem_or_eq_of_mem_set -> wC, pairwise_mergeSort -> ve, range -> qx, replicate -> qg, set_comm -> vN, set_eq_take_append_cons_drop -> yf, take_left -> vV, take_zero -> vU, zipWith -> zg
open Go.Value renaming int -> xJ
open Go.IntKind renaming bits -> qI, i64 -> xP, signed -> vb, u32 -> xR, u64 -> xS, u8 -> xQ, wrap -> qe
open Go.Builtin renaming append_ -> zA, clear_ -> vS, copy_ -> yh, firstCells -> wP, nextslicecap -> vw, zeroCells -> yE
open Go.Instr renaming alloc -> yQ, box -> vD, buildSlice -> zO, fill -> wK, makeSlice -> zD, storeAt -> qH
open Int renaming fdiv -> zQ, tmod -> xD
open Option renaming some -> zX
open UInt8 renaming lt_iff_toNat_lt -> wi, ofNat -> yR
open Prod renaming fst -> qE
open BitVec renaming ofInt -> qP, ofNat_toNat -> vQ, setWidth_eq -> vR
set_option maxRecDepth 100000
open Option renaming some -> dB, none -> et
open Bool renaming true -> ez, false -> eH
open Go renaming Value -> eR, Addr -> eS
open Go.Qw renaming cellOf -> eX, Heap -> f7
open List renaming length -> hY
namespace Go.Qw
variable {A B:Prop}
theorem af{p:Prop}[Decidable p](a:p->A)(b:¬p->B):Br (decide p) A B:=by
 by_cases h:p
 .rw[g0 h];exact a h
 .rw[g9 h];exact b h
theorem aX{a b:Int}(c:a=b->A)(d:a≠b->B):Br (a==b) A B:=by
 by_cases h:a=b
 .rw[beq_iff_eq.2 h];exact c h
 .rw[beq_eq_false_iff_ne.2 h];exact d h
theorem bA{a b:Int}(c:a≠b->A)(d:a=b->B):Br (a !=b) A B:=by
 by_cases h:a=b
 .rw[show(a !=b)=eH by simp[h]];exact d h
 .rw[show(a !=b)=ez by simp[h]];exact c h
theorem aY{b:Bool}(a:b=ez->A)(c:b=eH->B):Br b A B:=by
 cases b
 .exact c hZ
 .exact a hZ
theorem aW{b:Bool}(a:b=eH->A)(c:b=ez->B):Br (!b) A B:=by
 cases b
 .exact a hZ
 .exact c hZ
theorem DX{b:Bool}(h:b=ez)(a:A):Br b A B:=by subst h;exact a
theorem uC{b:Bool}(h:b=eH)(a:B):Br b A B:=by subst h;exact a
theorem aG{σ:Type}{rest:σ->f7->Prop}{B:(σ->f7->Prop)->Prop}(h:B rest):Am rest B:=⟨rest,λ_ _ x=>x,h⟩
theorem bB{σ:Type}{rest:σ->f7->Prop}{B:(σ->f7->Prop)->Prop}(R:σ->f7->Prop)(a:B R)(b:∀s h,R s h->rest s h):Am rest B:=⟨R,b,a⟩
theorem aq{σ:Type}{B:σ->(σ->f7->Prop)->f7->Prop}{s:σ}{h:f7}{τ:Type}(V:τ->σ)(I:τ->f7->Prop)(μ:τ->Nat)(t0:τ)(e:s=V t0)(b:I t0 h)
  (c:∀t h,I t h->B (V t) (λd h'=>∃a,d=V a/\I a h'/\μ a<μ t) h):gX B s h:=⟨τ,V,I,μ,t0,e,b,c⟩
abbrev av:=Nat->Prop
def aS(p:av)(h h':f7):Prop:=h.size<=h'.size/\∀b,b<h.size->p b->h'[b]?=h[b]?
def Sl.on(s:Sl)(b:Nat):Prop:=∃o,s.ptr=dB ⟨b,o,et⟩
variable {p q:av} {h h' h'':f7}
theorem aS.refl(p:av)(h:f7):aS p h h:=⟨qm _,λ_ _ _=>rfl⟩
theorem aS.trans(a:aS p h h')(b:aS p h' h''):aS p h h'':=⟨qQ a.1 b.1,λk c d=>(b.2 k (qY c a.1) d).trans (a.2 k c d)⟩
theorem aS.then(a:aS p h h')(b:aS q h' h'')(e:∀k,k<h.size->p k->q k):aS p h h'':=⟨qQ a.1 b.1,λk c d=>(b.2 k (qY c a.1) (e k c d)).trans (a.2 k c d)⟩
theorem aS.mono(a:aS p h h')(d:∀b,b<h.size->q b->p b):aS q h h':=⟨a.1,λk c e=>a.2 k c (d k c e)⟩
theorem aS.push(p:av)(h:f7)(o:Obj):aS p h (h.push o):=⟨i6,λb a _=>by rw[Array.getElem?_push,f9 ii]⟩
theorem tK{a:eS}{v:eR}(b:eX h a=dB v):a.block<h.size:=by
 unfold eX at b;cases hb:h[a.block]? with
 |none=>rw[hb]at b;cases b
 |some o=>exact(yT.1 hb).1
theorem lt_of_block{b:Nat}{o:Obj}(a:h[b]?=dB o):b<h.size:=(yT.1 a).1
theorem aS.cell(a:aS p h h'){x:eS}{v:eR}(c:p x.block)(b:eX h x=dB v):eX h' x=dB v:=by have:=a.2 _ (tK b) c;unfold eX at*;rw[this];exact b
theorem aS.block(a:aS p h h'){b:Nat}{o:Obj}(d:p b)(c:h[b]?=dB o):h'[b]?=dB o:=by rw[a.2 b (lt_of_block c) d];exact c
theorem aS.cells(a:aS p h h'){x:eS}(b:p x.block):∀{vs:aT} {i:Nat},bj h x i vs->bj h' x i vs
 |[],_,_=>trivial
 |v::r,i,hc=>⟨a.cell (by unfold Addr.add;split<;>exact b) hc.1,aS.cells a b hc.2⟩
theorem add_eq(b o n:Nat):(⟨b,o,et⟩:eS).add n=⟨b,o+n,et⟩:=by
 unfold Addr.add;split
 .rename_i h;subst h;rfl
 .rfl
theorem add_zero(a:eS):a.add 0=a:=rfl
theorem Cm{h:f7}{b o:Nat}{c:Array eR}{e:TypeId}{f:Nat×Nat}(a:h[b]?=dB (.cells c e f)):eX h ⟨b,o,et⟩=c[o]?:=by unfold eX;rw[a];rfl
theorem abp{h:f7}{b o:Nat}{c:Array eR}{e:TypeId}(a:h[b]?=dB (.cells c e (0,0))):Us h ⟨b,o,et⟩=eH:=by unfold Us;rw[a];simp
structure Seq {α:Type} (h:f7) (p:av) (s:Sl) (k:Nat) (f:α->aT) (l:List α):Prop where
 len:s.len=hY l
 elem:∀i x,l[i]?=dB x->∃b o,s.ptr=dB ⟨b,o,et⟩/\p b/\bj h ⟨b,o+i*k,et⟩ 0 (f x)
variable {α:Type} {s:Sl} {k:Nat} {f:α->aT} {l:List α}
theorem Seq.ac(a:Seq h p s k f l)(e:aS p h h'):Seq h' p s k f l:=⟨a.len,λi x g=>by
 obtain⟨b,o,d,c,h3⟩:=a.elem i x g;exact⟨b,o,d,c,e.cells c h3⟩⟩
theorem Seq.mono(a:Seq h p s k f l)(d:∀b,p b->q b):Seq h q s k f l:=⟨a.len,λi x e=>by
 obtain⟨b,o,c,g,h3⟩:=a.elem i x e;exact⟨b,o,c,d b g,h3⟩⟩
theorem Seq.nil(h:f7)(p:av)(c:Nat)(b:bD)(k:Nat)(f:α->aT):Seq h p ⟨b,0,c⟩ k f []:=⟨hZ,λi x a=>by simp at a⟩
theorem Seq.bo{X:Type}{g:X->eR}(c:Seq h p s 1 f l){i:Int}(n:Nat)(m:i=n)(k:n<hY l)(x:X)(j:f l[n]=[g x]){K:X->Prop}(e:K x):
  ∃a:eS,(s.ptr=dB a/\0<=i/\i<((s.len:Nat):Int))/\∃x:X,eX h (a.add (i.toNat*1))=dB (g x)/\K x:=by
 subst m;obtain⟨b,o,d,_,h3⟩:=c.elem n l[n] (qc k);refine⟨_,⟨d,ii,by rw[c.len];omega⟩,x,?_,e⟩;rw[j]at h3;have:=h3.1;rw[add_eq,wE]at this;rw[add_eq];simpa using this
theorem Seq.de{X:Type}{g:X->aT}(c:Seq h p s k f l){i:Int}(n:Nat)(q:i=n)(m:n<hY l)(x:X)(j:f l[n]=g x){K:X->Prop}(e:K x):
  ∃a:eS,(s.ptr=dB a/\0<=i/\i<((s.len:Nat):Int))/\∃x:X,bj h (a.add (i.toNat*k)) 0 (g x)/\K x:=by
 subst q;obtain⟨b,o,d,_,h3⟩:=c.elem n l[n] (qc m);refine⟨_,⟨d,ii,by rw[c.len];omega⟩,x,?_,e⟩;rw[add_eq];rw[j]at h3;simpa using h3
def aw(n:Int):aT:=[xJ xP n]
def aB(n:UInt8):aT:=[xJ xQ n.toNat]
def fN(b:Bool):aT:=[.bool b]
def bn(s:Sl):aT:=[.slice s.ptr s.len s.cap]
structure fT {α:Type} (h:f7) (p:av) (s:Sl) (k:Nat) (f:α->aT) (ll:List (List α)) (rs:List Sl):Prop where
 top:Seq h p s 1 bn rs
 len:hY rs=hY ll
 row:∀(i:Nat) (r:Sl) (l:List α),rs[i]?=dB r->ll[i]?=dB l->Seq h p r k f l
variable {ll:List (List α)} {rs:List Sl}
theorem fT.ac(a:fT h p s k f ll rs)(b:aS p h h'):fT h' p s k f ll rs:=⟨a.top.ac b,a.len,λi r l c d=>(a.row i r l c d).ac b⟩
theorem fT.mono(a:fT h p s k f ll rs)(c:∀b,p b->q b):fT h q s k f ll rs:=⟨a.top.mono c,a.len,λi r l d e=>(a.row i r l d e).mono c⟩
theorem fT.Ho(a:fT h p s k f ll rs):s.len=hY ll:=by rw[a.top.len,a.len]
theorem fT.get(c:fT h p s k f ll rs){i:Int}(n:Nat)(j:i=n)(e:n<hY ll){K:Sl->Prop}(g:∀r,Seq h p r k f ll[n]->rs[n]?=dB r->K r):
  ∃a:eS,(s.ptr=dB a/\0<=i/\i<((s.len:Nat):Int))/\∃x:Sl,eX h (a.add (i.toNat*1))=dB (.slice x.ptr x.len x.cap)/\K x:=by
 have b:n<hY rs:=by rw[c.len];exact e
 have d:rs[n]?=dB rs[n]:=qc b;exact c.top.bo n j b rs[n] hZ (g _ (c.row n _ _ d (qc e)) d)
structure Own {α:Type} (h:f7) (e:TypeId) (s:Sl) (k:Nat) (f:α->aT) (l:List α):Prop where
 len:s.len=hY l
 head:(s.ptr=et/\s.cap=0/\l=[])∨∃b rest,s.ptr=dB ⟨b,0,et⟩/\h[b]?=dB (.cells (l.flatMap f++rest).toArray e (0,0))/\rest.length=(s.cap-s.len)*k/\s.len<=s.cap
theorem dm{α:Type}{k:Nat}{f:α->aT}(a:∀x,hY (f x)=k):∀(l:List α),hY (l.flatMap f)=hY l*k
 |[]=>i6
 |x::r=>by rw[zb,qw,a,dm a r,za,zM];omega
theorem Hp{α:Type}{k:Nat}{f:α->aT}(a:∀x,hY (f x)=k):∀(l:List α) (i:Nat) (x:α),l[i]?=dB x->∃pre post,l.flatMap f=pre++f x++post/\pre.length=i*k
 |y::r,0,x,h=>by simp at h;subst h;exact⟨[],r.flatMap f,i6,i6⟩
 |y::r,i+1,x,h=>by
  obtain⟨pre,post,b,c⟩:=Hp a r i x j4;exact⟨f y++pre,post,mn,by rw[qw,a,c,zM];omega⟩
theorem Be{h:f7}{b o:Nat}{e:TypeId}{fr:Nat×Nat}:∀{vs pre post:aT} {i:Nat},h[b]?=dB (.cells (pre++vs++post).toArray e fr)->hY pre=o+i->bj h ⟨b,o,et⟩ i vs
 |[],_,_,_,_,_=>trivial
 |v::r,pre,post,i,hb,hl=>by
  refine⟨?_,Be (pre:=pre++[v]) (post:=post) (by simpa using hb) i5⟩;rw[add_eq,Cm hb,<-hl];simp
def jD(h:f7)(b:Nat)(o:Obj):f7:=h.setIfInBounds b o
theorem iA{h:f7}{b c:Nat}{o x:Obj}(a:h[b]?=dB x):(jD h b o)[c]?=if b=c then dB o else h[c]?:=by
 unfold jD;rw[Array.getElem?_setIfInBounds];split
 .rename_i e;subst e;rw[f8 (lt_of_block a)]
 .rfl
theorem Xz{h:f7}{b o:Nat}{c:Array eR}{e:TypeId}{f:Nat×Nat}{v:eR}(a:h[b]?=dB (.cells c e f)):Ut h ⟨b,o,et⟩ v=jD h b (.cells (c.setIfInBounds o v) e f):=by
 apply yU;intro i;rw[iA a];simp only[Ut,wL];split
 .rename_i d;subst d;rw[a];rfl
 .rfl
theorem XA(h:f7)(b:Nat)(o a:Obj):jD (jD h b o) b a=jD h b a:=by unfold jD;simp
theorem aS.jD{p:av}{h:f7}{b:Nat}{o x:Obj}(a:h[b]?=dB x)(f:¬p b):aS p h (jD h b o):=⟨by simp[Qw.jD],λc _ d=>by
 rw[iA a,f9 λe=>f (by rw[e];exact d)]⟩
theorem fc{P:Program}{b o:Nat}{e:TypeId}{K:Unit->f7->Prop}:∀{vs pre old post:aT} {i:Nat} {h:f7},h[b]?=dB (.cells (pre++old++post).toArray e (0,0))->hY old=hY vs->hY pre=o+i->
  (∀v∈vs,v.oneCell'=ez)->K () (jD h b (.cells (pre++vs++post).toArray e (0,0)))->au P (storeCells ⟨b,o,et⟩ vs i) h K
 |[],pre,old,post,i,h,hb,hl,hp,hv,hk=>by
  have:old=[]:=qZ (by simpa using hl);subst this;refine au.pure' ?_;have g:jD h b (.cells (pre++[]++post).toArray e (0,0))=h:=by
   apply yU;intro c;rw[iA hb];split
   .rename_i d;subst d;exact hb.symm
   .rfl
  rw[g]at hk;exact hk
 |v::r,pre,old,post,i,h,hb,hl,hp,hv,hk=>by
  cases old with
  |nil=>simp at hl
  |cons u old=>
   simp only[storeCells];refine au.bind ?_;rw[add_eq];have d:eX h ⟨b,o+i,et⟩=dB u:=by rw[Cm hb,<-hp];simp
   refine au.agl (hv v i6) d (abp hb) ?_;rw[Xz hb];have a:(pre++(u::old)++post).toArray.setIfInBounds (o+i) v=((pre++[v])++old++post).toArray:=by rw[<-hp];apply yI;simp
   rw[a];refine fc (e:=e) (pre:=pre++[v]) (old:=old) (post:=post) ?_ (by simpa using hl) i5 (λx f=>hv x qa) ?_
   .rw[iA hb,f8 rfl]
   .rw[XA];simpa using hk
theorem KA{P:Program}{h:f7}{a:eS}{vs:aT}{n:Nat}{K:Array eR->f7->Prop}(d:hY vs=n)(b:bj h a 0 vs)(c:K vs.toArray h):au P (loadCells a n) h K:=λw e=>by
 subst e;refine⟨vs.toArray,w,?_,dh.refl w,c⟩;have:=run_loadCells (P:=P) (w:=w) (a:=a) vs 0 #[] b;rw[d]at this;unfold loadCells;rw[this];simp
variable {e:TypeId}
theorem Own.lt(c:Own h e s k f l){b:Nat}(a:s.on b):b<h.size:=by
 rcases c.head with⟨h1,_,_⟩|⟨b',rest,h1,h2,_,_⟩
 .obtain⟨o,h0⟩:=a;rw[h1]at h0;cases h0
 .obtain⟨o,h0⟩:=a;rw[h1]at h0;cases h0;exact lt_of_block h2
theorem Own.ac(c:Own h e s k f l)(d:aS p h h')(a:∀b,s.on b->p b):Own h' e s k f l:=⟨c.len,by
 rcases c.head with h1|⟨b,rest,h1,h2,h3,h4⟩
 .exact .inl h1
 .exact .inr ⟨b,rest,h1,d.block (a b ⟨0,h1⟩) h2,h3,h4⟩⟩
theorem Own.seq(c:Own h e s k f l)(j:∀x,hY (f x)=k)(a:∀b,s.on b->p b):Seq h p s k f l:=⟨c.len,λi x d=>by
 rcases c.head with⟨_,_,h1⟩|⟨b,rest,h1,h2,h3,h4⟩
 .subst h1;simp at d
 .obtain⟨pre,post,g,m⟩:=Hp j l i x d;refine⟨b,0,h1,a b ⟨0,h1⟩,Be (e:=e) (fr:=(0,0)) (pre:=pre) (post:=post++rest) ?_ ii⟩;rw[h2,g];simp⟩
theorem Own.nil(h:f7)(e:TypeId)(k:Nat)(f:α->aT):Own h e ⟨et,0,0⟩ k f []:=⟨hZ,.inl ⟨hZ,hZ,hZ⟩⟩
theorem Own.cap(a:Own h e s k f l):s.len<=s.cap:=by
 rcases a.head with⟨h1,h2,h3⟩|⟨b,rest,h1,h2,h3,h4⟩
 .have:=a.len;rw[h3]at this;simp at this;omega
 .exact h4
theorem au.always{α:Type}{P:Program}{s:Sem α}{v:α}{h:f7}{K:α->f7->Prop}(b:aI P s v)(a:K v h):au P s h K:=λw c=>⟨v,w,b w,dh.refl w,by rw[c];exact a⟩
structure bL (C:BH) (t e k:Nat) (z:aT) (by_:Nat):Prop where
 ex:∃i j,C.T.get t=dB i/\i.cD=.slice e/\C.T.get e=dB j/\j.size=k/\j.zero=z/\j.bytes=by_
variable {t:Nat} {z:aT} {by_:Nat}
section
variable {C:Ctx} {e:Nat}
theorem bL.under(b:bL C.toBH t e k z by_)(d:C.Ok):C.P.underlying t=dB (.slice e):=by obtain⟨i,j,a,c,_⟩:=b.ex;have:=d.cD a;rw[c]at this;exact jV this
theorem bL.size(b:bL C.toBH t e k z by_)(d:C.Ok):aI C.P (sizeOf e) k:=by obtain⟨i,j,_,_,a,c,_⟩:=b.ex;rw[<-c];exact eK d.toOk a
theorem bL.info(g:bL C.toBH t e k z by_)(o:C.Ok):∃f,C.P.info? e=dB f/\f.size=k/\f.bytes=by_/\∃a,f.zero=dB a/\a.cells=z.toArray:=by obtain⟨i,j,_,_,b,n,h3,d⟩:=g.ex;obtain⟨f,m,h,p,a,c,l⟩:=o.info b;exact⟨f,m,h.trans n,p.trans d,a,c,by apply yI;rw[l,h3]⟩
end
def jh(z:aT):Nat->aT
 |0=>[]
 |n+1=>z++jh z n
theorem oI(z:aT):∀n,hY (jh z n)=n*hY z
 |0=>by simp[jh]
 |n+1=>by rw[jh,qw,oI z n,zM];omega
theorem Og(z:aT):∀(n i:Nat),i<n*hY z->(jh z n)[i]?=z[i%hY z]?
 |0,i,h=>l6
 |n+1,i,h=>by
  have a:0<hY z:=Nat.pos_of_ne_zero λe=>by rw[e]at h;simp at h
  rw[jh];by_cases b:i<hY z
  .rw[ql b,Nat.mod_eq_of_lt b]
  .rw[qi ii,Og z n (i-hY z) (by rw[zM]at h;omega)];congr 1
   conv=>rhs;rw[show i=(i-hY z)+hY z by omega,Nat.add_mod_right]
theorem Oh(z:aT)(n m:Nat)(c:m=n*hY z):((xw m).map λi=>z.toArray[i%z.toArray.size]!)=(jh z n).toArray:=by
 apply yU;intro i;subst c;simp only[Array.getElem?_map,Array.getElem?_range,zV];by_cases b:i<n*hY z
 .rw[Og z n i b];have a:0<hY z:=Nat.pos_of_ne_zero λe=>by rw[e]at b;simp at b
  have:=y8 i a;simp[b,this]
 .rw[qJ (by rw[oI];omega)];simp[b]
theorem DY(z:aT)(n:Nat):yE z.toArray n=(jh z n).toArray:=Oh z n _ i6
theorem Tv(a:Nat):∀(r c:Nat),Builtin.growBy a r c<=(c+768)*2^r
 |0,c=>by simp[Builtin.growBy]
 |r+1,c=>by
  unfold Builtin.growBy;split
  .exact qQ (Nat.le_add_right c 768) (Nat.le_mul_of_pos_right _ (Nat.two_pow_pos _))
  .refine qQ (Tv a r _) ?_;rw[Nat.pow_succ,Nat.mul_comm (2^r) 2,<-Nat.mul_assoc];exact zF _ ii
theorem aiA(o n:Nat)(h:o<n):(o+768)*2^4<=16*n+16*768:=ii
theorem Tw(a b:Nat)(h:b<a:=by omega):vw a b<=16*a+16*768:=by
 unfold vw;split
 .omega
 .split
  .omega
  .exact qQ (Tv a 4 b) (aiA _ _ h)
variable {t2:Nat} {v:Sl} {l2:List α}
section
variable {C:Ctx} {e:Nat}
theorem gw{P:Program}{K:Array eR->f7->Prop}(s:∀x,hY (f x)=k)(g:Seq h p v k f l)(w:K (l.flatMap f).toArray h):
  au P (wP k v.len (.slice v.ptr v.len v.cap)) h K:=by
 cases hp:v.ptr with
 |none=>
  have:l=[]:=by
   cases l with
   |nil=>rfl
   |cons x r=>obtain⟨b,o,c,_⟩:=g.elem 0 x i6;rw[hp]at c;cases c
  subst this;exact au.pure' w
 |some a=>
  refine KA (by rw[dm s,<-g.len]) ?_ w;cases l with
  |nil=>trivial
  |cons t r0=>
   obtain⟨b,o,c,_,_⟩:=g.elem 0 t i6;rw[hp]at c;cases c;have j:∀(r:List α) (n:Nat),(∀i x,r[i]?=dB x->bj h ⟨b,o+(n+i)*k,et⟩ 0 (f x))->bj h ⟨b,o,et⟩ (n*k) (r.flatMap f):=by
    intro r
    induction r with
    |nil=>intro n _;trivial
    |cons x r ih=>
     intro n q;have h0:=q 0 x i6;have e:=ih (n+1) (λi y A=>by have:=q (i+1) y (by simpa using A);rw[show n+1+i=n+(i+1)by omega];exact this);rw[zb];have app:∀(us vs:aT) (i:Nat),bj h ⟨b,o,et⟩ i us->bj h ⟨b,o,et⟩ (i+hY us) vs->bj h ⟨b,o,et⟩ i (us++vs):=by
      intro us
      induction us with
      |nil=>intro vs i _ e;simpa using e
      |cons u us ih=>intro vs i c e;exact⟨c.1,ih vs (i+1) c.2 (by rw[show i+1+hY us=i+(hY us+1)by omega];exact e)⟩
     refine app _ _ _ ?_ (by rw[s,<-zM];exact e);have d:∀(us:aT) (i m:Nat),bj h ⟨b,o+m,et⟩ i us->bj h ⟨b,o,et⟩ (m+i) us:=by
      intro us
      induction us with
      |nil=>intros;trivial
      |cons u us ih=>
       intro i m c;refine⟨?_,ih (i+1) m c.2⟩;have:=c.1;rw[add_eq]at this⊢;rw[<-wU];exact this
     have:=d (f x) 0 ((n+0)*k) h0;simpa using this
   have:=j (t::r0) 0 (λi x z=>by
    obtain⟨B,D,c,_,h3⟩:=g.elem i x z;rw[hp]at c;cases c;simpa using h3)
   simpa using this
theorem UR(y:C.Ok)(N:bL C.toBH t e k z by_)(Z:∃i e2,C.T.get t2=dB i/\i.cD=.slice e2)(hz:hY z=k)(H:0<by_/\by_<=128)(m:∀x,hY (f x)=k)
  (A:Own h e s k f l) (L:Seq h p v k f l2) (q:∀x,∀c∈f x,c.oneCell'=ez) (ab:hY l+hY l2<=2^32) {ty:Nat} {K:Sl->f7->Prop}
  (O:∀Q h',Own h' e Q k f (l++l2)->aS (λb=>¬s.on b) h h'->(∀b,Q.on b->s.on b∨h.size<=b)->K Q h'):
  bx C.P (zA #[t,t2] ty #[.slice s.ptr s.len s.cap,.slice v.ptr v.len v.cap]) (.one (.sc .slc)) h K:=by
 obtain⟨i2,e2,W,g2⟩:=Z;have J:C.P.underlying t2=dB (.slice e2):=by have:=y.cD W;rw[g2]at this;exact jV this
 obtain⟨B,w,x2,x3,zv,x4,Y⟩:=N.info y;unfold bx zA;simp only[zV,yc,qq];refine au.bind (au.always (aF (N.under y)) ?_);refine au.bind (au.always (N.size y) ?_);refine au.bind (au.always (aF J) ?_);refine au.bind (au.pure' ?_);simp only[zh,if_false,yi,if_true];refine au.bind (au.pure' ?_);have u:=A.len;have M:=L.len;by_cases g:s.len+v.len<=s.cap
 .rw[f8 g];refine au.bind (gw m L ?_);rcases A.head with⟨p1,p2,p3⟩|⟨b,rest,p1,p2,p3,p4⟩
  .rw[p1];have E:l2=[]:=qZ ii;subst E;refine au.pure' ⟨⟨et,s.len+v.len,s.cap⟩,hZ,O _ _ ⟨?_,.inl ⟨hZ,p2,by simp[p3]⟩⟩ (aS.refl _ _) ?_⟩
   .simp;omega
   .rintro S ⟨o,d⟩;cases d
  .rw[p1];refine au.bind ?_;rw[add_eq,zY];have j:=dm m l;have a:=dm m l2;have D:hY (l2.flatMap f)<=hY rest:=by rw[a,p3];exact zF k ii
   refine fc (e:=e) (pre:=l.flatMap f) (old:=rest.take (l2.flatMap f).length) (post:=rest.drop (l2.flatMap f).length) ?_ ?_ ?_ ?_ ?_
   .rw[qn,qC];exact p2
   .rw[qR];exact wz D
   .rw[j,u];omega
   .intro c hc;obtain⟨x,_,I⟩:=zI.1 hc;exact q x c I
   .refine au.pure' ⟨⟨dB ⟨b,0,et⟩,s.len+v.len,s.cap⟩,hZ,O _ _ ⟨?_,.inr ⟨b,rest.drop (l2.flatMap f).length,hZ,?_,?_,g⟩⟩ ?_ ?_⟩
    .simp;omega
    .rw[iA p2,f8 rfl];simp
    .rw[zc,p3,a,<-Nat.sub_mul];show(s.cap-s.len-hY l2)*k=(s.cap-(s.len+v.len))*k;congr 1;omega
    .exact aS.jD p2 (λV=>V ⟨0,p1⟩)
    .rintro S ⟨o,d⟩;cases d;exact .inl ⟨0,p1⟩
 .rw[f9 g];have n:Seq h (λ_=>True) s k f l:=A.seq m λ_ _=>trivial;have R:=A.cap;refine au.bind (au.always (dc w) ?_);rw[f9 λhh=>by rcases hh.2 with h|h<;>first|exact h|(rw[x3]at h;omega)];refine au.bind (au.always (dc w) ?_);have X:=Tw (s.len+v.len) s.cap;rw[f9 (by
   have:vw (s.len+v.len) s.cap*B.bytes<=(16*2^32+16*768)*128:=wA ii (by rw[x3];exact H.2);omega)]
  refine au.bind (au.Kr ⟨λU=>(by cases U),λ_ nn=>?_⟩);refine au.bind (au.always (dc w) ?_);refine au.bind (au.Hb ?_);refine au.bind (gw m n ?_);refine au.bind (gw m L ?_);have G:aI C.P (zeroValue e) zv:=(dc w).bind (by rw[x4];exact .pure);refine au.bind (au.always G ?_);rw[Y,DY];unfold newRow;refine au.bind (au.bind (au.oV (au.pure' (au.pure' ?_))));generalize F:Question.cut (Question.appendCap (s.len+v.len) s.cap e) nn=cc;have r:s.len+v.len<=cc:=by rw[<-F];simp only[Question.cut];omega
  refine⟨⟨dB ⟨h.size,0,et⟩,s.len+v.len,cc⟩,hZ,O _ _ ⟨?_,.inr ⟨h.size,jh z (cc-(s.len+v.len)),hZ,?_,?_,r⟩⟩ (aS.push _ _ _) ?_⟩
  .simp;omega
  .simp
  .rw[oI,hz]
  .rintro S ⟨o,d⟩;cases d;exact .inr (qm _)
end
structure bQ (h:f7) (a:eS) (e:TypeId) (cs:aT):Prop where
 off:a.off=0
 spot:a.spot=et
 fm:h[a.block]?=dB (.cells cs.toArray e (0,0))
variable {a:eS} {cs:aT}
theorem bQ.addr(c:bQ h a e cs):a=⟨a.block,0,et⟩:=by
 obtain⟨b,o,s⟩:=a;have:=c.off;have:=c.spot
 simp_all
theorem bQ.ac(b:bQ h a e cs)(c:aS p h h')(d:p a.block):bQ h' a e cs:=⟨b.off,b.spot,c.block d b.fm⟩
theorem bQ.lt(b:bQ h a e cs):a.block<h.size:=lt_of_block b.fm
theorem bQ.cell(b:bQ h a e cs){j:Nat}{v:eR}(c:cs[j]?=dB v):eX h (a.add j)=dB v:=by rw[b.addr,add_eq,Cm b.fm];simpa using c
theorem bQ.cell0(c:bQ h a e cs){v:eR}(b:cs[0]?=dB v):eX h a=dB v:=c.cell (j:=0) b
theorem bQ.cells(c:bQ h a e cs)(j:Nat)(vs:aT)(d:(cs.drop j).take vs.length=vs):bj h (a.add j) 0 vs:=by
 rw[c.addr,add_eq,zY];have b:hY vs<=hY (cs.drop j):=by have:=congrArg List.length d;rw[qR]at this;omega
 rcases Nat.lt_or_ge cs.length j with hj|hj
 .rw[zc]at b;have:vs=[]:=qZ ii;subst this;trivial
 .refine Be (e:=e) (fr:=(0,0)) (pre:=cs.take j) (post:=(cs.drop j).drop vs.length) ?_ i5;have:cs.take j++vs++(cs.drop j).drop vs.length=cs:=by
   conv=>lhs;rw[qn];arg 2;arg 1;rw[<-d]
   rw[qC,qC]
  rw[this];exact c.fm
theorem bQ.aA(c:bQ h a e cs)(vs:aT)(b:cs.take vs.length=vs):bj h a 0 vs:=c.cells 0 vs b
variable {i:TI}
section
variable {C:Ctx}
theorem Ao(f:C.Ok)(e:C.T.get t=dB i){K:eS->f7->Prop}(c:∀a h',a.block=h.size->bQ h' a t i.zero->aS (λ_=>True) h h'->h'.size=h.size+1->K a h'):
  pB C.P (yQ t ez (.tuple #[])) h K:=by
 obtain⟨z,d,b⟩:=su f.toOk e;unfold pB yQ;refine au.bind (au.always d ?_);refine au.bind (au.bind (au.bind (au.oV (au.pure' (au.pure' (au.pure' ?_))))));refine⟨⟨h.size,0,et⟩,hZ,c _ _ hZ ⟨hZ,hZ,?_⟩ (aS.push _ _ _) i6⟩;rw[<-b];simp
theorem Tx{v:eR}{P:Program}{K:eS->f7->Prop}(b:∀a h',a.block=h.size->bQ h' a t v.cells.toList->aS (λ_=>True) h h'->h'.size=h.size+1->K a h'):
  pB P (vD t v) h K:=by
 unfold pB vD;refine au.bind (au.bind (au.bind (au.oV (au.pure' (au.pure' (au.pure' ?_))))));refine⟨⟨h.size,0,et⟩,hZ,b _ _ hZ ⟨hZ,hZ,?_⟩ (aS.push _ _ _) i6⟩;simp
theorem run_store(l:C.Ok){a:eS}{e:TypeId}{b:aT}(c:bQ h a e b)(k:C.T.get t=dB i)(off:Nat){v:eR}(vs:aT)(n:v.cells=vs.toArray)(f:i.size=hY vs)
  (d:vs.all (·.oneCell')=ez) (g:off+hY vs<=hY b) {K:Unit->f7->Prop}
  (o:∀h',bQ h' a e (b.take off++vs++b.drop (off+hY vs))->aS (·≠a.block) h h'->h'.size=h.size->K () h'):
  au C.P (qH t (.pointer (dB (a.add off))) v) h K:=by
 have m:=c.addr;unfold qH;refine au.bind (au.pure' ?_);unfold storeVar;refine au.bind (au.always (eK l.toOk k) ?_);rw[n,f];simp only[wY,ne_eq,not_true,if_false];rw[m,add_eq,zY];refine fc (e:=e) (pre:=b.take off) (old:=(b.drop off).take vs.length) (post:=b.drop (off+hY vs)) ?_ ?_ ?_ ?_ ?_
 .have:b.take off++(b.drop off).take vs.length++b.drop (off+hY vs)=b:=by rw[<-zN,qn,qC,qC]
  rw[this];exact c.fm
 .simp;omega
 .simp;omega
 .intro x j;have:=qK.1 d x j;exact this
 .refine o _ ⟨c.off,c.spot,?_⟩ (aS.jD c.fm i6) (by simp[jD]);rw[iA c.fm,f8 rfl]
theorem Cn(m:C.Ok){a:eS}{e:TypeId}{d:aT}(j:bQ h a e d)(l:C.T.get t=dB i){v:eR}(vs:aT)(k:v.cells=vs.toArray)(c:i.size=hY vs)
  (b:vs.all (·.oneCell')=ez) (f:hY vs<=hY d) {K:Unit->f7->Prop}
  (g:∀h',bQ h' a e (vs++d.drop vs.length)->aS (·≠a.block) h h'->h'.size=h.size->K () h'):
  au C.P (qH t (.pointer (dB a)) v) h K:=
 run_store m j l 0 vs k c b ii (λh' x y z=>g h' (by simpa using x) y z)
end
section
variable {C:Ctx} {e:Nat}
theorem DZ{a:α}(b:f a=z):∀n,jh z n=(qg n a).flatMap f
 |0=>rfl
 |n+1=>by rw[jh,List.replicate_succ,zb,b,DZ b n]
theorem ag(x:Int)(b:-9223372036854775808<=x:=by omega)(c:x<=9223372036854775807:=by omega):qe xP x=x:=by
 show(if(ez&&decide (x%2^64>=2^63))=ez then x%2^64-2^64 else x%2^64)=x;by_cases a:x%2^64>=2^63
 .rw[f8 (by rw[zS];exact g0 a)];omega
 .rw[f9 (by rw[zS];exactλh=>a (hU h))];omega
theorem run_make(o:C.Ok)(y:bL C.toBH t e k z by_)(u:0<by_/\by_<=128)(s:α)(B:f s=z)(d:hY z=k){D E:IntKind}{n c:Int}(m b:Nat)(F:n=m)(I:c=b)(w:m<=b)(r:b<=2^32)
  {K:Sl->f7->Prop} (N:∀j h',Own h' e j k f (qg m s)->j.ptr=dB ⟨h.size,0,et⟩->j.cap=b->aS (λ_=>True) h h'->h'.size=h.size+1->K j h'):
  bx C.P (zD t (.int D n) (.int E c)) (.one (.sc .slc)) h K:=by
 subst F;subst I;obtain⟨l,A,x2,x3,L,H,G⟩:=y.info o;unfold bx zD;refine au.bind (au.always (aF (y.under o)) ?_);refine au.bind (au.pure' ?_);refine au.bind (au.pure' ?_);refine au.bind (au.always (dc A) ?_);have M:qe xP (m:Int)=m:=ag _;have J:qe xP (b:Int)=b:=ag _;have O:¬((l.bytes:Int)*(b:Int)>2^48):=by
  rw[x3];have:by_*b<=128*2^32:=wA u.2 r;have:((by_:Int)*(b:Int))<=((128*2^32:Nat):Int):=by exact_mod_cast this
  omega
 simp only[M,J];rw[f9 i5];refine au.bind (au.Hb ?_);refine au.bind (au.always (y.size o) ?_);have p:aI C.P (zeroValue e) L:=(dc A).bind (by rw[H];exact .pure);have fin:∀g:Array eR,(b*k≠0->g=z.toArray)->au C.P (do
   let a<-newRow e ((xw (b*k)).map (g[·%g.size]!))
   pure (Value.slice (dB a) m b)) h (λv h'=>∃x:(Rt.one (.sc .slc)).den,v=(Rt.one (.sc .slc)).enc x/\K x h'):=by
  intro g q;have i:((xw (b*k)).map (g[·%g.size]!))=(jh z b).toArray:=by
   by_cases h0:b*k=0
   .rw[h0];have:jh z b=[]:=qZ (by rw[oI,d,h0]);rw[this];simp
   .rw[q h0];exact Oh z b _ (by rw[d])
  rw[i];refine au.bind (au.bind (au.oV (au.pure' (au.pure' ?_))));refine⟨⟨dB ⟨h.size,0,et⟩,m,b⟩,hZ,N _ _ ⟨i6,.inr ⟨h.size,jh z (b-m),hZ,?_,?_,w⟩⟩ hZ hZ (aS.push _ _ _) i6⟩
  .have:jh z b=(qg m s).flatMap f++jh z (b-m):=by rw[DZ B,DZ B,<-q9,List.replicate_append_replicate];congr 2;omega
   rw[this];simp
  .rw[oI,d]
 simp only[qj];by_cases h0:b*k=0
 .rw[f8 h0];exact au.bind (au.pure' (fin _ λh=>absurd h0 h))
 .rw[f9 h0];refine au.bind (au.always p ?_);exact au.bind (au.pure' (fin _ λ_=>G))
theorem KB(j:C.Ok)(p:bL C.toBH t e k z by_)(g:hY z=k){n:Nat}{parts:Array (Nat×eR)}(l:List α)(u:hY l=n)(B:n*k<=2^20)
  (b:wK (λi=>dB (i*k,k)) (jh z n).toArray parts.toList=dB (l.flatMap f).toArray) {K:Sl->f7->Prop}
  (D:∀q h',Own h' e q k f l->q.ptr=dB ⟨h.size,0,et⟩->aS (λ_=>True) h h'->h'.size=h.size+1->K q h'):
  bx C.P (zO t n parts) (.one (.sc .slc)) h K:=by
 obtain⟨r,s,x2,x3,A,y,w⟩:=p.info j;unfold bx zO;refine au.bind (au.always (aF (p.under j)) ?_);refine au.bind (au.always (p.size j) ?_);rw[f9 ii];have m:aI C.P (zeroValue e) A:=(dc s).bind (by rw[y];exact .pure);have fin:∀c:Array eR,(n*k≠0->c=z.toArray)->au C.P (do
   let dB cells:=wK (λi=>dB (i*k,k)) ((xw (n*k)).map (c[·%c.size]!)) parts.toList
    |stuck "buildSlice: a part of the wrong size"
   pure (Value.slice (dB (<-newRow e cells)) n n)) h (λv h'=>∃x:(Rt.one (.sc .slc)).den,v=(Rt.one (.sc .slc)).enc x/\K x h'):=by
  intro c o;have d:((xw (n*k)).map (c[·%c.size]!))=(jh z n).toArray:=by
   by_cases h0:n*k=0
   .rw[h0];have:jh z n=[]:=qZ (by rw[oI,g,h0]);rw[this];simp
   .rw[o h0];exact Oh z n _ (by rw[g])
  rw[d,b];refine au.bind (au.bind (au.oV (au.pure' (au.pure' ?_))));refine⟨⟨dB ⟨h.size,0,et⟩,n,n⟩,hZ,D _ _ ⟨u.symm,.inr ⟨h.size,[],hZ,i6,i6,qm _⟩⟩ hZ (aS.push _ _ _) i6⟩
 by_cases h0:n*k=0
 .rw[f8 h0];exact au.bind (au.pure' (fin _ λh=>absurd h0 h))
 .rw[f9 h0];refine au.bind (au.always m ?_);exact au.bind (au.pure' (fin _ λ_=>w))
theorem Own.set{i:TI}(D:C.Ok)(u:Own h e s k f l)(p:∀x,hY (f x)=k)(B:C.T.get t=dB i){x:Int}(n:Nat)(z:x=n)(r:n<hY l){j:eR}(y:α)(F:j.cells=(f y).toArray)(q:i.size=k)
  (g:(f y).all (·.oneCell')=ez) {K:f7->Prop} (G:∀h',Own h' e s k f (l.set n y)->aS (λb=>¬s.on b) h h'->h'.size=h.size->K h'):
  ∃a:eS,(s.ptr=dB a/\0<=x/\x<((s.len:Nat):Int))/\au C.P (qH t (.pointer (dB (a.add (x.toNat*k)))) j) h λ_ h'=>K h':=by
 subst z;rcases u.head with⟨_,_,h3⟩|⟨b,rest,h1,h2,h3,h4⟩
 .subst h3;simp at r
 .refine⟨_,⟨h1,ii,by rw[u.len];omega⟩,?_⟩;unfold qH;refine au.bind (au.pure' ?_);unfold storeVar;refine au.bind (au.always (eK D.toOk B) ?_);rw[F,q];have v:=p y;simp only[wY,v,ne_eq,not_true,if_false];rw[add_eq,zY,qj];have d:l=l.take n++l[n]::l.drop (n+1):=by rw[<-qL r,qC]
  have o:l.set n y=l.take n++y::l.drop (n+1):=yf.trans (f8 r);have m:hY ((l.take n).flatMap f)=n*k:=by rw[dm p,qR,wz ii]
  refine fc (e:=e) (pre:=(l.take n).flatMap f) (old:=f l[n]) (post:=(l.drop (n+1)).flatMap f++rest) ?_ ?_ ?_ ?_ ?_
  .have:l.flatMap f++rest=(l.take n).flatMap f++f l[n]++((l.drop (n+1)).flatMap f++rest):=by have w:=congrArg (List.flatMap f) d;rw[q9,zb]at w;rw[w];simp
   rw[<-this];exact h2
  .rw[p,p]
  .rw[m];omega
  .intro c A;have:=qK.1 g c A;exact this
  .refine G _ ⟨by rw[zE];exact u.len,.inr ⟨b,rest,h1,?_,h3,h4⟩⟩ (aS.jD h2 λE=>E ⟨0,h1⟩) (by simp[jD]);rw[iA h2,f8 hZ,o];simp
end
def grow(c:Nat->Nat)(n i:Nat):Nat->Nat:=λb=>if b<n then c b else i
theorem hO{c:Nat->Nat}{n i b:Nat}(h:b<n):grow c n i b=c b:=f8 h
theorem rG{c:Nat->Nat}{n i b:Nat}(h:n<=b:=by omega):grow c n i b=i:=f9 ii
structure dT {α:Type} (h:f7) (c:Nat->Nat) (i:Nat) (e:TypeId) (s:Sl) (k:Nat) (f:α->aT) (l:List α):Prop where
 own:Own h e s k f l
 bp:∀b,s.on b->c b=i
structure lm (h:f7) (c:Nat->Nat) (i:Nat) (a:eS) (e:TypeId) (cs:aT):Prop where
 box:bQ h a e cs
 bp:c a.block=i
structure na (h0 h:f7) (c:Nat->Nat):Prop where
 ac:aS (λb=>b<h0.size) h0 h
 bp:∀b,b<h0.size->c b=0
variable {h0:f7} {c:Nat->Nat} {j n m:Nat}
section
variable {i:Nat}
theorem dT.keep(a:dT h c j e s k f l)(n:aS (λb=>c b≠i) h h')(g:j≠i):dT h' (grow c h.size m) j e s k f l:=
 ⟨a.own.ac n λb d=>by rw[a.bp b d];exact g,λb d=>by rw[hO (a.own.lt d)];exact a.bp b d⟩
theorem lm.keep(d:lm h c j a e cs)(g:aS (λb=>c b≠i) h h')(f:j≠i):lm h' (grow c h.size m) j a e cs:=
 ⟨d.box.ac g (by rw[d.bp];exact f),by rw[hO d.box.lt];exact d.bp⟩
theorem na.keep(a:na h0 h c)(f:aS (λb=>c b≠i) h h')(e:i≠0):na h0 h' (grow c h.size m):=
 ⟨a.ac.then f λb d _=>by rw[a.bp b d];exact e.symm,λb d=>by rw[hO (qY d a.ac.1)];exact a.bp b d⟩
theorem na.refl(h:f7):na h h (λ_=>0):=⟨aS.refl _ _,λ_ _=>rfl⟩
theorem dT.seq(a:dT h c j e s k f l)(d:∀x,hY (f x)=k):Seq h (λb=>c b=j) s k f l:=a.own.seq d a.bp
theorem dT.US(a:dT h c j e s k f l)(g:∀x,hY (f x)=k):Seq h (λb=>b<h.size) s k f l:=a.own.seq g λ_ d=>a.own.lt d
theorem dT.nil(h:f7)(c:Nat->Nat)(i:Nat)(e:TypeId)(k:Nat)(f:α->aT):dT h c i e ⟨et,0,0⟩ k f []:=⟨Own.nil h e k f,λb d=>by obtain⟨o,a⟩:=d;cases a⟩
theorem aS.bp(a:aS (λ_=>True) h h')(c:Nat->Nat)(i:Nat):aS (λb=>c b≠i) h h':=a.mono λ_ _ _=>trivial
end
variable {ti:TI}
section
variable {C:Ctx} {i e:Nat}
theorem tO(f:C.Ok)(_:na h0 h c)(i:Nat)(e:C.T.get t=dB ti){K:eS->f7->Prop}(d:∀a h',lm h' (grow c h.size i) i a t ti.zero->aS (λb=>c b≠i) h h'->K a h'):
  pB C.P (yQ t ez (.tuple #[])) h K:=
 Ao f e λa h' x y z _=>d a h' ⟨y,by rw[rG]⟩ (z.bp c i)
theorem Oi(P:Program)(_:na h0 h c)(i:Nat){v:eR}{K:eS->f7->Prop}(d:∀a h',lm h' (grow c h.size i) i a t v.cells.toList->aS (λb=>c b≠i) h h'->K a h'):
  pB P (vD t v) h K:=
 Tx λa h' x y z _=>d a h' ⟨y,by rw[rG]⟩ (z.bp c i)
theorem lm.store(n:C.Ok)(g:lm h c i a e cs)(m:C.T.get t=dB ti)(off:Nat){v:eR}(vs:aT)(o:v.cells=vs.toArray)(k:ti.size=hY vs)
  (d:vs.all (·.oneCell')=ez) (f:off+hY vs<=hY cs) {K:Unit->f7->Prop}
  (p:∀h',lm h' (grow c h.size i) i a e (cs.take off++vs++cs.drop (off+hY vs))->aS (λb=>c b≠i) h h'->K () h'):
  au C.P (qH t (.pointer (dB (a.add off))) v) h K:=
 run_store n g.box m off vs o k d f λh' x y z=>p h' ⟨x,by rw[hO g.box.lt];exact g.bp⟩ (y.mono λb _ j l=>j (by rw[l];exact g.bp))
theorem lm.fv(n:C.Ok)(k:lm h c i a e cs)(m:C.T.get t=dB ti){v:eR}(vs:aT)(l:v.cells=vs.toArray)(f:ti.size=hY vs)
  (d:vs.all (·.oneCell')=ez) (g:hY vs<=hY cs) {K:Unit->f7->Prop}
  (j:∀h',lm h' (grow c h.size i) i a e (vs++cs.drop vs.length)->aS (λb=>c b≠i) h h'->K () h'):
  au C.P (qH t (.pointer (dB a)) v) h K:=
 k.store n m 0 vs l f d ii (λh' x y=>j h' (by simpa using x) y)
theorem Ap(w:C.Ok)(_:na h0 h c)(i:Nat)(f:α->aT)(D:bL C.toBH t e k z by_)(j:0<by_/\by_<=128)(g:α)(B:f g=z)(l:hY z=k){r s:IntKind}{n p:Int}(m:Nat)(u:n=m)(v:p=m)(d:m<=2^32)
  {K:Sl->f7->Prop} (E:∀a h',dT h' (grow c h.size i) i e a k f (qg m g)->aS (λb=>c b≠i) h h'->K a h'):
  bx C.P (zD t (.int r n) (.int s p)) (.one (.sc .slc)) h K:=
 run_make w D j g B l m m u v (qm _) d λa h' x y _ z _=>E a h' ⟨x,λb A=>by obtain⟨o,q⟩:=A;rw[y]at q;cases q;rw[rG (qm _)]⟩ (z.bp c i)
theorem Hq(q:C.Ok)(_:na h0 h c)(i:Nat)(f:α->aT)(s:bL C.toBH t e k z by_)(j:hY z=k){n:Nat}{parts:Array (Nat×eR)}(l:List α)(p:hY l=n)(g:n*k<=2^20)
  (a:wK (λi=>dB (i*k,k)) (jh z n).toArray parts.toList=dB (l.flatMap f).toArray) {K:Sl->f7->Prop}
  (u:∀d h',dT h' (grow c h.size i) i e d k f l->aS (λb=>c b≠i) h h'->K d h'):
  bx C.P (zO t n parts) (.one (.sc .slc)) h K:=
 KB q s j l p g a λd h' x y z _=>u d h' ⟨x,λb r=>by obtain⟨o,m⟩:=r;rw[y]at m;cases m;rw[rG (qm _)]⟩ (z.bp c i)
theorem dT.append(q:C.Ok)(d:dT h c i e s k f l)(D:bL C.toBH t e k z by_)(m:∃i e2,C.T.get t2=dB i/\i.cD=.slice e2)(A:hY z=k)(n:0<by_/\by_<=128)(r:∀x,hY (f x)=k)
  (B:Seq h p v k f l2) (a:∀x,∀c∈f x,c.oneCell'=ez) (o:hY l+hY l2<=2^32) {ty:Nat} {K:Sl->f7->Prop}
  (E:∀g h',dT h' (grow c h.size i) i e g k f (l++l2)->aS (λb=>c b≠i) h h'->K g h'):
  bx C.P (zA #[t,t2] ty #[.slice s.ptr s.len s.cap,.slice v.ptr v.len v.cap]) (.one (.sc .slc)) h K:=
 UR q D m A n r d.own B a o λg h' x y w=>E g h' ⟨x,λb u=>by
  rcases w b u with w|w
  .rw[hO (d.own.lt w)];exact d.bp b w
  .exact rG w⟩ (y.mono λb _ j m=>j (d.bp b m))
theorem dT.set(A:C.Ok)(j:dT h c i e s k f l)(B:∀x,hY (f x)=k)(v:C.T.get t=dB ti){x:Int}(n:Nat)(q:x=n)(r:n<hY l){g:eR}(y:α)(D:g.cells=(f y).toArray)(o:ti.size=k)
  (d:(f y).all (·.oneCell')=ez) {K:f7->Prop} (E:∀h',dT h' (grow c h.size i) i e s k f (l.set n y)->aS (λb=>c b≠i) h h'->K h'):
  ∃a:eS,(s.ptr=dB a/\0<=x/\x<((s.len:Nat):Int))/\au C.P (qH t (.pointer (dB (a.add (x.toNat*k)))) g) h λ_ h'=>K h':=
 j.own.set A B v n q r y D o d λh' z w _=>E h' ⟨z,λb p=>by rw[hO (j.own.lt p)];exact j.bp b p⟩ (w.mono λb _ m u=>m (j.bp b u))
end
section
variable {C:Ctx} {i e:Nat}
theorem grow_grow{c:Nat->Nat}{n m i:Nat}(h:n<=m):grow (grow c n i) m i=grow c n i:=by
 funext b;unfold grow;split
 .rfl
 .rw[f9 ii]
theorem aS.step(a:aS (λb=>c b≠i) h h'){d:f7}(b:aS (λb=>grow c h.size i b≠i) h' d):aS (λb=>c b≠i) h d:=
 a.then b λx f e=>by rw[hO f];exact e
theorem dT.push(E:C.Ok)(B:dT h c i e s k f l)(A:bL C.toBH t e k z by_)(H:hY z=k)(y:0<by_/\by_<=128)(F:∀x,hY (f x)=k)
  (g:∀x,∀c∈f x,c.oneCell'=ez) (x:α) {parts:Array (Nat×eR)} (a:wK (λi=>dB (i*k,k)) (jh z 1).toArray parts.toList=dB ([x].flatMap f).toArray)
  (r:1*k<=2^20) (D:hY l+1<=2^32) {ty:Nat} {K:Sl->f7->Prop}
  (O:∀n h',dT h' (grow c h.size i) i e n k f (l++[x])->aS (λb=>c b≠i) h h'->K n h'):
  bx C.P (zO t 1 parts) (.one (.sc .slc)) h λv d=>bx C.P (zA #[t,t] ty #[.slice s.ptr s.len s.cap,.slice v.ptr v.len v.cap]) (.one (.sc .slc)) d K:=by
 refine KB E A H [x] hZ r a λv d M N u _=>?_;have o:aS (λb=>c b≠i) h d:=u.bp c i;have w:dT d (grow c h.size i) i e s k f l:=⟨B.own.ac u λ_ _=>trivial,λb G=>by rw[hO (B.own.lt G)];exact B.bp b G⟩
 have m:h.size<=d.size:=u.1;obtain⟨L,Q,I,x2,_⟩:=A.ex;refine w.append E A ⟨L,e,I,x2⟩ H y F (M.seq (p:=λ_=>True) F λ_ _=>trivial) g D λn J j q=>?_;rw[grow_grow m]at j;exact O n J j (o.step q)
structure ajB (h:f7) (c:Nat->Nat) (top lo:Nat) (e:TypeId) (s:Sl) (k:Nat) (f:α->aT) (ll:List (List α)) (rs:List Sl):Prop where
 own:dT h c top e s 1 bn rs
 len:hY rs=hY ll
 row:∀(i:Nat) r l,rs[i]?=dB r->ll[i]?=dB l->Seq h (λb=>b<h.size/\lo<=c b/\c b<lo+hY ll) r k f l
theorem jH:∀x,∀c∈bn x,c.oneCell'=ez:=by intro x c a;simp only[bn,qp]at a;subst a;rfl
end
structure ajC {α:Type} (h:f7) (r:Nat) (g:α->eR) (kvs:List (Int×α)):Prop where
 ex:∃es clock,h[r]?=dB (.map es clock)/\es.toList.map (λe=>(e.key,e.val))=kvs.map (λp=>(Value.int .i64 p.1,g p.2))
variable {P:Program} {r:Nat} {g:α->eR} {kvs:List (Int×α)}
theorem Oj(x n:Int)(b:0<n):x%n=if x.tmod n<0 then x.tmod n+n else x.tmod n:=by
 have c:=vP x b;have e:-n<x.tmod n:=Int.lt_tmod_of_pos x b;have d:=Int.tmod_add_mul_tdiv x n;have a:0<=(if x.tmod n<0 then x.tmod n+n else x.tmod n)/\(if x.tmod n<0 then x.tmod n+n else x.tmod n)<n:=by split<;>omega
 have e2:x=(if x.tmod n<0 then x.tmod n+n else x.tmod n)+n*(if x.tmod n<0 then x.tdiv n-1 else x.tdiv n):=by
  split
  .rw[Int.mul_sub];omega
  .omega
 conv=>lhs;rw[e2]
 rw[Int.add_mul_emod_self_left];exact Int.emod_eq_of_lt a.1 a.2
theorem aE{α:Type}(l:List α)(k:Nat)(h:k<hY l:=by omega):l.take (k+1)=l.take k++[l[k]]:=zo h
theorem fd:∀x,∀c∈aw x,c.oneCell'=ez:=by intro x c a;simp only[aw,qp]at a;subst a;rfl
theorem ic:∀x,∀c∈aB x,c.oneCell'=ez:=by intro x c a;simp only[aB,qp]at a;subst a;rfl
theorem up{h c d:f7}(a:aS (λb=>b<h.size) h c)(b:aS (λb=>b<c.size) c d):aS (λb=>b<h.size) h d:=
 a.then b λ_ e _=>qY e a.1
theorem any{h c:f7}(a:aS (λ_=>True) h c):aS (λb=>b<h.size) h c:=a.mono λ_ _ _=>trivial
theorem Seq.up{α:Type}{h h':f7}{s:Sl}{k:Nat}{f:α->aT}{l:List α}(d:Seq h (λb=>b<h.size) s k f l)(a:aS (λb=>b<h.size) h h'):Seq h' (λb=>b<h'.size) s k f l:=
 (d.ac a).mono λ_ c=>qY c a.1
theorem fT.up{α:Type}{h h':f7}{s:Sl}{k:Nat}{f:α->aT}{l:List (List α)}{rs:List Sl}(d:fT h (λb=>b<h.size) s k f l rs)(a:aS (λb=>b<h.size) h h'):fT h' (λb=>b<h'.size) s k f l rs:=
 (d.ac a).mono λ_ c=>qY c a.1
theorem fT.UT{α:Type}{h:f7}{p:av}{s:Sl}{k:Nat}{f:α->aT}{b:List (List α)}{rs:List Sl}(m:fT h p s k f b rs){i:Int}(n:Nat)(j:i=n)(g:n<hY b){K:eS->Sl->Prop}
  (o:∀a r,eX h (a.add (i.toNat*1))=dB (.slice r.ptr r.len r.cap)->Seq h p r k f b[n]->rs[n]?=dB r->K a r):
  ∃a:eS,(s.ptr=dB a/\0<=i/\i<((s.len:Nat):Int))/\∃x:Sl,eX h (a.add (i.toNat*1))=dB (.slice x.ptr x.len x.cap)/\K a x:=by
 obtain⟨a,l,x,e,c,d⟩:=m.get n j g (K:=λr=>Seq h p r k f b[n]/\rs[n]?=dB r) λr c d=>⟨c,d⟩;exact⟨a,l,x,e,o a x e c d⟩
theorem Seq.drop{α:Type}{h:f7}{p:av}{s:Sl}{w:Nat}{f:α->aT}{l:List α}(c:Seq h p s w f l)(k:Nat)(m:s.len<=s.cap):
  Seq h p ⟨if s.cap=k then s.ptr else s.ptr.map (·.add (k*w)),s.len-k,s.cap-k⟩ w f (l.drop k):=by
 have g:=c.len;refine⟨oo,λi x a=>?_⟩;rw[wQ]at a;obtain⟨b,o,d,e,h3⟩:=c.elem _ x a;have j:=(qk.1 a).1;refine⟨b,o+k*w,?_,e,?_⟩
 .dsimp only;rw[f9 ii,d,qS,add_eq]
 .rw[show o+k*w+i*w=o+(k+i)*w by rw[Nat.add_mul];omega];exact h3
theorem Seq.take{α:Type}{h:f7}{p:av}{s:Sl}{w:Nat}{f:α->aT}{l:List α}(b:Seq h p s w f l)(k:Nat)(c:k<=hY l):
  Seq h p ⟨s.ptr,k,s.cap⟩ w f (l.take k):=by
 refine⟨i5,λi x a=>?_⟩;rw[vi]at a;split at a
 .exact b.elem i x a
 .cases a
theorem getD_lt{α:Type}{l:List α}{d:α}{i:Nat}(h:i<hY l:=by omega):l.getD i d=l[i]:=by rw[qd,qc h];rfl
structure HP where
 p:f7->av->Prop
 loc:∀{h h':f7} {q:av},p h q->aS q h h'->p h' q
 mono:∀{h:f7} {q q':av},p h q->(∀b,q b->q' b)->p h q'
def emp:HP:=⟨λ_ _=>True,λ_ _=>trivial,λ_ _=>trivial⟩
def an{α:Type}(e:TypeId)(s:Sl)(k:Nat)(f:α->aT)(l:List α):HP:=
 ⟨λh q=>Own h e s k f l/\∀b,s.on b->q b,λa g=>⟨a.1.ac g a.2,a.2⟩,λa d=>⟨a.1,λb c=>d b (a.2 b c)⟩⟩
def aj(a:eS)(e:TypeId)(c:aT):HP:=
 ⟨λh q=>bQ h a e c/\q a.block,λx d=>⟨x.1.ac d x.2,x.2⟩,λx b=>⟨x.1,b _ x.2⟩⟩
def td{α:Type}(s:Sl)(k:Nat)(f:α->aT)(l:List α):HP:=
 ⟨λh q=>Seq h q s k f l,λa c=>a.ac c,λa b=>a.mono b⟩
def gK{α:Type}(e:TypeId)(s:Sl)(k:Nat)(f:α->aT)(m:List (List α)):HP:=
 ⟨λh q=>∃(rs:List Sl) (j:av),Own h e s 1 bn rs/\(∀b,s.on b->q b/\¬j b)/\(∀b,j b->q b)/\rs.length=hY m/\∀(i:Nat) r l,rs[i]?=dB r->m[i]?=dB l->Seq h j r k f l,
  λ⟨rs,j,a,b,c,d,e⟩ hp=>⟨rs,j,a.ac hp λx g=>(b x g).1,b,c,d,λi r l n o=>(e i r l n o).ac (hp.mono λx _ g=>c x g)⟩,
  λ⟨rs,j,a,b,c,d,e⟩ hq=>⟨rs,j,a,λx g=>⟨hq x (b x g).1,(b x g).2⟩,λx g=>hq x (c x g),d,e⟩⟩
structure aa (B:av) (h0 h:f7) (As:List HP):Prop where
 low:∀b,B b->b<h0.size
 ac:aS B h0 h
 ex:∃c:Nat->Nat,(∀b,B b->c b=0)/\∀(i:Nat) (A:HP),As[i]?=dB A->A.p h (λb=>b<h.size/\c b=i+1)
abbrev Sp(a h:f7)(As:List HP):Prop:=aa (λb=>b<a.size) a h As
variable {As:List HP} {A2 D:HP}
section
variable {B:av} {Bs:List HP} {A:HP} {i:Nat}
theorem Sp.refl(h:f7):Sp h h []:=⟨λ_ h=>h,aS.refl _ _,λ_=>0,λ_ _=>rfl,λi A a=>by simp at a⟩
theorem aa.at(H:aa B h0 h As)(i:Nat)(d:As[i]?=dB A):A.p h (λb=>b<h.size):=by obtain⟨c,_,e⟩:=H.ex;exact A.mono (e i A d) λ_ a=>a.1
theorem aa.fin(H:aa B h0 h As)(i:Nat)(f:As[i]?=dB A):A.p h (λb=>¬B b/\b<h.size):=by obtain⟨c,d,g⟩:=H.ex;exact A.mono (g i A f) λb e=>⟨λa=>by have:=d b a;omega,e.1⟩
theorem Sp.fresh(H:Sp h0 h As)(i:Nat)(c:As[i]?=dB A):A.p h (λb=>h0.size<=b/\b<h.size):=
 A.mono (aa.fin H i c) λb a=>⟨ii,a.2⟩
theorem aa.comp(H:aa B h0 h As)(R:Sp h h' Bs):aa B h0 h' (As++Bs):=by
 obtain⟨k,j,q,l,m⟩:=H;obtain⟨_,e,g,o,n⟩:=R;have c:=j.1;refine⟨k,j.then e λb a _=>qY a c,λb=>if b<h.size then q b else if g b=0 then 0 else As.length+g b,λb a=>?_,λi A d=>?_⟩
 .dsimp only;rw[f8 (qY (k b a) c)];exact l b a
 .by_cases p:i<hY As
  .rw[ql p]at d;refine A.mono (A.loc (m i A d) (e.mono λb _ a=>a.1)) λb a=>⟨qY a.1 e.1,?_⟩
   dsimp only;rw[f8 a.1];exact a.2
  .rw[qi ii]at d;refine A.mono (n _ A d) λb a=>⟨a.1,?_⟩
   have:¬b<h.size:=λf=>by have:=o b f;omega
   dsimp only;rw[f9 this,f9 ii];omega
theorem aa.up(H:aa B h0 h As)(R:aS (λb=>b<h.size) h h'):aa B h0 h' As:=by have:=H.comp (Bs:=[]) ⟨λ_ h=>h,R,λ_=>0,λ_ _=>rfl,λi A a=>by simp at a⟩;simpa using this
theorem Sp.one(R:aS (λb=>b<h.size) h h')(d:A.p h' λb=>h.size<=b/\b<h'.size):Sp h h' [A]:=by
 refine⟨λ_ h=>h,R,λb=>if b<h.size then 0 else 1,λb a=>f8 a,λi A2 c=>?_⟩;cases i with
 |succ i=>simp at c
 |zero=>
  simp at c;subst c;exact A.mono d λb a=>⟨a.2,by dsimp only;rw[f9 ii]⟩
theorem Sp.zip(R:aS (λb=>b<h.size) h h'):Sp h h' []:=aa.up (Sp.refl h) R
theorem aa.enter(q:av)(c:Nat->Nat)(e:∀b,q b->b<h.size)(a:∀(i:Nat) (A:HP),As[i]?=dB A->A.p h λb=>q b/\c b=i+1):aa (λb=>b<h.size/\¬q b) h h As:=by
 classical
 refine⟨λb d=>d.1,aS.refl _ _,λb=>if q b then c b else 0,λb d=>f9 d.2,λi A f=>A.mono (a i A f) λb d=>⟨e b d.1,?_⟩⟩;dsimp only;rw[f8 d.1];exact d.2
theorem aa.XB(q:av)(e:∀b,q b->b<h.size)(a:A.p h q):aa (λb=>b<h.size/\¬q b) h h [A]:=
 .enter q (λ_=>1) e λi A2 c=>by
  cases i with
  |succ i=>simp at c
  |zero=>simp at c;subst c;exact A.mono a λb d=>⟨d,hZ⟩
theorem aa.Co(l:∀b,B b->b<h0.size)(g:aS B h0 h)(z:∀b,B b->c b=0)(a:∀(i:Nat) (A:HP),As[i]?=dB A->A.p h λb=>b<h.size/\c b=i+1)
  (k:aS (λb=>¬(b<h.size/\c b=i+1)) h h') (n:D.p h' λb=>b<h'.size/\((b<h.size/\c b=i+1)∨h.size<=b)):aa B h0 h' (As.set i D):=by
 refine⟨l,g.then k λb _ d m=>by have:=z b d;omega,grow c h.size (i+1),λb d=>?_,λj A e=>?_⟩
 .rw[hO (qY (l b d) g.1)];exact z b d
 .rw[qW]at e;split at e
  .rename_i f;subst f;split at e
   .injection e with e
    subst e;refine D.mono n λb d=>⟨d.1,?_⟩
    rcases d.2 with h1|h1
    .rw[hO h1.1];exact h1.2
    .exact rG h1
   .cases e
  .rename_i f;refine A.mono (A.loc (a j A e) (k.mono λb _ d m=>ii)) λb d=>⟨qY d.1 k.1,?_⟩
   rw[hO d.1];exact d.2
theorem aa.step(H:aa B h0 h As)(i:Nat)(g:As[i]?=dB A)(j:∀q:av,A.p h q->(∀b,q b->b<h.size)->aS (λb=>¬q b) h h'/\D.p h' λb=>b<h'.size/\(q b∨h.size<=b)):aa B h0 h' (As.set i D):=by obtain⟨f,p,c,z,a⟩:=H;obtain⟨d,k⟩:=j _ (a i A g) λb e=>e.1;exact aa.Co f p z a d k
theorem aa.eW(H:aa B h0 h As)(i:Nat)(f:As[i]?=dB A)(d:∀q:av,A.p h q->D.p h q):aa B h0 h (As.set i D):=
 H.step i f λq e a=>⟨aS.refl _ _,D.mono (d q e) λb c=>⟨a b c,.inl c⟩⟩
theorem aa.merge(H:aa B h0 h As)(i j:Nat)(r:i≠j)(s:As[i]?=dB A)(q:As[j]?=dB A2)
  (t:∀l m:av,(∀b,l b->¬m b)->A.p h l->A2.p h m->D.p h λb=>l b∨m b):aa B h0 h ((As.set i D).set j emp):=by
 obtain⟨u,p,c,z,a⟩:=H;refine⟨u,p,λb=>if c b=j+1 then i+1 else c b,λb f=>?_,λk n d=>?_⟩
 .have:=z b f;dsimp only;rw[f9 ii];exact this
 .rw[qW]at d;split at d
  .split at d
   .cases d;trivial
   .cases d
  .rename_i o;rw[qW]at d;split at d
   .rename_i g;subst g;split at d
    .injection d with d
     subst d;refine D.mono (t _ _ (λb e v=>ii) (a i A s) (a j A2 q)) λb f=>?_;rcases f with e|e
     .exact⟨e.1,by dsimp only;rw[f9 ii];exact e.2⟩
     .exact⟨e.1,by dsimp only;rw[f8 e.2]⟩
    .cases d
   .rename_i g;refine n.mono (a k n d) λb f=>⟨f.1,?_⟩
    dsimp only;rw[f9 ii];exact f.2
theorem aa.pick(H:aa B h0 h As)(f:Nat->Nat)(k:∀i j,f i=f j->i=j)(n:∀(i:Nat) (A2:HP),Bs[i]?=dB A2->As[f i]?=dB A2):aa B h0 h Bs:=by
 obtain⟨m,p,c,z,a⟩:=H
 classical
 refine⟨m,p,λb=>if e:∃i,c b=f i+1 then e.choose+1 else 0,λb e=>?_,λi A2 g=>?_⟩
 .have:=z b e;dsimp only;rw[dif_neg];rintro⟨i,g⟩;omega
 .refine A2.mono (a _ _ (n i A2 g)) λb e=>⟨e.1,?_⟩
  have d:∃i,c b=f i+1:=⟨i,e.2⟩
  dsimp only;rw[dif_pos d];have o:=d.choose_spec;have l:=k d.choose i ii;rw[l]
theorem aa.take(H:aa B h0 h As)(n:Nat)(a:∀(i:Nat) (A2:HP),Bs[i]?=dB A2->As[n+i]?=dB A2):aa B h0 h Bs:=H.pick (λi=>n+i) (λ_ _ h=>ii) a
end
section
variable {B:av} {C:Ctx} {i e:Nat}
theorem aa.own(H:aa B h0 h As)(i:Nat)(a:As[i]?=dB (an e s k f l)):Own h e s k f l:=(H.at i a).1
theorem aa.seq(H:aa B h0 h As)(i:Nat)(a:As[i]?=dB (an e s k f l))(c:∀x,hY (f x)=k):Seq h (λb=>b<h.size) s k f l:=(H.at i a).1.seq c (H.at i a).2
theorem aa.rd(H:aa B h0 h As)(i:Nat)(a:As[i]?=dB (td s k f l)):Seq h (λb=>b<h.size) s k f l:=H.at i a
theorem aa.box(H:aa B h0 h As)(i:Nat)(b:As[i]?=dB (aj a e cs)):bQ h a e cs:=(H.at i b).1
theorem aa.nG(H:aa B h0 h As)(i:Nat)(q:As[i]?=dB (an e s k f l)){β:Type}{o n:Nat}{g:β->aT}{l':List β}(m:aS (λb=>¬s.on b) h h')(p:Own h' o s n g l'):aa B h0 h' (As.set i (an o s n g l')):=
 H.step i q λ_ d j=>⟨m.mono λb _ a c=>a (d.2 b c),p,λb a=>⟨qY (j b (d.2 b a)) m.1,.inl (d.2 b a)⟩⟩
theorem aa.um(H:aa B h0 h As)(i:Nat)(m:As[i]?=dB (aj a e cs)){c:aT}(j:aS (λb=>b≠a.block) h h')(k:bQ h' a e c):aa B h0 h' (As.set i (aj a e c)):=
 H.step i m λq f g=>⟨j.mono λb _ l d=>l (by rw[d];exact f.2),k,⟨qY (g _ f.2) j.1,.inl f.2⟩⟩
theorem aa.freeze(H:aa B h0 h As)(i:Nat)(b:As[i]?=dB (an e s k f l))(c:∀x,hY (f x)=k):aa B h0 h (As.set i (td s k f l)):=H.eW i b λ_ a=>a.1.seq c a.2
theorem aa.set(p:C.Ok)(H:aa B h0 h As)(i:Nat)(g:As[i]?=dB (an e s k f l))(q:∀x,hY (f x)=k)(o:C.T.get t=dB ti){x:Int}(n:Nat)(j:x=n)(m:n<hY l){c:eR}(y:α)(r:c.cells=(f y).toArray)(d:ti.size=k)
  (b:(f y).all (·.oneCell')=ez) {K:f7->Prop} (u:∀h',aa B h0 h' (As.set i (an e s k f (l.set n y)))->K h'):
  ∃a:eS,(s.ptr=dB a/\0<=x/\x<((s.len:Nat):Int))/\au C.P (qH t (.pointer (dB (a.add (x.toNat*k)))) c) h λ_ h'=>K h':=
 (H.own i g).set p q o n j m y r d b λh' z w _=>u h' (H.nG i g w z)
theorem aa.push(G:C.Ok)(H:aa B h0 h As)(i:Nat)(F:As[i]?=dB (an e s k f l))(L:bL C.toBH t e k z by_)(J:hY z=k)(q:0<by_/\by_<=128)(I:∀x,hY (f x)=k)
  (m:∀x,∀c∈f x,c.oneCell'=ez) (x:α) {parts:Array (Nat×eR)} (g:wK (λi=>dB (i*k,k)) (jh z 1).toArray parts.toList=dB ([x].flatMap f).toArray)
  (p:1*k<=2^20) (u:hY l+1<=2^32) {ty:Nat} {K:Sl->f7->Prop}
  (O:∀o h',aa B h0 h' (As.set i (an e o k f (l++[x])))->K o h'):
  bx C.P (zO t 1 parts) (.one (.sc .slc)) h λv y=>bx C.P (zA #[t,t] ty #[.slice s.ptr s.len s.cap,.slice v.ptr v.len v.cap]) (.one (.sc .slc)) y K:=by
 obtain⟨Q,N,c,A,a⟩:=H;have w:=a i _ F;have M:dT h c (i+1) e s k f l:=⟨w.1,λb j=>(w.2 b j).2⟩
 refine M.push G L J q I m x g p u λo h' d r=>O o h' ?_;refine aa.Co Q N A a (r.mono λb j D E=>D ⟨j,E⟩) ⟨d.own,λb j=>⟨d.own.lt j,?_⟩⟩;have:=d.bp b j;by_cases n:b<h.size
 .rw[hO n]at this;exact .inl ⟨n,this⟩
 .exact .inr ii
theorem aa.append(F:C.Ok)(H:aa B h0 h As)(i:Nat)(E:As[i]?=dB (an e s k f l))(L:bL C.toBH t e k z by_)(A:∃i e2,C.T.get t2=dB i/\i.cD=.slice e2)(I:hY z=k)(o:0<by_/\by_<=128)(G:∀x,hY (f x)=k)
  (J:Seq h p v k f l2) (j:∀x,∀c∈f x,c.oneCell'=ez) (r:hY l+hY l2<=2^32) {ty:Nat} {K:Sl->f7->Prop}
  (O:∀n h',aa B h0 h' (As.set i (an e n k f (l++l2)))->K n h'):
  bx C.P (zA #[t,t2] ty #[.slice s.ptr s.len s.cap,.slice v.ptr v.len v.cap]) (.one (.sc .slc)) h K:=by
 obtain⟨Q,N,c,w,a⟩:=H;have u:=a i _ E;have M:dT h c (i+1) e s k f l:=⟨u.1,λb g=>(u.2 b g).2⟩
 refine M.append F L A I o G J j r λn h' d q=>O n h' ?_;refine aa.Co Q N w a (q.mono λb g y D=>y ⟨g,D⟩) ⟨d.own,λb g=>⟨d.own.lt g,?_⟩⟩;have:=d.bp b g;by_cases m:b<h.size
 .rw[hO m]at this;exact .inl ⟨m,this⟩
 .exact .inr ii
theorem KC{h h':f7}{n:Nat}(i:n=h.size)(d:Own h' e s k f l)(g:s.ptr=dB ⟨n,0,et⟩)(c:aS (λ_=>True) h h'):Sp h h' [an e s k f l]:=
 .one (any c) ⟨d,λb a=>⟨by obtain⟨o,a⟩:=a;rw[g]at a;cases a;omega,d.lt a⟩⟩
theorem aa.make(u:C.Ok)(H:aa B h0 h As)(f:α->aT)(A:bL C.toBH t e k z by_)(g:0<by_/\by_<=128)(d:α)(v:f d=z)(i:hY z=k){o p:IntKind}{n l:Int}(m b:Nat)(r:n=m)(s:l=b)(j:m<=b)(c:b<=2^32)
  {K:Sl->f7->Prop} (D:∀a h',a.len=m->a.cap=b->aa B h0 h' (As++[an e a k f (qg m d)])->K a h'):
  bx C.P (zD t (.int o n) (.int p l)) (.one (.sc .slc)) h K:=
 run_make u A g d v i m b r s j c λa h' x y w q _=>D a h' (by rw[x.len];simp) w (H.comp (KC hZ x y q))
theorem aa.lit(m:C.Ok)(H:aa B h0 h As)(f:α->aT)(o:bL C.toBH t e k z by_)(d:hY z=k){n:Nat}{parts:Array (Nat×eR)}(l:List α)(j:hY l=n)(c:n*k<=2^20)
  (a:wK (λi=>dB (i*k,k)) (jh z n).toArray parts.toList=dB (l.flatMap f).toArray) {K:Sl->f7->Prop}
  (p:∀b h',aa B h0 h' (As++[an e b k f l])->K b h'):
  bx C.P (zO t n parts) (.one (.sc .slc)) h K:=
 KB m o d l j c a λb h' x y g _=>p b h' (H.comp (KC hZ x y g))
theorem KD{h h':f7}(d:a.block=h.size)(c:bQ h' a e cs)(b:aS (λ_=>True) h h'):Sp h h' [aj a e cs]:=
 .one (any b) ⟨c,ii,c.lt⟩
theorem aa.alloc(e:C.Ok)(H:aa B h0 h As)(d:C.T.get t=dB ti){K:eS->f7->Prop}(b:∀a h',aa B h0 h' (As++[aj a t ti.zero])->K a h'):
  pB C.P (yQ t ez (.tuple #[])) h K:=
 Ao e d λa h' x y c _=>b a h' (H.comp (KD x y c))
theorem aa.boxed(H:aa B h0 h As){P:Program}{v:eR}{K:eS->f7->Prop}(b:∀a h',aa B h0 h' (As++[aj a t v.cells.toList])->K a h'):
  pB P (vD t v) h K:=
 Tx λa h' x y c _=>b a h' (H.comp (KD x y c))
theorem aa.store(l:C.Ok)(H:aa B h0 h As)(i:Nat)(f:As[i]?=dB (aj a e cs))(g:C.T.get t=dB ti)(off:Nat){v:eR}(vs:aT)(k:v.cells=vs.toArray)(d:ti.size=hY vs)
  (c:vs.all (·.oneCell')=ez) (b:off+hY vs<=hY cs) {K:Unit->f7->Prop}
  (j:∀h',aa B h0 h' (As.set i (aj a e (cs.take off++vs++cs.drop (off+hY vs))))->K () h'):
  au C.P (qH t (.pointer (dB (a.add off))) v) h K:=
 run_store l (H.box i f) g off vs k d c b λh' x y _=>j h' (H.um i f y x)
theorem aa.fv(l:C.Ok)(H:aa B h0 h As)(i:Nat)(k:As[i]?=dB (aj a e cs))(f:C.T.get t=dB ti){v:eR}(vs:aT)(j:v.cells=vs.toArray)(c:ti.size=hY vs)
  (b:vs.all (·.oneCell')=ez) (d:hY vs<=hY cs) {K:Unit->f7->Prop}
  (g:∀h',aa B h0 h' (As.set i (aj a e (vs++cs.drop vs.length)))->K () h'):
  au C.P (qH t (.pointer (dB a)) v) h K:=
 H.store l i k f 0 vs j c b ii (λh' x=>g h' (by simpa using x))
theorem aa.nil(H:aa B h0 h As)(e k:Nat)(f:α->aT):aa B h0 h (As++[an e ⟨et,0,0⟩ k f []]):=
 H.comp (.one (aS.refl _ _) ⟨Own.nil h e k f,λb a=>by obtain⟨o,a⟩:=a;cases a⟩)
theorem aa.IL(H:aa B h0 h As)(e k:Nat)(f:α->aT):aa B h0 h (As++[gK e ⟨et,0,0⟩ k f []]):=
 H.comp (.one (aS.refl _ _) ⟨[],λ_=>False,Own.nil h e 1 bn,λb a=>(by obtain⟨o,a⟩:=a;cases a),λ_ a=>a.elim,rfl,λi r l h=>l6⟩)
theorem aa.un(hC:C.Ok)(H:aa B h0 h As)(i j:Nat)(z:i≠j){I:List (List α)}{r:Sl}{x:List α}(T:As[i]?=dB (gK e s k f I))(V:As[j]?=dB (td r k f x))(he:bL C.toBH t e 1 [.slice et 0 0] 24)
  (ab:hY I+1<=2^32) {ty:Nat} {K:Sl->f7->Prop} (hk:∀O h',aa B h0 h' ((As.set j emp).set i (gK e O k f (I++[x])))->K O h'):
  bx C.P (zO t 1 #[(0,.slice r.ptr r.len r.cap)]) (.one (.sc .slc)) h λv o=>bx C.P (zA #[t,t] ty #[.slice s.ptr s.len s.cap,.slice v.ptr v.len v.cap]) (.one (.sc .slc)) o K:=by
 have Y:=H.merge i j z T V (D:=⟨λh q=>∃(rs:List Sl) (g:av),Own h e s 1 bn rs/\(∀b,s.on b->q b/\¬g b)/\(∀b,g b->q b)/\rs.length=hY I/\(∀(i:Nat) r l,rs[i]?=dB r->I[i]?=dB l->Seq h g r k f l)/\Seq h g r k f x,
  λ⟨rs,g,a,b,c,d,e,f⟩ hp=>⟨rs,g,a.ac hp λx n=>(b x n).1,b,c,d,λi r l o A=>(e i r l o A).ac (hp.mono λx _ n=>c x n),f.ac (hp.mono λx _ n=>c x n)⟩,
  λ⟨rs,g,a,b,c,d,e,f⟩ hq=>⟨rs,g,a,λx n=>⟨hq x (b x n).1,(b x n).2⟩,λx n=>hq x (c x n),d,e,f⟩⟩)
  (λg q2 hd hA hB=>by
   obtain⟨rs,q3,a,b,c,d,e'⟩:=hA;refine⟨rs,λb=>q3 b∨q2 b,a,λx n=>⟨.inl (b x n).1,λL=>L.elim (b x n).2 (hd x (b x n).1)⟩,λx n=>n.elim (λh=>.inl (c x h)) .inr,d,λi r l o A=>(e' i r l o A).mono λ_ h=>.inl h,Seq.mono hB λ_ h=>.inr h⟩)
 have w:i<hY As:=(qk.1 T).1;obtain⟨lo,pp,c,W,a⟩:=Y;have ha:=a i _ (by rw[zG (Ne.symm z),zj w]);obtain⟨rs,g,a1,a2,a3,a4,a5,Z⟩:=ha;let S:Nat->Nat:=λb=> @ite _ (g b) (Classical.propDecidable _) (hY As+2) (c b);have F:∀b,g b->b<h.size/\c b=i+1:=a3;have ho:dT h S (i+1) e s 1 bn rs:=⟨a1,λb m=>by
  have:=a2 b m;show @ite _ (g b) (Classical.propDecidable _) _ _=_;rw[f9 this.2];exact this.1.2⟩
 refine ho.push hC he hZ i0 (λ_=>rfl) jH r hZ i0 ii λO h' E G=>hk O h' ?_;rw[vN _ _ (Ne.symm z)];rw[<-yz (l:=As) (i:=i),vN _ _ z];have J:∀b,g b->S b≠i+1:=λb m=>by
  show @ite _ (g b) (Classical.propDecidable _) _ _≠_;rw[f8 m];omega
 refine aa.Co lo pp W a (G.mono λb m X hc=>X ⟨m,?_⟩) ⟨rs++[r],λb=>g b/\b<h.size,E.own,λb m=>?_,λb m=>⟨qY m.2 G.1,.inl ⟨m.2,(F b m.1).2⟩⟩,by simp[a4],λR r' l' o A=>?_⟩
 .by_cases y:g b
  .exact(F b y).2
  .have u:@ite _ (g b) (Classical.propDecidable _) (hY As+2) (c b)=i+1:=hc;rw[f9 y]at u;exact u
 .have p:=E.bp b m;by_cases w:b<h.size
  .rw[hO w]at p;have M:¬g b:=λy=>J b y p;have u:@ite _ (g b) (Classical.propDecidable _) (hY As+2) (c b)=i+1:=p;rw[f9 M]at u;exact⟨⟨E.own.lt m,.inl ⟨w,u⟩⟩,λL=>M L.1⟩
  .exact⟨⟨E.own.lt m,.inr ii⟩,λL=>w L.2⟩
 .have N:∀{U:Sl} {l:List α},Seq h g U k f l->Seq h' (λb=>g b/\b<h.size) U k f l:=λhs=>
   (hs.mono (q:=λb=>g b/\b<h.size) λb m=>⟨m,(F b m).1⟩).ac (G.mono λb _ m=>J b m.1)
  by_cases Q:R<hY rs
  .rw[ql Q]at o;rw[ql ii]at A;exact N (a5 R r' l' o A)
  .have:R=hY rs:=by have:=(qk.1 o).1;simp at this;omega
   subst this;simp at o;rw[a4]at A;simp at A;subst o;subst A;exact N Z
theorem aa.rows(H:aa B h0 h As)(i:Nat){g:List (List α)}(n:As[i]?=dB (gK e s k f g)):∃rs,fT h (λb=>b<h.size) s k f g rs:=by obtain⟨rs,p,a,b,c,d,e⟩:=H.at i n;exact⟨rs,a.seq (λ_=>rfl) λx m=>(b x m).1,d,λi r l j o=>(e i r l j o).mono c⟩
end
theorem abq(vs:aT):∀(pre old post:aT),hY old=hY vs->((vs.zipIdx 0).foldl (λ(cs:Array eR) (p:eR×Nat)=>cs.setIfInBounds (hY pre+p.2) p.1) (pre++old++post).toArray)=(pre++vs++post).toArray:=by
 have b:∀(vs pre old post:aT) (k:Nat),hY old=hY vs->hY pre=hY pre->∀n,n+k=hY pre->((vs.zipIdx k).foldl (λ(cs:Array eR) (p:eR×Nat)=>cs.setIfInBounds (n+p.2) p.1) (pre++old++post).toArray)=(pre++vs++post).toArray:=by
  intro vs
  induction vs with
  |nil=>intro pre old post k a _ n _;rw[qZ a];rfl
  |cons v vs ih=>
   intro pre old post k a _ n c;cases old with
   |nil=>simp at a
   |cons u old=>
    rw[List.zipIdx_cons,zB];have e:(pre++(u::old)++post).toArray.setIfInBounds (n+k) v=((pre++[v])++old++post).toArray:=by rw[c];apply yI;simp
    dsimp only;rw[e,ih (pre++[v]) old post (k+1) j5 hZ n i5];simp
 intro pre old post h;exact b vs pre old post 0 h hZ pre.length ii
theorem Ol{a:Nat->Option (Nat×Nat)}{i:Nat}{v:eR}{vs pre old post:aT}{rest:List (Nat×eR)}(d:v.cells=vs.toArray)(c:a i=dB (hY pre,hY vs))(b:hY old=hY vs):
  wK a (pre++old++post).toArray ((i,v)::rest)=wK a (pre++vs++post).toArray rest:=by
 conv=>lhs;unfold wK
 simp only[c,d];rw[f9 i5];congr 1;have:=abq vs pre old post b;simpa using this
section
variable {C:Ctx}
theorem uD(g:C.Ok)(k:C.T.get t=dB i){m:List (Nat×TypeId)}(d:i.cD=.struct m){ps:List (Nat×Nat)}(j:placesOf C.T m=dB ps){vs:List (Nat×eR)}{cells:Array eR}
  (a:wK (λn=>ps[n]?) i.zero.toArray vs=dB cells):aI C.P (Instr.build t vs.toArray) (.agg cells):=by
 obtain⟨z,p,c⟩:=su g.toOk k;have b:i.zero.toArray=z.cells:=by rw[<-c]
 have l:=g.cD k;rw[d]at l;obtain⟨o,q,rfl⟩:=pz l;refine p.bind ((aF q).bind ?_);have h:aI C.P (o.mapM λf=>(do pure (f.offset,<-sizeOf f.type):Sem (Nat×Nat))) ps.toArray:=by rw[Array.mapM_eq_mapM_toList];intro w;have:=ux g.toOk j w;rw[map_eq_pure_bind,Sem.run_bind,this];rfl
 refine h.bind ?_;have e:wK (λn=>ps.toArray[n]?) z.cells vs.toArray.toList=dB cells:=by rw[<-b];simpa using a
 rw[e];exact .pure
end
theorem take_set{α:Type}(l:List α)(n:Nat)(x:α)(h:n<hY l):l.take n++[x]++l.drop (n+1)=l.set n x:=by rw[yf,f8 h];simp
section
variable {B:av} {C:Ctx} {e:Nat}
theorem aa.storeAt(l:C.Ok)(H:aa B h0 h As)(i:Nat)(k:As[i]?=dB (aj a e cs))(f:C.T.get t=dB ti){off:Nat}{v:eR}(j:v.cells=#[v])(d:ti.size=1)
  (c:v.oneCell'=ez) (b:off<hY cs) {K:Unit->f7->Prop}
  (g:∀h',aa B h0 h' (As.set i (aj a e (cs.set off v)))->K () h'):
  au C.P (qH t (.pointer (dB (a.add off))) v) h K:=
 H.store l i k f off [v] j d n8 i5 λh' x=>g h' (by rw[<-take_set _ _ _ b];simpa using x)
theorem aa.storeAll(l:C.Ok)(H:aa B h0 h As)(i:Nat)(k:As[i]?=dB (aj a e cs))(f:C.T.get t=dB ti){v:eR}(vs:aT)(j:v.cells=vs.toArray)(c:ti.size=hY vs)
  (b:vs.all (·.oneCell')=ez) (d:hY vs=hY cs) {K:Unit->f7->Prop}
  (g:∀h',aa B h0 h' (As.set i (aj a e vs))->K () h'):
  au C.P (qH t (.pointer (dB a)) v) h K:=
 H.fv l i k f vs j c b ii λh' x=>g h' (by rw[zd ii,qG]at x;exact x)
end
theorem tQ(n:Nat)(a:n<=9223372036854775807:=by omega):qe xP (n:Int)=n:=ag _
abbrev Rd{α:Type}(h:f7)(s:Sl)(k:Nat)(f:α->aT)(l:List α):Prop:=Seq h (λb=>b<h.size) s k f l
abbrev fe{α:Type}(h:f7)(s:Sl)(k:Nat)(f:α->aT)(a:List (List α)):Prop:=∃rs,fT h (λb=>b<h.size) s k f a rs
section
variable {B:av} {e:Nat}
theorem fe.up(a:fe h s k f ll)(c:aS (λb=>b<h.size) h h'):fe h' s k f ll:=by obtain⟨rs,a⟩:=a;exact⟨rs,fT.up a c⟩
theorem fe.len(a:fe h s k f ll):s.len=hY ll:=by obtain⟨rs,a⟩:=a;exact a.Ho
theorem fe.get(b:fe h s k f ll){i:Int}(n:Nat)(g:i=n)(e:n<hY ll){K:Sl->Prop}(c:∀r,Rd h r k f ll[n]->K r):
  ∃a:eS,(s.ptr=dB a/\0<=i/\i<((s.len:Nat):Int))/\∃x:Sl,eX h (a.add (i.toNat*1))=dB (.slice x.ptr x.len x.cap)/\K x:=by
 obtain⟨rs,b⟩:=b;exact b.get n g e λr d _=>c r d
theorem Seq.isSome{p:av}(c:Seq h p s k f l)(d:l≠[]):s.ptr.isNone=eH:=by
 cases l with
 |nil=>exact absurd hZ d
 |cons x t=>obtain⟨b,o,a,_⟩:=c.elem 0 x i6;rw[a];rfl
theorem Seq.isNil{p:av}(b:Seq h p s k f l)(a:s.ptr.isNone=ez):l=[]:=by
 cases l with
 |nil=>rfl
 |cons x t=>rw[b.isSome i6]at a;cases a
theorem aa.Ea(H:aa B h0 h As)(i:Nat)(a:As[i]?=dB (gK e s k f ll)):fe h s k f ll:=H.rows i a
end
section
variable {B:av} {Bs:List HP} {A:HP}
theorem aa.del(H:aa B h0 h As)(i:Nat):aa B h0 h (As.eraseIdx i):=
 H.pick (λj=>if j<i then j else j+1) (λa b d=>by split at d<;>split at d<;>omega) λj A e=>by
  rw[List.getElem?_eraseIdx]at e;split at e
  .rename_i c;rw[f8 c];exact e
  .rename_i c;rw[f9 c];exact e
theorem aa.call(H:aa B h0 h As)(i:Nat)(y:As[i]?=dB A)(q:av)(J:∀q':av,A.p h q'->∀b,q b->q' b)(R:aa (λb=>b<h.size/\¬q b) h h' (D::Bs)):aa B h0 h' (As.set i D++Bs):=by
 classical
 obtain⟨F,z,j,u,w⟩:=H;obtain⟨_,s,g,L,x⟩:=R;have t:=z.1;have E:=(qk.1 y).1;have m:∀b,q b->b<h.size/\j b=i+1:=J _ (w i A y);have v:∀b,B b->b<h.size/\¬q b:=λb a=>⟨qY (F b a) t,λo=>by have:=u b a;have:=m b o;omega⟩
 let c:Nat->Nat:=λb=>if b<h.size/\¬q b then(if j b=i+1 then 0 else j b)else if g b=0 then 0 else if g b=1 then i+1 else As.length+g b-1
 have f:∀b,b<h.size/\¬q b->j b≠i+1->c b=j b:=λb a I=>by show ite _ _ _=_;rw[f8 a,f9 I]
 have e:∀b,g b≠0->c b=if g b=1 then i+1 else As.length+g b-1:=λb a=>by
  have:¬(b<h.size/\¬q b):=λo=>a (L b o);show ite _ _ _=_;rw[f9 this,f9 a]
 refine⟨F,z.then s λb _ a=>v b a,c,λb a=>?_,λk r d=>?_⟩
 .have:=u b a;rw[f b (v b a) ii];exact this
 .by_cases G:k<hY As
  .rw[ql q0,qW]at d;split at d
   .rename_i n;subst n;injection d with d
    subst d;refine D.mono (x 0 D hZ) λb a=>⟨a.1,?_⟩
    rw[e b ii,f8 a.2]
   .rename_i n;have l:∀b,b<h.size/\j b=k+1->b<h.size/\¬q b:=λb a=>⟨a.1,λo=>by have:=m b o;omega⟩
    refine r.mono (r.loc (w k r d) (s.mono λb _ a=>l b a)) λb a=>⟨qY a.1 s.1,?_⟩
    rw[f b (l b a) ii];exact a.2
  .rw[qi q0]at d;rw[zE]at d;have K:=x (k-hY As+1) r (by simpa using d);refine r.mono K λb a=>⟨a.1,?_⟩
   rw[e b ii,f9 ii];omega
end
section
variable {B:av} {Bs:List HP} {A:HP} {e:Nat}
theorem aa.off(H:aa B h0 h As)(i j:Nat)(n:i≠j)(o:As[i]?=dB (an e s k f l))(g:As[j]?=dB A):A.p h (λb=>b<h.size/\¬s.on b):=by
 obtain⟨_,_,c,_,a⟩:=H;refine A.mono (a j A g) λb m=>⟨m.1,λd=>?_⟩
 have:=(a i _ o).2 b d;omega
theorem aa.base(H:aa B h0 h As)(i:Nat)(j:As[i]?=dB (an e s k f l)){b:Nat}(g:B b):¬s.on b:=λd=>by
 obtain⟨_,_,c,z,a⟩:=H;have:=(a i _ j).2 b d;have:=z b g;omega
theorem aa.agP(H:aa B h0 h (As++[D]))(i:Nat)(k:i<hY As):aa B h0 h (As.set i D):=
 H.pick (λj=>if j<hY As then(if j=i then As.length else j)else j+1) (λa b c=>by split at c<;>split at c<;>(try split at c)<;>(try split at c)<;>omega) λj A e=>by
  have f:j<hY As:=by have:=(qk.1 e).1;simpa using this
  rw[f8 f];rw[qW]at e;split at e
  .rename_i d;subst d;rw[f8 hZ,qi (qm _),qX];exact e
  .rename_i d;rw[f9 λg=>d g.symm,ql f];exact e
theorem aa.adQ(H:aa B h0 h As)(i j:Nat){A2:HP}(n:As[i]?=dB A)(m:As[j]?=dB A2):aa B h0 h ((As.set i A2).set j A):=by
 have k:=(qk.1 n).1;have g:=(qk.1 m).1;refine H.pick (λx=>if x=j then i else if x=i then j else x) (λa b c=>by split at c<;>split at c<;>(try split at c)<;>(try split at c)<;>omega) λx o d=>?_;rw[qW,qW]at d;by_cases e:j=x
 .subst e;simp[g]at d;subst d;simpa using n
 .by_cases l:i=x
  .subst l;simp[e,k]at d;subst d;rw[f9 λf=>e f.symm,f8 rfl];exact m
  .simp[e,l]at d;rw[f9 λf=>e f.symm,f9 λf=>l f.symm];exact d
end
def bw{α:Type}(e k:Nat)(f:α->aT)(rs:List Sl)(a:List (List α)):List HP:=zg (λr l=>an e r k f l) rs a
section
variable {e:Nat}
theorem GF(h:hY rs=hY ll):hY (bw e k f rs ll)=hY ll:=by simp[bw,h]
theorem iw(h:hY rs=hY ll)(i:Nat)(b:i<hY ll):(bw e k f rs ll)[i]?=dB (an e (rs[i]'ii) k f ll[i]):=by
 have a:i<hY rs:=ii
 simp[bw,zL,qc b,qc a]
theorem uE(h:hY rs=hY ll)(r:Sl)(l:List α):bw e k f (rs++[r]) (ll++[l])=bw e k f rs ll++[an e r k f l]:=by unfold bw;rw[yM h];rfl
theorem lp(h:hY rs=hY ll)(i:Nat)(r:Sl)(l:List α):(bw e k f rs ll).set i (an e r k f l)=bw e k f (rs.set i r) (ll.set i l):=by
 apply zt;intro j;simp only[bw,qW,zL,List.length_zipWith];by_cases a:i=j
 .subst a;by_cases b:i<hY ll
  .have:i<hY rs:=ii
   simp[b,this];omega
  .have:¬i<hY rs:=ii
   simp[b];omega
 .simp[a]
theorem Om(h:hY rs=hY ll)(i:Nat)(a:i<hY ll)(l:List α):(bw e k f rs ll).set i (an e (rs[i]'ii) k f l)=bw e k f rs (ll.set i l):=by rw[lp h,List.set_getElem_self]
theorem aa.On{B:av}{n h:f7}{s:Sl}{b:Nat}(H:aa B n h (an b s 1 bn rs::bw e k f rs ll))(g:hY rs=hY ll)(m:∀x,hY (f x)=k):fe h s k f ll:=by
 refine⟨rs,H.seq 0 hZ λ_=>rfl,g,λi r l c a=>?_⟩;have d:i<hY ll:=(qk.1 a).1;have j:=iw (e:=e) (k:=k) (f:=f) g i d;have h3:=H.seq (i+1) rb m;have b:rs[i]'ii=r:=by rw[qc ii]at c;simpa using c
 have e2:ll[i]=l:=by rw[qc d]at a;simpa using a
 rw[b,e2]at h3;exact h3
end
theorem Seq.mU{X:Type}{g:X->eR}(d:Seq h p s 1 f l){i:Int}(n:Nat)(q:i=n)(m:n<hY l)(x:X)(k:f l[n]=[g x]){K:eS->X->Prop}(r:∀a:eS,eX h (a.add (i.toNat*1))=dB (g x)->K a x):
  ∃a:eS,(s.ptr=dB a/\0<=i/\i<((s.len:Nat):Int))/\∃x:X,eX h (a.add (i.toNat*1))=dB (g x)/\K a x:=by
 subst q;obtain⟨b,o,j,_,h3⟩:=d.elem n l[n] (qc m);rw[k]at h3;have e:=h3.1;rw[add_eq,wE]at e;have c:eX h ((⟨b,o,et⟩:eS).add ((n:Int).toNat*1))=dB (g x):=by rw[add_eq];simpa using e
 exact⟨_,⟨j,ii,by rw[d.len];omega⟩,x,c,r _ c⟩
theorem Seq.nY{h:f7}{p:av}{s:Sl}{rs:List Sl}(d:Seq h p s 1 bn rs){i:Int}(n:Nat)(k:i=n)(g:n<hY rs){K:eS->Sl->Prop}
  (l:∀a:eS,eX h (a.add (i.toNat*1))=dB (.slice rs[n].ptr rs[n].len rs[n].cap)->p (a.add (i.toNat*1)).block->K a rs[n]):
  ∃a:eS,(s.ptr=dB a/\0<=i/\i<((s.len:Nat):Int))/\∃x:Sl,eX h (a.add (i.toNat*1))=dB (.slice x.ptr x.len x.cap)/\K a x:=by
 subst k;obtain⟨b,o,f,j,h3⟩:=d.elem n rs[n] (qc g);have e:=h3.1;rw[add_eq,wE]at e;have c:eX h ((⟨b,o,et⟩:eS).add ((n:Int).toNat*1))=dB (.slice rs[n].ptr rs[n].len rs[n].cap):=by rw[add_eq];simpa using e
 exact⟨_,⟨f,ii,by rw[d.len];omega⟩,rs[n],c,l _ c (by rw[add_eq];exact j)⟩
section
variable {B:av} {e:Nat}
theorem Own.cut(a:Own h e s k f l)(c:∀x,hY (f x)=k)(j:Nat)(d:j<=hY l):Own h e ⟨s.ptr,j,s.cap⟩ k f (l.take j):=by
 have g:=a.len;refine⟨i5,?_⟩;rcases a.head with⟨h1,h2,h3⟩|⟨b,rest,h1,h2,h3,h4⟩
 .subst h3;exact .inl ⟨h1,h2,i6⟩
 .refine .inr ⟨b,(l.drop j).flatMap f++rest,h1,?_,?_,i4⟩
  .rw[<-qn,<-q9,qC];exact h2
  .rw[qw,dm c,zc,h3,<-Nat.add_mul];dsimp only;congr 1;omega
theorem aa.cut(H:aa B h0 h As)(i:Nat)(c:As[i]?=dB (an e s k f l))(d:∀x,hY (f x)=k)(j:Nat)(b:j<=hY l):aa B h0 h (As.set i (an e ⟨s.ptr,j,s.cap⟩ k f (l.take j))):=
 H.eW i c λ_ a=>⟨a.1.cut d j b,a.2⟩
end
section
variable {B:av} {C:Ctx} {e:Nat}
end
section
variable {C:Ctx} {ty e:Nat} {B:av}
theorem Own.IM(D:C.Ok)(F:bL C.toBH t e k z by_)(u:∀x,hY (f x)=k)(y:Own h e s k f l)(E:Seq h p v k f l2)(d:∀x,∀c∈f x,c.oneCell'=ez){K:Int->f7->Prop}
  (A:∀n h',Own h' e s k f (l2.take l.length++l.drop l2.length)->aS (λb=>¬s.on b) h h'->K n h'):
  bx C.P (yh #[t,t2] ty #[.slice s.ptr s.len s.cap,.slice v.ptr v.len v.cap]) (.one (.sc (.int .i64))) h K:=by
 unfold bx yh;simp only[zV,yc,qq];refine au.bind (au.always (aF (F.under D)) ?_);refine au.bind (au.pure' ?_);refine au.bind (au.always (F.size D) ?_);have a:=y.len;have g:=E.len;obtain⟨m,i⟩:=x6 (Nat.min v.len s.len)
 rw[<-i];have j:m<=hY l2:=by rw[i,<-g];exact Nat.min_le_left _ _
 have o:m<=hY l:=by rw[i,<-a];exact xg _ _
 have G:m=min l2.length l.length:=by rw[i,a,g]
 have q:=E.take m j;have I:l2.take l.length++l.drop l2.length=l2.take m++l.drop m:=by
  rcases Nat.le_total l2.length l.length with hh|hh
  .rw[qh hh,show m=hY l2 by omega,qM]
  .rw[show m=hY l by omega,zd hh,List.drop_length]
 rw[I]at A;have B:wP k m (.slice v.ptr v.len v.cap)=wP k m (.slice v.ptr m v.cap):=by cases v.ptr<;>rfl
 rw[B];refine au.bind (gw (v:=⟨v.ptr,m,v.cap⟩) u q ?_);rcases y.head with⟨h1,h2,h3⟩|⟨b,rest,h1,h2,h3,h4⟩
 .rw[h1];subst h3;have:m=0:=p7
  subst this;refine au.pure' ⟨_,hZ,A _ h ?_ (aS.refl _ _)⟩;simpa using y
 .rw[h1];refine au.bind ?_;have r:l.flatMap f++rest=(l.take m).flatMap f++((l.drop m).flatMap f++rest):=by rw[<-qn,<-q9,qC]
  rw[r]at h2;refine fc (e:=e) (pre:=[]) (old:=(l.take m).flatMap f) (post:=(l.drop m).flatMap f++rest) (by simpa using h2) (by rw[dm u,dm u,qR,qR];congr 1;omega) hZ ?_ ?_
  .intro c J;obtain⟨x,_,w⟩:=zI.1 J;exact d x c w
  .refine au.pure' ⟨_,hZ,A _ _ ⟨by rw[a,qw,qR,zc];omega,.inr ⟨b,rest,h1,?_,h3,h4⟩⟩ (aS.jD h2 λH=>H ⟨0,h1⟩)⟩;rw[iA h2,f8 hZ,q9];simp
theorem aa.IM(o:C.Ok)(H:aa B h0 h As)(i:Nat)(b:As[i]?=dB (an e s k f l))(d:bL C.toBH t e k z by_)(j:∀x,hY (f x)=k)(m:Seq h p v k f l2)(a:∀x,∀c∈f x,c.oneCell'=ez){K:Int->f7->Prop}
  (g:∀n h',aa B h0 h' (As.set i (an e s k f (l2.take l.length++l.drop l2.length)))->K n h'):
  bx C.P (yh #[t,t2] ty #[.slice s.ptr s.len s.cap,.slice v.ptr v.len v.cap]) (.one (.sc (.int .i64))) h K:=
 (H.own i b).IM o d j m a λn h' x y=>g n h' (H.nG i b y x)
end
def KE(d:Sl)(w i:Nat):Sl:=⟨if d.cap=i*w then d.ptr else d.ptr.map (·.add (i*w*1)),(i+1)*w-i*w,d.cap-i*w⟩
def Eb{α:Type}(l:List α)(w i:Nat):List α:=(l.drop (i*w)).take w
theorem Seq.piece{α:Type}{h:f7}{p:av}{s:Sl}{f:α->aT}{l:List α}(c:Seq h p s 1 f l)(b:s.len<=s.cap)(w i:Nat)(g:(i+1)*w<=hY l):Seq h p (KE s w i) 1 f (Eb l w i):=by
 have a:=c.drop (i*w) b;have e:(i+1)*w=i*w+w:=zM i w;have d:=a.take w l9;have e2:(i+1)*w-i*w=w:=ii
 unfold KE Eb;rw[e2];exact d
theorem aeY{α:Type}{l:List α}{w i:Nat}(a:(i+1)*w<=hY l):hY (Eb l w i)=w:=by have e:(i+1)*w=i*w+w:=zM i w;simp only[Eb,qR,zc];omega
def HP.sep(A D:HP):HP:=
 ⟨λh q=>∃i g:av,(∀b,i b->¬g b)/\(∀b,i b->q b)/\(∀b,g b->q b)/\A.p h i/\D.p h g,
  λ⟨i,g,a,b,c,d,e⟩ hp=>⟨i,g,a,b,c,A.loc d (hp.mono λx _ f=>b x f),D.loc e (hp.mono λx _ f=>c x f)⟩,
  λ⟨i,g,a,b,c,d,e⟩ hq=>⟨i,g,a,λx f=>hq x (b x f),λx f=>hq x (c x f),d,e⟩⟩
def HP.ex{ι:Type}(F:ι->HP):HP:=⟨λh q=>∃i,(F i).p h q,λ⟨i,a⟩ hp=>⟨i,(F i).loc a hp⟩,λ⟨i,a⟩ hq=>⟨i,(F i).mono a hq⟩⟩
def HP.and(A:HP)(P:Prop):HP:=⟨λh q=>A.p h q/\P,λa c=>⟨A.loc a.1 c,a.2⟩,λa b=>⟨A.mono a.1 b,a.2⟩⟩
variable {E:HP}
section
variable {B:av} {Bs:List HP} {A:HP} {i:Nat}
theorem aa.split(H:aa B h0 h As)(i:Nat)(m:As[i]?=dB (A.sep D)):aa B h0 h (As.set i A++[D]):=by
 classical
 obtain⟨s,p,c,z,a⟩:=H;obtain⟨w,q,t,n,s2,u,r⟩:=a i _ m;have v:=(qk.1 m).1;refine⟨s,p,λb=>if q b then As.length+1 else c b,λb e=>?_,λj X d=>?_⟩
 .have o:=z b e;dsimp only;rw[f9];exact o;intro g;have:=(s2 b g).2;omega
 .by_cases l:j<hY As
  .rw[ql o8,qW]at d;split at d
   .rename_i f;subst f
    first|rw[f8 l]at d|skip
    injection d with d
    subst d;refine A.mono u λb e=>⟨(n b e).1,?_⟩
    dsimp only;rw[f9 (t b e)];exact(n b e).2
   .rename_i f;refine X.mono (a j X d) λb e=>⟨e.1,?_⟩
    dsimp only;rw[f9];exact e.2;intro g;have:=(s2 b g).2;omega
  .rw[qi o8]at d;rw[zE]at d;have k:j=hY As:=by have:=(qk.1 d).1;simp at this;omega
   subst k;simp at d;subst d;refine D.mono r λb e=>⟨(s2 b e).1,?_⟩
   dsimp only;rw[f8 e]
theorem aa.join(H:aa B h0 h As)(i j:Nat)(b:i≠j)(g:As[i]?=dB A)(c:As[j]?=dB D):aa B h0 h ((As.set i (A.sep D)).set j emp):=
 H.merge i j b g c λl e f k d=>⟨l,e,f,λ_ a=>.inl a,λ_ a=>.inr a,k,d⟩
theorem aa.UU{ι:Type}{F:ι->HP}(H:aa B h0 h As)(i:Nat)(g:As[i]?=dB (HP.ex F)):∃x,aa B h0 h (As.set i (F x)):=by
 obtain⟨f,p,c,z,a⟩:=H;obtain⟨x,e⟩:=a i _ g;refine⟨x,f,p,c,z,λj X b=>?_⟩;rw[qW]at b;split at b
 .rename_i d;subst d;split at b
  .injection b with b;subst b;exact e
  .cases b
 .exact a j X b
theorem aa.close'{ι:Type}{F:ι->HP}(H:aa B h0 h As)(i:Nat)(x:ι)(b:As[i]?=dB (F x)):aa B h0 h (As.set i (HP.ex F)):=H.eW i b λ_ a=>⟨x,a⟩
theorem aa.fact{P:Prop}(H:aa B h0 h As)(i:Nat)(a:As[i]?=dB (A.and P)):P:=(H.at i a).2
theorem aa.adR{P:Prop}(H:aa B h0 h As)(i:Nat)(b:As[i]?=dB (A.and P)):aa B h0 h (As.set i A):=H.eW i b λ_ a=>a.1
theorem aa.aiB{P:Prop}(H:aa B h0 h As)(i:Nat)(c:As[i]?=dB A)(a:P):aa B h0 h (As.set i (A.and P)):=H.eW i c λ_ b=>⟨b,a⟩
theorem aa.cons(H:aa B h0 h As)(i:Nat)(g:As[i]?=dB A):aa B h0 h (A::As.set i emp):=by
 obtain⟨k,p,c,z,a⟩:=H;have l:=(qk.1 g).1;refine⟨k,p,λb=>if c b=i+1 then 1 else if c b=0 then 0 else c b+1,λb e=>?_,λj X d=>?_⟩
 .have:=z b e;dsimp only;rw[f9 ii,f8 this]
 .cases j with
  |zero=>
   simp at d;subst d;refine A.mono (a i A g) λb e=>⟨e.1,by dsimp only;rw[f8 e.2]⟩
  |succ j=>
   rw[qq,qW]at d;split at d
   .rename_i f;injection d with d;subst d;trivial
   .rename_i f;refine X.mono (a j X d) λb e=>⟨e.1,by dsimp only;rw[f9 ii,f9 ii];omega⟩
theorem aa.rest(H:aa B h0 h (A::As)):aa B h0 h As:=H.pick (λj=>j+1) (λa b h=>ii) λj X c=>l7
end
structure iW (α β:Type) where
 p:f7->av->α->β->Prop
 loc:∀{h h':f7} {q:av} {a:α} {b:β},p h q a b->aS q h h'->p h' q a b
 mono:∀{h:f7} {q q':av} {a:α} {b:β},p h q a b->(∀x,q x->q' x)->p h q' a b
def cz{α:Type}(k:Nat)(f:α->aT):iW Sl (List α):=⟨λh q s l=>Seq h q s k f l,λa c=>a.ac c,λa b=>a.mono b⟩
def te{α:Type}(k:Nat)(f:α->aT):iW Sl (List α):=⟨λh q s l=>Seq h q s k f l/\(l=[]->s.ptr=et),λa c=>⟨a.1.ac c,a.2⟩,λa b=>⟨a.1.mono b,a.2⟩⟩
def bN{α β:Type}(E:iW α β)(k:Nat)(f:α->aT):iW Sl (List β):=
 ⟨λh q s ll=>∃rs:List α,Seq h q s k f rs/\rs.length=hY ll/\∀(i:Nat) r l,rs[i]?=dB r->ll[i]?=dB l->E.p h q r l,
  λ⟨rs,a,b,c⟩ hp=>⟨rs,a.ac hp,b,λi r l d e=>E.loc (c i r l d e) hp⟩,λ⟨rs,a,b,c⟩ hq=>⟨rs,a.mono hq,b,λi r l d e=>E.mono (c i r l d e) hq⟩⟩
def agQ{α β:Type}(E:iW α β)(P:α->β->Prop):iW α β:=⟨λh q a b=>E.p h q a b/\P a b,λa d=>⟨E.loc a.1 d,a.2⟩,λa c=>⟨E.mono a.1 c,a.2⟩⟩
def EA{α β:Type}(E:iW α β)(a:α)(b:β):HP:=⟨λh q=>E.p h q a b,λx d=>E.loc x d,λx c=>E.mono x c⟩
abbrev eu{α β:Type}(E:iW α β)(h:f7)(a:α)(b:β):Prop:=E.p h (λb=>b<h.size) a b
def bV{α β:Type}(e:TypeId)(s:Sl)(k:Nat)(f:α->aT)(E:iW α β)(m:List β):HP:=
 ⟨λh q=>∃(rs:List α) (j:av),Own h e s k f rs/\(∀b,s.on b->q b/\¬j b)/\(∀b,j b->q b)/\rs.length=hY m/\∀(i:Nat) r l,rs[i]?=dB r->m[i]?=dB l->E.p h j r l,
  λ⟨rs,j,a,b,c,d,e⟩ hp=>⟨rs,j,a.ac hp λx g=>(b x g).1,b,c,d,λi r l n o=>E.loc (e i r l n o) (hp.mono λx _ g=>c x g)⟩,
  λ⟨rs,j,a,b,c,d,e⟩ hq=>⟨rs,j,a,λx g=>⟨hq x (b x g).1,(b x g).2⟩,λx g=>hq x (c x g),d,e⟩⟩
variable {β:Type} {b:β}
section
variable {E:iW α β} {ll:List β} {a:α}
theorem eu.up(x:eu E h a b)(c:aS (λb=>b<h.size) h h'):eu E h' a b:=E.mono (E.loc x c) λ_ d=>qY d c.1
theorem bN.kN(x:(bN E k f).p h q s ll):∃rs:List α,Seq h q s k f rs/\rs.length=hY ll/\∀(i:Nat) (d:i<hY rs) (e:i<hY ll),E.p h q rs[i] ll[i]:=by obtain⟨rs,a,b,c⟩:=x;exact⟨rs,a,b,λi d e=>c i _ _ (qc d) (qc e)⟩
theorem bN.len(x:(bN E k f).p h q s ll):s.len=hY ll:=by obtain⟨rs,a,b,c⟩:=x;rw[a.len,b]
theorem bN.nil(h:f7)(q:av)(a:bD)(c:Nat):(bN E k f).p h q ⟨a,0,c⟩ []:=⟨[],Seq.nil h q c a k f,hZ,λi r l b=>by simp at b⟩
theorem bN.take(x:(bN E k f).p h q s ll)(n:Nat)(j:n<=hY ll):(bN E k f).p h q ⟨s.ptr,n,s.cap⟩ (ll.take n):=by
 obtain⟨rs,a,b,c⟩:=x;refine⟨rs.take n,a.take n ii,mn,λi r l d e=>?_⟩;rw[vi]at d e;split at d
 .rename_i g;rw[f8 g]at e;exact c i r l d e
 .cases d
theorem bN.get{X:Type}{g:X->eR}(x:(bN E 1 f).p h q s ll){i:Int}(n:Nat)(d:i=n)(e:n<hY ll)(u:α->X)(j:∀r,f r=[g (u r)]){K:X->Prop}(c:∀r,E.p h q r ll[n]->K (u r)):
  ∃a:eS,(s.ptr=dB a/\0<=i/\i<((s.len:Nat):Int))/\∃x:X,eX h (a.add (i.toNat*1))=dB (g x)/\K x:=by
 obtain⟨rs,b,k,h3⟩:=bN.kN x;exact b.bo n d ii (u (rs[n]'ii)) (j _) (c _ (h3 n ii e))
theorem bN.nY{E:iW Sl β}(x:(bN E 1 bn).p h q s ll){i:Int}(n:Nat)(d:i=n)(c:n<hY ll){K:Sl->Prop}(b:∀r,E.p h q r ll[n]->K r):
  ∃a:eS,(s.ptr=dB a/\0<=i/\i<((s.len:Nat):Int))/\∃x:Sl,eX h (a.add (i.toNat*1))=dB (.slice x.ptr x.len x.cap)/\K x:=
 bN.get (g:=λr:Sl=>Value.slice r.ptr r.len r.cap) x n d c id (λ_=>rfl) b
theorem bN.tofe{γ:Type}{d:Nat}{g:γ->aT}{l:List (List γ)}(x:eu (bN (cz d g) 1 bn) h s l):fe h s d g l:=by obtain⟨rs,a,b,c⟩:=x;exact⟨rs,a,b,c⟩
theorem bN.impl{α':Type}{e:Type}{E':iW α e}(u:β->e)(j:∀{h q a b},E.p h q a b->E'.p h q a (u b))(x:(bN E k f).p h q s ll):(bN E' k f).p h q s (ll.map u):=by
 obtain⟨rs,a,b,c⟩:=x;refine⟨rs,a,mn,λi r l g d=>?_⟩;rw[qO]at d;cases h3:ll[i]? with
 |none=>rw[h3]at d;cases d
 |some y=>rw[h3]at d;simp at d;subst d;exact j (c i r y g h3)
end
section
variable {E:iW α β} {C:Ctx} {e:Nat} {B:av} {ll:List β}
theorem aa.th(H:aa B h0 h As)(e k:Nat)(f:α->aT)(E:iW α β):aa B h0 h (As++[bV e ⟨et,0,0⟩ k f E []]):=
 H.comp (.one (aS.refl _ _) ⟨[],λ_=>False,Own.nil h e k f,λb a=>(by obtain⟨o,a⟩:=a;cases a),λ_ a=>a.elim,rfl,λi r l h=>l6⟩)
theorem aa.LH(H:aa B h0 h As)(i:Nat)(m:As[i]?=dB (bV e s k f E ll))(n:∀x,hY (f x)=k):eu (bN E k f) h s ll:=by obtain⟨rs,p,a,b,c,d,e⟩:=H.at i m;exact⟨rs,a.seq n λx j=>(b x j).1,d,λi r l g o=>E.mono (e i r l g o) c⟩
theorem aa.KF(H:aa B h0 h As)(i:Nat)(m:As[i]?=dB (bV e s k f E ll))(n:∀x,hY (f x)=k):aa B h0 h (As.set i (EA (bN E k f) s ll)):=
 H.eW i m λq ⟨rs,p,a,b,c,d,e⟩=>⟨rs,a.seq n λx j=>(b x j).1,d,λi r l g o=>E.mono (e i r l g o) c⟩
theorem aa.eAt{a:α}{b:β}(H:aa B h0 h As)(i:Nat)(c:As[i]?=dB (EA E a b)):eu E h a b:=H.at i c
theorem aa.Oo(H:aa B h0 h As)(i:Nat)(g:As[i]?=dB (bV e s k f E ll)):s.len=hY ll/\s.len<=s.cap:=by obtain⟨rs,j,a,b,c,d,e⟩:=H.at i g;exact⟨by rw[a.len,d],a.cap⟩
theorem aa.nH(hC:C.Ok)(H:aa B h0 h As)(i j:Nat)(A:i≠j){a:α}{b:β}(Y:As[i]?=dB (bV e s k f E ll))(hj:As[j]?=dB (EA E a b))(he:bL C.toBH t e k z by_)(hz:hY z=k)(X:0<by_/\by_<=128)(hw:∀x,hY (f x)=k)
  (S:∀x,∀c∈f x,c.oneCell'=ez) {parts:Array (Nat×eR)} (M:wK (λi=>dB (i*k,k)) (jh z 1).toArray parts.toList=dB ([a].flatMap f).toArray) (W:1*k<=2^20)
  (ab:hY ll+1<=2^32) {ty:Nat} {K:Sl->f7->Prop} (hk:∀T h',aa B h0 h' ((As.set j emp).set i (bV e T k f E (ll++[b])))->K T h'):
  bx C.P (zO t 1 parts) (.one (.sc .slc)) h λv y=>bx C.P (zA #[t,t] ty #[.slice s.ptr s.len s.cap,.slice v.ptr v.len v.cap]) (.one (.sc .slc)) y K:=by
 have H2:=H.merge i j A Y hj (D:=⟨λh q=>∃(rs:List α) (g:av),Own h e s k f rs/\(∀b,s.on b->q b/\¬g b)/\(∀b,g b->q b)/\rs.length=hY ll/\(∀(i:Nat) r l,rs[i]?=dB r->ll[i]?=dB l->E.p h g r l)/\E.p h g a b,
  λ⟨rs,g,a,b,c,d,e,f⟩ hp=>⟨rs,g,a.ac hp λx n=>(b x n).1,b,c,d,λi r l y G=>E.loc (e i r l y G) (hp.mono λx _ n=>c x n),E.loc f (hp.mono λx _ n=>c x n)⟩,
  λ⟨rs,g,a,b,c,d,e,f⟩ hq=>⟨rs,g,a,λx n=>⟨hq x (b x n).1,(b x n).2⟩,λx n=>hq x (c x n),d,e,f⟩⟩)
  (λg q2 hd hA hB=>by
   obtain⟨rs,q3,a,b,c,d,e'⟩:=hA;refine⟨rs,λb=>q3 b∨q2 b,a,λx n=>⟨.inl (b x n).1,λO=>O.elim (b x n).2 (hd x (b x n).1)⟩,λx n=>n.elim (λh=>.inl (c x h)) .inr,d,λi r l y G=>E.mono (e' i r l y G) λ_ h=>.inl h,E.mono hB λ_ h=>.inr h⟩)
 have u:i<hY As:=(qk.1 Y).1;obtain⟨lo,pp,c,zz,ax⟩:=H2;have ha:=ax i _ (by rw[zG (Ne.symm A),zj u]);obtain⟨rs,g,a1,a2,a3,a4,a5,a6⟩:=ha;let Z:Nat->Nat:=λb=> @ite _ (g b) (Classical.propDecidable _) (hY As+2) (c b);have L:∀b,g b->b<h.size/\c b=i+1:=a3;have ho:dT h Z (i+1) e s k f rs:=⟨a1,λb m=>by
  have:=a2 b m;show @ite _ (g b) (Classical.propDecidable _) _ _=_;rw[f9 this.2];exact this.1.2⟩
 refine ho.push hC he hz X hw S a M W ii λT h' F J=>hk T h' ?_;rw[vN _ _ (Ne.symm A)];rw[<-yz (l:=As) (i:=i),vN _ _ A];have N:∀b,g b->Z b≠i+1:=λb m=>by
  show @ite _ (g b) (Classical.propDecidable _) _ _≠_;rw[f8 m];omega
 refine aa.Co lo pp zz ax (J.mono λb m hn hc=>hn ⟨m,?_⟩) ⟨rs++[a],λb=>g b/\b<h.size,F.own,λb m=>?_,λb m=>⟨qY m.2 J.1,.inl ⟨m.2,(L b m.1).2⟩⟩,by simp[a4],λU r' l' y G=>?_⟩
 .by_cases I:g b
  .exact(L b I).2
  .have w:@ite _ (g b) (Classical.propDecidable _) (hY As+2) (c b)=i+1:=hc;rw[f9 I]at w;exact w
 .have o:=F.bp b m;by_cases u:b<h.size
  .rw[hO u]at o;have Q:¬g b:=λI=>N b I o;have w:@ite _ (g b) (Classical.propDecidable _) (hY As+2) (c b)=i+1:=o;rw[f9 Q]at w;exact⟨⟨F.own.lt m,.inl ⟨u,w⟩⟩,λO=>Q O.1⟩
  .exact⟨⟨F.own.lt m,.inr ii⟩,λO=>u O.2⟩
 .have R:∀{rr:α} {l:β},E.p h g rr l->E.p h' (λb=>g b/\b<h.size) rr l:=λhs=>
   E.loc (E.mono hs (q':=λb=>g b/\b<h.size) λb m=>⟨m,(L b m).1⟩) (J.mono λb _ m=>N b m.1)
  by_cases V:U<hY rs
  .rw[ql V]at y;rw[ql ii]at G;exact R (a5 U r' l' y G)
  .have:U=hY rs:=by have:=(qk.1 y).1;simp at this;omega
   subst this;simp at y;rw[a4]at G;simp at G;subst y;subst G;exact R a6
theorem aa.ajd{N:TI}(Z:C.Ok)(H:aa B h0 h As)(i j:Nat)(y:i≠j){a:α}{b:β}(O:As[i]?=dB (bV e s k f E ll))(R:As[j]?=dB (EA E a b))(hw:∀x,hY (f x)=k)(W:C.T.get t=dB N){x:Int}(n:Nat)(g:x=n)(hn:n<hY ll){I:eR}(hv:I.cells=(f a).toArray)(L:N.size=k)
  (G:(f a).all (·.oneCell')=ez) {K:f7->Prop} (hk:∀h',aa B h0 h' ((As.set j emp).set i (bV e s k f E (ll.set n b)))->K h'):
  ∃a:eS,(s.ptr=dB a/\0<=x/\x<((s.len:Nat):Int))/\au C.P (qH t (.pointer (dB (a.add (x.toNat*k)))) I) h λ_ h'=>K h':=by
 have U:=H.merge i j y O R (D:=⟨λh q=>∃(rs:List α) (m:av),Own h e s k f rs/\(∀b,s.on b->q b/\¬m b)/\(∀b,m b->q b)/\rs.length=hY ll/\(∀(i:Nat) r l,rs[i]?=dB r->ll[i]?=dB l->E.p h m r l)/\E.p h m a b,
  λ⟨rs,m,a,b,c,d,e,f⟩ hp=>⟨rs,m,a.ac hp λx g=>(b x g).1,b,c,d,λi r l o u=>E.loc (e i r l o u) (hp.mono λx _ g=>c x g),E.loc f (hp.mono λx _ g=>c x g)⟩,
  λ⟨rs,m,a,b,c,d,e,f⟩ hq=>⟨rs,m,a,λx g=>⟨hq x (b x g).1,(b x g).2⟩,λx g=>hq x (c x g),d,e,f⟩⟩)
  (λm X hd hA hB=>by
   obtain⟨rs,q3,a,b,c,d,e'⟩:=hA;refine⟨rs,λb=>q3 b∨X b,a,λx g=>⟨.inl (b x g).1,λhh=>hh.elim (b x g).2 (hd x (b x g).1)⟩,λx g=>g.elim (λh=>.inl (c x h)) .inr,d,λi r l o u=>E.mono (e' i r l o u) λ_ h=>.inl h,E.mono hB λ_ h=>.inr h⟩)
 have M:i<hY As:=(qk.1 O).1;obtain⟨lo,pp,c,S,ax⟩:=U;have ha:=ax i _ (by rw[zG (Ne.symm y),zj M]);obtain⟨rs,m,Y,J,a3,a4,a5,V⟩:=ha;refine Y.set Z hw W n g ii a hv L G λh' z w _=>hk h' ?_;rw[vN _ _ (Ne.symm y)];rw[<-yz (l:=As) (i:=i),vN _ _ y];have keep:∀{Q:α} {l:β},E.p h m Q l->E.p h' m Q l:=λhs=>E.loc hs (w.mono λb _ v F=>(J b F).2 v);refine aa.Co lo pp S ax (w.mono λb _ v F=>v (J b F).1) ⟨rs.set n a,m,z,λb v=>⟨⟨qY (J b v).1.1 w.1,.inl (J b v).1⟩,(J b v).2⟩,λb v=>⟨qY (a3 b v).1 w.1,.inl (a3 b v)⟩,by simp[a4],λi' r' l' o u=>?_⟩;rw[qW]at o u;split at o
 .rename_i A;rw[f8 A]at u;split at o
  .injection o with o;subst o
   have e:l'=b:=by rw[f8 ii]at u;exact(zX.inj u).symm
   subst e;exact keep V
  .cases o
 .rename_i A;rw[f9 A]at u;exact keep (a5 i' r' l' o u)
end
section
variable {E:iW α β} {e:Nat} {B:av}
theorem aa.agR(H:aa B h0 h As)(i j:Nat)(d:i≠j){a:α}{b:β}(q:As[i]?=dB (an e s k f [a]))(o:As[j]?=dB (EA E a b)):aa B h0 h ((As.set i (bV e s k f E [b])).set j emp):=
 H.merge i j d q o λw p v g u=>⟨[a],p,g.1,λx m=>⟨.inl (g.2 x m),v x (g.2 x m)⟩,λ_ t=>.inr t,hZ,λi r l c n=>by
  cases i with
  |succ i=>simp at c
  |zero=>simp at c n;subst c;subst n;exact u⟩
theorem aa.Aq{α:Type}{f:α->aT}{l:List α}(H:aa B h0 h As)(i:Nat)(b:As[i]?=dB (an e s k f l))(c:∀x,hY (f x)=k):aa B h0 h (As.set i (EA (cz k f) s l)):=H.eW i b λ_ a=>a.1.seq c a.2
end
variable {e2:Nat}
section
variable {B:av} {e:Nat}
theorem aa.aeZ(H:aa B h0 h (As++(an e s 1 bn rs::bw e2 k f rs ll)))(A:hY rs=hY ll)(E:∀x,hY (f x)=k)(n:Nat)(J:n<=hY ll):aa B h0 h (As++[bV e ⟨s.ptr,n,s.cap⟩ 1 bn (cz k f) (ll.take n)]):=by
 classical
 obtain⟨G,p,c,z,a⟩:=H;refine⟨G,p,λb=>if c b>hY As then As.length+1 else c b,λb d=>?_,λj X g=>?_⟩
 .have:=z b d;dsimp only;rw[f9 ii];exact this
 .by_cases o:j<hY As
  .rw[ql o]at g;refine X.mono (a j X (by rw[ql o];exact g)) λb d=>⟨d.1,?_⟩
   dsimp only;rw[f9 ii];exact d.2
  .rw[qi ii]at g;have v:j=hY As:=by have:=(qk.1 g).1;simp at this;omega
   subst v;simp at g;subst g;have w:=a As.length (an e s 1 bn rs) (by rw[qi (qm _)];simp);refine⟨rs.take n,λb=>b<h.size/\c b>hY As+1,w.1.cut (λ_=>rfl) n ii,λb d=>?_,λb d=>?_,by simp[A],λi r l m h3=>?_⟩
   .have u:=w.2 b d;refine⟨⟨u.1,?_⟩,λK=>ii⟩;dsimp only;rw[f8 ii]
   .refine⟨d.1,?_⟩;dsimp only;rw[f8 ii]
   .rw[vi]at m h3;split at m
    .rename_i t;rw[f8 t]at h3;have y:i<hY ll:=(qk.1 h3).1;have I:=iw (e:=e2) (k:=k) (f:=f) A i y;have q:=a (hY As+(i+1)) _ (by rw[qi ii];simpa using I);have D:rs[i]'ii=r:=by rw[qc ii]at m;simpa using m
     have F:ll[i]=l:=by rw[qc y]at h3;simpa using h3
     rw[D,F]at q;exact q.1.seq E λb d=>⟨(q.2 b d).1,by have:=(q.2 b d).2;omega⟩
    .cases m
theorem aa.NF{s:Sl}{a:List (List α)}(H:aa B h0 h As)(i:Nat)(c:As[i]?=dB (gK e s k f a)):aa B h0 h (As.set i (bV e s 1 bn (cz k f) a)):=H.eW i c λ_ b=>b
end
theorem LI{h h':f7}{p:av}(a:aS p h h'):∀{L:bR},L.ok h->(∀x∈L,p x.1.block)->L.ok h'
 |[],_,_=>trivial
 |x::L,hk,hq=>⟨a.cell (hq x i6) hk.1,LI a hk.2 λy b=>hq y mn⟩
theorem jW{h h':f7}(d:aS (λb=>b<h.size) h h'){L:bR}(c:L.ok h):L.ok h':=LI d c (by
 clear d
 induction L with
 |nil=>intro x a;cases a
 |cons y L ih=>
  intro x a;rcases qT.1 a with rfl|a
  .exact tK c.1
  .exact ih c.2 x a)
theorem bx.both{P:Program}{s:Sem eR}{h:f7}{K:Sl->f7->Prop}{Q:f7->Prop}(d:bx P s (.one (.sc .slc)) h λ_ h'=>Q h')(e:bx P s (.one (.sc .slc)) h K):bx P s (.one (.sc .slc)) h λx h'=>Q h'/\K x h':=by intro w c;obtain⟨m,n,b,f,j,a3,a4⟩:=d w c;obtain⟨k,l,a,o,x2,i,g⟩:=e w c;rw[b]at a;cases a;exact⟨_,_,b,f,x2,i,a4,g⟩
theorem aa.oX{α:Type}{B:av}{C:Ctx}{p h:f7}{As:List HP}{e t k b:Nat}{z:aT}{K:Sl->f7->Prop}(o:C.Ok)(H:aa B p h As)(f:α->aT)(q:bL C.toBH t e k z b)(d:hY z=k){n:Nat}{parts:Array (Nat×eR)}(l:List α)(g:hY l=n)(c:n*k<=2^20)
  (a:wK (λi=>dB (i*k,k)) (jh z n).toArray parts.toList=dB (l.flatMap f).toArray) {L:bR} (m:L.ok h) (j:bx C.P (zO t n parts) (.one (.sc .slc)) h K):
  bx C.P (zO t n parts) (.one (.sc .slc)) h λx h'=>L.ok h'/\K x h':=
 bx.both ((Sp.refl h).lit o f q d l g c a λ_ _ r=>jW r.ac m) j
section
variable {B:av} {Bs:List HP} {A:HP} {i:Nat}
theorem aa.front(H:aa B h0 h (As++Bs)):aa B h0 h (Bs++As):=
 H.pick (λj=>if j<hY Bs then As.length+j else if j<hY Bs+hY As then j-hY Bs else j)
  (λa b c=>j3) λj X d=>by
  try dsimp only
  split
  .rename_i e;rw[ql e]at d;rw[qi ii,zl];exact d
  .rename_i e;rw[qi ii]at d;have:=(qk.1 d).1;rw[f8 ii,ql this];exact d
theorem aa.aZ(H:aa B h0 h (As++[A])):aa B h0 h (A::As):=H.front
theorem aa.ci(H:aa B h0 h As)(R:Sp h h' [A]):aa B h0 h' (A::As):=(H.comp R).aZ
theorem aa.oz(H:aa B h0 h (A::As)):aa B h0 h As:=H.rest
theorem aa.pC(H:aa B h0 h (A::D::As)):aa B h0 h (A::As):=H.del 1
theorem aa.pD{ι:Type}{F:ι->HP}(H:aa B h0 h (HP.ex F::As)):∃x,aa B h0 h (F x::As):=H.UU 0 hZ
theorem aa.uF{ι:Type}{F:ι->HP}(x:ι)(H:aa B h0 h (F x::As)):aa B h0 h (HP.ex F::As):=H.close' 0 x hZ
theorem aa.mD(H:aa B h0 h (A.sep D::As)):aa B h0 h (D::A::As):=(H.split 0 hZ).aZ
theorem aa.jw(H:aa B h0 h (D::A::As)):aa B h0 h (A.sep D::As):=by have a:aa B h0 h (emp::A.sep D::As):=H.join 1 0 i0 hZ hZ;exact a.rest
theorem aa.ie(H:aa B h0 h (A::D::As)):aa B h0 h (D::A::As):=H.adQ 0 1 hZ hZ
end
theorem Seq.mQ{h:f7}{p:av}{s:Sl}{rs:List Sl}(c:Seq h p s 1 bn rs){i:Int}(n:Nat)(e:i=n)(d:n<hY rs){K:Sl->Prop}(b:K rs[n]):
  ∃a:eS,(s.ptr=dB a/\0<=i/\i<((s.len:Nat):Int))/\∃x:Sl,eX h (a.add (i.toNat*1))=dB (.slice x.ptr x.len x.cap)/\K x:=
 c.bo (g:=λr:Sl=>Value.slice r.ptr r.len r.cap) n e d rs[n] hZ b
def St(B:av)(a:f7)(As:List HP)(Q:f7->Prop):Prop:=∀(Bs:List HP) (h':f7),aa B a h' (Bs++As)->Q h'
variable {Q:f7->Prop}
section
variable {B:av} {Bs:List HP} {A:HP}
theorem St.at(x:St B h0 As Q)(Bs:List HP)(H:aa B h0 h (Bs++As)):Q h:=x Bs h H
theorem St.base(b:Q h0)(a:∀h',aS B h0 h'->Q h'):St B h0 As Q:=λ_ _ H=>a _ H.ac
theorem St.ey(j:Nat)(a:As[j]?=dB A)(c:∀h',A.p h' (λb=>b<h'.size)->Q h'):St B h0 As Q:=λBs h' H=>c _ (H.at (hY Bs+j) (by rw[qi ii,zl];exact a))
theorem St.cons(x:St B h0 As Q):St B h0 (A::As) Q:=λBs h' H=>x (Bs++[A]) h' (by rw[qn];exact H)
end
section
variable {E:iW Sl β} {ll:List β}
theorem bN.aje(x:(bN E 1 bn).p h q s ll){i:Int}(n:Nat)(j:i=n)(g:n<hY ll){K:Sl->Prop}(k:∀(a:eS) (r:Sl),s.ptr=dB a->eX h (a.add (n*1))=dB (.slice r.ptr r.len r.cap)->E.p h q r ll[n]->K r):
  ∃a:eS,(s.ptr=dB a/\0<=i/\i<((s.len:Nat):Int))/\∃x:Sl,eX h (a.add (i.toNat*1))=dB (.slice x.ptr x.len x.cap)/\K x:=by
 subst j;obtain⟨rs,c,m,h3⟩:=bN.kN x;obtain⟨b,o,e,e2,l⟩:=c.elem n (rs[n]'ii) (qc ii);have f:=l.1;rw[add_eq,wE]at f;have d:eX h ((⟨b,o,et⟩:eS).add (n*1))=dB (.slice (rs[n]'ii).ptr (rs[n]'ii).len (rs[n]'ii).cap):=by rw[add_eq];exact f
 refine⟨_,⟨e,ii,by rw[c.len];omega⟩,rs[n]'ii,by rw[qj];exact d,k _ _ e d (h3 n ii g)⟩
theorem bN.pick(x:(bN E 1 bn).p h q s ll)(n:Nat)(i:n<hY ll){a:eS}{r:Sl}(k:s.ptr=dB a)(j:eX h (a.add (n*1))=dB (.slice r.ptr r.len r.cap)):E.p h q r ll[n]:=by
 obtain⟨rs,g,t,h3⟩:=bN.kN x;obtain⟨b,o,d,e2,l⟩:=g.elem n (rs[n]'ii) (qc ii);rw[k]at d;injection d with d
 subst d;have f:=l.1;rw[add_eq,wE]at f;have c:eX h ((⟨b,o,et⟩:eS).add (n*1))=dB (.slice (rs[n]'ii).ptr (rs[n]'ii).len (rs[n]'ii).cap):=by rw[add_eq];exact f
 rw[j]at c;have e:=h3 n ii i;generalize rs[n]'ii=r' at c e;obtain⟨v,l1,w⟩:=r;obtain⟨m,l2,u⟩:=r';simp at c;obtain⟨rfl,rfl,rfl⟩:=c;exact e
end
theorem Ec{α:Type}{l:List α}(f:l.Nodup){a b:Nat}(d:a<hY l)(e:b<hY l)(h:l[a]=l[b]):a=b:=by
 have c:=zq.1 f;rcases yj a b with hlt|he|hgt
 .exact absurd h (c a b d e hlt)
 .exact he
 .exact absurd h.symm (c b a e d hgt)
theorem aa.bt{B:av}{k h:f7}{As:List HP}(H:aa B k h As)(L:List Nat)(g:∀j∈L,j<hY As:=by simp)(m:L.Nodup:=by decide):aa B k h (L.map λj=>As.getD j emp):=by
 refine H.pick (λi=>if h:i<hY L then L[i]else As.length+i) (λa b c=>?_) λi A2 e=>?_
 .try dsimp only at c
  split at c<;>split at c
  .exact Ec m _ _ c
  .have:=g _ (qf (l:=L) (n:=a) ol);omega
  .have:=g _ (qf (l:=L) (n:=b) ol);omega
  .omega
 .try dsimp only
  rw[qO]at e;split
  .rename_i d;rw[qc d]at e;have f:=g _ (qf d);simp only[qS,zX.injEq]at e;rw[<-e,qd,qc f];rfl
  .rename_i d;rw[qJ ii]at e;simp at e
theorem St.mk'{B:av}{a:f7}{As:List HP}{Q:f7->Prop}(x:∀h',aa B a h' As->Q h'):St B a As Q:=λBs h' H=>x h' (H.take Bs.length λi A b=>by
 rw[qi ii,zl];exact b)
theorem St.here{B:av}{a h:f7}{As:List HP}{Q:f7->Prop}(x:St B a As Q)(H:aa B a h As):Q h:=x [] h H
theorem St.mono{B:av}{b:f7}{As:List HP}{Q a:f7->Prop}(x:St B b As Q)(c:∀h,Q h->a h):St B b As a:=λBs h' H=>c _ (x Bs h' H)
theorem aa.aJ{B:av}{m h:f7}{As:List HP}(H:aa B m h As)(k:Nat)(L:List Nat)(p:k<=hY As:=by simp)(f:∀j∈L,j<k:=by simp)(o:L.Nodup:=by decide):aa B m h (L.map (λj=>As.getD j emp)++As.drop k):=by
 refine H.pick (λi=>if h:i<hY L then L[i]else k+(i-hY L)) (λa b d=>?_) λi A2 e=>?_
 .try dsimp only at d
  split at d<;>split at d
  .exact Ec o _ _ d
  .have:=f _ (qf (l:=L) (n:=a) ol);omega
  .have:=f _ (qf (l:=L) (n:=b) ol);omega
  .omega
 .try dsimp only
  by_cases c:i<hY L
  .rw[dif_pos c];rw[ql l7,qO,qc c]at e;have g:=f _ (qf c);simp only[qS,zX.injEq]at e;rw[<-e,qd,qc ii];rfl
  .rw[dif_neg c];rw[qi l7,qu,wQ]at e;exact e
section
variable {E:iW α β} {C:Ctx} {e:Nat} {B:av} {rs:List α} {ll:List β}
def Fix(E:iW α β)(k:Nat)(f:α->aT)(h:f7)(q:av)(s:Sl)(rs:List α)(a:List β):Prop:=Seq h q s k f rs/\rs.length=hY a/\∀(i:Nat) r l,rs[i]?=dB r->a[i]?=dB l->E.p h q r l
theorem Fix.ac(x:Fix E k f h q s rs ll)(a:aS q h h'):Fix E k f h' q s rs ll:=⟨x.1.ac a,x.2.1,λi r l b c=>E.loc (x.2.2 i r l b c) a⟩
theorem Fix.mono{q':av}(x:Fix E k f h q s rs ll)(a:∀b,q b->q' b):Fix E k f h q' s rs ll:=⟨x.1.mono a,x.2.1,λi r l c d=>E.mono (x.2.2 i r l c d) a⟩
abbrev oh(E:iW α β)(k:Nat)(f:α->aT)(h:f7)(s:Sl)(rs:List α)(a:List β):Prop:=Fix E k f h (λb=>b<h.size) s rs a
theorem oh.up(x:oh E k f h s rs ll)(a:aS (λb=>b<h.size) h h'):oh E k f h' s rs ll:=(Fix.ac x a).mono λ_ c=>qY c a.1
theorem Fix.row(x:Fix E k f h q s rs ll){i:Nat}(a:i<hY ll):E.p h q (rs[i]'(by rw[x.2.1];exact a)) ll[i]:=x.2.2 i _ _ (qc _) (qc _)
theorem bN.fix(x:(bN E k f).p h q s ll):∃rs,Fix E k f h q s rs ll:=x
theorem Fix.elt(x:Fix E k f h q s rs ll):(bN E k f).p h q s ll:=⟨rs,x⟩
def dI(E:iW α β)(k:Nat)(f:α->aT)(s:Sl)(rs:List α)(a:List β):HP:=⟨λh q=>Fix E k f h q s rs a,λx c=>x.ac c,λx b=>x.mono b⟩
theorem aa.Hr(H:aa B h0 h As)(i:Nat)(m:As[i]?=dB (bV e s k f E ll))(u:∀x,hY (f x)=k):∃rs,aa B h0 h (As.set i (dI E k f s rs ll)):=by
 have g:i<hY As:=(qk.1 m).1;have p:aa B h0 h (As.set i (HP.ex λrs=>dI E k f s rs ll)):=H.eW i m λq ⟨rs,v,a,b,c,d,e⟩=>⟨rs,a.seq u λx o=>(b x o).1,d,λi r l n t=>E.mono (e i r l n t) c⟩
 obtain⟨rs,j⟩:=p.UU i (zj g);exact⟨rs,by rw[yz]at j;exact j⟩
theorem aa.eC(H:aa B h0 h As)(i:Nat)(a:As[i]?=dB (dI E k f s rs ll)):oh E k f h s rs ll:=H.at i a
theorem aa.Ed(f:C.Ok)(H:aa B h0 h As)(e:C.T.get t=dB ti){K:eS->f7->Prop}(d:∀a h',aS (λb=>b<h.size) h h'->aa B h0 h' (As++[aj a t ti.zero])->K a h'):
  pB C.P (yQ t ez (.tuple #[])) h K:=
 Ao f e λa h' x y c _=>d a h' (c.mono λ_ _ _=>trivial) (H.comp (KD x y c))
theorem aa.IN(v:C.Ok)(H:aa B h0 h As)(f:α->aT)(D:bL C.toBH t e k z by_)(i:0<by_/\by_<=128)(g:α)(A:f g=z)(j:hY z=k){q r:IntKind}{n p:Int}(m c:Nat)(s:n=m)(u:p=c)(l:m<=c)(d:c<=2^32)
  {K:Sl->f7->Prop} (E:∀a h',a.len=m->aS (λb=>b<h.size) h h'->aa B h0 h' (As++[an e a k f (qg m g)])->K a h'):
  bx C.P (zD t (.int q n) (.int r p)) (.one (.sc .slc)) h K:=
 run_make v D i g A j m c s u l d λa h' x y w o _=>E a h' (by rw[x.len];simp) (o.mono λ_ _ _=>trivial) (H.comp (KC hZ x y o))
end
section
variable {C:Ctx} {B:av} {e:Nat}
theorem Own.abr(G:C.Ok)(v:Own h e s k f l)(A:∀x,hY (f x)=k)(F:C.T.get t=dB i){x:Int}(n:Nat)(B:x=n)(u:n<hY l)(j:Nat)(vs:aT)(M:j+hY vs<=k){o:eR}(y:α)(I:o.cells=vs.toArray)(r:i.size=hY vs)
  (m:vs.all (·.oneCell')=ez) (E:f y=(f l[n]).take j++vs++(f l[n]).drop (j+hY vs)) {K:f7->Prop} (J:∀h',Own h' e s k f (l.set n y)->aS (λb=>¬s.on b) h h'->K h'):
  ∃a:eS,(s.ptr=dB a/\0<=x/\x<((s.len:Nat):Int))/\au C.P (qH t (.pointer (dB ((a.add (x.toNat*k)).add j))) o) h λ_ h'=>K h':=by
 subst B;rcases v.head with⟨_,_,h3⟩|⟨b,rest,h1,h2,h3,h4⟩
 .subst h3;simp at u
 .refine⟨_,⟨h1,ii,by rw[v.len];omega⟩,?_⟩;unfold qH;refine au.bind (au.pure' ?_);unfold storeVar;refine au.bind (au.always (eK G.toOk F) ?_);rw[I,r];simp only[wY,ne_eq,not_true,if_false];rw[add_eq,add_eq,zY,qj];have g:l=l.take n++l[n]::l.drop (n+1):=by rw[<-qL u,qC]
  have q:l.set n y=l.take n++y::l.drop (n+1):=yf.trans (f8 u);have p:hY ((l.take n).flatMap f)=n*k:=by rw[dm A,qR,wz ii]
  have L:=A l[n];have d:f l[n]=(f l[n]).take j++((f l[n]).drop j).take vs.length++(f l[n]).drop (j+hY vs):=by rw[qn,<-zN,qC,qC]
  refine fc (e:=e) (pre:=(l.take n).flatMap f++(f l[n]).take j) (old:=((f l[n]).drop j).take vs.length) (post:=(f l[n]).drop (j+hY vs)++((l.drop (n+1)).flatMap f++rest)) ?_ ?_ ?_ ?_ ?_
  .have:l.flatMap f++rest=(l.take n).flatMap f++(f l[n]).take j++((f l[n]).drop j).take vs.length++((f l[n]).drop (j+hY vs)++((l.drop (n+1)).flatMap f++rest)):=by
    have w:=congrArg (List.flatMap f) g;rw[q9,zb]at w;rw[w];generalize f l[n]=z at d;rw[qn]at d;simp only[qn];congr 1
    conv=>lhs;rw[d]
    simp only[qn]
   rw[<-this];exact h2
  .simp;omega
  .rw[qw,p,qR];omega
  .intro c D;exact qK.1 m c D
  .refine J _ ⟨by rw[zE];exact v.len,.inr ⟨b,rest,h1,?_,h3,h4⟩⟩ (aS.jD h2 λH=>H ⟨0,h1⟩);rw[iA h2,f8 hZ,q,q9,zb,E];simp[qn]
theorem aa.abr(v:C.Ok)(H:aa B h0 h As)(g:Nat)(c:As[g]?=dB (an e s k f l))(A:∀x,hY (f x)=k)(u:C.T.get t=dB i){x:Int}(n:Nat)(p:x=n)(q:n<hY l)(j:Nat)(vs:aT)(o:j+hY vs<=k){d:eR}(y:α)(D:d.cells=vs.toArray)(m:i.size=hY vs)
  (b:vs.all (·.oneCell')=ez) (r:f y=(f l[n]).take j++vs++(f l[n]).drop (j+hY vs)) {K:f7->Prop} (E:∀h',aa B h0 h' (As.set g (an e s k f (l.set n y)))->K h'):
  ∃a:eS,(s.ptr=dB a/\0<=x/\x<((s.len:Nat):Int))/\au C.P (qH t (.pointer (dB ((a.add (x.toNat*k)).add j))) d) h λ_ h'=>K h':=
 (H.own g c).abr v A u n p q j vs o y D m b r λh' z w=>E h' (H.nG g c w z)
end
def HP.all:List HP->HP
 |[]=>emp
 |A::L=>A.sep (HP.all L)
variable {L:List HP}
section
variable {B:av} {A:HP}
theorem aa.lI:∀{L:List HP} {As:List HP},aa B h0 h (HP.all L::As)->aa B h0 h (L++As)
 |[],_,H=>H.rest
 |A::L,As,H=>by
  have e:aa B h0 h (HP.all L::A::As):=H.mD;have f:=aa.lI e;exact f.pick (λi=>if i=0 then L.length else if i<=hY L then i-1 else i) (λa b c=>j3) λi X d=>by
   try dsimp only
   rw[zu]at d;cases i with
   |zero=>simp at d;subst d;rw[f8 hZ,qi (qm _),qX];rfl
   |succ i=>
    rw[qq]at d;rw[f9 ii];by_cases g:i<hY L
    .rw[ql g]at d;rw[f8 ii,ql ii];simpa using d
    .rw[qi ii]at d;rw[f9 ii,qi ii];rw[show i+1-hY L=(i-hY L)+1 by omega,qq];exact d
theorem aa.closeAll:∀(L:List HP) {As:List HP},aa B h0 h (L++As)->aa B h0 h (HP.all L::As)
 |[],As,H=>((H.comp (.one (A:=emp) (aS.refl _ _) x7)).aZ:aa B h0 h (emp::As))
 |A::L,As,H=>by
  have g:aa B h0 h (L++(A::As)):=H.pick (λi=>if i<hY L then i+1 else if i=hY L then 0 else i) (λa b c=>j3) λi X d=>by
   try dsimp only
   by_cases e:i<hY L
   .rw[ql e]at d;rw[f8 e,zu,qq,ql e];exact d
   .rw[qi ii]at d;by_cases f:i=hY L
    .subst f;rw[qX]at d;rw[f9 ii,f8 rfl];simpa using d
    .rw[f9 e,f9 f,zu];obtain⟨j,rfl⟩:∃j,i=hY L+(j+1):=⟨i-hY L-1,ii⟩
     rw[zl,qq]at d;rw[show L.length+(j+1)=(hY L+j)+1 by omega,qq,qi ii,zl];exact d
  exact(aa.closeAll L g).jw
theorem aa.pE{P:Prop}(H:aa B h0 h (A.and P::As)):aa B h0 h (A::As)/\P:=⟨H.adR 0 hZ,H.fact 0 hZ⟩
theorem aa.topE{P:Prop}(H:aa B h0 h (A::As))(p:P):aa B h0 h (A.and P::As):=H.aiB 0 hZ p
end
def fy{α:Type}(e:TypeId)(s:Sl)(b:TypeId)(k:Nat)(f:α->aT)(a:List (List α)):HP:=
 HP.ex λrs:List Sl=>(HP.all (an e s 1 bn rs::bw b k f rs a)).and (hY rs=hY a)
section
variable {C:Ctx} {B:av} {e:Nat}
theorem aa.Ar(H:aa B h0 h (fy e s e2 k f ll::As)):∃rs:List Sl,hY rs=hY ll/\aa B h0 h ((an e s 1 bn rs::bw e2 k f rs ll)++As):=by obtain⟨rs,H⟩:=H.pD;obtain⟨H,a⟩:=H.pE;exact⟨rs,a,H.lI⟩
theorem aa.Ee{rs:List Sl}(a:hY rs=hY ll)(H:aa B h0 h ((an e s 1 bn rs::bw e2 k f rs ll)++As)):aa B h0 h (fy e s e2 k f ll::As):=
 ((aa.closeAll _ H).topE a).uF (F:=λrs:List Sl=>(HP.all (an e s 1 bn rs::bw e2 k f rs ll)).and (hY rs=hY ll)) rs
theorem aa.Bf(H:aa B h0 h As)(e a k:Nat)(f:α->aT):aa B h0 h (fy e ⟨et,0,0⟩ a k f []::As):=
 aa.Ee (rs:=[]) hZ ((H.nil e 1 bn).aZ)
theorem aa.Hs{Bs:List HP}(H:aa B h0 h (As++Bs)):aa B h0 h As:=H.pick id (λ_ _ h=>h) λi A a=>by
 rw[id,ql (qk.1 a).1];exact a
theorem aa.uG(H:aa B h0 h (fy e s e2 k f ll::As))(a:∀x,hY (f x)=k):fe h s k f ll:=by obtain⟨rs,b,H⟩:=H.Ar;exact aa.On (aa.Hs H) b a
theorem aa.tj(H:aa B h0 h (fy e s e2 k f ll::As)):s.len=hY ll/\s.len<=s.cap:=by obtain⟨rs,a,H⟩:=H.Ar;exact⟨by rw[(H.own 0 hZ).len,a],(H.own 0 hZ).cap⟩
theorem aa.Cp(i:C.Ok){r:Sl}{x:List α}(H:aa B h0 h (fy e s e2 k f ll::an e2 r k f x::As))(j:bL C.toBH t e 1 [.slice et 0 0] 24)(m:hY ll+1<=2^32){ty:Nat}{K:Sl->f7->Prop}
  (l:∀a h',aa B h0 h' (fy e a e2 k f (ll++[x])::As)->K a h'):
  bx C.P (zO t 1 #[(0,.slice r.ptr r.len r.cap)]) (.one (.sc .slc)) h λv d=>bx C.P (zA #[t,t] ty #[.slice s.ptr s.len s.cap,.slice v.ptr v.len v.cap]) (.one (.sc .slc)) d K:=by
 obtain⟨rs,c,H⟩:=H.Ar;refine H.push i 0 hZ j hZ i0 (λ_=>rfl) jH r hZ i0 ii λa h' b=>l a h' ?_;refine aa.Ee (rs:=rs++[r]) n8 ?_;rw[uE c];have b:aa B h0 h' (an e a 1 bn (rs++[r])::(bw e2 k f rs ll++an e2 r k f x::As)):=b;have g:an e a 1 bn (rs++[r])::(bw e2 k f rs ll++[an e2 r k f x])++As=an e a 1 bn (rs++[r])::(bw e2 k f rs ll++an e2 r k f x::As):=i6
 rw[g];exact b
theorem aa.ajf(H:aa B h0 h (fy e s e2 k f ll::As))(j:Nat)(o:j<=hY ll):aa B h0 h (fy e ⟨s.ptr,j,s.cap⟩ e2 k f (ll.take j)::As):=by
 obtain⟨rs,m,H⟩:=H.Ar;have H:=H.cut 0 hZ (λ_=>rfl) j ii;refine aa.Ee (rs:=rs.take j) (by simp[m]) ?_;have n:bw e2 k f (rs.take j) (ll.take j)=(bw e2 k f rs ll).take j:=by unfold bw;rw[List.take_zipWith]
 rw[n];have H:aa B h0 h (an e ⟨s.ptr,j,s.cap⟩ 1 bn (rs.take j)::(bw e2 k f rs ll++As)):=H;have g:=GF (e:=e2) (k:=k) (f:=f) m;refine H.pick (λi=>if i<=j then i else i+(hY ll-j)) (λa b c=>by(try dsimp only at c);split at c<;>split at c<;>omega) λi X d=>?_
 try dsimp only
 cases i with
 |zero=>rw[f8 ii];exact d
 |succ i=>
  rw[zu,qq]at d;by_cases l:i<j
  .rw[f8 ii,qq];rw[ql i5,List.getElem?_take_of_lt l]at d;rw[ql ii];exact d
  .rw[f9 ii,show i+1+(hY ll-j)=(i+(hY ll-j))+1 by omega,qq];rw[qi i5]at d;rw[qi ii];have:i-hY ((bw e2 k f rs ll).take j)=i+(hY ll-j)-hY (bw e2 k f rs ll):=by simp[g];omega
   rw[<-this];exact d
end
namespace Gf
theorem abs{p:UInt8->Prop}(h:∀n,n<256->p (yR n))(a:UInt8):p a:=by
 have:=h a.toNat (UInt8.toNat_lt a)
 rwa [UInt8.ofNat_toNat]at this
def x2(a:UInt8):UInt8:=(a<<<1)^^^(if a&&&0x80=0 then 0 else 0x1b)
def x3(a:UInt8):UInt8:=x2 a^^^a
def pw:Nat->UInt8
 |0=>1
 |n+1=>x3 (pw n)
theorem afa(a b c:UInt8):(a^^^b)&&&c=(a&&&c)^^^(b&&&c):=by apply UInt8.toBitVec_inj.1;simp[UInt8.toBitVec_xor,UInt8.toBitVec_and];ext i hi;simp[Bool.and_xor_distrib_right]
theorem afb(a b:UInt8):(a^^^b)<<<1=(a<<<1)^^^(b<<<1):=by apply UInt8.toBitVec_inj.1;simp[UInt8.toBitVec_xor,UInt8.toBitVec_shiftLeft,BitVec.shiftLeft_xor_distrib]
theorem Oq:∀a:UInt8,a&&&0x80=0∨a&&&0x80=0x80:=abs j0
theorem abt(a b c d:UInt8):(a^^^b)^^^(c^^^d)=(a^^^c)^^^(b^^^d):=by ac_rfl
theorem agS(a b:UInt8):x2 (a^^^b)=x2 a^^^x2 b:=by
 unfold x2;rw[afa,afb];rcases Oq a with ha|ha<;>rcases Oq b with hb|hb<;>rw[ha,hb]
 .simp
 .simp[UInt8.xor_assoc]
 .rw[abt];simp
 .rw[abt];simp
theorem agT(a b:UInt8):x3 (a^^^b)=x3 a^^^x3 b:=by unfold x3;rw[agS,abt]
def uH:Nat->UInt8->UInt8
 |0,a=>a
 |n+1,a=>x3 (uH n a)
theorem Tz(a b:UInt8):∀n,uH n (a^^^b)=uH n a^^^uH n b
 |0=>rfl
 |n+1=>by simp only[uH,Tz a b n,agT]
theorem KG(a:UInt8)(m:Nat):∀n,uH (n+m) a=uH n (uH m a)
 |0=>by simp[uH]
 |n+1=>by rw[Nat.add_right_comm];simp only[uH,KG a m n]
theorem Ot:∀n,uH n 0=0
 |0=>rfl
 |n+1=>by rw[uH,Ot n];rfl
theorem BJ:∀n,pw n=uH n 1
 |0=>rfl
 |n+1=>by rw[pw,uH,BJ n]
def ajg:Nat:=939374623831894136699086600277250597547650664638770418422125146541797353646788332867483593573384618611044815625336497665827114626705134492515730415652478061620339993830966980270842846318821775850471098591710629241171812800746666233448222972174585295916389942636813666312872914849454985560152530477328703759683306625234997237483834721220409437442253146756845415190424543171129629468776480674528486868811725071010351012234056630775688111116293610821126543142160426617079940511630006820862697466582575257349116925728488930366609138264019883664906661504235885380294353134295748489096855100647154935187045898006656778240
def lg(a:UInt8):Nat:=(ajg>>>(8*a.toNat))%256
theorem IP:∀a:UInt8,lg a<255:=abs j0
theorem UV:∀a:UInt8,a≠0->pw (lg a)=a:=abs j0
theorem UW:∀n,n<255->lg (pw n)=n:=j0
theorem agU:pw 255=1:=j0
theorem UX:∀n,n<255->pw n≠0:=j0
theorem XC(n:Nat):pw (n+255)=pw n:=by rw[BJ,KG,<-BJ 255,agU,<-BJ]
theorem XD(n:Nat):pw (n%255)=pw n:=by
 have:∀k m,pw (m+255*k)=pw m:=by
  intro k
  induction k with
  |zero=>intro m;rfl
  |succ k ih=>intro m;rw[Nat.mul_succ,<-wU,XC,ih]
 have h:=this (n/255) (n%255);rw[Nat.mod_add_div]at h;exact h.symm
def mul(a b:UInt8):UInt8:=if a=0∨b=0 then 0 else pw ((lg a+lg b)%255)
def inv(a:UInt8):UInt8:=if a=0 then 0 else pw ((255-lg a)%255)
theorem mul_zero(a:UInt8):mul a 0=0:=by simp[mul]
theorem zero_mul(a:UInt8):mul 0 a=0:=by simp[mul]
theorem mul_comm(a b:UInt8):mul a b=mul b a:=by
 unfold mul;rw[Nat.add_comm];by_cases h:a=0∨b=0
 .rw[f8 h,f8 h.symm]
 .rw[f9 h,f9 λx=>h x.symm]
theorem Ou(a b:UInt8)(d:a≠0):mul a b=uH (lg a) b:=by
 by_cases c:b=0
 .subst c;rw[mul_zero,Ot]
 .rw[mul,f9 (by simp[d,c]),XD,BJ,KG,<-BJ,UV b c]
theorem kG(a b c:UInt8):mul a (b^^^c)=mul a b^^^mul a c:=by
 by_cases d:a=0
 .subst d;simp[zero_mul]
 .rw[Ou _ _ d,Ou _ _ d,Ou _ _ d,Tz]
theorem TA(a b c:UInt8):mul (a^^^b) c=mul a c^^^mul b c:=by rw[mul_comm,kG,mul_comm c a,mul_comm c b]
theorem XE{a b:UInt8}(d:a≠0)(c:b≠0):mul a b≠0:=by rw[mul,f9 (by simp[d,c])];exact UX _ (y8 _ i0)
theorem XF{a b:UInt8}(d:a≠0)(c:b≠0):lg (mul a b)=(lg a+lg b)%255:=by rw[mul,f9 (by simp[d,c]),UW _ (y8 _ i0)]
theorem mul_assoc(a b c:UInt8):mul (mul a b) c=mul a (mul b c):=by
 by_cases f:a=0
 .subst f;simp[zero_mul]
 by_cases d:b=0
 .subst d;simp[zero_mul,mul_zero]
 by_cases e:c=0
 .subst e;simp[mul_zero]
 rw[mul,f9 (by simp[XE f d,e]),XF f d,mul,f9 (by simp[f,XE d e]),XF d e];congr 1;omega
theorem agV:lg 1=0:=j0
theorem one_mul(a:UInt8):mul 1 a=a:=by
 by_cases b:a=0
 .subst b;rfl
 .rw[mul,f9 mn,agV,zY,XD,UV a b]
theorem mul_one(a:UInt8):mul a 1=a:=by rw[mul_comm,one_mul]
theorem agW{a:UInt8}(b:a≠0):inv a≠0:=by rw[inv,f9 b];exact UX _ (y8 _ i0)
theorem KH{a:UInt8}(b:a≠0):mul a (inv a)=1:=by
 have c:=IP a;rw[mul,f9 (by simp[b,agW b]),inv,f9 b,UW _ (y8 _ i0)];have:(lg a+(255-lg a)%255)%255=0:=ii
 rw[this];rfl
end Gf
structure Pow where
 off:Bool
 fuse:Option Nat
 offs:Int
def Pow.new:Pow:=⟨eH,et,0⟩
def Pow.step(w:Pow):Bool×Pow:=
 if w.off then(eH,w)else match w.fuse with
 |none=>(ez,w)
 |some 0=>(eH,⟨ez,dB 0,Go.IntKind.wrap .i64 (w.offs+1)⟩)
 |some (k+1)=>(ez,⟨eH,dB k,w.offs⟩)
def Pow.again(w:Pow):Pow:=⟨eH,et,w.offs⟩
structure ba where
 room:Nat
 l:bH
 wait:Nat
 laid:bH
 has:Bool
 lost:Bool
def ba.new(a:Nat):ba:=⟨a,[],0,[],eH,eH⟩
def ba.append(w:Pow)(d:ba)(b:aL):Int×Pow×ba:=
 if b.length≠64 then(1,w,d)
 else if d.lost then(5,w,d)
 else if d.room<=hY d.l then(7,w,d)
 else if w.off then(14,w,d)
 else if w.step.1 then(0,w.step.2,{d with l:=d.l++[b],wait:=d.wait+1,laid:=[],has:=eH})
 else(14,w.step.2,{d with l:=d.l++[b],wait:=d.wait+1})
def ba.sync(w:Pow)(d:ba):Int×Pow×ba:=
 if d.lost then(5,w,d)
 else if w.step.1 then(0,w.step.2,{d with wait:=0,laid:=[],has:=eH})
 else(14,w.step.2,d)
def ba.rewrite(w:Pow)(d:ba)(l:bH):Int×Pow×ba:=
 if !l.all (λb=>decide (hY b=64))then(1,w,d)
 else if d.lost then(5,w,d)
 else if d.room<hY l then(7,w,d)
 else if w.off then(14,w,d)
 else if w.step.1 then(0,w.step.2,{d with l:=l,wait:=0,laid:=[],has:=eH})
 else(14,w.step.2,{d with laid:=l,has:=ez})
abbrev aD:=List (Option ba)
def aH(ds:aD)(slot:Int):Option ba:=if 0<=slot/\slot<64 then(ds[slot.toNat]?).join else et
def cu(ds:aD)(slot:Int)(d:ba):aD:=ds.set slot.toNat (dB d)
def isLive(ds:aD)(slot:Int):Bool:=match aH ds slot with|some d=>!d.lost|none=>eH
def aR(ds:aD)(a:az):az:=a.filter (isLive ds)
def gn(w:Pow)(ds:aD)(slot:Int)(b:aL):Int×Pow×aD:=
 match aH ds slot with
 |none=>(if b.length≠64 then 1 else 5,w,ds)
 |some d=>((d.append w b).1,(d.append w b).2.1,cu ds slot (d.append w b).2.2)
def go(w:Pow)(ds:aD)(slot:Int):Int×Pow×aD:=
 match aH ds slot with
 |none=>(5,w,ds)
 |some d=>((d.sync w).1,(d.sync w).2.1,cu ds slot (d.sync w).2.2)
def lJ:List (Int×aL)->Pow->aD->Int×Pow×aD
 |[],w,ds=>(0,w,ds)
 |x::l,w,ds=>let r:=gn w ds x.1 x.2;if r.1=0 then lJ l r.2.1 r.2.2 else r
def eO:az->Pow->aD->Int×Pow×aD
 |[],w,ds=>(0,w,ds)
 |x::l,w,ds=>let r:=go w ds x;if r.1=0 then eO l r.2.1 r.2.2 else r
theorem pF(x:Int)(l:az)(w:Pow)(ds:aD):eO (x::l) w ds=if(go w ds x).1=0 then eO l (go w ds x).2.1 (go w ds x).2.2 else go w ds x:=rfl
theorem uI(x:Int×aL)(l:List (Int×aL))(w:Pow)(ds:aD):lJ (x::l) w ds=if(gn w ds x.1 x.2).1=0 then lJ l (gn w ds x.1 x.2).2.1 (gn w ds x.1 x.2).2.2 else gn w ds x.1 x.2:=rfl
def cI(l:az):az:=((qx 64).map λi:Nat=>(i:Int)).filter λi=>decide (i∈l)
def layAll(l:List (Int×aL))(w:Pow)(ds:aD):Int×Pow×aD:=
 let r:=lJ l w ds
 if r.1=0 then eO (cI (l.map qE)) r.2.1 r.2.2 else r
theorem Ht(l:az):l.flatMap aw=l.map (Value.int .i64):=by
 induction l with
 |nil=>rfl
 |cons a t ih=>rw[zb,ih];rfl
theorem LJ{w:World}{e:TypeId}{b:Nat}{rest:aT}{l:az}(c:w.heap[b]?=dB (.cells (l.flatMap aw++rest).toArray e (0,0))):Sort.Holds (Value.int .i64) w b 0 l.toArray:=by
 intro j d;have a:j<hY l:=by simpa using d
 refine⟨?_,by simp[World.frozen?,c]⟩;rw[Ht]at c;have:(l.map (Value.int .i64)++rest)[j]?=dB (xJ xP l[j]):=by rw[ql j5,qO,qc a];rfl
 simp[World.cell?,c,this,a]
theorem Ov(l l':az)(rest:aT)(c:hY l'=hY l):Sort.putCells (Value.int .i64) 0 l'.toArray (l.flatMap aw++rest).toArray=(l'.flatMap aw++rest).toArray:=by
 rw[Ht,Ht];apply yU;intro i;simp only[Sort.putCells,Array.getElem?_mapIdx,zV,wY,zY,Nat.zero_le,true_and];by_cases a:i<hY l
 .rw[ql j5,ql i5];have b:i<hY l':=ii
  simp[a,b]
 .rw[qi i5,qi i5];simp only[qu,c];cases h:rest[i-hY l]? with
  |none=>rfl
  |some x=>simp only[qS];rw[f9 a]
theorem Ow{P:Program}{id:FuncId}(A:∀(fm off cap:Nat) (m:az) (w:World),Sort.Holds (Value.int .i64) w fm off m.toArray->fm<w.heap.size->hY m<4611686018427387904->
   Calls P id #[.slice (dB ⟨fm,off,et⟩) m.length cap] w λe j=>e=.returned (.tuple #[])/\∃n os,j=Sort.grow (Sort.putRow (Value.int .i64) (Sort.ahead w n) fm off (m.mergeSort λx y=>decide (x<=y)).toArray) os)
  (t:∀(p:bD) (cap:Nat) (w:World),Calls P id #[.slice p 0 cap] w λe j=>e=.returned (.tuple #[])/\j=w)
  {e:TypeId} {s:Sl} {l:az} {h:f7} (r:Own h e s 1 aw l) (D:hY l<2^40):
  ai P id #[.slice s.ptr s.len s.cap] h λv h'=>v=.tuple #[]/\Own h' e s 1 aw (l.mergeSort λx y=>decide (x<=y))/\aS (λb=>¬s.on b) h h':=by
 intro w f;have a:=r.len;rcases r.head with⟨h1,h2,h3⟩|⟨b,rest,h1,h2,h3,h4⟩
 .subst h3;rw[a,h1];refine(t et s.cap w).mono ?_;rintro z j ⟨rfl,rfl⟩;have B:(([]:az).mergeSort λx y=>decide (x<=y))=[]:=i6
  exact⟨_,hZ,dh.refl _,hZ,by rw[B];exact⟨a,.inl ⟨h1,h2,hZ⟩⟩,by rw[<-f];exact aS.refl _ _⟩
 .rw[h1,a];have o:w.heap[b]?=dB (.cells (l.flatMap aw++rest).toArray e (0,0)):=by rw[f];exact h2
  refine(A b 0 s.cap l w (LJ o) (lt_of_block o) ii).mono ?_;rintro z j ⟨rfl,n,os,rfl⟩;have i:=lt_of_block o;have g:hY (l.mergeSort λx y=>decide (x<=y))=hY l:=wy l;have c:∀k,k<h.size->(Sort.grow (Sort.putRow (Value.int .i64) (Sort.ahead w n) b 0 (l.mergeSort λx y=>decide (x<=y)).toArray) os).heap[k]?=if b=k then dB (.cells ((l.mergeSort λx y=>decide (x<=y)).flatMap aw++rest).toArray e (0,0))else h[k]?:=by
   intro k q;rw[Sort.heap_grow_old _ _ (by simpa[Sort.putRow,Sort.mapBlock,Sort.ahead,f]using q)];simp only[Sort.putRow,Sort.mapBlock,Sort.ahead,wL];by_cases d:b=k
   .subst d;rw[f8 hZ,f8 hZ,o,qS,Sort.onCells,Ov _ _ _ g]
   .rw[f9 d,f9 d,f]
  rw[f]at i;refine⟨_,hZ,⟨hZ,hZ,hZ,by simp[Sort.grow,Sort.putRow,Sort.mapBlock,Sort.ahead]⟩,hZ,⟨by rw[g];exact a,.inr ⟨b,rest,h1,?_,h3,h4⟩⟩,?_,?_⟩
  .rw[c b i,f8 rfl]
  .simp[Sort.grow,Sort.putRow,Sort.mapBlock,Sort.ahead,f]
  .intro k q u;rw[c k q,f9 λd=>u ⟨0,by rw[h1,d]⟩]
def bK(p:Int×Int×Int):Bool:=decide (p.1>=1)&&(decide (p.1<=16)&&(decide (p.2.1>=1)&&(decide (p.2.1<=4)&&(decide (p.2.2>=1)&&decide (p.2.2<=24)))))
theorem bP(p:Int×Int×Int):bK p=ez↔(1<=p.1/\p.1<=16)/\(1<=p.2.1/\p.2.1<=4)/\1<=p.2.2/\p.2.2<=24:=by simp[bK,and_assoc]
def bG(p:Int×Int×Int):Int:=if bK p then p.1+p.2.1 else 0
def Dy(s:Int):Int:=qe xS (qe xS (s*(6364136223846793005:Int))+(1442695040888963407:Int))
def told(s:Int):Int:=qe xR (zQ (Dy s) (2^min (32:Int).toNat (qI xS)))
def mE(s n:Int):Int:=qe xP (xD (qe xS (told s)) (qe xS n))
theorem wrap_u64(x:Int):qe xS x=x%18446744073709551616:=rfl
theorem uJ(s n:Int)(a:0<n:=by omega)(e:n<=2^62:=by omega):0<=mE s n/\mE s n<n:=by
 unfold mE;have d:qe xS n=n:=p5
 rw[d];have c:0<=qe xS (told s):=p5
 have e2:=vP (qe xS (told s)) a;have b:0<=xD (qe xS (told s)) n:=Int.tmod_nonneg n c;rw[Qw.ag _];exact⟨b,e2⟩
def lK(l:az)(i:Nat):Int:=l.getD i 0
def sA(l:az)(i j:Nat):az:=(l.set i (lK l j)).set j (lK l i)
theorem Ox(l:az)(i j:Nat):hY (sA l i j)=hY l:=by simp[sA]
def ia(n:Nat)(s:Int)(l:az):Nat->Int×az
 |0=>(s,l)
 |k+1=>(Dy (ia n s l k).1,sA (ia n s l k).2 k (k+(mE (ia n s l k).1 ((n-k:Nat):Int)).toNat))
theorem uK(n:Nat)(s:Int)(l:az):∀k,(ia n s l k).2.length=hY l
 |0=>rfl
 |k+1=>by rw[ia,Ox,uK n s l k]
theorem Hu{l:az}{i:Nat}(h:i<hY l):lK l i∈l:=by rw[lK,qd,qc h];exact qf h
theorem abu{l:az}{i j:Nat}(c:i<hY l)(a:j<hY l){x:Int}(b:x∈sA l i j):x∈l:=by
 rcases wC b with h|h
 .rcases wC h with h|h
  .exact h
  .rw[h];exact Hu a
 .rw[h];exact Hu c
def upto(n:Nat):az:=(qx n).map λi:Nat=>(i:Int)
theorem iB(n:Nat):hY (upto n)=n:=by simp[upto]
theorem Hv(n:Nat)(s:Int):∀k,k<=n->∀x∈(ia n s (upto n) k).2,0<=x/\x<n
 |0,_,x,hx=>by
  simp only[ia,upto,qo,qz]at hx;obtain⟨i,l,rfl⟩:=hx;omega
 |k+1,hk,x,hx=>by
  have d:k<n->n-k<=2^62->k+(mE (ia n s (upto n) k).1 ((n-k:Nat):Int)).toNat<n:=λj m=>by
   have:=uJ (ia n s (upto n) k).1 ((n-k:Nat):Int);omega
  have f:=uK n s (upto n) k;rw[iB]at f;by_cases b:n-k<=2^62
  .refine Hv n s k ii x (abu ii ?_ hx);have:=d ii b;omega
  .--beyond any size:what is set is 0 or a member
   have c:∀y∈sA (ia n s (upto n) k).2 k (k+(mE (ia n s (upto n) k).1 ((n-k:Nat):Int)).toNat),y∈(ia n s (upto n) k).2∨y=0:=by
    intro y e;have g:∀i,lK (ia n s (upto n) k).2 i∈(ia n s (upto n) k).2∨lK (ia n s (upto n) k).2 i=0:=λi=>by
     by_cases h:i<(ia n s (upto n) k).2.length
     .exact .inl (Hu h)
     .right;simp only[lK,qd];rw[qJ ii];rfl
    rcases wC e with h|h
    .rcases wC h with h|h
     .exact .inl h
     .rw[h];exact g _
    .rw[h];exact g _
   rcases c x hx with h|h
   .exact Hv n s k ii x h
   .subst h;omega
def iC(l:az):az:=l.mergeSort λx y=>decide (x<=y)
theorem Ef(l:az):hY (iC l)=hY l:=wy l
theorem Au(l:az)(x:Int):x∈iC l↔x∈l:=List.mem_mergeSort
def FR(s:Int)(n k:Nat):az:=iC ((ia n s (upto n) k).2.take k)
theorem abv{s:Int}{n k:Nat}(a:k<=n){x:Int}(b:x∈FR s n k):0<=x/\x<n:=
 Hv n s k a x (zw ((Au _ _).1 b))
theorem abw(s:Int)(n k:Nat)(a:k<=n):hY (FR s n k)=k:=by rw[FR,Ef,qR,uK,iB];omega
def fU(l:Nat):Nat:=if l<=1 then l else if l<=4 then 2 else if l<=9 then 3 else if l<=16 then 4 else 5
def FS(r:Nat):Nat:=if r=0 then 0 else if r=1 then 1 else if r<=3 then 2 else 3
def rH(l k:Nat):Nat:=
 (if k>1 then 1048576/(k*(k-1))else 1048576/l)+
  (if k<l/fU l then 1048576*fU l/(l*k)else if k=l/fU l then 1048576*fU l*FS (fU l)/l else 0)
def nc(l:Nat):Nat->Nat
 |0=>0
 |k+1=>nc l k+rH l (k+1)
def km(l:Nat):az:=(qx l).map λk=>((nc l (k+1):Nat):Int)
theorem mg(l:Nat):hY (km l)=l:=by simp[km]
def UY(t:az)(x:Int):Nat:=(t.findIdx λy=>decide (y>x))+1
theorem IQ:∀l,l<=20->∀k,k<=20->rH l k<=2^30:=j0
theorem FT(l:Nat)(a:l<=20):∀k,k<=20->nc l k<=k*2^30
 |0,_=>by simp[nc]
 |k+1,hk=>by
  have:=FT l a k ii;have:=IQ l a (k+1) hk;rw[nc];omega
theorem Oy:∀l,l<=20->1<=l->0<nc l l:=j0
theorem IR(l:Nat)(h:1<=l):(km l).getLast?=dB ((nc l l:Nat):Int):=by
 obtain⟨k,rfl⟩:∃k,l=k+1:=⟨l-1,ii⟩
 simp[km,zJ]
def Eg(seed id:Int):Int:=qe xS (qe xR ((qP (qI xR) seed^^^(qP (qI xR) (qe xR ((qe xR id)*(2654435761:Int))))).toNat:Nat))
def FU(s:Int)(n:Nat):Nat:=UY (km n) (mE s (nc n n))
theorem uL(s:Int)(n:Nat)(b:1<=n)(a:n<=20):FU s n<=n:=by unfold FU UY;have e:=Oy n a b;have c:=FT n a n a;have d:=uJ s (nc n n);have:=List.findIdx_lt_length_of_exists (p:=λy=>decide (y>mE s (nc n n))) (xs:=km n) ⟨_,List.mem_of_getLast? (IR n b),by simpa using d.2⟩;rw[mg]at this;omega
def bW(id:Int):Bool:=decide (0<=id)&&decide (id<=65535)
def dz(n:Nat)(seed id:Int):az:=FR (Dy (Dy (Eg seed id))) n (FU (Dy (Eg seed id)) n)
theorem nf{n:Nat}(a:1<=n)(c:n<=20){seed id x:Int}(b:x∈dz n seed id):0<=x/\x<n:=abv (uL _ n a c) b
theorem Av{n:Nat}(a:1<=n)(b:n<=20)(seed id:Int):hY (dz n seed id)<=n:=by rw[dz,abw _ _ _ (uL _ n a b)];exact uL _ n a b
def gY(n:Nat)(l:az):aL:=l.foldl (λr i=>r.set i.toNat 1) (qg n 0)
theorem rI(n:Nat)(l:az):hY (gY n l)=n:=by
 have:∀(l:az) (r:aL),hY (l.foldl (λr i=>r.set i.toNat 1) r)=hY r:=by
  intro l
  induction l with
  |nil=>intro r;rfl
  |cons a t ih=>intro r;rw[zB,ih];simp
 rw[gY,this];simp
def oJ(n:Nat)(seed id:Int):aL:=gY n (dz n seed id)
theorem Oz(n:Nat)(seed id:Int):hY (oJ n seed id)=n:=rI _ _
def mh(K H h:Nat):aL:=(qx K).map (λj=>Gf.pw ((h+1)*(j+1)%255))++(qx H).map λi=>if i=h then 1 else 0
def bz(K H:Nat):bH:=(qx H).map (mh K H)
theorem uM(K H h:Nat):hY (mh K H h)=K+H:=by simp[mh]
def dU(p:Int×Int×Int)(seed:Int)(ids:az):bH:=
 if bK p then bz p.1.toNat p.2.1.toNat++(ids.filter bW).map (oJ (bG p).toNat seed)else[]
theorem oK{α:Type}{f:α->Bool}{l:List α}{k:Nat}(a:k<hY l):(l.take (k+1)).filter f=if f l[k]then(l.take k).filter f++[l[k]]else(l.take k).filter f:=by rw[zo a,zm];by_cases h:f l[k]=ez<;>simp[h]
abbrev Row:=aL
abbrev aN:=List Row
def scaleB(c:UInt8)(l:Row):Row:=l.map (Gf.mul c)
def cW(c:UInt8)(a to:Row):Row:=zg (λx y=>y^^^Gf.mul c x) a to
def aO(r:Row)(bp:Nat):UInt8:=r.getD bp 0
def aC(m:aN)(i:Nat):Row:=m.getD i []
def jx(m:aN)(a bp:Nat):Option Nat:=(qx m.length).find? λi=>decide (a<=i)&&(aO (aC m i) bp !=0)
def jK(m:aN)(i j:Nat):aN:=(m.set i (aC m j)).set j (aC m i)
def fA(a bp:Nat)(m:aN)(k:Nat):aN:=m.mapIdx λi r=>if i<k/\i≠a then cW (aO r bp) (aC m a) r else r
def ky(a bp:Nat)(m:aN):aN:=m.set a (scaleB (Gf.inv (aO (aC m a) bp)) (aC m a))
def jL(s:Nat×aN)(bp:Nat):Nat×aN:=
 match jx s.2 s.1 bp with
 |none=>s
 |some i=>(s.1+1,fA s.1 bp (ky s.1 bp (jK s.2 s.1 i)) s.2.length)
def bJ(m:aN):Nat->Nat×aN
 |0=>(0,m)
 |c+1=>jL (bJ m c) c
def ff(m:aN):Nat:=hY (aC m 0)
def bZ(m:aN):Nat:=(bJ m (ff m)).1
def aV(n:Nat)(m:aN):Prop:=∀r∈m,hY r=n
theorem oY(c:UInt8)(l:Row):hY (scaleB c l)=hY l:=by simp[scaleB]
theorem bX{c:UInt8}{a t:Row}(h:hY a=hY t:=by omega):hY (cW c a t)=hY t:=by simp[cW,h]
theorem bv{m:aN}{i:Nat}(h:i<hY m):aC m i=m[i]:=by rw[aC,qd,qc h];rfl
theorem cA{n:Nat}{m:aN}(h:aV n m){i:Nat}(a:i<hY m:=by omega):hY (aC m i)=n:=by rw[bv a];exact h _ (qf a)
theorem Hw{n:Nat}{m:aN}(h:aV n m){i:Nat}{r:Row}(a:hY r=n):aV n (m.set i r):=λx b=>by
 rcases wC b with h1|h1
 .exact h x h1
 .rw[h1];exact a
theorem UZ{P:Nat->Bool}{n:Nat}(h:∀j,j<n->P j=eH):(qx n).find? P=et:=by rw[wg];intro x a;rw[qz]at a;simp[h x a]
theorem Va{P:Nat->Bool}{n k:Nat}(e:k<n)(h:∀j,j<k->P j=eH)(d:P k=ez):(qx n).find? P=dB k:=by
 rw[List.find?_eq_some_iff_append];refine⟨d,qx k,List.range' (k+1) (n-k-1),?_,λa b=>?_⟩
 .rw[y6,y6];have c:n=k+(n-k):=ii
  have e2:n-k=(n-k-1)+1:=ii
  conv=>lhs;rw[c,<-List.range'_append_1 (s:=0) (m:=k) (n:=n-k)]
  rw[zY]
  conv=>lhs;rw[e2,List.range'_succ]
 .rw[qz]at b;simp[h a b]
theorem sB{m:aN}{a bp i:Nat}(h:jx m a bp=dB i):a<=i/\i<hY m/\aO (aC m i) bp≠0:=by have b:=List.find?_some h;have c:=List.mem_of_find?_eq_some h;simp at b c;exact⟨b.1,c,b.2⟩
theorem Rs{m:aN}{a bp:Nat}(h:jx m a bp=et):∀i,a<=i->i<hY m->aO (aC m i) bp=0:=λi b c=>by
 have:=wg.1 h i (qz.2 c);simpa[b]using this
theorem lY(m:aN)(i j:Nat):hY (jK m i j)=hY m:=by simp[jK]
theorem Eh{n:Nat}{m:aN}(h:aV n m){i j:Nat}(b:i<hY m)(a:j<hY m):aV n (jK m i j):=Hw (Hw h (cA h a)) (cA h b)
theorem oL(t c:Nat)(m:aN):hY (ky t c m)=hY m:=by simp[ky]
theorem Aw{n:Nat}{m:aN}(h:aV n m){t c:Nat}(a:t<hY m):aV n (ky t c m):=Hw h (by rw[oY];exact cA h a)
theorem oM(t c:Nat)(m:aN)(k:Nat):hY (fA t c m k)=hY m:=by simp[fA]
theorem Ax{n:Nat}{m:aN}(h:aV n m){t c k:Nat}(b:t<hY m):aV n (fA t c m k):=λx d=>by
 obtain⟨i,e,rfl⟩:=List.mem_mapIdx.1 d;have a:=h _ (qf e);split
 .rw[bX (by rw[cA h b,a])];exact a
 .exact a
theorem XG(t c:Nat)(m:aN):fA t c m 0=m:=by apply zt;intro i;simp[fA,vy]
theorem rJ{t c k:Nat}{m:aN}{i:Nat}(a:i<hY m):aC (fA t c m k) i=if i<k/\i≠t then cW (aO (aC m i) c) (aC m t) (aC m i)else aC m i:=by rw[bv (by rw[oM];exact a),bv a];simp[fA]
theorem XH{t c k:Nat}{m:aN}(b:k<hY m)(d:k≠t):fA t c m (k+1)=(fA t c m k).set k (cW (aO (aC m k) c) (aC m t) (aC m k)):=by
 apply zt;intro i;simp only[fA,qW,vy,List.length_mapIdx];by_cases a:k=i
 .subst a;simp only[if_true,b,qc b,qS];rw[f8 ⟨ii,d⟩,bv b]
 .rw[f9 a];congr 1;funext r;by_cases h:i<k/\i≠t
  .rw[f8 h,f8 ⟨ii,h.2⟩]
  .rw[f9 h,f9 λe=>h ⟨ii,e.2⟩]
theorem XI{t c:Nat}{m:aN}:fA t c m (t+1)=fA t c m t:=by
 apply zt;intro i;simp only[fA,vy];congr 1;funext r;by_cases h:i<t/\i≠t
 .rw[f8 h,f8 ⟨ii,h.2⟩]
 .rw[f9 h,f9 λa=>h ⟨ii,a.2⟩]
theorem XJ{n:Nat}{s:Nat×aN}(h:aV n s.2)(bp:Nat):aV n (jL s bp).2/\(jL s bp).2.length=hY s.2:=by
 unfold jL;cases hb:jx s.2 s.1 bp with
 |none=>exact⟨h,hZ⟩
 |some i=>
  have a:=sB hb;dsimp only;refine⟨Ax (Aw (Eh h ii a.2.1) (by rw[lY];omega)) (by rw[oL,lY];omega),by rw[oM,oL,lY]⟩
theorem iy{n:Nat}{m:aN}(h:aV n m):∀c,aV n (bJ m c).2/\(bJ m c).2.length=hY m
 |0=>⟨h,hZ⟩
 |c+1=>by
  have:=iy h c;have a:=XJ this.1 c;rw[bJ];exact⟨a.1,by rw[a.2,this.2]⟩
theorem abx{s:Nat×aN}(h:s.1<=hY s.2)(bp:Nat):(jL s bp).1<=(jL s bp).2.length:=by
 unfold jL;cases hb:jx s.2 s.1 bp with
 |none=>exact h
 |some i=>
  have a:=sB hb;dsimp only;rw[oM,oL,lY];omega
theorem Cq(m:aN):∀c,(bJ m c).1<=(bJ m c).2.length
 |0=>by simp[bJ]
 |c+1=>abx (Cq m c) c
variable {t t2 e k:Nat} {z:aT} {by_:Nat} {α:Type} {h h0:f7} {p B:av} {s v:Sl} {f:α->aT} {l l2:List α} {As:List HP}
section
variable {C:Ctx} {ty:Nat}
theorem Own.OA(O:C.Ok)(R:bL C.toBH t e k z by_)(D:∀x,hY (f x)=k)(A:Own h e s k f l)(Q:Seq h p v k f l2)(o:∀x,∀c∈f x,c.oneCell'=ez)(j:Nat)(S:j<=hY l){w:bD}{H X:Nat}(i:w=if s.cap=j then s.ptr else s.ptr.map (·.add (j*k)))(B:H=s.len-j){K:Int->f7->Prop}
  (E:∀n h',Own h' e s k f (l.take j++(l2.take (hY l-j)++l.drop (j+hY l2)))->aS (λb=>¬s.on b) h h'->K n h'):
  bx C.P (yh #[t,t2] ty #[.slice w H X,.slice v.ptr v.len v.cap]) (.one (.sc (.int .i64))) h K:=by
 unfold bx yh;simp only[zV,yc,qq];refine au.bind (au.always (aF (R.under O)) ?_);refine au.bind (au.pure' ?_);refine au.bind (au.always (R.size O) ?_);have g:=A.len;have u:=Q.len;have N:=A.cap;obtain⟨m,F⟩:=x6 (Nat.min v.len H)
 rw[<-F];have G:m<=hY l2:=by rw[F,<-u];exact Nat.min_le_left _ _
 have r:m<=hY l-j:=by rw[F,<-g,B];exact xg _ _
 have T:m=min l2.length (hY l-j):=by rw[F,B,g,u]
 have I:=Q.take m G;have V:l2.take (hY l-j)++l.drop (j+hY l2)=l2.take m++l.drop (j+m):=by
  rcases Nat.le_total l2.length (hY l-j)with hh|hh
  .rw[qh hh,show m=hY l2 by omega,qM]
  .rw[show m=hY l-j by omega,zd (show l.length<=j+hY l2 by omega),zd ii]
 rw[V]at E;have M:wP k m (.slice v.ptr v.len v.cap)=wP k m (.slice v.ptr m v.cap):=by cases v.ptr<;>rfl
 rw[M];refine au.bind (gw (v:=⟨v.ptr,m,v.cap⟩) D I ?_);have d:m=0->l.take j++(l2.take m++l.drop (j+m))=l:=λe=>by rw[e];simp
 rcases A.head with⟨h1,h2,h3⟩|⟨b,rest,h1,h2,h3,h4⟩
 .have a:w=et:=by rw[i,h1];split<;>rfl
  rw[a];subst h3;have:m=0:=by simp at r;exact r
  refine au.pure' ⟨_,hZ,E _ h ?_ (aS.refl _ _)⟩;rw[d this];exact A
 .by_cases q:s.cap=j
  .have a:w=dB ⟨b,0,et⟩:=by rw[i,f8 q,h1]
   rw[a];have y:m=0:=ii
   refine au.bind ?_;rw[y];simp only[vU,List.flatMap_nil];exact au.pure' (au.pure' ⟨_,hZ,E _ h (by rw[d y];exact A) (aS.refl _ _)⟩)
  .have a:w=dB ⟨b,0+j*k,et⟩:=by rw[i,f9 q,h1];simp only[qS];rw[add_eq]
   rw[a];refine au.bind ?_;have J:l.flatMap f++rest=(l.take j).flatMap f++((l.drop j).take m).flatMap f++((l.drop (j+m)).flatMap f++rest):=by rw[<-qn,<-q9,<-q9,<-zN,qn (List.take j l),qC,qC]
   rw[J]at h2;refine fc (e:=e) (pre:=(l.take j).flatMap f) (old:=((l.drop j).take m).flatMap f) (post:=(l.drop (j+m)).flatMap f++rest) h2 (by rw[dm D,dm D,qR,qR,zc];congr 1;omega) (by rw[dm D,qR];rw[wz S];omega) ?_ ?_
   .intro c W;obtain⟨x,_,L⟩:=zI.1 W;exact o x c L
   .refine au.pure' ⟨_,hZ,E _ _ ⟨by rw[g,qw,qw,qR,qR,zc];omega,.inr ⟨b,rest,h1,?_,h3,h4⟩⟩ (aS.jD h2 λU=>U ⟨0,h1⟩)⟩;rw[iA h2,f8 hZ,q9,q9];simp[qn]
theorem aa.OA(u:C.Ok)(H:aa B h0 h As)(i:Nat)(m:As[i]?=dB (an e s k f l))(D:bL C.toBH t e k z by_)(w:∀x,hY (f x)=k)(A:Seq h p v k f l2)(a:∀x,∀c∈f x,c.oneCell'=ez)(j:Nat)(q:j<=hY l){o:bD}{g r:Nat}(b:o=if s.cap=j then s.ptr else s.ptr.map (·.add (j*k)))(d:g=s.len-j){K:Int->f7->Prop}
  (E:∀n h',aa B h0 h' (As.set i (an e s k f (l.take j++(l2.take (hY l-j)++l.drop (j+hY l2)))))->K n h'):
  bx C.P (yh #[t,t2] ty #[.slice o g r,.slice v.ptr v.len v.cap]) (.one (.sc (.int .i64))) h K:=
 (H.own i m).OA u D w A a j q b d λn h' x y=>E n h' (H.nG i m y x)
end
def b8(n:Int):UInt8:=yR (n%256).toNat
theorem fg(n:Int):qe xQ n=((b8 n).toNat:Int):=by
 have h0:=w9 n (show(256:Int)≠0 by decide);have a:=wv n (show(0:Int)<256 by decide);have e:((b8 n).toNat:Int)=n%256:=by unfold b8;rw[UInt8.toNat_ofNat'];omega
 rw[e];unfold qe;simp[qI,vb]
abbrev sN:=BitVec 32
def IS(s:sN):sN:=if s&&&1#32=1#32 then(s>>>1)^^^3988292384#32 else s>>>1
def BL:Nat->sN->sN
 |0,s=>s
 |n+1,s=>IS (BL n s)
def TB(s:sN)(x:UInt8):sN:=BL 8 (s^^^BitVec.ofNat 32 x.toNat)
def tR(l:aL):sN:=l.foldl TB 4294967295#32
def BM(l:aL):sN:=4294967295#32^^^tR l
theorem Vb(l:aL)(x:UInt8):tR (l++[x])=TB (tR l) x:=by unfold tR;rw[wc];rfl
theorem OB(s:sN):qe xR ((s.toNat:Nat):Int)=(s.toNat:Int):=by have:=s.isLt;unfold qe;simp[qI,vb];omega
theorem Vd(a b:sN):qe xR ((qP (qI xR) (a.toNat:Int)^^^qP (qI xR) (b.toNat:Int)).toNat:Nat)=((a^^^b).toNat:Int):=by show qe xR (((qP 32 (a.toNat:Int)^^^qP 32 (b.toNat:Int):BitVec 32).toNat:Nat):Int)=_;rw[yd,yd,vQ,vQ,vR,vR,OB]
theorem aiC(a b:sN):qe xR ((qP (qI xR) (a.toNat:Int)&&&qP (qI xR) (b.toNat:Int)).toNat:Nat)=((a&&&b).toNat:Int):=by show qe xR (((qP 32 (a.toNat:Int)&&&qP 32 (b.toNat:Int):BitVec 32).toNat:Nat):Int)=_;rw[yd,yd,vQ,vQ,vR,vR,OB]
theorem LK(n:Int):qe xR n=((qP 32 n).toNat:Int):=by unfold qe;simp[qI,vb,BitVec.toNat_ofInt];omega
theorem afc(s:sN):zQ (s.toNat:Int) (2^min (1:Int).toNat (qI xR))=((s>>>1).toNat:Int):=by rw[show min (1:Int).toNat (qI xR)=1 from hZ,yk _ i0,BitVec.toNat_ushiftRight,Nat.shiftRight_eq_div_pow];simp
theorem TC(s:sN):((s&&&1#32).toNat:Int)=1↔s&&&1#32=1#32:=by
 constructor
 .intro h;apply BitVec.eq_of_toNat_eq;have:(1#32:sN).toNat=1:=rfl;omega
 .intro h;rw[h];rfl
def oN(s:sN):aL:=(qx 4).map λi=>b8 (zQ (s.toNat:Int) (2^(8*i)))
theorem OC(s:sN):hY (oN s)=4:=by simp[oN]
def eN(b:Int)(a:aL):aL:=[87,115,1,b8 b]++a++qg (55-hY a) 0
def eT(a:Int)(b:aL):aL:=
 if 1<=a/\a<=255/\b.length<=55 then eN a b++oN (BM (eN a b))++[165]else[]
theorem Ei{b:Int}{a:aL}(h:hY a<=55):hY (eN b a)=59:=by simp[eN];omega
theorem mJ{a:Int}{b:aL}(c:1<=a)(d:a<=255)(h3:hY b<=55):hY (eT a b)=64:=by unfold eT;rw[f8 ⟨c,d,h3⟩];simp[Ei h3,OC]
def jM(s:ByteArray):aL:=s.data.toList
theorem Cr(s:ByteArray):hY (jM s)=s.size:=rfl
def ajh(n:Nat):Obj->Obj
 | .cells c elem (lo,hi)=>.cells c elem (if lo==hi then(n,n+1)else(min lo n,max hi (n+1)))
 |o=>o
theorem au.XK{P:Program}{h:f7}{b n:Nat}{c:Array eR}{e:TypeId}{K:Unit->f7->Prop}(i:h[b]?=dB (.cells c e (0,0)))(k:n=c.size)(d:∀h',(∀x,x≠b->h'[x]?=h[x]?)->h'.size=h.size->(∃f,h'[b]?=dB (.cells c e f))->K () h'):
  au P (freeze {block:=b,off:=n} 1) h K:=λw j=>by
 refine⟨(),w.freeze {block:=b,off:=n} 1,run_freeze P w _ _,⟨hZ,hZ,hZ,qm _⟩,?_⟩;subst j;have a:(w.freeze {block:=b,off:=n} 1).heap=w.heap.modify b (ajh n):=rfl;refine d _ (λx g=>?_) ?_ ?_
 .rw[a,wL,f9 λe=>g e.symm]
 .rw[a];simp
 .rw[a,wL,f8 hZ,i];exact⟨_,hZ⟩
section
variable {C:Ctx} {ts:Nat}
theorem afd(k:C.Ok)(B:∃i,C.T.get ts=dB i/\i.cD=.str)(u:∃i,C.T.get t=dB i/\i.cD=.slice e)(F:∃i,C.T.get e=dB i/\i.cD=.int .u8)(s:ByteArray){K:Sl->f7->Prop}(G:∀r h',Sp h h' [td r 1 aB (jM s)]->K r h'):
  bx C.P (convert ts t (.string s)) (.one (.sc .slc)) h K:=by
 obtain⟨L,w,q⟩:=B;obtain⟨I,y,H⟩:=u;obtain⟨i3,a3,A⟩:=F;have D:C.P.underlying ts=dB .string:=by have:=k.cD w;rw[q]at this;exact ul this
 have E:C.P.underlying t=dB (.slice e):=by have:=k.cD y;rw[H]at this;exact jV this
 have u3:C.P.underlying e=dB (.int .u8):=by have:=k.cD a3;rw[A]at this;exact FM this
 unfold bx convert;refine au.bind (au.always (aF D) ?_);refine au.bind (au.always (aF E) ?_);refine au.bind (au.always (aF u3) ?_);unfold Conv.stringToBytes;refine au.bind (au.Kr ⟨λo=>(by cases o),λ_ v=>?_⟩);generalize j:Question.cut (Question.appendCap s.size 0 e) v=cc;have n:s.size<=cc:=by rw[<-j];simp only[Question.cut];omega
 unfold newRow;refine au.bind (au.bind (au.oV (au.pure' ?_)));unfold markStringish;obtain⟨cs,a⟩:∃cs:Array eR,cs=s.data.map (λb=>Value.int .u8 b.toNat)++Array.replicate (cc-s.size) (Value.int .u8 0):=⟨_,rfl⟩
 rw[<-a];refine au.bind (au.bind (au.agm ?_));have d:shapeOf (h.push (.cells cs e)) h.size=dB (e,cs.size):=by unfold shapeOf;simp
 dsimp only;rw[d];refine au.XK (c:=cs) (e:=e) i6 hZ λh' p l g=>?_;refine au.pure' ⟨⟨dB ⟨h.size,0,et⟩,s.size,cc⟩,hZ,G _ _ ?_⟩;obtain⟨f,g⟩:=g;refine .one ⟨by rw[l];simp,λb J _=>by rw[p b ii,Array.getElem?_push,f9 ii]⟩ ?_;refine⟨by rw[Cr],λi x m=>⟨h.size,0,hZ,⟨qm _,by rw[l];simp⟩,?_,x7⟩⟩;rw[add_zero];have z:i<s.data.size:=by have:=(qk.1 m).1;simpa[jM]using this
 unfold eX;simp only[g,Nat.mul_one,zY,Option.isSome_none,zh,if_false];rw[a,Array.getElem?_append_left (by simpa using z),Array.getElem?_map];have:s.data[i]?=dB x:=by rw[<-m];simp[jM]
 rw[this];rfl
end
section
variable {C:Ctx} {l:aL}
theorem Na(u:C.Ok)(I:bL C.toBH t e 1 z by_)(V:∃i,C.T.get t2=dB i/\i.cD=.str)(hz:hY z=1)(G:0<by_/\by_<=128)
  (w:Own h e s 1 aB l) (x:ByteArray) (ad:hY l+x.size<=2^32) {ty:Nat} {K:Sl->f7->Prop}
  (J:∀L h',Own h' e L 1 aB (l++jM x)->aS (λb=>¬s.on b) h h'->(∀b,L.on b->s.on b∨h.size<=b)->K L h'):
  bx C.P (zA #[t,t2] ty #[.slice s.ptr s.len s.cap,.string x]) (.one (.sc .slc)) h K:=by
 obtain⟨i2,R,g2⟩:=V;have H:C.P.underlying t2=dB .string:=by have:=u.cD R;rw[g2]at this;exact ul this
 obtain⟨A,r,x2,x3,zv,X,U⟩:=I.info u;have m:∀y∈(jM x).flatMap aB,y.oneCell'=ez:=λy hy=>by
  obtain⟨b,_,hb⟩:=zI.1 hy;exact ic b y hb
 have g:((x.extract 0 x.size).data.map λb=>Value.int .u8 (b.toNat:Int))=((jM x).flatMap aB).toArray:=by
  have W:x.extract 0 x.size=x:=by apply ByteArray.ext;simp[ByteArray.data_extract]
  rw[W];apply yI;simp only[xf,jM];exact List.map_eq_flatMap
 unfold bx zA;simp only[zV,yc,qq];refine au.bind (au.always (aF (I.under u)) ?_);refine au.bind (au.always (I.size u) ?_);refine au.bind (au.always (aF H) ?_);refine au.bind (au.pure' ?_);simp only[zh,if_false,yi,if_true];refine au.bind (au.pure' ?_);have q:=w.len;have v:∀y,hY (aB y)=1:=λ_=>rfl;have j:=dm v l;have a:=dm v (jM x);have ab:=Cr x;have p:∀{h:f7} {K:Array eR->f7->Prop},K ((jM x).flatMap aB).toArray h->au C.P (wP 1 x.size (.string x)) h K:=λ{h K} hK=>by
  unfold wP;dsimp only;rw[g];exact au.pure' hK
 by_cases f:s.len+x.size<=s.cap
 .rw[f8 f];refine au.bind (p ?_);rcases w.head with⟨p1,p2,p3⟩|⟨b,rest,p1,p2,p3,p4⟩
  .rw[p1];have B:jM x=[]:=qZ ii;refine au.pure' ⟨⟨et,s.len+x.size,s.cap⟩,hZ,J _ _ ⟨?_,.inl ⟨hZ,p2,by simp[p3,B]⟩⟩ (aS.refl _ _) ?_⟩
   .simp;omega
   .rintro N ⟨o,d⟩;cases d
  .rw[p1];refine au.bind ?_;rw[add_eq,zY];have D:hY ((jM x).flatMap aB)<=hY rest:=by rw[a,p3];omega
   refine fc (e:=e) (pre:=l.flatMap aB) (old:=rest.take ((jM x).flatMap aB).length) (post:=rest.drop ((jM x).flatMap aB).length) ?_ ?_ ?_ ?_ ?_
   .rw[qn,qC];exact p2
   .rw[qR];exact wz D
   .rw[j,q];omega
   .intro c Y;exact m c (by simpa using Y)
   .refine au.pure' ⟨⟨dB ⟨b,0,et⟩,s.len+x.size,s.cap⟩,hZ,J _ _ ⟨?_,.inr ⟨b,rest.drop ((jM x).flatMap aB).length,hZ,?_,?_,f⟩⟩ ?_ ?_⟩
    .simp;omega
    .rw[iA p2,f8 rfl];simp
    .rw[zc,p3,a];show(s.cap-s.len)*1-hY (jM x)*1=(s.cap-(s.len+x.size))*1;omega
    .exact aS.jD p2 (λQ=>Q ⟨0,p1⟩)
    .rintro N ⟨o,d⟩;cases d;exact .inl ⟨0,p1⟩
 .rw[f9 f];have k:Seq h (λ_=>True) s 1 aB l:=w.seq v λ_ _=>trivial;have M:=w.cap;refine au.bind (au.always (dc r) ?_);rw[f9 λhh=>by rcases hh.2 with h|h<;>first|exact h|(rw[x3]at h;omega)];refine au.bind (au.always (dc r) ?_);have S:=Tw (s.len+x.size) s.cap;rw[f9 (by
   have:vw (s.len+x.size) s.cap*A.bytes<=(16*2^32+16*768)*128:=wA ii (by rw[x3];exact G.2);omega)]
  refine au.bind (au.Kr ⟨λO=>(by cases O),λ_ Z=>?_⟩);refine au.bind (au.always (dc r) ?_);refine au.bind (au.Hb ?_);refine au.bind (gw v k ?_);refine au.bind (p ?_);have F:aI C.P (zeroValue e) zv:=(dc r).bind (by rw[X];exact .pure);refine au.bind (au.always F ?_);rw[U,DY];unfold newRow;refine au.bind (au.bind (au.oV (au.pure' (au.pure' ?_))));generalize E:Question.cut (Question.appendCap (s.len+x.size) s.cap e) Z=cc;have n:s.len+x.size<=cc:=by rw[<-E];simp only[Question.cut];omega
  refine⟨⟨dB ⟨h.size,0,et⟩,s.len+x.size,cc⟩,hZ,J _ _ ⟨?_,.inr ⟨h.size,jh z (cc-(s.len+x.size)),hZ,?_,?_,n⟩⟩ (aS.push _ _ _) ?_⟩
  .simp;omega
  .simp
  .rw[oI,hz]
  .rintro N ⟨o,d⟩;cases d;exact .inr (qm _)
theorem aa.XL(w:C.Ok)(H:aa B h0 h As)(i:Nat)(v:As[i]?=dB (an e s 1 aB l))(A:bL C.toBH t e 1 z by_)(r:∃i,C.T.get t2=dB i/\i.cD=.str)(y:hY z=1)(k:0<by_/\by_<=128)
  (x:ByteArray) (o:hY l+x.size<=2^32) {ty:Nat} {K:Sl->f7->Prop} (E:∀f h',aa B h0 h' (As.set i (an e f 1 aB (l++jM x)))->K f h'):
  bx C.P (zA #[t,t2] ty #[.slice s.ptr s.len s.cap,.string x]) (.one (.sc .slc)) h K:=by
 obtain⟨F,D,c,p,a⟩:=H;have j:=a i _ v;refine Na w A r y k j.1 x o λf h' d n g=>E f h' ?_;refine aa.Co F D p a (n.mono λb m q u=>q (j.2 b u)) ⟨d,λb m=>⟨d.lt m,?_⟩⟩;rcases g b m with h1|h1
 .exact .inl (j.2 b h1)
 .exact .inr h1
end
structure cb where
 name:ByteArray
 object:Int
 length:Int
 tries:az
structure ak where
 seq:Int
 next:Int
 p:Int×Int×Int
 extra:Int
 drives:az
 objs:List cb
def aiD:cb:=⟨⟨#[]⟩,0,0,[]⟩
def pG(l:List cb)(i:Nat):cb:=l.getD i aiD
theorem oO{l:List cb}{i:Nat}(h:i<hY l:=by omega):pG l i=l[i]:=by unfold pG;rw[qd,qc h];rfl
def fR(n a b:Int):Bool:=decide (a<=n)&&decide (n<=b)
def ng(c:UInt8):Bool:=(decide (97<=c.toNat)&&decide (c.toNat<=122))||(decide (48<=c.toNat)&&decide (c.toNat<=57))||decide (c.toNat=45)
def lC(s:ByteArray):Bool:=s.data.toList.all ng&&(decide (1<=s.size)&&decide (s.size<=12))
def fK(a b:ByteArray):Bool:=Op.bytesLess a.toList b.toList
def ko(l:az)(most:Int)(i:Nat):Bool:=fR (l.getD i 0) 0 most&&(decide (i=0)||decide (l.getD (i-1) 0<l.getD i 0))
def pH(l:az)(most:Int):Bool:=(qx l.length).all (ko l most)
def countP(p:Int×Int×Int)(n:Int):Int:=if bK p&&decide (0<n)then(n-1)/(p.1*p.2.2)+1 else 0
def gQ(m:ak)(x:cb):Bool:=
 lC x.name&&(fR x.object 0 (m.next-1)&&(fR x.length 0 (m.p.1*m.p.2.2*8)&&(x.tries.all (fR · 0 15)&&decide ((x.tries.length:Int)=countP m.p x.length))))
def pI(m:ak)(i:Nat):Bool:=
 gQ m (pG m.objs i)&&((decide (i=0)||fK (pG m.objs (i-1)).name (pG m.objs i).name)&&!(m.objs.take i).any λy=>decide (y.object=(pG m.objs i).object))
def lD(m:ak):Bool:=fR m.seq 1 2147483647&&(fR m.next 0 16777216&&(bK m.p&&fR m.extra 0 16))
def bc(m:ak):Bool:=lD m&&(pH m.drives 63&&(decide (hY m.objs<=12)&&(qx m.objs.length).all (pI m)))
theorem Ej{p:Nat->Bool}{n i:Nat}(a:i<n)(h:p i=eH):(qx n).all p=eH:=List.all_eq_false.2 ⟨i,qz.2 a,by rw[h];simp⟩
theorem tk{p:Nat->Bool}{n:Nat}(h:∀i,i<n->p i=ez):(qx n).all p=ez:=qK.2 λi a=>h i (qz.1 a)
def bE(n:Int)(k:Nat):aL:=(qx k).map λi=>b8 (zQ n (2^(8*(k-1-i))))
theorem cw(n:Int)(k:Nat):hY (bE n k)=k:=by simp[bE]
def ge(x:cb):aL:=b8 x.name.size::(x.name.data.toList++(bE x.object 3++(bE x.length 2++x.tries.map b8)))
def bO(m:ak):aL:=
 if bc m then bE m.seq 4++(bE m.next 4++([b8 m.p.1,b8 m.p.2.1,b8 m.p.2.2,b8 m.extra,b8 m.drives.length]++(m.drives.map b8++(b8 m.objs.length::m.objs.flatMap ge))))else[]
def kH(seq a c:Int)(b:aL):aL:=eT 2 (bE seq 4++([b8 a,b8 c,b8 b.length]++b))
def dC(b:aL):Nat:=(hY b+47)/48
def aP(m:ak):bH:=(qx (dC (bO m))).map λi:Nat=>kH m.seq i (dC (bO m)) (((bO m).drop (48*i)).take 48)
theorem XM{m:ak}(h:bc m=ez):lD m=ez:=by unfold bc at h;simp at h;exact h.1
theorem OF{m:ak}(h:lD m=ez):(1<=m.seq/\m.seq<=2147483647)/\(0<=m.next/\m.next<=16777216)/\bK m.p=ez/\0<=m.extra/\m.extra<=16:=by unfold lD fR at h;simpa[and_assoc]using h
theorem tU{m:ak}{c:aL}(h:c∈aP m):hY c=64:=by unfold aP at h;obtain⟨i,_,rfl⟩:=qo.1 h;exact mJ i0 i0 m4
structure cU where
 object:Int
 block:Int
 id:Int
 p:Int×Int×Int
 seed:Int
 data:aL
theorem pJ(n:Int):((b8 n).toNat:Int)=n%256:=by have h0:=w9 n (show(256:Int)≠0 by decide);have a:=wv n (show(0:Int)<256 by decide);unfold b8;rw[UInt8.toNat_ofNat'];omega
def ji(r:cU):Bool:=(fR r.object 0 16777215&&(fR r.block 0 7&&bW r.id))&&(bK r.p&&decide ((r.data.length:Int)=r.p.2.2))
def jy(r:cU):aL:=bE r.object 3++(bE r.block 1++(bE r.id 2++([b8 r.p.1,b8 r.p.2.1,b8 r.p.2.2]++(bE r.seed 4++r.data))))
def cF(r:cU):aL:=if ji r then eT 1 (jy r)else[]
def dv(l:aL):Int:=l.foldl (λn x=>n*256+x.toNat) 0
def jz(c:aL):Option (Int×aL):=
 if c.length=64/\eT ((c.getD 3 0).toNat:Int) ((c.drop 4).take 55)=c then dB (((c.getD 3 0).toNat:Int),(c.drop 4).take 55)else et
def tV(x:aL):cU:=
 ⟨dv (x.take 3),dv ((x.drop 3).take 1),dv ((x.drop 4).take 2),(dv ((x.drop 6).take 1),dv ((x.drop 7).take 1),dv ((x.drop 8).take 1)),dv ((x.drop 9).take 4),(x.drop 13).take (dv ((x.drop 8).take 1)).toNat⟩
def dJ(c:aL):Option cU:=
 match jz c with
 |some (k,x)=>if k=1/\bK (tV x).p=ez/\cF (tV x)=c then dB (tV x)else et
 |none=>et
theorem XN(n:Int):bE n 1=[b8 n]:=by simp[bE]
theorem XO(n:Int):bE n 2=[b8 (zQ n (2^8)),b8 n]:=by simp[bE,zJ]
theorem Rv(n:Int):bE n 3=[b8 (zQ n (2^16)),b8 (zQ n (2^8)),b8 n]:=by simp[bE,zJ]
theorem IT(n:Int):bE n 4=[b8 (zQ n (2^24)),b8 (zQ n (2^16)),b8 (zQ n (2^8)),b8 n]:=by simp[bE,zJ]
theorem Ct{n:Int}(a:0<=n:=by omega)(b:n<256:=by omega):dv [b8 n]=n:=by simp only[dv,zB,wT,pJ];omega
theorem fdiv_pow(n:Int)(k:Nat):zQ n (2^k)=n/(2^k):=yk _ (Int.pow_nonneg i0)
theorem aby{n:Int}(a:0<=n)(b:n<65536):dv (bE n 2)=n:=by rw[XO,fdiv_pow];simp only[dv,zB,wT,pJ];omega
theorem Ve{n:Int}(a:0<=n)(b:n<16777216):dv (bE n 3)=n:=by rw[Rv,fdiv_pow,fdiv_pow];simp only[dv,zB,wT,pJ];omega
theorem LL{n:Int}(a:0<=n)(b:n<4294967296):dv (bE n 4)=n:=by rw[IT,fdiv_pow,fdiv_pow,fdiv_pow];simp only[dv,zB,wT,pJ];omega
theorem lq(r:cU):ji r=ez↔(0<=r.object/\r.object<=16777215)/\(0<=r.block/\r.block<=7)/\(0<=r.id/\r.id<=65535)/\bK r.p=ez/\(r.data.length:Int)=r.p.2.2:=by unfold ji fR bW;simp[and_assoc]
theorem oZ{r:cU}(h:ji r=ez):hY (jy r)=13+hY r.data/\r.data.length<=24:=by obtain⟨_,_,_,a,b⟩:=(lq r).1 h;have:=(bP r.p).1 a;refine⟨by unfold jy;simp[cw];omega,ii⟩
theorem Hx{r:cU}(h:ji r=ez):hY (cF r)=64:=by have:=oZ h;unfold cF;rw[f8 h];exact mJ i0 i0 ii
theorem Ay{k:Int}{a:aL}(b:1<=k:=by decide)(d:k<=255:=by decide)(h3:hY a<=55:=by omega):jz (eT k a)=dB (k,a++qg (55-hY a) 0):=by
 obtain⟨x,c⟩:=x6 (a++qg (55-hY a) 0)
 have e:hY x=55:=by rw[c];simp;omega
 have f:eT k a=[87,115,1,b8 k]++(x++(oN (BM (eN k a))++[165])):=by unfold eT;rw[f8 ⟨b,d,h3⟩];unfold eN;rw[c];simp[qn]
 have j:((eT k a).getD 3 0)=b8 k:=by rw[f];rfl
 have e2:((eT k a).drop 4).take 55=x:=by rw[f];have:([87,115,1,b8 k]++(x++(oN (BM (eN k a))++[165]))).drop 4=x++(oN (BM (eN k a))++[165]):=rfl;rw[this,List.take_append_of_le_length ii,qh ii]
 have h:((b8 k).toNat:Int)=k:=by rw[pJ];omega
 have g:eN k x=eN k a:=by unfold eN;rw[e,c];simp[qn]
 have i:eT k x=eT k a:=by unfold eT;rw[f8 ⟨b,d,ii⟩,f8 ⟨b,d,h3⟩,g]
 unfold jz;rw[j,e2,h,f8 ⟨mJ b d h3,i⟩,c]
theorem Vf{r:cU}(h:ji r=ez)(A:0<=r.seed/\r.seed<4294967296)(z:aL):tV (jy r++z)=r:=by
 obtain⟨t,x,h3,s,w⟩:=(lq r).1 h;have y:=(bP r.p).1 s;have l1:=cw r.object 3;have l2:=cw r.id 2;have i:=cw r.seed 4;have e:jy r++z=bE r.object 3++([b8 r.block]++(bE r.id 2++([b8 r.p.1]++([b8 r.p.2.1]++([b8 r.p.2.2]++(bE r.seed 4++(r.data++z))))))):=by unfold jy;rw[XN];simp[qn]
 have c:∀(u v:aL) (n:Nat),u.length=n->∀m,(u++v).drop (n+m)=v.drop m:=λu v n b m=>by
  rw[<-zN,<-b,List.drop_left]
 have a:∀(u v:aL) (n:Nat),u.length=n->(u++v).take n=u:=λu v n b=>by rw[<-b,vV]
 have f:(jy r++z).drop 3=[b8 r.block]++(bE r.id 2++([b8 r.p.1]++([b8 r.p.2.1]++([b8 r.p.2.2]++(bE r.seed 4++(r.data++z)))))):=by rw[e];exact c _ _ 3 l1 0
 have j:(jy r++z).drop 4=bE r.id 2++([b8 r.p.1]++([b8 r.p.2.1]++([b8 r.p.2.2]++(bE r.seed 4++(r.data++z))))):=by rw[show 4=3+1 from hZ,<-zN,f];rfl
 have g:(jy r++z).drop 6=[b8 r.p.1]++([b8 r.p.2.1]++([b8 r.p.2.2]++(bE r.seed 4++(r.data++z)))):=by rw[show 6=4+2 from hZ,<-zN,j];exact c _ _ 2 l2 0
 have k:(jy r++z).drop 7=[b8 r.p.2.1]++([b8 r.p.2.2]++(bE r.seed 4++(r.data++z))):=by rw[show 7=6+1 from hZ,<-zN,g];rfl
 have o:(jy r++z).drop 8=[b8 r.p.2.2]++(bE r.seed 4++(r.data++z)):=by rw[show 8=7+1 from hZ,<-zN,k];rfl
 have l:(jy r++z).drop 9=bE r.seed 4++(r.data++z):=by rw[show 9=8+1 from hZ,<-zN,o];rfl
 have d:(jy r++z).drop 13=r.data++z:=by rw[show 13=9+4 from hZ,<-zN,l];exact c _ _ 4 i 0
 have q:dv (((jy r++z).drop 8).take 1)=r.p.2.2:=by rw[o,a _ _ 1 hZ,Ct]
 unfold tV;rw[q,f,j,g,k,l,d];rw[a [b8 r.block] _ 1 hZ,a _ _ 2 l2,a [b8 r.p.1] _ 1 hZ,a [b8 r.p.2.1] _ 1 hZ,a _ _ 4 i];have t0:(jy r++z).take 3=bE r.object 3:=by rw[e];exact a _ _ 3 l1
 rw[t0,Ve ii ii,Ct,aby ii ii,Ct,Ct,LL ii ii];have:r.p.2.2.toNat=r.data.length:=ii
 rw[this,vV]
theorem lZ{r:cU}(h:ji r=ez)(a:0<=r.seed/\r.seed<4294967296):dJ (cF r)=dB r:=by
 have c:=oZ h;have b:=((lq r).1 h).2.2.2.1;have e:cF r=eT 1 (jy r):=by unfold cF;rw[f8 h]
 unfold dJ;rw[e,Ay];dsimp only;rw[Vf h a,f8 ⟨hZ,b,e⟩]
theorem Vg{c:aL}{r:cU}(h:dJ c=dB r):cF r=c/\ji r=ez/\bK r.p=ez:=by
 unfold dJ at h;cases hc:jz c with
 |none=>rw[hc]at h;cases h
 |some kx=>
  rw[hc]at h;dsimp only at h;by_cases a:kx.1=1/\bK (tV kx.2).p=ez/\cF (tV kx.2)=c
  .rw[f8 a]at h;injection h with h
   subst h;refine⟨a.2.2,?_,a.2.1⟩;by_cases d:ji (tV kx.2)=ez
   .exact d
   .exfalso;have b:=a.2.2;unfold cF at b;rw[f9 d]at b;unfold jz at hc;rw[<-b]at hc;simp at hc
  .rw[f9 a]at h;cases h
section
variable {C:Ctx} {ts:Nat}
theorem GG:∀(l:aL) (b:ByteArray),l.foldl ByteArray.push b=⟨(b.data.toList++l).toArray⟩
 |[],b=>i6
 |x::l,b=>by
  rw[zB,GG l (b.push x)];simp[ByteArray.push]
theorem FV(j:C.Ok)(A:∃i,C.T.get t=dB i/\i.cD=.slice e)(G:∃i,C.T.get ts=dB i/\i.cD=.str)(J:∃i,C.T.get e=dB i/\i.cD=.int .u8){s:Sl}{l:aL}{p:av}(w:Seq h p s 1 aB l){K:ByteArray->f7->Prop}(y:K ⟨l.toArray⟩ h):
  bx C.P (convert t ts (.slice s.ptr s.len s.cap)) (.one (.sc .str)) h K:=by
 obtain⟨N,B,z⟩:=G;obtain⟨M,D,L⟩:=A;obtain⟨i3,a3,F⟩:=J;have H:C.P.underlying ts=dB .string:=by have:=j.cD B;rw[z]at this;exact ul this
 have I:C.P.underlying t=dB (.slice e):=by have:=j.cD D;rw[L]at this;exact jV this
 have u3:C.P.underlying e=dB (.int .u8):=by have:=j.cD a3;rw[F]at this;exact FM this
 unfold bx convert;refine au.bind (au.always (aF I) ?_);refine au.bind (au.always (aF H) ?_);refine au.bind (au.always (aF u3) ?_);unfold Conv.bytesToString;have d:=gw (P:=C.P) (f:=aB) (k:=1) (K:=λcs h'=>cs=(l.flatMap aB).toArray/\h'=h) (λ_=>rfl) w ⟨hZ,hZ⟩;cases hp:s.ptr with
 |none=>
  have:l=[]:=by
   cases l with
   |nil=>rfl
   |cons x r=>obtain⟨b,o,u,_⟩:=w.elem 0 x i6;rw[hp]at u;cases u
  subst this;exact au.pure' ⟨⟨#[]⟩,hZ,y⟩
 |some a=>
  rw[hp]at d;dsimp only;have g:au C.P (loadCells a s.len) h λcs h'=>cs=(l.flatMap aB).toArray/\h'=h:=by
   have:wP 1 s.len (.slice (dB a) s.len s.cap)=loadCells a s.len:=by unfold wP;simp
   rw[<-this];exact d
  refine au.bind (g.mono ?_);rintro _ _ ⟨rfl,rfl⟩;have q:∀(l:aL) (b:ByteArray),aI C.P (forIn (m:=Sem) (l.flatMap aB) b λc r=>match c with
    |xJ xQ n=>do pure (ForInStep.yield (r.push (yR n.toNat)))
    |_=>do let r<-stuck "bytesToString: byte expected";pure r) (l.foldl ByteArray.push b):=λl=>by
   induction l with
   |nil=>intro b;exact .pure
   |cons x l ih=>
    intro b;have E:(x::l).flatMap aB=Value.int .u8 x.toNat::l.flatMap aB:=rfl;rw[E,List.forIn_cons];have e2:b.push (yR ((x.toNat:Int)).toNat)=b.push x:=by rw[qj];congr 1;apply yJ.1;simp
    refine aI.bind (v:=ForInStep.yield (b.push x)) (by dsimp only;rw[e2];exact .pure) ?_;exact ih _
  refine au.bind (au.always (v:=l.foldl ByteArray.push ByteArray.empty) ?_ ?_)
  .rw[List.forIn_toArray];exact q l _
  .refine au.pure' ⟨_,hZ,?_⟩;rw[GG];exact y
end
section
variable (le:α->α->Bool)
def jk(a b:α):Bool:=le a b&&le b a
def cm(l l':List α):Prop:=∀x,l.filter (jk le x)=l'.filter (jk le x)
def Sd(l:List α):Prop:=l.Pairwise λa b=>le a b=ez
structure Ord:Prop where
 trans:∀a b c,le a b=ez->le b c=ez->le a c=ez
 total:∀a b,(le a b||le b a)=ez
variable {le}
theorem Ord.BN(o:Ord le){a b:α}(h:¬le a b=ez):le b a=ez:=by
 have:=o.total a b;cases h1:le a b with
 |true=>exact absurd h1 h
 |false=>rw[h1]at this;simpa using this
theorem Ord.refl(o:Ord le)(a:α):le a a=ez:=by have:=o.total a a;simpa using this
theorem cm.refl(l:List α):cm le l l:=λ_=>rfl
theorem cm.trans{l1 l2 a:List α}(h:cm le l1 l2)(k:cm le l2 a):cm le l1 a:=λx=>(h x).trans (k x)
theorem cm.symm{l1 l2:List α}(h:cm le l1 l2):cm le l2 l1:=λx=>(h x).symm
theorem cm.app{a b c d:List α}(h:cm le a b)(k:cm le c d):cm le (a++c) (b++d):=λx=>by
 rw[zm,zm,h x,k x]
theorem cm.mem(o:Ord le){l l':List α}(h:cm le l l'){y:α}(b:y∈l'):y∈l:=by have a:y∈l'.filter (jk le y):=qD.2 ⟨b,nq⟩;rw[<-h y]at a;exact(qD.1 a).1
theorem cm.TD(o:Ord le){u v:List α}(h:∀x∈u,∀y∈v,¬le x y=ez):cm le (u++v) (v++u):=λz=>by
 rw[zm,zm];by_cases f:u.filter (jk le z)=[]
 .rw[f];simp
 .by_cases e:v.filter (jk le z)=[]
  .rw[e];simp
  .exfalso;obtain⟨x,g⟩:=yq _ f;obtain⟨y,i⟩:=yq _ e;obtain⟨d,b⟩:=qD.1 g;obtain⟨c,a⟩:=qD.1 i;unfold jk at b a;simp only[qy]at b a;exact h x d y c (o.trans _ _ _ b.2 a.1)
theorem cm.OG(o:Ord le){l:List α}(h:cm le [] l):l=[]:=by
 cases l with
 |nil=>rfl
 |cons a l=>exact absurd (cm.mem o h (qF ..)) i6
theorem LM(o:Ord le):∀(l l':List α),Sd le l->Sd le l'->cm le l l'->l=l'
 |[],l',_,_,h=>(cm.OG o h).symm
 |a::l,[],_,_,h=>absurd (cm.OG o h.symm) i6
 |a::l,b::l',s,s',h=>by
  have c:a=b:=by
   have d:le a b=ez:=by
    have:=cm.mem o h (y:=b) (qF ..);rcases qT.1 this with e|e
    .rw[e];exact o.refl _
    .exact(zx.1 s).1 _ e
   have g:le b a=ez:=by
    have:=cm.mem o h.symm (y:=a) (qF ..);rcases qT.1 this with e|e
    .rw[e];exact o.refl _
    .exact(zx.1 s').1 _ e
   have h3:=h a;have f:jk le a a=ez:=nq
   have e2:jk le a b=ez:=by unfold jk;rw[d,g];rfl
   rw[vd f,vd e2]at h3;injection h3
  subst c;rw[LM o l l' (zx.1 s).2 (zx.1 s').2 λx=>by
   have h3:=h x;rw[zr,zr]at h3;split at h3
   .injection h3
   .exact h3]
theorem Ek(o:Ord le)(l:List α):Sd le (l.mergeSort le)/\cm le l (l.mergeSort le):=by
 refine⟨ve o.trans o.total l,λx=>?_⟩;have g:(l.filter (jk le x)).Pairwise λa b=>le a b=ez:=by rw[List.pairwise_filter];refine List.Pairwise.imp ?_ (List.pairwise_of_forall (l:=l) (R:=λ_ _=>True) λ_ _=>trivial);intro a b _ d e;unfold jk at d e;simp only[qy]at d e;exact o.trans _ _ _ d.2 e.1
 have f:=List.sublist_mergeSort o.trans o.total g List.filter_sublist;have c:=f.filter (jk le x);rw[List.filter_filter]at c;simp only[Bool.and_self]at c;exact c.eq_of_length ((wX l le).symm.filter _).length_eq
theorem Vh(o:Ord le){l l':List α}(s:Sd le l')(h:cm le l l'):l'=l.mergeSort le:=by obtain⟨a,b⟩:=Ek o l;exact LM o _ _ s a (h.symm.trans b)
theorem Sd.app(o:Ord le){u v:List α}(b:Sd le u)(a:Sd le v)(h:∀x∈u,∀y∈v,le x y=ez):Sd le (u++v):=ye.2 ⟨b,a,h⟩
theorem Sd.left{u v:List α}(h:Sd le (u++v)):Sd le u:=(ye.1 h).1
theorem Sd.right{u v:List α}(h:Sd le (u++v)):Sd le v:=(ye.1 h).2.1
theorem Sd.Az{u v:List α}(h:Sd le (u++v)):∀x∈u,∀y∈v,le x y=ez:=(ye.1 h).2.2
theorem Sd.at_(o:Ord le){l:List α}(h:Sd le l){i j:Nat}(b:i<=j)(a:j<hY l):le (l[i]'ii) l[j]=ez:=by
 by_cases e:i=j
 .subst e;exact o.refl _
 .exact zq.1 h i j ii a ii
theorem XP(o:Ord le){l1 l2 a b f g:List α}(m:Sd le (l1++l2))(p:Sd le (a++b))(h:∀x∈l1,∀y∈b,le x y=ez)(e:∀x∈l2,∀y∈a,¬le x y=ez)
  (i:cm le (l1++a) f) (n:Sd le f) (j:cm le (l2++b) g) (l:Sd le g):Sd le (f++g)/\cm le ((l1++l2)++(a++b)) (f++g):=by
 constructor
 .refine Sd.app o n l λx c y d=>?_;rcases qt.1 (cm.mem o i c)with c|c<;>rcases qt.1 (cm.mem o j d)with d|d
  .exact m.Az x c y d
  .exact h x c y d
  .exact o.BN (e y d x c)
  .exact p.Az x c y d
 .have k:cm le ((l1++l2)++(a++b)) ((l1++a)++(l2++b)):=by rw[show(l1++l2)++(a++b)=l1++((l2++a)++b)by simp,show(l1++a)++(l2++b)=l1++((a++l2)++b)by simp];exact(cm.refl _).app ((cm.TD o e).app (cm.refl _))
  exact k.trans (i.app j)
end
variable {le:α->α->Bool}
theorem uo(o:Ord le):∀{l l':List α},cm le l l'->hY l=hY l'
 |[],l',h=>by rw[cm.OG o h]
 |a::l,l',h=>by
  have s:=cm.mem o h.symm (y:=a) (qF ..);obtain⟨u,v,w⟩:=List.append_of_mem s;have t:∃(u:List α) (b:α) (v:List α),l'=u++b::v/\(∀x∈u,jk le a x=eH)/\jk le a b=ez:=by
   have k:l'.filter (jk le a)≠[]:=λE=>by
    have:a∈l'.filter (jk le a):=qD.2 ⟨s,nq⟩;rw[E]at this;cases this
   clear w u v s h
   induction l' with
   |nil=>exact absurd hZ k
   |cons c l' ih=>
    by_cases p:jk le a c=ez
    .exact⟨[],c,l',hZ,i6,p⟩
    .rw[List.filter_cons_of_neg p]at k;obtain⟨u,b,v,e,f,g⟩:=ih k;refine⟨c::u,b,v,n4,λx i=>?_,g⟩;rcases qT.1 i with rfl|i
     .simpa using p
     .exact f x i
  obtain⟨u,b,v,rfl,z,F⟩:=t;have B:jk le a a=ez:=nq
  have m:=h a;have q:u.filter (jk le a)=[]:=wV.2 λx i=>by rw[z x i];simp
  rw[vd B,zm,q,we,vd F]at m;have r:a=b:=by injection m
  subst r;have A:cm le l (u++v):=λx=>by
   have i:=h x;rw[zr,zm,zr]at i;rw[zm];by_cases d:jk le x a=ez
   .rw[f8 d,f8 d]at i;have n:u.filter (jk le x)=[]:=wV.2 λy D j=>by
     have:=z y D;unfold jk at this d j;simp only[qy]at d j;rw[o.trans _ _ _ d.2 j.1,o.trans _ _ _ j.2 d.1]at this;cases this
    rw[n,we]at i⊢;injection i
   .rw[f9 d,f9 d]at i;exact i
  rw[za,uo o A];simp;omega
theorem IU{P:Program}{id:FuncId}(F:∀(fm off cap:Nat) (i:az) (w:World),Sort.Holds (Value.int .i64) w fm off i.toArray->hY i<=9223372036854775807->hY i<=cap->
   Calls P id #[.slice (dB ⟨fm,off,et⟩) i.length cap] w λe r=>e=.returned (.slice (dB ⟨fm,off,et⟩) (Lib.compact i).length cap)/\∃q,r=Sort.putRow (Value.int .i64) (Sort.ahead w q) fm off (Lib.compact i++qg (hY i-hY (Lib.compact i)) 0).toArray)
  (B:∀(a:bD) (cap:Nat) (w:World),Calls P id #[.slice a 0 cap] w λe r=>e=.returned (.slice a 0 cap)/\r=w)
  {e:TypeId} {s:Sl} {l:az} {h:f7} (x:Own h e s 1 aw l) (H:hY l<2^40):
  ai P id #[.slice s.ptr s.len s.cap] h λv h'=>v=.slice s.ptr (Lib.compact l).length s.cap/\Own h' e ⟨s.ptr,hY (Lib.compact l),s.cap⟩ 1 aw (Lib.compact l)/\aS (λb=>¬s.on b) h h':=by
 intro w o;have f:=x.len;have z:=x.cap;rcases x.head with⟨h1,h2,h3⟩|⟨b,rest,h1,h2,h3,h4⟩
 .subst h3;have y:Lib.compact ([]:az)=[]:=rfl;rw[f,h1];refine(B et s.cap w).mono ?_;rintro E r ⟨rfl,rfl⟩;refine⟨_,hZ,dh.refl _,by rw[y];rfl,by rw[y];exact⟨hZ,.inl ⟨hZ,by simpa using h2,hZ⟩⟩,by rw[<-o];exact aS.refl _ _⟩
 .rw[h1,f];have u:w.heap[b]?=dB (.cells (l.flatMap aw++rest).toArray e (0,0)):=by rw[o];exact h2
  refine(F b 0 s.cap l w (LJ u) ii ii).mono ?_;rintro E r ⟨rfl,n,rfl⟩;have p:=lt_of_block u;have G:=Lib.compact_length_le l;obtain⟨l',g⟩:∃l',l'=Lib.compact l++qg (hY l-hY (Lib.compact l)) 0:=⟨_,rfl⟩
  rw[<-g];have m:hY l'=hY l:=by rw[g];simp;omega
  have c:∀k,k<h.size->(Sort.putRow (Value.int .i64) (Sort.ahead w n) b 0 l'.toArray).heap[k]?=if b=k then dB (.cells (l'.flatMap aw++rest).toArray e (0,0))else h[k]?:=by
   intro k A;simp only[Sort.putRow,Sort.mapBlock,Sort.ahead,wL];by_cases d:b=k
   .subst d;rw[f8 hZ,f8 hZ,u,qS,Sort.onCells,Ov _ _ _ m]
   .rw[f9 d,f9 d,o]
  rw[o]at p;have t:Own (Sort.putRow (Value.int .i64) (Sort.ahead w n) b 0 l'.toArray).heap e s 1 aw l':=⟨by rw[m];exact f,.inr ⟨b,rest,h1,by rw[c b p,f8 rfl],h3,h4⟩⟩
  have j:=t.cut (λ_=>rfl) (Lib.compact l).length ii;rw[g,vV]at j;refine⟨_,hZ,⟨hZ,hZ,hZ,by simp[Sort.putRow,Sort.mapBlock,Sort.ahead]⟩,hZ,by rw[h1]at j;rw[g];exact j,by simp[Sort.putRow,Sort.mapBlock,Sort.ahead,o],?_⟩;intro k A D;rw[c k A,f9 λd=>D ⟨0,by rw[h1,d]⟩]
theorem uN(a:az)(s:a.Pairwise (·<=·)):∀m,m<=hY a->(Lib.compactUpTo a.toArray m).Pairwise (·<·)/\(∀x,x∈Lib.compactUpTo a.toArray m↔∃j,j<m/\a[j]?=dB x)
 |0,_=>⟨by simp[Lib.compactUpTo],λx=>by simp[Lib.compactUpTo]⟩
 |m+1,hm=>by
  obtain⟨v,q⟩:=uN a s m ii;have c:m<hY a:=ii
  have t:a.toArray[m]! =a[m]:=n8
  rw[Lib.compactUpTo_succ,t];have u:∀j (f:j<m),a[j]'ii<=a[m]:=λj f=>zq.1 s j m ii c f;by_cases i:Lib.keeps a.toArray m=ez
  .rw[f8 i];have p:m=0∨a[m-1]'ii<a[m]:=by
    by_cases l:m=0
    .exact .inl l
    .right;have g:a.toArray[m-1]! =a[m-1]'ii:=by simp[show m-1<hY a by omega]
     have z:a[m]≠a[m-1]'ii:=λn=>by
      have:=Lib.keeps_neg (d:=a.toArray) (m:=m) ii (by rw[t,g];exact n);rw[this]at i;cases i
     have:=u (m-1) ii;omega
   have k:∀x∈Lib.compactUpTo a.toArray m,x<a[m]:=λx o=>by
    obtain⟨j,f,h⟩:=(q x).1 o;rw[qc ii]at h;injection h with h
    rcases p with h0|h0
    .omega
    .have h3:a[j]'ii<=a[m-1]'ii:=by
      by_cases b:j=m-1
      .subst b;exact Int.le_refl _
      .exact zq.1 s j (m-1) ii ii ii
     omega
   refine⟨ye.2 ⟨v,i6,λx o y w=>?_⟩,λx=>?_⟩
   .rw[qp.1 w];exact k x o
   .rw[qt,q,qp];constructor
    .rintro(⟨j,f,e⟩|rfl)
     .exact⟨j,ii,e⟩
     .exact⟨m,ii,qc c⟩
    .rintro⟨j,f,e⟩;by_cases b:j=m
     .subst b;rw[qc c]at e;injection e with e;exact .inr e.symm
     .exact .inl ⟨j,ii,e⟩
  .rw[f9 i,qG];have l:m≠0:=λh0=>i (by subst h0;exact Lib.keeps_lt_one _ 0 ii);have r:a[m]=a[m-1]'ii:=by
    by_cases n:a[m]=a[m-1]'ii
    .exact n
    .have g:a.toArray[m-1]! =a[m-1]'ii:=by simp[show m-1<hY a by omega]
     exact absurd (Lib.keeps_pos (d:=a.toArray) (m:=m) (by rw[t,g];exact n)) i
   refine⟨v,λx=>?_⟩;rw[q];constructor
   .rintro⟨j,f,e⟩;exact⟨j,ii,e⟩
   .rintro⟨j,f,e⟩;by_cases b:j=m
    .subst b;refine⟨j-1,ii,?_⟩;rw[qc c]at e;rw[qc ii,<-r];exact e
    .exact⟨j,ii,e⟩
theorem El(l:az):(iC l).Pairwise (·<=·):=by have:=ve (le:=λx y:Int=>decide (x<=y)) (by intro a b c d e;simp at d e⊢;omega) (by intro a b;simp;omega) l;exact this.imp λh=>j4
theorem Vi(l:az)(h:∀x∈l,0<=x/\x<64):Lib.compact (iC l)=cI l:=by
 obtain⟨d,c⟩:=uN (iC l) (El l) (iC l).length (qm _);have m:∀x,x∈Lib.compact (iC l)↔x∈l:=λx=>by
  unfold Lib.compact;rw[c,<-Au l x,List.mem_iff_getElem?];constructor
  .rintro⟨j,_,e⟩;exact⟨j,e⟩
  .rintro⟨j,e⟩;exact⟨j,(qk.1 e).1,e⟩
 have i:(cI l).Pairwise (·<·):=by unfold cI;refine List.Pairwise.filter _ ?_;rw[List.pairwise_map];exact List.pairwise_lt_range.imp λh=>ii
 have f:∀x,x∈cI l↔x∈l:=λx=>by
  unfold cI;rw[qD,qo];constructor
  .rintro⟨_,c⟩;simpa using c
  .intro g;obtain⟨a,b⟩:=h x g;exact⟨⟨x.toNat,qz.2 ii,ii⟩,m0⟩
 have k:(Lib.compact (iC l)).Perm (cI l):=(List.perm_ext_iff_of_nodup (d.imp λh=>ii) (i.imp λh=>ii)).2 λx=>(m x).trans (f x).symm;exact k.eq_of_pairwise (le:=(·<·)) (λa b _ _ d c=>ii) d i
def cv(o b t:Int):Int:=(128*o+16*b+t)%4294967296
def eU(m:ak)(r:cU):Bool:=ji r&&(decide (r.p=m.p)&&m.objs.any λx=>decide (x.object=r.object)&&(decide (r.block<(x.tries.length:Int))&&decide (r.seed=cv r.object r.block (x.tries.getD r.block.toNat 0))))
def ro(a b:cU):Bool:=decide (a.object<b.object∨(a.object=b.object/\(a.block<b.block∨(a.block=b.block/\a.id<=b.id))))
def nI(a b:cU):Bool:=decide (a.object=b.object/\a.block=b.block/\a.id=b.id)
def IV:cU:=⟨0,0,0,(0,0,0),0,[]⟩
def sC(l:List cU)(k:Nat):Bool:=decide (k=0)||!nI (l.getD k IV) (l.getD (k-1) IV)
def rK(l:List cU):List cU:=((qx l.length).filter (sC l)).map λi=>l.getD i IV
def jd(m:ak)(c:aL):Option cU:=match dJ c with|some r=>if eU m r then dB r else et|none=>et
def dQ(m:ak)(l:bH):List cU:=rK ((l.filterMap (jd m)).mergeSort ro)
theorem agX:Ord ro:=⟨λa b c d e=>by
 unfold ro at*;rw[decide_eq_true_eq]at*;omega,λa b=>by
 unfold ro;rw[wb,decide_eq_true_eq,decide_eq_true_eq];omega⟩
theorem Vj(m:ak)(l:bH)(i:Nat)(a:i<hY l):(l.take (i+1)).filterMap (jd m)=(l.take i).filterMap (jd m)++(jd m l[i]).toList:=by
 have:l.take (i+1)=l.take i++[l[i]]:=by rw[List.take_add_one,qc a];rfl
 rw[this,List.filterMap_append];cases hg:jd m l[i]with
 |none=>simp[hg]
 |some r=>simp[hg]
section
variable {C:Ctx}
theorem Dz(z:aT)(n:Nat):(yE z.toArray n).toList.length=n*hY z:=by simp[yE]
theorem Nb{z:aT}(d:∀v∈z,v.oneCell'=ez)(n:Nat):∀v∈(yE z.toArray n).toList,v.oneCell'=ez:=by
 intro v c;simp only[yE,xf,qo,Array.mem_toList_iff,Array.mem_range]at c;obtain⟨i,a,rfl⟩:=c;simp only[wY]at a⊢;have h0:0<hY z:=by
  rcases Nat.eq_zero_or_pos z.length with h|h
  .rw[h]at a;simp at a
  .exact h
 have b:=y8 i h0;rw[getElem!_pos z.toArray _ j9];exact d _ i6
theorem Own.pc(y:C.Ok)(o:Own h e s k f l)(B:bL C.toBH t e k z by_)(n:∀x,hY (f x)=k)(A:hY z=k)(d:∀v∈z,v.oneCell'=ez)(j:Nat)(w:j<=hY l){ty:Nat}{K:f7->Prop}
  (p:∀h',Own h' e ⟨s.ptr,j,s.cap⟩ k f (l.take j)->aS (λb=>¬s.on b) h h'->K h'):
  au C.P (vS #[t] ty #[.slice (if s.cap=j then s.ptr else s.ptr.map (·.add (j*k))) (s.len-j) (s.cap-j)]) h λ_ h'=>K h':=by
 have U:=o.len;have c:=o.cut n j w;unfold vS;refine au.bind (au.always (aF (B.under y)) ?_);by_cases i:j=hY l
 .have E:s.len-j=0:=ii
  rw[E];generalize (if s.cap=j then s.ptr else s.ptr.map (·.add (j*k)))=q;cases q with
  |none=>exact au.pure' (p h c (aS.refl _ _))
  |some a=>exact au.pure' (p h c (aS.refl _ _))
 .rcases o.head with⟨h1,h2,h3⟩|⟨b,rest,h1,h2,h3,h4⟩
  .subst h3;simp at w i;omega
  .have u:s.cap≠j:=ii
   rw[f9 u,h1];obtain⟨m,M⟩:∃m,s.len-j=m+1:=⟨s.len-j-1,ii⟩
   rw[M];obtain⟨T,R,N,S,L,Q,I,O⟩:=B.ex;obtain⟨G,D,J⟩:=su y.toOk L;refine au.bind (au.always D ?_);have g:G.cells=z.toArray:=by apply yI;rw[J,I]
   rw[g];refine au.bind ?_;have F:((⟨b,0,et⟩:eS).add (j*k))=⟨b,j*k,et⟩:=by simp[add_eq]
   show au C.P (storeCells ((⟨b,0,et⟩:eS).add (j*k)) (yE z.toArray (m+1)).toList) h _;rw[F];have r:hY (l.drop j)=m+1:=i5
   refine fc (e:=e) (pre:=(l.take j).flatMap f) (old:=(l.drop j).flatMap f) (post:=rest) ?_ ?_ ?_ (Nb d _) ?_
   .rw[<-q9,qC];exact h2
   .rw[dm n,r,Dz,A]
   .rw[dm n,qR,wz ii];omega
   .refine au.pure' (p _ ⟨i5,.inr ⟨b,(yE z.toArray (m+1)).toList++rest,h1,?_,?_,i4⟩⟩ ?_)
    .rw[iA h2,f8 rfl];simp
    .rw[qw,Dz,A,h3,<-Nat.add_mul];dsimp only;congr 1;omega
    .exact aS.jD h2 λH=>H ⟨0,h1⟩
theorem aa.pc(o:C.Ok)(H:aa B h0 h As)(i:Nat)(m:As[i]?=dB (an e s k f l))(u:bL C.toBH t e k z by_)(p:∀x,hY (f x)=k)(r:hY z=k)(a:∀v∈z,v.oneCell'=ez)(j:Nat)(n:j<=hY l){ty:Nat}{K:f7->Prop}
  (w:∀h',aa B h0 h' (As.set i (an e ⟨s.ptr,j,s.cap⟩ k f (l.take j)))->K h'):
  au C.P (vS #[t] ty #[.slice (if s.cap=j then s.ptr else s.ptr.map (·.add (j*k))) (s.len-j) (s.cap-j)]) h λ_ h'=>K h':=
 (H.own i m).pc o u p r a j n λh' x y=>w h' (H.step i m λq g _=>⟨y.mono λb _ c d=>c (g.2 b d),x,λb c=>⟨x.lt c,.inl (g.2 b c)⟩⟩)
end
theorem NG:∀x y:aL,(Op.bytesLess x y||x==y)=!Op.bytesLess y x
 |[],[]=>rfl
 |[],_::_=>rfl
 |_::_,[]=>by simp[Op.bytesLess]
 |a::x,b::y=>by
  have f:=NG x y;have e:a<b∨a=b∨b<a:=by
   rcases yj a.toNat b.toNat with h|h|h
   .exact .inl (wi.2 h)
   .exact .inr (.inl (yJ.1 h))
   .exact .inr (.inr (wi.2 h))
  rcases e with h|rfl|h
  .have c:¬b<a:=λh'=>by have:=wi.1 h;have:=wi.1 h';omega
   have d:b≠a:=λh'=>by subst h';exact c h
   simp[Op.bytesLess,h,c,d]
  .have c:¬a<a:=λh'=>by have:=wi.1 h';omega
   simp only[Op.bytesLess,c,decide_false,Bool.false_or,beq_self_eq_true,zS];rw[<-f];congr 1;simp
  .have c:¬a<b:=λh'=>by have:=wi.1 h;have:=wi.1 h';omega
   have d:a≠b:=λh'=>by subst h';exact c h
   simp[Op.bytesLess,h,c,d]
theorem FW:∀x y z:aL,Op.bytesLess x y=ez->Op.bytesLess y z=ez->Op.bytesLess x z=ez
 |x,[],_,h1,_=>by cases x<;>simp[Op.bytesLess]at h1
 |_,b::y,[],_,h2=>by simp[Op.bytesLess]at h2
 |[],_::_,_::_,_,_=>rfl
 |a::x,b::y,c::z,h1,h2=>by
  simp only[Op.bytesLess,wb,decide_eq_true_eq,qy,beq_iff_eq]at h1 h2⊢;rcases h1 with h1|⟨rfl,h1⟩
  .rcases h2 with h2|⟨rfl,h2⟩
   .exact .inl (wi.2 (by have:=wi.1 h1;have:=wi.1 h2;omega))
   .exact .inl h1
  .rcases h2 with h2|⟨rfl,h2⟩
   .exact .inl h2
   .exact .inr ⟨hZ,FW x y z h1 h2⟩
theorem XQ(x:aL):Op.bytesLess x x=eH:=by
 have:=NG x x;cases h:Op.bytesLess x x with
 |false=>rfl
 |true=>rw[h]at this;simp at this
def kp(a b:ByteArray):Bool:=!fK b a
theorem IW(a b:ByteArray):kp a b=ez↔fK a b=ez∨a.toList=b.toList:=by unfold kp fK;rw[<-NG,wb,beq_iff_eq]
theorem Em(a b c:ByteArray)(d:kp a b=ez)(e:kp b c=ez):kp a c=ez:=by
 rw[IW]at d e⊢;unfold fK at*;rcases d with d|d
 .rcases e with e|e
  .exact .inl (FW _ _ _ d e)
  .rw[<-e];exact .inl d
 .rw[d];exact e
theorem En(a b:ByteArray):(kp a b||kp b a)=ez:=by
 unfold kp;cases h:fK b a with
 |false=>rfl
 |true=>
  have:fK a b=eH:=by
   cases h2:fK a b with
   |false=>rfl
   |true=>
    have:=FW _ _ _ h h2;rw[XQ]at this;cases this
  rw[this];rfl
def tW(a b:cb):Bool:=kp a.name b.name
def fB(m:ak)(x:cb):ak:={m with seq:=m.seq+1,next:=m.next+1,objs:=(m.objs++[x]).mergeSort tW}
section
open Classical
theorem ma(a:UInt8):a^^^a=0:=UInt8.xor_self
theorem rL(a b:UInt8):(a^^^b)^^^b=a:=by rw[UInt8.xor_assoc,ma,wh]
theorem cO{c:UInt8}{a t:Row}(h:hY a=hY t)(j:Nat):aO (cW c a t) j=aO t j^^^Gf.mul c (aO a j):=by
 simp only[aO,cW,qd,zL];by_cases b:j<hY a
 .rw[qc b,qc ii];rfl
 .rw[qJ ii,qJ ii];simp[Gf.mul_zero]
theorem AA(c:UInt8)(a:Row)(j:Nat):aO (scaleB c a) j=Gf.mul c (aO a j):=by
 simp only[aO,scaleB,qd,qO];cases a[j]? with
 |none=>simp[Gf.mul_zero]
 |some x=>rfl
def aK(n:Nat):Row:=qg n 0
theorem cB(n j:Nat):aO (aK n) j=0:=by simp only[aO,aK,qd,List.getElem?_replicate];split<;>rfl
theorem fh{n:Nat}{a b:Row}(e:hY a=n)(f:hY b=n)(h:∀j,j<n->aO a j=aO b j):a=b:=by apply wk ii;intro j c d;have:=h j ii;simpa[aO,qd,qc c,qc d]using this
inductive Span (n:Nat) (m:aN):Row->Prop
 |zero:Span n m (aK n)
 |add (c:UInt8) (r v:Row):r∈m->Span n m v->Span n m (cW c r v)
section
variable {n:Nat} {m m':aN}
theorem Span.len(a:aV n m){v:Row}(h:Span n m v):hY v=n:=by
 induction h with
 |zero=>simp[aK]
 |add c r v hr _ ih=>rw[bX (by rw[a r hr,ih])];exact ih
theorem Span.comb(a:aV n m){u v:Row}(e:Span n m u)(b:Span n m v)(c:UInt8):Span n m (cW c u v):=by
 induction e with
 |zero=>
  have:cW c (aK n) v=v:=fh (n:=n) (by rw[bX (by simp[aK,b.len a])];exact b.len a) (b.len a) λj _=>by
   rw[cO (by simp[aK,b.len a]),cB,Gf.mul_zero,wh]
  rw[this];exact b
 |add d r w hr hw ih=>
  have l1:=b.len a;have l2:=hw.len a;have f:=a r hr;have:cW c (cW d r w) v=cW (Gf.mul c d) r (cW c w v):=fh (n:=n) (by rw[bX k9];exact l1) (by rw[bX k9,bX];exact l1) λj _=>by
   rw[cO k9,cO ii,cO k9,cO ii,Gf.kG,Gf.mul_assoc]
   ac_rfl
  rw[this];exact .add _ _ _ hr ih
theorem Span.row(b:aV n m){r:Row}(a:r∈m):Span n m r:=by
 have:=Span.add 1 r _ a (.zero (n:=n) (m:=m));have e:cW 1 r (aK n)=r:=fh (n:=n) (by rw[bX (by simp[aK,b r a])];simp[aK]) (b r a) λj _=>by
  rw[cO (by simp[aK,b r a]),cB,Gf.one_mul,wG]
 rwa [e]at this
theorem Span.sub(a:aV n m)(h:∀r∈m',Span n m r){v:Row}(b:Span n m' v):Span n m v:=by
 induction b with
 |zero=>exact .zero
 |add c r v hr _ ih=>exact(h r hr).comb a ih c
theorem Span.mono(h:∀r∈m',r∈m){v:Row}(a:Span n m' v):Span n m v:=by
 induction a with
 |zero=>exact .zero
 |add c r v hr _ ih=>exact .add c r v (h r hr) ih
theorem Span.lin(d:aV n m)(φ:Row->UInt8)(e:φ (aK n)=0)(g:∀c a t,hY a=n->hY t=n->φ (cW c a t)=φ t^^^Gf.mul c (φ a))(f:∀r∈m,φ r=0){v:Row}(b:Span n m v):φ v=0:=by
 induction b with
 |zero=>exact e
 |add c r v hr' b ih=>rw[g c r v (d r hr') (b.len d),ih,f r hr',Gf.mul_zero,wh]
end
def Bg(S:Row->Prop)(j:Nat):Prop:=∃v,S v/\(∀i,i<j->aO v i=0)/\aO v j≠0
noncomputable def leads(S:Row->Prop)(n:Nat):Nat:=(qx n).countP λj=>decide (Bg S j)
structure Way (n:Nat) (m:aN) (c top:Nat) (rows:aN):Prop where
 even:aV n rows
 len:hY rows=hY m
 tle:top<=hY rows
 span:∀v,Span n rows v↔Span n m v
 cnt:top=leads (Span n m) c
 piv:∃p:Nat->Nat,(∀i,i<top->p i<c)/\(∀i,i<top->∀k,k<hY rows->aO (aC rows k) (p i)=if k=i then 1 else 0)/\(∀i,i<top->∀j,j<p i->aO (aC rows i) j=0)/\(∀i j,i<j->j<top->p i<p j)
 low:∀k,top<=k->k<hY rows->∀j,j<c->aO (aC rows k) j=0
theorem mem_row{m:aN}{i:Nat}(h:i<hY m:=by omega):aC m i∈m:=by rw[bv h];exact qf h
theorem fC{m:aN}{r:Row}(h:r∈m):∃i,i<hY m/\r=aC m i:=by obtain⟨i,a,rfl⟩:=qB h;exact⟨i,a,(bv a).symm⟩
theorem lL{m:aN}{i j:Nat}{r:Row}(a:i<hY m:=by omega):aC (m.set i r) j=if i=j then r else aC m j:=by
 simp only[aC,qd,qW];by_cases h:i=j
 .subst h;simp[a]
 .simp[h]
theorem uO{m:aN}{i j k:Nat}(d:i<hY m)(c:j<hY m):aC (jK m i j) k=if k=j then aC m i else if k=i then aC m j else aC m k:=by
 rw[jK,lL l7,lL d];by_cases a:j=k
 .rw[f8 a,f8 a.symm]
 .rw[f9 a,f9 (show¬k=j fromλh=>a h.symm)];by_cases b:i=k
  .rw[f8 b,f8 b.symm]
  .rw[f9 b,f9 (show¬k=i fromλh=>b h.symm)]
theorem Cu{m:aN}{t c k:Nat}(a:t<hY m):aC (ky t c m) k=if t=k then scaleB (Gf.inv (aO (aC m t) c)) (aC m t)else aC m k:=by rw[ky,lL a]
section
variable {n:Nat} {m:aN}
theorem XR(l:aV n m){i j:Nat}(b:i<hY m)(a:j<hY m)(v:Row):Span n (jK m i j) v↔Span n m v:=by
 refine⟨Span.mono λr f=>?_,Span.mono λr f=>?_⟩
 .obtain⟨k,c,rfl⟩:=fC f;rw[lY]at c;rw[uO b a];split
  .exact mem_row b
  .split
   .exact mem_row a
   .exact mem_row c
 .obtain⟨k,c,rfl⟩:=fC f;have e:∀x,x<hY m->aC (jK m i j) x∈jK m i j:=λx h=>mem_row (by rw[lY];exact h);by_cases d:k=i
  .subst d;have:=e j a;rw[uO b a,f8 rfl]at this;exact this
  .by_cases g:k=j
   .subst g;have:=e i b;rw[uO b a]at this;by_cases h3:i=k
    .exact absurd h3.symm d
    .rw[f9 h3,f8 rfl]at this;exact this
   .have:=e k c;rw[uO b a,f9 g,f9 d]at this;exact this
theorem XS(g:aV n m){t c:Nat}(b:t<hY m)(i:aO (aC m t) c≠0)(v:Row):Span n (ky t c m) v↔Span n m v:=by
 have d:=Aw g (c:=c) b;have h:=cA g b;have q:∀(x:UInt8) (r:Row),hY r=n->scaleB x r=cW x r (aK n):=λx r a=>fh (n:=n) (by rw[oY,a]) (by rw[bX (by simp[aK,a])];simp[aK]) λj _=>by
  rw[AA,cO (by simp[aK,a]),cB,wG]
 refine⟨Span.sub g λr a=>?_,Span.sub d λr a=>?_⟩
 .obtain⟨k,f,rfl⟩:=fC a;rw[oL]at f;rw[Cu b];split
  .rw[q _ _ h];exact .add _ _ _ (mem_row b) .zero
  .exact Span.row g (mem_row f)
 .obtain⟨k,f,rfl⟩:=fC a;have e:∀x,x<hY m->Span n (ky t c m) (aC (ky t c m) x):=λx p=>Span.row d (mem_row (by rw[oL];exact p));by_cases l:t=k
  .subst l;have:=e t b;rw[Cu b,f8 rfl]at this;have o:=this.comb d .zero (aO (aC m t) c);have s:cW (aO (aC m t) c) (scaleB (Gf.inv (aO (aC m t) c)) (aC m t)) (aK n)=aC m t:=fh (n:=n) (by rw[bX (by simp[aK,oY,h])];simp[aK]) h λj _=>by
    rw[cO (by simp[aK,oY,h]),cB,wG,AA,<-Gf.mul_assoc,Gf.KH i,Gf.one_mul]
   rw[s]at o;exact o
  .have:=e k f;rw[Cu b,f9 l]at this;exact this
theorem XT(d:aV n m){t c:Nat}(f:t<hY m)(v:Row):Span n (fA t c m m.length) v↔Span n m v:=by
 have b:=Ax d (c:=c) (k:=hY m) f;have s:=cA d f;refine⟨Span.sub d λr h=>?_,Span.sub b λr h=>?_⟩
 .obtain⟨k,a,rfl⟩:=fC h;rw[oM]at a;rw[rJ a];split
  .exact .add _ _ _ (mem_row f) (Span.row d (mem_row a))
  .exact Span.row d (mem_row a)
 .obtain⟨k,a,rfl⟩:=fC h;have e:∀x,x<hY m->Span n (fA t c m m.length) (aC (fA t c m m.length) x):=λx p=>Span.row b (mem_row (by rw[oM];exact p));have i:=e t f;rw[rJ f,f9 i6]at i;by_cases l:k=t
  .subst l;exact i
  .have o:=e k a;rw[rJ a,f8 ⟨a,l⟩]at o;have h3:=i.comb b o (aO (aC m k) c);have g:=cA d a;have q:cW (aO (aC m k) c) (aC m t) (cW (aO (aC m k) c) (aC m t) (aC m k))=aC m k:=fh (n:=n) (by rw[bX k9,bX];exact g) g λj _=>by
    rw[cO k9,cO ii,rL]
   rw[q]at h3;exact h3
def bT(f g:Nat->UInt8):Nat->UInt8
 |0=>0
 |k+1=>bT f g k^^^Gf.mul (f k) (g k)
theorem gp(f g:Nat->UInt8):∀k,(∀i,i<k->f i=0)->bT f g k=0
 |0,_=>rfl
 |k+1,h=>by rw[bT,gp f g k λi a=>h i ii,h k ii,Gf.zero_mul];rfl
theorem FX(f g:Nat->UInt8)(x:Nat):∀k,x<k->(∀i,i<k->f i=if x=i then 1 else 0)->bT f g k=g x
 |0,hx,_=>ii
 |k+1,hx,h=>by
  rw[bT];by_cases a:x=k
  .subst a;rw[gp f g x λi b=>by rw[h i ii,f9 ii],h x ii,f8 hZ,Gf.one_mul,wG]
  .rw[FX f g x k ii λi b=>h i ii,h k ii,f9 a,Gf.zero_mul,wh]
theorem FY(a b g:Nat->UInt8)(c:UInt8):∀k,bT (λi=>a i^^^Gf.mul c (b i)) g k=bT a g k^^^Gf.mul c (bT b g k)
 |0=>by simp[bT,Gf.mul_zero]
 |k+1=>by
  rw[bT,bT,bT,FY a b g c k,Gf.kG,Gf.TA,Gf.mul_assoc]
  ac_rfl
theorem IX(S:Row->Prop)(c:Nat):leads S (c+1)=leads S c+if Bg S c then 1 else 0:=by simp only[leads,zJ,List.countP_append,List.countP_cons,List.countP_nil];by_cases h:Bg S c<;>simp[h]
theorem XU(c:aV n m):Way n m 0 0 m:=⟨c,hZ,ii,λ_=>Iff.rfl,by simp[leads],⟨λ_=>0,λi a=>ii,λi a=>ii,λi a=>ii,λi j _ b=>ii⟩,λk _ _ j b=>ii⟩
theorem abz(hm:aV n m){c b:Nat}{rows:aN}(w:Way n m c b rows)(hc:c<n):Way n m (c+1) (jL (b,rows) c).1 (jL (b,rows) c).2:=by
 obtain⟨G,U,ah,Z,L,⟨p,O,p2,p3,p4⟩,f⟩:=w;have hS:∀v,Span n rows v↔Span n m v:=Z;have S:Span n rows=Span n m:=funext λv=>propext (hS v);unfold jL;dsimp only;cases hb:jx rows b c with
 |none=>
  have T:=Rs hb;dsimp only;have am:¬Bg (Span n m) c:=by
   rw[<-S];rintro⟨v,hv,hz,al⟩;apply al;have hφ:=Span.lin G (λv=>aO v c^^^bT (λi=>aO v (p i)) (λi=>aO (aC rows i) c) b) (by
     simp only[cB];rw[gp _ _ _ λi _=>rfl];rfl) (λx a t ha ht=>by
     simp only[cO (show a.length=hY t by omega)];rw[FY,Gf.kG];ac_rfl) (λr hr=>by
     obtain⟨k,H,rfl⟩:=fC hr;by_cases N:k<b
     .rw[FX _ _ k b N λi E=>by rw[p2 i E k H]];exact ma _
     .rw[T k ii H,gp _ _ _ λi E=>by rw[p2 i E k H,f9 ii]];rfl) hv
   rw[gp _ _ _ λi E=>hz _ (O i E),wh]at hφ;exact hφ
  refine⟨G,U,ah,Z,by rw[IX,f9 am,L];rfl,⟨p,λi E=>by have:=O i E;omega,p2,p3,p4⟩,λk u D j d=>?_⟩;rcases zf.1 d with h|rfl
  .exact f k u D j h
  .exact T k u D
 |some at_=>
  have hh:=sB hb;obtain⟨h1,W,h3⟩:=hh;dsimp only;have o:b<hY rows:=ii
  obtain⟨g,z⟩:=x6 (jK rows b at_)
  have l1:hY g=hY rows:=by rw[z,lY]
  have V:aV n g:=by rw[z];exact Eh G o W
  have q1:∀k,aC g k=if k=at_ then aC rows b else if k=b then aC rows at_ else aC rows k:=λk=>by rw[z,uO o W]
  have R:aC g b=aC rows at_:=by
   rw[q1];by_cases h:b=at_
   .rw[f8 h,h]
   .rw[f9 h,f8 rfl]
  have M:aO (aC g b) c≠0:=by rw[R];exact h3
  obtain⟨s,y⟩:=x6 (ky b c g)
  have l2:hY s=hY rows:=by rw[y,oL,l1]
  have B:aV n s:=by rw[y];exact Aw V ii
  have q2:∀k,aC s k=if b=k then scaleB (Gf.inv (aO (aC g b) c)) (aC g b)else aC g k:=λk=>by rw[y,Cu ii]
  have ad:∀j,aO (aC g b) j=0->aO (aC s b) j=0:=λj d=>by rw[q2,f8 hZ,AA,d,Gf.mul_zero]
  have l:aO (aC s b) c=1:=by rw[q2,f8 hZ,AA,Gf.mul_comm,Gf.KH M]
  obtain⟨I,q⟩:=x6 (fA b c s rows.length)
  have l3:hY I=hY rows:=by rw[q,oM,l2]
  have q3:∀k,k<hY rows->∀j,aO (aC I k) j=if k=b then aO (aC s b) j else aO (aC g k) j^^^Gf.mul (aO (aC g k) c) (aO (aC s b) j):=λk H j=>by
   rw[q,rJ ii];by_cases h:k=b
   .rw[f9 ii,f8 h,h]
   .have e:=q2 k;rw[f9 λhh=>h hh.symm]at e;rw[f8 ⟨H,h⟩,f9 h,cO (by rw[cA B,cA B]),e]
  have X:∀j,j<c->aO (aC s b) j=0:=λj d=>ad j (by rw[R];exact f at_ h1 W j d);have keep:∀k,k<hY rows->∀j,j<c->aO (aC I k) j=if k=b then 0 else aO (aC g k) j:=λk H j d=>by
   rw[q3 k H,X j d,Gf.mul_zero,wh]
  have K:∀k,k<b->aC g k=aC rows k:=λk H=>by rw[q1,f9 ii,f9 ii]
  have J:∀k,b<=k->k<hY rows->∀j,j<c->aO (aC g k) j=0:=λk u D j d=>by
   rw[q1];split
   .exact f b (qm _) o j d
   .split
    .exact f at_ h1 W j d
    .exact f k u D j d
  have A:∀v,Span n I v↔Span n m v:=λv=>by
   rw[q,show rows.length=hY s by omega,XT B ii,y,XS V ii M,z,XR G o W,hS]
  have P:Bg (Span n m) c:=⟨aC I b,(A _).1 (Span.row (by rw[q];exact Ax B ii) (mem_row)),λj d=>by rw[keep b o j d,f8 rfl],by rw[q3 b o,f8 hZ,l];decide⟩
  have Y:fA b c (ky b c (jK rows b at_)) rows.length=I:=by rw[q,y,z]
  rw[Y];refine⟨by rw[q];exact Ax B ii,ii,ii,A,by rw[IX,f8 P,L],⟨λi=>if i<b then p i else c,λi E=>?_,λi E k H=>?_,λi E j d=>?_,λi j ab d=>?_⟩,λk u D j d=>?_⟩
  .dsimp only;split
   .have:=O i ol;omega
   .omega
  .dsimp only;by_cases hit:i<b
   .rw[f8 hit,keep k ii _ (O i hit)];by_cases N:k<b
    .rw[f9 ii,K k N];exact p2 i hit k ii
    .rw[f9 (show¬k=i by omega)];split
     .rfl
     .exact J k ii ii _ (O i hit)
   .have Q:i=b:=ii
    subst Q;rw[f9 hit,q3 k ii];by_cases F:k=i
    .rw[f8 F,f8 F];exact l
    .rw[f9 F,f9 F,l,Gf.mul_one];exact ma _
  .dsimp only at d;by_cases hit:i<b
   .rw[f8 hit]at d;have:=O i hit;rw[keep i ii j ii,f9 ii,K i hit];exact p3 i hit j d
   .have Q:i=b:=ii
    subst Q;rw[f9 hit]at d;rw[keep i ii j d,f8 rfl]
  .dsimp only;rw[f8 (show i<b by omega)];split
   .exact p4 i j ab ol
   .exact O i ii
  .rcases zf.1 d with h|rfl
   .rw[keep k ii j h,f9 ii];exact J k ii ii j h
   .rw[q3 k ii,f9 ii,l,Gf.mul_one];exact ma _
theorem FZ(a:aV n m):∀c,c<=n->Way n m c (bJ m c).1 (bJ m c).2
 |0,_=>XU a
 |c+1,h=>by rw[bJ];exact abz a (FZ a c ii) ii
theorem kO:∀c,bJ [] c=(0,[])
 |0=>rfl
 |c+1=>by rw[bJ,kO c];rfl
theorem mi(a:aV n m):bZ m=leads (Span n m) n:=by
 rw[<-(FZ a n (qm _)).cnt,bZ];cases m with
 |nil=>rw[kO,kO]
 |cons x t=>rw[ff,bv i6];rw[show((x::t)[0]).length=n from a _ i6]
end
section
variable {n:Nat} {m m':aN}
theorem Vk{S b:Row->Prop}(h:∀v,S v->b v)(n:Nat):leads S n<=leads b n:=by refine List.countP_mono_left λj _ a=>?_;simp only[decide_eq_true_eq]at a⊢;obtain⟨v,c,d⟩:=a;exact⟨v,h v c,d⟩
theorem lM(a:aV n m):bZ m<=n:=by rw[mi a];have:=List.countP_le_length (p:=λj=>decide (Bg (Span n m) j)) (l:=qx n);simpa[leads]using this
theorem Eo(b:aV n m)(a:aV n m')(h:∀r∈m,r∈m'):bZ m<=bZ m':=by rw[mi b,mi a];exact Vk (λv=>Span.mono h) n
theorem XV{P Q:Nat->Bool}(l:List Nat)(d:l.Nodup)(f:∀a∈l,P a=ez->Q a=ez)(e:∀a∈l,∀b∈l,Q a=ez->P a=eH->Q b=ez->P b=eH->a=b):l.countP Q<=l.countP P+1:=by
 induction l with
 |nil=>simp
 |cons x t ih=>
  rw[List.nodup_cons]at d;have i:=ih d.2 (λa c=>f a n8) λa c b g=>e a n8 b oo;simp only[List.countP_cons];cases hQ:Q x with
  |false=>
   have:(if P x=ez then 1 else 0)>=0:=ii
   simp;omega
  |true=>
   cases hP:P x with
   |true=>simp;omega
   |false=>
    have:t.countP Q<=t.countP P:=by
     refine List.countP_mono_left λa c h=>?_;cases hpa:P a with
     |true=>rfl
     |false=>
      have:=e x i6 a n8 hQ hP h hpa;subst this;exact absurd c d.1
    simp;omega
theorem LN(e:aV n m){r:Row}(f:hY r=n){v:Row}(o:Span n (m++[r]) v):∃(c:UInt8) (u:Row),Span n m u/\v=cW c r u:=by
 have l:aV n (m++[r]):=λx b=>by
  rcases qt.1 b with h|h
  .exact e x h
  .rw[qp.1 h];exact f
 induction o with
 |zero=>exact⟨0,aK n,.zero,(fh (n:=n) (by rw[bX (by simp[aK,f])];simp[aK]) k8 λj _=>by rw[cO (by simp[aK,f]),cB,Gf.zero_mul];rfl).symm⟩
 |add d x w b hw ih=>
  obtain⟨c,u,i,rfl⟩:=ih;have a:=i.len e;rcases qt.1 b with h|h
  .have k:=e x h;refine⟨c,cW d x u,.add d x u h i,fh (n:=n) (by rw[bX k9,bX];exact a) (by rw[bX k9,bX];exact a) λj _=>?_⟩;rw[cO k9,cO ii,cO k9,cO ii]
   ac_rfl
  .have g:=qp.1 h;subst g;refine⟨c^^^d,u,i,fh (n:=n) (by rw[bX k9,bX];exact a) (by rw[bX];exact a) λj _=>?_⟩;rw[cO k9,cO ii,cO ii,Gf.TA]
   ac_rfl
theorem nh(a:aV n m){r:Row}(c:hY r=n):aV n (m++[r]):=λx b=>by
 rcases qt.1 b with h|h
 .exact a x h
 .rw[qp.1 h];exact c
theorem XW(f:aV n m){r:Row}(t:hY r=n):bZ m<=bZ (m++[r])/\bZ (m++[r])<=bZ m+1:=by
 have o:=nh f t;refine⟨Eo f o λx A=>by simp[A],?_⟩;rw[mi f,mi o];refine XV _ List.nodup_range (λa _ K=>?_) (λa _ b _ F k B p=>?_)
 .simp only[decide_eq_true_eq]at K⊢;obtain⟨v,H,I⟩:=K;exact⟨v,Span.mono (λx A=>by simp[A]) H,I⟩
 .simp only[decide_eq_true_eq,decide_eq_false_iff_not]at F k B p;have q:∀a b,Bg (Span n (m++[r])) a->¬Bg (Span n m) a->Bg (Span n (m++[r])) b->¬Bg (Span n m) b->¬a<b:=by
   rintro a b ⟨v,N,M,G⟩ k ⟨w,L,g,l⟩ p E;obtain⟨c,u,J,rfl⟩:=LN f t N;obtain⟨d,s,h,rfl⟩:=LN f t L;have l1:=J.len f;have l2:=h.len f;have O:d≠0:=by
    rintro rfl;apply p;refine⟨s,h,λi D=>?_,?_⟩
    .have:=g i D;rw[cO ii,Gf.zero_mul,wh]at this;exact this
    .rw[cO ii,Gf.zero_mul,wh]at l;exact l
   apply k;refine⟨cW (Gf.mul c (Gf.inv d)) s u,h.comb f J _,?_⟩;have e:∀j,aO (cW (Gf.mul c (Gf.inv d)) s u) j=aO (cW c r u) j^^^Gf.mul (Gf.mul c (Gf.inv d)) (aO (cW d r s) j):=λj=>by
    rw[cO ii,cO ii,cO ii,Gf.kG,<-Gf.mul_assoc (Gf.mul c (Gf.inv d)) d,Gf.mul_assoc c (Gf.inv d) d,Gf.mul_comm (Gf.inv d) d,Gf.KH O,Gf.mul_one];have:∀x y z:UInt8,x^^^y=x^^^z^^^(y^^^z):=λx y z=>by
     have:x^^^z^^^(y^^^z)=x^^^y^^^(z^^^z):=by ac_rfl
     rw[this,ma,wh]
    exact this _ _ _
   refine⟨λi D=>?_,?_⟩
   .rw[e,M i D,g i ii,Gf.mul_zero];rfl
   .rw[e,g a E,Gf.mul_zero,wh];exact G
  have H:=q a b F k B p;have I:=q b a B p F k;omega
theorem pK(m:aN)(h:aV n m):bZ m<=hY m:=by
 have a:∀k,k<=hY m->bZ (m.take k)<=k:=by
  intro k
  induction k with
  |zero=>intro _;simp[bZ,ff,aC,bJ]
  |succ k ih=>
   intro e;have b:aV n (m.take k):=λx c=>h x (zw c);have d:=ih ii;rw[zo ii];have f:=(XW b (h _ (qf (show k<hY m by omega)))).2;omega
 have:=a m.length (qm _)
 rwa [qh (qm _)]at this
end
def oA(p:Int×Int×Int)(seed:Int)(ids:az):Nat:=bZ (dU p seed ids)
def fV(p:Int×Int×Int)(seed:Int)(ids:az):Bool:=bK p&&((oA p seed ids:Int)==bG p)
def fw(p:Int×Int×Int):az:=upto (max 0 (min p.1 16)).toNat
theorem oP{p:Int×Int×Int}(h:bK p=ez):bG p=p.1+p.2.1:=by rw[bG,f8 h]
theorem jX(p:Int×Int×Int)(seed:Int)(ids:az):aV (bG p).toNat (dU p seed ids):=by
 intro r a;unfold dU at a;split at a
 .rename_i b;have:=(bP p).1 b;rcases qt.1 a with h|h
  .obtain⟨x,_,rfl⟩:=qo.1 h;rw[uM,oP b];omega
  .obtain⟨x,_,rfl⟩:=qo.1 h;exact Oz _ _ _
 .cases a
theorem abA(p:Int×Int×Int)(seed:Int)(ids:az):hY (dU p seed ids)<=4+hY ids:=by
 unfold dU;split
 .rename_i a;have:=(bP p).1 a;have b:=List.length_filter_le bW ids;simp only[qw,bz,qu,zC];omega
 .simp
theorem IY(K H:Nat):aV (K+H) (bz K H):=λr a=>by
 obtain⟨x,_,rfl⟩:=qo.1 a;exact uM _ _ _
theorem abB(p:Int×Int×Int)(seed:Int)(ids:az):(oA p seed ids:Int)<=bG p:=by
 have h:=lM (jX p seed ids);have:0<=bG p:=by
  unfold bG;split
  .rename_i a;have:=(bP p).1 a;omega
  .omega
 rw[oA];omega
def fq(a b:aN):aN:=zg (·++·) a b
def lr(n:Nat)(m:aN):aN:=m.map (List.take n)
theorem Hy{r:Row}{n j:Nat}(h:j<n):aO (r.take n) j=aO r j:=by simp only[aO,qd,vi];rw[f8 h]
theorem OH(r:Row)(n j:Nat):aO (r.drop n) j=aO r (n+j):=by simp only[aO,qd,wQ]
theorem uq(n:Nat)(m:aN)(i:Nat):aC (lr n m) i=(aC m i).take n:=by
 simp only[aC,lr,qd,qO];cases m[i]? with
 |none=>simp
 |some r=>rfl
theorem KI(n:Nat)(m:aN):hY (lr n m)=hY m:=by simp[lr]
theorem Vl{n a bp:Nat}(m:aN)(h:bp<n):jx (lr n m) a bp=jx m a bp:=by unfold jx;rw[KI];congr 1;funext i;rw[uq,Hy h]
theorem KJ(n:Nat)(m:aN)(i:Nat)(r:Row):lr n (m.set i r)=(lr n m).set i (r.take n):=by simp[lr,List.map_set]
theorem abC(n:Nat)(m:aN)(i j:Nat):lr n (jK m i j)=jK (lr n m) i j:=by rw[jK,KJ,KJ,jK,uq,uq]
theorem XX(n:Nat)(c:UInt8)(r:Row):(scaleB c r).take n=scaleB c (r.take n):=by simp[scaleB,List.map_take]
theorem afe(n:Nat)(c:UInt8)(a t:Row):(cW c a t).take n=cW c (a.take n) (t.take n):=by simp[cW,List.take_zipWith]
theorem abD{n bp:Nat}(h:bp<n)(t:Nat)(m:aN):lr n (ky t bp m)=ky t bp (lr n m):=by rw[ky,KJ,XX,ky,uq,Hy h]
theorem abE{n bp:Nat}(h:bp<n)(t k:Nat)(m:aN):lr n (fA t bp m k)=fA t bp (lr n m) k:=by
 apply zt;intro i;simp only[lr,fA,qO,vy];cases m[i]? with
 |none=>rfl
 |some r=>
  simp only[qS];congr 1;have:=uq n m t;rw[lr]at this;rw[this,Hy h];split
  .exact afe _ _ _ _
  .rfl
theorem abF{n bp:Nat}(h:bp<n)(s:Nat×aN):((jL s bp).1,lr n (jL s bp).2)=jL (s.1,lr n s.2) bp:=by
 unfold jL;dsimp only;rw[Vl _ h];cases jx s.2 s.1 bp with
 |none=>rfl
 |some i=>dsimp only;rw[abE h,abD h,abC,KI]
theorem IZ(n:Nat)(m:aN):∀c,c<=n->((bJ m c).1,lr n (bJ m c).2)=bJ (lr n m) c
 |0,_=>rfl
 |c+1,h=>by
  have a:=IZ n m c ii;rw[bJ,bJ,abF (show c<n by omega),a]
theorem mK{a b:aN}(h:hY a=hY b):hY (fq a b)=hY a:=by simp[fq,h]
theorem Ga{a b:aN}(h:hY a=hY b){i:Nat}(c:i<hY a):aC (fq a b) i=aC a i++aC b i:=by rw[bv (by rw[mK h];exact c),bv c,bv ii];simp[fq]
theorem ni{n w:Nat}{a b:aN}(h:hY a=hY b)(e:aV n a)(f:aV w b):aV (n+w) (fq a b):=λr d=>by
 obtain⟨i,c,rfl⟩:=fC d;rw[mK h]at c;rw[Ga h c,qw,cA e c,cA f]
theorem aff{n:Nat}{a b:aN}(h:hY a=hY b)(e:aV n a):lr n (fq a b)=a:=by apply wk (by rw[KI,mK h]);intro i d c;have:=uq n (fq a b) i;rw[bv d,Ga h c,List.take_left' (cA e c),bv c]at this;exact this
theorem abG{n:Nat}{a:aN}(b:aV n a):(bJ a n).1=bZ a:=by
 rw[bZ];cases a with
 |nil=>rw[kO,kO]
 |cons x t=>rw[ff,bv i6];rw[show((x::t)[0]).length=n from b _ i6]
theorem Hz{n:Nat}{a b:aN}(h:hY a=hY b)(c:aV n a):(bJ (fq a b) n).1=bZ a:=by have:=congrArg qE (IZ n (fq a b) n (qm _));rw[aff h c]at this;rw[<-abG c];exact this
def rN(w:Nat)(r:Row)(X:aN):Nat->Row
 |0=>aK w
 |k+1=>cW (aO r k) (aC X k) (rN w r X k)
theorem iX{n w:Nat}{X:aN}(a:aV w X)(c:hY X=n)(r:Row):∀k,k<=n->hY (rN w r X k)=w
 |0,_=>by simp[rN,aK]
 |k+1,h=>by
  have b:=iX a c r k ii;rw[rN,bX (by rw[cA a,b])];exact b
theorem iD{n w:Nat}{X:aN}(a:aV w X)(b:hY X=n)(r:Row)(j:Nat):∀k,k<=n->aO (rN w r X k) j=bT (λi=>aO r i) (λi=>aO (aC X i) j) k
 |0,_=>by rw[rN,cB];rfl
 |k+1,h=>by
  have c:=iD a b r j k ii;rw[rN,cO (by rw[cA a,iX a b r k ii]),c];rfl
def fW(n w:Nat)(a b X:aN):Prop:=hY X=n/\aV w X/\∀i,i<hY a->rN w (aC a i) X n=aC b i
theorem abH{m a:aN}(c:hY m=hY a)(h:∀i,i<hY m->aC m i=aC a i):m=a:=by
 apply wk c;intro i b d;have:=h i b
 rwa [bv b,bv d]at this
def uP(n:Nat)(X:aN)(k:Nat)(v:Row):UInt8:=aO v (n+k)^^^bT (λi=>aO v i) (λi=>aO (aC X i) k) n
theorem gx{f f' g g':Nat->UInt8}:∀k,(∀i,i<k->f i=f' i)->(∀i,i<k->g i=g' i)->bT f g k=bT f' g' k
 |0,_,_=>rfl
 |k+1,h1,h2=>by rw[bT,bT,gx k (λi a=>h1 i ii) λi a=>h2 i ii,h1 k ii,h2 k ii]
theorem TE(n:Nat)(X:aN)(k:Nat)(c:UInt8)(a t:Row)(h:hY a=hY t:=by omega):uP n X k (cW c a t)=uP n X k t^^^Gf.mul c (uP n X k a):=by unfold uP;rw[cO h];have:bT (λi=>aO (cW c a t) i) (λi=>aO (aC X i) k) n=bT (λi=>aO t i^^^Gf.mul c (aO a i)) (λi=>aO (aC X i) k) n:=gx n (λi _=>cO h i) λ_ _=>rfl;rw[this,FY,Gf.kG];ac_rfl
theorem TF{a b:Row}{n:Nat}(c:hY a=n)(k:Nat):aO (a++b) (n+k)=aO b k:=by simp only[aO,qd];rw[qi ii,c,zl]
theorem OI{a b:Row}{n j:Nat}(d:hY a=n)(c:j<n):aO (a++b) j=aO a j:=by simp only[aO,qd];rw[ql ii]
theorem pL{a b:UInt8}:a^^^b=0↔a=b:=by
 constructor
 .intro h;have:=congrArg (·^^^b) h;simp only[wG]at this
  rwa [rL]at this
 .rintro rfl;exact ma _
theorem Ja{n w:Nat}{a b X:aN}(h:hY a=hY b)(f:aV n a)(o:aV w b)(l:hY X=n)(g:aV w X):fW n w a b X↔∀k,k<w->∀v,Span (n+w) (fq a b) v->uP n X k v=0:=by
 have e:=ni h f o;constructor
 .intro u k p v x;refine Span.lin e (uP n X k) ?_ (λc a t y z=>TE n X k c a t) (λr q=>?_) x
  .unfold uP;rw[cB,gp _ _ n λi _=>cB _ _];rfl
  .obtain⟨i,d,rfl⟩:=fC q;rw[mK h]at d;rw[Ga h d];unfold uP;rw[TF (cA f d),<-u.2.2 i d,iD g l _ k n (qm _),pL];exact gx n (λj m=>(OI (cA f d) m).symm) λ_ _=>rfl
 .intro s;refine⟨l,g,λi d=>fh (n:=w) (iX g l _ n (qm _)) (cA o) λk p=>?_⟩;have:=s k p _ (Span.row e (mem_row (show i<hY (fq a b) by rw[mK h];exact d)));rw[Ga h d]at this;unfold uP at this;rw[TF (cA f d),pL]at this;rw[this,iD g l _ k n (qm _)];exact gx n (λj m=>(OI (cA f d) m).symm) λ_ _=>rfl
theorem agY{n:Nat}{p:Nat->Nat}(c:∀i,i<n->p i<n)(b:∀i j,i<j->j<n->p i<p j):∀i,i<n->p i=i:=by
 have d:∀i,i<n->i<=p i:=by
  intro i
  induction i with
  |zero=>intro _;omega
  |succ i ih=>intro a;have:=ih ii;have:=b i (i+1) ii a;omega
 have up:∀k i,i+k+1=n->p i<=i:=by
  intro k
  induction k with
  |zero=>intro i a;have:=c i ii;omega
  |succ k ih=>intro i a;have:=ih (i+1) ii;have:=b i (i+1) ii ii;omega
 intro i a;have:=d i a;have:=up (n-1-i) i ii;omega
def gF(n:Nat)(a b:aN):aN:=(((bJ (fq a b) n).2).take n).map (List.drop n)
def lE(n:Nat)(a b:aN):Prop:=∀r∈((bJ (fq a b) n).2).drop n,r=aK r.length
section
variable {n w:Nat} {a b:aN}
theorem ur(h:hY a=hY b)(e:aV n a)(i:aV w b)(j:bZ a=n):hY (gF n a b)=n/\aV w (gF n a b):=by have c:=ni h e i;have f:=iy c n;have h3:=pK a e;refine⟨by rw[gF,qu,qR,f.2,mK h];omega,λr d=>?_⟩;obtain⟨x,g,rfl⟩:=qo.1 d;rw[zc,f.1 x (zw g)];omega
theorem TG(h:hY a=hY b)(e:aV n a)(d:bZ a=n){i:Nat}(c:i<n):aC (gF n a b) i=(aC (bJ (fq a b) n).2 i).drop n:=by
 simp only[aC,gF,qd,qO,vi];rw[f8 c]
 cases(bJ (fq a b) n).2[i]? with
 |none=>simp
 |some r=>rfl
theorem OJ(h:hY a=hY b)(g:aV n a)(q:aV w b)(l:bZ a=n):
  (∀v,Span (n+w) (bJ (fq a b) n).2 v↔Span (n+w) (fq a b) v)/\(bJ (fq a b) n).2.length=hY a/\(∀i,i<n->∀k,k<hY a->aO (aC (bJ (fq a b) n).2 k) i=if k=i then 1 else 0):=by
 have c:=ni h g q;have W:=FZ c n ii;have o:(bJ (fq a b) n).1=n:=by rw[Hz h g,l]
 obtain⟨p,j,d,m,e⟩:=W.piv;rw[o]at j d m e;have hid:=agY j e;have r:(bJ (fq a b) n).2.length=hY a:=by rw[W.len,mK h]
 refine⟨W.span,r,λi f k s=>?_⟩;have:=d i f k ii
 rwa [hid i f]at this
theorem OK{X:aN}{r:Row}{i k:Nat}(c:i<n)(b:∀j,j<n->aO r j=if i=j then 1 else 0):uP n X k r=aO r (n+k)^^^aO (aC X i) k:=by unfold uP;rw[FX _ _ i n c λj a=>b j a]
theorem TH{X:aN}{r:Row}{k:Nat}(a:∀j,j<n->aO r j=0):uP n X k r=aO r (n+k):=by unfold uP;rw[gp _ _ n a,wh]
theorem mj(h:hY a=hY b)(l:aV n a)(p:aV w b)(q:bZ a=n){X:aN}(g:fW n w a b X):X=gF n a b/\lE n a b:=by
 have v:=ni h l p;have t:=iy v n;obtain⟨m,D,x⟩:=OJ h l p q;have A:=pK a l;have y:=(Ja h l p g.1 g.2.1).1 g;obtain⟨z,s2⟩:=ur h l p q;constructor
 .refine abH (by rw[g.1,z]) λi c=>fh (n:=w) (cA g.2.1 c) (cA s2 (by rw[z];rw[g.1]at c;exact c)) λk B=>?_;rw[g.1]at c;have h3:=y k B _ ((m _).1 (Span.row t.1 (mem_row (show i<(bJ (fq a b) n).2.length by omega))));rw[OK c λj o=>x j o i ii]at h3;rw[TG h l q c,OH];exact(pL.1 h3).symm
 .intro r s;obtain⟨i,c,rfl⟩:=qB s;rw[zc]at c;rw[wB];have f:n+i<(bJ (fq a b) n).2.length:=ii
  have e:=bv f;have d:=cA t.1 f;rw[<-e,d];refine fh (n:=n+w) d k8 λj o=>?_;rw[cB];by_cases u:j<n
  .rw[x j u (n+i) ii,f9 ii]
  .obtain⟨k,rfl⟩:∃k,j=n+k:=⟨j-n,ii⟩
   have h3:=y k ii _ ((m _).1 (Span.row t.1 (mem_row f)))
   rwa [TH λj o=>by rw[x j o (n+i) ii,f9 ii]]at h3
theorem pM(h:hY a=hY b)(e:aV n a)(g:aV w b)(m:bZ a=n)(y:lE n a b):fW n w a b (gF n a b):=by
 have q:=ni h e g;have s:=iy q n;obtain⟨o,G,u⟩:=OJ h e g m;have D:=pK a e;obtain⟨A,s2⟩:=ur h e g m;refine(Ja h e g A s2).2 λk F v B=>?_;refine Span.lin s.1 (uP n (gF n a b) k) ?_ (λc x t E s=>TE n _ k c x t) (λr p=>?_) ((o v).2 B)
 .unfold uP;rw[cB,gp _ _ n λi _=>cB _ _];rfl
 .obtain⟨i,z,rfl⟩:=fC p;by_cases f:i<n
  .rw[OK f λj l=>u j l i ii,TG h e m f,OH];exact ma _
  .rw[TH λj l=>by rw[u j l i ii,f9 ii]];have:aC (bJ (fq a b) n).2 i∈(bJ (fq a b) n).2.drop n:=by
    rw[bv z];obtain⟨d,rfl⟩:∃d,i=n+d:=⟨i-n,ii⟩
    rw[<-wB (h:=by rw[zc];omega)];exact qf _
   rw[y _ this,cB]
theorem Rw(h:hY a=hY b)(e:aV n a)(f:aV w b)(i:hY a=n):lE n a b:=by have c:=ni h e f;have g:=iy c n;intro r d;rw[zd (by rw[g.2,mK h];omega)]at d;cases d
end
def OL(l:az):Prop:=∀a b,a<hY l->b<hY l->lK l a=lK l b->a=b
theorem Gb{l:az}{i:Nat}(h:i<hY l):lK l i=l[i]:=by rw[lK,qd,qc h];rfl
theorem abI{l:az}{i j k:Nat}(d:i<hY l)(c:j<hY l):lK (sA l i j) k=if k=j then lK l i else if k=i then lK l j else lK l k:=by
 simp only[lK,sA,qd,qW,zE];by_cases a:j=k
 .subst a;simp[c]
 .by_cases b:i=k
  .subst b;simp[a,d];omega
  .simp[a,b];omega
theorem swap_inj{l:az}{i j:Nat}(m:i<hY l)(g:j<hY l)(h:OL l):OL (sA l i j):=by
 intro a b n o p;rw[Ox]at n o;have d:∀k,k<hY l->∃σ,σ<hY l/\lK (sA l i j) k=lK l σ/\(σ=if k=j then i else if k=i then j else k):=λk v=>by
  rw[abI m g];by_cases e:k=j
  .rw[f8 e,f8 e];exact⟨i,m,hZ,hZ⟩
  .rw[f9 e,f9 e];by_cases f:k=i
   .rw[f8 f,f8 f];exact⟨j,g,hZ,hZ⟩
   .rw[f9 f,f9 f];exact⟨k,v,hZ,hZ⟩
 obtain⟨s,u,r,w⟩:=d a n;obtain⟨t,q,e2,c⟩:=d b o;rw[r,e2]at p;have:=h s t u q p;subst this;rw[w]at c;split at c<;>split at c<;>(try split at c)<;>(try split at c)<;>omega
theorem XY{l:az}(h:OL l):l.Nodup:=by rw[List.nodup_iff_pairwise_ne,zq];intro i j b a d c;have:=h i j b a (by rw[Gb b,Gb a];exact c);omega
theorem abJ(n:Nat):OL (upto n):=by intro a b d e c;rw[iB]at d e;rw[Gb (by rw[iB];exact d),Gb (by rw[iB];exact e)]at c;simp[upto]at c;omega
theorem OM(n:Nat)(s:Int):∀k,k<=n->n<=64->OL (ia n s (upto n) k).2
 |0,_,_=>abJ n
 |k+1,hk,hn=>by
  have a:=uK n s (upto n) k;rw[iB]at a;have:=uJ (ia n s (upto n) k).1 ((n-k:Nat):Int);exact swap_inj ii ii (OM n s k ii hn)
theorem Vm(s:Int)(n k:Nat)(a:k<=n)(b:n<=64):(FR s n k).Nodup:=by have h:=(XY (OM n s k a b)).sublist (List.take_sublist k _);exact(wX _ _).nodup_iff.2 h
theorem Cv{n:Nat}(a:1<=n)(b:n<=20)(seed id:Int):(dz n seed id).Nodup:=Vm _ _ _ (uL _ n a b) ii
theorem Rx(n:Nat)(seed id:Int):(dz n seed id).Pairwise (·<=·):=by have:=ve (le:=λx y:Int=>decide (x<=y)) (by intro a b c;simp;omega) (by intro a b;simp;omega) ((ia n (Dy (Dy (Eg seed id))) (upto n) (FU (Dy (Eg seed id)) n)).2.take (FU (Dy (Eg seed id)) n));exact this.imp i6
theorem KK{r:Row}{i j:Nat}{x:UInt8}(a:i<hY r):aO (r.set i x) j=if j=i then x else aO r j:=by
 simp only[aO,qd,qW];by_cases h:i=j
 .subst h;simp[a]
 .simp[h];intro e;exact absurd e.symm h
theorem LO(n:Nat)(l:az)(c:Int):gY n (l++[c])=(gY n l).set c.toNat 1:=by rw[gY,wc];rfl
theorem Cw{n:Nat}:∀(l:az) (_:∀x∈l,0<=x/\x<(n:Int)) (j:Nat),aO (gY n l) j=if(j:Int)∈l then 1 else 0:=by
 intro l;have d:∀k,k<=hY l->(∀x∈l,0<=x/\x<(n:Int))->∀j:Nat,aO (gY n (l.take k)) j=if(j:Int)∈l.take k then 1 else 0:=by
  intro k
  induction k with
  |zero=>intro _ _ j;simp[gY];exact cB n j
  |succ k ih=>
   intro f b j;have g:=b _ (qf (show k<hY l by omega));rw[zo ii,LO,KK (by rw[rI];omega),ih ii b];have a:(j:Int)∈l.take k++[l[k]]↔(j:Int)∈l.take k∨(j:Int)=l[k]:=by rw[qt,qp]
   by_cases h:j=l[k].toNat
   .rw[f8 h,f8 (a.2 (.inr ii))]
   .rw[f9 h];by_cases c:(j:Int)∈l.take k
    .rw[f8 c,f8 (a.2 (.inl c))]
    .rw[f9 c,f9 λe=>(a.1 e).elim c λh3=>h ii]
 intro b j;have:=d l.length (qm _) b j
 rwa [qh (qm _)]at this
theorem HB{f f' g:Nat->UInt8}{c:Nat}(d:f c=0)(a:∀i,f' i=if i=c then 1 else f i):∀k,bT f' g k=bT f g k^^^if c<k then g c else 0
 |0=>by simp[bT]
 |k+1=>by
  rw[bT,bT,HB d a k,a k];by_cases b:k=c
  .subst b;rw[f8 hZ,f9 ii,f8 ii,Gf.one_mul,d,Gf.zero_mul]
  .rw[f9 b];by_cases h:c<k
   .rw[f8 h,f8 ii];ac_rfl
   .rw[f9 h,f9 ii];simp
def gq(w:Nat)(X:aN)(l:az):Row:=l.foldl (λs c=>cW 1 (aC X c.toNat) s) (aK w)
theorem Cx(w:Nat)(X:aN)(l:az)(c:Int):gq w X (l++[c])=cW 1 (aC X c.toNat) (gq w X l):=by rw[gq,wc];rfl
theorem pN{n w:Nat}{X:aN}(b:aV w X)(e:hY X=n){l:az}(a:∀x∈l,0<=x/\x<(n:Int)):∀k,k<=hY l->hY (gq w X (l.take k))=w:=by
 intro k
 induction k with
 |zero=>intro _;simp[gq,aK]
 |succ k ih=>
  intro c;have d:=a _ (qf (show k<hY l by omega));rw[zo ii,Cx,bX (by rw[cA b,ih ii])];exact ih ii
theorem TJ{n w:Nat}{X:aN}(b:aV w X)(c:hY X=n){l:az}(a:∀x∈l,0<=x/\x<(n:Int)):hY (gq w X l)=w:=by
 have:=pN b c a l.length (qm _)
 rwa [qh (qm _)]at this
theorem afg{n w:Nat}{X:aN}(a:aV w X)(b:hY X=n){l:az}(d:∀x∈l,0<=x/\x<(n:Int))(q:l.Nodup):gq w X l=rN w (gY n l) X n:=by
 have m:∀k,k<=hY l->gq w X (l.take k)=rN w (gY n (l.take k)) X n:=by
  intro k
  induction k with
  |zero=>
   intro _;refine fh (n:=w) (by simp[gq,aK]) (iX a b _ n (qm _)) λj _=>?_;rw[iD a b _ j n (qm _),gp _ _ n λi _=>by simp only[vU,gY,wT];exact cB n i];simp only[vU,gq,wT];exact cB w j
  |succ k ih=>
   intro r;have o:=d _ (qf (show k<hY l by omega));have p:=pN a b d k ii;rw[zo ii,Cx,LO,ih ii];refine fh (n:=w) ?_ (iX a b _ n (qm _)) λj _=>?_
   .rw[bX (by rw[cA a,iX a b _ n (qm _)])];exact iX a b _ n (qm _)
   .rw[cO (by rw[cA a,iX a b _ n (qm _)]),iD a b _ j n (qm _),iD a b _ j n (qm _)];have g:l[k]∉l.take k:=λh=>by
     have e:l=l.take k++l[k]::l.drop (k+1):=by rw[<-qL ii,qC]
     rw[e,List.nodup_append]at q;exact q.2.2 _ h _ qF hZ
    have h0:aO (gY n (l.take k)) l[k].toNat=0:=by
     rw[Cw _ λx o=>d x (zw o),f9];intro h;apply g;have:((l[k].toNat:Nat):Int)=l[k]:=ii
     rwa [this]at h
    rw[HB (f:=λi=>aO (gY n (l.take k)) i) (c:=l[k].toNat) h0 (λi=>KK (by rw[rI];omega)) n,f8 ii,Gf.one_mul]
 have:=m l.length (qm _)
 rwa [qh (qm _)]at this
def kP(K H w:Nat)(d:Row):aN:=qg H (aK w)++(qx K).map (Eb d w)
def dG(p:Int×Int×Int)(seed:Int)(d:Row):aN:=gF (bG p).toNat (dU p seed (fw p)) (kP p.1.toNat p.2.1.toNat p.2.2.toNat d)
structure co (p:Int×Int×Int) (seed:Int) (d:Row) (K H w n:Nat):Prop where
 may:bK p=ez
 full:fV p seed (fw p)=ez
 k:p.1=K
 h:p.2.1=H
 s:p.2.2=w
 n:n=K+H
 k1:1<=K
 k2:K<=16
 h1:1<=H
 h2:H<=4
 w1:1<=w
 w2:w<=24
 len:hY d=K*w
theorem Vn{p:Int×Int×Int}{seed:Int}{d:Row}(a:bK p=ez)(c:fV p seed (fw p)=ez)(b:(hY d:Int)=p.1*p.2.2):∃K H w n,co p seed d K H w n:=by
 have:=(bP p).1 a;refine⟨p.1.toNat,p.2.1.toNat,p.2.2.toNat,p.1.toNat+p.2.1.toNat,a,c,ii,ii,ii,hZ,ii,ii,ii,ii,ii,ii,?_⟩;have e:p.1=(p.1.toNat:Int):=ii
 have e2:p.2.2=(p.2.2.toNat:Int):=ii
 rw[e,e2,<-Int.natCast_mul]at b;exact Int.ofNat.inj b
section
variable {p:Int×Int×Int} {seed:Int} {d:Row} {K H w n:Nat}
theorem co.cZ(B:co p seed d K H w n):bG p=n:=by rw[oP B.may,B.k,B.h,B.n];rfl
theorem co.pO(B:co p seed d K H w n):(bG p).toNat=n:=by rw[B.cZ];rfl
theorem Vo(a:p.1=(K:Int))(h:K<=16):fw p=upto K:=by rw[fw];congr 1;omega
theorem Ry(h:K<=16):(upto K).filter bW=upto K:=by rw[List.filter_eq_self];intro x b;simp[upto]at b;obtain⟨a,c,rfl⟩:=b;simp[bW];omega
theorem co.On(B:co p seed d K H w n):dU p seed (fw p)=bz K H++(qx K).map λi:Nat=>oJ n seed (i:Int):=by rw[dU,f8 B.may,Vo B.k B.k2,Ry B.k2,B.k,B.h,B.pO,qj,qj,upto,List.map_map];rfl
theorem co.Ep(B:co p seed d K H w n):hY (dU p seed (fw p))=n:=by rw[B.On,qw,qu,zC,bz,qu,zC,B.n];omega
theorem co.Gc(B:co p seed d K H w n):aV n (dU p seed (fw p)):=by
 have:=jX p seed (fw p)
 rwa [B.pO]at this
theorem co.KL(B:co p seed d K H w n):bZ (dU p seed (fw p))=n:=by have h:=B.full;rw[fV,B.may,B.cZ,oA]at h;simp at h;exact Int.ofNat.inj h
theorem Es(K H w:Nat)(d:Row):hY (kP K H w d)=K+H:=by simp[kP];omega
theorem tZ(c:hY d=K*w):aV w (kP K H w d):=λr b=>by
 rcases qt.1 b with h|h
 .rw[(List.mem_replicate.1 h).2];simp[aK]
 .obtain⟨i,a,rfl⟩:=qo.1 h;rw[qz]at a;exact aeY (by rw[c];exact zF w a)
theorem XZ{i:Nat}(a:i<H):aC (kP K H w d) i=aK w:=by rw[aC,kP,qd,ql j5];simp[a]
theorem Vp{i:Nat}(a:i<K):aC (kP K H w d) (H+i)=Eb d w i:=by rw[aC,kP,qd,qi i6];simp[a]
theorem co.DA(B:co p seed d K H w n):dG p seed d=gF n (dU p seed (fw p)) (kP K H w d):=by rw[dG,B.pO,B.k,B.h,B.s];rfl
theorem co.lens(B:co p seed d K H w n):hY (dU p seed (fw p))=hY (kP K H w d):=by rw[B.Ep,Es,B.n]
theorem co.om(B:co p seed d K H w n):hY (dG p seed d)=n/\aV w (dG p seed d):=by rw[B.DA];exact ur B.lens B.Gc (tZ B.len) B.KL
theorem co.fW(B:co p seed d K H w n):fW n w (dU p seed (fw p)) (kP K H w d) (dG p seed d):=by rw[B.DA];exact pM B.lens B.Gc (tZ B.len) B.KL (Rw B.lens B.Gc (tZ B.len) B.Ep)
theorem co.agZ(B:co p seed d K H w n){i:Nat}(a:i<H):aC (dU p seed (fw p)) i=mh K H i:=by rw[B.On,aC,qd,ql (by simpa[bz]using a)];simp[bz,a]
theorem co.afh(B:co p seed d K H w n){i:Nat}(a:i<K):aC (dU p seed (fw p)) (H+i)=oJ n seed (i:Int):=by rw[B.On,aC,qd,qi (by simp[bz])];simp[bz,a]
theorem co.low(B:co p seed d K H w n){i:Nat}(a:i<H):rN w (mh K H i) (dG p seed d) n=aK w:=by
 have:=B.fW.2.2 i (by rw[B.Ep,B.n];omega)
 rwa [B.agZ a,XZ a]at this
theorem co.high(B:co p seed d K H w n){i:Nat}(a:i<K):rN w (oJ n seed (i:Int)) (dG p seed d) n=Eb d w i:=by
 have:=B.fW.2.2 (H+i) (by rw[B.Ep,B.n];omega)
 rwa [B.afh a,Vp a]at this
theorem co.n1(B:co p seed d K H w n):1<=n:=by have:=B.n;have:=B.k1;omega
theorem co.n2(B:co p seed d K H w n):n<=20:=by have:=B.n;have:=B.k2;have:=B.h2;omega
theorem co.sym(B:co p seed d K H w n)(id:Int):gq w (dG p seed d) (dz n seed id)=rN w (oJ n seed id) (dG p seed d) n:=
 afg B.om.2 B.om.1 (λ_ a=>nf B.n1 B.n2 a) (Cv B.n1 B.n2 seed id)
theorem co.abK(B:co p seed d K H w n){i:Nat}(a:i<K):gq w (dG p seed d) (dz n seed (i:Int))=Eb d w i:=by rw[B.sym,B.high a]
theorem co.Ya(B:co p seed d K H w n)(id:Int):hY (gq w (dG p seed d) (dz n seed id))=w:=
 TJ B.om.2 B.om.1 λ_ a=>nf B.n1 B.n2 a
end
end
theorem RB{α:Type}{c k:Nat}{f:α->aT}:∀{rs:List Sl} {ll:List (List α)} (b:List Sl) (a:List (List α)),hY rs=hY ll->bw c k f (rs++b) (ll++a)=bw c k f rs ll++bw c k f b a:=by intro rs ll b a h;unfold bw;exact yM h
theorem aa.abL{B:av}{a h:f7}{X:HP}:∀{L M:List HP},aa B a h (L++X::M)->aa B a h (L++M):=λ{L M} H=>by
 have:=H.del L.length
 rwa [List.eraseIdx_append_of_length_le (qm _),qX,List.eraseIdx_cons_zero]at this
variable {h':f7} {e2:Nat} {s2:Sl} {ll:List (List α)}
section
variable {C:Ctx} {l2:List (List α)}
theorem aa.afi(z:C.Ok)(H:aa B h0 h (fy e s e2 k f ll::fy e s2 e2 k f l2::As))(E:bL C.toBH t e 1 [.slice et 0 0] 24)(w:∃i e2,C.T.get t2=dB i/\i.cD=.slice e2)(G:hY ll+hY l2<=2^32){ty:Nat}{K:Sl->f7->Prop}
  (F:∀d h',aa B h0 h' (fy e d e2 k f (ll++l2)::As)->K d h'):
  bx C.P (zA #[t,t2] ty #[.slice s.ptr s.len s.cap,.slice s2.ptr s2.len s2.cap]) (.one (.sc .slc)) h K:=by
 obtain⟨rs,r,q⟩:=H.Ar;obtain⟨c,g⟩:=x6 (bw e2 k f rs ll)
 rw[<-g]at q;have v:aa B h0 h (fy e s2 e2 k f l2::(As++(an e s 1 bn rs::c))):=q.front;obtain⟨a,m,n⟩:=v.Ar;obtain⟨L2,j⟩:=x6 (bw e2 k f a l2)
 rw[<-j]at n;have p:=n.front;rw[qn]at p;have A:=p.front;have o:aa B h0 h (an e s 1 bn rs::(c++(an e s2 1 bn a::(L2++As)))):=by
  have x:(an e s 1 bn rs::c++(an e s2 1 bn a::L2))++As=an e s 1 bn rs::(c++(an e s2 1 bn a::(L2++As))):=i6
  rw[<-x];exact A
 have D:Seq h (λb=>b<h.size) s2 1 bn a:=o.seq (hY c+1) (by rw[qq,qi (qm _),qX];rfl) λ_=>rfl;refine o.append z 0 hZ E w hZ i0 (λ_=>rfl) D jH ii λd h' l=>F d h' ?_;have l:aa B h0 h' ((an e d 1 bn (rs++a)::c)++(an e s2 1 bn a::(L2++As))):=l;have u:=aa.abL l;refine aa.Ee (rs:=rs++a) (by simp[r,m]) ?_;rw[RB a l2 r,<-g,<-j];have y:(an e d 1 bn (rs++a)::(c++L2))++As=(an e d 1 bn (rs++a)::c)++(L2++As):=i6
 rw[y];exact u
end
end Go.Qw
