/- Lemmas for the proof of the law; no condition. -/
import Derived.Test.YtmobnmonkaacaaaGreatDoorVcA
import Derived.Sort.Grow
import Derived.Lib.SlicesCompact
import Derived.Lib.RowBridge
import Derived.Shelf.SlSortCmp.NoneTotal
set_option linter.unusedVariables false
set_option linter.unusedSimpArgs false
open UInt8 renaming ofNat -> zI
open Nat renaming min_eq_left -> wW
open List renaming mem_or_eq_of_mem_set -> wi, range -> qy, replicate -> qh, set_comm -> vb, set_eq_take_append_cons_drop -> yC, size_toArray -> yI, take -> yp, zipWith -> zl
open Prod renaming fst -> qA
open Go.IntKind renaming bits -> qq, i64 -> xN, signed -> yA, u32 -> xP, u64 -> xQ, u8 -> xO, wrap -> qc
open BitVec renaming ofInt -> qG, ofNat_toNat -> vE, setWidth_eq -> vF
open Int renaming fdiv -> zo, tmod -> xz
open Go.Value renaming int -> xH
open Array renaming ext' -> vj, ext_getElem? -> yW, range -> xB, toList_map -> vZ
open Go.Builtin renaming append_ -> q6, clear_ -> vM, copy_ -> yN, firstCells -> wI, nextslicecap -> yK, zeroCells -> yo
open Bool renaming or_eq_true -> yu
open Go.Instr renaming alloc -> wM, box -> va, buildSlice -> zw, fill -> wv, makeSlice -> zB, storeAt -> qD
set_option maxRecDepth 100000
open Option renaming some -> dB, none -> eH
open Bool renaming true -> eX, false -> eY
open Go renaming Value -> fY, Addr -> hU
open Go.Qw renaming cellOf -> hY, Heap -> m5
open List renaming length -> n4
namespace Go.Qw
namespace Gf
theorem Lt{p:UInt8->Prop}(h:∀n,n<256->p (zI n))(a:UInt8):p a:=by
 have:=h a.toNat (UInt8.toNat_lt a)
 rwa [UInt8.ofNat_toNat]at this
def x2(a:UInt8):UInt8:=(a<<<1)^^^(if a&&&0x80=0 then 0 else 0x1b)
def x3(a:UInt8):UInt8:=x2 a^^^a
def pw:Nat->UInt8
 |0=>1
 |n+1=>x3 (pw n)
theorem ZN(a b c:UInt8):(a^^^b)&&&c=(a&&&c)^^^(b&&&c):=by apply UInt8.toBitVec_inj.1;ext i hi;simp[Bool.and_xor_distrib_right]
theorem ZO(a b:UInt8):(a^^^b)<<<1=(a<<<1)^^^(b<<<1):=by apply UInt8.toBitVec_inj.1;simp[BitVec.shiftLeft_xor_distrib]
theorem Lu:∀a:UInt8,a&&&0x80=0∨a&&&0x80=0x80:=Lt o6
theorem abl(a b c d:UInt8):(a^^^b)^^^(c^^^d)=(a^^^c)^^^(b^^^d):=by ac_rfl
theorem abm(a b:UInt8):x2 (a^^^b)=x2 a^^^x2 b:=by
 unfold x2;rw[ZN,ZO];rcases Lu a with ha|ha<;>rcases Lu b with hb|hb<;>rw[ha,hb]
 .simp
 .grind
 .grind
 .rw[abl];simp
theorem abn(a b:UInt8):x3 (a^^^b)=x3 a^^^x3 b:=by unfold x3;rw[abm,abl]
def tj:Nat->UInt8->UInt8
 |0,a=>a
 |n+1,a=>x3 (tj n a)
theorem PD(a b:UInt8):∀n,tj n (a^^^b)=tj n a^^^tj n b
 |0=>rfl
 |n+1=>by simp only[tj,PD a b n,abn]
theorem Ib(a:UInt8)(m:Nat):∀n,tj (n+m) a=tj n (tj m a)
 |0=>by simp[tj]
 |n+1=>by rw[Nat.add_right_comm];simp only[tj,Ib a m n]
theorem Lv:∀n,tj n 0=0
 |0=>rfl
 |n+1=>by rw[tj,Lv n];rfl
theorem Ai:∀n,pw n=tj n 1
 |0=>rfl
 |n+1=>by rw[pw,tj,Ai n]
def adm:Nat:=939374623831894136699086600277250597547650664638770418422125146541797353646788332867483593573384618611044815625336497665827114626705134492515730415652478061620339993830966980270842846318821775850471098591710629241171812800746666233448222972174585295916389942636813666312872914849454985560152530477328703759683306625234997237483834721220409437442253146756845415190424543171129629468776480674528486868811725071010351012234056630775688111116293610821126543142160426617079940511630006820862697466582575257349116925728488930366609138264019883664906661504235885380294353134295748489096855100647154935187045898006656778240
def lg(a:UInt8):Nat:=(adm>>>(8*a.toNat))%256
theorem Gt:∀a:UInt8,lg a<255:=Lt o6
theorem Rb:∀a:UInt8,a≠0->pw (lg a)=a:=Lt o6
theorem Rc:∀n,n<255->lg (pw n)=n:=o6
theorem abo:pw 255=1:=qa
theorem Re:∀n,n<255->pw n≠0:=o6
theorem TJ(n:Nat):pw (n+255)=pw n:=by rw[Ai,Ib,<-Ai 255,abo,<-Ai]
theorem TK(n:Nat):pw (n%255)=pw n:=by
 have:∀k m,pw (m+255*k)=pw m:=by
  intro k
  induction k with
  |zero=>simp
  |succ k ih=>intro m;rw[Nat.mul_succ,<-w6,TJ,ih]
 have h:=this (n/255) (n%255)
 grind
def mul(a b:UInt8):UInt8:=if a=0∨b=0 then 0 else pw ((lg a+lg b)%255)
def inv(a:UInt8):UInt8:=if a=0 then 0 else pw ((255-lg a)%255)
theorem mul_zero(a:UInt8):mul a 0=0:=by simp[mul]
theorem zero_mul(a:UInt8):mul 0 a=0:=rfl
theorem mul_comm(a b:UInt8):mul a b=mul b a:=by
 unfold mul
 grind
theorem Lw(a b:UInt8)(d:a≠0):mul a b=tj (lg a) b:=by
 by_cases c:b=0
 .subst c;rw[mul_zero,Lv]
 .rw[mul,nq o4,TK,Ai,Ib,<-Ai,Rb b c]
theorem jC(a b c:UInt8):mul a (b^^^c)=mul a b^^^mul a c:=by
 by_cases d:a=0
 .subst d;simp[zero_mul]
 .rw[Lw _ _ d,Lw _ _ d,Lw _ _ d,PD]
theorem PE(a b c:UInt8):mul (a^^^b) c=mul a c^^^mul b c:=by rw[mul_comm,jC,mul_comm c a,mul_comm c b]
theorem TL{a b:UInt8}(c:a≠0)(d:b≠0):mul a b≠0:=by rw[mul,nq o4];exact Re _ (vk _ n8)
theorem TM{a b:UInt8}(c:a≠0)(d:b≠0):lg (mul a b)=(lg a+lg b)%255:=by rw[mul,nq o4,Rc _ (vk _ n8)]
theorem mul_assoc(a b c:UInt8):mul (mul a b) c=mul a (mul b c):=by
 by_cases f:a=0
 .subst f;rfl
 by_cases d:b=0
 .subst d;simp[zero_mul,mul_zero]
 by_cases e:c=0
 .subst e;simp[mul_zero]
 rw[mul,nq (by simp[TL f d,e]),TM f d,mul,nq (by simp[f,TL d e]),TM d e]
 grind
theorem abp:lg 1=0:=rfl
theorem one_mul(a:UInt8):mul 1 a=a:=by
 by_cases b:a=0
 .subst b;rfl
 .rw[mul,nq o4,abp,w8,TK,Rb a b]
theorem mul_one(a:UInt8):mul a 1=a:=by rw[mul_comm,one_mul]
theorem abq{a:UInt8}(b:a≠0):inv a≠0:=by rw[inv,nq b];exact Re _ (vk _ n8)
theorem Aj{a:UInt8}(b:a≠0):mul a (inv a)=1:=by
 have c:=Gt a;rw[mul,nq (by simp[b,abq b]),inv,nq b,Rc _ (vk _ n8)];have:(lg a+(255-lg a)%255)%255=0:=n7
 rw[this];rfl
end Gf
open Go.Proofs
structure Pow where
 off:Bool
 fuse:Option Nat
 offs:Int
def Pow.new:Pow:=⟨eY,eH,0⟩
def Pow.step(w:Pow):Bool×Pow:=
 if w.off then(eY,w)else match w.fuse with
 |none=>(eX,w)
 |some 0=>(eY,⟨eX,dB 0,Go.IntKind.wrap .i64 (w.offs+1)⟩)
 |some (k+1)=>(eX,⟨eY,dB k,w.offs⟩)
def Pow.arm(w:Pow)(n:Int):Pow:=if w.off then w else⟨eY,if 0<=n then dB n.toNat else eH,w.offs⟩
structure bp where
 room:Nat
 l:dP
 wait:Nat
 laid:dP
 has:Bool
 lost:Bool
def bp.new(a:Nat):bp:=⟨a,[],0,[],eY,eY⟩
def bp.append(w:Pow)(d:bp)(b:aR):Int×Pow×bp:=
 if b.length≠64 then(1,w,d)
 else if d.lost then(5,w,d)
 else if d.room<=n4 d.l then(7,w,d)
 else if w.off then(14,w,d)
 else if w.step.1 then(0,w.step.2,{d with l:=d.l++[b],wait:=d.wait+1,laid:=[],has:=eY})
 else(14,w.step.2,{d with l:=d.l++[b],wait:=d.wait+1})
def bp.sync(w:Pow)(d:bp):Int×Pow×bp:=
 if d.lost then(5,w,d)
 else if w.step.1 then(0,w.step.2,{d with wait:=0,laid:=[],has:=eY})
 else(14,w.step.2,d)
def bp.rewrite(w:Pow)(d:bp)(l:dP):Int×Pow×bp:=
 if !l.all (λb=>decide (n4 b=64))then(1,w,d)
 else if d.lost then(5,w,d)
 else if d.room<n4 l then(7,w,d)
 else if w.off then(14,w,d)
 else if w.step.1 then(0,w.step.2,{d with l:=l,wait:=0,laid:=[],has:=eY})
 else(14,w.step.2,{d with laid:=l,has:=eX})
def bp.Ic(d:bp):bp:={d with lost:=eX,l:=[],wait:=0,laid:=[],has:=eY}
abbrev aF:=List (Option bp)
def bR(b:aF)(a:Int):Option bp:=if 0<=a/\a<64 then(b[a.toNat]?).join else eH
def iD(b:aF)(a:Int)(d:bp):aF:=b.set a.toNat (dB d)
def isLive(b:aF)(a:Int):Bool:=match bR b a with|some d=>!d.lost|none=>eY
def aY(b:aF)(a:aC):aC:=a.filter (isLive b)
def dV(w:Pow)(c:aF)(a:Int)(b:aR):Int×Pow×aF:=
 match bR c a with
 |none=>(if b.length≠64 then 1 else 5,w,c)
 |some d=>((d.append w b).1,(d.append w b).2.1,iD c a (d.append w b).2.2)
def fw(w:Pow)(b:aF)(a:Int):Int×Pow×aF:=
 match bR b a with
 |none=>(5,w,b)
 |some d=>((d.sync w).1,(d.sync w).2.1,iD b a (d.sync w).2.2)
def fQ:List (Int×aR)->Pow->aF->Int×Pow×aF
 |[],w,ds=>(0,w,ds)
 |x::l,w,ds=>let r:=dV w ds x.1 x.2;if r.1=0 then fQ l r.2.1 r.2.2 else r
def iO:aC->Pow->aF->Int×Pow×aF
 |[],w,ds=>(0,w,ds)
 |x::l,w,ds=>let r:=fw w ds x;if r.1=0 then iO l r.2.1 r.2.2 else r
theorem mO(x:Int)(l:aC)(w:Pow)(a:aF):iO (x::l) w a=if(fw w a x).1=0 then iO l (fw w a x).2.1 (fw w a x).2.2 else fw w a x:=rfl
theorem kV(x:Int×aR)(l:List (Int×aR))(w:Pow)(a:aF):fQ (x::l) w a=if(dV w a x.1 x.2).1=0 then fQ l (dV w a x.1 x.2).2.1 (dV w a x.1 x.2).2.2 else dV w a x.1 x.2:=rfl
def gq(l:aC):aC:=((qy 64).map λi:Nat=>(i:Int)).filter λi=>decide (i∈l)
def layAll(l:List (Int×aR))(w:Pow)(a:aF):Int×Pow×aF:=
 let r:=fQ l w a
 if r.1=0 then iO (gq (l.map qA)) r.2.1 r.2.2 else r
def b8(n:Int):UInt8:=zI (n%256).toNat
theorem cb(n:Int):qc xO n=((b8 n).toNat:Int):=by
 have e:((b8 n).toNat)=n%256:=by unfold b8;rw[UInt8.toNat_ofNat'];omega
 rw[e];rfl
abbrev rv:=BitVec 32
def tm(s:rv):rv:=if s&&&1#32=1#32 then(s>>>1)^^^3988292384#32 else s>>>1
def nR:Nat->rv->rv
 |0,s=>s
 |n+1,s=>tm (nR n s)
def PF(s:rv)(x:UInt8):rv:=nR 8 (s^^^BitVec.ofNat 32 x.toNat)
def mf(l:aR):rv:=l.foldl PF 4294967295#32
def Ck(l:aR):rv:=4294967295#32^^^mf l
theorem Gu(l:aR)(x:UInt8):mf (l++[x])=PF (mf l) x:=by unfold mf;simp
theorem Lx(s:rv):qc xP ((s.toNat:Nat):Int)=(s.toNat:Int):=by unfold qc;simp[qq,yA];omega
theorem DP(a b:rv):qc xP ((qG (qq xP) (a.toNat:Int)^^^qG (qq xP) (b.toNat:Int)).toNat:Nat)=((a^^^b).toNat:Int):=by show qc xP (((qG 32 (a.toNat)^^^qG 32 (b.toNat)).toNat))=_;rw[wH,wH,vE,vE,vF,vF,Lx]
theorem YR(a b:rv):qc xP ((qG (qq xP) (a.toNat:Int)&&&qG (qq xP) (b.toNat:Int)).toNat:Nat)=((a&&&b).toNat:Int):=by show qc xP (((qG 32 (a.toNat)&&&qG 32 (b.toNat)).toNat))=_;rw[wH,wH,vE,vE,vF,vF,Lx]
theorem Cl(n:Int):qc xP n=((qG 32 n).toNat:Int):=by unfold qc;simp[qq,yA,];omega
theorem PG(s:rv):zo (s.toNat:Int) (2^min (1:Int).toNat (qq xP))=((s>>>1).toNat:Int):=by rw[show min (1:Int).toNat (qq xP)=1 from n5,Int.fdiv_eq_ediv_of_nonneg _ n8,BitVec.toNat_ushiftRight,Nat.shiftRight_eq_div_pow];simp
theorem DQ(s:rv):((s&&&1#32).toNat:Int)=1↔s&&&1#32=1#32:=by
 constructor
 .intro h;apply BitVec.eq_of_toNat_eq
  grind
 grind
def rU(s:rv):aR:=(qy 4).map λi=>b8 (zo (s.toNat:Int) (2^(8*i)))
theorem Ly(s:rv):n4 (rU s)=4:=rfl
def ff(b:Int)(a:aR):aR:=[87,115,1,b8 b]++a++qh (55-n4 a) 0
def eS(a:Int)(b:aR):aR:=
 if 1<=a/\a<=255/\b.length<=55 then ff a b++rU (Ck (ff a b))++[165]else[]
theorem tp{b:Int}{a:aR}(h:n4 a<=55:=by omega):n4 (ff b a)=59:=by simp[ff];omega
theorem ni{a:Int}{b:aR}(c:1<=a)(d:a<=255)(h3:n4 b<=55):n4 (eS a b)=64:=by unfold eS;rw[m6 ⟨c,d,h3⟩];simp[tp h3,Ly]
variable {A B:Prop}
theorem ae{p:Prop}[Decidable p](a:p->A)(b:¬p->B):Br (decide p) A B:=by
 by_cases h:p
 .rw[n1 h];exact a h
 .rw[n2 h];exact b h
theorem be{a b:Int}(c:a=b->A)(d:a≠b->B):Br (a==b) A B:=by
 by_cases h:a=b
 .rw[beq_iff_eq.2 h];exact c h
 .rw[beq_eq_false_iff_ne.2 h];exact d h
theorem bt{a b:Int}(c:a≠b->A)(d:a=b->B):Br (a !=b) A B:=by
 by_cases h:a=b
 .rw[show(a !=b)=eY by simp[h]];exact d h
 .rw[show(a !=b)=eX by simp[h]];exact c h
theorem aT{b:Bool}(a:b=eX->A)(c:b=eY->B):Br b A B:=by
 cases b
 .exact c n5
 .exact a n5
theorem aH{b:Bool}(a:b=eY->A)(c:b=eX->B):Br (!b) A B:=by
 cases b
 .exact a n5
 .exact c n5
theorem Fi{b:Bool}(h:b=eX)(a:A):Br b A B:=by subst h;exact a
theorem rV{b:Bool}(h:b=eY)(a:B):Br b A B:=by subst h;exact a
theorem aE{σ:Type}{rest:σ->m5->Prop}{B:(σ->m5->Prop)->Prop}(h:B rest):ly rest B:=⟨rest,λ_ _ x=>x,h⟩
theorem bs{σ:Type}{rest:σ->m5->Prop}{B:(σ->m5->Prop)->Prop}(R:σ->m5->Prop)(a:B R)(b:∀s h,R s h->rest s h):ly rest B:=⟨R,b,a⟩
theorem aj{σ:Type}{B:σ->(σ->m5->Prop)->m5->Prop}{s:σ}{h:m5}{τ:Type}(V:τ->σ)(I:τ->m5->Prop)(μ:τ->Nat)(t0:τ)(d:s=V t0)(c:I t0 h)
  (e:∀t h,I t h->B (V t) (λb h'=>∃a,b=V a/\I a h'/\μ a<μ t) h):fP B s h:=⟨τ,V,I,μ,t0,d,c,e⟩
abbrev au:=Nat->Prop
def aQ(p:au)(h h':m5):Prop:=h.size<=h'.size/\∀b,b<h.size->p b->h'[b]?=h[b]?
def Sl.on(s:Sl)(b:Nat):Prop:=∃o,s.ptr=dB ⟨b,o,eH⟩
variable {p q:au} {h h' h'':m5}
theorem aQ.refl(p:au)(h:m5):aQ p h h:=⟨qj _,λ_ _ _=>rfl⟩
theorem aQ.trans(a:aQ p h h')(b:aQ p h' h''):aQ p h h'':=⟨qV a.1 b.1,λk c d=>(b.2 k (qS c a.1) d).trans (a.2 k c d)⟩
theorem aQ.then(a:aQ p h h')(b:aQ q h' h'')(e:∀k,k<h.size->p k->q k):aQ p h h'':=⟨qV a.1 b.1,λk c d=>(b.2 k (qS c a.1) (e k c d)).trans (a.2 k c d)⟩
theorem aQ.mono(a:aQ p h h')(d:∀b,b<h.size->q b->p b):aQ q h h':=⟨a.1,λk c e=>a.2 k c (d k c e)⟩
theorem aQ.push(p:au)(h:m5)(o:Obj):aQ p h (h.push o):=⟨oo,λb a _=>o4⟩
theorem df{a:hU}{v:fY}(b:hY h a=dB v):a.block<h.size:=by
 unfold hY at b
 grind
theorem lt_of_block{b:Nat}{o:Obj}(a:h[b]?=dB o):b<h.size:=(Array.getElem?_eq_some_iff.1 a).1
theorem aQ.cell(a:aQ p h h'){x:hU}{v:fY}(c:p x.block)(b:hY h x=dB v):hY h' x=dB v:=by
 have:=a.2 _ (df b) c;unfold hY at*
 grind
theorem aQ.block(a:aQ p h h'){b:Nat}{o:Obj}(d:p b)(c:h[b]?=dB o):h'[b]?=dB o:=by rw[a.2 b (lt_of_block c) d];exact c
theorem aQ.cells(a:aQ p h h'){x:hU}(b:p x.block):∀{vs:aS} {i:Nat},aZ h x i vs->aZ h' x i vs
 |[],_,_=>trivial
 |v::r,i,hc=>⟨a.cell (by unfold Addr.add;grind) hc.1,aQ.cells a b hc.2⟩
theorem add_eq(b o n:Nat):(⟨b,o,eH⟩:hU).add n=⟨b,o+n,eH⟩:=by unfold Addr.add;simp
theorem add_zero(a:hU):a.add 0=a:=rfl
theorem AP{h:m5}{b o:Nat}{c:Array fY}{e:TypeId}{f:Nat×Nat}(a:h[b]?=dB (.cells c e f)):hY h ⟨b,o,eH⟩=c[o]?:=by unfold hY;grind
theorem WM{h:m5}{b o:Nat}{c:Array fY}{e:TypeId}(a:h[b]?=dB (.cells c e (0,0))):Qz h ⟨b,o,eH⟩=eY:=by unfold Qz;grind
structure Seq {α:Type} (h:m5) (p:au) (s:Sl) (k:Nat) (f:α->aS) (l:List α):Prop where
 len:s.len=n4 l
 elem:∀i x,l[i]?=dB x->∃b o,s.ptr=dB ⟨b,o,eH⟩/\p b/\aZ h ⟨b,o+i*k,eH⟩ 0 (f x)
variable {α:Type} {s:Sl} {k:Nat} {f:α->aS} {l:List α}
theorem Seq.ac(a:Seq h p s k f l)(e:aQ p h h'):Seq h' p s k f l:=⟨a.len,λi x d=>by
 obtain⟨b,o,g,c,h3⟩:=a.elem i x d;exact⟨b,o,g,c,e.cells c h3⟩⟩
theorem Seq.mono(a:Seq h p s k f l)(d:∀b,p b->q b):Seq h q s k f l:=⟨a.len,λi x c=>by
 obtain⟨b,o,e,g,h3⟩:=a.elem i x c
 grind⟩
theorem Seq.nil(h:m5)(p:au)(c:Nat)(a:bJ)(k:Nat)(f:α->aS):Seq h p ⟨a,0,c⟩ k f []:=⟨n5,λi x b=>o4⟩
theorem Seq.aV{X:Type}{g:X->fY}(c:Seq h p s 1 f l){i:Int}(n:Nat)(m:i=n)(k:n<n4 l)(x:X)(e:f l[n]=[g x]){K:X->Prop}(d:K x):
  ∃a:hU,(s.ptr=dB a/\0<=i/\i<((s.len:Nat):Int))/\∃x:X,hY h (a.add (i.toNat*1))=dB (g x)/\K x:=by
 obtain⟨b,o,j,_,h3⟩:=c.elem n l[n] (qd k);refine⟨_,⟨j,n7,by rw[c.len];omega⟩,x,?_,d⟩;rw[e]at h3;have:=h3.1;rw[add_eq,]at this;rw[add_eq];grind
theorem Seq.cG{X:Type}{g:X->aS}(c:Seq h p s k f l){i:Int}(n:Nat)(q:i=n)(j:n<n4 l)(x:X)(m:f l[n]=g x){K:X->Prop}(d:K x):
  ∃a:hU,(s.ptr=dB a/\0<=i/\i<((s.len:Nat):Int))/\∃x:X,aZ h (a.add (i.toNat*k)) 0 (g x)/\K x:=by
 obtain⟨b,o,e,_,h3⟩:=c.elem n l[n] (qd j);refine⟨_,⟨e,n7,by rw[c.len];omega⟩,x,?_,d⟩;rw[add_eq]
 grind
def ar(n:Int):aS:=[xH xN n]
def aq(n:UInt8):aS:=[xH xO n.toNat]
def fk(b:Bool):aS:=[.bool b]
def bv(s:Sl):aS:=[.slice s.ptr s.len s.cap]
structure gu {α:Type} (h:m5) (p:au) (s:Sl) (k:Nat) (f:α->aS) (ll:List (List α)) (rs:List Sl):Prop where
 top:Seq h p s 1 bv rs
 len:n4 rs=n4 ll
 row:∀(i:Nat) (r:Sl) (l:List α),rs[i]?=dB r->ll[i]?=dB l->Seq h p r k f l
variable {ll:List (List α)} {rs:List Sl}
theorem gu.ac(a:gu h p s k f ll rs)(b:aQ p h h'):gu h' p s k f ll rs:=⟨a.top.ac b,a.len,λi r l c d=>(a.row i r l c d).ac b⟩
theorem gu.mono(a:gu h p s k f ll rs)(c:∀b,p b->q b):gu h q s k f ll rs:=⟨a.top.mono c,a.len,λi r l d e=>(a.row i r l d e).mono c⟩
theorem gu.Fj(a:gu h p s k f ll rs):s.len=n4 ll:=by rw[a.top.len,a.len]
theorem gu.get(c:gu h p s k f ll rs){i:Int}(n:Nat)(j:i=n)(e:n<n4 ll){K:Sl->Prop}(g:∀r,Seq h p r k f ll[n]->rs[n]?=dB r->K r):
  ∃a:hU,(s.ptr=dB a/\0<=i/\i<((s.len:Nat):Int))/\∃x:Sl,hY h (a.add (i.toNat*1))=dB (.slice x.ptr x.len x.cap)/\K x:=by
 have b:n<n4 rs:=by rw[c.len];exact e
 have d:rs[n]?=dB rs[n]:=qd b;exact c.top.aV n j b rs[n] n5 (g _ (c.row n _ _ d (qd e)) d)
structure Own {α:Type} (h:m5) (e:TypeId) (s:Sl) (k:Nat) (f:α->aS) (l:List α):Prop where
 len:s.len=n4 l
 head:(s.ptr=eH/\s.cap=0/\l=[])∨∃b rest,s.ptr=dB ⟨b,0,eH⟩/\h[b]?=dB (.cells (l.flatMap f++rest).toArray e (0,0))/\rest.length=(s.cap-s.len)*k/\s.len<=s.cap
theorem dL{α:Type}{k:Nat}{f:α->aS}(a:∀x,n4 (f x)=k):∀(l:List α),n4 (l.flatMap f)=n4 l*k
 |[]=>oo
 |x::r=>by rw[zm,qo,a,dL a r,q7,zU];omega
theorem Fk{α:Type}{k:Nat}{f:α->aS}(a:∀x,n4 (f x)=k):∀(l:List α) (i:Nat) (x:α),l[i]?=dB x->∃pre post,l.flatMap f=pre++f x++post/\pre.length=i*k
 |y::r,0,x,h=>by simp at h;subst h;simp
 |y::r,i+1,x,h=>by
  obtain⟨pre,post,b,c⟩:=Fk a r i x o4;exact⟨f y++pre,post,o4,o4⟩
theorem vW{h:m5}{b o:Nat}{e:TypeId}{fr:Nat×Nat}:∀{vs pre post:aS} {i:Nat},h[b]?=dB (.cells (pre++vs++post).toArray e fr)->n4 pre=o+i->aZ h ⟨b,o,eH⟩ i vs
 |[],_,_,_,_,_=>trivial
 |v::r,pre,post,i,hb,hl=>by
  refine⟨?_,vW (pre:=pre++[v]) (post:=post) (by simpa using hb) o4⟩;rw[add_eq,AP hb,<-hl];simp
def jJ(h:m5)(b:Nat)(o:Obj):m5:=h.setIfInBounds b o
theorem iE{h:m5}{b c:Nat}{o x:Obj}(a:h[b]?=dB x):(jJ h b o)[c]?=if b=c then dB o else h[c]?:=by
 unfold jJ
 grind
theorem TN{h:m5}{b o:Nat}{c:Array fY}{e:TypeId}{f:Nat×Nat}{v:fY}(a:h[b]?=dB (.cells c e f)):QA h ⟨b,o,eH⟩ v=jJ h b (.cells (c.setIfInBounds o v) e f):=by
 apply yW;intro i;rw[iE a];simp only[QA,]
 grind
theorem TO(h:m5)(b:Nat)(o a:Obj):jJ (jJ h b o) b a=jJ h b a:=by unfold jJ;simp
theorem aQ.jJ{p:au}{h:m5}{b:Nat}{o x:Obj}(a:h[b]?=dB x)(d:¬p b):aQ p h (jJ h b o):=⟨by simp[Qw.jJ],λc _ f=>by
 rw[iE a,nq λe=>d o4]⟩
theorem fo{P:Program}{b o:Nat}{e:TypeId}{K:Unit->m5->Prop}:∀{vs pre old post:aS} {i:Nat} {h:m5},h[b]?=dB (.cells (pre++old++post).toArray e (0,0))->n4 old=n4 vs->n4 pre=o+i->
  (∀v∈vs,v.oneCell'=eX)->K () (jJ h b (.cells (pre++vs++post).toArray e (0,0)))->av P (storeCells ⟨b,o,eH⟩ vs i) h K
 |[],pre,old,post,i,h,hb,hl,hp,hv,hk=>by
  have:old=[]:=qQ n7;refine av.pure' ?_;have g:jJ h b (.cells (pre++[]++post).toArray e (0,0))=h:=by
   apply yW;intro c;rw[iE hb]
   grind
  grind
 |v::r,pre,old,post,i,h,hb,hl,hp,hv,hk=>by
  cases old with
  |nil=>grind
  |cons u old=>
   refine av.bind ?_;rw[add_eq];have d:hY h ⟨b,o+i,eH⟩=dB u:=by rw[AP hb,<-hp];simp
   refine av.aaH (hv v oo) d (WM hb) ?_;rw[TN hb];have a:(pre++(u::old)++post).toArray.setIfInBounds (o+i) v=((pre++[v])++old++post).toArray:=by rw[<-hp];simp
   rw[a];refine fo (e:=e) (pre:=pre++[v]) (old:=old) (post:=post) ?_ o4 oi (λx f=>hv x o4) ?_
   .rw[iE hb,m6 rfl]
   .rw[TO];grind
theorem Ie{P:Program}{h:m5}{a:hU}{vs:aS}{n:Nat}{K:Array fY->m5->Prop}(e:n4 vs=n)(b:aZ h a 0 vs)(d:K vs.toArray h):av P (loadCells a n) h K:=λw c=>by
 subst c;refine⟨vs.toArray,w,?_,dj.refl w,d⟩;have:=run_loadCells (P:=P) (w:=w) (a:=a) vs 0 #[] b;unfold loadCells
 grind
variable {e:TypeId}
theorem Own.lt(c:Own h e s k f l){b:Nat}(a:s.on b):b<h.size:=by
 rcases c.head with⟨h1,_,_⟩|⟨b',rest,h1,h2,_,_⟩
 .obtain⟨o,h0⟩:=a;grind
 .obtain⟨o,h0⟩:=a
  grind
theorem Own.ac(c:Own h e s k f l)(d:aQ p h h')(a:∀b,s.on b->p b):Own h' e s k f l:=⟨c.len,by
 rcases c.head with h1|⟨b,rest,h1,h2,h3,h4⟩
 .grind
 .exact .inr ⟨b,rest,h1,d.block (a b ⟨0,h1⟩) h2,h3,h4⟩⟩
theorem Own.seq(c:Own h e s k f l)(g:∀x,n4 (f x)=k)(a:∀b,s.on b->p b):Seq h p s k f l:=⟨c.len,λi x d=>by
 rcases c.head with⟨_,_,h1⟩|⟨b,rest,h1,h2,h3,h4⟩
 .grind
 .obtain⟨pre,post,j,m⟩:=Fk g l i x d;refine⟨b,0,h1,a b ⟨0,h1⟩,vW (e:=e) (fr:=(0,0)) (pre:=pre) (post:=post++rest) ?_ n7⟩
  grind⟩
theorem Own.nil(h:m5)(e:TypeId)(k:Nat)(f:α->aS):Own h e ⟨eH,0,0⟩ k f []:=⟨n5,.inl ⟨n5,n5,n5⟩⟩
theorem Own.cap(a:Own h e s k f l):s.len<=s.cap:=by
 rcases a.head with⟨h1,h2,h3⟩|⟨b,rest,h1,h2,h3,h4⟩
 .have:=a.len;grind
 grind
theorem av.always{α:Type}{P:Program}{s:Sem α}{v:α}{h:m5}{K:α->m5->Prop}(a:aL P s v)(b:K v h):av P s h K:=λw c=>⟨v,w,a w,dj.refl w,o4⟩
structure bS (C:Ag) (t e k:Nat) (z:aS) (by_:Nat):Prop where
 ex:∃i j,C.T.get t=dB i/\i.cm=.slice e/\C.T.get e=dB j/\j.size=k/\j.zero=z/\j.bytes=by_
variable {t:Nat} {z:aS} {by_:Nat}
section
variable {C:Ctx} {e:Nat}
theorem bS.under(b:bS C.toAg t e k z by_)(c:C.Ok):C.P.underlying t=dB (.slice e):=by obtain⟨i,j,a,d,_⟩:=b.ex;have:=c.cm a;rw[d]at this;exact il this
theorem bS.size(b:bS C.toAg t e k z by_)(c:C.Ok):aL C.P (sizeOf e) k:=by obtain⟨i,j,_,_,a,d,_⟩:=b.ex;rw[<-d];exact ey c.toOk a
theorem bS.info(c:bS C.toAg t e k z by_)(d:C.Ok):∃f,C.P.info? e=dB f/\f.size=k/\f.bytes=by_/\∃a,f.zero=dB a/\a.cells=z.toArray:=by
 obtain⟨i,j,_,_,b,p,h3,g⟩:=c.ex;obtain⟨f,m,o,h,a,l,n⟩:=d.info b
 grind
end
def iF(z:aS):Nat->aS
 |0=>[]
 |n+1=>z++iF z n
theorem mu(z:aS):∀n,n4 (iF z n)=n*n4 z
 |0=>by simp[iF]
 |n+1=>by rw[iF,qo,mu z n,zU];omega
theorem Lz(z:aS):∀(n i:Nat),i<n*n4 z->(iF z n)[i]?=z[i%n4 z]?
 |0,i,h=>n7
 |n+1,i,h=>by
  rw[iF];by_cases a:i<n4 z
  .rw[qu a,Nat.mod_eq_of_lt a]
  .rw[qk n7,Lz z n (i-n4 z) o4]
   conv=>rhs;rw[show i=(i-n4 z)+n4 z by omega,Nat.add_mod_right]
theorem LA(z:aS)(n m:Nat)(c:m=n*n4 z):((xB m).map λi=>z.toArray[i%z.toArray.size]!)=(iF z n).toArray:=by
 apply yW;intro i;subst c;simp only[zT];by_cases b:i<n*n4 z
 .rw[Lz z n i b];have a:0<n4 z:=Nat.pos_of_ne_zero λe=>o4
  have:=vk i a
  grind
 .rw[zf (by rw[mu];omega)];simp[b]
theorem tu(z:aS)(n:Nat):yo z.toArray n=(iF z n).toArray:=LA z n _ (n5)
theorem PH(a:Nat):∀(r c:Nat),Builtin.growBy a r c<=(c+768)*2^r
 |0,c=>by simp[Builtin.growBy]
 |r+1,c=>by
  unfold Builtin.growBy;split
  .exact qV (Nat.le_add_right c 768) (Nat.le_mul_of_pos_right _ (Nat.two_pow_pos _))
  .refine qV (PH a r _) ?_;rw[Nat.pow_succ,Nat.mul_comm (2^r) 2,<-Nat.mul_assoc];exact zi _ n7
theorem acO(o n:Nat)(h:o<n):(o+768)*2^4<=16*n+16*768:=n7
theorem If(a b:Nat)(h:b<a:=by omega):yK a b<=16*a+16*768:=by
 unfold yK;split
 .omega
 .split
  .omega
  .exact qV (PH a 4 b) (acO _ _ h)
variable {t2:Nat} {v:Sl} {l2:List α}
section
variable {C:Ctx} {e:Nat}
theorem eT{P:Program}{K:Array fY->m5->Prop}(w:∀x,n4 (f x)=k)(d:Seq h p v k f l)(j:K (l.flatMap f).toArray h):
  av P (wI k v.len (.slice v.ptr v.len v.cap)) h K:=by
 cases hp:v.ptr with
 |none=>
  have:l=[]:=by
   cases l with
   |nil=>rfl
   |cons x r=>obtain⟨b,o,c,_⟩:=d.elem 0 x (rfl);grind
  subst this;exact av.pure' j
 |some a=>
  refine Ie (by rw[dL w,<-d.len]) ?_ j;cases l with
  |nil=>trivial
  |cons s r0=>
   obtain⟨b,o,c,_,_⟩:=d.elem 0 s (rfl);rw[hp]at c;cases c;have e:∀(r:List α) (n:Nat),(∀i x,r[i]?=dB x->aZ h ⟨b,o+(n+i)*k,eH⟩ 0 (f x))->aZ h ⟨b,o,eH⟩ (n*k) (r.flatMap f):=by
    intro r
    induction r with
    |nil=>intro n _;trivial
    |cons x r ih=>
     intro n q;have h0:=q 0 x (n5);have z:=ih (n+1) (λi y A=>by have:=q (i+1) y (by simpa using A);grind);have app:∀(us vs:aS) (i:Nat),aZ h ⟨b,o,eH⟩ i us->aZ h ⟨b,o,eH⟩ (i+n4 us) vs->aZ h ⟨b,o,eH⟩ i (us++vs):=by
      intro us
      induction us with
      |nil=>simp
      |cons u us ih=>intro vs i c z;exact⟨c.1,ih vs (i+1) c.2 o4⟩
     refine app _ _ _ ?_ o4;have g:∀(us:aS) (i m:Nat),aZ h ⟨b,o+m,eH⟩ i us->aZ h ⟨b,o,eH⟩ (m+i) us:=by
      intro us
      induction us with
      |nil=>intros;trivial
      |cons u us ih=>
       intro i m c;refine⟨?_,ih (i+1) m c.2⟩;have:=c.1;rw[add_eq]at this⊢;rw[<-w6];omega
     grind
   have:=e (s::r0) 0 (λi x t=>by
    obtain⟨B,D,c,_,h3⟩:=d.elem i x t
    grind)
   simpa using this
theorem Rf(w:C.Ok)(J:bS C.toAg t e k z by_)(W:∃i e2,C.T.get t2=dB i/\i.cm=.slice e2)(hz:n4 z=k)(O:0<by_/\by_<=128)(m:∀x,n4 (f x)=k)
  (A:Own h e s k f l) (I:Seq h p v k f l2) (u:∀x,∀c∈f x,c.oneCell'=eX) (Z:n4 l+n4 l2<=2^32) {ty:Nat} {K:Sl->m5->Prop}
  (F:∀G h',Own h' e G k f (l++l2)->aQ (λb=>¬s.on b) h h'->(∀b,G.on b->s.on b∨h.size<=b)->K G h'):
  bF C.P (q6 #[t,t2] ty #[.slice s.ptr s.len s.cap,.slice v.ptr v.len v.cap]) (.one (.sc .slc)) h K:=by
 obtain⟨i2,e2,g1,g2⟩:=W;have E:C.P.underlying t2=dB (.slice e2):=by have:=w.cm g1;rw[g2]at this;exact il this
 obtain⟨H,y,x2,x3,zv,x4,V⟩:=J.info w;unfold bF q6;simp only[zT,wB,qU];refine av.bind (av.always (aK (J.under w)) ?_);refine av.bind (av.always (J.size w) ?_);refine av.bind (av.always (aK E) ?_);refine av.bind (av.pure' ?_);simp only[zc,if_false,wG,if_true];refine av.bind (av.pure' ?_);have q:=A.len;have L:=I.len;by_cases g:s.len+v.len<=s.cap
 .rw[m6 g];refine av.bind (eT m I ?_);rcases A.head with⟨p1,p2,p3⟩|⟨b,rest,p1,p2,p3,p4⟩
  .rw[p1];have Q:l2=[]:=qQ n7;subst Q;refine av.pure' ⟨⟨eH,s.len+v.len,s.cap⟩,n5,F _ _ ⟨?_,.inl ⟨n5,p2,by simp[p3]⟩⟩ (aQ.refl _ _) ?_⟩
   .simp;omega
   .rintro R ⟨o,d⟩;cases d
  .rw[p1];refine av.bind ?_;rw[add_eq,w8];have j:=dL m l;have a:=dL m l2;have M:n4 (l2.flatMap f)<=n4 rest:=by rw[a,p3];exact zi k n7
   refine fo (e:=e) (pre:=l.flatMap f) (old:=rest.take (l2.flatMap f).length) (post:=rest.drop (l2.flatMap f).length) ?_ ?_ ?_ ?_ ?_
   .rw[ql,qz];exact p2
   .rw[qw];exact wW M
   .rw[j,q];omega
   .intro c U;obtain⟨x,_,B⟩:=wZ.1 U;exact u x c B
   .refine av.pure' ⟨⟨dB ⟨b,0,eH⟩,s.len+v.len,s.cap⟩,n5,F _ _ ⟨?_,.inr ⟨b,rest.drop (l2.flatMap f).length,n5,?_,?_,g⟩⟩ ?_ ?_⟩
    .simp;omega
    .rw[iE p2,m6 rfl];simp
    .rw[qJ,p3,a,<-Nat.sub_mul];show(s.cap-s.len-n4 l2)*k=(s.cap-(s.len+v.len))*k;congr 1;omega
    .exact aQ.jJ p2 (λX=>X ⟨0,p1⟩)
    .rintro R ⟨o,d⟩;cases d;exact .inl ⟨0,p1⟩
 .rw[nq g];have n:Seq h (λ_=>True) s k f l:=A.seq m λ_ _=>trivial;have S:=A.cap;refine av.bind (av.always (cA y) ?_);rw[nq λhh=>by rcases hh.2 with h|h<;>first|exact h|(rw[x3]at h;omega)];refine av.bind (av.always (cA y) ?_);have Y:=If (s.len+v.len) s.cap;rw[nq (by
   have:yK (s.len+v.len) s.cap*H.bytes<=(16*2^32+16*768)*128:=zr n7 (by rw[x3];exact O.2);omega)]
  refine av.bind (av.DI ⟨λhf=>(by cases hf),λ_ nn=>?_⟩);refine av.bind (av.always (cA y) ?_);refine av.bind (av.AJ ?_);refine av.bind (eT m n ?_);refine av.bind (eT m I ?_);have N:aL C.P (zeroValue e) zv:=(cA y).bind (by rw[x4];exact .pure);refine av.bind (av.always N ?_);rw[V,tu];unfold newRow;refine av.bind (av.bind (av.nP (av.pure' (av.pure' ?_))));generalize D:Question.cut (Question.appendCap (s.len+v.len) s.cap e) nn=cc;have r:s.len+v.len<=cc:=by rw[<-D];simp only[Question.cut];omega
  refine⟨⟨dB ⟨h.size,0,eH⟩,s.len+v.len,cc⟩,n5,F _ _ ⟨?_,.inr ⟨h.size,iF z (cc-(s.len+v.len)),n5,?_,?_,r⟩⟩ (aQ.push _ _ _) ?_⟩
  .simp;omega
  .simp
  .rw[mu,hz]
  .rintro R ⟨o,d⟩;cases d;exact .inr (qj _)
end
structure bV (h:m5) (a:hU) (e:TypeId) (cs:aS):Prop where
 off:a.off=0
 spot:a.spot=eH
 blk:h[a.block]?=dB (.cells cs.toArray e (0,0))
variable {a:hU} {cs:aS}
theorem bV.addr(c:bV h a e cs):a=⟨a.block,0,eH⟩:=by
 obtain⟨b,o,s⟩:=a;have:=c.off;have:=c.spot
 simp_all
theorem bV.ac(b:bV h a e cs)(d:aQ p h h')(c:p a.block):bV h' a e cs:=⟨b.off,b.spot,d.block c b.blk⟩
theorem bV.lt(b:bV h a e cs):a.block<h.size:=lt_of_block b.blk
theorem bV.cell(b:bV h a e cs){j:Nat}{v:fY}(c:cs[j]?=dB v):hY h (a.add j)=dB v:=by
 rw[b.addr,add_eq,AP b.blk]
 grind
theorem bV.cell0(c:bV h a e cs){v:fY}(b:cs[0]?=dB v):hY h a=dB v:=c.cell (j:=0) b
theorem bV.cells(c:bV h a e cs)(j:Nat)(vs:aS)(d:(cs.drop j).take vs.length=vs):aZ h (a.add j) 0 vs:=by
 rw[c.addr,add_eq,];have b:n4 vs<=n4 (cs.drop j):=o4
 rcases Nat.lt_or_ge cs.length j with hj|hj
 .rw[qJ]at b;have:vs=[]:=qQ n7;subst this;trivial
 .refine vW (e:=e) (fr:=(0,0)) (pre:=cs.take j) (post:=(cs.drop j).drop vs.length) ?_ o4;have:cs.take j++vs++(cs.drop j).drop vs.length=cs:=by
   conv=>lhs;rw[ql];arg 2;arg 1;rw[<-d]
   rw[qz,qz]
  rw[this];exact c.blk
theorem bV.aw(c:bV h a e cs)(vs:aS)(b:cs.take vs.length=vs):aZ h a 0 vs:=c.cells 0 vs b
variable {i:TI}
section
variable {C:Ctx}
theorem uz(f:C.Ok)(e:C.T.get t=dB i){K:hU->m5->Prop}(c:∀a h',a.block=h.size->bV h' a t i.zero->aQ (λ_=>True) h h'->h'.size=h.size+1->K a h'):
  pW C.P (wM t eX (.tuple #[])) h K:=by
 obtain⟨z,d,b⟩:=pU f.toOk e;refine av.bind (av.always d ?_);refine av.bind (av.bind (av.bind (av.nP (av.pure' (av.pure' (av.pure' ?_))))));refine⟨⟨h.size,0,eH⟩,n5,c _ _ n5 ⟨n5,n5,?_⟩ (aQ.push _ _ _) oo⟩;rw[<-b];simp
theorem PI{v:fY}{P:Program}{K:hU->m5->Prop}(b:∀a h',a.block=h.size->bV h' a t v.cells.toList->aQ (λ_=>True) h h'->h'.size=h.size+1->K a h'):
  pW P (va t v) h K:=by
 refine av.bind (av.bind (av.bind (av.nP (av.pure' (av.pure' (av.pure' ?_))))));refine⟨⟨h.size,0,eH⟩,n5,b _ _ n5 ⟨n5,n5,?_⟩ (aQ.push _ _ _) oo⟩;simp
theorem run_store(n:C.Ok){a:hU}{e:TypeId}{b:aS}(c:bV h a e b)(m:C.T.get t=dB i)(off:Nat){v:fY}(vs:aS)(j:v.cells=vs.toArray)(d:i.size=n4 vs)
  (g:vs.all (·.oneCell')=eX) (f:off+n4 vs<=n4 b) {K:Unit->m5->Prop}
  (k:∀h',bV h' a e (b.take off++vs++b.drop (off+n4 vs))->aQ (·≠a.block) h h'->h'.size=h.size->K () h'):
  av C.P (qD t (.pointer (dB (a.add off))) v) h K:=by
 have l:=c.addr;refine av.bind (av.pure' ?_);refine av.bind (av.always (ey n.toOk m) ?_);rw[j,d];simp only[yI,ne_eq,];rw[l,add_eq,];refine fo (e:=e) (pre:=b.take off) (old:=(b.drop off).take vs.length) (post:=b.drop (off+n4 vs)) ?_ ?_ ?_ ?_ ?_
 .have:b.take off++(b.drop off).take vs.length++b.drop (off+n4 vs)=b:=by rw[<-wm,ql,qz,qz]
  rw[this];exact c.blk
 .grind
 .grind
 .grind
 .refine k _ ⟨c.off,c.spot,?_⟩ (aQ.jJ c.blk oo) (by simp[jJ]);rw[iE c.blk,m6 rfl]
theorem sn(l:C.Ok){a:hU}{e:TypeId}{c:aS}(m:bV h a e c)(k:C.T.get t=dB i){v:fY}(vs:aS)(g:v.cells=vs.toArray)(d:i.size=n4 vs)
  (b:vs.all (·.oneCell')=eX) (f:n4 vs<=n4 c) {K:Unit->m5->Prop}
  (j:∀h',bV h' a e (vs++c.drop vs.length)->aQ (·≠a.block) h h'->h'.size=h.size->K () h'):
  av C.P (qD t (.pointer (dB a)) v) h K:=
 run_store l m k 0 vs g d b n7 (λh' x y z=>j h' o4 y z)
end
section
variable {C:Ctx} {e:Nat}
theorem Cm{a:α}(b:f a=z):∀n,iF z n=(qh n a).flatMap f
 |0=>rfl
 |n+1=>by rw[iF,List.replicate_succ,zm,b,Cm b n]
theorem af(x:Int)(a:-9223372036854775808<=x:=by omega)(b:x<=9223372036854775807:=by omega):qc xN x=x:=by
 show(if(eX&&decide (x%2^64>=2^63))=eX then x%2^64-2^64 else x%2^64)=x
 grind
theorem run_make(j:C.Ok)(r:bS C.toAg t e k z by_)(u:0<by_/\by_<=128)(w:α)(A:f w=z)(d:n4 z=k){F E:IntKind}{n c:Int}(m b:Nat)(H:n=m)(D:c=b)(q:m<=b)(p:b<=2^32)
  {K:Sl->m5->Prop} (I:∀i h',Own h' e i k f (qh m w)->i.ptr=dB ⟨h.size,0,eH⟩->i.cap=b->aQ (λ_=>True) h h'->h'.size=h.size+1->K i h'):
  bF C.P (zB t (.int F n) (.int E c)) (.one (.sc .slc)) h K:=by
 subst H;subst D;obtain⟨o,y,x2,x3,N,L,G⟩:=r.info j;refine av.bind (av.always (aK (r.under j)) ?_);refine av.bind (av.pure' ?_);refine av.bind (av.pure' ?_);refine av.bind (av.always (cA y) ?_);have J:qc xN (m)=m:=af _;have M:qc xN (b)=b:=af _;have O:¬((o.bytes)*(b)>2^48):=by
  have:by_*b<=128*2^32:=zr u.2 p
  grind
 simp only[J,M];rw[nq o4];refine av.bind (av.AJ ?_);refine av.bind (av.always (r.size j) ?_);have s:aL C.P (zeroValue e) N:=(cA y).bind (by rw[L];exact .pure);have fin:∀g:Array fY,(b*k≠0->g=z.toArray)->av C.P (do
   let a<-newRow e ((xB (b*k)).map (g[·%g.size]!))
   pure (Value.slice (dB a) m b)) h (λv h'=>∃x:(Rt.one (.sc .slc)).den,v=(Rt.one (.sc .slc)).enc x/\K x h'):=by
  intro g l;have B:((xB (b*k)).map (g[·%g.size]!))=(iF z b).toArray:=by
   by_cases h0:b*k=0
   .rw[];have:iF z b=[]:=qQ (by rw[mu,d,h0])
    grind
   .rw[l h0];exact LA z b _ E1
  rw[];refine av.bind (av.bind (av.nP (av.pure' (av.pure' ?_))));refine⟨⟨dB ⟨h.size,0,eH⟩,m,b⟩,n5,I _ _ ⟨oo,.inr ⟨h.size,iF z (b-m),n5,?_,?_,q⟩⟩ n5 n5 (aQ.push _ _ _) oo⟩
  .have:iF z b=(qh m w).flatMap f++iF z (b-m):=by
    rw[Cm A,Cm A,<-za,List.replicate_append_replicate]
    grind
   grind
  .rw[mu,d]
 simp only[qi];by_cases h0:b*k=0
 .rw[m6 h0];exact av.bind (av.pure' (fin _ λh=>absurd h0 h))
 .rw[nq h0];refine av.bind (av.always s ?_);exact av.bind (av.pure' (fin _ λ_=>G))
theorem Ig(j:C.Ok)(p:bS C.toAg t e k z by_)(d:n4 z=k){n:Nat}{parts:Array (Nat×fY)}(l:List α)(s:n4 l=n)(y:n*k<=2^20)
  (b:wv (λi=>dB (i*k,k)) (iF z n).toArray parts.toList=dB (l.flatMap f).toArray) {K:Sl->m5->Prop}
  (u:∀o h',Own h' e o k f l->o.ptr=dB ⟨h.size,0,eH⟩->aQ (λ_=>True) h h'->h'.size=h.size+1->K o h'):
  bF C.P (zw t n parts) (.one (.sc .slc)) h K:=by
 obtain⟨w,A,x2,x3,D,B,r⟩:=p.info j;unfold bF zw;refine av.bind (av.always (aK (p.under j)) ?_);refine av.bind (av.always (p.size j) ?_);rw[nq n7];have q:aL C.P (zeroValue e) D:=(cA A).bind (by rw[B];exact .pure);have fin:∀c:Array fY,(n*k≠0->c=z.toArray)->av C.P (do
   let dB cells:=wv (λi=>dB (i*k,k)) ((xB (n*k)).map (c[·%c.size]!)) parts.toList
    |stuck "buildSlice: a part of the wrong size"
   pure (Value.slice (dB (<-newRow e cells)) n n)) h (λv h'=>∃x:(Rt.one (.sc .slc)).den,v=(Rt.one (.sc .slc)).enc x/\K x h'):=by
  intro c m;have g:((xB (n*k)).map (c[·%c.size]!))=(iF z n).toArray:=by
   by_cases h0:n*k=0
   .rw[h0];have:iF z n=[]:=qQ (by rw[mu,d,h0]);rw[this];simp
   .rw[m h0];exact LA z n _ E1
  rw[g,b];refine av.bind (av.bind (av.nP (av.pure' (av.pure' ?_))));refine⟨⟨dB ⟨h.size,0,eH⟩,n,n⟩,n5,u _ _ ⟨s.symm,.inr ⟨h.size,[],n5,oo,oo,qj _⟩⟩ n5 (aQ.push _ _ _) oo⟩
 by_cases h0:n*k=0
 .rw[m6 h0];exact av.bind (av.pure' (fin _ λh=>absurd h0 h))
 .rw[nq h0];refine av.bind (av.always q ?_);exact av.bind (av.pure' (fin _ λ_=>r))
theorem Own.set{i:TI}(B:C.Ok)(u:Own h e s k f l)(p:∀x,n4 (f x)=k)(E:C.T.get t=dB i){x:Int}(n:Nat)(A:x=n)(q:n<n4 l){g:fY}(y:α)(F:g.cells=(f y).toArray)(r:i.size=k)
  (m:(f y).all (·.oneCell')=eX) {K:m5->Prop} (D:∀h',Own h' e s k f (l.set n y)->aQ (λb=>¬s.on b) h h'->h'.size=h.size->K h'):
  ∃a:hU,(s.ptr=dB a/\0<=x/\x<((s.len:Nat):Int))/\av C.P (qD t (.pointer (dB (a.add (x.toNat*k)))) g) h λ_ h'=>K h':=by
 subst A;rcases u.head with⟨_,_,h3⟩|⟨b,rest,h1,h2,h3,h4⟩
 .subst h3;simp at q
 .refine⟨_,⟨h1,n7,by rw[u.len];omega⟩,?_⟩;unfold qD;refine av.bind (av.pure' ?_);unfold storeVar;refine av.bind (av.always (ey B.toOk E) ?_);rw[F,r];have v:=p y;simp only[yI,v,ne_eq,not_true,if_false];rw[add_eq,w8,qi];have d:l=l.take n++l[n]::l.drop (n+1):=by rw[<-List.drop_eq_getElem_cons q,qz]
  have o:l.set n y=l.take n++y::l.drop (n+1):=yC.trans (m6 q);have j:n4 ((l.take n).flatMap f)=n*k:=by rw[dL p,qw,wW n7]
  refine fo (e:=e) (pre:=(l.take n).flatMap f) (old:=f l[n]) (post:=(l.drop (n+1)).flatMap f++rest) ?_ ?_ ?_ ?_ ?_
  .have:l.flatMap f++rest=(l.take n).flatMap f++f l[n]++((l.drop (n+1)).flatMap f++rest):=by have w:=congrArg (List.flatMap f) d;rw[za,zm]at w;rw[w];simp
   rw[<-this];exact h2
  .rw[p,p]
  .rw[j];omega
  .intro c z;have:=qP.1 m c z;exact this
  .refine D _ ⟨by rw[qO];exact u.len,.inr ⟨b,rest,h1,?_,h3,h4⟩⟩ (aQ.jJ h2 λG=>G ⟨0,h1⟩) (by simp[jJ]);rw[iE h2,m6 n5,o];simp
end
def grow(c:Nat->Nat)(n i:Nat):Nat->Nat:=λb=>if b<n then c b else i
theorem gE{c:Nat->Nat}{n i b:Nat}(h:b<n):grow c n i b=c b:=m6 h
theorem pm{c:Nat->Nat}{n i b:Nat}(h:n<=b:=by omega):grow c n i b=i:=nq n7
structure dQ {α:Type} (h:m5) (c:Nat->Nat) (i:Nat) (e:TypeId) (s:Sl) (k:Nat) (f:α->aS) (l:List α):Prop where
 own:Own h e s k f l
 aW:∀b,s.on b->c b=i
structure kH (h:m5) (c:Nat->Nat) (i:Nat) (a:hU) (e:TypeId) (cs:aS):Prop where
 box:bV h a e cs
 aW:c a.block=i
structure mv (h0 h:m5) (c:Nat->Nat):Prop where
 ac:aQ (λb=>b<h0.size) h0 h
 aW:∀b,b<h0.size->c b=0
variable {h0:m5} {c:Nat->Nat} {j n m:Nat}
section
variable {i:Nat}
theorem dQ.keep(a:dQ h c j e s k f l)(n:aQ (λb=>c b≠i) h h')(g:j≠i):dQ h' (grow c h.size m) j e s k f l:=
 ⟨a.own.ac n λb d=>by rw[a.aW b d];exact g,λb d=>by rw[gE (a.own.lt d)];exact a.aW b d⟩
theorem kH.keep(d:kH h c j a e cs)(g:aQ (λb=>c b≠i) h h')(f:j≠i):kH h' (grow c h.size m) j a e cs:=
 ⟨d.box.ac g (by rw[d.aW];exact f),by rw[gE d.box.lt];exact d.aW⟩
theorem mv.keep(a:mv h0 h c)(e:aQ (λb=>c b≠i) h h')(f:i≠0):mv h0 h' (grow c h.size m):=
 ⟨a.ac.then e λb d _=>by rw[a.aW b d];omega,λb d=>by rw[gE (qS d a.ac.1)];exact a.aW b d⟩
theorem mv.refl(h:m5):mv h h (λ_=>0):=⟨aQ.refl _ _,λ_ _=>rfl⟩
theorem dQ.seq(a:dQ h c j e s k f l)(d:∀x,n4 (f x)=k):Seq h (λb=>c b=j) s k f l:=a.own.seq d a.aW
theorem dQ.Rh(a:dQ h c j e s k f l)(d:∀x,n4 (f x)=k):Seq h (λb=>b<h.size) s k f l:=a.own.seq d λ_ g=>a.own.lt g
theorem dQ.nil(h:m5)(c:Nat->Nat)(i:Nat)(e:TypeId)(k:Nat)(f:α->aS):dQ h c i e ⟨eH,0,0⟩ k f []:=⟨Own.nil h e k f,λb d=>by obtain⟨o,a⟩:=d;cases a⟩
theorem aQ.aW(a:aQ (λ_=>True) h h')(c:Nat->Nat)(i:Nat):aQ (λb=>c b≠i) h h':=a.mono λ_ _ _=>trivial
end
variable {ti:TI}
section
variable {C:Ctx} {i e:Nat}
theorem sp(f:C.Ok)(_:mv h0 h c)(i:Nat)(e:C.T.get t=dB ti){K:hU->m5->Prop}(d:∀a h',kH h' (grow c h.size i) i a t ti.zero->aQ (λb=>c b≠i) h h'->K a h'):
  pW C.P (wM t eX (.tuple #[])) h K:=
 uz f e λa h' x y z _=>d a h' ⟨y,by rw[pm]⟩ (z.aW c i)
theorem LB(P:Program)(_:mv h0 h c)(i:Nat){v:fY}{K:hU->m5->Prop}(d:∀a h',kH h' (grow c h.size i) i a t v.cells.toList->aQ (λb=>c b≠i) h h'->K a h'):
  pW P (va t v) h K:=
 PI λa h' x y z _=>d a h' ⟨y,by rw[pm]⟩ (z.aW c i)
theorem kH.store(l:C.Ok)(g:kH h c i a e cs)(o:C.T.get t=dB ti)(off:Nat){v:fY}(vs:aS)(p:v.cells=vs.toArray)(j:ti.size=n4 vs)
  (f:vs.all (·.oneCell')=eX) (d:off+n4 vs<=n4 cs) {K:Unit->m5->Prop}
  (n:∀h',kH h' (grow c h.size i) i a e (cs.take off++vs++cs.drop (off+n4 vs))->aQ (λb=>c b≠i) h h'->K () h'):
  av C.P (qD t (.pointer (dB (a.add off))) v) h K:=
 run_store l g.box o off vs p j f d λh' x y z=>n h' ⟨x,by rw[gE g.box.lt];exact g.aW⟩ (y.mono λb _ k m=>k (by rw[m];exact g.aW))
theorem kH.iB(m:C.Ok)(n:kH h c i a e cs)(l:C.T.get t=dB ti){v:fY}(vs:aS)(k:v.cells=vs.toArray)(f:ti.size=n4 vs)
  (d:vs.all (·.oneCell')=eX) (g:n4 vs<=n4 cs) {K:Unit->m5->Prop}
  (j:∀h',kH h' (grow c h.size i) i a e (vs++cs.drop vs.length)->aQ (λb=>c b≠i) h h'->K () h'):
  av C.P (qD t (.pointer (dB a)) v) h K:=
 n.store m l 0 vs k f d n7 (λh' x y=>j h' o4 y)
theorem uA(v:C.Ok)(_:mv h0 h c)(i:Nat)(f:α->aS)(B:bS C.toAg t e k z by_)(g:0<by_/\by_<=128)(l:α)(D:f l=z)(j:n4 z=k){u s:IntKind}{n p:Int}(m:Nat)(w:n=m)(r:p=m)(d:m<=2^32)
  {K:Sl->m5->Prop} (A:∀a h',dQ h' (grow c h.size i) i e a k f (qh m l)->aQ (λb=>c b≠i) h h'->K a h'):
  bF C.P (zB t (.int u n) (.int s p)) (.one (.sc .slc)) h K:=
 run_make v B g l D j m m w r (qj _) d λa h' x y _ z _=>A a h' ⟨x,λb E=>by obtain⟨o,q⟩:=E;rw[y]at q;cases q;rw[pm (qj _)]⟩ (z.aW c i)
theorem Fl(p:C.Ok)(_:mv h0 h c)(i:Nat)(f:α->aS)(s:bS C.toAg t e k z by_)(j:n4 z=k){n:Nat}{parts:Array (Nat×fY)}(l:List α)(q:n4 l=n)(g:n*k<=2^20)
  (a:wv (λi=>dB (i*k,k)) (iF z n).toArray parts.toList=dB (l.flatMap f).toArray) {K:Sl->m5->Prop}
  (r:∀d h',dQ h' (grow c h.size i) i e d k f l->aQ (λb=>c b≠i) h h'->K d h'):
  bF C.P (zw t n parts) (.one (.sc .slc)) h K:=
 Ig p s j l q g a λd h' x y z _=>r d h' ⟨x,λb u=>by obtain⟨o,m⟩:=u;rw[y]at m;cases m;rw[pm (qj _)]⟩ (z.aW c i)
theorem dQ.append(r:C.Ok)(g:dQ h c i e s k f l)(B:bS C.toAg t e k z by_)(j:∃i e2,C.T.get t2=dB i/\i.cm=.slice e2)(D:n4 z=k)(o:0<by_/\by_<=128)(q:∀x,n4 (f x)=k)
  (A:Seq h p v k f l2) (a:∀x,∀c∈f x,c.oneCell'=eX) (m:n4 l+n4 l2<=2^32) {ty:Nat} {K:Sl->m5->Prop}
  (u:∀d h',dQ h' (grow c h.size i) i e d k f (l++l2)->aQ (λb=>c b≠i) h h'->K d h'):
  bF C.P (q6 #[t,t2] ty #[.slice s.ptr s.len s.cap,.slice v.ptr v.len v.cap]) (.one (.sc .slc)) h K:=
 Rf r B j D o q g.own A a m λd h' x y w=>u d h' ⟨x,λb E=>by
  rcases w b E with w|w
  .rw[gE (g.own.lt w)];exact g.aW b w
  .exact pm w⟩ (y.mono λb _ n j=>n (g.aW b j))
theorem dQ.set(u:C.Ok)(j:dQ h c i e s k f l)(r:∀x,n4 (f x)=k)(D:C.T.get t=dB ti){x:Int}(n:Nat)(q:x=n)(A:n<n4 l){d:fY}(y:α)(E:d.cells=(f y).toArray)(m:ti.size=k)
  (g:(f y).all (·.oneCell')=eX) {K:m5->Prop} (B:∀h',dQ h' (grow c h.size i) i e s k f (l.set n y)->aQ (λb=>c b≠i) h h'->K h'):
  ∃a:hU,(s.ptr=dB a/\0<=x/\x<((s.len:Nat):Int))/\av C.P (qD t (.pointer (dB (a.add (x.toNat*k)))) d) h λ_ h'=>K h':=
 j.own.set u r D n q A y E m g λh' z w _=>B h' ⟨z,λb p=>by rw[gE (j.own.lt p)];exact j.aW b p⟩ (w.mono λb _ o v=>o (j.aW b v))
end
section
variable {C:Ctx} {i e:Nat}
theorem grow_grow{c:Nat->Nat}{n m i:Nat}(h:n<=m):grow (grow c n i) m i=grow c n i:=by
 unfold grow
 grind
theorem aQ.step(a:aQ (λb=>c b≠i) h h'){d:m5}(b:aQ (λb=>grow c h.size i b≠i) h' d):aQ (λb=>c b≠i) h d:=
 a.then b λx f e=>by rw[gE f];exact e
theorem dQ.push(F:C.Ok)(w:dQ h c i e s k f l)(u:bS C.toAg t e k z by_)(H:n4 z=k)(A:0<by_/\by_<=128)(E:∀x,n4 (f x)=k)
  (g:∀x,∀c∈f x,c.oneCell'=eX) (x:α) {parts:Array (Nat×fY)} (a:wv (λi=>dB (i*k,k)) (iF z 1).toArray parts.toList=dB ([x].flatMap f).toArray)
  (q:1*k<=2^20) (o:n4 l+1<=2^32) {ty:Nat} {K:Sl->m5->Prop}
  (L:∀n h',dQ h' (grow c h.size i) i e n k f (l++[x])->aQ (λb=>c b≠i) h h'->K n h'):
  bF C.P (zw t 1 parts) (.one (.sc .slc)) h λv j=>bF C.P (q6 #[t,t] ty #[.slice s.ptr s.len s.cap,.slice v.ptr v.len v.cap]) (.one (.sc .slc)) j K:=by
 refine Ig F u H [x] n5 q a λv j N I D _=>?_;have y:aQ (λb=>c b≠i) h j:=D.aW c i;have B:dQ j (grow c h.size i) i e s k f l:=⟨w.own.ac D λ_ _=>trivial,λb G=>by rw[gE (w.own.lt G)];exact w.aW b G⟩
 have d:h.size<=j.size:=D.1;obtain⟨O,Q,M,x2,_⟩:=u.ex;refine B.append F u ⟨O,e,M,x2⟩ H A E (N.seq (p:=λ_=>True) E λ_ _=>trivial) g o λn J m r=>?_;rw[grow_grow d]at m;exact L n J m (y.step r)
structure adQ (h:m5) (c:Nat->Nat) (top lo:Nat) (e:TypeId) (s:Sl) (k:Nat) (f:α->aS) (ll:List (List α)) (rs:List Sl):Prop where
 own:dQ h c top e s 1 bv rs
 len:n4 rs=n4 ll
 row:∀(i:Nat) r l,rs[i]?=dB r->ll[i]?=dB l->Seq h (λb=>b<h.size/\lo<=c b/\c b<lo+n4 ll) r k f l
theorem jK:∀x,∀c∈bv x,c.oneCell'=eX:=by intro x c a;simp only[bv,qB]at a;subst a;rfl
end
structure adR {α:Type} (h:m5) (r:Nat) (g:α->fY) (kvs:List (Int×α)):Prop where
 ex:∃es clock,h[r]?=dB (.map es clock)/\es.toList.map (λe=>(e.key,e.val))=kvs.map (λp=>(Value.int .i64 p.1,g p.2))
variable {P:Program} {r:Nat} {g:α->fY} {kvs:List (Int×α)}
theorem Fm(x n:Int)(b:0<n:=by decide):x%n=if x.tmod n<0 then x.tmod n+n else x.tmod n:=by
 have c:=yX x b;have e:-n<x.tmod n:=Int.lt_tmod_of_pos x b;have d:=Int.tmod_add_mul_tdiv x n;have a:0<=(if x.tmod n<0 then x.tmod n+n else x.tmod n)/\(if x.tmod n<0 then x.tmod n+n else x.tmod n)<n:=o4
 have e2:x=(if x.tmod n<0 then x.tmod n+n else x.tmod n)+n*(if x.tmod n<0 then x.tdiv n-1 else x.tdiv n):=o4
 conv=>lhs;rw[e2]
 rw[Int.add_mul_emod_self_left];exact Int.emod_eq_of_lt a.1 a.2
theorem az{α:Type}(l:List α)(k:Nat)(h:k<n4 l:=by omega):l.take (k+1)=l.take k++[l[k]]:=zy h
theorem db:∀x,∀c∈ar x,c.oneCell'=eX:=by intro x c a;simp only[ar,qB]at a;subst a;rfl
theorem cB:∀x,∀c∈aq x,c.oneCell'=eX:=by intro x c a;simp only[aq,qB]at a;subst a;rfl
theorem up{h c d:m5}(a:aQ (λb=>b<h.size) h c)(b:aQ (λb=>b<c.size) c d):aQ (λb=>b<h.size) h d:=
 a.then b λ_ e _=>qS e a.1
theorem any{h c:m5}(a:aQ (λ_=>True) h c):aQ (λb=>b<h.size) h c:=a.mono λ_ _ _=>trivial
theorem Seq.up{α:Type}{h h':m5}{s:Sl}{k:Nat}{f:α->aS}{l:List α}(c:Seq h (λb=>b<h.size) s k f l)(a:aQ (λb=>b<h.size) h h'):Seq h' (λb=>b<h'.size) s k f l:=
 (c.ac a).mono λ_ d=>qS d a.1
theorem gu.up{α:Type}{h h':m5}{s:Sl}{k:Nat}{f:α->aS}{l:List (List α)}{rs:List Sl}(c:gu h (λb=>b<h.size) s k f l rs)(a:aQ (λb=>b<h.size) h h'):gu h' (λb=>b<h'.size) s k f l rs:=
 (c.ac a).mono λ_ d=>qS d a.1
theorem gu.Ih{α:Type}{h:m5}{p:au}{s:Sl}{k:Nat}{f:α->aS}{ll:List (List α)}{rs:List Sl}(e:gu h p s k f ll rs){i:Int}(n:Nat)(g:i=n)(d:n<n4 ll){K:hU->Sl->Prop}
  (l:∀a r,hY h (a.add (i.toNat*1))=dB (.slice r.ptr r.len r.cap)->Seq h p r k f ll[n]->rs[n]?=dB r->K a r):
  ∃a:hU,(s.ptr=dB a/\0<=i/\i<((s.len:Nat):Int))/\∃x:Sl,hY h (a.add (i.toNat*1))=dB (.slice x.ptr x.len x.cap)/\K a x:=by
 obtain⟨a,m,x,j,c,b⟩:=e.get n g d (K:=λr=>Seq h p r k f ll[n]/\rs[n]?=dB r) (λr c b=>⟨c,b⟩)
 grind
theorem Seq.drop{α:Type}{h:m5}{p:au}{s:Sl}{w:Nat}{f:α->aS}{l:List α}(c:Seq h p s w f l)(k:Nat)(j:s.len<=s.cap):
  Seq h p ⟨if s.cap=k then s.ptr else s.ptr.map (·.add (k*w)),s.len-k,s.cap-k⟩ w f (l.drop k):=by
 have m:=c.len;refine⟨o4,λi x a=>?_⟩;rw[wJ]at a;obtain⟨b,o,g,d,h3⟩:=c.elem _ x a;have e:=(qn.1 a).1;refine⟨b,o+k*w,?_,d,?_⟩
 .rw[nq n7,g,zn,add_eq]
 grind
theorem Seq.take{α:Type}{h:m5}{p:au}{s:Sl}{w:Nat}{f:α->aS}{l:List α}(b:Seq h p s w f l)(k:Nat)(c:k<=n4 l):
  Seq h p ⟨s.ptr,k,s.cap⟩ w f (l.take k):=by
 refine⟨o4,λi x a=>?_⟩;rw[List.getElem?_take]at a;split at a
 .exact b.elem i x a
 grind
theorem getD_lt{α:Type}{l:List α}{d:α}{i:Nat}(h:i<n4 l:=by omega):l.getD i d=l[i]:=o4
structure HP where
 p:m5->au->Prop
 loc:∀{h h':m5} {q:au},p h q->aQ q h h'->p h' q
 mono:∀{h:m5} {q q':au},p h q->(∀b,q b->q' b)->p h q'
def emp:HP:=⟨λ_ _=>True,λ_ _=>trivial,λ_ _=>trivial⟩
def ai{α:Type}(e:TypeId)(s:Sl)(k:Nat)(f:α->aS)(l:List α):HP:=
 ⟨λh q=>Own h e s k f l/\∀b,s.on b->q b,λa g=>⟨a.1.ac g a.2,a.2⟩,λa c=>⟨a.1,λb d=>c b (a.2 b d)⟩⟩
def an(a:hU)(e:TypeId)(b:aS):HP:=
 ⟨λh q=>bV h a e b/\q a.block,λx d=>⟨x.1.ac d x.2,x.2⟩,λx c=>⟨x.1,c _ x.2⟩⟩
def wd{α:Type}(s:Sl)(k:Nat)(f:α->aS)(l:List α):HP:=
 ⟨λh q=>Seq h q s k f l,λa c=>a.ac c,λa b=>a.mono b⟩
def dw{α:Type}(e:TypeId)(s:Sl)(k:Nat)(f:α->aS)(ll:List (List α)):HP:=
 ⟨λh q=>∃(rs:List Sl) (j:au),Own h e s 1 bv rs/\(∀b,s.on b->q b/\¬j b)/\(∀b,j b->q b)/\rs.length=n4 ll/\∀(i:Nat) r l,rs[i]?=dB r->ll[i]?=dB l->Seq h j r k f l,
  λ⟨rs,j,a,b,c,d,e⟩ hp=>⟨rs,j,a.ac hp λx g=>(b x g).1,b,c,d,λi r l n m=>(e i r l n m).ac (hp.mono λx _ g=>c x g)⟩,
  λ⟨rs,j,a,b,c,d,e⟩ hq=>⟨rs,j,a,λx g=>⟨hq x (b x g).1,(b x g).2⟩,λx g=>hq x (c x g),d,e⟩⟩
structure aa (B:au) (h0 h:m5) (As:List HP):Prop where
 low:∀b,B b->b<h0.size
 ac:aQ B h0 h
 ex:∃c:Nat->Nat,(∀b,B b->c b=0)/\∀(i:Nat) (A:HP),As[i]?=dB A->A.p h (λb=>b<h.size/\c b=i+1)
abbrev Sp(a h:m5)(As:List HP):Prop:=aa (λb=>b<a.size) a h As
variable {As:List HP} {A2 D:HP}
section
variable {B:au} {Bs:List HP} {A:HP} {i:Nat}
theorem Sp.refl(h:m5):Sp h h []:=⟨λ_ h=>h,aQ.refl _ _,λ_=>0,λ_ _=>rfl,λi A a=>o4⟩
theorem aa.at(H:aa B h0 h As)(i:Nat)(a:As[i]?=dB A):A.p h (λb=>b<h.size):=by obtain⟨c,_,e⟩:=H.ex;exact A.mono (e i A a) λ_ d=>d.1
theorem aa.fin(H:aa B h0 h As)(i:Nat)(d:As[i]?=dB A):A.p h (λb=>¬B b/\b<h.size):=by obtain⟨c,g,f⟩:=H.ex;exact A.mono (f i A d) λb e=>⟨λa=>o4,e.1⟩
theorem Sp.fresh(H:Sp h0 h As)(i:Nat)(a:As[i]?=dB A):A.p h (λb=>h0.size<=b/\b<h.size):=
 A.mono (aa.fin H i a) λb c=>⟨n7,c.2⟩
theorem aa.comp(H:aa B h0 h As)(R:Sp h h' Bs):aa B h0 h' (As++Bs):=by
 obtain⟨m,f,k,p,j⟩:=H;obtain⟨_,e,g,o,n⟩:=R;have d:=f.1;refine⟨m,f.then e λb a _=>qS a d,λb=>if b<h.size then k b else if g b=0 then 0 else As.length+g b,λb a=>?_,λi A c=>?_⟩
 .grind
 .by_cases l:i<n4 As
  .rw[qu l]at c;refine A.mono (A.loc (j i A c) (e.mono λb _ a=>a.1)) λb a=>⟨qS a.1 e.1,?_⟩
   grind
  .rw[qk n7]at c;refine A.mono (n _ A c) λb a=>⟨a.1,?_⟩
   grind
theorem aa.up(H:aa B h0 h As)(R:aQ (λb=>b<h.size) h h'):aa B h0 h' As:=by
 have:=H.comp (Bs:=[]) ⟨λ_ h=>h,R,λ_=>0,λ_ _=>rfl,λi A a=>o4⟩
 grind
theorem Sp.one(R:aQ (λb=>b<h.size) h h')(c:A.p h' λb=>h.size<=b/\b<h'.size):Sp h h' [A]:=by
 refine⟨λ_ h=>h,R,λb=>if b<h.size then 0 else 1,λb a=>m6 a,λi A2 d=>?_⟩
 grind
theorem Sp.zip(R:aQ (λb=>b<h.size) h h'):Sp h h' []:=aa.up (Sp.refl h) R
theorem aa.enter(q:au)(c:Nat->Nat)(e:∀b,q b->b<h.size)(a:∀(i:Nat) (A:HP),As[i]?=dB A->A.p h λb=>q b/\c b=i+1):aa (λb=>b<h.size/\¬q b) h h As:=by
 classical
 refine⟨λb d=>d.1,aQ.refl _ _,λb=>if q b then c b else 0,λb d=>nq d.2,λi A f=>A.mono (a i A f) λb d=>⟨e b d.1,?_⟩⟩
 grind
theorem aa.LC(q:au)(c:∀b,q b->b<h.size)(a:A.p h q):aa (λb=>b<h.size/\¬q b) h h [A]:=
 .enter q (λ_=>1) c λi A2 d=>by
  cases i with
  |succ i=>grind
  |zero=>grind
theorem aa.AQ(l:∀b,B b->b<h0.size)(f:aQ B h0 h)(z:∀b,B b->c b=0)(a:∀(i:Nat) (A:HP),As[i]?=dB A->A.p h λb=>b<h.size/\c b=i+1)
  (g:aQ (λb=>¬(b<h.size/\c b=i+1)) h h') (m:D.p h' λb=>b<h'.size/\((b<h.size/\c b=i+1)∨h.size<=b)):aa B h0 h' (As.set i D):=by
 refine⟨l,f.then g λb _ d n=>o4,grow c h.size (i+1),λb d=>?_,λj A e=>?_⟩
 .rw[gE (qS (l b d) f.1)];grind
 .rw[qW]at e;split at e
  .rename_i k;subst k;split at e
   .injection e with e
    subst e;refine D.mono m λb d=>⟨d.1,?_⟩
    rcases d.2 with h1|h1
    .rw[gE h1.1];grind
    .exact pm h1
   grind
  .refine A.mono (A.loc (a j A e) (g.mono λb _ d n=>n7)) λb d=>⟨qS d.1 g.1,?_⟩
   rw[gE d.1];omega
theorem aa.step(H:aa B h0 h As)(i:Nat)(g:As[i]?=dB A)(f:∀q:au,A.p h q->(∀b,q b->b<h.size)->aQ (λb=>¬q b) h h'/\D.p h' λb=>b<h'.size/\(q b∨h.size<=b)):aa B h0 h' (As.set i D):=by obtain⟨e,p,c,z,a⟩:=H;obtain⟨d,k⟩:=f _ (a i A g) λb j=>j.1;exact aa.AQ e p z a d k
theorem aa.dW(H:aa B h0 h As)(i:Nat)(f:As[i]?=dB A)(e:∀q:au,A.p h q->D.p h q):aa B h0 h (As.set i D):=
 H.step i f λq d a=>⟨aQ.refl _ _,D.mono (e q d) λb c=>⟨a b c,.inl c⟩⟩
theorem aa.merge(H:aa B h0 h As)(i j:Nat)(o:i≠j)(m:As[i]?=dB A)(q:As[j]?=dB A2)
  (r:∀f e:au,(∀b,f b->¬e b)->A.p h f->A2.p h e->D.p h λb=>f b∨e b):aa B h0 h ((As.set i D).set j emp):=by
 obtain⟨n,p,c,z,a⟩:=H;refine⟨n,p,λb=>if c b=j+1 then i+1 else c b,λb g=>?_,λk l d=>?_⟩
 .grind
 .rw[qW]at d;split at d
  .split at d
   .cases d;trivial
   grind
  .rw[qW]at d;split at d
   .split at d
    .injection d with d
     subst d;refine D.mono (r _ _ (λb t s=>n7) (a i A m) (a j A2 q)) λb g=>?_
     grind
    .cases d
   .refine l.mono (a k l d) λb g=>⟨g.1,?_⟩
    dsimp only;rw[nq n7];omega
theorem aa.pick(H:aa B h0 h As)(f:Nat->Nat)(m:∀i j,f i=f j->i=j)(e:∀(i:Nat) (A2:HP),Bs[i]?=dB A2->As[f i]?=dB A2):aa B h0 h Bs:=by
 obtain⟨g,p,c,z,a⟩:=H
 classical
 refine⟨g,p,λb=>if d:∃i,c b=f i+1 then d.choose+1 else 0,λb d=>?_,λi A2 l=>?_⟩
 .grind
 .refine A2.mono (a _ _ (e i A2 l)) λb d=>⟨d.1,?_⟩
  have k:∃i,c b=f i+1:=⟨i,d.2⟩
  grind
theorem aa.take(H:aa B h0 h As)(n:Nat)(a:∀(i:Nat) (A2:HP),Bs[i]?=dB A2->As[n+i]?=dB A2):aa B h0 h Bs:=H.pick (λi=>n+i) (λ_ _ h=>n7) a
end
section
variable {B:au} {C:Ctx} {i e:Nat}
theorem aa.own(H:aa B h0 h As)(i:Nat)(a:As[i]?=dB (ai e s k f l)):Own h e s k f l:=(H.at i a).1
theorem aa.seq(H:aa B h0 h As)(i:Nat)(a:As[i]?=dB (ai e s k f l))(c:∀x,n4 (f x)=k):Seq h (λb=>b<h.size) s k f l:=(H.at i a).1.seq c (H.at i a).2
theorem aa.rd(H:aa B h0 h As)(i:Nat)(a:As[i]?=dB (wd s k f l)):Seq h (λb=>b<h.size) s k f l:=H.at i a
theorem aa.box(H:aa B h0 h As)(i:Nat)(b:As[i]?=dB (an a e cs)):bV h a e cs:=(H.at i b).1
theorem aa.nS(H:aa B h0 h As)(i:Nat)(q:As[i]?=dB (ai e s k f l)){β:Type}{o m:Nat}{g:β->aS}{p:List β}(n:aQ (λb=>¬s.on b) h h')(r:Own h' o s m g p):aa B h0 h' (As.set i (ai o s m g p)):=
 H.step i q λ_ d c=>⟨n.mono λb _ a j=>a (d.2 b j),r,λb a=>⟨qS (c b (d.2 b a)) n.1,.inl (d.2 b a)⟩⟩
theorem aa.nT(H:aa B h0 h As)(i:Nat)(k:As[i]?=dB (an a e cs)){c:aS}(j:aQ (λb=>b≠a.block) h h')(l:bV h' a e c):aa B h0 h' (As.set i (an a e c)):=
 H.step i k λq f d=>⟨j.mono λb _ m g=>m (by rw[g];exact f.2),l,⟨qS (d _ f.2) j.1,.inl f.2⟩⟩
theorem aa.freeze(H:aa B h0 h As)(i:Nat)(c:As[i]?=dB (ai e s k f l))(b:∀x,n4 (f x)=k):aa B h0 h (As.set i (wd s k f l)):=H.dW i c λ_ a=>a.1.seq b a.2
theorem aa.set(o:C.Ok)(H:aa B h0 h As)(i:Nat)(g:As[i]?=dB (ai e s k f l))(m:∀x,n4 (f x)=k)(u:C.T.get t=dB ti){x:Int}(n:Nat)(j:x=n)(p:n<n4 l){b:fY}(y:α)(r:b.cells=(f y).toArray)(d:ti.size=k)
  (c:(f y).all (·.oneCell')=eX) {K:m5->Prop} (q:∀h',aa B h0 h' (As.set i (ai e s k f (l.set n y)))->K h'):
  ∃a:hU,(s.ptr=dB a/\0<=x/\x<((s.len:Nat):Int))/\av C.P (qD t (.pointer (dB (a.add (x.toNat*k)))) b) h λ_ h'=>K h':=
 (H.own i g).set o m u n j p y r d c λh' z w _=>q h' (H.nS i g w z)
theorem aa.push(E:C.Ok)(H:aa B h0 h As)(i:Nat)(I:As[i]?=dB (ai e s k f l))(L:bS C.toAg t e k z by_)(Q:n4 z=k)(r:0<by_/\by_<=128)(A:∀x,n4 (f x)=k)
  (m:∀x,∀c∈f x,c.oneCell'=eX) (x:α) {parts:Array (Nat×fY)} (g:wv (λi=>dB (i*k,k)) (iF z 1).toArray parts.toList=dB ([x].flatMap f).toArray)
  (u:1*k<=2^20) (o:n4 l+1<=2^32) {ty:Nat} {K:Sl->m5->Prop}
  (G:∀n h',aa B h0 h' (As.set i (ai e n k f (l++[x])))->K n h'):
  bF C.P (zw t 1 parts) (.one (.sc .slc)) h λv O=>bF C.P (q6 #[t,t] ty #[.slice s.ptr s.len s.cap,.slice v.ptr v.len v.cap]) (.one (.sc .slc)) O K:=by
 obtain⟨J,M,c,D,a⟩:=H;have w:=a i _ I;have N:dQ h c (i+1) e s k f l:=⟨w.1,λb j=>(w.2 b j).2⟩
 refine N.push E L Q r A m x g u o λn h' d p=>G n h' ?_;refine aa.AQ J M D a (p.mono λb j F y=>F ⟨j,y⟩) ⟨d.own,λb j=>⟨d.own.lt j,?_⟩⟩;have:=d.aW b j;by_cases q:b<h.size
 .rw[gE q]at this;grind
 grind
theorem aa.append(D:C.Ok)(H:aa B h0 h As)(i:Nat)(I:As[i]?=dB (ai e s k f l))(M:bS C.toAg t e k z by_)(E:∃i e2,C.T.get t2=dB i/\i.cm=.slice e2)(Q:n4 z=k)(r:0<by_/\by_<=128)(y:∀x,n4 (f x)=k)
  (J:Seq h p v k f l2) (j:∀x,∀c∈f x,c.oneCell'=eX) (n:n4 l+n4 l2<=2^32) {ty:Nat} {K:Sl->m5->Prop}
  (G:∀m h',aa B h0 h' (As.set i (ai e m k f (l++l2)))->K m h'):
  bF C.P (q6 #[t,t2] ty #[.slice s.ptr s.len s.cap,.slice v.ptr v.len v.cap]) (.one (.sc .slc)) h K:=by
 obtain⟨L,N,c,A,a⟩:=H;have u:=a i _ I;have O:dQ h c (i+1) e s k f l:=⟨u.1,λb g=>(u.2 b g).2⟩
 refine O.append D M E Q r y J j n λm h' d o=>G m h' ?_;refine aa.AQ L N A a (o.mono λb g F w=>F ⟨g,w⟩) ⟨d.own,λb g=>⟨d.own.lt g,?_⟩⟩;have:=d.aW b g;by_cases q:b<h.size
 .rw[gE q]at this;grind
 grind
theorem DR{h h':m5}{n:Nat}(i:n=h.size)(d:Own h' e s k f l)(g:s.ptr=dB ⟨n,0,eH⟩)(a:aQ (λ_=>True) h h'):Sp h h' [ai e s k f l]:=
 .one (any a) ⟨d,λb c=>⟨by obtain⟨o,c⟩:=c;grind,d.lt c⟩⟩
theorem aa.make(s:C.Ok)(H:aa B h0 h As)(f:α->aS)(A:bS C.toAg t e k z by_)(d:0<by_/\by_<=128)(i:α)(D:f i=z)(g:n4 z=k){r q:IntKind}{n l:Int}(m b:Nat)(u:n=m)(o:l=b)(c:m<=b)(j:b<=2^32)
  {K:Sl->m5->Prop} (v:∀a h',a.len=m->a.cap=b->aa B h0 h' (As++[ai e a k f (qh m i)])->K a h'):
  bF C.P (zB t (.int r n) (.int q l)) (.one (.sc .slc)) h K:=
 run_make s A d i D g m b u o c j λa h' x y w p _=>v a h' (by rw[x.len];simp) w (H.comp (DR n5 x y p))
theorem aa.lit(j:C.Ok)(H:aa B h0 h As)(f:α->aS)(p:bS C.toAg t e k z by_)(d:n4 z=k){n:Nat}{parts:Array (Nat×fY)}(l:List α)(m:n4 l=n)(c:n*k<=2^20)
  (a:wv (λi=>dB (i*k,k)) (iF z n).toArray parts.toList=dB (l.flatMap f).toArray) {K:Sl->m5->Prop}
  (o:∀b h',aa B h0 h' (As++[ai e b k f l])->K b h'):
  bF C.P (zw t n parts) (.one (.sc .slc)) h K:=
 Ig j p d l m c a λb h' x y g _=>o b h' (H.comp (DR n5 x y g))
theorem Ii{h h':m5}(d:a.block=h.size)(c:bV h' a e cs)(b:aQ (λ_=>True) h h'):Sp h h' [an a e cs]:=
 .one (any b) ⟨c,n7,c.lt⟩
theorem aa.alloc(e:C.Ok)(H:aa B h0 h As)(d:C.T.get t=dB ti){K:hU->m5->Prop}(b:∀a h',aa B h0 h' (As++[an a t ti.zero])->K a h'):
  pW C.P (wM t eX (.tuple #[])) h K:=
 uz e d λa h' x y c _=>b a h' (H.comp (Ii x y c))
theorem aa.boxed(H:aa B h0 h As){P:Program}{v:fY}{K:hU->m5->Prop}(b:∀a h',aa B h0 h' (As++[an a t v.cells.toList])->K a h'):
  pW P (va t v) h K:=
 PI λa h' x y c _=>b a h' (H.comp (Ii x y c))
theorem aa.store(l:C.Ok)(H:aa B h0 h As)(i:Nat)(f:As[i]?=dB (an a e cs))(k:C.T.get t=dB ti)(off:Nat){v:fY}(vs:aS)(g:v.cells=vs.toArray)(d:ti.size=n4 vs)
  (c:vs.all (·.oneCell')=eX) (b:off+n4 vs<=n4 cs) {K:Unit->m5->Prop}
  (j:∀h',aa B h0 h' (As.set i (an a e (cs.take off++vs++cs.drop (off+n4 vs))))->K () h'):
  av C.P (qD t (.pointer (dB (a.add off))) v) h K:=
 run_store l (H.box i f) k off vs g d c b λh' x y _=>j h' (H.nT i f y x)
theorem aa.iB(l:C.Ok)(H:aa B h0 h As)(i:Nat)(k:As[i]?=dB (an a e cs))(j:C.T.get t=dB ti){v:fY}(vs:aS)(f:v.cells=vs.toArray)(c:ti.size=n4 vs)
  (b:vs.all (·.oneCell')=eX) (d:n4 vs<=n4 cs) {K:Unit->m5->Prop}
  (g:∀h',aa B h0 h' (As.set i (an a e (vs++cs.drop vs.length)))->K () h'):
  av C.P (qD t (.pointer (dB a)) v) h K:=
 H.store l i k j 0 vs f c b n7 (λh' x=>g h' o4)
theorem aa.nil(H:aa B h0 h As)(e k:Nat)(f:α->aS):aa B h0 h (As++[ai e ⟨eH,0,0⟩ k f []]):=
 H.comp (.one (aQ.refl _ _) ⟨Own.nil h e k f,λb a=>by obtain⟨o,a⟩:=a;cases a⟩)
theorem aa.sq(H:aa B h0 h As)(e k:Nat)(f:α->aS):aa B h0 h (As++[dw e ⟨eH,0,0⟩ k f []]):=
 H.comp (.one (aQ.refl _ _) ⟨[],λ_=>False,Own.nil h e 1 bv,λb a=>(by obtain⟨o,a⟩:=a;cases a),λ_ a=>a.elim,rfl,λi r l h=>oo⟩)
theorem aa.jD(Z:C.Ok)(H:aa B h0 h As)(i j:Nat)(E:i≠j){ll:List (List α)}{r:Sl}{x:List α}(R:As[i]?=dB (dw e s k f ll))(hj:As[j]?=dB (wd r k f x))(he:bS C.toAg t e 1 [.slice eH 0 0] 24)
  (ab:n4 ll+1<=2^32) {ty:Nat} {K:Sl->m5->Prop} (hk:∀N h',aa B h0 h' ((As.set j emp).set i (dw e N k f (ll++[x])))->K N h'):
  bF C.P (zw t 1 #[(0,.slice r.ptr r.len r.cap)]) (.one (.sc .slc)) h λv u=>bF C.P (q6 #[t,t] ty #[.slice s.ptr s.len s.cap,.slice v.ptr v.len v.cap]) (.one (.sc .slc)) u K:=by
 have V:=H.merge i j E R hj (D:=⟨λh q=>∃(rs:List Sl) (g:au),Own h e s 1 bv rs/\(∀b,s.on b->q b/\¬g b)/\(∀b,g b->q b)/\rs.length=n4 ll/\(∀(i:Nat) r l,rs[i]?=dB r->ll[i]?=dB l->Seq h g r k f l)/\Seq h g r k f x,
  λ⟨rs,g,a,b,c,d,e,f⟩ hp=>⟨rs,g,a.ac hp λx n=>(b x n).1,b,c,d,λi r l u y=>(e i r l u y).ac (hp.mono λx _ n=>c x n),f.ac (hp.mono λx _ n=>c x n)⟩,
  λ⟨rs,g,a,b,c,d,e,f⟩ hq=>⟨rs,g,a,λx n=>⟨hq x (b x n).1,(b x n).2⟩,λx n=>hq x (c x n),d,e,f⟩⟩)
  (λg q2 hd X hB=>by
   obtain⟨rs,q3,a,b,c,d,e'⟩:=X;refine⟨rs,λb=>q3 b∨q2 b,a,λx n=>⟨.inl (b x n).1,λJ=>J.elim (b x n).2 (hd x (b x n).1)⟩,λx n=>n.elim (λh=>.inl (c x h)) .inr,d,λi r l u y=>(e' i r l u y).mono λ_ h=>.inl h,Seq.mono hB λ_ h=>.inr h⟩)
 have p:i<n4 As:=(qn.1 R).1;obtain⟨lo,pp,c,W,a⟩:=V;have ha:=a i _ (by rw[w4 (Ne.symm E),zJ p]);obtain⟨rs,g,Y,a2,a3,a4,a5,a6⟩:=ha;let T:Nat->Nat:=λb=> @ite _ (g b) (Classical.propDecidable _) (n4 As+2) (c b);have F:∀b,g b->b<h.size/\c b=i+1:=a3;have ho:dQ h T (i+1) e s 1 bv rs:=⟨Y,λb m=>by
  have:=a2 b m;show @ite _ (g b) (Classical.propDecidable _) _ _=_;rw[nq this.2];exact this.1.2⟩
 refine ho.push Z he n5 n8 (λ_=>rfl) jK r n5 n8 n7 λN h' z G=>hk N h' ?_;rw[vb _ _ (Ne.symm E)];rw[<-yY (l:=As) (i:=i),vb _ _ E];have M:∀b,g b->T b≠i+1:=λb m=>by
  show @ite _ (g b) (Classical.propDecidable _) _ _≠_;rw[m6 m];omega
 refine aa.AQ lo pp W a (G.mono λb m hn U=>hn ⟨m,?_⟩) ⟨rs++[r],λb=>g b/\b<h.size,z.own,λb m=>?_,λb m=>⟨qS m.2 G.1,.inl ⟨m.2,(F b m.1).2⟩⟩,by simp[a4],λQ r' l' u y=>?_⟩
 .by_cases A:g b
  .exact(F b A).2
  .have o:@ite _ (g b) (Classical.propDecidable _) (n4 As+2) (c b)=i+1:=U;rw[nq A]at o;exact o
 .have w:=z.aW b m;by_cases p:b<h.size
  .rw[gE p]at w;have L:¬g b:=λA=>M b A w;have o:@ite _ (g b) (Classical.propDecidable _) (n4 As+2) (c b)=i+1:=w;rw[nq L]at o;exact⟨⟨z.own.lt m,.inl ⟨p,o⟩⟩,λJ=>L J.1⟩
  .exact⟨⟨z.own.lt m,.inr n7⟩,λJ=>p J.2⟩
 .have I:∀{S:Sl} {l:List α},Seq h g S k f l->Seq h' (λb=>g b/\b<h.size) S k f l:=λhs=>
   (hs.mono (q:=λb=>g b/\b<h.size) λb m=>⟨m,(F b m).1⟩).ac (G.mono λb _ m=>M b m.1)
  by_cases O:Q<n4 rs
  .rw[qu O]at u;rw[qu n7]at y;exact I (a5 Q r' l' u y)
  .have:Q=n4 rs:=by have:=(qn.1 u).1;simp at this;omega
   subst this;simp at u;rw[a4]at y;simp at y;subst u;subst y;exact I a6
theorem aa.rows(H:aa B h0 h As)(i:Nat){ll:List (List α)}(m:As[i]?=dB (dw e s k f ll)):∃rs,gu h (λb=>b<h.size) s k f ll rs:=by obtain⟨rs,o,a,b,c,d,e⟩:=H.at i m;exact⟨rs,a.seq (λ_=>rfl) λx g=>(b x g).1,d,λi r l j n=>(e i r l j n).mono c⟩
end
theorem WN(vs:aS):∀(pre old post:aS),n4 old=n4 vs->((vs.zipIdx 0).foldl (λ(cs:Array fY) (p:fY×Nat)=>cs.setIfInBounds (n4 pre+p.2) p.1) (pre++old++post).toArray)=(pre++vs++post).toArray:=by
 have a:∀(vs pre old post:aS) (k:Nat),n4 old=n4 vs->n4 pre=n4 pre->∀n,n+k=n4 pre->((vs.zipIdx k).foldl (λ(cs) (p)=>cs.setIfInBounds (n+p.2) p.1) (pre++old++post).toArray)=(pre++vs++post).toArray:=by
  intro vs
  induction vs with
  |nil=>intro pre old post k b _ n _;rw[qQ b];rfl
  |cons v vs ih=>
   intro pre old post k b _ n c;cases old with
   |nil=>grind
   |cons u old=>
    rw[List.zipIdx_cons,zN];have e:(pre++(u::old)++post).toArray.setIfInBounds (n+k) v=((pre++[v])++old++post).toArray:=by rw[c];simp
    rw[e,ih (pre++[v]) old post (k+1) o4 n5 n oi];simp
 intro pre old post h;exact a vs pre old post 0 h n5 pre.length (n5)
theorem LD{a:Nat->Option (Nat×Nat)}{i:Nat}{v:fY}{vs pre old post:aS}{rest:List (Nat×fY)}(c:v.cells=vs.toArray)(d:a i=dB (n4 pre,n4 vs))(b:n4 old=n4 vs):
  wv a (pre++old++post).toArray ((i,v)::rest)=wv a (pre++vs++post).toArray rest:=by
 conv=>lhs;unfold wv
 have:=WN vs pre old post b
 grind
section
variable {C:Ctx}
theorem tv(d:C.Ok)(k:C.T.get t=dB i){m:List (Nat×TypeId)}(h:i.cm=.struct m){b:List (Nat×Nat)}(g:placesOf C.T m=dB b){vs:List (Nat×fY)}{cells:Array fY}
  (a:wv (λn=>b[n]?) i.zero.toArray vs=dB cells):aL C.P (Instr.build t vs.toArray) (.agg cells):=by
 obtain⟨z,q,p⟩:=pU d.toOk k;have j:i.zero.toArray=z.cells:=o4
 have l:=d.cm k;rw[h]at l;obtain⟨o,r,rfl⟩:=ot l;refine q.bind ((aK r).bind ?_);have e:aL C.P (o.mapM λf=>(do pure (f.offset,<-sizeOf f.type))) b.toArray:=by rw[Array.mapM_eq_mapM_toList];intro w;have:=ta d.toOk g w;rw[map_eq_pure_bind,Sem.run_bind,this];rfl
 refine e.bind ?_;have c:wv (λn=>b.toArray[n]?) z.cells vs.toArray.toList=dB cells:=o4
 rw[c];exact .pure
end
theorem take_set{α:Type}(l:List α)(n:Nat)(x:α)(h:n<n4 l):l.take n++[x]++l.drop (n+1)=l.set n x:=by rw[yC,m6 h];simp
section
variable {B:au} {C:Ctx} {e:Nat}
theorem aa.storeAt(l:C.Ok)(H:aa B h0 h As)(i:Nat)(k:As[i]?=dB (an a e cs))(j:C.T.get t=dB ti){off:Nat}{v:fY}(g:v.cells=#[v])(c:ti.size=1)
  (d:v.oneCell'=eX) (b:off<n4 cs) {K:Unit->m5->Prop}
  (f:∀h',aa B h0 h' (As.set i (an a e (cs.set off v)))->K () h'):
  av C.P (qD t (.pointer (dB (a.add off))) v) h K:=
 H.store l i k j off [v] g c o4 o4 λh' x=>f h' (by rw[<-take_set _ _ _ b];grind)
theorem aa.storeAll(l:C.Ok)(H:aa B h0 h As)(i:Nat)(k:As[i]?=dB (an a e cs))(j:C.T.get t=dB ti){v:fY}(vs:aS)(f:v.cells=vs.toArray)(c:ti.size=n4 vs)
  (b:vs.all (·.oneCell')=eX) (d:n4 vs=n4 cs) {K:Unit->m5->Prop}
  (g:∀h',aa B h0 h' (As.set i (an a e vs))->K () h'):
  av C.P (qD t (.pointer (dB a)) v) h K:=
 H.iB l i k j vs f c b n7 λh' x=>g h' o4
end
theorem kl(n:Nat)(a:n<=9223372036854775807:=by omega):qc xN (n:Int)=n:=af _
abbrev Rd{α:Type}(h:m5)(s:Sl)(k:Nat)(f:α->aS)(l:List α):Prop:=Seq h (λb=>b<h.size) s k f l
abbrev dT{α:Type}(h:m5)(s:Sl)(k:Nat)(f:α->aS)(ll:List (List α)):Prop:=∃rs,gu h (λb=>b<h.size) s k f ll rs
section
variable {B:au} {e:Nat}
theorem dT.up(a:dT h s k f ll)(c:aQ (λb=>b<h.size) h h'):dT h' s k f ll:=by obtain⟨rs,a⟩:=a;exact⟨rs,gu.up a c⟩
theorem dT.len(a:dT h s k f ll):s.len=n4 ll:=by obtain⟨rs,a⟩:=a;exact a.Fj
theorem dT.get(b:dT h s k f ll){i:Int}(n:Nat)(d:i=n)(g:n<n4 ll){K:Sl->Prop}(c:∀r,Rd h r k f ll[n]->K r):
  ∃a:hU,(s.ptr=dB a/\0<=i/\i<((s.len:Nat):Int))/\∃x:Sl,hY h (a.add (i.toNat*1))=dB (.slice x.ptr x.len x.cap)/\K x:=by
 obtain⟨rs,b⟩:=b;exact b.get n d g λr e _=>c r e
theorem Seq.isSome{p:au}(a:Seq h p s k f l)(d:l≠[]):s.ptr.isNone=eY:=by
 cases l with
 |nil=>grind
 |cons x t=>obtain⟨b,o,c,_⟩:=a.elem 0 x (rfl);grind
theorem Seq.isNil{p:au}(b:Seq h p s k f l)(a:s.ptr.isNone=eX):l=[]:=by
 cases l with
 |nil=>rfl
 |cons x t=>rw[b.isSome oo]at a;cases a
theorem aa.ov(H:aa B h0 h As)(i:Nat)(a:As[i]?=dB (dw e s k f ll)):dT h s k f ll:=H.rows i a
end
section
variable {B:au} {Bs:List HP} {A:HP}
theorem aa.del(H:aa B h0 h As)(i:Nat):aa B h0 h (As.eraseIdx i):=
 H.pick (λj=>if j<i then j else j+1) (λa b c=>o4) λj A d=>o4
theorem aa.call(H:aa B h0 h As)(i:Nat)(y:As[i]?=dB A)(q:au)(J:∀q':au,A.p h q'->∀b,q b->q' b)(R:aa (λb=>b<h.size/\¬q b) h h' (D::Bs)):aa B h0 h' (As.set i D++Bs):=by
 classical
 obtain⟨z,v,f,K,u⟩:=H;obtain⟨_,t,g,L,E⟩:=R;have o:=v.1;have x:=(qn.1 y).1;have l:∀b,q b->b<h.size/\f b=i+1:=J _ (u i A y);have F:∀b,B b->b<h.size/\¬q b:=λb a=>⟨qS (z b a) o,λr=>by have:=K b a;have:=l b r;omega⟩
 let c:Nat->Nat:=λb=>if b<h.size/\¬q b then(if f b=i+1 then 0 else f b)else if g b=0 then 0 else if g b=1 then i+1 else As.length+g b-1
 have m:∀b,b<h.size/\¬q b->f b≠i+1->c b=f b:=λb a I=>by show ite _ _ _=_;rw[m6 a,nq I]
 have d:∀b,g b≠0->c b=if g b=1 then i+1 else As.length+g b-1:=λb a=>o4
 refine⟨z,v.then t λb _ a=>F b a,c,λb a=>?_,λk j e=>?_⟩
 .grind
 .by_cases w:k<n4 As
  .rw[qu (by simpa using w),qW]at e;split at e
   .rename_i s;subst s;injection e with e
    subst e;refine D.mono (E 0 D n5) λb a=>⟨a.1,?_⟩
    rw[d b n7,m6 a.2]
   .have n:∀b,b<h.size/\f b=k+1->b<h.size/\¬q b:=λb a=>⟨a.1,λr=>by have:=l b r;omega⟩
    refine j.mono (j.loc (u k j e) (t.mono λb _ a=>n b a)) λb a=>⟨qS a.1 t.1,?_⟩
    rw[m b (n b a) n7];exact a.2
  .rw[qk (by simpa using w)]at e;have G:=E (k-n4 As+1) j p7;refine j.mono G λb a=>⟨a.1,?_⟩
   rw[d b n7,nq n7];omega
end
def bH(p:Int×Int×Int):Bool:=decide (p.1>=1)&&(decide (p.1<=16)&&(decide (p.2.1>=1)&&(decide (p.2.1<=4)&&(decide (p.2.2>=1)&&decide (p.2.2<=24)))))
theorem bI(p:Int×Int×Int):bH p=eX↔(1<=p.1/\p.1<=16)/\(1<=p.2.1/\p.2.1<=4)/\1<=p.2.2/\p.2.2<=24:=by simp[bH,and_assoc]
def bD(p:Int×Int×Int):Int:=if bH p then p.1+p.2.1 else 0
def tw(s:Int):Int:=qc xQ (qc xQ (s*(6364136223846793005:Int))+(1442695040888963407:Int))
def told(s:Int):Int:=qc xP (zo (tw s) (2^min (32:Int).toNat (qq xQ)))
def je(s n:Int):Int:=qc xN (xz (qc xQ (told s)) (qc xQ n))
theorem wrap_u64(x:Int):qc xQ x=x%18446744073709551616:=rfl
theorem wrap_u32(x:Int):qc xP x=x%4294967296:=rfl
theorem nK(s n:Int)(b:0<n:=by omega)(e:n<=2^62:=by omega):0<=je s n/\je s n<n:=by
 unfold je;have c:qc xQ n=n:=B1
 rw[c];have a:0<=qc xQ (told s):=B1
 have e2:=yX (qc xQ (told s)) b;have d:0<=xz (qc xQ (told s)) n:=Int.tmod_nonneg n a;rw[Qw.af _];omega
def eU(l:aC)(i:Nat):Int:=l.getD i 0
def iZ(l:aC)(i j:Nat):aC:=(l.set i (eU l j)).set j (eU l i)
theorem po(l:aC)(i j:Nat):n4 (iZ l i j)=n4 l:=by simp[iZ]
def dX(n:Nat)(s:Int)(l:aC):Nat->Int×aC
 |0=>(s,l)
 |k+1=>(tw (dX n s l k).1,iZ (dX n s l k).2 k (k+(je (dX n s l k).1 ((n-k:Nat):Int)).toNat))
theorem pq(n:Nat)(s:Int)(l:aC):∀k,(dX n s l k).2.length=n4 l
 |0=>rfl
 |k+1=>by rw[dX,po,pq n s l k]
theorem Fo{l:aC}{i:Nat}(h:i<n4 l):eU l i∈l:=by rw[eU,qg,qd h];simp
theorem WO{l:aC}{i j:Nat}(b:i<n4 l)(c:j<n4 l){x:Int}(a:x∈iZ l i j):x∈l:=by
 rcases wi a with h|h
 .rcases wi h with h|h
  .exact h
  .rw[h];exact Fo c
 .rw[h];exact Fo b
def upto(n:Nat):aC:=(qy n).map λi:Nat=>(i:Int)
theorem ft(n:Nat):n4 (upto n)=n:=by simp[upto]
theorem Fp(n:Nat)(s:Int):∀k,k<=n->∀x∈(dX n s (upto n) k).2,0<=x/\x<n
 |0,_,x,hx=>by
  simp only[dX,upto,qI,qY]at hx;omega
 |k+1,hk,x,hx=>by
  have j:k<n->n-k<=2^62->k+(je (dX n s (upto n) k).1 ((n-k:Nat))).toNat<n:=λf l=>by
   have:=nK (dX n s (upto n) k).1 ((n-k:Nat));omega
  have e:=pq n s (upto n) k;rw[ft]at e;by_cases c:n-k<=2^62
  .refine Fp n s k n7 x (WO n7 ?_ hx);omega
  .--beyond any size:what is set is 0 or a member
   have b:∀y∈iZ (dX n s (upto n) k).2 k (k+(je (dX n s (upto n) k).1 ((n-k:Nat))).toNat),y∈(dX n s (upto n) k).2∨y=0:=by
    intro y d;have g:∀i,eU (dX n s (upto n) k).2 i∈(dX n s (upto n) k).2∨eU (dX n s (upto n) k).2 i=0:=λi=>by
     by_cases h:i<(dX n s (upto n) k).2.length
     .exact .inl (Fo h)
     .simp only[eU,];grind
    rcases wi d with h|h
    .grind
    grind
   rcases b x hx with h|h
   .exact Fp n s k n7 x h
   grind
def mg(l:aC):aC:=l.mergeSort λx y=>decide (x<=y)
theorem Jb(l:aC):n4 (mg l)=n4 l:=wP l
theorem Jc(l:aC)(x:Int):x∈mg l↔x∈l:=List.mem_mergeSort
def AR(s:Int)(n k:Nat):aC:=mg ((dX n s (upto n) k).2.take k)
theorem WP{s:Int}{n k:Nat}(a:k<=n){x:Int}(b:x∈AR s n k):0<=x/\x<n:=
 Fp n s k a x (zK ((Jc _ _).1 b))
theorem WQ(s:Int)(n k:Nat)(a:k<=n):n4 (AR s n k)=k:=by rw[AR,Jb,qw,pq,ft];omega
def cu(l:Nat):Nat:=if l<=1 then l else if l<=4 then 2 else if l<=9 then 3 else if l<=16 then 4 else 5
def pY(r:Nat):Nat:=if r=0 then 0 else if r=1 then 1 else if r<=3 then 2 else 3
def kW(l k:Nat):Nat:=
 (if k>1 then 1048576/(k*(k-1))else 1048576/l)+
  (if k<l/cu l then 1048576*cu l/(l*k)else if k=l/cu l then 1048576*cu l*pY (cu l)/l else 0)
def jk(l:Nat):Nat->Nat
 |0=>0
 |k+1=>jk l k+kW l (k+1)
def fx(l:Nat):aC:=(qy l).map λk=>((jk l (k+1):Nat):Int)
theorem fR(l:Nat):n4 (fx l)=l:=by simp[fx]
def Ij(t:aC)(x:Int):Nat:=(t.findIdx λy=>decide (y>x))+1
theorem AS:∀l,l<=20->∀k,k<=20->kW l k<=2^30:=o6
theorem sQ(l:Nat)(a:l<=20):∀k,k<=20->jk l k<=k*2^30
 |0,_=>by simp[jk]
 |k+1,hk=>by
  have:=sQ l a k n7;have:=AS l a (k+1) hk;rw[jk];omega
theorem Fq:∀l,l<=20->1<=l->0<jk l l:=o6
theorem AT(l:Nat)(h:1<=l):(fx l).getLast?=dB ((jk l l:Nat):Int):=by
 obtain⟨k,rfl⟩:∃k,l=k+1:=⟨l-1,n7⟩
 simp[fx,zC]
def Cn(seed id:Int):Int:=qc xQ (qc xP ((qG (qq xP) seed^^^(qG (qq xP) (qc xP ((qc xP id)*(2654435761:Int))))).toNat:Nat))
def AU(s:Int)(n:Nat):Nat:=Ij (fx n) (je s (jk n n))
theorem pr(s:Int)(n:Nat)(b:1<=n:=by omega)(a:n<=20:=by omega):AU s n<=n:=by unfold AU Ij;have d:=Fq n a b;have c:=sQ n a n a;have e:=nK s (jk n n);have:=List.findIdx_lt_length_of_exists (p:=λy=>decide (y>je s (jk n n))) (xs:=fx n) ⟨_,List.mem_of_getLast? (AT n b),o4⟩;rw[fR]at this;omega
def bP(id:Int):Bool:=decide (0<=id)&&decide (id<=65535)
def dZ(n:Nat)(seed id:Int):aC:=AR (tw (tw (Cn seed id))) n (AU (tw (Cn seed id)) n)
theorem km{n:Nat}(b:1<=n)(c:n<=20){seed id x:Int}(a:x∈dZ n seed id):0<=x/\x<n:=WP (pr _ n b c) a
theorem mw{n:Nat}(a:1<=n)(b:n<=20)(seed id:Int):n4 (dZ n seed id)<=n:=by rw[dZ,WQ _ _ _ (pr _ n a b)];exact pr _ n a b
def gT(n:Nat)(l:aC):aR:=l.foldl (λr i=>r.set i.toNat 1) (qh n 0)
theorem pu(n:Nat)(l:aC):n4 (gT n l)=n:=by
 have:∀(l:aC) (r:aR),n4 (l.foldl (λr i=>r.set i.toNat 1) r)=n4 r:=by
  intro l
  induction l with
  |nil=>simp
  |cons a t ih=>grind
 rw[gT,this];simp
def pv(n:Nat)(seed id:Int):aR:=gT n (dZ n seed id)
theorem WR(n:Nat)(seed id:Int):n4 (pv n seed id)=n:=pu _ _
def lC(K H h:Nat):aR:=(qy K).map (λj=>Gf.pw ((h+1)*(j+1)%255))++(qy H).map λi=>if i=h then 1 else 0
def bA(K H:Nat):dP:=(qy H).map (lC K H)
theorem Co(K H h:Nat):n4 (lC K H h)=K+H:=by simp[lC]
def ez(p:Int×Int×Int)(seed:Int)(a:aC):dP:=
 if bH p then bA p.1.toNat p.2.1.toNat++(a.filter bP).map (pv (bD p).toNat seed)else[]
theorem tz{α:Type}{f:α->Bool}{l:List α}{k:Nat}(a:k<n4 l):(l.take (k+1)).filter f=if f l[k]then(l.take k).filter f++[l[k]]else(l.take k).filter f:=by
 rw[zy a,]
 grind
structure cT where
 name:ByteArray
 object:Int
 length:Int
 tries:aC
structure aB where
 seq:Int
 next:Int
 p:Int×Int×Int
 extra:Int
 drives:aC
 objs:List cT
def acP:cT:=⟨⟨#[]⟩,0,0,[]⟩
def jl(l:List cT)(i:Nat):cT:=l.getD i acP
theorem lD{l:List cT}{i:Nat}(h:i<n4 l:=by omega):jl l i=l[i]:=by unfold jl;grind
def dM(n a b:Int):Bool:=decide (a<=n)&&decide (n<=b)
def ga(c:UInt8):Bool:=(decide (97<=c.toNat)&&decide (c.toNat<=122))||(decide (48<=c.toNat)&&decide (c.toNat<=57))||decide (c.toNat=45)
def gJ(s:ByteArray):Bool:=s.data.toList.all ga&&(decide (1<=s.size)&&decide (s.size<=12))
def cQ(a b:ByteArray):Bool:=Op.bytesLess a.toList b.toList
def fL(l:aC)(a:Int)(i:Nat):Bool:=dM (l.getD i 0) 0 a&&(decide (i=0)||decide (l.getD (i-1) 0<l.getD i 0))
def ow(l:aC)(a:Int):Bool:=(qy l.length).all (fL l a)
def countP(p:Int×Int×Int)(n:Int):Int:=if bH p&&decide (0<n)then(n-1)/(p.1*p.2.2)+1 else 0
def gv(m:aB)(x:cT):Bool:=
 gJ x.name&&(dM x.object 0 (m.next-1)&&(dM x.length 0 (m.p.1*m.p.2.2*8)&&(x.tries.all (dM · 0 15)&&decide ((x.tries.length:Int)=countP m.p x.length))))
def ko(m:aB)(i:Nat):Bool:=
 gv m (jl m.objs i)&&((decide (i=0)||cQ (jl m.objs (i-1)).name (jl m.objs i).name)&&!(m.objs.take i).any λy=>decide (y.object=(jl m.objs i).object))
def kp(m:aB):Bool:=dM m.seq 1 2147483647&&(dM m.next 0 16777216&&(bH m.p&&dM m.extra 0 16))
def bE(m:aB):Bool:=kp m&&(ow m.drives 63&&(decide (n4 m.objs<=12)&&(qy m.objs.length).all (ko m)))
theorem Cp{p:Nat->Bool}{n i:Nat}(a:i<n)(h:p i=eY):(qy n).all p=eY:=List.all_eq_false.2 ⟨i,qY.2 a,o4⟩
theorem rX{p:Nat->Bool}{n:Nat}(h:∀i,i<n->p i=eX):(qy n).all p=eX:=qP.2 λi a=>h i (qY.1 a)
def cy(n:Int)(k:Nat):aR:=(qy k).map λi=>b8 (zo n (2^(8*(k-1-i))))
theorem bL(n:Int)(k:Nat):n4 (cy n k)=k:=by simp[cy]
def gh(x:cT):aR:=b8 x.name.size::(x.name.data.toList++(cy x.object 3++(cy x.length 2++x.tries.map b8)))
def gy(m:aB):aR:=
 if bE m then cy m.seq 4++(cy m.next 4++([b8 m.p.1,b8 m.p.2.1,b8 m.p.2.2,b8 m.extra,b8 m.drives.length]++(m.drives.map b8++(b8 m.objs.length::m.objs.flatMap gh))))else[]
def nU(seq a c:Int)(b:aR):aR:=eS 2 (cy seq 4++([b8 a,b8 c,b8 b.length]++b))
def fg(b:aR):Nat:=(n4 b+47)/48
def bG(m:aB):dP:=(qy (fg (gy m))).map λi:Nat=>nU m.seq i (fg (gy m)) (((gy m).drop (48*i)).take 48)
theorem TP{m:aB}(h:bE m=eX):kp m=eX:=by unfold bE at h;grind
theorem Fs{m:aB}(h:kp m=eX):(1<=m.seq/\m.seq<=2147483647)/\(0<=m.next/\m.next<=16777216)/\bH m.p=eX/\0<=m.extra/\m.extra<=16:=by unfold kp dM at h;grind
theorem su{m:aB}{c:aR}(h:c∈bG m):n4 c=64:=by obtain⟨i,_,rfl⟩:=qI.1 h;exact ni n8 n8 p9
structure ck where
 object:Int
 block:Int
 id:Int
 p:Int×Int×Int
 seed:Int
 data:aR
def jL(r:ck):Bool:=(dM r.object 0 16777215&&(dM r.block 0 7&&bP r.id))&&(bH r.p&&decide ((r.data.length:Int)=r.p.2.2))
def ox(r:ck):aR:=cy r.object 3++(cy r.block 1++(cy r.id 2++([b8 r.p.1,b8 r.p.2.1,b8 r.p.2.2]++(cy r.seed 4++r.data))))
def gc(r:ck):aR:=if jL r then eS 1 (ox r)else[]
def dm(l:aR):Int:=l.foldl (λn x=>n*256+x.toNat) 0
def gz(c:aR):Option (Int×aR):=
 if c.length=64/\eS ((c.getD 3 0).toNat:Int) ((c.drop 4).take 55)=c then dB (((c.getD 3 0).toNat:Int),(c.drop 4).take 55)else eH
def uB(x:aR):ck:=
 ⟨dm (x.take 3),dm ((x.drop 3).take 1),dm ((x.drop 4).take 2),(dm ((x.drop 6).take 1),dm ((x.drop 7).take 1),dm ((x.drop 8).take 1)),dm ((x.drop 9).take 4),(x.drop 13).take (dm ((x.drop 8).take 1)).toNat⟩
def dn(c:aR):Option ck:=
 match gz c with
 |some (k,x)=>if k=1/\bH (uB x).p=eX/\gc (uB x)=c then dB (uB x)else eH
 |none=>eH
theorem jM(r:ck):jL r=eX↔(0<=r.object/\r.object<=16777215)/\(0<=r.block/\r.block<=7)/\(0<=r.id/\r.id<=65535)/\bH r.p=eX/\(r.data.length:Int)=r.p.2.2:=by unfold jL dM bP;grind
theorem rx{r:ck}(h:jL r=eX):n4 (ox r)=13+n4 r.data/\r.data.length<=24:=by obtain⟨_,_,_,a,b⟩:=(jM r).1 h;have:=(bI r.p).1 a;refine⟨by unfold ox;simp[bL];omega,n7⟩
theorem WS{r:ck}(h:jL r=eX):n4 (gc r)=64:=by have:=rx h;unfold gc;rw[m6 h];exact ni n8 n8 n7
theorem Ri{c:aR}{r:ck}(h:dn c=dB r):gc r=c/\jL r=eX/\bH r.p=eX:=by
 unfold dn at h;cases hc:gz c with
 |none=>rw[hc]at h;cases h
 |some kx=>
  rw[hc]at h;dsimp only at h;by_cases a:kx.1=1/\bH (uB kx.2).p=eX/\gc (uB kx.2)=c
  .rw[m6 a]at h;injection h with h
   subst h;refine⟨a.2.2,?_,a.2.1⟩;by_cases d:jL (uB kx.2)=eX
   .exact d
   .exfalso;have b:=a.2.2;unfold gc at b;rw[nq d]at b;unfold gz at hc;rw[<-b]at hc;simp at hc
  .rw[nq a]at h;cases h
section
variable (le:α->α->Bool)
def iQ(a b:α):Bool:=le a b&&le b a
def cC(l a:List α):Prop:=∀x,l.filter (iQ le x)=a.filter (iQ le x)
def Sd(l:List α):Prop:=l.Pairwise λa b=>le a b=eX
structure Ord:Prop where
 trans:∀a b c,le a b=eX->le b c=eX->le a c=eX
 total:∀a b,(le a b||le b a)=eX
variable {le}
theorem Ord.Cq(o:Ord le){a b:α}(h:¬le a b=eX):le b a=eX:=by
 have:=o.total a b
 grind
theorem Ord.refl(o:Ord le)(a:α):le a a=eX:=by have:=o.total a a;grind
theorem cC.refl(l:List α):cC le l l:=λ_=>rfl
theorem cC.trans{l1 l2 a:List α}(h:cC le l1 l2)(k:cC le l2 a):cC le l1 a:=λx=>(h x).trans (k x)
theorem cC.symm{l1 l2:List α}(h:cC le l1 l2):cC le l2 l1:=λx=>(h x).symm
theorem cC.app{a b c d:List α}(h:cC le a b)(k:cC le c d):cC le (a++c) (b++d):=λx=>by
 rw[zg,zg,h x,k x]
theorem cC.mem(o:Ord le){l a:List α}(h:cC le l a){y:α}(c:y∈a):y∈l:=by
 have b:y∈a.filter (iQ le y):=qK.2 ⟨c,A4⟩;rw[<-h y]at b
 grind
theorem cC.TQ(o:Ord le){u v:List α}(h:∀x∈u,∀y∈v,¬le x y=eX):cC le (u++v) (v++u):=λz=>by
 by_cases i:u.filter (iQ le z)=[]
 .grind
 .by_cases f:v.filter (iQ le z)=[]
  .grind
  .exfalso;obtain⟨x,e⟩:=List.exists_mem_of_ne_nil _ i;obtain⟨y,g⟩:=List.exists_mem_of_ne_nil _ f;obtain⟨d,b⟩:=qK.1 e;obtain⟨c,a⟩:=qK.1 g;unfold iQ at b a;simp only[qC]at b a;exact h x d y c (o.trans _ _ _ b.2 a.1)
theorem cC.LF(o:Ord le){l:List α}(h:cC le [] l):l=[]:=by
 cases l with
 |nil=>rfl
 |cons a l=>exact absurd (cC.mem o h (qR ..)) oo
theorem Jd(o:Ord le):∀(l c:List α),Sd le l->Sd le c->cC le l c->l=c
 |[],c,_,_,h=>(cC.LF o h).symm
 |a::l,[],_,_,h=>absurd (cC.LF o h.symm) oo
 |a::l,b::c,s,s',h=>by
  have d:a=b:=by
   have f:le a b=eX:=by
    have:=cC.mem o h (y:=b) (qR ..);rcases qN.1 this with e|e
    .rw[e];exact o.refl _
    .exact(zt.1 s).1 _ e
   have i:le b a=eX:=by
    have:=cC.mem o h.symm (y:=a) (qR ..);rcases qN.1 this with e|e
    .grind
    .exact(zt.1 s').1 _ e
   have h3:=h a;have g:iQ le a a=eX:=A4
   have e2:iQ le a b=eX:=by unfold iQ;grind
   grind
  subst d;rw[Jd o l c (zt.1 s).2 (zt.1 s').2 λx=>by
   have h3:=h x
   grind]
theorem tC(o:Ord le)(l:List α):Sd le (l.mergeSort le)/\cC le l (l.mergeSort le):=by
 refine⟨wC o.trans o.total l,λx=>?_⟩;have g:(l.filter (iQ le x)).Pairwise λa b=>le a b=eX:=by rw[List.pairwise_filter];refine List.Pairwise.imp ?_ (List.pairwise_of_forall (l:=l) (R:=λ_ _=>True) λ_ _=>trivial);intro a b _ d e;unfold iQ at d e;simp only[qC]at d e;exact o.trans _ _ _ d.2 e.1
 have f:=List.sublist_mergeSort o.trans o.total g List.filter_sublist;have c:=f.filter (iQ le x);rw[List.filter_filter]at c;simp only[Bool.and_self]at c;exact c.eq_of_length ((wc l le).symm.filter _).length_eq
theorem YS(o:Ord le){l a:List α}(s:Sd le a)(h:cC le l a):a=l.mergeSort le:=by obtain⟨b,c⟩:=tC o l;exact Jd o _ _ s b (h.symm.trans c)
theorem Sd.app(o:Ord le){u v:List α}(b:Sd le u)(a:Sd le v)(h:∀x∈u,∀y∈v,le x y=eX):Sd le (u++v):=zA.2 ⟨b,a,h⟩
theorem Sd.left{u v:List α}(h:Sd le (u++v)):Sd le u:=(zA.1 h).1
theorem Sd.right{u v:List α}(h:Sd le (u++v)):Sd le v:=(zA.1 h).2.1
theorem Sd.DS{u v:List α}(h:Sd le (u++v)):∀x∈u,∀y∈v,le x y=eX:=(zA.1 h).2.2
theorem Sd.at_(o:Ord le){l:List α}(h:Sd le l){i j:Nat}(a:i<=j)(b:j<n4 l):le (l[i]'n7) l[j]=eX:=by
 by_cases e:i=j
 .subst e;exact o.refl _
 .exact zb.1 h i j n7 b n7
theorem TR(o:Ord le){l1 l2 b a f m2:List α}(j:Sd le (l1++l2))(k:Sd le (b++a))(i:∀x∈l1,∀y∈a,le x y=eX)(e:∀x∈l2,∀y∈b,¬le x y=eX)
  (h:cC le (l1++b) f) (l:Sd le f) (g:cC le (l2++a) m2) (m:Sd le m2):Sd le (f++m2)/\cC le ((l1++l2)++(b++a)) (f++m2):=by
 constructor
 .refine Sd.app o l m λx c y d=>?_;rcases qx.1 (cC.mem o h c)with c|c<;>rcases qx.1 (cC.mem o g d)with d|d
  .exact j.DS x c y d
  .grind
  .exact o.Cq (e y d x c)
  .exact k.DS x c y d
 .have n:cC le ((l1++l2)++(b++a)) ((l1++b)++(l2++a)):=by rw[show(l1++l2)++(b++a)=l1++((l2++b)++a)by simp,show(l1++b)++(l2++a)=l1++((b++l2)++a)by simp];exact(cC.refl _).app ((cC.TQ o e).app (cC.refl _))
  exact n.trans (h.app g)
end
variable {le:α->α->Bool}
theorem sS(o:Ord le):∀{l d:List α},cC le l d->n4 l=n4 d
 |[],d,h=>by rw[cC.LF o h]
 |a::l,d,h=>by
  have j:=cC.mem o h.symm (y:=a) (qR ..);obtain⟨u,v,i⟩:=List.append_of_mem j;have g:∃(u:List α) (b:α) (v:List α),d=u++b::v/\(∀x∈u,iQ le a x=eY)/\iQ le a b=eX:=by
   have z:d.filter (iQ le a)≠[]:=λD=>by
    have:a∈d.filter (iQ le a):=qK.2 ⟨j,A4⟩
    grind
   clear i u v j h
   induction d with
   |nil=>grind
   |cons c d ih=>
    by_cases n:iQ le a c=eX
    .exact⟨[],c,d,n5,oo,n⟩
    grind
  obtain⟨u,b,v,rfl,w,B⟩:=g;have t:iQ le a a=eX:=A4
  have k:=h a;have p:u.filter (iQ le a)=[]:=yZ.2 λx m=>o4
  rw[List.filter_cons_of_pos t,zg,List.filter_cons_of_pos B]at k;have s:a=b:=o4
  have q:cC le l (u++v):=λx=>by
   have m:=h x;rw[zg,]at m;by_cases e:iQ le x a=eX
   .have A:u.filter (iQ le x)=[]:=yZ.2 λy r f=>by
     have:=w y r;unfold iQ at this e f;simp only[qC]at e f;rw[o.trans _ _ _ e.2 f.1,o.trans _ _ _ f.2 e.1]at this
     grind
    grind
   grind
  rw[q7,sS o q]
  grind
def fl(o b t:Int):Int:=(128*o+16*b+t)%4294967296
def dF(m:aB)(r:ck):Bool:=jL r&&(decide (r.p=m.p)&&m.objs.any λx=>decide (x.object=r.object)&&(decide (r.block<(x.tries.length:Int))&&decide (r.seed=fl r.object r.block (x.tries.getD r.block.toNat 0))))
def lP(a b:ck):Bool:=decide (a.object<b.object∨(a.object=b.object/\(a.block<b.block∨(a.block=b.block/\a.id<=b.id))))
def dJ(a b:ck):Bool:=decide (a.object=b.object/\a.block=b.block/\a.id=b.id)
def nz:ck:=⟨0,0,0,(0,0,0),0,[]⟩
def oy(l:List ck)(k:Nat):Bool:=decide (k=0)||!dJ (l.getD k nz) (l.getD (k-1) nz)
def mZ(l:List ck):List ck:=((qy l.length).filter (oy l)).map λi=>l.getD i nz
def gj(m:aB)(c:aR):Option ck:=match dn c with|some r=>if dF m r then dB r else eH|none=>eH
def gK(m:aB)(l:dP):List ck:=mZ ((l.filterMap (gj m)).mergeSort lP)
theorem Ik:Ord lP:=⟨λa b c d e=>by
 unfold lP at*
 grind,λa b=>by
 unfold lP
 grind⟩
theorem Gv(m:aB)(l:dP)(i:Nat)(a:i<n4 l):(l.take (i+1)).filterMap (gj m)=(l.take i).filterMap (gj m)++(gj m l[i]).toList:=by
 have:l.take (i+1)=l.take i++[l[i]]:=oo
 grind
def nV(a b:ck):Prop:=lP a b=eX/\dJ a b=eY
section
variable {B:au} {Bs:List HP} {A:HP} {e:Nat}
theorem aa.off(H:aa B h0 h As)(i j:Nat)(g:i≠j)(m:As[i]?=dB (ai e s k f l))(o:As[j]?=dB A):A.p h (λb=>b<h.size/\¬s.on b):=by
 obtain⟨_,_,c,_,a⟩:=H;refine A.mono (a j A o) λb n=>⟨n.1,λd=>?_⟩
 have:=(a i _ m).2 b d;omega
theorem aa.base(H:aa B h0 h As)(i:Nat)(g:As[i]?=dB (ai e s k f l)){b:Nat}(j:B b):¬s.on b:=λd=>by
 obtain⟨_,_,c,z,a⟩:=H;have:=(a i _ g).2 b d;have:=z b j;omega
theorem aa.LG(H:aa B h0 h (As++[D]))(i:Nat)(k:i<n4 As):aa B h0 h (As.set i D):=
 H.pick (λj=>if j<n4 As then(if j=i then As.length else j)else j+1) (λa b c=>by split at c<;>split at c<;>(try split at c)<;>(try split at c)<;>omega) λj A f=>by
  have e:j<n4 As:=by have:=(qn.1 f).1;simpa using this
  rw[m6 e];rw[qW]at f;split at f
  .rename_i d;subst d;rw[m6 n5,qk (qj _),zd];exact f
  .rename_i d;rw[nq λg=>d g.symm,qu e];exact f
theorem aa.Rj(H:aa B h0 h As)(i j:Nat){A2:HP}(n:As[i]?=dB A)(m:As[j]?=dB A2):aa B h0 h ((As.set i A2).set j A):=by
 have k:=(qn.1 n).1;have g:=(qn.1 m).1;refine H.pick (λx=>if x=j then i else if x=i then j else x) (λa b c=>by split at c<;>split at c<;>(try split at c)<;>(try split at c)<;>omega) λx o d=>?_;rw[qW,qW]at d;by_cases e:j=x
 .subst e;simp[g]at d;subst d;simpa using n
 .by_cases l:i=x
  .subst l;simp[e,k]at d;subst d;rw[nq λf=>e f.symm,m6 rfl];exact m
  .simp[e,l]at d;rw[nq λf=>e f.symm,nq λf=>l f.symm];exact d
end
def bo{α:Type}(e k:Nat)(f:α->aS)(rs:List Sl)(ll:List (List α)):List HP:=zl (λr l=>ai e r k f l) rs ll
section
variable {e:Nat}
theorem gw(h:n4 rs=n4 ll):n4 (bo e k f rs ll)=n4 ll:=by simp[bo,h]
theorem eC(h:n4 rs=n4 ll)(i:Nat)(b:i<n4 ll):(bo e k f rs ll)[i]?=dB (ai e (rs[i]'n7) k f ll[i]):=by
 have a:i<n4 rs:=n7
 simp[bo,wQ,qd b,qd a]
theorem oz(h:n4 rs=n4 ll)(r:Sl)(l:List α):bo e k f (rs++[r]) (ll++[l])=bo e k f rs ll++[ai e r k f l]:=by unfold bo;rw[List.zipWith_append h];rfl
theorem jw(h:n4 rs=n4 ll)(i:Nat)(r:Sl)(l:List α):(bo e k f rs ll).set i (ai e r k f l)=bo e k f (rs.set i r) (ll.set i l):=by
 apply zp;intro j;simp only[bo,qW,wQ,List.length_zipWith];by_cases a:i=j
 .subst a;by_cases b:i<n4 ll
  .have:i<n4 rs:=n7
   simp[b,this];omega
  .have:¬i<n4 rs:=n7
   simp[b];omega
 .simp[a]
theorem LH(h:n4 rs=n4 ll)(i:Nat)(a:i<n4 ll)(l:List α):(bo e k f rs ll).set i (ai e (rs[i]'n7) k f l)=bo e k f rs (ll.set i l):=by rw[jw h,List.set_getElem_self]
theorem aa.Je{B:au}{m h:m5}{s:Sl}{b:Nat}(H:aa B m h (ai b s 1 bv rs::bo e k f rs ll))(c:n4 rs=n4 ll)(j:∀x,n4 (f x)=k):dT h s k f ll:=by
 refine⟨rs,H.seq 0 n5 λ_=>rfl,c,λi r l g a=>?_⟩;have d:i<n4 ll:=(qn.1 a).1;have n:=eC (e:=e) (k:=k) (f:=f) c i d;have h3:=H.seq (i+1) D2 j;have b:rs[i]'n7=r:=by rw[qd n7]at g;simpa using g
 have e2:ll[i]=l:=by rw[qd d]at a;simpa using a
 rw[b,e2]at h3;exact h3
end
theorem Seq.nA{X:Type}{g:X->fY}(d:Seq h p s 1 f l){i:Int}(n:Nat)(q:i=n)(k:n<n4 l)(x:X)(j:f l[n]=[g x]){K:hU->X->Prop}(m:∀a:hU,hY h (a.add (i.toNat*1))=dB (g x)->K a x):
  ∃a:hU,(s.ptr=dB a/\0<=i/\i<((s.len:Nat):Int))/\∃x:X,hY h (a.add (i.toNat*1))=dB (g x)/\K a x:=by
 subst q;obtain⟨b,o,r,_,h3⟩:=d.elem n l[n] (qd k);rw[j]at h3;have c:=h3.1;rw[add_eq,ym]at c;have e:hY h ((⟨b,o,eH⟩:hU).add ((n:Int).toNat*1))=dB (g x):=by rw[add_eq];simpa using c
 exact⟨_,⟨r,n7,by rw[d.len];omega⟩,x,e,m _ e⟩
theorem Seq.dN{h:m5}{p:au}{s:Sl}{rs:List Sl}(d:Seq h p s 1 bv rs){i:Int}(n:Nat)(k:i=n)(g:n<n4 rs){K:hU->Sl->Prop}
  (j:∀a:hU,hY h (a.add (i.toNat*1))=dB (.slice rs[n].ptr rs[n].len rs[n].cap)->p (a.add (i.toNat*1)).block->K a rs[n]):
  ∃a:hU,(s.ptr=dB a/\0<=i/\i<((s.len:Nat):Int))/\∃x:Sl,hY h (a.add (i.toNat*1))=dB (.slice x.ptr x.len x.cap)/\K a x:=by
 subst k;obtain⟨b,o,l,f,h3⟩:=d.elem n rs[n] (qd g);have c:=h3.1;rw[add_eq,ym]at c;have e:hY h ((⟨b,o,eH⟩:hU).add ((n:Int).toNat*1))=dB (.slice rs[n].ptr rs[n].len rs[n].cap):=by rw[add_eq];simpa using c
 exact⟨_,⟨l,n7,by rw[d.len];omega⟩,rs[n],e,j _ e (by rw[add_eq];exact f)⟩
section
variable {B:au} {e:Nat}
theorem Own.cut(a:Own h e s k f l)(c:∀x,n4 (f x)=k)(j:Nat)(g:j<=n4 l):Own h e ⟨s.ptr,j,s.cap⟩ k f (l.take j):=by
 have d:=a.len;refine⟨oi,?_⟩;rcases a.head with⟨h1,h2,h3⟩|⟨b,rest,h1,h2,h3,h4⟩
 .subst h3;exact .inl ⟨h1,h2,oo⟩
 .refine .inr ⟨b,(l.drop j).flatMap f++rest,h1,?_,?_,n9⟩
  .rw[<-ql,<-za,qz];exact h2
  .rw[qo,dL c,qJ,h3,<-Nat.add_mul];dsimp only;congr 1;omega
theorem aa.cut(H:aa B h0 h As)(i:Nat)(c:As[i]?=dB (ai e s k f l))(b:∀x,n4 (f x)=k)(j:Nat)(d:j<=n4 l):aa B h0 h (As.set i (ai e ⟨s.ptr,j,s.cap⟩ k f (l.take j))):=
 H.dW i c λ_ a=>⟨a.1.cut b j d,a.2⟩
end
section
variable {B:au} {C:Ctx} {e:Nat}
end
section
variable {C:Ctx} {ty e:Nat} {B:au}
theorem Own.Cr(A:C.Ok)(D:bS C.toAg t e k z by_)(i:∀x,n4 (f x)=k)(r:Own h e s k f l)(B:Seq h p v k f l2)(E:∀x,∀c∈f x,c.oneCell'=eX){K:Int->m5->Prop}
  (j:∀n h',Own h' e s k f (l2.take l.length++l.drop l2.length)->aQ (λb=>¬s.on b) h h'->K n h'):
  bF C.P (yN #[t,t2] ty #[.slice s.ptr s.len s.cap,.slice v.ptr v.len v.cap]) (.one (.sc (.int .i64))) h K:=by
 unfold bF yN;simp only[zT,wB,qU];refine av.bind (av.always (aK (D.under A)) ?_);refine av.bind (av.pure' ?_);refine av.bind (av.always (D.size A) ?_);have a:=r.len;have d:=B.len;obtain⟨m,g⟩:=I5 (Nat.min v.len s.len)
 rw[<-g];have w:m<=n4 l2:=by rw[g,<-d];exact Nat.min_le_left _ _
 have y:m<=n4 l:=by rw[g,<-a];exact Nat.min_le_right _ _
 have F:m=min l2.length l.length:=by rw[g,a,d]
 have q:=B.take m w;have H:l2.take l.length++l.drop l2.length=l2.take m++l.drop m:=by
  rcases Nat.le_total l2.length l.length with hh|hh
  .grind
  .rw[show m=n4 l by omega,zj hh,List.drop_length]
 rw[H]at j;have u:wI k m (.slice v.ptr v.len v.cap)=wI k m (.slice v.ptr m v.cap):=by cases v.ptr<;>rfl
 rw[u];refine av.bind (eT (v:=⟨v.ptr,m,v.cap⟩) i q ?_);rcases r.head with⟨h1,h2,h3⟩|⟨b,rest,h1,h2,h3,h4⟩
 .rw[h1];subst h3;have:m=0:=by simpa using y
  subst this;refine av.pure' ⟨_,n5,j _ h ?_ (aQ.refl _ _)⟩;simpa using r
 .rw[h1];refine av.bind ?_;have o:l.flatMap f++rest=(l.take m).flatMap f++((l.drop m).flatMap f++rest):=by rw[<-ql,<-za,qz]
  rw[o]at h2;refine fo (e:=e) (pre:=[]) (old:=(l.take m).flatMap f) (post:=(l.drop m).flatMap f++rest) (by simpa using h2) (by rw[dL i,dL i,qw,qw];congr 1;omega) n5 ?_ ?_
  .grind
  .refine av.pure' ⟨_,n5,j _ _ ⟨o4,.inr ⟨b,rest,h1,?_,h3,h4⟩⟩ (aQ.jJ h2 λG=>G ⟨0,h1⟩)⟩;rw[iE h2,m6 n5,za];simp
theorem aa.Cr(o:C.Ok)(H:aa B h0 h As)(i:Nat)(b:As[i]?=dB (ai e s k f l))(m:bS C.toAg t e k z by_)(j:∀x,n4 (f x)=k)(g:Seq h p v k f l2)(a:∀x,∀c∈f x,c.oneCell'=eX){K:Int->m5->Prop}
  (d:∀n h',aa B h0 h' (As.set i (ai e s k f (l2.take l.length++l.drop l2.length)))->K n h'):
  bF C.P (yN #[t,t2] ty #[.slice s.ptr s.len s.cap,.slice v.ptr v.len v.cap]) (.one (.sc (.int .i64))) h K:=
 (H.own i b).Cr o m j g a λn h' x y=>d n h' (H.nS i b y x)
end
def Ft(d:Sl)(w i:Nat):Sl:=⟨if d.cap=i*w then d.ptr else d.ptr.map (·.add (i*w*1)),(i+1)*w-i*w,d.cap-i*w⟩
def PJ{α:Type}(l:List α)(w i:Nat):List α:=(l.drop (i*w)).take w
theorem Seq.piece{α:Type}{h:m5}{p:au}{s:Sl}{f:α->aS}{l:List α}(c:Seq h p s 1 f l)(b:s.len<=s.cap)(w i:Nat)(g:(i+1)*w<=n4 l:=by omega):Seq h p (Ft s w i) 1 f (PJ l w i):=by
 have a:=c.drop (i*w) b;have e:(i+1)*w=i*w+w:=zU i w;have d:=a.take w p6;have e2:(i+1)*w-i*w=w:=n7
 unfold Ft PJ;rw[e2];exact d
theorem PK{α:Type}{l:List α}{w i:Nat}(a:(i+1)*w<=n4 l):n4 (PJ l w i)=w:=by have e:(i+1)*w=i*w+w:=zU i w;simp only[PJ,qw,qJ];omega
def HP.sep(A D:HP):HP:=
 ⟨λh q=>∃i g:au,(∀b,i b->¬g b)/\(∀b,i b->q b)/\(∀b,g b->q b)/\A.p h i/\D.p h g,
  λ⟨i,g,a,b,c,d,e⟩ hp=>⟨i,g,a,b,c,A.loc d (hp.mono λx _ f=>b x f),D.loc e (hp.mono λx _ f=>c x f)⟩,
  λ⟨i,g,a,b,c,d,e⟩ hq=>⟨i,g,a,λx f=>hq x (b x f),λx f=>hq x (c x f),d,e⟩⟩
def HP.ex{ι:Type}(F:ι->HP):HP:=⟨λh q=>∃i,(F i).p h q,λ⟨i,a⟩ hp=>⟨i,(F i).loc a hp⟩,λ⟨i,a⟩ hq=>⟨i,(F i).mono a hq⟩⟩
def HP.and(A:HP)(P:Prop):HP:=⟨λh q=>A.p h q/\P,λa c=>⟨A.loc a.1 c,a.2⟩,λa b=>⟨A.mono a.1 b,a.2⟩⟩
variable {E:HP}
section
variable {B:au} {Bs:List HP} {A:HP} {i:Nat}
theorem aa.split(H:aa B h0 h As)(i:Nat)(l:As[i]?=dB (A.sep D)):aa B h0 h (As.set i A++[D]):=by
 classical
 obtain⟨q,p,c,z,a⟩:=H;obtain⟨u,r,o,m,s2,n,t⟩:=a i _ l;have s:=(qn.1 l).1;refine⟨q,p,λb=>if r b then As.length+1 else c b,λb e=>?_,λj X d=>?_⟩
 .grind
 .by_cases k:j<n4 As
  .rw[qu (by simpa using k),qW]at d;split at d
   .rename_i f;subst f;injection d with d
    subst d;refine A.mono n λb e=>⟨(m b e).1,?_⟩
    dsimp only;rw[nq (o b e)];exact(m b e).2
   .refine X.mono (a j X d) λb e=>⟨e.1,?_⟩
    grind
  .rw[qk (by simpa using k)]at d;have g:j=n4 As:=o4
   subst g;simp at d;subst d;refine D.mono t λb e=>⟨(s2 b e).1,?_⟩
   dsimp only;rw[m6 e]
theorem aa.join(H:aa B h0 h As)(i j:Nat)(a:i≠j)(f:As[i]?=dB A)(l:As[j]?=dB D):aa B h0 h ((As.set i (A.sep D)).set j emp):=
 H.merge i j a f l λk e g d c=>⟨k,e,g,λ_ b=>.inl b,λ_ b=>.inr b,d,c⟩
theorem aa.KQ{ι:Type}{F:ι->HP}(H:aa B h0 h As)(i:Nat)(g:As[i]?=dB (HP.ex F)):∃x,aa B h0 h (As.set i (F x)):=by
 obtain⟨f,p,c,z,a⟩:=H;obtain⟨x,e⟩:=a i _ g;refine⟨x,f,p,c,z,λj X b=>?_⟩;rw[qW]at b;split at b
 .rename_i d;subst d;split at b
  .injection b with b;subst b;exact e
  .cases b
 .exact a j X b
theorem aa.close'{ι:Type}{F:ι->HP}(H:aa B h0 h As)(i:Nat)(x:ι)(b:As[i]?=dB (F x)):aa B h0 h (As.set i (HP.ex F)):=H.dW i b λ_ a=>⟨x,a⟩
theorem aa.fact{P:Prop}(H:aa B h0 h As)(i:Nat)(a:As[i]?=dB (A.and P)):P:=(H.at i a).2
theorem aa.YT{P:Prop}(H:aa B h0 h As)(i:Nat)(b:As[i]?=dB (A.and P)):aa B h0 h (As.set i A):=H.dW i b λ_ a=>a.1
theorem aa.acQ{P:Prop}(H:aa B h0 h As)(i:Nat)(c:As[i]?=dB A)(a:P):aa B h0 h (As.set i (A.and P)):=H.dW i c λ_ b=>⟨b,a⟩
theorem aa.cons(H:aa B h0 h As)(i:Nat)(g:As[i]?=dB A):aa B h0 h (A::As.set i emp):=by
 obtain⟨k,p,c,z,a⟩:=H;have l:=(qn.1 g).1;refine⟨k,p,λb=>if c b=i+1 then 1 else if c b=0 then 0 else c b+1,λb e=>?_,λj X d=>?_⟩
 .have:=z b e;dsimp only;rw[nq n7,m6 this]
 .cases j with
  |zero=>
   simp at d;subst d;refine A.mono (a i A g) λb e=>⟨e.1,by dsimp only;rw[m6 e.2]⟩
  |succ j=>
   rw[qU,qW]at d;split at d
   .rename_i f;injection d with d;subst d;trivial
   .rename_i f;refine X.mono (a j X d) λb e=>⟨e.1,by dsimp only;rw[nq n7,nq n7];omega⟩
theorem aa.rest(H:aa B h0 h (A::As)):aa B h0 h As:=H.pick (λj=>j+1) (λa b h=>n7) λj X c=>D7
end
structure ja (α β:Type) where
 p:m5->au->α->β->Prop
 loc:∀{h h':m5} {q:au} {a:α} {b:β},p h q a b->aQ q h h'->p h' q a b
 mono:∀{h:m5} {q q':au} {a:α} {b:β},p h q a b->(∀x,q x->q' x)->p h q' a b
def iG{α:Type}(k:Nat)(f:α->aS):ja Sl (List α):=⟨λh q s l=>Seq h q s k f l,λa c=>a.ac c,λa b=>a.mono b⟩
def rY{α:Type}(k:Nat)(f:α->aS):ja Sl (List α):=⟨λh q s l=>Seq h q s k f l/\(l=[]->s.ptr=eH),λa c=>⟨a.1.ac c,a.2⟩,λa b=>⟨a.1.mono b,a.2⟩⟩
def bZ{α β:Type}(E:ja α β)(k:Nat)(f:α->aS):ja Sl (List β):=
 ⟨λh q s ll=>∃rs:List α,Seq h q s k f rs/\rs.length=n4 ll/\∀(i:Nat) r l,rs[i]?=dB r->ll[i]?=dB l->E.p h q r l,
  λ⟨rs,a,b,c⟩ hp=>⟨rs,a.ac hp,b,λi r l d e=>E.loc (c i r l d e) hp⟩,λ⟨rs,a,b,c⟩ hq=>⟨rs,a.mono hq,b,λi r l d e=>E.mono (c i r l d e) hq⟩⟩
def abr{α β:Type}(E:ja α β)(P:α->β->Prop):ja α β:=⟨λh q a b=>E.p h q a b/\P a b,λa d=>⟨E.loc a.1 d,a.2⟩,λa c=>⟨E.mono a.1 c,a.2⟩⟩
def EA{α β:Type}(E:ja α β)(a:α)(b:β):HP:=⟨λh q=>E.p h q a b,λx d=>E.loc x d,λx c=>E.mono x c⟩
abbrev eN{α β:Type}(E:ja α β)(h:m5)(a:α)(b:β):Prop:=E.p h (λb=>b<h.size) a b
def dK{α β:Type}(e:TypeId)(s:Sl)(k:Nat)(f:α->aS)(E:ja α β)(ll:List β):HP:=
 ⟨λh q=>∃(rs:List α) (j:au),Own h e s k f rs/\(∀b,s.on b->q b/\¬j b)/\(∀b,j b->q b)/\rs.length=n4 ll/\∀(i:Nat) r l,rs[i]?=dB r->ll[i]?=dB l->E.p h j r l,
  λ⟨rs,j,a,b,c,d,e⟩ hp=>⟨rs,j,a.ac hp λx g=>(b x g).1,b,c,d,λi r l n m=>E.loc (e i r l n m) (hp.mono λx _ g=>c x g)⟩,
  λ⟨rs,j,a,b,c,d,e⟩ hq=>⟨rs,j,a,λx g=>⟨hq x (b x g).1,(b x g).2⟩,λx g=>hq x (c x g),d,e⟩⟩
variable {β:Type} {b:β}
section
variable {E:ja α β} {ll:List β} {a:α}
theorem eN.up(x:eN E h a b)(c:aQ (λb=>b<h.size) h h'):eN E h' a b:=E.mono (E.loc x c) λ_ d=>qS d c.1
theorem bZ.kQ(x:(bZ E k f).p h q s ll):∃rs:List α,Seq h q s k f rs/\rs.length=n4 ll/\∀(i:Nat) (d:i<n4 rs) (e:i<n4 ll),E.p h q rs[i] ll[i]:=by obtain⟨rs,a,b,c⟩:=x;exact⟨rs,a,b,λi d e=>c i _ _ (qd d) (qd e)⟩
theorem bZ.len(x:(bZ E k f).p h q s ll):s.len=n4 ll:=by obtain⟨rs,a,b,c⟩:=x;rw[a.len,b]
theorem bZ.nil(h:m5)(q:au)(a:bJ)(c:Nat):(bZ E k f).p h q ⟨a,0,c⟩ []:=⟨[],Seq.nil h q c a k f,n5,λi r l b=>oo⟩
theorem bZ.take(x:(bZ E k f).p h q s ll)(n:Nat)(e:n<=n4 ll):(bZ E k f).p h q ⟨s.ptr,n,s.cap⟩ (ll.take n):=by
 obtain⟨rs,a,b,c⟩:=x;refine⟨rs.take n,a.take n n7,by simp[b],λi r l d g=>?_⟩
 grind
theorem bZ.todT{γ:Type}{d:Nat}{g:γ->aS}{l:List (List γ)}(x:eN (bZ (iG d g) 1 bv) h s l):dT h s d g l:=by obtain⟨rs,a,b,c⟩:=x;exact⟨rs,a,b,c⟩
theorem bZ.impl{α':Type}{d:Type}{E':ja α d}(u:β->d)(g:∀{h q a b},E.p h q a b->E'.p h q a (u b))(x:(bZ E k f).p h q s ll):(bZ E' k f).p h q s (ll.map u):=by
 obtain⟨rs,a,b,c⟩:=x;refine⟨rs,a,by simp[b],λi r l e j=>?_⟩
 grind
end
section
variable {E:ja α β} {C:Ctx} {e:Nat} {B:au} {ll:List β}
theorem aa.LI(H:aa B h0 h As)(e k:Nat)(f:α->aS)(E:ja α β):aa B h0 h (As++[dK e ⟨eH,0,0⟩ k f E []]):=
 H.comp (.one (aQ.refl _ _) ⟨[],λ_=>False,Own.nil h e k f,λb a=>(by obtain⟨o,a⟩:=a;cases a),λ_ a=>a.elim,rfl,λi r l h=>oo⟩)
theorem aa.eRd(H:aa B h0 h As)(i:Nat)(n:As[i]?=dB (dK e s k f E ll))(m:∀x,n4 (f x)=k):eN (bZ E k f) h s ll:=by obtain⟨rs,p,a,b,c,d,e⟩:=H.at i n;exact⟨rs,a.seq m λx g=>(b x g).1,d,λi r l j o=>E.mono (e i r l j o) c⟩
theorem aa.eAt{a:α}{b:β}(H:aa B h0 h As)(i:Nat)(c:As[i]?=dB (EA E a b)):eN E h a b:=H.at i c
theorem aa.adn(H:aa B h0 h As)(i:Nat)(g:As[i]?=dB (dK e s k f E ll)):s.len=n4 ll/\s.len<=s.cap:=by obtain⟨rs,j,a,b,c,d,e⟩:=H.at i g;exact⟨by rw[a.len,d],a.cap⟩
theorem aa.DT(hC:C.Ok)(H:aa B h0 h As)(i j:Nat)(F:i≠j){a:α}{b:β}(Y:As[i]?=dB (dK e s k f E ll))(hj:As[j]?=dB (EA E a b))(he:bS C.toAg t e k z by_)(hz:n4 z=k)(T:0<by_/\by_<=128)(hw:∀x,n4 (f x)=k)
  (N:∀x,∀c∈f x,c.oneCell'=eX) {parts:Array (Nat×fY)} (I:wv (λi=>dB (i*k,k)) (iF z 1).toArray parts.toList=dB ([a].flatMap f).toArray) (W:1*k<=2^20)
  (ab:n4 ll+1<=2^32) {ty:Nat} {K:Sl->m5->Prop} (hk:∀S h',aa B h0 h' ((As.set j emp).set i (dK e S k f E (ll++[b])))->K S h'):
  bF C.P (zw t 1 parts) (.one (.sc .slc)) h λv u=>bF C.P (q6 #[t,t] ty #[.slice s.ptr s.len s.cap,.slice v.ptr v.len v.cap]) (.one (.sc .slc)) u K:=by
 have H2:=H.merge i j F Y hj (D:=⟨λh q=>∃(rs:List α) (g:au),Own h e s k f rs/\(∀b,s.on b->q b/\¬g b)/\(∀b,g b->q b)/\rs.length=n4 ll/\(∀(i:Nat) r l,rs[i]?=dB r->ll[i]?=dB l->E.p h g r l)/\E.p h g a b,
  λ⟨rs,g,a,b,c,d,e,f⟩ hp=>⟨rs,g,a.ac hp λx n=>(b x n).1,b,c,d,λi r l u A=>E.loc (e i r l u A) (hp.mono λx _ n=>c x n),E.loc f (hp.mono λx _ n=>c x n)⟩,
  λ⟨rs,g,a,b,c,d,e,f⟩ hq=>⟨rs,g,a,λx n=>⟨hq x (b x n).1,(b x n).2⟩,λx n=>hq x (c x n),d,e,f⟩⟩)
  (λg q2 hd hA hB=>by
   obtain⟨rs,q3,a,b,c,d,e'⟩:=hA;refine⟨rs,λb=>q3 b∨q2 b,a,λx n=>⟨.inl (b x n).1,λQ=>Q.elim (b x n).2 (hd x (b x n).1)⟩,λx n=>n.elim (λh=>.inl (c x h)) .inr,d,λi r l u A=>E.mono (e' i r l u A) λ_ h=>.inl h,E.mono hB λ_ h=>.inr h⟩)
 have o:i<n4 As:=(qn.1 Y).1;obtain⟨lo,pp,c,zz,ax⟩:=H2;have ha:=ax i _ (by rw[w4 (Ne.symm F),zJ o]);obtain⟨rs,g,a1,a2,a3,a4,a5,a6⟩:=ha;let c':Nat->Nat:=λb=> @ite _ (g b) (Classical.propDecidable _) (n4 As+2) (c b);have R:∀b,g b->b<h.size/\c b=i+1:=a3;have ho:dQ h c' (i+1) e s k f rs:=⟨a1,λb m=>by
  have:=a2 b m;show @ite _ (g b) (Classical.propDecidable _) _ _=_;rw[nq this.2];exact this.1.2⟩
 refine ho.push hC he hz T hw N a I W n7 λS h' y G=>hk S h' ?_;rw[vb _ _ (Ne.symm F)];rw[<-yY (l:=As) (i:=i),vb _ _ F];have O:∀b,g b->c' b≠i+1:=λb m=>by
  show @ite _ (g b) (Classical.propDecidable _) _ _≠_;rw[m6 m];omega
 refine aa.AQ lo pp zz ax (G.mono λb m hn hc=>hn ⟨m,?_⟩) ⟨rs++[a],λb=>g b/\b<h.size,y.own,λb m=>?_,λb m=>⟨qS m.2 G.1,.inl ⟨m.2,(R b m.1).2⟩⟩,by simp[a4],λU r' l' u A=>?_⟩
 .grind
 .have w:=y.aW b m;by_cases o:b<h.size
  .rw[gE o]at w;have J:¬g b:=λV=>O b V w;have L:@ite _ (g b) (Classical.propDecidable _) (n4 As+2) (c b)=i+1:=w;rw[nq J]at L;exact⟨⟨y.own.lt m,.inl ⟨o,L⟩⟩,λQ=>J Q.1⟩
  .exact⟨⟨y.own.lt m,.inr n7⟩,λQ=>o Q.2⟩
 .have M:∀{Z:α} {l:β},E.p h g Z l->E.p h' (λb=>g b/\b<h.size) Z l:=λhs=>
   E.loc (E.mono hs (q':=λb=>g b/\b<h.size) λb m=>⟨m,(R b m).1⟩) (G.mono λb _ m=>O b m.1)
  by_cases X:U<n4 rs
  .rw[qu X]at u;rw[qu n7]at A;exact M (a5 U r' l' u A)
  .have:U=n4 rs:=by have:=(qn.1 u).1;simp at this;omega
   subst this;simp at u;rw[a4]at A;simp at A;subst u;subst A;exact M a6
theorem aa.ado{M:TI}(W:C.Ok)(H:aa B h0 h As)(i j:Nat)(u:i≠j){a:α}{b:β}(N:As[i]?=dB (dK e s k f E ll))(hj:As[j]?=dB (EA E a b))(S:∀x,n4 (f x)=k)(ht:C.T.get t=dB M){x:Int}(n:Nat)(g:x=n)(hn:n<n4 ll){y:fY}(hv:y.cells=(f a).toArray)(J:M.size=k)
  (A:(f a).all (·.oneCell')=eX) {K:m5->Prop} (X:∀h',aa B h0 h' ((As.set j emp).set i (dK e s k f E (ll.set n b)))->K h'):
  ∃a:hU,(s.ptr=dB a/\0<=x/\x<((s.len:Nat):Int))/\av C.P (qD t (.pointer (dB (a.add (x.toNat*k)))) y) h λ_ h'=>K h':=by
 have Q:=H.merge i j u N hj (D:=⟨λh q=>∃(rs:List α) (m:au),Own h e s k f rs/\(∀b,s.on b->q b/\¬m b)/\(∀b,m b->q b)/\rs.length=n4 ll/\(∀(i:Nat) r l,rs[i]?=dB r->ll[i]?=dB l->E.p h m r l)/\E.p h m a b,
  λ⟨rs,m,a,b,c,d,e,f⟩ hp=>⟨rs,m,a.ac hp λx g=>(b x g).1,b,c,d,λi r l I G=>E.loc (e i r l I G) (hp.mono λx _ g=>c x g),E.loc f (hp.mono λx _ g=>c x g)⟩,
  λ⟨rs,m,a,b,c,d,e,f⟩ hq=>⟨rs,m,a,λx g=>⟨hq x (b x g).1,(b x g).2⟩,λx g=>hq x (c x g),d,e,f⟩⟩)
  (λm q2 hd U hB=>by
   obtain⟨rs,q3,a,b,c,d,Y⟩:=U;refine⟨rs,λb=>q3 b∨q2 b,a,λx g=>⟨.inl (b x g).1,λhh=>hh.elim (b x g).2 (hd x (b x g).1)⟩,λx g=>g.elim (λh=>.inl (c x h)) .inr,d,λi r l I G=>E.mono (Y i r l I G) λ_ h=>.inl h,E.mono hB λ_ h=>.inr h⟩)
 have L:i<n4 As:=(qn.1 N).1;obtain⟨lo,pp,c,R,ax⟩:=Q;have ha:=ax i _ (by rw[w4 (Ne.symm u),zJ L]);obtain⟨rs,m,V,F,a3,a4,a5,a6⟩:=ha;refine V.set W S ht n g n7 a hv J A λh' z w _=>X h' ?_;rw[vb _ _ (Ne.symm u)];rw[<-yY (l:=As) (i:=i),vb _ _ u];have keep:∀{O:α} {l:β},E.p h m O l->E.p h' m O l:=λZ=>E.loc Z (w.mono λb _ o v=>(F b v).2 o);refine aa.AQ lo pp R ax (w.mono λb _ o v=>o (F b v).1) ⟨rs.set n a,m,z,λb o=>⟨⟨qS (F b o).1.1 w.1,.inl (F b o).1⟩,(F b o).2⟩,λb o=>⟨qS (a3 b o).1 w.1,.inl (a3 b o)⟩,by simp[a4],λi' r' l' I G=>?_⟩
 grind
end
section
variable {E:ja α β} {e:Nat} {B:au}
theorem aa.DU{α:Type}{f:α->aS}{l:List α}(H:aa B h0 h As)(i:Nat)(c:As[i]?=dB (ai e s k f l))(b:∀x,n4 (f x)=k):aa B h0 h (As.set i (EA (iG k f) s l)):=H.dW i c λ_ a=>a.1.seq b a.2
end
variable {e2:Nat}
section
variable {B:au} {e:Nat}
theorem aa.Rl{s:Sl}{ll:List (List α)}(H:aa B h0 h As)(i:Nat)(b:As[i]?=dB (dw e s k f ll)):aa B h0 h (As.set i (dK e s 1 bv (iG k f) ll)):=H.dW i b λ_ a=>a
end
theorem Jf{h h':m5}{p:au}(a:aQ p h h'):∀{L:bx},L.ok h->(∀x∈L,p x.1.block)->L.ok h'
 |[],_,_=>trivial
 |x::L,hk,hq=>⟨a.cell (hq x oo) hk.1,Jf a hk.2 λy b=>hq y o4⟩
theorem gF{h h':m5}(d:aQ (λb=>b<h.size) h h'){L:bx}(a:L.ok h):L.ok h':=Jf d a (by
 induction L with
 |nil=>simp
 |cons y L ih=>
  intro x c;rcases qN.1 c with rfl|c
  .exact df a.1
  .exact ih a.2 x c)
theorem bF.both{P:Program}{s:Sem fY}{h:m5}{K:Sl->m5->Prop}{Q:m5->Prop}(c:bF P s (.one (.sc .slc)) h λ_ h'=>Q h')(b:bF P s (.one (.sc .slc)) h K):bF P s (.one (.sc .slc)) h λx h'=>Q h'/\K x h':=by
 intro w a;obtain⟨g,l,e,o,j,a3,a4⟩:=c w a;obtain⟨i,n,d,f,x2,m,k⟩:=b w a
 grind
theorem aa.ke{α:Type}{B:au}{C:Ctx}{q h:m5}{As:List HP}{e t k b:Nat}{z:aS}{K:Sl->m5->Prop}(g:C.Ok)(H:aa B q h As)(f:α->aS)(p:bS C.toAg t e k z b)(d:n4 z=k){n:Nat}{parts:Array (Nat×fY)}(l:List α)(m:n4 l=n)(c:n*k<=2^20)
  (a:wv (λi=>dB (i*k,k)) (iF z n).toArray parts.toList=dB (l.flatMap f).toArray) {L:bx} (j:L.ok h) (o:bF C.P (zw t n parts) (.one (.sc .slc)) h K):
  bF C.P (zw t n parts) (.one (.sc .slc)) h λx h'=>L.ok h'/\K x h':=
 bF.both ((Sp.refl h).lit g f p d l m c a λ_ _ r=>gF r.ac j) o
section
variable {B:au} {Bs:List HP} {A:HP} {i:Nat}
theorem aa.front(H:aa B h0 h (As++Bs)):aa B h0 h (Bs++As):=
 H.pick (λj=>if j<n4 Bs then As.length+j else if j<n4 Bs+n4 As then j-n4 Bs else j)
  (λa b c=>o4) λj X d=>o4
theorem aa.bc(H:aa B h0 h (As++[A])):aa B h0 h (A::As):=H.front
theorem aa.bQ(H:aa B h0 h As)(R:Sp h h' [A]):aa B h0 h' (A::As):=(H.comp R).bc
theorem aa.oA(H:aa B h0 h (A::As)):aa B h0 h As:=H.rest
theorem aa.nB(H:aa B h0 h (A::D::As)):aa B h0 h (A::As):=H.del 1
theorem aa.AV{ι:Type}{F:ι->HP}(H:aa B h0 h (HP.ex F::As)):∃x,aa B h0 h (F x::As):=H.KQ 0 n5
theorem aa.Ct{ι:Type}{F:ι->HP}(x:ι)(H:aa B h0 h (F x::As)):aa B h0 h (HP.ex F::As):=H.close' 0 x n5
theorem aa.Cu(H:aa B h0 h (A.sep D::As)):aa B h0 h (D::A::As):=(H.split 0 n5).bc
theorem aa.kq(H:aa B h0 h (D::A::As)):aa B h0 h (A.sep D::As):=by have a:aa B h0 h (emp::A.sep D::As):=H.join 1 0 n8 n5 n5;exact a.rest
theorem aa.nj(H:aa B h0 h (A::D::As)):aa B h0 h (D::A::As):=H.Rj 0 1 n5 n5
end
theorem Seq.kX{h:m5}{p:au}{s:Sl}{rs:List Sl}(c:Seq h p s 1 bv rs){i:Int}(n:Nat)(d:i=n)(e:n<n4 rs){K:Sl->Prop}(b:K rs[n]):
  ∃a:hU,(s.ptr=dB a/\0<=i/\i<((s.len:Nat):Int))/\∃x:Sl,hY h (a.add (i.toNat*1))=dB (.slice x.ptr x.len x.cap)/\K x:=
 c.aV (g:=λr:Sl=>Value.slice r.ptr r.len r.cap) n d e rs[n] n5 b
def St(B:au)(a:m5)(As:List HP)(Q:m5->Prop):Prop:=∀(Bs:List HP) (h':m5),aa B a h' (Bs++As)->Q h'
variable {Q:m5->Prop}
section
variable {B:au} {Bs:List HP} {A:HP}
theorem St.at(x:St B h0 As Q)(Bs:List HP)(H:aa B h0 h (Bs++As)):Q h:=x Bs h H
theorem St.base(b:Q h0)(a:∀h',aQ B h0 h'->Q h'):St B h0 As Q:=λ_ _ H=>a _ H.ac
theorem St.dU(j:Nat)(c:As[j]?=dB A)(a:∀h',A.p h' (λb=>b<h'.size)->Q h'):St B h0 As Q:=λBs h' H=>a _ (H.at (n4 Bs+j) o4)
theorem St.cons(x:St B h0 As Q):St B h0 (A::As) Q:=λBs h' H=>x (Bs++[A]) h' o4
end
section
variable {E:ja Sl β} {ll:List β}
theorem bZ.adX(x:(bZ E 1 bv).p h q s ll){i:Int}(n:Nat)(m:i=n)(f:n<n4 ll){K:Sl->Prop}(g:∀(a:hU) (r:Sl),s.ptr=dB a->hY h (a.add (n*1))=dB (.slice r.ptr r.len r.cap)->E.p h q r ll[n]->K r):
  ∃a:hU,(s.ptr=dB a/\0<=i/\i<((s.len:Nat):Int))/\∃x:Sl,hY h (a.add (i.toNat*1))=dB (.slice x.ptr x.len x.cap)/\K x:=by
 obtain⟨rs,d,l,h3⟩:=bZ.kQ x;obtain⟨b,o,c,e2,e⟩:=d.elem n (rs[n]'n7) (qd n7);have j:=e.1;have k:hY h ((⟨b,o,eH⟩:hU).add (n*1))=dB (.slice (rs[n]'n7).ptr (rs[n]'n7).len (rs[n]'n7).cap):=by rw[add_eq];exact j
 refine⟨_,⟨c,n7,by rw[d.len];omega⟩,rs[n]'n7,o4,g _ _ c k (h3 n n7 f)⟩
end
theorem Cv{α:Type}{l:List α}(c:l.Nodup){a b:Nat}(e:a<n4 l)(f:b<n4 l)(h:l[a]=l[b]):a=b:=by
 have d:=zb.1 c
 grind
theorem aa.bu{B:au}{e h:m5}{As:List HP}(H:aa B e h As)(L:List Nat)(d:∀j∈L,j<n4 As:=by simp)(f:L.Nodup:=by decide):aa B e h (L.map λj=>As.getD j emp):=by
 refine H.pick (λi=>if h:i<n4 L then L[i]else As.length+i) (λa b c=>?_) λi A2 g=>?_
 .split at c<;>split at c
  .exact Cv f _ _ c
  .have:=d _ (qe (l:=L) (n:=a) n7);omega
  .have:=d _ (qe (l:=L) (n:=b) n7);omega
  .omega
 grind
theorem St.mk'{B:au}{a:m5}{As:List HP}{Q:m5->Prop}(x:∀h',aa B a h' As->Q h'):St B a As Q:=λBs h' H=>x h' (H.take Bs.length λi A b=>o4)
theorem St.mono{B:au}{a:m5}{As:List HP}{Q b:m5->Prop}(x:St B a As Q)(c:∀h,Q h->b h):St B a As b:=λBs h' H=>c _ (x Bs h' H)
theorem St.and{B:au}{a:m5}{As:List HP}{Q b:m5->Prop}(x:St B a As Q)(y:St B a As b):St B a As λh=>Q h/\b h:=λBs h' H=>⟨x Bs h' H,y Bs h' H⟩
theorem aa.aG{B:au}{g h:m5}{As:List HP}(H:aa B g h As)(k:Nat)(L:List Nat)(o:k<=n4 As:=by simp)(d:∀j∈L,j<k:=by simp)(m:L.Nodup:=by decide):aa B g h (L.map (λj=>As.getD j emp)++As.drop k):=by
 refine H.pick (λi=>if h:i<n4 L then L[i]else k+(i-n4 L)) (λa b c=>?_) λi A2 p=>?_
 .split at c<;>split at c
  .exact Cv m _ _ c
  .have:=d _ (qe (l:=L) (n:=a) o4);omega
  .have:=d _ (qe (l:=L) (n:=b) n7);omega
  .omega
 .by_cases e:i<n4 L
  .have f:=d _ (qe e)
   grind
  grind
section
variable {E:ja α β} {C:Ctx} {e:Nat} {B:au} {rs:List α} {ll:List β}
def Fix(E:ja α β)(k:Nat)(f:α->aS)(h:m5)(q:au)(s:Sl)(rs:List α)(ll:List β):Prop:=Seq h q s k f rs/\rs.length=n4 ll/\∀(i:Nat) r l,rs[i]?=dB r->ll[i]?=dB l->E.p h q r l
theorem Fix.ac(x:Fix E k f h q s rs ll)(a:aQ q h h'):Fix E k f h' q s rs ll:=⟨x.1.ac a,x.2.1,λi r l b c=>E.loc (x.2.2 i r l b c) a⟩
theorem Fix.mono{q':au}(x:Fix E k f h q s rs ll)(a:∀b,q b->q' b):Fix E k f h q' s rs ll:=⟨x.1.mono a,x.2.1,λi r l c d=>E.mono (x.2.2 i r l c d) a⟩
abbrev fO(E:ja α β)(k:Nat)(f:α->aS)(h:m5)(s:Sl)(rs:List α)(ll:List β):Prop:=Fix E k f h (λb=>b<h.size) s rs ll
theorem fO.up(x:fO E k f h s rs ll)(a:aQ (λb=>b<h.size) h h'):fO E k f h' s rs ll:=(Fix.ac x a).mono λ_ c=>qS c a.1
theorem Fix.row(x:Fix E k f h q s rs ll){i:Nat}(a:i<n4 ll):E.p h q (rs[i]'(by rw[x.2.1];exact a)) ll[i]:=x.2.2 i _ _ (qd _) (qd _)
theorem bZ.fix(x:(bZ E k f).p h q s ll):∃rs,Fix E k f h q s rs ll:=x
theorem Fix.elt(x:Fix E k f h q s rs ll):(bZ E k f).p h q s ll:=⟨rs,x⟩
def ci(E:ja α β)(k:Nat)(f:α->aS)(s:Sl)(rs:List α)(ll:List β):HP:=⟨λh q=>Fix E k f h q s rs ll,λx b=>x.ac b,λx a=>x.mono a⟩
theorem aa.Fu(H:aa B h0 h As)(i:Nat)(j:As[i]?=dB (dK e s k f E ll))(p:∀x,n4 (f x)=k):∃rs,aa B h0 h (As.set i (ci E k f s rs ll)):=by
 have g:i<n4 As:=(qn.1 j).1;have o:aa B h0 h (As.set i (HP.ex λrs=>ci E k f s rs ll)):=H.dW i j λq ⟨rs,v,a,b,c,d,e⟩=>⟨rs,a.seq p λx n=>(b x n).1,d,λi r l u t=>E.mono (e i r l u t) c⟩
 obtain⟨rs,m⟩:=o.KQ i (zJ g);exact⟨rs,by rw[yY]at m;exact m⟩
theorem aa.dg(H:aa B h0 h As)(i:Nat)(a:As[i]?=dB (ci E k f s rs ll)):fO E k f h s rs ll:=H.at i a
theorem aa.tE(f:C.Ok)(H:aa B h0 h As)(e:C.T.get t=dB ti){K:hU->m5->Prop}(d:∀a h',aQ (λb=>b<h.size) h h'->aa B h0 h' (As++[an a t ti.zero])->K a h'):
  pW C.P (wM t eX (.tuple #[])) h K:=
 uz f e λa h' x y c _=>d a h' (c.mono λ_ _ _=>trivial) (H.comp (Ii x y c))
theorem aa.DV(u:C.Ok)(H:aa B h0 h As)(f:α->aS)(D:bS C.toAg t e k z by_)(g:0<by_/\by_<=128)(j:α)(E:f j=z)(i:n4 z=k){s r:IntKind}{n p:Int}(m c:Nat)(v:n=m)(q:p=c)(d:m<=c)(l:c<=2^32)
  {K:Sl->m5->Prop} (A:∀a h',a.len=m->aQ (λb=>b<h.size) h h'->aa B h0 h' (As++[ai e a k f (qh m j)])->K a h'):
  bF C.P (zB t (.int s n) (.int r p)) (.one (.sc .slc)) h K:=
 run_make u D g j E i m c v q d l λa h' x y w o _=>A a h' (by rw[x.len];simp) (o.mono λ_ _ _=>trivial) (H.comp (DR n5 x y o))
end
section
variable {C:Ctx} {B:au} {e:Nat}
theorem Own.WT(B:C.Ok)(q:Own h e s k f l)(r:∀x,n4 (f x)=k)(G:C.T.get t=dB i){x:Int}(n:Nat)(A:x=n)(u:n<n4 l)(j:Nat)(vs:aS)(J:j+n4 vs<=k){d:fY}(y:α)(H:d.cells=vs.toArray)(p:i.size=n4 vs)
  (g:vs.all (·.oneCell')=eX) (E:f y=(f l[n]).take j++vs++(f l[n]).drop (j+n4 vs)) {K:m5->Prop} (D:∀h',Own h' e s k f (l.set n y)->aQ (λb=>¬s.on b) h h'->K h'):
  ∃a:hU,(s.ptr=dB a/\0<=x/\x<((s.len:Nat):Int))/\av C.P (qD t (.pointer (dB ((a.add (x.toNat*k)).add j))) d) h λ_ h'=>K h':=by
 subst A;rcases q.head with⟨_,_,h3⟩|⟨b,rest,h1,h2,h3,h4⟩
 .subst h3;simp at u
 .refine⟨_,⟨h1,n7,by rw[q.len];omega⟩,?_⟩;refine av.bind (av.pure' ?_);refine av.bind (av.always (ey B.toOk G) ?_);rw[H,p];simp only[yI,ne_eq,not_true,if_false];rw[add_eq,add_eq,w8,qi];have o:l=l.take n++l[n]::l.drop (n+1):=oo
  have m:l.set n y=l.take n++y::l.drop (n+1):=yC.trans (m6 u);have v:n4 ((l.take n).flatMap f)=n*k:=by rw[dL r,qw,wW n7]
  have F:=r l[n];have w:f l[n]=(f l[n]).take j++((f l[n]).drop j).take vs.length++(f l[n]).drop (j+n4 vs):=by rw[ql,<-wm,qz,qz]
  refine fo (e:=e) (pre:=(l.take n).flatMap f++(f l[n]).take j) (old:=((f l[n]).drop j).take vs.length) (post:=(f l[n]).drop (j+n4 vs)++((l.drop (n+1)).flatMap f++rest)) ?_ ?_ ?_ ?_ ?_
  .grind
  .simp;omega
  .grind
  .intro c z;exact qP.1 g c z
  .refine D _ ⟨by rw[qO];exact q.len,.inr ⟨b,rest,h1,?_,h3,h4⟩⟩ (aQ.jJ h2 λI=>I ⟨0,h1⟩);rw[iE h2,m6 n5,m,za,zm,E];simp
theorem aa.WT(q:C.Ok)(H:aa B h0 h As)(g:Nat)(c:As[g]?=dB (ai e s k f l))(p:∀x,n4 (f x)=k)(A:C.T.get t=dB i){x:Int}(n:Nat)(o:x=n)(r:n<n4 l)(j:Nat)(vs:aS)(E:j+n4 vs<=k){b:fY}(y:α)(D:b.cells=vs.toArray)(m:i.size=n4 vs)
  (d:vs.all (·.oneCell')=eX) (v:f y=(f l[n]).take j++vs++(f l[n]).drop (j+n4 vs)) {K:m5->Prop} (u:∀h',aa B h0 h' (As.set g (ai e s k f (l.set n y)))->K h'):
  ∃a:hU,(s.ptr=dB a/\0<=x/\x<((s.len:Nat):Int))/\av C.P (qD t (.pointer (dB ((a.add (x.toNat*k)).add j))) b) h λ_ h'=>K h':=
 (H.own g c).WT q p A n o r j vs E y D m d v λh' z w=>u h' (H.nS g c w z)
end
def HP.all:List HP->HP
 |[]=>emp
 |A::L=>A.sep (HP.all L)
variable {L:List HP}
section
variable {B:au} {A:HP}
theorem aa.Ak:∀{L:List HP} {As:List HP},aa B h0 h (HP.all L::As)->aa B h0 h (L++As)
 |[],_,H=>H.rest
 |A::L,As,H=>by
  have e:aa B h0 h (HP.all L::A::As):=H.Cu;have c:=aa.Ak e;exact c.pick (λi=>if i=0 then L.length else if i<=n4 L then i-1 else i) (λa b d=>o4) λi X f=>o4
theorem aa.closeAll:∀(L:List HP) {As:List HP},aa B h0 h (L++As)->aa B h0 h (HP.all L::As)
 |[],As,H=>((H.comp (.one (A:=emp) (aQ.refl _ _) I6)).bc)
 |A::L,As,H=>by
  have d:aa B h0 h (L++(A::As)):=H.pick (λi=>if i<n4 L then i+1 else if i=n4 L then 0 else i) (λa b c=>o4) λi X e=>o4
  exact(aa.closeAll L d).kq
theorem aa.Fv{P:Prop}(H:aa B h0 h (A.and P::As)):aa B h0 h (A::As)/\P:=⟨H.YT 0 n5,H.fact 0 n5⟩
theorem aa.toFv{P:Prop}(H:aa B h0 h (A::As))(p:P):aa B h0 h (A.and P::As):=H.acQ 0 n5 p
end
def gA{α:Type}(e:TypeId)(s:Sl)(a:TypeId)(k:Nat)(f:α->aS)(ll:List (List α)):HP:=
 HP.ex λrs:List Sl=>(HP.all (ai e s 1 bv rs::bo a k f rs ll)).and (n4 rs=n4 ll)
section
variable {C:Ctx} {B:au} {e:Nat}
theorem aa.AW(H:aa B h0 h (gA e s e2 k f ll::As)):∃rs:List Sl,n4 rs=n4 ll/\aa B h0 h ((ai e s 1 bv rs::bo e2 k f rs ll)++As):=by obtain⟨rs,H⟩:=H.AV;obtain⟨H,a⟩:=H.Fv;exact⟨rs,a,H.Ak⟩
theorem aa.Cx{rs:List Sl}(a:n4 rs=n4 ll)(H:aa B h0 h ((ai e s 1 bv rs::bo e2 k f rs ll)++As)):aa B h0 h (gA e s e2 k f ll::As):=
 ((aa.closeAll _ H).toFv a).Ct (F:=λrs:List Sl=>(HP.all (ai e s 1 bv rs::bo e2 k f rs ll)).and (n4 rs=n4 ll)) rs
theorem aa.jm(H:aa B h0 h As)(e a k:Nat)(f:α->aS):aa B h0 h (gA e ⟨eH,0,0⟩ a k f []::As):=
 aa.Cx (rs:=[]) n5 ((H.nil e 1 bv).bc)
theorem aa.px{Bs:List HP}(H:aa B h0 h (As++Bs)):aa B h0 h As:=H.pick id (λ_ _ h=>h) λi A a=>o4
theorem aa.uC(H:aa B h0 h (gA e s e2 k f ll::As))(a:∀x,n4 (f x)=k):dT h s k f ll:=by obtain⟨rs,b,H⟩:=H.AW;exact aa.Je (aa.px H) b a
theorem aa.lE(H:aa B h0 h (gA e s e2 k f ll::As)):s.len=n4 ll/\s.len<=s.cap:=by obtain⟨rs,a,H⟩:=H.AW;exact⟨by rw[(H.own 0 n5).len,a],(H.own 0 n5).cap⟩
theorem aa.mh(b:C.Ok){r:Sl}{x:List α}(H:aa B h0 h (gA e s e2 k f ll::ai e2 r k f x::As))(i:bS C.toAg t e 1 [.slice eH 0 0] 24)(g:n4 ll+1<=2^32){ty:Nat}{K:Sl->m5->Prop}
  (c:∀a h',aa B h0 h' (gA e a e2 k f (ll++[x])::As)->K a h'):
  bF C.P (zw t 1 #[(0,.slice r.ptr r.len r.cap)]) (.one (.sc .slc)) h λv j=>bF C.P (q6 #[t,t] ty #[.slice s.ptr s.len s.cap,.slice v.ptr v.len v.cap]) (.one (.sc .slc)) j K:=by
 obtain⟨rs,d,H⟩:=H.AW;refine H.push b 0 n5 i n5 n8 (λ_=>rfl) jK r n5 n8 n7 λa h' l=>c a h' ?_;refine aa.Cx (rs:=rs++[r]) o4 ?_;rw[oz d]
 grind
end
theorem Fw(l:aC):l.flatMap ar=l.map (Value.int .i64):=by
 induction l with
 |nil=>rfl
 |cons a t ih=>rw[zm,ih];rfl
theorem Jg{w:World}{e:TypeId}{b:Nat}{rest:aS}{l:aC}(c:w.heap[b]?=dB (.cells (l.flatMap ar++rest).toArray e (0,0))):Sort.Holds (Value.int .i64) w b 0 l.toArray:=by
 intro j d;have a:j<n4 l:=o4
 refine⟨?_,by simp[World.frozen?,c]⟩;rw[Fw]at c;have:(l.map (Value.int .i64)++rest)[j]?=dB (xH xN l[j]):=o4
 simp[World.cell?,c,this,a]
theorem LJ(l a:aC)(rest:aS)(b:n4 a=n4 l):Sort.putCells (Value.int .i64) 0 a.toArray (l.flatMap ar++rest).toArray=(a.flatMap ar++rest).toArray:=by
 rw[Fw,Fw];simp only[Sort.putCells,]
 grind
theorem LK{P:Program}{id:FuncId}(B:∀(f off cap:Nat) (q:aC) (w:World),Sort.Holds (Value.int .i64) w f off q.toArray->f<w.heap.size->n4 q<4611686018427387904->
   Calls P id #[.slice (dB ⟨f,off,eH⟩) q.length cap] w λe m=>e=.returned (.tuple #[])/\∃n os,m=Sort.grow (Sort.putRow (Value.int .i64) (Sort.ahead w n) f off (q.mergeSort λx y=>decide (x<=y)).toArray) os)
  (u:∀(p:bJ) (cap:Nat) (w:World),Calls P id #[.slice p 0 cap] w λe m=>e=.returned (.tuple #[])/\m=w)
  {e:TypeId} {s:Sl} {l:aC} {h:m5} (t:Own h e s 1 ar l) (A:n4 l<2^40):
  ak P id #[.slice s.ptr s.len s.cap] h λv h'=>v=.tuple #[]/\Own h' e s 1 ar (l.mergeSort λx y=>decide (x<=y))/\aQ (λb=>¬s.on b) h h':=by
 intro w g;have c:=t.len;rcases t.head with⟨h1,h2,h3⟩|⟨b,rest,h1,h2,h3,h4⟩
 .subst h3;rw[c,h1];refine(u eH s.cap w).mono ?_;rintro z m ⟨rfl,rfl⟩;have E:(([]:aC).mergeSort λx y=>decide (x<=y))=[]:=oo
  exact⟨_,n5,dj.refl _,n5,o4,by rw[<-g];exact aQ.refl _ _⟩
 .rw[h1,c];have o:w.heap[b]?=dB (.cells (l.flatMap ar++rest).toArray e (0,0)):=by rw[g];exact h2
  refine(B b 0 s.cap l w (Jg o) (lt_of_block o) n7).mono ?_;rintro z m ⟨rfl,n,os,rfl⟩;have j:=lt_of_block o;have i:n4 (l.mergeSort λx y=>decide (x<=y))=n4 l:=wP l;have d:∀k,k<h.size->(Sort.grow (Sort.putRow (Value.int .i64) (Sort.ahead w n) b 0 (l.mergeSort λx y=>decide (x<=y)).toArray) os).heap[k]?=if b=k then dB (.cells ((l.mergeSort λx y=>decide (x<=y)).flatMap ar++rest).toArray e (0,0))else h[k]?:=by
   intro k r;rw[Sort.heap_grow_old _ _ (by simpa[Sort.putRow,Sort.mapBlock,Sort.ahead,g]using r)];simp only[Sort.putRow,Sort.mapBlock,Sort.ahead,yf];by_cases a:b=k
   .subst a;rw[m6 n5,m6 n5,o,zn,Sort.onCells,LJ _ _ _ i]
   .rw[nq a,nq a,g]
  rw[g]at j;refine⟨_,n5,⟨n5,n5,n5,by simp[Sort.grow,Sort.putRow,Sort.mapBlock,Sort.ahead]⟩,n5,⟨by rw[i];exact c,.inr ⟨b,rest,h1,?_,h3,h4⟩⟩,?_,?_⟩
  .rw[d b j,m6 rfl]
  .grind
  .intro k r D;rw[d k r,nq λa=>D ⟨0,by rw[h1,a]⟩]
abbrev Row:=aR
abbrev aO:=List Row
def scaleB(c:UInt8)(l:Row):Row:=l.map (Gf.mul c)
def cH(c:UInt8)(a to:Row):Row:=zl (λx y=>y^^^Gf.mul c x) a to
def aM(r:Row)(aW:Nat):UInt8:=r.getD aW 0
def aA(m:aO)(i:Nat):Row:=m.getD i []
def fp(m:aO)(a aW:Nat):Option Nat:=(qy m.length).find? λi=>decide (a<=i)&&(aM (aA m i) aW !=0)
def fH(m:aO)(i j:Nat):aO:=(m.set i (aA m j)).set j (aA m i)
def bO(a aW:Nat)(m:aO)(k:Nat):aO:=m.mapIdx λi r=>if i<k/\i≠a then cH (aM r aW) (aA m a) r else r
def fS(a aW:Nat)(m:aO):aO:=m.set a (scaleB (Gf.inv (aM (aA m a) aW)) (aA m a))
def fI(s:Nat×aO)(aW:Nat):Nat×aO:=
 match fp s.2 s.1 aW with
 |none=>s
 |some i=>(s.1+1,bO s.1 aW (fS s.1 aW (fH s.2 s.1 i)) s.2.length)
def ba(m:aO):Nat->Nat×aO
 |0=>(0,m)
 |c+1=>fI (ba m c) c
def ee(m:aO):Nat:=n4 (aA m 0)
def cv(m:aO):Nat:=(ba m (ee m)).1
def aU(n:Nat)(m:aO):Prop:=∀r∈m,n4 r=n
theorem ry(c:UInt8)(l:Row):n4 (scaleB c l)=n4 l:=by simp[scaleB]
theorem cl{c:UInt8}{a t:Row}(h:n4 a=n4 t):n4 (cH c a t)=n4 t:=by simp[cH,h]
theorem bf{m:aO}{i:Nat}(h:i<n4 m):aA m i=m[i]:=by rw[aA,qg,qd h];rfl
theorem bX{n:Nat}{m:aO}(h:aU n m){i:Nat}(a:i<n4 m:=by omega):n4 (aA m i)=n:=by rw[bf a];exact h _ (qe a)
theorem Fx{n:Nat}{m:aO}(h:aU n m){i:Nat}{r:Row}(b:n4 r=n):aU n (m.set i r):=λx a=>by
 rcases wi a with h1|h1
 .exact h x h1
 grind
theorem Gw{P:Nat->Bool}{n:Nat}(h:∀j,j<n->P j=eY):(qy n).find? P=eH:=o4
theorem Rm{P:Nat->Bool}{n k:Nat}(d:k<n)(h:∀j,j<k->P j=eY)(c:P k=eX):(qy n).find? P=dB k:=by
 rw[List.find?_eq_some_iff_append];refine⟨c,qy k,List.range' (k+1) (n-k-1),?_,λa e=>?_⟩
 .rw[yH,yH];have b:n=k+(n-k):=n7
  have e2:n-k=(n-k-1)+1:=n7
  conv=>lhs;rw[b,<-List.range'_append_1 (s:=0) (m:=k) (n:=n-k)]
  rw[w8]
  conv=>lhs;rw[e2,List.range'_succ]
 grind
theorem kI{m:aO}{a aW i:Nat}(h:fp m a aW=dB i):a<=i/\i<n4 m/\aM (aA m i) aW≠0:=by
 have b:=List.find?_some h;have c:=List.mem_of_find?_eq_some h
 grind
theorem NT{m:aO}{a aW:Nat}(h:fp m a aW=eH):∀i,a<=i->i<n4 m->aM (aA m i) aW=0:=λi c b=>by
 have:=List.find?_eq_none.1 h i (qY.2 b)
 grind
theorem iR(m:aO)(i j:Nat):n4 (fH m i j)=n4 m:=by simp[fH]
theorem nW{n:Nat}{m:aO}(h:aU n m){i j:Nat}(a:i<n4 m:=by omega)(b:j<n4 m:=by omega):aU n (fH m i j):=Fx (Fx h (bX h b)) (bX h a)
theorem kJ(t c:Nat)(m:aO):n4 (fS t c m)=n4 m:=by simp[fS]
theorem my{n:Nat}{m:aO}(h:aU n m){t c:Nat}(a:t<n4 m):aU n (fS t c m):=Fx h (by rw[ry];exact bX h a)
theorem kK(t c:Nat)(m:aO)(k:Nat):n4 (bO t c m k)=n4 m:=by simp[bO]
theorem uD{n:Nat}{m:aO}(h:aU n m){t c k:Nat}(d:t<n4 m):aU n (bO t c m k):=λx b=>by
 obtain⟨i,e,rfl⟩:=List.mem_mapIdx.1 b;have a:=h _ (qe e);split
 .rw[cl (by rw[bX h d,a])];exact a
 omega
theorem nX(t c:Nat)(m:aO):bO t c m 0=m:=by apply zp;simp[bO,]
theorem jd{t c k:Nat}{m:aO}{i:Nat}(a:i<n4 m:=by omega):aA (bO t c m k) i=if i<k/\i≠t then cH (aM (aA m i) c) (aA m t) (aA m i)else aA m i:=by rw[bf (by rw[kK];exact a),bf a];simp[bO]
theorem kr{t c k:Nat}{m:aO}(a:k<n4 m)(d:k≠t):bO t c m (k+1)=(bO t c m k).set k (cH (aM (aA m k) c) (aA m t) (aA m k)):=by
 apply zp;intro i;simp only[bO,qW,List.getElem?_mapIdx,List.length_mapIdx];by_cases b:k=i
 .subst b;simp only[if_true,a,qd a,zn];rw[m6 ⟨n7,d⟩,bf a]
 grind
theorem uE{t c:Nat}{m:aO}:bO t c m (t+1)=bO t c m t:=by
 simp only[bO,]
 grind
theorem TS{n:Nat}{s:Nat×aO}(h:aU n s.2)(aW:Nat):aU n (fI s aW).2/\(fI s aW).2.length=n4 s.2:=by
 unfold fI;cases hb:fp s.2 s.1 aW with
 |none=>grind
 |some i=>
  have a:=kI hb;refine⟨uD (my (nW h n7 a.2.1) (by rw[iR];omega)) (by rw[kJ,iR];omega),by rw[kK,kJ,iR]⟩
theorem fM{n:Nat}{m:aO}(h:aU n m):∀c,aU n (ba m c).2/\(ba m c).2.length=n4 m
 |0=>⟨h,n5⟩
 |c+1=>by
  have:=fM h c;have a:=TS this.1 c;rw[ba]
  grind
theorem WU{s:Nat×aO}(h:s.1<=n4 s.2)(aW:Nat):(fI s aW).1<=(fI s aW).2.length:=by
 unfold fI;cases hb:fp s.2 s.1 aW with
 |none=>exact h
 |some i=>
  have a:=kI hb;dsimp only;rw[kK,kJ,iR];omega
theorem oB(m:aO):∀c,(ba m c).1<=(ba m c).2.length
 |0=>by simp[ba]
 |c+1=>WU (oB m c) c
section
variable {C:Ctx} {ty e:Nat} {B:au}
theorem Own.LL(N:C.Ok)(R:bS C.toAg t e k z by_)(D:∀x,n4 (f x)=k)(w:Own h e s k f l)(Q:Seq h p v k f l2)(u:∀x,∀c∈f x,c.oneCell'=eX)(j:Nat)(W:j<=n4 l){y:bJ}{J T:Nat}(i:y=if s.cap=j then s.ptr else s.ptr.map (·.add (j*k)))(r:J=s.len-j){K:Int->m5->Prop}
  (E:∀n h',Own h' e s k f (l.take j++(l2.take (n4 l-j)++l.drop (j+n4 l2)))->aQ (λb=>¬s.on b) h h'->K n h'):
  bF C.P (yN #[t,t2] ty #[.slice y J T,.slice v.ptr v.len v.cap]) (.one (.sc (.int .i64))) h K:=by
 unfold bF yN;simp only[zT,wB,qU];refine av.bind (av.always (aK (R.under N)) ?_);refine av.bind (av.pure' ?_);refine av.bind (av.always (R.size N) ?_);have g:=w.len;have B:=Q.len;have O:=w.cap;obtain⟨m,F⟩:=I5 (Nat.min v.len J)
 rw[<-F];have M:m<=n4 l2:=by rw[F,<-B];exact Nat.min_le_left _ _
 have A:m<=n4 l-j:=by rw[F,<-g,r];exact Nat.min_le_right _ _
 have U:m=min l2.length (n4 l-j):=by rw[F,r,g,B]
 have I:=Q.take m M;have X:l2.take (n4 l-j)++l.drop (j+n4 l2)=l2.take m++l.drop (j+m):=by
  rcases Nat.le_total l2.length (n4 l-j)with hh|hh
  .rw[qf hh,show m=n4 l2 by omega,List.take_length]
  .rw[show m=n4 l-j by omega,zj (show l.length<=j+n4 l2 by omega),zj n7]
 rw[X]at E;have L:wI k m (.slice v.ptr v.len v.cap)=wI k m (.slice v.ptr m v.cap):=by cases v.ptr<;>rfl
 rw[L];refine av.bind (eT (v:=⟨v.ptr,m,v.cap⟩) D I ?_);have d:m=0->l.take j++(l2.take m++l.drop (j+m))=l:=λe=>by rw[e];simp
 rcases w.head with⟨h1,h2,h3⟩|⟨b,rest,h1,h2,h3,h4⟩
 .have a:y=eH:=by rw[i,h1];split<;>rfl
  rw[a];subst h3;have:m=0:=by simp at A;exact A
  refine av.pure' ⟨_,n5,E _ h ?_ (aQ.refl _ _)⟩;rw[d this];exact w
 .by_cases q:s.cap=j
  .have a:y=dB ⟨b,0,eH⟩:=by rw[i,m6 q,h1]
   rw[a];have o:m=0:=n7
   refine av.bind ?_;rw[o];simp only[List.take_zero,List.flatMap_nil];exact av.pure' (av.pure' ⟨_,n5,E _ h (by rw[d o];exact w) (aQ.refl _ _)⟩)
  .have a:y=dB ⟨b,0+j*k,eH⟩:=by rw[i,nq q,h1];simp only[zn];rw[add_eq]
   rw[a];refine av.bind ?_;have H:l.flatMap f++rest=(l.take j).flatMap f++((l.drop j).take m).flatMap f++((l.drop (j+m)).flatMap f++rest):=by rw[<-ql,<-za,<-za,<-wm,ql (yp j l),qz,qz]
   rw[H]at h2;refine fo (e:=e) (pre:=(l.take j).flatMap f) (old:=((l.drop j).take m).flatMap f) (post:=(l.drop (j+m)).flatMap f++rest) h2 (by rw[dL D,dL D,qw,qw,qJ];congr 1;omega) (by rw[dL D,qw];rw[wW W];omega) ?_ ?_
   .intro c S;obtain⟨x,_,G⟩:=wZ.1 S;exact u x c G
   .refine av.pure' ⟨_,n5,E _ _ ⟨by rw[g,qo,qo,qw,qw,qJ];omega,.inr ⟨b,rest,h1,?_,h3,h4⟩⟩ (aQ.jJ h2 λV=>V ⟨0,h1⟩)⟩;rw[iE h2,m6 n5,za,za];simp[ql]
theorem aa.LL(u:C.Ok)(H:aa B h0 h As)(i:Nat)(g:As[i]?=dB (ai e s k f l))(D:bS C.toAg t e k z by_)(q:∀x,n4 (f x)=k)(A:Seq h p v k f l2)(a:∀x,∀c∈f x,c.oneCell'=eX)(j:Nat)(E:j<=n4 l){o:bJ}{m r:Nat}(d:o=if s.cap=j then s.ptr else s.ptr.map (·.add (j*k)))(b:m=s.len-j){K:Int->m5->Prop}
  (w:∀n h',aa B h0 h' (As.set i (ai e s k f (l.take j++(l2.take (n4 l-j)++l.drop (j+n4 l2)))))->K n h'):
  bF C.P (yN #[t,t2] ty #[.slice o m r,.slice v.ptr v.len v.cap]) (.one (.sc (.int .i64))) h K:=
 (H.own i g).LL u D q A a j E d b λn h' x y=>w n h' (H.nS i g y x)
end
def iH(s:ByteArray):aR:=s.data.toList
theorem tG(s:ByteArray):n4 (iH s)=s.size:=rfl
def adp(n:Nat):Obj->Obj
 | .cells c elem (lo,hi)=>.cells c elem (if lo==hi then(n,n+1)else(min lo n,max hi (n+1)))
 |o=>o
theorem av.TT{P:Program}{h:m5}{b n:Nat}{c:Array fY}{e:TypeId}{K:Unit->m5->Prop}(i:h[b]?=dB (.cells c e (0,0)))(k:n=c.size)(a:∀h',(∀x,x≠b->h'[x]?=h[x]?)->h'.size=h.size->(∃f,h'[b]?=dB (.cells c e f))->K () h'):
  av P (freeze {block:=b,off:=n} 1) h K:=λw d=>by
 refine⟨(),w.freeze {block:=b,off:=n} 1,run_freeze P w _ _,⟨n5,n5,n5,qj _⟩,?_⟩;subst d;have g:(w.freeze {block:=b,off:=n} 1).heap=w.heap.modify b (adp n):=rfl;refine a _ (λx j=>?_) ?_ ?_
 .grind
 .grind
 .rw[g,yf,m6 n5,i];exact⟨_,n5⟩
section
variable {C:Ctx} {B:au} {e ts:Nat}
theorem ZP(g:C.Ok)(u:∃i,C.T.get ts=dB i/\i.cm=.str)(D:∃i,C.T.get t=dB i/\i.cm=.slice e)(w:∃i,C.T.get e=dB i/\i.cm=.int .u8)(s:ByteArray){K:Sl->m5->Prop}(q:∀r h',Sp h h' [wd r 1 aq (iH s)]->K r h'):
  bF C.P (convert ts t (.string s)) (.one (.sc .slc)) h K:=by
 obtain⟨I,o,m⟩:=u;obtain⟨H,B,p⟩:=D;obtain⟨i3,a3,z⟩:=w;have A:C.P.underlying ts=dB .string:=by have:=g.cm o;rw[m]at this;exact sP this
 have y:C.P.underlying t=dB (.slice e):=by have:=g.cm B;rw[p]at this;exact il this
 have u3:C.P.underlying e=dB (.int .u8):=by have:=g.cm a3;rw[z]at this;exact DJ this
 refine av.bind (av.always (aK A) ?_);refine av.bind (av.always (aK y) ?_);refine av.bind (av.always (aK u3) ?_);refine av.bind (av.DI ⟨λv=>(by cases v),λ_ E=>?_⟩);generalize n:Question.cut (Question.appendCap s.size 0 e) E=cc;refine av.bind (av.bind (av.nP (av.pure' ?_)));obtain⟨cs,a⟩:∃cs:Array fY,cs=s.data.map (λb=>Value.int .u8 b.toNat)++Array.replicate (cc-s.size) (Value.int .u8 0):=⟨_,rfl⟩
 rw[<-a];refine av.bind (av.bind (av.aaI ?_));have j:shapeOf (h.push (.cells cs e)) h.size=dB (e,cs.size):=by unfold shapeOf;simp
 rw[j];refine av.TT (c:=cs) (e:=e) oo n5 λh' F l d=>?_;refine av.pure' ⟨⟨dB ⟨h.size,0,eH⟩,s.size,cc⟩,n5,q _ _ ?_⟩;obtain⟨f,d⟩:=d;refine .one ⟨by rw[l];simp,λb J _=>o4⟩ ?_;refine⟨n5,λi x k=>⟨h.size,0,n5,⟨qj _,by rw[l];simp⟩,?_,I6⟩⟩;rw[add_zero];have G:i<s.data.size:=by have:=(qn.1 k).1;simpa[iH]using this
 unfold hY;simp only[d,Nat.mul_one,w8,];rw[a,Array.getElem?_append_left o4,];have:s.data[i]?=dB x:=by rw[<-k];simp[iH]
 grind
end
section
variable {C:Ctx} {e:Nat} {B:au} {l:aR}
theorem Ke(u:C.Ok)(H:bS C.toAg t e 1 z by_)(R:∃i,C.T.get t2=dB i/\i.cm=.str)(hz:n4 z=1)(J:0<by_/\by_<=128)
  (w:Own h e s 1 aq l) (x:ByteArray) (W:n4 l+x.size<=2^32) {ty:Nat} {K:Sl->m5->Prop}
  (D:∀E h',Own h' e E 1 aq (l++iH x)->aQ (λb=>¬s.on b) h h'->(∀b,E.on b->s.on b∨h.size<=b)->K E h'):
  bF C.P (q6 #[t,t2] ty #[.slice s.ptr s.len s.cap,.string x]) (.one (.sc .slc)) h K:=by
 obtain⟨i2,Y,g2⟩:=R;have B:C.P.underlying t2=dB .string:=by have:=u.cm Y;rw[g2]at this;exact sP this
 obtain⟨F,v,x2,x3,zv,x4,Q⟩:=H.info u;have n:∀y∈(iH x).flatMap aq,y.oneCell'=eX:=λy U=>by
  obtain⟨b,_,hb⟩:=wZ.1 U;exact cB b y hb
 have g:((x.extract 0 x.size).data.map λb=>Value.int .u8 (b.toNat:Int))=((iH x).flatMap aq).toArray:=by
  have e0:x.extract 0 x.size=x:=by apply ByteArray.ext;simp[ByteArray.data_extract]
  rw[e0];apply vj;simp only[vZ,iH];exact List.map_eq_flatMap
 unfold bF q6;simp only[zT,wB,qU];refine av.bind (av.always (aK (H.under u)) ?_);refine av.bind (av.always (H.size u) ?_);refine av.bind (av.always (aK B) ?_);refine av.bind (av.pure' ?_);simp only[zc,if_false,wG,if_true];refine av.bind (av.pure' ?_);have m:=w.len;have r:∀y,n4 (aq y)=1:=λ_=>rfl;have j:=dL r l;have a:=dL r (iH x);have ab:=tG x;have q:∀{h:m5} {K:Array fY->m5->Prop},K ((iH x).flatMap aq).toArray h->av C.P (wI 1 x.size (.string x)) h K:=λ{h K} hK=>by
  unfold wI;dsimp only;rw[g];exact av.pure' hK
 by_cases f:s.len+x.size<=s.cap
 .rw[m6 f];refine av.bind (q ?_);rcases w.head with⟨p1,p2,p3⟩|⟨b,rest,p1,p2,p3,p4⟩
  .rw[p1];have L:iH x=[]:=qQ n7;refine av.pure' ⟨⟨eH,s.len+x.size,s.cap⟩,n5,D _ _ ⟨?_,.inl ⟨n5,p2,by simp[p3,L]⟩⟩ (aQ.refl _ _) ?_⟩
   .simp;omega
   .rintro M ⟨o,d⟩;cases d
  .rw[p1];refine av.bind ?_;rw[add_eq,w8];have G:n4 ((iH x).flatMap aq)<=n4 rest:=by rw[a,p3];omega
   refine fo (e:=e) (pre:=l.flatMap aq) (old:=rest.take ((iH x).flatMap aq).length) (post:=rest.drop ((iH x).flatMap aq).length) ?_ ?_ ?_ ?_ ?_
   .rw[ql,qz];exact p2
   .rw[qw];exact wW G
   .rw[j,m];omega
   .intro c O;exact n c E2
   .refine av.pure' ⟨⟨dB ⟨b,0,eH⟩,s.len+x.size,s.cap⟩,n5,D _ _ ⟨?_,.inr ⟨b,rest.drop ((iH x).flatMap aq).length,n5,?_,?_,f⟩⟩ ?_ ?_⟩
    .simp;omega
    .rw[iE p2,m6 rfl];simp
    .rw[qJ,p3,a];show(s.cap-s.len)*1-n4 (iH x)*1=(s.cap-(s.len+x.size))*1;omega
    .exact aQ.jJ p2 (λS=>S ⟨0,p1⟩)
    .rintro M ⟨o,d⟩;cases d;exact .inl ⟨0,p1⟩
 .rw[nq f];have k:Seq h (λ_=>True) s 1 aq l:=w.seq r λ_ _=>trivial;have N:=w.cap;refine av.bind (av.always (cA v) ?_);rw[nq λZ=>by rcases Z.2 with h|h<;>first|exact h|(rw[x3]at h;omega)];refine av.bind (av.always (cA v) ?_);have V:=If (s.len+x.size) s.cap;rw[nq (by
   have:yK (s.len+x.size) s.cap*F.bytes<=(16*2^32+16*768)*128:=zr n7 (by rw[x3];exact J.2);omega)]
  refine av.bind (av.DI ⟨λX=>(by cases X),λ_ nn=>?_⟩);refine av.bind (av.always (cA v) ?_);refine av.bind (av.AJ ?_);refine av.bind (eT r k ?_);refine av.bind (q ?_);have I:aL C.P (zeroValue e) zv:=(cA v).bind (by rw[x4];exact .pure);refine av.bind (av.always I ?_);rw[Q,tu];unfold newRow;refine av.bind (av.bind (av.nP (av.pure' (av.pure' ?_))));generalize A:Question.cut (Question.appendCap (s.len+x.size) s.cap e) nn=cc;have p:s.len+x.size<=cc:=by rw[<-A];simp only[Question.cut];omega
  refine⟨⟨dB ⟨h.size,0,eH⟩,s.len+x.size,cc⟩,n5,D _ _ ⟨?_,.inr ⟨h.size,iF z (cc-(s.len+x.size)),n5,?_,?_,p⟩⟩ (aQ.push _ _ _) ?_⟩
  .simp;omega
  .simp
  .rw[mu,hz]
  .rintro M ⟨o,d⟩;cases d;exact .inr (qj _)
theorem aa.Jh(r:C.Ok)(H:aa B h0 h As)(i:Nat)(y:As[i]?=dB (ai e s 1 aq l))(D:bS C.toAg t e 1 z by_)(u:∃i,C.T.get t2=dB i/\i.cm=.str)(F:n4 z=1)(m:0<by_/\by_<=128)
  (x:ByteArray) (g:n4 l+x.size<=2^32) {ty:Nat} {K:Sl->m5->Prop} (w:∀f h',aa B h0 h' (As.set i (ai e f 1 aq (l++iH x)))->K f h'):
  bF C.P (q6 #[t,t2] ty #[.slice s.ptr s.len s.cap,.string x]) (.one (.sc .slc)) h K:=by
 obtain⟨A,E,c,q,a⟩:=H;have n:=a i _ y;refine Ke r D u F m n.1 x g λf h' d k j=>w f h' ?_;refine aa.AQ A E q a (k.mono λb o v p=>v (n.2 b p)) ⟨d,λb o=>⟨d.lt o,?_⟩⟩;rcases j b o with h1|h1
 .exact .inl (n.2 b h1)
 .exact .inr h1
end
section
variable {C:Ctx} {e ts:Nat}
theorem EF:∀(l:aR) (b:ByteArray),l.foldl ByteArray.push b=⟨(b.data.toList++l).toArray⟩
 |[],b=>oo
 |x::l,b=>by
  rw[zN,EF l (b.push x)];simp
theorem PL(g:C.Ok)(I:∃i,C.T.get t=dB i/\i.cm=.slice e)(A:∃i,C.T.get ts=dB i/\i.cm=.str)(B:∃i,C.T.get e=dB i/\i.cm=.int .u8){s:Sl}{l:aR}{p:au}(u:Seq h p s 1 aq l){K:ByteArray->m5->Prop}(q:K ⟨l.toArray⟩ h):
  bF C.P (convert t ts (.slice s.ptr s.len s.cap)) (.one (.sc .str)) h K:=by
 obtain⟨M,y,w⟩:=A;obtain⟨L,H,z⟩:=I;obtain⟨i3,a3,F⟩:=B;have G:C.P.underlying ts=dB .string:=by have:=g.cm y;rw[w]at this;exact sP this
 have E:C.P.underlying t=dB (.slice e):=by have:=g.cm H;rw[z]at this;exact il this
 have u3:C.P.underlying e=dB (.int .u8):=by have:=g.cm a3;rw[F]at this;exact DJ this
 refine av.bind (av.always (aK E) ?_);refine av.bind (av.always (aK G) ?_);refine av.bind (av.always (aK u3) ?_);have D:=eT (P:=C.P) (f:=aq) (k:=1) (K:=λcs h'=>cs=(l.flatMap aq).toArray/\h'=h) (λ_=>rfl) u ⟨n5,n5⟩;cases hp:s.ptr with
 |none=>
  have:l=[]:=by
   cases l with
   |nil=>rfl
   |cons x r=>obtain⟨b,o,N,_⟩:=u.elem 0 x (rfl);grind
  subst this;exact av.pure' ⟨⟨#[]⟩,n5,q⟩
 |some a=>
  have d:av C.P (loadCells a s.len) h λcs h'=>cs=(l.flatMap aq).toArray/\h'=h:=by
   have:wI 1 s.len (.slice (dB a) s.len s.cap)=loadCells a s.len:=by unfold wI;simp
   grind
  refine av.bind (d.mono ?_);rintro _ _ ⟨rfl,rfl⟩;have j:∀(l:aR) (b:ByteArray),aL C.P (forIn (m:=Sem) (l.flatMap aq) b λc r=>match c with
    |xH xO n=>do pure (ForInStep.yield (r.push (zI n.toNat)))
    |_=>do let r<-stuck "bytesToString: byte expected";pure r) (l.foldl ByteArray.push b):=λl=>by
   induction l with
   |nil=>intro b;exact .pure
   |cons x l ih=>
    intro b;have J:(x::l).flatMap aq=Value.int .u8 x.toNat::l.flatMap aq:=rfl;have e2:b.push (zI ((x.toNat:Int)).toNat)=b.push x:=oo
    grind
  refine av.bind (av.always (v:=l.foldl ByteArray.push ByteArray.empty) ?_ ?_)
  .rw[List.forIn_toArray];exact j l _
  .refine av.pure' ⟨_,n5,?_⟩;rw[EF];exact q
end
theorem Gx{P:Program}{id:FuncId}(H:∀(g off cap:Nat) (i:aC) (w:World),Sort.Holds (Value.int .i64) w g off i.toArray->n4 i<=9223372036854775807->n4 i<=cap->
   Calls P id #[.slice (dB ⟨g,off,eH⟩) i.length cap] w λe r=>e=.returned (.slice (dB ⟨g,off,eH⟩) (Lib.compact i).length cap)/\∃q,r=Sort.putRow (Value.int .i64) (Sort.ahead w q) g off (Lib.compact i++qh (n4 i-n4 (Lib.compact i)) 0).toArray)
  (D:∀(a:bJ) (cap:Nat) (w:World),Calls P id #[.slice a 0 cap] w λe r=>e=.returned (.slice a 0 cap)/\r=w)
  {e:TypeId} {s:Sl} {l:aC} {h:m5} (B:Own h e s 1 ar l) (G:n4 l<2^40):
  ak P id #[.slice s.ptr s.len s.cap] h λv h'=>v=.slice s.ptr (Lib.compact l).length s.cap/\Own h' e ⟨s.ptr,n4 (Lib.compact l),s.cap⟩ 1 ar (Lib.compact l)/\aQ (λb=>¬s.on b) h h':=by
 intro w t;have d:=B.len;rcases B.head with⟨h1,h2,h3⟩|⟨b,rest,h1,h2,h3,h4⟩
 .subst h3;have z:Lib.compact ([]:aC)=[]:=rfl;rw[d,h1];refine(D eH s.cap w).mono ?_;rintro E r ⟨rfl,rfl⟩;refine⟨_,n5,dj.refl _,by rw[z];rfl,by rw[z];exact⟨n5,.inl ⟨n5,by simpa using h2,n5⟩⟩,by rw[<-t];exact aQ.refl _ _⟩
 .rw[h1,d];have y:w.heap[b]?=dB (.cells (l.flatMap ar++rest).toArray e (0,0)):=by rw[t];exact h2
  refine(H b 0 s.cap l w (Jg y) n7 n7).mono ?_;rintro E r ⟨rfl,n,rfl⟩;have p:=lt_of_block y;have F:=Lib.compact_length_le l;obtain⟨j,m⟩:=I5 (Lib.compact l++qh (n4 l-n4 (Lib.compact l)) 0)
  rw[<-m];have o:n4 j=n4 l:=by rw[m];simp;omega
  have f:∀k,k<h.size->(Sort.putRow (Value.int .i64) (Sort.ahead w n) b 0 j.toArray).heap[k]?=if b=k then dB (.cells (j.flatMap ar++rest).toArray e (0,0))else h[k]?:=by
   intro k A;simp only[Sort.putRow,Sort.mapBlock,Sort.ahead,yf];by_cases c:b=k
   .subst c;rw[m6 n5,m6 n5,y,zn,Sort.onCells,LJ _ _ _ o]
   .rw[nq c,nq c,t]
  rw[t]at p;have u:Own (Sort.putRow (Value.int .i64) (Sort.ahead w n) b 0 j.toArray).heap e s 1 ar j:=⟨by rw[o];exact d,.inr ⟨b,rest,h1,by rw[f b p,m6 rfl],h3,h4⟩⟩
  have x:=u.cut (λ_=>rfl) (Lib.compact l).length n7;rw[m,List.take_left]at x;refine⟨_,n5,⟨n5,n5,n5,oo⟩,n5,o4,o4,?_⟩;intro k A I;rw[f k A,nq λc=>I ⟨0,by rw[h1,c]⟩]
theorem tH(a:aC)(q:a.Pairwise (·<=·)):∀m,m<=n4 a->(Lib.compactUpTo a.toArray m).Pairwise (·<·)/\(∀x,x∈Lib.compactUpTo a.toArray m↔∃j,j<m/\a[j]?=dB x)
 |0,_=>⟨by simp[Lib.compactUpTo],λx=>by simp[Lib.compactUpTo]⟩
 |m+1,hm=>by
  obtain⟨v,u⟩:=tH a q m n7;have c:m<n4 a:=n7
  have t:a.toArray[m]! =a[m]:=B9
  rw[Lib.compactUpTo_succ,t];have r:∀j (k:j<m),a[j]'n7<=a[m]:=λj k=>zb.1 q j m n7 c k;by_cases h:Lib.keeps a.toArray m=eX
  .rw[m6 h];have s:m=0∨a[m-1]'n7<a[m]:=by
    by_cases i:m=0
    .exact .inl i
    .right;have f:a.toArray[m-1]! =a[m-1]'n7:=by simp[show m-1<n4 a by omega]
     have z:a[m]≠a[m-1]'n7:=λn=>by
      have:=Lib.keeps_neg (d:=a.toArray) (m:=m) n7 (by rw[t,f];exact n);rw[this]at h;cases h
     have:=r (m-1) n7;omega
   have l:∀x∈Lib.compactUpTo a.toArray m,x<a[m]:=λx o=>by
    obtain⟨j,k,b⟩:=(u x).1 o;rw[qd n7]at b;injection b with b
    rcases s with h0|h0
    .omega
    .have h3:a[j]'n7<=a[m-1]'n7:=by
      by_cases g:j=m-1
      .subst g;exact Int.le_refl _
      .exact zb.1 q j (m-1) n7 n7 n7
     omega
   refine⟨zA.2 ⟨v,oo,λx o y w=>?_⟩,λx=>?_⟩
   .rw[qB.1 w];exact l x o
   grind
  .rw[nq h,List.append_nil];have i:m≠0:=λh0=>h (by subst h0;exact Lib.keeps_lt_one _ 0 n7);have p:a[m]=a[m-1]'n7:=by
    by_cases n:a[m]=a[m-1]'n7
    .exact n
    .have f:a.toArray[m-1]! =a[m-1]'n7:=by simp[show m-1<n4 a by omega]
     exact absurd (Lib.keeps_pos (d:=a.toArray) (m:=m) (by rw[t,f];exact n)) h
   refine⟨v,λx=>?_⟩;rw[u];constructor
   .rintro⟨j,k,e⟩;exact⟨j,n7,e⟩
   .rintro⟨j,k,e⟩;by_cases g:j=m
    .subst g;refine⟨j-1,n7,?_⟩;rw[qd c]at e;rw[qd n7,<-p];exact e
    .exact⟨j,n7,e⟩
theorem LM(l:aC):(mg l).Pairwise (·<=·):=by have:=wC (le:=λx y:Int=>decide (x<=y)) (by intro a b c d e;simp at d e⊢;omega) (by intro a b;simp;omega) l;exact this.imp λh=>sR
theorem Rn(l:aC)(h:∀x∈l,0<=x/\x<64):Lib.compact (mg l)=gq l:=by
 obtain⟨d,c⟩:=tH (mg l) (LM l) (mg l).length (qj _);have k:∀x,x∈Lib.compact (mg l)↔x∈l:=λx=>by
  unfold Lib.compact;rw[c,<-Jc l x,List.mem_iff_getElem?];constructor
  .rintro⟨j,_,e⟩;exact⟨j,e⟩
  .rintro⟨j,e⟩;exact⟨j,(qn.1 e).1,e⟩
 have i:(gq l).Pairwise (·<·):=by unfold gq;refine List.Pairwise.filter _ ?_;rw[List.pairwise_map];exact List.pairwise_lt_range.imp λh=>n7
 have f:∀x,x∈gq l↔x∈l:=λx=>by
  unfold gq;rw[qK,qI];constructor
  .rintro⟨_,c⟩;simpa using c
  .intro g;obtain⟨a,b⟩:=h x g;exact⟨⟨x.toNat,qY.2 n7,n7⟩,Cw⟩
 have m:(Lib.compact (mg l)).Perm (gq l):=(List.perm_ext_iff_of_nodup (d.imp λh=>n7) (i.imp λh=>n7)).2 λx=>(k x).trans (f x).symm;exact m.eq_of_pairwise (le:=(·<·)) (λa b _ _ d c=>n7) d i
section
variable {B:au} {C:Ctx} {e:Nat}
theorem BH(z:aS)(n:Nat):(yo z.toArray n).toList.length=n*n4 z:=by simp[yo]
theorem Kf{z:aS}(c:∀v∈z,v.oneCell'=eX)(n:Nat):∀v∈(yo z.toArray n).toList,v.oneCell'=eX:=by
 intro v a;simp only[yo,vZ,qI,]at a;obtain⟨i,d,rfl⟩:=a;have h0:0<n4 z:=o4
 have b:=vk i h0
 grind
theorem Own.nY(w:C.Ok)(n:Own h e s k f l)(y:bS C.toAg t e k z by_)(g:∀x,n4 (f x)=k)(B:n4 z=k)(d:∀v∈z,v.oneCell'=eX)(j:Nat)(A:j<=n4 l){ty:Nat}{K:m5->Prop}
  (i:∀h',Own h' e ⟨s.ptr,j,s.cap⟩ k f (l.take j)->aQ (λb=>¬s.on b) h h'->K h'):
  av C.P (vM #[t] ty #[.slice (if s.cap=j then s.ptr else s.ptr.map (·.add (j*k))) (s.len-j) (s.cap-j)]) h λ_ h'=>K h':=by
 have N:=n.len;have c:=n.cut g j A;unfold vM;refine av.bind (av.always (aK (y.under w)) ?_);by_cases u:j=n4 l
 .have I:s.len-j=0:=n7
  rw[I];generalize (if s.cap=j then s.ptr else s.ptr.map (·.add (j*k)))=q;cases q with
  |none=>exact av.pure' (i h c (aQ.refl _ _))
  |some a=>exact av.pure' (i h c (aQ.refl _ _))
 .rcases n.head with⟨h1,h2,h3⟩|⟨b,rest,h1,h2,h3,h4⟩
  .subst h3;simp at A u;omega
  .have p:s.cap≠j:=n7
   rw[nq p,h1];obtain⟨m,J⟩:∃m,s.len-j=m+1:=⟨s.len-j-1,n7⟩
   rw[J];obtain⟨R,O,S,T,D,Q,F,U⟩:=y.ex;obtain⟨L,M,E⟩:=pU w.toOk D;refine av.bind (av.always M ?_);have o:L.cells=z.toArray:=by apply vj;rw[E,F]
   rw[o];refine av.bind ?_;have G:((⟨b,0,eH⟩:hU).add (j*k))=⟨b,j*k,eH⟩:=by simp[add_eq]
   show av C.P (storeCells ((⟨b,0,eH⟩:hU).add (j*k)) (yo z.toArray (m+1)).toList) h _;rw[G];have r:n4 (l.drop j)=m+1:=oi
   refine fo (e:=e) (pre:=(l.take j).flatMap f) (old:=(l.drop j).flatMap f) (post:=rest) ?_ ?_ ?_ (Kf d _) ?_
   .rw[<-za,qz];exact h2
   .rw[dL g,r,BH,B]
   .rw[dL g,qw,wW n7];omega
   .refine av.pure' (i _ ⟨oi,.inr ⟨b,(yo z.toArray (m+1)).toList++rest,h1,?_,?_,n9⟩⟩ ?_)
    .rw[iE h2,m6 rfl];simp
    .rw[qo,BH,B,h3,<-Nat.add_mul];dsimp only;congr 1;omega
    .exact aQ.jJ h2 λH=>H ⟨0,h1⟩
theorem aa.nY(o:C.Ok)(H:aa B h0 h As)(i:Nat)(g:As[i]?=dB (ai e s k f l))(r:bS C.toAg t e k z by_)(n:∀x,n4 (f x)=k)(w:n4 z=k)(a:∀v∈z,v.oneCell'=eX)(j:Nat)(u:j<=n4 l){ty:Nat}{K:m5->Prop}
  (p:∀h',aa B h0 h' (As.set i (ai e ⟨s.ptr,j,s.cap⟩ k f (l.take j)))->K h'):
  av C.P (vM #[t] ty #[.slice (if s.cap=j then s.ptr else s.ptr.map (·.add (j*k))) (s.len-j) (s.cap-j)]) h λ_ h'=>K h':=
 (H.own i g).nY o r n w a j u λh' x y=>p h' (H.step i g λq m _=>⟨y.mono λb _ c d=>c (m.2 b d),x,λb c=>⟨x.lt c,.inl (m.2 b c)⟩⟩)
end
theorem KR:∀x y:aR,(Op.bytesLess x y||x==y)=!Op.bytesLess y x
 |[],[]=>rfl
 |[],_::_=>rfl
 |_::_,[]=>rfl
 |a::x,b::y=>by
  have f:=KR x y;have d:a<b∨a=b∨b<a:=o4
  rcases d with h|rfl|h
  .have c:¬b<a:=λh'=>o4
   have e:b≠a:=λh'=>o4
   simp[Op.bytesLess,h,c,e]
  .simp only[Op.bytesLess,]
   grind
  .have c:¬a<b:=λh'=>o4
   have e:a≠b:=λh'=>o4
   simp[Op.bytesLess,h,c,e]
theorem DW:∀x y z:aR,Op.bytesLess x y=eX->Op.bytesLess y z=eX->Op.bytesLess x z=eX
 |x,[],_,h1,_=>by cases x<;>simp[Op.bytesLess]at h1
 |_,b::y,[],_,h2=>by simp[Op.bytesLess]at h2
 |[],_::_,_::_,_,_=>rfl
 |a::x,b::y,c::z,h1,h2=>by
  simp only[Op.bytesLess,yu,qC,beq_iff_eq]at h1 h2⊢;rcases h1 with h1|⟨rfl,h1⟩
  .grind
  .rcases h2 with h2|⟨rfl,h2⟩
   .grind
   .exact .inr ⟨n5,DW x y z h1 h2⟩
theorem TU(x:aR):Op.bytesLess x x=eY:=by
 have:=KR x x
 grind
def iS(a b:ByteArray):Bool:=!cQ b a
theorem Gy(a b:ByteArray):iS a b=eX↔cQ a b=eX∨a.toList=b.toList:=by unfold iS cQ;rw[<-KR,yu,beq_iff_eq]
theorem Cy(a b c:ByteArray)(d:iS a b=eX)(e:iS b c=eX):iS a c=eX:=by
 rw[Gy]at d e⊢;unfold cQ at*;rcases d with d|d
 .rcases e with e|e
  .exact .inl (DW _ _ _ d e)
  grind
 grind
theorem Cz(a b:ByteArray):(iS a b||iS b a)=eX:=by
 unfold iS;cases h:cQ b a with
 |false=>rfl
 |true=>
  have:cQ a b=eY:=by
   cases h2:cQ a b with
   |false=>rfl
   |true=>
    have:=DW _ _ _ h h2;rw[TU]at this;grind
  grind
def mP(a b:cT):Bool:=iS a.name b.name
def nC(m:aB)(x:cT):aB:={m with seq:=m.seq+1,next:=m.next+1,objs:=(m.objs++[x]).mergeSort mP}
section
open Classical
theorem mz(a:UInt8):a^^^a=0:=UInt8.xor_self
theorem Am(a b:UInt8):(a^^^b)^^^b=a:=by rw[UInt8.xor_assoc,mz,z7]
theorem cU{c:UInt8}{a t:Row}(h:n4 a=n4 t)(j:Nat):aM (cH c a t) j=aM t j^^^Gf.mul c (aM a j):=by
 simp only[aM,cH,qg,wQ];by_cases b:j<n4 a
 .rw[qd b,qd n7];rfl
 .rw[zf n7,zf n7];simp[Gf.mul_zero]
theorem rz(c:UInt8)(a:Row)(j:Nat):aM (scaleB c a) j=Gf.mul c (aM a j):=by
 simp only[aM,scaleB,qg,qM];cases a[j]? with
 |none=>simp[Gf.mul_zero]
 |some x=>rfl
def aN(n:Nat):Row:=qh n 0
theorem cF(n j:Nat):aM (aN n) j=0:=by simp only[aM,aN,qg,List.getElem?_replicate];split<;>rfl
theorem gr{n:Nat}{a b:Row}(e:n4 a=n)(f:n4 b=n)(h:∀j,j<n->aM a j=aM b j):a=b:=by apply zX n7;intro j c d;have:=h j n7;simpa[aM,qg,qd c,qd d]using this
inductive Span (n:Nat) (m:aO):Row->Prop
 |zero:Span n m (aN n)
 |add (c:UInt8) (r v:Row):r∈m->Span n m v->Span n m (cH c r v)
section
variable {n:Nat} {m m':aO}
theorem Span.len(a:aU n m){v:Row}(h:Span n m v):n4 v=n:=by
 induction h with
 |zero=>simp[aN]
 |add c r v hr _ ih=>rw[cl (by rw[a r hr,ih])];exact ih
theorem Span.comb(a:aU n m){u v:Row}(e:Span n m u)(b:Span n m v)(c:UInt8):Span n m (cH c u v):=by
 induction e with
 |zero=>
  have:cH c (aN n) v=v:=gr (n:=n) (by rw[cl (by simp[aN,b.len a])];exact b.len a) (b.len a) λj _=>by
   rw[cU (by simp[aN,b.len a]),cF,Gf.mul_zero,z7]
  rw[this];exact b
 |add d r w hr hw ih=>
  have l1:=b.len a;have l2:=hw.len a;have f:=a r hr;have:cH c (cH d r w) v=cH (Gf.mul c d) r (cH c w v):=gr (n:=n) (by rw[cl (by rw[cl n7];omega)];exact l1) (by rw[cl (by rw[cl n7];omega),cl n7];exact l1) λj _=>by
   rw[cU (by rw[cl n7];omega),cU n7,cU (by rw[cl n7];omega),cU n7,Gf.jC,Gf.mul_assoc]
   ac_rfl
  rw[this];exact .add _ _ _ hr ih
theorem Span.row(b:aU n m){r:Row}(a:r∈m):Span n m r:=by
 have:=Span.add 1 r _ a (.zero (n:=n) (m:=m));have e:cH 1 r (aN n)=r:=gr (n:=n) (by rw[cl (by simp[aN,b r a])];simp[aN]) (b r a) λj _=>by
  rw[cU (by simp[aN,b r a]),cF,Gf.one_mul,wo]
 rwa [e]at this
theorem Span.sub(b:aU n m)(h:∀r∈m',Span n m r){v:Row}(a:Span n m' v):Span n m v:=by
 induction a with
 |zero=>exact .zero
 |add c r v hr _ ih=>exact(h r hr).comb b ih c
theorem Span.mono(h:∀r∈m',r∈m){v:Row}(a:Span n m' v):Span n m v:=by
 induction a with
 |zero=>exact .zero
 |add c r v hr _ ih=>exact .add c r v (h r hr) ih
theorem Span.YU(d:aU n m)(φ:Row->UInt8)(e:φ (aN n)=0)(f:∀c a t,n4 a=n->n4 t=n->φ (cH c a t)=φ t^^^Gf.mul c (φ a))(g:∀r∈m,φ r=0){v:Row}(b:Span n m v):φ v=0:=by
 induction b with
 |zero=>exact e
 |add c r v hr' b ih=>rw[f c r v (d r hr') (b.len d),ih,g r hr',Gf.mul_zero,z7]
end
def wn(S:Row->Prop)(j:Nat):Prop:=∃v,S v/\(∀i,i<j->aM v i=0)/\aM v j≠0
noncomputable def leads(S:Row->Prop)(n:Nat):Nat:=(qy n).countP λj=>decide (wn S j)
structure Way (n:Nat) (m:aO) (c top:Nat) (rows:aO):Prop where
 even:aU n rows
 len:n4 rows=n4 m
 tle:top<=n4 rows
 span:∀v,Span n rows v↔Span n m v
 cnt:top=leads (Span n m) c
 piv:∃p:Nat->Nat,(∀i,i<top->p i<c)/\(∀i,i<top->∀k,k<n4 rows->aM (aA rows k) (p i)=if k=i then 1 else 0)/\(∀i,i<top->∀j,j<p i->aM (aA rows i) j=0)/\(∀i j,i<j->j<top->p i<p j)
 low:∀k,top<=k->k<n4 rows->∀j,j<c->aM (aA rows k) j=0
theorem mem_row{m:aO}{i:Nat}(h:i<n4 m:=by omega):aA m i∈m:=by rw[bf h];exact qe h
theorem fT{m:aO}{r:Row}(h:r∈m):∃i,i<n4 m/\r=aA m i:=by obtain⟨i,a,rfl⟩:=qE h;exact⟨i,a,(bf a).symm⟩
theorem kY{m:aO}{i j:Nat}{r:Row}(a:i<n4 m:=by omega):aA (m.set i r) j=if i=j then r else aA m j:=by
 simp only[aA,qg,qW];by_cases h:i=j
 .subst h;simp[a]
 .simp[h]
theorem tI{m:aO}{i j k:Nat}(d:i<n4 m)(c:j<n4 m):aA (fH m i j) k=if k=j then aA m i else if k=i then aA m j else aA m k:=by
 rw[fH,kY D7,kY d];by_cases a:j=k
 .rw[m6 a,m6 a.symm]
 .rw[nq a,nq (show¬k=j fromλh=>a h.symm)];by_cases b:i=k
  .rw[m6 b,m6 b.symm]
  .rw[nq b,nq (show¬k=i fromλh=>b h.symm)]
theorem AX{m:aO}{t c k:Nat}(a:t<n4 m):aA (fS t c m) k=if t=k then scaleB (Gf.inv (aM (aA m t) c)) (aA m t)else aA m k:=by rw[fS,kY a]
section
variable {n:Nat} {m:aO}
theorem TV(l:aU n m){i j:Nat}(b:i<n4 m)(a:j<n4 m)(v:Row):Span n (fH m i j) v↔Span n m v:=by
 refine⟨Span.mono λr f=>?_,Span.mono λr f=>?_⟩
 .obtain⟨k,c,rfl⟩:=fT f;rw[iR]at c;rw[tI b a];split
  .exact mem_row b
  .split
   .exact mem_row a
   .exact mem_row c
 .obtain⟨k,c,rfl⟩:=fT f;have e:∀x,x<n4 m->aA (fH m i j) x∈fH m i j:=λx h=>mem_row (by rw[iR];exact h);by_cases d:k=i
  .subst d;have:=e j a;rw[tI b a,m6 rfl]at this;exact this
  .by_cases g:k=j
   .subst g;have:=e i b;rw[tI b a]at this;by_cases h3:i=k
    .exact absurd h3.symm d
    .rw[nq h3,m6 rfl]at this;exact this
   .have:=e k c;rw[tI b a,nq g,nq d]at this;exact this
theorem TW(h:aU n m){t c:Nat}(d:t<n4 m)(i:aM (aA m t) c≠0)(v:Row):Span n (fS t c m) v↔Span n m v:=by
 have b:=my h (c:=c) d;have g:=bX h d;have s:∀(x:UInt8) (r:Row),n4 r=n->scaleB x r=cH x r (aN n):=λx r a=>gr (n:=n) (by rw[ry,a]) (by rw[cl (by simp[aN,a])];simp[aN]) λj _=>by
  rw[rz,cU (by simp[aN,a]),cF,wo]
 refine⟨Span.sub h λr a=>?_,Span.sub b λr a=>?_⟩
 .obtain⟨k,f,rfl⟩:=fT a;rw[kJ]at f;rw[AX d];split
  .rw[s _ _ g];exact .add _ _ _ (mem_row d) .zero
  .exact Span.row h (mem_row f)
 .obtain⟨k,f,rfl⟩:=fT a;have e:∀x,x<n4 m->Span n (fS t c m) (aA (fS t c m) x):=λx p=>Span.row b (mem_row (by rw[kJ];exact p));by_cases o:t=k
  .subst o;have:=e t d;rw[AX d,m6 rfl]at this;have l:=this.comb b .zero (aM (aA m t) c);have q:cH (aM (aA m t) c) (scaleB (Gf.inv (aM (aA m t) c)) (aA m t)) (aN n)=aA m t:=gr (n:=n) (by rw[cl (by simp[aN,ry,g])];simp[aN]) g λj _=>by
    rw[cU (by simp[aN,ry,g]),cF,wo,rz,<-Gf.mul_assoc,Gf.Aj i,Gf.one_mul]
   rw[q]at l;exact l
  .have:=e k f;rw[AX d,nq o]at this;exact this
theorem TX(d:aU n m){t c:Nat}(g:t<n4 m)(v:Row):Span n (bO t c m m.length) v↔Span n m v:=by
 have b:=uD d (c:=c) (k:=n4 m) g;have s:=bX d g;refine⟨Span.sub d λr h=>?_,Span.sub b λr h=>?_⟩
 .obtain⟨k,a,rfl⟩:=fT h;rw[kK]at a;rw[jd a];split
  .exact .add _ _ _ (mem_row g) (Span.row d (mem_row a))
  .exact Span.row d (mem_row a)
 .obtain⟨k,a,rfl⟩:=fT h;have e:∀x,x<n4 m->Span n (bO t c m m.length) (aA (bO t c m m.length) x):=λx p=>Span.row b (mem_row (by rw[kK];exact p));have i:=e t g;rw[jd g,nq oo]at i;by_cases o:k=t
  .subst o;exact i
  .have l:=e k a;rw[jd a,m6 ⟨a,o⟩]at l;have h3:=i.comb b l (aM (aA m k) c);have f:=bX d a;have q:cH (aM (aA m k) c) (aA m t) (cH (aM (aA m k) c) (aA m t) (aA m k))=aA m k:=gr (n:=n) (by rw[cl (by rw[cl n7];omega),cl n7];exact f) f λj _=>by
    rw[cU (by rw[cl n7];omega),cU n7,Am]
   rw[q]at h3;exact h3
def bW(f g:Nat->UInt8):Nat->UInt8
 |0=>0
 |k+1=>bW f g k^^^Gf.mul (f k) (g k)
theorem ge(f g:Nat->UInt8):∀k,(∀i,i<k->f i=0)->bW f g k=0
 |0,_=>rfl
 |k+1,h=>by rw[bW,ge f g k λi a=>h i n7,h k n7,Gf.zero_mul];rfl
theorem DX(f g:Nat->UInt8)(x:Nat):∀k,x<k->(∀i,i<k->f i=if x=i then 1 else 0)->bW f g k=g x
 |0,hx,_=>n7
 |k+1,hx,h=>by
  rw[bW];by_cases a:x=k
  .subst a;rw[ge f g x λi b=>by rw[h i n7,nq n7],h x n7,m6 n5,Gf.one_mul,wo]
  .rw[DX f g x k n7 λi b=>h i n7,h k n7,nq a,Gf.zero_mul,z7]
theorem DY(b a g:Nat->UInt8)(c:UInt8):∀k,bW (λi=>b i^^^Gf.mul c (a i)) g k=bW b g k^^^Gf.mul c (bW a g k)
 |0=>by simp[bW,Gf.mul_zero]
 |k+1=>by
  rw[bW,bW,bW,DY b a g c k,Gf.jC,Gf.PE,Gf.mul_assoc]
  ac_rfl
theorem Gz(S:Row->Prop)(c:Nat):leads S (c+1)=leads S c+if wn S c then 1 else 0:=by simp only[leads,zC,List.countP_append,vq,List.countP_nil];by_cases h:wn S c<;>simp[h]
theorem TY(b:aU n m):Way n m 0 0 m:=⟨b,n5,n7,λ_=>Iff.rfl,by simp[leads],⟨λ_=>0,λi a=>n7,λi a=>n7,λi a=>n7,λi j _ c=>n7⟩,λk _ _ j c=>n7⟩
theorem WV(hm:aU n m){c b:Nat}{rows:aO}(w:Way n m c b rows)(hc:c<n):Way n m (c+1) (fI (b,rows) c).1 (fI (b,rows) c).2:=by
 obtain⟨H,T,ah,U,L,⟨p,Q,p2,p3,p4⟩,g⟩:=w;have hS:∀v,Span n rows v↔Span n m v:=U;have Z:Span n rows=Span n m:=funext λv=>propext (hS v);unfold fI;dsimp only;cases hb:fp rows b c with
 |none=>
  have X:=NT hb;dsimp only;have ab:¬wn (Span n m) c:=by
   rw[<-Z];rintro⟨v,hv,hz,ad⟩;apply ad;have hφ:=Span.YU H (λv=>aM v c^^^bW (λi=>aM v (p i)) (λi=>aM (aA rows i) c) b) (by
     simp only[cF];rw[ge _ _ _ λi _=>rfl];rfl) (λx a t ha ht=>by
     simp only[cU (show a.length=n4 t by omega)];rw[DY,Gf.jC];ac_rfl) (λr hr=>by
     obtain⟨k,F,rfl⟩:=fT hr;by_cases N:k<b
     .rw[DX _ _ k b N λi E=>by rw[p2 i E k F]];exact mz _
     .rw[X k n7 F,ge _ _ _ λi E=>by rw[p2 i E k F,nq n7]];rfl) hv
   rw[ge _ _ _ λi E=>hz _ (Q i E),z7]at hφ;exact hφ
  refine⟨H,T,ah,U,by rw[Gz,nq ab,L];rfl,⟨p,λi E=>by have:=Q i E;omega,p2,p3,p4⟩,λk z B j d=>?_⟩;rcases q8.1 d with h|rfl
  .exact g k z B j h
  .exact X k z B
 |some at_=>
  have hh:=kI hb;obtain⟨h1,W,h3⟩:=hh;dsimp only;have o:b<n4 rows:=n7
  obtain⟨f,y⟩:=I5 (fH rows b at_)
  have l1:n4 f=n4 rows:=by rw[y,iR]
  have S:aU n f:=by rw[y];exact nW H o W
  have q1:∀k,aA f k=if k=at_ then aA rows b else if k=b then aA rows at_ else aA rows k:=λk=>by rw[y,tI o W]
  have R:aA f b=aA rows at_:=by
   rw[q1];by_cases h:b=at_
   .rw[m6 h,h]
   .rw[nq h,m6 rfl]
  have I:aM (aA f b) c≠0:=by rw[R];exact h3
  obtain⟨s,A⟩:=I5 (fS b c f)
  have l2:n4 s=n4 rows:=by rw[A,kJ,l1]
  have D:aU n s:=by rw[A];exact my S n7
  have q2:∀k,aA s k=if b=k then scaleB (Gf.inv (aM (aA f b) c)) (aA f b)else aA f k:=λk=>by rw[A,AX n7]
  have al:∀j,aM (aA f b) j=0->aM (aA s b) j=0:=λj d=>by rw[q2,m6 n5,rz,d,Gf.mul_zero]
  have l:aM (aA s b) c=1:=by rw[q2,m6 n5,rz,Gf.mul_comm,Gf.Aj I]
  obtain⟨M,q⟩:=I5 (bO b c s rows.length)
  have l3:n4 M=n4 rows:=by rw[q,kK,l2]
  have q3:∀k,k<n4 rows->∀j,aM (aA M k) j=if k=b then aM (aA s b) j else aM (aA f k) j^^^Gf.mul (aM (aA f k) c) (aM (aA s b) j):=λk F j=>by
   rw[q,jd];by_cases h:k=b
   .rw[nq n7,m6 h,h]
   .have e:=q2 k;rw[nq λhh=>h hh.symm]at e;rw[m6 ⟨F,h⟩,nq h,cU (by rw[bX D,bX D]),e]
  have Y:∀j,j<c->aM (aA s b) j=0:=λj d=>al j (by rw[R];exact g at_ h1 W j d);have keep:∀k,k<n4 rows->∀j,j<c->aM (aA M k) j=if k=b then 0 else aM (aA f k) j:=λk F j d=>by
   rw[q3 k F,Y j d,Gf.mul_zero,z7]
  have J:∀k,k<b->aA f k=aA rows k:=λk F=>by rw[q1,nq n7,nq n7]
  have K:∀k,b<=k->k<n4 rows->∀j,j<c->aM (aA f k) j=0:=λk z B j d=>by
   rw[q1];split
   .exact g b (qj _) o j d
   .split
    .exact g at_ h1 W j d
    .exact g k z B j d
  have u:∀v,Span n M v↔Span n m v:=λv=>by
   rw[q,show rows.length=n4 s by omega,TX D n7,A,TW S n7 I,y,TV H o W,hS]
  have O:wn (Span n m) c:=⟨aA M b,(u _).1 (Span.row (by rw[q];exact uD D n7) (mem_row)),λj d=>by rw[keep b o j d,m6 rfl],by rw[q3 b o,m6 n5,l];decide⟩
  have V:bO b c (fS b c (fH rows b at_)) rows.length=M:=by rw[q,A,y]
  rw[V];refine⟨by rw[q];exact uD D n7,n7,n7,u,by rw[Gz,m6 O,L],⟨λi=>if i<b then p i else c,λi E=>?_,λi E k F=>?_,λi E j d=>?_,λi j am d=>?_⟩,λk z B j d=>?_⟩
  .dsimp only;split
   .have:=Q i u7;omega
   .omega
  .dsimp only;by_cases hit:i<b
   .rw[m6 hit,keep k n7 _ (Q i hit)];by_cases N:k<b
    .rw[nq n7,J k N];exact p2 i hit k n7
    .rw[nq (show¬k=i by omega)];split
     .rfl
     .exact K k n7 n7 _ (Q i hit)
   .have P:i=b:=n7
    subst P;rw[nq hit,q3 k n7];by_cases G:k=i
    .rw[m6 G,m6 G];exact l
    .rw[nq G,nq G,l,Gf.mul_one];exact mz _
  .dsimp only at d;by_cases hit:i<b
   .rw[m6 hit]at d;have:=Q i hit;rw[keep i n7 j n7,nq n7,J i hit];exact p3 i hit j d
   .have P:i=b:=n7
    subst P;rw[nq hit]at d;rw[keep i n7 j d,m6 rfl]
  .dsimp only;rw[m6 (show i<b by omega)];split
   .exact p4 i j am u7
   .exact Q i n7
  .rcases q8.1 d with h|rfl
   .rw[keep k n7 j h,nq n7];exact K k n7 n7 j h
   .rw[q3 k n7,nq n7,l,Gf.mul_one];exact mz _
theorem DZ(a:aU n m):∀c,c<=n->Way n m c (ba m c).1 (ba m c).2
 |0,_=>TY a
 |c+1,h=>by rw[ba];exact WV a (DZ a c n7) n7
theorem kt:∀c,ba [] c=(0,[])
 |0=>rfl
 |c+1=>by rw[ba,kt c];rfl
theorem oC(a:aU n m):cv m=leads (Span n m) n:=by
 rw[<-(DZ a n (qj _)).cnt,cv];cases m with
 |nil=>rw[kt,kt]
 |cons x t=>rw[ee,bf oo];rw[show((x::t)[0]).length=n from a _ oo]
end
section
variable {n:Nat} {m m':aO}
theorem Ro{S a:Row->Prop}(h:∀v,S v->a v)(n:Nat):leads S n<=leads a n:=by refine List.countP_mono_left λj _ b=>?_;simp only[decide_eq_true_eq]at b⊢;obtain⟨v,c,d⟩:=b;exact⟨v,h v c,d⟩
theorem CB(a:aU n m):cv m<=n:=by rw[oC a];have:=List.countP_le_length (p:=λj=>decide (wn (Span n m) j)) (l:=qy n);simpa[leads]using this
theorem TZ(b:aU n m)(a:aU n m')(h:∀r∈m,r∈m'):cv m<=cv m':=by rw[oC b,oC a];exact Ro (λv=>Span.mono h) n
theorem count_one{P Q:Nat->Bool}(l:List Nat)(d:l.Nodup)(f:∀a∈l,P a=eX->Q a=eX)(e:∀a∈l,∀b∈l,Q a=eX->P a=eY->Q b=eX->P b=eY->a=b):l.countP Q<=l.countP P+1:=by
 induction l with
 |nil=>simp
 |cons x t ih=>
  rw[List.nodup_cons]at d;have h:=ih d.2 (λa c=>f a B9) λa c b i=>e a B9 b (by simp[i]);simp only[vq];cases hQ:Q x with
  |false=>
   have:(if P x=eX then 1 else 0)>=0:=n7
   simp;omega
  |true=>
   cases hP:P x with
   |true=>simp;omega
   |false=>
    have:t.countP Q<=t.countP P:=by
     refine List.countP_mono_left λa c g=>?_;cases hpa:P a with
     |true=>rfl
     |false=>
      have:=e x oo a B9 hQ hP g hpa;subst this;exact absurd c d.1
    simp;omega
theorem Ji(f:aU n m){r:Row}(i:n4 r=n){v:Row}(k:Span n (m++[r]) v):∃(c:UInt8) (u:Row),Span n m u/\v=cH c r u:=by
 have l:aU n (m++[r]):=λx b=>by
  rcases qx.1 b with h|h
  .exact f x h
  .rw[qB.1 h];exact i
 induction k with
 |zero=>exact⟨0,aN n,.zero,(gr (n:=n) (by rw[cl (by simp[aN,i])];simp[aN]) sL λj _=>by rw[cU (by simp[aN,i]),cF,Gf.zero_mul];rfl).symm⟩
 |add d x w b hw ih=>
  obtain⟨c,u,g,rfl⟩:=ih;have a:=g.len f;rcases qx.1 b with h|h
  .have o:=f x h;refine⟨c,cH d x u,.add d x u h g,gr (n:=n) (by rw[cl (by rw[cl n7];omega),cl n7];exact a) (by rw[cl (by rw[cl n7];omega),cl n7];exact a) λj _=>?_⟩;rw[cU (by rw[cl n7];omega),cU n7,cU (by rw[cl n7];omega),cU n7]
   ac_rfl
  .have e:=qB.1 h;subst e;refine⟨c^^^d,u,g,gr (n:=n) (by rw[cl (by rw[cl n7];omega),cl n7];exact a) (by rw[cl n7];exact a) λj _=>?_⟩;rw[cU (by rw[cl n7];omega),cU n7,cU n7,Gf.PE]
   ac_rfl
theorem Ua(b:aU n m){r:Row}(c:n4 r=n):aU n (m++[r]):=λx a=>by
 rcases qx.1 a with h|h
 .exact b x h
 .rw[qB.1 h];exact c
theorem Ub(f:aU n m){r:Row}(D:n4 r=n):cv m<=cv (m++[r])/\cv (m++[r])<=cv m+1:=by
 have p:=Ua f D;refine⟨TZ f p λx t=>by simp[t],?_⟩;rw[oC f,oC p];refine count_one _ List.nodup_range (λa _ K=>?_) (λa _ b _ A o B q=>?_)
 .simp only[decide_eq_true_eq]at K⊢;obtain⟨v,J,H⟩:=K;exact⟨v,Span.mono (λx t=>by simp[t]) J,H⟩
 .simp only[decide_eq_true_eq,decide_eq_false_iff_not]at A o B q;have k:∀a b,wn (Span n (m++[r])) a->¬wn (Span n m) a->wn (Span n (m++[r])) b->¬wn (Span n m) b->¬a<b:=by
   rintro a b ⟨v,N,O,G⟩ o ⟨w,L,g,l⟩ q E;obtain⟨c,u,I,rfl⟩:=Ji f D N;obtain⟨d,s,h,rfl⟩:=Ji f D L;have l1:=I.len f;have l2:=h.len f;have M:d≠0:=by
    rintro rfl;apply q;refine⟨s,h,λi F=>?_,?_⟩
    .have:=g i F;rw[cU n7,Gf.zero_mul,z7]at this;exact this
    .rw[cU n7,Gf.zero_mul,z7]at l;exact l
   apply o;refine⟨cH (Gf.mul c (Gf.inv d)) s u,h.comb f I _,?_⟩;have e:∀j,aM (cH (Gf.mul c (Gf.inv d)) s u) j=aM (cH c r u) j^^^Gf.mul (Gf.mul c (Gf.inv d)) (aM (cH d r s) j):=λj=>by
    rw[cU n7,cU n7,cU n7,Gf.jC,<-Gf.mul_assoc (Gf.mul c (Gf.inv d)) d,Gf.mul_assoc c (Gf.inv d) d,Gf.mul_comm (Gf.inv d) d,Gf.Aj M,Gf.mul_one];have:∀x y z:UInt8,x^^^y=x^^^z^^^(y^^^z):=λx y z=>by
     have:x^^^z^^^(y^^^z)=x^^^y^^^(z^^^z):=by ac_rfl
     rw[this,mz,z7]
    exact this _ _ _
   refine⟨λi F=>?_,?_⟩
   .rw[e,O i F,g i n7,Gf.mul_zero];rfl
   .rw[e,g a E,Gf.mul_zero,z7];exact G
  have J:=k a b A o B q;have H:=k b a B q A o;omega
theorem mA(m:aO)(h:aU n m):cv m<=n4 m:=by
 have a:∀k,k<=n4 m->cv (m.take k)<=k:=by
  intro k
  induction k with
  |zero=>intro _;simp[cv,ee,aA,ba]
  |succ k ih=>
   intro d;have c:aU n (m.take k):=λx b=>h x (zK b);have e:=ih n7;rw[zy n7];have f:=(Ub c (h _ (qe (show k<n4 m by omega)))).2;omega
 have:=a m.length (qj _)
 rwa [qf (qj _)]at this
end
def AY(p:Int×Int×Int)(seed:Int)(a:aC):Nat:=cv (ez p seed a)
def fy(p:Int×Int×Int)(seed:Int)(a:aC):Bool:=bH p&&((AY p seed a:Int)==bD p)
def fh(p:Int×Int×Int):aC:=upto (max 0 (min p.1 16)).toNat
theorem py{p:Int×Int×Int}(h:bH p=eX):bD p=p.1+p.2.1:=by rw[bD,m6 h]
theorem nZ(p:Int×Int×Int)(seed:Int)(b:aC):aU (bD p).toNat (ez p seed b):=by
 intro r a;unfold ez at a;split at a
 .rename_i c;have:=(bI p).1 c;rcases qx.1 a with h|h
  .obtain⟨x,_,rfl⟩:=qI.1 h;rw[Co,py c];omega
  .obtain⟨x,_,rfl⟩:=qI.1 h;exact WR _ _ _
 grind
theorem Fy(p:Int×Int×Int)(seed:Int)(a:aC):n4 (ez p seed a)<=4+n4 a:=by
 unfold ez;split
 .rename_i b;have:=(bI p).1 b;have c:=List.length_filter_le bP a;simp only[qo,bA,qm,zL];omega
 .simp
theorem GA(K H:Nat):aU (K+H) (bA K H):=λr a=>by
 obtain⟨x,_,rfl⟩:=qI.1 a;exact Co _ _ _
theorem Jj(p:Int×Int×Int)(seed:Int)(a:aC)(id:Int):ez p seed (a++[id])=if bH p&&bP id then ez p seed a++[pv (bD p).toNat seed id]else ez p seed a:=by
 unfold ez;cases bH p with
 |false=>rfl
 |true=>
  cases h:bP id with
  |false=>simp[zg,h]
  |true=>simp[zg,h]
def eE(a b:aO):aO:=zl (·++·) a b
def kL(n:Nat)(m:aO):aO:=m.map (yp n)
theorem Fz{r:Row}{n j:Nat}(h:j<n):aM (r.take n) j=aM r j:=by simp only[aM,];grind
theorem FA(r:Row)(n j:Nat):aM (r.drop n) j=aM r (n+j):=by simp only[aM,qg,wJ]
theorem sT(n:Nat)(m:aO)(i:Nat):aA (kL n m) i=(aA m i).take n:=by
 simp only[aA,kL,]
 grind
theorem Il(n:Nat)(m:aO):n4 (kL n m)=n4 m:=by simp[kL]
theorem Rp{n a aW:Nat}(m:aO)(h:aW<n):fp (kL n m) a aW=fp m a aW:=by unfold fp;rw[Il];congr 1;funext i;rw[sT,Fz h]
theorem Im(n:Nat)(m:aO)(i:Nat)(r:Row):kL n (m.set i r)=(kL n m).set i (r.take n):=by simp[kL,]
theorem WW(n:Nat)(m:aO)(i j:Nat):kL n (fH m i j)=fH (kL n m) i j:=by rw[fH,Im,Im,fH,sT,sT]
theorem CC(n:Nat)(c:UInt8)(r:Row):(scaleB c r).take n=scaleB c (r.take n):=by simp[scaleB,]
theorem Io(n:Nat)(c:UInt8)(a t:Row):(cH c a t).take n=cH c (a.take n) (t.take n):=by simp[cH,List.take_zipWith]
theorem WX{n aW:Nat}(h:aW<n)(t:Nat)(m:aO):kL n (fS t aW m)=fS t aW (kL n m):=by rw[fS,Im,CC,fS,sT,Fz h]
theorem WY{n aW:Nat}(h:aW<n)(t k:Nat)(m:aO):kL n (bO t aW m k)=bO t aW (kL n m) k:=by
 apply zp;intro i;simp only[kL,bO,qM,List.getElem?_mapIdx];cases m[i]? with
 |none=>rfl
 |some r=>
  simp only[zn];congr 1;have:=sT n m t;rw[kL]at this;rw[this,Fz h];split
  .exact Io _ _ _ _
  .rfl
theorem WZ{n aW:Nat}(h:aW<n)(s:Nat×aO):((fI s aW).1,kL n (fI s aW).2)=fI (s.1,kL n s.2) aW:=by
 unfold fI;rw[Rp _ h];cases fp s.2 s.1 aW with
 |none=>rfl
 |some i=>rw[WY h,WX h,WW,Il]
theorem GB(n:Nat)(m:aO):∀c,c<=n->((ba m c).1,kL n (ba m c).2)=ba (kL n m) c
 |0,_=>rfl
 |c+1,h=>by
  have a:=GB n m c n7;rw[ba,ba,WZ (show c<n by omega),a]
theorem kZ{a b:aO}(h:n4 a=n4 b:=by omega):n4 (eE a b)=n4 a:=by simp[eE,h]
theorem Ea{a b:aO}(h:n4 a=n4 b){i:Nat}(c:i<n4 a):aA (eE a b) i=aA a i++aA b i:=by rw[bf (by rw[kZ h];exact c),bf c,bf n7];simp[eE]
theorem lF{n w:Nat}{a b:aO}(h:n4 a=n4 b)(d:aU n a)(f:aU w b):aU (n+w) (eE a b):=λr e=>by
 obtain⟨i,c,rfl⟩:=fT e;rw[kZ h]at c;rw[Ea h c,qo,bX d c,bX f]
theorem ZQ{n:Nat}{a b:aO}(h:n4 a=n4 b)(e:aU n a):kL n (eE a b)=a:=by
 apply zX (by rw[Il,kZ h]);intro i d c;have:=sT n (eE a b) i;rw[bf d,Ea h c,List.take_left' (bX e c),bf c]at this
 grind
theorem Xa{n:Nat}{a:aO}(b:aU n a):(ba a n).1=cv a:=by
 rw[cv];cases a with
 |nil=>rw[kt,kt]
 |cons x t=>rw[ee,bf oo];rw[b _ oo]
theorem tJ{n:Nat}{a b:aO}(h:n4 a=n4 b)(c:aU n a):(ba (eE a b) n).1=cv a:=by have:=congrArg qA (GB n (eE a b) n (qj _));rw[ZQ h c]at this;rw[<-Xa c];grind
def CD(w:Nat)(r:Row)(X:aO):Nat->Row
 |0=>aN w
 |k+1=>cH (aM r k) (aA X k) (CD w r X k)
theorem nL{n w:Nat}{X:aO}(b:aU w X)(c:n4 X=n)(r:Row):∀k,k<=n->n4 (CD w r X k)=w
 |0,_=>by simp[CD,aN]
 |k+1,h=>by
  have a:=nL b c r k n7;rw[CD,cl (by rw[bX b,a])];exact a
theorem kM{n w:Nat}{X:aO}(a:aU w X)(b:n4 X=n)(r:Row)(j:Nat):∀k,k<=n->aM (CD w r X k) j=bW (λi=>aM r i) (λi=>aM (aA X i) j) k
 |0,_=>by rw[CD,cF];rfl
 |k+1,h=>by
  have c:=kM a b r j k n7;rw[CD,cU (by rw[bX a,nL a b r k n7]),c];rfl
def jf(n w:Nat)(a b X:aO):Prop:=n4 X=n/\aU w X/\∀i,i<n4 a->CD w (aA a i) X n=aA b i
theorem Xb{m a:aO}(c:n4 m=n4 a)(h:∀i,i<n4 m->aA m i=aA a i):m=a:=by
 apply zX c;intro i b d;have:=h i b
 rwa [bf b,bf d]at this
def tK(n:Nat)(X:aO)(k:Nat)(v:Row):UInt8:=aM v (n+k)^^^bW (λi=>aM v i) (λi=>aM (aA X i) k) n
theorem gB{f f' g a:Nat->UInt8}:∀k,(∀i,i<k->f i=f' i)->(∀i,i<k->g i=a i)->bW f g k=bW f' a k
 |0,_,_=>rfl
 |k+1,h1,h2=>by rw[bW,bW,gB k (λi b=>h1 i n7) λi b=>h2 i n7,h1 k n7,h2 k n7]
theorem PM(n:Nat)(X:aO)(k:Nat)(c:UInt8)(a t:Row)(h:n4 a=n4 t:=by omega):tK n X k (cH c a t)=tK n X k t^^^Gf.mul c (tK n X k a):=by unfold tK;rw[cU h];have:bW (λi=>aM (cH c a t) i) (λi=>aM (aA X i) k) n=bW (λi=>aM t i^^^Gf.mul c (aM a i)) (λi=>aM (aA X i) k) n:=gB n (λi _=>cU h i) λ_ _=>rfl;rw[this,DY,Gf.jC];ac_rfl
theorem PN{a b:Row}{n:Nat}(c:n4 a=n)(k:Nat):aM (a++b) (n+k)=aM b k:=by
 simp only[aM,]
 grind
theorem LN{a b:Row}{n j:Nat}(c:n4 a=n)(d:j<n):aM (a++b) j=aM a j:=by
 simp only[aM,]
 grind
theorem oD{a b:UInt8}:a^^^b=0↔a=b:=oo
theorem GC{n w:Nat}{a b X:aO}(h:n4 a=n4 b)(f:aU n a)(p:aU w b)(g:n4 X=n)(l:aU w X):jf n w a b X↔∀k,k<w->∀v,Span (n+w) (eE a b) v->tK n X k v=0:=by
 have e:=lF h f p;constructor
 .intro q k o v u;refine Span.YU e (tK n X k) ?_ (λc a t z y=>PM n X k c a t) (λr s=>?_) u
  .unfold tK;rw[cF,ge _ _ n λi _=>cF _ _];rfl
  .obtain⟨i,d,rfl⟩:=fT s;rw[kZ h]at d;rw[Ea h d];unfold tK;rw[PN (bX f d),<-q.2.2 i d,kM l g _ k n (qj _),oD];exact gB n (λj m=>(LN (bX f d) m).symm) λ_ _=>rfl
 .intro x;refine⟨g,l,λi d=>gr (n:=w) (nL l g _ n (qj _)) (bX p) λk o=>?_⟩;have:=x k o _ (Span.row e (mem_row (show i<n4 (eE a b) by rw[kZ h];exact d)));rw[Ea h d]at this;unfold tK at this;rw[PN (bX f d),oD]at this;rw[this,kM l g _ k n (qj _)];exact gB n (λj m=>(LN (bX f d) m).symm) λ_ _=>rfl
theorem abu{n:Nat}{p:Nat->Nat}(d:∀i,i<n->p i<n)(c:∀i j,i<j->j<n->p i<p j):∀i,i<n->p i=i:=by
 have b:∀i,i<n->i<=p i:=by
  intro i
  induction i with
  |zero=>simp
  |succ i ih=>intro a;have:=c i (i+1) n7 a;omega
 have up:∀k i,i+k+1=n->p i<=i:=by
  intro k
  induction k with
  |zero=>grind
  |succ k ih=>intro i a;have:=ih (i+1) n7;grind
 intro i a;have:=b i a;have:=up (n-1-i) i n7;omega
def eM(n:Nat)(a b:aO):aO:=(((ba (eE a b) n).2).take n).map (List.drop n)
def jb(n:Nat)(a b:aO):Prop:=∀r∈((ba (eE a b) n).2).drop n,r=aN r.length
section
variable {n w:Nat} {a b:aO}
theorem pz(h:n4 a=n4 b)(e:aU n a)(i:aU w b)(j:cv a=n):n4 (eM n a b)=n/\aU w (eM n a b):=by have c:=lF h e i;have f:=fM c n;have h3:=mA a e;refine⟨by rw[eM,qm,qw,f.2,kZ h];omega,λr d=>?_⟩;obtain⟨x,g,rfl⟩:=qI.1 d;rw[qJ,f.1 x (zK g)];omega
theorem PO(h:n4 a=n4 b)(c:aU n a)(d:cv a=n){i:Nat}(e:i<n):aA (eM n a b) i=(aA (ba (eE a b) n).2 i).drop n:=by
 simp only[aA,eM,]
 grind
theorem FB(h:n4 a=n4 b)(f:aU n a)(q:aU w b)(j:cv a=n):
  (∀v,Span (n+w) (ba (eE a b) n).2 v↔Span (n+w) (eE a b) v)/\(ba (eE a b) n).2.length=n4 a/\(∀i,i<n->∀k,k<n4 a->aM (aA (ba (eE a b) n).2 k) i=if k=i then 1 else 0):=by
 have c:=lF h f q;have W:=DZ c n n7;have m:(ba (eE a b) n).1=n:=by rw[tJ h f,j]
 obtain⟨p,e,o,l,d⟩:=W.piv;rw[m]at e o l d;have hid:=abu e d;have g:(ba (eE a b) n).2.length=n4 a:=by rw[W.len,kZ h]
 refine⟨W.span,g,λi s k r=>?_⟩
 grind
theorem LO{X:aO}{r:Row}{i k:Nat}(b:i<n)(a:∀j,j<n->aM r j=if i=j then 1 else 0):tK n X k r=aM r (n+k)^^^aM (aA X i) k:=by unfold tK;rw[DX _ _ i n b λj c=>a j c]
theorem PP{X:aO}{r:Row}{k:Nat}(a:∀j,j<n->aM r j=0):tK n X k r=aM r (n+k):=by unfold tK;rw[ge _ _ n a,z7]
theorem sv(h:n4 a=n4 b)(l:aU n a)(o:aU w b)(q:cv a=n){X:aO}(g:jf n w a b X):X=eM n a b/\jb n a b:=by
 have u:=lF h l o;have p:=fM u n;obtain⟨m,D,A⟩:=FB h l o q;have z:=mA a l;have v:=(GC h l o g.1 g.2.1).1 g;obtain⟨x,s2⟩:=pz h l o q;constructor
 .refine Xb (by rw[g.1,x]) λi d=>gr (n:=w) (bX g.2.1 d) (bX s2 (by rw[x];rw[g.1]at d;exact d)) λk y=>?_;rw[g.1]at d;have h3:=v k y _ ((m _).1 (Span.row p.1 (mem_row (show i<(ba (eE a b) n).2.length by omega))));rw[LO d λj t=>A j t i n7]at h3;rw[PO h l q d,FA];exact(oD.1 h3).symm
 .intro r s;obtain⟨i,d,rfl⟩:=qE s;rw[qJ]at d;rw[zM];have f:n+i<(ba (eE a b) n).2.length:=n7
  have e:=bf f;have c:=bX p.1 f;rw[<-e,c];refine gr (n:=n+w) c sL λj t=>?_;rw[cF];by_cases B:j<n
  .grind
  .obtain⟨k,rfl⟩:∃k,j=n+k:=⟨j-n,n7⟩
   have h3:=v k n7 _ ((m _).1 (Span.row p.1 (mem_row f)))
   rwa [PP λj t=>o4]at h3
theorem sw(h:n4 a=n4 b)(e:aU n a)(g:aU w b)(m:cv a=n)(y:jb n a b):jf n w a b (eM n a b):=by
 have q:=lF h e g;have s:=fM q n;obtain⟨l,F,u⟩:=FB h e g m;have A:=mA a e;obtain⟨D,s2⟩:=pz h e g m;refine(GC h e g D s2).2 λk E v B=>?_;refine Span.YU s.1 (tK n (eM n a b) k) ?_ (λc x t G s=>PM n _ k c x t) (λr o=>?_) ((l v).2 B)
 .unfold tK;rw[cF,ge _ _ n λi _=>cF _ _];rfl
 .obtain⟨i,z,rfl⟩:=fT o;by_cases f:i<n
  .rw[LO f λj p=>u j p i n7,PO h e m f,FA];exact mz _
  .rw[PP λj p=>by rw[u j p i n7,nq n7]];have:aA (ba (eE a b) n).2 i∈(ba (eE a b) n).2.drop n:=by
    rw[bf z];obtain⟨d,rfl⟩:∃d,i=n+d:=⟨i-n,n7⟩
    rw[<-zM (h:=by rw[qJ];omega)];exact qe _
   rw[y _ this,cF]
end
def LP(l:aC):Prop:=∀a b,a<n4 l->b<n4 l->eU l a=eU l b->a=b
theorem Eb{l:aC}{i:Nat}(h:i<n4 l):eU l i=l[i]:=by rw[eU,qg,qd h];rfl
theorem Xc{l:aC}{i j k:Nat}(a:i<n4 l)(b:j<n4 l):eU (iZ l i j) k=if k=j then eU l i else if k=i then eU l j else eU l k:=by
 simp only[eU,iZ,]
 grind
theorem swap_inj{l:aC}{i j:Nat}(f:i<n4 l)(m:j<n4 l)(h:LP l):LP (iZ l i j):=by
 intro a b n o g;rw[po]at n o;have c:∀k,k<n4 l->∃σ,σ<n4 l/\eU (iZ l i j) k=eU l σ/\(σ=if k=j then i else if k=i then j else k):=λk p=>by
  rw[Xc f m];by_cases e:k=j
  .rw[m6 e,m6 e];exact⟨i,f,n5,n5⟩
  .rw[nq e,nq e];by_cases d:k=i
   .rw[m6 d,m6 d];exact⟨j,m,n5,n5⟩
   .rw[nq d,nq d];exact⟨k,p,n5,n5⟩
 obtain⟨s,q,r,v⟩:=c a n;obtain⟨t,u,e2,w⟩:=c b o;rw[r,e2]at g;have:=h s t q u g
 grind
theorem Uc{l:aC}(h:LP l):l.Nodup:=by rw[List.nodup_iff_pairwise_ne,zb];intro i j a b d c;have:=h i j a b (by rw[Eb a,Eb b];exact c);omega
theorem Xd(n:Nat):LP (upto n):=by intro a b d e c;rw[ft]at d e;rw[Eb (by rw[ft];exact d),Eb (by rw[ft];exact e)]at c;simp[upto]at c;omega
theorem LQ(n:Nat)(s:Int):∀k,k<=n->n<=64->LP (dX n s (upto n) k).2
 |0,_,_=>Xd n
 |k+1,hk,hn=>by
  have a:=pq n s (upto n) k;rw[ft]at a;have:=nK (dX n s (upto n) k).1 ((n-k:Nat));exact swap_inj n7 n7 (LQ n s k n7 hn)
theorem Rq(s:Int)(n k:Nat)(a:k<=n)(b:n<=64):(AR s n k).Nodup:=by have h:=(Uc (LQ n s k a b)).sublist (List.take_sublist k _);exact(wc _ _).nodup_iff.2 h
theorem GD{n:Nat}(a:1<=n)(b:n<=20)(seed id:Int):(dZ n seed id).Nodup:=Rq _ _ _ (pr _ n a b) n7
theorem NU(n:Nat)(seed id:Int):(dZ n seed id).Pairwise (·<=·):=by have:=wC (le:=λx y:Int=>decide (x<=y)) o4 o4 ((dX n (tw (tw (Cn seed id))) (upto n) (AU (tw (Cn seed id)) n)).2.take (AU (tw (Cn seed id)) n));exact this.imp oo
theorem PQ{r:Row}{i j:Nat}{x:UInt8}(a:i<n4 r):aM (r.set i x) j=if j=i then x else aM r j:=by
 simp only[aM,]
 grind
theorem Ud(n:Nat)(l:aC)(c:Int):gT n (l++[c])=(gT n l).set c.toNat 1:=by rw[gT,wz];rfl
theorem FC{n:Nat}:∀(l:aC) (_:∀x∈l,0<=x/\x<(n:Int)) (j:Nat),aM (gT n l) j=if(j:Int)∈l then 1 else 0:=by
 intro l;have b:∀k,k<=n4 l->(∀x∈l,0<=x/\x<(n))->∀j:Nat,aM (gT n (l.take k)) j=if(j:Int)∈l.take k then 1 else 0:=by
  intro k
  induction k with
  |zero=>intro _ _ j;exact cF n j
  |succ k ih=>
   intro c a j;have d:=a _ (qe (show k<n4 l by omega));rw[zy n7,Ud,PQ (by rw[pu];omega),]
   grind
 intro a j;have:=b l.length (qj _) a j
 grind
theorem LR{f f' g:Nat->UInt8}{c:Nat}(b:f c=0)(a:∀i,f' i=if i=c then 1 else f i):∀k,bW f' g k=bW f g k^^^if c<k then g c else 0
 |0=>by simp[bW]
 |k+1=>by
  rw[bW,bW,LR b a k,a k];by_cases d:k=c
  .subst d;rw[m6 n5,nq n7,m6 n7,Gf.one_mul,b,Gf.zero_mul]
  grind
def jN(w:Nat)(X:aO)(l:aC):Row:=l.foldl (λs c=>cH 1 (aA X c.toNat) s) (aN w)
theorem AZ(w:Nat)(X:aO)(l:aC)(c:Int):jN w X (l++[c])=cH 1 (aA X c.toNat) (jN w X l):=by rw[jN,wz];rfl
theorem oE{n w:Nat}{X:aO}(b:aU w X)(e:n4 X=n){l:aC}(a:∀x∈l,0<=x/\x<(n:Int)):∀k,k<=n4 l->n4 (jN w X (l.take k))=w:=by
 intro k
 induction k with
 |zero=>intro _;simp[jN,aN]
 |succ k ih=>
  intro c;have d:=a _ (qe (show k<n4 l by omega));rw[zy n7,AZ,cl (by rw[bX b,ih n7])];exact ih n7
theorem PR{n w:Nat}{X:aO}(c:aU w X)(b:n4 X=n){l:aC}(a:∀x∈l,0<=x/\x<(n:Int)):n4 (jN w X l)=w:=by
 have:=oE c b a l.length (qj _)
 rwa [qf (qj _)]at this
def nk(K H w:Nat)(d:Row):aO:=qh H (aN w)++(qy K).map (PJ d w)
def jZ(p:Int×Int×Int)(seed:Int)(d:Row):aO:=eM (bD p).toNat (ez p seed (fh p)) (nk p.1.toNat p.2.1.toNat p.2.2.toNat d)
structure gm (p:Int×Int×Int) (seed:Int) (d:Row) (K H w n:Nat):Prop where
 may:bH p=eX
 full:fy p seed (fh p)=eX
 k:p.1=K
 h:p.2.1=H
 s:p.2.2=w
 n:n=K+H
 k1:1<=K
 k2:K<=16
 h1:1<=H
 h2:H<=4
 w1:1<=w
 w2:w<=24
 len:n4 d=K*w
theorem YV{p:Int×Int×Int}{seed:Int}{d:Row}(a:bH p=eX)(b:fy p seed (fh p)=eX)(c:(n4 d:Int)=p.1*p.2.2):∃K H w n,gm p seed d K H w n:=by
 have:=(bI p).1 a;refine⟨p.1.toNat,p.2.1.toNat,p.2.2.toNat,p.1.toNat+p.2.1.toNat,a,b,n7,n7,n7,n5,n7,n7,n7,n7,n7,n7,?_⟩
 grind
section
variable {p:Int×Int×Int} {seed:Int} {d:Row} {K H w n:Nat}
theorem gm.cX(B:gm p seed d K H w n):bD p=n:=by rw[py B.may,B.k,B.h,B.n];rfl
theorem gm.sA(B:gm p seed d K H w n):(bD p).toNat=n:=by rw[B.cX];rfl
theorem Rv(a:p.1=(K:Int))(h:K<=16):fh p=upto K:=by rw[fh];grind
theorem NV(h:K<=16):(upto K).filter bP=upto K:=by rw[List.filter_eq_self];intro x a;simp[upto]at a;simp[bP];omega
theorem gm.Je(B:gm p seed d K H w n):ez p seed (fh p)=bA K H++(qy K).map λi:Nat=>pv n seed (i:Int):=by rw[ez,m6 B.may,Rv B.k B.k2,NV B.k2,B.k,B.h,B.sA,upto,List.map_map];rfl
theorem gm.LS(B:gm p seed d K H w n):n4 (ez p seed (fh p))=n:=by rw[B.Je,qo,qm,zL,bA,qm,zL,B.n];omega
theorem gm.Ip(B:gm p seed d K H w n):aU n (ez p seed (fh p)):=by
 have:=nZ p seed (fh p)
 rwa [B.sA]at this
theorem gm.Iq(B:gm p seed d K H w n):cv (ez p seed (fh p))=n:=by
 have h:=B.full;rw[fy,B.cX,AY]at h
 grind
theorem uF(K H w:Nat)(d:Row):n4 (nk K H w d)=K+H:=by simp[nk];omega
theorem Ba(b:n4 d=K*w):aU w (nk K H w d):=λr c=>by
 rcases qx.1 c with h|h
 .rw[(List.mem_replicate.1 h).2];simp[aN]
 .obtain⟨i,a,rfl⟩:=qI.1 h;rw[qY]at a;exact PK (by rw[b];exact zi w a)
theorem gm.BI(B:gm p seed d K H w n):jZ p seed d=eM n (ez p seed (fh p)) (nk K H w d):=by rw[jZ,B.sA,B.k,B.h,B.s];rfl
theorem gm.lens(B:gm p seed d K H w n):n4 (ez p seed (fh p))=n4 (nk K H w d):=by rw[B.LS,uF,B.n]
theorem gm.An(B:gm p seed d K H w n):n4 (jZ p seed d)=n/\aU w (jZ p seed d):=by rw[B.BI];exact pz B.lens B.Ip (Ba B.len) B.Iq
end
end
theorem NW{α:Type}{c k:Nat}{f:α->aS}:∀{rs:List Sl} {ll:List (List α)} (a:List Sl) (b:List (List α)),n4 rs=n4 ll->bo c k f (rs++a) (ll++b)=bo c k f rs ll++bo c k f a b:=by
 unfold bo
 grind
theorem aa.Xe{B:au}{a h:m5}{X:HP}:∀{L M:List HP},aa B a h (L++X::M)->aa B a h (L++M):=λ{L M} H=>by
 have:=H.del L.length
 grind
variable {s2:Sl}
section
variable {C:Ctx} {B:au} {e:Nat} {l2:List (List α)}
theorem aa.PS(q:C.Ok)(H:aa B h0 h (gA e s e2 k f ll::gA e s2 e2 k f l2::As))(y:bS C.toAg t e 1 [.slice eH 0 0] 24)(r:∃i e2,C.T.get t2=dB i/\i.cm=.slice e2)(w:n4 ll+n4 l2<=2^32){ty:Nat}{K:Sl->m5->Prop}
  (u:∀d h',aa B h0 h' (gA e d e2 k f (ll++l2)::As)->K d h'):
  bF C.P (q6 #[t,t2] ty #[.slice s.ptr s.len s.cap,.slice s2.ptr s2.len s2.cap]) (.one (.sc .slc)) h K:=by
 obtain⟨rs,v,n⟩:=H.AW;obtain⟨c,g⟩:=I5 (bo e2 k f rs ll)
 rw[<-g]at n;have o:aa B h0 h (gA e s2 e2 k f l2::(As++(ai e s 1 bv rs::c))):=n.front;obtain⟨a,A,z⟩:=o.AW;obtain⟨L2,p⟩:=I5 (bo e2 k f a l2)
 have l:=z.front;rw[ql]at l;have D:=l.front;have m:aa B h0 h (ai e s 1 bv rs::(c++(ai e s2 1 bv a::(L2++As)))):=o4
 have x:Seq h (λb=>b<h.size) s2 1 bv a:=m.seq (n4 c+1) (by rw[qU,qk (qj _),zd];rfl) λ_=>rfl;refine m.append q 0 n5 y r n5 n8 (λ_=>rfl) x jK n7 λd h' j=>u d h' ?_;have j:aa B h0 h' ((ai e d 1 bv (rs++a)::c)++(ai e s2 1 bv a::(L2++As))):=j;have E:=aa.Xe j;refine aa.Cx (rs:=rs++a) o4 ?_;rw[NW a l2 v,]
 grind
end
abbrev gU:=FloatKind.format .f64
theorem CE{P:Program}{a b c:Nat}(h:gU.add a b=dB c):aL P (Op.Complex.arith .add .f64 a b) c:=λw=>by
 have h':(FloatKind.format .f64).add a b=dB c:=h;unfold Op.Complex.arith Op.floatArith;simp only[h'];rfl
theorem CF{P:Program}{a b c:Nat}(h:gU.sub a b=dB c):aL P (Op.Complex.arith .sub .f64 a b) c:=λw=>by
 have h':(FloatKind.format .f64).sub a b=dB c:=h;unfold Op.Complex.arith Op.floatArith;simp only[h'];rfl
theorem uG{P:Program}{a b c:Nat}(h:gU.mul a b=dB c):aL P (Op.Complex.arith .mul .f64 a b) c:=λw=>by
 have h':(FloatKind.format .f64).mul a b=dB c:=h;unfold Op.Complex.arith Op.floatArith;simp only[h'];rfl
theorem EG{P:Program}{op:BinOp}(h:op=.add∨op=.sub∨op=.mul)(t:TypeId)(x y:Operand)(a b:fY):aL P (eqGuard op t x y a b) ():=λw=>by
 rcases h with rfl|rfl|rfl<;>rfl
theorem ZR{P:Program}{t:TypeId}{x y:Operand}{a b c d e f:Nat}(g:gU.add a c=dB e)(h:gU.add b d=dB f):kj P .add t x y (.complex .f64 a b) (.complex .f64 c d) (.complex .f64 e f):=
 (EG (.inl n5) t x y _ _).bind (show aL P (Op.complexOp .add .f64 a b c d) _ from(CE g).bind ((CE h).bind λ_=>rfl))
theorem ZS{P:Program}{t:TypeId}{x y:Operand}{a b c d e f:Nat}(g:gU.sub a c=dB e)(h:gU.sub b d=dB f):kj P .sub t x y (.complex .f64 a b) (.complex .f64 c d) (.complex .f64 e f):=
 (EG (.inr (.inl n5)) t x y _ _).bind (show aL P (Op.complexOp .sub .f64 a b c d) _ from(CF g).bind ((CF h).bind λ_=>rfl))
theorem ZT{P:Program}{t:TypeId}{x y:Operand}{a b c d e f j m2 h i:Nat}(o:gU.mul a c=dB j)(k:gU.mul b d=dB m2)(h3:gU.sub j m2=dB e)(l:gU.mul a d=dB h)(n:gU.mul b c=dB i)(m:gU.add h i=dB f):
  kj P .mul t x y (.complex .f64 a b) (.complex .f64 c d) (.complex .f64 e f):=by
 have p:aL P (Op.Complex.product a b c d) (e,f):=
  (uG o).bind ((uG k).bind ((CF h3).bind ((uG l).bind ((uG n).bind ((CE m).bind λ_=>rfl)))))
 have g:∀x,aL P (Op.Complex.conv .f64 x .f64) x:=λx w=>rfl;refine aL.bind (v:=(e,f)) ?_ ?_
 .exact p
 .exact(g e).bind ((g f).bind λ_=>rfl)
section
open Go.Sort
theorem ZU{w a:World}(k:dj w a)(g:aQ (λb=>b<w.heap.size) w.heap a.heap):∃q c,a=Sort.grow (w.drewN q) c:=by
 refine⟨a.drawn-w.drawn,a.heap.extract w.heap.size a.heap.size,?_⟩;have o:w.heap++a.heap.extract w.heap.size a.heap.size=a.heap:=by
  apply yW;intro i;by_cases d:i<w.heap.size
  .rw[Array.getElem?_append_left d,g.2 i d d]
  grind
 obtain⟨e,j,h,c,f⟩:=a;obtain⟨m,e2,l,n⟩:=k;simp only[Sort.grow,World.drewN,World.mk.injEq]
 grind
theorem Jk{α:Type}[Inhabited α]{enc:α->aS}{k:Nat}(b:∀x,n4 (enc x)=k)(l:List α):flatK enc k l.toArray=(l.flatMap enc).toArray:=by
 refine ext_get! (by simp[dL b]) λt f=>?_;have a:t<n4 l*k:=B4
 have c:0<k:=o4
 rw[get_flatK _ _ _ t o4];have e:t/k<n4 l:=(Nat.div_lt_iff_lt_mul c).2 a;obtain⟨pre,post,g,e2⟩:=Fk b l (t/k) l[t/k] (qd e);have h:t%k<k:=vk _ c;have d:t=t/k*k+t%k:=by rw[Nat.mul_comm];exact(Nat.div_add_mod t k).symm
 grind
theorem Rw{α:Type}[Inhabited α]{enc:α->aS}{k:Nat}(a:∀x,n4 (enc x)=k){w:World}{e:TypeId}{b:Nat}{rest:aS}{l:List α}(c:w.heap[b]?=dB (.cells (l.flatMap enc++rest).toArray e (0,0))):HoldsK enc k w b 0 l.toArray:=by
 intro j d;rw[Jk a]at d⊢;refine⟨?_,by simp[World.frozen?,c]⟩;simp only[World.cell?,]
 grind
theorem Ue{α:Type}[Inhabited α]{enc:α->aS}{k:Nat}(b:∀x,n4 (enc x)=k)(l a:List α)(rest:aS)(e:n4 a=n4 l):putCells id 0 (flatK enc k a.toArray) (l.flatMap enc++rest).toArray=(a.flatMap enc++rest).toArray:=by
 rw[Jk b];have d:=dL b l;have c:=dL b a;rw[e]at c;apply yW;intro i;simp only[putCells,Array.getElem?_mapIdx,zT,yI,w8,Nat.zero_le,true_and,Nat.sub_zero];by_cases f:i<n4 l*k
 .rw[qu n7,qu n7,qd n7,qd n7,zn,m6 n7];rw[getElem!_pos _ i (by rw[yI];omega)];simp
 .rw[qk n7,qk n7,d,c];cases rest[i-n4 l*k]? with
  |none=>rfl
  |some x=>rw[zn,nq n7]
theorem Kg{α:Type}[Inhabited α]{P:Program}{id_ g:FuncId}{enc:α->aS}{k:Nat}{cf:α->α->Int}(B:∀x,n4 (enc x)=k)
  (J:∀(d cap:Nat) (l:List α) (w:World),CmpLays P g #[] enc k cf d 0 l.length w->HoldsK enc k w d 0 l.toArray->d<w.heap.size->n4 l<4611686018427387904->
   Calls P id_ #[.slice (dB ⟨d,0,eH⟩) l.length cap,.func (.func g) #[] #[]] w λe q=>e=.returned (.tuple #[])/\∃n os,q=sortWorldK enc k w d 0 n (l.mergeSort λx y=>!(ltOf cf) y x).toArray os)
  (G:∀(p:bJ) (cap:Nat) (w:World),Calls P id_ #[.slice p 0 cap,.func (.func g) #[] #[]] w λe q=>e=.returned (.tuple #[])/\q=w)
  (F:∀x y h,ak P g #[.agg (enc x).toArray,.agg (enc y).toArray] h λv h'=>v=xH xN (cf x y)/\aQ (λb=>b<h.size) h h')
  {e:TypeId} {s:Sl} {l:List α} {h:m5} (E:Own h e s k enc l) (I:n4 l<2^40):
  ak P id_ #[.slice s.ptr s.len s.cap,.func (.func g) #[] #[]] h λv h'=>v=.tuple #[]/\Own h' e s k enc (l.mergeSort λx y=>!(ltOf cf) y x)/\aQ (λb=>¬s.on b) h h':=by
 intro w o;have a:=E.len;rcases E.head with⟨h1,h2,h3⟩|⟨b,rest,h1,h2,h3,h4⟩
 .subst h3;rw[a,h1];refine(G eH s.cap w).mono ?_;rintro D q ⟨rfl,rfl⟩;have L:(([]:List α).mergeSort λx y=>!(ltOf cf) y x)=[]:=oo
  exact⟨_,n5,dj.refl _,n5,by rw[L];exact⟨a,.inl ⟨h1,h2,n5⟩⟩,by rw[<-o];exact aQ.refl _ _⟩
 .rw[h1,a];have u:w.heap[b]?=dB (.cells (l.flatMap enc++rest).toArray e (0,0)):=by rw[o];exact h2
  have i:CmpLays P g #[] enc k cf b 0 l.length w:=λm os K _ x y=>by
   have:=F x y _ (sortWorldK enc k w b 0 m K os) n5;refine(show Calls P g (#[Value.agg (enc x).toArray,.agg (enc y).toArray]++#[]) _ _ from ?_);rw[Array.append_empty];refine this.mono ?_;rintro D q ⟨v,rfl,H,rfl,A⟩;exact⟨n5,ZU H A⟩
  refine(J b s.cap l w i (Rw B u) (lt_of_block u) n7).mono ?_;rintro D q ⟨rfl,n,os,rfl⟩;have t:=lt_of_block u;have r:n4 (l.mergeSort λx y=>!(ltOf cf) y x)=n4 l:=wP l;have f:∀j,j<h.size->(sortWorldK enc k w b 0 n (l.mergeSort λx y=>!(ltOf cf) y x).toArray os).heap[j]?=if b=j then dB (.cells ((l.mergeSort λx y=>!(ltOf cf) y x).flatMap enc++rest).toArray e (0,0))else h[j]?:=by
   intro j z;unfold sortWorldK;rw[Sort.heap_grow_old _ _ (by simpa[putRowK,Sort.putRow,Sort.mapBlock,Sort.ahead,o]using z)];simp only[putRowK,Sort.putRow,Sort.mapBlock,Sort.ahead,yf];by_cases c:b=j
   .subst c;rw[m6 n5,m6 n5,u,zn,Sort.onCells,Ue B _ _ _ r]
   .rw[nq c,nq c,o]
  rw[o]at t;refine⟨_,n5,⟨n5,n5,n5,Nat.le_add_right _ _⟩,n5,⟨by rw[r];exact a,.inr ⟨b,rest,h1,?_,h3,h4⟩⟩,?_,?_⟩
  .rw[f b t,m6 rfl]
  .simp[sortWorldK,putRowK,Sort.grow,Sort.putRow,Sort.mapBlock,Sort.ahead,o]
  .intro j z A;rw[f j z,nq λc=>A ⟨0,by rw[h1,c]⟩]
end
def cW(n:Int):Nat:=
 if n=0 then 0 else
  let m:=n.natAbs;let e:=m.log2
  (if n<0 then 2^63 else 0)+(1023+e)*2^52+(m-2^e)*2^(52-e)
structure BJ where
 ax:Nat
 ay:Nat
 sx:Nat
 sy:Nat
 left:Int
 leg:Int
 second:Bool
def oF:Nat:=4607182418800017408
def fs0:BJ:=⟨0,0,oF,0,1,1,eY⟩
def nM(a b:Nat):Nat:=(gU.add a b).getD 0
def adq(a b:Nat):Nat:=(gU.sub a b).getD 0
def rZ(a b:Nat):Nat:=(gU.mul a b).getD 0
def tx(a b:Nat):Nat:=adq (rZ a 0) (rZ b oF)
def ty(a b:Nat):Nat:=nM (rZ a oF) (rZ b 0)
def BJ.on(s:BJ):BJ:=
 if s.left-1>0 then{s with ax:=nM s.ax s.sx,ay:=nM s.ay s.sy,left:=s.left-1}
 else{ax:=nM s.ax s.sx,ay:=nM s.ay s.sy,sx:=tx s.sx s.sy,sy:=ty s.sx s.sy,leg:=if s.second then s.leg+1 else s.leg,left:=if s.second then s.leg+1 else s.leg,second:=!s.second}
def jx:Nat->BJ
 |0=>fs0
 |n+1=>(jx n).on
def BJ.ok(s:BJ):Bool:=
 (gU.add s.ax s.sx).isSome&&(gU.add s.ay s.sy).isSome&&(gU.mul s.sx 0).isSome&&(gU.mul s.sy oF).isSome&&(gU.sub (rZ s.sx 0) (rZ s.sy oF)).isSome&&(gU.mul s.sx oF).isSome&&(gU.mul s.sy 0).isSome&&(gU.add (rZ s.sx oF) (rZ s.sy 0)).isSome&&decide (1<=s.left)&&decide (s.left<=100)&&decide (1<=s.leg)&&decide (s.leg<=100)
structure uH where
 x:Int
 y:Int
 dx:Int
 dy:Int
 left:Int
 leg:Int
 turns:Int
def ads:uH:=⟨0,0,1,0,1,1,0⟩
def uH.on(s:uH):uH:=
 if s.left-1=0 then
  {x:=s.x+s.dx,y:=s.y+s.dy,dx:=-s.dy,dy:=s.dx,leg:=if(s.turns+1)%2=0 then s.leg+1 else s.leg,left:=if(s.turns+1)%2=0 then s.leg+1 else s.leg,turns:=s.turns+1}
 else{s with x:=s.x+s.dx,y:=s.y+s.dy,left:=s.left-1}
def bz:Nat->uH
 |0=>ads
 |n+1=>(bz n).on
def uH.ok(s:uH):Bool:=decide (-10<=s.x)&&decide (s.x<=10)&&decide (-10<=s.y)&&decide (s.y<=10)&&decide (-1<=s.dx)&&decide (s.dx<=1)&&decide (-1<=s.dy)&&decide (s.dy<=1)&&decide (1<=s.left)&&decide (s.left<=100)&&decide (1<=s.leg)&&decide (s.leg<=100)&&decide (0<=s.turns)&&decide (s.turns<=100)
theorem acS:∀n,n<64->(jx n).ok=eX:=o6
theorem abv:∀n,n<64->(bz n).ok=eX:=o6
theorem abw:∀n,n<64->((jx n).ax==cW (bz n).x&&(jx n).ay==cW (bz n).y&&decide (-4<=(bz n).x)&&decide ((bz n).x<=4)&&decide (-4<=(bz n).y)&&decide ((bz n).y<=4))=eX:=o6
theorem abx:∀i,i<9->∀j,j<9->gU.sub (cW ((i:Nat)-4:Int)) (cW ((j:Nat)-4:Int))=dB (cW ((i:Int)-(j:Int))):=o6
theorem aby:∀i,i<17->gU.mul (cW ((i:Nat)-8:Int)) (cW ((i:Nat)-8:Int))=dB (cW (((i:Nat)-8:Int)*((i:Nat)-8:Int))):=o6
theorem abz:∀i,i<9->∀j,j<9->gU.add (cW (((i:Nat):Int)*(i:Nat))) (cW (((j:Nat):Int)*(j:Nat)))=dB (cW (((i:Nat):Int)*(i:Nat)+((j:Nat):Int)*(j:Nat))):=o6
theorem Uf:∀m,m<129->∀n,n<129->gU.order (cW (m:Nat)) (cW (n:Nat))=dB (compare m n):=o6
theorem Jl{α:Type}{R:α->α->Prop}(n:∀a b c,R a b->R b c->R a c){l:List α}(h:∀i (g:i+1<n4 l),R (l[i]'n7) l[i+1]):l.Pairwise R:=by
 have f:∀d i (m:i+(d+1)<n4 l),R (l[i]'n7) l[i+(d+1)]:=by
  intro d
  induction d with
  |zero=>omega
  |succ d ih=>grind
 refine zb.2 λi j g m k=>?_;have:=f (j-i-1) i n7;have e:i+(j-i-1+1)=j:=n7
 grind
theorem Jm{α:Type}{R:α->α->Prop}{l:List α}(h:l.Pairwise R)(i:Nat)(a:i+1<n4 l):R (l[i]'n7) l[i+1]:=zb.1 h i (i+1) n7 a n7
theorem rC{α:Type}{l:List α}{i:Nat}(d:α)(h:i<n4 l:=by omega):l.getD i d=l[i]:=o4
theorem oa(n a b:Int):dM n a b=eX↔a<=n/\n<=b:=by unfold dM;simp
theorem Ug(l:aC)(e:Int):ow l e=eX↔l.Pairwise (·<·)/\∀x∈l,0<=x/\x<=e:=by
 unfold ow;rw[qP];constructor
 .intro h;have k:∀i (d:i<n4 l),(0<=l[i]/\l[i]<=e)/\(i=0∨l.getD (i-1) 0<l[i]):=λi d=>by
   have:=h i (qY.2 d);unfold fL at this;rw[qC,oa,]at this
   grind
  refine⟨Jl (R:=λa b:Int=>a<b) (λa b c f g=>Int.lt_trans f g) λi d=>?_,λx j=>?_⟩
  .grind
  .obtain⟨i,d,rfl⟩:=qE j;exact(k i d).1
 .rintro⟨f,g⟩ i d;have d:=qY.1 d;unfold fL;rw[rC 0 d,qC,oa,yu,decide_eq_true_eq,decide_eq_true_eq];refine⟨g _ (qe d),?_⟩;cases i with
  |zero=>simp
  |succ i=>exact .inr (by rw[rC 0];exact Jm f i d)
theorem oG(a b c:ByteArray)(d:cQ a b=eX)(e:cQ b c=eX):cQ a c=eX:=DW _ _ _ d e
theorem cJ(m:aB):bE m=eX↔kp m=eX/\m.drives.Pairwise (·<·)/\(∀k∈m.drives,0<=k/\k<=63)/\m.objs.length<=12/\(∀e∈m.objs,gv m e=eX)/\m.objs.Pairwise (λa b=>cQ a.name b.name=eX)/\m.objs.Pairwise (λa b=>a.object≠b.object):=by
 unfold bE;rw[qC,qC,qC,Ug,decide_eq_true_eq,qP];have q:(∀i∈qy m.objs.length,ko m i=eX)↔(∀e∈m.objs,gv m e=eX)/\m.objs.Pairwise (λa b=>cQ a.name b.name=eX)/\m.objs.Pairwise (λa b=>a.object≠b.object):=by
  constructor
  .intro h;have p:∀i (l:i<m.objs.length),gv m m.objs[i]=eX/\(i=0∨cQ (jl m.objs (i-1)).name m.objs[i].name=eX)/\∀y∈m.objs.take i,y.object≠m.objs[i].object:=λi l=>by
    have:=h i (qY.2 l);unfold ko at this;rw[lD l,qC,qC,yu,decide_eq_true_eq,w7,wg]at this;exact⟨this.1,this.2.1,λy o=>by have:=this.2.2 y o;simpa using this⟩
   refine⟨λe t=>?_,Jl (R:=λa b:cT=>cQ a.name b.name=eX) (λa b c r n=>oG _ _ _ r n) λi l=>?_,zb.2 λi j l s u=>?_⟩
   .obtain⟨i,l,rfl⟩:=qE t;exact(p i l).1
   .rcases(p (i+1) l).2.1 with h0|h0
    .omega
    .rw[Nat.add_sub_cancel,lD]at h0;exact h0
   .refine(p j s).2.2 m.objs[i] ?_;exact zV.2 ⟨i,n7,n5⟩
  .rintro⟨r,n,h3⟩ i l;have l:=qY.1 l;unfold ko;rw[lD l,qC,qC,yu,decide_eq_true_eq,w7,wg];refine⟨r _ (qe l),?_,λy o=>?_⟩
   .cases i with
    |zero=>exact .inl n5
    |succ i=>exact .inr (by rw[Nat.add_sub_cancel,lD];exact Jm n i l)
   .obtain⟨j,s,rfl⟩:=zV.1 o;have:=zb.1 h3 j i n7 l n7;simpa using this
 rw[q];constructor
 .rintro⟨a,⟨b,c⟩,d,e,f,g⟩;exact⟨a,b,c,d,e,f,g⟩
 .rintro⟨a,b,c,d,e,f,g⟩;exact⟨a,⟨b,c⟩,d,e,f,g⟩
theorem iT(m:aB):kp m=eX↔(1<=m.seq/\m.seq<=2147483647)/\(0<=m.next/\m.next<=16777216)/\bH m.p=eX/\0<=m.extra/\m.extra<=16:=by unfold kp;rw[qC,qC,qC,oa,oa,oa]
theorem iI(m:aB)(x:cT):gv m x=eX↔gJ x.name=eX/\(0<=x.object/\x.object<m.next)/\(0<=x.length/\x.length<=m.p.1*m.p.2.2*8)/\(∀t∈x.tries,0<=t/\t<=15)/\(x.tries.length:Int)=countP m.p x.length:=by
 unfold gv;rw[qC,qC,qC,qC,oa,oa,qP,decide_eq_true_eq];simp only[oa];constructor
 .rintro⟨a,b,c,d,e⟩;exact⟨a,⟨b.1,n7⟩,c,d,e⟩
 .rintro⟨a,b,c,d,e⟩;exact⟨a,⟨b.1,n7⟩,c,d,e⟩
theorem gx{m:aB}(h:bE m=eX):∀k∈m.drives,0<=k/\k<64:=λk a=>by have:=((cJ m).1 h).2.2.1 k a;omega
theorem LU:∀{l:aC} {a b:Int},l.Pairwise (·<·)->(∀k∈l,a<=k/\k<b)->a<=b->(n4 l:Int)<=b-a
 |[],a,b,_,_,h=>oi
 |x::l,a,b,hp,hl,h=>by
  obtain⟨d,e⟩:=zt.1 hp;have f:=hl x qR;have:=LU (a:=x+1) (b:=b) e (λk c=>⟨by have:=d k c;omega,(hl k (List.mem_cons_of_mem _ c)).2⟩) n7;rw[q7];omega
theorem gn{m:aB}(h:bE m=eX):n4 m.drives<=64:=by have:=LU ((cJ m).1 h).2.1 (gx h) n8;omega
end Go.Qw
