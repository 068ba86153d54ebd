/- Lemmas for the proof of the law; no condition. -/
import Derived.Test.YtmobnmonkaacaaaGreatDoorDVcA
import Derived.Sort.Grow
import Derived.Lib.SlicesCompact
import Derived.Lib.RowBridge
import Derived.Shelf.SlSortCmp.NoneTotal
set_option linter.unusedVariables false
set_option linter.unusedSimpArgs false
open UInt8 renaming ofNat -> zI
open Nat renaming min_eq_left -> wK
open List renaming mem_or_eq_of_mem_set -> wm, range -> qy, replicate -> qf, set_comm -> vb, set_eq_take_append_cons_drop -> yE, size_toArray -> yK, take -> yt, zipWith -> zj
open Prod renaming fst -> qC
open Go.IntKind renaming bits -> qq, i64 -> xP, signed -> yC, u32 -> xR, u64 -> xS, u8 -> xQ, wrap -> qd
open BitVec renaming ofInt -> qF, ofNat_toNat -> vF, setWidth_eq -> vG
open Int renaming fdiv -> zp, tmod -> xB
open Go.Value renaming int -> xJ
open Array renaming ext' -> vj, ext_getElem? -> yW, range -> xD, toList_map -> xf
open Go.Builtin renaming append_ -> q6, clear_ -> vO, copy_ -> w6, firstCells -> wI, nextslicecap -> yM, zeroCells -> yq
open Bool renaming or_eq_true -> yx
open Go.Instr renaming alloc -> yd, box -> vM, buildSlice -> zE, fill -> wz, makeSlice -> zB, storeAt -> qG
set_option maxRecDepth 100000
open Option renaming some -> dB, none -> eH
open Bool renaming true -> eL, false -> eR
open Go renaming Value -> eX, Addr -> fY
open Go.Qw renaming cellOf -> hU, Heap -> hY
open List renaming length -> m8
namespace Go.Qw
namespace Gf
theorem LK{p:UInt8->Prop}(h:∀n,n<256->p (zI n))(a:UInt8):p a:=by
 have:=h a.toNat (UInt8.toNat_lt a)
 rwa [UInt8.ofNat_toNat]at this
def x2(a:UInt8):UInt8:=(a<<<1)^^^(if a&&&0x80=0 then 0 else 0x1b)
def x3(a:UInt8):UInt8:=x2 a^^^a
def pw:Nat->UInt8
 |0=>1
 |n+1=>x3 (pw n)
theorem aaD(a b c:UInt8):(a^^^b)&&&c=(a&&&c)^^^(b&&&c):=by apply UInt8.toBitVec_inj.1;ext i hi;simp[Bool.and_xor_distrib_right]
theorem aaE(a b:UInt8):(a^^^b)<<<1=(a<<<1)^^^(b<<<1):=by apply UInt8.toBitVec_inj.1;simp[BitVec.shiftLeft_xor_distrib]
theorem LL:∀a:UInt8,a&&&0x80=0∨a&&&0x80=0x80:=LK oi
theorem acg(a b c d:UInt8):(a^^^b)^^^(c^^^d)=(a^^^c)^^^(b^^^d):=by ac_rfl
theorem ach(a b:UInt8):x2 (a^^^b)=x2 a^^^x2 b:=by
 unfold x2;rw[aaD,aaE];rcases LL a with ha|ha<;>rcases LL b with hb|hb<;>rw[ha,hb]
 .simp
 .grind
 .grind
 .rw[acg];simp
theorem aci(a b:UInt8):x3 (a^^^b)=x3 a^^^x3 b:=by unfold x3;rw[ach,acg]
def tO:Nat->UInt8->UInt8
 |0,a=>a
 |n+1,a=>x3 (tO n a)
theorem Qg(a b:UInt8):∀n,tO n (a^^^b)=tO n a^^^tO n b
 |0=>rfl
 |n+1=>by simp only[tO,Qg a b n,aci]
theorem Iz(a:UInt8)(m:Nat):∀n,tO (n+m) a=tO n (tO m a)
 |0=>by simp[tO]
 |n+1=>by rw[Nat.add_right_comm];simp only[tO,Iz a m n]
theorem LM:∀n,tO n 0=0
 |0=>rfl
 |n+1=>by rw[tO,LM n];rfl
theorem AC:∀n,pw n=tO n 1
 |0=>rfl
 |n+1=>by rw[pw,tO,AC n]
def aen:Nat:=939374623831894136699086600277250597547650664638770418422125146541797353646788332867483593573384618611044815625336497665827114626705134492515730415652478061620339993830966980270842846318821775850471098591710629241171812800746666233448222972174585295916389942636813666312872914849454985560152530477328703759683306625234997237483834721220409437442253146756845415190424543171129629468776480674528486868811725071010351012234056630775688111116293610821126543142160426617079940511630006820862697466582575257349116925728488930366609138264019883664906661504235885380294353134295748489096855100647154935187045898006656778240
def lg(a:UInt8):Nat:=(aen>>>(8*a.toNat))%256
theorem GL:∀a:UInt8,lg a<255:=LK oi
theorem RT:∀a:UInt8,a≠0->pw (lg a)=a:=LK oi
theorem RU:∀n,n<255->lg (pw n)=n:=oi
theorem acj:pw 255=1:=pa
theorem RV:∀n,n<255->pw n≠0:=oi
theorem Uq(n:Nat):pw (n+255)=pw n:=by rw[AC,Iz,<-AC 255,acj,<-AC]
theorem Ur(n:Nat):pw (n%255)=pw n:=by
 have:∀k m,pw (m+255*k)=pw m:=by
  intro k
  induction k with
  |zero=>simp
  |succ k ih=>intro m;rw[Nat.mul_succ,<-w7,Uq,ih]
 have h:=this (n/255) (n%255)
 grind
def mul(a b:UInt8):UInt8:=if a=0∨b=0 then 0 else pw ((lg a+lg b)%255)
def inv(a:UInt8):UInt8:=if a=0 then 0 else pw ((255-lg a)%255)
theorem mul_zero(a:UInt8):mul a 0=0:=by simp[mul]
theorem zero_mul(a:UInt8):mul 0 a=0:=rfl
theorem mul_comm(a b:UInt8):mul a b=mul b a:=by
 unfold mul
 grind
theorem LN(a b:UInt8)(d:a≠0):mul a b=tO (lg a) b:=by
 by_cases c:b=0
 .subst c;rw[mul_zero,LM]
 .rw[mul,k4 n8,Ur,AC,Iz,<-AC,RT b c]
theorem jL(a b c:UInt8):mul a (b^^^c)=mul a b^^^mul a c:=by
 by_cases d:a=0
 .subst d;simp[zero_mul]
 .rw[LN _ _ d,LN _ _ d,LN _ _ d,Qg]
theorem Qh(a b c:UInt8):mul (a^^^b) c=mul a c^^^mul b c:=by rw[mul_comm,jL,mul_comm c a,mul_comm c b]
theorem Us{a b:UInt8}(c:a≠0)(d:b≠0):mul a b≠0:=by rw[mul,k4 n8];exact RV _ (vk _ nq)
theorem Ut{a b:UInt8}(c:a≠0)(d:b≠0):lg (mul a b)=(lg a+lg b)%255:=by rw[mul,k4 n8,RU _ (vk _ nq)]
theorem mul_assoc(a b c:UInt8):mul (mul a b) c=mul a (mul b c):=by
 by_cases f:a=0
 .subst f;rfl
 by_cases d:b=0
 .subst d;simp[zero_mul,mul_zero]
 by_cases e:c=0
 .subst e;simp[mul_zero]
 rw[mul,k4 (by simp[Us f d,e]),Ut f d,mul,k4 (by simp[f,Us d e]),Ut d e]
 grind
theorem ack:lg 1=0:=rfl
theorem one_mul(a:UInt8):mul 1 a=a:=by
 by_cases b:a=0
 .subst b;rfl
 .rw[mul,k4 n8,ack,w9,Ur,RT a b]
theorem mul_one(a:UInt8):mul a 1=a:=by rw[mul_comm,one_mul]
theorem acl{a:UInt8}(b:a≠0):inv a≠0:=by rw[inv,k4 b];exact RV _ (vk _ nq)
theorem AD{a:UInt8}(b:a≠0):mul a (inv a)=1:=by
 have c:=GL a;rw[mul,k4 (by simp[b,acl b]),inv,k4 b,RU _ (vk _ nq)];have:(lg a+(255-lg a)%255)%255=0:=nb
 rw[this];rfl
end Gf
open Go.Proofs
structure Pow where
 off:Bool
 fuse:Option Nat
 offs:Int
def Pow.new:Pow:=⟨eR,eH,0⟩
def Pow.step(w:Pow):Bool×Pow:=
 if w.off then(eR,w)else match w.fuse with
 |none=>(eL,w)
 |some 0=>(eR,⟨eL,dB 0,Go.IntKind.wrap .i64 (w.offs+1)⟩)
 |some (k+1)=>(eL,⟨eR,dB k,w.offs⟩)
def Pow.arm(w:Pow)(n:Int):Pow:=if w.off then w else⟨eR,if 0<=n then dB n.toNat else eH,w.offs⟩
def Pow.again(w:Pow):Pow:=⟨eR,eH,w.offs⟩
structure bu where
 room:Nat
 l:dT
 wait:Nat
 laid:dT
 has:Bool
 lost:Bool
def bu.new(a:Nat):bu:=⟨a,[],0,[],eR,eR⟩
def bu.append(w:Pow)(d:bu)(b:aT):Int×Pow×bu:=
 if b.length≠64 then(1,w,d)
 else if d.lost then(5,w,d)
 else if d.room<=m8 d.l then(7,w,d)
 else if w.off then(14,w,d)
 else if w.step.1 then(0,w.step.2,{d with l:=d.l++[b],wait:=d.wait+1,laid:=[],has:=eR})
 else(14,w.step.2,{d with l:=d.l++[b],wait:=d.wait+1})
def bu.sync(w:Pow)(d:bu):Int×Pow×bu:=
 if d.lost then(5,w,d)
 else if w.step.1 then(0,w.step.2,{d with wait:=0,laid:=[],has:=eR})
 else(14,w.step.2,d)
def bu.rewrite(w:Pow)(d:bu)(l:dT):Int×Pow×bu:=
 if !l.all (λb=>decide (m8 b=64))then(1,w,d)
 else if d.lost then(5,w,d)
 else if d.room<m8 l then(7,w,d)
 else if w.off then(14,w,d)
 else if w.step.1 then(0,w.step.2,{d with l:=l,wait:=0,laid:=[],has:=eR})
 else(14,w.step.2,{d with laid:=l,has:=eL})
def bu.IA(d:bu):bu:={d with lost:=eL,l:=[],wait:=0,laid:=[],has:=eR}
abbrev aG:=List (Option bu)
def bX(b:aG)(a:Int):Option bu:=if 0<=a/\a<64 then(b[a.toNat]?).join else eH
def iP(b:aG)(a:Int)(d:bu):aG:=b.set a.toNat (dB d)
def isLive(b:aG)(a:Int):Bool:=match bX b a with|some d=>!d.lost|none=>eR
def bh(b:aG)(a:aC):aC:=a.filter (isLive b)
def dX(w:Pow)(c:aG)(a:Int)(b:aT):Int×Pow×aG:=
 match bX c a with
 |none=>(if b.length≠64 then 1 else 5,w,c)
 |some d=>((d.append w b).1,(d.append w b).2.1,iP c a (d.append w b).2.2)
def fG(w:Pow)(b:aG)(a:Int):Int×Pow×aG:=
 match bX b a with
 |none=>(5,w,b)
 |some d=>((d.sync w).1,(d.sync w).2.1,iP b a (d.sync w).2.2)
def fX:List (Int×aT)->Pow->aG->Int×Pow×aG
 |[],w,ds=>(0,w,ds)
 |x::l,w,ds=>let r:=dX w ds x.1 x.2;if r.1=0 then fX l r.2.1 r.2.2 else r
def iY:aC->Pow->aG->Int×Pow×aG
 |[],w,ds=>(0,w,ds)
 |x::l,w,ds=>let r:=fG w ds x;if r.1=0 then iY l r.2.1 r.2.2 else r
theorem nf(x:Int)(l:aC)(w:Pow)(a:aG):iY (x::l) w a=if(fG w a x).1=0 then iY l (fG w a x).2.1 (fG w a x).2.2 else fG w a x:=rfl
theorem lu(x:Int×aT)(l:List (Int×aT))(w:Pow)(a:aG):fX (x::l) w a=if(dX w a x.1 x.2).1=0 then fX l (dX w a x.1 x.2).2.1 (dX w a x.1 x.2).2.2 else dX w a x.1 x.2:=rfl
def gA(l:aC):aC:=((qy 64).map λi:Nat=>(i:Int)).filter λi=>decide (i∈l)
def layAll(l:List (Int×aT))(w:Pow)(a:aG):Int×Pow×aG:=
 let r:=fX l w a
 if r.1=0 then iY (gA (l.map qC)) r.2.1 r.2.2 else r
def b8(n:Int):UInt8:=zI (n%256).toNat
theorem cg(n:Int):qd xQ n=((b8 n).toNat:Int):=by
 have e:((b8 n).toNat)=n%256:=by unfold b8;rw[UInt8.toNat_ofNat'];omega
 rw[e];rfl
abbrev rL:=BitVec 32
def tQ(s:rL):rL:=if s&&&1#32=1#32 then(s>>>1)^^^3988292384#32 else s>>>1
def om:Nat->rL->rL
 |0,s=>s
 |n+1,s=>tQ (om n s)
def Qi(s:rL)(x:UInt8):rL:=om 8 (s^^^BitVec.ofNat 32 x.toNat)
def mC(l:aT):rL:=l.foldl Qi 4294967295#32
def CL(l:aT):rL:=4294967295#32^^^mC l
theorem GM(l:aT)(x:UInt8):mC (l++[x])=Qi (mC l) x:=by unfold mC;simp
theorem LO(s:rL):qd xR ((s.toNat:Nat):Int)=(s.toNat:Int):=by unfold qd;simp[qq,yC];omega
theorem Ej(a b:rL):qd xR ((qF (qq xR) (a.toNat:Int)^^^qF (qq xR) (b.toNat:Int)).toNat:Nat)=((a^^^b).toNat:Int):=by show qd xR (((qF 32 (a.toNat)^^^qF 32 (b.toNat)).toNat))=_;rw[wH,wH,vF,vF,vG,vG,LO]
theorem ZI(a b:rL):qd xR ((qF (qq xR) (a.toNat:Int)&&&qF (qq xR) (b.toNat:Int)).toNat:Nat)=((a&&&b).toNat:Int):=by show qd xR (((qF 32 (a.toNat)&&&qF 32 (b.toNat)).toNat))=_;rw[wH,wH,vF,vF,vG,vG,LO]
theorem CM(n:Int):qd xR n=((qF 32 n).toNat:Int):=by unfold qd;simp[qq,yC,];omega
theorem Qj(s:rL):zp (s.toNat:Int) (2^min (1:Int).toNat (qq xR))=((s>>>1).toNat:Int):=by rw[show min (1:Int).toNat (qq xR)=1 from m9,Int.fdiv_eq_ediv_of_nonneg _ nq,BitVec.toNat_ushiftRight,Nat.shiftRight_eq_div_pow];simp
theorem Ek(s:rL):((s&&&1#32).toNat:Int)=1↔s&&&1#32=1#32:=by
 constructor
 .intro h;apply BitVec.eq_of_toNat_eq
  grind
 grind
def sl(s:rL):aT:=(qy 4).map λi=>b8 (zp (s.toNat:Int) (2^(8*i)))
theorem LP(s:rL):(sl s).length=4:=rfl
def fk(b:Int)(a:aT):aT:=[87,115,1,b8 b]++a++qf (55-m8 a) 0
def eZ(a:Int)(b:aT):aT:=
 if 1<=a/\a<=255/\b.length<=55 then fk a b++sl (CL (fk a b))++[165]else[]
theorem tR{b:Int}{a:aT}(h:m8 a<=55:=by omega):(fk b a).length=59:=by simp[fk];omega
theorem nE{a:Int}{b:aT}(d:1<=a)(c:a<=255)(h3:m8 b<=55):(eZ a b).length=64:=by unfold eZ;rw[hZ ⟨d,c,h3⟩];simp[tR h3,LP]
variable {A B:Prop}
theorem ae{p:Prop}[Decidable p](a:p->A)(b:¬p->B):Br (decide p) A B:=by
 by_cases h:p
 .rw[ln h];exact a h
 .rw[m5 h];exact b h
theorem aZ{a b:Int}(d:a=b->A)(c:a≠b->B):Br (a==b) A B:=by
 by_cases h:a=b
 .rw[beq_iff_eq.2 h];exact d h
 .rw[beq_eq_false_iff_ne.2 h];exact c h
theorem bm{a b:Int}(d:a≠b->A)(c:a=b->B):Br (a !=b) A B:=by
 by_cases h:a=b
 .rw[show(a !=b)=eR by simp[h]];exact c h
 .rw[show(a !=b)=eL by simp[h]];exact d h
theorem aS{b:Bool}(a:b=eL->A)(c:b=eR->B):Br b A B:=by
 cases b
 .exact c m9
 .exact a m9
theorem aH{b:Bool}(a:b=eR->A)(c:b=eL->B):Br (!b) A B:=by
 cases b
 .exact a m9
 .exact c m9
theorem Fz{b:Bool}(h:b=eL)(a:A):Br b A B:=by subst h;exact a
theorem sn{b:Bool}(h:b=eR)(a:B):Br b A B:=by subst h;exact a
theorem aE{σ:Type}{rest:σ->hY->Prop}{B:(σ->hY->Prop)->Prop}(h:B rest):ku rest B:=⟨rest,λ_ _ x=>x,h⟩
theorem bn{σ:Type}{rest:σ->hY->Prop}{B:(σ->hY->Prop)->Prop}(R:σ->hY->Prop)(b:B R)(a:∀s h,R s h->rest s h):ku rest B:=⟨R,a,b⟩
theorem ak{σ:Type}{B:σ->(σ->hY->Prop)->hY->Prop}{s:σ}{h:hY}{τ:Type}(V:τ->σ)(I:τ->hY->Prop)(μ:τ->Nat)(t0:τ)(b:s=V t0)(c:I t0 h)
  (d:∀t h,I t h->B (V t) (λe h'=>∃a,e=V a/\I a h'/\μ a<μ t) h):gr B s h:=⟨τ,V,I,μ,t0,b,c,d⟩
abbrev ar:=Nat->Prop
def aQ(p:ar)(h h':hY):Prop:=h.size<=h'.size/\∀b,b<h.size->p b->h'[b]?=h[b]?
def Sl.on(s:Sl)(b:Nat):Prop:=∃o,s.ptr=dB ⟨b,o,eH⟩
variable {p q:ar} {h h' h'':hY}
theorem aQ.refl(p:ar)(h:hY):aQ p h h:=⟨qj _,λ_ _ _=>rfl⟩
theorem aQ.trans(a:aQ p h h')(b:aQ p h' h''):aQ p h h'':=⟨qX a.1 b.1,λk d c=>(b.2 k (qU d a.1) c).trans (a.2 k d c)⟩
theorem aQ.then(a:aQ p h h')(b:aQ q h' h'')(e:∀k,k<h.size->p k->q k):aQ p h h'':=⟨qX a.1 b.1,λk c d=>(b.2 k (qU c a.1) (e k c d)).trans (a.2 k c d)⟩
theorem aQ.mono(a:aQ p h h')(e:∀b,b<h.size->q b->p b):aQ q h h':=⟨a.1,λk c d=>a.2 k c (e k c d)⟩
theorem aQ.push(p:ar)(h:hY)(o:Obj):aQ p h (h.push o):=⟨n4,λb a _=>n8⟩
theorem di{a:fY}{v:eX}(b:hU h a=dB v):a.block<h.size:=by
 unfold hU at b
 grind
theorem lt_of_block{b:Nat}{o:Obj}(a:h[b]?=dB o):b<h.size:=(Array.getElem?_eq_some_iff.1 a).1
theorem aQ.cell(a:aQ p h h'){x:fY}{v:eX}(b:p x.block)(c:hU h x=dB v):hU h' x=dB v:=by
 have:=a.2 _ (di c) b;unfold hU at*
 grind
theorem aQ.block(a:aQ p h h'){b:Nat}{o:Obj}(d:p b)(c:h[b]?=dB o):h'[b]?=dB o:=by rw[a.2 b (lt_of_block c) d];exact c
theorem aQ.cells(a:aQ p h h'){x:fY}(b:p x.block):∀{vs:aR} {i:Nat},bp h x i vs->bp h' x i vs
 |[],_,_=>trivial
 |v::r,i,hc=>⟨a.cell (by unfold Addr.add;grind) hc.1,aQ.cells a b hc.2⟩
theorem add_eq(b o n:Nat):(⟨b,o,eH⟩:fY).add n=⟨b,o+n,eH⟩:=by unfold Addr.add;simp
theorem add_zero(a:fY):a.add 0=a:=rfl
theorem Bi{h:hY}{b o:Nat}{c:Array eX}{e:TypeId}{f:Nat×Nat}(a:h[b]?=dB (.cells c e f)):hU h ⟨b,o,eH⟩=c[o]?:=by unfold hU;grind
theorem Xy{h:hY}{b o:Nat}{c:Array eX}{e:TypeId}(a:h[b]?=dB (.cells c e (0,0))):Rn h ⟨b,o,eH⟩=eR:=by unfold Rn;grind
structure Seq {α:Type} (h:hY) (p:ar) (s:Sl) (k:Nat) (f:α->aR) (l:List α):Prop where
 len:s.len=m8 l
 elem:∀i x,l[i]?=dB x->∃b o,s.ptr=dB ⟨b,o,eH⟩/\p b/\bp h ⟨b,o+i*k,eH⟩ 0 (f x)
variable {α:Type} {s:Sl} {k:Nat} {f:α->aR} {l:List α}
theorem Seq.ac(a:Seq h p s k f l)(d:aQ p h h'):Seq h' p s k f l:=⟨a.len,λi x e=>by
 obtain⟨b,o,g,c,h3⟩:=a.elem i x e;exact⟨b,o,g,c,d.cells c h3⟩⟩
theorem Seq.mono(a:Seq h p s k f l)(e:∀b,p b->q b):Seq h q s k f l:=⟨a.len,λi x c=>by
 obtain⟨b,o,g,d,h3⟩:=a.elem i x c
 grind⟩
theorem Seq.nil(h:hY)(p:ar)(c:Nat)(a:bx)(k:Nat)(f:α->aR):Seq h p ⟨a,0,c⟩ k f []:=⟨m9,λi x b=>n8⟩
theorem Seq.aW{X:Type}{g:X->eX}(c:Seq h p s 1 f l){i:Int}(n:Nat)(m:i=n)(e:n<m8 l)(x:X)(d:f l[n]=[g x]){K:X->Prop}(k:K x):
  ∃a:fY,(s.ptr=dB a/\0<=i/\i<((s.len:Nat):Int))/\∃x:X,hU h (a.add (i.toNat*1))=dB (g x)/\K x:=by
 obtain⟨b,o,j,_,h3⟩:=c.elem n l[n] (qc e);refine⟨_,⟨j,nb,by rw[c.len];omega⟩,x,?_,k⟩;rw[d]at h3;have:=h3.1;rw[add_eq,]at this;rw[add_eq];grind
theorem Seq.cQ{X:Type}{g:X->aR}(c:Seq h p s k f l){i:Int}(n:Nat)(q:i=n)(d:n<m8 l)(x:X)(m:f l[n]=g x){K:X->Prop}(j:K x):
  ∃a:fY,(s.ptr=dB a/\0<=i/\i<((s.len:Nat):Int))/\∃x:X,bp h (a.add (i.toNat*k)) 0 (g x)/\K x:=by
 obtain⟨b,o,e,_,h3⟩:=c.elem n l[n] (qc d);refine⟨_,⟨e,nb,by rw[c.len];omega⟩,x,?_,j⟩;rw[add_eq]
 grind
def av(n:Int):aR:=[xJ xP n]
def aq(n:UInt8):aR:=[xJ xQ n.toNat]
def fw(b:Bool):aR:=[.bool b]
def bv(s:Sl):aR:=[.slice s.ptr s.len s.cap]
structure gW {α:Type} (h:hY) (p:ar) (s:Sl) (k:Nat) (f:α->aR) (ll:List (List α)) (rs:List Sl):Prop where
 top:Seq h p s 1 bv rs
 len:m8 rs=m8 ll
 row:∀(i:Nat) (r:Sl) (l:List α),rs[i]?=dB r->ll[i]?=dB l->Seq h p r k f l
variable {ll:List (List α)} {rs:List Sl}
theorem gW.ac(a:gW h p s k f ll rs)(b:aQ p h h'):gW h' p s k f ll rs:=⟨a.top.ac b,a.len,λi r l d c=>(a.row i r l d c).ac b⟩
theorem gW.mono(a:gW h p s k f ll rs)(c:∀b,p b->q b):gW h q s k f ll rs:=⟨a.top.mono c,a.len,λi r l e d=>(a.row i r l e d).mono c⟩
theorem gW.LQ(a:gW h p s k f ll rs):s.len=m8 ll:=by rw[a.top.len,a.len]
theorem gW.get(c:gW h p s k f ll rs){i:Int}(n:Nat)(g:i=n)(d:n<m8 ll){K:Sl->Prop}(j:∀r,Seq h p r k f ll[n]->rs[n]?=dB r->K r):
  ∃a:fY,(s.ptr=dB a/\0<=i/\i<((s.len:Nat):Int))/\∃x:Sl,hU h (a.add (i.toNat*1))=dB (.slice x.ptr x.len x.cap)/\K x:=by
 have b:n<m8 rs:=by rw[c.len];exact d
 have e:rs[n]?=dB rs[n]:=qc b;exact c.top.aW n g b rs[n] m9 (j _ (c.row n _ _ e (qc d)) e)
structure Own {α:Type} (h:hY) (e:TypeId) (s:Sl) (k:Nat) (f:α->aR) (l:List α):Prop where
 len:s.len=m8 l
 head:(s.ptr=eH/\s.cap=0/\l=[])∨∃b rest,s.ptr=dB ⟨b,0,eH⟩/\h[b]?=dB (.cells (l.flatMap f++rest).toArray e (0,0))/\rest.length=(s.cap-s.len)*k/\s.len<=s.cap
theorem dz{α:Type}{k:Nat}{f:α->aR}(a:∀x,(f x).length=k):∀(l:List α),(l.flatMap f).length=m8 l*k
 |[]=>n4
 |x::r=>by rw[zm,qo,a,dz a r,q7,zU];omega
theorem FA{α:Type}{k:Nat}{f:α->aR}(a:∀x,(f x).length=k):∀(l:List α) (i:Nat) (x:α),l[i]?=dB x->∃pre post,l.flatMap f=pre++f x++post/\pre.length=i*k
 |y::r,0,x,h=>by simp at h;subst h;simp
 |y::r,i+1,x,h=>by
  obtain⟨pre,post,c,b⟩:=FA a r i x n8;exact⟨f y++pre,post,n8,n8⟩
theorem Ad{h:hY}{b o:Nat}{e:TypeId}{fr:Nat×Nat}:∀{vs pre post:aR} {i:Nat},h[b]?=dB (.cells (pre++vs++post).toArray e fr)->m8 pre=o+i->bp h ⟨b,o,eH⟩ i vs
 |[],_,_,_,_,_=>trivial
 |v::r,pre,post,i,hb,hl=>by
  refine⟨?_,Ad (pre:=pre++[v]) (post:=post) (by simpa using hb) n8⟩;rw[add_eq,Bi hb,<-hl];simp
def ju(h:hY)(b:Nat)(o:Obj):hY:=h.setIfInBounds b o
theorem hJ{h:hY}{b c:Nat}{o x:Obj}(a:h[b]?=dB x):(ju h b o)[c]?=if b=c then dB o else h[c]?:=by
 unfold ju
 grind
theorem Uu{h:hY}{b o:Nat}{c:Array eX}{e:TypeId}{f:Nat×Nat}{v:eX}(a:h[b]?=dB (.cells c e f)):Ro h ⟨b,o,eH⟩ v=ju h b (.cells (c.setIfInBounds o v) e f):=by
 apply yW;intro i;rw[hJ a];simp only[Ro,]
 grind
theorem Uv(h:hY)(b:Nat)(o a:Obj):ju (ju h b o) b a=ju h b a:=by unfold ju;simp
theorem aQ.ju{p:ar}{h:hY}{b:Nat}{o x:Obj}(d:h[b]?=dB x)(a:¬p b):aQ p h (ju h b o):=⟨by simp[Qw.ju],λc _ f=>by
 rw[hJ d,k4 λe=>a n8]⟩
theorem fc{P:Program}{b o:Nat}{e:TypeId}{K:Unit->hY->Prop}:∀{vs pre old post:aR} {i:Nat} {h:hY},h[b]?=dB (.cells (pre++old++post).toArray e (0,0))->m8 old=m8 vs->m8 pre=o+i->
  (∀v∈vs,v.oneCell'=eL)->K () (ju h b (.cells (pre++vs++post).toArray e (0,0)))->au P (storeCells ⟨b,o,eH⟩ vs i) h K
 |[],pre,old,post,i,h,hb,hl,hp,hv,hk=>by
  have:old=[]:=qR nb;refine au.pure' ?_;have g:ju h b (.cells (pre++[]++post).toArray e (0,0))=h:=by
   apply yW;intro c;rw[hJ hb]
   grind
  grind
 |v::r,pre,old,post,i,h,hb,hl,hp,hv,hk=>by
  cases old with
  |nil=>grind
  |cons u old=>
   refine au.bind ?_;rw[add_eq];have d:hU h ⟨b,o+i,eH⟩=dB u:=by rw[Bi hb,<-hp];simp
   refine au.abB (hv v n4) d (Xy hb) ?_;rw[Uu hb];have a:(pre++(u::old)++post).toArray.setIfInBounds (o+i) v=((pre++[v])++old++post).toArray:=by rw[<-hp];simp
   rw[a];refine fc (e:=e) (pre:=pre++[v]) (old:=old) (post:=post) ?_ n8 n2 (λx f=>hv x n8) ?_
   .rw[hJ hb,hZ rfl]
   .rw[Uv];grind
theorem IB{P:Program}{h:hY}{a:fY}{vs:aR}{n:Nat}{K:Array eX->hY->Prop}(e:m8 vs=n)(c:bp h a 0 vs)(d:K vs.toArray h):au P (loadCells a n) h K:=λw b=>by
 subst b;refine⟨vs.toArray,w,?_,dm.refl w,d⟩;have:=run_loadCells (P:=P) (w:=w) (a:=a) vs 0 #[] c;unfold loadCells
 grind
variable {e:TypeId}
theorem Own.lt(c:Own h e s k f l){b:Nat}(a:s.on b):b<h.size:=by
 rcases c.head with⟨h1,_,_⟩|⟨b',rest,h1,h2,_,_⟩
 .obtain⟨o,h0⟩:=a;grind
 .obtain⟨o,h0⟩:=a
  grind
theorem Own.ac(c:Own h e s k f l)(d:aQ p h h')(a:∀b,s.on b->p b):Own h' e s k f l:=⟨c.len,by
 rcases c.head with h1|⟨b,rest,h1,h2,h3,h4⟩
 .grind
 .exact .inr ⟨b,rest,h1,d.block (a b ⟨0,h1⟩) h2,h3,h4⟩⟩
theorem Own.seq(c:Own h e s k f l)(d:∀x,(f x).length=k)(a:∀b,s.on b->p b):Seq h p s k f l:=⟨c.len,λi x g=>by
 rcases c.head with⟨_,_,h1⟩|⟨b,rest,h1,h2,h3,h4⟩
 .grind
 .obtain⟨pre,post,j,m⟩:=FA d l i x g;refine⟨b,0,h1,a b ⟨0,h1⟩,Ad (e:=e) (fr:=(0,0)) (pre:=pre) (post:=post++rest) ?_ nb⟩
  grind⟩
theorem Own.nil(h:hY)(e:TypeId)(k:Nat)(f:α->aR):Own h e ⟨eH,0,0⟩ k f []:=⟨m9,.inl ⟨m9,m9,m9⟩⟩
theorem Own.cap(a:Own h e s k f l):s.len<=s.cap:=by
 rcases a.head with⟨h1,h2,h3⟩|⟨b,rest,h1,h2,h3,h4⟩
 .have:=a.len;grind
 grind
theorem au.always{α:Type}{P:Program}{s:Sem α}{v:α}{h:hY}{K:α->hY->Prop}(a:aL P s v)(c:K v h):au P s h K:=λw b=>⟨v,w,a w,dm.refl w,n8⟩
structure bO (C:AA) (t e k:Nat) (z:aR) (by_:Nat):Prop where
 ex:∃i j,C.T.get t=dB i/\i.co=.slice e/\C.T.get e=dB j/\j.size=k/\j.zero=z/\j.bytes=by_
variable {t:Nat} {z:aR} {by_:Nat}
section
variable {C:Ctx} {e:Nat}
theorem bO.under(b:bO C.toAA t e k z by_)(a:C.Ok):C.P.underlying t=dB (.slice e):=by obtain⟨i,j,d,c,_⟩:=b.ex;have:=a.co d;rw[c]at this;exact iB this
theorem bO.size(b:bO C.toAA t e k z by_)(a:C.Ok):aL C.P (sizeOf e) k:=by obtain⟨i,j,_,_,d,c,_⟩:=b.ex;rw[<-c];exact eK a.toOk d
theorem bO.info(c:bO C.toAA t e k z by_)(b:C.Ok):∃f,C.P.info? e=dB f/\f.size=k/\f.bytes=by_/\∃a,f.zero=dB a/\a.cells=z.toArray:=by
 obtain⟨i,j,_,_,d,h,h3,m⟩:=c.ex;obtain⟨f,g,o,n,a,p,l⟩:=b.info d
 grind
end
def iQ(z:aR):Nat->aR
 |0=>[]
 |n+1=>z++iQ z n
theorem mI(z:aR):∀n,(iQ z n).length=n*m8 z
 |0=>by simp[iQ]
 |n+1=>by rw[iQ,qo,mI z n,zU];omega
theorem LR(z:aR):∀(n i:Nat),i<n*m8 z->(iQ z n)[i]?=z[i%m8 z]?
 |0,i,h=>nb
 |n+1,i,h=>by
  rw[iQ];by_cases a:i<m8 z
  .rw[qu a,Nat.mod_eq_of_lt a]
  .rw[qk nb,LR z n (i-m8 z) n8]
   conv=>rhs;rw[show i=(i-m8 z)+m8 z by omega,Nat.add_mod_right]
theorem LS(z:aR)(n m:Nat)(c:m=n*m8 z):((xD m).map λi=>z.toArray[i%z.toArray.size]!)=(iQ z n).toArray:=by
 apply yW;intro i;subst c;simp only[zN];by_cases b:i<n*m8 z
 .rw[LR z n i b];have a:0<m8 z:=Nat.pos_of_ne_zero λe=>n8
  have:=vk i a
  grind
 .rw[zf (by rw[mI];omega)];simp[b]
theorem tU(z:aR)(n:Nat):yq z.toArray n=(iQ z n).toArray:=LS z n _ (m9)
theorem Qk(a:Nat):∀(r c:Nat),Builtin.growBy a r c<=(c+768)*2^r
 |0,c=>by simp[Builtin.growBy]
 |r+1,c=>by
  unfold Builtin.growBy;split
  .exact qX (Nat.le_add_right c 768) (Nat.le_mul_of_pos_right _ (Nat.two_pow_pos _))
  .refine qX (Qk a r _) ?_;rw[Nat.pow_succ,Nat.mul_comm (2^r) 2,<-Nat.mul_assoc];exact zk _ nb
theorem adP(o n:Nat)(h:o<n):(o+768)*2^4<=16*n+16*768:=nb
theorem IC(a b:Nat)(h:b<a:=by omega):yM a b<=16*a+16*768:=by
 unfold yM;split
 .omega
 .split
  .omega
  .exact qX (Qk a 4 b) (adP _ _ h)
variable {t2:Nat} {v:Sl} {l2:List α}
section
variable {C:Ctx} {e:Nat}
theorem eC{P:Program}{K:Array eX->hY->Prop}(t:∀x,(f x).length=k)(d:Seq h p v k f l)(j:K (l.flatMap f).toArray h):
  au P (wI k v.len (.slice v.ptr v.len v.cap)) h K:=by
 cases hp:v.ptr with
 |none=>
  have:l=[]:=by
   cases l with
   |nil=>rfl
   |cons x r=>obtain⟨b,o,c,_⟩:=d.elem 0 x (rfl);grind
  subst this;exact au.pure' j
 |some a=>
  refine IB (by rw[dz t,<-d.len]) ?_ j;cases l with
  |nil=>trivial
  |cons s r0=>
   obtain⟨b,o,c,_,_⟩:=d.elem 0 s (rfl);rw[hp]at c;cases c;have g:∀(r:List α) (n:Nat),(∀i x,r[i]?=dB x->bp h ⟨b,o+(n+i)*k,eH⟩ 0 (f x))->bp h ⟨b,o,eH⟩ (n*k) (r.flatMap f):=by
    intro r
    induction r with
    |nil=>intro n _;trivial
    |cons x r ih=>
     intro n q;have h0:=q 0 x (m9);have z:=ih (n+1) (λi y A=>by have:=q (i+1) y (by simpa using A);grind);have app:∀(us vs:aR) (i:Nat),bp h ⟨b,o,eH⟩ i us->bp h ⟨b,o,eH⟩ (i+m8 us) vs->bp h ⟨b,o,eH⟩ i (us++vs):=by
      intro us
      induction us with
      |nil=>simp
      |cons u us ih=>intro vs i c z;exact⟨c.1,ih vs (i+1) c.2 n8⟩
     refine app _ _ _ ?_ n8;have e:∀(us:aR) (i m:Nat),bp h ⟨b,o+m,eH⟩ i us->bp h ⟨b,o,eH⟩ (m+i) us:=by
      intro us
      induction us with
      |nil=>intros;trivial
      |cons u us ih=>
       intro i m c;refine⟨?_,ih (i+1) m c.2⟩;have:=c.1;rw[add_eq]at this⊢;rw[<-w7];omega
     grind
   have:=g (s::r0) 0 (λi x w=>by
    obtain⟨B,D,c,_,h3⟩:=d.elem i x w
    grind)
   simpa using this
theorem RW(w:C.Ok)(D:bO C.toAA t e k z by_)(h2:∃i e2,C.T.get t2=dB i/\i.co=.slice e2)(V:m8 z=k)(L:0<by_/\by_<=128)(m:∀x,(f x).length=k)
  (y:Own h e s k f l) (G:Seq h p v k f l2) (n:∀x,∀c∈f x,c.oneCell'=eL) (ab:m8 l+m8 l2<=2^32) {ty:Nat} {K:Sl->hY->Prop}
  (M:∀O h',Own h' e O k f (l++l2)->aQ (λb=>¬s.on b) h h'->(∀b,O.on b->s.on b∨h.size<=b)->K O h'):
  bC C.P (q6 #[t,t2] ty #[.slice s.ptr s.len s.cap,.slice v.ptr v.len v.cap]) (.one (.sc .slc)) h K:=by
 obtain⟨i2,e2,g1,g2⟩:=h2;have I:C.P.underlying t2=dB (.slice e2):=by have:=w.co g1;rw[g2]at this;exact iB this
 obtain⟨Q,A,x2,x3,zv,x4,Y⟩:=D.info w;unfold bC q6;simp only[zN,wc,qO];refine au.bind (au.always (aK (D.under w)) ?_);refine au.bind (au.always (D.size w) ?_);refine au.bind (au.always (aK I) ?_);refine au.bind (au.pure' ?_);simp only[zc,if_false,wG,if_true];refine au.bind (au.pure' ?_);have r:=y.len;have E:=G.len;by_cases d:s.len+v.len<=s.cap
 .rw[hZ d];refine au.bind (eC m G ?_);rcases y.head with⟨p1,p2,p3⟩|⟨b,rest,p1,p2,p3,p4⟩
  .rw[p1];have B:l2=[]:=qR nb;subst B;refine au.pure' ⟨⟨eH,s.len+v.len,s.cap⟩,m9,M _ _ ⟨?_,.inl ⟨m9,p2,by simp[p3]⟩⟩ (aQ.refl _ _) ?_⟩
   .simp;omega
   .rintro S ⟨o,g⟩;cases g
  .rw[p1];refine au.bind ?_;rw[add_eq,w9];have j:=dz m l;have a:=dz m l2;have H:(l2.flatMap f).length<=m8 rest:=by rw[a,p3];exact zk k nb
   refine fc (e:=e) (pre:=l.flatMap f) (old:=rest.take (l2.flatMap f).length) (post:=rest.drop (l2.flatMap f).length) ?_ ?_ ?_ ?_ ?_
   .rw[ql,qA];exact p2
   .rw[qx];exact wK H
   .rw[j,r];omega
   .intro c hc;obtain⟨x,_,F⟩:=wM.1 hc;exact n x c F
   .refine au.pure' ⟨⟨dB ⟨b,0,eH⟩,s.len+v.len,s.cap⟩,m9,M _ _ ⟨?_,.inr ⟨b,rest.drop (l2.flatMap f).length,m9,?_,?_,d⟩⟩ ?_ ?_⟩
    .simp;omega
    .rw[hJ p2,hZ rfl];simp
    .rw[qH,p3,a,<-Nat.sub_mul];show(s.cap-s.len-m8 l2)*k=(s.cap-(s.len+v.len))*k;congr 1;omega
    .exact aQ.ju p2 (λX=>X ⟨0,p1⟩)
    .rintro S ⟨o,g⟩;cases g;exact .inl ⟨0,p1⟩
 .rw[k4 d];have u:Seq h (λ_=>True) s k f l:=y.seq m λ_ _=>trivial;have R:=y.cap;refine au.bind (au.always (cG A) ?_);rw[k4 λhh=>by rcases hh.2 with h|h<;>first|exact h|(rw[x3]at h;omega)];refine au.bind (au.always (cG A) ?_);have U:=IC (s.len+v.len) s.cap;rw[k4 (by
   have:yM (s.len+v.len) s.cap*Q.bytes<=(16*2^32+16*768)*128:=zq nb (by rw[x3];exact L.2);omega)]
  refine au.bind (au.Ed ⟨λZ=>(by cases Z),λ_ W=>?_⟩);refine au.bind (au.always (cG A) ?_);refine au.bind (au.Bb ?_);refine au.bind (eC m u ?_);refine au.bind (eC m G ?_);have N:aL C.P (zeroValue e) zv:=(cG A).bind (by rw[x4];exact .pure);refine au.bind (au.always N ?_);rw[Y,tU];unfold newRow;refine au.bind (au.bind (au.oh (au.pure' (au.pure' ?_))));generalize J:Question.cut (Question.appendCap (s.len+v.len) s.cap e) W=cc;have q:s.len+v.len<=cc:=by rw[<-J];simp only[Question.cut];omega
  refine⟨⟨dB ⟨h.size,0,eH⟩,s.len+v.len,cc⟩,m9,M _ _ ⟨?_,.inr ⟨h.size,iQ z (cc-(s.len+v.len)),m9,?_,?_,q⟩⟩ (aQ.push _ _ _) ?_⟩
  .simp;omega
  .simp
  .rw[mI,V]
  .rintro S ⟨o,g⟩;cases g;exact .inr (qj _)
end
structure bQ (h:hY) (a:fY) (e:TypeId) (cs:aR):Prop where
 off:a.off=0
 spot:a.spot=eH
 blk:h[a.block]?=dB (.cells cs.toArray e (0,0))
variable {a:fY} {cs:aR}
theorem bQ.addr(c:bQ h a e cs):a=⟨a.block,0,eH⟩:=by
 obtain⟨b,o,s⟩:=a;have:=c.off;have:=c.spot
 simp_all
theorem bQ.ac(b:bQ h a e cs)(d:aQ p h h')(c:p a.block):bQ h' a e cs:=⟨b.off,b.spot,d.block c b.blk⟩
theorem bQ.lt(b:bQ h a e cs):a.block<h.size:=lt_of_block b.blk
theorem bQ.cell(b:bQ h a e cs){j:Nat}{v:eX}(c:cs[j]?=dB v):hU h (a.add j)=dB v:=by
 rw[b.addr,add_eq,Bi b.blk]
 grind
theorem bQ.cell0(c:bQ h a e cs){v:eX}(b:cs[0]?=dB v):hU h a=dB v:=c.cell (j:=0) b
theorem bQ.cells(c:bQ h a e cs)(j:Nat)(vs:aR)(d:(cs.drop j).take vs.length=vs):bp h (a.add j) 0 vs:=by
 rw[c.addr,add_eq,];have b:m8 vs<=(cs.drop j).length:=n8
 rcases Nat.lt_or_ge cs.length j with hj|hj
 .rw[qH]at b;have:vs=[]:=qR nb;subst this;trivial
 .refine Ad (e:=e) (fr:=(0,0)) (pre:=cs.take j) (post:=(cs.drop j).drop vs.length) ?_ n8;have:cs.take j++vs++(cs.drop j).drop vs.length=cs:=by
   conv=>lhs;rw[ql];arg 2;arg 1;rw[<-d]
   rw[qA,qA]
  rw[this];exact c.blk
theorem bQ.aw(c:bQ h a e cs)(vs:aR)(b:cs.take vs.length=vs):bp h a 0 vs:=c.cells 0 vs b
variable {i:TI}
section
variable {C:Ctx}
theorem uN(c:C.Ok)(e:C.T.get t=dB i){K:fY->hY->Prop}(f:∀a h',a.block=h.size->bQ h' a t i.zero->aQ (λ_=>True) h h'->h'.size=h.size+1->K a h'):
  rv C.P (yd t eL (.tuple #[])) h K:=by
 obtain⟨z,d,b⟩:=ro c.toOk e;refine au.bind (au.always d ?_);refine au.bind (au.bind (au.bind (au.oh (au.pure' (au.pure' (au.pure' ?_))))));refine⟨⟨h.size,0,eH⟩,m9,f _ _ m9 ⟨m9,m9,?_⟩ (aQ.push _ _ _) n4⟩;rw[<-b];simp
theorem Ql{v:eX}{P:Program}{K:fY->hY->Prop}(b:∀a h',a.block=h.size->bQ h' a t v.cells.toList->aQ (λ_=>True) h h'->h'.size=h.size+1->K a h'):
  rv P (vM t v) h K:=by
 refine au.bind (au.bind (au.bind (au.oh (au.pure' (au.pure' (au.pure' ?_))))));refine⟨⟨h.size,0,eH⟩,m9,b _ _ m9 ⟨m9,m9,?_⟩ (aQ.push _ _ _) n4⟩;simp
theorem run_store(j:C.Ok){a:fY}{e:TypeId}{b:aR}(c:bQ h a e b)(k:C.T.get t=dB i)(off:Nat){v:eX}(vs:aR)(l:v.cells=vs.toArray)(d:i.size=m8 vs)
  (f:vs.all (·.oneCell')=eL) (g:off+m8 vs<=m8 b) {K:Unit->hY->Prop}
  (n:∀h',bQ h' a e (b.take off++vs++b.drop (off+m8 vs))->aQ (·≠a.block) h h'->h'.size=h.size->K () h'):
  au C.P (qG t (.pointer (dB (a.add off))) v) h K:=by
 have m:=c.addr;refine au.bind (au.pure' ?_);refine au.bind (au.always (eK j.toOk k) ?_);rw[l,d];simp only[yK,ne_eq,];rw[m,add_eq,];refine fc (e:=e) (pre:=b.take off) (old:=(b.drop off).take vs.length) (post:=b.drop (off+m8 vs)) ?_ ?_ ?_ ?_ ?_
 .have:b.take off++(b.drop off).take vs.length++b.drop (off+m8 vs)=b:=by rw[<-wu,ql,qA,qA]
  rw[this];exact c.blk
 .grind
 .grind
 .grind
 .refine n _ ⟨c.off,c.spot,?_⟩ (aQ.ju c.blk n4) (by simp[ju]);rw[hJ c.blk,hZ rfl]
theorem sI(g:C.Ok){a:fY}{e:TypeId}{c:aR}(j:bQ h a e c)(k:C.T.get t=dB i){v:eX}(vs:aR)(l:v.cells=vs.toArray)(d:i.size=m8 vs)
  (b:vs.all (·.oneCell')=eL) (f:m8 vs<=m8 c) {K:Unit->hY->Prop}
  (m:∀h',bQ h' a e (vs++c.drop vs.length)->aQ (·≠a.block) h h'->h'.size=h.size->K () h'):
  au C.P (qG t (.pointer (dB a)) v) h K:=
 run_store g j k 0 vs l d b nb (λh' x y z=>m h' n8 y z)
end
section
variable {C:Ctx} {e:Nat}
theorem CN{a:α}(b:f a=z):∀n,iQ z n=(qf n a).flatMap f
 |0=>rfl
 |n+1=>by rw[iQ,List.replicate_succ,zm,b,CN b n]
theorem af(x:Int)(b:-9223372036854775808<=x:=by omega)(a:x<=9223372036854775807:=by omega):qd xP x=x:=by
 show(if(eL&&decide (x%2^64>=2^63))=eL then x%2^64-2^64 else x%2^64)=x
 grind
theorem run_make(r:C.Ok)(j:bO C.toAA t e k z by_)(o:0<by_/\by_<=128)(w:α)(y:f w=z)(d:m8 z=k){J M:IntKind}{n c:Int}(m b:Nat)(F:n=m)(L:c=b)(l:m<=b)(p:b<=2^32)
  {K:Sl->hY->Prop} (E:∀i h',Own h' e i k f (qf m w)->i.ptr=dB ⟨h.size,0,eH⟩->i.cap=b->aQ (λ_=>True) h h'->h'.size=h.size+1->K i h'):
  bC C.P (zB t (.int J n) (.int M c)) (.one (.sc .slc)) h K:=by
 subst F;subst L;obtain⟨u,B,x2,x3,N,H,G⟩:=j.info r;refine au.bind (au.always (aK (j.under r)) ?_);refine au.bind (au.pure' ?_);refine au.bind (au.pure' ?_);refine au.bind (au.always (cG B) ?_);have I:qd xP (m)=m:=af _;have D:qd xP (b)=b:=af _;have O:¬((u.bytes)*(b)>2^48):=by
  have:by_*b<=128*2^32:=zq o.2 p
  grind
 simp only[I,D];rw[k4 n8];refine au.bind (au.Bb ?_);refine au.bind (au.always (j.size r) ?_);have q:aL C.P (zeroValue e) N:=(cG B).bind (by rw[H];exact .pure);have fin:∀g:Array eX,(b*k≠0->g=z.toArray)->au C.P (do
   let a<-newRow e ((xD (b*k)).map (g[·%g.size]!))
   pure (Value.slice (dB a) m b)) h (λv h'=>∃x:(Rt.one (.sc .slc)).den,v=(Rt.one (.sc .slc)).enc x/\K x h'):=by
  intro g s;have A:((xD (b*k)).map (g[·%g.size]!))=(iQ z b).toArray:=by
   by_cases h0:b*k=0
   .rw[];have:iQ z b=[]:=qR (by rw[mI,d,h0])
    grind
   .rw[s h0];exact LS z b _ (by rw[d])
  rw[];refine au.bind (au.bind (au.oh (au.pure' (au.pure' ?_))));refine⟨⟨dB ⟨h.size,0,eH⟩,m,b⟩,m9,E _ _ ⟨n4,.inr ⟨h.size,iQ z (b-m),m9,?_,?_,l⟩⟩ m9 m9 (aQ.push _ _ _) n4⟩
  .have:iQ z b=(qf m w).flatMap f++iQ z (b-m):=by
    rw[CN y,CN y,<-za,List.replicate_append_replicate]
    grind
   grind
  .rw[mI,d]
 simp only[qi];by_cases h0:b*k=0
 .rw[hZ h0];exact au.bind (au.pure' (fin _ λh=>absurd h0 h))
 .rw[k4 h0];refine au.bind (au.always q ?_);exact au.bind (au.pure' (fin _ λ_=>G))
theorem ID(p:C.Ok)(j:bO C.toAA t e k z by_)(g:m8 z=k){n:Nat}{parts:Array (Nat×eX)}(l:List α)(s:m8 l=n)(A:n*k<=2^20)
  (b:wz (λi=>dB (i*k,k)) (iQ z n).toArray parts.toList=dB (l.flatMap f).toArray) {K:Sl->hY->Prop}
  (r:∀o h',Own h' e o k f l->o.ptr=dB ⟨h.size,0,eH⟩->aQ (λ_=>True) h h'->h'.size=h.size+1->K o h'):
  bC C.P (zE t n parts) (.one (.sc .slc)) h K:=by
 obtain⟨B,y,x2,x3,D,w,u⟩:=j.info p;unfold bC zE;refine au.bind (au.always (aK (j.under p)) ?_);refine au.bind (au.always (j.size p) ?_);rw[k4 nb];have m:aL C.P (zeroValue e) D:=(cG y).bind (by rw[w];exact .pure);have fin:∀c:Array eX,(n*k≠0->c=z.toArray)->au C.P (do
   let dB cells:=wz (λi=>dB (i*k,k)) ((xD (n*k)).map (c[·%c.size]!)) parts.toList
    |stuck "buildSlice: a part of the wrong size"
   pure (Value.slice (dB (<-newRow e cells)) n n)) h (λv h'=>∃x:(Rt.one (.sc .slc)).den,v=(Rt.one (.sc .slc)).enc x/\K x h'):=by
  intro c q;have d:((xD (n*k)).map (c[·%c.size]!))=(iQ z n).toArray:=by
   by_cases h0:n*k=0
   .rw[h0];have:iQ z n=[]:=qR (by rw[mI,g,h0]);rw[this];simp
   .rw[q h0];exact LS z n _ (by rw[g])
  rw[d,b];refine au.bind (au.bind (au.oh (au.pure' (au.pure' ?_))));refine⟨⟨dB ⟨h.size,0,eH⟩,n,n⟩,m9,r _ _ ⟨s.symm,.inr ⟨h.size,[],m9,n4,n4,qj _⟩⟩ m9 (aQ.push _ _ _) n4⟩
 by_cases h0:n*k=0
 .rw[hZ h0];exact au.bind (au.pure' (fin _ λh=>absurd h0 h))
 .rw[k4 h0];refine au.bind (au.always m ?_);exact au.bind (au.pure' (fin _ λ_=>u))
theorem Own.set{i:TI}(D:C.Ok)(u:Own h e s k f l)(p:∀x,(f x).length=k)(G:C.T.get t=dB i){x:Int}(n:Nat)(z:x=n)(r:n<m8 l){m:eX}(y:α)(A:m.cells=(f y).toArray)(v:i.size=k)
  (j:(f y).all (·.oneCell')=eL) {K:hY->Prop} (B:∀h',Own h' e s k f (l.set n y)->aQ (λb=>¬s.on b) h h'->h'.size=h.size->K h'):
  ∃a:fY,(s.ptr=dB a/\0<=x/\x<((s.len:Nat):Int))/\au C.P (qG t (.pointer (dB (a.add (x.toNat*k)))) m) h λ_ h'=>K h':=by
 subst z;rcases u.head with⟨_,_,h3⟩|⟨b,rest,h1,h2,h3,h4⟩
 .subst h3;simp at r
 .refine⟨_,⟨h1,nb,by rw[u.len];omega⟩,?_⟩;unfold qG;refine au.bind (au.pure' ?_);unfold storeVar;refine au.bind (au.always (eK D.toOk G) ?_);rw[A,v];have q:=p y;simp only[yK,q,ne_eq,not_true,if_false];rw[add_eq,w9,qi];have d:l=l.take n++l[n]::l.drop (n+1):=by rw[<-List.drop_eq_getElem_cons r,qA]
  have g:l.set n y=l.take n++y::l.drop (n+1):=yE.trans (hZ r);have o:((l.take n).flatMap f).length=n*k:=by rw[dz p,qx,wK nb]
  refine fc (e:=e) (pre:=(l.take n).flatMap f) (old:=f l[n]) (post:=(l.drop (n+1)).flatMap f++rest) ?_ ?_ ?_ ?_ ?_
  .have:l.flatMap f++rest=(l.take n).flatMap f++f l[n]++((l.drop (n+1)).flatMap f++rest):=by have w:=congrArg (List.flatMap f) d;rw[za,zm]at w;rw[w];simp
   rw[<-this];exact h2
  .rw[p,p]
  .rw[o];omega
  .intro c F;have:=qQ.1 j c F;exact this
  .refine B _ ⟨by rw[qP];exact u.len,.inr ⟨b,rest,h1,?_,h3,h4⟩⟩ (aQ.ju h2 λE=>E ⟨0,h1⟩) (by simp[ju]);rw[hJ h2,hZ m9,g];simp
end
def grow(c:Nat->Nat)(n i:Nat):Nat->Nat:=λb=>if b<n then c b else i
theorem gK{c:Nat->Nat}{n i b:Nat}(h:b<n):grow c n i b=c b:=hZ h
theorem pJ{c:Nat->Nat}{n i b:Nat}(h:n<=b:=by omega):grow c n i b=i:=k4 nb
structure dU {α:Type} (h:hY) (c:Nat->Nat) (i:Nat) (e:TypeId) (s:Sl) (k:Nat) (f:α->aR) (l:List α):Prop where
 own:Own h e s k f l
 aV:∀b,s.on b->c b=i
structure kP (h:hY) (c:Nat->Nat) (i:Nat) (a:fY) (e:TypeId) (cs:aR):Prop where
 box:bQ h a e cs
 aV:c a.block=i
structure mJ (h0 h:hY) (c:Nat->Nat):Prop where
 ac:aQ (λb=>b<h0.size) h0 h
 aV:∀b,b<h0.size->c b=0
variable {h0:hY} {c:Nat->Nat} {j n m:Nat}
section
variable {i:Nat}
theorem dU.keep(a:dU h c j e s k f l)(n:aQ (λb=>c b≠i) h h')(g:j≠i):dU h' (grow c h.size m) j e s k f l:=
 ⟨a.own.ac n λb d=>by rw[a.aV b d];exact g,λb d=>by rw[gK (a.own.lt d)];exact a.aV b d⟩
theorem kP.keep(d:kP h c j a e cs)(g:aQ (λb=>c b≠i) h h')(f:j≠i):kP h' (grow c h.size m) j a e cs:=
 ⟨d.box.ac g (by rw[d.aV];exact f),by rw[gK d.box.lt];exact d.aV⟩
theorem mJ.keep(a:mJ h0 h c)(e:aQ (λb=>c b≠i) h h')(f:i≠0):mJ h0 h' (grow c h.size m):=
 ⟨a.ac.then e λb d _=>by rw[a.aV b d];omega,λb d=>by rw[gK (qU d a.ac.1)];exact a.aV b d⟩
theorem mJ.refl(h:hY):mJ h h (λ_=>0):=⟨aQ.refl _ _,λ_ _=>rfl⟩
theorem dU.seq(a:dU h c j e s k f l)(d:∀x,(f x).length=k):Seq h (λb=>c b=j) s k f l:=a.own.seq d a.aV
theorem dU.RX(a:dU h c j e s k f l)(d:∀x,(f x).length=k):Seq h (λb=>b<h.size) s k f l:=a.own.seq d λ_ g=>a.own.lt g
theorem dU.nil(h:hY)(c:Nat->Nat)(i:Nat)(e:TypeId)(k:Nat)(f:α->aR):dU h c i e ⟨eH,0,0⟩ k f []:=⟨Own.nil h e k f,λb d=>by obtain⟨o,a⟩:=d;cases a⟩
theorem aQ.aV(a:aQ (λ_=>True) h h')(c:Nat->Nat)(i:Nat):aQ (λb=>c b≠i) h h':=a.mono λ_ _ _=>trivial
end
variable {ti:TI}
section
variable {C:Ctx} {i e:Nat}
theorem sJ(d:C.Ok)(_:mJ h0 h c)(i:Nat)(e:C.T.get t=dB ti){K:fY->hY->Prop}(f:∀a h',kP h' (grow c h.size i) i a t ti.zero->aQ (λb=>c b≠i) h h'->K a h'):
  rv C.P (yd t eL (.tuple #[])) h K:=
 uN d e λa h' x y z _=>f a h' ⟨y,by rw[pJ]⟩ (z.aV c i)
theorem LU(P:Program)(_:mJ h0 h c)(i:Nat){v:eX}{K:fY->hY->Prop}(d:∀a h',kP h' (grow c h.size i) i a t v.cells.toList->aQ (λb=>c b≠i) h h'->K a h'):
  rv P (vM t v) h K:=
 Ql λa h' x y z _=>d a h' ⟨y,by rw[pJ]⟩ (z.aV c i)
theorem kP.store(n:C.Ok)(g:kP h c i a e cs)(p:C.T.get t=dB ti)(off:Nat){v:eX}(vs:aR)(l:v.cells=vs.toArray)(k:ti.size=m8 vs)
  (d:vs.all (·.oneCell')=eL) (f:off+m8 vs<=m8 cs) {K:Unit->hY->Prop}
  (m:∀h',kP h' (grow c h.size i) i a e (cs.take off++vs++cs.drop (off+m8 vs))->aQ (λb=>c b≠i) h h'->K () h'):
  au C.P (qG t (.pointer (dB (a.add off))) v) h K:=
 run_store n g.box p off vs l k d f λh' x y z=>m h' ⟨x,by rw[gK g.box.lt];exact g.aV⟩ (y.mono λb _ j o=>j (by rw[o];exact g.aV))
theorem kP.gO(j:C.Ok)(l:kP h c i a e cs)(m:C.T.get t=dB ti){v:eX}(vs:aR)(k:v.cells=vs.toArray)(f:ti.size=m8 vs)
  (d:vs.all (·.oneCell')=eL) (g:m8 vs<=m8 cs) {K:Unit->hY->Prop}
  (n:∀h',kP h' (grow c h.size i) i a e (vs++cs.drop vs.length)->aQ (λb=>c b≠i) h h'->K () h'):
  au C.P (qG t (.pointer (dB a)) v) h K:=
 l.store j m 0 vs k f d nb (λh' x y=>n h' n8 y)
theorem uO(A:C.Ok)(_:mJ h0 h c)(i:Nat)(f:α->aR)(r:bO C.toAA t e k z by_)(d:0<by_/\by_<=128)(l:α)(s:f l=z)(j:m8 z=k){B E:IntKind}{n p:Int}(m:Nat)(w:n=m)(D:p=m)(g:m<=2^32)
  {K:Sl->hY->Prop} (u:∀a h',dU h' (grow c h.size i) i e a k f (qf m l)->aQ (λb=>c b≠i) h h'->K a h'):
  bC C.P (zB t (.int B n) (.int E p)) (.one (.sc .slc)) h K:=
 run_make A r d l s j m m w D (qj _) g λa h' x y _ z _=>u a h' ⟨x,λb v=>by obtain⟨o,q⟩:=v;rw[y]at q;cases q;rw[pJ (qj _)]⟩ (z.aV c i)
theorem FB(u:C.Ok)(_:mJ h0 h c)(i:Nat)(f:α->aR)(p:bO C.toAA t e k z by_)(g:m8 z=k){n:Nat}{parts:Array (Nat×eX)}(l:List α)(s:m8 l=n)(j:n*k<=2^20)
  (a:wz (λi=>dB (i*k,k)) (iQ z n).toArray parts.toList=dB (l.flatMap f).toArray) {K:Sl->hY->Prop}
  (q:∀d h',dU h' (grow c h.size i) i e d k f l->aQ (λb=>c b≠i) h h'->K d h'):
  bC C.P (zE t n parts) (.one (.sc .slc)) h K:=
 ID u p g l s j a λd h' x y z _=>q d h' ⟨x,λb r=>by obtain⟨o,m⟩:=r;rw[y]at m;cases m;rw[pJ (qj _)]⟩ (z.aV c i)
theorem dU.append(E:C.Ok)(g:dU h c i e s k f l)(r:bO C.toAA t e k z by_)(n:∃i e2,C.T.get t2=dB i/\i.co=.slice e2)(u:m8 z=k)(m:0<by_/\by_<=128)(q:∀x,(f x).length=k)
  (A:Seq h p v k f l2) (a:∀x,∀c∈f x,c.oneCell'=eL) (o:m8 l+m8 l2<=2^32) {ty:Nat} {K:Sl->hY->Prop}
  (B:∀d h',dU h' (grow c h.size i) i e d k f (l++l2)->aQ (λb=>c b≠i) h h'->K d h'):
  bC C.P (q6 #[t,t2] ty #[.slice s.ptr s.len s.cap,.slice v.ptr v.len v.cap]) (.one (.sc .slc)) h K:=
 RW E r n u m q g.own A a o λd h' x y w=>B d h' ⟨x,λb D=>by
  rcases w b D with w|w
  .rw[gK (g.own.lt w)];exact g.aV b w
  .exact pJ w⟩ (y.mono λb _ j n=>j (g.aV b n))
theorem dU.set(B:C.Ok)(j:dU h c i e s k f l)(q:∀x,(f x).length=k)(E:C.T.get t=dB ti){x:Int}(n:Nat)(r:x=n)(A:n<m8 l){g:eX}(y:α)(u:g.cells=(f y).toArray)(o:ti.size=k)
  (d:(f y).all (·.oneCell')=eL) {K:hY->Prop} (v:∀h',dU h' (grow c h.size i) i e s k f (l.set n y)->aQ (λb=>c b≠i) h h'->K h'):
  ∃a:fY,(s.ptr=dB a/\0<=x/\x<((s.len:Nat):Int))/\au C.P (qG t (.pointer (dB (a.add (x.toNat*k)))) g) h λ_ h'=>K h':=
 j.own.set B q E n r A y u o d λh' z w _=>v h' ⟨z,λb p=>by rw[gK (j.own.lt p)];exact j.aV b p⟩ (w.mono λb _ m D=>m (j.aV b D))
end
section
variable {C:Ctx} {i e:Nat}
theorem grow_grow{c:Nat->Nat}{n m i:Nat}(h:n<=m):grow (grow c n i) m i=grow c n i:=by
 unfold grow
 grind
theorem aQ.step(a:aQ (λb=>c b≠i) h h'){d:hY}(b:aQ (λb=>grow c h.size i b≠i) h' d):aQ (λb=>c b≠i) h d:=
 a.then b λx e f=>by rw[gK e];exact f
theorem dU.push(H:C.Ok)(w:dU h c i e s k f l)(o:bO C.toAA t e k z by_)(F:m8 z=k)(q:0<by_/\by_<=128)(E:∀x,(f x).length=k)
  (d:∀x,∀c∈f x,c.oneCell'=eL) (x:α) {parts:Array (Nat×eX)} (a:wz (λi=>dB (i*k,k)) (iQ z 1).toArray parts.toList=dB ([x].flatMap f).toArray)
  (B:1*k<=2^20) (D:m8 l+1<=2^32) {ty:Nat} {K:Sl->hY->Prop}
  (J:∀n h',dU h' (grow c h.size i) i e n k f (l++[x])->aQ (λb=>c b≠i) h h'->K n h'):
  bC C.P (zE t 1 parts) (.one (.sc .slc)) h λv m=>bC C.P (q6 #[t,t] ty #[.slice s.ptr s.len s.cap,.slice v.ptr v.len v.cap]) (.one (.sc .slc)) m K:=by
 refine ID H o F [x] m9 B a λv m I L u _=>?_;have A:aQ (λb=>c b≠i) h m:=u.aV c i;have y:dU m (grow c h.size i) i e s k f l:=⟨w.own.ac u λ_ _=>trivial,λb G=>by rw[gK (w.own.lt G)];exact w.aV b G⟩
 have j:h.size<=m.size:=u.1;obtain⟨O,Q,N,x2,_⟩:=o.ex;refine y.append H o ⟨O,e,N,x2⟩ F q E (I.seq (p:=λ_=>True) E λ_ _=>trivial) d D λn M g r=>?_;rw[grow_grow j]at g;exact J n M g (A.step r)
structure aeS (h:hY) (c:Nat->Nat) (top lo:Nat) (e:TypeId) (s:Sl) (k:Nat) (f:α->aR) (ll:List (List α)) (rs:List Sl):Prop where
 own:dU h c top e s 1 bv rs
 len:m8 rs=m8 ll
 row:∀(i:Nat) r l,rs[i]?=dB r->ll[i]?=dB l->Seq h (λb=>b<h.size/\lo<=c b/\c b<lo+m8 ll) r k f l
theorem jQ:∀x,∀c∈bv x,c.oneCell'=eL:=by intro x c a;simp only[bv,qB]at a;subst a;rfl
end
structure aeT {α:Type} (h:hY) (r:Nat) (g:α->eX) (kvs:List (Int×α)):Prop where
 ex:∃es clock,h[r]?=dB (.map es clock)/\es.toList.map (λe=>(e.key,e.val))=kvs.map (λp=>(Value.int .i64 p.1,g p.2))
variable {P:Program} {r:Nat} {g:α->eX} {kvs:List (Int×α)}
theorem FC(x n:Int)(b:0<n:=by decide):x%n=if x.tmod n<0 then x.tmod n+n else x.tmod n:=by
 have e:=yX x b;have c:-n<x.tmod n:=Int.lt_tmod_of_pos x b;have d:=Int.tmod_add_mul_tdiv x n;have a:0<=(if x.tmod n<0 then x.tmod n+n else x.tmod n)/\(if x.tmod n<0 then x.tmod n+n else x.tmod n)<n:=n8
 have e2:x=(if x.tmod n<0 then x.tmod n+n else x.tmod n)+n*(if x.tmod n<0 then x.tdiv n-1 else x.tdiv n):=n8
 conv=>lhs;rw[e2]
 rw[Int.add_mul_emod_self_left];exact Int.emod_eq_of_lt a.1 a.2
theorem aA{α:Type}(l:List α)(k:Nat)(h:k<m8 l:=by omega):l.take (k+1)=l.take k++[l[k]]:=zx h
theorem dt:∀x,∀c∈av x,c.oneCell'=eL:=by intro x c a;simp only[av,qB]at a;subst a;rfl
theorem cH:∀x,∀c∈aq x,c.oneCell'=eL:=by intro x c a;simp only[aq,qB]at a;subst a;rfl
theorem up{h c d:hY}(a:aQ (λb=>b<h.size) h c)(b:aQ (λb=>b<c.size) c d):aQ (λb=>b<h.size) h d:=
 a.then b λ_ e _=>qU e a.1
theorem any{h c:hY}(a:aQ (λ_=>True) h c):aQ (λb=>b<h.size) h c:=a.mono λ_ _ _=>trivial
theorem Seq.up{α:Type}{h h':hY}{s:Sl}{k:Nat}{f:α->aR}{l:List α}(c:Seq h (λb=>b<h.size) s k f l)(a:aQ (λb=>b<h.size) h h'):Seq h' (λb=>b<h'.size) s k f l:=
 (c.ac a).mono λ_ d=>qU d a.1
theorem gW.up{α:Type}{h h':hY}{s:Sl}{k:Nat}{f:α->aR}{l:List (List α)}{rs:List Sl}(c:gW h (λb=>b<h.size) s k f l rs)(a:aQ (λb=>b<h.size) h h'):gW h' (λb=>b<h'.size) s k f l rs:=
 (c.ac a).mono λ_ d=>qU d a.1
theorem gW.RY{α:Type}{h:hY}{p:ar}{s:Sl}{k:Nat}{f:α->aR}{ll:List (List α)}{rs:List Sl}(e:gW h p s k f ll rs){i:Int}(n:Nat)(g:i=n)(d:n<m8 ll){K:fY->Sl->Prop}
  (l:∀a r,hU h (a.add (i.toNat*1))=dB (.slice r.ptr r.len r.cap)->Seq h p r k f ll[n]->rs[n]?=dB r->K a r):
  ∃a:fY,(s.ptr=dB a/\0<=i/\i<((s.len:Nat):Int))/\∃x:Sl,hU h (a.add (i.toNat*1))=dB (.slice x.ptr x.len x.cap)/\K a x:=by
 obtain⟨a,m,x,j,b,c⟩:=e.get n g d (K:=λr=>Seq h p r k f ll[n]/\rs[n]?=dB r) (λr b c=>⟨b,c⟩)
 grind
theorem Seq.drop{α:Type}{h:hY}{p:ar}{s:Sl}{w:Nat}{f:α->aR}{l:List α}(c:Seq h p s w f l)(k:Nat)(m:s.len<=s.cap):
  Seq h p ⟨if s.cap=k then s.ptr else s.ptr.map (·.add (k*w)),s.len-k,s.cap-k⟩ w f (l.drop k):=by
 have j:=c.len;refine⟨n8,λi x a=>?_⟩;rw[wJ]at a;obtain⟨b,o,d,e,h3⟩:=c.elem _ x a;have g:=(qm.1 a).1;refine⟨b,o+k*w,?_,e,?_⟩
 .rw[k4 nb,d,zl,add_eq]
 grind
theorem Seq.take{α:Type}{h:hY}{p:ar}{s:Sl}{w:Nat}{f:α->aR}{l:List α}(b:Seq h p s w f l)(k:Nat)(c:k<=m8 l):
  Seq h p ⟨s.ptr,k,s.cap⟩ w f (l.take k):=by
 refine⟨n8,λi x a=>?_⟩;rw[List.getElem?_take]at a;split at a
 .exact b.elem i x a
 grind
theorem getD_lt{α:Type}{l:List α}{d:α}{i:Nat}(h:i<m8 l:=by omega):l.getD i d=l[i]:=n8
structure HP where
 p:hY->ar->Prop
 loc:∀{h h':hY} {q:ar},p h q->aQ q h h'->p h' q
 mono:∀{h:hY} {q q':ar},p h q->(∀b,q b->q' b)->p h q'
def emp:HP:=⟨λ_ _=>True,λ_ _=>trivial,λ_ _=>trivial⟩
def ai{α:Type}(e:TypeId)(s:Sl)(k:Nat)(f:α->aR)(l:List α):HP:=
 ⟨λh q=>Own h e s k f l/\∀b,s.on b->q b,λa c=>⟨a.1.ac c a.2,a.2⟩,λa g=>⟨a.1,λb d=>g b (a.2 b d)⟩⟩
def an(a:fY)(e:TypeId)(c:aR):HP:=
 ⟨λh q=>bQ h a e c/\q a.block,λx b=>⟨x.1.ac b x.2,x.2⟩,λx d=>⟨x.1,d _ x.2⟩⟩
def Ae{α:Type}(s:Sl)(k:Nat)(f:α->aR)(l:List α):HP:=
 ⟨λh q=>Seq h q s k f l,λa b=>a.ac b,λa c=>a.mono c⟩
def dE{α:Type}(e:TypeId)(s:Sl)(k:Nat)(f:α->aR)(ll:List (List α)):HP:=
 ⟨λh q=>∃(rs:List Sl) (j:ar),Own h e s 1 bv rs/\(∀b,s.on b->q b/\¬j b)/\(∀b,j b->q b)/\rs.length=m8 ll/\∀(i:Nat) r l,rs[i]?=dB r->ll[i]?=dB l->Seq h j r k f l,
  λ⟨rs,j,a,b,c,d,e⟩ hp=>⟨rs,j,a.ac hp λx g=>(b x g).1,b,c,d,λi r l m n=>(e i r l m n).ac (hp.mono λx _ g=>c x g)⟩,
  λ⟨rs,j,a,b,c,d,e⟩ hq=>⟨rs,j,a,λx g=>⟨hq x (b x g).1,(b x g).2⟩,λx g=>hq x (c x g),d,e⟩⟩
structure aa (B:ar) (h0 h:hY) (As:List HP):Prop where
 low:∀b,B b->b<h0.size
 ac:aQ B h0 h
 ex:∃c:Nat->Nat,(∀b,B b->c b=0)/\∀(i:Nat) (A:HP),As[i]?=dB A->A.p h (λb=>b<h.size/\c b=i+1)
abbrev Sp(a h:hY)(As:List HP):Prop:=aa (λb=>b<a.size) a h As
variable {As:List HP} {A2 D:HP}
section
variable {B:ar} {Bs:List HP} {A:HP} {i:Nat}
theorem Sp.refl(h:hY):Sp h h []:=⟨λ_ h=>h,aQ.refl _ _,λ_=>0,λ_ _=>rfl,λi A a=>n8⟩
theorem aa.at(H:aa B h0 h As)(i:Nat)(e:As[i]?=dB A):A.p h (λb=>b<h.size):=by obtain⟨c,_,a⟩:=H.ex;exact A.mono (a i A e) λ_ d=>d.1
theorem aa.fin(H:aa B h0 h As)(i:Nat)(f:As[i]?=dB A):A.p h (λb=>¬B b/\b<h.size):=by obtain⟨c,g,d⟩:=H.ex;exact A.mono (d i A f) λb e=>⟨λa=>n8,e.1⟩
theorem Sp.fresh(H:Sp h0 h As)(i:Nat)(c:As[i]?=dB A):A.p h (λb=>h0.size<=b/\b<h.size):=
 A.mono (aa.fin H i c) λb a=>⟨nb,a.2⟩
theorem aa.comp(H:aa B h0 h As)(R:Sp h h' Bs):aa B h0 h' (As++Bs):=by
 obtain⟨m,f,k,o,n⟩:=H;obtain⟨_,e,g,p,l⟩:=R;have d:=f.1;refine⟨m,f.then e λb a _=>qU a d,λb=>if b<h.size then k b else if g b=0 then 0 else As.length+g b,λb a=>?_,λi A c=>?_⟩
 .grind
 .by_cases j:i<m8 As
  .rw[qu j]at c;refine A.mono (A.loc (n i A c) (e.mono λb _ a=>a.1)) λb a=>⟨qU a.1 e.1,?_⟩
   grind
  .rw[qk nb]at c;refine A.mono (l _ A c) λb a=>⟨a.1,?_⟩
   grind
theorem aa.up(H:aa B h0 h As)(R:aQ (λb=>b<h.size) h h'):aa B h0 h' As:=by
 have:=H.comp (Bs:=[]) ⟨λ_ h=>h,R,λ_=>0,λ_ _=>rfl,λi A a=>n8⟩
 grind
theorem Sp.one(R:aQ (λb=>b<h.size) h h')(d:A.p h' λb=>h.size<=b/\b<h'.size):Sp h h' [A]:=by
 refine⟨λ_ h=>h,R,λb=>if b<h.size then 0 else 1,λb a=>hZ a,λi A2 c=>?_⟩
 grind
theorem Sp.zip(R:aQ (λb=>b<h.size) h h'):Sp h h' []:=aa.up (Sp.refl h) R
theorem aa.enter(q:ar)(c:Nat->Nat)(f:∀b,q b->b<h.size)(a:∀(i:Nat) (A:HP),As[i]?=dB A->A.p h λb=>q b/\c b=i+1):aa (λb=>b<h.size/\¬q b) h h As:=by
 classical
 refine⟨λb d=>d.1,aQ.refl _ _,λb=>if q b then c b else 0,λb d=>k4 d.2,λi A e=>A.mono (a i A e) λb d=>⟨f b d.1,?_⟩⟩
 grind
theorem aa.LV(q:ar)(c:∀b,q b->b<h.size)(a:A.p h q):aa (λb=>b<h.size/\¬q b) h h [A]:=
 .enter q (λ_=>1) c λi A2 d=>by
  cases i with
  |succ i=>grind
  |zero=>grind
theorem aa.Bj(l:∀b,B b->b<h0.size)(f:aQ B h0 h)(z:∀b,B b->c b=0)(a:∀(i:Nat) (A:HP),As[i]?=dB A->A.p h λb=>b<h.size/\c b=i+1)
  (g:aQ (λb=>¬(b<h.size/\c b=i+1)) h h') (n:D.p h' λb=>b<h'.size/\((b<h.size/\c b=i+1)∨h.size<=b)):aa B h0 h' (As.set i D):=by
 refine⟨l,f.then g λb _ d m=>n8,grow c h.size (i+1),λb d=>?_,λj A e=>?_⟩
 .rw[gK (qU (l b d) f.1)];grind
 .rw[qV]at e;split at e
  .rename_i k;subst k;split at e
   .injection e with e
    subst e;refine D.mono n λb d=>⟨d.1,?_⟩
    rcases d.2 with h1|h1
    .rw[gK h1.1];grind
    .exact pJ h1
   grind
  .refine A.mono (A.loc (a j A e) (g.mono λb _ d m=>nb)) λb d=>⟨qU d.1 g.1,?_⟩
   rw[gK d.1];omega
theorem aa.step(H:aa B h0 h As)(i:Nat)(g:As[i]?=dB A)(d:∀q:ar,A.p h q->(∀b,q b->b<h.size)->aQ (λb=>¬q b) h h'/\D.p h' λb=>b<h'.size/\(q b∨h.size<=b)):aa B h0 h' (As.set i D):=by obtain⟨k,p,c,z,a⟩:=H;obtain⟨j,e⟩:=d _ (a i A g) λb f=>f.1;exact aa.Bj k p z a j e
theorem aa.dY(H:aa B h0 h As)(i:Nat)(d:As[i]?=dB A)(e:∀q:ar,A.p h q->D.p h q):aa B h0 h (As.set i D):=
 H.step i d λq f a=>⟨aQ.refl _ _,D.mono (e q f) λb c=>⟨a b c,.inl c⟩⟩
theorem aa.merge(H:aa B h0 h As)(i j:Nat)(n:i≠j)(q:As[i]?=dB A)(o:As[j]?=dB A2)
  (m:∀g e:ar,(∀b,g b->¬e b)->A.p h g->A2.p h e->D.p h λb=>g b∨e b):aa B h0 h ((As.set i D).set j emp):=by
 obtain⟨r,p,c,z,a⟩:=H;refine⟨r,p,λb=>if c b=j+1 then i+1 else c b,λb f=>?_,λk l d=>?_⟩
 .grind
 .rw[qV]at d;split at d
  .split at d
   .cases d;trivial
   grind
  .rw[qV]at d;split at d
   .split at d
    .injection d with d
     subst d;refine D.mono (m _ _ (λb s t=>nb) (a i A q) (a j A2 o)) λb f=>?_
     grind
    .cases d
   .refine l.mono (a k l d) λb f=>⟨f.1,?_⟩
    dsimp only;rw[k4 nb];omega
theorem aa.pick(H:aa B h0 h As)(f:Nat->Nat)(m:∀i j,f i=f j->i=j)(k:∀(i:Nat) (A2:HP),Bs[i]?=dB A2->As[f i]?=dB A2):aa B h0 h Bs:=by
 obtain⟨l,p,c,z,a⟩:=H
 classical
 refine⟨l,p,λb=>if d:∃i,c b=f i+1 then d.choose+1 else 0,λb d=>?_,λi A2 e=>?_⟩
 .grind
 .refine A2.mono (a _ _ (k i A2 e)) λb d=>⟨d.1,?_⟩
  have g:∃i,c b=f i+1:=⟨i,d.2⟩
  grind
theorem aa.take(H:aa B h0 h As)(n:Nat)(a:∀(i:Nat) (A2:HP),Bs[i]?=dB A2->As[n+i]?=dB A2):aa B h0 h Bs:=H.pick (λi=>n+i) (λ_ _ h=>nb) a
end
section
variable {B:ar} {C:Ctx} {i e:Nat}
theorem aa.own(H:aa B h0 h As)(i:Nat)(a:As[i]?=dB (ai e s k f l)):Own h e s k f l:=(H.at i a).1
theorem aa.seq(H:aa B h0 h As)(i:Nat)(a:As[i]?=dB (ai e s k f l))(c:∀x,(f x).length=k):Seq h (λb=>b<h.size) s k f l:=(H.at i a).1.seq c (H.at i a).2
theorem aa.rd(H:aa B h0 h As)(i:Nat)(a:As[i]?=dB (Ae s k f l)):Seq h (λb=>b<h.size) s k f l:=H.at i a
theorem aa.box(H:aa B h0 h As)(i:Nat)(b:As[i]?=dB (an a e cs)):bQ h a e cs:=(H.at i b).1
theorem aa.oq(H:aa B h0 h As)(i:Nat)(r:As[i]?=dB (ai e s k f l)){β:Type}{o m:Nat}{g:β->aR}{p:List β}(n:aQ (λb=>¬s.on b) h h')(q:Own h' o s m g p):aa B h0 h' (As.set i (ai o s m g p)):=
 H.step i r λ_ j d=>⟨n.mono λb _ a c=>a (j.2 b c),q,λb a=>⟨qU (d b (j.2 b a)) n.1,.inl (j.2 b a)⟩⟩
theorem aa.ng(H:aa B h0 h As)(i:Nat)(m:As[i]?=dB (an a e cs)){c:aR}(j:aQ (λb=>b≠a.block) h h')(k:bQ h' a e c):aa B h0 h' (As.set i (an a e c)):=
 H.step i m λq g f=>⟨j.mono λb _ l d=>l (by rw[d];exact g.2),k,⟨qU (f _ g.2) j.1,.inl g.2⟩⟩
theorem aa.freeze(H:aa B h0 h As)(i:Nat)(c:As[i]?=dB (ai e s k f l))(b:∀x,(f x).length=k):aa B h0 h (As.set i (Ae s k f l)):=H.dY i c λ_ a=>a.1.seq b a.2
theorem aa.set(r:C.Ok)(H:aa B h0 h As)(i:Nat)(g:As[i]?=dB (ai e s k f l))(j:∀x,(f x).length=k)(u:C.T.get t=dB ti){x:Int}(n:Nat)(m:x=n)(q:n<m8 l){c:eX}(y:α)(o:c.cells=(f y).toArray)(d:ti.size=k)
  (b:(f y).all (·.oneCell')=eL) {K:hY->Prop} (p:∀h',aa B h0 h' (As.set i (ai e s k f (l.set n y)))->K h'):
  ∃a:fY,(s.ptr=dB a/\0<=x/\x<((s.len:Nat):Int))/\au C.P (qG t (.pointer (dB (a.add (x.toNat*k)))) c) h λ_ h'=>K h':=
 (H.own i g).set r j u n m q y o d b λh' z w _=>p h' (H.oq i g w z)
theorem aa.push(J:C.Ok)(H:aa B h0 h As)(i:Nat)(O:As[i]?=dB (ai e s k f l))(A:bO C.toAA t e k z by_)(E:m8 z=k)(p:0<by_/\by_<=128)(y:∀x,(f x).length=k)
  (m:∀x,∀c∈f x,c.oneCell'=eL) (x:α) {parts:Array (Nat×eX)} (d:wz (λi=>dB (i*k,k)) (iQ z 1).toArray parts.toList=dB ([x].flatMap f).toArray)
  (r:1*k<=2^20) (u:m8 l+1<=2^32) {ty:Nat} {K:Sl->hY->Prop}
  (F:∀n h',aa B h0 h' (As.set i (ai e n k f (l++[x])))->K n h'):
  bC C.P (zE t 1 parts) (.one (.sc .slc)) h λv I=>bC C.P (q6 #[t,t] ty #[.slice s.ptr s.len s.cap,.slice v.ptr v.len v.cap]) (.one (.sc .slc)) I K:=by
 obtain⟨Q,D,c,N,a⟩:=H;have w:=a i _ O;have L:dU h c (i+1) e s k f l:=⟨w.1,λb j=>(w.2 b j).2⟩
 refine L.push J A E p y m x d r u λn h' g o=>F n h' ?_;refine aa.Bj Q D N a (o.mono λb j G M=>G ⟨j,M⟩) ⟨g.own,λb j=>⟨g.own.lt j,?_⟩⟩;have:=g.aV b j;by_cases q:b<h.size
 .rw[gK q]at this;grind
 grind
theorem aa.append(I:C.Ok)(H:aa B h0 h As)(i:Nat)(O:As[i]?=dB (ai e s k f l))(y:bO C.toAA t e k z by_)(J:∃i e2,C.T.get t2=dB i/\i.co=.slice e2)(D:m8 z=k)(o:0<by_/\by_<=128)(w:∀x,(f x).length=k)
  (E:Seq h p v k f l2) (j:∀x,∀c∈f x,c.oneCell'=eL) (r:m8 l+m8 l2<=2^32) {ty:Nat} {K:Sl->hY->Prop}
  (F:∀m h',aa B h0 h' (As.set i (ai e m k f (l++l2)))->K m h'):
  bC C.P (q6 #[t,t2] ty #[.slice s.ptr s.len s.cap,.slice v.ptr v.len v.cap]) (.one (.sc .slc)) h K:=by
 obtain⟨Q,A,c,N,a⟩:=H;have u:=a i _ O;have L:dU h c (i+1) e s k f l:=⟨u.1,λb g=>(u.2 b g).2⟩
 refine L.append I y J D o w E j r λm h' d n=>F m h' ?_;refine aa.Bj Q A N a (n.mono λb g G M=>G ⟨g,M⟩) ⟨d.own,λb g=>⟨d.own.lt g,?_⟩⟩;have:=d.aV b g;by_cases q:b<h.size
 .rw[gK q]at this;grind
 grind
theorem El{h h':hY}{n:Nat}(i:n=h.size)(d:Own h' e s k f l)(g:s.ptr=dB ⟨n,0,eH⟩)(a:aQ (λ_=>True) h h'):Sp h h' [ai e s k f l]:=
 .one (any a) ⟨d,λb c=>⟨by obtain⟨o,c⟩:=c;grind,d.lt c⟩⟩
theorem aa.make(s:C.Ok)(H:aa B h0 h As)(f:α->aR)(o:bO C.toAA t e k z by_)(d:0<by_/\by_<=128)(j:α)(p:f j=z)(i:m8 z=k){u D:IntKind}{n l:Int}(m b:Nat)(r:n=m)(v:l=b)(c:m<=b)(g:b<=2^32)
  {K:Sl->hY->Prop} (q:∀a h',a.len=m->a.cap=b->aa B h0 h' (As++[ai e a k f (qf m j)])->K a h'):
  bC C.P (zB t (.int u n) (.int D l)) (.one (.sc .slc)) h K:=
 run_make s o d j p i m b r v c g λa h' x y w A _=>q a h' (by rw[x.len];simp) w (H.comp (El m9 x y A))
theorem aa.lit(o:C.Ok)(H:aa B h0 h As)(f:α->aR)(g:bO C.toAA t e k z by_)(c:m8 z=k){n:Nat}{parts:Array (Nat×eX)}(l:List α)(m:m8 l=n)(d:n*k<=2^20)
  (a:wz (λi=>dB (i*k,k)) (iQ z n).toArray parts.toList=dB (l.flatMap f).toArray) {K:Sl->hY->Prop}
  (j:∀b h',aa B h0 h' (As++[ai e b k f l])->K b h'):
  bC C.P (zE t n parts) (.one (.sc .slc)) h K:=
 ID o g c l m d a λb h' x y p _=>j b h' (H.comp (El m9 x y p))
theorem IE{h h':hY}(d:a.block=h.size)(c:bQ h' a e cs)(b:aQ (λ_=>True) h h'):Sp h h' [an a e cs]:=
 .one (any b) ⟨c,nb,c.lt⟩
theorem aa.alloc(b:C.Ok)(H:aa B h0 h As)(c:C.T.get t=dB ti){K:fY->hY->Prop}(e:∀a h',aa B h0 h' (As++[an a t ti.zero])->K a h'):
  rv C.P (yd t eL (.tuple #[])) h K:=
 uN b c λa h' x y d _=>e a h' (H.comp (IE x y d))
theorem aa.boxed(H:aa B h0 h As){P:Program}{v:eX}{K:fY->hY->Prop}(c:∀a h',aa B h0 h' (As++[an a t v.cells.toList])->K a h'):
  rv P (vM t v) h K:=
 Ql λa h' x y b _=>c a h' (H.comp (IE x y b))
theorem aa.store(g:C.Ok)(H:aa B h0 h As)(i:Nat)(f:As[i]?=dB (an a e cs))(j:C.T.get t=dB ti)(off:Nat){v:eX}(vs:aR)(k:v.cells=vs.toArray)(d:ti.size=m8 vs)
  (b:vs.all (·.oneCell')=eL) (c:off+m8 vs<=m8 cs) {K:Unit->hY->Prop}
  (l:∀h',aa B h0 h' (As.set i (an a e (cs.take off++vs++cs.drop (off+m8 vs))))->K () h'):
  au C.P (qG t (.pointer (dB (a.add off))) v) h K:=
 run_store g (H.box i f) j off vs k d b c λh' x y _=>l h' (H.ng i f y x)
theorem aa.gO(f:C.Ok)(H:aa B h0 h As)(i:Nat)(k:As[i]?=dB (an a e cs))(g:C.T.get t=dB ti){v:eX}(vs:aR)(j:v.cells=vs.toArray)(c:ti.size=m8 vs)
  (b:vs.all (·.oneCell')=eL) (d:m8 vs<=m8 cs) {K:Unit->hY->Prop}
  (l:∀h',aa B h0 h' (As.set i (an a e (vs++cs.drop vs.length)))->K () h'):
  au C.P (qG t (.pointer (dB a)) v) h K:=
 H.store f i k g 0 vs j c b nb (λh' x=>l h' n8)
theorem aa.nil(H:aa B h0 h As)(e k:Nat)(f:α->aR):aa B h0 h (As++[ai e ⟨eH,0,0⟩ k f []]):=
 H.comp (.one (aQ.refl _ _) ⟨Own.nil h e k f,λb a=>by obtain⟨o,a⟩:=a;cases a⟩)
theorem aa.sK(H:aa B h0 h As)(e k:Nat)(f:α->aR):aa B h0 h (As++[dE e ⟨eH,0,0⟩ k f []]):=
 H.comp (.one (aQ.refl _ _) ⟨[],λ_=>False,Own.nil h e 1 bv,λb a=>(by obtain⟨o,a⟩:=a;cases a),λ_ a=>a.elim,rfl,λi r l h=>n4⟩)
theorem aa.jM(hC:C.Ok)(H:aa B h0 h As)(i j:Nat)(z:i≠j){ll:List (List α)}{r:Sl}{x:List α}(T:As[i]?=dB (dE e s k f ll))(hj:As[j]?=dB (Ae r k f x))(W:bO C.toAA t e 1 [.slice eH 0 0] 24)
  (ab:m8 ll+1<=2^32) {ty:Nat} {K:Sl->hY->Prop} (hk:∀N h',aa B h0 h' ((As.set j emp).set i (dE e N k f (ll++[x])))->K N h'):
  bC C.P (zE t 1 #[(0,.slice r.ptr r.len r.cap)]) (.one (.sc .slc)) h λv p=>bC C.P (q6 #[t,t] ty #[.slice s.ptr s.len s.cap,.slice v.ptr v.len v.cap]) (.one (.sc .slc)) p K:=by
 have V:=H.merge i j z T hj (D:=⟨λh q=>∃(rs:List Sl) (g:ar),Own h e s 1 bv rs/\(∀b,s.on b->q b/\¬g b)/\(∀b,g b->q b)/\rs.length=m8 ll/\(∀(i:Nat) r l,rs[i]?=dB r->ll[i]?=dB l->Seq h g r k f l)/\Seq h g r k f x,
  λ⟨rs,g,a,b,c,d,e,f⟩ hp=>⟨rs,g,a.ac hp λx n=>(b x n).1,b,c,d,λi r l p y=>(e i r l p y).ac (hp.mono λx _ n=>c x n),f.ac (hp.mono λx _ n=>c x n)⟩,
  λ⟨rs,g,a,b,c,d,e,f⟩ hq=>⟨rs,g,a,λx n=>⟨hq x (b x n).1,(b x n).2⟩,λx n=>hq x (c x n),d,e,f⟩⟩)
  (λg Y Z hA hB=>by
   obtain⟨rs,q3,a,b,c,d,e'⟩:=hA;refine⟨rs,λb=>q3 b∨Y b,a,λx n=>⟨.inl (b x n).1,λL=>L.elim (b x n).2 (Z x (b x n).1)⟩,λx n=>n.elim (λh=>.inl (c x h)) .inr,d,λi r l p y=>(e' i r l p y).mono λ_ h=>.inl h,Seq.mono hB λ_ h=>.inr h⟩)
 have w:i<m8 As:=(qm.1 T).1;obtain⟨lo,X,c,zz,a⟩:=V;have ha:=a i _ (by rw[w4 (Ne.symm z),zJ w]);obtain⟨rs,g,a1,a2,a3,a4,a5,a6⟩:=ha;let S:Nat->Nat:=λb=> @ite _ (g b) (Classical.propDecidable _) (m8 As+2) (c b);have G:∀b,g b->b<h.size/\c b=i+1:=a3;have ho:dU h S (i+1) e s 1 bv rs:=⟨a1,λb m=>by
  have:=a2 b m;show @ite _ (g b) (Classical.propDecidable _) _ _=_;rw[k4 this.2];exact this.1.2⟩
 refine ho.push hC W m9 nq (λ_=>rfl) jQ r m9 nq nb λN h' E F=>hk N h' ?_;rw[vb _ _ (Ne.symm z)];rw[<-yY (l:=As) (i:=i),vb _ _ z];have J:∀b,g b->S b≠i+1:=λb m=>by
  show @ite _ (g b) (Classical.propDecidable _) _ _≠_;rw[hZ m];omega
 refine aa.Bj lo X zz a (F.mono λb m hn hc=>hn ⟨m,?_⟩) ⟨rs++[r],λb=>g b/\b<h.size,E.own,λb m=>?_,λb m=>⟨qU m.2 F.1,.inl ⟨m.2,(G b m.1).2⟩⟩,by simp[a4],λO U l' p y=>?_⟩
 .by_cases A:g b
  .exact(G b A).2
  .have u:@ite _ (g b) (Classical.propDecidable _) (m8 As+2) (c b)=i+1:=hc;rw[k4 A]at u;exact u
 .have o:=E.aV b m;by_cases w:b<h.size
  .rw[gK w]at o;have I:¬g b:=λA=>J b A o;have u:@ite _ (g b) (Classical.propDecidable _) (m8 As+2) (c b)=i+1:=o;rw[k4 I]at u;exact⟨⟨E.own.lt m,.inl ⟨w,u⟩⟩,λL=>I L.1⟩
  .exact⟨⟨E.own.lt m,.inr nb⟩,λL=>w L.2⟩
 .have M:∀{R:Sl} {l:List α},Seq h g R k f l->Seq h' (λb=>g b/\b<h.size) R k f l:=λhs=>
   (hs.mono (q:=λb=>g b/\b<h.size) λb m=>⟨m,(G b m).1⟩).ac (F.mono λb _ m=>J b m.1)
  by_cases Q:O<m8 rs
  .rw[qu Q]at p;rw[qu nb]at y;exact M (a5 O U l' p y)
  .have:O=m8 rs:=by have:=(qm.1 p).1;simp at this;omega
   subst this;simp at p;rw[a4]at y;simp at y;subst p;subst y;exact M a6
theorem aa.rows(H:aa B h0 h As)(i:Nat){ll:List (List α)}(m:As[i]?=dB (dE e s k f ll)):∃rs,gW h (λb=>b<h.size) s k f ll rs:=by obtain⟨rs,o,a,b,c,d,e⟩:=H.at i m;exact⟨rs,a.seq (λ_=>rfl) λx j=>(b x j).1,d,λi r l n g=>(e i r l n g).mono c⟩
end
theorem Xz(vs:aR):∀(pre old post:aR),m8 old=m8 vs->((vs.zipIdx 0).foldl (λ(cs:Array eX) (p:eX×Nat)=>cs.setIfInBounds (m8 pre+p.2) p.1) (pre++old++post).toArray)=(pre++vs++post).toArray:=by
 have a:∀(vs pre old post:aR) (k:Nat),m8 old=m8 vs->m8 pre=m8 pre->∀n,n+k=m8 pre->((vs.zipIdx k).foldl (λ(cs) (p)=>cs.setIfInBounds (n+p.2) p.1) (pre++old++post).toArray)=(pre++vs++post).toArray:=by
  intro vs
  induction vs with
  |nil=>intro pre old post k b _ n _;rw[qR b];rfl
  |cons v vs ih=>
   intro pre old post k b _ n c;cases old with
   |nil=>grind
   |cons u old=>
    rw[List.zipIdx_cons,zO];have e:(pre++(u::old)++post).toArray.setIfInBounds (n+k) v=((pre++[v])++old++post).toArray:=by rw[c];simp
    rw[e,ih (pre++[v]) old post (k+1) n8 m9 n n2];simp
 intro pre old post h;exact a vs pre old post 0 h m9 pre.length (m9)
theorem LW{a:Nat->Option (Nat×Nat)}{i:Nat}{v:eX}{vs pre old post:aR}{rest:List (Nat×eX)}(d:v.cells=vs.toArray)(c:a i=dB (m8 pre,m8 vs))(b:m8 old=m8 vs):
  wz a (pre++old++post).toArray ((i,v)::rest)=wz a (pre++vs++post).toArray rest:=by
 conv=>lhs;unfold wz
 have:=Xz vs pre old post b
 grind
section
variable {C:Ctx}
theorem tV(e:C.Ok)(l:C.T.get t=dB i){h:List (Nat×TypeId)}(c:i.co=.struct h){ps:List (Nat×Nat)}(d:placesOf C.T h=dB ps){vs:List (Nat×eX)}{cells:Array eX}
  (a:wz (λn=>ps[n]?) i.zero.toArray vs=dB cells):aL C.P (Instr.build t vs.toArray) (.agg cells):=by
 obtain⟨z,o,m⟩:=ro e.toOk l;have k:i.zero.toArray=z.cells:=n8
 have j:=e.co l;rw[c]at j;obtain⟨p,q,rfl⟩:=oJ j;refine o.bind ((aK q).bind ?_);have g:aL C.P (p.mapM λf=>(do pure (f.offset,<-sizeOf f.type))) ps.toArray:=by rw[Array.mapM_eq_mapM_toList];intro w;have:=tG e.toOk d w;rw[map_eq_pure_bind,Sem.run_bind,this];rfl
 refine g.bind ?_;have b:wz (λn=>ps.toArray[n]?) z.cells vs.toArray.toList=dB cells:=n8
 rw[b];exact .pure
end
theorem take_set{α:Type}(l:List α)(n:Nat)(x:α)(h:n<m8 l):l.take n++[x]++l.drop (n+1)=l.set n x:=by rw[yE,hZ h];simp
section
variable {B:ar} {C:Ctx} {e:Nat}
theorem aa.storeAt(f:C.Ok)(H:aa B h0 h As)(i:Nat)(k:As[i]?=dB (an a e cs))(g:C.T.get t=dB ti){off:Nat}{v:eX}(j:v.cells=#[v])(c:ti.size=1)
  (d:v.oneCell'=eL) (b:off<m8 cs) {K:Unit->hY->Prop}
  (l:∀h',aa B h0 h' (As.set i (an a e (cs.set off v)))->K () h'):
  au C.P (qG t (.pointer (dB (a.add off))) v) h K:=
 H.store f i k g off [v] j c n8 n8 λh' x=>l h' (by rw[<-take_set _ _ _ b];grind)
theorem aa.storeAll(f:C.Ok)(H:aa B h0 h As)(i:Nat)(k:As[i]?=dB (an a e cs))(g:C.T.get t=dB ti){v:eX}(vs:aR)(j:v.cells=vs.toArray)(c:ti.size=m8 vs)
  (b:vs.all (·.oneCell')=eL) (d:m8 vs=m8 cs) {K:Unit->hY->Prop}
  (l:∀h',aa B h0 h' (As.set i (an a e vs))->K () h'):
  au C.P (qG t (.pointer (dB a)) v) h K:=
 H.gO f i k g vs j c b nb λh' x=>l h' n8
end
theorem kv(n:Nat)(a:n<=9223372036854775807:=by omega):qd xP (n:Int)=n:=af _
abbrev Rd{α:Type}(h:hY)(s:Sl)(k:Nat)(f:α->aR)(l:List α):Prop:=Seq h (λb=>b<h.size) s k f l
abbrev eF{α:Type}(h:hY)(s:Sl)(k:Nat)(f:α->aR)(ll:List (List α)):Prop:=∃rs,gW h (λb=>b<h.size) s k f ll rs
section
variable {B:ar} {e:Nat}
theorem eF.up(a:eF h s k f ll)(c:aQ (λb=>b<h.size) h h'):eF h' s k f ll:=by obtain⟨rs,a⟩:=a;exact⟨rs,gW.up a c⟩
theorem eF.len(a:eF h s k f ll):s.len=m8 ll:=by obtain⟨rs,a⟩:=a;exact a.LQ
theorem eF.get(b:eF h s k f ll){i:Int}(n:Nat)(c:i=n)(d:n<m8 ll){K:Sl->Prop}(e:∀r,Rd h r k f ll[n]->K r):
  ∃a:fY,(s.ptr=dB a/\0<=i/\i<((s.len:Nat):Int))/\∃x:Sl,hU h (a.add (i.toNat*1))=dB (.slice x.ptr x.len x.cap)/\K x:=by
 obtain⟨rs,b⟩:=b;exact b.get n c d λr g _=>e r g
theorem Seq.isSome{p:ar}(a:Seq h p s k f l)(c:l≠[]):s.ptr.isNone=eR:=by
 cases l with
 |nil=>grind
 |cons x t=>obtain⟨b,o,d,_⟩:=a.elem 0 x (rfl);grind
theorem Seq.isNil{p:ar}(b:Seq h p s k f l)(a:s.ptr.isNone=eL):l=[]:=by
 cases l with
 |nil=>rfl
 |cons x t=>rw[b.isSome n4]at a;cases a
theorem aa.oL(H:aa B h0 h As)(i:Nat)(a:As[i]?=dB (dE e s k f ll)):eF h s k f ll:=H.rows i a
end
section
variable {B:ar} {Bs:List HP} {A:HP}
theorem aa.del(H:aa B h0 h As)(i:Nat):aa B h0 h (As.eraseIdx i):=
 H.pick (λj=>if j<i then j else j+1) (λa b c=>n8) λj A d=>n8
theorem aa.call(H:aa B h0 h As)(i:Nat)(z:As[i]?=dB A)(q:ar)(K:∀q':ar,A.p h q'->∀b,q b->q' b)(R:aa (λb=>b<h.size/\¬q b) h h' (D::Bs)):aa B h0 h' (As.set i D++Bs):=by
 classical
 obtain⟨E,v,f,I,x⟩:=H;obtain⟨_,t,g,L,y⟩:=R;have r:=v.1;have w:=(qm.1 z).1;have l:∀b,q b->b<h.size/\f b=i+1:=K _ (x i A z);have F:∀b,B b->b<h.size/\¬q b:=λb a=>⟨qU (E b a) r,λs=>by have:=I b a;have:=l b s;omega⟩
 let c:Nat->Nat:=λb=>if b<h.size/\¬q b then(if f b=i+1 then 0 else f b)else if g b=0 then 0 else if g b=1 then i+1 else As.length+g b-1
 have j:∀b,b<h.size/\¬q b->f b≠i+1->c b=f b:=λb a G=>by show ite _ _ _=_;rw[hZ a,k4 G]
 have e:∀b,g b≠0->c b=if g b=1 then i+1 else As.length+g b-1:=λb a=>n8
 refine⟨E,v.then t λb _ a=>F b a,c,λb a=>?_,λk n d=>?_⟩
 .grind
 .by_cases u:k<m8 As
  .rw[qu u5,qV]at d;split at d
   .rename_i o;subst o;injection d with d
    subst d;refine D.mono (y 0 D m9) λb a=>⟨a.1,?_⟩
    rw[e b nb,hZ a.2]
   .have m:∀b,b<h.size/\f b=k+1->b<h.size/\¬q b:=λb a=>⟨a.1,λs=>by have:=l b s;omega⟩
    refine n.mono (n.loc (x k n d) (t.mono λb _ a=>m b a)) λb a=>⟨qU a.1 t.1,?_⟩
    rw[j b (m b a) nb];exact a.2
  .rw[qk u5]at d;have J:=y (k-m8 As+1) n B5;refine n.mono J λb a=>⟨a.1,?_⟩
   rw[e b nb,k4 nb];omega
end
def bH(p:Int×Int×Int):Bool:=decide (p.1>=1)&&(decide (p.1<=16)&&(decide (p.2.1>=1)&&(decide (p.2.1<=4)&&(decide (p.2.2>=1)&&decide (p.2.2<=24)))))
theorem bI(p:Int×Int×Int):bH p=eL↔(1<=p.1/\p.1<=16)/\(1<=p.2.1/\p.2.1<=4)/\1<=p.2.2/\p.2.2<=24:=by simp[bH,and_assoc]
def bD(p:Int×Int×Int):Int:=if bH p then p.1+p.2.1 else 0
def tW(s:Int):Int:=qd xS (qd xS (s*(6364136223846793005:Int))+(1442695040888963407:Int))
def told(s:Int):Int:=qd xR (zp (tW s) (2^min (32:Int).toNat (qq xS)))
def jo(s n:Int):Int:=qd xP (xB (qd xS (told s)) (qd xS n))
theorem wrap_u64(x:Int):qd xS x=x%18446744073709551616:=rfl
theorem wrap_u32(x:Int):qd xR x=x%4294967296:=rfl
theorem oa(s n:Int)(c:0<n:=by omega)(d:n<=2^62:=by omega):0<=jo s n/\jo s n<n:=by
 unfold jo;have b:qd xS n=n:=A7
 rw[b];have a:0<=qd xS (told s):=A7
 have e2:=yX (qd xS (told s)) c;have e:0<=xB (qd xS (told s)) n:=Int.tmod_nonneg n a;rw[Qw.af _];omega
def fd(l:aC)(i:Nat):Int:=l.getD i 0
def ji(l:aC)(i j:Nat):aC:=(l.set i (fd l j)).set j (fd l i)
theorem pK(l:aC)(i j:Nat):(ji l i j).length=m8 l:=by simp[ji]
def dZ(n:Nat)(s:Int)(l:aC):Nat->Int×aC
 |0=>(s,l)
 |k+1=>(tW (dZ n s l k).1,ji (dZ n s l k).2 k (k+(jo (dZ n s l k).1 ((n-k:Nat):Int)).toNat))
theorem pL(n:Nat)(s:Int)(l:aC):∀k,(dZ n s l k).2.length=m8 l
 |0=>rfl
 |k+1=>by rw[dZ,pK,pL n s l k]
theorem FD{l:aC}{i:Nat}(h:i<m8 l):fd l i∈l:=by rw[fd,qg,qc h];simp
theorem XA{l:aC}{i j:Nat}(c:i<m8 l)(a:j<m8 l){x:Int}(b:x∈ji l i j):x∈l:=by
 rcases wm b with h|h
 .rcases wm h with h|h
  .exact h
  .rw[h];exact FD a
 .rw[h];exact FD c
def upto(n:Nat):aC:=(qy n).map λi:Nat=>(i:Int)
theorem fE(n:Nat):(upto n).length=n:=by simp[upto]
theorem FE(n:Nat)(s:Int):∀k,k<=n->∀x∈(dZ n s (upto n) k).2,0<=x/\x<n
 |0,_,x,hx=>by
  simp only[dZ,upto,qI,qY]at hx;omega
 |k+1,hk,x,hx=>by
  have j:k<n->n-k<=2^62->k+(jo (dZ n s (upto n) k).1 ((n-k:Nat))).toNat<n:=λl f=>by
   have:=oa (dZ n s (upto n) k).1 ((n-k:Nat));omega
  have d:=pL n s (upto n) k;rw[fE]at d;by_cases c:n-k<=2^62
  .refine FE n s k nb x (XA nb ?_ hx);omega
  .--beyond any size:what is set is 0 or a member
   have b:∀y∈ji (dZ n s (upto n) k).2 k (k+(jo (dZ n s (upto n) k).1 ((n-k:Nat))).toNat),y∈(dZ n s (upto n) k).2∨y=0:=by
    intro y e;have g:∀i,fd (dZ n s (upto n) k).2 i∈(dZ n s (upto n) k).2∨fd (dZ n s (upto n) k).2 i=0:=λi=>by
     by_cases h:i<(dZ n s (upto n) k).2.length
     .exact .inl (FD h)
     .simp only[fd,];grind
    rcases wm e with h|h
    .grind
    grind
   rcases b x hx with h|h
   .exact FE n s k nb x h
   grind
def mD(l:aC):aC:=l.mergeSort λx y=>decide (x<=y)
theorem Jv(l:aC):(mD l).length=m8 l:=wP l
theorem Jw(l:aC)(x:Int):x∈mD l↔x∈l:=List.mem_mergeSort
def Bl(s:Int)(n k:Nat):aC:=mD ((dZ n s (upto n) k).2.take k)
theorem XB{s:Int}{n k:Nat}(b:k<=n){x:Int}(a:x∈Bl s n k):0<=x/\x<n:=
 FE n s k b x (zK ((Jw _ _).1 a))
theorem XC(s:Int)(n k:Nat)(a:k<=n):(Bl s n k).length=k:=by rw[Bl,Jv,qx,pL,fE];omega
def cx(l:Nat):Nat:=if l<=1 then l else if l<=4 then 2 else if l<=9 then 3 else if l<=16 then 4 else 5
def ry(r:Nat):Nat:=if r=0 then 0 else if r=1 then 1 else if r<=3 then 2 else 3
def lx(l k:Nat):Nat:=
 (if k>1 then 1048576/(k*(k-1))else 1048576/l)+
  (if k<l/cx l then 1048576*cx l/(l*k)else if k=l/cx l then 1048576*cx l*ry (cx l)/l else 0)
def jv(l:Nat):Nat->Nat
 |0=>0
 |k+1=>jv l k+lx l (k+1)
def fH(l:Nat):aC:=(qy l).map λk=>((jv l (k+1):Nat):Int)
theorem fZ(l:Nat):(fH l).length=l:=by simp[fH]
def IF(t:aC)(x:Int):Nat:=(t.findIdx λy=>decide (y>x))+1
theorem Bn:∀l,l<=20->∀k,k<=20->lx l k<=2^30:=oi
theorem tj(l:Nat)(a:l<=20):∀k,k<=20->jv l k<=k*2^30
 |0,_=>by simp[jv]
 |k+1,hk=>by
  have:=tj l a k nb;have:=Bn l a (k+1) hk;rw[jv];omega
theorem FF:∀l,l<=20->1<=l->0<jv l l:=oi
theorem Bo(l:Nat)(h:1<=l):(fH l).getLast?=dB ((jv l l:Nat):Int):=by
 obtain⟨k,rfl⟩:∃k,l=k+1:=⟨l-1,nb⟩
 simp[fH,zC]
def CO(seed id:Int):Int:=qd xS (qd xR ((qF (qq xR) seed^^^(qF (qq xR) (qd xR ((qd xR id)*(2654435761:Int))))).toNat:Nat))
def Bp(s:Int)(n:Nat):Nat:=IF (fH n) (jo s (jv n n))
theorem pM(s:Int)(n:Nat)(b:1<=n:=by omega)(a:n<=20:=by omega):Bp s n<=n:=by unfold Bp IF;have e:=FF n a b;have c:=tj n a n a;have d:=oa s (jv n n);have:=List.findIdx_lt_length_of_exists (p:=λy=>decide (y>jo s (jv n n))) (xs:=fH n) ⟨_,List.mem_of_getLast? (Bo n b),n8⟩;rw[fZ]at this;omega
def bR(id:Int):Bool:=decide (0<=id)&&decide (id<=65535)
def eG(n:Nat)(seed id:Int):aC:=Bl (tW (tW (CO seed id))) n (Bp (tW (CO seed id)) n)
theorem kw{n:Nat}(c:1<=n)(a:n<=20){seed id x:Int}(b:x∈eG n seed id):0<=x/\x<n:=XB (pM _ n c a) b
theorem mK{n:Nat}(b:1<=n)(a:n<=20)(seed id:Int):(eG n seed id).length<=n:=by rw[eG,XC _ _ _ (pM _ n b a)];exact pM _ n b a
def ia(n:Nat)(l:aC):aT:=l.foldl (λr i=>r.set i.toNat 1) (qf n 0)
theorem pN(n:Nat)(l:aC):(ia n l).length=n:=by
 have:∀(l:aC) (r:aT),(l.foldl (λr i=>r.set i.toNat 1) r).length=m8 r:=by
  intro l
  induction l with
  |nil=>simp
  |cons a t ih=>grind
 rw[ia,this];simp
def pO(n:Nat)(seed id:Int):aT:=ia n (eG n seed id)
theorem XD(n:Nat)(seed id:Int):(pO n seed id).length=n:=pN _ _
def lO(K H h:Nat):aT:=(qy K).map (λj=>Gf.pw ((h+1)*(j+1)%255))++(qy H).map λi=>if i=h then 1 else 0
def bA(K H:Nat):dT:=(qy H).map (lO K H)
theorem CQ(K H h:Nat):(lO K H h).length=K+H:=by simp[lO]
def eM(p:Int×Int×Int)(seed:Int)(a:aC):dT:=
 if bH p then bA p.1.toNat p.2.1.toNat++(a.filter bR).map (pO (bD p).toNat seed)else[]
theorem tZ{α:Type}{f:α->Bool}{l:List α}{k:Nat}(a:k<m8 l):(l.take (k+1)).filter f=if f l[k]then(l.take k).filter f++[l[k]]else(l.take k).filter f:=by
 rw[zx a,]
 grind
structure cZ where
 name:ByteArray
 object:Int
 length:Int
 tries:aC
structure aB where
 seq:Int
 next:Int
 p:Int×Int×Int
 extra:Int
 drives:aC
 objs:List cZ
def adQ:cZ:=⟨⟨#[]⟩,0,0,[]⟩
def jw(l:List cZ)(i:Nat):cZ:=l.getD i adQ
theorem lP{l:List cZ}{i:Nat}(h:i<m8 l:=by omega):jw l i=l[i]:=by unfold jw;grind
def dQ(n a b:Int):Bool:=decide (a<=n)&&decide (n<=b)
def gm(c:UInt8):Bool:=(decide (97<=c.toNat)&&decide (c.toNat<=122))||(decide (48<=c.toNat)&&decide (c.toNat<=57))||decide (c.toNat=45)
def gU(s:ByteArray):Bool:=s.data.toList.all gm&&(decide (1<=s.size)&&decide (s.size<=12))
def cW(a b:ByteArray):Bool:=Op.bytesLess a.toList b.toList
def fU(l:aC)(a:Int)(i:Nat):Bool:=dQ (l.getD i 0) 0 a&&(decide (i=0)||decide (l.getD (i-1) 0<l.getD i 0))
def oM(l:aC)(a:Int):Bool:=(qy l.length).all (fU l a)
def countP(p:Int×Int×Int)(n:Int):Int:=if bH p&&decide (0<n)then(n-1)/(p.1*p.2.2)+1 else 0
def gC(m:aB)(x:cZ):Bool:=
 gU x.name&&(dQ x.object 0 (m.next-1)&&(dQ x.length 0 (m.p.1*m.p.2.2*8)&&(x.tries.all (dQ · 0 15)&&decide ((x.tries.length:Int)=countP m.p x.length))))
def ky(m:aB)(i:Nat):Bool:=
 gC m (jw m.objs i)&&((decide (i=0)||cW (jw m.objs (i-1)).name (jw m.objs i).name)&&!(m.objs.take i).any λy=>decide (y.object=(jw m.objs i).object))
def kz(m:aB):Bool:=dQ m.seq 1 2147483647&&(dQ m.next 0 16777216&&(bH m.p&&dQ m.extra 0 16))
def bF(m:aB):Bool:=kz m&&(oM m.drives 63&&(decide (m8 m.objs<=12)&&(qy m.objs.length).all (ky m)))
theorem CR{p:Nat->Bool}{n i:Nat}(a:i<n)(h:p i=eR):(qy n).all p=eR:=List.all_eq_false.2 ⟨i,qY.2 a,n8⟩
theorem sp{p:Nat->Bool}{n:Nat}(h:∀i,i<n->p i=eL):(qy n).all p=eL:=qQ.2 λi a=>h i (qY.1 a)
def cD(n:Int)(k:Nat):aT:=(qy k).map λi=>b8 (zp n (2^(8*(k-1-i))))
theorem bL(n:Int)(k:Nat):(cD n k).length=k:=by simp[cD]
def gu(x:cZ):aT:=b8 x.name.size::(x.name.data.toList++(cD x.object 3++(cD x.length 2++x.tries.map b8)))
def gG(m:aB):aT:=
 if bF m then cD m.seq 4++(cD m.next 4++([b8 m.p.1,b8 m.p.2.1,b8 m.p.2.2,b8 m.extra,b8 m.drives.length]++(m.drives.map b8++(b8 m.objs.length::m.objs.flatMap gu))))else[]
def ot(seq a c:Int)(b:aT):aT:=eZ 2 (cD seq 4++([b8 a,b8 c,b8 b.length]++b))
def fl(b:aT):Nat:=(m8 b+47)/48
def bG(m:aB):dT:=(qy (fl (gG m))).map λi:Nat=>ot m.seq i (fl (gG m)) (((gG m).drop (48*i)).take 48)
theorem Uw{m:aB}(h:bF m=eL):kz m=eL:=by unfold bF at h;grind
theorem FG{m:aB}(h:kz m=eL):(1<=m.seq/\m.seq<=2147483647)/\(0<=m.next/\m.next<=16777216)/\bH m.p=eL/\0<=m.extra/\m.extra<=16:=by unfold kz dQ at h;grind
theorem sM{m:aB}{c:aT}(h:c∈bG m):m8 c=64:=by obtain⟨i,_,rfl⟩:=qI.1 h;exact nE nq nq o9
structure ct where
 object:Int
 block:Int
 id:Int
 p:Int×Int×Int
 seed:Int
 data:aT
def jR(r:ct):Bool:=(dQ r.object 0 16777215&&(dQ r.block 0 7&&bR r.id))&&(bH r.p&&decide ((r.data.length:Int)=r.p.2.2))
def oN(r:ct):aT:=cD r.object 3++(cD r.block 1++(cD r.id 2++([b8 r.p.1,b8 r.p.2.1,b8 r.p.2.2]++(cD r.seed 4++r.data))))
def gn(r:ct):aT:=if jR r then eZ 1 (oN r)else[]
def dp(l:aT):Int:=l.foldl (λn x=>n*256+x.toNat) 0
def gH(c:aT):Option (Int×aT):=
 if c.length=64/\eZ ((c.getD 3 0).toNat:Int) ((c.drop 4).take 55)=c then dB (((c.getD 3 0).toNat:Int),(c.drop 4).take 55)else eH
def uP(x:aT):ct:=
 ⟨dp (x.take 3),dp ((x.drop 3).take 1),dp ((x.drop 4).take 2),(dp ((x.drop 6).take 1),dp ((x.drop 7).take 1),dp ((x.drop 8).take 1)),dp ((x.drop 9).take 4),(x.drop 13).take (dp ((x.drop 8).take 1)).toNat⟩
def dq(c:aT):Option ct:=
 match gH c with
 |some (k,x)=>if k=1/\bH (uP x).p=eL/\gn (uP x)=c then dB (uP x)else eH
 |none=>eH
theorem jS(r:ct):jR r=eL↔(0<=r.object/\r.object<=16777215)/\(0<=r.block/\r.block<=7)/\(0<=r.id/\r.id<=65535)/\bH r.p=eL/\(r.data.length:Int)=r.p.2.2:=by unfold jR dQ bR;grind
theorem rN{r:ct}(h:jR r=eL):(oN r).length=13+m8 r.data/\r.data.length<=24:=by obtain⟨_,_,_,a,b⟩:=(jS r).1 h;have:=(bI r.p).1 a;refine⟨by unfold oN;simp[bL];omega,nb⟩
theorem XE{r:ct}(h:jR r=eL):(gn r).length=64:=by have:=rN h;unfold gn;rw[hZ h];exact nE nq nq nb
theorem RZ{c:aT}{r:ct}(h:dq c=dB r):gn r=c/\jR r=eL/\bH r.p=eL:=by
 unfold dq at h;cases hc:gH c with
 |none=>rw[hc]at h;cases h
 |some kx=>
  rw[hc]at h;dsimp only at h;by_cases a:kx.1=1/\bH (uP kx.2).p=eL/\gn (uP kx.2)=c
  .rw[hZ a]at h;injection h with h
   subst h;refine⟨a.2.2,?_,a.2.1⟩;by_cases d:jR (uP kx.2)=eL
   .exact d
   .exfalso;have b:=a.2.2;unfold gn at b;rw[k4 d]at b;unfold gH at hc;rw[<-b]at hc;simp at hc
  .rw[k4 a]at h;cases h
section
variable (le:α->α->Bool)
def ja(a b:α):Bool:=le a b&&le b a
def cI(l a:List α):Prop:=∀x,l.filter (ja le x)=a.filter (ja le x)
def Sd(l:List α):Prop:=l.Pairwise λa b=>le a b=eL
structure Ord:Prop where
 trans:∀a b c,le a b=eL->le b c=eL->le a c=eL
 total:∀a b,(le a b||le b a)=eL
variable {le}
theorem Ord.CS(o:Ord le){a b:α}(h:¬le a b=eL):le b a=eL:=by
 have:=o.total a b
 grind
theorem Ord.refl(o:Ord le)(a:α):le a a=eL:=by have:=o.total a a;grind
theorem cI.refl(l:List α):cI le l l:=λ_=>rfl
theorem cI.trans{l1 l2 a:List α}(h:cI le l1 l2)(k:cI le l2 a):cI le l1 a:=λx=>(h x).trans (k x)
theorem cI.symm{l1 l2:List α}(h:cI le l1 l2):cI le l2 l1:=λx=>(h x).symm
theorem cI.app{a b c d:List α}(h:cI le a b)(k:cI le c d):cI le (a++c) (b++d):=λx=>by
 rw[zi,zi,h x,k x]
theorem cI.mem(o:Ord le){l a:List α}(h:cI le l a){y:α}(b:y∈a):y∈l:=by
 have c:y∈a.filter (ja le y):=qJ.2 ⟨b,v7⟩;rw[<-h y]at c
 grind
theorem cI.Ux(o:Ord le){u v:List α}(h:∀x∈u,∀y∈v,¬le x y=eL):cI le (u++v) (v++u):=λz=>by
 by_cases i:u.filter (ja le z)=[]
 .grind
 .by_cases g:v.filter (ja le z)=[]
  .grind
  .exfalso;obtain⟨x,f⟩:=List.exists_mem_of_ne_nil _ i;obtain⟨y,e⟩:=List.exists_mem_of_ne_nil _ g;obtain⟨c,b⟩:=qJ.1 f;obtain⟨d,a⟩:=qJ.1 e;unfold ja at b a;simp only[qz]at b a;exact h x c y d (o.trans _ _ _ b.2 a.1)
theorem cI.LX(o:Ord le){l:List α}(h:cI le [] l):l=[]:=by
 cases l with
 |nil=>rfl
 |cons a l=>exact absurd (cI.mem o h (qS ..)) n4
theorem Jx(o:Ord le):∀(l c:List α),Sd le l->Sd le c->cI le l c->l=c
 |[],c,_,_,h=>(cI.LX o h).symm
 |a::l,[],_,_,h=>absurd (cI.LX o h.symm) n4
 |a::l,b::c,s,s',h=>by
  have d:a=b:=by
   have i:le a b=eL:=by
    have:=cI.mem o h (y:=b) (qS ..);rcases qN.1 this with e|e
    .rw[e];exact o.refl _
    .exact(zr.1 s).1 _ e
   have f:le b a=eL:=by
    have:=cI.mem o h.symm (y:=a) (qS ..);rcases qN.1 this with e|e
    .grind
    .exact(zr.1 s').1 _ e
   have h3:=h a;have g:ja le a a=eL:=v7
   have e2:ja le a b=eL:=by unfold ja;grind
   grind
  subst d;rw[Jx o l c (zr.1 s).2 (zr.1 s').2 λx=>by
   have h3:=h x
   grind]
theorem ua(o:Ord le)(l:List α):Sd le (l.mergeSort le)/\cI le l (l.mergeSort le):=by
 refine⟨wD o.trans o.total l,λx=>?_⟩;have f:(l.filter (ja le x)).Pairwise λa b=>le a b=eL:=by rw[List.pairwise_filter];refine List.Pairwise.imp ?_ (List.pairwise_of_forall (l:=l) (R:=λ_ _=>True) λ_ _=>trivial);intro a b _ e d;unfold ja at e d;simp only[qz]at e d;exact o.trans _ _ _ e.2 d.1
 have g:=List.sublist_mergeSort o.trans o.total f List.filter_sublist;have c:=g.filter (ja le x);rw[List.filter_filter]at c;simp only[Bool.and_self]at c;exact c.eq_of_length ((wb l le).symm.filter _).length_eq
theorem ZJ(o:Ord le){l a:List α}(s:Sd le a)(h:cI le l a):a=l.mergeSort le:=by obtain⟨c,b⟩:=ua o l;exact Jx o _ _ s c (h.symm.trans b)
theorem Sd.app(o:Ord le){u v:List α}(b:Sd le u)(a:Sd le v)(h:∀x∈u,∀y∈v,le x y=eL):Sd le (u++v):=zy.2 ⟨b,a,h⟩
theorem Sd.left{u v:List α}(h:Sd le (u++v)):Sd le u:=(zy.1 h).1
theorem Sd.right{u v:List α}(h:Sd le (u++v)):Sd le v:=(zy.1 h).2.1
theorem Sd.Em{u v:List α}(h:Sd le (u++v)):∀x∈u,∀y∈v,le x y=eL:=(zy.1 h).2.2
theorem Sd.at_(o:Ord le){l:List α}(h:Sd le l){i j:Nat}(b:i<=j)(a:j<m8 l):le (l[i]'nb) l[j]=eL:=by
 by_cases e:i=j
 .subst e;exact o.refl _
 .exact zb.1 h i j nb a nb
theorem Uy(o:Ord le){l1 l2 a b f m2:List α}(n:Sd le (l1++l2))(i:Sd le (a++b))(l:∀x∈l1,∀y∈b,le x y=eL)(e:∀x∈l2,∀y∈a,¬le x y=eL)
  (h:cI le (l1++a) f) (j:Sd le f) (g:cI le (l2++b) m2) (k:Sd le m2):Sd le (f++m2)/\cI le ((l1++l2)++(a++b)) (f++m2):=by
 constructor
 .refine Sd.app o j k λx c y d=>?_;rcases qw.1 (cI.mem o h c)with c|c<;>rcases qw.1 (cI.mem o g d)with d|d
  .exact n.Em x c y d
  .grind
  .exact o.CS (e y d x c)
  .exact i.Em x c y d
 .have m:cI le ((l1++l2)++(a++b)) ((l1++a)++(l2++b)):=by rw[show(l1++l2)++(a++b)=l1++((l2++a)++b)by simp,show(l1++a)++(l2++b)=l1++((a++l2)++b)by simp];exact(cI.refl _).app ((cI.Ux o e).app (cI.refl _))
  exact m.trans (h.app g)
end
variable {le:α->α->Bool}
theorem tm(o:Ord le):∀{l d:List α},cI le l d->m8 l=m8 d
 |[],d,h=>by rw[cI.LX o h]
 |a::l,d,h=>by
  have j:=cI.mem o h.symm (y:=a) (qS ..);obtain⟨u,v,g⟩:=List.append_of_mem j;have k:∃(u:List α) (b:α) (v:List α),d=u++b::v/\(∀x∈u,ja le a x=eR)/\ja le a b=eL:=by
   have r:d.filter (ja le a)≠[]:=λD=>by
    have:a∈d.filter (ja le a):=qJ.2 ⟨j,v7⟩
    grind
   clear g u v j h
   induction d with
   |nil=>grind
   |cons c d ih=>
    by_cases w:ja le a c=eL
    .exact⟨[],c,d,m9,n4,w⟩
    grind
  obtain⟨u,b,v,rfl,z,q⟩:=k;have B:ja le a a=eL:=v7
  have i:=h a;have p:u.filter (ja le a)=[]:=yZ.2 λx m=>n8
  rw[List.filter_cons_of_pos B,zi,List.filter_cons_of_pos q]at i;have n:a=b:=n8
  have t:cI le l (u++v):=λx=>by
   have m:=h x;rw[zi,]at m;by_cases e:ja le x a=eL
   .have s:u.filter (ja le x)=[]:=yZ.2 λy A f=>by
     have:=z y A;unfold ja at this e f;simp only[qz]at e f;rw[o.trans _ _ _ e.2 f.1,o.trans _ _ _ f.2 e.1]at this
     grind
    grind
   grind
  rw[q7,tm o t]
  grind
def fx(o b t:Int):Int:=(128*o+16*b+t)%4294967296
def dK(m:aB)(r:ct):Bool:=jR r&&(decide (r.p=m.p)&&m.objs.any λx=>decide (x.object=r.object)&&(decide (r.block<(x.tries.length:Int))&&decide (r.seed=fx r.object r.block (x.tries.getD r.block.toNat 0))))
def mf(a b:ct):Bool:=decide (a.object<b.object∨(a.object=b.object/\(a.block<b.block∨(a.block=b.block/\a.id<=b.id))))
def dO(a b:ct):Bool:=decide (a.object=b.object/\a.block=b.block/\a.id=b.id)
def nN:ct:=⟨0,0,0,(0,0,0),0,[]⟩
def oO(l:List ct)(k:Nat):Bool:=decide (k=0)||!dO (l.getD k nN) (l.getD (k-1) nN)
def ny(l:List ct):List ct:=((qy l.length).filter (oO l)).map λi=>l.getD i nN
def gv(m:aB)(c:aT):Option ct:=match dq c with|some r=>if dK m r then dB r else eH|none=>eH
def iI(m:aB)(l:dT):List ct:=ny ((l.filterMap (gv m)).mergeSort mf)
theorem IG:Ord mf:=⟨λa b c e d=>by
 unfold mf at*
 grind,λa b=>by
 unfold mf
 grind⟩
theorem GN(m:aB)(l:dT)(i:Nat)(a:i<m8 l):(l.take (i+1)).filterMap (gv m)=(l.take i).filterMap (gv m)++(gv m l[i]).toList:=by
 have:l.take (i+1)=l.take i++[l[i]]:=n4
 grind
def ou(a b:ct):Prop:=mf a b=eL/\dO a b=eR
section
variable {B:ar} {Bs:List HP} {A:HP} {e:Nat}
theorem aa.off(H:aa B h0 h As)(i j:Nat)(m:i≠j)(o:As[i]?=dB (ai e s k f l))(g:As[j]?=dB A):A.p h (λb=>b<h.size/\¬s.on b):=by
 obtain⟨_,_,c,_,a⟩:=H;refine A.mono (a j A g) λb n=>⟨n.1,λd=>?_⟩
 have:=(a i _ o).2 b d;omega
theorem aa.base(H:aa B h0 h As)(i:Nat)(j:As[i]?=dB (ai e s k f l)){b:Nat}(g:B b):¬s.on b:=λd=>by
 obtain⟨_,_,c,z,a⟩:=H;have:=(a i _ j).2 b d;have:=z b g;omega
theorem aa.LY(H:aa B h0 h (As++[D]))(i:Nat)(k:i<m8 As):aa B h0 h (As.set i D):=
 H.pick (λj=>if j<m8 As then(if j=i then As.length else j)else j+1) (λa b c=>by split at c<;>split at c<;>(try split at c)<;>(try split at c)<;>omega) λj A f=>by
  have e:j<m8 As:=by have:=(qm.1 f).1;simpa using this
  rw[hZ e];rw[qV]at f;split at f
  .rename_i d;subst d;rw[hZ m9,qk (qj _),zd];exact f
  .rename_i d;rw[k4 λg=>d g.symm,qu e];exact f
theorem aa.Sa(H:aa B h0 h As)(i j:Nat){A2:HP}(n:As[i]?=dB A)(m:As[j]?=dB A2):aa B h0 h ((As.set i A2).set j A):=by
 have k:=(qm.1 n).1;have g:=(qm.1 m).1;refine H.pick (λx=>if x=j then i else if x=i then j else x) (λa b c=>by split at c<;>split at c<;>(try split at c)<;>(try split at c)<;>omega) λx o d=>?_;rw[qV,qV]at d;by_cases f:j=x
 .subst f;simp[g]at d;subst d;simpa using n
 .by_cases l:i=x
  .subst l;simp[f,k]at d;subst d;rw[k4 λe=>f e.symm,hZ rfl];exact m
  .simp[f,l]at d;rw[k4 λe=>f e.symm,k4 λe=>l e.symm];exact d
end
def bt{α:Type}(e k:Nat)(f:α->aR)(rs:List Sl)(ll:List (List α)):List HP:=zj (λr l=>ai e r k f l) rs ll
section
variable {e:Nat}
theorem gD(h:m8 rs=m8 ll):(bt e k f rs ll).length=m8 ll:=by simp[bt,h]
theorem eN(h:m8 rs=m8 ll)(i:Nat)(a:i<m8 ll):(bt e k f rs ll)[i]?=dB (ai e (rs[i]'nb) k f ll[i]):=by
 have b:i<m8 rs:=nb
 simp[bt,wQ,qc a,qc b]
theorem oP(h:m8 rs=m8 ll)(r:Sl)(l:List α):bt e k f (rs++[r]) (ll++[l])=bt e k f rs ll++[ai e r k f l]:=by unfold bt;rw[List.zipWith_append h];rfl
theorem jF(h:m8 rs=m8 ll)(i:Nat)(r:Sl)(l:List α):(bt e k f rs ll).set i (ai e r k f l)=bt e k f (rs.set i r) (ll.set i l):=by
 apply zn;intro j;simp only[bt,qV,wQ,List.length_zipWith];by_cases a:i=j
 .subst a;by_cases b:i<m8 ll
  .have:i<m8 rs:=nb
   simp[b,this];omega
  .have:¬i<m8 rs:=nb
   simp[b];omega
 .simp[a]
theorem LZ(h:m8 rs=m8 ll)(i:Nat)(a:i<m8 ll)(l:List α):(bt e k f rs ll).set i (ai e (rs[i]'nb) k f l)=bt e k f rs (ll.set i l):=by rw[jF h,List.set_getElem_self]
theorem aa.Jy{B:ar}{m h:hY}{s:Sl}{b:Nat}(H:aa B m h (ai b s 1 bv rs::bt e k f rs ll))(c:m8 rs=m8 ll)(j:∀x,(f x).length=k):eF h s k f ll:=by
 refine⟨rs,H.seq 0 m9 λ_=>rfl,c,λi r l d a=>?_⟩;have g:i<m8 ll:=(qm.1 a).1;have n:=eN (e:=e) (k:=k) (f:=f) c i g;have h3:=H.seq (i+1) (by simpa using n) j;have b:rs[i]'nb=r:=by rw[qc nb]at d;simpa using d
 have e2:ll[i]=l:=by rw[qc g]at a;simpa using a
 rw[b,e2]at h3;exact h3
end
theorem Seq.nO{X:Type}{g:X->eX}(d:Seq h p s 1 f l){i:Int}(n:Nat)(r:i=n)(m:n<m8 l)(x:X)(j:f l[n]=[g x]){K:fY->X->Prop}(k:∀a:fY,hU h (a.add (i.toNat*1))=dB (g x)->K a x):
  ∃a:fY,(s.ptr=dB a/\0<=i/\i<((s.len:Nat):Int))/\∃x:X,hU h (a.add (i.toNat*1))=dB (g x)/\K a x:=by
 subst r;obtain⟨b,o,q,_,h3⟩:=d.elem n l[n] (qc m);rw[j]at h3;have e:=h3.1;rw[add_eq,yn]at e;have c:hU h ((⟨b,o,eH⟩:fY).add ((n:Int).toNat*1))=dB (g x):=by rw[add_eq];simpa using e
 exact⟨_,⟨q,nb,by rw[d.len];omega⟩,x,c,k _ c⟩
theorem Seq.dR{h:hY}{p:ar}{s:Sl}{rs:List Sl}(d:Seq h p s 1 bv rs){i:Int}(n:Nat)(l:i=n)(g:n<m8 rs){K:fY->Sl->Prop}
  (f:∀a:fY,hU h (a.add (i.toNat*1))=dB (.slice rs[n].ptr rs[n].len rs[n].cap)->p (a.add (i.toNat*1)).block->K a rs[n]):
  ∃a:fY,(s.ptr=dB a/\0<=i/\i<((s.len:Nat):Int))/\∃x:Sl,hU h (a.add (i.toNat*1))=dB (.slice x.ptr x.len x.cap)/\K a x:=by
 subst l;obtain⟨b,o,j,k,h3⟩:=d.elem n rs[n] (qc g);have e:=h3.1;rw[add_eq,yn]at e;have c:hU h ((⟨b,o,eH⟩:fY).add ((n:Int).toNat*1))=dB (.slice rs[n].ptr rs[n].len rs[n].cap):=by rw[add_eq];simpa using e
 exact⟨_,⟨j,nb,by rw[d.len];omega⟩,rs[n],c,f _ c (by rw[add_eq];exact k)⟩
section
variable {B:ar} {e:Nat}
theorem Own.cut(a:Own h e s k f l)(c:∀x,(f x).length=k)(j:Nat)(g:j<=m8 l):Own h e ⟨s.ptr,j,s.cap⟩ k f (l.take j):=by
 have d:=a.len;refine⟨n2,?_⟩;rcases a.head with⟨h1,h2,h3⟩|⟨b,rest,h1,h2,h3,h4⟩
 .subst h3;exact .inl ⟨h1,h2,n4⟩
 .refine .inr ⟨b,(l.drop j).flatMap f++rest,h1,?_,?_,n1⟩
  .rw[<-ql,<-za,qA];exact h2
  .rw[qo,dz c,qH,h3,<-Nat.add_mul];dsimp only;congr 1;omega
theorem aa.cut(H:aa B h0 h As)(i:Nat)(d:As[i]?=dB (ai e s k f l))(b:∀x,(f x).length=k)(j:Nat)(c:j<=m8 l):aa B h0 h (As.set i (ai e ⟨s.ptr,j,s.cap⟩ k f (l.take j))):=
 H.dY i d λ_ a=>⟨a.1.cut b j c,a.2⟩
end
section
variable {B:ar} {C:Ctx} {e:Nat}
end
section
variable {C:Ctx} {ty e:Nat} {B:ar}
theorem Own.CT(E:C.Ok)(A:bO C.toAA t e k z by_)(i:∀x,(f x).length=k)(y:Own h e s k f l)(B:Seq h p v k f l2)(D:∀x,∀c∈f x,c.oneCell'=eL){K:Int->hY->Prop}
  (q:∀n h',Own h' e s k f (l2.take l.length++l.drop l2.length)->aQ (λb=>¬s.on b) h h'->K n h'):
  bC C.P (w6 #[t,t2] ty #[.slice s.ptr s.len s.cap,.slice v.ptr v.len v.cap]) (.one (.sc (.int .i64))) h K:=by
 unfold bC w6;simp only[zN,wc,qO];refine au.bind (au.always (aK (A.under E)) ?_);refine au.bind (au.pure' ?_);refine au.bind (au.always (A.size E) ?_);have d:=y.len;have a:=B.len;obtain⟨m,g⟩:=HF (Nat.min v.len s.len)
 rw[<-g];have j:m<=m8 l2:=by rw[g,<-a];exact Nat.min_le_left _ _
 have o:m<=m8 l:=by rw[g,<-d];exact Nat.min_le_right _ _
 have H:m=min l2.length l.length:=by rw[g,d,a]
 have r:=B.take m j;have G:l2.take l.length++l.drop l2.length=l2.take m++l.drop m:=by
  rcases Nat.le_total l2.length l.length with hh|hh
  .grind
  .rw[show m=m8 l by omega,zh hh,List.drop_length]
 rw[G]at q;have w:wI k m (.slice v.ptr v.len v.cap)=wI k m (.slice v.ptr m v.cap):=by cases v.ptr<;>rfl
 rw[w];refine au.bind (eC (v:=⟨v.ptr,m,v.cap⟩) i r ?_);rcases y.head with⟨h1,h2,h3⟩|⟨b,rest,h1,h2,h3,h4⟩
 .rw[h1];subst h3;have:m=0:=B3
  subst this;refine au.pure' ⟨_,m9,q _ h ?_ (aQ.refl _ _)⟩;simpa using y
 .rw[h1];refine au.bind ?_;have u:l.flatMap f++rest=(l.take m).flatMap f++((l.drop m).flatMap f++rest):=by rw[<-ql,<-za,qA]
  rw[u]at h2;refine fc (e:=e) (pre:=[]) (old:=(l.take m).flatMap f) (post:=(l.drop m).flatMap f++rest) (by simpa using h2) (by rw[dz i,dz i,qx,qx];congr 1;omega) m9 ?_ ?_
  .grind
  .refine au.pure' ⟨_,m9,q _ _ ⟨n8,.inr ⟨b,rest,h1,?_,h3,h4⟩⟩ (aQ.ju h2 λF=>F ⟨0,h1⟩)⟩;rw[hJ h2,hZ m9,za];simp
theorem aa.CT(d:C.Ok)(H:aa B h0 h As)(i:Nat)(b:As[i]?=dB (ai e s k f l))(j:bO C.toAA t e k z by_)(g:∀x,(f x).length=k)(m:Seq h p v k f l2)(a:∀x,∀c∈f x,c.oneCell'=eL){K:Int->hY->Prop}
  (o:∀n h',aa B h0 h' (As.set i (ai e s k f (l2.take l.length++l.drop l2.length)))->K n h'):
  bC C.P (w6 #[t,t2] ty #[.slice s.ptr s.len s.cap,.slice v.ptr v.len v.cap]) (.one (.sc (.int .i64))) h K:=
 (H.own i b).CT d j g m a λn h' x y=>o n h' (H.oq i b y x)
end
def FH(d:Sl)(w i:Nat):Sl:=⟨if d.cap=i*w then d.ptr else d.ptr.map (·.add (i*w*1)),(i+1)*w-i*w,d.cap-i*w⟩
def Qm{α:Type}(l:List α)(w i:Nat):List α:=(l.drop (i*w)).take w
theorem Seq.piece{α:Type}{h:hY}{p:ar}{s:Sl}{f:α->aR}{l:List α}(d:Seq h p s 1 f l)(b:s.len<=s.cap)(w i:Nat)(g:(i+1)*w<=m8 l:=by omega):Seq h p (FH s w i) 1 f (Qm l w i):=by
 have c:=d.drop (i*w) b;have e:(i+1)*w=i*w+w:=zU i w;have a:=c.take w o6;have e2:(i+1)*w-i*w=w:=nb
 unfold FH Qm;rw[e2];exact a
theorem Qn{α:Type}{l:List α}{w i:Nat}(a:(i+1)*w<=m8 l):(Qm l w i).length=w:=by have e:(i+1)*w=i*w+w:=zU i w;simp only[Qm,qx,qH];omega
def HP.sep(A D:HP):HP:=
 ⟨λh q=>∃g i:ar,(∀b,g b->¬i b)/\(∀b,g b->q b)/\(∀b,i b->q b)/\A.p h g/\D.p h i,
  λ⟨g,i,a,b,c,d,e⟩ hp=>⟨g,i,a,b,c,A.loc d (hp.mono λx _ f=>b x f),D.loc e (hp.mono λx _ f=>c x f)⟩,
  λ⟨g,i,a,b,c,d,e⟩ hq=>⟨g,i,a,λx f=>hq x (b x f),λx f=>hq x (c x f),d,e⟩⟩
def HP.ex{ι:Type}(F:ι->HP):HP:=⟨λh q=>∃i,(F i).p h q,λ⟨i,a⟩ hp=>⟨i,(F i).loc a hp⟩,λ⟨i,a⟩ hq=>⟨i,(F i).mono a hq⟩⟩
def HP.and(A:HP)(P:Prop):HP:=⟨λh q=>A.p h q/\P,λa b=>⟨A.loc a.1 b,a.2⟩,λa c=>⟨A.mono a.1 c,a.2⟩⟩
variable {E:HP}
section
variable {B:ar} {Bs:List HP} {A:HP} {i:Nat}
theorem aa.split(H:aa B h0 h As)(i:Nat)(m:As[i]?=dB (A.sep D)):aa B h0 h (As.set i A++[D]):=by
 classical
 obtain⟨t,p,c,z,a⟩:=H;obtain⟨u,n,o,l,s2,s,q⟩:=a i _ m;have r:=(qm.1 m).1;refine⟨t,p,λb=>if n b then As.length+1 else c b,λb d=>?_,λj X e=>?_⟩
 .grind
 .by_cases k:j<m8 As
  .rw[qu C6,qV]at e;split at e
   .rename_i g;subst g;injection e with e
    subst e;refine A.mono s λb d=>⟨(l b d).1,?_⟩
    dsimp only;rw[k4 (o b d)];exact(l b d).2
   .refine X.mono (a j X e) λb d=>⟨d.1,?_⟩
    grind
  .rw[qk C6]at e;have f:j=m8 As:=n8
   subst f;simp at e;subst e;refine D.mono q λb d=>⟨(s2 b d).1,?_⟩
   dsimp only;rw[hZ d]
theorem aa.join(H:aa B h0 h As)(i j:Nat)(a:i≠j)(d:As[i]?=dB A)(c:As[j]?=dB D):aa B h0 h ((As.set i (A.sep D)).set j emp):=
 H.merge i j a d c λe g l f k=>⟨e,g,l,λ_ b=>.inl b,λ_ b=>.inr b,f,k⟩
theorem aa.Lg{ι:Type}{F:ι->HP}(H:aa B h0 h As)(i:Nat)(f:As[i]?=dB (HP.ex F)):∃x,aa B h0 h (As.set i (F x)):=by
 obtain⟨g,p,c,z,a⟩:=H;obtain⟨x,e⟩:=a i _ f;refine⟨x,g,p,c,z,λj X b=>?_⟩;rw[qV]at b;split at b
 .rename_i d;subst d;split at b
  .injection b with b;subst b;exact e
  .cases b
 .exact a j X b
theorem aa.close'{ι:Type}{F:ι->HP}(H:aa B h0 h As)(i:Nat)(x:ι)(a:As[i]?=dB (F x)):aa B h0 h (As.set i (HP.ex F)):=H.dY i a λ_ b=>⟨x,b⟩
theorem aa.fact{P:Prop}(H:aa B h0 h As)(i:Nat)(a:As[i]?=dB (A.and P)):P:=(H.at i a).2
theorem aa.ZK{P:Prop}(H:aa B h0 h As)(i:Nat)(a:As[i]?=dB (A.and P)):aa B h0 h (As.set i A):=H.dY i a λ_ b=>b.1
theorem aa.adR{P:Prop}(H:aa B h0 h As)(i:Nat)(b:As[i]?=dB A)(a:P):aa B h0 h (As.set i (A.and P)):=H.dY i b λ_ c=>⟨c,a⟩
theorem aa.cons(H:aa B h0 h As)(i:Nat)(g:As[i]?=dB A):aa B h0 h (A::As.set i emp):=by
 obtain⟨l,p,c,z,a⟩:=H;have k:=(qm.1 g).1;refine⟨l,p,λb=>if c b=i+1 then 1 else if c b=0 then 0 else c b+1,λb e=>?_,λj X d=>?_⟩
 .have:=z b e;dsimp only;rw[k4 nb,hZ this]
 .cases j with
  |zero=>
   simp at d;subst d;refine A.mono (a i A g) λb e=>⟨e.1,by dsimp only;rw[hZ e.2]⟩
  |succ j=>
   rw[qO,qV]at d;split at d
   .rename_i f;injection d with d;subst d;trivial
   .rename_i f;refine X.mono (a j X d) λb e=>⟨e.1,by dsimp only;rw[k4 nb,k4 nb];omega⟩
theorem aa.rest(H:aa B h0 h (A::As)):aa B h0 h As:=H.pick (λj=>j+1) (λa b h=>nb) λj X c=>by simpa using c
end
structure jq (α β:Type) where
 p:hY->ar->α->β->Prop
 loc:∀{h h':hY} {q:ar} {a:α} {b:β},p h q a b->aQ q h h'->p h' q a b
 mono:∀{h:hY} {q q':ar} {a:α} {b:β},p h q a b->(∀x,q x->q' x)->p h q' a b
def iR{α:Type}(k:Nat)(f:α->aR):jq Sl (List α):=⟨λh q s l=>Seq h q s k f l,λa c=>a.ac c,λa b=>a.mono b⟩
def sq{α:Type}(k:Nat)(f:α->aR):jq Sl (List α):=⟨λh q s l=>Seq h q s k f l/\(l=[]->s.ptr=eH),λa c=>⟨a.1.ac c,a.2⟩,λa b=>⟨a.1.mono b,a.2⟩⟩
def ce{α β:Type}(E:jq α β)(k:Nat)(f:α->aR):jq Sl (List β):=
 ⟨λh q s ll=>∃rs:List α,Seq h q s k f rs/\rs.length=m8 ll/\∀(i:Nat) r l,rs[i]?=dB r->ll[i]?=dB l->E.p h q r l,
  λ⟨rs,a,b,c⟩ hp=>⟨rs,a.ac hp,b,λi r l e d=>E.loc (c i r l e d) hp⟩,λ⟨rs,a,b,c⟩ hq=>⟨rs,a.mono hq,b,λi r l e d=>E.mono (c i r l e d) hq⟩⟩
def acm{α β:Type}(E:jq α β)(P:α->β->Prop):jq α β:=⟨λh q a b=>E.p h q a b/\P a b,λa d=>⟨E.loc a.1 d,a.2⟩,λa c=>⟨E.mono a.1 c,a.2⟩⟩
def EA{α β:Type}(E:jq α β)(a:α)(b:β):HP:=⟨λh q=>E.p h q a b,λx c=>E.loc x c,λx d=>E.mono x d⟩
abbrev fm{α β:Type}(E:jq α β)(h:hY)(a:α)(b:β):Prop:=E.p h (λb=>b<h.size) a b
def dP{α β:Type}(e:TypeId)(s:Sl)(k:Nat)(f:α->aR)(E:jq α β)(ll:List β):HP:=
 ⟨λh q=>∃(rs:List α) (j:ar),Own h e s k f rs/\(∀b,s.on b->q b/\¬j b)/\(∀b,j b->q b)/\rs.length=m8 ll/\∀(i:Nat) r l,rs[i]?=dB r->ll[i]?=dB l->E.p h j r l,
  λ⟨rs,j,a,b,c,d,e⟩ hp=>⟨rs,j,a.ac hp λx g=>(b x g).1,b,c,d,λi r l m n=>E.loc (e i r l m n) (hp.mono λx _ g=>c x g)⟩,
  λ⟨rs,j,a,b,c,d,e⟩ hq=>⟨rs,j,a,λx g=>⟨hq x (b x g).1,(b x g).2⟩,λx g=>hq x (c x g),d,e⟩⟩
variable {β:Type} {b:β}
section
variable {E:jq α β} {ll:List β} {a:α}
theorem fm.up(x:fm E h a b)(c:aQ (λb=>b<h.size) h h'):fm E h' a b:=E.mono (E.loc x c) λ_ d=>qU d c.1
theorem ce.kZ(x:(ce E k f).p h q s ll):∃rs:List α,Seq h q s k f rs/\rs.length=m8 ll/\∀(i:Nat) (e:i<m8 rs) (d:i<m8 ll),E.p h q rs[i] ll[i]:=by obtain⟨rs,a,b,c⟩:=x;exact⟨rs,a,b,λi e d=>c i _ _ (qc e) (qc d)⟩
theorem ce.len(x:(ce E k f).p h q s ll):s.len=m8 ll:=by obtain⟨rs,a,b,c⟩:=x;rw[a.len,b]
theorem ce.nil(h:hY)(q:ar)(a:bx)(c:Nat):(ce E k f).p h q ⟨a,0,c⟩ []:=⟨[],Seq.nil h q c a k f,m9,λi r l b=>n4⟩
theorem ce.take(x:(ce E k f).p h q s ll)(n:Nat)(e:n<=m8 ll):(ce E k f).p h q ⟨s.ptr,n,s.cap⟩ (ll.take n):=by
 obtain⟨rs,a,b,c⟩:=x;refine⟨rs.take n,a.take n nb,by simp[b],λi r l g d=>?_⟩
 grind
theorem ce.toeF{γ:Type}{d:Nat}{g:γ->aR}{l:List (List γ)}(x:fm (ce (iR d g) 1 bv) h s l):eF h s d g l:=by obtain⟨rs,a,b,c⟩:=x;exact⟨rs,a,b,c⟩
theorem ce.impl{α':Type}{d:Type}{E':jq α d}(u:β->d)(e:∀{h q a b},E.p h q a b->E'.p h q a (u b))(x:(ce E k f).p h q s ll):(ce E' k f).p h q s (ll.map u):=by
 obtain⟨rs,a,b,c⟩:=x;refine⟨rs,a,by simp[b],λi r l j g=>?_⟩
 grind
end
section
variable {E:jq α β} {C:Ctx} {e:Nat} {B:ar} {ll:List β}
theorem aa.Ma(H:aa B h0 h As)(e k:Nat)(f:α->aR)(E:jq α β):aa B h0 h (As++[dP e ⟨eH,0,0⟩ k f E []]):=
 H.comp (.one (aQ.refl _ _) ⟨[],λ_=>False,Own.nil h e k f,λb a=>(by obtain⟨o,a⟩:=a;cases a),λ_ a=>a.elim,rfl,λi r l h=>n4⟩)
theorem aa.eRd(H:aa B h0 h As)(i:Nat)(n:As[i]?=dB (dP e s k f E ll))(g:∀x,(f x).length=k):fm (ce E k f) h s ll:=by obtain⟨rs,p,a,b,c,d,e⟩:=H.at i n;exact⟨rs,a.seq g λx m=>(b x m).1,d,λi r l o j=>E.mono (e i r l o j) c⟩
theorem aa.eAt{a:α}{b:β}(H:aa B h0 h As)(i:Nat)(c:As[i]?=dB (EA E a b)):fm E h a b:=H.at i c
theorem aa.aeo(H:aa B h0 h As)(i:Nat)(g:As[i]?=dB (dP e s k f E ll)):s.len=m8 ll/\s.len<=s.cap:=by obtain⟨rs,j,a,b,c,d,e⟩:=H.at i g;exact⟨by rw[a.len,d],a.cap⟩
theorem aa.En(hC:C.Ok)(H:aa B h0 h As)(i j:Nat)(y:i≠j){a:α}{b:β}(Z:As[i]?=dB (dP e s k f E ll))(hj:As[j]?=dB (EA E a b))(he:bO C.toAA t e k z by_)(hz:m8 z=k)(T:0<by_/\by_<=128)(hw:∀x,(f x).length=k)
  (M:∀x,∀c∈f x,c.oneCell'=eL) {parts:Array (Nat×eX)} (I:wz (λi=>dB (i*k,k)) (iQ z 1).toArray parts.toList=dB ([a].flatMap f).toArray) (X:1*k<=2^20)
  (ab:m8 ll+1<=2^32) {ty:Nat} {K:Sl->hY->Prop} (hk:∀S h',aa B h0 h' ((As.set j emp).set i (dP e S k f E (ll++[b])))->K S h'):
  bC C.P (zE t 1 parts) (.one (.sc .slc)) h λv u=>bC C.P (q6 #[t,t] ty #[.slice s.ptr s.len s.cap,.slice v.ptr v.len v.cap]) (.one (.sc .slc)) u K:=by
 have H2:=H.merge i j y Z hj (D:=⟨λh q=>∃(rs:List α) (g:ar),Own h e s k f rs/\(∀b,s.on b->q b/\¬g b)/\(∀b,g b->q b)/\rs.length=m8 ll/\(∀(i:Nat) r l,rs[i]?=dB r->ll[i]?=dB l->E.p h g r l)/\E.p h g a b,
  λ⟨rs,g,a,b,c,d,e,f⟩ hp=>⟨rs,g,a.ac hp λx n=>(b x n).1,b,c,d,λi r l u A=>E.loc (e i r l u A) (hp.mono λx _ n=>c x n),E.loc f (hp.mono λx _ n=>c x n)⟩,
  λ⟨rs,g,a,b,c,d,e,f⟩ hq=>⟨rs,g,a,λx n=>⟨hq x (b x n).1,(b x n).2⟩,λx n=>hq x (c x n),d,e,f⟩⟩)
  (λg q2 hd hA hB=>by
   obtain⟨rs,q3,a,b,c,d,e'⟩:=hA;refine⟨rs,λb=>q3 b∨q2 b,a,λx n=>⟨.inl (b x n).1,λN=>N.elim (b x n).2 (hd x (b x n).1)⟩,λx n=>n.elim (λh=>.inl (c x h)) .inr,d,λi r l u A=>E.mono (e' i r l u A) λ_ h=>.inl h,E.mono hB λ_ h=>.inr h⟩)
 have w:i<m8 As:=(qm.1 Z).1;obtain⟨lo,pp,c,zz,ax⟩:=H2;have ha:=ax i _ (by rw[w4 (Ne.symm y),zJ w]);obtain⟨rs,g,a1,a2,a3,a4,a5,a6⟩:=ha;let Y:Nat->Nat:=λb=> @ite _ (g b) (Classical.propDecidable _) (m8 As+2) (c b);have Q:∀b,g b->b<h.size/\c b=i+1:=a3;have ho:dU h Y (i+1) e s k f rs:=⟨a1,λb m=>by
  have:=a2 b m;show @ite _ (g b) (Classical.propDecidable _) _ _=_;rw[k4 this.2];exact this.1.2⟩
 refine ho.push hC he hz T hw M a I X nb λS h' F G=>hk S h' ?_;rw[vb _ _ (Ne.symm y)];rw[<-yY (l:=As) (i:=i),vb _ _ y];have L:∀b,g b->Y b≠i+1:=λb m=>by
  show @ite _ (g b) (Classical.propDecidable _) _ _≠_;rw[hZ m];omega
 refine aa.Bj lo pp zz ax (G.mono λb m hn hc=>hn ⟨m,?_⟩) ⟨rs++[a],λb=>g b/\b<h.size,F.own,λb m=>?_,λb m=>⟨qU m.2 G.1,.inl ⟨m.2,(Q b m.1).2⟩⟩,by simp[a4],λV r' l' u A=>?_⟩
 .grind
 .have o:=F.aV b m;by_cases w:b<h.size
  .rw[gK w]at o;have J:¬g b:=λU=>L b U o;have O:@ite _ (g b) (Classical.propDecidable _) (m8 As+2) (c b)=i+1:=o;rw[k4 J]at O;exact⟨⟨F.own.lt m,.inl ⟨w,O⟩⟩,λN=>J N.1⟩
  .exact⟨⟨F.own.lt m,.inr nb⟩,λN=>w N.2⟩
 .have R:∀{rr:α} {l:β},E.p h g rr l->E.p h' (λb=>g b/\b<h.size) rr l:=λhs=>
   E.loc (E.mono hs (q':=λb=>g b/\b<h.size) λb m=>⟨m,(Q b m).1⟩) (G.mono λb _ m=>L b m.1)
  by_cases W:V<m8 rs
  .rw[qu W]at u;rw[qu nb]at A;exact R (a5 V r' l' u A)
  .have:V=m8 rs:=by have:=(qm.1 u).1;simp at this;omega
   subst this;simp at u;rw[a4]at A;simp at A;subst u;subst A;exact R a6
theorem aa.aep{O:TI}(hC:C.Ok)(H:aa B h0 h As)(i j:Nat)(u:i≠j){a:α}{b:β}(N:As[i]?=dB (dP e s k f E ll))(hj:As[j]?=dB (EA E a b))(Q:∀x,(f x).length=k)(ht:C.T.get t=dB O){x:Int}(n:Nat)(g:x=n)(hn:n<m8 ll){A:eX}(U:A.cells=(f a).toArray)(L:O.size=k)
  (y:(f a).all (·.oneCell')=eL) {K:hY->Prop} (X:∀h',aa B h0 h' ((As.set j emp).set i (dP e s k f E (ll.set n b)))->K h'):
  ∃a:fY,(s.ptr=dB a/\0<=x/\x<((s.len:Nat):Int))/\au C.P (qG t (.pointer (dB (a.add (x.toNat*k)))) A) h λ_ h'=>K h':=by
 have R:=H.merge i j u N hj (D:=⟨λh q=>∃(rs:List α) (m:ar),Own h e s k f rs/\(∀b,s.on b->q b/\¬m b)/\(∀b,m b->q b)/\rs.length=m8 ll/\(∀(i:Nat) r l,rs[i]?=dB r->ll[i]?=dB l->E.p h m r l)/\E.p h m a b,
  λ⟨rs,m,a,b,c,d,e,f⟩ hp=>⟨rs,m,a.ac hp λx g=>(b x g).1,b,c,d,λi r l G I=>E.loc (e i r l G I) (hp.mono λx _ g=>c x g),E.loc f (hp.mono λx _ g=>c x g)⟩,
  λ⟨rs,m,a,b,c,d,e,f⟩ hq=>⟨rs,m,a,λx g=>⟨hq x (b x g).1,(b x g).2⟩,λx g=>hq x (c x g),d,e,f⟩⟩)
  (λm V W hA hB=>by
   obtain⟨rs,Z,a,b,c,d,Y⟩:=hA;refine⟨rs,λb=>Z b∨V b,a,λx g=>⟨.inl (b x g).1,λhh=>hh.elim (b x g).2 (W x (b x g).1)⟩,λx g=>g.elim (λh=>.inl (c x h)) .inr,d,λi r l G I=>E.mono (Y i r l G I) λ_ h=>.inl h,E.mono hB λ_ h=>.inr h⟩)
 have J:i<m8 As:=(qm.1 N).1;obtain⟨lo,S,c,zz,ax⟩:=R;have ha:=ax i _ (by rw[w4 (Ne.symm u),zJ J]);obtain⟨rs,m,a1,F,a3,a4,a5,a6⟩:=ha;refine a1.set hC Q ht n g nb a U L y λh' z w _=>X h' ?_;rw[vb _ _ (Ne.symm u)];rw[<-yY (l:=As) (i:=i),vb _ _ u];have keep:∀{M:α} {l:β},E.p h m M l->E.p h' m M l:=λhs=>E.loc hs (w.mono λb _ o v=>(F b v).2 o);refine aa.Bj lo S zz ax (w.mono λb _ o v=>o (F b v).1) ⟨rs.set n a,m,z,λb o=>⟨⟨qU (F b o).1.1 w.1,.inl (F b o).1⟩,(F b o).2⟩,λb o=>⟨qU (a3 b o).1 w.1,.inl (a3 b o)⟩,by simp[a4],λi' r' l' G I=>?_⟩
 grind
end
section
variable {E:jq α β} {e:Nat} {B:ar}
theorem aa.Eo{α:Type}{f:α->aR}{l:List α}(H:aa B h0 h As)(i:Nat)(c:As[i]?=dB (ai e s k f l))(b:∀x,(f x).length=k):aa B h0 h (As.set i (EA (iR k f) s l)):=H.dY i c λ_ a=>a.1.seq b a.2
end
variable {e2:Nat}
section
variable {B:ar} {e:Nat}
theorem aa.Sb{s:Sl}{ll:List (List α)}(H:aa B h0 h As)(i:Nat)(a:As[i]?=dB (dE e s k f ll)):aa B h0 h (As.set i (dP e s 1 bv (iR k f) ll)):=H.dY i a λ_ b=>b
end
theorem Jz{h h':hY}{p:ar}(a:aQ p h h'):∀{L:bK},L.ok h->(∀x∈L,p x.1.block)->L.ok h'
 |[],_,_=>trivial
 |x::L,hk,hq=>⟨a.cell (hq x n4) hk.1,Jz a hk.2 λy b=>hq y n8⟩
theorem gP{h h':hY}(d:aQ (λb=>b<h.size) h h'){L:bK}(c:L.ok h):L.ok h':=Jz d c (by
 induction L with
 |nil=>simp
 |cons y L ih=>
  intro x a;rcases qN.1 a with rfl|a
  .exact di c.1
  .exact ih c.2 x a)
theorem bC.both{P:Program}{s:Sem eX}{h:hY}{K:Sl->hY->Prop}{Q:hY->Prop}(b:bC P s (.one (.sc .slc)) h λ_ h'=>Q h')(c:bC P s (.one (.sc .slc)) h K):bC P s (.one (.sc .slc)) h λx h'=>Q h'/\K x h':=by
 intro w a;obtain⟨f,i,n,k,j,a3,a4⟩:=b w a;obtain⟨m,d,e,g,x2,l,o⟩:=c w a
 grind
theorem aa.ko{α:Type}{B:ar}{C:Ctx}{j h:hY}{As:List HP}{e t k d:Nat}{z:aR}{K:Sl->hY->Prop}(p:C.Ok)(H:aa B j h As)(f:α->aR)(g:bO C.toAA t e k z d)(b:m8 z=k){n:Nat}{parts:Array (Nat×eX)}(l:List α)(m:m8 l=n)(c:n*k<=2^20)
  (a:wz (λi=>dB (i*k,k)) (iQ z n).toArray parts.toList=dB (l.flatMap f).toArray) {L:bK} (o:L.ok h) (q:bC C.P (zE t n parts) (.one (.sc .slc)) h K):
  bC C.P (zE t n parts) (.one (.sc .slc)) h λx h'=>L.ok h'/\K x h':=
 bC.both ((Sp.refl h).lit p f g b l m c a λ_ _ r=>gP r.ac o) q
section
variable {B:ar} {Bs:List HP} {A:HP} {i:Nat}
theorem aa.front(H:aa B h0 h (As++Bs)):aa B h0 h (Bs++As):=
 H.pick (λj=>if j<m8 Bs then As.length+j else if j<m8 Bs+m8 As then j-m8 Bs else j)
  (λa b c=>n8) λj X d=>n8
theorem aa.ba(H:aa B h0 h (As++[A])):aa B h0 h (A::As):=H.front
theorem aa.bS(H:aa B h0 h As)(R:Sp h h' [A]):aa B h0 h' (A::As):=(H.comp R).ba
theorem aa.oQ(H:aa B h0 h (A::As)):aa B h0 h As:=H.rest
theorem aa.nP(H:aa B h0 h (A::D::As)):aa B h0 h (A::As):=H.del 1
theorem aa.Bq{ι:Type}{F:ι->HP}(H:aa B h0 h (HP.ex F::As)):∃x,aa B h0 h (F x::As):=H.Lg 0 m9
theorem aa.CV{ι:Type}{F:ι->HP}(x:ι)(H:aa B h0 h (F x::As)):aa B h0 h (HP.ex F::As):=H.close' 0 x m9
theorem aa.CW(H:aa B h0 h (A.sep D::As)):aa B h0 h (D::A::As):=(H.split 0 m9).ba
theorem aa.kA(H:aa B h0 h (D::A::As)):aa B h0 h (A.sep D::As):=by have a:aa B h0 h (emp::A.sep D::As):=H.join 1 0 nq m9 m9;exact a.rest
theorem aa.nF(H:aa B h0 h (A::D::As)):aa B h0 h (D::A::As):=H.Sa 0 1 m9 m9
end
theorem Seq.ly{h:hY}{p:ar}{s:Sl}{rs:List Sl}(d:Seq h p s 1 bv rs){i:Int}(n:Nat)(b:i=n)(c:n<m8 rs){K:Sl->Prop}(e:K rs[n]):
  ∃a:fY,(s.ptr=dB a/\0<=i/\i<((s.len:Nat):Int))/\∃x:Sl,hU h (a.add (i.toNat*1))=dB (.slice x.ptr x.len x.cap)/\K x:=
 d.aW (g:=λr:Sl=>Value.slice r.ptr r.len r.cap) n b c rs[n] m9 e
def St(B:ar)(a:hY)(As:List HP)(Q:hY->Prop):Prop:=∀(Bs:List HP) (h':hY),aa B a h' (Bs++As)->Q h'
variable {Q:hY->Prop}
section
variable {B:ar} {Bs:List HP} {A:HP}
theorem St.at(x:St B h0 As Q)(Bs:List HP)(H:aa B h0 h (Bs++As)):Q h:=x Bs h H
theorem St.base(b:Q h0)(a:∀h',aQ B h0 h'->Q h'):St B h0 As Q:=λ_ _ H=>a _ H.ac
theorem St.dS(j:Nat)(c:As[j]?=dB A)(a:∀h',A.p h' (λb=>b<h'.size)->Q h'):St B h0 As Q:=λBs h' H=>a _ (H.at (m8 Bs+j) n8)
theorem St.cons(x:St B h0 As Q):St B h0 (A::As) Q:=λBs h' H=>x (Bs++[A]) h' n8
end
section
variable {E:jq Sl β} {ll:List β}
theorem ce.aeZ(x:(ce E 1 bv).p h q s ll){i:Int}(n:Nat)(m:i=n)(g:n<m8 ll){K:Sl->Prop}(f:∀(a:fY) (r:Sl),s.ptr=dB a->hU h (a.add (n*1))=dB (.slice r.ptr r.len r.cap)->E.p h q r ll[n]->K r):
  ∃a:fY,(s.ptr=dB a/\0<=i/\i<((s.len:Nat):Int))/\∃x:Sl,hU h (a.add (i.toNat*1))=dB (.slice x.ptr x.len x.cap)/\K x:=by
 obtain⟨rs,c,l,h3⟩:=ce.kZ x;obtain⟨b,o,d,e2,j⟩:=c.elem n (rs[n]'nb) (qc nb);have k:=j.1;have e:hU h ((⟨b,o,eH⟩:fY).add (n*1))=dB (.slice (rs[n]'nb).ptr (rs[n]'nb).len (rs[n]'nb).cap):=by rw[add_eq];exact k
 refine⟨_,⟨d,nb,by rw[c.len];omega⟩,rs[n]'nb,n8,f _ _ d e (h3 n nb g)⟩
end
theorem CX{α:Type}{l:List α}(c:l.Nodup){a b:Nat}(f:a<m8 l)(d:b<m8 l)(h:l[a]=l[b]):a=b:=by
 have e:=zb.1 c
 grind
theorem aa.bs{B:ar}{e h:hY}{As:List HP}(H:aa B e h As)(L:List Nat)(d:∀j∈L,j<m8 As:=by simp)(f:L.Nodup:=by decide):aa B e h (L.map λj=>As.getD j emp):=by
 refine H.pick (λi=>if h:i<m8 L then L[i]else As.length+i) (λa b c=>?_) λi A2 g=>?_
 .split at c<;>split at c
  .exact CX f _ _ c
  .have:=d _ (qe (l:=L) (n:=a) nb);omega
  .have:=d _ (qe (l:=L) (n:=b) nb);omega
  .omega
 grind
theorem St.mk'{B:ar}{a:hY}{As:List HP}{Q:hY->Prop}(x:∀h',aa B a h' As->Q h'):St B a As Q:=λBs h' H=>x h' (H.take Bs.length λi A b=>n8)
theorem St.mono{B:ar}{a:hY}{As:List HP}{Q b:hY->Prop}(x:St B a As Q)(c:∀h,Q h->b h):St B a As b:=λBs h' H=>c _ (x Bs h' H)
theorem St.and{B:ar}{a:hY}{As:List HP}{Q b:hY->Prop}(x:St B a As Q)(y:St B a As b):St B a As λh=>Q h/\b h:=λBs h' H=>⟨x Bs h' H,y Bs h' H⟩
theorem aa.aF{B:ar}{f h:hY}{As:List HP}(H:aa B f h As)(k:Nat)(L:List Nat)(o:k<=m8 As:=by simp)(d:∀j∈L,j<k:=by simp)(m:L.Nodup:=by decide):aa B f h (L.map (λj=>As.getD j emp)++As.drop k):=by
 refine H.pick (λi=>if h:i<m8 L then L[i]else k+(i-m8 L)) (λa b c=>?_) λi A2 p=>?_
 .split at c<;>split at c
  .exact CX m _ _ c
  .have:=d _ (qe (l:=L) (n:=a) n8);omega
  .have:=d _ (qe (l:=L) (n:=b) nb);omega
  .omega
 .by_cases e:i<m8 L
  .have g:=d _ (qe e)
   grind
  grind
section
variable {E:jq α β} {C:Ctx} {e:Nat} {B:ar} {rs:List α} {ll:List β}
def Fix(E:jq α β)(k:Nat)(f:α->aR)(h:hY)(q:ar)(s:Sl)(rs:List α)(ll:List β):Prop:=Seq h q s k f rs/\rs.length=m8 ll/\∀(i:Nat) r l,rs[i]?=dB r->ll[i]?=dB l->E.p h q r l
theorem Fix.ac(x:Fix E k f h q s rs ll)(a:aQ q h h'):Fix E k f h' q s rs ll:=⟨x.1.ac a,x.2.1,λi r l c b=>E.loc (x.2.2 i r l c b) a⟩
theorem Fix.mono{q':ar}(x:Fix E k f h q s rs ll)(a:∀b,q b->q' b):Fix E k f h q' s rs ll:=⟨x.1.mono a,x.2.1,λi r l d c=>E.mono (x.2.2 i r l d c) a⟩
abbrev gE(E:jq α β)(k:Nat)(f:α->aR)(h:hY)(s:Sl)(rs:List α)(ll:List β):Prop:=Fix E k f h (λb=>b<h.size) s rs ll
theorem gE.up(x:gE E k f h s rs ll)(a:aQ (λb=>b<h.size) h h'):gE E k f h' s rs ll:=(Fix.ac x a).mono λ_ c=>qU c a.1
theorem Fix.row(x:Fix E k f h q s rs ll){i:Nat}(a:i<m8 ll):E.p h q (rs[i]'(by rw[x.2.1];exact a)) ll[i]:=x.2.2 i _ _ (qc _) (qc _)
theorem ce.fix(x:(ce E k f).p h q s ll):∃rs,Fix E k f h q s rs ll:=x
theorem Fix.elt(x:Fix E k f h q s rs ll):(ce E k f).p h q s ll:=⟨rs,x⟩
def cB(E:jq α β)(k:Nat)(f:α->aR)(s:Sl)(rs:List α)(ll:List β):HP:=⟨λh q=>Fix E k f h q s rs ll,λx a=>x.ac a,λx b=>x.mono b⟩
theorem aa.FI(H:aa B h0 h As)(i:Nat)(m:As[i]?=dB (dP e s k f E ll))(n:∀x,(f x).length=k):∃rs,aa B h0 h (As.set i (cB E k f s rs ll)):=by
 have g:i<m8 As:=(qm.1 m).1;have o:aa B h0 h (As.set i (HP.ex λrs=>cB E k f s rs ll)):=H.dY i m λq ⟨rs,v,a,b,c,d,e⟩=>⟨rs,a.seq n λx p=>(b x p).1,d,λi r l t u=>E.mono (e i r l t u) c⟩
 obtain⟨rs,j⟩:=o.Lg i (zJ g);exact⟨rs,by rw[yY]at j;exact j⟩
theorem aa.dv(H:aa B h0 h As)(i:Nat)(a:As[i]?=dB (cB E k f s rs ll)):gE E k f h s rs ll:=H.at i a
theorem aa.ub(d:C.Ok)(H:aa B h0 h As)(e:C.T.get t=dB ti){K:fY->hY->Prop}(f:∀a h',aQ (λb=>b<h.size) h h'->aa B h0 h' (As++[an a t ti.zero])->K a h'):
  rv C.P (yd t eL (.tuple #[])) h K:=
 uN d e λa h' x y c _=>f a h' (c.mono λ_ _ _=>trivial) (H.comp (IE x y c))
theorem aa.Ep(v:C.Ok)(H:aa B h0 h As)(f:α->aR)(q:bO C.toAA t e k z by_)(g:0<by_/\by_<=128)(l:α)(r:f l=z)(j:m8 z=k){A E:IntKind}{n o:Int}(m c:Nat)(u:n=m)(D:o=c)(d:m<=c)(i:c<=2^32)
  {K:Sl->hY->Prop} (s:∀a h',a.len=m->aQ (λb=>b<h.size) h h'->aa B h0 h' (As++[ai e a k f (qf m l)])->K a h'):
  bC C.P (zB t (.int A n) (.int E o)) (.one (.sc .slc)) h K:=
 run_make v q g l r j m c u D d i λa h' x y w p _=>s a h' (by rw[x.len];simp) (p.mono λ_ _ _=>trivial) (H.comp (El m9 x y p))
end
section
variable {C:Ctx} {B:ar} {e:Nat}
theorem Own.XF(D:C.Ok)(p:Own h e s k f l)(r:∀x,(f x).length=k)(I:C.T.get t=dB i){x:Int}(n:Nat)(z:x=n)(u:n<m8 l)(j:Nat)(vs:aR)(J:j+m8 vs<=k){m:eX}(y:α)(A:m.cells=vs.toArray)(q:i.size=m8 vs)
  (g:vs.all (·.oneCell')=eL) (G:f y=(f l[n]).take j++vs++(f l[n]).drop (j+m8 vs)) {K:hY->Prop} (B:∀h',Own h' e s k f (l.set n y)->aQ (λb=>¬s.on b) h h'->K h'):
  ∃a:fY,(s.ptr=dB a/\0<=x/\x<((s.len:Nat):Int))/\au C.P (qG t (.pointer (dB ((a.add (x.toNat*k)).add j))) m) h λ_ h'=>K h':=by
 subst z;rcases p.head with⟨_,_,h3⟩|⟨b,rest,h1,h2,h3,h4⟩
 .subst h3;simp at u
 .refine⟨_,⟨h1,nb,by rw[p.len];omega⟩,?_⟩;refine au.bind (au.pure' ?_);refine au.bind (au.always (eK D.toOk I) ?_);rw[A,q];simp only[yK,ne_eq,not_true,if_false];rw[add_eq,add_eq,w9,qi];have o:l=l.take n++l[n]::l.drop (n+1):=n4
  have d:l.set n y=l.take n++y::l.drop (n+1):=yE.trans (hZ u);have w:((l.take n).flatMap f).length=n*k:=by rw[dz r,qx,wK nb]
  have H:=r l[n];have v:f l[n]=(f l[n]).take j++((f l[n]).drop j).take vs.length++(f l[n]).drop (j+m8 vs):=by rw[ql,<-wu,qA,qA]
  refine fc (e:=e) (pre:=(l.take n).flatMap f++(f l[n]).take j) (old:=((f l[n]).drop j).take vs.length) (post:=(f l[n]).drop (j+m8 vs)++((l.drop (n+1)).flatMap f++rest)) ?_ ?_ ?_ ?_ ?_
  .grind
  .simp;omega
  .grind
  .intro c F;exact qQ.1 g c F
  .refine B _ ⟨by rw[qP];exact p.len,.inr ⟨b,rest,h1,?_,h3,h4⟩⟩ (aQ.ju h2 λE=>E ⟨0,h1⟩);rw[hJ h2,hZ m9,d,za,zm,G];simp
theorem aa.XF(v:C.Ok)(H:aa B h0 h As)(g:Nat)(c:As[g]?=dB (ai e s k f l))(o:∀x,(f x).length=k)(E:C.T.get t=dB i){x:Int}(n:Nat)(p:x=n)(u:n<m8 l)(j:Nat)(vs:aR)(D:j+m8 vs<=k){d:eX}(y:α)(q:d.cells=vs.toArray)(m:i.size=m8 vs)
  (b:vs.all (·.oneCell')=eL) (A:f y=(f l[n]).take j++vs++(f l[n]).drop (j+m8 vs)) {K:hY->Prop} (r:∀h',aa B h0 h' (As.set g (ai e s k f (l.set n y)))->K h'):
  ∃a:fY,(s.ptr=dB a/\0<=x/\x<((s.len:Nat):Int))/\au C.P (qG t (.pointer (dB ((a.add (x.toNat*k)).add j))) d) h λ_ h'=>K h':=
 (H.own g c).XF v o E n p u j vs D y q m b A λh' z w=>r h' (H.oq g c w z)
end
def HP.all:List HP->HP
 |[]=>emp
 |A::L=>A.sep (HP.all L)
variable {L:List HP}
section
variable {B:ar} {A:HP}
theorem aa.AE:∀{L:List HP} {As:List HP},aa B h0 h (HP.all L::As)->aa B h0 h (L++As)
 |[],_,H=>H.rest
 |A::L,As,H=>by
  have d:aa B h0 h (HP.all L::A::As):=H.CW;have c:=aa.AE d;exact c.pick (λi=>if i=0 then L.length else if i<=m8 L then i-1 else i) (λa b e=>n8) λi X f=>n8
theorem aa.closeAll:∀(L:List HP) {As:List HP},aa B h0 h (L++As)->aa B h0 h (HP.all L::As)
 |[],As,H=>((H.comp (.one (A:=emp) (aQ.refl _ _) I0)).ba)
 |A::L,As,H=>by
  have c:aa B h0 h (L++(A::As)):=H.pick (λi=>if i<m8 L then i+1 else if i=m8 L then 0 else i) (λa b d=>n8) λi X e=>n8
  exact(aa.closeAll L c).kA
theorem aa.FJ{P:Prop}(H:aa B h0 h (A.and P::As)):aa B h0 h (A::As)/\P:=⟨H.ZK 0 m9,H.fact 0 m9⟩
theorem aa.toFJ{P:Prop}(H:aa B h0 h (A::As))(p:P):aa B h0 h (A.and P::As):=H.adR 0 m9 p
end
def lh{α:Type}(e:TypeId)(s:Sl)(a:TypeId)(k:Nat)(f:α->aR)(ll:List (List α)):HP:=
 HP.ex λrs:List Sl=>(HP.all (ai e s 1 bv rs::bt a k f rs ll)).and (m8 rs=m8 ll)
section
variable {C:Ctx} {B:ar} {e:Nat}
theorem aa.Bt(H:aa B h0 h (lh e s e2 k f ll::As)):∃rs:List Sl,m8 rs=m8 ll/\aa B h0 h ((ai e s 1 bv rs::bt e2 k f rs ll)++As):=by obtain⟨rs,H⟩:=H.Bq;obtain⟨H,a⟩:=H.FJ;exact⟨rs,a,H.AE⟩
theorem aa.CZ{rs:List Sl}(a:m8 rs=m8 ll)(H:aa B h0 h ((ai e s 1 bv rs::bt e2 k f rs ll)++As)):aa B h0 h (lh e s e2 k f ll::As):=
 ((aa.closeAll _ H).toFJ a).CV (F:=λrs:List Sl=>(HP.all (ai e s 1 bv rs::bt e2 k f rs ll)).and (m8 rs=m8 ll)) rs
theorem aa.kf(H:aa B h0 h As)(e a k:Nat)(f:α->aR):aa B h0 h (lh e ⟨eH,0,0⟩ a k f []::As):=
 aa.CZ (rs:=[]) m9 ((H.nil e 1 bv).ba)
theorem aa.uc{Bs:List HP}(H:aa B h0 h (As++Bs)):aa B h0 h As:=H.pick id (λ_ _ h=>h) λi A a=>n8
theorem aa.Ch(H:aa B h0 h (lh e s e2 k f ll::As))(b:∀x,(f x).length=k):eF h s k f ll:=by obtain⟨rs,a,H⟩:=H.Bt;exact aa.Jy (aa.uc H) a b
theorem aa.lC(H:aa B h0 h (lh e s e2 k f ll::As)):s.len=m8 ll/\s.len<=s.cap:=by obtain⟨rs,a,H⟩:=H.Bt;exact⟨by rw[(H.own 0 m9).len,a],(H.own 0 m9).cap⟩
theorem aa.nQ(i:C.Ok){r:Sl}{x:List α}(H:aa B h0 h (lh e s e2 k f ll::ai e2 r k f x::As))(c:bO C.toAA t e 1 [.slice eH 0 0] 24)(j:m8 ll+1<=2^32){ty:Nat}{K:Sl->hY->Prop}
  (d:∀a h',aa B h0 h' (lh e a e2 k f (ll++[x])::As)->K a h'):
  bC C.P (zE t 1 #[(0,.slice r.ptr r.len r.cap)]) (.one (.sc .slc)) h λv g=>bC C.P (q6 #[t,t] ty #[.slice s.ptr s.len s.cap,.slice v.ptr v.len v.cap]) (.one (.sc .slc)) g K:=by
 obtain⟨rs,b,H⟩:=H.Bt;refine H.push i 0 m9 c m9 nq (λ_=>rfl) jQ r m9 nq nb λa h' l=>d a h' ?_;refine aa.CZ (rs:=rs++[r]) n8 ?_;rw[oP b]
 grind
end
theorem FK(l:aC):l.flatMap av=l.map (Value.int .i64):=by
 induction l with
 |nil=>rfl
 |cons a t ih=>rw[zm,ih];rfl
theorem JA{w:World}{e:TypeId}{b:Nat}{rest:aR}{l:aC}(a:w.heap[b]?=dB (.cells (l.flatMap av++rest).toArray e (0,0))):Sort.Holds (Value.int .i64) w b 0 l.toArray:=by
 intro j d;have c:j<m8 l:=n8
 refine⟨?_,by simp[World.frozen?,a]⟩;rw[FK]at a;have:(l.map (Value.int .i64)++rest)[j]?=dB (xJ xP l[j]):=n8
 simp[World.cell?,a,this,c]
theorem Mb(l a:aC)(rest:aR)(b:m8 a=m8 l):Sort.putCells (Value.int .i64) 0 a.toArray (l.flatMap av++rest).toArray=(a.flatMap av++rest).toArray:=by
 rw[FK,FK];simp only[Sort.putCells,]
 grind
theorem Mc{P:Program}{id:FuncId}(B:∀(f off cap:Nat) (q:aC) (w:World),Sort.Holds (Value.int .i64) w f off q.toArray->f<w.heap.size->m8 q<4611686018427387904->
   Calls P id #[.slice (dB ⟨f,off,eH⟩) q.length cap] w λe i=>e=.returned (.tuple #[])/\∃n os,i=Sort.grow (Sort.putRow (Value.int .i64) (Sort.ahead w n) f off (q.mergeSort λx y=>decide (x<=y)).toArray) os)
  (A:∀(p:bx) (cap:Nat) (w:World),Calls P id #[.slice p 0 cap] w λe i=>e=.returned (.tuple #[])/\i=w)
  {e:TypeId} {s:Sl} {l:aC} {h:hY} (t:Own h e s 1 av l) (D:m8 l<2^40):
  aj P id #[.slice s.ptr s.len s.cap] h λv h'=>v=.tuple #[]/\Own h' e s 1 av (l.mergeSort λx y=>decide (x<=y))/\aQ (λb=>¬s.on b) h h':=by
 intro w g;have a:=t.len;rcases t.head with⟨h1,h2,h3⟩|⟨b,rest,h1,h2,h3,h4⟩
 .subst h3;rw[a,h1];refine(A eH s.cap w).mono ?_;rintro z i ⟨rfl,rfl⟩;have E:(([]:aC).mergeSort λx y=>decide (x<=y))=[]:=n4
  exact⟨_,m9,dm.refl _,m9,n8,by rw[<-g];exact aQ.refl _ _⟩
 .rw[h1,a];have o:w.heap[b]?=dB (.cells (l.flatMap av++rest).toArray e (0,0)):=by rw[g];exact h2
  refine(B b 0 s.cap l w (JA o) (lt_of_block o) nb).mono ?_;rintro z i ⟨rfl,n,os,rfl⟩;have m:=lt_of_block o;have j:(l.mergeSort λx y=>decide (x<=y)).length=m8 l:=wP l;have d:∀k,k<h.size->(Sort.grow (Sort.putRow (Value.int .i64) (Sort.ahead w n) b 0 (l.mergeSort λx y=>decide (x<=y)).toArray) os).heap[k]?=if b=k then dB (.cells ((l.mergeSort λx y=>decide (x<=y)).flatMap av++rest).toArray e (0,0))else h[k]?:=by
   intro k r;rw[Sort.heap_grow_old _ _ (by simpa[Sort.putRow,Sort.mapBlock,Sort.ahead,g]using r)];simp only[Sort.putRow,Sort.mapBlock,Sort.ahead,yh];by_cases c:b=k
   .subst c;rw[hZ m9,hZ m9,o,zl,Sort.onCells,Mb _ _ _ j]
   .rw[k4 c,k4 c,g]
  rw[g]at m;refine⟨_,m9,⟨m9,m9,m9,by simp[Sort.grow,Sort.putRow,Sort.mapBlock,Sort.ahead]⟩,m9,⟨by rw[j];exact a,.inr ⟨b,rest,h1,?_,h3,h4⟩⟩,?_,?_⟩
  .rw[d b m,hZ rfl]
  .grind
  .intro k r u;rw[d k r,k4 λc=>u ⟨0,by rw[h1,c]⟩]
abbrev Row:=aT
abbrev aO:=List Row
def scaleB(c:UInt8)(l:Row):Row:=l.map (Gf.mul c)
def cN(c:UInt8)(a to:Row):Row:=zj (λx y=>y^^^Gf.mul c x) a to
def aM(r:Row)(aV:Nat):UInt8:=r.getD aV 0
def az(m:aO)(i:Nat):Row:=m.getD i []
def fB(m:aO)(a aV:Nat):Option Nat:=(qy m.length).find? λi=>decide (a<=i)&&(aM (az m i) aV !=0)
def fQ(m:aO)(i j:Nat):aO:=(m.set i (az m j)).set j (az m i)
def bN(a aV:Nat)(m:aO)(k:Nat):aO:=m.mapIdx λi r=>if i<k/\i≠a then cN (aM r aV) (az m a) r else r
def ga(a aV:Nat)(m:aO):aO:=m.set a (scaleB (Gf.inv (aM (az m a) aV)) (az m a))
def fR(s:Nat×aO)(aV:Nat):Nat×aO:=
 match fB s.2 s.1 aV with
 |none=>s
 |some i=>(s.1+1,bN s.1 aV (ga s.1 aV (fQ s.2 s.1 i)) s.2.length)
def aY(m:aO):Nat->Nat×aO
 |0=>(0,m)
 |c+1=>fR (aY m c) c
def eI(m:aO):Nat:=(az m 0).length
def cz(m:aO):Nat:=(aY m (eI m)).1
def aU(n:Nat)(m:aO):Prop:=∀r∈m,m8 r=n
theorem rO(c:UInt8)(l:Row):(scaleB c l).length=m8 l:=by simp[scaleB]
theorem cl{c:UInt8}{a t:Row}(h:m8 a=m8 t):(cN c a t).length=m8 t:=by simp[cN,h]
theorem be{m:aO}{i:Nat}(h:i<m8 m):az m i=m[i]:=by rw[az,qg,qc h];rfl
theorem bY{n:Nat}{m:aO}(h:aU n m){i:Nat}(a:i<m8 m:=by omega):(az m i).length=n:=by rw[be a];exact h _ (qe a)
theorem FL{n:Nat}{m:aO}(h:aU n m){i:Nat}{r:Row}(b:m8 r=n):aU n (m.set i r):=λx a=>by
 rcases wm a with h1|h1
 .exact h x h1
 grind
theorem GO{P:Nat->Bool}{n:Nat}(h:∀j,j<n->P j=eR):(qy n).find? P=eH:=n8
theorem Se{P:Nat->Bool}{n k:Nat}(e:k<n)(h:∀j,j<k->P j=eR)(c:P k=eL):(qy n).find? P=dB k:=by
 rw[List.find?_eq_some_iff_append];refine⟨c,qy k,List.range' (k+1) (n-k-1),?_,λa d=>?_⟩
 .rw[yJ,yJ];have b:n=k+(n-k):=nb
  have e2:n-k=(n-k-1)+1:=nb
  conv=>lhs;rw[b,<-List.range'_append_1 (s:=0) (m:=k) (n:=n-k)]
  rw[w9]
  conv=>lhs;rw[e2,List.range'_succ]
 grind
theorem kQ{m:aO}{a aV i:Nat}(h:fB m a aV=dB i):a<=i/\i<m8 m/\aM (az m i) aV≠0:=by
 have c:=List.find?_some h;have b:=List.mem_of_find?_eq_some h
 grind
theorem Ox{m:aO}{a aV:Nat}(h:fB m a aV=eH):∀i,a<=i->i<m8 m->aM (az m i) aV=0:=λi c b=>by
 have:=List.find?_eq_none.1 h i (qY.2 b)
 grind
theorem jb(m:aO)(i j:Nat):(fQ m i j).length=m8 m:=by simp[fQ]
theorem ov{n:Nat}{m:aO}(h:aU n m){i j:Nat}(b:i<m8 m:=by omega)(a:j<m8 m:=by omega):aU n (fQ m i j):=FL (FL h (bY h a)) (bY h b)
theorem kR(t c:Nat)(m:aO):(ga t c m).length=m8 m:=by simp[ga]
theorem mL{n:Nat}{m:aO}(h:aU n m){t c:Nat}(a:t<m8 m):aU n (ga t c m):=FL h (by rw[rO];exact bY h a)
theorem kS(t c:Nat)(m:aO)(k:Nat):(bN t c m k).length=m8 m:=by simp[bN]
theorem uQ{n:Nat}{m:aO}(h:aU n m){t c k:Nat}(b:t<m8 m):aU n (bN t c m k):=λx d=>by
 obtain⟨i,e,rfl⟩:=List.mem_mapIdx.1 d;have a:=h _ (qe e);split
 .rw[cl (by rw[bY h b,a])];exact a
 omega
theorem ow(t c:Nat)(m:aO):bN t c m 0=m:=by apply zn;simp[bN,]
theorem jm{t c k:Nat}{m:aO}{i:Nat}(a:i<m8 m:=by omega):az (bN t c m k) i=if i<k/\i≠t then cN (aM (az m i) c) (az m t) (az m i)else az m i:=by rw[be (by rw[kS];exact a),be a];simp[bN]
theorem kB{t c k:Nat}{m:aO}(d:k<m8 m)(b:k≠t):bN t c m (k+1)=(bN t c m k).set k (cN (aM (az m k) c) (az m t) (az m k)):=by
 apply zn;intro i;simp only[bN,qV,List.getElem?_mapIdx,List.length_mapIdx];by_cases a:k=i
 .subst a;simp only[if_true,d,qc d,zl];rw[hZ ⟨nb,b⟩,be d]
 grind
theorem uR{t c:Nat}{m:aO}:bN t c m (t+1)=bN t c m t:=by
 simp only[bN,]
 grind
theorem Uz{n:Nat}{s:Nat×aO}(h:aU n s.2)(aV:Nat):aU n (fR s aV).2/\(fR s aV).2.length=m8 s.2:=by
 unfold fR;cases hb:fB s.2 s.1 aV with
 |none=>grind
 |some i=>
  have a:=kQ hb;refine⟨uQ (mL (ov h nb a.2.1) (by rw[jb];omega)) (by rw[kR,jb];omega),by rw[kS,kR,jb]⟩
theorem fV{n:Nat}{m:aO}(h:aU n m):∀c,aU n (aY m c).2/\(aY m c).2.length=m8 m
 |0=>⟨h,m9⟩
 |c+1=>by
  have:=fV h c;have a:=Uz this.1 c;rw[aY]
  grind
theorem XG{s:Nat×aO}(h:s.1<=m8 s.2)(aV:Nat):(fR s aV).1<=(fR s aV).2.length:=by
 unfold fR;cases hb:fB s.2 s.1 aV with
 |none=>exact h
 |some i=>
  have a:=kQ hb;dsimp only;rw[kS,kR,jb];omega
theorem oR(m:aO):∀c,(aY m c).1<=(aY m c).2.length
 |0=>by simp[aY]
 |c+1=>XG (oR m c) c
section
variable {C:Ctx} {ty e:Nat} {B:ar}
theorem Own.Md(R:C.Ok)(N:bO C.toAA t e k z by_)(D:∀x,(f x).length=k)(w:Own h e s k f l)(O:Seq h p v k f l2)(q:∀x,∀c∈f x,c.oneCell'=eL)(j:Nat)(X:j<=m8 l){y:bx}{M S:Nat}(i:y=if s.cap=j then s.ptr else s.ptr.map (·.add (j*k)))(B:M=s.len-j){K:Int->hY->Prop}
  (E:∀n h',Own h' e s k f (l.take j++(l2.take (m8 l-j)++l.drop (j+m8 l2)))->aQ (λb=>¬s.on b) h h'->K n h'):
  bC C.P (w6 #[t,t2] ty #[.slice y M S,.slice v.ptr v.len v.cap]) (.one (.sc (.int .i64))) h K:=by
 unfold bC w6;simp only[zN,wc,qO];refine au.bind (au.always (aK (N.under R)) ?_);refine au.bind (au.pure' ?_);refine au.bind (au.always (N.size R) ?_);have g:=w.len;have o:=O.len;have Q:=w.cap;obtain⟨m,F⟩:=HF (Nat.min v.len M)
 rw[<-F];have H:m<=m8 l2:=by rw[F,<-o];exact Nat.min_le_left _ _
 have r:m<=m8 l-j:=by rw[F,<-g,B];exact Nat.min_le_right _ _
 have V:m=min l2.length (m8 l-j):=by rw[F,B,g,o]
 have I:=O.take m H;have U:l2.take (m8 l-j)++l.drop (j+m8 l2)=l2.take m++l.drop (j+m):=by
  rcases Nat.le_total l2.length (m8 l-j)with hh|hh
  .rw[qh hh,show m=m8 l2 by omega,List.take_length]
  .rw[show m=m8 l-j by omega,zh (show l.length<=j+m8 l2 by omega),zh nb]
 rw[U]at E;have L:wI k m (.slice v.ptr v.len v.cap)=wI k m (.slice v.ptr m v.cap):=by cases v.ptr<;>rfl
 rw[L];refine au.bind (eC (v:=⟨v.ptr,m,v.cap⟩) D I ?_);have d:m=0->l.take j++(l2.take m++l.drop (j+m))=l:=λe=>by rw[e];simp
 rcases w.head with⟨h1,h2,h3⟩|⟨b,rest,h1,h2,h3,h4⟩
 .have a:y=eH:=by rw[i,h1];split<;>rfl
  rw[a];subst h3;have:m=0:=by simp at r;exact r
  refine au.pure' ⟨_,m9,E _ h ?_ (aQ.refl _ _)⟩;rw[d this];exact w
 .by_cases A:s.cap=j
  .have a:y=dB ⟨b,0,eH⟩:=by rw[i,hZ A,h1]
   rw[a];have u:m=0:=nb
   refine au.bind ?_;rw[u];simp only[List.take_zero,List.flatMap_nil];exact au.pure' (au.pure' ⟨_,m9,E _ h (by rw[d u];exact w) (aQ.refl _ _)⟩)
  .have a:y=dB ⟨b,0+j*k,eH⟩:=by rw[i,k4 A,h1];simp only[zl];rw[add_eq]
   rw[a];refine au.bind ?_;have J:l.flatMap f++rest=(l.take j).flatMap f++((l.drop j).take m).flatMap f++((l.drop (j+m)).flatMap f++rest):=by rw[<-ql,<-za,<-za,<-wu,ql (yt j l),qA,qA]
   rw[J]at h2;refine fc (e:=e) (pre:=(l.take j).flatMap f) (old:=((l.drop j).take m).flatMap f) (post:=(l.drop (j+m)).flatMap f++rest) h2 (by rw[dz D,dz D,qx,qx,qH];congr 1;omega) (by rw[dz D,qx];rw[wK X];omega) ?_ ?_
   .intro c W;obtain⟨x,_,G⟩:=wM.1 W;exact q x c G
   .refine au.pure' ⟨_,m9,E _ _ ⟨by rw[g,qo,qo,qx,qx,qH];omega,.inr ⟨b,rest,h1,?_,h3,h4⟩⟩ (aQ.ju h2 λT=>T ⟨0,h1⟩)⟩;rw[hJ h2,hZ m9,za,za];simp[ql]
theorem aa.Md(D:C.Ok)(H:aa B h0 h As)(i:Nat)(o:As[i]?=dB (ai e s k f l))(r:bO C.toAA t e k z by_)(q:∀x,(f x).length=k)(u:Seq h p v k f l2)(a:∀x,∀c∈f x,c.oneCell'=eL)(j:Nat)(E:j<=m8 l){g:bx}{m A:Nat}(b:g=if s.cap=j then s.ptr else s.ptr.map (·.add (j*k)))(d:m=s.len-j){K:Int->hY->Prop}
  (w:∀n h',aa B h0 h' (As.set i (ai e s k f (l.take j++(l2.take (m8 l-j)++l.drop (j+m8 l2)))))->K n h'):
  bC C.P (w6 #[t,t2] ty #[.slice g m A,.slice v.ptr v.len v.cap]) (.one (.sc (.int .i64))) h K:=
 (H.own i o).Md D r q u a j E b d λn h' x y=>w n h' (H.oq i o y x)
end
def iS(s:ByteArray):aT:=s.data.toList
theorem ud(s:ByteArray):(iS s).length=s.size:=rfl
def aeq(n:Nat):Obj->Obj
 | .cells c elem (lo,hi)=>.cells c elem (if lo==hi then(n,n+1)else(min lo n,max hi (n+1)))
 |o=>o
theorem au.UA{P:Program}{h:hY}{b n:Nat}{c:Array eX}{e:TypeId}{K:Unit->hY->Prop}(d:h[b]?=dB (.cells c e (0,0)))(k:n=c.size)(i:∀h',(∀x,x≠b->h'[x]?=h[x]?)->h'.size=h.size->(∃f,h'[b]?=dB (.cells c e f))->K () h'):
  au P (freeze {block:=b,off:=n} 1) h K:=λw a=>by
 refine⟨(),w.freeze {block:=b,off:=n} 1,run_freeze P w _ _,⟨m9,m9,m9,qj _⟩,?_⟩;subst a;have g:(w.freeze {block:=b,off:=n} 1).heap=w.heap.modify b (aeq n):=rfl;refine i _ (λx j=>?_) ?_ ?_
 .grind
 .grind
 .rw[g,yh,hZ m9,d];exact⟨_,m9⟩
section
variable {C:Ctx} {B:ar} {e ts:Nat}
theorem aaF(g:C.Ok)(z:∃i,C.T.get ts=dB i/\i.co=.str)(w:∃i,C.T.get t=dB i/\i.co=.slice e)(m:∃i,C.T.get e=dB i/\i.co=.int .u8)(s:ByteArray){K:Sl->hY->Prop}(q:∀r h',Sp h h' [Ae r 1 aq (iS s)]->K r h'):
  bC C.P (convert ts t (.string s)) (.one (.sc .slc)) h K:=by
 obtain⟨G,D,n⟩:=z;obtain⟨F,A,o⟩:=w;obtain⟨i3,a3,B⟩:=m;have y:C.P.underlying ts=dB .string:=by have:=g.co D;rw[n]at this;exact th this
 have E:C.P.underlying t=dB (.slice e):=by have:=g.co A;rw[o]at this;exact iB this
 have u3:C.P.underlying e=dB (.int .u8):=by have:=g.co a3;rw[B]at this;exact Ee this
 refine au.bind (au.always (aK y) ?_);refine au.bind (au.always (aK E) ?_);refine au.bind (au.always (aK u3) ?_);refine au.bind (au.Ed ⟨λv=>(by cases v),λ_ u=>?_⟩);generalize p:Question.cut (Question.appendCap s.size 0 e) u=cc;refine au.bind (au.bind (au.oh (au.pure' ?_)));obtain⟨cs,a⟩:∃cs:Array eX,cs=s.data.map (λb=>Value.int .u8 b.toNat)++Array.replicate (cc-s.size) (Value.int .u8 0):=⟨_,rfl⟩
 rw[<-a];refine au.bind (au.bind (au.abC ?_));have j:shapeOf (h.push (.cells cs e)) h.size=dB (e,cs.size):=by unfold shapeOf;simp
 rw[j];refine au.UA (c:=cs) (e:=e) n4 m9 λh' I l d=>?_;refine au.pure' ⟨⟨dB ⟨h.size,0,eH⟩,s.size,cc⟩,m9,q _ _ ?_⟩;obtain⟨f,d⟩:=d;refine .one ⟨by rw[l];simp,λb H _=>n8⟩ ?_;refine⟨m9,λi x k=>⟨h.size,0,m9,⟨qj _,by rw[l];simp⟩,?_,I0⟩⟩;rw[add_zero];have J:i<s.data.size:=by have:=(qm.1 k).1;simpa[iS]using this
 unfold hU;simp only[d,Nat.mul_one,w9,];rw[a,Array.getElem?_append_left n8,];have:s.data[i]?=dB x:=by rw[<-k];simp[iS]
 grind
end
section
variable {C:Ctx} {e:Nat} {B:ar} {l:aT}
theorem KA(u:C.Ok)(A:bO C.toAA t e 1 z by_)(h2:∃i,C.T.get t2=dB i/\i.co=.str)(Q:m8 z=1)(G:0<by_/\by_<=128)
  (v:Own h e s 1 aq l) (x:ByteArray) (ad:m8 l+x.size<=2^32) {ty:Nat} {K:Sl->hY->Prop}
  (H:∀J h',Own h' e J 1 aq (l++iS x)->aQ (λb=>¬s.on b) h h'->(∀b,J.on b->s.on b∨h.size<=b)->K J h'):
  bC C.P (q6 #[t,t2] ty #[.slice s.ptr s.len s.cap,.string x]) (.one (.sc .slc)) h K:=by
 obtain⟨i2,Y,g2⟩:=h2;have E:C.P.underlying t2=dB .string:=by have:=u.co Y;rw[g2]at this;exact th this
 obtain⟨L,w,x2,x3,zv,X,V⟩:=A.info u;have k:∀y∈(iS x).flatMap aq,y.oneCell'=eL:=λy hy=>by
  obtain⟨b,_,S⟩:=wM.1 hy;exact cH b y S
 have g:((x.extract 0 x.size).data.map λb=>Value.int .u8 (b.toNat:Int))=((iS x).flatMap aq).toArray:=by
  have Z:x.extract 0 x.size=x:=by apply ByteArray.ext;simp[ByteArray.data_extract]
  rw[Z];apply vj;simp only[xf,iS];exact List.map_eq_flatMap
 unfold bC q6;simp only[zN,wc,qO];refine au.bind (au.always (aK (A.under u)) ?_);refine au.bind (au.always (A.size u) ?_);refine au.bind (au.always (aK E) ?_);refine au.bind (au.pure' ?_);simp only[zc,if_false,wG,if_true];refine au.bind (au.pure' ?_);have n:=v.len;have r:∀y,(aq y).length=1:=λ_=>rfl;have j:=dz r l;have a:=dz r (iS x);have ab:=ud x;have p:∀{h:hY} {K:Array eX->hY->Prop},K ((iS x).flatMap aq).toArray h->au C.P (wI 1 x.size (.string x)) h K:=λ{h K} hK=>by
  unfold wI;dsimp only;rw[g];exact au.pure' hK
 by_cases d:s.len+x.size<=s.cap
 .rw[hZ d];refine au.bind (p ?_);rcases v.head with⟨p1,p2,p3⟩|⟨b,rest,p1,p2,p3,p4⟩
  .rw[p1];have B:iS x=[]:=qR nb;refine au.pure' ⟨⟨eH,s.len+x.size,s.cap⟩,m9,H _ _ ⟨?_,.inl ⟨m9,p2,by simp[p3,B]⟩⟩ (aQ.refl _ _) ?_⟩
   .simp;omega
   .rintro N ⟨o,f⟩;cases f
  .rw[p1];refine au.bind ?_;rw[add_eq,w9];have D:((iS x).flatMap aq).length<=m8 rest:=by rw[a,p3];omega
   refine fc (e:=e) (pre:=l.flatMap aq) (old:=rest.take ((iS x).flatMap aq).length) (post:=rest.drop ((iS x).flatMap aq).length) ?_ ?_ ?_ ?_ ?_
   .rw[ql,qA];exact p2
   .rw[qx];exact wK D
   .rw[j,n];omega
   .intro c hc;exact k c (by simpa using hc)
   .refine au.pure' ⟨⟨dB ⟨b,0,eH⟩,s.len+x.size,s.cap⟩,m9,H _ _ ⟨?_,.inr ⟨b,rest.drop ((iS x).flatMap aq).length,m9,?_,?_,d⟩⟩ ?_ ?_⟩
    .simp;omega
    .rw[hJ p2,hZ rfl];simp
    .rw[qH,p3,a];show(s.cap-s.len)*1-(iS x).length*1=(s.cap-(s.len+x.size))*1;omega
    .exact aQ.ju p2 (λU=>U ⟨0,p1⟩)
    .rintro N ⟨o,f⟩;cases f;exact .inl ⟨0,p1⟩
 .rw[k4 d];have q:Seq h (λ_=>True) s 1 aq l:=v.seq r λ_ _=>trivial;have M:=v.cap;refine au.bind (au.always (cG w) ?_);rw[k4 λhh=>by rcases hh.2 with h|h<;>first|exact h|(rw[x3]at h;omega)];refine au.bind (au.always (cG w) ?_);have O:=IC (s.len+x.size) s.cap;rw[k4 (by
   have:yM (s.len+x.size) s.cap*L.bytes<=(16*2^32+16*768)*128:=zq nb (by rw[x3];exact G.2);omega)]
  refine au.bind (au.Ed ⟨λW=>(by cases W),λ_ R=>?_⟩);refine au.bind (au.always (cG w) ?_);refine au.bind (au.Bb ?_);refine au.bind (eC r q ?_);refine au.bind (p ?_);have I:aL C.P (zeroValue e) zv:=(cG w).bind (by rw[X];exact .pure);refine au.bind (au.always I ?_);rw[V,tU];unfold newRow;refine au.bind (au.bind (au.oh (au.pure' (au.pure' ?_))));generalize F:Question.cut (Question.appendCap (s.len+x.size) s.cap e) R=cc;have m:s.len+x.size<=cc:=by rw[<-F];simp only[Question.cut];omega
  refine⟨⟨dB ⟨h.size,0,eH⟩,s.len+x.size,cc⟩,m9,H _ _ ⟨?_,.inr ⟨h.size,iQ z (cc-(s.len+x.size)),m9,?_,?_,m⟩⟩ (aQ.push _ _ _) ?_⟩
  .simp;omega
  .simp
  .rw[mI,Q]
  .rintro N ⟨o,f⟩;cases f;exact .inr (qj _)
theorem aa.JB(w:C.Ok)(H:aa B h0 h As)(i:Nat)(E:As[i]?=dB (ai e s 1 aq l))(p:bO C.toAA t e 1 z by_)(y:∃i,C.T.get t2=dB i/\i.co=.str)(r:m8 z=1)(j:0<by_/\by_<=128)
  (x:ByteArray) (o:m8 l+x.size<=2^32) {ty:Nat} {K:Sl->hY->Prop} (u:∀f h',aa B h0 h' (As.set i (ai e f 1 aq (l++iS x)))->K f h'):
  bC C.P (q6 #[t,t2] ty #[.slice s.ptr s.len s.cap,.string x]) (.one (.sc .slc)) h K:=by
 obtain⟨F,q,c,D,a⟩:=H;have n:=a i _ E;refine KA w p y r j n.1 x o λf h' d g m=>u f h' ?_;refine aa.Bj F q D a (g.mono λb k v A=>v (n.2 b A)) ⟨d,λb k=>⟨d.lt k,?_⟩⟩;rcases m b k with h1|h1
 .exact .inl (n.2 b h1)
 .exact .inr h1
end
section
variable {C:Ctx} {e ts:Nat}
theorem EV:∀(l:aT) (b:ByteArray),l.foldl ByteArray.push b=⟨(b.data.toList++l).toArray⟩
 |[],b=>n4
 |x::l,b=>by
  rw[zO,EV l (b.push x)];simp
theorem Qp(g:C.Ok)(A:∃i,C.T.get t=dB i/\i.co=.slice e)(D:∃i,C.T.get ts=dB i/\i.co=.str)(w:∃i,C.T.get e=dB i/\i.co=.int .u8){s:Sl}{l:aT}{p:ar}(q:Seq h p s 1 aq l){K:ByteArray->hY->Prop}(u:K ⟨l.toArray⟩ h):
  bC C.P (convert t ts (.slice s.ptr s.len s.cap)) (.one (.sc .str)) h K:=by
 obtain⟨L,H,y⟩:=D;obtain⟨J,E,z⟩:=A;obtain⟨i3,a3,F⟩:=w;have B:C.P.underlying ts=dB .string:=by have:=g.co H;rw[y]at this;exact th this
 have I:C.P.underlying t=dB (.slice e):=by have:=g.co E;rw[z]at this;exact iB this
 have u3:C.P.underlying e=dB (.int .u8):=by have:=g.co a3;rw[F]at this;exact Ee this
 refine au.bind (au.always (aK I) ?_);refine au.bind (au.always (aK B) ?_);refine au.bind (au.always (aK u3) ?_);have G:=eC (P:=C.P) (f:=aq) (k:=1) (K:=λcs h'=>cs=(l.flatMap aq).toArray/\h'=h) (λ_=>rfl) q ⟨m9,m9⟩;cases hp:s.ptr with
 |none=>
  have:l=[]:=by
   cases l with
   |nil=>rfl
   |cons x r=>obtain⟨b,o,M,_⟩:=q.elem 0 x (rfl);grind
  subst this;exact au.pure' ⟨⟨#[]⟩,m9,u⟩
 |some a=>
  have d:au C.P (loadCells a s.len) h λcs h'=>cs=(l.flatMap aq).toArray/\h'=h:=by
   have:wI 1 s.len (.slice (dB a) s.len s.cap)=loadCells a s.len:=by unfold wI;simp
   grind
  refine au.bind (d.mono ?_);rintro _ _ ⟨rfl,rfl⟩;have j:∀(l:aT) (b:ByteArray),aL C.P (forIn (m:=Sem) (l.flatMap aq) b λc r=>match c with
    |xJ xQ n=>do pure (ForInStep.yield (r.push (zI n.toNat)))
    |_=>do let r<-stuck "bytesToString: byte expected";pure r) (l.foldl ByteArray.push b):=λl=>by
   induction l with
   |nil=>intro b;exact .pure
   |cons x l ih=>
    intro b;have N:(x::l).flatMap aq=Value.int .u8 x.toNat::l.flatMap aq:=rfl;have e2:b.push (zI ((x.toNat:Int)).toNat)=b.push x:=n4
    grind
  refine au.bind (au.always (v:=l.foldl ByteArray.push ByteArray.empty) ?_ ?_)
  .rw[List.forIn_toArray];exact j l _
  .refine au.pure' ⟨_,m9,?_⟩;rw[EV];exact u
end
theorem GP{P:Program}{id:FuncId}(H:∀(g off cap:Nat) (i:aC) (w:World),Sort.Holds (Value.int .i64) w g off i.toArray->m8 i<=9223372036854775807->m8 i<=cap->
   Calls P id #[.slice (dB ⟨g,off,eH⟩) i.length cap] w λe o=>e=.returned (.slice (dB ⟨g,off,eH⟩) (Lib.compact i).length cap)/\∃q,o=Sort.putRow (Value.int .i64) (Sort.ahead w q) g off (Lib.compact i++qf (m8 i-(Lib.compact i).length) 0).toArray)
  (G:∀(a:bx) (cap:Nat) (w:World),Calls P id #[.slice a 0 cap] w λe o=>e=.returned (.slice a 0 cap)/\o=w)
  {e:TypeId} {s:Sl} {l:aC} {h:hY} (A:Own h e s 1 av l) (I:m8 l<2^40):
  aj P id #[.slice s.ptr s.len s.cap] h λv h'=>v=.slice s.ptr (Lib.compact l).length s.cap/\Own h' e ⟨s.ptr,(Lib.compact l).length,s.cap⟩ 1 av (Lib.compact l)/\aQ (λb=>¬s.on b) h h':=by
 intro w t;have c:=A.len;rcases A.head with⟨h1,h2,h3⟩|⟨b,rest,h1,h2,h3,h4⟩
 .subst h3;have B:Lib.compact ([]:aC)=[]:=rfl;rw[c,h1];refine(G eH s.cap w).mono ?_;rintro F o ⟨rfl,rfl⟩;refine⟨_,m9,dm.refl _,by rw[B];rfl,by rw[B];exact⟨m9,.inl ⟨m9,by simpa using h2,m9⟩⟩,by rw[<-t];exact aQ.refl _ _⟩
 .rw[h1,c];have x:w.heap[b]?=dB (.cells (l.flatMap av++rest).toArray e (0,0)):=by rw[t];exact h2
  refine(H b 0 s.cap l w (JA x) nb nb).mono ?_;rintro F o ⟨rfl,n,rfl⟩;have r:=lt_of_block x;have D:=Lib.compact_length_le l;obtain⟨m,j⟩:=HF (Lib.compact l++qf (m8 l-(Lib.compact l).length) 0)
  rw[<-j];have p:m8 m=m8 l:=by rw[j];simp;omega
  have f:∀k,k<h.size->(Sort.putRow (Value.int .i64) (Sort.ahead w n) b 0 m.toArray).heap[k]?=if b=k then dB (.cells (m.flatMap av++rest).toArray e (0,0))else h[k]?:=by
   intro k z;simp only[Sort.putRow,Sort.mapBlock,Sort.ahead,yh];by_cases d:b=k
   .subst d;rw[hZ m9,hZ m9,x,zl,Sort.onCells,Mb _ _ _ p]
   .rw[k4 d,k4 d,t]
  rw[t]at r;have y:Own (Sort.putRow (Value.int .i64) (Sort.ahead w n) b 0 m.toArray).heap e s 1 av m:=⟨by rw[p];exact c,.inr ⟨b,rest,h1,by rw[f b r,hZ rfl],h3,h4⟩⟩
  have u:=y.cut (λ_=>rfl) (Lib.compact l).length nb;rw[j,List.take_left]at u;refine⟨_,m9,⟨m9,m9,m9,n4⟩,m9,n8,n8,?_⟩;intro k z E;rw[f k z,k4 λd=>E ⟨0,by rw[h1,d]⟩]
theorem ue(a:aC)(t:a.Pairwise (·<=·)):∀m,m<=m8 a->(Lib.compactUpTo a.toArray m).Pairwise (·<·)/\(∀x,x∈Lib.compactUpTo a.toArray m↔∃j,j<m/\a[j]?=dB x)
 |0,_=>⟨by simp[Lib.compactUpTo],λx=>by simp[Lib.compactUpTo]⟩
 |m+1,hm=>by
  obtain⟨u,v⟩:=ue a t m nb;have f:m<m8 a:=nb
  have p:a.toArray[m]! =a[m]:=E3
  rw[Lib.compactUpTo_succ,p];have r:∀j (k:j<m),a[j]'nb<=a[m]:=λj k=>zb.1 t j m nb f k;by_cases h:Lib.keeps a.toArray m=eL
  .rw[hZ h];have o:m=0∨a[m-1]'nb<a[m]:=by
    by_cases i:m=0
    .exact .inl i
    .right;have g:a.toArray[m-1]! =a[m-1]'nb:=by simp[show m-1<m8 a by omega]
     have w:a[m]≠a[m-1]'nb:=λn=>by
      have:=Lib.keeps_neg (d:=a.toArray) (m:=m) nb (by rw[p,g];exact n);rw[this]at h;cases h
     have:=r (m-1) nb;omega
   have l:∀x∈Lib.compactUpTo a.toArray m,x<a[m]:=λx q=>by
    obtain⟨j,k,c⟩:=(v x).1 q;rw[qc nb]at c;injection c with c
    rcases o with h0|h0
    .omega
    .have h3:a[j]'nb<=a[m-1]'nb:=by
      by_cases b:j=m-1
      .subst b;exact Int.le_refl _
      .exact zb.1 t j (m-1) nb nb nb
     omega
   refine⟨zy.2 ⟨u,n4,λx q y z=>?_⟩,λx=>?_⟩
   .rw[qB.1 z];exact l x q
   grind
  .rw[k4 h,List.append_nil];have i:m≠0:=λh0=>h (by subst h0;exact Lib.keeps_lt_one _ 0 nb);have s:a[m]=a[m-1]'nb:=by
    by_cases n:a[m]=a[m-1]'nb
    .exact n
    .have g:a.toArray[m-1]! =a[m-1]'nb:=by simp[show m-1<m8 a by omega]
     exact absurd (Lib.keeps_pos (d:=a.toArray) (m:=m) (by rw[p,g];exact n)) h
   refine⟨u,λx=>?_⟩;rw[v];constructor
   .rintro⟨j,k,e⟩;exact⟨j,nb,e⟩
   .rintro⟨j,k,e⟩;by_cases b:j=m
    .subst b;refine⟨j-1,nb,?_⟩;rw[qc f]at e;rw[qc nb,<-s];exact e
    .exact⟨j,nb,e⟩
theorem Mf(l:aC):(mD l).Pairwise (·<=·):=by have:=wD (le:=λx y:Int=>decide (x<=y)) (by intro a b c e d;simp at e d⊢;omega) (by intro a b;simp;omega) l;exact this.imp λh=>p5
theorem Sf(l:aC)(h:∀x∈l,0<=x/\x<64):Lib.compact (mD l)=gA l:=by
 obtain⟨d,c⟩:=ue (mD l) (Mf l) (mD l).length (qj _);have k:∀x,x∈Lib.compact (mD l)↔x∈l:=λx=>by
  unfold Lib.compact;rw[c,<-Jw l x,List.mem_iff_getElem?];constructor
  .rintro⟨j,_,e⟩;exact⟨j,e⟩
  .rintro⟨j,e⟩;exact⟨j,(qm.1 e).1,e⟩
 have i:(gA l).Pairwise (·<·):=by unfold gA;refine List.Pairwise.filter _ ?_;rw[List.pairwise_map];exact List.pairwise_lt_range.imp λh=>nb
 have f:∀x,x∈gA l↔x∈l:=λx=>by
  unfold gA;rw[qJ,qI];constructor
  .rintro⟨_,c⟩;simpa using c
  .intro g;obtain⟨a,b⟩:=h x g;exact⟨⟨x.toNat,qY.2 nb,nb⟩,C7⟩
 have m:(Lib.compact (mD l)).Perm (gA l):=(List.perm_ext_iff_of_nodup (d.imp λh=>nb) (i.imp λh=>nb)).2 λx=>(k x).trans (f x).symm;exact m.eq_of_pairwise (le:=(·<·)) (λa b _ _ d c=>nb) d i
section
variable {B:ar} {C:Ctx} {e:Nat}
theorem Ci(z:aR)(n:Nat):(yq z.toArray n).toList.length=n*m8 z:=by simp[yq]
theorem KB{z:aR}(c:∀v∈z,v.oneCell'=eL)(n:Nat):∀v∈(yq z.toArray n).toList,v.oneCell'=eL:=by
 intro v a;simp only[yq,xf,qI,]at a;obtain⟨i,d,rfl⟩:=a;have h0:0<m8 z:=n8
 have b:=vk i h0
 grind
theorem Own.ox(A:C.Ok)(u:Own h e s k f l)(w:bO C.toAA t e k z by_)(g:∀x,(f x).length=k)(y:m8 z=k)(d:∀v∈z,v.oneCell'=eL)(j:Nat)(B:j<=m8 l){ty:Nat}{K:hY->Prop}
  (n:∀h',Own h' e ⟨s.ptr,j,s.cap⟩ k f (l.take j)->aQ (λb=>¬s.on b) h h'->K h'):
  au C.P (vO #[t] ty #[.slice (if s.cap=j then s.ptr else s.ptr.map (·.add (j*k))) (s.len-j) (s.cap-j)]) h λ_ h'=>K h':=by
 have N:=u.len;have c:=u.cut g j B;unfold vO;refine au.bind (au.always (aK (w.under A)) ?_);by_cases o:j=m8 l
 .have F:s.len-j=0:=nb
  rw[F];generalize (if s.cap=j then s.ptr else s.ptr.map (·.add (j*k)))=q;cases q with
  |none=>exact au.pure' (n h c (aQ.refl _ _))
  |some a=>exact au.pure' (n h c (aQ.refl _ _))
 .rcases u.head with⟨h1,h2,h3⟩|⟨b,rest,h1,h2,h3,h4⟩
  .subst h3;simp at B o;omega
  .have r:s.cap≠j:=nb
   rw[k4 r,h1];obtain⟨m,E⟩:∃m,s.len-j=m+1:=⟨s.len-j-1,nb⟩
   rw[E];obtain⟨Q,T,S,U,L,R,D,O⟩:=w.ex;obtain⟨M,G,I⟩:=ro A.toOk L;refine au.bind (au.always G ?_);have i:M.cells=z.toArray:=by apply vj;rw[I,D]
   rw[i];refine au.bind ?_;have J:((⟨b,0,eH⟩:fY).add (j*k))=⟨b,j*k,eH⟩:=by simp[add_eq]
   show au C.P (storeCells ((⟨b,0,eH⟩:fY).add (j*k)) (yq z.toArray (m+1)).toList) h _;rw[J];have p:(l.drop j).length=m+1:=n2
   refine fc (e:=e) (pre:=(l.take j).flatMap f) (old:=(l.drop j).flatMap f) (post:=rest) ?_ ?_ ?_ (KB d _) ?_
   .rw[<-za,qA];exact h2
   .rw[dz g,p,Ci,y]
   .rw[dz g,qx,wK nb];omega
   .refine au.pure' (n _ ⟨n2,.inr ⟨b,(yq z.toArray (m+1)).toList++rest,h1,?_,?_,n1⟩⟩ ?_)
    .rw[hJ h2,hZ rfl];simp
    .rw[qo,Ci,y,h3,<-Nat.add_mul];dsimp only;congr 1;omega
    .exact aQ.ju h2 λH=>H ⟨0,h1⟩
theorem aa.ox(u:C.Ok)(H:aa B h0 h As)(i:Nat)(m:As[i]?=dB (ai e s k f l))(o:bO C.toAA t e k z by_)(n:∀x,(f x).length=k)(p:m8 z=k)(a:∀v∈z,v.oneCell'=eL)(j:Nat)(w:j<=m8 l){ty:Nat}{K:hY->Prop}
  (r:∀h',aa B h0 h' (As.set i (ai e ⟨s.ptr,j,s.cap⟩ k f (l.take j)))->K h'):
  au C.P (vO #[t] ty #[.slice (if s.cap=j then s.ptr else s.ptr.map (·.add (j*k))) (s.len-j) (s.cap-j)]) h λ_ h'=>K h':=
 (H.own i m).ox u o n p a j w λh' x y=>r h' (H.step i m λq g _=>⟨y.mono λb _ c d=>c (g.2 b d),x,λb c=>⟨x.lt c,.inl (g.2 b c)⟩⟩)
end
theorem Lh:∀x y:aT,(Op.bytesLess x y||x==y)=!Op.bytesLess y x
 |[],[]=>rfl
 |[],_::_=>rfl
 |_::_,[]=>rfl
 |a::x,b::y=>by
  have f:=Lh x y;have d:a<b∨a=b∨b<a:=n8
  rcases d with h|rfl|h
  .have e:¬b<a:=λh'=>n8
   have c:b≠a:=λh'=>n8
   simp[Op.bytesLess,h,e,c]
  .simp only[Op.bytesLess,]
   grind
  .have e:¬a<b:=λh'=>n8
   have c:a≠b:=λh'=>n8
   simp[Op.bytesLess,h,e,c]
theorem Es:∀x y z:aT,Op.bytesLess x y=eL->Op.bytesLess y z=eL->Op.bytesLess x z=eL
 |x,[],_,h1,_=>by cases x<;>simp[Op.bytesLess]at h1
 |_,b::y,[],_,h2=>by simp[Op.bytesLess]at h2
 |[],_::_,_::_,_,_=>rfl
 |a::x,b::y,c::z,h1,h2=>by
  simp only[Op.bytesLess,yx,qz,beq_iff_eq]at h1 h2⊢;rcases h1 with h1|⟨rfl,h1⟩
  .grind
  .rcases h2 with h2|⟨rfl,h2⟩
   .grind
   .exact .inr ⟨m9,Es x y z h1 h2⟩
theorem UB(x:aT):Op.bytesLess x x=eR:=by
 have:=Lh x x
 grind
def jc(a b:ByteArray):Bool:=!cW b a
theorem GQ(a b:ByteArray):jc a b=eL↔cW a b=eL∨a.toList=b.toList:=by unfold jc cW;rw[<-Lh,yx,beq_iff_eq]
theorem Da(a b c:ByteArray)(e:jc a b=eL)(d:jc b c=eL):jc a c=eL:=by
 rw[GQ]at e d⊢;unfold cW at*;rcases e with e|e
 .rcases d with d|d
  .exact .inl (Es _ _ _ e d)
  grind
 grind
theorem Db(a b:ByteArray):(jc a b||jc b a)=eL:=by
 unfold jc;cases h:cW b a with
 |false=>rfl
 |true=>
  have:cW a b=eR:=by
   cases h2:cW a b with
   |false=>rfl
   |true=>
    have:=Es _ _ _ h h2;rw[UB]at this;grind
  grind
def nh(a b:cZ):Bool:=jc a.name b.name
def nR(m:aB)(x:cZ):aB:={m with seq:=m.seq+1,next:=m.next+1,objs:=(m.objs++[x]).mergeSort nh}
section
open Classical
theorem mM(a:UInt8):a^^^a=0:=UInt8.xor_self
theorem AF(a b:UInt8):(a^^^b)^^^b=a:=by rw[UInt8.xor_assoc,mM,z6]
theorem db{c:UInt8}{a t:Row}(h:m8 a=m8 t)(j:Nat):aM (cN c a t) j=aM t j^^^Gf.mul c (aM a j):=by
 simp only[aM,cN,qg,wQ];by_cases b:j<m8 a
 .rw[qc b,qc nb];rfl
 .rw[zf nb,zf nb];simp[Gf.mul_zero]
theorem rP(c:UInt8)(a:Row)(j:Nat):aM (scaleB c a) j=Gf.mul c (aM a j):=by
 simp only[aM,scaleB,qg,qM];cases a[j]? with
 |none=>simp[Gf.mul_zero]
 |some x=>rfl
def aN(n:Nat):Row:=qf n 0
theorem cL(n j:Nat):aM (aN n) j=0:=by simp only[aM,aN,qg,List.getElem?_replicate];split<;>rfl
theorem gB{n:Nat}{a b:Row}(f:m8 a=n)(e:m8 b=n)(h:∀j,j<n->aM a j=aM b j):a=b:=by apply zW nb;intro j d c;have:=h j nb;simpa[aM,qg,qc d,qc c]using this
inductive Span (n:Nat) (m:aO):Row->Prop
 |zero:Span n m (aN n)
 |add (c:UInt8) (r v:Row):r∈m->Span n m v->Span n m (cN c r v)
section
variable {n:Nat} {m m':aO}
theorem Span.len(a:aU n m){v:Row}(h:Span n m v):m8 v=n:=by
 induction h with
 |zero=>simp[aN]
 |add c r v hr _ ih=>rw[cl (by rw[a r hr,ih])];exact ih
theorem Span.comb(a:aU n m){u v:Row}(e:Span n m u)(b:Span n m v)(c:UInt8):Span n m (cN c u v):=by
 induction e with
 |zero=>
  have:cN c (aN n) v=v:=gB (n:=n) (by rw[cl (by simp[aN,b.len a])];exact b.len a) (b.len a) λj _=>by
   rw[db (by simp[aN,b.len a]),cL,Gf.mul_zero,z6]
  rw[this];exact b
 |add d r w hr hw ih=>
  have l1:=b.len a;have l2:=hw.len a;have f:=a r hr;have:cN c (cN d r w) v=cN (Gf.mul c d) r (cN c w v):=gB (n:=n) (by rw[cl (by rw[cl nb];omega)];exact l1) (by rw[cl (by rw[cl nb];omega),cl nb];exact l1) λj _=>by
   rw[db (by rw[cl nb];omega),db nb,db (by rw[cl nb];omega),db nb,Gf.jL,Gf.mul_assoc]
   ac_rfl
  rw[this];exact .add _ _ _ hr ih
theorem Span.row(b:aU n m){r:Row}(a:r∈m):Span n m r:=by
 have:=Span.add 1 r _ a (.zero (n:=n) (m:=m));have e:cN 1 r (aN n)=r:=gB (n:=n) (by rw[cl (by simp[aN,b r a])];simp[aN]) (b r a) λj _=>by
  rw[db (by simp[aN,b r a]),cL,Gf.one_mul,wv]
 rwa [e]at this
theorem Span.sub(a:aU n m)(h:∀r∈m',Span n m r){v:Row}(b:Span n m' v):Span n m v:=by
 induction b with
 |zero=>exact .zero
 |add c r v hr _ ih=>exact(h r hr).comb a ih c
theorem Span.mono(h:∀r∈m',r∈m){v:Row}(a:Span n m' v):Span n m v:=by
 induction a with
 |zero=>exact .zero
 |add c r v hr _ ih=>exact .add c r v (h r hr) ih
theorem Span.ZL(d:aU n m)(φ:Row->UInt8)(e:φ (aN n)=0)(f:∀c a t,m8 a=n->m8 t=n->φ (cN c a t)=φ t^^^Gf.mul c (φ a))(g:∀r∈m,φ r=0){v:Row}(b:Span n m v):φ v=0:=by
 induction b with
 |zero=>exact e
 |add c r v hr' b ih=>rw[f c r v (d r hr') (b.len d),ih,g r hr',Gf.mul_zero,z6]
end
def Af(S:Row->Prop)(j:Nat):Prop:=∃v,S v/\(∀i,i<j->aM v i=0)/\aM v j≠0
noncomputable def leads(S:Row->Prop)(n:Nat):Nat:=(qy n).countP λj=>decide (Af S j)
structure Way (n:Nat) (m:aO) (c top:Nat) (rows:aO):Prop where
 even:aU n rows
 len:m8 rows=m8 m
 tle:top<=m8 rows
 span:∀v,Span n rows v↔Span n m v
 cnt:top=leads (Span n m) c
 piv:∃p:Nat->Nat,(∀i,i<top->p i<c)/\(∀i,i<top->∀k,k<m8 rows->aM (az rows k) (p i)=if k=i then 1 else 0)/\(∀i,i<top->∀j,j<p i->aM (az rows i) j=0)/\(∀i j,i<j->j<top->p i<p j)
 low:∀k,top<=k->k<m8 rows->∀j,j<c->aM (az rows k) j=0
theorem mem_row{m:aO}{i:Nat}(h:i<m8 m:=by omega):az m i∈m:=by rw[be h];exact qe h
theorem gb{m:aO}{r:Row}(h:r∈m):∃i,i<m8 m/\r=az m i:=by obtain⟨i,a,rfl⟩:=qD h;exact⟨i,a,(be a).symm⟩
theorem lD{m:aO}{i j:Nat}{r:Row}(a:i<m8 m:=by omega):az (m.set i r) j=if i=j then r else az m j:=by
 simp only[az,qg,qV];by_cases h:i=j
 .subst h;simp[a]
 .simp[h]
theorem uf{m:aO}{i j k:Nat}(d:i<m8 m)(c:j<m8 m):az (fQ m i j) k=if k=j then az m i else if k=i then az m j else az m k:=by
 rw[fQ,lD (by simpa using c),lD d];by_cases b:j=k
 .rw[hZ b,hZ b.symm]
 .rw[k4 b,k4 (show¬k=j fromλh=>b h.symm)];by_cases a:i=k
  .rw[hZ a,hZ a.symm]
  .rw[k4 a,k4 (show¬k=i fromλh=>a h.symm)]
theorem Bu{m:aO}{t c k:Nat}(a:t<m8 m):az (ga t c m) k=if t=k then scaleB (Gf.inv (aM (az m t) c)) (az m t)else az m k:=by rw[ga,lD a]
section
variable {n:Nat} {m:aO}
theorem UC(l:aU n m){i j:Nat}(b:i<m8 m)(a:j<m8 m)(v:Row):Span n (fQ m i j) v↔Span n m v:=by
 refine⟨Span.mono λr f=>?_,Span.mono λr f=>?_⟩
 .obtain⟨k,c,rfl⟩:=gb f;rw[jb]at c;rw[uf b a];split
  .exact mem_row b
  .split
   .exact mem_row a
   .exact mem_row c
 .obtain⟨k,c,rfl⟩:=gb f;have e:∀x,x<m8 m->az (fQ m i j) x∈fQ m i j:=λx h=>mem_row (by rw[jb];exact h);by_cases d:k=i
  .subst d;have:=e j a;rw[uf b a,hZ rfl]at this;exact this
  .by_cases g:k=j
   .subst g;have:=e i b;rw[uf b a]at this;by_cases h3:i=k
    .exact absurd h3.symm d
    .rw[k4 h3,hZ rfl]at this;exact this
   .have:=e k c;rw[uf b a,k4 g,k4 d]at this;exact this
theorem UD(h:aU n m){t c:Nat}(b:t<m8 m)(i:aM (az m t) c≠0)(v:Row):Span n (ga t c m) v↔Span n m v:=by
 have d:=mL h (c:=c) b;have f:=bY h b;have q:∀(x:UInt8) (r:Row),m8 r=n->scaleB x r=cN x r (aN n):=λx r a=>gB (n:=n) (by rw[rO,a]) (by rw[cl (by simp[aN,a])];simp[aN]) λj _=>by
  rw[rP,db (by simp[aN,a]),cL,wv]
 refine⟨Span.sub h λr a=>?_,Span.sub d λr a=>?_⟩
 .obtain⟨k,g,rfl⟩:=gb a;rw[kR]at g;rw[Bu b];split
  .rw[q _ _ f];exact .add _ _ _ (mem_row b) .zero
  .exact Span.row h (mem_row g)
 .obtain⟨k,g,rfl⟩:=gb a;have e:∀x,x<m8 m->Span n (ga t c m) (az (ga t c m) x):=λx p=>Span.row d (mem_row (by rw[kR];exact p));by_cases l:t=k
  .subst l;have:=e t b;rw[Bu b,hZ rfl]at this;have o:=this.comb d .zero (aM (az m t) c);have s:cN (aM (az m t) c) (scaleB (Gf.inv (aM (az m t) c)) (az m t)) (aN n)=az m t:=gB (n:=n) (by rw[cl (by simp[aN,rO,f])];simp[aN]) f λj _=>by
    rw[db (by simp[aN,rO,f]),cL,wv,rP,<-Gf.mul_assoc,Gf.AD i,Gf.one_mul]
   rw[s]at o;exact o
  .have:=e k g;rw[Bu b,k4 l]at this;exact this
theorem UE(d:aU n m){t c:Nat}(f:t<m8 m)(v:Row):Span n (bN t c m m.length) v↔Span n m v:=by
 have b:=uQ d (c:=c) (k:=m8 m) f;have s:=bY d f;refine⟨Span.sub d λr h=>?_,Span.sub b λr h=>?_⟩
 .obtain⟨k,a,rfl⟩:=gb h;rw[kS]at a;rw[jm a];split
  .exact .add _ _ _ (mem_row f) (Span.row d (mem_row a))
  .exact Span.row d (mem_row a)
 .obtain⟨k,a,rfl⟩:=gb h;have e:∀x,x<m8 m->Span n (bN t c m m.length) (az (bN t c m m.length) x):=λx p=>Span.row b (mem_row (by rw[kS];exact p));have i:=e t f;rw[jm f,k4 n4]at i;by_cases l:k=t
  .subst l;exact i
  .have o:=e k a;rw[jm a,hZ ⟨a,l⟩]at o;have h3:=i.comb b o (aM (az m k) c);have g:=bY d a;have q:cN (aM (az m k) c) (az m t) (cN (aM (az m k) c) (az m t) (az m k))=az m k:=gB (n:=n) (by rw[cl (by rw[cl nb];omega),cl nb];exact g) g λj _=>by
    rw[db (by rw[cl nb];omega),db nb,AF]
   rw[q]at h3;exact h3
def bW(f g:Nat->UInt8):Nat->UInt8
 |0=>0
 |k+1=>bW f g k^^^Gf.mul (f k) (g k)
theorem go(f g:Nat->UInt8):∀k,(∀i,i<k->f i=0)->bW f g k=0
 |0,_=>rfl
 |k+1,h=>by rw[bW,go f g k λi a=>h i nb,h k nb,Gf.zero_mul];rfl
theorem Et(f g:Nat->UInt8)(x:Nat):∀k,x<k->(∀i,i<k->f i=if x=i then 1 else 0)->bW f g k=g x
 |0,hx,_=>nb
 |k+1,hx,h=>by
  rw[bW];by_cases a:x=k
  .subst a;rw[go f g x λi b=>by rw[h i nb,k4 nb],h x nb,hZ m9,Gf.one_mul,wv]
  .rw[Et f g x k nb λi b=>h i nb,h k nb,k4 a,Gf.zero_mul,z6]
theorem Eu(a b g:Nat->UInt8)(c:UInt8):∀k,bW (λi=>a i^^^Gf.mul c (b i)) g k=bW a g k^^^Gf.mul c (bW b g k)
 |0=>by simp[bW,Gf.mul_zero]
 |k+1=>by
  rw[bW,bW,bW,Eu a b g c k,Gf.jL,Gf.Qh,Gf.mul_assoc]
  ac_rfl
theorem GR(S:Row->Prop)(c:Nat):leads S (c+1)=leads S c+if Af S c then 1 else 0:=by simp only[leads,zC,List.countP_append,vt,List.countP_nil];by_cases h:Af S c<;>simp[h]
theorem UF(b:aU n m):Way n m 0 0 m:=⟨b,m9,nb,λ_=>Iff.rfl,by simp[leads],⟨λ_=>0,λi a=>nb,λi a=>nb,λi a=>nb,λi j _ c=>nb⟩,λk _ _ j c=>nb⟩
theorem XH(hm:aU n m){c b:Nat}{rows:aO}(w:Way n m c b rows)(hc:c<n):Way n m (c+1) (fR (b,rows) c).1 (fR (b,rows) c).2:=by
 obtain⟨H,V,am,U,I,⟨p,O,p2,p3,p4⟩,g⟩:=w;have hS:∀v,Span n rows v↔Span n m v:=U;have T:Span n rows=Span n m:=funext λv=>propext (hS v);unfold fR;dsimp only;cases hb:fB rows b c with
 |none=>
  have R:=Ox hb;dsimp only;have ah:¬Af (Span n m) c:=by
   rw[<-T];rintro⟨v,hv,hz,ab⟩;apply ab;have hφ:=Span.ZL H (λv=>aM v c^^^bW (λi=>aM v (p i)) (λi=>aM (az rows i) c) b) (by
     simp only[cL];rw[go _ _ _ λi _=>rfl];rfl) (λx a t ha ht=>by
     simp only[db (show a.length=m8 t by omega)];rw[Eu,Gf.jL];ac_rfl) (λr hr=>by
     obtain⟨k,F,rfl⟩:=gb hr;by_cases P:k<b
     .rw[Et _ _ k b P λi E=>by rw[p2 i E k F]];exact mM _
     .rw[R k nb F,go _ _ _ λi E=>by rw[p2 i E k F,k4 nb]];rfl) hv
   rw[go _ _ _ λi E=>hz _ (O i E),z6]at hφ;exact hφ
  refine⟨H,V,am,U,by rw[GR,k4 ah,I];rfl,⟨p,λi E=>by have:=O i E;omega,p2,p3,p4⟩,λk D B j d=>?_⟩;rcases q8.1 d with h|rfl
  .exact g k D B j h
  .exact R k D B
 |some at_=>
  have hh:=kQ hb;obtain⟨h1,X,h3⟩:=hh;dsimp only;have o:b<m8 rows:=nb
  obtain⟨f,u⟩:=HF (fQ rows b at_)
  have l1:m8 f=m8 rows:=by rw[u,jb]
  have S:aU n f:=by rw[u];exact ov H o X
  have q1:∀k,az f k=if k=at_ then az rows b else if k=b then az rows at_ else az rows k:=λk=>by rw[u,uf o X]
  have Y:az f b=az rows at_:=by
   rw[q1];by_cases h:b=at_
   .rw[hZ h,h]
   .rw[k4 h,hZ rfl]
  have J:aM (az f b) c≠0:=by rw[Y];exact h3
  obtain⟨s,z⟩:=HF (ga b c f)
  have l2:m8 s=m8 rows:=by rw[z,kR,l1]
  have A:aU n s:=by rw[z];exact mL S nb
  have q2:∀k,az s k=if b=k then scaleB (Gf.inv (aM (az f b) c)) (az f b)else az f k:=λk=>by rw[z,Bu nb]
  have al:∀j,aM (az f b) j=0->aM (az s b) j=0:=λj d=>by rw[q2,hZ m9,rP,d,Gf.mul_zero]
  have l:aM (az s b) c=1:=by rw[q2,hZ m9,rP,Gf.mul_comm,Gf.AD J]
  obtain⟨M,q⟩:=HF (bN b c s rows.length)
  have l3:m8 M=m8 rows:=by rw[q,kS,l2]
  have q3:∀k,k<m8 rows->∀j,aM (az M k) j=if k=b then aM (az s b) j else aM (az f k) j^^^Gf.mul (aM (az f k) c) (aM (az s b) j):=λk F j=>by
   rw[q,jm];by_cases h:k=b
   .rw[k4 nb,hZ h,h]
   .have e:=q2 k;rw[k4 λhh=>h hh.symm]at e;rw[hZ ⟨F,h⟩,k4 h,db (by rw[bY A,bY A]),e]
  have Z:∀j,j<c->aM (az s b) j=0:=λj d=>al j (by rw[Y];exact g at_ h1 X j d);have keep:∀k,k<m8 rows->∀j,j<c->aM (az M k) j=if k=b then 0 else aM (az f k) j:=λk F j d=>by
   rw[q3 k F,Z j d,Gf.mul_zero,z6]
  have L:∀k,k<b->az f k=az rows k:=λk F=>by rw[q1,k4 nb,k4 nb]
  have K:∀k,b<=k->k<m8 rows->∀j,j<c->aM (az f k) j=0:=λk D B j d=>by
   rw[q1];split
   .exact g b (qj _) o j d
   .split
    .exact g at_ h1 X j d
    .exact g k D B j d
  have y:∀v,Span n M v↔Span n m v:=λv=>by
   rw[q,show rows.length=m8 s by omega,UE A nb,z,UD S nb J,u,UC H o X,hS]
  have N:Af (Span n m) c:=⟨az M b,(y _).1 (Span.row (by rw[q];exact uQ A nb) (mem_row)),λj d=>by rw[keep b o j d,hZ rfl],by rw[q3 b o,hZ m9,l];decide⟩
  have W:bN b c (ga b c (fQ rows b at_)) rows.length=M:=by rw[q,z,u]
  rw[W];refine⟨by rw[q];exact uQ A nb,nb,nb,y,by rw[GR,hZ N,I],⟨λi=>if i<b then p i else c,λi E=>?_,λi E k F=>?_,λi E j d=>?_,λi j ad d=>?_⟩,λk D B j d=>?_⟩
  .dsimp only;split
   .have:=O i sz;omega
   .omega
  .dsimp only;by_cases hit:i<b
   .rw[hZ hit,keep k nb _ (O i hit)];by_cases P:k<b
    .rw[k4 nb,L k P];exact p2 i hit k nb
    .rw[k4 (show¬k=i by omega)];split
     .rfl
     .exact K k nb nb _ (O i hit)
   .have Q:i=b:=nb
    subst Q;rw[k4 hit,q3 k nb];by_cases G:k=i
    .rw[hZ G,hZ G];exact l
    .rw[k4 G,k4 G,l,Gf.mul_one];exact mM _
  .dsimp only at d;by_cases hit:i<b
   .rw[hZ hit]at d;have:=O i hit;rw[keep i nb j nb,k4 nb,L i hit];exact p3 i hit j d
   .have Q:i=b:=nb
    subst Q;rw[k4 hit]at d;rw[keep i nb j d,hZ rfl]
  .dsimp only;rw[hZ (show i<b by omega)];split
   .exact p4 i j ad sz
   .exact O i nb
  .rcases q8.1 d with h|rfl
   .rw[keep k nb j h,k4 nb];exact K k nb nb j h
   .rw[q3 k nb,k4 nb,l,Gf.mul_one];exact mM _
theorem Ew(a:aU n m):∀c,c<=n->Way n m c (aY m c).1 (aY m c).2
 |0,_=>UF a
 |c+1,h=>by rw[aY];exact XH a (Ew a c nb) nb
theorem kC:∀c,aY [] c=(0,[])
 |0=>rfl
 |c+1=>by rw[aY,kC c];rfl
theorem oS(a:aU n m):cz m=leads (Span n m) n:=by
 rw[<-(Ew a n (qj _)).cnt,cz];cases m with
 |nil=>rw[kC,kC]
 |cons x t=>rw[eI,be n4];rw[show((x::t)[0]).length=n from a _ n4]
end
section
variable {n:Nat} {m m':aO}
theorem Sg{S a:Row->Prop}(h:∀v,S v->a v)(n:Nat):leads S n<=leads a n:=by refine List.countP_mono_left λj _ b=>?_;simp only[decide_eq_true_eq]at b⊢;obtain⟨v,d,c⟩:=b;exact⟨v,h v d,c⟩
theorem Dc(a:aU n m):cz m<=n:=by rw[oS a];have:=List.countP_le_length (p:=λj=>decide (Af (Span n m) j)) (l:=qy n);simpa[leads]using this
theorem UG(b:aU n m)(a:aU n m')(h:∀r∈m,r∈m'):cz m<=cz m':=by rw[oS b,oS a];exact Sg (λv=>Span.mono h) n
theorem count_one{P Q:Nat->Bool}(l:List Nat)(d:l.Nodup)(h:∀a∈l,P a=eL->Q a=eL)(e:∀a∈l,∀b∈l,Q a=eL->P a=eR->Q b=eL->P b=eR->a=b):l.countP Q<=l.countP P+1:=by
 induction l with
 |nil=>simp
 |cons x t ih=>
  rw[List.nodup_cons]at d;have f:=ih d.2 (λa c=>h a C8) λa c b g=>e a C8 b v8;simp only[vt];cases hQ:Q x with
  |false=>
   have:(if P x=eL then 1 else 0)>=0:=nb
   simp;omega
  |true=>
   cases hP:P x with
   |true=>simp;omega
   |false=>
    have:t.countP Q<=t.countP P:=by
     refine List.countP_mono_left λa c i=>?_;cases hpa:P a with
     |true=>rfl
     |false=>
      have:=e x n4 a C8 hQ hP i hpa;subst this;exact absurd c d.1
    simp;omega
theorem JC(b:aU n m){r:Row}(i:m8 r=n){v:Row}(l:Span n (m++[r]) v):∃(c:UInt8) (u:Row),Span n m u/\v=cN c r u:=by
 have o:aU n (m++[r]):=λx e=>by
  rcases qw.1 e with h|h
  .exact b x h
  .rw[qB.1 h];exact i
 induction l with
 |zero=>exact⟨0,aN n,.zero,(gB (n:=n) (by rw[cl (by simp[aN,i])];simp[aN]) pt λj _=>by rw[db (by simp[aN,i]),cL,Gf.zero_mul];rfl).symm⟩
 |add d x w e hw ih=>
  obtain⟨c,u,g,rfl⟩:=ih;have a:=g.len b;rcases qw.1 e with h|h
  .have k:=b x h;refine⟨c,cN d x u,.add d x u h g,gB (n:=n) (by rw[cl (by rw[cl nb];omega),cl nb];exact a) (by rw[cl (by rw[cl nb];omega),cl nb];exact a) λj _=>?_⟩;rw[db (by rw[cl nb];omega),db nb,db (by rw[cl nb];omega),db nb]
   ac_rfl
  .have f:=qB.1 h;subst f;refine⟨c^^^d,u,g,gB (n:=n) (by rw[cl (by rw[cl nb];omega),cl nb];exact a) (by rw[cl nb];exact a) λj _=>?_⟩;rw[db (by rw[cl nb];omega),db nb,db nb,Gf.Qh]
   ac_rfl
theorem UH(a:aU n m){r:Row}(c:m8 r=n):aU n (m++[r]):=λx b=>by
 rcases qw.1 b with h|h
 .exact a x h
 .rw[qB.1 h];exact c
theorem UI(e:aU n m){r:Row}(D:m8 r=n):cz m<=cz (m++[r])/\cz (m++[r])<=cz m+1:=by
 have o:=UH e D;refine⟨UG e o λx t=>D8,?_⟩;rw[oS e,oS o];refine count_one _ List.nodup_range (λa _ K=>?_) (λa _ b _ E k F q=>?_)
 .simp only[decide_eq_true_eq]at K⊢;obtain⟨v,H,I⟩:=K;exact⟨v,Span.mono (λx t=>D8) H,I⟩
 .simp only[decide_eq_true_eq,decide_eq_false_iff_not]at E k F q;have l:∀a b,Af (Span n (m++[r])) a->¬Af (Span n m) a->Af (Span n (m++[r])) b->¬Af (Span n m) b->¬a<b:=by
   rintro a b ⟨v,N,M,B⟩ k ⟨w,L,g,p⟩ q A;obtain⟨c,u,J,rfl⟩:=JC e D N;obtain⟨d,s,h,rfl⟩:=JC e D L;have l1:=J.len e;have l2:=h.len e;have O:d≠0:=by
    rintro rfl;apply q;refine⟨s,h,λi G=>?_,?_⟩
    .have:=g i G;rw[db nb,Gf.zero_mul,z6]at this;exact this
    .rw[db nb,Gf.zero_mul,z6]at p;exact p
   apply k;refine⟨cN (Gf.mul c (Gf.inv d)) s u,h.comb e J _,?_⟩;have f:∀j,aM (cN (Gf.mul c (Gf.inv d)) s u) j=aM (cN c r u) j^^^Gf.mul (Gf.mul c (Gf.inv d)) (aM (cN d r s) j):=λj=>by
    rw[db nb,db nb,db nb,Gf.jL,<-Gf.mul_assoc (Gf.mul c (Gf.inv d)) d,Gf.mul_assoc c (Gf.inv d) d,Gf.mul_comm (Gf.inv d) d,Gf.AD O,Gf.mul_one];have:∀x y z:UInt8,x^^^y=x^^^z^^^(y^^^z):=λx y z=>by
     have:x^^^z^^^(y^^^z)=x^^^y^^^(z^^^z):=by ac_rfl
     rw[this,mM,z6]
    exact this _ _ _
   refine⟨λi G=>?_,?_⟩
   .rw[f,M i G,g i nb,Gf.mul_zero];rfl
   .rw[f,g a A,Gf.mul_zero,z6];exact B
  have H:=l a b E k F q;have I:=l b a F q E k;omega
theorem mN(m:aO)(h:aU n m):cz m<=m8 m:=by
 have a:∀k,k<=m8 m->cz (m.take k)<=k:=by
  intro k
  induction k with
  |zero=>intro _;simp[cz,eI,az,aY]
  |succ k ih=>
   intro f;have b:aU n (m.take k):=λx c=>h x (zK c);have e:=ih nb;rw[zx nb];have d:=(UI b (h _ (qe (show k<m8 m by omega)))).2;omega
 have:=a m.length (qj _)
 rwa [qh (qj _)]at this
end
def Bv(p:Int×Int×Int)(seed:Int)(a:aC):Nat:=cz (eM p seed a)
def fI(p:Int×Int×Int)(seed:Int)(a:aC):Bool:=bH p&&((Bv p seed a:Int)==bD p)
def fo(p:Int×Int×Int):aC:=upto (max 0 (min p.1 16)).toNat
theorem pP{p:Int×Int×Int}(h:bH p=eL):bD p=p.1+p.2.1:=by rw[bD,hZ h]
theorem oy(p:Int×Int×Int)(seed:Int)(a:aC):aU (bD p).toNat (eM p seed a):=by
 intro r b;unfold eM at b;split at b
 .rename_i c;have:=(bI p).1 c;rcases qw.1 b with h|h
  .obtain⟨x,_,rfl⟩:=qI.1 h;rw[CQ,pP c];omega
  .obtain⟨x,_,rfl⟩:=qI.1 h;exact XD _ _ _
 grind
theorem FM(p:Int×Int×Int)(seed:Int)(a:aC):(eM p seed a).length<=4+m8 a:=by
 unfold eM;split
 .rename_i b;have:=(bI p).1 b;have c:=List.length_filter_le bR a;simp only[qo,bA,qn,zL];omega
 .simp
theorem GS(K H:Nat):aU (K+H) (bA K H):=λr a=>by
 obtain⟨x,_,rfl⟩:=qI.1 a;exact CQ _ _ _
theorem JD(p:Int×Int×Int)(seed:Int)(a:aC)(id:Int):eM p seed (a++[id])=if bH p&&bR id then eM p seed a++[pO (bD p).toNat seed id]else eM p seed a:=by
 unfold eM;cases bH p with
 |false=>rfl
 |true=>
  cases h:bR id with
  |false=>simp[zi,h]
  |true=>simp[zi,h]
def eO(a b:aO):aO:=zj (·++·) a b
def kT(n:Nat)(m:aO):aO:=m.map (yt n)
theorem FN{r:Row}{n j:Nat}(h:j<n):aM (r.take n) j=aM r j:=by simp only[aM,];grind
theorem FO(r:Row)(n j:Nat):aM (r.drop n) j=aM r (n+j):=by simp only[aM,qg,wJ]
theorem tp(n:Nat)(m:aO)(i:Nat):az (kT n m) i=(az m i).take n:=by
 simp only[az,kT,]
 grind
theorem IH(n:Nat)(m:aO):(kT n m).length=m8 m:=by simp[kT]
theorem Sh{n a aV:Nat}(m:aO)(h:aV<n):fB (kT n m) a aV=fB m a aV:=by unfold fB;rw[IH];congr 1;funext i;rw[tp,FN h]
theorem II(n:Nat)(m:aO)(i:Nat)(r:Row):kT n (m.set i r)=(kT n m).set i (r.take n):=by simp[kT,]
theorem XI(n:Nat)(m:aO)(i j:Nat):kT n (fQ m i j)=fQ (kT n m) i j:=by rw[fQ,II,II,fQ,tp,tp]
theorem Dd(n:Nat)(c:UInt8)(r:Row):(scaleB c r).take n=scaleB c (r.take n):=by simp[scaleB,]
theorem IJ(n:Nat)(c:UInt8)(a t:Row):(cN c a t).take n=cN c (a.take n) (t.take n):=by simp[cN,List.take_zipWith]
theorem XJ{n aV:Nat}(h:aV<n)(t:Nat)(m:aO):kT n (ga t aV m)=ga t aV (kT n m):=by rw[ga,II,Dd,ga,tp,FN h]
theorem XK{n aV:Nat}(h:aV<n)(t k:Nat)(m:aO):kT n (bN t aV m k)=bN t aV (kT n m) k:=by
 apply zn;intro i;simp only[kT,bN,qM,List.getElem?_mapIdx];cases m[i]? with
 |none=>rfl
 |some r=>
  simp only[zl];congr 1;have:=tp n m t;rw[kT]at this;rw[this,FN h];split
  .exact IJ _ _ _ _
  .rfl
theorem XL{n aV:Nat}(h:aV<n)(s:Nat×aO):((fR s aV).1,kT n (fR s aV).2)=fR (s.1,kT n s.2) aV:=by
 unfold fR;rw[Sh _ h];cases fB s.2 s.1 aV with
 |none=>rfl
 |some i=>rw[XK h,XJ h,XI,IH]
theorem GU(n:Nat)(m:aO):∀c,c<=n->((aY m c).1,kT n (aY m c).2)=aY (kT n m) c
 |0,_=>rfl
 |c+1,h=>by
  have a:=GU n m c nb;rw[aY,aY,XL (show c<n by omega),a]
theorem lE{a b:aO}(h:m8 a=m8 b:=by omega):(eO a b).length=m8 a:=by simp[eO,h]
theorem Ex{a b:aO}(h:m8 a=m8 b){i:Nat}(c:i<m8 a):az (eO a b) i=az a i++az b i:=by rw[be (by rw[lE h];exact c),be c,be nb];simp[eO]
theorem lQ{n w:Nat}{a b:aO}(h:m8 a=m8 b)(e:aU n a)(d:aU w b):aU (n+w) (eO a b):=λr f=>by
 obtain⟨i,c,rfl⟩:=gb f;rw[lE h]at c;rw[Ex h c,qo,bY e c,bY d]
theorem aaG{n:Nat}{a b:aO}(h:m8 a=m8 b)(e:aU n a):kT n (eO a b)=a:=by
 apply zW (by rw[IH,lE h]);intro i d c;have:=tp n (eO a b) i;rw[be d,Ex h c,List.take_left' (bY e c),be c]at this
 grind
theorem XM{n:Nat}{a:aO}(b:aU n a):(aY a n).1=cz a:=by
 rw[cz];cases a with
 |nil=>rw[kC,kC]
 |cons x t=>rw[eI,be n4];rw[b _ n4]
theorem ug{n:Nat}{a b:aO}(h:m8 a=m8 b)(c:aU n a):(aY (eO a b) n).1=cz a:=by have:=congrArg qC (GU n (eO a b) n (qj _));rw[aaG h c]at this;rw[<-XM c];grind
def De(w:Nat)(r:Row)(X:aO):Nat->Row
 |0=>aN w
 |k+1=>cN (aM r k) (az X k) (De w r X k)
theorem oc{n w:Nat}{X:aO}(a:aU w X)(c:m8 X=n)(r:Row):∀k,k<=n->(De w r X k).length=w
 |0,_=>by simp[De,aN]
 |k+1,h=>by
  have b:=oc a c r k nb;rw[De,cl (by rw[bY a,b])];exact b
theorem kU{n w:Nat}{X:aO}(a:aU w X)(b:m8 X=n)(r:Row)(j:Nat):∀k,k<=n->aM (De w r X k) j=bW (λi=>aM r i) (λi=>aM (az X i) j) k
 |0,_=>by rw[De,cL];rfl
 |k+1,h=>by
  have c:=kU a b r j k nb;rw[De,db (by rw[bY a,oc a b r k nb]),c];rfl
def jr(n w:Nat)(a b X:aO):Prop:=m8 X=n/\aU w X/\∀i,i<m8 a->De w (az a i) X n=az b i
theorem XN{m a:aO}(c:m8 m=m8 a)(h:∀i,i<m8 m->az m i=az a i):m=a:=by
 apply zW c;intro i b d;have:=h i b
 rwa [be b,be d]at this
def uh(n:Nat)(X:aO)(k:Nat)(v:Row):UInt8:=aM v (n+k)^^^bW (λi=>aM v i) (λi=>aM (az X i) k) n
theorem gI{f f' g a:Nat->UInt8}:∀k,(∀i,i<k->f i=f' i)->(∀i,i<k->g i=a i)->bW f g k=bW f' a k
 |0,_,_=>rfl
 |k+1,h1,h2=>by rw[bW,bW,gI k (λi b=>h1 i nb) λi b=>h2 i nb,h1 k nb,h2 k nb]
theorem Qq(n:Nat)(X:aO)(k:Nat)(c:UInt8)(a t:Row)(h:m8 a=m8 t:=by omega):uh n X k (cN c a t)=uh n X k t^^^Gf.mul c (uh n X k a):=by unfold uh;rw[db h];have:bW (λi=>aM (cN c a t) i) (λi=>aM (az X i) k) n=bW (λi=>aM t i^^^Gf.mul c (aM a i)) (λi=>aM (az X i) k) n:=gI n (λi _=>db h i) λ_ _=>rfl;rw[this,Eu,Gf.jL];ac_rfl
theorem Qr{a b:Row}{n:Nat}(c:m8 a=n)(k:Nat):aM (a++b) (n+k)=aM b k:=by
 simp only[aM,]
 grind
theorem Mg{a b:Row}{n j:Nat}(d:m8 a=n)(c:j<n):aM (a++b) j=aM a j:=by
 simp only[aM,]
 grind
theorem oT{a b:UInt8}:a^^^b=0↔a=b:=n4
theorem GV{n w:Nat}{a b X:aO}(h:m8 a=m8 b)(f:aU n a)(p:aU w b)(g:m8 X=n)(l:aU w X):jr n w a b X↔∀k,k<w->∀v,Span (n+w) (eO a b) v->uh n X k v=0:=by
 have e:=lQ h f p;constructor
 .intro x k o v q;refine Span.ZL e (uh n X k) ?_ (λc a t y z=>Qq n X k c a t) (λr u=>?_) q
  .unfold uh;rw[cL,go _ _ n λi _=>cL _ _];rfl
  .obtain⟨i,d,rfl⟩:=gb u;rw[lE h]at d;rw[Ex h d];unfold uh;rw[Qr (bY f d),<-x.2.2 i d,kU l g _ k n (qj _),oT];exact gI n (λj m=>(Mg (bY f d) m).symm) λ_ _=>rfl
 .intro s;refine⟨g,l,λi d=>gB (n:=w) (oc l g _ n (qj _)) (bY p) λk o=>?_⟩;have:=s k o _ (Span.row e (mem_row (show i<(eO a b).length by rw[lE h];exact d)));rw[Ex h d]at this;unfold uh at this;rw[Qr (bY f d),oT]at this;rw[this,kU l g _ k n (qj _)];exact gI n (λj m=>(Mg (bY f d) m).symm) λ_ _=>rfl
theorem acp{n:Nat}{p:Nat->Nat}(d:∀i,i<n->p i<n)(b:∀i j,i<j->j<n->p i<p j):∀i,i<n->p i=i:=by
 have c:∀i,i<n->i<=p i:=by
  intro i
  induction i with
  |zero=>simp
  |succ i ih=>intro a;have:=b i (i+1) nb a;omega
 have up:∀k i,i+k+1=n->p i<=i:=by
  intro k
  induction k with
  |zero=>grind
  |succ k ih=>intro i a;have:=ih (i+1) nb;grind
 intro i a;have:=c i a;have:=up (n-1-i) i nb;omega
def eU(n:Nat)(a b:aO):aO:=(((aY (eO a b) n).2).take n).map (List.drop n)
def jk(n:Nat)(a b:aO):Prop:=∀r∈((aY (eO a b) n).2).drop n,r=aN r.length
section
variable {n w:Nat} {a b:aO}
theorem pQ(h:m8 a=m8 b)(f:aU n a)(i:aU w b)(j:cz a=n):(eU n a b).length=n/\aU w (eU n a b):=by have c:=lQ h f i;have e:=fV c n;have h3:=mN a f;refine⟨by rw[eU,qn,qx,e.2,lE h];omega,λr d=>?_⟩;obtain⟨x,g,rfl⟩:=qI.1 d;rw[qH,e.1 x (zK g)];omega
theorem Qs(h:m8 a=m8 b)(d:aU n a)(e:cz a=n){i:Nat}(c:i<n):az (eU n a b) i=(az (aY (eO a b) n).2 i).drop n:=by
 simp only[az,eU,]
 grind
theorem FP(h:m8 a=m8 b)(f:aU n a)(l:aU w b)(m:cz a=n):
  (∀v,Span (n+w) (aY (eO a b) n).2 v↔Span (n+w) (eO a b) v)/\(aY (eO a b) n).2.length=m8 a/\(∀i,i<n->∀k,k<m8 a->aM (az (aY (eO a b) n).2 k) i=if k=i then 1 else 0):=by
 have c:=lQ h f l;have W:=Ew c n nb;have o:(aY (eO a b) n).1=n:=by rw[ug h f,m]
 obtain⟨p,e,q,j,d⟩:=W.piv;rw[o]at e q j d;have hid:=acp e d;have g:(aY (eO a b) n).2.length=m8 a:=by rw[W.len,lE h]
 refine⟨W.span,g,λi s k r=>?_⟩
 grind
theorem Mh{X:aO}{r:Row}{i k:Nat}(b:i<n)(c:∀j,j<n->aM r j=if i=j then 1 else 0):uh n X k r=aM r (n+k)^^^aM (az X i) k:=by unfold uh;rw[Et _ _ i n b λj a=>c j a]
theorem Qu{X:aO}{r:Row}{k:Nat}(a:∀j,j<n->aM r j=0):uh n X k r=aM r (n+k):=by unfold uh;rw[go _ _ n a,z6]
theorem sN(h:m8 a=m8 b)(l:aU n a)(o:aU w b)(q:cz a=n){X:aO}(f:jr n w a b X):X=eU n a b/\jk n a b:=by
 have t:=lQ h l o;have s:=fV t n;obtain⟨m,D,A⟩:=FP h l o q;have y:=mN a l;have v:=(GV h l o f.1 f.2.1).1 f;obtain⟨x,s2⟩:=pQ h l o q;constructor
 .refine XN (by rw[f.1,x]) λi d=>gB (n:=w) (bY f.2.1 d) (bY s2 (by rw[x];rw[f.1]at d;exact d)) λk B=>?_;rw[f.1]at d;have h3:=v k B _ ((m _).1 (Span.row s.1 (mem_row (show i<(aY (eO a b) n).2.length by omega))));rw[Mh d λj u=>A j u i nb]at h3;rw[Qs h l q d,FO];exact(oT.1 h3).symm
 .intro r p;obtain⟨i,d,rfl⟩:=qD p;rw[qH]at d;rw[zM];have g:n+i<(aY (eO a b) n).2.length:=nb
  have e:=be g;have c:=bY s.1 g;rw[<-e,c];refine gB (n:=n+w) c pt λj u=>?_;rw[cL];by_cases z:j<n
  .grind
  .obtain⟨k,rfl⟩:∃k,j=n+k:=⟨j-n,nb⟩
   have h3:=v k nb _ ((m _).1 (Span.row s.1 (mem_row g)))
   rwa [Qu λj u=>n8]at h3
theorem sO(h:m8 a=m8 b)(e:aU n a)(g:aU w b)(o:cz a=n)(B:jk n a b):jr n w a b (eU n a b):=by
 have p:=lQ h e g;have u:=fV p n;obtain⟨m,E,s⟩:=FP h e g o;have z:=mN a e;obtain⟨A,s2⟩:=pQ h e g o;refine(GV h e g A s2).2 λk F v y=>?_;refine Span.ZL u.1 (uh n (eU n a b) k) ?_ (λc x t G u=>Qq n _ k c x t) (λr l=>?_) ((m v).2 y)
 .unfold uh;rw[cL,go _ _ n λi _=>cL _ _];rfl
 .obtain⟨i,D,rfl⟩:=gb l;by_cases f:i<n
  .rw[Mh f λj q=>s j q i nb,Qs h e o f,FO];exact mM _
  .rw[Qu λj q=>by rw[s j q i nb,k4 nb]];have:az (aY (eO a b) n).2 i∈(aY (eO a b) n).2.drop n:=by
    rw[be D];obtain⟨d,rfl⟩:∃d,i=n+d:=⟨i-n,nb⟩
    rw[<-zM (h:=by rw[qH];omega)];exact qe _
   rw[B _ this,cL]
end
def Mi(l:aC):Prop:=∀a b,a<m8 l->b<m8 l->fd l a=fd l b->a=b
theorem Ey{l:aC}{i:Nat}(h:i<m8 l):fd l i=l[i]:=by rw[fd,qg,qc h];rfl
theorem XO{l:aC}{i j k:Nat}(b:i<m8 l)(a:j<m8 l):fd (ji l i j) k=if k=j then fd l i else if k=i then fd l j else fd l k:=by
 simp only[fd,ji,]
 grind
theorem swap_inj{l:aC}{i j:Nat}(n:i<m8 l)(m:j<m8 l)(h:Mi l):Mi (ji l i j):=by
 intro a b o g f;rw[pK]at o g;have c:∀k,k<m8 l->∃σ,σ<m8 l/\fd (ji l i j) k=fd l σ/\(σ=if k=j then i else if k=i then j else k):=λk p=>by
  rw[XO n m];by_cases d:k=j
  .rw[hZ d,hZ d];exact⟨i,n,m9,m9⟩
  .rw[k4 d,k4 d];by_cases e:k=i
   .rw[hZ e,hZ e];exact⟨j,m,m9,m9⟩
   .rw[k4 e,k4 e];exact⟨k,p,m9,m9⟩
 obtain⟨s,r,u,w⟩:=c a o;obtain⟨t,q,e2,v⟩:=c b g;rw[u,e2]at f;have:=h s t r q f
 grind
theorem UJ{l:aC}(h:Mi l):l.Nodup:=by rw[List.nodup_iff_pairwise_ne,zb];intro i j b a d c;have:=h i j b a (by rw[Ey b,Ey a];exact c);omega
theorem XP(n:Nat):Mi (upto n):=by intro a b e d c;rw[fE]at e d;rw[Ey (by rw[fE];exact e),Ey (by rw[fE];exact d)]at c;simp[upto]at c;omega
theorem Mj(n:Nat)(s:Int):∀k,k<=n->n<=64->Mi (dZ n s (upto n) k).2
 |0,_,_=>XP n
 |k+1,hk,hn=>by
  have a:=pL n s (upto n) k;rw[fE]at a;have:=oa (dZ n s (upto n) k).1 ((n-k:Nat));exact swap_inj nb nb (Mj n s k nb hn)
theorem Si(s:Int)(n k:Nat)(b:k<=n)(a:n<=64):(Bl s n k).Nodup:=by have h:=(UJ (Mj n s k b a)).sublist (List.take_sublist k _);exact(wb _ _).nodup_iff.2 h
theorem GW{n:Nat}(b:1<=n)(a:n<=20)(seed id:Int):(eG n seed id).Nodup:=Si _ _ _ (pM _ n b a) nb
theorem Oy(n:Nat)(seed id:Int):(eG n seed id).Pairwise (·<=·):=by have:=wD (le:=λx y:Int=>decide (x<=y)) n8 n8 ((dZ n (tW (tW (CO seed id))) (upto n) (Bp (tW (CO seed id)) n)).2.take (Bp (tW (CO seed id)) n));exact this.imp n4
theorem Qv{r:Row}{i j:Nat}{x:UInt8}(a:i<m8 r):aM (r.set i x) j=if j=i then x else aM r j:=by
 simp only[aM,]
 grind
theorem UK(n:Nat)(l:aC)(c:Int):ia n (l++[c])=(ia n l).set c.toNat 1:=by rw[ia,wB];rfl
theorem FQ{n:Nat}:∀(l:aC) (_:∀x∈l,0<=x/\x<(n:Int)) (j:Nat),aM (ia n l) j=if(j:Int)∈l then 1 else 0:=by
 intro l;have b:∀k,k<=m8 l->(∀x∈l,0<=x/\x<(n))->∀j:Nat,aM (ia n (l.take k)) j=if(j:Int)∈l.take k then 1 else 0:=by
  intro k
  induction k with
  |zero=>intro _ _ j;exact cL n j
  |succ k ih=>
   intro d a j;have c:=a _ (qe (show k<m8 l by omega));rw[zx nb,UK,Qv (by rw[pN];omega),]
   grind
 intro a j;have:=b l.length (qj _) a j
 grind
theorem Mk{f f' g:Nat->UInt8}{c:Nat}(a:f c=0)(b:∀i,f' i=if i=c then 1 else f i):∀k,bW f' g k=bW f g k^^^if c<k then g c else 0
 |0=>by simp[bW]
 |k+1=>by
  rw[bW,bW,Mk a b k,b k];by_cases d:k=c
  .subst d;rw[hZ m9,k4 nb,hZ nb,Gf.one_mul,a,Gf.zero_mul]
  grind
def jT(w:Nat)(X:aO)(l:aC):Row:=l.foldl (λs c=>cN 1 (az X c.toNat) s) (aN w)
theorem Bw(w:Nat)(X:aO)(l:aC)(c:Int):jT w X (l++[c])=cN 1 (az X c.toNat) (jT w X l):=by rw[jT,wB];rfl
theorem oU{n w:Nat}{X:aO}(b:aU w X)(c:m8 X=n){l:aC}(a:∀x∈l,0<=x/\x<(n:Int)):∀k,k<=m8 l->(jT w X (l.take k)).length=w:=by
 intro k
 induction k with
 |zero=>intro _;simp[jT,aN]
 |succ k ih=>
  intro e;have d:=a _ (qe (show k<m8 l by omega));rw[zx nb,Bw,cl (by rw[bY b,ih nb])];exact ih nb
theorem Qx{n w:Nat}{X:aO}(c:aU w X)(b:m8 X=n){l:aC}(a:∀x∈l,0<=x/\x<(n:Int)):(jT w X l).length=w:=by
 have:=oU c b a l.length (qj _)
 rwa [qh (qj _)]at this
def nG(K H w:Nat)(d:Row):aO:=qf H (aN w)++(qy K).map (Qm d w)
def kg(p:Int×Int×Int)(seed:Int)(d:Row):aO:=eU (bD p).toNat (eM p seed (fo p)) (nG p.1.toNat p.2.1.toNat p.2.2.toNat d)
structure gw (p:Int×Int×Int) (seed:Int) (d:Row) (K H w n:Nat):Prop where
 may:bH p=eL
 full:fI p seed (fo p)=eL
 k:p.1=K
 h:p.2.1=H
 s:p.2.2=w
 n:n=K+H
 k1:1<=K
 k2:K<=16
 h1:1<=H
 h2:H<=4
 w1:1<=w
 w2:w<=24
 len:m8 d=K*w
theorem ZM{p:Int×Int×Int}{seed:Int}{d:Row}(a:bH p=eL)(b:fI p seed (fo p)=eL)(c:(m8 d:Int)=p.1*p.2.2):∃K H w n,gw p seed d K H w n:=by
 have:=(bI p).1 a;refine⟨p.1.toNat,p.2.1.toNat,p.2.2.toNat,p.1.toNat+p.2.1.toNat,a,b,nb,nb,nb,m9,nb,nb,nb,nb,nb,nb,?_⟩
 grind
section
variable {p:Int×Int×Int} {seed:Int} {d:Row} {K H w n:Nat}
theorem gw.df(B:gw p seed d K H w n):bD p=n:=by rw[pP B.may,B.k,B.h,B.n];rfl
theorem gw.sP(B:gw p seed d K H w n):(bD p).toNat=n:=by rw[B.df];rfl
theorem Sj(a:p.1=(K:Int))(h:K<=16):fo p=upto K:=by rw[fo];grind
theorem Oz(h:K<=16):(upto K).filter bR=upto K:=by rw[List.filter_eq_self];intro x a;simp[upto]at a;simp[bR];omega
theorem gw.Jy(B:gw p seed d K H w n):eM p seed (fo p)=bA K H++(qy K).map λi:Nat=>pO n seed (i:Int):=by rw[eM,hZ B.may,Sj B.k B.k2,Oz B.k2,B.k,B.h,B.sP,upto,List.map_map];rfl
theorem gw.Ml(B:gw p seed d K H w n):(eM p seed (fo p)).length=n:=by rw[B.Jy,qo,qn,zL,bA,qn,zL,B.n];omega
theorem gw.IK(B:gw p seed d K H w n):aU n (eM p seed (fo p)):=by
 have:=oy p seed (fo p)
 rwa [B.sP]at this
theorem gw.IL(B:gw p seed d K H w n):cz (eM p seed (fo p))=n:=by
 have h:=B.full;rw[fI,B.df,Bv]at h
 grind
theorem uS(K H w:Nat)(d:Row):(nG K H w d).length=K+H:=by simp[nG];omega
theorem Bx(b:m8 d=K*w):aU w (nG K H w d):=λr c=>by
 rcases qw.1 c with h|h
 .rw[(List.mem_replicate.1 h).2];simp[aN]
 .obtain⟨i,a,rfl⟩:=qI.1 h;rw[qY]at a;exact Qn (by rw[b];exact zk w a)
theorem gw.Cj(B:gw p seed d K H w n):kg p seed d=eU n (eM p seed (fo p)) (nG K H w d):=by rw[kg,B.sP,B.k,B.h,B.s];rfl
theorem gw.lens(B:gw p seed d K H w n):(eM p seed (fo p)).length=(nG K H w d).length:=by rw[B.Ml,uS,B.n]
theorem gw.AG(B:gw p seed d K H w n):(kg p seed d).length=n/\aU w (kg p seed d):=by rw[B.Cj];exact pQ B.lens B.IK (Bx B.len) B.IL
end
end
theorem OA{α:Type}{c k:Nat}{f:α->aR}:∀{rs:List Sl} {ll:List (List α)} (a:List Sl) (b:List (List α)),m8 rs=m8 ll->bt c k f (rs++a) (ll++b)=bt c k f rs ll++bt c k f a b:=by
 unfold bt
 grind
theorem aa.XQ{B:ar}{a h:hY}{X:HP}:∀{L M:List HP},aa B a h (L++X::M)->aa B a h (L++M):=λ{L M} H=>by
 have:=H.del L.length
 grind
variable {s2:Sl}
section
variable {C:Ctx} {B:ar} {e:Nat} {l2:List (List α)}
theorem aa.Qy(w:C.Ok)(H:aa B h0 h (lh e s e2 k f ll::lh e s2 e2 k f l2::As))(q:bO C.toAA t e 1 [.slice eH 0 0] 24)(x:∃i e2,C.T.get t2=dB i/\i.co=.slice e2)(A:m8 ll+m8 l2<=2^32){ty:Nat}{K:Sl->hY->Prop}
  (v:∀d h',aa B h0 h' (lh e d e2 k f (ll++l2)::As)->K d h'):
  bC C.P (q6 #[t,t2] ty #[.slice s.ptr s.len s.cap,.slice s2.ptr s2.len s2.cap]) (.one (.sc .slc)) h K:=by
 obtain⟨rs,o,n⟩:=H.Bt;obtain⟨c,g⟩:=HF (bt e2 k f rs ll)
 rw[<-g]at n;have r:aa B h0 h (lh e s2 e2 k f l2::(As++(ai e s 1 bv rs::c))):=n.front;obtain⟨a,p,z⟩:=r.Bt;obtain⟨L2,y⟩:=HF (bt e2 k f a l2)
 have l:=z.front;rw[ql]at l;have E:=l.front;have m:aa B h0 h (ai e s 1 bv rs::(c++(ai e s2 1 bv a::(L2++As)))):=n8
 have u:Seq h (λb=>b<h.size) s2 1 bv a:=m.seq (m8 c+1) (by rw[qO,qk (qj _),zd];rfl) λ_=>rfl;refine m.append w 0 m9 q x m9 nq (λ_=>rfl) u jQ nb λd h' j=>v d h' ?_;have j:aa B h0 h' ((ai e d 1 bv (rs++a)::c)++(ai e s2 1 bv a::(L2++As))):=j;have D:=aa.XQ j;refine aa.CZ (rs:=rs++a) n8 ?_;rw[OA a l2 o,]
 grind
end
abbrev ib:=FloatKind.format .f64
theorem Df{P:Program}{a b c:Nat}(h:ib.add a b=dB c):aL P (Op.Complex.arith .add .f64 a b) c:=λw=>by
 have h':(FloatKind.format .f64).add a b=dB c:=h;unfold Op.Complex.arith Op.floatArith;simp only[h'];rfl
theorem Dg{P:Program}{a b c:Nat}(h:ib.sub a b=dB c):aL P (Op.Complex.arith .sub .f64 a b) c:=λw=>by
 have h':(FloatKind.format .f64).sub a b=dB c:=h;unfold Op.Complex.arith Op.floatArith;simp only[h'];rfl
theorem uT{P:Program}{a b c:Nat}(h:ib.mul a b=dB c):aL P (Op.Complex.arith .mul .f64 a b) c:=λw=>by
 have h':(FloatKind.format .f64).mul a b=dB c:=h;unfold Op.Complex.arith Op.floatArith;simp only[h'];rfl
theorem EW{P:Program}{op:BinOp}(h:op=.add∨op=.sub∨op=.mul)(t:TypeId)(x y:Operand)(a b:eX):aL P (eqGuard op t x y a b) ():=λw=>by
 rcases h with rfl|rfl|rfl<;>rfl
theorem aaH{P:Program}{t:TypeId}{x y:Operand}{a b c d e f:Nat}(h:ib.add a c=dB e)(g:ib.add b d=dB f):iN P .add t x y (.complex .f64 a b) (.complex .f64 c d) (.complex .f64 e f):=
 (EW (.inl m9) t x y _ _).bind (show aL P (Op.complexOp .add .f64 a b c d) _ from(Df h).bind ((Df g).bind λ_=>rfl))
theorem aaI{P:Program}{t:TypeId}{x y:Operand}{a b c d e f:Nat}(h:ib.sub a c=dB e)(g:ib.sub b d=dB f):iN P .sub t x y (.complex .f64 a b) (.complex .f64 c d) (.complex .f64 e f):=
 (EW (.inr (.inl m9)) t x y _ _).bind (show aL P (Op.complexOp .sub .f64 a b c d) _ from(Dg h).bind ((Dg g).bind λ_=>rfl))
theorem aaJ{P:Program}{t:TypeId}{x y:Operand}{a b c d e f i m2 g h:Nat}(m:ib.mul a c=dB i)(n:ib.mul b d=dB m2)(h3:ib.sub i m2=dB e)(p:ib.mul a d=dB g)(k:ib.mul b c=dB h)(o:ib.add g h=dB f):
  iN P .mul t x y (.complex .f64 a b) (.complex .f64 c d) (.complex .f64 e f):=by
 have l:aL P (Op.Complex.product a b c d) (e,f):=
  (uT m).bind ((uT n).bind ((Dg h3).bind ((uT p).bind ((uT k).bind ((Df o).bind λ_=>rfl)))))
 have j:∀x,aL P (Op.Complex.conv .f64 x .f64) x:=λx w=>rfl;refine aL.bind (v:=(e,f)) ?_ ?_
 .exact l
 .exact(j e).bind ((j f).bind λ_=>rfl)
section
open Go.Sort
theorem aaK{w a:World}(g:dm w a)(j:aQ (λb=>b<w.heap.size) w.heap a.heap):∃q c,a=Sort.grow (w.drewN q) c:=by
 refine⟨a.drawn-w.drawn,a.heap.extract w.heap.size a.heap.size,?_⟩;have m:w.heap++a.heap.extract w.heap.size a.heap.size=a.heap:=by
  apply yW;intro i;by_cases d:i<w.heap.size
  .rw[Array.getElem?_append_left d,j.2 i d d]
  grind
 obtain⟨f,k,h,c,e⟩:=a;obtain⟨l,e2,n,o⟩:=g;simp only[Sort.grow,World.drewN,World.mk.injEq]
 grind
theorem JE{α:Type}[Inhabited α]{enc:α->aR}{k:Nat}(c:∀x,(enc x).length=k)(l:List α):flatK enc k l.toArray=(l.flatMap enc).toArray:=by
 refine ext_get! (by simp[dz c]) λt d=>?_;have a:t<m8 l*k:=B5
 have b:0<k:=n8
 rw[get_flatK _ _ _ t n8];have f:t/k<m8 l:=(Nat.div_lt_iff_lt_mul b).2 a;obtain⟨pre,post,h,e2⟩:=FA c l (t/k) l[t/k] (qc f);have g:t%k<k:=vk _ b;have e:t=t/k*k+t%k:=by rw[Nat.mul_comm];exact(Nat.div_add_mod t k).symm
 grind
theorem Sk{α:Type}[Inhabited α]{enc:α->aR}{k:Nat}(d:∀x,(enc x).length=k){w:World}{e:TypeId}{b:Nat}{rest:aR}{l:List α}(c:w.heap[b]?=dB (.cells (l.flatMap enc++rest).toArray e (0,0))):HoldsK enc k w b 0 l.toArray:=by
 intro j a;rw[JE d]at a⊢;refine⟨?_,by simp[World.frozen?,c]⟩;simp only[World.cell?,]
 grind
theorem UL{α:Type}[Inhabited α]{enc:α->aR}{k:Nat}(b:∀x,(enc x).length=k)(l a:List α)(rest:aR)(d:m8 a=m8 l):putCells id 0 (flatK enc k a.toArray) (l.flatMap enc++rest).toArray=(a.flatMap enc++rest).toArray:=by
 rw[JE b];have e:=dz b l;have c:=dz b a;rw[d]at c;apply yW;intro i;simp only[putCells,Array.getElem?_mapIdx,zN,yK,w9,Nat.zero_le,true_and,Nat.sub_zero];by_cases f:i<m8 l*k
 .rw[qu nb,qu nb,qc nb,qc nb,zl,hZ nb];rw[getElem!_pos _ i (by rw[yK];omega)];simp
 .rw[qk nb,qk nb,e,c];cases rest[i-m8 l*k]? with
  |none=>rfl
  |some x=>rw[zl,k4 nb]
theorem KC{α:Type}[Inhabited α]{P:Program}{id_ g:FuncId}{enc:α->aR}{k:Nat}{cf:α->α->Int}(B:∀x,(enc x).length=k)
  (J:∀(c cap:Nat) (l:List α) (w:World),CmpLays P g #[] enc k cf c 0 l.length w->HoldsK enc k w c 0 l.toArray->c<w.heap.size->m8 l<4611686018427387904->
   Calls P id_ #[.slice (dB ⟨c,0,eH⟩) l.length cap,.func (.func g) #[] #[]] w λe q=>e=.returned (.tuple #[])/\∃n os,q=sortWorldK enc k w c 0 n (l.mergeSort λx y=>!(ltOf cf) y x).toArray os)
  (H:∀(p:bx) (cap:Nat) (w:World),Calls P id_ #[.slice p 0 cap,.func (.func g) #[] #[]] w λe q=>e=.returned (.tuple #[])/\q=w)
  (I:∀x y h,aj P g #[.agg (enc x).toArray,.agg (enc y).toArray] h λv h'=>v=xJ xP (cf x y)/\aQ (λb=>b<h.size) h h')
  {e:TypeId} {s:Sl} {l:List α} {h:hY} (E:Own h e s k enc l) (L:m8 l<2^40):
  aj P id_ #[.slice s.ptr s.len s.cap,.func (.func g) #[] #[]] h λv h'=>v=.tuple #[]/\Own h' e s k enc (l.mergeSort λx y=>!(ltOf cf) y x)/\aQ (λb=>¬s.on b) h h':=by
 intro w o;have a:=E.len;rcases E.head with⟨h1,h2,h3⟩|⟨b,rest,h1,h2,h3,h4⟩
 .subst h3;rw[a,h1];refine(H eH s.cap w).mono ?_;rintro D q ⟨rfl,rfl⟩;have G:(([]:List α).mergeSort λx y=>!(ltOf cf) y x)=[]:=n4
  exact⟨_,m9,dm.refl _,m9,by rw[G];exact⟨a,.inl ⟨h1,h2,m9⟩⟩,by rw[<-o];exact aQ.refl _ _⟩
 .rw[h1,a];have u:w.heap[b]?=dB (.cells (l.flatMap enc++rest).toArray e (0,0)):=by rw[o];exact h2
  have i:CmpLays P g #[] enc k cf b 0 l.length w:=λm os K _ x y=>by
   have:=I x y _ (sortWorldK enc k w b 0 m K os) m9;refine(show Calls P g (#[Value.agg (enc x).toArray,.agg (enc y).toArray]++#[]) _ _ from ?_);rw[Array.append_empty];refine this.mono ?_;rintro D q ⟨v,rfl,F,rfl,z⟩;exact⟨m9,aaK F z⟩
  refine(J b s.cap l w i (Sk B u) (lt_of_block u) nb).mono ?_;rintro D q ⟨rfl,n,os,rfl⟩;have t:=lt_of_block u;have r:(l.mergeSort λx y=>!(ltOf cf) y x).length=m8 l:=wP l;have f:∀j,j<h.size->(sortWorldK enc k w b 0 n (l.mergeSort λx y=>!(ltOf cf) y x).toArray os).heap[j]?=if b=j then dB (.cells ((l.mergeSort λx y=>!(ltOf cf) y x).flatMap enc++rest).toArray e (0,0))else h[j]?:=by
   intro j A;unfold sortWorldK;rw[Sort.heap_grow_old _ _ (by simpa[putRowK,Sort.putRow,Sort.mapBlock,Sort.ahead,o]using A)];simp only[putRowK,Sort.putRow,Sort.mapBlock,Sort.ahead,yh];by_cases d:b=j
   .subst d;rw[hZ m9,hZ m9,u,zl,Sort.onCells,UL B _ _ _ r]
   .rw[k4 d,k4 d,o]
  rw[o]at t;refine⟨_,m9,⟨m9,m9,m9,Nat.le_add_right _ _⟩,m9,⟨by rw[r];exact a,.inr ⟨b,rest,h1,?_,h3,h4⟩⟩,?_,?_⟩
  .rw[f b t,hZ rfl]
  .simp[sortWorldK,putRowK,Sort.grow,Sort.putRow,Sort.mapBlock,Sort.ahead,o]
  .intro j A z;rw[f j A,k4 λd=>z ⟨0,by rw[h1,d]⟩]
end
def de(n:Int):Nat:=
 if n=0 then 0 else
  let m:=n.natAbs;let e:=m.log2
  (if n<0 then 2^63 else 0)+(1023+e)*2^52+(m-2^e)*2^(52-e)
structure Ck where
 ax:Nat
 ay:Nat
 sx:Nat
 sy:Nat
 left:Int
 leg:Int
 second:Bool
def oV:Nat:=4607182418800017408
def fs0:Ck:=⟨0,0,oV,0,1,1,eR⟩
def od(a b:Nat):Nat:=(ib.add a b).getD 0
def aer(a b:Nat):Nat:=(ib.sub a b).getD 0
def su(a b:Nat):Nat:=(ib.mul a b).getD 0
def tx(a b:Nat):Nat:=aer (su a 0) (su b oV)
def ty(a b:Nat):Nat:=od (su a oV) (su b 0)
def Ck.on(s:Ck):Ck:=
 if s.left-1>0 then{s with ax:=od s.ax s.sx,ay:=od s.ay s.sy,left:=s.left-1}
 else{ax:=od s.ax s.sx,ay:=od s.ay s.sy,sx:=tx s.sx s.sy,sy:=ty s.sx s.sy,leg:=if s.second then s.leg+1 else s.leg,left:=if s.second then s.leg+1 else s.leg,second:=!s.second}
def jG:Nat->Ck
 |0=>fs0
 |n+1=>(jG n).on
def Ck.ok(s:Ck):Bool:=
 (ib.add s.ax s.sx).isSome&&(ib.add s.ay s.sy).isSome&&(ib.mul s.sx 0).isSome&&(ib.mul s.sy oV).isSome&&(ib.sub (su s.sx 0) (su s.sy oV)).isSome&&(ib.mul s.sx oV).isSome&&(ib.mul s.sy 0).isSome&&(ib.add (su s.sx oV) (su s.sy 0)).isSome&&decide (1<=s.left)&&decide (s.left<=100)&&decide (1<=s.leg)&&decide (s.leg<=100)
structure uU where
 x:Int
 y:Int
 dx:Int
 dy:Int
 left:Int
 leg:Int
 turns:Int
def aes:uU:=⟨0,0,1,0,1,1,0⟩
def uU.on(s:uU):uU:=
 if s.left-1=0 then
  {x:=s.x+s.dx,y:=s.y+s.dy,dx:=-s.dy,dy:=s.dx,leg:=if(s.turns+1)%2=0 then s.leg+1 else s.leg,left:=if(s.turns+1)%2=0 then s.leg+1 else s.leg,turns:=s.turns+1}
 else{s with x:=s.x+s.dx,y:=s.y+s.dy,left:=s.left-1}
def bz:Nat->uU
 |0=>aes
 |n+1=>(bz n).on
def uU.ok(s:uU):Bool:=decide (-10<=s.x)&&decide (s.x<=10)&&decide (-10<=s.y)&&decide (s.y<=10)&&decide (-1<=s.dx)&&decide (s.dx<=1)&&decide (-1<=s.dy)&&decide (s.dy<=1)&&decide (1<=s.left)&&decide (s.left<=100)&&decide (1<=s.leg)&&decide (s.leg<=100)&&decide (0<=s.turns)&&decide (s.turns<=100)
theorem adT:∀n,n<64->(jG n).ok=eL:=oi
theorem acq:∀n,n<64->(bz n).ok=eL:=oi
theorem acr:∀n,n<64->((jG n).ax==de (bz n).x&&(jG n).ay==de (bz n).y&&decide (-4<=(bz n).x)&&decide ((bz n).x<=4)&&decide (-4<=(bz n).y)&&decide ((bz n).y<=4))=eL:=oi
theorem acs:∀i,i<9->∀j,j<9->ib.sub (de ((i:Nat)-4:Int)) (de ((j:Nat)-4:Int))=dB (de ((i:Int)-(j:Int))):=oi
theorem act:∀i,i<17->ib.mul (de ((i:Nat)-8:Int)) (de ((i:Nat)-8:Int))=dB (de (((i:Nat)-8:Int)*((i:Nat)-8:Int))):=oi
theorem acu:∀i,i<9->∀j,j<9->ib.add (de (((i:Nat):Int)*(i:Nat))) (de (((j:Nat):Int)*(j:Nat)))=dB (de (((i:Nat):Int)*(i:Nat)+((j:Nat):Int)*(j:Nat))):=oi
theorem UM:∀m,m<129->∀n,n<129->ib.order (de (m:Nat)) (de (n:Nat))=dB (compare m n):=oi
theorem JF{α:Type}{R:α->α->Prop}(n:∀a b c,R a b->R b c->R a c){l:List α}(h:∀i (m:i+1<m8 l),R (l[i]'nb) l[i+1]):l.Pairwise R:=by
 have f:∀d i (g:i+(d+1)<m8 l),R (l[i]'nb) l[i+(d+1)]:=by
  intro d
  induction d with
  |zero=>omega
  |succ d ih=>grind
 refine zb.2 λi j m g k=>?_;have:=f (j-i-1) i nb;have e:i+(j-i-1+1)=j:=nb
 grind
theorem JG{α:Type}{R:α->α->Prop}{l:List α}(h:l.Pairwise R)(i:Nat)(a:i+1<m8 l):R (l[i]'nb) l[i+1]:=zb.1 h i (i+1) nb a nb
theorem rQ{α:Type}{l:List α}{i:Nat}(d:α)(h:i<m8 l:=by omega):l.getD i d=l[i]:=n8
theorem oz(n a b:Int):dQ n a b=eL↔a<=n/\n<=b:=by unfold dQ;simp
theorem UN(l:aC)(e:Int):oM l e=eL↔l.Pairwise (·<·)/\∀x∈l,0<=x/\x<=e:=by
 unfold oM;rw[qQ];constructor
 .intro h;have k:∀i (d:i<m8 l),(0<=l[i]/\l[i]<=e)/\(i=0∨l.getD (i-1) 0<l[i]):=λi d=>by
   have:=h i (qY.2 d);unfold fU at this;rw[qz,oz,]at this
   grind
  refine⟨JF (R:=λa b:Int=>a<b) (λa b c g f=>Int.lt_trans g f) λi d=>?_,λx j=>?_⟩
  .grind
  .obtain⟨i,d,rfl⟩:=qD j;exact(k i d).1
 .rintro⟨g,f⟩ i d;have d:=qY.1 d;unfold fU;rw[rQ 0 d,qz,oz,yx,decide_eq_true_eq,decide_eq_true_eq];refine⟨f _ (qe d),?_⟩;cases i with
  |zero=>simp
  |succ i=>exact .inr (by rw[rQ 0];exact JG g i d)
theorem oW(a b c:ByteArray)(e:cW a b=eL)(d:cW b c=eL):cW a c=eL:=Es _ _ _ e d
theorem cM(m:aB):bF m=eL↔kz m=eL/\m.drives.Pairwise (·<·)/\(∀k∈m.drives,0<=k/\k<=63)/\m.objs.length<=12/\(∀e∈m.objs,gC m e=eL)/\m.objs.Pairwise (λa b=>cW a.name b.name=eL)/\m.objs.Pairwise (λa b=>a.object≠b.object):=by
 unfold bF;rw[qz,qz,qz,UN,decide_eq_true_eq,qQ];have q:(∀i∈qy m.objs.length,ky m i=eL)↔(∀e∈m.objs,gC m e=eL)/\m.objs.Pairwise (λa b=>cW a.name b.name=eL)/\m.objs.Pairwise (λa b=>a.object≠b.object):=by
  constructor
  .intro h;have o:∀i (l:i<m.objs.length),gC m m.objs[i]=eL/\(i=0∨cW (jw m.objs (i-1)).name m.objs[i].name=eL)/\∀y∈m.objs.take i,y.object≠m.objs[i].object:=λi l=>by
    have:=h i (qY.2 l);unfold ky at this;rw[lP l,qz,qz,yx,decide_eq_true_eq,w8,wh]at this;exact⟨this.1,this.2.1,λy r=>by have:=this.2.2 y r;simpa using this⟩
   refine⟨λe t=>?_,JF (R:=λa b:cZ=>cW a.name b.name=eL) (λa b c n p=>oW _ _ _ n p) λi l=>?_,zb.2 λi j l s u=>?_⟩
   .obtain⟨i,l,rfl⟩:=qD t;exact(o i l).1
   .rcases(o (i+1) l).2.1 with h0|h0
    .omega
    .rw[Nat.add_sub_cancel,lP]at h0;exact h0
   .refine(o j s).2.2 m.objs[i] ?_;exact zV.2 ⟨i,nb,m9⟩
  .rintro⟨n,p,h3⟩ i l;have l:=qY.1 l;unfold ky;rw[lP l,qz,qz,yx,decide_eq_true_eq,w8,wh];refine⟨n _ (qe l),?_,λy r=>?_⟩
   .cases i with
    |zero=>exact .inl m9
    |succ i=>exact .inr (by rw[Nat.add_sub_cancel,lP];exact JG p i l)
   .obtain⟨j,s,rfl⟩:=zV.1 r;have:=zb.1 h3 j i nb l nb;simpa using this
 rw[q];constructor
 .rintro⟨a,⟨b,c⟩,d,e,f,g⟩;exact⟨a,b,c,d,e,f,g⟩
 .rintro⟨a,b,c,d,e,f,g⟩;exact⟨a,⟨b,c⟩,d,e,f,g⟩
theorem iC(m:aB):kz m=eL↔(1<=m.seq/\m.seq<=2147483647)/\(0<=m.next/\m.next<=16777216)/\bH m.p=eL/\0<=m.extra/\m.extra<=16:=by unfold kz;rw[qz,qz,qz,oz,oz,oz]
theorem iT(m:aB)(x:cZ):gC m x=eL↔gU x.name=eL/\(0<=x.object/\x.object<m.next)/\(0<=x.length/\x.length<=m.p.1*m.p.2.2*8)/\(∀t∈x.tries,0<=t/\t<=15)/\(x.tries.length:Int)=countP m.p x.length:=by
 unfold gC;rw[qz,qz,qz,qz,oz,oz,qQ,decide_eq_true_eq];simp only[oz];constructor
 .rintro⟨a,b,c,d,e⟩;exact⟨a,⟨b.1,nb⟩,c,d,e⟩
 .rintro⟨a,b,c,d,e⟩;exact⟨a,⟨b.1,nb⟩,c,d,e⟩
theorem gZ{m:aB}(h:bF m=eL):∀k∈m.drives,0<=k/\k<64:=λk a=>by have:=((cM m).1 h).2.2.1 k a;omega
theorem Mm:∀{l:aC} {a b:Int},l.Pairwise (·<·)->(∀k∈l,a<=k/\k<b)->a<=b->(m8 l:Int)<=b-a
 |[],a,b,_,_,h=>n2
 |x::l,a,b,hp,hl,h=>by
  obtain⟨e,d⟩:=zr.1 hp;have f:=hl x qS;have:=Mm (a:=x+1) (b:=b) d (λk c=>⟨by have:=e k c;omega,(hl k (List.mem_cons_of_mem _ c)).2⟩) nb;rw[q7];omega
theorem iD{m:aB}(h:bF m=eL):m8 m.drives<=64:=by have:=Mm ((cM m).1 h).2.1 (gZ h) nq;omega
end Go.Qw
