/- Lemmas for the proof of the law; no condition. -/
import Derived.Test.YtfjdddcdkcbocaaGreatDoorVcA
import Derived.Sort.Grow
import Derived.Lib.SlicesCompact
import Derived.Lib.RowBridge
import Derived.Shelf.SlSortCmp.NoneTotal
set_option linter.unusedVariables false
set_option linter.unusedSimpArgs false
open UInt8 renaming ofNat -> zO
open Nat renaming min_eq_left -> w7
open List renaming range -> qz, replicate -> qi, set_comm -> vk, set_eq_take_append_cons_drop -> yI, size_toArray -> yO, take -> yy, zipWith -> zn
open Prod renaming fst -> qF
open Go.IntKind renaming bits -> qx, i64 -> xV, signed -> yG, u32 -> xX, u64 -> xY, u8 -> xW, wrap -> qe
open BitVec renaming ofInt -> qH, ofNat_toNat -> vN, setWidth_eq -> vO
open Int renaming fdiv -> zr, tmod -> xH
open Go.Value renaming int -> xP
open Array renaming ext' -> vt, ext_getElem? -> va, range -> xJ, toList_map -> xm
open Go.Builtin renaming append_ -> zb, clear_ -> vV, copy_ -> yU, firstCells -> wN, nextslicecap -> yQ, zeroCells -> yx
open Bool renaming or_eq_true -> yB
open Go.Instr renaming alloc -> y8, box -> xn, buildSlice -> zJ, fill -> wC, makeSlice -> zF, storeAt -> qL
set_option maxRecDepth 100000
open Option renaming some -> cO, none -> dB
open Bool renaming true -> eH, false -> eL
open Go renaming Value -> eX, Addr -> fY
open Go.Qw renaming cellOf -> hU, Heap -> hY
open List renaming length -> n1
namespace Go.Qw
namespace Gf
theorem LF{p:UInt8->Prop}(h:∀n,n<256->p (zO n))(a:UInt8):p a:=by
 have:=h a.toNat (UInt8.toNat_lt a)
 rwa [UInt8.ofNat_toNat]at this
def x2(a:UInt8):UInt8:=(a<<<1)^^^(if a&&&0x80=0 then 0 else 0x1b)
def x3(a:UInt8):UInt8:=x2 a^^^a
def pw:Nat->UInt8
 |0=>1
 |n+1=>x3 (pw n)
theorem ZZ(a b c:UInt8):(a^^^b)&&&c=(a&&&c)^^^(b&&&c):=by apply UInt8.toBitVec_inj.1;ext i hi;simp[Bool.and_xor_distrib_right]
theorem aaa(a b:UInt8):(a^^^b)<<<1=(a<<<1)^^^(b<<<1):=by apply UInt8.toBitVec_inj.1;simp[BitVec.shiftLeft_xor_distrib]
theorem LG:∀a:UInt8,a&&&0x80=0∨a&&&0x80=0x80:=LF o1
theorem abz(a b c d:UInt8):(a^^^b)^^^(c^^^d)=(a^^^c)^^^(b^^^d):=by ac_rfl
theorem abA(a b:UInt8):x2 (a^^^b)=x2 a^^^x2 b:=by
 unfold x2;rw[ZZ,aaa];rcases LG a with ha|ha<;>rcases LG b with hb|hb<;>rw[ha,hb]
 .simp
 .grind
 .grind
 .rw[abz];simp
theorem abB(a b:UInt8):x3 (a^^^b)=x3 a^^^x3 b:=by unfold x3;rw[abA,abz]
def tj:Nat->UInt8->UInt8
 |0,a=>a
 |n+1,a=>x3 (tj n a)
theorem PO(a b:UInt8):∀n,tj n (a^^^b)=tj n a^^^tj n b
 |0=>rfl
 |n+1=>by simp only[tj,PO a b n,abB]
theorem Ip(a:UInt8)(m:Nat):∀n,tj (n+m) a=tj n (tj m a)
 |0=>by simp[tj]
 |n+1=>by rw[Nat.add_right_comm];simp only[tj,Ip a m n]
theorem LH:∀n,tj n 0=0
 |0=>rfl
 |n+1=>by rw[tj,LH n];rfl
theorem An:∀n,pw n=tj n 1
 |0=>rfl
 |n+1=>by rw[pw,tj,An n]
def adL:Nat:=939374623831894136699086600277250597547650664638770418422125146541797353646788332867483593573384618611044815625336497665827114626705134492515730415652478061620339993830966980270842846318821775850471098591710629241171812800746666233448222972174585295916389942636813666312872914849454985560152530477328703759683306625234997237483834721220409437442253146756845415190424543171129629468776480674528486868811725071010351012234056630775688111116293610821126543142160426617079940511630006820862697466582575257349116925728488930366609138264019883664906661504235885380294353134295748489096855100647154935187045898006656778240
def lg(a:UInt8):Nat:=(adL>>>(8*a.toNat))%256
theorem Gv:∀a:UInt8,lg a<255:=LF o1
theorem Rw:∀a:UInt8,a≠0->pw (lg a)=a:=LF o1
theorem Rx:∀n,n<255->lg (pw n)=n:=o1
theorem abC:pw 255=1:=qa
theorem Ry:∀n,n<255->pw n≠0:=o1
theorem TU(n:Nat):pw (n+255)=pw n:=by rw[An,Ip,<-An 255,abC,<-An]
theorem TV(n:Nat):pw (n%255)=pw n:=by
 have:∀k m,pw (m+255*k)=pw m:=by
  intro k
  induction k with
  |zero=>simp
  |succ k ih=>intro m;rw[Nat.mul_succ,<-wA,TU,ih]
 have h:=this (n/255) (n%255)
 grind
def mul(a b:UInt8):UInt8:=if a=0∨b=0 then 0 else pw ((lg a+lg b)%255)
def inv(a:UInt8):UInt8:=if a=0 then 0 else pw ((255-lg a)%255)
theorem mul_zero(a:UInt8):mul a 0=0:=by simp[mul]
theorem zero_mul(a:UInt8):mul 0 a=0:=rfl
theorem mul_comm(a b:UInt8):mul a b=mul b a:=by
 unfold mul
 grind
theorem LI(a b:UInt8)(d:a≠0):mul a b=tj (lg a) b:=by
 by_cases c:b=0
 .subst c;rw[mul_zero,LH]
 .rw[mul,m6 oo,TV,An,Ip,<-An,Rw b c]
theorem jD(a b c:UInt8):mul a (b^^^c)=mul a b^^^mul a c:=by
 by_cases d:a=0
 .subst d;simp[zero_mul]
 .rw[LI _ _ d,LI _ _ d,LI _ _ d,PO]
theorem PP(a b c:UInt8):mul (a^^^b) c=mul a c^^^mul b c:=by rw[mul_comm,jD,mul_comm c a,mul_comm c b]
theorem TW{a b:UInt8}(c:a≠0)(d:b≠0):mul a b≠0:=by rw[mul,m6 oo];exact Ry _ (vu _ n4)
theorem TX{a b:UInt8}(c:a≠0)(d:b≠0):lg (mul a b)=(lg a+lg b)%255:=by rw[mul,m6 oo,Rx _ (vu _ n4)]
theorem mul_assoc(a b c:UInt8):mul (mul a b) c=mul a (mul b c):=by
 by_cases f:a=0
 .subst f;rfl
 by_cases d:b=0
 .subst d;simp[zero_mul,mul_zero]
 by_cases e:c=0
 .subst e;simp[mul_zero]
 rw[mul,m6 (by simp[TW f d,e]),TX f d,mul,m6 (by simp[f,TW d e]),TX d e]
 grind
theorem abD:lg 1=0:=rfl
theorem one_mul(a:UInt8):mul 1 a=a:=by
 by_cases b:a=0
 .subst b;rfl
 .rw[mul,m6 oo,abD,yg,TV,Rw a b]
theorem mul_one(a:UInt8):mul a 1=a:=by rw[mul_comm,one_mul]
theorem abE{a:UInt8}(b:a≠0):inv a≠0:=by rw[inv,m6 b];exact Ry _ (vu _ n4)
theorem Ao{a:UInt8}(b:a≠0):mul a (inv a)=1:=by
 have c:=Gv a;rw[mul,m6 (by simp[b,abE b]),inv,m6 b,Rx _ (vu _ n4)];have:(lg a+(255-lg a)%255)%255=0:=n3
 rw[this];rfl
end Gf
open Go.Proofs
structure Pow where
 off:Bool
 fuse:Option Nat
 offs:Int
def Pow.new:Pow:=⟨eL,dB,0⟩
def Pow.step(w:Pow):Bool×Pow:=
 if w.off then(eL,w)else match w.fuse with
 |none=>(eH,w)
 |some 0=>(eL,⟨eH,cO 0,Go.IntKind.wrap .i64 (w.offs+1)⟩)
 |some (k+1)=>(eH,⟨eL,cO k,w.offs⟩)
def Pow.arm(w:Pow)(n:Int):Pow:=if w.off then w else⟨eL,if 0<=n then cO n.toNat else dB,w.offs⟩
structure bu where
 room:Nat
 l:dS
 wait:Nat
 laid:dS
 has:Bool
 lost:Bool
def bu.new(a:Nat):bu:=⟨a,[],0,[],eL,eL⟩
def bu.append(w:Pow)(d:bu)(b:aS):Int×Pow×bu:=
 if b.length≠64 then(1,w,d)
 else if d.lost then(5,w,d)
 else if d.room<=n1 d.l then(7,w,d)
 else if w.off then(14,w,d)
 else if w.step.1 then(0,w.step.2,{d with l:=d.l++[b],wait:=d.wait+1,laid:=[],has:=eL})
 else(14,w.step.2,{d with l:=d.l++[b],wait:=d.wait+1})
def bu.sync(w:Pow)(d:bu):Int×Pow×bu:=
 if d.lost then(5,w,d)
 else if w.step.1 then(0,w.step.2,{d with wait:=0,laid:=[],has:=eL})
 else(14,w.step.2,d)
def bu.rewrite(w:Pow)(d:bu)(l:dS):Int×Pow×bu:=
 if !l.all (λb=>decide (n1 b=64))then(1,w,d)
 else if d.lost then(5,w,d)
 else if d.room<n1 l then(7,w,d)
 else if w.off then(14,w,d)
 else if w.step.1 then(0,w.step.2,{d with l:=l,wait:=0,laid:=[],has:=eL})
 else(14,w.step.2,{d with laid:=l,has:=eH})
def bu.Iq(d:bu):bu:={d with lost:=eH,l:=[],wait:=0,laid:=[],has:=eL}
abbrev aG:=List (Option bu)
def bY(b:aG)(a:Int):Option bu:=if 0<=a/\a<64 then(b[a.toNat]?).join else dB
def iG(b:aG)(a:Int)(d:bu):aG:=b.set a.toNat (cO d)
def isLive(b:aG)(a:Int):Bool:=match bY b a with|some d=>!d.lost|none=>eL
def bn(b:aG)(a:aD):aD:=a.filter (isLive b)
def dX(w:Pow)(c:aG)(a:Int)(b:aS):Int×Pow×aG:=
 match bY c a with
 |none=>(if b.length≠64 then 1 else 5,w,c)
 |some d=>((d.append w b).1,(d.append w b).2.1,iG c a (d.append w b).2.2)
def fC(w:Pow)(b:aG)(a:Int):Int×Pow×aG:=
 match bY b a with
 |none=>(5,w,b)
 |some d=>((d.sync w).1,(d.sync w).2.1,iG b a (d.sync w).2.2)
def fU:List (Int×aS)->Pow->aG->Int×Pow×aG
 |[],w,ds=>(0,w,ds)
 |x::l,w,ds=>let r:=dX w ds x.1 x.2;if r.1=0 then fU l r.2.1 r.2.2 else r
def iR:aD->Pow->aG->Int×Pow×aG
 |[],w,ds=>(0,w,ds)
 |x::l,w,ds=>let r:=fC w ds x;if r.1=0 then iR l r.2.1 r.2.2 else r
theorem mT(x:Int)(l:aD)(w:Pow)(a:aG):iR (x::l) w a=if(fC w a x).1=0 then iR l (fC w a x).2.1 (fC w a x).2.2 else fC w a x:=rfl
theorem lh(x:Int×aS)(l:List (Int×aS))(w:Pow)(a:aG):fU (x::l) w a=if(dX w a x.1 x.2).1=0 then fU l (dX w a x.1 x.2).2.1 (dX w a x.1 x.2).2.2 else dX w a x.1 x.2:=rfl
def gv(l:aD):aD:=((qz 64).map λi:Nat=>(i:Int)).filter λi=>decide (i∈l)
def layAll(l:List (Int×aS))(w:Pow)(a:aG):Int×Pow×aG:=
 let r:=fU l w a
 if r.1=0 then iR (gv (l.map qF)) r.2.1 r.2.2 else r
def b8(n:Int):UInt8:=zO (n%256).toNat
theorem bT(n:Int):qe xW n=((b8 n).toNat:Int):=by
 have e:((b8 n).toNat)=n%256:=by unfold b8;rw[UInt8.toNat_ofNat'];omega
 rw[e];rfl
abbrev rz:=BitVec 32
def tm(s:rz):rz:=if s&&&1#32=1#32 then(s>>>1)^^^3988292384#32 else s>>>1
def nZ:Nat->rz->rz
 |0,s=>s
 |n+1,s=>tm (nZ n s)
def PQ(s:rz)(x:UInt8):rz:=nZ 8 (s^^^BitVec.ofNat 32 x.toNat)
def mj(l:aS):rz:=l.foldl PQ 4294967295#32
def Cu(l:aS):rz:=4294967295#32^^^mj l
theorem Gw(l:aS)(x:UInt8):mj (l++[x])=PQ (mj l) x:=by unfold mj;simp
theorem LJ(s:rz):qe xX ((s.toNat:Nat):Int)=(s.toNat:Int):=by unfold qe;simp[qx,yG];omega
theorem DZ(a b:rz):qe xX ((qH (qx xX) (a.toNat:Int)^^^qH (qx xX) (b.toNat:Int)).toNat:Nat)=((a^^^b).toNat:Int):=by show qe xX (((qH 32 (a.toNat)^^^qH 32 (b.toNat)).toNat))=_;rw[wM,wM,vN,vN,vO,vO,LJ]
theorem Zd(a b:rz):qe xX ((qH (qx xX) (a.toNat:Int)&&&qH (qx xX) (b.toNat:Int)).toNat:Nat)=((a&&&b).toNat:Int):=by show qe xX (((qH 32 (a.toNat)&&&qH 32 (b.toNat)).toNat))=_;rw[wM,wM,vN,vN,vO,vO,LJ]
theorem Cv(n:Int):qe xX n=((qH 32 n).toNat:Int):=by unfold qe;simp[qx,yG,];omega
theorem PR(s:rz):zr (s.toNat:Int) (2^min (1:Int).toNat (qx xX))=((s>>>1).toNat:Int):=by rw[show min (1:Int).toNat (qx xX)=1 from n2,Int.fdiv_eq_ediv_of_nonneg _ n4,BitVec.toNat_ushiftRight,Nat.shiftRight_eq_div_pow];simp
theorem Ea(s:rz):((s&&&1#32).toNat:Int)=1↔s&&&1#32=1#32:=by
 constructor
 .intro h;apply BitVec.eq_of_toNat_eq
  grind
 grind
def rV(s:rz):aS:=(qz 4).map λi=>b8 (zr (s.toNat:Int) (2^(8*i)))
theorem LK(s:rz):(rV s).length=4:=rfl
def fh(b:Int)(a:aS):aS:=[87,115,1,b8 b]++a++qi (55-n1 a) 0
def eV(a:Int)(b:aS):aS:=
 if 1<=a/\a<=255/\b.length<=55 then fh a b++rV (Cu (fh a b))++[165]else[]
theorem tp{b:Int}{a:aS}(h:n1 a<=55:=by omega):(fh b a).length=59:=by simp[fh];omega
theorem nr{a:Int}{b:aS}(d:1<=a)(c:a<=255)(h3:n1 b<=55):(eV a b).length=64:=by unfold eV;rw[l0 ⟨d,c,h3⟩];simp[tp h3,LK]
variable {A B:Prop}
theorem ae{p:Prop}[Decidable p](b:p->A)(a:¬p->B):Br (decide p) A B:=by
 by_cases h:p
 .rw[m9 h];exact b h
 .rw[nb h];exact a h
theorem aV{a b:Int}(d:a=b->A)(c:a≠b->B):Br (a==b) A B:=by
 by_cases h:a=b
 .rw[beq_iff_eq.2 h];exact d h
 .rw[beq_eq_false_iff_ne.2 h];exact c h
theorem bt{a b:Int}(d:a≠b->A)(c:a=b->B):Br (a !=b) A B:=by
 by_cases h:a=b
 .rw[show(a !=b)=eL by simp[h]];exact c h
 .rw[show(a !=b)=eH by simp[h]];exact d h
theorem aU{b:Bool}(a:b=eH->A)(c:b=eL->B):Br b A B:=by
 cases b
 .exact c n2
 .exact a n2
theorem aI{b:Bool}(a:b=eL->A)(c:b=eH->B):Br (!b) A B:=by
 cases b
 .exact a n2
 .exact c n2
theorem Fl{b:Bool}(h:b=eH)(a:A):Br b A B:=by subst h;exact a
theorem rX{b:Bool}(h:b=eL)(a:B):Br b A B:=by subst h;exact a
theorem aE{σ:Type}{rest:σ->hY->Prop}{B:(σ->hY->Prop)->Prop}(h:B rest):DV rest B:=⟨rest,λ_ _ x=>x,h⟩
theorem bj{σ:Type}{rest:σ->hY->Prop}{B:(σ->hY->Prop)->Prop}(R:σ->hY->Prop)(b:B R)(a:∀s h,R s h->rest s h):DV rest B:=⟨R,a,b⟩
theorem ak{σ:Type}{B:σ->(σ->hY->Prop)->hY->Prop}{s:σ}{h:hY}{τ:Type}(V:τ->σ)(I:τ->hY->Prop)(μ:τ->Nat)(t0:τ)(b:s=V t0)(c:I t0 h)
  (d:∀t h,I t h->B (V t) (λe h'=>∃a,e=V a/\I a h'/\μ a<μ t) h):gU B s h:=⟨τ,V,I,μ,t0,b,c,d⟩
abbrev au:=Nat->Prop
def aP(p:au)(h h':hY):Prop:=h.size<=h'.size/\∀b,b<h.size->p b->h'[b]?=h[b]?
def Sl.on(s:Sl)(b:Nat):Prop:=∃o,s.ptr=cO ⟨b,o,dB⟩
variable {p q:au} {h h' h'':hY}
theorem aP.refl(p:au)(h:hY):aP p h h:=⟨qk _,λ_ _ _=>rfl⟩
theorem aP.trans(a:aP p h h')(b:aP p h' h''):aP p h h'':=⟨q7 a.1 b.1,λk c d=>(b.2 k (qY c a.1) d).trans (a.2 k c d)⟩
theorem aP.then(a:aP p h h')(b:aP q h' h'')(e:∀k,k<h.size->p k->q k):aP p h h'':=⟨q7 a.1 b.1,λk c d=>(b.2 k (qY c a.1) (e k c d)).trans (a.2 k c d)⟩
theorem aP.mono(a:aP p h h')(d:∀b,b<h.size->q b->p b):aP q h h':=⟨a.1,λk c e=>a.2 k c (d k c e)⟩
theorem aP.push(p:au)(h:hY)(o:Obj):aP p h (h.push o):=⟨n9,λb a _=>oo⟩
theorem cZ{a:fY}{v:eX}(b:hU h a=cO v):a.block<h.size:=by
 unfold hU at b
 grind
theorem lt_of_block{b:Nat}{o:Obj}(a:h[b]?=cO o):b<h.size:=(Array.getElem?_eq_some_iff.1 a).1
theorem aP.cell(a:aP p h h'){x:fY}{v:eX}(c:p x.block)(b:hU h x=cO v):hU h' x=cO v:=by
 have:=a.2 _ (cZ b) c;unfold hU at*
 grind
theorem aP.block(a:aP p h h'){b:Nat}{o:Obj}(d:p b)(c:h[b]?=cO o):h'[b]?=cO o:=by rw[a.2 b (lt_of_block c) d];exact c
theorem aP.cells(a:aP p h h'){x:fY}(b:p x.block):∀{vs:aR} {i:Nat},bA h x i vs->bA h' x i vs
 |[],_,_=>trivial
 |v::r,i,hc=>⟨a.cell (by unfold Addr.add;grind) hc.1,aP.cells a b hc.2⟩
theorem add_eq(b o n:Nat):(⟨b,o,dB⟩:fY).add n=⟨b,o+n,dB⟩:=by unfold Addr.add;simp
theorem add_zero(a:fY):a.add 0=a:=rfl
theorem AS{h:hY}{b o:Nat}{c:Array eX}{e:TypeId}{f:Nat×Nat}(a:h[b]?=cO (.cells c e f)):hU h ⟨b,o,dB⟩=c[o]?:=by unfold hU;grind
theorem WZ{h:hY}{b o:Nat}{c:Array eX}{e:TypeId}(a:h[b]?=cO (.cells c e (0,0))):QO h ⟨b,o,dB⟩=eL:=by unfold QO;grind
structure Seq {α:Type} (h:hY) (p:au) (s:Sl) (k:Nat) (f:α->aR) (l:List α):Prop where
 len:s.len=n1 l
 elem:∀i x,l[i]?=cO x->∃b o,s.ptr=cO ⟨b,o,dB⟩/\p b/\bA h ⟨b,o+i*k,dB⟩ 0 (f x)
variable {α:Type} {s:Sl} {k:Nat} {f:α->aR} {l:List α}
theorem Seq.ac(a:Seq h p s k f l)(g:aP p h h'):Seq h' p s k f l:=⟨a.len,λi x d=>by
 obtain⟨b,o,e,c,h3⟩:=a.elem i x d;exact⟨b,o,e,c,g.cells c h3⟩⟩
theorem Seq.mono(a:Seq h p s k f l)(g:∀b,p b->q b):Seq h q s k f l:=⟨a.len,λi x c=>by
 obtain⟨b,o,e,d,h3⟩:=a.elem i x c
 grind⟩
theorem Seq.nil(h:hY)(p:au)(c:Nat)(a:bK)(k:Nat)(f:α->aR):Seq h p ⟨a,0,c⟩ k f []:=⟨n2,λi x b=>oo⟩
theorem Seq.aX{X:Type}{g:X->eX}(c:Seq h p s 1 f l){i:Int}(n:Nat)(m:i=n)(e:n<n1 l)(x:X)(d:f l[n]=[g x]){K:X->Prop}(k:K x):
  ∃a:fY,(s.ptr=cO a/\0<=i/\i<((s.len:Nat):Int))/\∃x:X,hU h (a.add (i.toNat*1))=cO (g x)/\K x:=by
 obtain⟨b,o,j,_,h3⟩:=c.elem n l[n] (qd e);refine⟨_,⟨j,n3,by rw[c.len];omega⟩,x,?_,k⟩;rw[d]at h3;have:=h3.1;rw[add_eq,]at this;rw[add_eq];grind
theorem Seq.cH{X:Type}{g:X->aR}(c:Seq h p s k f l){i:Int}(n:Nat)(q:i=n)(d:n<n1 l)(x:X)(m:f l[n]=g x){K:X->Prop}(j:K x):
  ∃a:fY,(s.ptr=cO a/\0<=i/\i<((s.len:Nat):Int))/\∃x:X,bA h (a.add (i.toNat*k)) 0 (g x)/\K x:=by
 obtain⟨b,o,e,_,h3⟩:=c.elem n l[n] (qd d);refine⟨_,⟨e,n3,by rw[c.len];omega⟩,x,?_,j⟩;rw[add_eq]
 grind
def aq(n:Int):aR:=[xP xV n]
def ar(n:UInt8):aR:=[xP xW n.toNat]
def fp(b:Bool):aR:=[.bool b]
def bv(s:Sl):aR:=[.slice s.ptr s.len s.cap]
structure gP {α:Type} (h:hY) (p:au) (s:Sl) (k:Nat) (f:α->aR) (ll:List (List α)) (rs:List Sl):Prop where
 top:Seq h p s 1 bv rs
 len:n1 rs=n1 ll
 row:∀(i:Nat) (r:Sl) (l:List α),rs[i]?=cO r->ll[i]?=cO l->Seq h p r k f l
variable {ll:List (List α)} {rs:List Sl}
theorem gP.ac(a:gP h p s k f ll rs)(b:aP p h h'):gP h' p s k f ll rs:=⟨a.top.ac b,a.len,λi r l d c=>(a.row i r l d c).ac b⟩
theorem gP.mono(a:gP h p s k f ll rs)(c:∀b,p b->q b):gP h q s k f ll rs:=⟨a.top.mono c,a.len,λi r l e d=>(a.row i r l e d).mono c⟩
theorem gP.LL(a:gP h p s k f ll rs):s.len=n1 ll:=by rw[a.top.len,a.len]
theorem gP.get(c:gP h p s k f ll rs){i:Int}(n:Nat)(j:i=n)(d:n<n1 ll){K:Sl->Prop}(g:∀r,Seq h p r k f ll[n]->rs[n]?=cO r->K r):
  ∃a:fY,(s.ptr=cO a/\0<=i/\i<((s.len:Nat):Int))/\∃x:Sl,hU h (a.add (i.toNat*1))=cO (.slice x.ptr x.len x.cap)/\K x:=by
 have b:n<n1 rs:=by rw[c.len];exact d
 have e:rs[n]?=cO rs[n]:=qd b;exact c.top.aX n j b rs[n] n2 (g _ (c.row n _ _ e (qd d)) e)
structure Own {α:Type} (h:hY) (e:TypeId) (s:Sl) (k:Nat) (f:α->aR) (l:List α):Prop where
 len:s.len=n1 l
 head:(s.ptr=dB/\s.cap=0/\l=[])∨∃b rest,s.ptr=cO ⟨b,0,dB⟩/\h[b]?=cO (.cells (l.flatMap f++rest).toArray e (0,0))/\rest.length=(s.cap-s.len)*k/\s.len<=s.cap
theorem dO{α:Type}{k:Nat}{f:α->aR}(a:∀x,(f x).length=k):∀(l:List α),(l.flatMap f).length=n1 l*k
 |[]=>n9
 |x::r=>by rw[zA,qq,a,dO a r,zc,z7];omega
theorem Fm{α:Type}{k:Nat}{f:α->aR}(a:∀x,(f x).length=k):∀(l:List α) (i:Nat) (x:α),l[i]?=cO x->∃pre post,l.flatMap f=pre++f x++post/\pre.length=i*k
 |y::r,0,x,h=>by simp at h;subst h;simp
 |y::r,i+1,x,h=>by
  obtain⟨pre,post,c,b⟩:=Fm a r i x oo;exact⟨f y++pre,post,oo,oo⟩
theorem vw{h:hY}{b o:Nat}{e:TypeId}{fr:Nat×Nat}:∀{vs pre post:aR} {i:Nat},h[b]?=cO (.cells (pre++vs++post).toArray e fr)->n1 pre=o+i->bA h ⟨b,o,dB⟩ i vs
 |[],_,_,_,_,_=>trivial
 |v::r,pre,post,i,hb,hl=>by
  refine⟨?_,vw (pre:=pre++[v]) (post:=post) (by simpa using hb) oo⟩;rw[add_eq,AS hb,<-hl];simp
def jJ(h:hY)(b:Nat)(o:Obj):hY:=h.setIfInBounds b o
theorem iH{h:hY}{b c:Nat}{o x:Obj}(a:h[b]?=cO x):(jJ h b o)[c]?=if b=c then cO o else h[c]?:=by
 unfold jJ
 grind
theorem TY{h:hY}{b o:Nat}{c:Array eX}{e:TypeId}{f:Nat×Nat}{v:eX}(a:h[b]?=cO (.cells c e f)):QP h ⟨b,o,dB⟩ v=jJ h b (.cells (c.setIfInBounds o v) e f):=by
 apply va;intro i;rw[iH a];simp only[QP,]
 grind
theorem TZ(h:hY)(b:Nat)(o a:Obj):jJ (jJ h b o) b a=jJ h b a:=by unfold jJ;simp
theorem aP.jJ{p:au}{h:hY}{b:Nat}{o x:Obj}(a:h[b]?=cO x)(d:¬p b):aP p h (jJ h b o):=⟨by simp[Qw.jJ],λc _ f=>by
 rw[iH a,m6 λe=>d oo]⟩
theorem fv{P:Program}{b o:Nat}{e:TypeId}{K:Unit->hY->Prop}:∀{vs pre old post:aR} {i:Nat} {h:hY},h[b]?=cO (.cells (pre++old++post).toArray e (0,0))->n1 old=n1 vs->n1 pre=o+i->
  (∀v∈vs,v.oneCell'=eH)->K () (jJ h b (.cells (pre++vs++post).toArray e (0,0)))->av P (storeCells ⟨b,o,dB⟩ vs i) h K
 |[],pre,old,post,i,h,hb,hl,hp,hv,hk=>by
  have:old=[]:=qV n3;refine av.pure' ?_;have g:jJ h b (.cells (pre++[]++post).toArray e (0,0))=h:=by
   apply va;intro c;rw[iH hb]
   grind
  grind
 |v::r,pre,old,post,i,h,hb,hl,hp,hv,hk=>by
  cases old with
  |nil=>grind
  |cons u old=>
   refine av.bind ?_;rw[add_eq];have d:hU h ⟨b,o+i,dB⟩=cO u:=by rw[AS hb,<-hp];simp
   refine av.aaV (hv v n9) d (WZ hb) ?_;rw[TY hb];have a:(pre++(u::old)++post).toArray.setIfInBounds (o+i) v=((pre++[v])++old++post).toArray:=by rw[<-hp];simp
   rw[a];refine fv (e:=e) (pre:=pre++[v]) (old:=old) (post:=post) ?_ oo n7 (λx f=>hv x oo) ?_
   .rw[iH hb,l0 rfl]
   .rw[TZ];grind
theorem Ir{P:Program}{h:hY}{a:fY}{vs:aR}{n:Nat}{K:Array eX->hY->Prop}(e:n1 vs=n)(b:bA h a 0 vs)(c:K vs.toArray h):av P (loadCells a n) h K:=λw d=>by
 subst d;refine⟨vs.toArray,w,?_,dn.refl w,c⟩;have:=run_loadCells (P:=P) (w:=w) (a:=a) vs 0 #[] b;unfold loadCells
 grind
variable {e:TypeId}
theorem Own.lt(c:Own h e s k f l){b:Nat}(a:s.on b):b<h.size:=by
 rcases c.head with⟨h1,_,_⟩|⟨b',rest,h1,h2,_,_⟩
 .obtain⟨o,h0⟩:=a;grind
 .obtain⟨o,h0⟩:=a
  grind
theorem Own.ac(c:Own h e s k f l)(d:aP p h h')(a:∀b,s.on b->p b):Own h' e s k f l:=⟨c.len,by
 rcases c.head with h1|⟨b,rest,h1,h2,h3,h4⟩
 .grind
 .exact .inr ⟨b,rest,h1,d.block (a b ⟨0,h1⟩) h2,h3,h4⟩⟩
theorem Own.seq(c:Own h e s k f l)(g:∀x,(f x).length=k)(a:∀b,s.on b->p b):Seq h p s k f l:=⟨c.len,λi x d=>by
 rcases c.head with⟨_,_,h1⟩|⟨b,rest,h1,h2,h3,h4⟩
 .grind
 .obtain⟨pre,post,j,m⟩:=Fm g l i x d;refine⟨b,0,h1,a b ⟨0,h1⟩,vw (e:=e) (fr:=(0,0)) (pre:=pre) (post:=post++rest) ?_ n3⟩
  grind⟩
theorem Own.nil(h:hY)(e:TypeId)(k:Nat)(f:α->aR):Own h e ⟨dB,0,0⟩ k f []:=⟨n2,.inl ⟨n2,n2,n2⟩⟩
theorem Own.cap(a:Own h e s k f l):s.len<=s.cap:=by
 rcases a.head with⟨h1,h2,h3⟩|⟨b,rest,h1,h2,h3,h4⟩
 .have:=a.len;grind
 grind
theorem av.always{α:Type}{P:Program}{s:Sem α}{v:α}{h:hY}{K:α->hY->Prop}(a:aL P s v)(b:K v h):av P s h K:=λw c=>⟨v,w,a w,dn.refl w,oo⟩
structure bS (C:Ak) (t e k:Nat) (z:aR) (by_:Nat):Prop where
 ex:∃i j,C.T.get t=cO i/\i.co=.slice e/\C.T.get e=cO j/\j.size=k/\j.zero=z/\j.bytes=by_
variable {t:Nat} {z:aR} {by_:Nat}
section
variable {C:Ctx} {e:Nat}
theorem bS.under(c:bS C.toAk t e k z by_)(a:C.Ok):C.P.underlying t=cO (.slice e):=by obtain⟨i,j,d,b,_⟩:=c.ex;have:=a.co d;rw[b]at this;exact iv this
theorem bS.size(c:bS C.toAk t e k z by_)(a:C.Ok):aL C.P (sizeOf e) k:=by obtain⟨i,j,_,_,d,b,_⟩:=c.ex;rw[<-b];exact eF a.toOk d
theorem bS.info(c:bS C.toAk t e k z by_)(b:C.Ok):∃f,C.P.info? e=cO f/\f.size=k/\f.bytes=by_/\∃a,f.zero=cO a/\a.cells=z.toArray:=by
 obtain⟨i,j,_,_,d,h,h3,l⟩:=c.ex;obtain⟨f,g,o,p,a,m,n⟩:=b.info d
 grind
end
def iI(z:aR):Nat->aR
 |0=>[]
 |n+1=>z++iI z n
theorem mw(z:aR):∀n,(iI z n).length=n*n1 z
 |0=>by simp[iI]
 |n+1=>by rw[iI,qq,mw z n,z7];omega
theorem LM(z:aR):∀(n i:Nat),i<n*n1 z->(iI z n)[i]?=z[i%n1 z]?
 |0,i,h=>n3
 |n+1,i,h=>by
  rw[iI];by_cases a:i<n1 z
  .rw[qw a,Nat.mod_eq_of_lt a]
  .rw[ql n3,LM z n (i-n1 z) oo]
   conv=>rhs;rw[show i=(i-n1 z)+n1 z by omega,Nat.add_mod_right]
theorem LN(z:aR)(n m:Nat)(c:m=n*n1 z):((xJ m).map λi=>z.toArray[i%z.toArray.size]!)=(iI z n).toArray:=by
 apply va;intro i;subst c;simp only[z6];by_cases b:i<n*n1 z
 .rw[LM z n i b];have a:0<n1 z:=Nat.pos_of_ne_zero λe=>oo
  have:=vu i a
  grind
 .rw[zj (by rw[mw];omega)];simp[b]
theorem tu(z:aR)(n:Nat):yx z.toArray n=(iI z n).toArray:=LN z n _ (n2)
theorem PS(a:Nat):∀(r c:Nat),Builtin.growBy a r c<=(c+768)*2^r
 |0,c=>by simp[Builtin.growBy]
 |r+1,c=>by
  unfold Builtin.growBy;split
  .exact q7 (Nat.le_add_right c 768) (Nat.le_mul_of_pos_right _ (Nat.two_pow_pos _))
  .refine q7 (PS a r _) ?_;rw[Nat.pow_succ,Nat.mul_comm (2^r) 2,<-Nat.mul_assoc];exact zo _ n3
theorem adi(o n:Nat)(h:o<n):(o+768)*2^4<=16*n+16*768:=n3
theorem Is(a b:Nat)(h:b<a:=by omega):yQ a b<=16*a+16*768:=by
 unfold yQ;split
 .omega
 .split
  .omega
  .exact q7 (PS a 4 b) (adi _ _ h)
variable {t2:Nat} {v:Sl} {l2:List α}
section
variable {C:Ctx} {e:Nat}
theorem eW{P:Program}{K:Array eX->hY->Prop}(w:∀x,(f x).length=k)(d:Seq h p v k f l)(q:K (l.flatMap f).toArray h):
  av P (wN k v.len (.slice v.ptr v.len v.cap)) h K:=by
 cases hp:v.ptr with
 |none=>
  have:l=[]:=by
   cases l with
   |nil=>rfl
   |cons x r=>obtain⟨b,o,c,_⟩:=d.elem 0 x (rfl);grind
  subst this;exact av.pure' q
 |some a=>
  refine Ir (by rw[dO w,<-d.len]) ?_ q;cases l with
  |nil=>trivial
  |cons j r0=>
   obtain⟨b,o,c,_,_⟩:=d.elem 0 j (rfl);rw[hp]at c;cases c;have e:∀(r:List α) (n:Nat),(∀i x,r[i]?=cO x->bA h ⟨b,o+(n+i)*k,dB⟩ 0 (f x))->bA h ⟨b,o,dB⟩ (n*k) (r.flatMap f):=by
    intro r
    induction r with
    |nil=>intro n _;trivial
    |cons x r ih=>
     intro n s;have h0:=s 0 x (n2);have z:=ih (n+1) (λi y A=>by have:=s (i+1) y (by simpa using A);grind);have app:∀(us vs:aR) (i:Nat),bA h ⟨b,o,dB⟩ i us->bA h ⟨b,o,dB⟩ (i+n1 us) vs->bA h ⟨b,o,dB⟩ i (us++vs):=by
      intro us
      induction us with
      |nil=>simp
      |cons u us ih=>intro vs i c z;exact⟨c.1,ih vs (i+1) c.2 oo⟩
     refine app _ _ _ ?_ oo;have g:∀(us:aR) (i m:Nat),bA h ⟨b,o+m,dB⟩ i us->bA h ⟨b,o,dB⟩ (m+i) us:=by
      intro us
      induction us with
      |nil=>intros;trivial
      |cons u us ih=>
       intro i m c;refine⟨?_,ih (i+1) m c.2⟩;have:=c.1;rw[add_eq]at this⊢;rw[<-wA];omega
     grind
   have:=e (j::r0) 0 (λi x t=>by
    obtain⟨B,D,c,_,h3⟩:=d.elem i x t
    grind)
   simpa using this
theorem RB(w:C.Ok)(G:bS C.toAk t e k z by_)(h2:∃i e2,C.T.get t2=cO i/\i.co=.slice e2)(V:n1 z=k)(H:0<by_/\by_<=128)(m:∀x,(f x).length=k)
  (A:Own h e s k f l) (M:Seq h p v k f l2) (n:∀x,∀c∈f x,c.oneCell'=eH) (ab:n1 l+n1 l2<=2^32) {ty:Nat} {K:Sl->hY->Prop}
  (F:∀J h',Own h' e J k f (l++l2)->aP (λb=>¬s.on b) h h'->(∀b,J.on b->s.on b∨h.size<=b)->K J h'):
  bC C.P (zb #[t,t2] ty #[.slice s.ptr s.len s.cap,.slice v.ptr v.len v.cap]) (.one (.sc .slc)) h K:=by
 obtain⟨i2,e2,Y,g2⟩:=h2;have Q:C.P.underlying t2=cO (.slice e2):=by have:=w.co Y;rw[g2]at this;exact iv this
 obtain⟨B,y,x2,x3,zv,x4,x5⟩:=G.info w;unfold bC zb;simp only[z6,wH,qX];refine av.bind (av.always (aK (G.under w)) ?_);refine av.bind (av.always (G.size w) ?_);refine av.bind (av.always (aK Q) ?_);refine av.bind (av.pure' ?_);simp only[zg,if_false,wL,if_true];refine av.bind (av.pure' ?_);have q:=A.len;have D:=M.len;by_cases d:s.len+v.len<=s.cap
 .rw[l0 d];refine av.bind (eW m M ?_);rcases A.head with⟨p1,p2,p3⟩|⟨b,rest,p1,p2,p3,p4⟩
  .rw[p1];have O:l2=[]:=qV n3;subst O;refine av.pure' ⟨⟨dB,s.len+v.len,s.cap⟩,n2,F _ _ ⟨?_,.inl ⟨n2,p2,by simp[p3]⟩⟩ (aP.refl _ _) ?_⟩
   .simp;omega
   .rintro R ⟨o,g⟩;cases g
  .rw[p1];refine av.bind ?_;rw[add_eq,yg];have j:=dO m l;have a:=dO m l2;have E:(l2.flatMap f).length<=n1 rest:=by rw[a,p3];exact zo k n3
   refine fv (e:=e) (pre:=l.flatMap f) (old:=rest.take (l2.flatMap f).length) (post:=rest.drop (l2.flatMap f).length) ?_ ?_ ?_ ?_ ?_
   .rw[qo,qD];exact p2
   .rw[qB];exact w7 E
   .rw[j,q];omega
   .intro c hc;obtain⟨x,_,N⟩:=yd.1 hc;exact n x c N
   .refine av.pure' ⟨⟨cO ⟨b,0,dB⟩,s.len+v.len,s.cap⟩,n2,F _ _ ⟨?_,.inr ⟨b,rest.drop (l2.flatMap f).length,n2,?_,?_,d⟩⟩ ?_ ?_⟩
    .simp;omega
    .rw[iH p2,l0 rfl];simp
    .rw[qJ,p3,a,<-Nat.sub_mul];show(s.cap-s.len-n1 l2)*k=(s.cap-(s.len+v.len))*k;congr 1;omega
    .exact aP.jJ p2 (λW=>W ⟨0,p1⟩)
    .rintro R ⟨o,g⟩;cases g;exact .inl ⟨0,p1⟩
 .rw[m6 d];have u:Seq h (λ_=>True) s k f l:=A.seq m λ_ _=>trivial;have S:=A.cap;refine av.bind (av.always (cC y) ?_);rw[m6 λZ=>by rcases Z.2 with h|h<;>first|exact h|(rw[x3]at h;omega)];refine av.bind (av.always (cC y) ?_);have U:=Is (s.len+v.len) s.cap;rw[m6 (by
   have:yQ (s.len+v.len) s.cap*B.bytes<=(16*2^32+16*768)*128:=zu n3 (by rw[x3];exact H.2);omega)]
  refine av.bind (av.DS ⟨λhf=>(by cases hf),λ_ X=>?_⟩);refine av.bind (av.always (cC y) ?_);refine av.bind (av.AM ?_);refine av.bind (eW m u ?_);refine av.bind (eW m M ?_);have I:aL C.P (zeroValue e) zv:=(cC y).bind (by rw[x4];exact .pure);refine av.bind (av.always I ?_);rw[x5,tu];unfold newRow;refine av.bind (av.bind (av.nX (av.pure' (av.pure' ?_))));generalize L:Question.cut (Question.appendCap (s.len+v.len) s.cap e) X=cc;have r:s.len+v.len<=cc:=by rw[<-L];simp only[Question.cut];omega
  refine⟨⟨cO ⟨h.size,0,dB⟩,s.len+v.len,cc⟩,n2,F _ _ ⟨?_,.inr ⟨h.size,iI z (cc-(s.len+v.len)),n2,?_,?_,r⟩⟩ (aP.push _ _ _) ?_⟩
  .simp;omega
  .simp
  .rw[mw,V]
  .rintro R ⟨o,g⟩;cases g;exact .inr (qk _)
end
structure bR (h:hY) (a:fY) (e:TypeId) (cs:aR):Prop where
 off:a.off=0
 spot:a.spot=dB
 blk:h[a.block]?=cO (.cells cs.toArray e (0,0))
variable {a:fY} {cs:aR}
theorem bR.addr(c:bR h a e cs):a=⟨a.block,0,dB⟩:=by
 obtain⟨b,o,s⟩:=a;have:=c.off;have:=c.spot
 simp_all
theorem bR.ac(b:bR h a e cs)(d:aP p h h')(c:p a.block):bR h' a e cs:=⟨b.off,b.spot,d.block c b.blk⟩
theorem bR.lt(b:bR h a e cs):a.block<h.size:=lt_of_block b.blk
theorem bR.cell(b:bR h a e cs){j:Nat}{v:eX}(c:cs[j]?=cO v):hU h (a.add j)=cO v:=by
 rw[b.addr,add_eq,AS b.blk]
 grind
theorem bR.cell0(c:bR h a e cs){v:eX}(b:cs[0]?=cO v):hU h a=cO v:=c.cell (j:=0) b
theorem bR.cells(c:bR h a e cs)(j:Nat)(vs:aR)(d:(cs.drop j).take vs.length=vs):bA h (a.add j) 0 vs:=by
 rw[c.addr,add_eq,];have b:n1 vs<=(cs.drop j).length:=oo
 rcases Nat.lt_or_ge cs.length j with hj|hj
 .rw[qJ]at b;have:vs=[]:=qV n3;subst this;trivial
 .refine vw (e:=e) (fr:=(0,0)) (pre:=cs.take j) (post:=(cs.drop j).drop vs.length) ?_ oo;have:cs.take j++vs++(cs.drop j).drop vs.length=cs:=by
   conv=>lhs;rw[qo];arg 2;arg 1;rw[<-d]
   rw[qD,qD]
  rw[this];exact c.blk
theorem bR.aw(c:bR h a e cs)(vs:aR)(b:cs.take vs.length=vs):bA h a 0 vs:=c.cells 0 vs b
variable {i:TI}
section
variable {C:Ctx}
theorem uy(c:C.Ok)(f:C.T.get t=cO i){K:fY->hY->Prop}(e:∀a h',a.block=h.size->bR h' a t i.zero->aP (λ_=>True) h h'->h'.size=h.size+1->K a h'):
  oF C.P (y8 t eH (.tuple #[])) h K:=by
 obtain⟨z,d,b⟩:=pY c.toOk f;refine av.bind (av.always d ?_);refine av.bind (av.bind (av.bind (av.nX (av.pure' (av.pure' (av.pure' ?_))))));refine⟨⟨h.size,0,dB⟩,n2,e _ _ n2 ⟨n2,n2,?_⟩ (aP.push _ _ _) n9⟩;rw[<-b];simp
theorem PT{v:eX}{P:Program}{K:fY->hY->Prop}(b:∀a h',a.block=h.size->bR h' a t v.cells.toList->aP (λ_=>True) h h'->h'.size=h.size+1->K a h'):
  oF P (xn t v) h K:=by
 refine av.bind (av.bind (av.bind (av.nX (av.pure' (av.pure' (av.pure' ?_))))));refine⟨⟨h.size,0,dB⟩,n2,b _ _ n2 ⟨n2,n2,?_⟩ (aP.push _ _ _) n9⟩;simp
theorem run_store(j:C.Ok){a:fY}{e:TypeId}{b:aR}(c:bR h a e b)(n:C.T.get t=cO i)(off:Nat){v:eX}(vs:aR)(k:v.cells=vs.toArray)(d:i.size=n1 vs)
  (f:vs.all (·.oneCell')=eH) (g:off+n1 vs<=n1 b) {K:Unit->hY->Prop}
  (m:∀h',bR h' a e (b.take off++vs++b.drop (off+n1 vs))->aP (·≠a.block) h h'->h'.size=h.size->K () h'):
  av C.P (qL t (.pointer (cO (a.add off))) v) h K:=by
 have l:=c.addr;refine av.bind (av.pure' ?_);refine av.bind (av.always (eF j.toOk n) ?_);rw[k,d];simp only[yO,ne_eq,];rw[l,add_eq,];refine fv (e:=e) (pre:=b.take off) (old:=(b.drop off).take vs.length) (post:=b.drop (off+n1 vs)) ?_ ?_ ?_ ?_ ?_
 .have:b.take off++(b.drop off).take vs.length++b.drop (off+n1 vs)=b:=by rw[<-wx,qo,qD,qD]
  rw[this];exact c.blk
 .grind
 .grind
 .grind
 .refine m _ ⟨c.off,c.spot,?_⟩ (aP.jJ c.blk n9) (by simp[jJ]);rw[iH c.blk,l0 rfl]
theorem sp(g:C.Ok){a:fY}{e:TypeId}{d:aR}(k:bR h a e d)(m:C.T.get t=cO i){v:eX}(vs:aR)(j:v.cells=vs.toArray)(c:i.size=n1 vs)
  (b:vs.all (·.oneCell')=eH) (f:n1 vs<=n1 d) {K:Unit->hY->Prop}
  (l:∀h',bR h' a e (vs++d.drop vs.length)->aP (·≠a.block) h h'->h'.size=h.size->K () h'):
  av C.P (qL t (.pointer (cO a)) v) h K:=
 run_store g k m 0 vs j c b n3 (λh' x y z=>l h' oo y z)
end
section
variable {C:Ctx} {e:Nat}
theorem Cw{b:α}(a:f b=z):∀n,iI z n=(qi n b).flatMap f
 |0=>rfl
 |n+1=>by rw[iI,List.replicate_succ,zA,a,Cw a n]
theorem ag(x:Int)(a:-9223372036854775808<=x:=by omega)(b:x<=9223372036854775807:=by omega):qe xV x=x:=by
 show(if(eH&&decide (x%2^64>=2^63))=eH then x%2^64-2^64 else x%2^64)=x
 grind
theorem run_make(q:C.Ok)(r:bS C.toAk t e k z by_)(s:0<by_/\by_<=128)(p:α)(A:f p=z)(d:n1 z=k){D M:IntKind}{n c:Int}(m b:Nat)(E:n=m)(J:c=b)(w:m<=b)(o:b<=2^32)
  {K:Sl->hY->Prop} (F:∀i h',Own h' e i k f (qi m p)->i.ptr=cO ⟨h.size,0,dB⟩->i.cap=b->aP (λ_=>True) h h'->h'.size=h.size+1->K i h'):
  bC C.P (zF t (.int D n) (.int M c)) (.one (.sc .slc)) h K:=by
 subst E;subst J;obtain⟨j,B,x2,x3,G,H,I⟩:=r.info q;refine av.bind (av.always (aK (r.under q)) ?_);refine av.bind (av.pure' ?_);refine av.bind (av.pure' ?_);refine av.bind (av.always (cC B) ?_);have N:qe xV (m)=m:=ag _;have L:qe xV (b)=b:=ag _;have O:¬((j.bytes)*(b)>2^48):=by
  have:by_*b<=128*2^32:=zu s.2 o
  grind
 simp only[N,L];rw[m6 oo];refine av.bind (av.AM ?_);refine av.bind (av.always (r.size q) ?_);have u:aL C.P (zeroValue e) G:=(cC B).bind (by rw[H];exact .pure);have fin:∀g:Array eX,(b*k≠0->g=z.toArray)->av C.P (do
   let a<-newRow e ((xJ (b*k)).map (g[·%g.size]!))
   pure (Value.slice (cO a) m b)) h (λv h'=>∃x:(Rt.one (.sc .slc)).den,v=(Rt.one (.sc .slc)).enc x/\K x h'):=by
  intro g l;have y:((xJ (b*k)).map (g[·%g.size]!))=(iI z b).toArray:=by
   by_cases h0:b*k=0
   .rw[];have:iI z b=[]:=qV (by rw[mw,d,h0])
    grind
   .rw[l h0];exact LN z b _ (by rw[d])
  rw[];refine av.bind (av.bind (av.nX (av.pure' (av.pure' ?_))));refine⟨⟨cO ⟨h.size,0,dB⟩,m,b⟩,n2,F _ _ ⟨n9,.inr ⟨h.size,iI z (b-m),n2,?_,?_,w⟩⟩ n2 n2 (aP.push _ _ _) n9⟩
  .have:iI z b=(qi m p).flatMap f++iI z (b-m):=by
    rw[Cw A,Cw A,<-ze,List.replicate_append_replicate]
    grind
   grind
  .rw[mw,d]
 simp only[qj];by_cases h0:b*k=0
 .rw[l0 h0];exact av.bind (av.pure' (fin _ λh=>absurd h0 h))
 .rw[m6 h0];refine av.bind (av.always u ?_);exact av.bind (av.pure' (fin _ λ_=>I))
theorem It(m:C.Ok)(o:bS C.toAk t e k z by_)(g:n1 z=k){n:Nat}{parts:Array (Nat×eX)}(l:List α)(s:n1 l=n)(D:n*k<=2^20)
  (b:wC (λi=>cO (i*k,k)) (iI z n).toArray parts.toList=cO (l.flatMap f).toArray) {K:Sl->hY->Prop}
  (u:∀q h',Own h' e q k f l->q.ptr=cO ⟨h.size,0,dB⟩->aP (λ_=>True) h h'->h'.size=h.size+1->K q h'):
  bC C.P (zJ t n parts) (.one (.sc .slc)) h K:=by
 obtain⟨r,B,x2,x3,w,y,A⟩:=o.info m;unfold bC zJ;refine av.bind (av.always (aK (o.under m)) ?_);refine av.bind (av.always (o.size m) ?_);rw[m6 n3];have p:aL C.P (zeroValue e) w:=(cC B).bind (by rw[y];exact .pure);have fin:∀c:Array eX,(n*k≠0->c=z.toArray)->av C.P (do
   let cO cells:=wC (λi=>cO (i*k,k)) ((xJ (n*k)).map (c[·%c.size]!)) parts.toList
    |stuck "buildSlice: a part of the wrong size"
   pure (Value.slice (cO (<-newRow e cells)) n n)) h (λv h'=>∃x:(Rt.one (.sc .slc)).den,v=(Rt.one (.sc .slc)).enc x/\K x h'):=by
  intro c j;have d:((xJ (n*k)).map (c[·%c.size]!))=(iI z n).toArray:=by
   by_cases h0:n*k=0
   .rw[h0];have:iI z n=[]:=qV (by rw[mw,g,h0]);rw[this];simp
   .rw[j h0];exact LN z n _ (by rw[g])
  rw[d,b];refine av.bind (av.bind (av.nX (av.pure' (av.pure' ?_))));refine⟨⟨cO ⟨h.size,0,dB⟩,n,n⟩,n2,u _ _ ⟨s.symm,.inr ⟨h.size,[],n2,n9,n9,qk _⟩⟩ n2 (aP.push _ _ _) n9⟩
 by_cases h0:n*k=0
 .rw[l0 h0];exact av.bind (av.pure' (fin _ λh=>absurd h0 h))
 .rw[m6 h0];refine av.bind (av.always p ?_);exact av.bind (av.pure' (fin _ λ_=>A))
theorem Own.set{i:TI}(A:C.Ok)(u:Own h e s k f l)(o:∀x,(f x).length=k)(E:C.T.get t=cO i){x:Int}(n:Nat)(w:x=n)(p:n<n1 l){val:eX}(y:α)(F:val.cells=(f y).toArray)(r:i.size=k)
  (g:(f y).all (·.oneCell')=eH) {K:hY->Prop} (z:∀h',Own h' e s k f (l.set n y)->aP (λb=>¬s.on b) h h'->h'.size=h.size->K h'):
  ∃a:fY,(s.ptr=cO a/\0<=x/\x<((s.len:Nat):Int))/\av C.P (qL t (.pointer (cO (a.add (x.toNat*k)))) val) h λ_ h'=>K h':=by
 subst w;rcases u.head with⟨_,_,h3⟩|⟨b,rest,h1,h2,h3,h4⟩
 .subst h3;simp at p
 .refine⟨_,⟨h1,n3,by rw[u.len];omega⟩,?_⟩;unfold qL;refine av.bind (av.pure' ?_);unfold storeVar;refine av.bind (av.always (eF A.toOk E) ?_);rw[F,r];have q:=o y;simp only[yO,q,ne_eq,not_true,if_false];rw[add_eq,yg,qj];have d:l=l.take n++l[n]::l.drop (n+1):=by rw[<-List.drop_eq_getElem_cons p,qD]
  have m:l.set n y=l.take n++y::l.drop (n+1):=yI.trans (l0 p);have j:((l.take n).flatMap f).length=n*k:=by rw[dO o,qB,w7 n3]
  refine fv (e:=e) (pre:=(l.take n).flatMap f) (old:=f l[n]) (post:=(l.drop (n+1)).flatMap f++rest) ?_ ?_ ?_ ?_ ?_
  .have:l.flatMap f++rest=(l.take n).flatMap f++f l[n]++((l.drop (n+1)).flatMap f++rest):=by have v:=congrArg (List.flatMap f) d;rw[ze,zA]at v;rw[v];simp
   rw[<-this];exact h2
  .rw[o,o]
  .rw[j];omega
  .intro c D;have:=qU.1 g c D;exact this
  .refine z _ ⟨by rw[qK];exact u.len,.inr ⟨b,rest,h1,?_,h3,h4⟩⟩ (aP.jJ h2 λB=>B ⟨0,h1⟩) (by simp[jJ]);rw[iH h2,l0 n2,m];simp
end
def grow(c:Nat->Nat)(n i:Nat):Nat->Nat:=λb=>if b<n then c b else i
theorem gH{c:Nat->Nat}{n i b:Nat}(h:b<n):grow c n i b=c b:=l0 h
theorem pA{c:Nat->Nat}{n i b:Nat}(h:n<=b:=by omega):grow c n i b=i:=m6 n3
structure dT {α:Type} (h:hY) (c:Nat->Nat) (i:Nat) (e:TypeId) (s:Sl) (k:Nat) (f:α->aR) (l:List α):Prop where
 own:Own h e s k f l
 aZ:∀b,s.on b->c b=i
structure kK (h:hY) (c:Nat->Nat) (i:Nat) (a:fY) (e:TypeId) (cs:aR):Prop where
 box:bR h a e cs
 aZ:c a.block=i
structure my (h0 h:hY) (c:Nat->Nat):Prop where
 ac:aP (λb=>b<h0.size) h0 h
 aZ:∀b,b<h0.size->c b=0
variable {h0:hY} {c:Nat->Nat} {j n m:Nat}
section
variable {i:Nat}
theorem dT.keep(a:dT h c j e s k f l)(n:aP (λb=>c b≠i) h h')(g:j≠i):dT h' (grow c h.size m) j e s k f l:=
 ⟨a.own.ac n λb d=>by rw[a.aZ b d];exact g,λb d=>by rw[gH (a.own.lt d)];exact a.aZ b d⟩
theorem kK.keep(d:kK h c j a e cs)(g:aP (λb=>c b≠i) h h')(f:j≠i):kK h' (grow c h.size m) j a e cs:=
 ⟨d.box.ac g (by rw[d.aZ];exact f),by rw[gH d.box.lt];exact d.aZ⟩
theorem my.keep(a:my h0 h c)(e:aP (λb=>c b≠i) h h')(f:i≠0):my h0 h' (grow c h.size m):=
 ⟨a.ac.then e λb d _=>by rw[a.aZ b d];omega,λb d=>by rw[gH (qY d a.ac.1)];exact a.aZ b d⟩
theorem my.refl(h:hY):my h h (λ_=>0):=⟨aP.refl _ _,λ_ _=>rfl⟩
theorem dT.seq(a:dT h c j e s k f l)(d:∀x,(f x).length=k):Seq h (λb=>c b=j) s k f l:=a.own.seq d a.aZ
theorem dT.RC(a:dT h c j e s k f l)(g:∀x,(f x).length=k):Seq h (λb=>b<h.size) s k f l:=a.own.seq g λ_ d=>a.own.lt d
theorem dT.nil(h:hY)(c:Nat->Nat)(i:Nat)(e:TypeId)(k:Nat)(f:α->aR):dT h c i e ⟨dB,0,0⟩ k f []:=⟨Own.nil h e k f,λb d=>by obtain⟨o,a⟩:=d;cases a⟩
theorem aP.aZ(a:aP (λ_=>True) h h')(c:Nat->Nat)(i:Nat):aP (λb=>c b≠i) h h':=a.mono λ_ _ _=>trivial
end
variable {ti:TI}
section
variable {C:Ctx} {i e:Nat}
theorem su(d:C.Ok)(_:my h0 h c)(i:Nat)(f:C.T.get t=cO ti){K:fY->hY->Prop}(e:∀a h',kK h' (grow c h.size i) i a t ti.zero->aP (λb=>c b≠i) h h'->K a h'):
  oF C.P (y8 t eH (.tuple #[])) h K:=
 uy d f λa h' x y z _=>e a h' ⟨y,by rw[pA]⟩ (z.aZ c i)
theorem LO(P:Program)(_:my h0 h c)(i:Nat){v:eX}{K:fY->hY->Prop}(d:∀a h',kK h' (grow c h.size i) i a t v.cells.toList->aP (λb=>c b≠i) h h'->K a h'):
  oF P (xn t v) h K:=
 PT λa h' x y z _=>d a h' ⟨y,by rw[pA]⟩ (z.aZ c i)
theorem kK.store(m:C.Ok)(g:kK h c i a e cs)(o:C.T.get t=cO ti)(off:Nat){v:eX}(vs:aR)(p:v.cells=vs.toArray)(k:ti.size=n1 vs)
  (d:vs.all (·.oneCell')=eH) (f:off+n1 vs<=n1 cs) {K:Unit->hY->Prop}
  (l:∀h',kK h' (grow c h.size i) i a e (cs.take off++vs++cs.drop (off+n1 vs))->aP (λb=>c b≠i) h h'->K () h'):
  av C.P (qL t (.pointer (cO (a.add off))) v) h K:=
 run_store m g.box o off vs p k d f λh' x y z=>l h' ⟨x,by rw[gH g.box.lt];exact g.aZ⟩ (y.mono λb _ j n=>j (by rw[n];exact g.aZ))
theorem kK.gx(j:C.Ok)(l:kK h c i a e cs)(n:C.T.get t=cO ti){v:eX}(vs:aR)(k:v.cells=vs.toArray)(f:ti.size=n1 vs)
  (d:vs.all (·.oneCell')=eH) (g:n1 vs<=n1 cs) {K:Unit->hY->Prop}
  (m:∀h',kK h' (grow c h.size i) i a e (vs++cs.drop vs.length)->aP (λb=>c b≠i) h h'->K () h'):
  av C.P (qL t (.pointer (cO a)) v) h K:=
 l.store j n 0 vs k f d n3 (λh' x y=>m h' oo y)
theorem uz(w:C.Ok)(_:my h0 h c)(i:Nat)(f:α->aR)(A:bS C.toAk t e k z by_)(j:0<by_/\by_<=128)(g:α)(s:f g=z)(l:n1 z=k){r E:IntKind}{n p:Int}(m:Nat)(u:n=m)(B:p=m)(d:m<=2^32)
  {K:Sl->hY->Prop} (v:∀a h',dT h' (grow c h.size i) i e a k f (qi m g)->aP (λb=>c b≠i) h h'->K a h'):
  bC C.P (zF t (.int r n) (.int E p)) (.one (.sc .slc)) h K:=
 run_make w A j g s l m m u B (qk _) d λa h' x y _ z _=>v a h' ⟨x,λb D=>by obtain⟨o,q⟩:=D;rw[y]at q;cases q;rw[pA (qk _)]⟩ (z.aZ c i)
theorem Fo(r:C.Ok)(_:my h0 h c)(i:Nat)(f:α->aR)(s:bS C.toAk t e k z by_)(j:n1 z=k){n:Nat}{parts:Array (Nat×eX)}(l:List α)(p:n1 l=n)(g:n*k<=2^20)
  (a:wC (λi=>cO (i*k,k)) (iI z n).toArray parts.toList=cO (l.flatMap f).toArray) {K:Sl->hY->Prop}
  (q:∀d h',dT h' (grow c h.size i) i e d k f l->aP (λb=>c b≠i) h h'->K d h'):
  bC C.P (zJ t n parts) (.one (.sc .slc)) h K:=
 It r s j l p g a λd h' x y z _=>q d h' ⟨x,λb u=>by obtain⟨o,m⟩:=u;rw[y]at m;cases m;rw[pA (qk _)]⟩ (z.aZ c i)
theorem dT.append(u:C.Ok)(g:dT h c i e s k f l)(A:bS C.toAk t e k z by_)(n:∃i e2,C.T.get t2=cO i/\i.co=.slice e2)(q:n1 z=k)(m:0<by_/\by_<=128)(E:∀x,(f x).length=k)
  (D:Seq h p v k f l2) (a:∀x,∀c∈f x,c.oneCell'=eH) (o:n1 l+n1 l2<=2^32) {ty:Nat} {K:Sl->hY->Prop}
  (r:∀d h',dT h' (grow c h.size i) i e d k f (l++l2)->aP (λb=>c b≠i) h h'->K d h'):
  bC C.P (zb #[t,t2] ty #[.slice s.ptr s.len s.cap,.slice v.ptr v.len v.cap]) (.one (.sc .slc)) h K:=
 RB u A n q m E g.own D a o λd h' x y w=>r d h' ⟨x,λb B=>by
  rcases w b B with w|w
  .rw[gH (g.own.lt w)];exact g.aZ b w
  .exact pA w⟩ (y.mono λb _ j n=>j (g.aZ b n))
theorem dT.set(u:C.Ok)(g:dT h c i e s k f l)(D:∀x,(f x).length=k)(A:C.T.get t=cO ti){x:Int}(n:Nat)(p:x=n)(q:n<n1 l){val:eX}(y:α)(B:val.cells=(f y).toArray)(m:ti.size=k)
  (d:(f y).all (·.oneCell')=eH) {K:hY->Prop} (r:∀h',dT h' (grow c h.size i) i e s k f (l.set n y)->aP (λb=>c b≠i) h h'->K h'):
  ∃a:fY,(s.ptr=cO a/\0<=x/\x<((s.len:Nat):Int))/\av C.P (qL t (.pointer (cO (a.add (x.toNat*k)))) val) h λ_ h'=>K h':=
 g.own.set u D A n p q y B m d λh' z w _=>r h' ⟨z,λb o=>by rw[gH (g.own.lt o)];exact g.aZ b o⟩ (w.mono λb _ j v=>j (g.aZ b v))
end
section
variable {C:Ctx} {i e:Nat}
theorem grow_grow{c:Nat->Nat}{n m i:Nat}(h:n<=m):grow (grow c n i) m i=grow c n i:=by
 unfold grow
 grind
theorem aP.step(a:aP (λb=>c b≠i) h h'){d:hY}(b:aP (λb=>grow c h.size i b≠i) h' d):aP (λb=>c b≠i) h d:=
 a.then b λx e f=>by rw[gH e];exact f
theorem dT.push(F:C.Ok)(D:dT h c i e s k f l)(q:bS C.toAk t e k z by_)(E:n1 z=k)(u:0<by_/\by_<=128)(H:∀x,(f x).length=k)
  (d:∀x,∀c∈f x,c.oneCell'=eH) (x:α) {parts:Array (Nat×eX)} (a:wC (λi=>cO (i*k,k)) (iI z 1).toArray parts.toList=cO ([x].flatMap f).toArray)
  (y:1*k<=2^20) (B:n1 l+1<=2^32) {ty:Nat} {K:Sl->hY->Prop}
  (I:∀n h',dT h' (grow c h.size i) i e n k f (l++[x])->aP (λb=>c b≠i) h h'->K n h'):
  bC C.P (zJ t 1 parts) (.one (.sc .slc)) h λv g=>bC C.P (zb #[t,t] ty #[.slice s.ptr s.len s.cap,.slice v.ptr v.len v.cap]) (.one (.sc .slc)) g K:=by
 refine It F q E [x] n2 y a λv g O L A _=>?_;have o:aP (λb=>c b≠i) h g:=A.aZ c i;have r:dT g (grow c h.size i) i e s k f l:=⟨D.own.ac A λ_ _=>trivial,λb G=>by rw[gH (D.own.lt G)];exact D.aZ b G⟩
 have m:h.size<=g.size:=A.1;obtain⟨J,Q,N,x2,_⟩:=q.ex;refine r.append F q ⟨J,e,N,x2⟩ E u H (O.seq (p:=λ_=>True) H λ_ _=>trivial) d B λn M j w=>?_;rw[grow_grow m]at j;exact I n M j (o.step w)
structure aeq (h:hY) (c:Nat->Nat) (top lo:Nat) (e:TypeId) (s:Sl) (k:Nat) (f:α->aR) (ll:List (List α)) (rs:List Sl):Prop where
 own:dT h c top e s 1 bv rs
 len:n1 rs=n1 ll
 row:∀(i:Nat) r l,rs[i]?=cO r->ll[i]?=cO l->Seq h (λb=>b<h.size/\lo<=c b/\c b<lo+n1 ll) r k f l
theorem jK:∀x,∀c∈bv x,c.oneCell'=eH:=by intro x c a;simp only[bv,qA]at a;subst a;rfl
end
structure aer {α:Type} (h:hY) (r:Nat) (g:α->eX) (kvs:List (Int×α)):Prop where
 ex:∃es clock,h[r]?=cO (.map es clock)/\es.toList.map (λe=>(e.key,e.val))=kvs.map (λp=>(Value.int .i64 p.1,g p.2))
variable {P:Program} {r:Nat} {g:α->eX} {kvs:List (Int×α)}
theorem Fp(x n:Int)(b:0<n:=by decide):x%n=if x.tmod n<0 then x.tmod n+n else x.tmod n:=by
 have e:=vb x b;have c:-n<x.tmod n:=Int.lt_tmod_of_pos x b;have d:=Int.tmod_add_mul_tdiv x n;have a:0<=(if x.tmod n<0 then x.tmod n+n else x.tmod n)/\(if x.tmod n<0 then x.tmod n+n else x.tmod n)<n:=oo
 have e2:x=(if x.tmod n<0 then x.tmod n+n else x.tmod n)+n*(if x.tmod n<0 then x.tdiv n-1 else x.tdiv n):=oo
 conv=>lhs;rw[e2]
 rw[Int.add_mul_emod_self_left];exact Int.emod_eq_of_lt a.1 a.2
theorem aC{α:Type}(l:List α)(k:Nat)(h:k<n1 l:=by omega):l.take (k+1)=l.take k++[l[k]]:=zC h
theorem cP:∀x,∀c∈aq x,c.oneCell'=eH:=by intro x c a;simp only[aq,qA]at a;subst a;rfl
theorem cD:∀x,∀c∈ar x,c.oneCell'=eH:=by intro x c a;simp only[ar,qA]at a;subst a;rfl
theorem up{h c d:hY}(a:aP (λb=>b<h.size) h c)(b:aP (λb=>b<c.size) c d):aP (λb=>b<h.size) h d:=
 a.then b λ_ e _=>qY e a.1
theorem any{h c:hY}(a:aP (λ_=>True) h c):aP (λb=>b<h.size) h c:=a.mono λ_ _ _=>trivial
theorem Seq.up{α:Type}{h h':hY}{s:Sl}{k:Nat}{f:α->aR}{l:List α}(c:Seq h (λb=>b<h.size) s k f l)(a:aP (λb=>b<h.size) h h'):Seq h' (λb=>b<h'.size) s k f l:=
 (c.ac a).mono λ_ d=>qY d a.1
theorem gP.up{α:Type}{h h':hY}{s:Sl}{k:Nat}{f:α->aR}{l:List (List α)}{rs:List Sl}(c:gP h (λb=>b<h.size) s k f l rs)(a:aP (λb=>b<h.size) h h'):gP h' (λb=>b<h'.size) s k f l rs:=
 (c.ac a).mono λ_ d=>qY d a.1
theorem gP.RD{α:Type}{h:hY}{p:au}{s:Sl}{k:Nat}{f:α->aR}{ll:List (List α)}{rs:List Sl}(e:gP h p s k f ll rs){i:Int}(n:Nat)(g:i=n)(d:n<n1 ll){K:fY->Sl->Prop}
  (l:∀a r,hU h (a.add (i.toNat*1))=cO (.slice r.ptr r.len r.cap)->Seq h p r k f ll[n]->rs[n]?=cO r->K a r):
  ∃a:fY,(s.ptr=cO a/\0<=i/\i<((s.len:Nat):Int))/\∃x:Sl,hU h (a.add (i.toNat*1))=cO (.slice x.ptr x.len x.cap)/\K a x:=by
 obtain⟨a,m,x,j,b,c⟩:=e.get n g d (K:=λr=>Seq h p r k f ll[n]/\rs[n]?=cO r) (λr b c=>⟨b,c⟩)
 grind
theorem Seq.drop{α:Type}{h:hY}{p:au}{s:Sl}{w:Nat}{f:α->aR}{l:List α}(c:Seq h p s w f l)(k:Nat)(m:s.len<=s.cap):
  Seq h p ⟨if s.cap=k then s.ptr else s.ptr.map (·.add (k*w)),s.len-k,s.cap-k⟩ w f (l.drop k):=by
 have j:=c.len;refine⟨oo,λi x a=>?_⟩;rw[wO]at a;obtain⟨b,o,d,g,h3⟩:=c.elem _ x a;have e:=(qm.1 a).1;refine⟨b,o+k*w,?_,g,?_⟩
 .rw[m6 n3,d,zp,add_eq]
 grind
theorem Seq.take{α:Type}{h:hY}{p:au}{s:Sl}{w:Nat}{f:α->aR}{l:List α}(b:Seq h p s w f l)(k:Nat)(c:k<=n1 l):
  Seq h p ⟨s.ptr,k,s.cap⟩ w f (l.take k):=by
 refine⟨oo,λi x a=>?_⟩;rw[List.getElem?_take]at a;split at a
 .exact b.elem i x a
 grind
theorem getD_lt{α:Type}{l:List α}{d:α}{i:Nat}(h:i<n1 l:=by omega):l.getD i d=l[i]:=oo
structure HP where
 p:hY->au->Prop
 loc:∀{h h':hY} {q:au},p h q->aP q h h'->p h' q
 mono:∀{h:hY} {q q':au},p h q->(∀b,q b->q' b)->p h q'
def emp:HP:=⟨λ_ _=>True,λ_ _=>trivial,λ_ _=>trivial⟩
def ai{α:Type}(e:TypeId)(s:Sl)(k:Nat)(f:α->aR)(l:List α):HP:=
 ⟨λh q=>Own h e s k f l/\∀b,s.on b->q b,λa g=>⟨a.1.ac g a.2,a.2⟩,λa c=>⟨a.1,λb d=>c b (a.2 b d)⟩⟩
def aj(a:fY)(e:TypeId)(c:aR):HP:=
 ⟨λh q=>bR h a e c/\q a.block,λx d=>⟨x.1.ac d x.2,x.2⟩,λx b=>⟨x.1,b _ x.2⟩⟩
def vz{α:Type}(s:Sl)(k:Nat)(f:α->aR)(l:List α):HP:=
 ⟨λh q=>Seq h q s k f l,λa c=>a.ac c,λa b=>a.mono b⟩
def dD{α:Type}(e:TypeId)(s:Sl)(k:Nat)(f:α->aR)(ll:List (List α)):HP:=
 ⟨λh q=>∃(rs:List Sl) (j:au),Own h e s 1 bv rs/\(∀b,s.on b->q b/\¬j b)/\(∀b,j b->q b)/\rs.length=n1 ll/\∀(i:Nat) r l,rs[i]?=cO r->ll[i]?=cO l->Seq h j r k f l,
  λ⟨rs,j,a,b,c,d,e⟩ hp=>⟨rs,j,a.ac hp λx g=>(b x g).1,b,c,d,λi r l m n=>(e i r l m n).ac (hp.mono λx _ g=>c x g)⟩,
  λ⟨rs,j,a,b,c,d,e⟩ hq=>⟨rs,j,a,λx g=>⟨hq x (b x g).1,(b x g).2⟩,λx g=>hq x (c x g),d,e⟩⟩
structure aa (B:au) (h0 h:hY) (As:List HP):Prop where
 low:∀b,B b->b<h0.size
 ac:aP B h0 h
 ex:∃c:Nat->Nat,(∀b,B b->c b=0)/\∀(i:Nat) (A:HP),As[i]?=cO A->A.p h (λb=>b<h.size/\c b=i+1)
abbrev Sp(a h:hY)(As:List HP):Prop:=aa (λb=>b<a.size) a h As
variable {As:List HP} {A2 D:HP}
section
variable {B:au} {Bs:List HP} {A:HP} {i:Nat}
theorem Sp.refl(h:hY):Sp h h []:=⟨λ_ h=>h,aP.refl _ _,λ_=>0,λ_ _=>rfl,λi A a=>oo⟩
theorem aa.at(H:aa B h0 h As)(i:Nat)(e:As[i]?=cO A):A.p h (λb=>b<h.size):=by obtain⟨c,_,a⟩:=H.ex;exact A.mono (a i A e) λ_ d=>d.1
theorem aa.fin(H:aa B h0 h As)(i:Nat)(f:As[i]?=cO A):A.p h (λb=>¬B b/\b<h.size):=by obtain⟨c,g,a⟩:=H.ex;exact A.mono (a i A f) λb d=>⟨λe=>oo,d.1⟩
theorem Sp.fresh(H:Sp h0 h As)(i:Nat)(c:As[i]?=cO A):A.p h (λb=>h0.size<=b/\b<h.size):=
 A.mono (aa.fin H i c) λb a=>⟨n3,a.2⟩
theorem aa.comp(H:aa B h0 h As)(R:Sp h h' Bs):aa B h0 h' (As++Bs):=by
 obtain⟨j,g,m,p,n⟩:=H;obtain⟨_,d,f,o,l⟩:=R;have e:=g.1;refine⟨j,g.then d λb a _=>qY a e,λb=>if b<h.size then m b else if f b=0 then 0 else As.length+f b,λb a=>?_,λi A c=>?_⟩
 .grind
 .by_cases k:i<n1 As
  .rw[qw k]at c;refine A.mono (A.loc (n i A c) (d.mono λb _ a=>a.1)) λb a=>⟨qY a.1 d.1,?_⟩
   grind
  .rw[ql n3]at c;refine A.mono (l _ A c) λb a=>⟨a.1,?_⟩
   grind
theorem aa.up(H:aa B h0 h As)(R:aP (λb=>b<h.size) h h'):aa B h0 h' As:=by
 have:=H.comp (Bs:=[]) ⟨λ_ h=>h,R,λ_=>0,λ_ _=>rfl,λi A a=>oo⟩
 grind
theorem Sp.one(R:aP (λb=>b<h.size) h h')(c:A.p h' λb=>h.size<=b/\b<h'.size):Sp h h' [A]:=by
 refine⟨λ_ h=>h,R,λb=>if b<h.size then 0 else 1,λb a=>l0 a,λi A2 d=>?_⟩
 grind
theorem Sp.zip(R:aP (λb=>b<h.size) h h'):Sp h h' []:=aa.up (Sp.refl h) R
theorem aa.enter(q:au)(c:Nat->Nat)(e:∀b,q b->b<h.size)(a:∀(i:Nat) (A:HP),As[i]?=cO A->A.p h λb=>q b/\c b=i+1):aa (λb=>b<h.size/\¬q b) h h As:=by
 classical
 refine⟨λb d=>d.1,aP.refl _ _,λb=>if q b then c b else 0,λb d=>m6 d.2,λi A f=>A.mono (a i A f) λb d=>⟨e b d.1,?_⟩⟩
 grind
theorem aa.LP(q:au)(c:∀b,q b->b<h.size)(a:A.p h q):aa (λb=>b<h.size/\¬q b) h h [A]:=
 .enter q (λ_=>1) c λi A2 d=>by
  cases i with
  |succ i=>grind
  |zero=>grind
theorem aa.AT(l:∀b,B b->b<h0.size)(f:aP B h0 h)(z:∀b,B b->c b=0)(a:∀(i:Nat) (A:HP),As[i]?=cO A->A.p h λb=>b<h.size/\c b=i+1)
  (k:aP (λb=>¬(b<h.size/\c b=i+1)) h h') (n:D.p h' λb=>b<h'.size/\((b<h.size/\c b=i+1)∨h.size<=b)):aa B h0 h' (As.set i D):=by
 refine⟨l,f.then k λb _ d m=>oo,grow c h.size (i+1),λb d=>?_,λj A e=>?_⟩
 .rw[gH (qY (l b d) f.1)];grind
 .rw[qZ]at e;split at e
  .rename_i g;subst g;split at e
   .injection e with e
    subst e;refine D.mono n λb d=>⟨d.1,?_⟩
    rcases d.2 with h1|h1
    .rw[gH h1.1];grind
    .exact pA h1
   grind
  .refine A.mono (A.loc (a j A e) (k.mono λb _ d m=>n3)) λb d=>⟨qY d.1 k.1,?_⟩
   rw[gH d.1];omega
theorem aa.step(H:aa B h0 h As)(i:Nat)(j:As[i]?=cO A)(e:∀q:au,A.p h q->(∀b,q b->b<h.size)->aP (λb=>¬q b) h h'/\D.p h' λb=>b<h'.size/\(q b∨h.size<=b)):aa B h0 h' (As.set i D):=by obtain⟨k,p,c,z,a⟩:=H;obtain⟨g,d⟩:=e _ (a i A j) λb f=>f.1;exact aa.AT k p z a g d
theorem aa.dG(H:aa B h0 h As)(i:Nat)(f:As[i]?=cO A)(e:∀q:au,A.p h q->D.p h q):aa B h0 h (As.set i D):=
 H.step i f λq d a=>⟨aP.refl _ _,D.mono (e q d) λb c=>⟨a b c,.inl c⟩⟩
theorem aa.merge(H:aa B h0 h As)(i j:Nat)(n:i≠j)(o:As[i]?=cO A)(q:As[j]?=cO A2)
  (r:∀e f:au,(∀b,e b->¬f b)->A.p h e->A2.p h f->D.p h λb=>e b∨f b):aa B h0 h ((As.set i D).set j emp):=by
 obtain⟨m,p,c,z,a⟩:=H;refine⟨m,p,λb=>if c b=j+1 then i+1 else c b,λb g=>?_,λk l d=>?_⟩
 .grind
 .rw[qZ]at d;split at d
  .split at d
   .cases d;trivial
   grind
  .rw[qZ]at d;split at d
   .split at d
    .injection d with d
     subst d;refine D.mono (r _ _ (λb s t=>n3) (a i A o) (a j A2 q)) λb g=>?_
     grind
    .cases d
   .refine l.mono (a k l d) λb g=>⟨g.1,?_⟩
    dsimp only;rw[m6 n3];omega
theorem aa.pick(H:aa B h0 h As)(f:Nat->Nat)(m:∀i j,f i=f j->i=j)(g:∀(i:Nat) (A2:HP),Bs[i]?=cO A2->As[f i]?=cO A2):aa B h0 h Bs:=by
 obtain⟨k,p,c,z,a⟩:=H
 classical
 refine⟨k,p,λb=>if d:∃i,c b=f i+1 then d.choose+1 else 0,λb d=>?_,λi A2 l=>?_⟩
 .grind
 .refine A2.mono (a _ _ (g i A2 l)) λb d=>⟨d.1,?_⟩
  have e:∃i,c b=f i+1:=⟨i,d.2⟩
  grind
theorem aa.take(H:aa B h0 h As)(n:Nat)(a:∀(i:Nat) (A2:HP),Bs[i]?=cO A2->As[n+i]?=cO A2):aa B h0 h Bs:=H.pick (λi=>n+i) (λ_ _ h=>n3) a
end
section
variable {B:au} {C:Ctx} {i e:Nat}
theorem aa.own(H:aa B h0 h As)(i:Nat)(a:As[i]?=cO (ai e s k f l)):Own h e s k f l:=(H.at i a).1
theorem aa.seq(H:aa B h0 h As)(i:Nat)(a:As[i]?=cO (ai e s k f l))(c:∀x,(f x).length=k):Seq h (λb=>b<h.size) s k f l:=(H.at i a).1.seq c (H.at i a).2
theorem aa.rd(H:aa B h0 h As)(i:Nat)(a:As[i]?=cO (vz s k f l)):Seq h (λb=>b<h.size) s k f l:=H.at i a
theorem aa.box(H:aa B h0 h As)(i:Nat)(b:As[i]?=cO (aj a e cs)):bR h a e cs:=(H.at i b).1
theorem aa.oa(H:aa B h0 h As)(i:Nat)(q:As[i]?=cO (ai e s k f l)){β:Type}{e' n:Nat}{g:β->aR}{m:List β}(o:aP (λb=>¬s.on b) h h')(p:Own h' e' s n g m):aa B h0 h' (As.set i (ai e' s n g m)):=
 H.step i q λ_ c j=>⟨o.mono λb _ a d=>a (c.2 b d),p,λb a=>⟨qY (j b (c.2 b a)) o.1,.inl (c.2 b a)⟩⟩
theorem aa.oc(H:aa B h0 h As)(i:Nat)(m:As[i]?=cO (aj a e cs)){c:aR}(j:aP (λb=>b≠a.block) h h')(k:bR h' a e c):aa B h0 h' (As.set i (aj a e c)):=
 H.step i m λq d g=>⟨j.mono λb _ l f=>l (by rw[f];exact d.2),k,⟨qY (g _ d.2) j.1,.inl d.2⟩⟩
theorem aa.freeze(H:aa B h0 h As)(i:Nat)(b:As[i]?=cO (ai e s k f l))(c:∀x,(f x).length=k):aa B h0 h (As.set i (vz s k f l)):=H.dG i b λ_ a=>a.1.seq c a.2
theorem aa.set(p:C.Ok)(H:aa B h0 h As)(i:Nat)(d:As[i]?=cO (ai e s k f l))(r:∀x,(f x).length=k)(j:C.T.get t=cO ti){x:Int}(n:Nat)(g:x=n)(m:n<n1 l){val:eX}(y:α)(q:val.cells=(f y).toArray)(c:ti.size=k)
  (b:(f y).all (·.oneCell')=eH) {K:hY->Prop} (o:∀h',aa B h0 h' (As.set i (ai e s k f (l.set n y)))->K h'):
  ∃a:fY,(s.ptr=cO a/\0<=x/\x<((s.len:Nat):Int))/\av C.P (qL t (.pointer (cO (a.add (x.toNat*k)))) val) h λ_ h'=>K h':=
 (H.own i d).set p r j n g m y q c b λh' z w _=>o h' (H.oa i d w z)
theorem aa.push(G:C.Ok)(H:aa B h0 h As)(i:Nat)(M:As[i]?=cO (ai e s k f l))(J:bS C.toAk t e k z by_)(y:n1 z=k)(q:0<by_/\by_<=128)(Q:∀x,(f x).length=k)
  (m:∀x,∀c∈f x,c.oneCell'=eH) (x:α) {parts:Array (Nat×eX)} (d:wC (λi=>cO (i*k,k)) (iI z 1).toArray parts.toList=cO ([x].flatMap f).toArray)
  (r:1*k<=2^20) (u:n1 l+1<=2^32) {ty:Nat} {K:Sl->hY->Prop}
  (E:∀n h',aa B h0 h' (As.set i (ai e n k f (l++[x])))->K n h'):
  bC C.P (zJ t 1 parts) (.one (.sc .slc)) h λv D=>bC C.P (zb #[t,t] ty #[.slice s.ptr s.len s.cap,.slice v.ptr v.len v.cap]) (.one (.sc .slc)) D K:=by
 obtain⟨F,N,c,I,a⟩:=H;have w:=a i _ M;have O:dT h c (i+1) e s k f l:=⟨w.1,λb j=>(w.2 b j).2⟩
 refine O.push G J y q Q m x d r u λn h' g o=>E n h' ?_;refine aa.AT F N I a (o.mono λb j A L=>A ⟨j,L⟩) ⟨g.own,λb j=>⟨g.own.lt j,?_⟩⟩;have:=g.aZ b j;by_cases p:b<h.size
 .rw[gH p]at this;grind
 grind
theorem aa.append(E:C.Ok)(H:aa B h0 h As)(i:Nat)(L:As[i]?=cO (ai e s k f l))(G:bS C.toAk t e k z by_)(I:∃i e2,C.T.get t2=cO i/\i.co=.slice e2)(w:n1 z=k)(q:0<by_/\by_<=128)(Q:∀x,(f x).length=k)
  (O:Seq h p v k f l2) (j:∀x,∀c∈f x,c.oneCell'=eH) (r:n1 l+n1 l2<=2^32) {ty:Nat} {K:Sl->hY->Prop}
  (A:∀m h',aa B h0 h' (As.set i (ai e m k f (l++l2)))->K m h'):
  bC C.P (zb #[t,t2] ty #[.slice s.ptr s.len s.cap,.slice v.ptr v.len v.cap]) (.one (.sc .slc)) h K:=by
 obtain⟨D,M,c,F,a⟩:=H;have u:=a i _ L;have N:dT h c (i+1) e s k f l:=⟨u.1,λb g=>(u.2 b g).2⟩
 refine N.append E G I w q Q O j r λm h' d n=>A m h' ?_;refine aa.AT D M F a (n.mono λb g y J=>y ⟨g,J⟩) ⟨d.own,λb g=>⟨d.own.lt g,?_⟩⟩;have:=d.aZ b g;by_cases o:b<h.size
 .rw[gH o]at this;grind
 grind
theorem Eb{h h':hY}{n:Nat}(g:n=h.size)(d:Own h' e s k f l)(i:s.ptr=cO ⟨n,0,dB⟩)(c:aP (λ_=>True) h h'):Sp h h' [ai e s k f l]:=
 .one (any c) ⟨d,λb a=>⟨by obtain⟨o,a⟩:=a;grind,d.lt a⟩⟩
theorem aa.make(s:C.Ok)(H:aa B h0 h As)(f:α->aR)(v:bS C.toAk t e k z by_)(g:0<by_/\by_<=128)(d:α)(p:f d=z)(j:n1 z=k){o D:IntKind}{n l:Int}(m b:Nat)(q:n=m)(A:l=b)(i:m<=b)(c:b<=2^32)
  {K:Sl->hY->Prop} (r:∀a h',a.len=m->a.cap=b->aa B h0 h' (As++[ai e a k f (qi m d)])->K a h'):
  bC C.P (zF t (.int o n) (.int D l)) (.one (.sc .slc)) h K:=
 run_make s v g d p j m b q A i c λa h' x y w u _=>r a h' (by rw[x.len];simp) w (H.comp (Eb n2 x y u))
theorem aa.lit(m:C.Ok)(H:aa B h0 h As)(f:α->aR)(p:bS C.toAk t e k z by_)(d:n1 z=k){n:Nat}{parts:Array (Nat×eX)}(l:List α)(g:n1 l=n)(c:n*k<=2^20)
  (a:wC (λi=>cO (i*k,k)) (iI z n).toArray parts.toList=cO (l.flatMap f).toArray) {K:Sl->hY->Prop}
  (j:∀b h',aa B h0 h' (As++[ai e b k f l])->K b h'):
  bC C.P (zJ t n parts) (.one (.sc .slc)) h K:=
 It m p d l g c a λb h' x y o _=>j b h' (H.comp (Eb n2 x y o))
theorem Iu{h h':hY}(d:a.block=h.size)(c:bR h' a e cs)(b:aP (λ_=>True) h h'):Sp h h' [aj a e cs]:=
 .one (any b) ⟨c,n3,c.lt⟩
theorem aa.alloc(b:C.Ok)(H:aa B h0 h As)(e:C.T.get t=cO ti){K:fY->hY->Prop}(d:∀a h',aa B h0 h' (As++[aj a t ti.zero])->K a h'):
  oF C.P (y8 t eH (.tuple #[])) h K:=
 uy b e λa h' x y c _=>d a h' (H.comp (Iu x y c))
theorem aa.boxed(H:aa B h0 h As){P:Program}{v:eX}{K:fY->hY->Prop}(c:∀a h',aa B h0 h' (As++[aj a t v.cells.toList])->K a h'):
  oF P (xn t v) h K:=
 PT λa h' x y b _=>c a h' (H.comp (Iu x y b))
theorem aa.store(g:C.Ok)(H:aa B h0 h As)(i:Nat)(f:As[i]?=cO (aj a e cs))(j:C.T.get t=cO ti)(off:Nat){v:eX}(vs:aR)(k:v.cells=vs.toArray)(d:ti.size=n1 vs)
  (b:vs.all (·.oneCell')=eH) (c:off+n1 vs<=n1 cs) {K:Unit->hY->Prop}
  (l:∀h',aa B h0 h' (As.set i (aj a e (cs.take off++vs++cs.drop (off+n1 vs))))->K () h'):
  av C.P (qL t (.pointer (cO (a.add off))) v) h K:=
 run_store g (H.box i f) j off vs k d b c λh' x y _=>l h' (H.oc i f y x)
theorem aa.gx(f:C.Ok)(H:aa B h0 h As)(i:Nat)(l:As[i]?=cO (aj a e cs))(g:C.T.get t=cO ti){v:eX}(vs:aR)(j:v.cells=vs.toArray)(c:ti.size=n1 vs)
  (b:vs.all (·.oneCell')=eH) (d:n1 vs<=n1 cs) {K:Unit->hY->Prop}
  (k:∀h',aa B h0 h' (As.set i (aj a e (vs++cs.drop vs.length)))->K () h'):
  av C.P (qL t (.pointer (cO a)) v) h K:=
 H.store f i l g 0 vs j c b n3 (λh' x=>k h' oo)
theorem aa.nil(H:aa B h0 h As)(e k:Nat)(f:α->aR):aa B h0 h (As++[ai e ⟨dB,0,0⟩ k f []]):=
 H.comp (.one (aP.refl _ _) ⟨Own.nil h e k f,λb a=>by obtain⟨o,a⟩:=a;cases a⟩)
theorem aa.sv(H:aa B h0 h As)(e k:Nat)(f:α->aR):aa B h0 h (As++[dD e ⟨dB,0,0⟩ k f []]):=
 H.comp (.one (aP.refl _ _) ⟨[],λ_=>False,Own.nil h e 1 bv,λb a=>(by obtain⟨o,a⟩:=a;cases a),λ_ a=>a.elim,rfl,λi r l h=>n9⟩)
theorem aa.jE(Y:C.Ok)(H:aa B h0 h As)(i j:Nat)(A:i≠j){ll:List (List α)}{r:Sl}{x:List α}(S:As[i]?=cO (dD e s k f ll))(hj:As[j]?=cO (vz r k f x))(he:bS C.toAk t e 1 [.slice dB 0 0] 24)
  (ab:n1 ll+1<=2^32) {ty:Nat} {K:Sl->hY->Prop} (X:∀N h',aa B h0 h' ((As.set j emp).set i (dD e N k f (ll++[x])))->K N h'):
  bC C.P (zJ t 1 #[(0,.slice r.ptr r.len r.cap)]) (.one (.sc .slc)) h λv o=>bC C.P (zb #[t,t] ty #[.slice s.ptr s.len s.cap,.slice v.ptr v.len v.cap]) (.one (.sc .slc)) o K:=by
 have Z:=H.merge i j A S hj (D:=⟨λh q=>∃(rs:List Sl) (g:au),Own h e s 1 bv rs/\(∀b,s.on b->q b/\¬g b)/\(∀b,g b->q b)/\rs.length=n1 ll/\(∀(i:Nat) r l,rs[i]?=cO r->ll[i]?=cO l->Seq h g r k f l)/\Seq h g r k f x,
  λ⟨rs,g,a,b,c,d,e,f⟩ hp=>⟨rs,g,a.ac hp λx n=>(b x n).1,b,c,d,λi r l o z=>(e i r l o z).ac (hp.mono λx _ n=>c x n),f.ac (hp.mono λx _ n=>c x n)⟩,
  λ⟨rs,g,a,b,c,d,e,f⟩ hq=>⟨rs,g,a,λx n=>⟨hq x (b x n).1,(b x n).2⟩,λx n=>hq x (c x n),d,e,f⟩⟩)
  (λg q2 U hA hB=>by
   obtain⟨rs,q3,a,b,c,d,e'⟩:=hA;refine⟨rs,λb=>q3 b∨q2 b,a,λx n=>⟨.inl (b x n).1,λJ=>J.elim (b x n).2 (U x (b x n).1)⟩,λx n=>n.elim (λh=>.inl (c x h)) .inr,d,λi r l o z=>(e' i r l o z).mono λ_ h=>.inl h,Seq.mono hB λ_ h=>.inr h⟩)
 have p:i<n1 As:=(qm.1 S).1;obtain⟨W,pp,c,zz,a⟩:=Z;have ha:=a i _ (by rw[wP (Ne.symm A),zG p]);obtain⟨rs,g,a1,a2,a3,a4,a5,a6⟩:=ha;let T:Nat->Nat:=λb=> @ite _ (g b) (Classical.propDecidable _) (n1 As+2) (c b);have G:∀b,g b->b<h.size/\c b=i+1:=a3;have ho:dT h T (i+1) e s 1 bv rs:=⟨a1,λb m=>by
  have:=a2 b m;show @ite _ (g b) (Classical.propDecidable _) _ _=_;rw[m6 this.2];exact this.1.2⟩
 refine ho.push Y he n2 n4 (λ_=>rfl) jK r n2 n4 n3 λN h' E F=>X N h' ?_;rw[vk _ _ (Ne.symm A)];rw[<-vd (l:=As) (i:=i),vk _ _ A];have L:∀b,g b->T b≠i+1:=λb m=>by
  show @ite _ (g b) (Classical.propDecidable _) _ _≠_;rw[l0 m];omega
 refine aa.AT W pp zz a (F.mono λb m V hc=>V ⟨m,?_⟩) ⟨rs++[r],λb=>g b/\b<h.size,E.own,λb m=>?_,λb m=>⟨qY m.2 F.1,.inl ⟨m.2,(G b m.1).2⟩⟩,by simp[a4],λQ r' l' o z=>?_⟩
 .by_cases y:g b
  .exact(G b y).2
  .have w:@ite _ (g b) (Classical.propDecidable _) (n1 As+2) (c b)=i+1:=hc;rw[m6 y]at w;exact w
 .have u:=E.aZ b m;by_cases p:b<h.size
  .rw[gH p]at u;have M:¬g b:=λy=>L b y u;have w:@ite _ (g b) (Classical.propDecidable _) (n1 As+2) (c b)=i+1:=u;rw[m6 M]at w;exact⟨⟨E.own.lt m,.inl ⟨p,w⟩⟩,λJ=>M J.1⟩
  .exact⟨⟨E.own.lt m,.inr n3⟩,λJ=>p J.2⟩
 .have I:∀{R:Sl} {l:List α},Seq h g R k f l->Seq h' (λb=>g b/\b<h.size) R k f l:=λhs=>
   (hs.mono (q:=λb=>g b/\b<h.size) λb m=>⟨m,(G b m).1⟩).ac (F.mono λb _ m=>L b m.1)
  by_cases O:Q<n1 rs
  .rw[qw O]at o;rw[qw n3]at z;exact I (a5 Q r' l' o z)
  .have:Q=n1 rs:=by have:=(qm.1 o).1;simp at this;omega
   subst this;simp at o;rw[a4]at z;simp at z;subst o;subst z;exact I a6
theorem aa.rows(H:aa B h0 h As)(i:Nat){ll:List (List α)}(n:As[i]?=cO (dD e s k f ll)):∃rs,gP h (λb=>b<h.size) s k f ll rs:=by obtain⟨rs,o,a,b,c,d,e⟩:=H.at i n;exact⟨rs,a.seq (λ_=>rfl) λx j=>(b x j).1,d,λi r l m g=>(e i r l m g).mono c⟩
end
theorem Xa(vs:aR):∀(pre old post:aR),n1 old=n1 vs->((vs.zipIdx 0).foldl (λ(cs:Array eX) (p:eX×Nat)=>cs.setIfInBounds (n1 pre+p.2) p.1) (pre++old++post).toArray)=(pre++vs++post).toArray:=by
 have a:∀(vs pre old post:aR) (k:Nat),n1 old=n1 vs->n1 pre=n1 pre->∀n,n+k=n1 pre->((vs.zipIdx k).foldl (λ(cs) (p)=>cs.setIfInBounds (n+p.2) p.1) (pre++old++post).toArray)=(pre++vs++post).toArray:=by
  intro vs
  induction vs with
  |nil=>intro pre old post k b _ n _;rw[qV b];rfl
  |cons v vs ih=>
   intro pre old post k b _ n c;cases old with
   |nil=>grind
   |cons u old=>
    rw[List.zipIdx_cons,zS];have e:(pre++(u::old)++post).toArray.setIfInBounds (n+k) v=((pre++[v])++old++post).toArray:=by rw[c];simp
    rw[e,ih (pre++[v]) old post (k+1) oo n2 n n7];simp
 intro pre old post h;exact a vs pre old post 0 h n2 pre.length (n2)
theorem LQ{a:Nat->Option (Nat×Nat)}{i:Nat}{v:eX}{vs pre old post:aR}{rest:List (Nat×eX)}(c:v.cells=vs.toArray)(d:a i=cO (n1 pre,n1 vs))(b:n1 old=n1 vs):
  wC a (pre++old++post).toArray ((i,v)::rest)=wC a (pre++vs++post).toArray rest:=by
 conv=>lhs;unfold wC
 have:=Xa vs pre old post b
 grind
section
variable {C:Ctx}
theorem tv(d:C.Ok)(j:C.T.get t=cO i){l:List (Nat×TypeId)}(b:i.co=.struct l){ps:List (Nat×Nat)}(e:placesOf C.T l=cO ps){vs:List (Nat×eX)}{cells:Array eX}
  (a:wC (λn=>ps[n]?) i.zero.toArray vs=cO cells):aL C.P (Instr.build t vs.toArray) (.agg cells):=by
 obtain⟨z,m,o⟩:=pY d.toOk j;have k:i.zero.toArray=z.cells:=oo
 have h:=d.co j;rw[b]at h;obtain⟨q,p,rfl⟩:=oD h;refine m.bind ((aK p).bind ?_);have c:aL C.P (q.mapM λf=>(do pure (f.offset,<-sizeOf f.type))) ps.toArray:=by rw[Array.mapM_eq_mapM_toList];intro w;have:=sZ d.toOk e w;rw[map_eq_pure_bind,Sem.run_bind,this];rfl
 refine c.bind ?_;have g:wC (λn=>ps.toArray[n]?) z.cells vs.toArray.toList=cO cells:=oo
 rw[g];exact .pure
end
theorem take_set{α:Type}(l:List α)(n:Nat)(x:α)(h:n<n1 l):l.take n++[x]++l.drop (n+1)=l.set n x:=by rw[yI,l0 h];simp
section
variable {B:au} {C:Ctx} {e:Nat}
theorem aa.storeAt(f:C.Ok)(H:aa B h0 h As)(i:Nat)(l:As[i]?=cO (aj a e cs))(g:C.T.get t=cO ti){off:Nat}{v:eX}(j:v.cells=#[v])(c:ti.size=1)
  (d:v.oneCell'=eH) (b:off<n1 cs) {K:Unit->hY->Prop}
  (k:∀h',aa B h0 h' (As.set i (aj a e (cs.set off v)))->K () h'):
  av C.P (qL t (.pointer (cO (a.add off))) v) h K:=
 H.store f i l g off [v] j c oo oo λh' x=>k h' (by rw[<-take_set _ _ _ b];grind)
theorem aa.storeAll(f:C.Ok)(H:aa B h0 h As)(i:Nat)(l:As[i]?=cO (aj a e cs))(g:C.T.get t=cO ti){v:eX}(vs:aR)(j:v.cells=vs.toArray)(c:ti.size=n1 vs)
  (b:vs.all (·.oneCell')=eH) (d:n1 vs=n1 cs) {K:Unit->hY->Prop}
  (k:∀h',aa B h0 h' (As.set i (aj a e vs))->K () h'):
  av C.P (qL t (.pointer (cO a)) v) h K:=
 H.gx f i l g vs j c b n3 λh' x=>k h' oo
end
theorem kp(n:Nat)(a:n<=9223372036854775807:=by omega):qe xV (n:Int)=n:=ag _
abbrev Rd{α:Type}(h:hY)(s:Sl)(k:Nat)(f:α->aR)(l:List α):Prop:=Seq h (λb=>b<h.size) s k f l
abbrev eu{α:Type}(h:hY)(s:Sl)(k:Nat)(f:α->aR)(ll:List (List α)):Prop:=∃rs,gP h (λb=>b<h.size) s k f ll rs
section
variable {B:au} {e:Nat}
theorem eu.up(a:eu h s k f ll)(c:aP (λb=>b<h.size) h h'):eu h' s k f ll:=by obtain⟨rs,a⟩:=a;exact⟨rs,gP.up a c⟩
theorem eu.len(a:eu h s k f ll):s.len=n1 ll:=by obtain⟨rs,a⟩:=a;exact a.LL
theorem eu.get(b:eu h s k f ll){i:Int}(n:Nat)(g:i=n)(d:n<n1 ll){K:Sl->Prop}(e:∀r,Rd h r k f ll[n]->K r):
  ∃a:fY,(s.ptr=cO a/\0<=i/\i<((s.len:Nat):Int))/\∃x:Sl,hU h (a.add (i.toNat*1))=cO (.slice x.ptr x.len x.cap)/\K x:=by
 obtain⟨rs,b⟩:=b;exact b.get n g d λr c _=>e r c
theorem Seq.isSome{p:au}(a:Seq h p s k f l)(c:l≠[]):s.ptr.isNone=eL:=by
 cases l with
 |nil=>grind
 |cons x t=>obtain⟨b,o,d,_⟩:=a.elem 0 x (rfl);grind
theorem Seq.isNil{p:au}(b:Seq h p s k f l)(a:s.ptr.isNone=eH):l=[]:=by
 cases l with
 |nil=>rfl
 |cons x t=>rw[b.isSome n9]at a;cases a
theorem aa.oG(H:aa B h0 h As)(i:Nat)(a:As[i]?=cO (dD e s k f ll)):eu h s k f ll:=H.rows i a
end
section
variable {B:au} {Bs:List HP} {A:HP}
theorem aa.del(H:aa B h0 h As)(i:Nat):aa B h0 h (As.eraseIdx i):=
 H.pick (λj=>if j<i then j else j+1) (λa b c=>oo) λj A d=>oo
theorem aa.call(H:aa B h0 h As)(i:Nat)(z:As[i]?=cO A)(q:au)(J:∀q':au,A.p h q'->∀b,q b->q' b)(R:aa (λb=>b<h.size/\¬q b) h h' (D::Bs)):aa B h0 h' (As.set i D++Bs):=by
 classical
 obtain⟨v,y,g,K,E⟩:=H;obtain⟨_,s,f,L,x⟩:=R;have t:=y.1;have u:=(qm.1 z).1;have m:∀b,q b->b<h.size/\g b=i+1:=J _ (E i A z);have G:∀b,B b->b<h.size/\¬q b:=λb a=>⟨qY (v b a) t,λr=>by have:=K b a;have:=m b r;omega⟩
 let c:Nat->Nat:=λb=>if b<h.size/\¬q b then(if g b=i+1 then 0 else g b)else if f b=0 then 0 else if f b=1 then i+1 else As.length+f b-1
 have j:∀b,b<h.size/\¬q b->g b≠i+1->c b=g b:=λb a F=>by show ite _ _ _=_;rw[l0 a,m6 F]
 have e:∀b,f b≠0->c b=if f b=1 then i+1 else As.length+f b-1:=λb a=>oo
 refine⟨v,y.then s λb _ a=>G b a,c,λb a=>?_,λk n d=>?_⟩
 .grind
 .by_cases w:k<n1 As
  .rw[qw (by simpa using w),qZ]at d;split at d
   .rename_i o;subst o;injection d with d
    subst d;refine D.mono (x 0 D n2) λb a=>⟨a.1,?_⟩
    rw[e b n3,l0 a.2]
   .have l:∀b,b<h.size/\g b=k+1->b<h.size/\¬q b:=λb a=>⟨a.1,λr=>by have:=m b r;omega⟩
    refine n.mono (n.loc (E k n d) (s.mono λb _ a=>l b a)) λb a=>⟨qY a.1 s.1,?_⟩
    rw[j b (l b a) n3];exact a.2
  .rw[ql (by simpa using w)]at d;have I:=x (k-n1 As+1) n (by simpa using d);refine n.mono I λb a=>⟨a.1,?_⟩
   rw[e b n3,m6 n3];omega
end
def bJ(p:Int×Int×Int):Bool:=decide (p.1>=1)&&(decide (p.1<=16)&&(decide (p.2.1>=1)&&(decide (p.2.1<=4)&&(decide (p.2.2>=1)&&decide (p.2.2<=24)))))
theorem bL(p:Int×Int×Int):bJ p=eH↔(1<=p.1/\p.1<=16)/\(1<=p.2.1/\p.2.1<=4)/\1<=p.2.2/\p.2.2<=24:=by simp[bJ,and_assoc]
def bE(p:Int×Int×Int):Int:=if bJ p then p.1+p.2.1 else 0
def tw(s:Int):Int:=qe xY (qe xY (s*(6364136223846793005:Int))+(1442695040888963407:Int))
def told(s:Int):Int:=qe xX (zr (tw s) (2^min (32:Int).toNat (qx xY)))
def jf(s n:Int):Int:=qe xV (xH (qe xY (told s)) (qe xY n))
theorem wrap_u64(x:Int):qe xY x=x%18446744073709551616:=rfl
theorem wrap_u32(x:Int):qe xX x=x%4294967296:=rfl
theorem nQ(s n:Int)(c:0<n:=by omega)(e:n<=2^62:=by omega):0<=jf s n/\jf s n<n:=by
 unfold jf;have a:qe xY n=n:=B1
 rw[a];have b:0<=qe xY (told s):=B1
 have e2:=vb (qe xY (told s)) c;have d:0<=xH (qe xY (told s)) n:=Int.tmod_nonneg n b;rw[Qw.ag _];omega
def eZ(l:aD)(i:Nat):Int:=l.getD i 0
def jb(l:aD)(i j:Nat):aD:=(l.set i (eZ l j)).set j (eZ l i)
theorem pB(l:aD)(i j:Nat):(jb l i j).length=n1 l:=by simp[jb]
def dY(n:Nat)(s:Int)(l:aD):Nat->Int×aD
 |0=>(s,l)
 |k+1=>(tw (dY n s l k).1,jb (dY n s l k).2 k (k+(jf (dY n s l k).1 ((n-k:Nat):Int)).toNat))
theorem pC(n:Nat)(s:Int)(l:aD):∀k,(dY n s l k).2.length=n1 l
 |0=>rfl
 |k+1=>by rw[dY,pB,pC n s l k]
theorem Fq{l:aD}{i:Nat}(h:i<n1 l):eZ l i∈l:=by rw[eZ,qg,qd h];simp
theorem Xb{l:aD}{i j:Nat}(c:i<n1 l)(b:j<n1 l){x:Int}(a:x∈jb l i j):x∈l:=by
 rcases zT a with h|h
 .rcases zT h with h|h
  .exact h
  .rw[h];exact Fq b
 .rw[h];exact Fq c
def upto(n:Nat):aD:=(qz n).map λi:Nat=>(i:Int)
theorem fA(n:Nat):(upto n).length=n:=by simp[upto]
theorem Fs(n:Nat)(s:Int):∀k,k<=n->∀x∈(dY n s (upto n) k).2,0<=x/\x<n
 |0,_,x,hx=>by
  simp only[dY,upto,qI,q8]at hx;omega
 |k+1,hk,x,hx=>by
  have j:k<n->n-k<=2^62->k+(jf (dY n s (upto n) k).1 ((n-k:Nat))).toNat<n:=λl f=>by
   have:=nQ (dY n s (upto n) k).1 ((n-k:Nat));omega
  have e:=pC n s (upto n) k;rw[fA]at e;by_cases c:n-k<=2^62
  .refine Fs n s k n3 x (Xb n3 ?_ hx);omega
  .--beyond any size:what is set is 0 or a member
   have b:∀y∈jb (dY n s (upto n) k).2 k (k+(jf (dY n s (upto n) k).1 ((n-k:Nat))).toNat),y∈(dY n s (upto n) k).2∨y=0:=by
    intro y d;have g:∀i,eZ (dY n s (upto n) k).2 i∈(dY n s (upto n) k).2∨eZ (dY n s (upto n) k).2 i=0:=λi=>by
     by_cases h:i<(dY n s (upto n) k).2.length
     .exact .inl (Fq h)
     .simp only[eZ,];grind
    rcases zT d with h|h
    .grind
    grind
   rcases b x hx with h|h
   .exact Fs n s k n3 x h
   grind
def mq(l:aD):aD:=l.mergeSort λx y=>decide (x<=y)
theorem Jn(l:aD):(mq l).length=n1 l:=wT l
theorem Jo(l:aD)(x:Int):x∈mq l↔x∈l:=List.mem_mergeSort
def AU(s:Int)(n k:Nat):aD:=mq ((dY n s (upto n) k).2.take k)
theorem Xc{s:Int}{n k:Nat}(b:k<=n){x:Int}(a:x∈AU s n k):0<=x/\x<n:=
 Fs n s k b x (zP ((Jo _ _).1 a))
theorem Xd(s:Int)(n k:Nat)(a:k<=n):(AU s n k).length=k:=by rw[AU,Jn,qB,pC,fA];omega
def cw(l:Nat):Nat:=if l<=1 then l else if l<=4 then 2 else if l<=9 then 3 else if l<=16 then 4 else 5
def rf(r:Nat):Nat:=if r=0 then 0 else if r=1 then 1 else if r<=3 then 2 else 3
def lj(l k:Nat):Nat:=
 (if k>1 then 1048576/(k*(k-1))else 1048576/l)+
  (if k<l/cw l then 1048576*cw l/(l*k)else if k=l/cw l then 1048576*cw l*rf (cw l)/l else 0)
def jm(l:Nat):Nat->Nat
 |0=>0
 |k+1=>jm l k+lj l (k+1)
def fD(l:Nat):aD:=(qz l).map λk=>((jm l (k+1):Nat):Int)
theorem fV(l:Nat):(fD l).length=l:=by simp[fD]
def Iv(t:aD)(x:Int):Nat:=(t.findIdx λy=>decide (y>x))+1
theorem AV:∀l,l<=20->∀k,k<=20->lj l k<=2^30:=o1
theorem sQ(l:Nat)(a:l<=20):∀k,k<=20->jm l k<=k*2^30
 |0,_=>by simp[jm]
 |k+1,hk=>by
  have:=sQ l a k n3;have:=AV l a (k+1) hk;rw[jm];omega
theorem Ft:∀l,l<=20->1<=l->0<jm l l:=o1
theorem AW(l:Nat)(h:1<=l):(fD l).getLast?=cO ((jm l l:Nat):Int):=by
 obtain⟨k,rfl⟩:∃k,l=k+1:=⟨l-1,n3⟩
 simp[fD,zH]
def Cx(seed id:Int):Int:=qe xY (qe xX ((qH (qx xX) seed^^^(qH (qx xX) (qe xX ((qe xX id)*(2654435761:Int))))).toNat:Nat))
def AX(s:Int)(n:Nat):Nat:=Iv (fD n) (jf s (jm n n))
theorem pD(s:Int)(n:Nat)(b:1<=n:=by omega)(a:n<=20:=by omega):AX s n<=n:=by unfold AX Iv;have d:=Ft n a b;have c:=sQ n a n a;have e:=nQ s (jm n n);have:=List.findIdx_lt_length_of_exists (p:=λy=>decide (y>jf s (jm n n))) (xs:=fD n) ⟨_,List.mem_of_getLast? (AW n b),oo⟩;rw[fV]at this;omega
def bQ(id:Int):Bool:=decide (0<=id)&&decide (id<=65535)
def ey(n:Nat)(seed id:Int):aD:=AU (tw (tw (Cx seed id))) n (AX (tw (Cx seed id)) n)
theorem kq{n:Nat}(c:1<=n)(a:n<=20){seed id x:Int}(b:x∈ey n seed id):0<=x/\x<n:=Xc (pD _ n c a) b
theorem mz{n:Nat}(b:1<=n)(a:n<=20)(seed id:Int):(ey n seed id).length<=n:=by rw[ey,Xd _ _ _ (pD _ n b a)];exact pD _ n b a
def gV(n:Nat)(l:aD):aS:=l.foldl (λr i=>r.set i.toNat 1) (qi n 0)
theorem pE(n:Nat)(l:aD):(gV n l).length=n:=by
 have:∀(l:aD) (r:aS),(l.foldl (λr i=>r.set i.toNat 1) r).length=n1 r:=by
  intro l
  induction l with
  |nil=>simp
  |cons a t ih=>grind
 rw[gV,this];simp
def pF(n:Nat)(seed id:Int):aS:=gV n (ey n seed id)
theorem Xe(n:Nat)(seed id:Int):(pF n seed id).length=n:=pE _ _
def lG(K H h:Nat):aS:=(qz K).map (λj=>Gf.pw ((h+1)*(j+1)%255))++(qz H).map λi=>if i=h then 1 else 0
def bz(K H:Nat):dS:=(qz H).map (lG K H)
theorem Cy(K H h:Nat):(lG K H h).length=K+H:=by simp[lG]
def eG(p:Int×Int×Int)(seed:Int)(a:aD):dS:=
 if bJ p then bz p.1.toNat p.2.1.toNat++(a.filter bQ).map (pF (bE p).toNat seed)else[]
theorem tz{α:Type}{f:α->Bool}{l:List α}{k:Nat}(a:k<n1 l):(l.take (k+1)).filter f=if f l[k]then(l.take k).filter f++[l[k]]else(l.take k).filter f:=by
 rw[zC a,]
 grind
structure cS where
 name:ByteArray
 object:Int
 length:Int
 tries:aD
structure aA where
 seq:Int
 next:Int
 p:Int×Int×Int
 extra:Int
 drives:aD
 objs:List cS
def adj:cS:=⟨⟨#[]⟩,0,0,[]⟩
def jo(l:List cS)(i:Nat):cS:=l.getD i adj
theorem lH{l:List cS}{i:Nat}(h:i<n1 l:=by omega):jo l i=l[i]:=by unfold jo;grind
def dP(n a b:Int):Bool:=decide (a<=n)&&decide (n<=b)
def gf(c:UInt8):Bool:=(decide (97<=c.toNat)&&decide (c.toNat<=122))||(decide (48<=c.toNat)&&decide (c.toNat<=57))||decide (c.toNat=45)
def gB(s:ByteArray):Bool:=s.data.toList.all gf&&(decide (1<=s.size)&&decide (s.size<=12))
def cU(a b:ByteArray):Bool:=Op.bytesLess a.toList b.toList
def fQ(l:aD)(a:Int)(i:Nat):Bool:=dP (l.getD i 0) 0 a&&(decide (i=0)||decide (l.getD (i-1) 0<l.getD i 0))
def oH(l:aD)(a:Int):Bool:=(qz l.length).all (fQ l a)
def countP(p:Int×Int×Int)(n:Int):Int:=if bJ p&&decide (0<n)then(n-1)/(p.1*p.2.2)+1 else 0
def gy(m:aA)(x:cS):Bool:=
 gB x.name&&(dP x.object 0 (m.next-1)&&(dP x.length 0 (m.p.1*m.p.2.2*8)&&(x.tries.all (dP · 0 15)&&decide ((x.tries.length:Int)=countP m.p x.length))))
def kr(m:aA)(i:Nat):Bool:=
 gy m (jo m.objs i)&&((decide (i=0)||cU (jo m.objs (i-1)).name (jo m.objs i).name)&&!(m.objs.take i).any λy=>decide (y.object=(jo m.objs i).object))
def kt(m:aA):Bool:=dP m.seq 1 2147483647&&(dP m.next 0 16777216&&(bJ m.p&&dP m.extra 0 16))
def bH(m:aA):Bool:=kt m&&(oH m.drives 63&&(decide (n1 m.objs<=12)&&(qz m.objs.length).all (kr m)))
theorem Cz{p:Nat->Bool}{n i:Nat}(a:i<n)(h:p i=eL):(qz n).all p=eL:=List.all_eq_false.2 ⟨i,q8.2 a,oo⟩
theorem rY{p:Nat->Bool}{n:Nat}(h:∀i,i<n->p i=eH):(qz n).all p=eH:=qU.2 λi a=>h i (q8.1 a)
def cz(n:Int)(k:Nat):aS:=(qz k).map λi=>b8 (zr n (2^(8*(k-1-i))))
theorem bM(n:Int)(k:Nat):(cz n k).length=k:=by simp[cz]
def go(x:cS):aS:=b8 x.name.size::(x.name.data.toList++(cz x.object 3++(cz x.length 2++x.tries.map b8)))
def gC(m:aA):aS:=
 if bH m then cz m.seq 4++(cz m.next 4++([b8 m.p.1,b8 m.p.2.1,b8 m.p.2.2,b8 m.extra,b8 m.drives.length]++(m.drives.map b8++(b8 m.objs.length::m.objs.flatMap go))))else[]
def od(seq a c:Int)(b:aS):aS:=eV 2 (cz seq 4++([b8 a,b8 c,b8 b.length]++b))
def fj(b:aS):Nat:=(n1 b+47)/48
def bI(m:aA):dS:=(qz (fj (gC m))).map λi:Nat=>od m.seq i (fj (gC m)) (((gC m).drop (48*i)).take 48)
theorem Ua{m:aA}(h:bH m=eH):kt m=eH:=by unfold bH at h;grind
theorem Fu{m:aA}(h:kt m=eH):(1<=m.seq/\m.seq<=2147483647)/\(0<=m.next/\m.next<=16777216)/\bJ m.p=eH/\0<=m.extra/\m.extra<=16:=by unfold kt dP at h;grind
theorem sw{m:aA}{c:aS}(h:c∈bI m):n1 c=64:=by obtain⟨i,_,rfl⟩:=qI.1 h;exact nr n4 n4 p9
structure ct where
 object:Int
 block:Int
 id:Int
 p:Int×Int×Int
 seed:Int
 data:aS
def jL(r:ct):Bool:=(dP r.object 0 16777215&&(dP r.block 0 7&&bQ r.id))&&(bJ r.p&&decide ((r.data.length:Int)=r.p.2.2))
def oI(r:ct):aS:=cz r.object 3++(cz r.block 1++(cz r.id 2++([b8 r.p.1,b8 r.p.2.1,b8 r.p.2.2]++(cz r.seed 4++r.data))))
def gg(r:ct):aS:=if jL r then eV 1 (oI r)else[]
def dq(l:aS):Int:=l.foldl (λn x=>n*256+x.toNat) 0
def gD(c:aS):Option (Int×aS):=
 if c.length=64/\eV ((c.getD 3 0).toNat:Int) ((c.drop 4).take 55)=c then cO (((c.getD 3 0).toNat:Int),(c.drop 4).take 55)else dB
def uA(x:aS):ct:=
 ⟨dq (x.take 3),dq ((x.drop 3).take 1),dq ((x.drop 4).take 2),(dq ((x.drop 6).take 1),dq ((x.drop 7).take 1),dq ((x.drop 8).take 1)),dq ((x.drop 9).take 4),(x.drop 13).take (dq ((x.drop 8).take 1)).toNat⟩
def dt(c:aS):Option ct:=
 match gD c with
 |some (k,x)=>if k=1/\bJ (uA x).p=eH/\gg (uA x)=c then cO (uA x)else dB
 |none=>dB
theorem jM(r:ct):jL r=eH↔(0<=r.object/\r.object<=16777215)/\(0<=r.block/\r.block<=7)/\(0<=r.id/\r.id<=65535)/\bJ r.p=eH/\(r.data.length:Int)=r.p.2.2:=by unfold jL dP bQ;grind
theorem rC{r:ct}(h:jL r=eH):(oI r).length=13+n1 r.data/\r.data.length<=24:=by obtain⟨_,_,_,a,b⟩:=(jM r).1 h;have:=(bL r.p).1 a;refine⟨by unfold oI;simp[bM];omega,n3⟩
theorem Xf{r:ct}(h:jL r=eH):(gg r).length=64:=by have:=rC h;unfold gg;rw[l0 h];exact nr n4 n4 n3
theorem RE{c:aS}{r:ct}(h:dt c=cO r):gg r=c/\jL r=eH/\bJ r.p=eH:=by
 unfold dt at h;cases hc:gD c with
 |none=>rw[hc]at h;cases h
 |some kx=>
  rw[hc]at h;dsimp only at h;by_cases a:kx.1=1/\bJ (uA kx.2).p=eH/\gg (uA kx.2)=c
  .rw[l0 a]at h;injection h with h
   subst h;refine⟨a.2.2,?_,a.2.1⟩;by_cases d:jL (uA kx.2)=eH
   .exact d
   .exfalso;have b:=a.2.2;unfold gg at b;rw[m6 d]at b;unfold gD at hc;rw[<-b]at hc;simp at hc
  .rw[m6 a]at h;cases h
section
variable (le:α->α->Bool)
def iT(a b:α):Bool:=le a b&&le b a
def cE(l a:List α):Prop:=∀x,l.filter (iT le x)=a.filter (iT le x)
def Sd(l:List α):Prop:=l.Pairwise λa b=>le a b=eH
structure Ord:Prop where
 trans:∀a b c,le a b=eH->le b c=eH->le a c=eH
 total:∀a b,(le a b||le b a)=eH
variable {le}
theorem Ord.CB(o:Ord le){a b:α}(h:¬le a b=eH):le b a=eH:=by
 have:=o.total a b
 grind
theorem Ord.refl(o:Ord le)(a:α):le a a=eH:=by have:=o.total a a;grind
theorem cE.refl(l:List α):cE le l l:=λ_=>rfl
theorem cE.trans{l1 l2 a:List α}(h:cE le l1 l2)(k:cE le l2 a):cE le l1 a:=λx=>(h x).trans (k x)
theorem cE.symm{l1 l2:List α}(h:cE le l1 l2):cE le l2 l1:=λx=>(h x).symm
theorem cE.app{a b c d:List α}(h:cE le a b)(k:cE le c d):cE le (a++c) (b++d):=λx=>by
 rw[zm,zm,h x,k x]
theorem cE.mem(o:Ord le){l a:List α}(h:cE le l a){y:α}(b:y∈a):y∈l:=by
 have c:y∈a.filter (iT le y):=qN.2 ⟨b,A3⟩;rw[<-h y]at c
 grind
theorem cE.Ub(o:Ord le){u v:List α}(h:∀x∈u,∀y∈v,¬le x y=eH):cE le (u++v) (v++u):=λz=>by
 by_cases i:u.filter (iT le z)=[]
 .grind
 .by_cases g:v.filter (iT le z)=[]
  .grind
  .exfalso;obtain⟨x,f⟩:=List.exists_mem_of_ne_nil _ i;obtain⟨y,e⟩:=List.exists_mem_of_ne_nil _ g;obtain⟨c,b⟩:=qN.1 f;obtain⟨d,a⟩:=qN.1 e;unfold iT at b a;simp only[qC]at b a;exact h x c y d (o.trans _ _ _ b.2 a.1)
theorem cE.LR(o:Ord le){l:List α}(h:cE le [] l):l=[]:=by
 cases l with
 |nil=>rfl
 |cons a l=>exact absurd (cE.mem o h (qS ..)) n9
theorem Jp(o:Ord le):∀(l c:List α),Sd le l->Sd le c->cE le l c->l=c
 |[],c,_,_,h=>(cE.LR o h).symm
 |a::l,[],_,_,h=>absurd (cE.LR o h.symm) n9
 |a::l,b::c,s,s',h=>by
  have d:a=b:=by
   have i:le a b=eH:=by
    have:=cE.mem o h (y:=b) (qS ..);rcases qQ.1 this with e|e
    .rw[e];exact o.refl _
    .exact(zw.1 s).1 _ e
   have f:le b a=eH:=by
    have:=cE.mem o h.symm (y:=a) (qS ..);rcases qQ.1 this with e|e
    .grind
    .exact(zw.1 s').1 _ e
   have h3:=h a;have g:iT le a a=eH:=A3
   have e2:iT le a b=eH:=by unfold iT;grind
   grind
  subst d;rw[Jp o l c (zw.1 s).2 (zw.1 s').2 λx=>by
   have h3:=h x
   grind]
theorem tC(o:Ord le)(l:List α):Sd le (l.mergeSort le)/\cE le l (l.mergeSort le):=by
 refine⟨wI o.trans o.total l,λx=>?_⟩;have g:(l.filter (iT le x)).Pairwise λa b=>le a b=eH:=by rw[List.pairwise_filter];refine List.Pairwise.imp ?_ (List.pairwise_of_forall (l:=l) (R:=λ_ _=>True) λ_ _=>trivial);intro a b _ e d;unfold iT at e d;simp only[qC]at e d;exact o.trans _ _ _ e.2 d.1
 have f:=List.sublist_mergeSort o.trans o.total g List.filter_sublist;have c:=f.filter (iT le x);rw[List.filter_filter]at c;simp only[Bool.and_self]at c;exact c.eq_of_length ((wo l le).symm.filter _).length_eq
theorem Ze(o:Ord le){l a:List α}(s:Sd le a)(h:cE le l a):a=l.mergeSort le:=by obtain⟨c,b⟩:=tC o l;exact Jp o _ _ s c (h.symm.trans b)
theorem Sd.app(o:Ord le){u v:List α}(b:Sd le u)(a:Sd le v)(h:∀x∈u,∀y∈v,le x y=eH):Sd le (u++v):=zD.2 ⟨b,a,h⟩
theorem Sd.left{u v:List α}(h:Sd le (u++v)):Sd le u:=(zD.1 h).1
theorem Sd.right{u v:List α}(h:Sd le (u++v)):Sd le v:=(zD.1 h).2.1
theorem Sd.Ec{u v:List α}(h:Sd le (u++v)):∀x∈u,∀y∈v,le x y=eH:=(zD.1 h).2.2
theorem Sd.at_(o:Ord le){l:List α}(h:Sd le l){i j:Nat}(a:i<=j)(b:j<n1 l):le (l[i]'n3) l[j]=eH:=by
 by_cases e:i=j
 .subst e;exact o.refl _
 .exact zf.1 h i j n3 b n3
theorem Uc(o:Ord le){l1 l2 a b f m2:List α}(i:Sd le (l1++l2))(l:Sd le (a++b))(m:∀x∈l1,∀y∈b,le x y=eH)(e:∀x∈l2,∀y∈a,¬le x y=eH)
  (g:cE le (l1++a) f) (n:Sd le f) (h:cE le (l2++b) m2) (k:Sd le m2):Sd le (f++m2)/\cE le ((l1++l2)++(a++b)) (f++m2):=by
 constructor
 .refine Sd.app o n k λx c y d=>?_;rcases qu.1 (cE.mem o g c)with c|c<;>rcases qu.1 (cE.mem o h d)with d|d
  .exact i.Ec x c y d
  .grind
  .exact o.CB (e y d x c)
  .exact l.Ec x c y d
 .have j:cE le ((l1++l2)++(a++b)) ((l1++a)++(l2++b)):=by rw[show(l1++l2)++(a++b)=l1++((l2++a)++b)by simp,show(l1++a)++(l2++b)=l1++((a++l2)++b)by simp];exact(cE.refl _).app ((cE.Ub o e).app (cE.refl _))
  exact j.trans (g.app h)
end
variable {le:α->α->Bool}
theorem sS(o:Ord le):∀{l d:List α},cE le l d->n1 l=n1 d
 |[],d,h=>by rw[cE.LR o h]
 |a::l,d,h=>by
  have j:=cE.mem o h.symm (y:=a) (qS ..);obtain⟨u,v,k⟩:=List.append_of_mem j;have i:∃(u:List α) (b:α) (v:List α),d=u++b::v/\(∀x∈u,iT le a x=eL)/\iT le a b=eH:=by
   have p:d.filter (iT le a)≠[]:=λD=>by
    have:a∈d.filter (iT le a):=qN.2 ⟨j,A3⟩
    grind
   clear k u v j h
   induction d with
   |nil=>grind
   |cons c d ih=>
    by_cases s:iT le a c=eH
    .exact⟨[],c,d,n2,n9,s⟩
    grind
  obtain⟨u,b,v,rfl,z,t⟩:=i;have w:iT le a a=eH:=A3
  have g:=h a;have q:u.filter (iT le a)=[]:=ve.2 λx m=>oo
  rw[List.filter_cons_of_pos w,zm,List.filter_cons_of_pos t]at g;have n:a=b:=oo
  have r:cE le l (u++v):=λx=>by
   have m:=h x;rw[zm,]at m;by_cases f:iT le x a=eH
   .have B:u.filter (iT le x)=[]:=ve.2 λy A e=>by
     have:=z y A;unfold iT at this f e;simp only[qC]at f e;rw[o.trans _ _ _ f.2 e.1,o.trans _ _ _ e.2 f.1]at this
     grind
    grind
   grind
  rw[zc,sS o r]
  grind
def ft(o b t:Int):Int:=(128*o+16*b+t)%4294967296
def dJ(m:aA)(r:ct):Bool:=jL r&&(decide (r.p=m.p)&&m.objs.any λx=>decide (x.object=r.object)&&(decide (r.block<(x.tries.length:Int))&&decide (r.seed=ft r.object r.block (x.tries.getD r.block.toNat 0))))
def lU(a b:ct):Bool:=decide (a.object<b.object∨(a.object=b.object/\(a.block<b.block∨(a.block=b.block/\a.id<=b.id))))
def dM(a b:ct):Bool:=decide (a.object=b.object/\a.block=b.block/\a.id=b.id)
def nC:ct:=⟨0,0,0,(0,0,0),0,[]⟩
def oJ(l:List ct)(k:Nat):Bool:=decide (k=0)||!dM (l.getD k nC) (l.getD (k-1) nC)
def nh(l:List ct):List ct:=((qz l.length).filter (oJ l)).map λi=>l.getD i nC
def gp(m:aA)(c:aS):Option ct:=match dt c with|some r=>if dJ m r then cO r else dB|none=>dB
def iB(m:aA)(l:dS):List ct:=nh ((l.filterMap (gp m)).mergeSort lU)
theorem Iw:Ord lU:=⟨λa b c e d=>by
 unfold lU at*
 grind,λa b=>by
 unfold lU
 grind⟩
theorem Gx(m:aA)(l:dS)(i:Nat)(a:i<n1 l):(l.take (i+1)).filterMap (gp m)=(l.take i).filterMap (gp m)++(gp m l[i]).toList:=by
 have:l.take (i+1)=l.take i++[l[i]]:=n9
 grind
def oe(a b:ct):Prop:=lU a b=eH/\dM a b=eL
section
variable {B:au} {Bs:List HP} {A:HP} {e:Nat}
theorem aa.off(H:aa B h0 h As)(i j:Nat)(m:i≠j)(o:As[i]?=cO (ai e s k f l))(n:As[j]?=cO A):A.p h (λb=>b<h.size/\¬s.on b):=by
 obtain⟨_,_,c,_,a⟩:=H;refine A.mono (a j A n) λb g=>⟨g.1,λd=>?_⟩
 have:=(a i _ o).2 b d;omega
theorem aa.base(H:aa B h0 h As)(i:Nat)(j:As[i]?=cO (ai e s k f l)){b:Nat}(g:B b):¬s.on b:=λd=>by
 obtain⟨_,_,c,z,a⟩:=H;have:=(a i _ j).2 b d;have:=z b g;omega
theorem aa.LS(H:aa B h0 h (As++[D]))(i:Nat)(k:i<n1 As):aa B h0 h (As.set i D):=
 H.pick (λj=>if j<n1 As then(if j=i then As.length else j)else j+1) (λa b c=>by split at c<;>split at c<;>(try split at c)<;>(try split at c)<;>omega) λj A e=>by
  have f:j<n1 As:=by have:=(qm.1 e).1;simpa using this
  rw[l0 f];rw[qZ]at e;split at e
  .rename_i d;subst d;rw[l0 n2,ql (qk _),zh];exact e
  .rename_i d;rw[m6 λg=>d g.symm,qw f];exact e
theorem aa.RF(H:aa B h0 h As)(i j:Nat){A2:HP}(n:As[i]?=cO A)(m:As[j]?=cO A2):aa B h0 h ((As.set i A2).set j A):=by
 have l:=(qm.1 n).1;have g:=(qm.1 m).1;refine H.pick (λx=>if x=j then i else if x=i then j else x) (λa b c=>by split at c<;>split at c<;>(try split at c)<;>(try split at c)<;>omega) λx o d=>?_;rw[qZ,qZ]at d;by_cases f:j=x
 .subst f;simp[g]at d;subst d;simpa using n
 .by_cases k:i=x
  .subst k;simp[f,l]at d;subst d;rw[m6 λe=>f e.symm,l0 rfl];exact m
  .simp[f,k]at d;rw[m6 λe=>f e.symm,m6 λe=>k e.symm];exact d
end
def bg{α:Type}(e k:Nat)(f:α->aR)(rs:List Sl)(ll:List (List α)):List HP:=zn (λr l=>ai e r k f l) rs ll
section
variable {e:Nat}
theorem gz(h:n1 rs=n1 ll):(bg e k f rs ll).length=n1 ll:=by simp[bg,h]
theorem dU(h:n1 rs=n1 ll)(i:Nat)(a:i<n1 ll):(bg e k f rs ll)[i]?=cO (ai e (rs[i]'n3) k f ll[i]):=by
 have b:i<n1 rs:=n3
 simp[bg,wU,qd a,qd b]
theorem mA(h:n1 rs=n1 ll)(r:Sl)(l:List α):bg e k f (rs++[r]) (ll++[l])=bg e k f rs ll++[ai e r k f l]:=by unfold bg;rw[List.zipWith_append h];rfl
theorem gS(h:n1 rs=n1 ll)(i:Nat)(r:Sl)(l:List α):(bg e k f rs ll).set i (ai e r k f l)=bg e k f (rs.set i r) (ll.set i l):=by
 apply zq;intro j;simp only[bg,qZ,wU,List.length_zipWith];by_cases a:i=j
 .subst a;by_cases b:i<n1 ll
  .have:i<n1 rs:=n3
   simp[b,this];omega
  .have:¬i<n1 rs:=n3
   simp[b];omega
 .simp[a]
theorem LU(h:n1 rs=n1 ll)(i:Nat)(a:i<n1 ll)(l:List α):(bg e k f rs ll).set i (ai e (rs[i]'n3) k f l)=bg e k f rs (ll.set i l):=by rw[gS h,List.set_getElem_self]
theorem aa.Jq{B:au}{j h:hY}{s:Sl}{b:Nat}(H:aa B j h (ai b s 1 bv rs::bg e k f rs ll))(d:n1 rs=n1 ll)(n:∀x,(f x).length=k):eu h s k f ll:=by
 refine⟨rs,H.seq 0 n2 λ_=>rfl,d,λi r l c a=>?_⟩;have g:i<n1 ll:=(qm.1 a).1;have m:=dU (e:=e) (k:=k) (f:=f) d i g;have h3:=H.seq (i+1) D2 n;have b:rs[i]'n3=r:=by rw[qd n3]at c;simpa using c
 have e2:ll[i]=l:=by rw[qd g]at a;simpa using a
 rw[b,e2]at h3;exact h3
end
theorem Seq.nD{X:Type}{g:X->eX}(e:Seq h p s 1 f l){i:Int}(n:Nat)(r:i=n)(k:n<n1 l)(x:X)(j:f l[n]=[g x]){K:fY->X->Prop}(q:∀a:fY,hU h (a.add (i.toNat*1))=cO (g x)->K a x):
  ∃a:fY,(s.ptr=cO a/\0<=i/\i<((s.len:Nat):Int))/\∃x:X,hU h (a.add (i.toNat*1))=cO (g x)/\K a x:=by
 subst r;obtain⟨b,o,m,_,h3⟩:=e.elem n l[n] (qd k);rw[j]at h3;have c:=h3.1;rw[add_eq,yh]at c;have d:hU h ((⟨b,o,dB⟩:fY).add ((n:Int).toNat*1))=cO (g x):=by rw[add_eq];simpa using c
 exact⟨_,⟨m,n3,by rw[e.len];omega⟩,x,d,q _ d⟩
theorem Seq.dQ{h:hY}{p:au}{s:Sl}{rs:List Sl}(e:Seq h p s 1 bv rs){i:Int}(n:Nat)(l:i=n)(f:n<n1 rs){K:fY->Sl->Prop}
  (j:∀a:fY,hU h (a.add (i.toNat*1))=cO (.slice rs[n].ptr rs[n].len rs[n].cap)->p (a.add (i.toNat*1)).block->K a rs[n]):
  ∃a:fY,(s.ptr=cO a/\0<=i/\i<((s.len:Nat):Int))/\∃x:Sl,hU h (a.add (i.toNat*1))=cO (.slice x.ptr x.len x.cap)/\K a x:=by
 subst l;obtain⟨b,o,g,k,h3⟩:=e.elem n rs[n] (qd f);have c:=h3.1;rw[add_eq,yh]at c;have d:hU h ((⟨b,o,dB⟩:fY).add ((n:Int).toNat*1))=cO (.slice rs[n].ptr rs[n].len rs[n].cap):=by rw[add_eq];simpa using c
 exact⟨_,⟨g,n3,by rw[e.len];omega⟩,rs[n],d,j _ d (by rw[add_eq];exact k)⟩
section
variable {B:au} {e:Nat}
theorem Own.cut(a:Own h e s k f l)(c:∀x,(f x).length=k)(j:Nat)(g:j<=n1 l):Own h e ⟨s.ptr,j,s.cap⟩ k f (l.take j):=by
 have d:=a.len;refine⟨n7,?_⟩;rcases a.head with⟨h1,h2,h3⟩|⟨b,rest,h1,h2,h3,h4⟩
 .subst h3;exact .inl ⟨h1,h2,n9⟩
 .refine .inr ⟨b,(l.drop j).flatMap f++rest,h1,?_,?_,n5⟩
  .rw[<-qo,<-ze,qD];exact h2
  .rw[qq,dO c,qJ,h3,<-Nat.add_mul];dsimp only;congr 1;omega
theorem aa.cut(H:aa B h0 h As)(i:Nat)(c:As[i]?=cO (ai e s k f l))(d:∀x,(f x).length=k)(j:Nat)(b:j<=n1 l):aa B h0 h (As.set i (ai e ⟨s.ptr,j,s.cap⟩ k f (l.take j))):=
 H.dG i c λ_ a=>⟨a.1.cut d j b,a.2⟩
end
section
variable {B:au} {C:Ctx} {e:Nat}
end
section
variable {C:Ctx} {ty e:Nat} {B:au}
theorem Own.CC(B:C.Ok)(D:bS C.toAk t e k z by_)(w:∀x,(f x).length=k)(u:Own h e s k f l)(E:Seq h p v k f l2)(A:∀x,∀c∈f x,c.oneCell'=eH){K:Int->hY->Prop}
  (j:∀n h',Own h' e s k f (l2.take l.length++l.drop l2.length)->aP (λb=>¬s.on b) h h'->K n h'):
  bC C.P (yU #[t,t2] ty #[.slice s.ptr s.len s.cap,.slice v.ptr v.len v.cap]) (.one (.sc (.int .i64))) h K:=by
 unfold bC yU;simp only[z6,wH,qX];refine av.bind (av.always (aK (D.under B)) ?_);refine av.bind (av.pure' ?_);refine av.bind (av.always (D.size B) ?_);have a:=u.len;have d:=E.len;obtain⟨m,g⟩:=I3 (Nat.min v.len s.len)
 rw[<-g];have y:m<=n1 l2:=by rw[g,<-d];exact Nat.min_le_left _ _
 have i:m<=n1 l:=by rw[g,<-a];exact Nat.min_le_right _ _
 have F:m=min l2.length l.length:=by rw[g,a,d]
 have q:=E.take m y;have H:l2.take l.length++l.drop l2.length=l2.take m++l.drop m:=by
  rcases Nat.le_total l2.length l.length with hh|hh
  .grind
  .rw[show m=n1 l by omega,zl hh,List.drop_length]
 rw[H]at j;have o:wN k m (.slice v.ptr v.len v.cap)=wN k m (.slice v.ptr m v.cap):=by cases v.ptr<;>rfl
 rw[o];refine av.bind (eW (v:=⟨v.ptr,m,v.cap⟩) w q ?_);rcases u.head with⟨h1,h2,h3⟩|⟨b,rest,h1,h2,h3,h4⟩
 .rw[h1];subst h3;have:m=0:=by simpa using i
  subst this;refine av.pure' ⟨_,n2,j _ h ?_ (aP.refl _ _)⟩;simpa using u
 .rw[h1];refine av.bind ?_;have r:l.flatMap f++rest=(l.take m).flatMap f++((l.drop m).flatMap f++rest):=by rw[<-qo,<-ze,qD]
  rw[r]at h2;refine fv (e:=e) (pre:=[]) (old:=(l.take m).flatMap f) (post:=(l.drop m).flatMap f++rest) (by simpa using h2) (by rw[dO w,dO w,qB,qB];congr 1;omega) n2 ?_ ?_
  .grind
  .refine av.pure' ⟨_,n2,j _ _ ⟨oo,.inr ⟨b,rest,h1,?_,h3,h4⟩⟩ (aP.jJ h2 λG=>G ⟨0,h1⟩)⟩;rw[iH h2,l0 n2,ze];simp
theorem aa.CC(d:C.Ok)(H:aa B h0 h As)(i:Nat)(b:As[i]?=cO (ai e s k f l))(g:bS C.toAk t e k z by_)(o:∀x,(f x).length=k)(j:Seq h p v k f l2)(a:∀x,∀c∈f x,c.oneCell'=eH){K:Int->hY->Prop}
  (m:∀n h',aa B h0 h' (As.set i (ai e s k f (l2.take l.length++l.drop l2.length)))->K n h'):
  bC C.P (yU #[t,t2] ty #[.slice s.ptr s.len s.cap,.slice v.ptr v.len v.cap]) (.one (.sc (.int .i64))) h K:=
 (H.own i b).CC d g o j a λn h' x y=>m n h' (H.oa i b y x)
end
def Fv(d:Sl)(w i:Nat):Sl:=⟨if d.cap=i*w then d.ptr else d.ptr.map (·.add (i*w*1)),(i+1)*w-i*w,d.cap-i*w⟩
def PU{α:Type}(l:List α)(w i:Nat):List α:=(l.drop (i*w)).take w
theorem Seq.piece{α:Type}{h:hY}{p:au}{s:Sl}{f:α->aR}{l:List α}(b:Seq h p s 1 f l)(c:s.len<=s.cap)(w i:Nat)(g:(i+1)*w<=n1 l:=by omega):Seq h p (Fv s w i) 1 f (PU l w i):=by
 have d:=b.drop (i*w) c;have e:(i+1)*w=i*w+w:=z7 i w;have a:=d.take w pb;have e2:(i+1)*w-i*w=w:=n3
 unfold Fv PU;rw[e2];exact a
theorem PW{α:Type}{l:List α}{w i:Nat}(a:(i+1)*w<=n1 l):(PU l w i).length=w:=by have e:(i+1)*w=i*w+w:=z7 i w;simp only[PU,qB,qJ];omega
def HP.sep(A D:HP):HP:=
 ⟨λh q=>∃f i:au,(∀b,f b->¬i b)/\(∀b,f b->q b)/\(∀b,i b->q b)/\A.p h f/\D.p h i,
  λ⟨f,i,a,b,c,d,e⟩ hp=>⟨f,i,a,b,c,A.loc d (hp.mono λx _ g=>b x g),D.loc e (hp.mono λx _ g=>c x g)⟩,
  λ⟨f,i,a,b,c,d,e⟩ hq=>⟨f,i,a,λx g=>hq x (b x g),λx g=>hq x (c x g),d,e⟩⟩
def HP.ex{ι:Type}(F:ι->HP):HP:=⟨λh q=>∃i,(F i).p h q,λ⟨i,a⟩ hp=>⟨i,(F i).loc a hp⟩,λ⟨i,a⟩ hq=>⟨i,(F i).mono a hq⟩⟩
def HP.and(A:HP)(P:Prop):HP:=⟨λh q=>A.p h q/\P,λa c=>⟨A.loc a.1 c,a.2⟩,λa b=>⟨A.mono a.1 b,a.2⟩⟩
variable {E:HP}
section
variable {B:au} {Bs:List HP} {A:HP} {i:Nat}
theorem aa.split(H:aa B h0 h As)(i:Nat)(l:As[i]?=cO (A.sep D)):aa B h0 h (As.set i A++[D]):=by
 classical
 obtain⟨r,p,c,z,a⟩:=H;obtain⟨u,s,o,m,s2,t,n⟩:=a i _ l;have q:=(qm.1 l).1;refine⟨r,p,λb=>if s b then As.length+1 else c b,λb d=>?_,λj X e=>?_⟩
 .grind
 .by_cases k:j<n1 As
  .rw[qw D4,qZ]at e;split at e
   .rename_i f;subst f;injection e with e
    subst e;refine A.mono t λb d=>⟨(m b d).1,?_⟩
    dsimp only;rw[m6 (o b d)];exact(m b d).2
   .refine X.mono (a j X e) λb d=>⟨d.1,?_⟩
    grind
  .rw[ql D4]at e;have g:j=n1 As:=oo
   subst g;simp at e;subst e;refine D.mono n λb d=>⟨(s2 b d).1,?_⟩
   dsimp only;rw[l0 d]
theorem aa.join(H:aa B h0 h As)(i j:Nat)(b:i≠j)(l:As[i]?=cO A)(g:As[j]?=cO D):aa B h0 h ((As.set i (A.sep D)).set j emp):=
 H.merge i j b l g λd k f e c=>⟨d,k,f,λ_ a=>.inl a,λ_ a=>.inr a,e,c⟩
theorem aa.La{ι:Type}{F:ι->HP}(H:aa B h0 h As)(i:Nat)(f:As[i]?=cO (HP.ex F)):∃x,aa B h0 h (As.set i (F x)):=by
 obtain⟨g,p,c,z,a⟩:=H;obtain⟨x,e⟩:=a i _ f;refine⟨x,g,p,c,z,λj X b=>?_⟩;rw[qZ]at b;split at b
 .rename_i d;subst d;split at b
  .injection b with b;subst b;exact e
  .cases b
 .exact a j X b
theorem aa.close'{ι:Type}{F:ι->HP}(H:aa B h0 h As)(i:Nat)(x:ι)(b:As[i]?=cO (F x)):aa B h0 h (As.set i (HP.ex F)):=H.dG i b λ_ a=>⟨x,a⟩
theorem aa.fact{P:Prop}(H:aa B h0 h As)(i:Nat)(a:As[i]?=cO (A.and P)):P:=(H.at i a).2
theorem aa.Zf{P:Prop}(H:aa B h0 h As)(i:Nat)(b:As[i]?=cO (A.and P)):aa B h0 h (As.set i A):=H.dG i b λ_ a=>a.1
theorem aa.adk{P:Prop}(H:aa B h0 h As)(i:Nat)(b:As[i]?=cO A)(c:P):aa B h0 h (As.set i (A.and P)):=H.dG i b λ_ a=>⟨a,c⟩
theorem aa.cons(H:aa B h0 h As)(i:Nat)(g:As[i]?=cO A):aa B h0 h (A::As.set i emp):=by
 obtain⟨l,p,c,z,a⟩:=H;have k:=(qm.1 g).1;refine⟨l,p,λb=>if c b=i+1 then 1 else if c b=0 then 0 else c b+1,λb e=>?_,λj X d=>?_⟩
 .have:=z b e;dsimp only;rw[m6 n3,l0 this]
 .cases j with
  |zero=>
   simp at d;subst d;refine A.mono (a i A g) λb e=>⟨e.1,by dsimp only;rw[l0 e.2]⟩
  |succ j=>
   rw[qX,qZ]at d;split at d
   .rename_i f;injection d with d;subst d;trivial
   .rename_i f;refine X.mono (a j X d) λb e=>⟨e.1,by dsimp only;rw[m6 n3,m6 n3];omega⟩
theorem aa.rest(H:aa B h0 h (A::As)):aa B h0 h As:=H.pick (λj=>j+1) (λa b h=>n3) λj X c=>D5
end
structure jg (α β:Type) where
 p:hY->au->α->β->Prop
 loc:∀{h h':hY} {q:au} {a:α} {b:β},p h q a b->aP q h h'->p h' q a b
 mono:∀{h:hY} {q q':au} {a:α} {b:β},p h q a b->(∀x,q x->q' x)->p h q' a b
def iJ{α:Type}(k:Nat)(f:α->aR):jg Sl (List α):=⟨λh q s l=>Seq h q s k f l,λa c=>a.ac c,λa b=>a.mono b⟩
def rZ{α:Type}(k:Nat)(f:α->aR):jg Sl (List α):=⟨λh q s l=>Seq h q s k f l/\(l=[]->s.ptr=dB),λa c=>⟨a.1.ac c,a.2⟩,λa b=>⟨a.1.mono b,a.2⟩⟩
def bW{α β:Type}(E:jg α β)(k:Nat)(f:α->aR):jg Sl (List β):=
 ⟨λh q s ll=>∃rs:List α,Seq h q s k f rs/\rs.length=n1 ll/\∀(i:Nat) r l,rs[i]?=cO r->ll[i]?=cO l->E.p h q r l,
  λ⟨rs,a,b,c⟩ hp=>⟨rs,a.ac hp,b,λi r l e d=>E.loc (c i r l e d) hp⟩,λ⟨rs,a,b,c⟩ hq=>⟨rs,a.mono hq,b,λi r l e d=>E.mono (c i r l e d) hq⟩⟩
def abF{α β:Type}(E:jg α β)(P:α->β->Prop):jg α β:=⟨λh q a b=>E.p h q a b/\P a b,λa d=>⟨E.loc a.1 d,a.2⟩,λa c=>⟨E.mono a.1 c,a.2⟩⟩
def EA{α β:Type}(E:jg α β)(a:α)(b:β):HP:=⟨λh q=>E.p h q a b,λx d=>E.loc x d,λx c=>E.mono x c⟩
abbrev fk{α β:Type}(E:jg α β)(h:hY)(a:α)(b:β):Prop:=E.p h (λb=>b<h.size) a b
def db{α β:Type}(e:TypeId)(s:Sl)(k:Nat)(f:α->aR)(E:jg α β)(ll:List β):HP:=
 ⟨λh q=>∃(rs:List α) (j:au),Own h e s k f rs/\(∀b,s.on b->q b/\¬j b)/\(∀b,j b->q b)/\rs.length=n1 ll/\∀(i:Nat) r l,rs[i]?=cO r->ll[i]?=cO l->E.p h j r l,
  λ⟨rs,j,a,b,c,d,e⟩ hp=>⟨rs,j,a.ac hp λx g=>(b x g).1,b,c,d,λi r l m n=>E.loc (e i r l m n) (hp.mono λx _ g=>c x g)⟩,
  λ⟨rs,j,a,b,c,d,e⟩ hq=>⟨rs,j,a,λx g=>⟨hq x (b x g).1,(b x g).2⟩,λx g=>hq x (c x g),d,e⟩⟩
variable {β:Type} {b:β}
section
variable {E:jg α β} {ll:List β} {a:α}
theorem fk.up(x:fk E h a b)(c:aP (λb=>b<h.size) h h'):fk E h' a b:=E.mono (E.loc x c) λ_ d=>qY d c.1
theorem bW.ku(x:(bW E k f).p h q s ll):∃rs:List α,Seq h q s k f rs/\rs.length=n1 ll/\∀(i:Nat) (e:i<n1 rs) (d:i<n1 ll),E.p h q rs[i] ll[i]:=by obtain⟨rs,a,b,c⟩:=x;exact⟨rs,a,b,λi e d=>c i _ _ (qd e) (qd d)⟩
theorem bW.len(x:(bW E k f).p h q s ll):s.len=n1 ll:=by obtain⟨rs,a,b,c⟩:=x;rw[a.len,b]
theorem bW.nil(h:hY)(q:au)(a:bK)(c:Nat):(bW E k f).p h q ⟨a,0,c⟩ []:=⟨[],Seq.nil h q c a k f,n2,λi r l b=>n9⟩
theorem bW.take(x:(bW E k f).p h q s ll)(n:Nat)(e:n<=n1 ll):(bW E k f).p h q ⟨s.ptr,n,s.cap⟩ (ll.take n):=by
 obtain⟨rs,a,b,c⟩:=x;refine⟨rs.take n,a.take n n3,by simp[b],λi r l g d=>?_⟩
 grind
theorem bW.toeu{γ:Type}{d:Nat}{g:γ->aR}{l:List (List γ)}(x:fk (bW (iJ d g) 1 bv) h s l):eu h s d g l:=by obtain⟨rs,a,b,c⟩:=x;exact⟨rs,a,b,c⟩
theorem bW.impl{α':Type}{d:Type}{E':jg α d}(u:β->d)(g:∀{h q a b},E.p h q a b->E'.p h q a (u b))(x:(bW E k f).p h q s ll):(bW E' k f).p h q s (ll.map u):=by
 obtain⟨rs,a,b,c⟩:=x;refine⟨rs,a,by simp[b],λi r l j e=>?_⟩
 grind
end
section
variable {E:jg α β} {C:Ctx} {e:Nat} {B:au} {ll:List β}
theorem aa.Ix(H:aa B h0 h As)(e k:Nat)(f:α->aR)(E:jg α β):aa B h0 h (As++[db e ⟨dB,0,0⟩ k f E []]):=
 H.comp (.one (aP.refl _ _) ⟨[],λ_=>False,Own.nil h e k f,λb a=>(by obtain⟨o,a⟩:=a;cases a),λ_ a=>a.elim,rfl,λi r l h=>n9⟩)
theorem aa.eRd(H:aa B h0 h As)(i:Nat)(n:As[i]?=cO (db e s k f E ll))(o:∀x,(f x).length=k):fk (bW E k f) h s ll:=by obtain⟨rs,p,a,b,c,d,e⟩:=H.at i n;exact⟨rs,a.seq o λx j=>(b x j).1,d,λi r l m g=>E.mono (e i r l m g) c⟩
theorem aa.aab(H:aa B h0 h As)(i:Nat)(n:As[i]?=cO (db e s k f E ll))(o:∀x,(f x).length=k):aa B h0 h (As.set i (EA (bW E k f) s ll)):=
 H.dG i n λq ⟨rs,p,a,b,c,d,e⟩=>⟨rs,a.seq o λx j=>(b x j).1,d,λi r l m g=>E.mono (e i r l m g) c⟩
theorem aa.eAt{a:α}{b:β}(H:aa B h0 h As)(i:Nat)(c:As[i]?=cO (EA E a b)):fk E h a b:=H.at i c
theorem aa.abI(H:aa B h0 h As)(i:Nat)(g:As[i]?=cO (db e s k f E ll)):s.len=n1 ll/\s.len<=s.cap:=by obtain⟨rs,j,a,b,c,d,e⟩:=H.at i g;exact⟨by rw[a.len,d],a.cap⟩
theorem aa.AY(hC:C.Ok)(H:aa B h0 h As)(i j:Nat)(F:i≠j){a:α}{b:β}(Y:As[i]?=cO (db e s k f E ll))(hj:As[j]?=cO (EA E a b))(he:bS C.toAk t e k z by_)(hz:n1 z=k)(T:0<by_/\by_<=128)(hw:∀x,(f x).length=k)
  (J:∀x,∀c∈f x,c.oneCell'=eH) {parts:Array (Nat×eX)} (I:wC (λi=>cO (i*k,k)) (iI z 1).toArray parts.toList=cO ([a].flatMap f).toArray) (X:1*k<=2^20)
  (ab:n1 ll+1<=2^32) {ty:Nat} {K:Sl->hY->Prop} (hk:∀S h',aa B h0 h' ((As.set j emp).set i (db e S k f E (ll++[b])))->K S h'):
  bC C.P (zJ t 1 parts) (.one (.sc .slc)) h λv o=>bC C.P (zb #[t,t] ty #[.slice s.ptr s.len s.cap,.slice v.ptr v.len v.cap]) (.one (.sc .slc)) o K:=by
 have H2:=H.merge i j F Y hj (D:=⟨λh q=>∃(rs:List α) (g:au),Own h e s k f rs/\(∀b,s.on b->q b/\¬g b)/\(∀b,g b->q b)/\rs.length=n1 ll/\(∀(i:Nat) r l,rs[i]?=cO r->ll[i]?=cO l->E.p h g r l)/\E.p h g a b,
  λ⟨rs,g,a,b,c,d,e,f⟩ hp=>⟨rs,g,a.ac hp λx n=>(b x n).1,b,c,d,λi r l o y=>E.loc (e i r l o y) (hp.mono λx _ n=>c x n),E.loc f (hp.mono λx _ n=>c x n)⟩,
  λ⟨rs,g,a,b,c,d,e,f⟩ hq=>⟨rs,g,a,λx n=>⟨hq x (b x n).1,(b x n).2⟩,λx n=>hq x (c x n),d,e,f⟩⟩)
  (λg q2 hd hA hB=>by
   obtain⟨rs,q3,a,b,c,d,e'⟩:=hA;refine⟨rs,λb=>q3 b∨q2 b,a,λx n=>⟨.inl (b x n).1,λM=>M.elim (b x n).2 (hd x (b x n).1)⟩,λx n=>n.elim (λh=>.inl (c x h)) .inr,d,λi r l o y=>E.mono (e' i r l o y) λ_ h=>.inl h,E.mono hB λ_ h=>.inr h⟩)
 have w:i<n1 As:=(qm.1 Y).1;obtain⟨lo,pp,c,zz,ax⟩:=H2;have ha:=ax i _ (by rw[wP (Ne.symm F),zG w]);obtain⟨rs,g,a1,a2,a3,a4,a5,a6⟩:=ha;let Z:Nat->Nat:=λb=> @ite _ (g b) (Classical.propDecidable _) (n1 As+2) (c b);have Q:∀b,g b->b<h.size/\c b=i+1:=a3;have ho:dT h Z (i+1) e s k f rs:=⟨a1,λb m=>by
  have:=a2 b m;show @ite _ (g b) (Classical.propDecidable _) _ _=_;rw[m6 this.2];exact this.1.2⟩
 refine ho.push hC he hz T hw J a I X n3 λS h' A G=>hk S h' ?_;rw[vk _ _ (Ne.symm F)];rw[<-vd (l:=As) (i:=i),vk _ _ F];have O:∀b,g b->Z b≠i+1:=λb m=>by
  show @ite _ (g b) (Classical.propDecidable _) _ _≠_;rw[l0 m];omega
 refine aa.AT lo pp zz ax (G.mono λb m hn hc=>hn ⟨m,?_⟩) ⟨rs++[a],λb=>g b/\b<h.size,A.own,λb m=>?_,λb m=>⟨qY m.2 G.1,.inl ⟨m.2,(Q b m.1).2⟩⟩,by simp[a4],λV r' l' o y=>?_⟩
 .grind
 .have u:=A.aZ b m;by_cases w:b<h.size
  .rw[gH w]at u;have N:¬g b:=λW=>O b W u;have R:@ite _ (g b) (Classical.propDecidable _) (n1 As+2) (c b)=i+1:=u;rw[m6 N]at R;exact⟨⟨A.own.lt m,.inl ⟨w,R⟩⟩,λM=>N M.1⟩
  .exact⟨⟨A.own.lt m,.inr n3⟩,λM=>w M.2⟩
 .have L:∀{rr:α} {l:β},E.p h g rr l->E.p h' (λb=>g b/\b<h.size) rr l:=λhs=>
   E.loc (E.mono hs (q':=λb=>g b/\b<h.size) λb m=>⟨m,(Q b m).1⟩) (G.mono λb _ m=>O b m.1)
  by_cases U:V<n1 rs
  .rw[qw U]at o;rw[qw n3]at y;exact L (a5 V r' l' o y)
  .have:V=n1 rs:=by have:=(qm.1 o).1;simp at this;omega
   subst this;simp at o;rw[a4]at y;simp at y;subst o;subst y;exact L a6
theorem aa.adM{L:TI}(V:C.Ok)(H:aa B h0 h As)(i j:Nat)(u:i≠j){a:α}{b:β}(N:As[i]?=cO (db e s k f E ll))(hj:As[j]?=cO (EA E a b))(hw:∀x,(f x).length=k)(Q:C.T.get t=cO L){x:Int}(n:Nat)(g:x=n)(hn:n<n1 ll){val:eX}(hv:val.cells=(f a).toArray)(J:L.size=k)
  (y:(f a).all (·.oneCell')=eH) {K:hY->Prop} (R:∀h',aa B h0 h' ((As.set j emp).set i (db e s k f E (ll.set n b)))->K h'):
  ∃a:fY,(s.ptr=cO a/\0<=x/\x<((s.len:Nat):Int))/\av C.P (qL t (.pointer (cO (a.add (x.toNat*k)))) val) h λ_ h'=>K h':=by
 have U:=H.merge i j u N hj (D:=⟨λh q=>∃(rs:List α) (m:au),Own h e s k f rs/\(∀b,s.on b->q b/\¬m b)/\(∀b,m b->q b)/\rs.length=n1 ll/\(∀(i:Nat) r l,rs[i]?=cO r->ll[i]?=cO l->E.p h m r l)/\E.p h m a b,
  λ⟨rs,m,a,b,c,d,e,f⟩ hp=>⟨rs,m,a.ac hp λx g=>(b x g).1,b,c,d,λi r l F G=>E.loc (e i r l F G) (hp.mono λx _ g=>c x g),E.loc f (hp.mono λx _ g=>c x g)⟩,
  λ⟨rs,m,a,b,c,d,e,f⟩ hq=>⟨rs,m,a,λx g=>⟨hq x (b x g).1,(b x g).2⟩,λx g=>hq x (c x g),d,e,f⟩⟩)
  (λm X O hA hB=>by
   obtain⟨rs,q3,a,b,c,d,e'⟩:=hA;refine⟨rs,λb=>q3 b∨X b,a,λx g=>⟨.inl (b x g).1,λY=>Y.elim (b x g).2 (O x (b x g).1)⟩,λx g=>g.elim (λh=>.inl (c x h)) .inr,d,λi r l F G=>E.mono (e' i r l F G) λ_ h=>.inl h,E.mono hB λ_ h=>.inr h⟩)
 have I:i<n1 As:=(qm.1 N).1;obtain⟨S,pp,c,W,ax⟩:=U;have ha:=ax i _ (by rw[wP (Ne.symm u),zG I]);obtain⟨rs,m,a1,A,a3,a4,a5,a6⟩:=ha;refine a1.set V hw Q n g n3 a hv J y λh' z w _=>R h' ?_;rw[vk _ _ (Ne.symm u)];rw[<-vd (l:=As) (i:=i),vk _ _ u];have keep:∀{M:α} {l:β},E.p h m M l->E.p h' m M l:=λZ=>E.loc Z (w.mono λb _ o v=>(A b v).2 o);refine aa.AT S pp W ax (w.mono λb _ o v=>o (A b v).1) ⟨rs.set n a,m,z,λb o=>⟨⟨qY (A b o).1.1 w.1,.inl (A b o).1⟩,(A b o).2⟩,λb o=>⟨qY (a3 b o).1 w.1,.inl (a3 b o)⟩,by simp[a4],λi' r' l' F G=>?_⟩
 grind
end
section
variable {E:jg α β} {e:Nat} {B:au}
theorem aa.Ed{α:Type}{f:α->aR}{l:List α}(H:aa B h0 h As)(i:Nat)(b:As[i]?=cO (ai e s k f l))(c:∀x,(f x).length=k):aa B h0 h (As.set i (EA (iJ k f) s l)):=H.dG i b λ_ a=>a.1.seq c a.2
end
variable {e2:Nat}
section
variable {B:au} {e:Nat}
theorem aa.RG{s:Sl}{ll:List (List α)}(H:aa B h0 h As)(i:Nat)(b:As[i]?=cO (dD e s k f ll)):aa B h0 h (As.set i (db e s 1 bv (iJ k f) ll)):=H.dG i b λ_ a=>a
end
theorem Jr{h h':hY}{p:au}(a:aP p h h'):∀{L:bF},L.ok h->(∀x∈L,p x.1.block)->L.ok h'
 |[],_,_=>trivial
 |x::L,hk,hq=>⟨a.cell (hq x n9) hk.1,Jr a hk.2 λy b=>hq y oo⟩
theorem gI{h h':hY}(d:aP (λb=>b<h.size) h h'){L:bF}(c:L.ok h):L.ok h':=Jr d c (by
 induction L with
 |nil=>simp
 |cons y L ih=>
  intro x a;rcases qQ.1 a with rfl|a
  .exact cZ c.1
  .exact ih c.2 x a)
theorem bC.both{P:Program}{s:Sem eX}{h:hY}{K:Sl->hY->Prop}{Q:hY->Prop}(b:bC P s (.one (.sc .slc)) h λ_ h'=>Q h')(c:bC P s (.one (.sc .slc)) h K):bC P s (.one (.sc .slc)) h λx h'=>Q h'/\K x h':=by
 intro w a;obtain⟨i,e,j,f,g,a3,a4⟩:=b w a;obtain⟨n,m,o,d,x2,k,l⟩:=c w a
 grind
theorem aa.ir{α:Type}{B:au}{C:Ctx}{r h:hY}{As:List HP}{e t k b:Nat}{z:aR}{K:Sl->hY->Prop}(m:C.Ok)(H:aa B r h As)(f:α->aR)(o:bS C.toAk t e k z b)(d:n1 z=k){n:Nat}{parts:Array (Nat×eX)}(l:List α)(j:n1 l=n)(c:n*k<=2^20)
  (a:wC (λi=>cO (i*k,k)) (iI z n).toArray parts.toList=cO (l.flatMap f).toArray) {L:bF} (g:L.ok h) (p:bC C.P (zJ t n parts) (.one (.sc .slc)) h K):
  bC C.P (zJ t n parts) (.one (.sc .slc)) h λx h'=>L.ok h'/\K x h':=
 bC.both ((Sp.refl h).lit m f o d l j c a λ_ _ q=>gI q.ac g) p
section
variable {B:au} {Bs:List HP} {A:HP} {i:Nat}
theorem aa.front(H:aa B h0 h (As++Bs)):aa B h0 h (Bs++As):=
 H.pick (λj=>if j<n1 Bs then As.length+j else if j<n1 Bs+n1 As then j-n1 Bs else j)
  (λa b c=>oo) λj X d=>oo
theorem aa.bf(H:aa B h0 h (As++[A])):aa B h0 h (A::As):=H.front
theorem aa.bV(H:aa B h0 h As)(R:Sp h h' [A]):aa B h0 h' (A::As):=(H.comp R).bf
theorem aa.nE(H:aa B h0 h (A::As)):aa B h0 h As:=H.rest
theorem aa.nF(H:aa B h0 h (A::D::As)):aa B h0 h (A::As):=H.del 1
theorem aa.AZ{ι:Type}{F:ι->HP}(H:aa B h0 h (HP.ex F::As)):∃x,aa B h0 h (F x::As):=H.La 0 n2
theorem aa.CD{ι:Type}{F:ι->HP}(x:ι)(H:aa B h0 h (F x::As)):aa B h0 h (HP.ex F::As):=H.close' 0 x n2
theorem aa.CE(H:aa B h0 h (A.sep D::As)):aa B h0 h (D::A::As):=(H.split 0 n2).bf
theorem aa.jW(H:aa B h0 h (D::A::As)):aa B h0 h (A.sep D::As):=by have a:aa B h0 h (emp::A.sep D::As):=H.join 1 0 n4 n2 n2;exact a.rest
theorem aa.nt(H:aa B h0 h (A::D::As)):aa B h0 h (D::A::As):=H.RF 0 1 n2 n2
end
theorem Seq.lm{h:hY}{p:au}{s:Sl}{rs:List Sl}(b:Seq h p s 1 bv rs){i:Int}(n:Nat)(c:i=n)(d:n<n1 rs){K:Sl->Prop}(e:K rs[n]):
  ∃a:fY,(s.ptr=cO a/\0<=i/\i<((s.len:Nat):Int))/\∃x:Sl,hU h (a.add (i.toNat*1))=cO (.slice x.ptr x.len x.cap)/\K x:=
 b.aX (g:=λr:Sl=>Value.slice r.ptr r.len r.cap) n c d rs[n] n2 e
def St(B:au)(a:hY)(As:List HP)(Q:hY->Prop):Prop:=∀(Bs:List HP) (h':hY),aa B a h' (Bs++As)->Q h'
variable {Q:hY->Prop}
section
variable {B:au} {Bs:List HP} {A:HP}
theorem St.at(x:St B h0 As Q)(Bs:List HP)(H:aa B h0 h (Bs++As)):Q h:=x Bs h H
theorem St.base(b:Q h0)(a:∀h',aP B h0 h'->Q h'):St B h0 As Q:=λ_ _ H=>a _ H.ac
theorem St.dN(j:Nat)(c:As[j]?=cO A)(a:∀h',A.p h' (λb=>b<h'.size)->Q h'):St B h0 As Q:=λBs h' H=>a _ (H.at (n1 Bs+j) oo)
theorem St.cons(x:St B h0 As Q):St B h0 (A::As) Q:=λBs h' H=>x (Bs++[A]) h' oo
end
section
variable {E:jg Sl β} {ll:List β}
theorem bW.aex(x:(bW E 1 bv).p h q s ll){i:Int}(n:Nat)(m:i=n)(f:n<n1 ll){K:Sl->Prop}(g:∀(a:fY) (r:Sl),s.ptr=cO a->hU h (a.add (n*1))=cO (.slice r.ptr r.len r.cap)->E.p h q r ll[n]->K r):
  ∃a:fY,(s.ptr=cO a/\0<=i/\i<((s.len:Nat):Int))/\∃x:Sl,hU h (a.add (i.toNat*1))=cO (.slice x.ptr x.len x.cap)/\K x:=by
 obtain⟨rs,c,l,h3⟩:=bW.ku x;obtain⟨b,o,d,e2,j⟩:=c.elem n (rs[n]'n3) (qd n3);have e:=j.1;have k:hU h ((⟨b,o,dB⟩:fY).add (n*1))=cO (.slice (rs[n]'n3).ptr (rs[n]'n3).len (rs[n]'n3).cap):=by rw[add_eq];exact e
 refine⟨_,⟨d,n3,by rw[c.len];omega⟩,rs[n]'n3,oo,g _ _ d k (h3 n n3 f)⟩
end
theorem CF{α:Type}{l:List α}(c:l.Nodup){a b:Nat}(f:a<n1 l)(d:b<n1 l)(h:l[a]=l[b]):a=b:=by
 have e:=zf.1 c
 grind
theorem aa.bs{B:au}{e h:hY}{As:List HP}(H:aa B e h As)(L:List Nat)(d:∀j∈L,j<n1 As:=by simp)(f:L.Nodup:=by decide):aa B e h (L.map λj=>As.getD j emp):=by
 refine H.pick (λi=>if h:i<n1 L then L[i]else As.length+i) (λa b c=>?_) λi A2 g=>?_
 .split at c<;>split at c
  .exact CF f _ _ c
  .have:=d _ (qf (l:=L) (n:=a) n3);omega
  .have:=d _ (qf (l:=L) (n:=b) n3);omega
  .omega
 grind
theorem St.mk'{B:au}{a:hY}{As:List HP}{Q:hY->Prop}(x:∀h',aa B a h' As->Q h'):St B a As Q:=λBs h' H=>x h' (H.take Bs.length λi A b=>oo)
theorem St.mono{B:au}{b:hY}{As:List HP}{Q a:hY->Prop}(x:St B b As Q)(c:∀h,Q h->a h):St B b As a:=λBs h' H=>c _ (x Bs h' H)
theorem St.and{B:au}{a:hY}{As:List HP}{Q b:hY->Prop}(x:St B a As Q)(y:St B a As b):St B a As λh=>Q h/\b h:=λBs h' H=>⟨x Bs h' H,y Bs h' H⟩
theorem aa.aF{B:au}{g h:hY}{As:List HP}(H:aa B g h As)(k:Nat)(L:List Nat)(o:k<=n1 As:=by simp)(e:∀j∈L,j<k:=by simp)(m:L.Nodup:=by decide):aa B g h (L.map (λj=>As.getD j emp)++As.drop k):=by
 refine H.pick (λi=>if h:i<n1 L then L[i]else k+(i-n1 L)) (λa b c=>?_) λi A2 p=>?_
 .split at c<;>split at c
  .exact CF m _ _ c
  .have:=e _ (qf (l:=L) (n:=a) oo);omega
  .have:=e _ (qf (l:=L) (n:=b) n3);omega
  .omega
 .by_cases d:i<n1 L
  .have f:=e _ (qf d)
   grind
  grind
section
variable {E:jg α β} {C:Ctx} {e:Nat} {B:au} {rs:List α} {ll:List β}
def Fix(E:jg α β)(k:Nat)(f:α->aR)(h:hY)(q:au)(s:Sl)(rs:List α)(ll:List β):Prop:=Seq h q s k f rs/\rs.length=n1 ll/\∀(i:Nat) r l,rs[i]?=cO r->ll[i]?=cO l->E.p h q r l
theorem Fix.ac(x:Fix E k f h q s rs ll)(a:aP q h h'):Fix E k f h' q s rs ll:=⟨x.1.ac a,x.2.1,λi r l c b=>E.loc (x.2.2 i r l c b) a⟩
theorem Fix.mono{q':au}(x:Fix E k f h q s rs ll)(a:∀b,q b->q' b):Fix E k f h q' s rs ll:=⟨x.1.mono a,x.2.1,λi r l d c=>E.mono (x.2.2 i r l d c) a⟩
abbrev gA(E:jg α β)(k:Nat)(f:α->aR)(h:hY)(s:Sl)(rs:List α)(ll:List β):Prop:=Fix E k f h (λb=>b<h.size) s rs ll
theorem gA.up(x:gA E k f h s rs ll)(a:aP (λb=>b<h.size) h h'):gA E k f h' s rs ll:=(Fix.ac x a).mono λ_ c=>qY c a.1
theorem Fix.row(x:Fix E k f h q s rs ll){i:Nat}(a:i<n1 ll):E.p h q (rs[i]'(by rw[x.2.1];exact a)) ll[i]:=x.2.2 i _ _ (qd _) (qd _)
theorem bW.fix(x:(bW E k f).p h q s ll):∃rs,Fix E k f h q s rs ll:=x
theorem Fix.elt(x:Fix E k f h q s rs ll):(bW E k f).p h q s ll:=⟨rs,x⟩
def cy(E:jg α β)(k:Nat)(f:α->aR)(s:Sl)(rs:List α)(ll:List β):HP:=⟨λh q=>Fix E k f h q s rs ll,λx b=>x.ac b,λx a=>x.mono a⟩
theorem aa.Fw(H:aa B h0 h As)(i:Nat)(m:As[i]?=cO (db e s k f E ll))(u:∀x,(f x).length=k):∃rs,aa B h0 h (As.set i (cy E k f s rs ll)):=by
 have g:i<n1 As:=(qm.1 m).1;have p:aa B h0 h (As.set i (HP.ex λrs=>cy E k f s rs ll)):=H.dG i m λq ⟨rs,v,a,b,c,d,e⟩=>⟨rs,a.seq u λx n=>(b x n).1,d,λi r l o t=>E.mono (e i r l o t) c⟩
 obtain⟨rs,j⟩:=p.La i (zG g);exact⟨rs,by rw[vd]at j;exact j⟩
theorem aa.dv(H:aa B h0 h As)(i:Nat)(a:As[i]?=cO (cy E k f s rs ll)):gA E k f h s rs ll:=H.at i a
theorem aa.tE(d:C.Ok)(H:aa B h0 h As)(f:C.T.get t=cO ti){K:fY->hY->Prop}(e:∀a h',aP (λb=>b<h.size) h h'->aa B h0 h' (As++[aj a t ti.zero])->K a h'):
  oF C.P (y8 t eH (.tuple #[])) h K:=
 uy d f λa h' x y c _=>e a h' (c.mono λ_ _ _=>trivial) (H.comp (Iu x y c))
theorem aa.Ee(v:C.Ok)(H:aa B h0 h As)(f:α->aR)(A:bS C.toAk t e k z by_)(i:0<by_/\by_<=128)(g:α)(r:f g=z)(l:n1 z=k){q E:IntKind}{n p:Int}(m c:Nat)(s:n=m)(D:p=c)(j:m<=c)(d:c<=2^32)
  {K:Sl->hY->Prop} (u:∀a h',a.len=m->aP (λb=>b<h.size) h h'->aa B h0 h' (As++[ai e a k f (qi m g)])->K a h'):
  bC C.P (zF t (.int q n) (.int E p)) (.one (.sc .slc)) h K:=
 run_make v A i g r l m c s D j d λa h' x y w o _=>u a h' (by rw[x.len];simp) (o.mono λ_ _ _=>trivial) (H.comp (Eb n2 x y o))
end
section
variable {C:Ctx} {B:au} {e:Nat}
theorem Own.CG(A:C.Ok)(p:Own h e s k f l)(v:∀x,(f x).length=k)(E:C.T.get t=cO i){x:Int}(n:Nat)(w:x=n)(r:n<n1 l)(j:Nat)(vs:aR)(I:j+n1 vs<=k){val:eX}(y:α)(G:val.cells=vs.toArray)(o:i.size=n1 vs)
  (d:vs.all (·.oneCell')=eH) (F:f y=(f l[n]).take j++vs++(f l[n]).drop (j+n1 vs)) {K:hY->Prop} (z:∀h',Own h' e s k f (l.set n y)->aP (λb=>¬s.on b) h h'->K h'):
  ∃a:fY,(s.ptr=cO a/\0<=x/\x<((s.len:Nat):Int))/\av C.P (qL t (.pointer (cO ((a.add (x.toNat*k)).add j))) val) h λ_ h'=>K h':=by
 subst w;rcases p.head with⟨_,_,h3⟩|⟨b,rest,h1,h2,h3,h4⟩
 .subst h3;simp at r
 .refine⟨_,⟨h1,n3,by rw[p.len];omega⟩,?_⟩;refine av.bind (av.pure' ?_);refine av.bind (av.always (eF A.toOk E) ?_);rw[G,o];simp only[yO,ne_eq,not_true,if_false];rw[add_eq,add_eq,yg,qj];have m:l=l.take n++l[n]::l.drop (n+1):=n9
  have g:l.set n y=l.take n++y::l.drop (n+1):=yI.trans (l0 r);have u:((l.take n).flatMap f).length=n*k:=by rw[dO v,qB,w7 n3]
  have H:=v l[n];have q:f l[n]=(f l[n]).take j++((f l[n]).drop j).take vs.length++(f l[n]).drop (j+n1 vs):=by rw[qo,<-wx,qD,qD]
  refine fv (e:=e) (pre:=(l.take n).flatMap f++(f l[n]).take j) (old:=((f l[n]).drop j).take vs.length) (post:=(f l[n]).drop (j+n1 vs)++((l.drop (n+1)).flatMap f++rest)) ?_ ?_ ?_ ?_ ?_
  .grind
  .simp;omega
  .grind
  .intro c D;exact qU.1 d c D
  .refine z _ ⟨by rw[qK];exact p.len,.inr ⟨b,rest,h1,?_,h3,h4⟩⟩ (aP.jJ h2 λB=>B ⟨0,h1⟩);rw[iH h2,l0 n2,g,ze,zA,F];simp
theorem aa.CG(q:C.Ok)(H:aa B h0 h As)(d:Nat)(c:As[d]?=cO (ai e s k f l))(D:∀x,(f x).length=k)(r:C.T.get t=cO i){x:Int}(n:Nat)(m:x=n)(o:n<n1 l)(j:Nat)(vs:aR)(A:j+n1 vs<=k){val:eX}(y:α)(v:val.cells=vs.toArray)(g:i.size=n1 vs)
  (b:vs.all (·.oneCell')=eH) (u:f y=(f l[n]).take j++vs++(f l[n]).drop (j+n1 vs)) {K:hY->Prop} (p:∀h',aa B h0 h' (As.set d (ai e s k f (l.set n y)))->K h'):
  ∃a:fY,(s.ptr=cO a/\0<=x/\x<((s.len:Nat):Int))/\av C.P (qL t (.pointer (cO ((a.add (x.toNat*k)).add j))) val) h λ_ h'=>K h':=
 (H.own d c).CG q D r n m o j vs A y v g b u λh' z w=>p h' (H.oa d c w z)
end
def HP.all:List HP->HP
 |[]=>emp
 |A::L=>A.sep (HP.all L)
variable {L:List HP}
section
variable {B:au} {A:HP}
theorem aa.Ap:∀{L:List HP} {As:List HP},aa B h0 h (HP.all L::As)->aa B h0 h (L++As)
 |[],_,H=>H.rest
 |A::L,As,H=>by
  have d:aa B h0 h (HP.all L::A::As):=H.CE;have c:=aa.Ap d;exact c.pick (λi=>if i=0 then L.length else if i<=n1 L then i-1 else i) (λa b e=>oo) λi X f=>oo
theorem aa.closeAll:∀(L:List HP) {As:List HP},aa B h0 h (L++As)->aa B h0 h (HP.all L::As)
 |[],As,H=>((H.comp (.one (A:=emp) (aP.refl _ _) I4)).bf)
 |A::L,As,H=>by
  have c:aa B h0 h (L++(A::As)):=H.pick (λi=>if i<n1 L then i+1 else if i=n1 L then 0 else i) (λa b d=>oo) λi X e=>oo
  exact(aa.closeAll L c).jW
theorem aa.Fx{P:Prop}(H:aa B h0 h (A.and P::As)):aa B h0 h (A::As)/\P:=⟨H.Zf 0 n2,H.fact 0 n2⟩
theorem aa.toFx{P:Prop}(H:aa B h0 h (A::As))(p:P):aa B h0 h (A.and P::As):=H.adk 0 n2 p
end
def kV{α:Type}(e:TypeId)(s:Sl)(a:TypeId)(k:Nat)(f:α->aR)(ll:List (List α)):HP:=
 HP.ex λrs:List Sl=>(HP.all (ai e s 1 bv rs::bg a k f rs ll)).and (n1 rs=n1 ll)
section
variable {C:Ctx} {B:au} {e:Nat}
theorem aa.Ba(H:aa B h0 h (kV e s e2 k f ll::As)):∃rs:List Sl,n1 rs=n1 ll/\aa B h0 h ((ai e s 1 bv rs::bg e2 k f rs ll)++As):=by obtain⟨rs,H⟩:=H.AZ;obtain⟨H,a⟩:=H.Fx;exact⟨rs,a,H.Ap⟩
theorem aa.CI{rs:List Sl}(a:n1 rs=n1 ll)(H:aa B h0 h ((ai e s 1 bv rs::bg e2 k f rs ll)++As)):aa B h0 h (kV e s e2 k f ll::As):=
 ((aa.closeAll _ H).toFx a).CD (F:=λrs:List Sl=>(HP.all (ai e s 1 bv rs::bg e2 k f rs ll)).and (n1 rs=n1 ll)) rs
theorem aa.kc(H:aa B h0 h As)(e a k:Nat)(f:α->aR):aa B h0 h (kV e ⟨dB,0,0⟩ a k f []::As):=
 aa.CI (rs:=[]) n2 ((H.nil e 1 bv).bf)
theorem aa.tG{Bs:List HP}(H:aa B h0 h (As++Bs)):aa B h0 h As:=H.pick id (λ_ _ h=>h) λi A a=>oo
theorem aa.BN(H:aa B h0 h (kV e s e2 k f ll::As))(b:∀x,(f x).length=k):eu h s k f ll:=by obtain⟨rs,a,H⟩:=H.Ba;exact aa.Jq (aa.tG H) a b
theorem aa.lI(H:aa B h0 h (kV e s e2 k f ll::As)):s.len=n1 ll/\s.len<=s.cap:=by obtain⟨rs,a,H⟩:=H.Ba;exact⟨by rw[(H.own 0 n2).len,a],(H.own 0 n2).cap⟩
theorem aa.nG(d:C.Ok){r:Sl}{x:List α}(H:aa B h0 h (kV e s e2 k f ll::ai e2 r k f x::As))(g:bS C.toAk t e 1 [.slice dB 0 0] 24)(j:n1 ll+1<=2^32){ty:Nat}{K:Sl->hY->Prop}
  (c:∀a h',aa B h0 h' (kV e a e2 k f (ll++[x])::As)->K a h'):
  bC C.P (zJ t 1 #[(0,.slice r.ptr r.len r.cap)]) (.one (.sc .slc)) h λv b=>bC C.P (zb #[t,t] ty #[.slice s.ptr s.len s.cap,.slice v.ptr v.len v.cap]) (.one (.sc .slc)) b K:=by
 obtain⟨rs,i,H⟩:=H.Ba;refine H.push d 0 n2 g n2 n4 (λ_=>rfl) jK r n2 n4 n3 λa h' l=>c a h' ?_;refine aa.CI (rs:=rs++[r]) oo ?_;rw[mA i]
 grind
end
theorem Fy(l:aD):l.flatMap aq=l.map (Value.int .i64):=by
 induction l with
 |nil=>rfl
 |cons a t ih=>rw[zA,ih];rfl
theorem Js{w:World}{e:TypeId}{b:Nat}{rest:aR}{l:aD}(c:w.heap[b]?=cO (.cells (l.flatMap aq++rest).toArray e (0,0))):Sort.Holds (Value.int .i64) w b 0 l.toArray:=by
 intro j d;have a:j<n1 l:=oo
 refine⟨?_,by simp[World.frozen?,c]⟩;rw[Fy]at c;have:(l.map (Value.int .i64)++rest)[j]?=cO (xP xV l[j]):=oo
 simp[World.cell?,c,this,a]
theorem LV(l a:aD)(rest:aR)(b:n1 a=n1 l):Sort.putCells (Value.int .i64) 0 a.toArray (l.flatMap aq++rest).toArray=(a.flatMap aq++rest).toArray:=by
 rw[Fy,Fy];simp only[Sort.putCells,]
 grind
theorem LW{P:Program}{id:FuncId}(z:∀(f off cap:Nat) (q:aD) (w:World),Sort.Holds (Value.int .i64) w f off q.toArray->f<w.heap.size->n1 q<4611686018427387904->
   Calls P id #[.slice (cO ⟨f,off,dB⟩) q.length cap] w λe j=>e=.returned (.tuple #[])/\∃n os,j=Sort.grow (Sort.putRow (Value.int .i64) (Sort.ahead w n) f off (q.mergeSort λx y=>decide (x<=y)).toArray) os)
  (u:∀(p:bK) (cap:Nat) (w:World),Calls P id #[.slice p 0 cap] w λe j=>e=.returned (.tuple #[])/\j=w)
  {e:TypeId} {s:Sl} {l:aD} {h:hY} (t:Own h e s 1 aq l) (B:n1 l<2^40):
  an P id #[.slice s.ptr s.len s.cap] h λv h'=>v=.tuple #[]/\Own h' e s 1 aq (l.mergeSort λx y=>decide (x<=y))/\aP (λb=>¬s.on b) h h':=by
 intro w m;have a:=t.len;rcases t.head with⟨h1,h2,h3⟩|⟨b,rest,h1,h2,h3,h4⟩
 .subst h3;rw[a,h1];refine(u dB s.cap w).mono ?_;rintro e' j ⟨rfl,rfl⟩;have D:(([]:aD).mergeSort λx y=>decide (x<=y))=[]:=n9
  exact⟨_,n2,dn.refl _,n2,oo,by rw[<-m];exact aP.refl _ _⟩
 .rw[h1,a];have o:w.heap[b]?=cO (.cells (l.flatMap aq++rest).toArray e (0,0)):=by rw[m];exact h2
  refine(z b 0 s.cap l w (Js o) (lt_of_block o) n3).mono ?_;rintro e' j ⟨rfl,n,os,rfl⟩;have g:=lt_of_block o;have i:(l.mergeSort λx y=>decide (x<=y)).length=n1 l:=wT l;have d:∀k,k<h.size->(Sort.grow (Sort.putRow (Value.int .i64) (Sort.ahead w n) b 0 (l.mergeSort λx y=>decide (x<=y)).toArray) os).heap[k]?=if b=k then cO (.cells ((l.mergeSort λx y=>decide (x<=y)).flatMap aq++rest).toArray e (0,0))else h[k]?:=by
   intro k r;rw[Sort.heap_grow_old _ _ (by simpa[Sort.putRow,Sort.mapBlock,Sort.ahead,m]using r)];simp only[Sort.putRow,Sort.mapBlock,Sort.ahead,yo];by_cases c:b=k
   .subst c;rw[l0 n2,l0 n2,o,zp,Sort.onCells,LV _ _ _ i]
   .rw[m6 c,m6 c,m]
  rw[m]at g;refine⟨_,n2,⟨n2,n2,n2,by simp[Sort.grow,Sort.putRow,Sort.mapBlock,Sort.ahead]⟩,n2,⟨by rw[i];exact a,.inr ⟨b,rest,h1,?_,h3,h4⟩⟩,?_,?_⟩
  .rw[d b g,l0 rfl]
  .grind
  .intro k r A;rw[d k r,m6 λc=>A ⟨0,by rw[h1,c]⟩]
abbrev Row:=aS
abbrev aO:=List Row
def scaleB(c:UInt8)(l:Row):Row:=l.map (Gf.mul c)
def cL(c:UInt8)(a to:Row):Row:=zn (λx y=>y^^^Gf.mul c x) a to
def aM(r:Row)(aZ:Nat):UInt8:=r.getD aZ 0
def aB(m:aO)(i:Nat):Row:=m.getD i []
def fw(m:aO)(a aZ:Nat):Option Nat:=(qz m.length).find? λi=>decide (a<=i)&&(aM (aB m i) aZ !=0)
def fM(m:aO)(i j:Nat):aO:=(m.set i (aB m j)).set j (aB m i)
def bO(a aZ:Nat)(m:aO)(k:Nat):aO:=m.mapIdx λi r=>if i<k/\i≠a then cL (aM r aZ) (aB m a) r else r
def fW(a aZ:Nat)(m:aO):aO:=m.set a (scaleB (Gf.inv (aM (aB m a) aZ)) (aB m a))
def fN(s:Nat×aO)(aZ:Nat):Nat×aO:=
 match fw s.2 s.1 aZ with
 |none=>s
 |some i=>(s.1+1,bO s.1 aZ (fW s.1 aZ (fM s.2 s.1 i)) s.2.length)
def bc(m:aO):Nat->Nat×aO
 |0=>(0,m)
 |c+1=>fN (bc m c) c
def ez(m:aO):Nat:=(aB m 0).length
def cx(m:aO):Nat:=(bc m (ez m)).1
def aW(n:Nat)(m:aO):Prop:=∀r∈m,n1 r=n
theorem rD(c:UInt8)(l:Row):(scaleB c l).length=n1 l:=by simp[scaleB]
theorem cm{c:UInt8}{a t:Row}(h:n1 a=n1 t):(cL c a t).length=n1 t:=by simp[cL,h]
theorem bh{m:aO}{i:Nat}(h:i<n1 m):aB m i=m[i]:=by rw[aB,qg,qd h];rfl
theorem bZ{n:Nat}{m:aO}(h:aW n m){i:Nat}(a:i<n1 m:=by omega):(aB m i).length=n:=by rw[bh a];exact h _ (qf a)
theorem Fz{n:Nat}{m:aO}(h:aW n m){i:Nat}{r:Row}(b:n1 r=n):aW n (m.set i r):=λx a=>by
 rcases zT a with h1|h1
 .exact h x h1
 grind
theorem Gy{P:Nat->Bool}{n:Nat}(h:∀j,j<n->P j=eL):(qz n).find? P=dB:=oo
theorem RH{P:Nat->Bool}{n k:Nat}(e:k<n)(h:∀j,j<k->P j=eL)(c:P k=eH):(qz n).find? P=cO k:=by
 rw[List.find?_eq_some_iff_append];refine⟨c,qz k,List.range' (k+1) (n-k-1),?_,λa d=>?_⟩
 .rw[yN,yN];have b:n=k+(n-k):=n3
  have e2:n-k=(n-k-1)+1:=n3
  conv=>lhs;rw[b,<-List.range'_append_1 (s:=0) (m:=k) (n:=n-k)]
  rw[yg]
  conv=>lhs;rw[e2,List.range'_succ]
 grind
theorem kL{m:aO}{a aZ i:Nat}(h:fw m a aZ=cO i):a<=i/\i<n1 m/\aM (aB m i) aZ≠0:=by
 have c:=List.find?_some h;have b:=List.mem_of_find?_eq_some h
 grind
theorem Od{m:aO}{a aZ:Nat}(h:fw m a aZ=dB):∀i,a<=i->i<n1 m->aM (aB m i) aZ=0:=λi c b=>by
 have:=List.find?_eq_none.1 h i (q8.2 b)
 grind
theorem iU(m:aO)(i j:Nat):(fM m i j).length=n1 m:=by simp[fM]
theorem og{n:Nat}{m:aO}(h:aW n m){i j:Nat}(b:i<n1 m:=by omega)(a:j<n1 m:=by omega):aW n (fM m i j):=Fz (Fz h (bZ h a)) (bZ h b)
theorem kM(t c:Nat)(m:aO):(fW t c m).length=n1 m:=by simp[fW]
theorem mB{n:Nat}{m:aO}(h:aW n m){t c:Nat}(a:t<n1 m):aW n (fW t c m):=Fz h (by rw[rD];exact bZ h a)
theorem kN(t c:Nat)(m:aO)(k:Nat):(bO t c m k).length=n1 m:=by simp[bO]
theorem uB{n:Nat}{m:aO}(h:aW n m){t c k:Nat}(d:t<n1 m):aW n (bO t c m k):=λx b=>by
 obtain⟨i,e,rfl⟩:=List.mem_mapIdx.1 b;have a:=h _ (qf e);split
 .rw[cm (by rw[bZ h d,a])];exact a
 omega
theorem oh(t c:Nat)(m:aO):bO t c m 0=m:=by apply zq;simp[bO,]
theorem je{t c k:Nat}{m:aO}{i:Nat}(a:i<n1 m:=by omega):aB (bO t c m k) i=if i<k/\i≠t then cL (aM (aB m i) c) (aB m t) (aB m i)else aB m i:=by rw[bh (by rw[kN];exact a),bh a];simp[bO]
theorem kv{t c k:Nat}{m:aO}(a:k<n1 m)(b:k≠t):bO t c m (k+1)=(bO t c m k).set k (cL (aM (aB m k) c) (aB m t) (aB m k)):=by
 apply zq;intro i;simp only[bO,qZ,List.getElem?_mapIdx,List.length_mapIdx];by_cases d:k=i
 .subst d;simp only[if_true,a,qd a,zp];rw[l0 ⟨n3,b⟩,bh a]
 grind
theorem uC{t c:Nat}{m:aO}:bO t c m (t+1)=bO t c m t:=by
 simp only[bO,]
 grind
theorem Ud{n:Nat}{s:Nat×aO}(h:aW n s.2)(aZ:Nat):aW n (fN s aZ).2/\(fN s aZ).2.length=n1 s.2:=by
 unfold fN;cases hb:fw s.2 s.1 aZ with
 |none=>grind
 |some i=>
  have a:=kL hb;refine⟨uB (mB (og h n3 a.2.1) (by rw[iU];omega)) (by rw[kM,iU];omega),by rw[kN,kM,iU]⟩
theorem fS{n:Nat}{m:aO}(h:aW n m):∀c,aW n (bc m c).2/\(bc m c).2.length=n1 m
 |0=>⟨h,n2⟩
 |c+1=>by
  have:=fS h c;have a:=Ud this.1 c;rw[bc]
  grind
theorem Xg{s:Nat×aO}(h:s.1<=n1 s.2)(aZ:Nat):(fN s aZ).1<=(fN s aZ).2.length:=by
 unfold fN;cases hb:fw s.2 s.1 aZ with
 |none=>exact h
 |some i=>
  have a:=kL hb;dsimp only;rw[kN,kM,iU];omega
theorem oK(m:aO):∀c,(bc m c).1<=(bc m c).2.length
 |0=>by simp[bc]
 |c+1=>Xg (oK m c) c
section
variable {C:Ctx} {ty e:Nat} {B:au}
theorem Own.LX(N:C.Ok)(O:bS C.toAk t e k z by_)(F:∀x,(f x).length=k)(y:Own h e s k f l)(R:Seq h p v k f l2)(o:∀x,∀c∈f x,c.oneCell'=eH)(j:Nat)(X:j<=n1 l){u:bK}{H V:Nat}(i:u=if s.cap=j then s.ptr else s.ptr.map (·.add (j*k)))(B:H=s.len-j){K:Int->hY->Prop}
  (D:∀n h',Own h' e s k f (l.take j++(l2.take (n1 l-j)++l.drop (j+n1 l2)))->aP (λb=>¬s.on b) h h'->K n h'):
  bC C.P (yU #[t,t2] ty #[.slice u H V,.slice v.ptr v.len v.cap]) (.one (.sc (.int .i64))) h K:=by
 unfold bC yU;simp only[z6,wH,qX];refine av.bind (av.always (aK (O.under N)) ?_);refine av.bind (av.pure' ?_);refine av.bind (av.always (O.size N) ?_);have g:=y.len;have A:=R.len;have Q:=y.cap;obtain⟨m,E⟩:=I3 (Nat.min v.len H)
 rw[<-E];have M:m<=n1 l2:=by rw[E,<-A];exact Nat.min_le_left _ _
 have q:m<=n1 l-j:=by rw[E,<-g,B];exact Nat.min_le_right _ _
 have S:m=min l2.length (n1 l-j):=by rw[E,B,g,A]
 have I:=R.take m M;have U:l2.take (n1 l-j)++l.drop (j+n1 l2)=l2.take m++l.drop (j+m):=by
  rcases Nat.le_total l2.length (n1 l-j)with hh|hh
  .rw[qh hh,show m=n1 l2 by omega,List.take_length]
  .rw[show m=n1 l-j by omega,zl (show l.length<=j+n1 l2 by omega),zl n3]
 rw[U]at D;have G:wN k m (.slice v.ptr v.len v.cap)=wN k m (.slice v.ptr m v.cap):=by cases v.ptr<;>rfl
 rw[G];refine av.bind (eW (v:=⟨v.ptr,m,v.cap⟩) F I ?_);have d:m=0->l.take j++(l2.take m++l.drop (j+m))=l:=λe=>by rw[e];simp
 rcases y.head with⟨h1,h2,h3⟩|⟨b,rest,h1,h2,h3,h4⟩
 .have a:u=dB:=by rw[i,h1];split<;>rfl
  rw[a];subst h3;have:m=0:=by simp at q;exact q
  refine av.pure' ⟨_,n2,D _ h ?_ (aP.refl _ _)⟩;rw[d this];exact y
 .by_cases w:s.cap=j
  .have a:u=cO ⟨b,0,dB⟩:=by rw[i,l0 w,h1]
   rw[a];have r:m=0:=n3
   refine av.bind ?_;rw[r];simp only[List.take_zero,List.flatMap_nil];exact av.pure' (av.pure' ⟨_,n2,D _ h (by rw[d r];exact y) (aP.refl _ _)⟩)
  .have a:u=cO ⟨b,0+j*k,dB⟩:=by rw[i,m6 w,h1];simp only[zp];rw[add_eq]
   rw[a];refine av.bind ?_;have J:l.flatMap f++rest=(l.take j).flatMap f++((l.drop j).take m).flatMap f++((l.drop (j+m)).flatMap f++rest):=by rw[<-qo,<-ze,<-ze,<-wx,qo (yy j l),qD,qD]
   rw[J]at h2;refine fv (e:=e) (pre:=(l.take j).flatMap f) (old:=((l.drop j).take m).flatMap f) (post:=(l.drop (j+m)).flatMap f++rest) h2 (by rw[dO F,dO F,qB,qB,qJ];congr 1;omega) (by rw[dO F,qB];rw[w7 X];omega) ?_ ?_
   .intro c W;obtain⟨x,_,L⟩:=yd.1 W;exact o x c L
   .refine av.pure' ⟨_,n2,D _ _ ⟨by rw[g,qq,qq,qB,qB,qJ];omega,.inr ⟨b,rest,h1,?_,h3,h4⟩⟩ (aP.jJ h2 λT=>T ⟨0,h1⟩)⟩;rw[iH h2,l0 n2,ze,ze];simp[qo]
theorem aa.LX(r:C.Ok)(H:aa B h0 h As)(i:Nat)(o:As[i]?=cO (ai e s k f l))(u:bS C.toAk t e k z by_)(E:∀x,(f x).length=k)(A:Seq h p v k f l2)(a:∀x,∀c∈f x,c.oneCell'=eH)(j:Nat)(D:j<=n1 l){m:bK}{g w:Nat}(b:m=if s.cap=j then s.ptr else s.ptr.map (·.add (j*k)))(d:g=s.len-j){K:Int->hY->Prop}
  (q:∀n h',aa B h0 h' (As.set i (ai e s k f (l.take j++(l2.take (n1 l-j)++l.drop (j+n1 l2)))))->K n h'):
  bC C.P (yU #[t,t2] ty #[.slice m g w,.slice v.ptr v.len v.cap]) (.one (.sc (.int .i64))) h K:=
 (H.own i o).LX r u E A a j D b d λn h' x y=>q n h' (H.oa i o y x)
end
def iK(s:ByteArray):aS:=s.data.toList
theorem tH(s:ByteArray):(iK s).length=s.size:=rfl
def adN(n:Nat):Obj->Obj
 | .cells c elem (lo,hi)=>.cells c elem (if lo==hi then(n,n+1)else(min lo n,max hi (n+1)))
 |o=>o
theorem av.Ue{P:Program}{h:hY}{b n:Nat}{c:Array eX}{e:TypeId}{K:Unit->hY->Prop}(d:h[b]?=cO (.cells c e (0,0)))(k:n=c.size)(g:∀h',(∀x,x≠b->h'[x]?=h[x]?)->h'.size=h.size->(∃f,h'[b]?=cO (.cells c e f))->K () h'):
  av P (freeze {block:=b,off:=n} 1) h K:=λw i=>by
 refine⟨(),w.freeze {block:=b,off:=n} 1,run_freeze P w _ _,⟨n2,n2,n2,qk _⟩,?_⟩;subst i;have a:(w.freeze {block:=b,off:=n} 1).heap=w.heap.modify b (adN n):=rfl;refine g _ (λx j=>?_) ?_ ?_
 .grind
 .grind
 .rw[a,yo,l0 n2,d];exact⟨_,n2⟩
section
variable {C:Ctx} {B:au} {e ts:Nat}
theorem aac(d:C.Ok)(z:∃i,C.T.get ts=cO i/\i.co=.str)(m:∃i,C.T.get t=cO i/\i.co=.slice e)(u:∃i,C.T.get e=cO i/\i.co=.int .u8)(s:ByteArray){K:Sl->hY->Prop}(n:∀r h',Sp h h' [vz r 1 ar (iK s)]->K r h'):
  bC C.P (convert ts t (.string s)) (.one (.sc .slc)) h K:=by
 obtain⟨H,A,E⟩:=z;obtain⟨G,w,q⟩:=m;obtain⟨i3,a3,B⟩:=u;have v:C.P.underlying ts=cO .string:=by have:=d.co A;rw[E]at this;exact sP this
 have p:C.P.underlying t=cO (.slice e):=by have:=d.co w;rw[q]at this;exact iv this
 have u3:C.P.underlying e=cO (.int .u8):=by have:=d.co a3;rw[B]at this;exact DT this
 refine av.bind (av.always (aK v) ?_);refine av.bind (av.always (aK p) ?_);refine av.bind (av.always (aK u3) ?_);refine av.bind (av.DS ⟨λy=>(by cases y),λ_ o=>?_⟩);generalize D:Question.cut (Question.appendCap s.size 0 e) o=cc;refine av.bind (av.bind (av.nX (av.pure' ?_)));obtain⟨cs,a⟩:∃cs:Array eX,cs=s.data.map (λb=>Value.int .u8 b.toNat)++Array.replicate (cc-s.size) (Value.int .u8 0):=⟨_,rfl⟩
 rw[<-a];refine av.bind (av.bind (av.aaW ?_));have j:shapeOf (h.push (.cells cs e)) h.size=cO (e,cs.size):=by unfold shapeOf;simp
 rw[j];refine av.Ue (c:=cs) (e:=e) n9 n2 λh' F l g=>?_;refine av.pure' ⟨⟨cO ⟨h.size,0,dB⟩,s.size,cc⟩,n2,n _ _ ?_⟩;obtain⟨f,g⟩:=g;refine .one ⟨by rw[l];simp,λb I _=>oo⟩ ?_;refine⟨n2,λi x k=>⟨h.size,0,n2,⟨qk _,by rw[l];simp⟩,?_,I4⟩⟩;rw[add_zero];have J:i<s.data.size:=by have:=(qm.1 k).1;simpa[iK]using this
 unfold hU;simp only[g,Nat.mul_one,yg,];rw[a,Array.getElem?_append_left oo,];have:s.data[i]?=cO x:=by rw[<-k];simp[iK]
 grind
end
section
variable {C:Ctx} {e:Nat} {B:au} {l:aS}
theorem Ks(r:C.Ok)(E:bS C.toAk t e 1 z by_)(h2:∃i,C.T.get t2=cO i/\i.co=.str)(Q:n1 z=1)(F:0<by_/\by_<=128)
  (v:Own h e s 1 ar l) (x:ByteArray) (ad:n1 l+x.size<=2^32) {ty:Nat} {K:Sl->hY->Prop}
  (D:∀I h',Own h' e I 1 ar (l++iK x)->aP (λb=>¬s.on b) h h'->(∀b,I.on b->s.on b∨h.size<=b)->K I h'):
  bC C.P (zb #[t,t2] ty #[.slice s.ptr s.len s.cap,.string x]) (.one (.sc .slc)) h K:=by
 obtain⟨i2,U,Y⟩:=h2;have L:C.P.underlying t2=cO .string:=by have:=r.co U;rw[Y]at this;exact sP this
 obtain⟨A,u,x2,x3,Z,x4,x5⟩:=E.info r;have k:∀y∈(iK x).flatMap ar,y.oneCell'=eH:=λy hy=>by
  obtain⟨b,_,hb⟩:=yd.1 hy;exact cD b y hb
 have g:((x.extract 0 x.size).data.map λb=>Value.int .u8 (b.toNat:Int))=((iK x).flatMap ar).toArray:=by
  have V:x.extract 0 x.size=x:=by apply ByteArray.ext;simp[ByteArray.data_extract]
  rw[V];apply vt;simp only[xm,iK];exact List.map_eq_flatMap
 unfold bC zb;simp only[z6,wH,qX];refine av.bind (av.always (aK (E.under r)) ?_);refine av.bind (av.always (E.size r) ?_);refine av.bind (av.always (aK L) ?_);refine av.bind (av.pure' ?_);simp only[zg,if_false,wL,if_true];refine av.bind (av.pure' ?_);have m:=v.len;have w:∀y,(ar y).length=1:=λ_=>rfl;have j:=dO w l;have a:=dO w (iK x);have ab:=tH x;have p:∀{h:hY} {K:Array eX->hY->Prop},K ((iK x).flatMap ar).toArray h->av C.P (wN 1 x.size (.string x)) h K:=λ{h K} hK=>by
  unfold wN;dsimp only;rw[g];exact av.pure' hK
 by_cases d:s.len+x.size<=s.cap
 .rw[l0 d];refine av.bind (p ?_);rcases v.head with⟨p1,p2,p3⟩|⟨b,rest,p1,p2,p3,p4⟩
  .rw[p1];have G:iK x=[]:=qV n3;refine av.pure' ⟨⟨dB,s.len+x.size,s.cap⟩,n2,D _ _ ⟨?_,.inl ⟨n2,p2,by simp[p3,G]⟩⟩ (aP.refl _ _) ?_⟩
   .simp;omega
   .rintro M ⟨o,f⟩;cases f
  .rw[p1];refine av.bind ?_;rw[add_eq,yg];have B:((iK x).flatMap ar).length<=n1 rest:=by rw[a,p3];omega
   refine fv (e:=e) (pre:=l.flatMap ar) (old:=rest.take ((iK x).flatMap ar).length) (post:=rest.drop ((iK x).flatMap ar).length) ?_ ?_ ?_ ?_ ?_
   .rw[qo,qD];exact p2
   .rw[qB];exact w7 B
   .rw[j,m];omega
   .intro c hc;exact k c (by simpa using hc)
   .refine av.pure' ⟨⟨cO ⟨b,0,dB⟩,s.len+x.size,s.cap⟩,n2,D _ _ ⟨?_,.inr ⟨b,rest.drop ((iK x).flatMap ar).length,n2,?_,?_,d⟩⟩ ?_ ?_⟩
    .simp;omega
    .rw[iH p2,l0 rfl];simp
    .rw[qJ,p3,a];show(s.cap-s.len)*1-(iK x).length*1=(s.cap-(s.len+x.size))*1;omega
    .exact aP.jJ p2 (λR=>R ⟨0,p1⟩)
    .rintro M ⟨o,f⟩;cases f;exact .inl ⟨0,p1⟩
 .rw[m6 d];have q:Seq h (λ_=>True) s 1 ar l:=v.seq w λ_ _=>trivial;have N:=v.cap;refine av.bind (av.always (cC u) ?_);rw[m6 λW=>by rcases W.2 with h|h<;>first|exact h|(rw[x3]at h;omega)];refine av.bind (av.always (cC u) ?_);have O:=Is (s.len+x.size) s.cap;rw[m6 (by
   have:yQ (s.len+x.size) s.cap*A.bytes<=(16*2^32+16*768)*128:=zu n3 (by rw[x3];exact F.2);omega)]
  refine av.bind (av.DS ⟨λX=>(by cases X),λ_ S=>?_⟩);refine av.bind (av.always (cC u) ?_);refine av.bind (av.AM ?_);refine av.bind (eW w q ?_);refine av.bind (p ?_);have H:aL C.P (zeroValue e) Z:=(cC u).bind (by rw[x4];exact .pure);refine av.bind (av.always H ?_);rw[x5,tu];unfold newRow;refine av.bind (av.bind (av.nX (av.pure' (av.pure' ?_))));generalize J:Question.cut (Question.appendCap (s.len+x.size) s.cap e) S=cc;have n:s.len+x.size<=cc:=by rw[<-J];simp only[Question.cut];omega
  refine⟨⟨cO ⟨h.size,0,dB⟩,s.len+x.size,cc⟩,n2,D _ _ ⟨?_,.inr ⟨h.size,iI z (cc-(s.len+x.size)),n2,?_,?_,n⟩⟩ (aP.push _ _ _) ?_⟩
  .simp;omega
  .simp
  .rw[mw,Q]
  .rintro M ⟨o,f⟩;cases f;exact .inr (qk _)
theorem aa.Jt(v:C.Ok)(H:aa B h0 h As)(i:Nat)(E:As[i]?=cO (ai e s 1 ar l))(y:bS C.toAk t e 1 z by_)(A:∃i,C.T.get t2=cO i/\i.co=.str)(p:n1 z=1)(j:0<by_/\by_<=128)
  (x:ByteArray) (m:n1 l+x.size<=2^32) {ty:Nat} {K:Sl->hY->Prop} (r:∀f h',aa B h0 h' (As.set i (ai e f 1 ar (l++iK x)))->K f h'):
  bC C.P (zb #[t,t2] ty #[.slice s.ptr s.len s.cap,.string x]) (.one (.sc .slc)) h K:=by
 obtain⟨u,F,c,w,a⟩:=H;have o:=a i _ E;refine Ks v y A p j o.1 x m λf h' d g n=>r f h' ?_;refine aa.AT u F w a (g.mono λb k q D=>q (o.2 b D)) ⟨d,λb k=>⟨d.lt k,?_⟩⟩;rcases n b k with h1|h1
 .exact .inl (o.2 b h1)
 .exact .inr h1
end
section
variable {C:Ctx} {e ts:Nat}
theorem EI:∀(l:aS) (b:ByteArray),l.foldl ByteArray.push b=⟨(b.data.toList++l).toArray⟩
 |[],b=>n9
 |x::l,b=>by
  rw[zS,EI l (b.push x)];simp
theorem Ef(j:C.Ok)(w:∃i,C.T.get t=cO i/\i.co=.slice e)(E:∃i,C.T.get ts=cO i/\i.co=.str)(A:∃i,C.T.get e=cO i/\i.co=.int .u8){s:Sl}{l:aS}{p:au}(u:Seq h p s 1 ar l){K:ByteArray->hY->Prop}(q:K ⟨l.toArray⟩ h):
  bC C.P (convert t ts (.slice s.ptr s.len s.cap)) (.one (.sc .str)) h K:=by
 obtain⟨M,G,I⟩:=E;obtain⟨L,D,z⟩:=w;obtain⟨i3,a3,H⟩:=A;have B:C.P.underlying ts=cO .string:=by have:=j.co G;rw[I]at this;exact sP this
 have y:C.P.underlying t=cO (.slice e):=by have:=j.co D;rw[z]at this;exact iv this
 have u3:C.P.underlying e=cO (.int .u8):=by have:=j.co a3;rw[H]at this;exact DT this
 refine av.bind (av.always (aK y) ?_);refine av.bind (av.always (aK B) ?_);refine av.bind (av.always (aK u3) ?_);have F:=eW (P:=C.P) (f:=ar) (k:=1) (K:=λcs h'=>cs=(l.flatMap ar).toArray/\h'=h) (λ_=>rfl) u ⟨n2,n2⟩;cases hp:s.ptr with
 |none=>
  have:l=[]:=by
   cases l with
   |nil=>rfl
   |cons x r=>obtain⟨b,o,J,_⟩:=u.elem 0 x (rfl);grind
  subst this;exact av.pure' ⟨⟨#[]⟩,n2,q⟩
 |some a=>
  have d:av C.P (loadCells a s.len) h λcs h'=>cs=(l.flatMap ar).toArray/\h'=h:=by
   have:wN 1 s.len (.slice (cO a) s.len s.cap)=loadCells a s.len:=by unfold wN;simp
   grind
  refine av.bind (d.mono ?_);rintro _ _ ⟨rfl,rfl⟩;have g:∀(l:aS) (b:ByteArray),aL C.P (forIn (m:=Sem) (l.flatMap ar) b λc r=>match c with
    |xP xW n=>do pure (ForInStep.yield (r.push (zO n.toNat)))
    |_=>do let r<-stuck "bytesToString: byte expected";pure r) (l.foldl ByteArray.push b):=λl=>by
   induction l with
   |nil=>intro b;exact .pure
   |cons x l ih=>
    intro b;have N:(x::l).flatMap ar=Value.int .u8 x.toNat::l.flatMap ar:=rfl;have e2:b.push (zO ((x.toNat:Int)).toNat)=b.push x:=n9
    grind
  refine av.bind (av.always (v:=l.foldl ByteArray.push ByteArray.empty) ?_ ?_)
  .rw[List.forIn_toArray];exact g l _
  .refine av.pure' ⟨_,n2,?_⟩;rw[EI];exact q
end
theorem Gz{P:Program}{id:FuncId}(F:∀(g off cap:Nat) (i:aD) (w:World),Sort.Holds (Value.int .i64) w g off i.toArray->n1 i<=9223372036854775807->n1 i<=cap->
   Calls P id #[.slice (cO ⟨g,off,dB⟩) i.length cap] w λe r=>e=.returned (.slice (cO ⟨g,off,dB⟩) (Lib.compact i).length cap)/\∃q,r=Sort.putRow (Value.int .i64) (Sort.ahead w q) g off (Lib.compact i++qi (n1 i-(Lib.compact i).length) 0).toArray)
  (E:∀(a:bK) (cap:Nat) (w:World),Calls P id #[.slice a 0 cap] w λe r=>e=.returned (.slice a 0 cap)/\r=w)
  {e:TypeId} {s:Sl} {l:aD} {h:hY} (B:Own h e s 1 aq l) (H:n1 l<2^40):
  an P id #[.slice s.ptr s.len s.cap] h λv h'=>v=.slice s.ptr (Lib.compact l).length s.cap/\Own h' e ⟨s.ptr,(Lib.compact l).length,s.cap⟩ 1 aq (Lib.compact l)/\aP (λb=>¬s.on b) h h':=by
 intro w t;have c:=B.len;rcases B.head with⟨h1,h2,h3⟩|⟨b,rest,h1,h2,h3,h4⟩
 .subst h3;have A:Lib.compact ([]:aD)=[]:=rfl;rw[c,h1];refine(E dB s.cap w).mono ?_;rintro e' r ⟨rfl,rfl⟩;refine⟨_,n2,dn.refl _,by rw[A];rfl,by rw[A];exact⟨n2,.inl ⟨n2,by simpa using h2,n2⟩⟩,by rw[<-t];exact aP.refl _ _⟩
 .rw[h1,c];have x:w.heap[b]?=cO (.cells (l.flatMap aq++rest).toArray e (0,0)):=by rw[t];exact h2
  refine(F b 0 s.cap l w (Js x) n3 n3).mono ?_;rintro e' r ⟨rfl,n,rfl⟩;have o:=lt_of_block x;have D:=Lib.compact_length_le l;obtain⟨j,m⟩:=I3 (Lib.compact l++qi (n1 l-(Lib.compact l).length) 0)
  rw[<-m];have p:n1 j=n1 l:=by rw[m];simp;omega
  have f:∀k,k<h.size->(Sort.putRow (Value.int .i64) (Sort.ahead w n) b 0 j.toArray).heap[k]?=if b=k then cO (.cells (j.flatMap aq++rest).toArray e (0,0))else h[k]?:=by
   intro k z;simp only[Sort.putRow,Sort.mapBlock,Sort.ahead,yo];by_cases d:b=k
   .subst d;rw[l0 n2,l0 n2,x,zp,Sort.onCells,LV _ _ _ p]
   .rw[m6 d,m6 d,t]
  rw[t]at o;have y:Own (Sort.putRow (Value.int .i64) (Sort.ahead w n) b 0 j.toArray).heap e s 1 aq j:=⟨by rw[p];exact c,.inr ⟨b,rest,h1,by rw[f b o,l0 rfl],h3,h4⟩⟩
  have u:=y.cut (λ_=>rfl) (Lib.compact l).length n3;rw[m,List.take_left]at u;refine⟨_,n2,⟨n2,n2,n2,n9⟩,n2,oo,oo,?_⟩;intro k z G;rw[f k z,m6 λd=>G ⟨0,by rw[h1,d]⟩]
theorem tI(a:aD)(s:a.Pairwise (·<=·)):∀m,m<=n1 a->(Lib.compactUpTo a.toArray m).Pairwise (·<·)/\(∀x,x∈Lib.compactUpTo a.toArray m↔∃j,j<m/\a[j]?=cO x)
 |0,_=>⟨by simp[Lib.compactUpTo],λx=>by simp[Lib.compactUpTo]⟩
 |m+1,hm=>by
  obtain⟨u,v⟩:=tI a s m n3;have c:m<n1 a:=n3
  have p:a.toArray[m]! =a[m]:=C0
  rw[Lib.compactUpTo_succ,p];have t:∀j (l:j<m),a[j]'n3<=a[m]:=λj l=>zf.1 s j m n3 c l;by_cases h:Lib.keeps a.toArray m=eH
  .rw[l0 h];have r:m=0∨a[m-1]'n3<a[m]:=by
    by_cases i:m=0
    .exact .inl i
    .right;have f:a.toArray[m-1]! =a[m-1]'n3:=by simp[show m-1<n1 a by omega]
     have w:a[m]≠a[m-1]'n3:=λn=>by
      have:=Lib.keeps_neg (d:=a.toArray) (m:=m) n3 (by rw[p,f];exact n);rw[this]at h;cases h
     have:=t (m-1) n3;omega
   have k:∀x∈Lib.compactUpTo a.toArray m,x<a[m]:=λx o=>by
    obtain⟨j,l,b⟩:=(v x).1 o;rw[qd n3]at b;injection b with b
    rcases r with h0|h0
    .omega
    .have h3:a[j]'n3<=a[m-1]'n3:=by
      by_cases g:j=m-1
      .subst g;exact Int.le_refl _
      .exact zf.1 s j (m-1) n3 n3 n3
     omega
   refine⟨zD.2 ⟨u,n9,λx o y z=>?_⟩,λx=>?_⟩
   .rw[qA.1 z];exact k x o
   grind
  .rw[m6 h,List.append_nil];have i:m≠0:=λh0=>h (by subst h0;exact Lib.keeps_lt_one _ 0 n3);have q:a[m]=a[m-1]'n3:=by
    by_cases n:a[m]=a[m-1]'n3
    .exact n
    .have f:a.toArray[m-1]! =a[m-1]'n3:=by simp[show m-1<n1 a by omega]
     exact absurd (Lib.keeps_pos (d:=a.toArray) (m:=m) (by rw[p,f];exact n)) h
   refine⟨u,λx=>?_⟩;rw[v];constructor
   .rintro⟨j,l,e⟩;exact⟨j,n3,e⟩
   .rintro⟨j,l,e⟩;by_cases g:j=m
    .subst g;refine⟨j-1,n3,?_⟩;rw[qd c]at e;rw[qd n3,<-q];exact e
    .exact⟨j,n3,e⟩
theorem LY(l:aD):(mq l).Pairwise (·<=·):=by have:=wI (le:=λx y:Int=>decide (x<=y)) (by intro a b c e d;simp at e d⊢;omega) (by intro a b;simp;omega) l;exact this.imp λh=>u0
theorem RI(l:aD)(h:∀x∈l,0<=x/\x<64):Lib.compact (mq l)=gv l:=by
 obtain⟨f,c⟩:=tI (mq l) (LY l) (mq l).length (qk _);have k:∀x,x∈Lib.compact (mq l)↔x∈l:=λx=>by
  unfold Lib.compact;rw[c,<-Jo l x,List.mem_iff_getElem?];constructor
  .rintro⟨j,_,e⟩;exact⟨j,e⟩
  .rintro⟨j,e⟩;exact⟨j,(qm.1 e).1,e⟩
 have i:(gv l).Pairwise (·<·):=by unfold gv;refine List.Pairwise.filter _ ?_;rw[List.pairwise_map];exact List.pairwise_lt_range.imp λh=>n3
 have d:∀x,x∈gv l↔x∈l:=λx=>by
  unfold gv;rw[qN,qI];constructor
  .rintro⟨_,c⟩;simpa using c
  .intro g;obtain⟨a,b⟩:=h x g;exact⟨⟨x.toNat,q8.2 n3,n3⟩,D9⟩
 have m:(Lib.compact (mq l)).Perm (gv l):=(List.perm_ext_iff_of_nodup (f.imp λh=>n3) (i.imp λh=>n3)).2 λx=>(k x).trans (d x).symm;exact m.eq_of_pairwise (le:=(·<·)) (λa b _ _ f c=>n3) f i
section
variable {B:au} {C:Ctx} {e:Nat}
theorem BO(z:aR)(n:Nat):(yx z.toArray n).toList.length=n*n1 z:=by simp[yx]
theorem Ku{z:aR}(c:∀v∈z,v.oneCell'=eH)(n:Nat):∀v∈(yx z.toArray n).toList,v.oneCell'=eH:=by
 intro v a;simp only[yx,xm,qI,]at a;obtain⟨i,d,rfl⟩:=a;have h0:0<n1 z:=oo
 have b:=vu i h0
 grind
theorem Own.ol(y:C.Ok)(r:Own h e s k f l)(A:bS C.toAk t e k z by_)(u:∀x,(f x).length=k)(w:n1 z=k)(d:∀v∈z,v.oneCell'=eH)(j:Nat)(B:j<=n1 l){ty:Nat}{K:hY->Prop}
  (g:∀h',Own h' e ⟨s.ptr,j,s.cap⟩ k f (l.take j)->aP (λb=>¬s.on b) h h'->K h'):
  av C.P (vV #[t] ty #[.slice (if s.cap=j then s.ptr else s.ptr.map (·.add (j*k))) (s.len-j) (s.cap-j)]) h λ_ h'=>K h':=by
 have Q:=r.len;have c:=r.cut u j B;unfold vV;refine av.bind (av.always (aK (A.under y)) ?_);by_cases p:j=n1 l
 .have E:s.len-j=0:=n3
  rw[E];generalize (if s.cap=j then s.ptr else s.ptr.map (·.add (j*k)))=q;cases q with
  |none=>exact av.pure' (g h c (aP.refl _ _))
  |some a=>exact av.pure' (g h c (aP.refl _ _))
 .rcases r.head with⟨h1,h2,h3⟩|⟨b,rest,h1,h2,h3,h4⟩
  .subst h3;simp at B p;omega
  .have n:s.cap≠j:=n3
   rw[m6 n,h1];obtain⟨m,M⟩:∃m,s.len-j=m+1:=⟨s.len-j-1,n3⟩
   rw[M];obtain⟨O,U,N,R,F,T,I,S⟩:=A.ex;obtain⟨H,L,D⟩:=pY y.toOk F;refine av.bind (av.always L ?_);have i:H.cells=z.toArray:=by apply vt;rw[D,I]
   rw[i];refine av.bind ?_;have J:((⟨b,0,dB⟩:fY).add (j*k))=⟨b,j*k,dB⟩:=by simp[add_eq]
   show av C.P (storeCells ((⟨b,0,dB⟩:fY).add (j*k)) (yx z.toArray (m+1)).toList) h _;rw[J];have o:(l.drop j).length=m+1:=n7
   refine fv (e:=e) (pre:=(l.take j).flatMap f) (old:=(l.drop j).flatMap f) (post:=rest) ?_ ?_ ?_ (Ku d _) ?_
   .rw[<-ze,qD];exact h2
   .rw[dO u,o,BO,w]
   .rw[dO u,qB,w7 n3];omega
   .refine av.pure' (g _ ⟨n7,.inr ⟨b,(yx z.toArray (m+1)).toList++rest,h1,?_,?_,n5⟩⟩ ?_)
    .rw[iH h2,l0 rfl];simp
    .rw[qq,BO,w,h3,<-Nat.add_mul];dsimp only;congr 1;omega
    .exact aP.jJ h2 λG=>G ⟨0,h1⟩
theorem aa.ol(p:C.Ok)(H:aa B h0 h As)(i:Nat)(g:As[i]?=cO (ai e s k f l))(r:bS C.toAk t e k z by_)(w:∀x,(f x).length=k)(n:n1 z=k)(a:∀v∈z,v.oneCell'=eH)(j:Nat)(u:j<=n1 l){ty:Nat}{K:hY->Prop}
  (o:∀h',aa B h0 h' (As.set i (ai e ⟨s.ptr,j,s.cap⟩ k f (l.take j)))->K h'):
  av C.P (vV #[t] ty #[.slice (if s.cap=j then s.ptr else s.ptr.map (·.add (j*k))) (s.len-j) (s.cap-j)]) h λ_ h'=>K h':=
 (H.own i g).ol p r w n a j u λh' x y=>o h' (H.step i g λq m _=>⟨y.mono λb _ c d=>c (m.2 b d),x,λb c=>⟨x.lt c,.inl (m.2 b c)⟩⟩)
end
theorem Lb:∀x y:aS,(Op.bytesLess x y||x==y)=!Op.bytesLess y x
 |[],[]=>rfl
 |[],_::_=>rfl
 |_::_,[]=>rfl
 |a::x,b::y=>by
  have f:=Lb x y;have e:a<b∨a=b∨b<a:=oo
  rcases e with h|rfl|h
  .have d:¬b<a:=λh'=>oo
   have c:b≠a:=λh'=>oo
   simp[Op.bytesLess,h,d,c]
  .simp only[Op.bytesLess,]
   grind
  .have d:¬a<b:=λh'=>oo
   have c:a≠b:=λh'=>oo
   simp[Op.bytesLess,h,d,c]
theorem Eg:∀x y z:aS,Op.bytesLess x y=eH->Op.bytesLess y z=eH->Op.bytesLess x z=eH
 |x,[],_,h1,_=>by cases x<;>simp[Op.bytesLess]at h1
 |_,b::y,[],_,h2=>by simp[Op.bytesLess]at h2
 |[],_::_,_::_,_,_=>rfl
 |a::x,b::y,c::z,h1,h2=>by
  simp only[Op.bytesLess,yB,qC,beq_iff_eq]at h1 h2⊢;rcases h1 with h1|⟨rfl,h1⟩
  .grind
  .rcases h2 with h2|⟨rfl,h2⟩
   .grind
   .exact .inr ⟨n2,Eg x y z h1 h2⟩
theorem Uf(x:aS):Op.bytesLess x x=eL:=by
 have:=Lb x x
 grind
def iV(a b:ByteArray):Bool:=!cU b a
theorem GA(a b:ByteArray):iV a b=eH↔cU a b=eH∨a.toList=b.toList:=by unfold iV cU;rw[<-Lb,yB,beq_iff_eq]
theorem CJ(a b c:ByteArray)(e:iV a b=eH)(d:iV b c=eH):iV a c=eH:=by
 rw[GA]at e d⊢;unfold cU at*;rcases e with e|e
 .rcases d with d|d
  .exact .inl (Eg _ _ _ e d)
  grind
 grind
theorem CK(a b:ByteArray):(iV a b||iV b a)=eH:=by
 unfold iV;cases h:cU b a with
 |false=>rfl
 |true=>
  have:cU a b=eL:=by
   cases h2:cU a b with
   |false=>rfl
   |true=>
    have:=Eg _ _ _ h h2;rw[Uf]at this;grind
  grind
def mU(a b:cS):Bool:=iV a.name b.name
def nH(m:aA)(x:cS):aA:={m with seq:=m.seq+1,next:=m.next+1,objs:=(m.objs++[x]).mergeSort mU}
section
open Classical
theorem mC(a:UInt8):a^^^a=0:=UInt8.xor_self
theorem Aq(a b:UInt8):(a^^^b)^^^b=a:=by rw[UInt8.xor_assoc,mC,wh]
theorem cX{c:UInt8}{a t:Row}(h:n1 a=n1 t)(j:Nat):aM (cL c a t) j=aM t j^^^Gf.mul c (aM a j):=by
 simp only[aM,cL,qg,wU];by_cases b:j<n1 a
 .rw[qd b,qd n3];rfl
 .rw[zj n3,zj n3];simp[Gf.mul_zero]
theorem rE(c:UInt8)(a:Row)(j:Nat):aM (scaleB c a) j=Gf.mul c (aM a j):=by
 simp only[aM,scaleB,qg,qP];cases a[j]? with
 |none=>simp[Gf.mul_zero]
 |some x=>rfl
def aN(n:Nat):Row:=qi n 0
theorem cJ(n j:Nat):aM (aN n) j=0:=by simp only[aM,aN,qg,List.getElem?_replicate];split<;>rfl
theorem gw{n:Nat}{a b:Row}(f:n1 a=n)(e:n1 b=n)(h:∀j,j<n->aM a j=aM b j):a=b:=by apply wb n3;intro j d c;have:=h j n3;simpa[aM,qg,qd d,qd c]using this
inductive Span (n:Nat) (m:aO):Row->Prop
 |zero:Span n m (aN n)
 |add (c:UInt8) (r v:Row):r∈m->Span n m v->Span n m (cL c r v)
section
variable {n:Nat} {m m':aO}
theorem Span.len(a:aW n m){v:Row}(h:Span n m v):n1 v=n:=by
 induction h with
 |zero=>simp[aN]
 |add c r v hr _ ih=>rw[cm (by rw[a r hr,ih])];exact ih
theorem Span.comb(a:aW n m){u v:Row}(e:Span n m u)(b:Span n m v)(c:UInt8):Span n m (cL c u v):=by
 induction e with
 |zero=>
  have:cL c (aN n) v=v:=gw (n:=n) (by rw[cm (by simp[aN,b.len a])];exact b.len a) (b.len a) λj _=>by
   rw[cX (by simp[aN,b.len a]),cJ,Gf.mul_zero,wh]
  rw[this];exact b
 |add d r w hr hw ih=>
  have l1:=b.len a;have l2:=hw.len a;have f:=a r hr;have:cL c (cL d r w) v=cL (Gf.mul c d) r (cL c w v):=gw (n:=n) (by rw[cm (by rw[cm n3];omega)];exact l1) (by rw[cm (by rw[cm n3];omega),cm n3];exact l1) λj _=>by
   rw[cX (by rw[cm n3];omega),cX n3,cX (by rw[cm n3];omega),cX n3,Gf.jD,Gf.mul_assoc]
   ac_rfl
  rw[this];exact .add _ _ _ hr ih
theorem Span.row(b:aW n m){r:Row}(a:r∈m):Span n m r:=by
 have:=Span.add 1 r _ a (.zero (n:=n) (m:=m));have e:cL 1 r (aN n)=r:=gw (n:=n) (by rw[cm (by simp[aN,b r a])];simp[aN]) (b r a) λj _=>by
  rw[cX (by simp[aN,b r a]),cJ,Gf.one_mul,wy]
 rwa [e]at this
theorem Span.sub(b:aW n m)(h:∀r∈m',Span n m r){v:Row}(a:Span n m' v):Span n m v:=by
 induction a with
 |zero=>exact .zero
 |add c r v hr _ ih=>exact(h r hr).comb b ih c
theorem Span.mono(h:∀r∈m',r∈m){v:Row}(a:Span n m' v):Span n m v:=by
 induction a with
 |zero=>exact .zero
 |add c r v hr _ ih=>exact .add c r v (h r hr) ih
theorem Span.Zg(d:aW n m)(φ:Row->UInt8)(g:φ (aN n)=0)(e:∀c a t,n1 a=n->n1 t=n->φ (cL c a t)=φ t^^^Gf.mul c (φ a))(f:∀r∈m,φ r=0){v:Row}(b:Span n m v):φ v=0:=by
 induction b with
 |zero=>exact g
 |add c r v hr' b ih=>rw[e c r v (d r hr') (b.len d),ih,f r hr',Gf.mul_zero,wh]
end
def vR(S:Row->Prop)(j:Nat):Prop:=∃v,S v/\(∀i,i<j->aM v i=0)/\aM v j≠0
noncomputable def leads(S:Row->Prop)(n:Nat):Nat:=(qz n).countP λj=>decide (vR S j)
structure Way (n:Nat) (m:aO) (c top:Nat) (rows:aO):Prop where
 even:aW n rows
 len:n1 rows=n1 m
 tle:top<=n1 rows
 span:∀v,Span n rows v↔Span n m v
 cnt:top=leads (Span n m) c
 piv:∃p:Nat->Nat,(∀i,i<top->p i<c)/\(∀i,i<top->∀k,k<n1 rows->aM (aB rows k) (p i)=if k=i then 1 else 0)/\(∀i,i<top->∀j,j<p i->aM (aB rows i) j=0)/\(∀i j,i<j->j<top->p i<p j)
 low:∀k,top<=k->k<n1 rows->∀j,j<c->aM (aB rows k) j=0
theorem mem_row{m:aO}{i:Nat}(h:i<n1 m:=by omega):aB m i∈m:=by rw[bh h];exact qf h
theorem fX{m:aO}{r:Row}(h:r∈m):∃i,i<n1 m/\r=aB m i:=by obtain⟨i,a,rfl⟩:=qE h;exact⟨i,a,(bh a).symm⟩
theorem lp{m:aO}{i j:Nat}{r:Row}(a:i<n1 m:=by omega):aB (m.set i r) j=if i=j then r else aB m j:=by
 simp only[aB,qg,qZ];by_cases h:i=j
 .subst h;simp[a]
 .simp[h]
theorem tJ{m:aO}{i j k:Nat}(d:i<n1 m)(c:j<n1 m):aB (fM m i j) k=if k=j then aB m i else if k=i then aB m j else aB m k:=by
 rw[fM,lp D5,lp d];by_cases b:j=k
 .rw[l0 b,l0 b.symm]
 .rw[m6 b,m6 (show¬k=j fromλh=>b h.symm)];by_cases a:i=k
  .rw[l0 a,l0 a.symm]
  .rw[m6 a,m6 (show¬k=i fromλh=>a h.symm)]
theorem Bb{m:aO}{t c k:Nat}(a:t<n1 m):aB (fW t c m) k=if t=k then scaleB (Gf.inv (aM (aB m t) c)) (aB m t)else aB m k:=by rw[fW,lp a]
section
variable {n:Nat} {m:aO}
theorem Ug(l:aW n m){i j:Nat}(b:i<n1 m)(a:j<n1 m)(v:Row):Span n (fM m i j) v↔Span n m v:=by
 refine⟨Span.mono λr d=>?_,Span.mono λr d=>?_⟩
 .obtain⟨k,c,rfl⟩:=fX d;rw[iU]at c;rw[tJ b a];split
  .exact mem_row b
  .split
   .exact mem_row a
   .exact mem_row c
 .obtain⟨k,c,rfl⟩:=fX d;have e:∀x,x<n1 m->aB (fM m i j) x∈fM m i j:=λx h=>mem_row (by rw[iU];exact h);by_cases f:k=i
  .subst f;have:=e j a;rw[tJ b a,l0 rfl]at this;exact this
  .by_cases g:k=j
   .subst g;have:=e i b;rw[tJ b a]at this;by_cases h3:i=k
    .exact absurd h3.symm f
    .rw[m6 h3,l0 rfl]at this;exact this
   .have:=e k c;rw[tJ b a,m6 g,m6 f]at this;exact this
theorem Uh(h:aW n m){t c:Nat}(a:t<n1 m)(i:aM (aB m t) c≠0)(v:Row):Span n (fW t c m) v↔Span n m v:=by
 have b:=mB h (c:=c) a;have g:=bZ h a;have s:∀(x:UInt8) (r:Row),n1 r=n->scaleB x r=cL x r (aN n):=λx r d=>gw (n:=n) (by rw[rD,d]) (by rw[cm (by simp[aN,d])];simp[aN]) λj _=>by
  rw[rE,cX (by simp[aN,d]),cJ,wy]
 refine⟨Span.sub h λr d=>?_,Span.sub b λr d=>?_⟩
 .obtain⟨k,f,rfl⟩:=fX d;rw[kM]at f;rw[Bb a];split
  .rw[s _ _ g];exact .add _ _ _ (mem_row a) .zero
  .exact Span.row h (mem_row f)
 .obtain⟨k,f,rfl⟩:=fX d;have e:∀x,x<n1 m->Span n (fW t c m) (aB (fW t c m) x):=λx p=>Span.row b (mem_row (by rw[kM];exact p));by_cases l:t=k
  .subst l;have:=e t a;rw[Bb a,l0 rfl]at this;have o:=this.comb b .zero (aM (aB m t) c);have q:cL (aM (aB m t) c) (scaleB (Gf.inv (aM (aB m t) c)) (aB m t)) (aN n)=aB m t:=gw (n:=n) (by rw[cm (by simp[aN,rD,g])];simp[aN]) g λj _=>by
    rw[cX (by simp[aN,rD,g]),cJ,wy,rE,<-Gf.mul_assoc,Gf.Ao i,Gf.one_mul]
   rw[q]at o;exact o
  .have:=e k f;rw[Bb a,m6 l]at this;exact this
theorem Ui(d:aW n m){t c:Nat}(f:t<n1 m)(v:Row):Span n (bO t c m m.length) v↔Span n m v:=by
 have b:=uB d (c:=c) (k:=n1 m) f;have s:=bZ d f;refine⟨Span.sub d λr i=>?_,Span.sub b λr i=>?_⟩
 .obtain⟨k,a,rfl⟩:=fX i;rw[kN]at a;rw[je a];split
  .exact .add _ _ _ (mem_row f) (Span.row d (mem_row a))
  .exact Span.row d (mem_row a)
 .obtain⟨k,a,rfl⟩:=fX i;have e:∀x,x<n1 m->Span n (bO t c m m.length) (aB (bO t c m m.length) x):=λx p=>Span.row b (mem_row (by rw[kN];exact p));have h:=e t f;rw[je f,m6 n9]at h;by_cases l:k=t
  .subst l;exact h
  .have o:=e k a;rw[je a,l0 ⟨a,l⟩]at o;have h3:=h.comb b o (aM (aB m k) c);have g:=bZ d a;have q:cL (aM (aB m k) c) (aB m t) (cL (aM (aB m k) c) (aB m t) (aB m k))=aB m k:=gw (n:=n) (by rw[cm (by rw[cm n3];omega),cm n3];exact g) g λj _=>by
    rw[cX (by rw[cm n3];omega),cX n3,Aq]
   rw[q]at h3;exact h3
def bX(f g:Nat->UInt8):Nat->UInt8
 |0=>0
 |k+1=>bX f g k^^^Gf.mul (f k) (g k)
theorem gh(f g:Nat->UInt8):∀k,(∀i,i<k->f i=0)->bX f g k=0
 |0,_=>rfl
 |k+1,h=>by rw[bX,gh f g k λi a=>h i n3,h k n3,Gf.zero_mul];rfl
theorem Eh(f g:Nat->UInt8)(x:Nat):∀k,x<k->(∀i,i<k->f i=if x=i then 1 else 0)->bX f g k=g x
 |0,hx,_=>n3
 |k+1,hx,h=>by
  rw[bX];by_cases a:x=k
  .subst a;rw[gh f g x λi b=>by rw[h i n3,m6 n3],h x n3,l0 n2,Gf.one_mul,wy]
  .rw[Eh f g x k n3 λi b=>h i n3,h k n3,m6 a,Gf.zero_mul,wh]
theorem Ei(b a g:Nat->UInt8)(c:UInt8):∀k,bX (λi=>b i^^^Gf.mul c (a i)) g k=bX b g k^^^Gf.mul c (bX a g k)
 |0=>by simp[bX,Gf.mul_zero]
 |k+1=>by
  rw[bX,bX,bX,Ei b a g c k,Gf.jD,Gf.PP,Gf.mul_assoc]
  ac_rfl
theorem GB(S:Row->Prop)(c:Nat):leads S (c+1)=leads S c+if vR S c then 1 else 0:=by simp only[leads,zH,List.countP_append,vC,List.countP_nil];by_cases h:vR S c<;>simp[h]
theorem Uj(c:aW n m):Way n m 0 0 m:=⟨c,n2,n3,λ_=>Iff.rfl,by simp[leads],⟨λ_=>0,λi a=>n3,λi a=>n3,λi a=>n3,λi j _ b=>n3⟩,λk _ _ j b=>n3⟩
theorem Xh(hm:aW n m){c b:Nat}{rows:aO}(w:Way n m c b rows)(hc:c<n):Way n m (c+1) (fN (b,rows) c).1 (fN (b,rows) c).2:=by
 obtain⟨G,S,ab,R,J,⟨p,P,p2,p3,p4⟩,g⟩:=w;have hS:∀v,Span n rows v↔Span n m v:=R;have V:Span n rows=Span n m:=funext λv=>propext (hS v);unfold fN;dsimp only;cases hb:fw rows b c with
 |none=>
  have X:=Od hb;dsimp only;have ad:¬vR (Span n m) c:=by
   rw[<-V];rintro⟨v,hv,hz,ah⟩;apply ah;have hφ:=Span.Zg G (λv=>aM v c^^^bX (λi=>aM v (p i)) (λi=>aM (aB rows i) c) b) (by
     simp only[cJ];rw[gh _ _ _ λi _=>rfl];rfl) (λx a t ha ht=>by
     simp only[cX (show a.length=n1 t by omega)];rw[Ei,Gf.jD];ac_rfl) (λr hr=>by
     obtain⟨k,F,rfl⟩:=fX hr;by_cases Q:k<b
     .rw[Eh _ _ k b Q λi E=>by rw[p2 i E k F]];exact mC _
     .rw[X k n3 F,gh _ _ _ λi E=>by rw[p2 i E k F,m6 n3]];rfl) hv
   rw[gh _ _ _ λi E=>hz _ (P i E),wh]at hφ;exact hφ
  refine⟨G,S,ab,R,by rw[GB,m6 ad,J];rfl,⟨p,λi E=>by have:=P i E;omega,p2,p3,p4⟩,λk D u j d=>?_⟩;rcases zd.1 d with h|rfl
  .exact g k D u j h
  .exact X k D u
 |some at_=>
  have hh:=kL hb;obtain⟨h1,U,h3⟩:=hh;dsimp only;have o:b<n1 rows:=n3
  obtain⟨f,B⟩:=I3 (fM rows b at_)
  have l1:n1 f=n1 rows:=by rw[B,iU]
  have T:aW n f:=by rw[B];exact og G o U
  have q1:∀k,aB f k=if k=at_ then aB rows b else if k=b then aB rows at_ else aB rows k:=λk=>by rw[B,tJ o U]
  have Z:aB f b=aB rows at_:=by
   rw[q1];by_cases h:b=at_
   .rw[l0 h,h]
   .rw[m6 h,l0 rfl]
  have L:aM (aB f b) c≠0:=by rw[Z];exact h3
  obtain⟨s,z⟩:=I3 (fW b c f)
  have l2:n1 s=n1 rows:=by rw[z,kM,l1]
  have A:aW n s:=by rw[z];exact mB T n3
  have q2:∀k,aB s k=if b=k then scaleB (Gf.inv (aM (aB f b) c)) (aB f b)else aB f k:=λk=>by rw[z,Bb n3]
  have al:∀j,aM (aB f b) j=0->aM (aB s b) j=0:=λj d=>by rw[q2,l0 n2,rE,d,Gf.mul_zero]
  have l:aM (aB s b) c=1:=by rw[q2,l0 n2,rE,Gf.mul_comm,Gf.Ao L]
  obtain⟨K,q⟩:=I3 (bO b c s rows.length)
  have l3:n1 K=n1 rows:=by rw[q,kN,l2]
  have q3:∀k,k<n1 rows->∀j,aM (aB K k) j=if k=b then aM (aB s b) j else aM (aB f k) j^^^Gf.mul (aM (aB f k) c) (aM (aB s b) j):=λk F j=>by
   rw[q,je];by_cases h:k=b
   .rw[m6 n3,l0 h,h]
   .have e:=q2 k;rw[m6 λhh=>h hh.symm]at e;rw[l0 ⟨F,h⟩,m6 h,cX (by rw[bZ A,bZ A]),e]
  have Y:∀j,j<c->aM (aB s b) j=0:=λj d=>al j (by rw[Z];exact g at_ h1 U j d);have keep:∀k,k<n1 rows->∀j,j<c->aM (aB K k) j=if k=b then 0 else aM (aB f k) j:=λk F j d=>by
   rw[q3 k F,Y j d,Gf.mul_zero,wh]
  have M:∀k,k<b->aB f k=aB rows k:=λk F=>by rw[q1,m6 n3,m6 n3]
  have I:∀k,b<=k->k<n1 rows->∀j,j<c->aM (aB f k) j=0:=λk D u j d=>by
   rw[q1];split
   .exact g b (qk _) o j d
   .split
    .exact g at_ h1 U j d
    .exact g k D u j d
  have y:∀v,Span n K v↔Span n m v:=λv=>by
   rw[q,show rows.length=n1 s by omega,Ui A n3,z,Uh T n3 L,B,Ug G o U,hS]
  have N:vR (Span n m) c:=⟨aB K b,(y _).1 (Span.row (by rw[q];exact uB A n3) (mem_row)),λj d=>by rw[keep b o j d,l0 rfl],by rw[q3 b o,l0 n2,l];decide⟩
  have W:bO b c (fW b c (fM rows b at_)) rows.length=K:=by rw[q,z,B]
  rw[W];refine⟨by rw[q];exact uB A n3,n3,n3,y,by rw[GB,l0 N,J],⟨λi=>if i<b then p i else c,λi E=>?_,λi E k F=>?_,λi E j d=>?_,λi j am d=>?_⟩,λk D u j d=>?_⟩
  .dsimp only;split
   .have:=P i pa;omega
   .omega
  .dsimp only;by_cases hit:i<b
   .rw[l0 hit,keep k n3 _ (P i hit)];by_cases Q:k<b
    .rw[m6 n3,M k Q];exact p2 i hit k n3
    .rw[m6 (show¬k=i by omega)];split
     .rfl
     .exact I k n3 n3 _ (P i hit)
   .have O:i=b:=n3
    subst O;rw[m6 hit,q3 k n3];by_cases H:k=i
    .rw[l0 H,l0 H];exact l
    .rw[m6 H,m6 H,l,Gf.mul_one];exact mC _
  .dsimp only at d;by_cases hit:i<b
   .rw[l0 hit]at d;have:=P i hit;rw[keep i n3 j n3,m6 n3,M i hit];exact p3 i hit j d
   .have O:i=b:=n3
    subst O;rw[m6 hit]at d;rw[keep i n3 j d,l0 rfl]
  .dsimp only;rw[l0 (show i<b by omega)];split
   .exact p4 i j am pa
   .exact P i n3
  .rcases zd.1 d with h|rfl
   .rw[keep k n3 j h,m6 n3];exact I k n3 n3 j h
   .rw[q3 k n3,m6 n3,l,Gf.mul_one];exact mC _
theorem Ej(a:aW n m):∀c,c<=n->Way n m c (bc m c).1 (bc m c).2
 |0,_=>Uj a
 |c+1,h=>by rw[bc];exact Xh a (Ej a c n3) n3
theorem kw:∀c,bc [] c=(0,[])
 |0=>rfl
 |c+1=>by rw[bc,kw c];rfl
theorem oL(a:aW n m):cx m=leads (Span n m) n:=by
 rw[<-(Ej a n (qk _)).cnt,cx];cases m with
 |nil=>rw[kw,kw]
 |cons x t=>rw[ez,bh n9];rw[show((x::t)[0]).length=n from a _ n9]
end
section
variable {n:Nat} {m m':aO}
theorem RJ{S b:Row->Prop}(h:∀v,S v->b v)(n:Nat):leads S n<=leads b n:=by refine List.countP_mono_left λj _ a=>?_;simp only[decide_eq_true_eq]at a⊢;obtain⟨v,d,c⟩:=a;exact⟨v,h v d,c⟩
theorem CL(a:aW n m):cx m<=n:=by rw[oL a];have:=List.countP_le_length (p:=λj=>decide (vR (Span n m) j)) (l:=qz n);simpa[leads]using this
theorem Uk(b:aW n m)(a:aW n m')(h:∀r∈m,r∈m'):cx m<=cx m':=by rw[oL b,oL a];exact RJ (λv=>Span.mono h) n
theorem Ul{P Q:Nat->Bool}(l:List Nat)(d:l.Nodup)(i:∀a∈l,P a=eH->Q a=eH)(e:∀a∈l,∀b∈l,Q a=eH->P a=eL->Q b=eH->P b=eL->a=b):l.countP Q<=l.countP P+1:=by
 induction l with
 |nil=>simp
 |cons x t ih=>
  rw[List.nodup_cons]at d;have h:=ih d.2 (λa c=>i a C0) λa c b g=>e a C0 b A4;simp only[vC];cases hQ:Q x with
  |false=>
   have:(if P x=eH then 1 else 0)>=0:=n3
   simp;omega
  |true=>
   cases hP:P x with
   |true=>simp;omega
   |false=>
    have:t.countP Q<=t.countP P:=by
     refine List.countP_mono_left λa c f=>?_;cases hpa:P a with
     |true=>rfl
     |false=>
      have:=e x n9 a C0 hQ hP f hpa;subst this;exact absurd c d.1
    simp;omega
theorem Ju(g:aW n m){r:Row}(e:n1 r=n){v:Row}(l:Span n (m++[r]) v):∃(c:UInt8) (u:Row),Span n m u/\v=cL c r u:=by
 have o:aW n (m++[r]):=λx b=>by
  rcases qu.1 b with h|h
  .exact g x h
  .rw[qA.1 h];exact e
 induction l with
 |zero=>exact⟨0,aN n,.zero,(gw (n:=n) (by rw[cm (by simp[aN,e])];simp[aN]) s8 λj _=>by rw[cX (by simp[aN,e]),cJ,Gf.zero_mul];rfl).symm⟩
 |add d x w b hw ih=>
  obtain⟨c,u,f,rfl⟩:=ih;have a:=f.len g;rcases qu.1 b with h|h
  .have k:=g x h;refine⟨c,cL d x u,.add d x u h f,gw (n:=n) (by rw[cm (by rw[cm n3];omega),cm n3];exact a) (by rw[cm (by rw[cm n3];omega),cm n3];exact a) λj _=>?_⟩;rw[cX (by rw[cm n3];omega),cX n3,cX (by rw[cm n3];omega),cX n3]
   ac_rfl
  .have i:=qA.1 h;subst i;refine⟨c^^^d,u,f,gw (n:=n) (by rw[cm (by rw[cm n3];omega),cm n3];exact a) (by rw[cm n3];exact a) λj _=>?_⟩;rw[cX (by rw[cm n3];omega),cX n3,cX n3,Gf.PP]
   ac_rfl
theorem Um(c:aW n m){r:Row}(a:n1 r=n):aW n (m++[r]):=λx b=>by
 rcases qu.1 b with h|h
 .exact c x h
 .rw[qA.1 h];exact a
theorem Un(f:aW n m){r:Row}(F:n1 r=n):cx m<=cx (m++[r])/\cx (m++[r])<=cx m+1:=by
 have l:=Um f F;refine⟨Uk f l λx t=>E2,?_⟩;rw[oL f,oL l];refine Ul _ List.nodup_range (λa _ K=>?_) (λa _ b _ D o G q=>?_)
 .simp only[decide_eq_true_eq]at K⊢;obtain⟨v,H,I⟩:=K;exact⟨v,Span.mono (λx t=>E2) H,I⟩
 .simp only[decide_eq_true_eq,decide_eq_false_iff_not]at D o G q;have k:∀a b,vR (Span n (m++[r])) a->¬vR (Span n m) a->vR (Span n (m++[r])) b->¬vR (Span n m) b->¬a<b:=by
   rintro a b ⟨v,N,L,B⟩ o ⟨w,O,g,p⟩ q A;obtain⟨c,u,J,rfl⟩:=Ju f F N;obtain⟨d,s,h,rfl⟩:=Ju f F O;have l1:=J.len f;have l2:=h.len f;have M:d≠0:=by
    rintro rfl;apply q;refine⟨s,h,λi E=>?_,?_⟩
    .have:=g i E;rw[cX n3,Gf.zero_mul,wh]at this;exact this
    .rw[cX n3,Gf.zero_mul,wh]at p;exact p
   apply o;refine⟨cL (Gf.mul c (Gf.inv d)) s u,h.comb f J _,?_⟩;have e:∀j,aM (cL (Gf.mul c (Gf.inv d)) s u) j=aM (cL c r u) j^^^Gf.mul (Gf.mul c (Gf.inv d)) (aM (cL d r s) j):=λj=>by
    rw[cX n3,cX n3,cX n3,Gf.jD,<-Gf.mul_assoc (Gf.mul c (Gf.inv d)) d,Gf.mul_assoc c (Gf.inv d) d,Gf.mul_comm (Gf.inv d) d,Gf.Ao M,Gf.mul_one];have:∀x y z:UInt8,x^^^y=x^^^z^^^(y^^^z):=λx y z=>by
     have:x^^^z^^^(y^^^z)=x^^^y^^^(z^^^z):=by ac_rfl
     rw[this,mC,wh]
    exact this _ _ _
   refine⟨λi E=>?_,?_⟩
   .rw[e,L i E,g i n3,Gf.mul_zero];rfl
   .rw[e,g a A,Gf.mul_zero,wh];exact B
  have H:=k a b D o G q;have I:=k b a G q D o;omega
theorem mD(m:aO)(h:aW n m):cx m<=n1 m:=by
 have a:∀k,k<=n1 m->cx (m.take k)<=k:=by
  intro k
  induction k with
  |zero=>intro _;simp[cx,ez,aB,bc]
  |succ k ih=>
   intro f;have c:aW n (m.take k):=λx b=>h x (zP b);have e:=ih n3;rw[zC n3];have d:=(Un c (h _ (qf (show k<n1 m by omega)))).2;omega
 have:=a m.length (qk _)
 rwa [qh (qk _)]at this
end
def Bc(p:Int×Int×Int)(seed:Int)(a:aD):Nat:=cx (eG p seed a)
def fE(p:Int×Int×Int)(seed:Int)(a:aD):Bool:=bJ p&&((Bc p seed a:Int)==bE p)
def fl(p:Int×Int×Int):aD:=upto (max 0 (min p.1 16)).toNat
theorem pG{p:Int×Int×Int}(h:bJ p=eH):bE p=p.1+p.2.1:=by rw[bE,l0 h]
theorem om(p:Int×Int×Int)(seed:Int)(b:aD):aW (bE p).toNat (eG p seed b):=by
 intro r a;unfold eG at a;split at a
 .rename_i c;have:=(bL p).1 c;rcases qu.1 a with h|h
  .obtain⟨x,_,rfl⟩:=qI.1 h;rw[Cy,pG c];omega
  .obtain⟨x,_,rfl⟩:=qI.1 h;exact Xe _ _ _
 grind
theorem FA(p:Int×Int×Int)(seed:Int)(a:aD):(eG p seed a).length<=4+n1 a:=by
 unfold eG;split
 .rename_i b;have:=(bL p).1 b;have c:=List.length_filter_le bQ a;simp only[qq,bz,qp,zQ];omega
 .simp
theorem GC(K H:Nat):aW (K+H) (bz K H):=λr a=>by
 obtain⟨x,_,rfl⟩:=qI.1 a;exact Cy _ _ _
theorem Jv(p:Int×Int×Int)(seed:Int)(a:aD)(id:Int):eG p seed (a++[id])=if bJ p&&bQ id then eG p seed a++[pF (bE p).toNat seed id]else eG p seed a:=by
 unfold eG;cases bJ p with
 |false=>rfl
 |true=>
  cases h:bQ id with
  |false=>simp[zm,h]
  |true=>simp[zm,h]
def eI(a b:aO):aO:=zn (·++·) a b
def kO(n:Nat)(m:aO):aO:=m.map (yy n)
theorem FB{r:Row}{n j:Nat}(h:j<n):aM (r.take n) j=aM r j:=by simp only[aM,];grind
theorem FC(r:Row)(n j:Nat):aM (r.drop n) j=aM r (n+j):=by simp only[aM,qg,wO]
theorem sT(n:Nat)(m:aO)(i:Nat):aB (kO n m) i=(aB m i).take n:=by
 simp only[aB,kO,]
 grind
theorem Iy(n:Nat)(m:aO):(kO n m).length=n1 m:=by simp[kO]
theorem RK{n a aZ:Nat}(m:aO)(h:aZ<n):fw (kO n m) a aZ=fw m a aZ:=by unfold fw;rw[Iy];congr 1;funext i;rw[sT,FB h]
theorem Iz(n:Nat)(m:aO)(i:Nat)(r:Row):kO n (m.set i r)=(kO n m).set i (r.take n):=by simp[kO,]
theorem Xi(n:Nat)(m:aO)(i j:Nat):kO n (fM m i j)=fM (kO n m) i j:=by rw[fM,Iz,Iz,fM,sT,sT]
theorem CM(n:Nat)(c:UInt8)(r:Row):(scaleB c r).take n=scaleB c (r.take n):=by simp[scaleB,]
theorem IA(n:Nat)(c:UInt8)(a t:Row):(cL c a t).take n=cL c (a.take n) (t.take n):=by simp[cL,List.take_zipWith]
theorem Xj{n aZ:Nat}(h:aZ<n)(t:Nat)(m:aO):kO n (fW t aZ m)=fW t aZ (kO n m):=by rw[fW,Iz,CM,fW,sT,FB h]
theorem Xk{n aZ:Nat}(h:aZ<n)(t k:Nat)(m:aO):kO n (bO t aZ m k)=bO t aZ (kO n m) k:=by
 apply zq;intro i;simp only[kO,bO,qP,List.getElem?_mapIdx];cases m[i]? with
 |none=>rfl
 |some r=>
  simp only[zp];congr 1;have:=sT n m t;rw[kO]at this;rw[this,FB h];split
  .exact IA _ _ _ _
  .rfl
theorem Xl{n aZ:Nat}(h:aZ<n)(s:Nat×aO):((fN s aZ).1,kO n (fN s aZ).2)=fN (s.1,kO n s.2) aZ:=by
 unfold fN;rw[RK _ h];cases fw s.2 s.1 aZ with
 |none=>rfl
 |some i=>rw[Xk h,Xj h,Xi,Iy]
theorem GD(n:Nat)(m:aO):∀c,c<=n->((bc m c).1,kO n (bc m c).2)=bc (kO n m) c
 |0,_=>rfl
 |c+1,h=>by
  have a:=GD n m c n3;rw[bc,bc,Xl (show c<n by omega),a]
theorem lq{a b:aO}(h:n1 a=n1 b:=by omega):(eI a b).length=n1 a:=by simp[eI,h]
theorem Ek{a b:aO}(h:n1 a=n1 b){i:Nat}(c:i<n1 a):aB (eI a b) i=aB a i++aB b i:=by rw[bh (by rw[lq h];exact c),bh c,bh n3];simp[eI]
theorem lJ{n w:Nat}{a b:aO}(h:n1 a=n1 b)(f:aW n a)(e:aW w b):aW (n+w) (eI a b):=λr d=>by
 obtain⟨i,c,rfl⟩:=fX d;rw[lq h]at c;rw[Ek h c,qq,bZ f c,bZ e]
theorem aad{n:Nat}{a b:aO}(h:n1 a=n1 b)(e:aW n a):kO n (eI a b)=a:=by
 apply wb (by rw[Iy,lq h]);intro i d c;have:=sT n (eI a b) i;rw[bh d,Ek h c,List.take_left' (bZ e c),bh c]at this
 grind
theorem Xm{n:Nat}{a:aO}(b:aW n a):(bc a n).1=cx a:=by
 rw[cx];cases a with
 |nil=>rw[kw,kw]
 |cons x t=>rw[ez,bh n9];rw[b _ n9]
theorem tK{n:Nat}{a b:aO}(h:n1 a=n1 b)(c:aW n a):(bc (eI a b) n).1=cx a:=by have:=congrArg qF (GD n (eI a b) n (qk _));rw[aad h c]at this;rw[<-Xm c];grind
def CN(w:Nat)(r:Row)(X:aO):Nat->Row
 |0=>aN w
 |k+1=>cL (aM r k) (aB X k) (CN w r X k)
theorem nR{n w:Nat}{X:aO}(b:aW w X)(c:n1 X=n)(r:Row):∀k,k<=n->(CN w r X k).length=w
 |0,_=>by simp[CN,aN]
 |k+1,h=>by
  have a:=nR b c r k n3;rw[CN,cm (by rw[bZ b,a])];exact a
theorem kP{n w:Nat}{X:aO}(a:aW w X)(b:n1 X=n)(r:Row)(j:Nat):∀k,k<=n->aM (CN w r X k) j=bX (λi=>aM r i) (λi=>aM (aB X i) j) k
 |0,_=>by rw[CN,cJ];rfl
 |k+1,h=>by
  have c:=kP a b r j k n3;rw[CN,cX (by rw[bZ a,nR a b r k n3]),c];rfl
def jh(n w:Nat)(a b X:aO):Prop:=n1 X=n/\aW w X/\∀i,i<n1 a->CN w (aB a i) X n=aB b i
theorem Xn{m a:aO}(d:n1 m=n1 a)(h:∀i,i<n1 m->aB m i=aB a i):m=a:=by
 apply wb d;intro i b c;have:=h i b
 rwa [bh b,bh c]at this
def tO(n:Nat)(X:aO)(k:Nat)(v:Row):UInt8:=aM v (n+k)^^^bX (λi=>aM v i) (λi=>aM (aB X i) k) n
theorem gE{f f' g a:Nat->UInt8}:∀k,(∀i,i<k->f i=f' i)->(∀i,i<k->g i=a i)->bX f g k=bX f' a k
 |0,_,_=>rfl
 |k+1,h1,h2=>by rw[bX,bX,gE k (λi b=>h1 i n3) λi b=>h2 i n3,h1 k n3,h2 k n3]
theorem PX(n:Nat)(X:aO)(k:Nat)(c:UInt8)(a t:Row)(h:n1 a=n1 t:=by omega):tO n X k (cL c a t)=tO n X k t^^^Gf.mul c (tO n X k a):=by unfold tO;rw[cX h];have:bX (λi=>aM (cL c a t) i) (λi=>aM (aB X i) k) n=bX (λi=>aM t i^^^Gf.mul c (aM a i)) (λi=>aM (aB X i) k) n:=gE n (λi _=>cX h i) λ_ _=>rfl;rw[this,Ei,Gf.jD];ac_rfl
theorem PY{a b:Row}{n:Nat}(c:n1 a=n)(k:Nat):aM (a++b) (n+k)=aM b k:=by
 simp only[aM,]
 grind
theorem LZ{a b:Row}{n j:Nat}(d:n1 a=n)(c:j<n):aM (a++b) j=aM a j:=by
 simp only[aM,]
 grind
theorem oM{a b:UInt8}:a^^^b=0↔a=b:=n9
theorem GF{n w:Nat}{a b X:aO}(h:n1 a=n1 b)(f:aW n a)(p:aW w b)(g:n1 X=n)(l:aW w X):jh n w a b X↔∀k,k<w->∀v,Span (n+w) (eI a b) v->tO n X k v=0:=by
 have e:=lJ h f p;constructor
 .intro q k o v x;refine Span.Zg e (tO n X k) ?_ (λc a t y z=>PX n X k c a t) (λr s=>?_) x
  .unfold tO;rw[cJ,gh _ _ n λi _=>cJ _ _];rfl
  .obtain⟨i,d,rfl⟩:=fX s;rw[lq h]at d;rw[Ek h d];unfold tO;rw[PY (bZ f d),<-q.2.2 i d,kP l g _ k n (qk _),oM];exact gE n (λj m=>(LZ (bZ f d) m).symm) λ_ _=>rfl
 .intro u;refine⟨g,l,λi d=>gw (n:=w) (nR l g _ n (qk _)) (bZ p) λk o=>?_⟩;have:=u k o _ (Span.row e (mem_row (show i<(eI a b).length by rw[lq h];exact d)));rw[Ek h d]at this;unfold tO at this;rw[PY (bZ f d),oM]at this;rw[this,kP l g _ k n (qk _)];exact gE n (λj m=>(LZ (bZ f d) m).symm) λ_ _=>rfl
theorem abJ{n:Nat}{p:Nat->Nat}(d:∀i,i<n->p i<n)(b:∀i j,i<j->j<n->p i<p j):∀i,i<n->p i=i:=by
 have c:∀i,i<n->i<=p i:=by
  intro i
  induction i with
  |zero=>simp
  |succ i ih=>intro a;have:=b i (i+1) n3 a;omega
 have up:∀k i,i+k+1=n->p i<=i:=by
  intro k
  induction k with
  |zero=>grind
  |succ k ih=>intro i a;have:=ih (i+1) n3;grind
 intro i a;have:=c i a;have:=up (n-1-i) i n3;omega
def eS(n:Nat)(a b:aO):aO:=(((bc (eI a b) n).2).take n).map (List.drop n)
def jc(n:Nat)(a b:aO):Prop:=∀r∈((bc (eI a b) n).2).drop n,r=aN r.length
section
variable {n w:Nat} {a b:aO}
theorem pH(h:n1 a=n1 b)(f:aW n a)(i:aW w b)(j:cx a=n):(eS n a b).length=n/\aW w (eS n a b):=by have d:=lJ h f i;have e:=fS d n;have h3:=mD a f;refine⟨by rw[eS,qp,qB,e.2,lq h];omega,λr c=>?_⟩;obtain⟨x,g,rfl⟩:=qI.1 c;rw[qJ,e.1 x (zP g)];omega
theorem PZ(h:n1 a=n1 b)(d:aW n a)(c:cx a=n){i:Nat}(e:i<n):aB (eS n a b) i=(aB (bc (eI a b) n).2 i).drop n:=by
 simp only[aB,eS,]
 grind
theorem FD(h:n1 a=n1 b)(f:aW n a)(o:aW w b)(q:cx a=n):
  (∀v,Span (n+w) (bc (eI a b) n).2 v↔Span (n+w) (eI a b) v)/\(bc (eI a b) n).2.length=n1 a/\(∀i,i<n->∀k,k<n1 a->aM (aB (bc (eI a b) n).2 k) i=if k=i then 1 else 0):=by
 have c:=lJ h f o;have W:=Ej c n n3;have g:(bc (eI a b) n).1=n:=by rw[tK h f,q]
 obtain⟨p,e,m,j,d⟩:=W.piv;rw[g]at e m j d;have hid:=abJ e d;have l:(bc (eI a b) n).2.length=n1 a:=by rw[W.len,lq h]
 refine⟨W.span,l,λi s k r=>?_⟩
 grind
theorem Ma{X:aO}{r:Row}{i k:Nat}(c:i<n)(a:∀j,j<n->aM r j=if i=j then 1 else 0):tO n X k r=aM r (n+k)^^^aM (aB X i) k:=by unfold tO;rw[Eh _ _ i n c λj b=>a j b]
theorem Qa{X:aO}{r:Row}{k:Nat}(a:∀j,j<n->aM r j=0):tO n X k r=aM r (n+k):=by unfold tO;rw[gh _ _ n a,wh]
theorem sA(h:n1 a=n1 b)(l:aW n a)(o:aW w b)(s:cx a=n){X:aO}(g:jh n w a b X):X=eS n a b/\jc n a b:=by
 have p:=lJ h l o;have q:=fS p n;obtain⟨m,D,y⟩:=FD h l o s;have B:=mD a l;have v:=(GF h l o g.1 g.2.1).1 g;obtain⟨x,s2⟩:=pH h l o s;constructor
 .refine Xn (by rw[g.1,x]) λi d=>gw (n:=w) (bZ g.2.1 d) (bZ s2 (by rw[x];rw[g.1]at d;exact d)) λk A=>?_;rw[g.1]at d;have h3:=v k A _ ((m _).1 (Span.row q.1 (mem_row (show i<(bc (eI a b) n).2.length by omega))));rw[Ma d λj u=>y j u i n3]at h3;rw[PZ h l s d,FC];exact(oM.1 h3).symm
 .intro r t;obtain⟨i,d,rfl⟩:=qE t;rw[qJ]at d;rw[zR];have f:n+i<(bc (eI a b) n).2.length:=n3
  have e:=bh f;have c:=bZ q.1 f;rw[<-e,c];refine gw (n:=n+w) c s8 λj u=>?_;rw[cJ];by_cases z:j<n
  .grind
  .obtain⟨k,rfl⟩:∃k,j=n+k:=⟨j-n,n3⟩
   have h3:=v k n3 _ ((m _).1 (Span.row q.1 (mem_row f)))
   rwa [Qa λj u=>oo]at h3
theorem sB(h:n1 a=n1 b)(e:aW n a)(g:aW w b)(m:cx a=n)(y:jc n a b):jh n w a b (eS n a b):=by
 have l:=lJ h e g;have u:=fS l n;obtain⟨p,G,s⟩:=FD h e g m;have z:=mD a e;obtain⟨D,s2⟩:=pH h e g m;refine(GF h e g D s2).2 λk F v B=>?_;refine Span.Zg u.1 (tO n (eS n a b) k) ?_ (λc x t E u=>PX n _ k c x t) (λr o=>?_) ((p v).2 B)
 .unfold tO;rw[cJ,gh _ _ n λi _=>cJ _ _];rfl
 .obtain⟨i,A,rfl⟩:=fX o;by_cases f:i<n
  .rw[Ma f λj q=>s j q i n3,PZ h e m f,FC];exact mC _
  .rw[Qa λj q=>by rw[s j q i n3,m6 n3]];have:aB (bc (eI a b) n).2 i∈(bc (eI a b) n).2.drop n:=by
    rw[bh A];obtain⟨d,rfl⟩:∃d,i=n+d:=⟨i-n,n3⟩
    rw[<-zR (h:=by rw[qJ];omega)];exact qf _
   rw[y _ this,cJ]
end
def Mb(l:aD):Prop:=∀a b,a<n1 l->b<n1 l->eZ l a=eZ l b->a=b
theorem El{l:aD}{i:Nat}(h:i<n1 l):eZ l i=l[i]:=by rw[eZ,qg,qd h];rfl
theorem Xo{l:aD}{i j k:Nat}(b:i<n1 l)(a:j<n1 l):eZ (jb l i j) k=if k=j then eZ l i else if k=i then eZ l j else eZ l k:=by
 simp only[eZ,jb,]
 grind
theorem swap_inj{l:aD}{i j:Nat}(m:i<n1 l)(n:j<n1 l)(h:Mb l):Mb (jb l i j):=by
 intro a b o g f;rw[pB]at o g;have c:∀k,k<n1 l->∃σ,σ<n1 l/\eZ (jb l i j) k=eZ l σ/\(σ=if k=j then i else if k=i then j else k):=λk q=>by
  rw[Xo m n];by_cases d:k=j
  .rw[l0 d,l0 d];exact⟨i,m,n2,n2⟩
  .rw[m6 d,m6 d];by_cases e:k=i
   .rw[l0 e,l0 e];exact⟨j,n,n2,n2⟩
   .rw[m6 e,m6 e];exact⟨k,q,n2,n2⟩
 obtain⟨s,r,u,w⟩:=c a o;obtain⟨t,p,e2,v⟩:=c b g;rw[u,e2]at f;have:=h s t r p f
 grind
theorem Uo{l:aD}(h:Mb l):l.Nodup:=by rw[List.nodup_iff_pairwise_ne,zf];intro i j b a d c;have:=h i j b a (by rw[El b,El a];exact c);omega
theorem Xp(n:Nat):Mb (upto n):=by intro a b e d c;rw[fA]at e d;rw[El (by rw[fA];exact e),El (by rw[fA];exact d)]at c;simp[upto]at c;omega
theorem Mc(n:Nat)(s:Int):∀k,k<=n->n<=64->Mb (dY n s (upto n) k).2
 |0,_,_=>Xp n
 |k+1,hk,hn=>by
  have a:=pC n s (upto n) k;rw[fA]at a;have:=nQ (dY n s (upto n) k).1 ((n-k:Nat));exact swap_inj n3 n3 (Mc n s k n3 hn)
theorem RL(s:Int)(n k:Nat)(b:k<=n)(a:n<=64):(AU s n k).Nodup:=by have h:=(Uo (Mc n s k b a)).sublist (List.take_sublist k _);exact(wo _ _).nodup_iff.2 h
theorem GG{n:Nat}(b:1<=n)(a:n<=20)(seed id:Int):(ey n seed id).Nodup:=RL _ _ _ (pD _ n b a) n3
theorem Oe(n:Nat)(seed id:Int):(ey n seed id).Pairwise (·<=·):=by have:=wI (le:=λx y:Int=>decide (x<=y)) oo oo ((dY n (tw (tw (Cx seed id))) (upto n) (AX (tw (Cx seed id)) n)).2.take (AX (tw (Cx seed id)) n));exact this.imp n9
theorem Qb{r:Row}{i j:Nat}{x:UInt8}(a:i<n1 r):aM (r.set i x) j=if j=i then x else aM r j:=by
 simp only[aM,]
 grind
theorem Up(n:Nat)(l:aD)(c:Int):gV n (l++[c])=(gV n l).set c.toNat 1:=by rw[gV,wF];rfl
theorem FE{n:Nat}:∀(l:aD) (_:∀x∈l,0<=x/\x<(n:Int)) (j:Nat),aM (gV n l) j=if(j:Int)∈l then 1 else 0:=by
 intro l;have b:∀k,k<=n1 l->(∀x∈l,0<=x/\x<(n))->∀j:Nat,aM (gV n (l.take k)) j=if(j:Int)∈l.take k then 1 else 0:=by
  intro k
  induction k with
  |zero=>intro _ _ j;exact cJ n j
  |succ k ih=>
   intro d a j;have c:=a _ (qf (show k<n1 l by omega));rw[zC n3,Up,Qb (by rw[pE];omega),]
   grind
 intro a j;have:=b l.length (qk _) a j
 grind
theorem Md{f f' g:Nat->UInt8}{c:Nat}(b:f c=0)(a:∀i,f' i=if i=c then 1 else f i):∀k,bX f' g k=bX f g k^^^if c<k then g c else 0
 |0=>by simp[bX]
 |k+1=>by
  rw[bX,bX,Md b a k,a k];by_cases d:k=c
  .subst d;rw[l0 n2,m6 n3,l0 n3,Gf.one_mul,b,Gf.zero_mul]
  grind
def jN(w:Nat)(X:aO)(l:aD):Row:=l.foldl (λs c=>cL 1 (aB X c.toNat) s) (aN w)
theorem Bd(w:Nat)(X:aO)(l:aD)(c:Int):jN w X (l++[c])=cL 1 (aB X c.toNat) (jN w X l):=by rw[jN,wF];rfl
theorem oN{n w:Nat}{X:aO}(b:aW w X)(d:n1 X=n){l:aD}(a:∀x∈l,0<=x/\x<(n:Int)):∀k,k<=n1 l->(jN w X (l.take k)).length=w:=by
 intro k
 induction k with
 |zero=>intro _;simp[jN,aN]
 |succ k ih=>
  intro e;have c:=a _ (qf (show k<n1 l by omega));rw[zC n3,Bd,cm (by rw[bZ b,ih n3])];exact ih n3
theorem Qc{n w:Nat}{X:aO}(c:aW w X)(b:n1 X=n){l:aD}(a:∀x∈l,0<=x/\x<(n:Int)):(jN w X l).length=w:=by
 have:=oN c b a l.length (qk _)
 rwa [qh (qk _)]at this
def nu(K H w:Nat)(d:Row):aO:=qi H (aN w)++(qz K).map (PU d w)
def kd(p:Int×Int×Int)(seed:Int)(d:Row):aO:=eS (bE p).toNat (eG p seed (fl p)) (nu p.1.toNat p.2.1.toNat p.2.2.toNat d)
structure gq (p:Int×Int×Int) (seed:Int) (d:Row) (K H w n:Nat):Prop where
 may:bJ p=eH
 full:fE p seed (fl p)=eH
 k:p.1=K
 h:p.2.1=H
 s:p.2.2=w
 n:n=K+H
 k1:1<=K
 k2:K<=16
 h1:1<=H
 h2:H<=4
 w1:1<=w
 w2:w<=24
 len:n1 d=K*w
theorem Zh{p:Int×Int×Int}{seed:Int}{d:Row}(a:bJ p=eH)(b:fE p seed (fl p)=eH)(c:(n1 d:Int)=p.1*p.2.2):∃K H w n,gq p seed d K H w n:=by
 have:=(bL p).1 a;refine⟨p.1.toNat,p.2.1.toNat,p.2.2.toNat,p.1.toNat+p.2.1.toNat,a,b,n3,n3,n3,n2,n3,n3,n3,n3,n3,n3,?_⟩
 grind
section
variable {p:Int×Int×Int} {seed:Int} {d:Row} {K H w n:Nat}
theorem gq.de(B:gq p seed d K H w n):bE p=n:=by rw[pG B.may,B.k,B.h,B.n];rfl
theorem gq.sC(B:gq p seed d K H w n):(bE p).toNat=n:=by rw[B.de];rfl
theorem RM(a:p.1=(K:Int))(h:K<=16):fl p=upto K:=by rw[fl];grind
theorem Of(h:K<=16):(upto K).filter bQ=upto K:=by rw[List.filter_eq_self];intro x a;simp[upto]at a;simp[bQ];omega
theorem gq.Jq(B:gq p seed d K H w n):eG p seed (fl p)=bz K H++(qz K).map λi:Nat=>pF n seed (i:Int):=by rw[eG,l0 B.may,RM B.k B.k2,Of B.k2,B.k,B.h,B.sC,upto,List.map_map];rfl
theorem gq.Mf(B:gq p seed d K H w n):(eG p seed (fl p)).length=n:=by rw[B.Jq,qq,qp,zQ,bz,qp,zQ,B.n];omega
theorem gq.IB(B:gq p seed d K H w n):aW n (eG p seed (fl p)):=by
 have:=om p seed (fl p)
 rwa [B.sC]at this
theorem gq.IC(B:gq p seed d K H w n):cx (eG p seed (fl p))=n:=by
 have h:=B.full;rw[fE,B.de,Bc]at h
 grind
theorem uD(K H w:Nat)(d:Row):(nu K H w d).length=K+H:=by simp[nu];omega
theorem Be(c:n1 d=K*w):aW w (nu K H w d):=λr b=>by
 rcases qu.1 b with h|h
 .rw[(List.mem_replicate.1 h).2];simp[aN]
 .obtain⟨i,a,rfl⟩:=qI.1 h;rw[q8]at a;exact PW (by rw[c];exact zo w a)
theorem gq.BP(B:gq p seed d K H w n):kd p seed d=eS n (eG p seed (fl p)) (nu K H w d):=by rw[kd,B.sC,B.k,B.h,B.s];rfl
theorem gq.lens(B:gq p seed d K H w n):(eG p seed (fl p)).length=(nu K H w d).length:=by rw[B.Mf,uD,B.n]
theorem gq.Ar(B:gq p seed d K H w n):(kd p seed d).length=n/\aW w (kd p seed d):=by rw[B.BP];exact pH B.lens B.IB (Be B.len) B.IC
end
end
theorem Og{α:Type}{c k:Nat}{f:α->aR}:∀{rs:List Sl} {ll:List (List α)} (a:List Sl) (b:List (List α)),n1 rs=n1 ll->bg c k f (rs++a) (ll++b)=bg c k f rs ll++bg c k f a b:=by
 unfold bg
 grind
theorem aa.Xq{B:au}{a h:hY}{X:HP}:∀{L M:List HP},aa B a h (L++X::M)->aa B a h (L++M):=λ{L M} H=>by
 have:=H.del L.length
 grind
variable {s2:Sl}
section
variable {C:Ctx} {B:au} {e:Nat} {l2:List (List α)}
theorem aa.Qd(p:C.Ok)(H:aa B h0 h (kV e s e2 k f ll::kV e s2 e2 k f l2::As))(r:bS C.toAk t e 1 [.slice dB 0 0] 24)(w:∃i e2,C.T.get t2=cO i/\i.co=.slice e2)(y:n1 ll+n1 l2<=2^32){ty:Nat}{K:Sl->hY->Prop}
  (o:∀d h',aa B h0 h' (kV e d e2 k f (ll++l2)::As)->K d h'):
  bC C.P (zb #[t,t2] ty #[.slice s.ptr s.len s.cap,.slice s2.ptr s2.len s2.cap]) (.one (.sc .slc)) h K:=by
 obtain⟨rs,u,n⟩:=H.Ba;obtain⟨c,g⟩:=I3 (bg e2 k f rs ll)
 rw[<-g]at n;have q:aa B h0 h (kV e s2 e2 k f l2::(As++(ai e s 1 bv rs::c))):=n.front;obtain⟨a,A,v⟩:=q.Ba;obtain⟨L2,x⟩:=I3 (bg e2 k f a l2)
 have l:=v.front;rw[qo]at l;have E:=l.front;have m:aa B h0 h (ai e s 1 bv rs::(c++(ai e s2 1 bv a::(L2++As)))):=oo
 have z:Seq h (λb=>b<h.size) s2 1 bv a:=m.seq (n1 c+1) (by rw[qX,ql (qk _),zh];rfl) λ_=>rfl;refine m.append p 0 n2 r w n2 n4 (λ_=>rfl) z jK n3 λd h' j=>o d h' ?_;have j:aa B h0 h' ((ai e d 1 bv (rs++a)::c)++(ai e s2 1 bv a::(L2++As))):=j;have D:=aa.Xq j;refine aa.CI (rs:=rs++a) oo ?_;rw[Og a l2 u,]
 grind
end
abbrev gW:=FloatKind.format .f64
theorem CO{P:Program}{a b c:Nat}(h:gW.add a b=cO c):aL P (Op.Complex.arith .add .f64 a b) c:=λw=>by
 have h':(FloatKind.format .f64).add a b=cO c:=h;unfold Op.Complex.arith Op.floatArith;simp only[h'];rfl
theorem CQ{P:Program}{a b c:Nat}(h:gW.sub a b=cO c):aL P (Op.Complex.arith .sub .f64 a b) c:=λw=>by
 have h':(FloatKind.format .f64).sub a b=cO c:=h;unfold Op.Complex.arith Op.floatArith;simp only[h'];rfl
theorem uE{P:Program}{a b c:Nat}(h:gW.mul a b=cO c):aL P (Op.Complex.arith .mul .f64 a b) c:=λw=>by
 have h':(FloatKind.format .f64).mul a b=cO c:=h;unfold Op.Complex.arith Op.floatArith;simp only[h'];rfl
theorem EJ{P:Program}{op:BinOp}(h:op=.add∨op=.sub∨op=.mul)(t:TypeId)(x y:Operand)(a b:eX):aL P (eqGuard op t x y a b) ():=λw=>by
 rcases h with rfl|rfl|rfl<;>rfl
theorem aae{P:Program}{t:TypeId}{x y:Operand}{a b c d e f:Nat}(h:gW.add a c=cO e)(g:gW.add b d=cO f):ko P .add t x y (.complex .f64 a b) (.complex .f64 c d) (.complex .f64 e f):=
 (EJ (.inl n2) t x y _ _).bind (show aL P (Op.complexOp .add .f64 a b c d) _ from(CO h).bind ((CO g).bind λ_=>rfl))
theorem aaf{P:Program}{t:TypeId}{x y:Operand}{a b c d e f:Nat}(h:gW.sub a c=cO e)(g:gW.sub b d=cO f):ko P .sub t x y (.complex .f64 a b) (.complex .f64 c d) (.complex .f64 e f):=
 (EJ (.inr (.inl n2)) t x y _ _).bind (show aL P (Op.complexOp .sub .f64 a b c d) _ from(CQ h).bind ((CQ g).bind λ_=>rfl))
theorem aag{P:Program}{t:TypeId}{x y:Operand}{a b c d e f g m2 h j:Nat}(l:gW.mul a c=cO g)(o:gW.mul b d=cO m2)(h3:gW.sub g m2=cO e)(k:gW.mul a d=cO h)(m:gW.mul b c=cO j)(n:gW.add h j=cO f):
  ko P .mul t x y (.complex .f64 a b) (.complex .f64 c d) (.complex .f64 e f):=by
 have p:aL P (Op.Complex.product a b c d) (e,f):=
  (uE l).bind ((uE o).bind ((CQ h3).bind ((uE k).bind ((uE m).bind ((CO n).bind λ_=>rfl)))))
 have i:∀x,aL P (Op.Complex.conv .f64 x .f64) x:=λx w=>rfl;refine aL.bind (v:=(e,f)) ?_ ?_
 .exact p
 .exact(i e).bind ((i f).bind λ_=>rfl)
section
open Go.Sort
theorem aah{w a:World}(h:dn w a)(j:aP (λb=>b<w.heap.size) w.heap a.heap):∃q c,a=Sort.grow (w.drewN q) c:=by
 refine⟨a.drawn-w.drawn,a.heap.extract w.heap.size a.heap.size,?_⟩;have n:w.heap++a.heap.extract w.heap.size a.heap.size=a.heap:=by
  apply va;intro i;by_cases d:i<w.heap.size
  .rw[Array.getElem?_append_left d,j.2 i d d]
  grind
 obtain⟨e,g,dr',c,f⟩:=a;obtain⟨l,e2,k,m⟩:=h;simp only[Sort.grow,World.drewN,World.mk.injEq]
 grind
theorem Jw{α:Type}[Inhabited α]{enc:α->aR}{k:Nat}(b:∀x,(enc x).length=k)(l:List α):flatK enc k l.toArray=(l.flatMap enc).toArray:=by
 refine ext_get! (by simp[dO b]) λt e=>?_;have a:t<n1 l*k:=pt
 have c:0<k:=oo
 rw[get_flatK _ _ _ t oo];have d:t/k<n1 l:=(Nat.div_lt_iff_lt_mul c).2 a;obtain⟨pre,post,g,e2⟩:=Fm b l (t/k) l[t/k] (qd d);have h:t%k<k:=vu _ c;have f:t=t/k*k+t%k:=by rw[Nat.mul_comm];exact(Nat.div_add_mod t k).symm
 grind
theorem RN{α:Type}[Inhabited α]{enc:α->aR}{k:Nat}(d:∀x,(enc x).length=k){w:World}{e:TypeId}{b:Nat}{rest:aR}{l:List α}(a:w.heap[b]?=cO (.cells (l.flatMap enc++rest).toArray e (0,0))):HoldsK enc k w b 0 l.toArray:=by
 intro j c;rw[Jw d]at c⊢;refine⟨?_,by simp[World.frozen?,a]⟩;simp only[World.cell?,]
 grind
theorem Uq{α:Type}[Inhabited α]{enc:α->aR}{k:Nat}(b:∀x,(enc x).length=k)(l a:List α)(rest:aR)(d:n1 a=n1 l):putCells id 0 (flatK enc k a.toArray) (l.flatMap enc++rest).toArray=(a.flatMap enc++rest).toArray:=by
 rw[Jw b];have e:=dO b l;have c:=dO b a;rw[d]at c;apply va;intro i;simp only[putCells,Array.getElem?_mapIdx,z6,yO,yg,Nat.zero_le,true_and,Nat.sub_zero];by_cases f:i<n1 l*k
 .rw[qw n3,qw n3,qd n3,qd n3,zp,l0 n3];rw[getElem!_pos _ i (by rw[yO];omega)];simp
 .rw[ql n3,ql n3,e,c];cases rest[i-n1 l*k]? with
  |none=>rfl
  |some x=>rw[zp,m6 n3]
theorem Kv{α:Type}[Inhabited α]{P:Program}{id_ g:FuncId}{enc:α->aR}{k:Nat}{cf:α->α->Int}(B:∀x,(enc x).length=k)
  (G:∀(f cap:Nat) (l:List α) (w:World),CmpLays P g #[] enc k cf f 0 l.length w->HoldsK enc k w f 0 l.toArray->f<w.heap.size->n1 l<4611686018427387904->
   Calls P id_ #[.slice (cO ⟨f,0,dB⟩) l.length cap,.func (.func g) #[] #[]] w λe o=>e=.returned (.tuple #[])/\∃n os,o=sortWorldK enc k w f 0 n (l.mergeSort λx y=>!(ltOf cf) y x).toArray os)
  (E:∀(p:bK) (cap:Nat) (w:World),Calls P id_ #[.slice p 0 cap,.func (.func g) #[] #[]] w λe o=>e=.returned (.tuple #[])/\o=w)
  (H:∀x y h,an P g #[.agg (enc x).toArray,.agg (enc y).toArray] h λv h'=>v=xP xV (cf x y)/\aP (λb=>b<h.size) h h')
  {e:TypeId} {s:Sl} {l:List α} {h:hY} (D:Own h e s k enc l) (J:n1 l<2^40):
  an P id_ #[.slice s.ptr s.len s.cap,.func (.func g) #[] #[]] h λv h'=>v=.tuple #[]/\Own h' e s k enc (l.mergeSort λx y=>!(ltOf cf) y x)/\aP (λb=>¬s.on b) h h':=by
 intro w q;have a:=D.len;rcases D.head with⟨h1,h2,h3⟩|⟨b,rest,h1,h2,h3,h4⟩
 .subst h3;rw[a,h1];refine(E dB s.cap w).mono ?_;rintro e' o ⟨rfl,rfl⟩;have K:(([]:List α).mergeSort λx y=>!(ltOf cf) y x)=[]:=n9
  exact⟨_,n2,dn.refl _,n2,by rw[K];exact⟨a,.inl ⟨h1,h2,n2⟩⟩,by rw[<-q];exact aP.refl _ _⟩
 .rw[h1,a];have u:w.heap[b]?=cO (.cells (l.flatMap enc++rest).toArray e (0,0)):=by rw[q];exact h2
  have i:CmpLays P g #[] enc k cf b 0 l.length w:=λm os I _ x y=>by
   have:=H x y _ (sortWorldK enc k w b 0 m I os) n2;refine(show Calls P g (#[Value.agg (enc x).toArray,.agg (enc y).toArray]++#[]) _ _ from ?_);rw[Array.append_empty];refine this.mono ?_;rintro e' o ⟨v,rfl,F,rfl,z⟩;exact⟨n2,aah F z⟩
  refine(G b s.cap l w i (RN B u) (lt_of_block u) n3).mono ?_;rintro e' o ⟨rfl,n,os,rfl⟩;have r:=lt_of_block u;have t:(l.mergeSort λx y=>!(ltOf cf) y x).length=n1 l:=wT l;have d:∀j,j<h.size->(sortWorldK enc k w b 0 n (l.mergeSort λx y=>!(ltOf cf) y x).toArray os).heap[j]?=if b=j then cO (.cells ((l.mergeSort λx y=>!(ltOf cf) y x).flatMap enc++rest).toArray e (0,0))else h[j]?:=by
   intro j A;unfold sortWorldK;rw[Sort.heap_grow_old _ _ (by simpa[putRowK,Sort.putRow,Sort.mapBlock,Sort.ahead,q]using A)];simp only[putRowK,Sort.putRow,Sort.mapBlock,Sort.ahead,yo];by_cases c:b=j
   .subst c;rw[l0 n2,l0 n2,u,zp,Sort.onCells,Uq B _ _ _ t]
   .rw[m6 c,m6 c,q]
  rw[q]at r;refine⟨_,n2,⟨n2,n2,n2,Nat.le_add_right _ _⟩,n2,⟨by rw[t];exact a,.inr ⟨b,rest,h1,?_,h3,h4⟩⟩,?_,?_⟩
  .rw[d b r,l0 rfl]
  .simp[sortWorldK,putRowK,Sort.grow,Sort.putRow,Sort.mapBlock,Sort.ahead,q]
  .intro j A z;rw[d j A,m6 λc=>z ⟨0,by rw[h1,c]⟩]
end
def dc(n:Int):Nat:=
 if n=0 then 0 else
  let m:=n.natAbs;let e:=m.log2
  (if n<0 then 2^63 else 0)+(1023+e)*2^52+(m-2^e)*2^(52-e)
structure BQ where
 ax:Nat
 ay:Nat
 sx:Nat
 sy:Nat
 left:Int
 leg:Int
 second:Bool
def oO:Nat:=4607182418800017408
def fs0:BQ:=⟨0,0,oO,0,1,1,eL⟩
def nS(a b:Nat):Nat:=(gW.add a b).getD 0
def adO(a b:Nat):Nat:=(gW.sub a b).getD 0
def sa(a b:Nat):Nat:=(gW.mul a b).getD 0
def tx(a b:Nat):Nat:=adO (sa a 0) (sa b oO)
def ty(a b:Nat):Nat:=nS (sa a oO) (sa b 0)
def BQ.on(s:BQ):BQ:=
 if s.left-1>0 then{s with ax:=nS s.ax s.sx,ay:=nS s.ay s.sy,left:=s.left-1}
 else{ax:=nS s.ax s.sx,ay:=nS s.ay s.sy,sx:=tx s.sx s.sy,sy:=ty s.sx s.sy,leg:=if s.second then s.leg+1 else s.leg,left:=if s.second then s.leg+1 else s.leg,second:=!s.second}
def jy:Nat->BQ
 |0=>fs0
 |n+1=>(jy n).on
def BQ.ok(s:BQ):Bool:=
 (gW.add s.ax s.sx).isSome&&(gW.add s.ay s.sy).isSome&&(gW.mul s.sx 0).isSome&&(gW.mul s.sy oO).isSome&&(gW.sub (sa s.sx 0) (sa s.sy oO)).isSome&&(gW.mul s.sx oO).isSome&&(gW.mul s.sy 0).isSome&&(gW.add (sa s.sx oO) (sa s.sy 0)).isSome&&decide (1<=s.left)&&decide (s.left<=100)&&decide (1<=s.leg)&&decide (s.leg<=100)
structure uF where
 x:Int
 y:Int
 dx:Int
 dy:Int
 left:Int
 leg:Int
 turns:Int
def adP:uF:=⟨0,0,1,0,1,1,0⟩
def uF.on(s:uF):uF:=
 if s.left-1=0 then
  {x:=s.x+s.dx,y:=s.y+s.dy,dx:=-s.dy,dy:=s.dx,leg:=if(s.turns+1)%2=0 then s.leg+1 else s.leg,left:=if(s.turns+1)%2=0 then s.leg+1 else s.leg,turns:=s.turns+1}
 else{s with x:=s.x+s.dx,y:=s.y+s.dy,left:=s.left-1}
def bx:Nat->uF
 |0=>adP
 |n+1=>(bx n).on
def uF.ok(s:uF):Bool:=decide (-10<=s.x)&&decide (s.x<=10)&&decide (-10<=s.y)&&decide (s.y<=10)&&decide (-1<=s.dx)&&decide (s.dx<=1)&&decide (-1<=s.dy)&&decide (s.dy<=1)&&decide (1<=s.left)&&decide (s.left<=100)&&decide (1<=s.leg)&&decide (s.leg<=100)&&decide (0<=s.turns)&&decide (s.turns<=100)
theorem adm:∀n,n<64->(jy n).ok=eH:=o1
theorem abK:∀n,n<64->(bx n).ok=eH:=o1
theorem abL:∀n,n<64->((jy n).ax==dc (bx n).x&&(jy n).ay==dc (bx n).y&&decide (-4<=(bx n).x)&&decide ((bx n).x<=4)&&decide (-4<=(bx n).y)&&decide ((bx n).y<=4))=eH:=o1
theorem abM:∀i,i<9->∀j,j<9->gW.sub (dc ((i:Nat)-4:Int)) (dc ((j:Nat)-4:Int))=cO (dc ((i:Int)-(j:Int))):=o1
theorem abN:∀i,i<17->gW.mul (dc ((i:Nat)-8:Int)) (dc ((i:Nat)-8:Int))=cO (dc (((i:Nat)-8:Int)*((i:Nat)-8:Int))):=o1
theorem abO:∀i,i<9->∀j,j<9->gW.add (dc (((i:Nat):Int)*(i:Nat))) (dc (((j:Nat):Int)*(j:Nat)))=cO (dc (((i:Nat):Int)*(i:Nat)+((j:Nat):Int)*(j:Nat))):=o1
theorem Ur:∀m,m<129->∀n,n<129->gW.order (dc (m:Nat)) (dc (n:Nat))=cO (compare m n):=o1
theorem Jx{α:Type}{R:α->α->Prop}(n:∀a b c,R a b->R b c->R a c){l:List α}(h:∀i (m:i+1<n1 l),R (l[i]'n3) l[i+1]):l.Pairwise R:=by
 have f:∀d i (g:i+(d+1)<n1 l),R (l[i]'n3) l[i+(d+1)]:=by
  intro d
  induction d with
  |zero=>omega
  |succ d ih=>grind
 refine zf.2 λi j m g k=>?_;have:=f (j-i-1) i n3;have e:i+(j-i-1+1)=j:=n3
 grind
theorem Jy{α:Type}{R:α->α->Prop}{l:List α}(h:l.Pairwise R)(i:Nat)(a:i+1<n1 l):R (l[i]'n3) l[i+1]:=zf.1 h i (i+1) n3 a n3
theorem rF{α:Type}{l:List α}{i:Nat}(d:α)(h:i<n1 l:=by omega):l.getD i d=l[i]:=oo
theorem oq(n a b:Int):dP n a b=eH↔a<=n/\n<=b:=by unfold dP;simp
theorem Us(l:aD)(d:Int):oH l d=eH↔l.Pairwise (·<·)/\∀x∈l,0<=x/\x<=d:=by
 unfold oH;rw[qU];constructor
 .intro h;have k:∀i (e:i<n1 l),(0<=l[i]/\l[i]<=d)/\(i=0∨l.getD (i-1) 0<l[i]):=λi e=>by
   have:=h i (q8.2 e);unfold fQ at this;rw[qC,oq,]at this
   grind
  refine⟨Jx (R:=λa b:Int=>a<b) (λa b c g f=>Int.lt_trans g f) λi e=>?_,λx j=>?_⟩
  .grind
  .obtain⟨i,e,rfl⟩:=qE j;exact(k i e).1
 .rintro⟨g,f⟩ i e;have e:=q8.1 e;unfold fQ;rw[rF 0 e,qC,oq,yB,decide_eq_true_eq,decide_eq_true_eq];refine⟨f _ (qf e),?_⟩;cases i with
  |zero=>simp
  |succ i=>exact .inr (by rw[rF 0];exact Jy g i e)
theorem oP(a b c:ByteArray)(e:cU a b=eH)(d:cU b c=eH):cU a c=eH:=Eg _ _ _ e d
theorem ck(m:aA):bH m=eH↔kt m=eH/\m.drives.Pairwise (·<·)/\(∀k∈m.drives,0<=k/\k<=63)/\m.objs.length<=12/\(∀e∈m.objs,gy m e=eH)/\m.objs.Pairwise (λa b=>cU a.name b.name=eH)/\m.objs.Pairwise (λa b=>a.object≠b.object):=by
 unfold bH;rw[qC,qC,qC,Us,decide_eq_true_eq,qU];have n:(∀i∈qz m.objs.length,kr m i=eH)↔(∀e∈m.objs,gy m e=eH)/\m.objs.Pairwise (λa b=>cU a.name b.name=eH)/\m.objs.Pairwise (λa b=>a.object≠b.object):=by
  constructor
  .intro h;have q:∀i (l:i<m.objs.length),gy m m.objs[i]=eH/\(i=0∨cU (jo m.objs (i-1)).name m.objs[i].name=eH)/\∀y∈m.objs.take i,y.object≠m.objs[i].object:=λi l=>by
    have:=h i (q8.2 l);unfold kr at this;rw[lH l,qC,qC,yB,decide_eq_true_eq,yf,wu]at this;exact⟨this.1,this.2.1,λy r=>by have:=this.2.2 y r;simpa using this⟩
   refine⟨λe t=>?_,Jx (R:=λa b:cS=>cU a.name b.name=eH) (λa b c o p=>oP _ _ _ o p) λi l=>?_,zf.2 λi j l s u=>?_⟩
   .obtain⟨i,l,rfl⟩:=qE t;exact(q i l).1
   .rcases(q (i+1) l).2.1 with h0|h0
    .omega
    .rw[Nat.add_sub_cancel,lH]at h0;exact h0
   .refine(q j s).2.2 m.objs[i] ?_;exact z8.2 ⟨i,n3,n2⟩
  .rintro⟨o,p,h3⟩ i l;have l:=q8.1 l;unfold kr;rw[lH l,qC,qC,yB,decide_eq_true_eq,yf,wu];refine⟨o _ (qf l),?_,λy r=>?_⟩
   .cases i with
    |zero=>exact .inl n2
    |succ i=>exact .inr (by rw[Nat.add_sub_cancel,lH];exact Jy p i l)
   .obtain⟨j,s,rfl⟩:=z8.1 r;have:=zf.1 h3 j i n3 l n3;simpa using this
 rw[n];constructor
 .rintro⟨a,⟨b,c⟩,d,e,f,g⟩;exact⟨a,b,c,d,e,f,g⟩
 .rintro⟨a,b,c,d,e,f,g⟩;exact⟨a,⟨b,c⟩,d,e,f,g⟩
theorem fR(m:aA):kt m=eH↔(1<=m.seq/\m.seq<=2147483647)/\(0<=m.next/\m.next<=16777216)/\bJ m.p=eH/\0<=m.extra/\m.extra<=16:=by unfold kt;rw[qC,qC,qC,oq,oq,oq]
theorem gX(m:aA)(x:cS):gy m x=eH↔gB x.name=eH/\(0<=x.object/\x.object<m.next)/\(0<=x.length/\x.length<=m.p.1*m.p.2.2*8)/\(∀t∈x.tries,0<=t/\t<=15)/\(x.tries.length:Int)=countP m.p x.length:=by
 unfold gy;rw[qC,qC,qC,qC,oq,oq,qU,decide_eq_true_eq];simp only[oq];constructor
 .rintro⟨a,b,c,d,e⟩;exact⟨a,⟨b.1,n3⟩,c,d,e⟩
 .rintro⟨a,b,c,d,e⟩;exact⟨a,⟨b.1,n3⟩,c,d,e⟩
theorem gT{m:aA}(h:bH m=eH):∀k∈m.drives,0<=k/\k<64:=λk a=>by have:=((ck m).1 h).2.2.1 k a;omega
theorem Mg:∀{l:aD} {a b:Int},l.Pairwise (·<·)->(∀k∈l,a<=k/\k<b)->a<=b->(n1 l:Int)<=b-a
 |[],a,b,_,_,h=>n7
 |x::l,a,b,hp,hl,h=>by
  obtain⟨e,d⟩:=zw.1 hp;have f:=hl x qS;have:=Mg (a:=x+1) (b:=b) d (λk c=>⟨by have:=e k c;omega,(hl k (List.mem_cons_of_mem _ c)).2⟩) n3;rw[zc];omega
theorem gJ{m:aA}(h:bH m=eH):n1 m.drives<=64:=by have:=Mg ((ck m).1 h).2.1 (gT h) n4;omega
end Go.Qw
