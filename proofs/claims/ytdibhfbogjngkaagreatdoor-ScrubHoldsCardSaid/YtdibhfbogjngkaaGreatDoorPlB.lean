/- Lemmas for the proof of the law; no condition. -/
import Derived.Test.YtdibhfbogjngkaaGreatDoorPlA
import Derived.Shelf.SlSortCmp.NoneTotal
import Derived.ProofKit
import Derived.Deep.Matrix
import Derived.Carry
import Derived.Lib.SmallJoins
import Derived.Handed
import Derived.HandedShaped
import Derived.ChangeMaps5
import Derived.SevenTiedAt
set_option linter.unusedVariables false
set_option linter.unusedSimpArgs false
open Option renaming some -> dB
open Bool renaming true -> eL, false -> eR
open List renaming length -> ii
open List renaming mem_take_iff_getElem -> yj, nodup_range -> vS, range -> qy, range' -> zO, range'_succ -> ym, replicate -> qh
open Nat renaming add_sub_cancel -> ve
open Go.Value renaming int -> xq
open Go.IntKind renaming i64 -> xx
open Prod renaming fst -> qH, snd -> zJ
open Go.Builtin renaming append_ -> qt
namespace Go.Vc
open Go
abbrev ie:=FloatKind.format .f64
theorem Ht{P:Program}{a b c:Nat}(h:ie.add a b=dB c):aN P (Op.Complex.arith .add .f64 a b) c:=λw=>by
 have h':(FloatKind.format .f64).add a b=dB c:=h;unfold Op.Complex.arith Op.floatArith;simp only[h'];rfl
theorem Hu{P:Program}{a b c:Nat}(h:ie.sub a b=dB c):aN P (Op.Complex.arith .sub .f64 a b) c:=λw=>by
 have h':(FloatKind.format .f64).sub a b=dB c:=h;unfold Op.Complex.arith Op.floatArith;simp only[h'];rfl
theorem BO{P:Program}{a b c:Nat}(h:ie.mul a b=dB c):aN P (Op.Complex.arith .mul .f64 a b) c:=λw=>by
 have h':(FloatKind.format .f64).mul a b=dB c:=h;unfold Op.Complex.arith Op.floatArith;simp only[h'];rfl
theorem CC{P:Program}{op:BinOp}(h:op=.add∨op=.sub∨op=.mul)(t:TypeId)(x y:Operand)(a b:Value):aN P (eqGuard op t x y a b) ():=λw=>by
 rcases h with rfl|rfl|rfl<;>rfl
theorem ahg{P:Program}{t:TypeId}{x y:Operand}{a b c d e f:Nat}(h:ie.add a c=dB e)(g:ie.add b d=dB f):kK P .add t x y (.complex .f64 a b) (.complex .f64 c d) (.complex .f64 e f):=
 (CC (.inl i0) t x y _ _).bind (show aN P (Op.complexOp .add .f64 a b c d) _ from(Ht h).bind ((Ht g).bind λ_=>rfl))
theorem ahh{P:Program}{t:TypeId}{x y:Operand}{a b c d e f:Nat}(h:ie.sub a c=dB e)(g:ie.sub b d=dB f):kK P .sub t x y (.complex .f64 a b) (.complex .f64 c d) (.complex .f64 e f):=
 (CC (.inr (.inl i0)) t x y _ _).bind (show aN P (Op.complexOp .sub .f64 a b c d) _ from(Hu h).bind ((Hu g).bind λ_=>rfl))
theorem ahi{P:Program}{t:TypeId}{x y:Operand}{a b c d e f h j k i:Nat}(o:ie.mul a c=dB h)(m:ie.mul b d=dB j)(h3:ie.sub h j=dB e)(n:ie.mul a d=dB k)(q:ie.mul b c=dB i)(l:ie.add k i=dB f):
  kK P .mul t x y (.complex .f64 a b) (.complex .f64 c d) (.complex .f64 e f):=by
 refine(CC (.inr (.inr i0)) t x y _ _).bind ?_;have p:aN P (Op.Complex.product a b c d) (e,f):=
  (BO o).bind ((BO m).bind ((Hu h3).bind ((BO n).bind ((BO q).bind ((Ht l).bind λ_=>rfl)))))
 show aN P (Op.complexOp .mul .f64 a b c d) _;have g:∀x,aN P (Op.Complex.conv .f64 x .f64) x:=λx w=>by unfold Op.Complex.conv;rw[f9 rfl];rfl
 unfold Op.complexOp;refine(g a).bind ((g b).bind ((g c).bind ((g d).bind ?_)));refine aN.bind (v:=(e,f)) ?_ ?_
 ·exact p
 ·exact(g e).bind ((g f).bind λ_=>rfl)
open Go Go.Sort Go.Proofs
theorem ahj{w a:World}(r:dE w a)(j:be (λb=>b<w.heap.size) w.heap a.heap):∃q c,a=Sort.grow (w.drewN q) c:=by
 refine⟨a.drawn-w.drawn,a.heap.extract w.heap.size a.heap.size,?_⟩;have k:w.heap++a.heap.extract w.heap.size a.heap.size=a.heap:=by
  apply yL;intro i;have n:=j.1;by_cases d:i<w.heap.size
  ·rw[Array.getElem?_append_left d,j.2 i d d]
  ·rw[Array.getElem?_append_right i4,Array.getElem?_extract];by_cases u:i<a.heap.size
   ·rw[f9 i4,show w.heap.size+(i-w.heap.size)=i by omega]
   ·rw[g0 i4,Array.getElem?_eq_none i4]
 obtain⟨s,t,dr,os,out⟩:=w;obtain⟨f,p,m,c,l⟩:=a;obtain⟨e,h,g,o⟩:=r;simp only at e h g o k;subst e;subst h;subst g;simp only[Sort.grow,World.drewN,World.mk.injEq];refine⟨k.symm,trivial,i4,trivial,trivial⟩
theorem Qr{α:Type}[Inhabited α]{enc:α->bg}{k:Nat}(b:∀x,ii (enc x)=k)(l:List α):flatK enc k l.toArray=(l.flatMap enc).toArray:=by
 refine ext_get! (by simp[dL b]) λt n=>?_;have a:t<ii l*k:=l9
 have c:0<k:=by
  rcases Nat.eq_zero_or_pos k with h|h
  ·subst h;simp at a
  ·exact h
 rw[get_flatK _ _ _ t j8];have e:t/k<ii l:=(Nat.div_lt_iff_lt_mul c).2 a;obtain⟨pre,post,i,o⟩:=La b l (t/k) l[t/k] (qd e);have g:t%k<k:=Nat.mod_lt _ c;have m:t=t/k*k+t%k:=by rw[vI];exact(Nat.div_add_mod t k).symm
 have d:(l.flatMap enc)[t]?=dB ((enc l[t/k])[t%k]'(by rw[b];exact g)):=by
  rw[i,qp,qj i4,qo (by rw[b];omega)];have:t-ii pre=t%k:=i4
  rw[this,qd]
 have j:l.toArray[t/k]! =l[t/k]:=n5
 rw[j];have f:t<ii (l.flatMap enc):=by rw[dL b];exact a
 rw[getElem!_pos (enc l[t/k]) (t%k) (by rw[b];exact g),getElem!_pos _ t p7];rw[qd f]at d;simp only[List.getElem_toArray];exact(Option.some.inj d).symm
theorem YY{α:Type}[Inhabited α]{enc:α->bg}{k:Nat}(g:∀x,ii (enc x)=k){w:World}{e:TypeId}{b:Nat}{rest:bg}{l:List α}(d:w.heap[b]?=dB (.cells (l.flatMap enc++rest).toArray e (0,0))):HoldsK enc k w b 0 l.toArray:=by
 intro j c;rw[Qr g]at c⊢;have a:j<ii (l.flatMap enc):=l5
 refine⟨?_,by simp[World.frozen?,d]⟩;have f:(l.flatMap enc++rest).toArray[0+j]?=dB (l.flatMap enc)[j]:=by rw[wk,zV,qo a,qd a]
 simp only[World.cell?,d];rw[getElem!_pos _ j j8];simpa using f
theorem abo{α:Type}[Inhabited α]{enc:α->bg}{k:Nat}(a:∀x,ii (enc x)=k)(l l':List α)(rest:bg)(d:ii l'=ii l):putCells id 0 (flatK enc k l'.toArray) (l.flatMap enc++rest).toArray=(l'.flatMap enc++rest).toArray:=by
 rw[Qr a];have c:=dL a l;have b:=dL a l';rw[d]at b;apply yL;intro i;simp only[putCells,Array.getElem?_mapIdx,zV,yf,wk,Nat.zero_le,true_and,Nat.sub_zero];by_cases e:i<ii l*k
 ·rw[qo i4,qo i4,qd i4,qd i4,qZ,f9 i4];rw[getElem!_pos _ i (by rw[yf];omega)];simp
 ·rw[qj i4,qj i4,c,b];cases rest[i-ii l*k]? with
  |none=>rfl
  |some x=>rw[qZ,g0 i4]
theorem RC{α:Type}[Inhabited α]{P:Program}{id_ g:FuncId}{enc:α->bg}{k:Nat}{cf:α->α->Int}(B:∀x,ii (enc x)=k)
  (I:∀(fY cap:Nat) (l:List α) (w:World),CmpLays P g #[] enc k cf fY 0 l.length w->HoldsK enc k w fY 0 l.toArray->fY<w.heap.size->ii l<4611686018427387904->
   Calls P id_ #[.slice (dB ⟨fY,0,none⟩) l.length cap,.func (.func g) #[] #[]] w λe o=>e=.returned (.tuple #[])/\∃n os,o=sortWorldK enc k w fY 0 n (l.mergeSort λx y=>!(ltOf cf) y x).toArray os)
  (E:∀(p:aO) (cap:Nat) (w:World),Calls P id_ #[.slice p 0 cap,.func (.func g) #[] #[]] w λe o=>e=.returned (.tuple #[])/\o=w)
  (J:∀x y h,ac P g #[.agg (enc x).toArray,.agg (enc y).toArray] h λv h'=>v=xq xx (cf x y)/\be (λb=>b<h.size) h h')
  {e:TypeId} {s:Sl} {l:List α} {h:Heap} (A:Own h e s k enc l) (H:ii l<2^40):
  ac P id_ #[.slice s.ptr s.len s.cap,.func (.func g) #[] #[]] h λv h'=>v=.tuple #[]/\Own h' e s k enc (l.mergeSort λx y=>!(ltOf cf) y x)/\be (λb=>¬s.on b) h h':=by
 intro w i;have a:=A.len;rcases A.head with⟨h1,h2,h3⟩|⟨b,rest,h1,h2,h3,h4⟩
 ·subst h3;rw[a,h1];refine(E none s.cap w).mono ?_;rintro D o ⟨rfl,rfl⟩;have G:(([]:List α).mergeSort λx y=>!(ltOf cf) y x)=[]:=i9
  exact⟨_,i0,dE.refl _,i0,by rw[G];exact⟨a,.inl ⟨h1,h2,i0⟩⟩,by rw[<-i];exact be.refl _ _⟩
 ·rw[h1,a];have t:w.heap[b]?=dB (.cells (l.flatMap enc++rest).toArray e (0,0)):=by rw[i];exact h2
  have f:CmpLays P g #[] enc k cf b 0 l.length w:=λm os K _ x y=>by
   have:=J x y _ (sortWorldK enc k w b 0 m K os) i0;refine(show Calls P g (#[Value.agg (enc x).toArray,.agg (enc y).toArray]++#[]) _ _ from ?_);rw[Array.append_empty];refine this.mono ?_;rintro D o ⟨v,rfl,F,rfl,z⟩;exact⟨i0,ahj F z⟩
  refine(I b s.cap l w f (YY B t) (lt_of_block t) i4).mono ?_;rintro D o ⟨rfl,n,os,rfl⟩;have q:=lt_of_block t;have r:ii (l.mergeSort λx y=>!(ltOf cf) y x)=ii l:=List.length_mergeSort l;have d:∀j,j<h.size->(sortWorldK enc k w b 0 n (l.mergeSort λx y=>!(ltOf cf) y x).toArray os).heap[j]?=if b=j then dB (.cells ((l.mergeSort λx y=>!(ltOf cf) y x).flatMap enc++rest).toArray e (0,0))else h[j]?:=by
   intro j u;unfold sortWorldK;rw[Sort.heap_grow_old _ _ (by simpa[putRowK,Sort.putRow,Sort.mapBlock,Sort.ahead,i]using u)];simp only[putRowK,Sort.putRow,Sort.mapBlock,Sort.ahead,Array.getElem?_modify];by_cases c:b=j
   ·subst c;rw[f9 i0,f9 i0,t,qZ,Sort.onCells,abo B _ _ _ r]
   ·rw[g0 c,g0 c,i]
  rw[i]at q;refine⟨_,i0,⟨i0,i0,i0,Nat.le_add_right _ _⟩,i0,⟨by rw[r];exact a,.inr ⟨b,rest,h1,?_,h3,h4⟩⟩,?_,?_⟩
  ·rw[d b q,f9 rfl]
  ·simp[sortWorldK,putRowK,Sort.grow,Sort.putRow,Sort.mapBlock,Sort.ahead,i]
  ·intro j u z;rw[d j u,g0 λc=>z ⟨0,by rw[h1,c]⟩]
end Go.Vc
namespace Wl
open Go Go.Vc
def dj(n:Int):Nat:=
 if n=0 then 0 else
  let m:=n.natAbs;let e:=m.log2
  (if n<0 then 2^63 else 0)+(1023+e)*2^52+(m-2^e)*2^(52-e)
structure FL where
 ax:Nat
 ay:Nat
 sx:Nat
 sy:Nat
 left:Int
 leg:Int
 second:Bool
def rv:Nat:=4607182418800017408
def fs0:FL:=⟨0,0,rv,0,1,1,eR⟩
def po(a b:Nat):Nat:=(ie.add a b).getD 0
def akh(a b:Nat):Nat:=(ie.sub a b).getD 0
def uF(a b:Nat):Nat:=(ie.mul a b).getD 0
def tx(a b:Nat):Nat:=akh (uF a 0) (uF b rv)
def ty(a b:Nat):Nat:=po (uF a rv) (uF b 0)
def FL.on(s:FL):FL:=
 if s.left-1>0 then{s with ax:=po s.ax s.sx,ay:=po s.ay s.sy,left:=s.left-1}
 else{ax:=po s.ax s.sx,ay:=po s.ay s.sy,sx:=tx s.sx s.sy,sy:=ty s.sx s.sy,leg:=if s.second then s.leg+1 else s.leg,left:=if s.second then s.leg+1 else s.leg,second:=!s.second}
def lD:Nat->FL
 |0=>fs0
 |n+1=>(lD n).on
def FL.ok(s:FL):Bool:=
 (ie.add s.ax s.sx).isSome&&(ie.add s.ay s.sy).isSome&&(ie.mul s.sx 0).isSome&&(ie.mul s.sy rv).isSome&&(ie.sub (uF s.sx 0) (uF s.sy rv)).isSome&&(ie.mul s.sx rv).isSome&&(ie.mul s.sy 0).isSome&&(ie.add (uF s.sx rv) (uF s.sy 0)).isSome&&decide (1<=s.left)&&decide (s.left<=100)&&decide (1<=s.leg)&&decide (s.leg<=100)
structure Spi where
 x:Int
 y:Int
 dx:Int
 dy:Int
 left:Int
 leg:Int
 turns:Int
def aki:Spi:=⟨0,0,1,0,1,1,0⟩
def Spi.on(s:Spi):Spi:=
 if s.left-1=0 then
  {x:=s.x+s.dx,y:=s.y+s.dy,dx:=-s.dy,dy:=s.dx,leg:=if(s.turns+1)%2=0 then s.leg+1 else s.leg,left:=if(s.turns+1)%2=0 then s.leg+1 else s.leg,turns:=s.turns+1}
 else{s with x:=s.x+s.dx,y:=s.y+s.dy,left:=s.left-1}
def gq:Nat->Spi
 |0=>aki
 |n+1=>(gq n).on
theorem ajL:∀n,n<64->(lD n).ok=eL:=j4
theorem air:∀n,n<64->((lD n).ax==dj (gq n).x&&(lD n).ay==dj (gq n).y&&decide (-4<=(gq n).x)&&decide ((gq n).x<=4)&&decide (-4<=(gq n).y)&&decide ((gq n).y<=4))=eL:=j4
theorem ais:∀i,i<9->∀j,j<9->ie.sub (dj ((i:Nat)-4:Int)) (dj ((j:Nat)-4:Int))=dB (dj ((i:Int)-(j:Int))):=j4
theorem ait:∀i,i<17->ie.mul (dj ((i:Nat)-8:Int)) (dj ((i:Nat)-8:Int))=dB (dj (((i:Nat)-8:Int)*((i:Nat)-8:Int))):=j4
theorem aiu:∀i,i<9->∀j,j<9->ie.add (dj (((i:Nat):Int)*(i:Nat))) (dj (((j:Nat):Int)*(j:Nat)))=dB (dj (((i:Nat):Int)*(i:Nat)+((j:Nat):Int)*(j:Nat))):=j4
theorem abq:∀m,m<129->∀n,n<129->ie.order (dj (m:Nat)) (dj (n:Nat))=dB (compare m n):=j4
theorem YZ{seq a c:Int}{b:bf}(d:ii b<=48):eC (kF seq a c b)=none:=by unfold eC kF;rw[BM i5 i5 m0];dsimp only;rw[g0 (by rintro⟨h,_⟩;exact absurd h i5)]
theorem tJ{m:aG}{c:bf}(h:c∈bu m):eC c=none:=by unfold bu at h;obtain⟨i,_,rfl⟩:=qu.1 h;exact YZ i7
theorem Za(m n:aG):(bu n).filterMap (jq m)=[]:=by rw[List.filterMap_eq_nil_iff];intro c a;unfold jq;rw[tJ a]
theorem Qs{α:Type}{R:α->α->Prop}(m:∀a b c,R a b->R b c->R a c){l:List α}(h:∀i (k:i+1<ii l),R (l[i]'(by omega)) l[i+1]):l.Pairwise R:=by
 have g:∀d i (f:i+(d+1)<ii l),R (l[i]'(by omega)) l[i+(d+1)]:=by
  intro d
  induction d with
  |zero=>exactλi f=>h i f
  |succ d ih=>exactλi f=>m _ _ _ (ih i i4) (h (i+(d+1)) i4)
 refine zx.2 λi j k f n=>?_;have:=g (j-i-1) i i4;have e:i+(j-i-1+1)=j:=i4
 simp only[e]at this;exact this
theorem Qt{α:Type}{R:α->α->Prop}{l:List α}(h:l.Pairwise R)(i:Nat)(a:i+1<ii l):R (l[i]'(by omega)) l[i+1]:=zx.1 h i (i+1) i4 a i4
theorem fu{α:Type}{l:List α}{i:Nat}(d:α)(h:i<ii l:=by omega):l.getD i d=l[i]:=by rw[qe,qd h];rfl
theorem kG(n a b:Int):fq n a b=eL↔a<=n/\n<=b:=by unfold fq;rw[qB,decide_eq_true_eq,decide_eq_true_eq]
theorem abr(l:aC)(most:Int):rg l most=eL↔l.Pairwise (·<·)/\∀x∈l,0<=x/\x<=most:=by
 unfold rg;rw[q9];constructor
 ·intro h;have g:∀i (d:i<ii l),(0<=l[i]/\l[i]<=most)/\(i=0∨l.getD (i-1) 0<l[i]):=λi d=>by
   have:=h i (qJ.2 d);unfold kl at this;rw[fu 0 d,qB,kG,wo,decide_eq_true_eq,decide_eq_true_eq]at this;exact this
  refine⟨Qs (R:=λa b:Int=>a<b) (λa b c f e=>Int.lt_trans f e) λi d=>?_,λx j=>?_⟩
  ·rcases(g (i+1) d).2 with h0|h0
   ·omega
   ·rw[ve,fu 0]at h0;exact h0
  ·obtain⟨i,d,rfl⟩:=qK j;exact(g i d).1
 ·rintro⟨f,e⟩ i d;have d:=qJ.1 d;unfold kl;rw[fu 0 d,qB,kG,wo,decide_eq_true_eq,decide_eq_true_eq];refine⟨e _ (qg d),?_⟩;cases i with
  |zero=>exact .inl i0
  |succ i=>exact .inr (by rw[ve,fu 0];exact Qt f i d)
theorem Tz(a b c:ByteArray)(e:ft a b=eL)(d:ft b c=eL):ft a c=eL:=Jx _ _ _ e d
theorem cD(m:aG):bS m=eL↔lH m=eL/\m.drives.Pairwise (·<·)/\(∀k∈m.drives,0<=k/\k<=63)/\m.aH.length<=12/\(∀e∈m.aH,ib m e=eL)/\m.aH.Pairwise (λa b=>ft a.name b.name=eL)/\m.aH.Pairwise (λa b=>a.object≠b.object):=by
 unfold bS;rw[qB,qB,qB,abr,decide_eq_true_eq,q9];have r:(∀i∈qy m.aH.length,rh m i=eL)↔(∀e∈m.aH,ib m e=eL)/\m.aH.Pairwise (λa b=>ft a.name b.name=eL)/\m.aH.Pairwise (λa b=>a.object≠b.object):=by
  constructor
  ·intro h;have o:∀i (l:i<m.aH.length),ib m m.aH[i]=eL/\(i=0∨ft (rf m.aH (i-1)).name m.aH[i].name=eL)/\∀y∈m.aH.take i,y.object≠m.aH[i].object:=λi l=>by
    have:=h i (qJ.2 l);unfold rh at this;rw[pk l,qB,qB,wo,decide_eq_true_eq,wU,wF]at this;exact⟨this.1,this.2.1,λy q=>by have:=this.2.2 y q;simpa using this⟩
   refine⟨λe t=>?_,Qs (R:=λa b:cv=>ft a.name b.name=eL) (λa b c p n=>Tz _ _ _ p n) λi l=>?_,zx.2 λi j l s u=>?_⟩
   ·obtain⟨i,l,rfl⟩:=qK t;exact(o i l).1
   ·rcases(o (i+1) l).2.1 with h0|h0
    ·omega
    ·rw[ve,pk]at h0;exact h0
   ·refine(o j s).2.2 m.aH[i] ?_;exact yj.2 ⟨i,i4,i0⟩
  ·rintro⟨p,n,h3⟩ i l;have l:=qJ.1 l;unfold rh;rw[pk l,qB,qB,wo,decide_eq_true_eq,wU,wF];refine⟨p _ (qg l),?_,λy q=>?_⟩
   ·cases i with
    |zero=>exact .inl i0
    |succ i=>exact .inr (by rw[ve,pk];exact Qt n i l)
   ·obtain⟨j,s,rfl⟩:=yj.1 q;have:=zx.1 h3 j i i4 l i4;simpa using this
 rw[r];constructor
 ·rintro⟨a,⟨b,c⟩,d,e,f,g⟩;exact⟨a,b,c,d,e,f,g⟩
 ·rintro⟨a,b,c,d,e,f,g⟩;exact⟨a,⟨b,c⟩,d,e,f,g⟩
theorem fF(m:aG):lH m=eL↔(1<=m.seq/\m.seq<=2147483647)/\(0<=m.next/\m.next<=16777216)/\bP m.p=eL/\0<=m.extra/\m.extra<=16:=by unfold lH;rw[qB,qB,qB,kG,kG,kG]
theorem ig(m:aG)(x:cv):ib m x=eL↔mY x.name=eL/\(0<=x.object/\x.object<m.next)/\(0<=x.length/\x.length<=m.p.1*m.p.2.2*8)/\(∀t∈x.tries,0<=t/\t<=15)/\(x.tries.length:Int)=countP m.p x.length:=by
 unfold ib;rw[qB,qB,qB,qB,kG,kG,q9,decide_eq_true_eq];simp only[kG];constructor
 ·rintro⟨a,b,c,d,e⟩;exact⟨a,⟨b.1,i4⟩,c,d,e⟩
 ·rintro⟨a,b,c,d,e⟩;exact⟨a,⟨b.1,i4⟩,c,d,e⟩
theorem xF{m:aG}(h:bS m=eL):m.drives.Nodup:=((cD m).1 h).2.1.imp λh e=>i4
theorem lq{m:aG}(h:bS m=eL):∀k∈m.drives,0<=k/\k<64:=λk a=>by have:=((cD m).1 h).2.2.1 k a;omega
theorem Ll:∀{l:aC} {a b:Int},l.Pairwise (·<·)->(∀k∈l,a<=k/\k<b)->a<=b->(ii l:Int)<=b-a
 |[],a,b,_,_,h=>i7
 |x::l,a,b,hp,hl,h=>by
  obtain⟨e,d⟩:=zF.1 hp;have f:=hl x qN;have:=Ll (a:=x+1) (b:=b) d (λk c=>⟨by have:=e k c;omega,(hl k (qG _ c)).2⟩) i4;rw[zn];omega
theorem jQ{m:aG}(h:bS m=eL):ii m.drives<=64:=by have:=Ll ((cD m).1 h).2.1 (lq h) i5;omega
theorem Wb(b:ByteArray):∀n i r,b.size-i=n->ByteArray.toList.loop b i r=r.reverse++b.data.toList.drop i:=by
 have c:ii b.data.toList=b.size:=rfl;intro n
 induction n with
 |zero=>
  intro i r h;rw[ByteArray.toList.loop,g0 i4,List.drop_eq_nil_of_le (by rw[c];omega),qO]
 |succ n ih=>
  intro i r h;have a:i<b.size:=i4
  rw[ByteArray.toList.loop,f9 a,ih (i+1) _ i4];have d:b.data.toList.drop i=b.get! i::b.data.toList.drop (i+1):=by rw[List.drop_eq_getElem_cons (by rw[c];exact a)];congr 1;show _=b.data[i]!;rw[getElem!_pos b.data i a,Array.getElem_toList]
  rw[d,List.reverse_cons,qp];rfl
theorem toList_eq(x:ByteArray):x.toList=x.data.toList:=by unfold ByteArray.toList;rw[Wb x _ 0 [] rfl];rfl
theorem Zb{a b:ByteArray}(h:a.toList=b.toList):a=b:=by rw[toList_eq,toList_eq]at h;cases a;cases b;congr;exact Array.toList_inj.1 h
end Wl
namespace Go.Qw
open Go Go.Vc
def kN:Nat->Nat->Nat->List (List Nat)
 |0,_,_=>[[]]
 |t+1,a,n=>(zO a (n-t-a)).flatMap λi=>(kN t (i+1) n).map (i::·)
def kv(n:Nat):List Nat->Option (List Nat)
 |[]=>none
 |x::l=>match kv n l with
  |some l'=>dB (x::l')
  |none=>if x+ii l+1<n then dB (zO (x+1) (ii l+1))else none
inductive rx (n:Nat):List Nat->List (List Nat)->Prop
 |last {l:List Nat}:kv n l=none->rx n l [l]
 |more {l l':List Nat} {L:List (List Nat)}:kv n l=dB l'->rx n l' L->rx n l (l::L)
theorem Hv{n:Nat}:∀{l l':List Nat},kv n l=dB l'->ii l'=ii l
 |[],_,h=>j6
 |x::l,l',h=>by
  unfold kv at h;cases hs:kv n l with
  |some m=>rw[hs]at h;injection h with h;subst h;simp[Hv hs]
  |none=>
   rw[hs]at h;dsimp only at h;split at h
   ·injection h with h;subst h;simp
   ·cases h
theorem rx.cons{n x t:Nat}{l:List Nat}{L R:List (List Nat)}(h:rx n l L)(a:ii l=t)(c:x+t+1<n)(b:rx n (zO (x+1) (t+1)) R):rx n (x::l) (L.map (x::·)++R):=by
 induction h with
 |last hs=>exact .more (by unfold kv;rw[hs];dsimp only;rw[f9 i4,a]) b
 |more hs _ ih=>exact .more (by unfold kv;rw[hs]) (ih (by rw[Hv hs,a]))
theorem rx.ajM{n x t:Nat}{l:List Nat}{L:List (List Nat)}(h:rx n l L)(a:ii l=t)(b:¬x+t+1<n):rx n (x::l) (L.map (x::·)):=by
 induction h with
 |last hs=>exact .last (by unfold kv;rw[hs];dsimp only;rw[g0 i4])
 |more hs _ ih=>exact .more (by unfold kv;rw[hs]) (ih (by rw[Hv hs,a]))
theorem Hw(n:Nat):∀t a,a+t<=n->rx n (zO a t) (kN t a n)
 |0,a,_=>.last i0
 |t+1,a,h=>by
  have b:∀m a,a+(t+1)<=n->m+1=n-t-a->rx n (zO a (t+1)) ((zO a (m+1)).flatMap λi=>(kN t (i+1) n).map (i::·)):=by
   intro m
   induction m with
   |zero=>
    intro a h c;have:=(Hw n t (a+1) i4).ajM (x:=a) (t:=t) i9 i4;simpa[ym]using this
   |succ m ih=>
    intro a h c;have:=(Hw n t (a+1) i4).cons (x:=a) (t:=t) i9 i4 (ih (a+1) i4 i4);rw[ym,ym (n:=m+1),zk];exact this
  have:=b (n-t-a-1) a h i4;rw[show n-t-a-1+1=n-t-a by omega]at this;exact this
theorem TA{n:Nat}:∀(i:Nat) (l m:List Nat),i<=ii l->kv n (l.drop i)=dB m->kv n l=dB (l.take i++m)
 |0,l,m,_,h=>j5
 |i+1,[],m,h,_=>m8
 |i+1,x::l,m,h,hs=>by
  have:=TA i l m j5 (by simpa using hs);unfold kv;rw[this];simp
theorem ED{n:Nat}:∀{t a:Nat} {s:List Nat},s∈kN t a n->ii s=t/\(∀x∈s,a<=x/\x<n)/\s.Pairwise (·<·)
 |0,a,s,h=>by simp[kN]at h;subst h;simp
 |t+1,a,s,h=>by
  simp only[kN,zP,qu,List.mem_range'_1]at h;obtain⟨i,f,l,e,rfl⟩:=h;obtain⟨d,c,h3⟩:=ED e;refine⟨p8,?_,zF.2 ⟨λx b=>(c x b).1,h3⟩⟩;intro x b;rcases zb.1 b with rfl|b
  ·omega
  ·have:=c x b;omega
theorem TB{n:Nat}:∀{t a:Nat} {s:List Nat},ii s=t->(∀x∈s,a<=x/\x<n)->s.Pairwise (·<·)->s∈kN t a n
 |0,a,s,h,_,_=>by simp[kN];simpa using h
 |t+1,a,[],h,_,_=>m8
 |t+1,a,x::l,h,hb,c=>by
  rw[zF]at c;have f:ii l=t:=j5
  simp only[kN,zP,qu,List.mem_range'_1];have e:=hb x i9;refine⟨x,⟨e.1,?_⟩,l,TB f (λy b=>⟨c.1 y b,(hb y l7).2⟩) c.2,i0⟩;have d:∀(l:List Nat) (x:Nat),(x::l).Pairwise (·<·)->(∀y∈x::l,y<n)->x+ii l<n:=by
   intro l
   induction l with
   |nil=>intro x _ b;exact b x i9
   |cons y l ih=>
    intro x c b;rw[zF]at c;have j:=ih y c.2 λz g=>b z (qG _ g);have i:=c.1 y i9;simp;omega
  have:=d l x (zF.2 c) λy b=>(hb y b).2;omega
def ch:Nat->Nat->Nat
 |_,0=>1
 |0,_+1=>0
 |n+1,k+1=>ch n k+ch n (k+1)
theorem nR(n:Nat):ch n 0=1:=by cases n<;>rfl
theorem JE:∀(n k:Nat),n<k->ch n k=0
 |_,0,h=>i4
 |0,k+1,_=>rfl
 |n+1,k+1,h=>by rw[ch,JE n k i4,JE n (k+1) i4]
theorem Pa:∀n,ch n n=1
 |0=>rfl
 |n+1=>by rw[ch,Pa n,JE n (n+1) i4]
theorem Hx:∀(n k:Nat),(k+1)*ch (n+1) (k+1)=(n+1)*ch n k
 |0,0=>rfl
 |0,k+1=>by rw[JE 0 (k+1) i4,JE (0+1) (k+1+1) i4];simp
 |n+1,0=>by
  have:=Hx n 0;rw[nR]at this⊢;rw[ch,nR,Nat.mul_add,this];omega
 |n+1,k+1=>by
  have c:=Hx n k;have b:=Hx n (k+1);rw[ch];have e:(k+1+1)*(ch (n+1) (k+1)+ch (n+1) (k+1+1))=((k+1)*ch (n+1) (k+1)+ch (n+1) (k+1))+(k+1+1)*ch (n+1) (k+1+1):=by rw[Nat.mul_add,zT (k+1)]
  rw[e,c,b];have a:ch (n+1) (k+1)=ch n k+ch n (k+1):=rfl;rw[a,zT (n+1),Nat.mul_add (n+1)];omega
theorem XQ{n k:Nat}(h:k<=n):ch n (k+1)*(k+1)=ch n k*(n-k):=by
 cases n with
 |zero=>
  have:k=0:=i4
  subst this;rfl
 |succ n=>
  have d:=Hx n k;have c:(n+1)*ch n k=(n+1-k)*ch (n+1) k:=by
   cases k with
   |zero=>rw[nR,nR];simp
   |succ k=>
    have h3:=Hx n k;have a:ch (n+1) (k+1)=ch n k+ch n (k+1):=rfl;have e:(n+1)*ch (n+1) (k+1)=(n+1)*ch n k+(n+1)*ch n (k+1):=by rw[a,Nat.mul_add]
    have b:(n+1-(k+1))*ch (n+1) (k+1)=(n+1)*ch (n+1) (k+1)-(k+1)*ch (n+1) (k+1):=Nat.sub_mul _ _ _;rw[b,h3,e];omega
  rw[vI,d,c,vI]
theorem ajN{n k:Nat}(h:2*(k+1)<=n+1):ch n k<=ch n (k+1):=by
 have b:=XQ (n:=n) (k:=k) i4;by_cases h0:ch n k=0
 ·omega
 ·have a:ch n k*(k+1)<=ch n (k+1)*(k+1):=by rw[b];exact Nat.mul_le_mul_left _ i4
  exact Nat.le_of_mul_le_mul_right a i4
theorem TC:∀(n k:Nat),k<=n->ch n k=ch n (n-k)
 |0,0,_=>rfl
 |n+1,0,_=>by rw[nR,Nat.sub_zero,Pa]
 |n+1,k+1,h=>by
  by_cases b:k=n
  ·subst b;rw[Pa,Nat.sub_self,nR]
  ·have c:=TC n k i4;have a:=TC n (k+1) i4;rw[show n+1-(k+1)=(n-(k+1))+1 by omega,ch,ch,c,a,show n-k=n-(k+1)+1 by omega];omega
theorem Lm(n:Nat):∀t a,a<=n->ii (kN t a n)=ch (n-a) t
 |0,a,_=>by rw[nR];rfl
 |t+1,a,h=>by
  have b:∀m a,m=n-t-a->a<=n->ii ((zO a m).flatMap λi=>(kN t (i+1) n).map (i::·))=ch (n-a) (t+1):=by
   intro m
   induction m with
   |zero=>intro a c d;rw[JE _ _ i4];rfl
   |succ m ih=>
    intro a c d;rw[ym,zk,qx,qz,Lm n t (a+1) i4,ih (a+1) i4 i4];rw[show n-a=n-(a+1)+1 by omega];rfl
  exact b _ a i0 h
def iN(n t:Int):Int:=if 0<=n/\n<=64/\0<=t/\t<=n then(min (ch n.toNat t.toNat) 4097:Nat)else 0
end Go.Qw
namespace Wl
open Classical
def fl(r:Row):Nat:=r.findIdx (λx=>x !=0)
def eG(M:aP)(r:Row):Row:=M.foldl (λout x=>cX (aQ out (fl x)) x out) r
def nt(m:aP):aP:=(bL m (eJ m)).2.take (ce m)
def TD(M:aP)(r:Row):aP:=if fl (eG M r)<ii (eG M r) then nt (M++[eG M r])else M
theorem Pb{r:Row}{c:Nat}(h:c<ii r):aQ r c=r[c]:=by rw[aQ,qe,qd h];rfl
theorem ahk{r:Row}{j:Nat}(h:aQ r j≠0):fl r<ii r:=by have a:j<ii r:=Nat.lt_of_not_le λb=>h (by simp[aQ,qe,qQ b]);rw[fl,wQ];exact⟨r[j],qg a,by rw[<-Pb a];simpa using h⟩
theorem abs{r:Row}(h:¬fl r<ii r):r=aM r.length:=by rw[fl,wQ]at h;refine eK i0 k8 λj a=>?_;rw[cC,Pb a];have c:¬((r[j] !=0)=eL):=λb=>h ⟨r[j],qg a,b⟩;simpa using c
section
variable {n:Nat} {m M A:aP}
theorem Ln(b:bc n M){r:Row}(a:ii r=n):ii (eG M r)=n:=by
 unfold eG
 induction M generalizing r with
 |nil=>exact a
 |cons x M ih=>
  rw[zB];exact ih (λy c=>b y (qG _ c)) (by rw[ca (by rw[b x i9,a])];exact a)
theorem abt{c:UInt8}{a t:Row}(h:ii a=ii t):cX c a (cX c a t)=t:=
 eK (n:=ii t) (by rw[ca (by rw[ca h];exact h),ca h]) i0 λj _=>by
  rw[cP (by rw[ca h];exact h),cP h,sW]
theorem Qu(b:bc n m)(d:∀x∈M,Span n m x){r:Row}(e:ii r=n):Span n m (eG M r)↔Span n m r:=by
 unfold eG
 induction M generalizing r with
 |nil=>exact Iff.rfl
 |cons x M ih=>
  have a:=d x i9;have c:ii x=ii r:=by rw[a.len b,e]
  rw[zB,ih (λy f=>d y (qG _ f)) (by rw[ca c];exact e)];refine⟨λh=>?_,λh=>a.comb b h _⟩;have:=a.comb b h (aQ r (fl x));rw[abt c]at this;exact this
structure EE (n:Nat) (M A:aP):Prop where
 even:bc n M
 evenA:bc n A
 span:∀v,Span n M v↔Span n A v
 len:ii M=ce A
 lead:∀x∈M,fl x<n
theorem aiv(n:Nat):EE n [] []:=⟨λ_ h=>j6,λ_ h=>j6,λ_=>Iff.rfl,by simp[ce,kM],λ_ h=>j6⟩
theorem Qv(b:bc n m)(a:bc n A)(h:∀v,Span n m v↔Span n A v):ce m=ce A:=by rw[mv b,mv a];congr 1;funext v;exact propext (h v)
theorem TE(a:bc n m):Way n m n (ce m) (bL m (eJ m)).2:=by
 have h:=JA a n (qm _);cases m with
 |nil=>rw[kM]at h;rw[ce,kM];exact h
 |cons x t=>
  have b:eJ (x::t)=n:=by rw[eJ,bE i9];exact a _ i9
  rw[ce,b];exact h
theorem aiw(B:bc n m):bc n (nt m)/\(∀v,Span n (nt m) v↔Span n m v)/\(nt m).length=ce m/\∀x∈nt m,fl x<n:=by
 have w:=TE B;obtain⟨f,o,y,l,s,⟨p,E,A,D,F⟩,c⟩:=w;have a:bc n (nt m):=λx h=>f x (zA h);refine⟨a,λv=>?_,by rw[nt,q8];omega,λx h=>?_⟩
 ·rw[<-l v];refine⟨Span.mono λr g=>zA g,Span.sub a λr g=>?_⟩;obtain⟨k,d,rfl⟩:=fk g;by_cases z:k<ce m
  ·refine Span.row a ?_;have:aE (bL m (eJ m)).2 k=aE (nt m) k:=by rw[bE d,bE (by rw[nt,q8];omega)];simp[nt]
   rw[this];exact mem_row (by rw[nt,q8];omega)
  ·have:aE (bL m (eJ m)).2 k=aM n:=eK (f _ g) k8 λj u=>by rw[cC];exact c k i4 d j u
   rw[this];exact .zero
 ·obtain⟨k,d,rfl⟩:=fk h;have i:k<ce m:=by rw[nt,q8]at d;omega
  have b:k<(bL m (eJ m)).2.length:=i4
  have e:aE (nt m) k=aE (bL m (eJ m)).2 k:=by rw[bE b,bE d];simp[nt]
  have t:=A k i k b;rw[f9 rfl]at t;have q:=ahk (r:=aE (nt m) k) (j:=p k) (by rw[e,t];decide);rw[a _ h]at q;exact q
theorem aey(h:∀v,Span n M v↔Span n A v)(e:bc n M)(f:bc n A){r:Row}(l:ii r=n){rest:Row}(k:ii rest=n)
  (g:∀m,bc n m->(∀x∈M,Span n m x)->(Span n m rest↔Span n m r)):∀v,Span n (M++[rest]) v↔Span n (A++[r]) v:=λv=>by
 have b:=np e k;have c:=np f l;have j:∀x∈M,Span n (M++[rest]) x:=λx d=>Span.row b (zC _ d);have i:∀x∈M,Span n (A++[r]) x:=λx d=>Span.mono (λy a=>zC _ a) ((h x).1 (Span.row e d));constructor
 ·refine Span.sub c λy a=>?_;rcases qA.1 a with a|a
  ·exact i y a
  ·rw[qC]at a;subst a;exact(g _ c i).2 (Span.row c i9)
 ·refine Span.sub b λy a=>?_;rcases qA.1 a with a|a
  ·exact Span.mono (λz o=>zC _ o) ((h y).2 (Span.row f a))
  ·rw[qC]at a;subst a;exact(g _ b j).1 (Span.row b i9)
theorem abu(h:EE n M A){r:Row}(c:ii r=n):EE n (TD M r) (A++[r]):=by
 have d:=Ln h.even c;have j:=aey h.span h.even h.evenA c d λm k l=>Qu k l c;have e:=np h.evenA c;unfold TD;split
 ·have t:=aiw (np h.even d);refine⟨t.1,e,λv=>(t.2.1 v).trans (j v),?_,t.2.2.2⟩;rw[t.2.2.1];exact Qv (np h.even d) e j
 ·rename_i i;have i:=abs i;have g:Span n M r:=(Qu h.even (λx f=>Span.row h.even f) c).1 (by rw[i,d];exact .zero);have b:∀v,Span n M v↔Span n (A++[r]) v:=λv=>by
   rw[h.span v];refine⟨Span.mono λx f=>zC _ f,Span.sub h.evenA λy a=>?_⟩;rcases qA.1 a with a|a
   ·exact Span.row h.evenA a
   ·rw[qC]at a;subst a;exact(h.span _).1 g
  refine⟨h.even,e,b,?_,h.lead⟩;rw[h.len];exact Qv h.evenA e λv=>(h.span v).symm.trans (b v)
end
abbrev fv:=aC×Row
def cV(x:Int->UInt8):aC->UInt8
 |[]=>0
 |c::l=>x c^^^cV x l
theorem kO{x y:Int->UInt8}:∀{l:aC},(∀c∈l,x c=y c)->cV x l=cV y l
 |[],_=>rfl
 |c::l,h=>by rw[cV,cV,h c i9,kO λd a=>h d n9]
theorem Kj(x:Int->UInt8)(p:Int->Bool):∀l,cV x l=cV x (l.filter p)^^^cV x (l.filter λc=>!p c)
 |[]=>by simp[cV]
 |c::l=>by
  rw[cV,Kj x p l];cases h:p c<;>simp only[zq,h,yd,ye,if_true,zj,if_false,cV]<;>ac_rfl
theorem BP(x:Int->UInt8){c:Int}:∀{l:aC},l.Nodup->c∈l->cV x l=x c^^^cV x (l.filter λd=>!decide (d=c))
 |[],_,h=>j6
 |d::l,hd,h=>by
  rw[yi]at hd;rcases zb.1 h with rfl|h
  ·have:l.filter (λd=>!decide (d=c))=l:=zX.2 λe f=>by
    have:e≠c:=λa=>hd.1 (a▸f);simp[this]
   rw[zq];simp only[decide_true,yd,zj,if_false];rw[this,cV]
  ·have b:d≠c:=λa=>hd.1 (a▸h);rw[zq,f9 l7,cV,cV,BP x hd.2 h];ac_rfl
theorem TF(x y:Int->UInt8):∀l,cV (λc=>x c^^^y c) l=cV x l^^^cV y l
 |[]=>by simp[cV]
 |c::l=>by rw[cV,cV,cV,TF x y l];ac_rfl
theorem Hy:∀{x:Int->UInt8} {l:aC},(∀c∈l,x c=0)->cV x l=0
 |_,[],_=>rfl
 |x,c::l,h=>by rw[cV,h c i9,Hy λd a=>h d n9];rfl
def cW(V:aP)(a:Row)(l:aC):Row:=l.foldl (λa c=>cX 1 (aE V c.toNat) a) a
theorem ko{V:aP}{m:Nat}:∀{l:aC} {a:Row},ii a=m->(∀c∈l,ii (aE V c.toNat)=m)->ii (cW V a l)=m
 |[],a,h,_=>h
 |c::l,a,h,hv=>by
  rw[cW,zB];exact ko (l:=l) (by rw[ca (by rw[hv c i9,h])];exact h) λd b=>hv d l7
theorem Lo{V:aP}{m:Nat}(j:Nat):∀{l:aC} {a:Row},ii a=m->(∀c∈l,ii (aE V c.toNat)=m)->aQ (cW V a l) j=aQ a j^^^cV (λc=>aQ (aE V c.toNat) j) l
 |[],a,_,_=>by simp[cW,cV]
 |c::l,a,h,hv=>by
  have b:ii (aE V c.toNat)=ii a:=by rw[hv c i9,h]
  rw[cW,zB];have:=Lo (V:=V) j (l:=l) (a:=cX 1 (aE V c.toNat) a) (by rw[ca b];exact h) λd e=>hv d n5;rw[cW]at this;rw[this,cP b,Gf.one_mul,cV];ac_rfl
def Sat(t:UInt8)(k:Nat)(x:Int->UInt8)(e:fv):Prop:=cV x e.1=Gf.mul t (aQ e.2 k)
structure jf (n w:Nat) (e:fv):Prop where
 cY:∀c∈e.1,0<=c/\c<(n:Int)
 nodup:e.1.Nodup
 len:ii e.2=w
def kn(known:List Bool)(c:Int):Bool:=known.getD c.toNat eR
def fA(known:List Bool)(vals:aP)(e:fv):fv:=(e.1.filter λc=>!kn known c,cW vals e.2 (e.1.filter λc=>kn known c))
structure kp (n w:Nat) (l:List fv) (known:List Bool) (vals:aP):Prop where
 klen:ii known=n
 vlen:ii vals=n
 row:∀c:Nat,c<n->ii (aE vals c)=if known.getD c eR then w else 0
 sound:∀t k x,k<w->(∀e∈l,Sat t k x e)->∀c:Int,0<=c->c<(n:Int)->kn known c=eL->x c=Gf.mul t (aQ (aE vals c.toNat) k)
section
variable {n w:Nat} {l:List fv} {known:List Bool} {vals:aP}
theorem Zc(n w:Nat)(l:List fv):kp n w l (qh n eR) (qh n []):=by
 refine⟨i9,i9,λc b=>?_,λt k x e d c h0 f a=>?_⟩
 ·rw[bE j7];simp[qe,b]
 ·exfalso;rw[kn,qe,List.getElem?_replicate]at a;split at a<;>simp at a
theorem kp.Hz(h:kp n w l known vals){c:Int}(b:0<=c)(d:c<(n:Int))(a:kn known c=eL):ii (aE vals c.toNat)=w:=by have:=h.row c.toNat i4;rw[kn]at a;rw[a]at this;simpa using this
theorem kp.Dm(h:kp n w l known vals){e:fv}(b:jf n w e):jf n w (fA known vals e):=
 ⟨λc d=>b.cY c (qI.1 d).1,b.nodup.filter _,ko b.len λc d=>by
  have a:=qI.1 d;exact h.Hz (b.cY c a.1).1 (b.cY c a.1).2 a.2⟩
theorem kp.JF(h:kp n w l known vals){e:fv}(g:jf n w e){t:UInt8}{k:Nat}{x:Int->UInt8}(o:∀c:Int,0<=c->c<(n:Int)->kn known c=eL->x c=Gf.mul t (aQ (aE vals c.toNat) k)):
  Sat t k x (fA known vals e)↔Sat t k x e:=by
 have d:∀c∈e.1.filter λc=>kn known c,ii (aE vals c.toNat)=w:=λc f=>by
  have b:=qI.1 f;exact h.Hz (g.cY c b.1).1 (g.cY c b.1).2 b.2
 have j:cV x (e.1.filter λc=>kn known c)=Gf.mul t (cV (λc=>aQ (aE vals c.toNat) k) (e.1.filter λc=>kn known c)):=by
  rw[kO (y:=λc=>Gf.mul t (aQ (aE vals c.toNat) k)) λc f=>o c (g.cY c (qI.1 f).1).1 (g.cY c (qI.1 f).1).2 (qI.1 f).2];generalize e.1.filter (λc=>kn known c)=m
  induction m with
  |nil=>simp[cV,Gf.mul_zero]
  |cons a m ih=>rw[cV,cV,Gf.kE,ih]
 unfold Sat fA;dsimp only;rw[Lo k g.len d,Gf.kE,<-j,Kj x (λc=>kn known c) e.1];constructor
 ·intro i;rw[i];rw[vm,sW]
 ·intro i;rw[<-i];rw[vm (cV x (e.1.filter λc=>kn known c)),sW]
theorem aix{known:List Bool}{c d:Int}(b:0<=c)(a:0<=d)(e:c<(ii known:Int)):kn (known.set c.toNat eL) d=(decide (d=c)||kn known d):=by
 unfold kn;rw[qe,q7];by_cases h:d=c
 ·subst h;rw[f9 i0,f9 i4];simp
 ·rw[g0 i4];simp[h]
theorem abv(h:kp n w l known vals)(p:∀e∈l,jf n w e){e:fv}(j:e∈l){c:Int}(q:(fA known vals e).1=[c]):kp n w l (known.set c.toNat eL) (vals.set c.toNat (fA known vals e).2):=by
 have b:=h.Dm (p e j);have f:=b.cY c (by rw[q];simp);have r:=h.vlen;have g:=h.klen;refine⟨o5,by simp[r],λd s=>?_,λt k x m i d h0 u o=>?_⟩
 ·rw[lP,qe,q7];by_cases a:c.toNat=d
  ·subst a;simp[show c.toNat<ii known by omega,b.len]
  ·rw[g0 a,g0 a,h.row d s,qe]
 ·rw[aix f.1 h0 i4]at o;rw[lP];by_cases a:d=c
  ·subst a;rw[f9 rfl];have:=(h.JF (p e j) (h.sound t k x m i)).2 (i e j);unfold Sat at this;rw[q]at this;simpa[cV]using this
  ·rw[g0 i4];exact h.sound t k x m i d h0 u (by simpa[a]using o)
theorem HB(h:kp n w l known vals)(e:fv):∀c∈(fA known vals e).1,kn known c=eR:=λc a=>by
 have:=(qI.1 a).2;simpa using this
def bn(known:List Bool)(vals:aP)(l:List fv):List fv:=(l.map (fA known vals)).filter λe=>!e.1.isEmpty
def kP(known:List Bool)(vals:aP)(l:List fv):Bool:=(l.map (fA known vals)).any λe=>e.1.isEmpty&&e.2.any (· !=0)
theorem TG(h:kp n w l known vals)(g:∀e∈l,jf n w e)(f:kP known vals l=eR){t:UInt8}{k:Nat}{x:Int->UInt8}(j:k<w):
  (∀e∈l,Sat t k x e)↔(∀c:Int,0<=c->c<(n:Int)->kn known c=eL->x c=Gf.mul t (aQ (aE vals c.toNat) k))/\∀e∈bn known vals l,Sat t k x e:=by
 constructor
 ·intro i;refine⟨h.sound t k x j i,λe b=>?_⟩;obtain⟨o,d,rfl⟩:=qu.1 (qI.1 b).1;exact(h.JF (g o d) (h.sound t k x j i)).2 (i o d)
 ·rintro⟨r,q⟩ e b;refine(h.JF (g e b) r).1 ?_;by_cases a:(fA known vals e).1=[]
  ·unfold Sat;rw[a,cV];have m:((fA known vals e).1.isEmpty&&(fA known vals e).2.any (· !=0))=eR:=by have:=wF.1 f _ (List.mem_map_of_mem b);simpa using this
   rw[a]at m;have p:∀y∈(fA known vals e).2,y=0:=qa
   have h3:=(h.Dm (g e b)).len;have:aQ (fA known vals e).2 k=0:=by rw[aQ,qe,qd i4];exact p _ (qg _)
   rw[this,Gf.mul_zero]
  ·refine q _ (qI.2 ⟨List.mem_map_of_mem b,?_⟩);simpa using a
theorem Zd(h:kp n w l known vals)(i:∀e∈l,jf n w e)(b:kP known vals l=eL):∃k,k<w/\∀x:Int->UInt8,¬∀e∈l,Sat 1 k x e:=by
 obtain⟨y,p,d⟩:=wz.1 b;obtain⟨e,f,rfl⟩:=qu.1 p;rw[qB]at d;obtain⟨z,o,a⟩:=wz.1 d.2;obtain⟨k,m,rfl⟩:=qK o;have h3:=(h.Dm (i e f)).len;refine⟨k,i4,λx j=>?_⟩;have c:=(h.JF (i e f) (h.sound 1 k x i4 j)).2 (j e f);unfold Sat at c;have g:(fA known vals e).1=[]:=by simpa using d.1
 rw[g,cV,Gf.one_mul,aQ,qe,qd m]at c;simp at a;exact a c.symm
end
def kz(op:List Bool)(c:Int):Bool:=op.getD c.toNat eR
def dg(op:List Bool)(r:aC):aC:=r.filter (kz op)
def mZ(rows:ct)(op us:List Bool)(i:Nat):Bool:=!(us.getD i eR)&&ii (dg op (rows.getD i []))==1
def na(rows:ct)(op us:List Bool):Option Nat:=(qy rows.length).find? (mZ rows op us)
def fm(rows:ct)(op:List Bool)(i:Nat):Int:=(dg op (rows.getD i [])).getLast?.getD 0
def kQ(a:aC)(r:aC):aC:=r.foldl (λa c=>a.set c.toNat (a.getD c.toNat 0+1)) a
def lR(g:Nat->aC->aC)(rows:ct)(us:List Bool)(a:aC):Nat->aC
 |0=>a
 |k+1=>if us.getD k eR then lR g rows us a k else kQ (lR g rows us a k) (g k (rows.getD k []))
def jb(op:List Bool)(a:aC):Nat->Int
 |0=>-1
 |k+1=>if op.getD k eR&&(decide (jb op a k<0)||decide (a.getD k 0>a.getD (jb op a k).toNat 0))then(k:Int)else jb op a k
def ij(rows:ct)(op us:List Bool):Int:=jb op (lR (λ_ r=>r) rows us (qh op.length 0) rows.length) op.length
structure Pl where
 steps:List (Int×Int)
 dead:aC
 used:List Bool
def cK(rows:ct):Nat->List Bool->List Bool->Pl
 |0,_,us=>⟨[],[],us⟩
 |k+1,op,us=>
  if op.contains eL then
   match na rows op us with
   |some i=>let r:=cK rows k (op.set (fm rows op i).toNat eR) (us.set i eL);⟨((i:Int),fm rows op i)::r.steps,r.dead,r.used⟩
   |none=>let r:=cK rows k (op.set (ij rows op us).toNat eR) us;⟨r.steps,ij rows op us::r.dead,r.used⟩
  else⟨[],[],us⟩
def fJ(us:List Bool):Nat->aC
 |0=>[]
 |k+1=>if us.getD k eR then fJ us k else fJ us k++[(k:Int)]
def dN(n:Nat)(rows:ct):Pl:=cK rows n (qh n eL) (qh rows.length eR)
theorem abw{P:Nat->Bool}{n:Nat}(h:∀j,j<n->P j=eR):(qy n).find? P=none:=by rw[yn];intro x a;rw[qJ]at a;simp[h x a]
theorem abx{P:Nat->Bool}{n k:Nat}(f:k<n)(h:∀j,j<k->P j=eR)(e:P k=eL):(qy n).find? P=dB k:=by
 rw[List.find?_eq_some_iff_append];refine⟨e,qy k,zO (k+1) (n-k-1),?_,λa b=>?_⟩
 ·rw[yW,yW];have c:n=k+(n-k):=i4
  have d:n-k=(n-k-1)+1:=i4
  conv=>lhs;rw[c,<-List.range'_append_1 (s:=0) (m:=k) (n:=n-k)]
  rw[wk]
  conv=>lhs;rw[d,ym]
 ·rw[qJ]at b;simp[h a b]
theorem Wc(a r:aC)(c:Int):kQ a (r++[c])=(kQ a r).set c.toNat ((kQ a r).getD c.toNat 0+1):=by simp[kQ]
theorem FM(b r:aC):ii (kQ b r)=ii b:=by
 induction r generalizing b with
 |nil=>rfl
 |cons a t ih=>simp only[kQ,zB]at*;rw[ih];simp
theorem EF(g:Nat->aC->aC)(rows:ct)(us:List Bool)(a:aC):∀k,ii (lR g rows us a k)=ii a
 |0=>rfl
 |k+1=>by
  unfold lR;split
  ·exact EF g rows us a k
  ·rw[FM,EF g rows us a k]
theorem HC{m:Int}:∀{r b:aC},(∀x∈b,0<=x/\x<=m)->∀x∈kQ b r,0<=x/\x<=m+ii r
 |[],b,h,x,hx=>by have:=h x hx;simp;omega
 |a::t,b,h,x,hx=>by
  have d:∀y∈b.set a.toNat (b.getD a.toNat 0+1),0<=y/\y<=m+1:=by
   intro y c;rcases List.mem_or_eq_of_mem_set c with c|c
   ·have:=h y c;omega
   ·subst c;rw[qe];cases hc:b[a.toNat]? with
    |none=>
     rw[List.getElem?_eq_none_iff]at hc;rw[List.set_eq_of_length_le hc]at c;have:=h _ c;rw[qe,qQ hc]at this;simp at this⊢;omega
    |some z=>have:=h z (List.mem_of_getElem? hc);simp;omega
  have:=HC (r:=t) d x hx;simp only[zn];omega
theorem TH(g:Nat->aC->aC){rows:ct}{us:List Bool}{n:Nat}(a:∀k,ii (g k (rows.getD k []))<=64):∀k,∀x∈lR g rows us (qh n 0) k,0<=x/\x<=64*k
 |0,x,hx=>by
  have:=List.eq_of_mem_replicate hx;subst this;simp
 |k+1,x,hx=>by
  unfold lR at hx;split at hx
  ·have:=TH g a k x hx;omega
  ·have:=HC (TH g a k) x hx;have:=a k;omega
theorem Qx(op:List Bool)(a:aC):∀k,(jb op a k=-1/\∀j,j<k->op.getD j eR=eR)∨(0<=jb op a k/\jb op a k<k/\op.getD (jb op a k).toNat eR=eL)
 |0=>.inl ⟨i0,λj b=>i4⟩
 |k+1=>by
  unfold jb;split
  ·rename_i c;simp only[qB]at c;exact .inr ⟨i4,i4,by rw[ql];exact c.1⟩
  ·rename_i c;rcases Qx op a k with⟨e,h⟩|⟨h1,h2,h3⟩
   ·refine .inl ⟨e,λj b=>?_⟩;rcases zr.1 b with b|rfl
    ·exact h j b
    ·by_cases d:op.getD j eR=eL
     ·exact absurd (by rw[d,e];rfl) c
     ·simpa using d
   ·exact .inr ⟨h1,i4,h3⟩
theorem HD{op:List Bool}(h:op.contains eL=eL):∃j,j<ii op/\op.getD j eR=eL:=by simp only[List.contains_iff_mem]at h;obtain⟨j,a,e⟩:=qK h;exact⟨j,a,by rw[qe,qd a];exact e⟩
theorem ud{rows:ct}{op us:List Bool}(h:op.contains eL=eL):0<=ij rows op us/\ij rows op us<ii op/\op.getD (ij rows op us).toNat eR=eL:=by
 obtain⟨j,a,e⟩:=HD h;rcases Qx op (lR (λ_ r=>r) rows us (qh op.length 0) rows.length) op.length with⟨_,h2⟩|h2
 ·rw[h2 j a]at e;cases e
 ·exact h2
theorem xG{rows:ct}{op us:List Bool}{i:Nat}(h:na rows op us=dB i):i<ii rows/\mZ rows op us i=eL:=by have b:=List.mem_of_find?_eq_some h;have a:=List.find?_some h;exact⟨qJ.1 b,a⟩
theorem EG{rows:ct}{op us:List Bool}{i:Nat}(d:mZ rows op us i=eL):dg op (rows.getD i [])=[fm rows op i]/\fm rows op i∈rows.getD i []/\kz op (fm rows op i)=eL:=by
 simp only[mZ,qB,beq_iff_eq]at d;obtain⟨c,a⟩:=List.length_eq_one_iff.1 d.2;have e:fm rows op i=c:=by unfold fm;rw[a];rfl
 have b:c∈dg op (rows.getD i []):=by rw[a];simp
 rw[dg,qI]at b;rw[e];exact⟨a,b.1,b.2⟩
theorem lr{op:List Bool}{j:Nat}(h:op.getD j eR=eL):(op.set j eR).count eL+1=op.count eL:=by
 have a:j<ii op:=by
  by_cases a:j<ii op
  ·exact a
  ·rw[qe,qQ i4]at h;cases h
 have e:op[j]=eL:=by rw[qe,qd a]at h;exact h
 have b:0<op.count eL:=List.count_pos_iff.2 (e▸qg a);rw[List.count_set a,e];simp;omega
theorem TJ{op:List Bool}(h:op.count eL=0):op.contains eL=eR:=by rw[List.count_eq_zero]at h;simpa using h
theorem BQ{rows:ct}{op us:List Bool}(h:op.contains eL=eR):∀k,cK rows k op us=⟨[],[],us⟩
 |0=>rfl
 |k+1=>by unfold cK;rw[h];rfl
theorem pz{rows:ct}{op us:List Bool}{i k:Nat}(h:op.contains eL=eL)(a:na rows op us=dB i):
  cK rows (k+1) op us=⟨((i:Int),fm rows op i)::(cK rows k (op.set (fm rows op i).toNat eR) (us.set i eL)).steps,(cK rows k (op.set (fm rows op i).toNat eR) (us.set i eL)).dead,(cK rows k (op.set (fm rows op i).toNat eR) (us.set i eL)).used⟩:=by
 rw[cK,h,a];rfl
theorem pA{rows:ct}{op us:List Bool}{k:Nat}(h:op.contains eL=eL)(a:na rows op us=none):
  cK rows (k+1) op us=⟨(cK rows k (op.set (ij rows op us).toNat eR) us).steps,ij rows op us::(cK rows k (op.set (ij rows op us).toNat eR) us).dead,(cK rows k (op.set (ij rows op us).toNat eR) us).used⟩:=by
 rw[cK,h,a];rfl
theorem uG(rows:ct):∀k op us,(cK rows k op us).used.length=ii us
 |0,_,_=>rfl
 |k+1,op,us=>by
  unfold cK;split
  ·split
   ·show(cK rows k _ _).used.length=_;rw[uG];simp
   ·show(cK rows k _ _).used.length=_;rw[uG]
  ·rfl
theorem JG(us:List Bool):∀k,ii (fJ us k)<=k
 |0=>by simp[fJ]
 |k+1=>by
  have:=JG us k;unfold fJ;split<;>simp<;>omega
theorem uU{op:List Bool}{f:Nat}(h:op.count eL=f+1):op.contains eL=eL:=by
 have:0<op.count eL:=i4
 rw[List.count_pos_iff]at this;simpa using this
theorem Wd{P:Nat->Bool}{n j:Nat}(a:j<n)(h:P j=eL):∃i,(qy n).find? P=dB i:=by
 cases hf:(qy n).find? P with
 |some i=>exact⟨i,i0⟩
 |none=>
  rw[yn]at hf;exact absurd h (hf j (qJ.2 a))
theorem jR(l:List Bool)(i j:Nat)(x:Bool):(l.set i x).getD j eR=if i=j/\j<ii l then x else l.getD j eR:=by
 simp only[qe,q7];by_cases h:i=j
 ·subst h;by_cases a:i<ii l<;>simp[a]
 ·simp[h]
def Aw(rows:ct)(op us:List Bool):Prop:=∀i,us.getD i eR=eL->dg op (rows.getD i [])=[]
theorem nS{op:List Bool}{c d:Int}(h:kz (op.set d.toNat eR) c=eL):kz op c=eL/\c.toNat≠d.toNat:=by
 unfold kz at*;rw[jR]at h;by_cases e:d.toNat=c.toNat
 ·rw[f9]at h
  ·cases h
  ·refine⟨e,?_⟩;by_cases b:c.toNat<ii op
   ·exact b
   ·rw[g0 λa=>b a.2,qe,qQ i4]at h;cases h
 ·rw[g0 λa=>e a.1]at h;exact⟨h,λa=>e a.symm⟩
theorem aby{rows:ct}{op us:List Bool}{i:Nat}(h:Aw rows op us)(l:mZ rows op us i=eL):Aw rows (op.set (fm rows op i).toNat eR) (us.set i eL):=by
 obtain⟨k,n,h3⟩:=EG l;intro j b;rw[jR]at b;rw[dg,wO];intro c m d;obtain⟨d,f⟩:=nS d;have a:c∈dg op (rows.getD j []):=by rw[dg,qI];exact⟨m,d⟩
 by_cases e:i=j
 ·subst e;rw[k]at a;simp at a;exact f (by rw[a])
 ·rw[g0 λg=>e g.1]at b;rw[h j b]at a;simp at a
theorem HE(n j:Nat):(qh n eR).getD j eR=eR:=by
 rw[qe];by_cases h:j<n
 ·rw[qd j5];simp
 ·rw[qQ j5];rfl
theorem aiy{rows:ct}{r:aC}(h:r∈rows):∃j,j<ii rows/\rows.getD j []=r:=by obtain⟨j,a,e⟩:=qK h;exact⟨j,a,by rw[qe,qd a];exact e⟩
def other(m i:Nat):Nat:=if i<m then i else i+1
def ue(rows:ct):(Int->Prop)->(Int->Prop)->List (Int×Int)->Prop
 |_,_,[]=>True
 |D,U,(i,c)::t=>(0<=i/\i<ii rows)/\¬U i/\¬D c/\c∈rows.getD i.toNat []/\(∀a∈rows.getD i.toNat [],a≠c->D a)/\ue rows (λx=>D x∨x=c) (λx=>U x∨x=i) t
def akj(op:List Bool)(c:Int):Prop:=0<=c/\kz op c=eL
theorem abz{op:List Bool}{c:Int}(h:kz op c=eL):c.toNat<ii op:=by
 by_cases a:c.toNat<ii op
 ·exact a
 ·unfold kz at h;rw[qe,qQ i4]at h;cases h
theorem XR{op:List Bool}{c d:Int}(f:0<=c)(e:0<=d):kz op c=eL->c≠d->kz (op.set d.toNat eR) c=eL:=by intro h a;unfold kz;rw[jR,g0 λb=>a i4];exact h
theorem xH{op:List Bool}{d:Int}(h:kz op d=eL):kz (op.set d.toNat eR) d=eR:=by unfold kz;rw[jR,f9 ⟨i0,abz h⟩]
structure ajO (rows:ct) (op us:List Bool) (r:Pl):Prop where
 cY:ii r.steps+ii r.dead=op.count eL
 used:r.used.count eL=us.count eL+ii r.steps
 keepU:∀i,us.getD i eR=eL->r.used.getD i eR=eL
 dead:∀c∈r.dead,akj op c
 deadN:r.dead.Nodup
 good:∀D U:Int->Prop,(∀c:Int,0<=c->c<ii op->(D c↔kz op c=eR∨c∈r.dead))->(∀i:Nat,i<ii rows->(U i↔us.getD i eR=eL∨r.used.getD i eR=eR))->ue rows D U r.steps
theorem aez{us:List Bool}{i:Nat}(h:us.getD i eR=eR)(a:i<ii us):(us.set i eL).count eL=us.count eL+1:=by
 have e:us[i]=eR:=by rw[qe,qd a]at h;exact h
 rw[List.count_set a,e];simp
theorem TK{rows:ct}{n:Nat}(b:∀r∈rows,∀c∈r,0<=c/\c<n):∀k op us,ii op=n->ii us=ii rows->op.count eL=k->ajO rows op us (cK rows k op us)
 |0,op,us,hl,hul,hc=>⟨by simp[cK,hc],by simp[cK],λi h=>h,λc h=>by simp[cK]at h,by simp[cK],λ_ _ _ _=>trivial⟩
 |k+1,op,us,hl,hul,hc=>by
  have t:=uU hc;cases hst:na rows op us with
  |some i=>
   obtain⟨l,q⟩:=xG hst;obtain⟨N,I,h3⟩:=EG q;have m:rows.getD i []=rows[i]:=by rw[qe,qd l];rfl
   have w:=b _ (qg l) _ (m▸I);have A:=lr (op:=op) (j:=(fm rows op i).toNat) h3;have v:us.getD i eR=eR:=by simp only[mZ,qB,wU]at q;exact q.1
   have M:=aez v i4;have a:=TK b k (op.set (fm rows op i).toNat eR) (us.set i eL) (by simp[hl]) (by simp[hul]) i4;rw[pz t hst];generalize cK rows k (op.set (fm rows op i).toNat eR) (us.set i eL)=r at a;generalize J:fm rows op i=c at*;have E:r.used.getD i eR=eL:=a.keepU i (by rw[jR,f9 ⟨i0,i4⟩]);have u:c∉r.dead:=λh=>by
    have:=(a.dead c h).2;rw[xH h3]at this;cases this
   refine⟨by simp only[zn];have:=a.cY;omega,by simp only[zn];have:=a.used;omega,λj z=>a.keepU j (by rw[jR];split;rfl;exact z),λd p=>⟨(a.dead d p).1,(nS (a.dead d p).2).1⟩,a.deadN,λD U x y=>?_⟩;have o:rows.getD ((i:Int)).toNat []=rows.getD i []:=by rw[ql]
   refine⟨i4,?_,?_,by rw[o];exact I,?_,?_⟩
   ·rw[y i l,v,E];simp
   ·rw[x c w.1 i4,h3];simp[u]
   ·intro G s B;rw[o]at s;have F:=b _ (qg l) _ (m▸s);refine(x G F.1 i4).2 (.inl ?_);cases ho:kz op G with
    |false=>rfl
    |true=>
     have:G∈dg op (rows.getD i []):=by rw[dg,qI];exact⟨s,ho⟩
     rw[N]at this;simp at this;exact absurd this B
   ·refine a.good _ _ (λd g f=>?_) (λj z=>?_)
    ·simp only[zh]at f;rw[x d g f];by_cases e:d=c
     ·subst e;simp[xH h3]
     ·cases ho:kz op d with
      |true=>rw[XR g w.1 ho e];simp[e]
      |false=>
       have:kz (op.set c.toNat eR) d=eR:=by
        cases hh:kz (op.set c.toNat eR) d with
        |false=>rfl
        |true=>rw[(nS hh).1]at ho;cases ho
       rw[this];simp
    ·rw[y j z,jR];by_cases e:i=j
     ·subst e;simp[hul,l]
     ·have L:¬((j:Int)=(i:Int)):=λh=>e i4;simp[e,L]
  |none=>
   obtain⟨H,O,K⟩:=ud (rows:=rows) (us:=us) t;have A:=lr (op:=op) (j:=(ij rows op us).toNat) K;have a:=TK b k (op.set (ij rows op us).toNat eR) us (by simp[hl]) hul i4;rw[pA t hst];generalize cK rows k (op.set (ij rows op us).toNat eR) us=r at a;generalize ij rows op us=c at*;have h3:kz op c=eL:=K;have u:c∉r.dead:=λh=>by
    have:=(a.dead c h).2;rw[xH h3]at this;cases this
   refine⟨by simp only[zn];have:=a.cY;omega,a.used,a.keepU,λd p=>?_,by simp only[yi];exact⟨u,a.deadN⟩,λD U x y=>?_⟩
   ·rcases zb.1 p with rfl|p
    ·exact⟨H,h3⟩
    ·exact⟨(a.dead d p).1,(nS (a.dead d p).2).1⟩
   ·refine a.good D U (λd g f=>?_) y;simp only[zh]at f;rw[x d g f];by_cases e:d=c
    ·subst e;simp[xH h3]
    ·have:kz (op.set c.toNat eR) d=kz op d:=by
      cases ho:kz op d with
      |true=>exact XR g H ho e
      |false=>
       cases hh:kz (op.set c.toNat eR) d with
       |false=>rfl
       |true=>rw[(nS hh).1]at ho;cases ho
     rw[this];simp[e]
theorem EH(us:List Bool):∀k (c:Int),c∈fJ us k↔∃j:Nat,c=j/\j<k/\us.getD j eR=eR
 |0,c=>by simp[fJ]
 |k+1,c=>by
  have e:=EH us k c;unfold fJ;cases h:us.getD k eR with
  |true=>
   simp only[if_true];rw[e];constructor
   ·rintro⟨j,a,b,d⟩;exact⟨j,a,i4,d⟩
   ·rintro⟨j,a,b,d⟩;refine⟨j,a,?_,d⟩;rcases zr.1 b with b|rfl
    ·exact b
    ·rw[h]at d;cases d
  |false=>
   simp only[zj,if_false,qA,qC];rw[e];constructor
   ·rintro(⟨j,a,b,d⟩|rfl)
    ·exact⟨j,a,i4,d⟩
    ·exact⟨k,i0,i4,h⟩
   ·rintro⟨j,a,b,d⟩;rcases zr.1 b with b|rfl
    ·exact .inl ⟨j,a,b,d⟩
    ·exact .inr a
theorem TL(us:List Bool):∀k,k<=ii us->ii (fJ us k)+(us.take k).count eL=k
 |0,_=>by simp[fJ]
 |k+1,hk=>by
  have a:=TL us k i4;have e:us.getD k eR=us[k]:=by rw[qe,qd i4];rfl
  unfold fJ;rw[zK i4,List.count_append,e];cases us[k]<;>simp<;>omega
theorem Ax{rows:ct}{n:Nat}(a:∀r∈rows,∀c∈r,0<=c/\c<n):
  (dN n rows).steps.length+(dN n rows).dead.length=n/\(dN n rows).steps.length+ii (fJ (dN n rows).used rows.length)=ii rows/\(∀c∈(dN n rows).dead,0<=c/\c<n)/\(dN n rows).dead.Nodup/\
  (∀c∈fJ (dN n rows).used rows.length,0<=c/\c<ii rows)/\ue rows (·∈(dN n rows).dead) (·∈fJ (dN n rows).used rows.length) (dN n rows).steps:=by
 have h:=TK a n (qh n eL) (qh rows.length eR) i9 i9 i9;have p:(dN n rows).used.length=ii rows:=by unfold dN;rw[uG];simp
 have e:=TL (dN n rows).used rows.length i4;rw[List.take_of_length_le i4]at e;refine⟨by have:=h.cY;simpa[dN]using this,?_,λc d=>?_,h.deadN,λc d=>?_,?_⟩
 ·have:=h.used;have o:(qh rows.length eR).count eL=0:=by simp[List.count_replicate]
  rw[o]at this;unfold dN at*;omega
 ·obtain⟨h0,l⟩:=h.dead c d;have:=abz l;simp at this;omega
 ·obtain⟨j,rfl,f,_⟩:=(EH _ _ _).1 d;omega
 ·refine h.good _ _ (λc m b=>?_) (λi k=>?_)
  ·have:kz (qh n eL) c=eL:=by simp at b;unfold kz;rw[qe,qd i7];simp
   rw[this];simp[dN]
  ·rw[HE,EH];constructor
   ·rintro⟨j,f,_,g⟩;have:j=i:=i4
    subst this;exact .inr g
   ·rintro(hh|hh)
    ·cases hh
    ·exact⟨i,i0,k,hh⟩
theorem HG{rows:ct}:∀k op us i,(cK rows k op us).used.getD i eR=eL->us.getD i eR=eL∨∃c,((i:Int),c)∈(cK rows k op us).steps
 |0,_,_,_,h=>.inl h
 |k+1,op,us,i,h=>by
  by_cases a:op.contains eL=eL
  ·cases hst:na rows op us with
   |some j=>
    rw[pz a hst]at h⊢;dsimp only at h⊢;rcases HG k _ _ i h with h1|⟨c,hc⟩
    ·rw[jR]at h1;by_cases b:j=i
     ·subst b;exact .inr ⟨_,qN⟩
     ·rw[g0 λd=>b d.1]at h1;exact .inl h1
    ·exact .inr ⟨c,qG _ hc⟩
   |none=>
    rw[pA a hst]at h⊢;exact HG k _ _ i h
  ·have a:op.contains eL=eR:=j8
   rw[BQ a]at h⊢;exact .inl h
theorem HI{rows:ct}{n:Nat}(a:∀r∈rows,∀c∈r,0<=c/\c<(n:Int)):∀k op us,ii op=n->op.count eL=k->∀c:Nat,op.getD c eR=eL->
  (c:Int)∈(cK rows k op us).dead∨∃i,(i,(c:Int))∈(cK rows k op us).steps
 |0,op,us,hl,hc,c,h=>by
  have:=TJ hc;exfalso;have f:c<ii op:=by
   by_cases g:c<ii op
   ·exact g
   ·rw[qe,qQ i4]at h;cases h
  rw[List.count_eq_zero]at hc;rw[qe,qd f]at h;exact hc (h▸qg f)
 |k+1,op,us,hl,hc,c,h=>by
  have d:=uU hc;cases hst:na rows op us with
  |some j=>
   rw[pz d hst];obtain⟨l,m⟩:=xG hst;obtain⟨u,q,h3⟩:=EG m;have e:rows.getD j []=rows[j]:=by rw[qe,qd l];rfl
   have p:=a _ (qg l) _ (e▸q);have o:=lr (op:=op) (j:=(fm rows op j).toNat) h3;dsimp only;by_cases b:(fm rows op j).toNat=c
   ·exact .inr ⟨j,by rw[show((c:Nat):Int)=fm rows op j by omega];exact qN⟩
   ·rcases HI a k (op.set (fm rows op j).toNat eR) (us.set j eL) (by simp[hl]) i4 c (by rw[jR,g0 λg=>b g.1];exact h)with h5|⟨i,h5⟩
    ·exact .inl h5
    ·exact .inr ⟨i,qG _ h5⟩
  |none=>
   rw[pA d hst];obtain⟨t,v,s⟩:=ud (rows:=rows) (us:=us) d;have o:=lr (op:=op) (j:=(ij rows op us).toNat) s;dsimp only;by_cases b:(ij rows op us).toNat=c
   ·exact .inl (by rw[show((c:Nat):Int)=ij rows op us by omega];exact qN)
   ·rcases HI a k (op.set (ij rows op us).toNat eR) us (by simp[hl]) i4 c (by rw[jR,g0 λg=>b g.1];exact h)with h5|⟨i,h5⟩
    ·exact .inl (qG _ h5)
    ·exact .inr ⟨i,h5⟩
theorem Ze{rows:ct}{op us:List Bool}{c:Int}(h:Aw rows op us):Aw rows (op.set c.toNat eR) us:=λi b=>by
 have:=h i b;rw[dg,wO]at this⊢;exactλd e a=>this d e (nS a).1
theorem EI{rows:ct}{c:Int}(m:[c]∈rows):∀k op us,Aw rows op us->(∀d:Int,d<0->d∉(cK rows k op us).dead)->0<=c->c∉(cK rows k op us).dead
 |0,_,_,_,_,_=>by simp[cK]
 |k+1,op,us,hu,_,h0=>by
  by_cases a:op.contains eL=eL
  ·cases hst:na rows op us with
   |some j=>
    rw[pz a hst];dsimp only;obtain⟨_,l⟩:=xG hst;exact EI m k _ _ (aby hu l) (λd q b=>by
     have g:∀k op us,∀d∈(cK rows k op us).dead,0<=d:=plan_dead0;have:=g _ _ _ d b;omega) h0
   |none=>
    rw[pA a hst];obtain⟨t,u,r⟩:=ud (rows:=rows) (us:=us) a;dsimp only;intro b;rcases zb.1 b with e|b
    ·obtain⟨j,p,f⟩:=aiy m;have n:dg op [c]=[c]:=by rw[dg,zq,f9 (show kz op c=eL by rw[e];exact r)];rfl
     have s:mZ rows op us j=eL:=by
      unfold mZ;rw[f,n];cases hus:us.getD j eR with
      |false=>rfl
      |true=>have:=hu j hus;rw[f,n]at this;cases this
     obtain⟨i,o⟩:∃i,na rows op us=dB i:=Wd p s;rw[hst]at o;cases o
    ·exact EI m k _ _ (Ze hu) (λd q b=>by have:=plan_dead0 (rows:=rows) _ _ _ d b;omega) h0 b
  ·have a:op.contains eL=eR:=j8
   rw[BQ a];simp
where
 plan_dead0 {rows:ct}:∀k op us,∀d∈(cK rows k op us).dead,0<=d
  |0,_,_,d,h=>by simp[cK]at h
  |k+1,op,us,d,h=>by
   by_cases a:op.contains eL=eL
   ·cases hst:na rows op us with
    |some j=>rw[pz a hst]at h;exact plan_dead0 k _ _ d h
    |none=>
     rw[pA a hst]at h;rcases zb.1 h with rfl|h
     ·exact(ud a).1
     ·exact plan_dead0 k _ _ d h
   ·have a:op.contains eL=eR:=j8
    rw[BQ a]at h;simp at h
def uf(R:ct):(Int->Prop)->List (Int×Int)->Prop
 |_,[]=>True
 |D,(i,c)::t=>(0<=i/\i<ii R)/\¬D c/\c∈R.getD i.toNat []/\(∀a∈R.getD i.toNat [],a≠c->D a)/\uf R (λx=>D x∨x=c) t
theorem CD{R S:ct}{K:Int->Prop}(j:∀r∈R,∀c∈r,¬K c)(q:∀r∈S,∀c∈r,K c):∀{a:List (Int×Int)} {D D' U:Int->Prop},ue (R++S) D U a->(∀c,¬K c->(D c↔D' c))->
  uf R D' (a.filter λp=>decide (p.1<ii R))
 |[],_,_,_,_,_=>trivial
 |(i,c)::t,D,D',U,h,hD=>by
  obtain⟨w,z,h3,g,x,v⟩:=h;rw[zq];by_cases n:i<ii R
  ·have e:(R++S).getD i.toNat []=R.getD i.toNat []:=by rw[qe,qo i4,qe]
   have k:R.getD i.toNat []∈R:=by rw[qe,qd i4];exact qg _
   rw[e]at g x;have l:=j _ k c g;rw[f9 l9];refine⟨⟨w.1,n⟩,λu=>h3 ((hD c l).2 u),g,λs b m=>(hD s (j _ k s b)).1 (x s b m),CD j q v λd f=>?_⟩;rw[hD d f]
  ·rw[g0 l9];have k:(R++S).getD i.toNat []∈S:=by have o:=w.2;rw[qx]at o;rw[qe,qj i4,qd i4];exact qg _
   have l:=q _ k c g;refine CD j q v λd f=>?_;rw[<-hD d f];exact⟨λu=>u.elim id λy=>absurd (y▸l) f,.inl⟩
def ev(t:UInt8)(k nd:Nat)(W M:aP)(y:Nat->UInt8)(c:Int):UInt8:=bW (λi=>aQ (aE W c.toNat) i) y nd^^^Gf.mul t (aQ (aE M c.toNat) k)
theorem Lp{a b:Row}(h:ii a=ii b)(c:UInt8)(y:Nat->UInt8)(n:Nat):bW (λj=>aQ (cX c a b) j) y n=bW (λj=>aQ b j) y n^^^Gf.mul c (bW (λj=>aQ a j) y n):=by rw[ga n (λj _=>cP h j) λ_ _=>rfl];exact Jz _ _ _ _ _
theorem TM{V:aP}{m:Nat}(y:Nat->UInt8)(n:Nat):∀{l:aC} {a:Row},ii a=m->(∀c∈l,ii (aE V c.toNat)=m)->bW (λj=>aQ (cW V a l) j) y n=bW (λj=>aQ a j) y n^^^cV (λc=>bW (λj=>aQ (aE V c.toNat) j) y n) l
 |[],a,_,_=>by simp[cW,cV]
 |c::l,a,h,hv=>by
  have b:ii (aE V c.toNat)=ii a:=by rw[hv c i9,h]
  have:=TM (V:=V) y n (l:=l) (a:=cX 1 (aE V c.toNat) a) (by rw[ca b];exact h) λd e=>hv d n5;rw[cW,zB];rw[cW]at this;rw[this,Lp b,Gf.one_mul,cV];ac_rfl
theorem TN(t:UInt8)(x:Int->UInt8):∀l,cV (λc=>Gf.mul t (x c)) l=Gf.mul t (cV x l)
 |[]=>by simp[cV,Gf.mul_zero]
 |c::l=>by rw[cV,cV,Gf.kE,TN t x l]
theorem Pc{W M:aP}{nd w:Nat}{l:aC}{a m:Row}(f:ii a=nd)(e:ii m=w)(b:∀c∈l,ii (aE W c.toNat)=nd)(d:∀c∈l,ii (aE M c.toNat)=w)(t:UInt8)(k:Nat)(y:Nat->UInt8):
  bW (λj=>aQ (cW W a l) j) y nd^^^Gf.mul t (aQ (cW M m l) k)=(bW (λj=>aQ a j) y nd^^^Gf.mul t (aQ m k))^^^cV (ev t k nd W M y) l:=by
 rw[TM y nd f b,Lo k e d,Gf.kE];have:cV (ev t k nd W M y) l=cV (λc=>bW (λj=>aQ (aE W c.toNat) j) y nd) l^^^Gf.mul t (cV (λc=>aQ (aE M c.toNat) k) l):=by rw[<-TN,<-TF];rfl
 rw[this];ac_rfl
def ik(rest:List fv)(nd:Nat)(s:aP×aP)(p:Int×Int):aP×aP:=
 let r:=rest.getD p.1.toNat ([],[])
 (s.1.set p.2.toNat (cW s.1 (aM nd) (r.1.filter λc=>!decide (c=p.2))),s.2.set p.2.toNat (cW s.2 r.2 (r.1.filter λc=>!decide (c=p.2))))
structure WOk (n nd w:Nat) (D:Int->Prop) (W M:aP):Prop where
 wl:ii W=n
 ml:ii M=n
 rw_:∀c:Int,D c->0<=c->c<(n:Int)->ii (aE W c.toNat)=nd/\(aE M c.toNat).length=w
theorem EJ{W M b a:aP}{t:UInt8}{k nd:Nat}{y:Nat->UInt8}{c:Int}(e:aE b c.toNat=aE W c.toNat)(d:aE a c.toNat=aE M c.toNat):ev t k nd b a y c=ev t k nd W M y c:=by unfold ev;rw[e,d]
theorem Lq{n nd w:Nat}{rest:List fv}(v:∀e∈rest,jf n w e):∀{a:List (Int×Int)} {D:Int->Prop} {W M:aP},uf (rest.map qH) D a->WOk n nd w D W M->
  WOk n nd w (λc=>D c∨∃i,(i,c)∈a) (a.foldl (ik rest nd) (W,M)).1 (a.foldl (ik rest nd) (W,M)).2/\
  (∀c:Int,D c->0<=c->aE (a.foldl (ik rest nd) (W,M)).1 c.toNat=aE W c.toNat/\aE (a.foldl (ik rest nd) (W,M)).2 c.toNat=aE M c.toNat)/\
  (∀p∈a,∀t k y,k<w->Sat t k (ev t k nd (a.foldl (ik rest nd) (W,M)).1 (a.foldl (ik rest nd) (W,M)).2 y) (rest.getD p.1.toNat ([],[])))/\
  (∀t k x y,k<w->(∀c:Int,D c->0<=c->c<(n:Int)->x c=ev t k nd W M y c)->(∀p∈a,Sat t k x (rest.getD p.1.toNat ([],[])))->∀c:Int,(D c∨∃i,(i,c)∈a)->0<=c->c<(n:Int)->x c=ev t k nd (a.foldl (ik rest nd) (W,M)).1 (a.foldl (ik rest nd) (W,M)).2 y c)
 |[],D,W,M,_,hw=>⟨⟨hw.wl,hw.ml,λc Z=>hw.rw_ c (Z.elim id λ⟨i,h⟩=>j6)⟩,λ_ _ _=>⟨i0,i0⟩,λp q=>by(cases q),λt k x y H J _ c Z h0 o=>J c (Z.elim id λ⟨i,h⟩=>j6) h0 o⟩
 |(i,c)::st,D,W,M,hg,hw=>by
  obtain⟨g1,g2,I,g4,g5⟩:=hg;have u:i.toNat<ii rest:=by have:=g1.2;rw[qz]at this;omega
  obtain⟨e,he⟩:∃e,e=rest[i.toNat]:=⟨_,rfl⟩
  have R:rest.getD i.toNat ([],[])=e:=by rw[qe,qd u,he];rfl
  have ab:(rest.map qH).getD i.toNat []=e.1:=by rw[qe,List.getElem?_map,qd u,he];rfl
  rw[ab]at I g4;have l:=v e (he▸qg u);have P:=l.cY c I;obtain⟨F,K⟩:∃F,F=e.1.filter (λd=>!decide (d=c)):=⟨_,rfl⟩
  have r:∀d∈F,d∈e.1/\d≠c:=λd b=>by rw[K,qI]at b;exact⟨b.1,by simpa using b.2⟩
  have f:∀d∈F,D d/\0<=d/\d<(n:Int):=λd b=>⟨g4 d (r d b).1 (r d b).2,l.cY d (r d b).1⟩
  have l1:∀d∈F,ii (aE W d.toNat)=nd:=λd b=>(hw.rw_ d (f d b).1 (f d b).2.1 (f d b).2.2).1;have l2:∀d∈F,ii (aE M d.toNat)=w:=λd b=>(hw.rw_ d (f d b).1 (f d b).2.1 (f d b).2.2).2;have Q:ii (aM nd)=nd:=k8
  have T:ik rest nd (W,M) (i,c)=(W.set c.toNat (cW W (aM nd) F),M.set c.toNat (cW M e.2 F)):=by unfold ik;dsimp only;rw[R,<-K]
  have U:=hw.wl;have V:=hw.ml;have G:∀d:Nat,aE (W.set c.toNat (cW W (aM nd) F)) d=if c.toNat=d then cW W (aM nd) F else aE W d:=λd=>lP
  have z:∀d:Nat,aE (M.set c.toNat (cW M e.2 F)) d=if c.toNat=d then cW M e.2 F else aE M d:=λd=>lP
  have Y:WOk n nd w (λx=>D x∨x=c) (W.set c.toNat (cW W (aM nd) F)) (M.set c.toNat (cW M e.2 F)):=by
   refine⟨by simp[U],by simp[V],λd b h0 o=>?_⟩;rw[G,z];by_cases g:c.toNat=d.toNat
   ·rw[f9 g,f9 g];exact⟨ko Q l1,ko l.len l2⟩
   ·rw[g0 g,g0 g];exact hw.rw_ d (b.elim id λL=>absurd (by rw[L]) g) h0 o
  obtain⟨O,X,r3,r4⟩:=Lq v g5 Y;rw[zB,T];generalize st.foldl (ik rest nd) (W.set c.toNat (cW W (aM nd) F),M.set c.toNat (cW M e.2 F))=s at O X r3 r4;have B:∀d:Int,D d->0<=d->c.toNat≠d.toNat:=λd b h0 L=>g2 (by rw[show c=d by omega];exact b);have keep:∀d:Int,D d->0<=d->aE s.1 d.toNat=aE W d.toNat/\aE s.2 d.toNat=aE M d.toNat:=λd b h0=>by
   have:=X d (.inl b) h0;rw[G,z,g0 (B d b h0),g0 (B d b h0)]at this;exact this
  have ad:∀t k y,ev t k nd s.1 s.2 y c=Gf.mul t (aQ e.2 k)^^^cV (ev t k nd W M y) F:=λt k y=>by
   have S:=X c (.inr i0) P.1;rw[G,z,f9 rfl,f9 rfl]at S;unfold ev;rw[S.1,S.2,Pc Q l.len l1 l2 t k y,fU _ _ nd λj _=>cC _ _,wx];rfl
  have A:∀t k y,cV (ev t k nd s.1 s.2 y) F=cV (ev t k nd W M y) F:=λt k y=>kO λd b=>EJ (keep d (f d b).1 (f d b).2.1).1 (keep d (f d b).1 (f d b).2.1).2;refine⟨⟨O.wl,O.ml,λd b h0 o=>O.rw_ d ?_ h0 o⟩,keep,λp q t k y H=>?_,λt k x y H J hs d b h0 o=>?_⟩
  ·rcases b with b|⟨j,hj⟩
   ·exact .inl (.inl b)
   ·rcases zb.1 hj with hj|hj
    ·injection hj with _ hj;exact .inl (.inr hj)
    ·exact .inr ⟨j,hj⟩
  ·rcases zb.1 q with rfl|q
   ·dsimp only;rw[R];unfold Sat;rw[BP _ l.nodup I,<-K,ad,A,sW]
   ·exact r3 p q t k y H
  ·refine r4 t k x y H (λd b h0 o=>?_) (λp q=>hs p (qG _ q)) d ?_ h0 o
   ·by_cases g:d=c
    ·subst g;have E:=hs (i,d) i9;dsimp only at E;rw[R]at E;unfold Sat at E;rw[BP _ l.nodup I,<-K,kO (y:=ev t k nd W M y) λN m=>J N (f N m).1 (f N m).2.1 (f N m).2.2]at E;have h6:ev t k nd (W.set d.toNat (cW W (aM nd) F)) (M.set d.toNat (cW M e.2 F)) y d=Gf.mul t (aQ e.2 k)^^^cV (ev t k nd W M y) F:=by unfold ev;rw[G,z,f9 i0,f9 i0,Pc Q l.len l1 l2 t k y,fU _ _ nd λj _=>cC _ _,wx];rfl
     rw[h6,<-E,sW]
    ·have m:D d:=b.elim id λL=>absurd L g;rw[J d m h0 o];refine(EJ ?_ ?_).symm
     ·rw[G,g0 i4]
     ·rw[z,g0 i4]
   ·rcases b with b|⟨j,hj⟩
    ·exact .inl (.inl b)
    ·rcases zb.1 hj with hj|hj
     ·injection hj with _ hj;exact .inl (.inr hj)
     ·exact .inr ⟨j,hj⟩
theorem Qy:∀{l m:List Nat},l.Nodup->(∀x∈l,x∈m)->ii l<=ii m
 |[],_,_,_=>i9
 |x::l,m,hd,h=>by
  rw[yi]at hd;have a:=h x i9;have d:=Qy (l:=l) (m:=m.erase x) hd.2 λy b=>(List.mem_erase_of_ne λc:y=x=>hd.1 (by rw[<-c];exact b)).2 (h y l7);rw[List.length_erase_of_mem a]at d;have:=List.length_pos_of_mem a;simp;omega
def oX(nd i:Nat):Row:=(aM nd).set i 1
theorem aeA(nd i:Nat):ii (oX nd i)=nd:=by simp[oX,aM]
theorem aeB{nd i:Nat}(a:i<nd)(j:Nat):aQ (oX nd i) j=if j=i then 1 else 0:=by rw[oX,OY (by simpa[aM]using a),cC]
theorem aeC{nd i:Nat}(a:i<nd)(y:Nat->UInt8):bW (λj=>aQ (oX nd i) j) y nd=y i:=
 Jy _ _ i nd a λj _=>by
  rw[aeB a];by_cases h:j=i
  ·subst h;simp
  ·rw[g0 h,g0 λb=>h b.symm]
def gb(n nd w:Nat)(dead:aC):aP×aP:=
 (dead.zipIdx).foldl (λs p=>(s.1.set p.1.toNat (oX nd p.2),s.2.set p.1.toNat (aM w))) (qh n [],qh n [])
theorem MJ(n nd w:Nat)(d:aC)(c:Int):gb n nd w (d++[c])=((gb n nd w d).1.set c.toNat (oX nd d.length),(gb n nd w d).2.set c.toNat (aM w)):=by unfold gb;rw[List.zipIdx_append,List.foldl_append];simp
theorem Pd{n nd w:Nat}{dead:aC}(h:∀c∈dead,0<=c/\c<(n:Int))(l:dead.Nodup):∀k,k<=ii dead->
  WOk n nd w (·∈dead.take k) (gb n nd w (dead.take k)).1 (gb n nd w (dead.take k)).2/\∀i,(o:i<k)->(m:i<ii dead)->aE (gb n nd w (dead.take k)).1 dead[i].toNat=oX nd i/\aE (gb n nd w (dead.take k)).2 dead[i].toNat=aM w
 |0,_=>⟨⟨by simp[gb],by simp[gb],λc b=>by simp at b⟩,λi o=>i4⟩
 |k+1,hk=>by
  obtain⟨j,m⟩:=Pd (nd:=nd) (w:=w) h l k i4;have d:k<ii dead:=i4
  have p:=h _ (qg d);have e:dead.take (k+1)=dead.take k++[dead[k]]:=zK d;have r:ii (dead.take k)=k:=i7
  rw[e,MJ,r];have t:=j.wl;have s:=j.ml;refine⟨⟨by simp[t],by simp[s],λc b h0 h3=>?_⟩,λi o f=>?_⟩
  ·dsimp only;rw[lP,lP];by_cases a:dead[k].toNat=c.toNat
   ·rw[f9 a,f9 a];exact⟨aeA _ _,k8⟩
   ·rw[g0 a,g0 a];refine j.rw_ c ?_ h0 h3;rcases qA.1 b with b|b
    ·exact b
    ·rw[qC]at b;exact absurd (by rw[b]) a
  ·dsimp only;rw[lP,lP];by_cases g:i=k
   ·subst g;rw[f9 i0,f9 rfl];exact⟨i0,i0⟩
   ·have q:dead[k]≠dead[i]:=λu=>g ((List.getElem_inj l).1 u).symm;have:=h _ (qg f);rw[g0 i4,g0 i4];exact m i i4 f
def iK(nd:Nat)(known:List Bool)(vals:aP)(s:aP×aP):aP×aP:=
 (s.1.mapIdx λc r=>if known.getD c eR then aM nd else r,s.2.mapIdx λc r=>if known.getD c eR then aE vals c else r)
theorem EK{m:aP}{f:Nat->Row->Row}{c:Nat}(h:c<ii m):aE (m.mapIdx f) c=f c (aE m c):=by rw[bE j5,bE h];simp
def gY(V:aP)(r:Row)(a:Row):Nat->Row
 |0=>a
 |c+1=>cX (aQ r c) (aE V c) (gY V r a c)
theorem my{V:aP}{m:Nat}(r:Row){a:Row}(b:ii a=m):∀{c:Nat},(∀i,i<c->ii (aE V i)=m)->ii (gY V r a c)=m
 |0,_=>b
 |c+1,h=>by
  have:=my r b (c:=c) λi d=>h i i4;rw[gY,ca (by rw[h c i4,this])];exact this
theorem Lr{V:aP}{m:Nat}(r:Row){a:Row}(b:ii a=m)(j:Nat):∀{c:Nat},(∀i,i<c->ii (aE V i)=m)->aQ (gY V r a c) j=aQ a j^^^bW (λi=>aQ r i) (λi=>aQ (aE V i) j) c
 |0,_=>by simp[gY,bW]
 |c+1,h=>by
  have e:=my r b (c:=c) λi d=>h i i4;rw[gY,cP (by rw[h c i4,e]),Lr r b j (c:=c) λi d=>h i i4,bW];ac_rfl
theorem TO{V:aP}{m:Nat}(r:Row){a:Row}(b:ii a=m)(y:Nat->UInt8)(n:Nat):∀{c:Nat},(∀i,i<c->ii (aE V i)=m)->bW (λj=>aQ (gY V r a c) j) y n=bW (λj=>aQ a j) y n^^^bW (λi=>aQ r i) (λi=>bW (λj=>aQ (aE V i) j) y n) c
 |0,_=>by simp[gY,bW]
 |c+1,h=>by
  have e:=my r b (c:=c) λi d=>h i i4;rw[gY,Lp (by rw[h c i4,e]),TO r b y n (c:=c) λi d=>h i i4,bW];ac_rfl
theorem TP(f g g':Nat->UInt8):∀k,bW f (λi=>g i^^^g' i) k=bW f g k^^^bW f g' k
 |0=>by simp[bW]
 |k+1=>by rw[bW,bW,bW,TP f g g' k,Gf.kE];ac_rfl
theorem TQ(t:UInt8)(f g:Nat->UInt8):∀k,bW f (λi=>Gf.mul t (g i)) k=Gf.mul t (bW f g k)
 |0=>by simp[bW,Gf.mul_zero]
 |k+1=>by
  rw[bW,bW,TQ t f g k,Gf.kE];congr 1;rw[<-Gf.mul_assoc,<-Gf.mul_assoc,Gf.mul_comm (f k) t]
theorem EL{n:Nat}(g:Nat->UInt8):∀{l:aC},(∀x∈l,0<=x/\x<(n:Int))->l.Nodup->bW (λj=>aQ (gw n l) j) g n=cV (λc=>g c.toNat) l
 |[],_,_=>by
  rw[cV];refine fU _ _ n λj _=>?_;rw[EB [] (λx a=>by cases a) j];simp
 |c::l,h,hd=>by
  rw[yi]at hd;have o:=h c i9;have k:=EL g (l:=l) (λx a=>h x n9) hd.2;have d:bW (λj=>aQ (gw n (c::l)) j) g n=bW (λj=>if(j:Int)∈c::l then 1 else 0) g n:=ga n (λj _=>EB _ h j) λ_ _=>rfl;have e:bW (λj=>aQ (gw n l) j) g n=bW (λj=>if(j:Int)∈l then 1 else 0) g n:=ga n (λj _=>EB _ (λx a=>h x n9) j) λ_ _=>rfl;rw[d,cV,<-k,e];rw[Lk (f:=λj=>if(j:Int)∈l then 1 else 0) (f':=λj=>if(j:Int)∈c::l then 1 else 0) (c:=c.toNat) (by rw[g0];rw[show((c.toNat:Nat):Int)=c by omega];exact hd.1) (λi=>by
   by_cases b:i=c.toNat
   ·subst b;rw[f9 i0,f9];rw[show((c.toNat:Nat):Int)=c by omega];simp
   ·rw[g0 b];have:(i:Int)≠c:=λm=>b i4;simp[this]),f9 i4]
  ac_rfl
theorem kernel{nd:Nat}{a:aP}(V:bc nd a)(P:ce a<nd):∃y:Nat->UInt8,(∃i,i<nd/\y i≠0)/\∀r∈a,bW (λj=>aQ r j) y nd=0:=by
 have w:=TE V;obtain⟨N,S,ab,O,X,⟨p,U,W,p3,Z⟩,B⟩:=w;generalize hT:ce a=T at*;generalize (bL a (eJ a)).2=rows at*;have t:∃j,j<nd/\∀i,i<T->p i≠j:=by
  have v:∀T nd:Nat,T<nd->∀p:Nat->Nat,(∀i,i<T->p i<nd)->∃j,j<nd/\∀i,i<T->p i≠j:=by
   intro T nd ah p Y;by_cases f:∀j,j<nd->∃i,i<T/\p i=j
   ·exfalso;have F:∀j∈qy nd,j∈(qy T).map p:=λj A=>by
     obtain⟨i,g,rfl⟩:=f j (qJ.1 A);exact qu.2 ⟨i,qJ.2 g,i0⟩
    have:=Qy vS F;simp at this;omega
   ·simp only[Classical.not_forall,not_exists,not_and]at f;obtain⟨j,A,h⟩:=f;exact⟨j,A,h⟩
  exact v T nd P p U
 obtain⟨j,A,I⟩:=t;have G:∀i e,i<T->e<T->p i=p e->i=e:=λi e q n h3=>by
  rcases Nat.lt_trichotomy i e with h|h|h
  ·have:=Z i e h n;omega
  ·exact h
  ·have:=Z e i h q;omega
 let y:Nat->UInt8:=λc=>if c=j then 1 else cV (λi=>if p i.toNat=c then aQ (aE rows i.toNat) j else 0) ((qy T).map λi:Nat=>(i:Int))
 have hy:∀i,i<T->y (p i)=aQ (aE rows i) j:=λi g=>by
  show(if p i=j then 1 else _)=_;rw[g0 (I i g)];have K:((qy T).map λi:Nat=>(i:Int)).Nodup:=by exact List.Pairwise.map _ (λa b h u=>h (Int.ofNat_inj.1 u)) vS
  rw[BP _ K (c:=(i:Int)) (qu.2 ⟨i,qJ.2 g,i0⟩),Hy,zU]
  ·simp
  ·intro c o;rw[qI]at o;obtain⟨e,s,rfl⟩:=qu.1 o.1;have D:e≠i:=λu=>by subst u;simp at o
   rw[ql,g0 λu=>D (G e i (qJ.1 s) g u)]
 have R:∀c,c≠j->(∀i,i<T->p i≠c)->y c=0:=λc o Y=>by
  show(if c=j then 1 else _)=_;rw[g0 o,Hy];intro d hd;obtain⟨e,s,rfl⟩:=qu.1 hd;rw[ql,g0 (Y e (qJ.1 s))]
 have E:y j=1:=by show(if j=j then 1 else _)=_;rw[f9 rfl]
 refine⟨y,⟨j,A,by rw[E];decide⟩,λr Q=>?_⟩;refine Span.lin N (λr=>bW (λc=>aQ r c) y nd) (fU _ _ nd λc _=>cC _ _) (λc x z q n=>Lp i4 c y nd) (λr P=>?_) ((O r).2 (Span.row V Q));obtain⟨k,L,rfl⟩:=fk P;by_cases l:k<T
 ·--the row's own beginning,and j
  have hf:∀c,c<nd->aQ (aE rows k) c=0∨y c=0∨c=p k∨c=j:=λc o=>by
   by_cases q:c=j
   ·exact .inr (.inr (.inr q))
   ·by_cases n:∃i,i<T/\p i=c
    ·obtain⟨i,g,rfl⟩:=n;by_cases H:k=i
     ·subst H;exact .inr (.inr (.inl i0))
     ·refine .inl ?_;rw[W i g k L,g0 H]
    ·exact .inr (.inl (R c q λi g u=>n ⟨i,g,u⟩))
  have M:=U k l;have J:aQ (aE rows k) (p k)=1:=by rw[W k l k L,f9 rfl]
  have D:p k≠j:=I k l;have v:∀m,m<=nd->bW (λc=>aQ (aE rows k) c) y m=(if p k<m then aQ (aE rows k) j else 0)^^^(if j<m then aQ (aE rows k) j else 0):=by
   intro m
   induction m with
   |zero=>intro _;simp[bW]
   |succ m ih=>
    intro hm;rw[bW,ih i4];by_cases q:m=p k
    ·have ad:m≠j:=i4
     rw[q,J,Gf.one_mul,hy k l];rw[g0 (Nat.lt_irrefl _),f9 (Nat.lt_succ_self _)];by_cases h3:j<p k
     ·rw[f9 h3,f9 i4];ac_rfl
     ·rw[g0 h3,g0 i4];ac_rfl
    ·by_cases n:m=j
     ·rw[n,E,Gf.mul_one];rw[g0 (Nat.lt_irrefl j),f9 (Nat.lt_succ_self j),zU];by_cases h3:p k<j
      ·rw[f9 h3,f9 i4]
      ·rw[g0 h3,g0 i4]
     ·have hz:Gf.mul (aQ (aE rows k) m) (y m)=0:=by
       rcases hf m i4 with h|h|h|h
       ·rw[h,Gf.zero_mul]
       ·rw[h,Gf.mul_zero]
       ·exact absurd h q
       ·exact absurd h n
      rw[hz,zU];have a1:(p k<m+1)↔(p k<m):=i4
      have a2:(j<m+1)↔(j<m):=i4
      simp only[a1,a2]
  rw[v nd (qm _),f9 M,f9 A,me]
 ·exact fU _ _ nd λc o=>B k i4 L c o
def dH(n nd:Nat)(rest:List fv)(W:aP)(left:aC)(ahead:aP):aP:=(left.map λi=>cW W (aM nd) (rest.getD i.toNat ([],[])).1)++ahead.map λr=>gY W r (aM nd) n
def fK(n w:Nat)(rest:List fv)(M:aP)(left:aC)(ahead:aP):aP:=(left.map λi=>cW M (rest.getD i.toNat ([],[])).2 (rest.getD i.toNat ([],[])).1)++ahead.map λr=>gY M r (aM w) n
def Ay(nd:Nat)(known:List Bool)(vals:aP)(W M D:aP):aP:=vals.mapIdx λc r=>if known.getD c eR then r else gY D (aE W c) (aE M c) nd
def dI(n:Nat)(l:List fv)(ahead:aP):aP:=ahead++l.map λe=>gw n e.1
def iE(w:Nat)(l:List fv)(ahead:aP):aP:=qh ahead.length (aM w)++l.map zJ
def at_(X:aP)(k:Nat)(c:Int):UInt8:=aQ (aE X c.toNat) k
section
variable {n w:Nat} {l:List fv} {ahead:aP}
theorem BR(b:bc n ahead):bc n (dI n l ahead):=λr a=>by
 rcases qA.1 a with a|a
 ·exact b r a
 ·obtain⟨e,_,rfl⟩:=qu.1 a;exact sU _ _
theorem BS(b:∀e∈l,jf n w e):bc w (iE w l ahead):=λr a=>by
 rcases qA.1 a with a|a
 ·rw[(w7.1 a).2];simp[aM]
 ·obtain⟨e,c,rfl⟩:=qu.1 a;exact(b e c).len
theorem xZ:ii (dI n l ahead)=ii (iE w l ahead):=by simp[dI,iE]
theorem EM(p:∀e∈l,jf n w e){X:aP}:fI n w (dI n l ahead) (iE w l ahead) X↔X.length=n/\bc w X/\∀k,k<w->(∀e∈l,Sat 1 k (at_ X k) e)/\∀r∈ahead,bW (λj=>aQ r j) (λc=>aQ (aE X c) k) n=0:=by
 unfold fI;refine⟨λ⟨h1,h2,h3⟩=>⟨h1,h2,λk q=>⟨λe h=>?_,λr t=>?_⟩⟩,λ⟨h1,h2,h3⟩=>⟨h1,h2,λi g=>?_⟩⟩
 ·obtain⟨i,g,rfl⟩:=qK h;have:=h3 (ii ahead+i) m6;have a:aE (dI n l ahead) (ii ahead+i)=gw n l[i].1:=by rw[bE m6];simp[dI]
  have b:aE (iE w l ahead) (ii ahead+i)=l[i].2:=by rw[bE p0];simp[iE]
  rw[a,b]at this;have o:=congrArg (λr=>aQ r k) this;rw[ic h2 h1 _ k n (qm _),EL _ (p _ h).cY (p _ h).nodup]at o;unfold Sat;rw[Gf.one_mul];exact o
 ·obtain⟨i,g,rfl⟩:=qK t;have:=h3 i m6;have a:aE (dI n l ahead) i=ahead[i]:=by rw[bE m6];simp[dI,wZ g]
  have b:aE (iE w l ahead) i=aM w:=by rw[bE p0];simp[iE,g]
  rw[a,b]at this;have o:=congrArg (λr=>aQ r k) this;rw[ic h2 h1 _ k n (qm _),cC]at o;exact o
 ·have m:ii (aE (iE w l ahead) i)=w:=cB (BS p) (by rw[<-xZ (n:=n)];exact g);refine eK (n:=w) (iS h2 h1 _ n (qm _)) m λk q=>?_;rw[ic h2 h1 _ k n (qm _)];simp only[dI,qx,qz]at g;by_cases f:i<ii ahead
  ·have a:aE (dI n l ahead) i=ahead[i]:=by rw[bE m6];simp[dI,wZ f]
   have b:aE (iE w l ahead) i=aM w:=by rw[bE p0];simp[iE,f]
   rw[a,b,cC];exact(h3 k q).2 _ (qg f)
  ·obtain⟨d,rfl⟩:∃d,i=ii ahead+d:=⟨i-ii ahead,i4⟩
   have s:d<ii l:=i4
   have a:aE (dI n l ahead) (ii ahead+d)=gw n l[d].1:=by rw[bE m6];simp[dI]
   have b:aE (iE w l ahead) (ii ahead+d)=l[d].2:=by rw[bE p0];simp[iE]
   have h:=p _ (qg s);rw[a,b,EL _ h.cY h.nodup];have:=(h3 k q).1 _ (qg s);unfold Sat at this;rw[Gf.one_mul]at this;exact this
end
structure gX (n w:Nat) (l:List fv) (ahead:aP) (known:List Bool) (vals:aP) (dead left:aC) (W M:aP):Prop where
 eqs:∀e∈l,jf n w e
 ahd:bc n ahead
 pinv:kp n w l known vals
 calm:kP known vals l=eR
 deadR:∀c∈dead,0<=c/\c<(n:Int)
 deadN:dead.Nodup
 deadK:∀c∈dead,kn known c=eR
 lens:ii W=n/\M.length=n/\∀c:Nat,c<n->ii (aE W c)=ii dead/\(aE M c).length=w
 evKnown:∀t k y,∀c:Int,0<=c->c<(n:Int)->kn known c=eL->ev t k dead.length W M y c=Gf.mul t (aQ (aE vals c.toNat) k)
 evDead:∀t k y,∀i,(h:i<ii dead)->ev t k dead.length W M y dead[i]=y i
 evRest:∀t k y,k<w->(∀i∈left,Sat t k (ev t k dead.length W M y) ((bn known vals l).getD i.toNat ([],[])))->∀e∈bn known vals l,Sat t k (ev t k dead.length W M y) e
 leftR:∀i∈left,0<=i/\i<(ii (bn known vals l):Int)
 evAll:∀t k x,k<w->(∀c:Int,0<=c->c<(n:Int)->kn known c=eL->x c=Gf.mul t (aQ (aE vals c.toNat) k))->(∀e∈bn known vals l,Sat t k x e)->∀c:Int,0<=c->c<(n:Int)->x c=ev t k dead.length W M (λi=>x (dead.getD i 0)) c
section
variable {n w:Nat} {l:List fv} {ahead:aP} {known:List Bool} {vals:aP} {dead left:aC} {W M:aP}
theorem pB(h:kp n w l known vals)(d:∀e∈l,jf n w e):∀e∈bn known vals l,jf n w e:=λe b=>by
 obtain⟨c,a,rfl⟩:=qu.1 (qI.1 b).1;exact h.Dm (d c a)
theorem CE{a b:UInt8}:a^^^b=0↔a=b:=ro
theorem gX.TR(S:gX n w l ahead known vals dead left W M){i:Int}(f:i∈left)(t:UInt8)(k:Nat)(y:Nat->UInt8):
  bW (λj=>aQ (cW W (aM dead.length) ((bn known vals l).getD i.toNat ([],[])).1) j) y dead.length=Gf.mul t (aQ (cW M ((bn known vals l).getD i.toNat ([],[])).2 ((bn known vals l).getD i.toNat ([],[])).1) k)↔Sat t k (ev t k dead.length W M y) ((bn known vals l).getD i.toNat ([],[])):=by
 have m:=S.leftR i f;have b:i.toNat<ii (bn known vals l):=i4
 have g:(bn known vals l).getD i.toNat ([],[])=(bn known vals l)[i.toNat]:=by rw[qe,qd b];rfl
 have a:=pB S.pinv S.eqs _ (qg b);rw[g];generalize (bn known vals l)[i.toNat]=e at*;have p:ii (aM dead.length)=ii dead:=k8
 have o:∀c∈e.1,ii (aE W c.toNat)=ii dead:=λc d=>((S.lens.2.2 c.toNat) (by have:=a.cY c d;omega)).1;have h:∀c∈e.1,ii (aE M c.toNat)=w:=λc d=>((S.lens.2.2 c.toNat) (by have:=a.cY c d;omega)).2;have:=Pc p a.len o h t k y;rw[fU _ _ dead.length λj _=>cC _ _,wx]at this;rw[<-CE,this];unfold Sat;rw[CE];exact eq_comm
theorem gX.Qz(S:gX n w l ahead known vals dead left W M)(r:Row)(t:UInt8)(k:Nat)(y:Nat->UInt8):
  bW (λj=>aQ (gY W r (aM dead.length) n) j) y dead.length=Gf.mul t (aQ (gY M r (aM w) n) k)↔bW (λj=>aQ r j) (λc=>ev t k dead.length W M y (c:Int)) n=0:=by
 have e:=TO (V:=W) (m:=ii dead) r (a:=aM dead.length) k8 y dead.length (c:=n) λi b=>(S.lens.2.2 i b).1;have d:=Lr (V:=M) (m:=w) r (a:=aM w) k8 k (c:=n) λi b=>(S.lens.2.2 i b).2;rw[e,d,fU _ _ dead.length λj _=>cC _ _,cC,wx,wx,<-CE,<-TQ,<-TP];have:(λc:Nat=>ev t k dead.length W M y (c:Int))=λi=>bW (λj=>aQ (aE W i) j) y dead.length^^^Gf.mul t (aQ (aE M i) k):=by funext c;unfold ev;rw[ql]
 rw[this]
theorem gX.up(S:gX n w l ahead known vals dead left W M){t:UInt8}{k:Nat}{y:Nat->UInt8}(g:k<w)
  (f:∀i,i<ii (dH n dead.length (bn known vals l) W left ahead)->bW (λj=>aQ (aE (dH n dead.length (bn known vals l) W left ahead) i) j) y dead.length=Gf.mul t (aQ (aE (fK n w (bn known vals l) M left ahead) i) k)):
  (∀e∈l,Sat t k (ev t k dead.length W M y) e)/\∀r∈ahead,bW (λj=>aQ r j) (λc=>ev t k dead.length W M y (c:Int)) n=0:=by
 refine⟨(TG S.pinv S.eqs S.calm g).2 ⟨λc h0 p m=>S.evKnown t k y c h0 p m,S.evRest t k y g λi h=>?_⟩,λr o=>?_⟩
 ·obtain⟨j,a,rfl⟩:=qK h;have:=f j m7;have b:aE (dH n dead.length (bn known vals l) W left ahead) j=cW W (aM dead.length) ((bn known vals l).getD left[j].toNat ([],[])).1:=by rw[bE m7];simp[dH,a]
  have d:aE (fK n w (bn known vals l) M left ahead) j=cW M ((bn known vals l).getD left[j].toNat ([],[])).2 ((bn known vals l).getD left[j].toNat ([],[])).1:=by rw[bE p5];simp[fK,a]
  rw[b,d]at this;exact(S.TR h t k y).1 this
 ·obtain⟨j,a,rfl⟩:=qK o;have:=f (ii left+j) m7;have b:aE (dH n dead.length (bn known vals l) W left ahead) (ii left+j)=gY W ahead[j] (aM dead.length) n:=by rw[bE m7];simp[dH]
  have d:aE (fK n w (bn known vals l) M left ahead) (ii left+j)=gY M ahead[j] (aM w) n:=by rw[bE p5];simp[fK]
  rw[b,d]at this;exact(S.Qz _ t k y).1 this
theorem gX.down(S:gX n w l ahead known vals dead left W M){t:UInt8}{k:Nat}{x:Int->UInt8}(p:k<w)(D:∀e∈l,Sat t k x e)(v:∀r∈ahead,bW (λj=>aQ r j) (λc=>x (c:Int)) n=0):
  (∀c:Int,0<=c->c<(n:Int)->x c=ev t k dead.length W M (λi=>x (dead.getD i 0)) c)/\
  ∀i,i<ii (dH n dead.length (bn known vals l) W left ahead)->bW (λj=>aQ (aE (dH n dead.length (bn known vals l) W left ahead) i) j) (λi=>x (dead.getD i 0)) dead.length=Gf.mul t (aQ (aE (fK n w (bn known vals l) M left ahead) i) k):=by
 obtain⟨y,q⟩:=(TG S.pinv S.eqs S.calm p).1 D;have m:=S.evAll t k x p y q;refine⟨m,λi B=>?_⟩;simp only[dH,qx,qz]at B;by_cases a:i<ii left
 ·have g:aE (dH n dead.length (bn known vals l) W left ahead) i=cW W (aM dead.length) ((bn known vals l).getD left[i].toNat ([],[])).1:=by rw[bE m7];simp[dH,a]
  have h:aE (fK n w (bn known vals l) M left ahead) i=cW M ((bn known vals l).getD left[i].toNat ([],[])).2 ((bn known vals l).getD left[i].toNat ([],[])).1:=by rw[bE p5];simp[fK,a]
  rw[g,h];refine(S.TR (qg a) t k _).2 ?_;have A:=S.leftR _ (qg a);have b:left[i].toNat<ii (bn known vals l):=i4
  have z:(bn known vals l).getD left[i].toNat ([],[])=(bn known vals l)[left[i].toNat]:=by rw[qe,qd b];rfl
  rw[z];have s:=q _ (qg b);have f:=pB S.pinv S.eqs _ (qg b);unfold Sat at s⊢;rw[<-s];exact kO λc o=>(m c (f.cY c o).1 (f.cY c o).2).symm
 ·obtain⟨d,rfl⟩:∃d,i=ii left+d:=⟨i-ii left,i4⟩
  have u:d<ii ahead:=i4
  have g:aE (dH n dead.length (bn known vals l) W left ahead) (ii left+d)=gY W ahead[d] (aM dead.length) n:=by rw[bE m7];simp[dH]
  have h:aE (fK n w (bn known vals l) M left ahead) (ii left+d)=gY M ahead[d] (aM w) n:=by rw[bE p5];simp[fK]
  rw[g,h];refine(S.Qz _ t k _).2 ?_;rw[<-v _ (qg u)];exact ga n (λ_ _=>rfl) λc o=>(m (c:Int) i4 i4).symm
theorem ry(S:gX n w l ahead known vals dead left W M):bc dead.length (dH n dead.length (bn known vals l) W left ahead)/\bc w (fK n w (bn known vals l) M left ahead):=by
 have d:∀i∈left,jf n w ((bn known vals l).getD i.toNat ([],[])):=λi b=>by
  have h:=S.leftR i b;have e:i.toNat<ii (bn known vals l):=i4
  rw[qe,qd e];exact pB S.pinv S.eqs _ (qg e)
 constructor
 ·intro r a;rcases qA.1 a with a|a
  ·obtain⟨i,b,rfl⟩:=qu.1 a;exact ko k8 λc f=>((S.lens.2.2 c.toNat) (by have:=(d i b).cY c f;omega)).1
  ·obtain⟨x,g,rfl⟩:=qu.1 a;exact my x k8 λi b=>(S.lens.2.2 i b).1
 ·intro r a;rcases qA.1 a with a|a
  ·obtain⟨i,b,rfl⟩:=qu.1 a;exact ko (d i b).len λc f=>((S.lens.2.2 c.toNat) (by have:=(d i b).cY c f;omega)).2
  ·obtain⟨x,g,rfl⟩:=qu.1 a;exact my x k8 λi b=>(S.lens.2.2 i b).2
theorem BU:ii (dH n dead.length (bn known vals l) W left ahead)=ii (fK n w (bn known vals l) M left ahead):=by simp[dH,fK]
theorem gX.OZ(S:gX n w l ahead known vals dead left W M)(Q:1<=w)(f:ce (dI n l ahead)=n):ce (dH n dead.length (bn known vals l) W left ahead)=ii dead:=by
 obtain⟨G,Y⟩:=ry S;have J:=lQ G;by_cases E:ce (dH n dead.length (bn known vals l) W left ahead)<ii dead
 ·exfalso;obtain⟨y,⟨i,b,X⟩,O⟩:=kernel G E;have p:=S.up (t:=0) (k:=0) (y:=y) Q λi b=>by rw[O _ (mem_row b),Gf.zero_mul]
  have H:=BR (l:=l) S.ahd;have u:bc 1 (qh (dI n l ahead).length (aM 1)):=λr f=>by rw[(w7.1 f).2];simp[aM]
  have d:ii (dI n l ahead)=ii (qh (dI n l ahead).length (aM 1)):=i9
  have I:fI n 1 (dI n l ahead) (qh (dI n l ahead).length (aM 1)) (qh n (aM 1)):=by
   have a:bc 1 (qh n (aM 1)):=λr f=>by rw[(w7.1 f).2];simp[aM]
   refine⟨i9,a,λi b=>?_⟩;refine eK (n:=1) (iS a i9 _ n (qm _)) (cB u j7) λk K=>?_;rw[ic a i9 _ k n (qm _)];have z:aE (qh (dI n l ahead).length (aM 1)) i=aM 1:=by rw[bE j7];simp
   rw[z,cC];have:∀g,g<=n->bW (λj=>aQ (aE (dI n l ahead) i) j) (λc=>aQ (aE (qh n (aM 1)) c) k) g=0:=by
    intro g
    induction g with
    |zero=>intro _;rfl
    |succ g ih=>
     intro N;have L:aE (qh n (aM 1)) g=aM 1:=by rw[bE i7];simp
     rw[bW,ih i4,L,cC,Gf.mul_zero];rfl
   exact this n (qm _)
  have R:fI n 1 (dI n l ahead) (qh (dI n l ahead).length (aM 1)) ((qy n).map λc:Nat=>[ev 0 0 dead.length W M y (c:Int)]):=by
   have a:bc 1 ((qy n).map λc:Nat=>[ev 0 0 dead.length W M y (c:Int)]):=λr f=>by obtain⟨c,_,rfl⟩:=qu.1 f;rfl
   have o:∀c:Nat,c<n->aE ((qy n).map λc:Nat=>[ev 0 0 dead.length W M y (c:Int)]) c=[ev 0 0 dead.length W M y (c:Int)]:=λc q=>by rw[bE qs];simp
   refine⟨i9,a,λi b=>?_⟩;refine eK (n:=1) (iS a i9 _ n (qm _)) (cB u j7) λk K=>?_;have B:k=0:=i4
   subst B;rw[ic a i9 _ 0 n (qm _)];have z:aE (qh (dI n l ahead).length (aM 1)) i=aM 1:=by rw[bE j7];simp
   rw[z,cC];have P:bW (λj=>aQ (aE (dI n l ahead) i) j) (λc=>aQ (aE ((qy n).map λc:Nat=>[ev 0 0 dead.length W M y (c:Int)]) c) 0) n=bW (λj=>aQ (aE (dI n l ahead) i) j) (λc=>ev 0 0 dead.length W M y (c:Int)) n:=
    ga n (λ_ _=>rfl) λc q=>by rw[o c q];rfl
   rw[P];have A:aE (dI n l ahead) i∈ahead++l.map λe=>gw n e.1:=mem_row b;obtain F|F:=qA.1 A
   ·exact p.2 _ F
   ·obtain⟨e,s,v⟩:=qu.1 F;rw[<-v,EL _ (S.eqs e s).cY (S.eqs e s).nodup];have x:=p.1 e s;unfold Sat at x;rw[Gf.zero_mul]at x;refine Eq.trans (kO λc q=>?_) x;have:=(S.eqs e s).cY c q;rw[show((c.toNat:Nat):Int)=c by omega]
  have V:=(mw d H u f I).1;have T:=(mw d H u f R).1;have D:=T.trans V.symm;have U:=S.deadR _ (qg b);have h:=congrArg (λm=>aQ (aE m dead[i].toNat) 0) D;rw[bE i7,bE i7]at h;simp only[List.getElem_map,List.getElem_range,List.getElem_replicate,cC]at h;rw[show((dead[i].toNat:Nat):Int)=dead[i]by omega]at h;have h8:aQ [ev 0 0 dead.length W M y dead[i]] 0=ev 0 0 dead.length W M y dead[i]:=rfl;rw[h8,S.evDead 0 0 y i b]at h;exact X h
 ·omega
theorem Pe(S:gX n w l ahead known vals dead left W M){D:aP}(j:ii D=ii dead)(f:bc w D){c:Nat}(d:c<n):
  (aE (Ay dead.length known vals W M D) c).length=w/\∀k,aQ (aE (Ay dead.length known vals W M D) c) k=ev 1 k dead.length W M (λi=>aQ (aE D i) k) (c:Int):=by
 have g:=S.pinv.vlen;have a:aE (Ay dead.length known vals W M D) c=if known.getD c eR then aE vals c else gY D (aE W c) (aE M c) dead.length:=by unfold Ay;rw[EK i4]
 have e:=S.lens.2.2 c d;rw[a];cases hkn:known.getD c eR with
 |true=>
  rw[f9 rfl];refine⟨by have:=S.pinv.row c d;rw[hkn]at this;simpa using this,λk=>?_⟩;have:=S.evKnown 1 k (λi=>aQ (aE D i) k) (c:Int) i4 i4 (by unfold kn;rw[ql];exact hkn);rw[this,ql,Gf.one_mul]
 |false=>
  rw[g0 i9];have b:∀i,i<ii dead->ii (aE D i)=w:=λi h=>cB f;refine⟨my _ e.2 b,λk=>?_⟩;rw[Lr _ e.2 k b];unfold ev;rw[ql,Gf.one_mul,vm]
theorem ahl(h:ii vals=n){D:aP}:ii (Ay dead.length known vals W M D)=n:=by simp[Ay,h]
theorem gX.Zf(S:gX n w l ahead known vals dead left W M){D:aP}(s:fI dead.length w (dH n dead.length (bn known vals l) W left ahead) (fK n w (bn known vals l) M left ahead) D):fI n w (dI n l ahead) (iE w l ahead) (Ay dead.length known vals W M D):=by
 obtain⟨d,b,g⟩:=s;obtain⟨u,v⟩:=ry S;have f:=ahl (dead:=dead) (known:=known) (W:=W) (M:=M) S.pinv.vlen (D:=D);refine(EM S.eqs).2 ⟨f,λr h=>?_,λk o=>?_⟩
 ·obtain⟨c,a,rfl⟩:=fk h;exact(Pe S d b i4).1
 ·have j:=S.up (t:=1) (k:=k) (y:=λi=>aQ (aE D i) k) o λi q=>by
   have:=congrArg (λr=>aQ r k) (g i q);rw[ic b d _ k dead.length (qm _)]at this;rw[this,Gf.one_mul]
  refine⟨λe m=>?_,λr h=>?_⟩
  ·have h3:=j.1 e m;unfold Sat at h3⊢;rw[<-h3];refine kO λc a=>?_;have p:=(S.eqs e m).cY c a;unfold at_;rw[(Pe S d b (show c.toNat<n by omega)).2 k,show((c.toNat:Nat):Int)=c by omega]
  ·rw[<-j.2 r h];exact ga n (λ_ _=>rfl) λc a=>(Pe S d b a).2 k
theorem gX.We(S:gX n w l ahead known vals dead left W M){X:aP}(q:fI n w (dI n l ahead) (iE w l ahead) X):fI dead.length w (dH n dead.length (bn known vals l) W left ahead) (fK n w (bn known vals l) M left ahead) (dead.map λc=>aE X c.toNat):=by
 obtain⟨u,o,g⟩:=(EM S.eqs).1 q;obtain⟨s,p⟩:=ry S;have e:bc w (dead.map λc=>aE X c.toNat):=λr d=>by
  obtain⟨c,m,rfl⟩:=qu.1 d;have:=S.deadR c m;exact cB o
 have a:ii (dead.map λc=>aE X c.toNat)=ii dead:=i9
 refine⟨a,e,λi h=>eK (n:=w) (iS e a _ _ (qm _)) (cB p (by rw[<-BU (n:=n) (w:=w)];exact h)) λk b=>?_⟩;rw[ic e a _ k dead.length (qm _)];have h3:=(S.down (t:=1) (x:=at_ X k) b (g k b).1 (λr d=>by
  have:=(g k b).2 r d;rw[<-this];exact ga n (λ_ _=>rfl) λc m=>by unfold at_;rw[ql])).2 i h
 rw[Gf.one_mul]at h3;rw[<-h3];refine ga _ (λ_ _=>rfl) λj f=>?_;unfold at_;rw[bE p7,qe,qd f];simp
end
def iA(known:List Bool)(i:Nat):ct:=((qy i).filter λc=>known.getD c eR).map λc:Nat=>[(c:Int)]
theorem Pf(known:List Bool)(i:Nat):iA known (i+1)=iA known i++if known.getD i eR then[[(i:Int)]]else[]:=by unfold iA;rw[List.range_succ,List.filter_append,List.map_append];cases h:known.getD i eR<;>simp only[zq,h,List.filter_nil]<;>rfl
theorem FN(known:List Bool)(i:Nat):ii (iA known i)<=i:=by unfold iA;rw[qz];exact zf (qR _ _) i9
def rowsOf(R:List fv)(known:List Bool)(n:Nat):ct:=R.map qH++iA known n
def gU(R:List fv)(known:List Bool)(n:Nat):Pl:=dN n (rowsOf R known n)
def nT(R:List fv)(known:List Bool)(n:Nat):List (Int×Int):=(gU R known n).steps.filter λx=>decide (x.1<ii R)
def leftOf(R:List fv)(known:List Bool)(n:Nat):aC:=(fJ (gU R known n).used (rowsOf R known n).length).filter λx=>decide (x<ii R)
theorem BV{known:List Bool}{n:Nat}{r:aC}(h:r∈iA known n):∃c:Nat,r=[(c:Int)]/\c<n/\known.getD c eR=eL:=by obtain⟨c,a,rfl⟩:=qu.1 h;rw[qI,qJ]at a;exact⟨c,i0,a.1,a.2⟩
theorem HJ{rows:ct}:∀{d:List (Int×Int)} {D U:Int->Prop},ue rows D U d->∀i c,(i,c)∈d->(0<=i/\i<ii rows)/\c∈rows.getD i.toNat []
 |[],_,_,_,_,_,h=>j6
 |(i',c')::t,D,U,hg,i,c,h=>by
  obtain⟨e,_,_,f,_,g⟩:=hg;rcases zb.1 h with h|h
  ·injection h with a b;subst a;subst b;exact⟨e,f⟩
  ·exact HJ g i c h
section
variable {n w:Nat} {l:List fv} {ahead:aP} {known:List Bool} {vals:aP}
theorem yu(f:∀e∈bn known vals l,jf n w e):∀r∈rowsOf (bn known vals l) known n,∀c∈r,0<=c/\c<(n:Int):=λr a c b=>by
 rcases qA.1 a with a|a
 ·obtain⟨e,g,rfl⟩:=qu.1 a;exact(f e g).cY c b
 ·obtain⟨d,rfl,h,_⟩:=BV a;rw[qC]at b;subst b;omega
theorem QA(m:∀e∈l,jf n w e)(f:kp n w l known vals):uf ((bn known vals l).map qH) (·∈(gU (bn known vals l) known n).dead) (nT (bn known vals l) known n):=by
 have h:=pB f m;obtain⟨_,_,_,_,_,g⟩:=Ax (yu h);have:=CD (R:=(bn known vals l).map qH) (S:=iA known n) (K:=λc=>kn known c=eL) (λr b c a=>?_) (λr b c a=>?_) g (D':=(·∈(gU (bn known vals l) known n).dead)) λc _=>Iff.rfl
 ·rw[qz]at this;exact this
 ·obtain⟨e,o,rfl⟩:=qu.1 b;obtain⟨i,k,rfl⟩:=qu.1 (qI.1 o).1;rw[HB f i c a];simp
 ·obtain⟨d,rfl,_,j⟩:=BV b;rw[qC]at a;subst a;unfold kn;rw[ql];exact j
theorem MK(m:∀e∈l,jf n w e)(j:kp n w l known vals):
  (∀c∈(gU (bn known vals l) known n).dead,0<=c/\c<(n:Int))/\(gU (bn known vals l) known n).dead.Nodup/\(∀c∈(gU (bn known vals l) known n).dead,kn known c=eR)/\
  (∀i∈leftOf (bn known vals l) known n,0<=i/\i<(ii (bn known vals l):Int))/\(gU (bn known vals l) known n).dead.length<=n:=by
 have o:=pB j m;obtain⟨r,q,a3,a4,a5,g⟩:=Ax (yu o);refine⟨a3,a4,λc h=>?_,λi a=>?_,by unfold gU;omega⟩
 ·have b:=a3 c h;cases hk:kn known c with
  |false=>rfl
  |true=>
   exfalso;have f:[c]∈rowsOf (bn known vals l) known n:=qA.2 (.inr (qu.2 ⟨c.toNat,qI.2 ⟨qJ.2 i4,hk⟩,by rw[show((c.toNat:Nat):Int)=c by omega]⟩));exact EI f n (qh n eL) (qh _ eR) (λi a=>by rw[HE]at a;cases a) (λd p f=>by have:=a3 d f;omega) b.1 h
 ·unfold leftOf at a;rw[qI]at a;have:=a5 i a.1;have k:i<(ii (bn known vals l):Int):=by simpa using a.2
  exact⟨this.1,k⟩
theorem aeD(p:∀e∈l,jf n w e)(o:kp n w l known vals){c:Int}(u:0<=c)(t:c<(n:Int))(b:kn known c=eR):c∈(gU (bn known vals l) known n).dead∨∃i,(i,c)∈nT (bn known vals l) known n:=by
 have j:=pB o p;obtain⟨_,_,_,_,_,g⟩:=Ax (yu j);have a:=HI (yu j) n (qh n eL) (qh (rowsOf (bn known vals l) known n).length eR) i9 i9 c.toNat (by rw[qe,qd i7];simp);rw[show((c.toNat:Nat):Int)=c by omega]at a;rcases a with a|⟨i,a⟩
 ·exact .inl a
 ·refine .inr ⟨i,qI.2 ⟨a,?_⟩⟩;obtain⟨r,h⟩:=HJ g i c a;by_cases q:i<(ii (bn known vals l):Int)
  ·simpa using q
  ·exfalso;have m:=r.2;rw[rowsOf,qx,qz]at m;have s:(rowsOf (bn known vals l) known n).getD i.toNat []∈iA known n:=by rw[rowsOf,qe,qj oi,qd oi];exact qg _
   obtain⟨d,k,_,f⟩:=BV s;rw[k,qC]at h;subst h;unfold kn at b;rw[ql,f]at b;cases b
def SC(n w:Nat)(known:List Bool)(vals:aP)(R:List fv):aP×aP:=
 iK (gU R known n).dead.length known vals ((nT R known n).foldl (ik R (gU R known n).dead.length) (gb n (gU R known n).dead.length w (gU R known n).dead))
theorem aeE{nd:Nat}{s:aP×aP}{c:Int}(d:0<=c)(b:c.toNat<ii s.1)(a:c.toNat<ii s.2):
  aE (iK nd known vals s).1 c.toNat=(if kn known c then aM nd else aE s.1 c.toNat)/\aE (iK nd known vals s).2 c.toNat=if kn known c then aE vals c.toNat else aE s.2 c.toNat:=by
 unfold iK kn;exact⟨EK b,EK a⟩
theorem aeF(G:∀e∈l,jf n w e)(hA:bc n ahead)(u:kp n w l known vals)(S:kP known vals l=eR):
  gX n w l ahead known vals (gU (bn known vals l) known n).dead (leftOf (bn known vals l) known n) (SC n w known vals (bn known vals l)).1 (SC n w known vals (bn known vals l)).2:=by
 have H:=pB u G;have V:=QA G u;have a:=λc h0 f o=>aeD (c:=c) G u h0 f o;obtain⟨J,O,P,f4,f5⟩:=MK G u;have b:∀j:Nat,j<ii (bn known vals l)->(∃c,((j:Int),c)∈nT (bn known vals l) known n)∨(j:Int)∈leftOf (bn known vals l) known n:=λj Q=>by
  cases hu:(gU (bn known vals l) known n).used.getD j eR with
  |true=>
   rcases HG n (qh n eL) (qh _ eR) j hu with h|⟨c,h⟩
   ·rw[HE]at h;cases h
   ·exact .inl ⟨c,qI.2 ⟨h,i7⟩⟩
  |false=>exact .inr (qI.2 ⟨(EH _ _ _).2 ⟨j,i0,by rw[rowsOf,qx,qz];omega,hu⟩,i7⟩)
 have s:∀e∈bn known vals l,∀c∈e.1,kn known c=eR:=λe A c N=>by
  obtain⟨e0,ab,rfl⟩:=qu.1 (qI.1 A).1;exact HB u e0 c N
 unfold SC;obtain⟨R,m⟩:∃R,R=bn known vals l:=⟨_,rfl⟩
 rw[<-m]at H V J O P f4 f5 b a s⊢;obtain⟨D,X⟩:∃D,D=(gU R known n).dead:=⟨_,rfl⟩
 obtain⟨ST,q⟩:∃ST,ST=nT R known n:=⟨_,rfl⟩
 rw[<-X,<-q]at V a;rw[<-q]at b;rw[<-X]at J O P f5;rw[<-X,<-q];obtain⟨dk,Z⟩:=Pd (nd:=ii D) (w:=w) J O D.length (qm _);rw[List.take_length]at dk Z;obtain⟨z,keep,W,L⟩:=Lq H V dk;generalize ad:ST.foldl (ik R D.length) (gb n D.length w D)=S0 at*;have T:=z.wl;have U:=z.ml;have fr:∀c:Int,0<=c->c<(n:Int)->aE (iK D.length known vals S0).1 c.toNat=(if kn known c then aM D.length else aE S0.1 c.toNat)/\aE (iK D.length known vals S0).2 c.toNat=if kn known c then aE vals c.toNat else aE S0.2 c.toNat:=λc h0 f=>aeE h0 i4 i4
 have v:∀t k y (c:Int),0<=c->c<(n:Int)->kn known c=eR->ev t k D.length (iK D.length known vals S0).1 (iK D.length known vals S0).2 y c=ev t k D.length S0.1 S0.2 y c:=λt k y c h0 f o=>by
  have:=fr c h0 f;rw[o]at this;exact EJ this.1 this.2
 have F:∀t k y (c:Int),0<=c->c<(n:Int)->kn known c=eL->ev t k D.length (iK D.length known vals S0).1 (iK D.length known vals S0).2 y c=Gf.mul t (aQ (aE vals c.toNat) k):=λt k y c h0 f o=>by
  have:=fr c h0 f;rw[o,f9 rfl,f9 rfl]at this;unfold ev;rw[this.1,this.2,fU _ _ D.length λj _=>cC _ _,wx]
 have I:∀t k y i,(h:i<ii D)->ev t k D.length (gb n D.length w D).1 (gb n D.length w D).2 y D[i]=y i:=λt k y i h=>by
  have:=Z i h h;unfold ev;rw[this.1,this.2,aeC h,cC,Gf.mul_zero,zU]
 have E:∀i:Int,0<=i->i<(ii R:Int)->R.getD i.toNat ([],[])∈R:=λi h0 f=>by
  rw[qe,qd i4];exact qg _
 refine⟨G,hA,u,S,J,O,P,⟨by simp[iK,T],by simp[iK,U],λc N=>?_⟩,F,λt k y i h=>?_,λt k y o K e A=>?_,by rw[<-m];exact f4,λt k x o hx K c h0 f=>?_⟩
 ·have h:=fr (c:Int) i4 i4;rw[ql]at h;rw[h.1,h.2];cases o:kn known (c:Int)with
  |true=>
   rw[f9 i0,f9 rfl];refine⟨k8,?_⟩;have:=u.Hz (c:=(c:Int)) i4 i4 o
   rwa [ql]at this
  |false=>
   rw[g0 i9,g0 i9];have:=z.rw_ (c:Int) (a _ i4 i4 o) i4 i4
   rwa [ql]at this
 ·have M:=J _ (qg h);rw[v t k y _ M.1 M.2 (P _ (qg h)),<-I t k y i h];exact EJ (keep _ (qg h) M.1).1 (keep _ (qg h) M.1).2
 ·rw[<-m]at A K;obtain⟨j,Q,rfl⟩:=qK A;have Y:R.getD ((j:Int)).toNat ([],[])=R[j]:=by rw[ql,qe,qd Q];rfl
  rcases b j Q with⟨c,N⟩|hlf
  ·have:=W _ N t k y o;dsimp only at this;rw[Y]at this;unfold Sat at this⊢;rw[<-this];exact kO λd B=>v t k y d ((H _ A).cY d B).1 ((H _ A).cY d B).2 (s _ A d B)
  ·have:=K _ hlf
   rwa [Y]at this
 ·rw[<-m]at K;cases hkc:kn known c with
  |true=>rw[hx c h0 f hkc,F _ _ _ c h0 f hkc]
  |false=>
   rw[v _ _ _ c h0 f hkc];refine L t k x _ o (λd B h2 h3=>?_) (λp hp=>?_) c (a c h0 f hkc) h0 f
   ·obtain⟨i,hi,rfl⟩:=qK B;rw[I t k _ i hi,qe,qd hi];rfl
   ·have r:p∈nT R known n:=q▸hp;unfold nT at r;rw[qI]at r;have h2:p.1<(ii R:Int):=by simpa using r.2
    have h3:0<=p.1:=by obtain⟨_,_,_,_,_,g⟩:=Ax (rows:=rowsOf R known n) (n:=n) (by rw[m];exact yu (m▸H));exact(HJ g p.1 p.2 r.1).1.1
    exact K _ (E _ h3 h2)
end
def xI(n:Nat)(seed:Int)(l:List (Int×Row)):List fv:=l.map λx=>(dz n seed x.1,x.2)
def sY(p:Int×Int×Int)(l:List (Int×Row)):aP:=qh p.2.1.toNat (aM p.2.2.toNat)++l.map zJ
structure BW (p:Int×Int×Int) (x:Int×Row):Prop where
 id:bZ x.1=eL
 len:ii x.2=p.2.2.toNat
theorem ahm{n:Nat}(d:1<=n)(c:n<=20)(seed id:Int):(dz n seed id).Pairwise (·<·):=by have a:=VY n seed id;have b:=Ez d c seed id;rw[List.Nodup]at b;exact(a.and b).imp λ⟨d,c⟩=>i4
section
variable {p:Int×Int×Int} {seed:Int} {l:List (Int×Row)} {n w:Nat}
theorem aiz(b:1<=n)(a:n<=20)(h:∀x∈l,BW p x)(f:p.2.2.toNat=w):∀e∈xI n seed l,jf n w e/\e.1.Pairwise (·<·):=λe i=>by
 obtain⟨x,d,rfl⟩:=qu.1 i;exact⟨⟨λc g=>nk b a g,Ez b a seed x.1,by rw[<-f];exact(h x d).len⟩,ahm b a seed x.1⟩
theorem Zg(d:bP p=eL)(e:(bK p).toNat=n)(c:∀x∈l,BW p x):dI n (xI n seed l) (bG p.1.toNat p.2.1.toNat)=dR p seed (l.map qH):=by
 unfold dI dR xI;rw[f9 d,e];have:(l.map qH).filter bZ=l.map qH:=zX.2 λi a=>by
  obtain⟨x,b,rfl⟩:=qu.1 a;exact(c x b).id
 rw[this,w6,w6];rfl
theorem Zh(a:p.2.2.toNat=w):iE w (xI n seed l) (bG p.1.toNat p.2.1.toNat)=sY p l:=by unfold iE sY xI;rw[a,w6];simp[bG]
end
section
variable {n w:Nat} {l:List fv} {ahead:aP} {known:List Bool} {vals:aP} {dead left:aC} {W M:aP}
theorem abB(c:∀e∈l,jf n w e)(f:bc n ahead)(h:kp n w l known vals)(a:kP known vals l=eL)(j:ce (dI n l ahead)=n):¬lI n (dI n l ahead) (iE w l ahead):=λi=>by
 obtain⟨k,g,b⟩:=Zd h c a;have d:=rp xZ (BR f) (BS c) j i;exact b _ (((EM c).1 d).2.2 k g).1
theorem gX.XS(S:gX n w l ahead known vals dead left W M)(b:ce (dI n l ahead)=n){D:aP}(a:fI dead.length w (dH n dead.length (bn known vals l) W left ahead) (fK n w (bn known vals l) M left ahead) D):
  lI n (dI n l ahead) (iE w l ahead)/\Ay dead.length known vals W M D=gp n (dI n l ahead) (iE w l ahead):=by
 have h:=mw xZ (BR S.ahd) (BS S.eqs) b (S.Zf a);exact⟨h.2,h.1⟩
theorem gX.XT(S:gX n w l ahead known vals dead left W M)(b:ce (dI n l ahead)=n)(a:lI n (dI n l ahead) (iE w l ahead)):fI dead.length w (dH n dead.length (bn known vals l) W left ahead) (fK n w (bn known vals l) M left ahead) (dead.map λc=>aE (gp n (dI n l ahead) (iE w l ahead)) c.toNat):=
 S.We (rp xZ (BR S.ahd) (BS S.eqs) b a)
theorem gX.Zi(S:gX n w l ahead known vals dead left W M)(f:1<=w)(c:ce (dI n l ahead)=n):lI dead.length (dH n dead.length (bn known vals l) W left ahead) (fK n w (bn known vals l) M left ahead)↔lI n (dI n l ahead) (iE w l ahead):=by obtain⟨d,e⟩:=ry S;have a:=S.OZ f c;exact⟨λb=>(S.XS c (rp BU d e a b)).1,λb=>(mw BU d e a (S.XT c b)).2⟩
theorem ML{a b:aP}(h:ii a=ii b):fI 0 w a b []↔∀r∈b,r=aM w:=by
 unfold fI;constructor
 ·rintro⟨_,_,h3⟩ r c;obtain⟨i,d,rfl⟩:=fk c;exact(h3 i i4).symm
 ·intro e;refine⟨i0,λr c=>(by cases c),λi d=>?_⟩;have:aE b i∈b:=mem_row;rw[e _ this];rfl
theorem ahn(d:∀e∈l,e.1.Pairwise (·<·)):∀e∈bn known vals l,e.1.Pairwise (·<·):=λe b=>by
 obtain⟨c,a,rfl⟩:=qu.1 (qI.1 b).1;exact(d c a).filter _
theorem abC:ii (bn known vals l)<=ii l:=by unfold bn;refine zf (qR _ _) ?_;simp
theorem abD{m:Nat}(d:∀e∈l,ii e.1<=m):∀e∈bn known vals l,ii e.1<=m:=λe b=>by
 obtain⟨c,a,rfl⟩:=qu.1 (qI.1 b).1;exact zf (qR _ _) (d c a)
end
open Go
end Wl
namespace Go.Vc
open Go
section
variable {B:aD} {α:Type} {C:Ctx} {h0 h:Heap} {As:List HP} {e t t2 k by_:Nat} {s:Sl} {f:α->bg} {d:List α} {z:bg}
theorem Own.Ph(w:C.Ok)(E:bY C.toDi t e k z by_)(I:∃i r,C.T.get t2=dB i/\i.cZ=.slice r)(l:∀x,ii (f x)=k)
  (n:Own h e s k f d) (m:∀x,∀c∈f x,c.oneCell'=eL) (i:Nat) (J:i<ii d) {ty:Nat} {K:Sl->Heap->Prop}
  (G:∀h',Own h' e s k f ((d.take i++d.drop (i+1))++d.drop (ii d-1))->be (λb=>¬s.on b) h h'->K ⟨s.ptr,ii d-1,s.cap⟩ h'):
  aB C.P (qt #[t,t2] ty #[.slice s.ptr i s.cap,.slice (if s.cap=i+1 then s.ptr else s.ptr.map (·.add ((i+1)*k))) (s.len-(i+1)) (s.cap-(i+1))]) (.one (.sc .slc)) h K:=by
 obtain⟨Q,r,N,F⟩:=I;have A:C.P.underlying t2=dB (.slice r):=by have:=w.cZ N;rw[F]at this;exact jN this
 have D:=n.len;have j:=n.cap;have B:Seq h (λ_=>True) ⟨if s.cap=i+1 then s.ptr else s.ptr.map (·.add ((i+1)*k)),s.len-(i+1),s.cap-(i+1)⟩ k f (d.drop (i+1)):=Seq.drop (n.seq l λ_ _=>trivial) (i+1) j;obtain⟨v,a⟩:∃v:Sl,v=⟨if s.cap=i+1 then s.ptr else s.ptr.map (·.add ((i+1)*k)),s.len-(i+1),s.cap-(i+1)⟩:=⟨_,rfl⟩
 rw[<-a]at B;have O:(Value.slice (if s.cap=i+1 then s.ptr else s.ptr.map (·.add ((i+1)*k))) (s.len-(i+1)) (s.cap-(i+1)))=.slice v.ptr v.len v.cap:=by rw[a]
 have H:v.len=s.len-(i+1):=by rw[a]
 rw[O];unfold aB qt;simp only[zV,List.getElem?_cons_zero,List.getElem?_cons_succ];refine ag.bind (ag.always (aW (E.under w)) ?_);refine ag.bind (ag.always (E.size w) ?_);refine ag.bind (ag.always (aW A) ?_);refine ag.bind (ag.pure' ?_);simp only[zj,if_false,ye,if_true];refine ag.bind (ag.pure' ?_);have g:i+v.len<=s.cap:=i4
 rw[f9 g];refine ag.bind (gP l B ?_);rcases n.head with⟨p1,p2,p3⟩|⟨b,rest,p1,p2,p3,p4⟩
 ·subst p3;simp at J
 ·rw[p1];refine ag.bind ?_;rw[add_eq,wk];have o:d=d.take i++((d.drop i).take (ii d-1-i)++d.drop (ii d-1)):=by
   have M:(d.drop i).drop (ii d-1-i)=d.drop (ii d-1):=by rw[List.drop_drop];congr 1;omega
   rw[<-M,qE,qE]
  have y:((d.drop i).take (ii d-1-i)).length=ii d-1-i:=i7
  have p:ii (d.drop (i+1))=ii d-1-i:=i7
  refine fC (e:=e) (pre:=(d.take i).flatMap f) (old:=((d.drop i).take (ii d-1-i)).flatMap f) (post:=(d.drop (ii d-1)).flatMap f++rest) ?_ ?_ ?_ ?_ ?_
  ·have:(d.take i).flatMap f++((d.drop i).take (ii d-1-i)).flatMap f++((d.drop (ii d-1)).flatMap f++rest)=d.flatMap f++rest:=by
    conv=>rhs;rw[o]
    simp only[zd,qp]
   rw[this];exact p2
  ·rw[dL l,dL l,y,p]
  ·rw[dL l,q8,Nat.min_eq_left i4];omega
  ·intro c L;obtain⟨x,_,u⟩:=zP.1 L;exact m x c u
  ·have q:i+v.len=ii d-1:=i4
   rw[q];refine ag.pure' ⟨⟨dB ⟨b,0,none⟩,ii d-1,s.cap⟩,i0,?_⟩;rw[<-p1];refine G _ ⟨?_,.inr ⟨b,rest,p1,?_,p3,p4⟩⟩ ?_
   ·simp;omega
   ·rw[iR p2,f9 rfl];simp[zd]
   ·exact be.kf p2 (λq=>q ⟨0,p1⟩)
theorem aa.Ph(u:C.Ok)(H:aa B h0 h As)(j:Nat)(m:As[j]?=dB (ak e s k f d))(A:bY C.toDi t e k z by_)(r:∃i p,C.T.get t2=dB i/\i.cZ=.slice p)(w:∀x,ii (f x)=k)
  (a:∀x,∀c∈f x,c.oneCell'=eL) (i:Nat) (v:i<ii d) {ty:Nat} {K:Sl->Heap->Prop}
  (o:∀h',aa B h0 h' (As.set j (ak e s k f ((d.take i++d.drop (i+1))++d.drop (ii d-1))))->K ⟨s.ptr,ii d-1,s.cap⟩ h'):
  aB C.P (qt #[t,t2] ty #[.slice s.ptr i s.cap,.slice (if s.cap=i+1 then s.ptr else s.ptr.map (·.add ((i+1)*k))) (s.len-(i+1)) (s.cap-(i+1))]) (.one (.sc .slc)) h K:=
 (H.own j m).Ph u A r w a i v λh' x y=>o h' (H.step j m λq n _=>⟨y.mono λb _ g l=>g (n.2 b l),x,λb g=>⟨x.lt g,.inl (n.2 b g)⟩⟩)
end
section
variable {P:Program}
structure aky (P:Program) (t it:TypeId):Prop where
 u:∃f0 f1 f2:Field,P.underlying t=dB (.struct #[f0,f1,f2])/\f0.name≠ "_" /\f1.name≠ "_" /\f2.name≠ "_" /\f0.type=it/\f1.type=it/\f2.type=it/\f0.offset=0/\f1.offset=1/\f2.offset=2
 st:P.stoodInHeld t=eR
 i:P.underlying it=dB (.int .i64)
 a:aN P (isAgg it) eR
abbrev k3v(x:Int×Int×Int):Value:=.agg #[xq xx x.1,xq xx x.2.1,xq xx x.2.2]
structure akz (h:Heap) (r:Nat) (ks:List (Int×Int×Int)):Prop where
 ex:∃es clock,h[r]?=dB (.map es clock)/\es.toList.map (λe=>(e.key,e.val))=ks.map (λk=>(k3v k,Value.bool eL))
end
section
variable {C:Ctx} {t t2 e k:Nat} {z:bg} {by_:Nat} {α:Type} {h h0:Heap} {p q B:aD} {s v:Sl} {f:α->bg} {l l2:List α} {As:List HP}
end
section
variable {C:Ctx} {t e k:Nat} {z:bg} {by_:Nat} {h:Heap} {s:Sl}
end
open Go Go.RowKit Go.ChangeShapes Go.WideShapes Go.Joins Go.Deep
section
variable {H:Type} {enc:TypeId×Value->H} {P:Program} {W W':World}
theorem aeG{w c:World}(a:dE w c)(e:be (λb=>b<w.heap.size) w.heap c.heap):Below w.heap.size w c:=
 ⟨a.os,a.tape,a.output,e.1,λk d=>e.2 k d d⟩
theorem FO(i:laidOutB P=eL)(g:Below W.heap.size W W'):∀{c:List TypeId} {vs:bg} {ds:List (DataW H)} {a:List MemPlace},
  (∀t∈c,P.readableRec t=eL/\t<P.types.size)->DataW.TrodAll enc P W 0 (λ_=>eL) eL c vs ds a->(∀x∈a,x.block<W.heap.size)->DataW.TrodAll enc P W' 0 (λb=>decide (b<W.heap.size)) eL c vs ds a
 |[],[],[],a,_,h,_=>h
 |t::c,v::vs,d::ds,a,hr,⟨p,q,h1,h2,e⟩,hlt=>by
  subst e;exact⟨p,q,Below.trod i (hr t i9).1 (hr t i9).2 h1 g λx f=>hlt x pb,FO i g (λu j=>hr u (by simp[j])) h2 λx f=>hlt x pb,i0⟩
 |[],_::_,_,_,_,h,_=>h.elim
 |[],[],_::_,_,_,h,_=>h.elim
 |_::_,[],_,_,_,h,_=>h.elim
 |_::_,_::_,[],_,_,h,_=>h.elim
theorem aeH{f:Func}{s:ChangeSpec}{args:Array Value}{ds:List (DataW H)}{a:List MemPlace}{rt:TypeId}(k:s.vars=[])(e:DataW.Whole enc P f.params.toList s.vars eR W args.toList ds [] a)
  (b:s.fn H (ds++[])={results:=[.lit (.bool eL)],args:=ds}) (m:laidOutB P=eL) (j:Below W.heap.size W W') (n:∀t∈f.params.toList,P.readableRec t=eL/\t<P.types.size)
  (c:f.resultTypes=#[rt]) (d:P.underlying rt=dB .bool):s.post enc P f eR eL eR eR W args (.bool eL) W':=by
 obtain⟨p,q,o,i,h3,r,u⟩:=id e;have g:=e.lt;rw[k]at i;have l:q=[]:=i;subst l;simp only[qO]at h3;subst h3;refine⟨ds,[],a,[],a,[],e,?_,?_,?_,j.frame _,λh=>j6⟩
 ·rw[b,c];exact trodAll_mk1 (shut_bool d eL)
 ·rw[b];exact FO m j n o g
 ·rw[b,k];rfl
theorem Wf(w:World)(a:Addr):w.cell? a=cellOf w.heap a:=rfl
theorem abE{h:Heap}{a:Addr}{v:Value}(c:cellOf h a=dB v):a=⟨a.block,a.off,none⟩:=by
 obtain⟨b,o,s⟩:=a;cases s with
 |none=>rfl
 |some s=>
  unfold cellOf at c;cases hb:h[b]? with
  |none=>rw[hb]at c;cases c
  |some x=>rw[hb]at c;cases x<;>simp at c
theorem aiA{α:Type}{f:α->Value}{h:Heap}{a:Addr}{len cap:Nat}{l:List α}(k:ii l=len)(d:∀i (c:i<ii l),cellOf h (a.add i)=dB (f l[i])):Seq h (λb=>b<h.size) ⟨dB a,len,cap⟩ 1 (λx=>[f x]) l:=by refine⟨k.symm,λi x j=>?_⟩;obtain⟨c,e⟩:=List.getElem?_eq_some_iff.1 j;have h0:=d 0 i4;rw[add_zero]at h0;have g:=abE h0;refine⟨a.block,a.off,by rw[<-g],vM h0,?_,trivial⟩;have:=d i c;rw[g,add_eq]at this;rw[Nat.mul_one,add_eq,Nat.add_zero,this,e]
theorem TS{t e:TypeId}{v:Value}{d:DataW H}{m:List MemPlace}(u:P.underlying t=dB (.slice e))(r:P.underlying e=dB (.int .i64))(q:P.cellsOf e=1)
  (j:∃p n c,v=.slice p n c) (h:DataW.Trod enc P W 0 (λ_=>eL) eL t v d m):∃(s:Sl) (l:aC),v=.slice s.ptr s.len s.cap/\Seq W.heap (λb=>b<W.heap.size) s 1 av l:=by
 obtain⟨g,k⟩:=h;obtain⟨p,n,c,rfl⟩:=j;rcases open_ints u r q k with⟨h1,_⟩|⟨a,len,cap,zs,h1,_,hle,_,hz,_,hcell,_⟩
 ·simp[Value.cells]at h1;obtain⟨rfl,rfl,rfl⟩:=h1;exact⟨⟨none,0,0⟩,[],i0,Seq.nil _ _ _ _ _ _⟩
 ·simp[Value.cells]at h1;obtain⟨rfl,rfl,rfl⟩:=h1;simp only[if_true]at hz;refine⟨⟨dB a,n,c⟩,zs.take n,i0,aiA (f:=λx=>xq xx x) i7 λi o=>?_⟩;simp at o;rw[<-Wf,hcell i i4];simp[qe,qd (show i<ii zs by omega)]
theorem FP{r:_root_.Go.Reach}{a:Nat}{t e:TypeId}{v:Value}(b:P.underlying t=dB (.slice e))(h:Value.okWide P W r a t v):∃p n c,v=.slice p n c:=by simp only[Value.okWide,b,Cell.okWide]at h;cases v<;>simp_all [Cell.ok]
end
section
variable {H:Type} {enc:TypeId×Value->H} {P:Program} {W W':World}
end
end Go.Vc
namespace Go
section
variable {H:Type} {enc:TypeId×Value->H}
end
theorem abF{P:Program}(h:P.funcs.any Func.goes=eR)(f:FuncId):P.goes f=eR:=by
 have a:∀g:FuncId,(P.funcs[g]?).any Func.goes=eR:=λg=>by
  cases hg:P.funcs[g]? with
  |none=>rfl
  |some x=>
   show Func.goes x=eR;obtain⟨b,e⟩:=Array.getElem?_eq_some_iff.1 hg;cases hx:Func.goes x with
   |false=>rfl
   |true=>
    have:P.funcs.any Func.goes=eL:=Array.any_eq_true.2 ⟨g,b,by rw[e];exact hx⟩;rw[h]at this;cases this
 unfold Program.goes;rw[h,Bool.and_false,Bool.or_false];simp only[a];simp
theorem Wg{P:Program}{c:OpenClaim}(h:P.funcs.any Func.goes=eR):c.goesBy P=eR:=by
 have a:∀f,P.goes f=eR:=abF h;unfold OpenClaim.goesBy Program.goesAt Program.goesFrom;have b:(P.funcNamed c.func).any P.goes=eR:=by
  cases P.funcNamed c.func with
  |none=>rfl
  |some f=>exact a f
 have h3:P.inits.toList.any P.goes=eR:=wF.2 λf _=>by rw[a f];exact Bool.false_ne_true
 rw[b,h3];cases c.start<;>rfl
end Go
