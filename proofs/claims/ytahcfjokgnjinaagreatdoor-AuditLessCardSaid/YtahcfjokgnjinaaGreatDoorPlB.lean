/- Lemmas for the proof of the law; no condition. -/
import Derived.Test.YtahcfjokgnjinaaGreatDoorPlA
import Derived.Shelf.SlSortCmp.NoneTotal
import Derived.ProofKit
import Derived.Deep.Matrix
import Derived.Carry
import Derived.Lib.SmallJoins
import Derived.Handed
import Derived.HandedShaped
import Derived.ChangeMaps5
import Derived.SevenTiedAt
set_option linter.unusedVariables false
set_option linter.unusedSimpArgs false
open Option renaming some -> dB
open Bool renaming true -> eR, false -> eS
open List renaming length -> i1
open List renaming mem_take_iff_getElem -> yk, nodup_range -> vS, range -> qA, range' -> zP, range'_succ -> yn, replicate -> qh
open Nat renaming add_sub_cancel -> vg
open Go.Value renaming int -> xq
open Go.IntKind renaming i64 -> xx
open Prod renaming fst -> qI, snd -> zI
open Go.Builtin renaming append_ -> qt
namespace Go.Vc
open Go
abbrev ij:=FloatKind.format .f64
theorem HD{P:Program}{a b c:Nat}(h:ij.add a b=dB c):aP P (Op.Complex.arith .add .f64 a b) c:=λw=>by
 have h':(FloatKind.format .f64).add a b=dB c:=h;unfold Op.Complex.arith Op.floatArith;simp only[h'];rfl
theorem HE{P:Program}{a b c:Nat}(h:ij.sub a b=dB c):aP P (Op.Complex.arith .sub .f64 a b) c:=λw=>by
 have h':(FloatKind.format .f64).sub a b=dB c:=h;unfold Op.Complex.arith Op.floatArith;simp only[h'];rfl
theorem BW{P:Program}{a b c:Nat}(h:ij.mul a b=dB c):aP P (Op.Complex.arith .mul .f64 a b) c:=λw=>by
 have h':(FloatKind.format .f64).mul a b=dB c:=h;unfold Op.Complex.arith Op.floatArith;simp only[h'];rfl
theorem CJ{P:Program}{op:BinOp}(h:op=.add∨op=.sub∨op=.mul)(t:TypeId)(x y:Operand)(a b:Value):aP P (eqGuard op t x y a b) ():=λw=>by
 rcases h with rfl|rfl|rfl<;>rfl
theorem ahw{P:Program}{t:TypeId}{x y:Operand}{a b c d e f:Nat}(h:ij.add a c=dB e)(g:ij.add b d=dB f):kN P .add t x y (.complex .f64 a b) (.complex .f64 c d) (.complex .f64 e f):=
 (CJ (.inl i4) t x y _ _).bind (show aP P (Op.complexOp .add .f64 a b c d) _ from(HD h).bind ((HD g).bind λ_=>rfl))
theorem ahx{P:Program}{t:TypeId}{x y:Operand}{a b c d e f:Nat}(h:ij.sub a c=dB e)(g:ij.sub b d=dB f):kN P .sub t x y (.complex .f64 a b) (.complex .f64 c d) (.complex .f64 e f):=
 (CJ (.inr (.inl i4)) t x y _ _).bind (show aP P (Op.complexOp .sub .f64 a b c d) _ from(HE h).bind ((HE g).bind λ_=>rfl))
theorem ahy{P:Program}{t:TypeId}{x y:Operand}{a b c d e f h j i k:Nat}(m:ij.mul a c=dB h)(p:ij.mul b d=dB j)(h3:ij.sub h j=dB e)(q:ij.mul a d=dB i)(o:ij.mul b c=dB k)(l:ij.add i k=dB f):
  kN P .mul t x y (.complex .f64 a b) (.complex .f64 c d) (.complex .f64 e f):=by
 refine(CJ (.inr (.inr i4)) t x y _ _).bind ?_;have n:aP P (Op.Complex.product a b c d) (e,f):=
  (BW m).bind ((BW p).bind ((HE h3).bind ((BW q).bind ((BW o).bind ((HD l).bind λ_=>rfl)))))
 show aP P (Op.complexOp .mul .f64 a b c d) _;have g:∀x,aP P (Op.Complex.conv .f64 x .f64) x:=λx w=>by unfold Op.Complex.conv;rw[g0 rfl];rfl
 unfold Op.complexOp;refine(g a).bind ((g b).bind ((g c).bind ((g d).bind ?_)));refine aP.bind (v:=(e,f)) ?_ ?_
 ·exact n
 ·exact(g e).bind ((g f).bind λ_=>rfl)
open Go Go.Sort Go.Proofs
theorem ahz{w a:World}(s:dC w a)(h:bc (λb=>b<w.heap.size) w.heap a.heap):∃q c,a=Sort.grow (w.drewN q) c:=by
 refine⟨a.drawn-w.drawn,a.heap.extract w.heap.size a.heap.size,?_⟩;have e:w.heap++a.heap.extract w.heap.size a.heap.size=a.heap:=by
  apply yN;intro i;have o:=h.1;by_cases d:i<w.heap.size
  ·rw[Array.getElem?_append_left d,h.2 i d d]
  ·rw[Array.getElem?_append_right i5,Array.getElem?_extract];by_cases u:i<a.heap.size
   ·rw[g0 i5,show w.heap.size+(i-w.heap.size)=i by omega]
   ·rw[g9 i5,Array.getElem?_eq_none i5]
 obtain⟨r,t,dr,os,out⟩:=w;obtain⟨k,m,n,c,f⟩:=a;obtain⟨l,g,j,p⟩:=s;simp only at l g j p e;subst l;subst g;subst j;simp only[Sort.grow,World.drewN,World.mk.injEq];refine⟨e.symm,trivial,i5,trivial,trivial⟩
theorem QD{α:Type}[Inhabited α]{enc:α->bh}{k:Nat}(b:∀x,i1 (enc x)=k)(l:List α):flatK enc k l.toArray=(l.flatMap enc).toArray:=by
 refine ext_get! (by simp[dK b]) λt j=>?_;have a:t<i1 l*k:=by simpa using j
 have e:0<k:=by
  rcases Nat.eq_zero_or_pos k with h|h
  ·subst h;simp at a
  ·exact h
 rw[get_flatK _ _ _ t j7];have c:t/k<i1 l:=(Nat.div_lt_iff_lt_mul e).2 a;obtain⟨pre,post,n,o⟩:=Le b l (t/k) l[t/k] (qd c);have d:t%k<k:=Nat.mod_lt _ e;have m:t=t/k*k+t%k:=by rw[vJ];exact(Nat.div_add_mod t k).symm
 have g:(l.flatMap enc)[t]?=dB ((enc l[t/k])[t%k]'(by rw[b];exact d)):=by
  rw[n,qp,qj i5,qo (by rw[b];omega)];have:t-i1 pre=t%k:=i5
  rw[this,qd]
 have i:l.toArray[t/k]! =l[t/k]:=o1
 rw[i];have f:t<i1 (l.flatMap enc):=by rw[dK b];exact a
 rw[getElem!_pos (enc l[t/k]) (t%k) (by rw[b];exact d),getElem!_pos _ t rb];rw[qd f]at g;simp only[List.getElem_toArray];exact(Option.some.inj g).symm
theorem Zj{α:Type}[Inhabited α]{enc:α->bh}{k:Nat}(f:∀x,i1 (enc x)=k){w:World}{e:TypeId}{b:Nat}{rest:bh}{l:List α}(d:w.heap[b]?=dB (.cells (l.flatMap enc++rest).toArray e (0,0))):HoldsK enc k w b 0 l.toArray:=by
 intro j c;rw[QD f]at c⊢;have a:j<i1 (l.flatMap enc):=m6
 refine⟨?_,by simp[World.frozen?,d]⟩;have g:(l.flatMap enc++rest).toArray[0+j]?=dB (l.flatMap enc)[j]:=by rw[wo,zX,qo a,qd a]
 simp only[World.cell?,d];rw[getElem!_pos _ j j7];simpa using g
theorem abD{α:Type}[Inhabited α]{enc:α->bh}{k:Nat}(a:∀x,i1 (enc x)=k)(l l':List α)(rest:bh)(c:i1 l'=i1 l):putCells id 0 (flatK enc k l'.toArray) (l.flatMap enc++rest).toArray=(l'.flatMap enc++rest).toArray:=by
 rw[QD a];have d:=dK a l;have b:=dK a l';rw[c]at b;apply yN;intro i;simp only[putCells,Array.getElem?_mapIdx,zX,yf,wo,Nat.zero_le,true_and,Nat.sub_zero];by_cases e:i<i1 l*k
 ·rw[qo i5,qo i5,qd i5,qd i5,q7,g0 i5];rw[getElem!_pos _ i (by rw[yf];omega)];simp
 ·rw[qj i5,qj i5,d,b];cases rest[i-i1 l*k]? with
  |none=>rfl
  |some x=>rw[q7,g9 i5]
theorem RO{α:Type}[Inhabited α]{P:Program}{id_ g:FuncId}{enc:α->bh}{k:Nat}{cf:α->α->Int}(D:∀x,i1 (enc x)=k)
  (H:∀(fY cap:Nat) (l:List α) (w:World),CmpLays P g #[] enc k cf fY 0 l.length w->HoldsK enc k w fY 0 l.toArray->fY<w.heap.size->i1 l<4611686018427387904->
   Calls P id_ #[.slice (dB ⟨fY,0,none⟩) l.length cap,.func (.func g) #[] #[]] w λe i=>e=.returned (.tuple #[])/\∃n os,i=sortWorldK enc k w fY 0 n (l.mergeSort λx y=>!(ltOf cf) y x).toArray os)
  (I:∀(p:aM) (cap:Nat) (w:World),Calls P id_ #[.slice p 0 cap,.func (.func g) #[] #[]] w λe i=>e=.returned (.tuple #[])/\i=w)
  (F:∀x y h,ac P g #[.agg (enc x).toArray,.agg (enc y).toArray] h λv h'=>v=xq xx (cf x y)/\bc (λb=>b<h.size) h h')
  {e:TypeId} {s:Sl} {l:List α} {h:Heap} (B:Own h e s k enc l) (J:i1 l<2^40):
  ac P id_ #[.slice s.ptr s.len s.cap,.func (.func g) #[] #[]] h λv h'=>v=.tuple #[]/\Own h' e s k enc (l.mergeSort λx y=>!(ltOf cf) y x)/\bc (λb=>¬s.on b) h h':=by
 intro w o;have a:=B.len;rcases B.head with⟨h1,h2,h3⟩|⟨b,rest,h1,h2,h3,h4⟩
 ·subst h3;rw[a,h1];refine(I none s.cap w).mono ?_;rintro A i ⟨rfl,rfl⟩;have G:(([]:List α).mergeSort λx y=>!(ltOf cf) y x)=[]:=jj
  exact⟨_,i4,dC.refl _,i4,by rw[G];exact⟨a,.inl ⟨h1,h2,i4⟩⟩,by rw[<-o];exact bc.refl _ _⟩
 ·rw[h1,a];have t:w.heap[b]?=dB (.cells (l.flatMap enc++rest).toArray e (0,0)):=by rw[o];exact h2
  have f:CmpLays P g #[] enc k cf b 0 l.length w:=λm os E _ x y=>by
   have:=F x y _ (sortWorldK enc k w b 0 m E os) i4;refine(show Calls P g (#[Value.agg (enc x).toArray,.agg (enc y).toArray]++#[]) _ _ from ?_);rw[Array.append_empty];refine this.mono ?_;rintro A i ⟨v,rfl,K,rfl,z⟩;exact⟨i4,ahz K z⟩
  refine(H b s.cap l w f (Zj D t) (lt_of_block t) i5).mono ?_;rintro A i ⟨rfl,n,os,rfl⟩;have r:=lt_of_block t;have q:i1 (l.mergeSort λx y=>!(ltOf cf) y x)=i1 l:=List.length_mergeSort l;have c:∀j,j<h.size->(sortWorldK enc k w b 0 n (l.mergeSort λx y=>!(ltOf cf) y x).toArray os).heap[j]?=if b=j then dB (.cells ((l.mergeSort λx y=>!(ltOf cf) y x).flatMap enc++rest).toArray e (0,0))else h[j]?:=by
   intro j u;unfold sortWorldK;rw[Sort.heap_grow_old _ _ (by simpa[putRowK,Sort.putRow,Sort.mapBlock,Sort.ahead,o]using u)];simp only[putRowK,Sort.putRow,Sort.mapBlock,Sort.ahead,Array.getElem?_modify];by_cases d:b=j
   ·subst d;rw[g0 i4,g0 i4,t,q7,Sort.onCells,abD D _ _ _ q]
   ·rw[g9 d,g9 d,o]
  rw[o]at r;refine⟨_,i4,⟨i4,i4,i4,Nat.le_add_right _ _⟩,i4,⟨by rw[q];exact a,.inr ⟨b,rest,h1,?_,h3,h4⟩⟩,?_,?_⟩
  ·rw[c b r,g0 rfl]
  ·simp[sortWorldK,putRowK,Sort.grow,Sort.putRow,Sort.mapBlock,Sort.ahead,o]
  ·intro j u z;rw[c j u,g9 λd=>z ⟨0,by rw[h1,d]⟩]
end Go.Vc
namespace Wl
open Go Go.Vc
def dh(n:Int):Nat:=
 if n=0 then 0 else
  let m:=n.natAbs;let e:=m.log2
  (if n<0 then 2^63 else 0)+(1023+e)*2^52+(m-2^e)*2^(52-e)
structure FS where
 ax:Nat
 ay:Nat
 sx:Nat
 sy:Nat
 left:Int
 leg:Int
 second:Bool
def ry:Nat:=4607182418800017408
def fs0:FS:=⟨0,0,ry,0,1,1,eS⟩
def pr(a b:Nat):Nat:=(ij.add a b).getD 0
def akt(a b:Nat):Nat:=(ij.sub a b).getD 0
def uK(a b:Nat):Nat:=(ij.mul a b).getD 0
def tx(a b:Nat):Nat:=akt (uK a 0) (uK b ry)
def ty(a b:Nat):Nat:=pr (uK a ry) (uK b 0)
def FS.on(s:FS):FS:=
 if s.left-1>0 then{s with ax:=pr s.ax s.sx,ay:=pr s.ay s.sy,left:=s.left-1}
 else{ax:=pr s.ax s.sx,ay:=pr s.ay s.sy,sx:=tx s.sx s.sy,sy:=ty s.sx s.sy,leg:=if s.second then s.leg+1 else s.leg,left:=if s.second then s.leg+1 else s.leg,second:=!s.second}
def lG:Nat->FS
 |0=>fs0
 |n+1=>(lG n).on
def FS.ok(s:FS):Bool:=
 (ij.add s.ax s.sx).isSome&&(ij.add s.ay s.sy).isSome&&(ij.mul s.sx 0).isSome&&(ij.mul s.sy ry).isSome&&(ij.sub (uK s.sx 0) (uK s.sy ry)).isSome&&(ij.mul s.sx ry).isSome&&(ij.mul s.sy 0).isSome&&(ij.add (uK s.sx ry) (uK s.sy 0)).isSome&&decide (1<=s.left)&&decide (s.left<=100)&&decide (1<=s.leg)&&decide (s.leg<=100)
structure Spi where
 x:Int
 y:Int
 dx:Int
 dy:Int
 left:Int
 leg:Int
 turns:Int
def aku:Spi:=⟨0,0,1,0,1,1,0⟩
def Spi.on(s:Spi):Spi:=
 if s.left-1=0 then
  {x:=s.x+s.dx,y:=s.y+s.dy,dx:=-s.dy,dy:=s.dx,leg:=if(s.turns+1)%2=0 then s.leg+1 else s.leg,left:=if(s.turns+1)%2=0 then s.leg+1 else s.leg,turns:=s.turns+1}
 else{s with x:=s.x+s.dx,y:=s.y+s.dy,left:=s.left-1}
def gp:Nat->Spi
 |0=>aku
 |n+1=>(gp n).on
theorem ajY:∀n,n<64->(lG n).ok=eR:=j5
theorem aiI:∀n,n<64->((lG n).ax==dh (gp n).x&&(lG n).ay==dh (gp n).y&&decide (-4<=(gp n).x)&&decide ((gp n).x<=4)&&decide (-4<=(gp n).y)&&decide ((gp n).y<=4))=eR:=j5
theorem aiJ:∀i,i<9->∀j,j<9->ij.sub (dh ((i:Nat)-4:Int)) (dh ((j:Nat)-4:Int))=dB (dh ((i:Int)-(j:Int))):=j5
theorem aiK:∀i,i<17->ij.mul (dh ((i:Nat)-8:Int)) (dh ((i:Nat)-8:Int))=dB (dh (((i:Nat)-8:Int)*((i:Nat)-8:Int))):=j5
theorem aiL:∀i,i<9->∀j,j<9->ij.add (dh (((i:Nat):Int)*(i:Nat))) (dh (((j:Nat):Int)*(j:Nat)))=dB (dh (((i:Nat):Int)*(i:Nat)+((j:Nat):Int)*(j:Nat))):=j5
theorem abF:∀m,m<129->∀n,n<129->ij.order (dh (m:Nat)) (dh (n:Nat))=dB (compare m n):=j5
theorem Zk{seq a c:Int}{b:bf}(d:i1 b<=48):ey (kI seq a c b)=none:=by unfold ey kI;rw[BU i6 i6 mn];dsimp only;rw[g9 (by rintro⟨h,_⟩;exact absurd h i6)]
theorem CK{m:aG}{c:bf}(h:c∈bu m):ey c=none:=by unfold bu at h;obtain⟨i,_,rfl⟩:=qu.1 h;exact Zk i9
theorem QE{α:Type}{R:α->α->Prop}(m:∀a b c,R a b->R b c->R a c){l:List α}(h:∀i (n:i+1<i1 l),R (l[i]'(by omega)) l[i+1]):l.Pairwise R:=by
 have g:∀d i (f:i+(d+1)<i1 l),R (l[i]'(by omega)) l[i+(d+1)]:=by
  intro d
  induction d with
  |zero=>exactλi f=>h i f
  |succ d ih=>exactλi f=>m _ _ _ (ih i i5) (h (i+(d+1)) i5)
 refine zw.2 λi j n f k=>?_;have:=g (j-i-1) i i5;have e:i+(j-i-1+1)=j:=i5
 simp only[e]at this;exact this
theorem QF{α:Type}{R:α->α->Prop}{l:List α}(h:l.Pairwise R)(i:Nat)(a:i+1<i1 l):R (l[i]'(by omega)) l[i+1]:=zw.1 h i (i+1) i5 a i5
theorem fq{α:Type}{l:List α}{i:Nat}(d:α)(h:i<i1 l:=by omega):l.getD i d=l[i]:=by rw[qe,qd h];rfl
theorem kJ(n a b:Int):fo n a b=eR↔a<=n/\n<=b:=by unfold fo;rw[qB,decide_eq_true_eq,decide_eq_true_eq]
theorem abG(l:aD)(most:Int):rj l most=eR↔l.Pairwise (·<·)/\∀x∈l,0<=x/\x<=most:=by
 unfold rj;rw[qZ];constructor
 ·intro h;have g:∀i (d:i<i1 l),(0<=l[i]/\l[i]<=most)/\(i=0∨l.getD (i-1) 0<l[i]):=λi d=>by
   have:=h i (qG.2 d);unfold kp at this;rw[fq 0 d,qB,kJ,wu,decide_eq_true_eq,decide_eq_true_eq]at this;exact this
  refine⟨QE (R:=λa b:Int=>a<b) (λa b c f e=>Int.lt_trans f e) λi d=>?_,λx j=>?_⟩
  ·rcases(g (i+1) d).2 with h0|h0
   ·omega
   ·rw[vg,fq 0]at h0;exact h0
  ·obtain⟨i,d,rfl⟩:=qK j;exact(g i d).1
 ·rintro⟨f,e⟩ i d;have d:=qG.1 d;unfold kp;rw[fq 0 d,qB,kJ,wu,decide_eq_true_eq,decide_eq_true_eq];refine⟨e _ (qg d),?_⟩;cases i with
  |zero=>exact .inl i4
  |succ i=>exact .inr (by rw[vg,fq 0];exact QF f i d)
theorem TG(a b c:ByteArray)(e:fp a b=eR)(d:fp b c=eR):fp a c=eR:=JH _ _ _ e d
theorem cL(m:aG):bR m=eR↔lK m=eR/\m.drives.Pairwise (·<·)/\(∀k∈m.drives,0<=k/\k<=63)/\m.aH.length<=12/\(∀e∈m.aH,ie m e=eR)/\m.aH.Pairwise (λa b=>fp a.name b.name=eR)/\m.aH.Pairwise (λa b=>a.object≠b.object):=by
 unfold bR;rw[qB,qB,qB,abG,decide_eq_true_eq,qZ];have q:(∀i∈qA m.aH.length,rk m i=eR)↔(∀e∈m.aH,ie m e=eR)/\m.aH.Pairwise (λa b=>fp a.name b.name=eR)/\m.aH.Pairwise (λa b=>a.object≠b.object):=by
  constructor
  ·intro h;have p:∀i (l:i<m.aH.length),ie m m.aH[i]=eR/\(i=0∨fp (ri m.aH (i-1)).name m.aH[i].name=eR)/\∀y∈m.aH.take i,y.object≠m.aH[i].object:=λi l=>by
    have:=h i (qG.2 l);unfold rk at this;rw[po l,qB,qB,wu,decide_eq_true_eq,wU,wj]at this;exact⟨this.1,this.2.1,λy o=>by have:=this.2.2 y o;simpa using this⟩
   refine⟨λe u=>?_,QE (R:=λa b:cw=>fp a.name b.name=eR) (λa b c n r=>TG _ _ _ n r) λi l=>?_,zw.2 λi j l s t=>?_⟩
   ·obtain⟨i,l,rfl⟩:=qK u;exact(p i l).1
   ·rcases(p (i+1) l).2.1 with h0|h0
    ·omega
    ·rw[vg,po]at h0;exact h0
   ·refine(p j s).2.2 m.aH[i] ?_;exact yk.2 ⟨i,i5,i4⟩
  ·rintro⟨n,r,h3⟩ i l;have l:=qG.1 l;unfold rk;rw[po l,qB,qB,wu,decide_eq_true_eq,wU,wj];refine⟨n _ (qg l),?_,λy o=>?_⟩
   ·cases i with
    |zero=>exact .inl i4
    |succ i=>exact .inr (by rw[vg,po];exact QF r i l)
   ·obtain⟨j,s,rfl⟩:=yk.1 o;have:=zw.1 h3 j i i5 l i5;simpa using this
 rw[q];constructor
 ·rintro⟨a,⟨b,c⟩,d,e,f,g⟩;exact⟨a,b,c,d,e,f,g⟩
 ·rintro⟨a,b,c,d,e,f,g⟩;exact⟨a,⟨b,c⟩,d,e,f,g⟩
theorem fF(m:aG):lK m=eR↔(1<=m.seq/\m.seq<=2147483647)/\(0<=m.next/\m.next<=16777216)/\bO m.p=eR/\0<=m.extra/\m.extra<=16:=by unfold lK;rw[qB,qB,qB,kJ,kJ,kJ]
theorem iU(m:aG)(x:cw):ie m x=eR↔ne x.name=eR/\(0<=x.object/\x.object<m.next)/\(0<=x.length/\x.length<=m.p.1*m.p.2.2*8)/\(∀t∈x.tries,0<=t/\t<=15)/\(x.tries.length:Int)=countP m.p x.length:=by
 unfold ie;rw[qB,qB,qB,qB,kJ,kJ,qZ,decide_eq_true_eq];simp only[kJ];constructor
 ·rintro⟨a,b,c,d,e⟩;exact⟨a,⟨b.1,i5⟩,c,d,e⟩
 ·rintro⟨a,b,c,d,e⟩;exact⟨a,⟨b.1,i5⟩,c,d,e⟩
theorem xI{m:aG}(h:bR m=eR):m.drives.Nodup:=((cL m).1 h).2.1.imp λh e=>i5
theorem lx{m:aG}(h:bR m=eR):∀k∈m.drives,0<=k/\k<64:=λk a=>by have:=((cL m).1 h).2.2.1 k a;omega
theorem Lp:∀{l:aD} {a b:Int},l.Pairwise (·<·)->(∀k∈l,a<=k/\k<b)->a<=b->(i1 l:Int)<=b-a
 |[],a,b,_,_,h=>i9
 |x::l,a,b,hp,hl,h=>by
  obtain⟨e,d⟩:=zF.1 hp;have f:=hl x qO;have:=Lp (a:=x+1) (b:=b) d (λk c=>⟨by have:=e k c;omega,(hl k (qH _ c)).2⟩) i5;rw[zn];omega
theorem iC{m:aG}(h:bR m=eR):i1 m.drives<=64:=by have:=Lp ((cL m).1 h).2.1 (lx h) i6;omega
theorem Wp(b:ByteArray):∀n i r,b.size-i=n->ByteArray.toList.loop b i r=r.reverse++b.data.toList.drop i:=by
 have c:i1 b.data.toList=b.size:=rfl;intro n
 induction n with
 |zero=>
  intro i r h;rw[ByteArray.toList.loop,g9 i5,List.drop_eq_nil_of_le (by rw[c];omega),qN]
 |succ n ih=>
  intro i r h;have a:i<b.size:=i5
  rw[ByteArray.toList.loop,g0 a,ih (i+1) _ i5];have d:b.data.toList.drop i=b.get! i::b.data.toList.drop (i+1):=by rw[List.drop_eq_getElem_cons (by rw[c];exact a)];congr 1;show _=b.data[i]!;rw[getElem!_pos b.data i a,Array.getElem_toList]
  rw[d,List.reverse_cons,qp];rfl
theorem toList_eq(x:ByteArray):x.toList=x.data.toList:=by unfold ByteArray.toList;rw[Wp x _ 0 [] rfl];rfl
theorem Zl{a b:ByteArray}(h:a.toList=b.toList):a=b:=by rw[toList_eq,toList_eq]at h;cases a;cases b;congr;exact Array.toList_inj.1 h
end Wl
namespace Go.Qw
open Go Go.Vc
def kR:Nat->Nat->Nat->List (List Nat)
 |0,_,_=>[[]]
 |t+1,a,n=>(zP a (n-t-a)).flatMap λi=>(kR t (i+1) n).map (i::·)
def kB(n:Nat):List Nat->Option (List Nat)
 |[]=>none
 |x::l=>match kB n l with
  |some l'=>dB (x::l')
  |none=>if x+i1 l+1<n then dB (zP (x+1) (i1 l+1))else none
inductive rz (n:Nat):List Nat->List (List Nat)->Prop
 |last {l:List Nat}:kB n l=none->rz n l [l]
 |more {l l':List Nat} {L:List (List Nat)}:kB n l=dB l'->rz n l' L->rz n l (l::L)
theorem HG{n:Nat}:∀{l l':List Nat},kB n l=dB l'->i1 l'=i1 l
 |[],_,h=>j9
 |x::l,l',h=>by
  unfold kB at h;cases hs:kB n l with
  |some m=>rw[hs]at h;injection h with h;subst h;simp[HG hs]
  |none=>
   rw[hs]at h;dsimp only at h;split at h
   ·injection h with h;subst h;simp
   ·cases h
theorem rz.cons{n x t:Nat}{l:List Nat}{L R:List (List Nat)}(h:rz n l L)(a:i1 l=t)(c:x+t+1<n)(b:rz n (zP (x+1) (t+1)) R):rz n (x::l) (L.map (x::·)++R):=by
 induction h with
 |last hs=>exact .more (by unfold kB;rw[hs];dsimp only;rw[g0 i5,a]) b
 |more hs _ ih=>exact .more (by unfold kB;rw[hs]) (ih (by rw[HG hs,a]))
theorem rz.ajZ{n x t:Nat}{l:List Nat}{L:List (List Nat)}(h:rz n l L)(a:i1 l=t)(b:¬x+t+1<n):rz n (x::l) (L.map (x::·)):=by
 induction h with
 |last hs=>exact .last (by unfold kB;rw[hs];dsimp only;rw[g9 i5])
 |more hs _ ih=>exact .more (by unfold kB;rw[hs]) (ih (by rw[HG hs,a]))
theorem HI(n:Nat):∀t a,a+t<=n->rz n (zP a t) (kR t a n)
 |0,a,_=>.last i4
 |t+1,a,h=>by
  have b:∀m a,a+(t+1)<=n->m+1=n-t-a->rz n (zP a (t+1)) ((zP a (m+1)).flatMap λi=>(kR t (i+1) n).map (i::·)):=by
   intro m
   induction m with
   |zero=>
    intro a h c;have:=(HI n t (a+1) i5).ajZ (x:=a) (t:=t) jj i5;simpa[yn]using this
   |succ m ih=>
    intro a h c;have:=(HI n t (a+1) i5).cons (x:=a) (t:=t) jj i5 (ih (a+1) i5 i5);rw[yn,yn (n:=m+1),zk];exact this
  have:=b (n-t-a-1) a h i5;rw[show n-t-a-1+1=n-t-a by omega]at this;exact this
theorem TH{n:Nat}:∀(i:Nat) (l m:List Nat),i<=i1 l->kB n (l.drop i)=dB m->kB n l=dB (l.take i++m)
 |0,l,m,_,h=>j6
 |i+1,[],m,h,_=>m9
 |i+1,x::l,m,h,hs=>by
  have:=TH i l m j6 (by simpa using hs);unfold kB;rw[this];simp
theorem EK{n:Nat}:∀{t a:Nat} {s:List Nat},s∈kR t a n->i1 s=t/\(∀x∈s,a<=x/\x<n)/\s.Pairwise (·<·)
 |0,a,s,h=>by simp[kR]at h;subst h;simp
 |t+1,a,s,h=>by
  simp only[kR,zU,qu,List.mem_range'_1]at h;obtain⟨i,f,l,d,rfl⟩:=h;obtain⟨e,c,h3⟩:=EK d;refine⟨p7,?_,zF.2 ⟨λx b=>(c x b).1,h3⟩⟩;intro x b;rcases zb.1 b with rfl|b
  ·omega
  ·have:=c x b;omega
theorem TJ{n:Nat}:∀{t a:Nat} {s:List Nat},i1 s=t->(∀x∈s,a<=x/\x<n)->s.Pairwise (·<·)->s∈kR t a n
 |0,a,s,h,_,_=>by simp[kR];simpa using h
 |t+1,a,[],h,_,_=>m9
 |t+1,a,x::l,h,hb,c=>by
  rw[zF]at c;have g:i1 l=t:=j6
  simp only[kR,zU,qu,List.mem_range'_1];have e:=hb x jj;refine⟨x,⟨e.1,?_⟩,l,TJ g (λy b=>⟨c.1 y b,(hb y m0).2⟩) c.2,i4⟩;have d:∀(l:List Nat) (x:Nat),(x::l).Pairwise (·<·)->(∀y∈x::l,y<n)->x+i1 l<n:=by
   intro l
   induction l with
   |nil=>intro x _ b;exact b x jj
   |cons y l ih=>
    intro x c b;rw[zF]at c;have j:=ih y c.2 λz f=>b z (qH _ f);have i:=c.1 y jj;simp;omega
  have:=d l x (zF.2 c) λy b=>(hb y b).2;omega
def ch:Nat->Nat->Nat
 |_,0=>1
 |0,_+1=>0
 |n+1,k+1=>ch n k+ch n (k+1)
theorem nS(n:Nat):ch n 0=1:=by cases n<;>rfl
theorem JO:∀(n k:Nat),n<k->ch n k=0
 |_,0,h=>i5
 |0,k+1,_=>rfl
 |n+1,k+1,h=>by rw[ch,JO n k i5,JO n (k+1) i5]
theorem Ph:∀n,ch n n=1
 |0=>rfl
 |n+1=>by rw[ch,Ph n,JO n (n+1) i5]
theorem HJ:∀(n k:Nat),(k+1)*ch (n+1) (k+1)=(n+1)*ch n k
 |0,0=>rfl
 |0,k+1=>by rw[JO 0 (k+1) i5,JO (0+1) (k+1+1) i5];simp
 |n+1,0=>by
  have:=HJ n 0;rw[nS]at this⊢;rw[ch,nS,Nat.mul_add,this];omega
 |n+1,k+1=>by
  have c:=HJ n k;have a:=HJ n (k+1);rw[ch];have e:(k+1+1)*(ch (n+1) (k+1)+ch (n+1) (k+1+1))=((k+1)*ch (n+1) (k+1)+ch (n+1) (k+1))+(k+1+1)*ch (n+1) (k+1+1):=by rw[Nat.mul_add,zT (k+1)]
  rw[e,c,a];have b:ch (n+1) (k+1)=ch n k+ch n (k+1):=rfl;rw[b,zT (n+1),Nat.mul_add (n+1)];omega
theorem Yc{n k:Nat}(h:k<=n):ch n (k+1)*(k+1)=ch n k*(n-k):=by
 cases n with
 |zero=>
  have:k=0:=i5
  subst this;rfl
 |succ n=>
  have c:=HJ n k;have a:(n+1)*ch n k=(n+1-k)*ch (n+1) k:=by
   cases k with
   |zero=>rw[nS,nS];simp
   |succ k=>
    have h3:=HJ n k;have b:ch (n+1) (k+1)=ch n k+ch n (k+1):=rfl;have e:(n+1)*ch (n+1) (k+1)=(n+1)*ch n k+(n+1)*ch n (k+1):=by rw[b,Nat.mul_add]
    have d:(n+1-(k+1))*ch (n+1) (k+1)=(n+1)*ch (n+1) (k+1)-(k+1)*ch (n+1) (k+1):=Nat.sub_mul _ _ _;rw[d,h3,e];omega
  rw[vJ,c,a,vJ]
theorem aka{n k:Nat}(h:2*(k+1)<=n+1):ch n k<=ch n (k+1):=by
 have b:=Yc (n:=n) (k:=k) i5;by_cases h0:ch n k=0
 ·omega
 ·have a:ch n k*(k+1)<=ch n (k+1)*(k+1):=by rw[b];exact Nat.mul_le_mul_left _ i5
  exact Nat.le_of_mul_le_mul_right a i5
theorem TK:∀(n k:Nat),k<=n->ch n k=ch n (n-k)
 |0,0,_=>rfl
 |n+1,0,_=>by rw[nS,Nat.sub_zero,Ph]
 |n+1,k+1,h=>by
  by_cases b:k=n
  ·subst b;rw[Ph,Nat.sub_self,nS]
  ·have c:=TK n k i5;have a:=TK n (k+1) i5;rw[show n+1-(k+1)=(n-(k+1))+1 by omega,ch,ch,c,a,show n-k=n-(k+1)+1 by omega];omega
theorem Lq(n:Nat):∀t a,a<=n->i1 (kR t a n)=ch (n-a) t
 |0,a,_=>by rw[nS];rfl
 |t+1,a,h=>by
  have b:∀m a,m=n-t-a->a<=n->i1 ((zP a m).flatMap λi=>(kR t (i+1) n).map (i::·))=ch (n-a) (t+1):=by
   intro m
   induction m with
   |zero=>intro a c d;rw[JO _ _ i5];rfl
   |succ m ih=>
    intro a c d;rw[yn,zk,qx,qy,Lq n t (a+1) i5,ih (a+1) i5 i5];rw[show n-a=n-(a+1)+1 by omega];rfl
  exact b _ a i4 h
def gT(n t:Int):Int:=if 0<=n/\n<=64/\0<=t/\t<=n then(min (ch n.toNat t.toNat) 4097:Nat)else 0
end Go.Qw
namespace Wl
open Classical
def fk(r:Row):Nat:=r.findIdx (λx=>x !=0)
def eF(M:aR)(r:Row):Row:=M.foldl (λout x=>cV (aS out (fk x)) x out) r
def ny(m:aR):aR:=(bL m (eI m)).2.take (cb m)
def TL(M:aR)(r:Row):aR:=if fk (eF M r)<i1 (eF M r) then ny (M++[eF M r])else M
theorem Pj{r:Row}{c:Nat}(h:c<i1 r):aS r c=r[c]:=by rw[aS,qe,qd h];rfl
theorem ahA{r:Row}{j:Nat}(h:aS r j≠0):fk r<i1 r:=by have a:j<i1 r:=Nat.lt_of_not_le λb=>h (by simp[aS,qe,qS b]);rw[fk,wQ];exact⟨r[j],qg a,by rw[<-Pj a];simpa using h⟩
theorem abH{r:Row}(h:¬fk r<i1 r):r=aO r.length:=by rw[fk,wQ]at h;refine eJ i4 k8 λj a=>?_;rw[cB,Pj a];have b:¬((r[j] !=0)=eR):=λc=>h ⟨r[j],qg a,c⟩;simpa using b
section
variable {n:Nat} {m M A:aR}
theorem Lr(b:ba n M){r:Row}(a:i1 r=n):i1 (eF M r)=n:=by
 unfold eF
 induction M generalizing r with
 |nil=>exact a
 |cons x M ih=>
  rw[zA];exact ih (λy c=>b y (qH _ c)) (by rw[ca (by rw[b x jj,a])];exact a)
theorem abI{c:UInt8}{a t:Row}(h:i1 a=i1 t):cV c a (cV c a t)=t:=
 eJ (n:=i1 t) (by rw[ca (by rw[ca h];exact h),ca h]) i4 λj _=>by
  rw[cO (by rw[ca h];exact h),cO h,ta]
theorem QG(b:ba n m)(d:∀x∈M,Span n m x){r:Row}(c:i1 r=n):Span n m (eF M r)↔Span n m r:=by
 unfold eF
 induction M generalizing r with
 |nil=>exact Iff.rfl
 |cons x M ih=>
  have a:=d x jj;have e:i1 x=i1 r:=by rw[a.len b,c]
  rw[zA,ih (λy f=>d y (qH _ f)) (by rw[ca e];exact c)];refine⟨λh=>?_,λh=>a.comb b h _⟩;have:=a.comb b h (aS r (fk x));rw[abI e]at this;exact this
structure EL (n:Nat) (M A:aR):Prop where
 even:ba n M
 evenA:ba n A
 span:∀v,Span n M v↔Span n A v
 len:i1 M=cb A
 lead:∀x∈M,fk x<n
theorem aiM(n:Nat):EL n [] []:=⟨λ_ h=>j9,λ_ h=>j9,λ_=>Iff.rfl,by simp[cb,kQ],λ_ h=>j9⟩
theorem QH(b:ba n m)(a:ba n A)(h:∀v,Span n m v↔Span n A v):cb m=cb A:=by rw[mz b,mz a];congr 1;funext v;exact propext (h v)
theorem TM(a:ba n m):Way n m n (cb m) (bL m (eI m)).2:=by
 have h:=JK a n (qm _);cases m with
 |nil=>rw[kQ]at h;rw[cb,kQ];exact h
 |cons x t=>
  have b:eI (x::t)=n:=by rw[eI,bD jj];exact a _ jj
  rw[cb,b];exact h
theorem aiN(y:ba n m):ba n (ny m)/\(∀v,Span n (ny m) v↔Span n m v)/\(ny m).length=cb m/\∀x∈ny m,fk x<n:=by
 have w:=TM y;obtain⟨b,s,A,i,o,⟨p,F,z,D,E⟩,c⟩:=w;have a:ba n (ny m):=λx h=>b x (zD h);refine⟨a,λv=>?_,by rw[ny,qY];omega,λx h=>?_⟩
 ·rw[<-i v];refine⟨Span.mono λr g=>zD g,Span.sub a λr g=>?_⟩;obtain⟨k,f,rfl⟩:=fj g;by_cases B:k<cb m
  ·refine Span.row a ?_;have:aE (bL m (eI m)).2 k=aE (ny m) k:=by rw[bD f,bD (by rw[ny,qY];omega)];simp[ny]
   rw[this];exact mem_row (by rw[ny,qY];omega)
  ·have:aE (bL m (eI m)).2 k=aO n:=eJ (b _ g) k8 λj u=>by rw[cB];exact c k i5 f j u
   rw[this];exact .zero
 ·obtain⟨k,f,rfl⟩:=fj h;have l:k<cb m:=by rw[ny,qY]at f;omega
  have d:k<(bL m (eI m)).2.length:=i5
  have e:aE (ny m) k=aE (bL m (eI m)).2 k:=by rw[bD d,bD f];simp[ny]
  have q:=z k l k d;rw[g0 rfl]at q;have t:=ahA (r:=aE (ny m) k) (j:=p k) (by rw[e,q];decide);rw[a _ h]at t;exact t
theorem aeN(h:∀v,Span n M v↔Span n A v)(e:ba n M)(f:ba n A){r:Row}(k:i1 r=n){rest:Row}(o:i1 rest=n)
  (g:∀m,ba n m->(∀x∈M,Span n m x)->(Span n m rest↔Span n m r)):∀v,Span n (M++[rest]) v↔Span n (A++[r]) v:=λv=>by
 have b:=nv e o;have c:=nv f k;have j:∀x∈M,Span n (M++[rest]) x:=λx d=>Span.row b (zB _ d);have i:∀x∈M,Span n (A++[r]) x:=λx d=>Span.mono (λy a=>zB _ a) ((h x).1 (Span.row e d));constructor
 ·refine Span.sub c λy a=>?_;rcases qz.1 a with a|a
  ·exact i y a
  ·rw[qC]at a;subst a;exact(g _ c i).2 (Span.row c jj)
 ·refine Span.sub b λy a=>?_;rcases qz.1 a with a|a
  ·exact Span.mono (λz l=>zB _ l) ((h y).2 (Span.row f a))
  ·rw[qC]at a;subst a;exact(g _ b j).1 (Span.row b jj)
theorem abJ(h:EL n M A){r:Row}(c:i1 r=n):EL n (TL M r) (A++[r]):=by
 have d:=Lr h.even c;have j:=aeN h.span h.even h.evenA c d λm k l=>QG k l c;have e:=nv h.evenA c;unfold TL;split
 ·have t:=aiN (nv h.even d);refine⟨t.1,e,λv=>(t.2.1 v).trans (j v),?_,t.2.2.2⟩;rw[t.2.2.1];exact QH (nv h.even d) e j
 ·rename_i i;have i:=abH i;have g:Span n M r:=(QG h.even (λx f=>Span.row h.even f) c).1 (by rw[i,d];exact .zero);have b:∀v,Span n M v↔Span n (A++[r]) v:=λv=>by
   rw[h.span v];refine⟨Span.mono λx f=>zB _ f,Span.sub h.evenA λy a=>?_⟩;rcases qz.1 a with a|a
   ·exact Span.row h.evenA a
   ·rw[qC]at a;subst a;exact(h.span _).1 g
  refine⟨h.even,e,b,?_,h.lead⟩;rw[h.len];exact QH h.evenA e λv=>(h.span v).symm.trans (b v)
end
abbrev ft:=aD×Row
def cS(x:Int->UInt8):aD->UInt8
 |[]=>0
 |c::l=>x c^^^cS x l
theorem kS{x y:Int->UInt8}:∀{l:aD},(∀c∈l,x c=y c)->cS x l=cS y l
 |[],_=>rfl
 |c::l,h=>by rw[cS,cS,h c jj,kS λd a=>h d m5]
theorem Kq(x:Int->UInt8)(p:Int->Bool):∀l,cS x l=cS x (l.filter p)^^^cS x (l.filter λc=>!p c)
 |[]=>by simp[cS]
 |c::l=>by
  rw[cS,Kq x p l];cases h:p c<;>simp only[zp,h,yd,ye,if_true,zj,if_false,cS]<;>ac_rfl
theorem BX(x:Int->UInt8){c:Int}:∀{l:aD},l.Nodup->c∈l->cS x l=x c^^^cS x (l.filter λd=>!decide (d=c))
 |[],_,h=>j9
 |d::l,hd,h=>by
  rw[yj]at hd;rcases zb.1 h with rfl|h
  ·have:l.filter (λd=>!decide (d=c))=l:=zO.2 λe f=>by
    have:e≠c:=λb=>hd.1 (b▸f);simp[this]
   rw[zp];simp only[decide_true,yd,zj,if_false];rw[this,cS]
  ·have a:d≠c:=λb=>hd.1 (b▸h);rw[zp,g0 m5,cS,cS,BX x hd.2 h];ac_rfl
theorem TN(x y:Int->UInt8):∀l,cS (λc=>x c^^^y c) l=cS x l^^^cS y l
 |[]=>by simp[cS]
 |c::l=>by rw[cS,cS,cS,TN x y l];ac_rfl
theorem HK:∀{x:Int->UInt8} {l:aD},(∀c∈l,x c=0)->cS x l=0
 |_,[],_=>rfl
 |x,c::l,h=>by rw[cS,h c jj,HK λd a=>h d m5];rfl
def cT(V:aR)(a:Row)(l:aD):Row:=l.foldl (λa c=>cV 1 (aE V c.toNat) a) a
theorem kr{V:aR}{m:Nat}:∀{l:aD} {a:Row},i1 a=m->(∀c∈l,i1 (aE V c.toNat)=m)->i1 (cT V a l)=m
 |[],a,h,_=>h
 |c::l,a,h,hv=>by
  rw[cT,zA];exact kr (l:=l) (by rw[ca (by rw[hv c jj,h])];exact h) λd b=>hv d m0
theorem Ls{V:aR}{m:Nat}(j:Nat):∀{l:aD} {a:Row},i1 a=m->(∀c∈l,i1 (aE V c.toNat)=m)->aS (cT V a l) j=aS a j^^^cS (λc=>aS (aE V c.toNat) j) l
 |[],a,_,_=>by simp[cT,cS]
 |c::l,a,h,hv=>by
  have b:i1 (aE V c.toNat)=i1 a:=by rw[hv c jj,h]
  rw[cT,zA];have:=Ls (V:=V) j (l:=l) (a:=cV 1 (aE V c.toNat) a) (by rw[ca b];exact h) λd e=>hv d p7;rw[cT]at this;rw[this,cO b,Gf.one_mul,cS];ac_rfl
def Sat(t:UInt8)(k:Nat)(x:Int->UInt8)(e:ft):Prop:=cS x e.1=Gf.mul t (aS e.2 k)
structure jh (n w:Nat) (e:ft):Prop where
 cW:∀c∈e.1,0<=c/\c<(n:Int)
 nodup:e.1.Nodup
 len:i1 e.2=w
def kn(known:List Bool)(c:Int):Bool:=known.getD c.toNat eS
def fz(known:List Bool)(vals:aR)(e:ft):ft:=(e.1.filter λc=>!kn known c,cT vals e.2 (e.1.filter λc=>kn known c))
structure kt (n w:Nat) (l:List ft) (known:List Bool) (vals:aR):Prop where
 klen:i1 known=n
 vlen:i1 vals=n
 row:∀c:Nat,c<n->i1 (aE vals c)=if known.getD c eS then w else 0
 sound:∀t k x,k<w->(∀e∈l,Sat t k x e)->∀c:Int,0<=c->c<(n:Int)->kn known c=eR->x c=Gf.mul t (aS (aE vals c.toNat) k)
section
variable {n w:Nat} {l:List ft} {known:List Bool} {vals:aR}
theorem Zm(n w:Nat)(l:List ft):kt n w l (qh n eS) (qh n []):=by
 refine⟨jj,jj,λc b=>?_,λt k x d f c h0 e a=>?_⟩
 ·rw[bD k7];simp[qe,b]
 ·exfalso;rw[kn,qe,List.getElem?_replicate]at a;split at a<;>simp at a
theorem kt.HL(h:kt n w l known vals){c:Int}(b:0<=c)(d:c<(n:Int))(a:kn known c=eR):i1 (aE vals c.toNat)=w:=by have:=h.row c.toNat i5;rw[kn]at a;rw[a]at this;simpa using this
theorem kt.Dv(h:kt n w l known vals){e:ft}(b:jh n w e):jh n w (fz known vals e):=
 ⟨λc d=>b.cW c (qJ.1 d).1,b.nodup.filter _,kr b.len λc d=>by
  have a:=qJ.1 d;exact h.HL (b.cW c a.1).1 (b.cW c a.1).2 a.2⟩
theorem kt.JP(h:kt n w l known vals){e:ft}(g:jh n w e){t:UInt8}{k:Nat}{x:Int->UInt8}(j:∀c:Int,0<=c->c<(n:Int)->kn known c=eR->x c=Gf.mul t (aS (aE vals c.toNat) k)):
  Sat t k x (fz known vals e)↔Sat t k x e:=by
 have d:∀c∈e.1.filter λc=>kn known c,i1 (aE vals c.toNat)=w:=λc f=>by
  have b:=qJ.1 f;exact h.HL (g.cW c b.1).1 (g.cW c b.1).2 b.2
 have o:cS x (e.1.filter λc=>kn known c)=Gf.mul t (cS (λc=>aS (aE vals c.toNat) k) (e.1.filter λc=>kn known c)):=by
  rw[kS (y:=λc=>Gf.mul t (aS (aE vals c.toNat) k)) λc f=>j c (g.cW c (qJ.1 f).1).1 (g.cW c (qJ.1 f).1).2 (qJ.1 f).2];generalize e.1.filter (λc=>kn known c)=m
  induction m with
  |nil=>simp[cS,Gf.mul_zero]
  |cons a m ih=>rw[cS,cS,Gf.kH,ih]
 unfold Sat fz;dsimp only;rw[Ls k g.len d,Gf.kH,<-o,Kq x (λc=>kn known c) e.1];constructor
 ·intro i;rw[i];rw[vp,ta]
 ·intro i;rw[<-i];rw[vp (cS x (e.1.filter λc=>kn known c)),ta]
theorem aiO{known:List Bool}{c d:Int}(b:0<=c)(a:0<=d)(e:c<(i1 known:Int)):kn (known.set c.toNat eR) d=(decide (d=c)||kn known d):=by
 unfold kn;rw[qe,q8];by_cases h:d=c
 ·subst h;rw[g0 i4,g0 i5];simp
 ·rw[g9 i5];simp[h]
theorem abK(h:kt n w l known vals)(q:∀e∈l,jh n w e){e:ft}(i:e∈l){c:Int}(m:(fz known vals e).1=[c]):kt n w l (known.set c.toNat eR) (vals.set c.toNat (fz known vals e).2):=by
 have b:=h.Dv (q e i);have g:=b.cW c (by rw[m];simp);have s:=h.vlen;have f:=h.klen;refine⟨n3,by simp[s],λd u=>?_,λt k x p j d h0 r o=>?_⟩
 ·rw[lS,qe,q8];by_cases a:c.toNat=d
  ·subst a;simp[show c.toNat<i1 known by omega,b.len]
  ·rw[g9 a,g9 a,h.row d u,qe]
 ·rw[aiO g.1 h0 i5]at o;rw[lS];by_cases a:d=c
  ·subst a;rw[g0 rfl];have:=(h.JP (q e i) (h.sound t k x p j)).2 (j e i);unfold Sat at this;rw[m]at this;simpa[cS]using this
  ·rw[g9 i5];exact h.sound t k x p j d h0 r (by simpa[a]using o)
theorem HM(h:kt n w l known vals)(e:ft):∀c∈(fz known vals e).1,kn known c=eS:=λc a=>by
 have:=(qJ.1 a).2;simpa using this
def bn(known:List Bool)(vals:aR)(l:List ft):List ft:=(l.map (fz known vals)).filter λe=>!e.1.isEmpty
def kT(known:List Bool)(vals:aR)(l:List ft):Bool:=(l.map (fz known vals)).any λe=>e.1.isEmpty&&e.2.any (· !=0)
theorem TO(h:kt n w l known vals)(i:∀e∈l,jh n w e)(f:kT known vals l=eS){t:UInt8}{k:Nat}{x:Int->UInt8}(o:k<w):
  (∀e∈l,Sat t k x e)↔(∀c:Int,0<=c->c<(n:Int)->kn known c=eR->x c=Gf.mul t (aS (aE vals c.toNat) k))/\∀e∈bn known vals l,Sat t k x e:=by
 constructor
 ·intro g;refine⟨h.sound t k x o g,λe b=>?_⟩;obtain⟨j,d,rfl⟩:=qu.1 (qJ.1 b).1;exact(h.JP (i j d) (h.sound t k x o g)).2 (g j d)
 ·rintro⟨r,p⟩ e b;refine(h.JP (i e b) r).1 ?_;by_cases a:(fz known vals e).1=[]
  ·unfold Sat;rw[a,cS];have m:((fz known vals e).1.isEmpty&&(fz known vals e).2.any (· !=0))=eS:=by have:=wj.1 f _ (List.mem_map_of_mem b);simpa using this
   rw[a]at m;have q:∀y∈(fz known vals e).2,y=0:=o7
   have h3:=(h.Dv (i e b)).len;have:aS (fz known vals e).2 k=0:=by rw[aS,qe,qd i5];exact q _ (qg _)
   rw[this,Gf.mul_zero]
  ·refine p _ (qJ.2 ⟨List.mem_map_of_mem b,?_⟩);simpa using a
theorem Zn(h:kt n w l known vals)(j:∀e∈l,jh n w e)(b:kT known vals l=eR):∃k,k<w/\∀x:Int->UInt8,¬∀e∈l,Sat 1 k x e:=by
 obtain⟨y,m,d⟩:=zQ.1 b;obtain⟨e,c,rfl⟩:=qu.1 m;rw[qB]at d;obtain⟨z,p,a⟩:=zQ.1 d.2;obtain⟨k,o,rfl⟩:=qK p;have h3:=(h.Dv (j e c)).len;refine⟨k,i5,λx i=>?_⟩;have g:=(h.JP (j e c) (h.sound 1 k x i5 i)).2 (i e c);unfold Sat at g;have f:(fz known vals e).1=[]:=by simpa using d.1
 rw[f,cS,Gf.one_mul,aS,qe,qd o]at g;simp at a;exact a g.symm
end
def kE(op:List Bool)(c:Int):Bool:=op.getD c.toNat eS
def df(op:List Bool)(r:aD):aD:=r.filter (kE op)
def nf(rows:cj)(op us:List Bool)(i:Nat):Bool:=!(us.getD i eS)&&i1 (df op (rows.getD i []))==1
def ng(rows:cj)(op us:List Bool):Option Nat:=(qA rows.length).find? (nf rows op us)
def fl(rows:cj)(op:List Bool)(i:Nat):Int:=(df op (rows.getD i [])).getLast?.getD 0
def kU(a:aD)(r:aD):aD:=r.foldl (λa c=>a.set c.toNat (a.getD c.toNat 0+1)) a
def lU(g:Nat->aD->aD)(rows:cj)(us:List Bool)(a:aD):Nat->aD
 |0=>a
 |k+1=>if us.getD k eS then lU g rows us a k else kU (lU g rows us a k) (g k (rows.getD k []))
def jd(op:List Bool)(a:aD):Nat->Int
 |0=>-1
 |k+1=>if op.getD k eS&&(decide (jd op a k<0)||decide (a.getD k 0>a.getD (jd op a k).toNat 0))then(k:Int)else jd op a k
def ik(rows:cj)(op us:List Bool):Int:=jd op (lU (λ_ r=>r) rows us (qh op.length 0) rows.length) op.length
structure Pl where
 steps:List (Int×Int)
 dead:aD
 used:List Bool
def cH(rows:cj):Nat->List Bool->List Bool->Pl
 |0,_,us=>⟨[],[],us⟩
 |k+1,op,us=>
  if op.contains eR then
   match ng rows op us with
   |some i=>let r:=cH rows k (op.set (fl rows op i).toNat eS) (us.set i eR);⟨((i:Int),fl rows op i)::r.steps,r.dead,r.used⟩
   |none=>let r:=cH rows k (op.set (ik rows op us).toNat eS) us;⟨r.steps,ik rows op us::r.dead,r.used⟩
  else⟨[],[],us⟩
def fK(us:List Bool):Nat->aD
 |0=>[]
 |k+1=>if us.getD k eS then fK us k else fK us k++[(k:Int)]
def dM(n:Nat)(rows:cj):Pl:=cH rows n (qh n eR) (qh rows.length eS)
theorem abL{P:Nat->Bool}{n:Nat}(h:∀j,j<n->P j=eS):(qA n).find? P=none:=by rw[yo];intro x a;rw[qG]at a;simp[h x a]
theorem abM{P:Nat->Bool}{n k:Nat}(f:k<n)(h:∀j,j<k->P j=eS)(c:P k=eR):(qA n).find? P=dB k:=by
 rw[List.find?_eq_some_iff_append];refine⟨c,qA k,zP (k+1) (n-k-1),?_,λa b=>?_⟩
 ·rw[yZ,yZ];have d:n=k+(n-k):=i5
  have e:n-k=(n-k-1)+1:=i5
  conv=>lhs;rw[d,<-List.range'_append_1 (s:=0) (m:=k) (n:=n-k)]
  rw[wo]
  conv=>lhs;rw[e,yn]
 ·rw[qG]at b;simp[h a b]
theorem Wq(a r:aD)(c:Int):kU a (r++[c])=(kU a r).set c.toNat ((kU a r).getD c.toNat 0+1):=by simp[kU]
theorem FT(b r:aD):i1 (kU b r)=i1 b:=by
 induction r generalizing b with
 |nil=>rfl
 |cons a t ih=>simp only[kU,zA]at*;rw[ih];simp
theorem EM(g:Nat->aD->aD)(rows:cj)(us:List Bool)(a:aD):∀k,i1 (lU g rows us a k)=i1 a
 |0=>rfl
 |k+1=>by
  unfold lU;split
  ·exact EM g rows us a k
  ·rw[FT,EM g rows us a k]
theorem HN{m:Int}:∀{r c:aD},(∀x∈c,0<=x/\x<=m)->∀x∈kU c r,0<=x/\x<=m+i1 r
 |[],c,h,x,hx=>by have:=h x hx;simp;omega
 |a::t,c,h,x,hx=>by
  have d:∀y∈c.set a.toNat (c.getD a.toNat 0+1),0<=y/\y<=m+1:=by
   intro y b;rcases List.mem_or_eq_of_mem_set b with b|b
   ·have:=h y b;omega
   ·subst b;rw[qe];cases hc:c[a.toNat]? with
    |none=>
     rw[List.getElem?_eq_none_iff]at hc;rw[List.set_eq_of_length_le hc]at b;have:=h _ b;rw[qe,qS hc]at this;simp at this⊢;omega
    |some z=>have:=h z (List.mem_of_getElem? hc);simp;omega
  have:=HN (r:=t) d x hx;simp only[zn];omega
theorem TP(g:Nat->aD->aD){rows:cj}{us:List Bool}{n:Nat}(a:∀k,i1 (g k (rows.getD k []))<=64):∀k,∀x∈lU g rows us (qh n 0) k,0<=x/\x<=64*k
 |0,x,hx=>by
  have:=List.eq_of_mem_replicate hx;subst this;simp
 |k+1,x,hx=>by
  unfold lU at hx;split at hx
  ·have:=TP g a k x hx;omega
  ·have:=HN (TP g a k) x hx;have:=a k;omega
theorem QI(op:List Bool)(a:aD):∀k,(jd op a k=-1/\∀j,j<k->op.getD j eS=eS)∨(0<=jd op a k/\jd op a k<k/\op.getD (jd op a k).toNat eS=eR)
 |0=>.inl ⟨i4,λj b=>i5⟩
 |k+1=>by
  unfold jd;split
  ·rename_i c;simp only[qB]at c;exact .inr ⟨i5,i5,by rw[ql];exact c.1⟩
  ·rename_i c;rcases QI op a k with⟨e,h⟩|⟨h1,h2,h3⟩
   ·refine .inl ⟨e,λj b=>?_⟩;rcases zo.1 b with b|rfl
    ·exact h j b
    ·by_cases d:op.getD j eS=eR
     ·exact absurd (by rw[d,e];rfl) c
     ·simpa using d
   ·exact .inr ⟨h1,i5,h3⟩
theorem HO{op:List Bool}(h:op.contains eR=eR):∃j,j<i1 op/\op.getD j eS=eR:=by simp only[List.contains_iff_mem]at h;obtain⟨j,a,e⟩:=qK h;exact⟨j,a,by rw[qe,qd a];exact e⟩
theorem ui{rows:cj}{op us:List Bool}(h:op.contains eR=eR):0<=ik rows op us/\ik rows op us<i1 op/\op.getD (ik rows op us).toNat eS=eR:=by
 obtain⟨j,a,e⟩:=HO h;rcases QI op (lU (λ_ r=>r) rows us (qh op.length 0) rows.length) op.length with⟨_,h2⟩|h2
 ·rw[h2 j a]at e;cases e
 ·exact h2
theorem xJ{rows:cj}{op us:List Bool}{i:Nat}(h:ng rows op us=dB i):i<i1 rows/\nf rows op us i=eR:=by have b:=List.mem_of_find?_eq_some h;have a:=List.find?_some h;exact⟨qG.1 b,a⟩
theorem EN{rows:cj}{op us:List Bool}{i:Nat}(d:nf rows op us i=eR):df op (rows.getD i [])=[fl rows op i]/\fl rows op i∈rows.getD i []/\kE op (fl rows op i)=eR:=by
 simp only[nf,qB,beq_iff_eq]at d;obtain⟨c,b⟩:=List.length_eq_one_iff.1 d.2;have e:fl rows op i=c:=by unfold fl;rw[b];rfl
 have a:c∈df op (rows.getD i []):=by rw[b];simp
 rw[df,qJ]at a;rw[e];exact⟨b,a.1,a.2⟩
theorem ly{op:List Bool}{j:Nat}(h:op.getD j eS=eR):(op.set j eS).count eR+1=op.count eR:=by
 have a:j<i1 op:=by
  by_cases a:j<i1 op
  ·exact a
  ·rw[qe,qS i5]at h;cases h
 have e:op[j]=eR:=by rw[qe,qd a]at h;exact h
 have b:0<op.count eR:=List.count_pos_iff.2 (e▸qg a);rw[List.count_set a,e];simp;omega
theorem TQ{op:List Bool}(h:op.count eR=0):op.contains eR=eS:=by rw[List.count_eq_zero]at h;simpa using h
theorem BY{rows:cj}{op us:List Bool}(h:op.contains eR=eS):∀k,cH rows k op us=⟨[],[],us⟩
 |0=>rfl
 |k+1=>by unfold cH;rw[h];rfl
theorem pC{rows:cj}{op us:List Bool}{i k:Nat}(h:op.contains eR=eR)(a:ng rows op us=dB i):
  cH rows (k+1) op us=⟨((i:Int),fl rows op i)::(cH rows k (op.set (fl rows op i).toNat eS) (us.set i eR)).steps,(cH rows k (op.set (fl rows op i).toNat eS) (us.set i eR)).dead,(cH rows k (op.set (fl rows op i).toNat eS) (us.set i eR)).used⟩:=by
 rw[cH,h,a];rfl
theorem pD{rows:cj}{op us:List Bool}{k:Nat}(h:op.contains eR=eR)(a:ng rows op us=none):
  cH rows (k+1) op us=⟨(cH rows k (op.set (ik rows op us).toNat eS) us).steps,ik rows op us::(cH rows k (op.set (ik rows op us).toNat eS) us).dead,(cH rows k (op.set (ik rows op us).toNat eS) us).used⟩:=by
 rw[cH,h,a];rfl
theorem uL(rows:cj):∀k op us,(cH rows k op us).used.length=i1 us
 |0,_,_=>rfl
 |k+1,op,us=>by
  unfold cH;split
  ·split
   ·show(cH rows k _ _).used.length=_;rw[uL];simp
   ·show(cH rows k _ _).used.length=_;rw[uL]
  ·rfl
theorem JQ(us:List Bool):∀k,i1 (fK us k)<=k
 |0=>by simp[fK]
 |k+1=>by
  have:=JQ us k;unfold fK;split<;>simp<;>omega
theorem uW{op:List Bool}{f:Nat}(h:op.count eR=f+1):op.contains eR=eR:=by
 have:0<op.count eR:=i5
 rw[List.count_pos_iff]at this;simpa using this
theorem Wr{P:Nat->Bool}{n j:Nat}(a:j<n)(h:P j=eR):∃i,(qA n).find? P=dB i:=by
 cases hf:(qA n).find? P with
 |some i=>exact⟨i,i4⟩
 |none=>
  rw[yo]at hf;exact absurd h (hf j (qG.2 a))
theorem jT(l:List Bool)(i j:Nat)(x:Bool):(l.set i x).getD j eS=if i=j/\j<i1 l then x else l.getD j eS:=by
 simp only[qe,q8];by_cases h:i=j
 ·subst h;by_cases a:i<i1 l<;>simp[a]
 ·simp[h]
def AB(rows:cj)(op us:List Bool):Prop:=∀i,us.getD i eS=eR->df op (rows.getD i [])=[]
theorem nT{op:List Bool}{c d:Int}(h:kE (op.set d.toNat eS) c=eR):kE op c=eR/\c.toNat≠d.toNat:=by
 unfold kE at*;rw[jT]at h;by_cases e:d.toNat=c.toNat
 ·rw[g0]at h
  ·cases h
  ·refine⟨e,?_⟩;by_cases b:c.toNat<i1 op
   ·exact b
   ·rw[g9 λa=>b a.2,qe,qS i5]at h;cases h
 ·rw[g9 λa=>e a.1]at h;exact⟨h,λa=>e a.symm⟩
theorem abN{rows:cj}{op us:List Bool}{i:Nat}(g:AB rows op us)(h:nf rows op us i=eR):AB rows (op.set (fl rows op i).toNat eS) (us.set i eR):=by
 obtain⟨m,n,h3⟩:=EN h;intro j b;rw[jT]at b;rw[df,wO];intro c l d;obtain⟨d,f⟩:=nT d;have a:c∈df op (rows.getD j []):=by rw[df,qJ];exact⟨l,d⟩
 by_cases e:i=j
 ·subst e;rw[m]at a;simp at a;exact f (by rw[a])
 ·rw[g9 λk=>e k.1]at b;rw[g j b]at a;simp at a
theorem HQ(n j:Nat):(qh n eS).getD j eS=eS:=by
 rw[qe];by_cases h:j<n
 ·rw[qd j6];simp
 ·rw[qS j6];rfl
theorem aiP{rows:cj}{r:aD}(h:r∈rows):∃j,j<i1 rows/\rows.getD j []=r:=by obtain⟨j,a,e⟩:=qK h;exact⟨j,a,by rw[qe,qd a];exact e⟩
def other(m i:Nat):Nat:=if i<m then i else i+1
def uj(rows:cj):(Int->Prop)->(Int->Prop)->List (Int×Int)->Prop
 |_,_,[]=>True
 |D,U,(i,c)::t=>(0<=i/\i<i1 rows)/\¬U i/\¬D c/\c∈rows.getD i.toNat []/\(∀a∈rows.getD i.toNat [],a≠c->D a)/\uj rows (λx=>D x∨x=c) (λx=>U x∨x=i) t
def akv(op:List Bool)(c:Int):Prop:=0<=c/\kE op c=eR
theorem abO{op:List Bool}{c:Int}(h:kE op c=eR):c.toNat<i1 op:=by
 by_cases a:c.toNat<i1 op
 ·exact a
 ·unfold kE at h;rw[qe,qS i5]at h;cases h
theorem Yd{op:List Bool}{c d:Int}(f:0<=c)(b:0<=d):kE op c=eR->c≠d->kE (op.set d.toNat eS) c=eR:=by intro h a;unfold kE;rw[jT,g9 λe=>a i5];exact h
theorem xK{op:List Bool}{d:Int}(h:kE op d=eR):kE (op.set d.toNat eS) d=eS:=by unfold kE;rw[jT,g0 ⟨i4,abO h⟩]
structure akb (rows:cj) (op us:List Bool) (r:Pl):Prop where
 cW:i1 r.steps+i1 r.dead=op.count eR
 used:r.used.count eR=us.count eR+i1 r.steps
 keepU:∀i,us.getD i eS=eR->r.used.getD i eS=eR
 dead:∀c∈r.dead,akv op c
 deadN:r.dead.Nodup
 good:∀D U:Int->Prop,(∀c:Int,0<=c->c<i1 op->(D c↔kE op c=eS∨c∈r.dead))->(∀i:Nat,i<i1 rows->(U i↔us.getD i eS=eR∨r.used.getD i eS=eS))->uj rows D U r.steps
theorem aeO{us:List Bool}{i:Nat}(h:us.getD i eS=eS)(a:i<i1 us):(us.set i eR).count eR=us.count eR+1:=by
 have e:us[i]=eS:=by rw[qe,qd a]at h;exact h
 rw[List.count_set a,e];simp
theorem TR{rows:cj}{n:Nat}(b:∀r∈rows,∀c∈r,0<=c/\c<n):∀k op us,i1 op=n->i1 us=i1 rows->op.count eR=k->akb rows op us (cH rows k op us)
 |0,op,us,hl,hul,hc=>⟨by simp[cH,hc],by simp[cH],λi h=>h,λc h=>by simp[cH]at h,by simp[cH],λ_ _ _ _=>trivial⟩
 |k+1,op,us,hl,hul,hc=>by
  have t:=uW hc;cases hst:ng rows op us with
  |some i=>
   obtain⟨f,p⟩:=xJ hst;obtain⟨M,K,h3⟩:=EN p;have m:rows.getD i []=rows[i]:=by rw[qe,qd f];rfl
   have v:=b _ (qg f) _ (m▸K);have B:=ly (op:=op) (j:=(fl rows op i).toNat) h3;have x:us.getD i eS=eS:=by simp only[nf,qB,wU]at p;exact p.1
   have L:=aeO x i5;have a:=TR b k (op.set (fl rows op i).toNat eS) (us.set i eR) (by simp[hl]) (by simp[hul]) i5;rw[pC t hst];generalize cH rows k (op.set (fl rows op i).toNat eS) (us.set i eR)=r at a;generalize H:fl rows op i=c at*;have E:r.used.getD i eS=eR:=a.keepU i (by rw[jT,g0 ⟨i4,i5⟩]);have s:c∉r.dead:=λh=>by
    have:=(a.dead c h).2;rw[xK h3]at this;cases this
   refine⟨by simp only[zn];have:=a.cW;omega,by simp only[zn];have:=a.used;omega,λj z=>a.keepU j (by rw[jT];split;rfl;exact z),λd u=>⟨(a.dead d u).1,(nT (a.dead d u).2).1⟩,a.deadN,λD U w y=>?_⟩;have o:rows.getD ((i:Int)).toNat []=rows.getD i []:=by rw[ql]
   refine⟨i5,?_,?_,by rw[o];exact K,?_,?_⟩
   ·rw[y i f,x,E];simp
   ·rw[w c v.1 i5,h3];simp[s]
   ·intro A q G;rw[o]at q;have F:=b _ (qg f) _ (m▸q);refine(w A F.1 i5).2 (.inl ?_);cases ho:kE op A with
    |false=>rfl
    |true=>
     have:A∈df op (rows.getD i []):=by rw[df,qJ];exact⟨q,ho⟩
     rw[M]at this;simp at this;exact absurd this G
   ·refine a.good _ _ (λd g l=>?_) (λj z=>?_)
    ·simp only[zh]at l;rw[w d g l];by_cases e:d=c
     ·subst e;simp[xK h3]
     ·cases ho:kE op d with
      |true=>rw[Yd g v.1 ho e];simp[e]
      |false=>
       have:kE (op.set c.toNat eS) d=eS:=by
        cases hh:kE (op.set c.toNat eS) d with
        |false=>rfl
        |true=>rw[(nT hh).1]at ho;cases ho
       rw[this];simp
    ·rw[y j z,jT];by_cases e:i=j
     ·subst e;simp[hul,f]
     ·have N:¬((j:Int)=(i:Int)):=λh=>e i5;simp[e,N]
  |none=>
   obtain⟨I,O,J⟩:=ui (rows:=rows) (us:=us) t;have B:=ly (op:=op) (j:=(ik rows op us).toNat) J;have a:=TR b k (op.set (ik rows op us).toNat eS) us (by simp[hl]) hul i5;rw[pD t hst];generalize cH rows k (op.set (ik rows op us).toNat eS) us=r at a;generalize ik rows op us=c at*;have h3:kE op c=eR:=J;have s:c∉r.dead:=λh=>by
    have:=(a.dead c h).2;rw[xK h3]at this;cases this
   refine⟨by simp only[zn];have:=a.cW;omega,a.used,a.keepU,λd u=>?_,by simp only[yj];exact⟨s,a.deadN⟩,λD U w y=>?_⟩
   ·rcases zb.1 u with rfl|u
    ·exact⟨I,h3⟩
    ·exact⟨(a.dead d u).1,(nT (a.dead d u).2).1⟩
   ·refine a.good D U (λd g l=>?_) y;simp only[zh]at l;rw[w d g l];by_cases e:d=c
    ·subst e;simp[xK h3]
    ·have:kE (op.set c.toNat eS) d=kE op d:=by
      cases ho:kE op d with
      |true=>exact Yd g I ho e
      |false=>
       cases hh:kE (op.set c.toNat eS) d with
       |false=>rfl
       |true=>rw[(nT hh).1]at ho;cases ho
     rw[this];simp[e]
theorem EO(us:List Bool):∀k (c:Int),c∈fK us k↔∃j:Nat,c=j/\j<k/\us.getD j eS=eS
 |0,c=>by simp[fK]
 |k+1,c=>by
  have e:=EO us k c;unfold fK;cases h:us.getD k eS with
  |true=>
   simp only[if_true];rw[e];constructor
   ·rintro⟨j,a,b,d⟩;exact⟨j,a,i5,d⟩
   ·rintro⟨j,a,b,d⟩;refine⟨j,a,?_,d⟩;rcases zo.1 b with b|rfl
    ·exact b
    ·rw[h]at d;cases d
  |false=>
   simp only[zj,if_false,qz,qC];rw[e];constructor
   ·rintro(⟨j,a,b,d⟩|rfl)
    ·exact⟨j,a,i5,d⟩
    ·exact⟨k,i4,i5,h⟩
   ·rintro⟨j,a,b,d⟩;rcases zo.1 b with b|rfl
    ·exact .inl ⟨j,a,b,d⟩
    ·exact .inr a
theorem TS(us:List Bool):∀k,k<=i1 us->i1 (fK us k)+(us.take k).count eR=k
 |0,_=>by simp[fK]
 |k+1,hk=>by
  have a:=TS us k i5;have e:us.getD k eS=us[k]:=by rw[qe,qd i5];rfl
  unfold fK;rw[zJ i5,List.count_append,e];cases us[k]<;>simp<;>omega
theorem AC{rows:cj}{n:Nat}(a:∀r∈rows,∀c∈r,0<=c/\c<n):
  (dM n rows).steps.length+(dM n rows).dead.length=n/\(dM n rows).steps.length+i1 (fK (dM n rows).used rows.length)=i1 rows/\(∀c∈(dM n rows).dead,0<=c/\c<n)/\(dM n rows).dead.Nodup/\
  (∀c∈fK (dM n rows).used rows.length,0<=c/\c<i1 rows)/\uj rows (·∈(dM n rows).dead) (·∈fK (dM n rows).used rows.length) (dM n rows).steps:=by
 have h:=TR a n (qh n eR) (qh rows.length eS) jj jj jj;have p:(dM n rows).used.length=i1 rows:=by unfold dM;rw[uL];simp
 have b:=TS (dM n rows).used rows.length i5;rw[List.take_of_length_le i5]at b;refine⟨by have:=h.cW;simpa[dM]using this,?_,λc d=>?_,h.deadN,λc d=>?_,?_⟩
 ·have:=h.used;have l:(qh rows.length eS).count eR=0:=by simp[List.count_replicate]
  rw[l]at this;unfold dM at*;omega
 ·obtain⟨h0,m⟩:=h.dead c d;have:=abO m;simp at this;omega
 ·obtain⟨j,rfl,f,_⟩:=(EO _ _ _).1 d;omega
 ·refine h.good _ _ (λc k e=>?_) (λi g=>?_)
  ·have:kE (qh n eR) c=eR:=by simp at e;unfold kE;rw[qe,qd i9];simp
   rw[this];simp[dM]
  ·rw[HQ,EO];constructor
   ·rintro⟨j,f,_,o⟩;have:j=i:=i5
    subst this;exact .inr o
   ·rintro(hh|hh)
    ·cases hh
    ·exact⟨i,i4,g,hh⟩
theorem HR{rows:cj}:∀k op us i,(cH rows k op us).used.getD i eS=eR->us.getD i eS=eR∨∃c,((i:Int),c)∈(cH rows k op us).steps
 |0,_,_,_,h=>.inl h
 |k+1,op,us,i,h=>by
  by_cases a:op.contains eR=eR
  ·cases hst:ng rows op us with
   |some j=>
    rw[pC a hst]at h⊢;dsimp only at h⊢;rcases HR k _ _ i h with h1|⟨c,hc⟩
    ·rw[jT]at h1;by_cases b:j=i
     ·subst b;exact .inr ⟨_,qO⟩
     ·rw[g9 λd=>b d.1]at h1;exact .inl h1
    ·exact .inr ⟨c,qH _ hc⟩
   |none=>
    rw[pD a hst]at h⊢;exact HR k _ _ i h
  ·have a:op.contains eR=eS:=j7
   rw[BY a]at h⊢;exact .inl h
theorem HS{rows:cj}{n:Nat}(a:∀r∈rows,∀c∈r,0<=c/\c<(n:Int)):∀k op us,i1 op=n->op.count eR=k->∀c:Nat,op.getD c eS=eR->
  (c:Int)∈(cH rows k op us).dead∨∃i,(i,(c:Int))∈(cH rows k op us).steps
 |0,op,us,hl,hc,c,h=>by
  have:=TQ hc;exfalso;have l:c<i1 op:=by
   by_cases g:c<i1 op
   ·exact g
   ·rw[qe,qS i5]at h;cases h
  rw[List.count_eq_zero]at hc;rw[qe,qd l]at h;exact hc (h▸qg l)
 |k+1,op,us,hl,hc,c,h=>by
  have d:=uW hc;cases hst:ng rows op us with
  |some j=>
   rw[pC d hst];obtain⟨f,m⟩:=xJ hst;obtain⟨u,s,h3⟩:=EN m;have e:rows.getD j []=rows[j]:=by rw[qe,qd f];rfl
   have p:=a _ (qg f) _ (e▸s);have o:=ly (op:=op) (j:=(fl rows op j).toNat) h3;dsimp only;by_cases b:(fl rows op j).toNat=c
   ·exact .inr ⟨j,by rw[show((c:Nat):Int)=fl rows op j by omega];exact qO⟩
   ·rcases HS a k (op.set (fl rows op j).toNat eS) (us.set j eR) (by simp[hl]) i5 c (by rw[jT,g9 λg=>b g.1];exact h)with h5|⟨i,h5⟩
    ·exact .inl h5
    ·exact .inr ⟨i,qH _ h5⟩
  |none=>
   rw[pD d hst];obtain⟨t,v,q⟩:=ui (rows:=rows) (us:=us) d;have o:=ly (op:=op) (j:=(ik rows op us).toNat) q;dsimp only;by_cases b:(ik rows op us).toNat=c
   ·exact .inl (by rw[show((c:Nat):Int)=ik rows op us by omega];exact qO)
   ·rcases HS a k (op.set (ik rows op us).toNat eS) us (by simp[hl]) i5 c (by rw[jT,g9 λg=>b g.1];exact h)with h5|⟨i,h5⟩
    ·exact .inl (qH _ h5)
    ·exact .inr ⟨i,h5⟩
theorem Zo{rows:cj}{op us:List Bool}{c:Int}(h:AB rows op us):AB rows (op.set c.toNat eS) us:=λi e=>by
 have:=h i e;rw[df,wO]at this⊢;exactλd a b=>this d a (nT b).1
theorem EP{rows:cj}{c:Int}(m:[c]∈rows):∀k op us,AB rows op us->(∀d:Int,d<0->d∉(cH rows k op us).dead)->0<=c->c∉(cH rows k op us).dead
 |0,_,_,_,_,_=>by simp[cH]
 |k+1,op,us,hu,_,h0=>by
  by_cases a:op.contains eR=eR
  ·cases hst:ng rows op us with
   |some j=>
    rw[pC a hst];dsimp only;obtain⟨_,l⟩:=xJ hst;exact EP m k _ _ (abN hu l) (λd s b=>by
     have f:∀k op us,∀d∈(cH rows k op us).dead,0<=d:=plan_dead0;have:=f _ _ _ d b;omega) h0
   |none=>
    rw[pD a hst];obtain⟨t,u,q⟩:=ui (rows:=rows) (us:=us) a;dsimp only;intro b;rcases zb.1 b with e|b
    ·obtain⟨j,p,g⟩:=aiP m;have o:df op [c]=[c]:=by rw[df,zp,g0 (show kE op c=eR by rw[e];exact q)];rfl
     have r:nf rows op us j=eR:=by
      unfold nf;rw[g,o];cases hus:us.getD j eS with
      |false=>rfl
      |true=>have:=hu j hus;rw[g,o]at this;cases this
     obtain⟨i,n⟩:∃i,ng rows op us=dB i:=Wr p r;rw[hst]at n;cases n
    ·exact EP m k _ _ (Zo hu) (λd s b=>by have:=plan_dead0 (rows:=rows) _ _ _ d b;omega) h0 b
  ·have a:op.contains eR=eS:=j7
   rw[BY a];simp
where
 plan_dead0 {rows:cj}:∀k op us,∀d∈(cH rows k op us).dead,0<=d
  |0,_,_,d,h=>by simp[cH]at h
  |k+1,op,us,d,h=>by
   by_cases a:op.contains eR=eR
   ·cases hst:ng rows op us with
    |some j=>rw[pC a hst]at h;exact plan_dead0 k _ _ d h
    |none=>
     rw[pD a hst]at h;rcases zb.1 h with rfl|h
     ·exact(ui a).1
     ·exact plan_dead0 k _ _ d h
   ·have a:op.contains eR=eS:=j7
    rw[BY a]at h;simp at h
def uk(R:cj):(Int->Prop)->List (Int×Int)->Prop
 |_,[]=>True
 |D,(i,c)::t=>(0<=i/\i<i1 R)/\¬D c/\c∈R.getD i.toNat []/\(∀a∈R.getD i.toNat [],a≠c->D a)/\uk R (λx=>D x∨x=c) t
theorem CL{R S:cj}{K:Int->Prop}(g:∀r∈R,∀c∈r,¬K c)(u:∀r∈S,∀c∈r,K c):∀{a:List (Int×Int)} {D D' U:Int->Prop},uj (R++S) D U a->(∀c,¬K c->(D c↔D' c))->
  uk R D' (a.filter λp=>decide (p.1<i1 R))
 |[],_,_,_,_,_=>trivial
 |(i,c)::t,D,D',U,h,hD=>by
  obtain⟨w,z,h3,k,x,v⟩:=h;rw[zp];by_cases m:i<i1 R
  ·have e:(R++S).getD i.toNat []=R.getD i.toNat []:=by rw[qe,qo i5,qe]
   have f:R.getD i.toNat []∈R:=by rw[qe,qd i5];exact qg _
   rw[e]at k x;have s:=g _ f c k;rw[g0 o7];refine⟨⟨w.1,m⟩,λn=>h3 ((hD c s).2 n),k,λl b o=>(hD l (g _ f l b)).1 (x l b o),CL g u v λd j=>?_⟩;rw[hD d j]
  ·rw[g9 o7];have f:(R++S).getD i.toNat []∈S:=by have q:=w.2;rw[qx]at q;rw[qe,qj i5,qd i5];exact qg _
   have s:=u _ f c k;refine CL g u v λd j=>?_;rw[<-hD d j];exact⟨λn=>n.elim id λy=>absurd (y▸s) j,.inl⟩
def ev(t:UInt8)(k nd:Nat)(W M:aR)(y:Nat->UInt8)(c:Int):UInt8:=bU (λi=>aS (aE W c.toNat) i) y nd^^^Gf.mul t (aS (aE M c.toNat) k)
theorem Lt{a b:Row}(h:i1 a=i1 b)(c:UInt8)(y:Nat->UInt8)(n:Nat):bU (λj=>aS (cV c a b) j) y n=bU (λj=>aS b j) y n^^^Gf.mul c (bU (λj=>aS a j) y n):=by rw[ga n (λj _=>cO h j) λ_ _=>rfl];exact JJ _ _ _ _ _
theorem TT{V:aR}{m:Nat}(y:Nat->UInt8)(n:Nat):∀{l:aD} {a:Row},i1 a=m->(∀c∈l,i1 (aE V c.toNat)=m)->bU (λj=>aS (cT V a l) j) y n=bU (λj=>aS a j) y n^^^cS (λc=>bU (λj=>aS (aE V c.toNat) j) y n) l
 |[],a,_,_=>by simp[cT,cS]
 |c::l,a,h,hv=>by
  have b:i1 (aE V c.toNat)=i1 a:=by rw[hv c jj,h]
  have:=TT (V:=V) y n (l:=l) (a:=cV 1 (aE V c.toNat) a) (by rw[ca b];exact h) λd e=>hv d p7;rw[cT,zA];rw[cT]at this;rw[this,Lt b,Gf.one_mul,cS];ac_rfl
theorem TU(t:UInt8)(x:Int->UInt8):∀l,cS (λc=>Gf.mul t (x c)) l=Gf.mul t (cS x l)
 |[]=>by simp[cS,Gf.mul_zero]
 |c::l=>by rw[cS,cS,Gf.kH,TU t x l]
theorem Pk{W M:aR}{nd w:Nat}{l:aD}{a m:Row}(e:i1 a=nd)(d:i1 m=w)(b:∀c∈l,i1 (aE W c.toNat)=nd)(f:∀c∈l,i1 (aE M c.toNat)=w)(t:UInt8)(k:Nat)(y:Nat->UInt8):
  bU (λj=>aS (cT W a l) j) y nd^^^Gf.mul t (aS (cT M m l) k)=(bU (λj=>aS a j) y nd^^^Gf.mul t (aS m k))^^^cS (ev t k nd W M y) l:=by
 rw[TT y nd e b,Ls k d f,Gf.kH];have:cS (ev t k nd W M y) l=cS (λc=>bU (λj=>aS (aE W c.toNat) j) y nd) l^^^Gf.mul t (cS (λc=>aS (aE M c.toNat) k) l):=by rw[<-TU,<-TN];rfl
 rw[this];ac_rfl
def il(rest:List ft)(nd:Nat)(s:aR×aR)(p:Int×Int):aR×aR:=
 let r:=rest.getD p.1.toNat ([],[])
 (s.1.set p.2.toNat (cT s.1 (aO nd) (r.1.filter λc=>!decide (c=p.2))),s.2.set p.2.toNat (cT s.2 r.2 (r.1.filter λc=>!decide (c=p.2))))
structure WOk (n nd w:Nat) (D:Int->Prop) (W M:aR):Prop where
 wl:i1 W=n
 ml:i1 M=n
 rw_:∀c:Int,D c->0<=c->c<(n:Int)->i1 (aE W c.toNat)=nd/\(aE M c.toNat).length=w
theorem EQ{W M a b:aR}{t:UInt8}{k nd:Nat}{y:Nat->UInt8}{c:Int}(e:aE a c.toNat=aE W c.toNat)(d:aE b c.toNat=aE M c.toNat):ev t k nd a b y c=ev t k nd W M y c:=by unfold ev;rw[e,d]
theorem Lu{n nd w:Nat}{rest:List ft}(B:∀e∈rest,jh n w e):∀{a:List (Int×Int)} {D:Int->Prop} {W M:aR},uk (rest.map qI) D a->WOk n nd w D W M->
  WOk n nd w (λc=>D c∨∃i,(i,c)∈a) (a.foldl (il rest nd) (W,M)).1 (a.foldl (il rest nd) (W,M)).2/\
  (∀c:Int,D c->0<=c->aE (a.foldl (il rest nd) (W,M)).1 c.toNat=aE W c.toNat/\aE (a.foldl (il rest nd) (W,M)).2 c.toNat=aE M c.toNat)/\
  (∀p∈a,∀t k y,k<w->Sat t k (ev t k nd (a.foldl (il rest nd) (W,M)).1 (a.foldl (il rest nd) (W,M)).2 y) (rest.getD p.1.toNat ([],[])))/\
  (∀t k x y,k<w->(∀c:Int,D c->0<=c->c<(n:Int)->x c=ev t k nd W M y c)->(∀p∈a,Sat t k x (rest.getD p.1.toNat ([],[])))->∀c:Int,(D c∨∃i,(i,c)∈a)->0<=c->c<(n:Int)->x c=ev t k nd (a.foldl (il rest nd) (W,M)).1 (a.foldl (il rest nd) (W,M)).2 y c)
 |[],D,W,M,_,hw=>⟨⟨hw.wl,hw.ml,λc S=>hw.rw_ c (S.elim id λ⟨i,h⟩=>j9)⟩,λ_ _ _=>⟨i4,i4⟩,λp r=>by(cases r),λt k x y N L _ c S h0 o=>L c (S.elim id λ⟨i,h⟩=>j9) h0 o⟩
 |(i,c)::st,D,W,M,hg,hw=>by
  obtain⟨g1,g2,K,g4,g5⟩:=hg;have q:i.toNat<i1 rest:=by have:=g1.2;rw[qy]at this;omega
  obtain⟨e,Y⟩:∃e,e=rest[i.toNat]:=⟨_,rfl⟩
  have Q:rest.getD i.toNat ([],[])=e:=by rw[qe,qd q,Y];rfl
  have ab:(rest.map qI).getD i.toNat []=e.1:=by rw[qe,List.getElem?_map,qd q,Y];rfl
  rw[ab]at K g4;have l:=B e (Y▸qg q);have P:=l.cW c K;obtain⟨F,I⟩:∃F,F=e.1.filter (λd=>!decide (d=c)):=⟨_,rfl⟩
  have u:∀d∈F,d∈e.1/\d≠c:=λd b=>by rw[I,qJ]at b;exact⟨b.1,by simpa using b.2⟩
  have f:∀d∈F,D d/\0<=d/\d<(n:Int):=λd b=>⟨g4 d (u d b).1 (u d b).2,l.cW d (u d b).1⟩
  have l1:∀d∈F,i1 (aE W d.toNat)=nd:=λd b=>(hw.rw_ d (f d b).1 (f d b).2.1 (f d b).2.2).1;have l2:∀d∈F,i1 (aE M d.toNat)=w:=λd b=>(hw.rw_ d (f d b).1 (f d b).2.1 (f d b).2.2).2;have T:i1 (aO nd)=nd:=k8
  have Z:il rest nd (W,M) (i,c)=(W.set c.toNat (cT W (aO nd) F),M.set c.toNat (cT M e.2 F)):=by unfold il;dsimp only;rw[Q,<-I]
  have X:=hw.wl;have R:=hw.ml;have A:∀d:Nat,aE (W.set c.toNat (cT W (aO nd) F)) d=if c.toNat=d then cT W (aO nd) F else aE W d:=λd=>lS
  have v:∀d:Nat,aE (M.set c.toNat (cT M e.2 F)) d=if c.toNat=d then cT M e.2 F else aE M d:=λd=>lS
  have V:WOk n nd w (λx=>D x∨x=c) (W.set c.toNat (cT W (aO nd) F)) (M.set c.toNat (cT M e.2 F)):=by
   refine⟨by simp[X],by simp[R],λd b h0 o=>?_⟩;rw[A,v];by_cases g:c.toNat=d.toNat
   ·rw[g0 g,g0 g];exact⟨kr T l1,kr l.len l2⟩
   ·rw[g9 g,g9 g];exact hw.rw_ d (b.elim id λJ=>absurd (by rw[J]) g) h0 o
  obtain⟨H,r2,r3,r4⟩:=Lu B g5 V;rw[zA,Z];generalize st.foldl (il rest nd) (W.set c.toNat (cT W (aO nd) F),M.set c.toNat (cT M e.2 F))=s at H r2 r3 r4;have z:∀d:Int,D d->0<=d->c.toNat≠d.toNat:=λd b h0 J=>g2 (by rw[show c=d by omega];exact b);have keep:∀d:Int,D d->0<=d->aE s.1 d.toNat=aE W d.toNat/\aE s.2 d.toNat=aE M d.toNat:=λd b h0=>by
   have:=r2 d (.inl b) h0;rw[A,v,g9 (z d b h0),g9 (z d b h0)]at this;exact this
  have U:∀t k y,ev t k nd s.1 s.2 y c=Gf.mul t (aS e.2 k)^^^cS (ev t k nd W M y) F:=λt k y=>by
   have h2:=r2 c (.inr i4) P.1;rw[A,v,g0 rfl,g0 rfl]at h2;unfold ev;rw[h2.1,h2.2,Pk T l.len l1 l2 t k y,fU _ _ nd λj _=>cB _ _,wz];rfl
  have E:∀t k y,cS (ev t k nd s.1 s.2 y) F=cS (ev t k nd W M y) F:=λt k y=>kS λd b=>EQ (keep d (f d b).1 (f d b).2.1).1 (keep d (f d b).1 (f d b).2.1).2;refine⟨⟨H.wl,H.ml,λd b h0 o=>H.rw_ d ?_ h0 o⟩,keep,λp r t k y N=>?_,λt k x y N L hs d b h0 o=>?_⟩
  ·rcases b with b|⟨j,hj⟩
   ·exact .inl (.inl b)
   ·rcases zb.1 hj with hj|hj
    ·injection hj with _ hj;exact .inl (.inr hj)
    ·exact .inr ⟨j,hj⟩
  ·rcases zb.1 r with rfl|r
   ·dsimp only;rw[Q];unfold Sat;rw[BX _ l.nodup K,<-I,U,E,ta]
   ·exact r3 p r t k y N
  ·refine r4 t k x y N (λd b h0 o=>?_) (λp r=>hs p (qH _ r)) d ?_ h0 o
   ·by_cases g:d=c
    ·subst g;have G:=hs (i,d) jj;dsimp only at G;rw[Q]at G;unfold Sat at G;rw[BX _ l.nodup K,<-I,kS (y:=ev t k nd W M y) λO m=>L O (f O m).1 (f O m).2.1 (f O m).2.2]at G;have h6:ev t k nd (W.set d.toNat (cT W (aO nd) F)) (M.set d.toNat (cT M e.2 F)) y d=Gf.mul t (aS e.2 k)^^^cS (ev t k nd W M y) F:=by unfold ev;rw[A,v,g0 i4,g0 i4,Pk T l.len l1 l2 t k y,fU _ _ nd λj _=>cB _ _,wz];rfl
     rw[h6,<-G,ta]
    ·have m:D d:=b.elim id λJ=>absurd J g;rw[L d m h0 o];refine(EQ ?_ ?_).symm
     ·rw[A,g9 i5]
     ·rw[v,g9 i5]
   ·rcases b with b|⟨j,hj⟩
    ·exact .inl (.inl b)
    ·rcases zb.1 hj with hj|hj
     ·injection hj with _ hj;exact .inl (.inr hj)
     ·exact .inr ⟨j,hj⟩
theorem QJ:∀{l m:List Nat},l.Nodup->(∀x∈l,x∈m)->i1 l<=i1 m
 |[],_,_,_=>jj
 |x::l,m,hd,h=>by
  rw[yj]at hd;have b:=h x jj;have d:=QJ (l:=l) (m:=m.erase x) hd.2 λy a=>(List.mem_erase_of_ne λc:y=x=>hd.1 (by rw[<-c];exact a)).2 (h y m5);rw[List.length_erase_of_mem b]at d;have:=List.length_pos_of_mem b;simp;omega
def oY(nd i:Nat):Row:=(aO nd).set i 1
theorem aeP(nd i:Nat):i1 (oY nd i)=nd:=by simp[oY,aO]
theorem aeQ{nd i:Nat}(a:i<nd)(j:Nat):aS (oY nd i) j=if j=i then 1 else 0:=by rw[oY,Pe (by simpa[aO]using a),cB]
theorem aeR{nd i:Nat}(a:i<nd)(y:Nat->UInt8):bU (λj=>aS (oY nd i) j) y nd=y i:=
 JI _ _ i nd a λj _=>by
  rw[aeQ a];by_cases h:j=i
  ·subst h;simp
  ·rw[g9 h,g9 λb=>h b.symm]
def gb(n nd w:Nat)(dead:aD):aR×aR:=
 (dead.zipIdx).foldl (λs p=>(s.1.set p.1.toNat (oY nd p.2),s.2.set p.1.toNat (aO w))) (qh n [],qh n [])
theorem MN(n nd w:Nat)(d:aD)(c:Int):gb n nd w (d++[c])=((gb n nd w d).1.set c.toNat (oY nd d.length),(gb n nd w d).2.set c.toNat (aO w)):=by unfold gb;rw[List.zipIdx_append,List.foldl_append];simp
theorem Pn{n nd w:Nat}{dead:aD}(j:∀c∈dead,0<=c/\c<(n:Int))(m:dead.Nodup):∀k,k<=i1 dead->
  WOk n nd w (·∈dead.take k) (gb n nd w (dead.take k)).1 (gb n nd w (dead.take k)).2/\∀i,(l:i<k)->(o:i<i1 dead)->aE (gb n nd w (dead.take k)).1 dead[i].toNat=oY nd i/\aE (gb n nd w (dead.take k)).2 dead[i].toNat=aO w
 |0,_=>⟨⟨by simp[gb],by simp[gb],λc b=>by simp at b⟩,λi l=>i5⟩
 |k+1,hk=>by
  obtain⟨h,o⟩:=Pn (nd:=nd) (w:=w) j m k i5;have g:k<i1 dead:=i5
  have r:=j _ (qg g);have e:dead.take (k+1)=dead.take k++[dead[k]]:=zJ g;have u:i1 (dead.take k)=k:=i9
  rw[e,MN,u];have s:=h.wl;have p:=h.ml;refine⟨⟨by simp[s],by simp[p],λc b h0 h3=>?_⟩,λi l d=>?_⟩
  ·dsimp only;rw[lS,lS];by_cases a:dead[k].toNat=c.toNat
   ·rw[g0 a,g0 a];exact⟨aeP _ _,k8⟩
   ·rw[g9 a,g9 a];refine h.rw_ c ?_ h0 h3;rcases qz.1 b with b|b
    ·exact b
    ·rw[qC]at b;exact absurd (by rw[b]) a
  ·dsimp only;rw[lS,lS];by_cases f:i=k
   ·subst f;rw[g0 i4,g0 rfl];exact⟨i4,i4⟩
   ·have t:dead[k]≠dead[i]:=λq=>f ((List.getElem_inj m).1 q).symm;have:=j _ (qg d);rw[g9 i5,g9 i5];exact o i i5 d
def iN(nd:Nat)(known:List Bool)(vals:aR)(s:aR×aR):aR×aR:=
 (s.1.mapIdx λc r=>if known.getD c eS then aO nd else r,s.2.mapIdx λc r=>if known.getD c eS then aE vals c else r)
theorem ER{m:aR}{f:Nat->Row->Row}{c:Nat}(h:c<i1 m):aE (m.mapIdx f) c=f c (aE m c):=by rw[bD j6,bD h];simp
def gZ(V:aR)(r:Row)(a:Row):Nat->Row
 |0=>a
 |c+1=>cV (aS r c) (aE V c) (gZ V r a c)
theorem mB{V:aR}{m:Nat}(r:Row){a:Row}(b:i1 a=m):∀{c:Nat},(∀i,i<c->i1 (aE V i)=m)->i1 (gZ V r a c)=m
 |0,_=>b
 |c+1,h=>by
  have:=mB r b (c:=c) λi d=>h i i5;rw[gZ,ca (by rw[h c i5,this])];exact this
theorem Lv{V:aR}{m:Nat}(r:Row){a:Row}(b:i1 a=m)(j:Nat):∀{c:Nat},(∀i,i<c->i1 (aE V i)=m)->aS (gZ V r a c) j=aS a j^^^bU (λi=>aS r i) (λi=>aS (aE V i) j) c
 |0,_=>by simp[gZ,bU]
 |c+1,h=>by
  have e:=mB r b (c:=c) λi d=>h i i5;rw[gZ,cO (by rw[h c i5,e]),Lv r b j (c:=c) λi d=>h i i5,bU];ac_rfl
theorem TV{V:aR}{m:Nat}(r:Row){a:Row}(b:i1 a=m)(y:Nat->UInt8)(n:Nat):∀{c:Nat},(∀i,i<c->i1 (aE V i)=m)->bU (λj=>aS (gZ V r a c) j) y n=bU (λj=>aS a j) y n^^^bU (λi=>aS r i) (λi=>bU (λj=>aS (aE V i) j) y n) c
 |0,_=>by simp[gZ,bU]
 |c+1,h=>by
  have e:=mB r b (c:=c) λi d=>h i i5;rw[gZ,Lt (by rw[h c i5,e]),TV r b y n (c:=c) λi d=>h i i5,bU];ac_rfl
theorem TW(f g g':Nat->UInt8):∀k,bU f (λi=>g i^^^g' i) k=bU f g k^^^bU f g' k
 |0=>by simp[bU]
 |k+1=>by rw[bU,bU,bU,TW f g g' k,Gf.kH];ac_rfl
theorem TX(t:UInt8)(f g:Nat->UInt8):∀k,bU f (λi=>Gf.mul t (g i)) k=Gf.mul t (bU f g k)
 |0=>by simp[bU,Gf.mul_zero]
 |k+1=>by
  rw[bU,bU,TX t f g k,Gf.kH];congr 1;rw[<-Gf.mul_assoc,<-Gf.mul_assoc,Gf.mul_comm (f k) t]
theorem ES{n:Nat}(g:Nat->UInt8):∀{l:aD},(∀x∈l,0<=x/\x<(n:Int))->l.Nodup->bU (λj=>aS (gu n l) j) g n=cS (λc=>g c.toNat) l
 |[],_,_=>by
  rw[cS];refine fU _ _ n λj _=>?_;rw[EI [] (λx a=>by cases a) j];simp
 |c::l,h,hd=>by
  rw[yj]at hd;have o:=h c jj;have k:=ES g (l:=l) (λx a=>h x m5) hd.2;have d:bU (λj=>aS (gu n (c::l)) j) g n=bU (λj=>if(j:Int)∈c::l then 1 else 0) g n:=ga n (λj _=>EI _ h j) λ_ _=>rfl;have e:bU (λj=>aS (gu n l) j) g n=bU (λj=>if(j:Int)∈l then 1 else 0) g n:=ga n (λj _=>EI _ (λx a=>h x m5) j) λ_ _=>rfl;rw[d,cS,<-k,e];rw[Lo (f:=λj=>if(j:Int)∈l then 1 else 0) (f':=λj=>if(j:Int)∈c::l then 1 else 0) (c:=c.toNat) (by rw[g9];rw[show((c.toNat:Nat):Int)=c by omega];exact hd.1) (λi=>by
   by_cases b:i=c.toNat
   ·subst b;rw[g0 i4,g0];rw[show((c.toNat:Nat):Int)=c by omega];simp
   ·rw[g9 b];have:(i:Int)≠c:=λm=>b i5;simp[this]),g0 i5]
  ac_rfl
theorem kernel{nd:Nat}{a:aR}(Z:ba nd a)(P:cb a<nd):∃y:Nat->UInt8,(∃i,i<nd/\y i≠0)/\∀r∈a,bU (λj=>aS r j) y nd=0:=by
 have w:=TM Z;obtain⟨O,W,ad,L,S,⟨p,Y,V,p3,U⟩,J⟩:=w;generalize hT:cb a=T at*;generalize (bL a (eI a)).2=rows at*;have s:∃j,j<nd/\∀i,i<T->p i≠j:=by
  have u:∀T nd:Nat,T<nd->∀p:Nat->Nat,(∀i,i<T->p i<nd)->∃j,j<nd/\∀i,i<T->p i≠j:=by
   intro T nd ah p X;by_cases f:∀j,j<nd->∃i,i<T/\p i=j
   ·exfalso;have B:∀j∈qA nd,j∈(qA T).map p:=λj A=>by
     obtain⟨i,g,rfl⟩:=f j (qG.1 A);exact qu.2 ⟨i,qG.2 g,i4⟩
    have:=QJ vS B;simp at this;omega
   ·simp only[Classical.not_forall,not_exists,not_and]at f;obtain⟨j,A,h⟩:=f;exact⟨j,A,h⟩
  exact u T nd P p Y
 obtain⟨j,A,E⟩:=s;have F:∀i e,i<T->e<T->p i=p e->i=e:=λi e o q h3=>by
  rcases Nat.lt_trichotomy i e with h|h|h
  ·have:=U i e h q;omega
  ·exact h
  ·have:=U e i h o;omega
 let y:Nat->UInt8:=λc=>if c=j then 1 else cS (λi=>if p i.toNat=c then aS (aE rows i.toNat) j else 0) ((qA T).map λi:Nat=>(i:Int))
 have hy:∀i,i<T->y (p i)=aS (aE rows i) j:=λi g=>by
  show(if p i=j then 1 else _)=_;rw[g9 (E i g)];have K:((qA T).map λi:Nat=>(i:Int)).Nodup:=by exact List.Pairwise.map _ (λa b h t=>h (Int.ofNat_inj.1 t)) vS
  rw[BX _ K (c:=(i:Int)) (qu.2 ⟨i,qG.2 g,i4⟩),HK,zW]
  ·simp
  ·intro c n;rw[qJ]at n;obtain⟨e,v,rfl⟩:=qu.1 n.1;have I:e≠i:=λt=>by subst t;simp at n
   rw[ql,g9 λt=>I (F e i (qG.1 v) g t)]
 have Q:∀c,c≠j->(∀i,i<T->p i≠c)->y c=0:=λc n X=>by
  show(if c=j then 1 else _)=_;rw[g9 n,HK];intro d hd;obtain⟨e,v,rfl⟩:=qu.1 hd;rw[ql,g9 (X e (qG.1 v))]
 have G:y j=1:=by show(if j=j then 1 else _)=_;rw[g0 rfl]
 refine⟨y,⟨j,A,by rw[G];decide⟩,λr N=>?_⟩;refine Span.lin O (λr=>bU (λc=>aS r c) y nd) (fU _ _ nd λc _=>cB _ _) (λc x z o q=>Lt i5 c y nd) (λr P=>?_) ((L r).2 (Span.row Z N));obtain⟨k,R,rfl⟩:=fj P;by_cases l:k<T
 ·--the row's own beginning,and j
  have hf:∀c,c<nd->aS (aE rows k) c=0∨y c=0∨c=p k∨c=j:=λc n=>by
   by_cases o:c=j
   ·exact .inr (.inr (.inr o))
   ·by_cases q:∃i,i<T/\p i=c
    ·obtain⟨i,g,rfl⟩:=q;by_cases D:k=i
     ·subst D;exact .inr (.inr (.inl i4))
     ·refine .inl ?_;rw[V i g k R,g9 D]
    ·exact .inr (.inl (Q c o λi g t=>q ⟨i,g,t⟩))
  have M:=Y k l;have H:aS (aE rows k) (p k)=1:=by rw[V k l k R,g0 rfl]
  have I:p k≠j:=E k l;have u:∀m,m<=nd->bU (λc=>aS (aE rows k) c) y m=(if p k<m then aS (aE rows k) j else 0)^^^(if j<m then aS (aE rows k) j else 0):=by
   intro m
   induction m with
   |zero=>intro _;simp[bU]
   |succ m ih=>
    intro hm;rw[bU,ih i5];by_cases o:m=p k
    ·have ab:m≠j:=i5
     rw[o,H,Gf.one_mul,hy k l];rw[g9 (Nat.lt_irrefl _),g0 (Nat.lt_succ_self _)];by_cases h3:j<p k
     ·rw[g0 h3,g0 i5];ac_rfl
     ·rw[g9 h3,g9 i5];ac_rfl
    ·by_cases q:m=j
     ·rw[q,G,Gf.mul_one];rw[g9 (Nat.lt_irrefl j),g0 (Nat.lt_succ_self j),zW];by_cases h3:p k<j
      ·rw[g0 h3,g0 i5]
      ·rw[g9 h3,g9 i5]
     ·have hz:Gf.mul (aS (aE rows k) m) (y m)=0:=by
       rcases hf m i5 with h|h|h|h
       ·rw[h,Gf.zero_mul]
       ·rw[h,Gf.mul_zero]
       ·exact absurd h o
       ·exact absurd h q
      rw[hz,zW];have a1:(p k<m+1)↔(p k<m):=i5
      have a2:(j<m+1)↔(j<m):=i5
      simp only[a1,a2]
  rw[u nd (qm _),g0 M,g0 A,mg]
 ·exact fU _ _ nd λc n=>J k i5 R c n
def dF(n nd:Nat)(rest:List ft)(W:aR)(left:aD)(ahead:aR):aR:=(left.map λi=>cT W (aO nd) (rest.getD i.toNat ([],[])).1)++ahead.map λr=>gZ W r (aO nd) n
def fL(n w:Nat)(rest:List ft)(M:aR)(left:aD)(ahead:aR):aR:=(left.map λi=>cT M (rest.getD i.toNat ([],[])).2 (rest.getD i.toNat ([],[])).1)++ahead.map λr=>gZ M r (aO w) n
def AD(nd:Nat)(known:List Bool)(vals:aR)(W M D:aR):aR:=vals.mapIdx λc r=>if known.getD c eS then r else gZ D (aE W c) (aE M c) nd
def dH(n:Nat)(l:List ft)(ahead:aR):aR:=ahead++l.map λe=>gu n e.1
def iH(w:Nat)(l:List ft)(ahead:aR):aR:=qh ahead.length (aO w)++l.map zI
def at_(X:aR)(k:Nat)(c:Int):UInt8:=aS (aE X c.toNat) k
section
variable {n w:Nat} {l:List ft} {ahead:aR}
theorem BZ(b:ba n ahead):ba n (dH n l ahead):=λr a=>by
 rcases qz.1 a with a|a
 ·exact b r a
 ·obtain⟨e,_,rfl⟩:=qu.1 a;exact sX _ _
theorem Ca(b:∀e∈l,jh n w e):ba w (iH w l ahead):=λr a=>by
 rcases qz.1 a with a|a
 ·rw[(w7.1 a).2];simp[aO]
 ·obtain⟨e,c,rfl⟩:=qu.1 a;exact(b e c).len
theorem Ac:i1 (dH n l ahead)=i1 (iH w l ahead):=by simp[dH,iH]
theorem ET(p:∀e∈l,jh n w e){X:aR}:fJ n w (dH n l ahead) (iH w l ahead) X↔X.length=n/\ba w X/\∀k,k<w->(∀e∈l,Sat 1 k (at_ X k) e)/\∀r∈ahead,bU (λj=>aS r j) (λc=>aS (aE X c) k) n=0:=by
 unfold fJ;refine⟨λ⟨h1,h2,h3⟩=>⟨h1,h2,λk q=>⟨λe h=>?_,λr t=>?_⟩⟩,λ⟨h1,h2,h3⟩=>⟨h1,h2,λi g=>?_⟩⟩
 ·obtain⟨i,g,rfl⟩:=qK h;have:=h3 (i1 ahead+i) m7;have f:aE (dH n l ahead) (i1 ahead+i)=gu n l[i].1:=by rw[bD m7];simp[dH]
  have b:aE (iH w l ahead) (i1 ahead+i)=l[i].2:=by rw[bD p8];simp[iH]
  rw[f,b]at this;have m:=congrArg (λr=>aS r k) this;rw[ig h2 h1 _ k n (qm _),ES _ (p _ h).cW (p _ h).nodup]at m;unfold Sat;rw[Gf.one_mul];exact m
 ·obtain⟨i,g,rfl⟩:=qK t;have:=h3 i m7;have f:aE (dH n l ahead) i=ahead[i]:=by rw[bD m7];simp[dH,wZ g]
  have b:aE (iH w l ahead) i=aO w:=by rw[bD p8];simp[iH,g]
  rw[f,b]at this;have m:=congrArg (λr=>aS r k) this;rw[ig h2 h1 _ k n (qm _),cB]at m;exact m
 ·have o:i1 (aE (iH w l ahead) i)=w:=cA (Ca p) (by rw[<-Ac (n:=n)];exact g);refine eJ (n:=w) (iT h2 h1 _ n (qm _)) o λk q=>?_;rw[ig h2 h1 _ k n (qm _)];simp only[dH,qx,qy]at g;by_cases a:i<i1 ahead
  ·have f:aE (dH n l ahead) i=ahead[i]:=by rw[bD m7];simp[dH,wZ a]
   have b:aE (iH w l ahead) i=aO w:=by rw[bD p8];simp[iH,a]
   rw[f,b,cB];exact(h3 k q).2 _ (qg a)
  ·obtain⟨d,rfl⟩:∃d,i=i1 ahead+d:=⟨i-i1 ahead,i5⟩
   have s:d<i1 l:=i5
   have f:aE (dH n l ahead) (i1 ahead+d)=gu n l[d].1:=by rw[bD m7];simp[dH]
   have b:aE (iH w l ahead) (i1 ahead+d)=l[d].2:=by rw[bD p8];simp[iH]
   have h:=p _ (qg s);rw[f,b,ES _ h.cW h.nodup];have:=(h3 k q).1 _ (qg s);unfold Sat at this;rw[Gf.one_mul]at this;exact this
end
structure gX (n w:Nat) (l:List ft) (ahead:aR) (known:List Bool) (vals:aR) (dead left:aD) (W M:aR):Prop where
 eqs:∀e∈l,jh n w e
 ahd:ba n ahead
 pinv:kt n w l known vals
 calm:kT known vals l=eS
 deadR:∀c∈dead,0<=c/\c<(n:Int)
 deadN:dead.Nodup
 deadK:∀c∈dead,kn known c=eS
 lens:i1 W=n/\M.length=n/\∀c:Nat,c<n->i1 (aE W c)=i1 dead/\(aE M c).length=w
 evKnown:∀t k y,∀c:Int,0<=c->c<(n:Int)->kn known c=eR->ev t k dead.length W M y c=Gf.mul t (aS (aE vals c.toNat) k)
 evDead:∀t k y,∀i,(h:i<i1 dead)->ev t k dead.length W M y dead[i]=y i
 evRest:∀t k y,k<w->(∀i∈left,Sat t k (ev t k dead.length W M y) ((bn known vals l).getD i.toNat ([],[])))->∀e∈bn known vals l,Sat t k (ev t k dead.length W M y) e
 leftR:∀i∈left,0<=i/\i<(i1 (bn known vals l):Int)
 evAll:∀t k x,k<w->(∀c:Int,0<=c->c<(n:Int)->kn known c=eR->x c=Gf.mul t (aS (aE vals c.toNat) k))->(∀e∈bn known vals l,Sat t k x e)->∀c:Int,0<=c->c<(n:Int)->x c=ev t k dead.length W M (λi=>x (dead.getD i 0)) c
section
variable {n w:Nat} {l:List ft} {ahead:aR} {known:List Bool} {vals:aR} {dead left:aD} {W M:aR}
theorem pE(h:kt n w l known vals)(c:∀e∈l,jh n w e):∀e∈bn known vals l,jh n w e:=λe d=>by
 obtain⟨b,a,rfl⟩:=qu.1 (qJ.1 d).1;exact h.Dv (c b a)
theorem CM{a b:UInt8}:a^^^b=0↔a=b:=rq
theorem gX.TY(S:gX n w l ahead known vals dead left W M){i:Int}(m:i∈left)(t:UInt8)(k:Nat)(y:Nat->UInt8):
  bU (λj=>aS (cT W (aO dead.length) ((bn known vals l).getD i.toNat ([],[])).1) j) y dead.length=Gf.mul t (aS (cT M ((bn known vals l).getD i.toNat ([],[])).2 ((bn known vals l).getD i.toNat ([],[])).1) k)↔Sat t k (ev t k dead.length W M y) ((bn known vals l).getD i.toNat ([],[])):=by
 have h:=S.leftR i m;have b:i.toNat<i1 (bn known vals l):=i5
 have g:(bn known vals l).getD i.toNat ([],[])=(bn known vals l)[i.toNat]:=by rw[qe,qd b];rfl
 have a:=pE S.pinv S.eqs _ (qg b);rw[g];generalize (bn known vals l)[i.toNat]=e at*;have o:i1 (aO dead.length)=i1 dead:=k8
 have p:∀c∈e.1,i1 (aE W c.toNat)=i1 dead:=λc d=>((S.lens.2.2 c.toNat) (by have:=a.cW c d;omega)).1;have f:∀c∈e.1,i1 (aE M c.toNat)=w:=λc d=>((S.lens.2.2 c.toNat) (by have:=a.cW c d;omega)).2;have:=Pk o a.len p f t k y;rw[fU _ _ dead.length λj _=>cB _ _,wz]at this;rw[<-CM,this];unfold Sat;rw[CM];exact eq_comm
theorem gX.QK(S:gX n w l ahead known vals dead left W M)(r:Row)(t:UInt8)(k:Nat)(y:Nat->UInt8):
  bU (λj=>aS (gZ W r (aO dead.length) n) j) y dead.length=Gf.mul t (aS (gZ M r (aO w) n) k)↔bU (λj=>aS r j) (λc=>ev t k dead.length W M y (c:Int)) n=0:=by
 have e:=TV (V:=W) (m:=i1 dead) r (a:=aO dead.length) k8 y dead.length (c:=n) λi b=>(S.lens.2.2 i b).1;have d:=Lv (V:=M) (m:=w) r (a:=aO w) k8 k (c:=n) λi b=>(S.lens.2.2 i b).2;rw[e,d,fU _ _ dead.length λj _=>cB _ _,cB,wz,wz,<-CM,<-TX,<-TW];have:(λc:Nat=>ev t k dead.length W M y (c:Int))=λi=>bU (λj=>aS (aE W i) j) y dead.length^^^Gf.mul t (aS (aE M i) k):=by funext c;unfold ev;rw[ql]
 rw[this]
theorem gX.up(S:gX n w l ahead known vals dead left W M){t:UInt8}{k:Nat}{y:Nat->UInt8}(h:k<w)
  (g:∀i,i<i1 (dF n dead.length (bn known vals l) W left ahead)->bU (λj=>aS (aE (dF n dead.length (bn known vals l) W left ahead) i) j) y dead.length=Gf.mul t (aS (aE (fL n w (bn known vals l) M left ahead) i) k)):
  (∀e∈l,Sat t k (ev t k dead.length W M y) e)/\∀r∈ahead,bU (λj=>aS r j) (λc=>ev t k dead.length W M y (c:Int)) n=0:=by
 refine⟨(TO S.pinv S.eqs S.calm h).2 ⟨λc h0 m p=>S.evKnown t k y c h0 m p,S.evRest t k y h λi f=>?_⟩,λr o=>?_⟩
 ·obtain⟨j,a,rfl⟩:=qK f;have:=g j m8;have d:aE (dF n dead.length (bn known vals l) W left ahead) j=cT W (aO dead.length) ((bn known vals l).getD left[j].toNat ([],[])).1:=by rw[bD m8];simp[dF,a]
  have b:aE (fL n w (bn known vals l) M left ahead) j=cT M ((bn known vals l).getD left[j].toNat ([],[])).2 ((bn known vals l).getD left[j].toNat ([],[])).1:=by rw[bD p9];simp[fL,a]
  rw[d,b]at this;exact(S.TY f t k y).1 this
 ·obtain⟨j,a,rfl⟩:=qK o;have:=g (i1 left+j) m8;have d:aE (dF n dead.length (bn known vals l) W left ahead) (i1 left+j)=gZ W ahead[j] (aO dead.length) n:=by rw[bD m8];simp[dF]
  have b:aE (fL n w (bn known vals l) M left ahead) (i1 left+j)=gZ M ahead[j] (aO w) n:=by rw[bD p9];simp[fL]
  rw[d,b]at this;exact(S.QK _ t k y).1 this
theorem gX.down(S:gX n w l ahead known vals dead left W M){t:UInt8}{k:Nat}{x:Int->UInt8}(s:k<w)(y:∀e∈l,Sat t k x e)(D:∀r∈ahead,bU (λj=>aS r j) (λc=>x (c:Int)) n=0):
  (∀c:Int,0<=c->c<(n:Int)->x c=ev t k dead.length W M (λi=>x (dead.getD i 0)) c)/\
  ∀i,i<i1 (dF n dead.length (bn known vals l) W left ahead)->bU (λj=>aS (aE (dF n dead.length (bn known vals l) W left ahead) i) j) (λi=>x (dead.getD i 0)) dead.length=Gf.mul t (aS (aE (fL n w (bn known vals l) M left ahead) i) k):=by
 obtain⟨A,p⟩:=(TO S.pinv S.eqs S.calm s).1 y;have m:=S.evAll t k x s A p;refine⟨m,λi v=>?_⟩;simp only[dF,qx,qy]at v;by_cases a:i<i1 left
 ·have o:aE (dF n dead.length (bn known vals l) W left ahead) i=cT W (aO dead.length) ((bn known vals l).getD left[i].toNat ([],[])).1:=by rw[bD m8];simp[dF,a]
  have h:aE (fL n w (bn known vals l) M left ahead) i=cT M ((bn known vals l).getD left[i].toNat ([],[])).2 ((bn known vals l).getD left[i].toNat ([],[])).1:=by rw[bD p9];simp[fL,a]
  rw[o,h];refine(S.TY (qg a) t k _).2 ?_;have B:=S.leftR _ (qg a);have b:left[i].toNat<i1 (bn known vals l):=i5
  have u:(bn known vals l).getD left[i].toNat ([],[])=(bn known vals l)[left[i].toNat]:=by rw[qe,qd b];rfl
  rw[u];have q:=p _ (qg b);have f:=pE S.pinv S.eqs _ (qg b);unfold Sat at q⊢;rw[<-q];exact kS λc g=>(m c (f.cW c g).1 (f.cW c g).2).symm
 ·obtain⟨d,rfl⟩:∃d,i=i1 left+d:=⟨i-i1 left,i5⟩
  have z:d<i1 ahead:=i5
  have o:aE (dF n dead.length (bn known vals l) W left ahead) (i1 left+d)=gZ W ahead[d] (aO dead.length) n:=by rw[bD m8];simp[dF]
  have h:aE (fL n w (bn known vals l) M left ahead) (i1 left+d)=gZ M ahead[d] (aO w) n:=by rw[bD p9];simp[fL]
  rw[o,h];refine(S.QK _ t k _).2 ?_;rw[<-D _ (qg z)];exact ga n (λ_ _=>rfl) λc g=>(m (c:Int) i5 i5).symm
theorem rC(S:gX n w l ahead known vals dead left W M):ba dead.length (dF n dead.length (bn known vals l) W left ahead)/\ba w (fL n w (bn known vals l) M left ahead):=by
 have d:∀i∈left,jh n w ((bn known vals l).getD i.toNat ([],[])):=λi b=>by
  have h:=S.leftR i b;have e:i.toNat<i1 (bn known vals l):=i5
  rw[qe,qd e];exact pE S.pinv S.eqs _ (qg e)
 constructor
 ·intro r a;rcases qz.1 a with a|a
  ·obtain⟨i,b,rfl⟩:=qu.1 a;exact kr k8 λc f=>((S.lens.2.2 c.toNat) (by have:=(d i b).cW c f;omega)).1
  ·obtain⟨x,g,rfl⟩:=qu.1 a;exact mB x k8 λi b=>(S.lens.2.2 i b).1
 ·intro r a;rcases qz.1 a with a|a
  ·obtain⟨i,b,rfl⟩:=qu.1 a;exact kr (d i b).len λc f=>((S.lens.2.2 c.toNat) (by have:=(d i b).cW c f;omega)).2
  ·obtain⟨x,g,rfl⟩:=qu.1 a;exact mB x k8 λi b=>(S.lens.2.2 i b).2
theorem Cb:i1 (dF n dead.length (bn known vals l) W left ahead)=i1 (fL n w (bn known vals l) M left ahead):=by simp[dF,fL]
theorem gX.Pf(S:gX n w l ahead known vals dead left W M)(O:1<=w)(d:cb (dH n l ahead)=n):cb (dF n dead.length (bn known vals l) W left ahead)=i1 dead:=by
 obtain⟨H,Y⟩:=rC S;have P:=lT H;by_cases F:cb (dF n dead.length (bn known vals l) W left ahead)<i1 dead
 ·exfalso;obtain⟨y,⟨i,b,L⟩,V⟩:=kernel H F;have o:=S.up (t:=0) (k:=0) (y:=y) O λi b=>by rw[V _ (mem_row b),Gf.zero_mul]
  have G:=BZ (l:=l) S.ahd;have s:ba 1 (qh (dH n l ahead).length (aO 1)):=λr d=>by rw[(w7.1 d).2];simp[aO]
  have f:i1 (dH n l ahead)=i1 (qh (dH n l ahead).length (aO 1)):=jj
  have N:fJ n 1 (dH n l ahead) (qh (dH n l ahead).length (aO 1)) (qh n (aO 1)):=by
   have a:ba 1 (qh n (aO 1)):=λr d=>by rw[(w7.1 d).2];simp[aO]
   refine⟨jj,a,λi b=>?_⟩;refine eJ (n:=1) (iT a jj _ n (qm _)) (cA s k7) λk U=>?_;rw[ig a jj _ k n (qm _)];have D:aE (qh (dH n l ahead).length (aO 1)) i=aO 1:=by rw[bD k7];simp
   rw[D,cB];have:∀g,g<=n->bU (λj=>aS (aE (dH n l ahead) i) j) (λc=>aS (aE (qh n (aO 1)) c) k) g=0:=by
    intro g
    induction g with
    |zero=>intro _;rfl
    |succ g ih=>
     intro K;have R:aE (qh n (aO 1)) g=aO 1:=by rw[bD i9];simp
     rw[bU,ih i5,R,cB,Gf.mul_zero];rfl
   exact this n (qm _)
  have I:fJ n 1 (dH n l ahead) (qh (dH n l ahead).length (aO 1)) ((qA n).map λc:Nat=>[ev 0 0 dead.length W M y (c:Int)]):=by
   have a:ba 1 ((qA n).map λc:Nat=>[ev 0 0 dead.length W M y (c:Int)]):=λr d=>by obtain⟨c,_,rfl⟩:=qu.1 d;rfl
   have q:∀c:Nat,c<n->aE ((qA n).map λc:Nat=>[ev 0 0 dead.length W M y (c:Int)]) c=[ev 0 0 dead.length W M y (c:Int)]:=λc p=>by rw[bD pa];simp
   refine⟨jj,a,λi b=>?_⟩;refine eJ (n:=1) (iT a jj _ n (qm _)) (cA s k7) λk U=>?_;have A:k=0:=i5
   subst A;rw[ig a jj _ 0 n (qm _)];have D:aE (qh (dH n l ahead).length (aO 1)) i=aO 1:=by rw[bD k7];simp
   rw[D,cB];have X:bU (λj=>aS (aE (dH n l ahead) i) j) (λc=>aS (aE ((qA n).map λc:Nat=>[ev 0 0 dead.length W M y (c:Int)]) c) 0) n=bU (λj=>aS (aE (dH n l ahead) i) j) (λc=>ev 0 0 dead.length W M y (c:Int)) n:=
    ga n (λ_ _=>rfl) λc p=>by rw[q c p];rfl
   rw[X];have B:aE (dH n l ahead) i∈ahead++l.map λe=>gu n e.1:=mem_row b;obtain z|z:=qz.1 B
   ·exact o.2 _ z
   ·obtain⟨e,u,x⟩:=qu.1 z;rw[<-x,ES _ (S.eqs e u).cW (S.eqs e u).nodup];have v:=o.1 e u;unfold Sat at v;rw[Gf.zero_mul]at v;refine Eq.trans (kS λc p=>?_) v;have:=(S.eqs e u).cW c p;rw[show((c.toNat:Nat):Int)=c by omega]
  have T:=(mA f G s d N).1;have Q:=(mA f G s d I).1;have E:=Q.trans T.symm;have J:=S.deadR _ (qg b);have h:=congrArg (λm=>aS (aE m dead[i].toNat) 0) E;rw[bD i9,bD i9]at h;simp only[List.getElem_map,List.getElem_range,List.getElem_replicate,cB]at h;rw[show((dead[i].toNat:Nat):Int)=dead[i]by omega]at h;have h8:aS [ev 0 0 dead.length W M y dead[i]] 0=ev 0 0 dead.length W M y dead[i]:=rfl;rw[h8,S.evDead 0 0 y i b]at h;exact L h
 ·omega
theorem Po(S:gX n w l ahead known vals dead left W M){D:aR}(h:i1 D=i1 dead)(f:ba w D){c:Nat}(d:c<n):
  (aE (AD dead.length known vals W M D) c).length=w/\∀k,aS (aE (AD dead.length known vals W M D) c) k=ev 1 k dead.length W M (λi=>aS (aE D i) k) (c:Int):=by
 have j:=S.pinv.vlen;have b:aE (AD dead.length known vals W M D) c=if known.getD c eS then aE vals c else gZ D (aE W c) (aE M c) dead.length:=by unfold AD;rw[ER i5]
 have e:=S.lens.2.2 c d;rw[b];cases hkn:known.getD c eS with
 |true=>
  rw[g0 rfl];refine⟨by have:=S.pinv.row c d;rw[hkn]at this;simpa using this,λk=>?_⟩;have:=S.evKnown 1 k (λi=>aS (aE D i) k) (c:Int) i5 i5 (by unfold kn;rw[ql];exact hkn);rw[this,ql,Gf.one_mul]
 |false=>
  rw[g9 jj];have a:∀i,i<i1 dead->i1 (aE D i)=w:=λi g=>cA f;refine⟨mB _ e.2 a,λk=>?_⟩;rw[Lv _ e.2 k a];unfold ev;rw[ql,Gf.one_mul,vp]
theorem ahB(h:i1 vals=n){D:aR}:i1 (AD dead.length known vals W M D)=n:=by simp[AD,h]
theorem gX.Zp(S:gX n w l ahead known vals dead left W M){D:aR}(q:fJ dead.length w (dF n dead.length (bn known vals l) W left ahead) (fL n w (bn known vals l) M left ahead) D):fJ n w (dH n l ahead) (iH w l ahead) (AD dead.length known vals W M D):=by
 obtain⟨b,a,g⟩:=q;obtain⟨v,u⟩:=rC S;have h:=ahB (dead:=dead) (known:=known) (W:=W) (M:=M) S.pinv.vlen (D:=D);refine(ET S.eqs).2 ⟨h,λr f=>?_,λk s=>?_⟩
 ·obtain⟨c,d,rfl⟩:=fj f;exact(Po S b a i5).1
 ·have j:=S.up (t:=1) (k:=k) (y:=λi=>aS (aE D i) k) s λi o=>by
   have:=congrArg (λr=>aS r k) (g i o);rw[ig a b _ k dead.length (qm _)]at this;rw[this,Gf.one_mul]
  refine⟨λe m=>?_,λr f=>?_⟩
  ·have h3:=j.1 e m;unfold Sat at h3⊢;rw[<-h3];refine kS λc d=>?_;have p:=(S.eqs e m).cW c d;unfold at_;rw[(Po S b a (show c.toNat<n by omega)).2 k,show((c.toNat:Nat):Int)=c by omega]
  ·rw[<-j.2 r f];exact ga n (λ_ _=>rfl) λc d=>(Po S b a d).2 k
theorem gX.Ws(S:gX n w l ahead known vals dead left W M){X:aR}(o:fJ n w (dH n l ahead) (iH w l ahead) X):fJ dead.length w (dF n dead.length (bn known vals l) W left ahead) (fL n w (bn known vals l) M left ahead) (dead.map λc=>aE X c.toNat):=by
 obtain⟨s,p,m⟩:=(ET S.eqs).1 o;obtain⟨u,q⟩:=rC S;have d:ba w (dead.map λc=>aE X c.toNat):=λr e=>by
  obtain⟨c,h,rfl⟩:=qu.1 e;have:=S.deadR c h;exact cA p
 have a:i1 (dead.map λc=>aE X c.toNat)=i1 dead:=jj
 refine⟨a,d,λi g=>eJ (n:=w) (iT d a _ _ (qm _)) (cA q (by rw[<-Cb (n:=n) (w:=w)];exact g)) λk b=>?_⟩;rw[ig d a _ k dead.length (qm _)];have h3:=(S.down (t:=1) (x:=at_ X k) b (m k b).1 (λr e=>by
  have:=(m k b).2 r e;rw[<-this];exact ga n (λ_ _=>rfl) λc h=>by unfold at_;rw[ql])).2 i g
 rw[Gf.one_mul]at h3;rw[<-h3];refine ga _ (λ_ _=>rfl) λj f=>?_;unfold at_;rw[bD rb,qe,qd f];simp
end
def iD(known:List Bool)(i:Nat):cj:=((qA i).filter λc=>known.getD c eS).map λc:Nat=>[(c:Int)]
theorem Pp(known:List Bool)(i:Nat):iD known (i+1)=iD known i++if known.getD i eS then[[(i:Int)]]else[]:=by unfold iD;rw[List.range_succ,List.filter_append,List.map_append];cases h:known.getD i eS<;>simp only[zp,h,List.filter_nil]<;>rfl
theorem FU(known:List Bool)(i:Nat):i1 (iD known i)<=i:=by unfold iD;rw[qy];exact zd (qQ _ _) jj
def rowsOf(R:List ft)(known:List Bool)(n:Nat):cj:=R.map qI++iD known n
def gU(R:List ft)(known:List Bool)(n:Nat):Pl:=dM n (rowsOf R known n)
def nU(R:List ft)(known:List Bool)(n:Nat):List (Int×Int):=(gU R known n).steps.filter λx=>decide (x.1<i1 R)
def leftOf(R:List ft)(known:List Bool)(n:Nat):aD:=(fK (gU R known n).used (rowsOf R known n).length).filter λx=>decide (x<i1 R)
theorem Cc{known:List Bool}{n:Nat}{r:aD}(h:r∈iD known n):∃c:Nat,r=[(c:Int)]/\c<n/\known.getD c eS=eR:=by obtain⟨c,a,rfl⟩:=qu.1 h;rw[qJ,qG]at a;exact⟨c,i4,a.1,a.2⟩
theorem HT{rows:cj}:∀{d:List (Int×Int)} {D U:Int->Prop},uj rows D U d->∀i c,(i,c)∈d->(0<=i/\i<i1 rows)/\c∈rows.getD i.toNat []
 |[],_,_,_,_,_,h=>j9
 |(i',c')::t,D,U,hg,i,c,h=>by
  obtain⟨g,_,_,f,_,e⟩:=hg;rcases zb.1 h with h|h
  ·injection h with a b;subst a;subst b;exact⟨g,f⟩
  ·exact HT e i c h
section
variable {n w:Nat} {l:List ft} {ahead:aR} {known:List Bool} {vals:aR}
theorem Ad(f:∀e∈bn known vals l,jh n w e):∀r∈rowsOf (bn known vals l) known n,∀c∈r,0<=c/\c<(n:Int):=λr a c b=>by
 rcases qz.1 a with a|a
 ·obtain⟨e,g,rfl⟩:=qu.1 a;exact(f e g).cW c b
 ·obtain⟨d,rfl,h,_⟩:=Cc a;rw[qC]at b;subst b;omega
theorem QL(m:∀e∈l,jh n w e)(f:kt n w l known vals):uk ((bn known vals l).map qI) (·∈(gU (bn known vals l) known n).dead) (nU (bn known vals l) known n):=by
 have h:=pE f m;obtain⟨_,_,_,_,_,g⟩:=AC (Ad h);have:=CL (R:=(bn known vals l).map qI) (S:=iD known n) (K:=λc=>kn known c=eR) (λr b c a=>?_) (λr b c a=>?_) g (D':=(·∈(gU (bn known vals l) known n).dead)) λc _=>Iff.rfl
 ·rw[qy]at this;exact this
 ·obtain⟨e,o,rfl⟩:=qu.1 b;obtain⟨i,j,rfl⟩:=qu.1 (qJ.1 o).1;rw[HM f i c a];simp
 ·obtain⟨d,rfl,_,k⟩:=Cc b;rw[qC]at a;subst a;unfold kn;rw[ql];exact k
theorem MO(o:∀e∈l,jh n w e)(j:kt n w l known vals):
  (∀c∈(gU (bn known vals l) known n).dead,0<=c/\c<(n:Int))/\(gU (bn known vals l) known n).dead.Nodup/\(∀c∈(gU (bn known vals l) known n).dead,kn known c=eS)/\
  (∀i∈leftOf (bn known vals l) known n,0<=i/\i<(i1 (bn known vals l):Int))/\(gU (bn known vals l) known n).dead.length<=n:=by
 have k:=pE j o;obtain⟨p,q,a3,a4,a5,g⟩:=AC (Ad k);refine⟨a3,a4,λc h=>?_,λi a=>?_,by unfold gU;omega⟩
 ·have b:=a3 c h;cases hk:kn known c with
  |false=>rfl
  |true=>
   exfalso;have f:[c]∈rowsOf (bn known vals l) known n:=qz.2 (.inr (qu.2 ⟨c.toNat,qJ.2 ⟨qG.2 i5,hk⟩,by rw[show((c.toNat:Nat):Int)=c by omega]⟩));exact EP f n (qh n eR) (qh _ eS) (λi a=>by rw[HQ]at a;cases a) (λd r f=>by have:=a3 d f;omega) b.1 h
 ·unfold leftOf at a;rw[qJ]at a;have:=a5 i a.1;have m:i<(i1 (bn known vals l):Int):=by simpa using a.2
  exact⟨this.1,m⟩
theorem aeS(s:∀e∈l,jh n w e)(q:kt n w l known vals){c:Int}(u:0<=c)(t:c<(n:Int))(f:kn known c=eS):c∈(gU (bn known vals l) known n).dead∨∃i,(i,c)∈nU (bn known vals l) known n:=by
 have j:=pE q s;obtain⟨_,_,_,_,_,g⟩:=AC (Ad j);have a:=HS (Ad j) n (qh n eR) (qh (rowsOf (bn known vals l) known n).length eS) jj jj c.toNat (by rw[qe,qd i9];simp);rw[show((c.toNat:Nat):Int)=c by omega]at a;rcases a with a|⟨i,a⟩
 ·exact .inl a
 ·refine .inr ⟨i,qJ.2 ⟨a,?_⟩⟩;obtain⟨k,h⟩:=HT g i c a;by_cases m:i<(i1 (bn known vals l):Int)
  ·simpa using m
  ·exfalso;have p:=k.2;rw[rowsOf,qx,qy]at p;have o:(rowsOf (bn known vals l) known n).getD i.toNat []∈iD known n:=by rw[rowsOf,qe,qj n9,qd n9];exact qg _
   obtain⟨d,r,_,b⟩:=Cc o;rw[r,qC]at h;subst h;unfold kn at f;rw[ql,b]at f;cases f
def SJ(n w:Nat)(known:List Bool)(vals:aR)(R:List ft):aR×aR:=
 iN (gU R known n).dead.length known vals ((nU R known n).foldl (il R (gU R known n).dead.length) (gb n (gU R known n).dead.length w (gU R known n).dead))
theorem aeT{nd:Nat}{s:aR×aR}{c:Int}(d:0<=c)(b:c.toNat<i1 s.1)(a:c.toNat<i1 s.2):
  aE (iN nd known vals s).1 c.toNat=(if kn known c then aO nd else aE s.1 c.toNat)/\aE (iN nd known vals s).2 c.toNat=if kn known c then aE vals c.toNat else aE s.2 c.toNat:=by
 unfold iN kn;exact⟨ER b,ER a⟩
theorem aeU(L:∀e∈l,jh n w e)(hA:ba n ahead)(A:kt n w l known vals)(T:kT known vals l=eS):
  gX n w l ahead known vals (gU (bn known vals l) known n).dead (leftOf (bn known vals l) known n) (SJ n w known vals (bn known vals l)).1 (SJ n w known vals (bn known vals l)).2:=by
 have I:=pE A L;have X:=QL L A;have a:=λc h0 f o=>aeS (c:=c) L A h0 f o;obtain⟨G,O,N,f4,f5⟩:=MO L A;have b:∀j:Nat,j<i1 (bn known vals l)->(∃c,((j:Int),c)∈nU (bn known vals l) known n)∨(j:Int)∈leftOf (bn known vals l) known n:=λj Q=>by
  cases hu:(gU (bn known vals l) known n).used.getD j eS with
  |true=>
   rcases HR n (qh n eR) (qh _ eS) j hu with h|⟨c,h⟩
   ·rw[HQ]at h;cases h
   ·exact .inl ⟨c,qJ.2 ⟨h,i9⟩⟩
  |false=>exact .inr (qJ.2 ⟨(EO _ _ _).2 ⟨j,i4,by rw[rowsOf,qx,qy];omega,hu⟩,i9⟩)
 have s:∀e∈bn known vals l,∀c∈e.1,kn known c=eS:=λe v c M=>by
  obtain⟨e0,ad,rfl⟩:=qu.1 (qJ.1 v).1;exact HM A e0 c M
 unfold SJ;obtain⟨R,m⟩:∃R,R=bn known vals l:=⟨_,rfl⟩
 rw[<-m]at I X G O N f4 f5 b a s⊢;obtain⟨D,U⟩:∃D,D=(gU R known n).dead:=⟨_,rfl⟩
 obtain⟨ST,r⟩:∃ST,ST=nU R known n:=⟨_,rfl⟩
 rw[<-U,<-r]at X a;rw[<-r]at b;rw[<-U]at G O N f5;rw[<-U,<-r];obtain⟨Y,du⟩:=Pn (nd:=i1 D) (w:=w) G O D.length (qm _);rw[List.take_length]at Y du;obtain⟨z,keep,V,K⟩:=Lu I X Y;generalize ab:ST.foldl (il R D.length) (gb n D.length w D)=S0 at*;have W:=z.wl;have S:=z.ml;have fr:∀c:Int,0<=c->c<(n:Int)->aE (iN D.length known vals S0).1 c.toNat=(if kn known c then aO D.length else aE S0.1 c.toNat)/\aE (iN D.length known vals S0).2 c.toNat=if kn known c then aE vals c.toNat else aE S0.2 c.toNat:=λc h0 f=>aeT h0 i5 i5
 have u:∀t k y (c:Int),0<=c->c<(n:Int)->kn known c=eS->ev t k D.length (iN D.length known vals S0).1 (iN D.length known vals S0).2 y c=ev t k D.length S0.1 S0.2 y c:=λt k y c h0 f o=>by
  have:=fr c h0 f;rw[o]at this;exact EQ this.1 this.2
 have B:∀t k y (c:Int),0<=c->c<(n:Int)->kn known c=eR->ev t k D.length (iN D.length known vals S0).1 (iN D.length known vals S0).2 y c=Gf.mul t (aS (aE vals c.toNat) k):=λt k y c h0 f o=>by
  have:=fr c h0 f;rw[o,g0 rfl,g0 rfl]at this;unfold ev;rw[this.1,this.2,fU _ _ D.length λj _=>cB _ _,wz]
 have E:∀t k y i,(h:i<i1 D)->ev t k D.length (gb n D.length w D).1 (gb n D.length w D).2 y D[i]=y i:=λt k y i h=>by
  have:=du i h h;unfold ev;rw[this.1,this.2,aeR h,cB,Gf.mul_zero,zW]
 have H:∀i:Int,0<=i->i<(i1 R:Int)->R.getD i.toNat ([],[])∈R:=λi h0 f=>by
  rw[qe,qd i5];exact qg _
 refine⟨L,hA,A,T,G,O,N,⟨by simp[iN,W],by simp[iN,S],λc M=>?_⟩,B,λt k y i h=>?_,λt k y o F e v=>?_,by rw[<-m];exact f4,λt k x o hx F c h0 f=>?_⟩
 ·have h:=fr (c:Int) i5 i5;rw[ql]at h;rw[h.1,h.2];cases o:kn known (c:Int)with
  |true=>
   rw[g0 i4,g0 rfl];refine⟨k8,?_⟩;have:=A.HL (c:=(c:Int)) i5 i5 o
   rwa [ql]at this
  |false=>
   rw[g9 jj,g9 jj];have:=z.rw_ (c:Int) (a _ i5 i5 o) i5 i5
   rwa [ql]at this
 ·have P:=G _ (qg h);rw[u t k y _ P.1 P.2 (N _ (qg h)),<-E t k y i h];exact EQ (keep _ (qg h) P.1).1 (keep _ (qg h) P.1).2
 ·rw[<-m]at v F;obtain⟨j,Q,rfl⟩:=qK v;have ej:R.getD ((j:Int)).toNat ([],[])=R[j]:=by rw[ql,qe,qd Q];rfl
  rcases b j Q with⟨c,M⟩|hlf
  ·have:=V _ M t k y o;dsimp only at this;rw[ej]at this;unfold Sat at this⊢;rw[<-this];exact kS λd J=>u t k y d ((I _ v).cW d J).1 ((I _ v).cW d J).2 (s _ v d J)
  ·have:=F _ hlf
   rwa [ej]at this
 ·rw[<-m]at F;cases hkc:kn known c with
  |true=>rw[hx c h0 f hkc,B _ _ _ c h0 f hkc]
  |false=>
   rw[u _ _ _ c h0 f hkc];refine K t k x _ o (λd J h2 h3=>?_) (λp hp=>?_) c (a c h0 f hkc) h0 f
   ·obtain⟨i,Z,rfl⟩:=qK J;rw[E t k _ i Z,qe,qd Z];rfl
   ·have q:p∈nU R known n:=r▸hp;unfold nU at q;rw[qJ]at q;have h2:p.1<(i1 R:Int):=by simpa using q.2
    have h3:0<=p.1:=by obtain⟨_,_,_,_,_,g⟩:=AC (rows:=rowsOf R known n) (n:=n) (by rw[m];exact Ad (m▸I));exact(HT g p.1 p.2 q.1).1.1
    exact F _ (H _ h3 h2)
end
def xL(n:Nat)(seed:Int)(l:List (Int×Row)):List ft:=l.map λx=>(dv n seed x.1,x.2)
def te(p:Int×Int×Int)(l:List (Int×Row)):aR:=qh p.2.1.toNat (aO p.2.2.toNat)++l.map zI
structure Cd (p:Int×Int×Int) (x:Int×Row):Prop where
 id:bX x.1=eR
 len:i1 x.2=p.2.2.toNat
theorem ahC{n:Nat}(d:1<=n)(c:n<=20)(seed id:Int):(dv n seed id).Pairwise (·<·):=by have a:=Wk n seed id;have b:=EH d c seed id;rw[List.Nodup]at b;exact(a.and b).imp λ⟨d,c⟩=>i5
section
variable {p:Int×Int×Int} {seed:Int} {l:List (Int×Row)} {n w:Nat}
theorem aiQ(b:1<=n)(a:n<=20)(h:∀x∈l,Cd p x)(f:p.2.2.toNat=w):∀e∈xL n seed l,jh n w e/\e.1.Pairwise (·<·):=λe i=>by
 obtain⟨x,d,rfl⟩:=qu.1 i;exact⟨⟨λc g=>nt b a g,EH b a seed x.1,by rw[<-f];exact(h x d).len⟩,ahC b a seed x.1⟩
theorem Zq(d:bO p=eR)(b:(bJ p).toNat=n)(e:∀x∈l,Cd p x):dH n (xL n seed l) (bF p.1.toNat p.2.1.toNat)=dR p seed (l.map qI):=by
 unfold dH dR xL;rw[g0 d,b];have:(l.map qI).filter bX=l.map qI:=zO.2 λi c=>by
  obtain⟨x,a,rfl⟩:=qu.1 c;exact(e x a).id
 rw[this,w6,w6];rfl
theorem Zr(a:p.2.2.toNat=w):iH w (xL n seed l) (bF p.1.toNat p.2.1.toNat)=te p l:=by unfold iH te xL;rw[a,w6];simp[bF]
end
section
variable {n w:Nat} {l:List ft} {ahead:aR} {known:List Bool} {vals:aR} {dead left:aD} {W M:aR}
theorem abQ(c:∀e∈l,jh n w e)(f:ba n ahead)(h:kt n w l known vals)(b:kT known vals l=eR)(d:cb (dH n l ahead)=n):¬lL n (dH n l ahead) (iH w l ahead):=λi=>by
 obtain⟨k,g,a⟩:=Zn h c b;have j:=ru Ac (BZ f) (Ca c) d i;exact a _ (((ET c).1 j).2.2 k g).1
theorem gX.Ye(S:gX n w l ahead known vals dead left W M)(a:cb (dH n l ahead)=n){D:aR}(b:fJ dead.length w (dF n dead.length (bn known vals l) W left ahead) (fL n w (bn known vals l) M left ahead) D):
  lL n (dH n l ahead) (iH w l ahead)/\AD dead.length known vals W M D=go n (dH n l ahead) (iH w l ahead):=by
 have h:=mA Ac (BZ S.ahd) (Ca S.eqs) a (S.Zp b);exact⟨h.2,h.1⟩
theorem gX.Yf(S:gX n w l ahead known vals dead left W M)(b:cb (dH n l ahead)=n)(a:lL n (dH n l ahead) (iH w l ahead)):fJ dead.length w (dF n dead.length (bn known vals l) W left ahead) (fL n w (bn known vals l) M left ahead) (dead.map λc=>aE (go n (dH n l ahead) (iH w l ahead)) c.toNat):=
 S.Ws (ru Ac (BZ S.ahd) (Ca S.eqs) b a)
theorem gX.Zs(S:gX n w l ahead known vals dead left W M)(f:1<=w)(b:cb (dH n l ahead)=n):lL dead.length (dF n dead.length (bn known vals l) W left ahead) (fL n w (bn known vals l) M left ahead)↔lL n (dH n l ahead) (iH w l ahead):=by obtain⟨d,e⟩:=rC S;have a:=S.Pf f b;exact⟨λc=>(S.Ye b (ru Cb d e a c)).1,λc=>(mA Cb d e a (S.Yf b c)).2⟩
theorem MP{a b:aR}(h:i1 a=i1 b):fJ 0 w a b []↔∀r∈b,r=aO w:=by
 unfold fJ;constructor
 ·rintro⟨_,_,h3⟩ r c;obtain⟨i,d,rfl⟩:=fj c;exact(h3 i i5).symm
 ·intro e;refine⟨i4,λr c=>(by cases c),λi d=>?_⟩;have:aE b i∈b:=mem_row;rw[e _ this];rfl
theorem ahD(c:∀e∈l,e.1.Pairwise (·<·)):∀e∈bn known vals l,e.1.Pairwise (·<·):=λe d=>by
 obtain⟨b,a,rfl⟩:=qu.1 (qJ.1 d).1;exact(c b a).filter _
theorem abR:i1 (bn known vals l)<=i1 l:=by unfold bn;refine zd (qQ _ _) ?_;simp
theorem abS{m:Nat}(c:∀e∈l,i1 e.1<=m):∀e∈bn known vals l,i1 e.1<=m:=λe d=>by
 obtain⟨b,a,rfl⟩:=qu.1 (qJ.1 d).1;exact zd (qQ _ _) (c b a)
end
open Go
end Wl
namespace Go.Vc
open Go
section
variable {B:aC} {α:Type} {C:Ctx} {h0 h:Heap} {As:List HP} {e t t2 k by_:Nat} {s:Sl} {f:α->bh} {d:List α} {z:bh}
theorem Own.Pq(q:C.Ok)(B:bZ C.toDr t e k z by_)(N:∃i w,C.T.get t2=dB i/\i.cX=.slice w)(l:∀x,i1 (f x)=k)
  (n:Own h e s k f d) (m:∀x,∀c∈f x,c.oneCell'=eR) (i:Nat) (F:i<i1 d) {ty:Nat} {K:Sl->Heap->Prop}
  (O:∀h',Own h' e s k f ((d.take i++d.drop (i+1))++d.drop (i1 d-1))->bc (λb=>¬s.on b) h h'->K ⟨s.ptr,i1 d-1,s.cap⟩ h'):
  aB C.P (qt #[t,t2] ty #[.slice s.ptr i s.cap,.slice (if s.cap=i+1 then s.ptr else s.ptr.map (·.add ((i+1)*k))) (s.len-(i+1)) (s.cap-(i+1))]) (.one (.sc .slc)) h K:=by
 obtain⟨Q,w,G,I⟩:=N;have o:C.P.underlying t2=dB (.slice w):=by have:=q.cX G;rw[I]at this;exact jQ this
 have E:=n.len;have j:=n.cap;have D:Seq h (λ_=>True) ⟨if s.cap=i+1 then s.ptr else s.ptr.map (·.add ((i+1)*k)),s.len-(i+1),s.cap-(i+1)⟩ k f (d.drop (i+1)):=Seq.drop (n.seq l λ_ _=>trivial) (i+1) j;obtain⟨v,a⟩:∃v:Sl,v=⟨if s.cap=i+1 then s.ptr else s.ptr.map (·.add ((i+1)*k)),s.len-(i+1),s.cap-(i+1)⟩:=⟨_,rfl⟩
 rw[<-a]at D;have J:(Value.slice (if s.cap=i+1 then s.ptr else s.ptr.map (·.add ((i+1)*k))) (s.len-(i+1)) (s.cap-(i+1)))=.slice v.ptr v.len v.cap:=by rw[a]
 have M:v.len=s.len-(i+1):=by rw[a]
 rw[J];unfold aB qt;simp only[zX,List.getElem?_cons_zero,List.getElem?_cons_succ];refine ag.bind (ag.always (aW (B.under q)) ?_);refine ag.bind (ag.always (B.size q) ?_);refine ag.bind (ag.always (aW o) ?_);refine ag.bind (ag.pure' ?_);simp only[zj,if_false,ye,if_true];refine ag.bind (ag.pure' ?_);have g:i+v.len<=s.cap:=i5
 rw[g0 g];refine ag.bind (gP l D ?_);rcases n.head with⟨p1,p2,p3⟩|⟨b,rest,p1,p2,p3,p4⟩
 ·subst p3;simp at F
 ·rw[p1];refine ag.bind ?_;rw[add_eq,wo];have y:d=d.take i++((d.drop i).take (i1 d-1-i)++d.drop (i1 d-1)):=by
   have L:(d.drop i).drop (i1 d-1-i)=d.drop (i1 d-1):=by rw[List.drop_drop];congr 1;omega
   rw[<-L,qE,qE]
  have A:((d.drop i).take (i1 d-1-i)).length=i1 d-1-i:=i9
  have p:i1 (d.drop (i+1))=i1 d-1-i:=i9
  refine fC (e:=e) (pre:=(d.take i).flatMap f) (old:=((d.drop i).take (i1 d-1-i)).flatMap f) (post:=(d.drop (i1 d-1)).flatMap f++rest) ?_ ?_ ?_ ?_ ?_
  ·have:(d.take i).flatMap f++((d.drop i).take (i1 d-1-i)).flatMap f++((d.drop (i1 d-1)).flatMap f++rest)=d.flatMap f++rest:=by
    conv=>rhs;rw[y]
    simp only[zg,qp]
   rw[this];exact p2
  ·rw[dK l,dK l,A,p]
  ·rw[dK l,qY,Nat.min_eq_left i5];omega
  ·intro c H;obtain⟨x,_,r⟩:=zU.1 H;exact m x c r
  ·have u:i+v.len=i1 d-1:=i5
   rw[u];refine ag.pure' ⟨⟨dB ⟨b,0,none⟩,i1 d-1,s.cap⟩,i4,?_⟩;rw[<-p1];refine O _ ⟨?_,.inr ⟨b,rest,p1,?_,p3,p4⟩⟩ ?_
   ·simp;omega
   ·rw[iS p2,g0 rfl];simp[zg]
   ·exact bc.ki p2 (λu=>u ⟨0,p1⟩)
theorem aa.Pq(r:C.Ok)(H:aa B h0 h As)(j:Nat)(m:As[j]?=dB (an e s k f d))(p:bZ C.toDr t e k z by_)(w:∃i v,C.T.get t2=dB i/\i.cX=.slice v)(u:∀x,i1 (f x)=k)
  (a:∀x,∀c∈f x,c.oneCell'=eR) (i:Nat) (o:i<i1 d) {ty:Nat} {K:Sl->Heap->Prop}
  (A:∀h',aa B h0 h' (As.set j (an e s k f ((d.take i++d.drop (i+1))++d.drop (i1 d-1))))->K ⟨s.ptr,i1 d-1,s.cap⟩ h'):
  aB C.P (qt #[t,t2] ty #[.slice s.ptr i s.cap,.slice (if s.cap=i+1 then s.ptr else s.ptr.map (·.add ((i+1)*k))) (s.len-(i+1)) (s.cap-(i+1))]) (.one (.sc .slc)) h K:=
 (H.own j m).Pq r p w u a i o λh' x y=>A h' (H.step j m λq n _=>⟨y.mono λb _ g l=>g (n.2 b l),x,λb g=>⟨x.lt g,.inl (n.2 b g)⟩⟩)
end
section
variable {P:Program}
structure akL (P:Program) (t it:TypeId):Prop where
 u:∃f0 f1 f2:Field,P.underlying t=dB (.struct #[f0,f1,f2])/\f0.name≠ "_" /\f1.name≠ "_" /\f2.name≠ "_" /\f0.type=it/\f1.type=it/\f2.type=it/\f0.offset=0/\f1.offset=1/\f2.offset=2
 st:P.stoodInHeld t=eS
 i:P.underlying it=dB (.int .i64)
 a:aP P (isAgg it) eS
abbrev k3v(x:Int×Int×Int):Value:=.agg #[xq xx x.1,xq xx x.2.1,xq xx x.2.2]
structure akM (h:Heap) (r:Nat) (ks:List (Int×Int×Int)):Prop where
 ex:∃es clock,h[r]?=dB (.map es clock)/\es.toList.map (λe=>(e.key,e.val))=ks.map (λk=>(k3v k,Value.bool eR))
end
section
variable {C:Ctx} {t t2 e k:Nat} {z:bh} {by_:Nat} {α:Type} {h h0:Heap} {p q B:aC} {s v:Sl} {f:α->bh} {l l2:List α} {As:List HP}
end
section
variable {C:Ctx} {t e k:Nat} {z:bh} {by_:Nat} {h:Heap} {s:Sl}
end
open Go Go.RowKit Go.ChangeShapes Go.WideShapes Go.Joins Go.Deep
section
variable {H:Type} {enc:TypeId×Value->H} {P:Program} {W W':World}
theorem aeV{w a:World}(c:dC w a)(e:bc (λb=>b<w.heap.size) w.heap a.heap):Below w.heap.size w a:=
 ⟨c.os,c.tape,c.output,e.1,λk d=>e.2 k d d⟩
theorem FV(i:laidOutB P=eR)(g:Below W.heap.size W W'):∀{c:List TypeId} {vs:bh} {ds:List (DataW H)} {a:List MemPlace},
  (∀t∈c,P.readableRec t=eR/\t<P.types.size)->DataW.TrodAll enc P W 0 (λ_=>eR) eR c vs ds a->(∀x∈a,x.block<W.heap.size)->DataW.TrodAll enc P W' 0 (λb=>decide (b<W.heap.size)) eR c vs ds a
 |[],[],[],a,_,h,_=>h
 |t::c,v::vs,d::ds,a,hr,⟨p,q,h1,h2,e⟩,hlt=>by
  subst e;exact⟨p,q,Below.trod i (hr t jj).1 (hr t jj).2 h1 g λx f=>hlt x n3,FV i g (λu j=>hr u (by simp[j])) h2 λx f=>hlt x n3,i4⟩
 |[],_::_,_,_,_,h,_=>h.elim
 |[],[],_::_,_,_,h,_=>h.elim
 |_::_,[],_,_,_,h,_=>h.elim
 |_::_,_::_,[],_,_,h,_=>h.elim
theorem aeW{f:Func}{s:ChangeSpec}{args:Array Value}{ds:List (DataW H)}{a:List MemPlace}{rt:TypeId}(i:s.vars=[])(e:DataW.Whole enc P f.params.toList s.vars eS W args.toList ds [] a)
  (b:s.fn H (ds++[])={results:=[.lit (.bool eR)],args:=ds}) (m:laidOutB P=eR) (k:Below W.heap.size W W') (o:∀t∈f.params.toList,P.readableRec t=eR/\t<P.types.size)
  (c:f.resultTypes=#[rt]) (d:P.underlying rt=dB .bool):s.post enc P f eS eR eS eS W args (.bool eR) W':=by
 obtain⟨p,q,n,j,h3,u,r⟩:=id e;have g:=e.lt;rw[i]at j;have l:q=[]:=j;subst l;simp only[qN]at h3;subst h3;refine⟨ds,[],a,[],a,[],e,?_,?_,?_,k.frame _,λh=>j9⟩
 ·rw[b,c];exact trodAll_mk1 (shut_bool d eR)
 ·rw[b];exact FV m k o n g
 ·rw[b,i];rfl
theorem Wt(w:World)(a:Addr):w.cell? a=cellOf w.heap a:=rfl
theorem abT{h:Heap}{a:Addr}{v:Value}(c:cellOf h a=dB v):a=⟨a.block,a.off,none⟩:=by
 obtain⟨b,o,s⟩:=a;cases s with
 |none=>rfl
 |some s=>
  unfold cellOf at c;cases hb:h[b]? with
  |none=>rw[hb]at c;cases c
  |some x=>rw[hb]at c;cases x<;>simp at c
theorem aiR{α:Type}{f:α->Value}{h:Heap}{a:Addr}{len cap:Nat}{l:List α}(j:i1 l=len)(g:∀i (c:i<i1 l),cellOf h (a.add i)=dB (f l[i])):Seq h (λb=>b<h.size) ⟨dB a,len,cap⟩ 1 (λx=>[f x]) l:=by refine⟨j.symm,λi x k=>?_⟩;obtain⟨c,e⟩:=List.getElem?_eq_some_iff.1 k;have h0:=g 0 i5;rw[add_zero]at h0;have d:=abT h0;refine⟨a.block,a.off,by rw[<-d],wn h0,?_,trivial⟩;have:=g i c;rw[d,add_eq]at this;rw[Nat.mul_one,add_eq,Nat.add_zero,this,e]
theorem TZ{t e:TypeId}{v:Value}{d:DataW H}{k:List MemPlace}(r:P.underlying t=dB (.slice e))(q:P.underlying e=dB (.int .i64))(m:P.cellsOf e=1)
  (u:∃p n c,v=.slice p n c) (h:DataW.Trod enc P W 0 (λ_=>eR) eR t v d k):∃(s:Sl) (l:aD),v=.slice s.ptr s.len s.cap/\Seq W.heap (λb=>b<W.heap.size) s 1 av l:=by
 obtain⟨g,o⟩:=h;obtain⟨p,n,c,rfl⟩:=u;rcases open_ints r q m o with⟨h1,_⟩|⟨a,len,cap,zs,h1,_,hle,_,hz,_,hcell,_⟩
 ·simp[Value.cells]at h1;obtain⟨rfl,rfl,rfl⟩:=h1;exact⟨⟨none,0,0⟩,[],i4,Seq.nil _ _ _ _ _ _⟩
 ·simp[Value.cells]at h1;obtain⟨rfl,rfl,rfl⟩:=h1;simp only[if_true]at hz;refine⟨⟨dB a,n,c⟩,zs.take n,i4,aiR (f:=λx=>xq xx x) i9 λi j=>?_⟩;simp at j;rw[<-Wt,hcell i i5];simp[qe,qd (show i<i1 zs by omega)]
theorem FW{r:_root_.Go.Reach}{b:Nat}{t e:TypeId}{v:Value}(a:P.underlying t=dB (.slice e))(h:Value.okWide P W r b t v):∃p n c,v=.slice p n c:=by simp only[Value.okWide,a,Cell.okWide]at h;cases v<;>simp_all [Cell.ok]
end
section
variable {H:Type} {enc:TypeId×Value->H} {P:Program} {W W':World}
end
end Go.Vc
namespace Go
section
variable {H:Type} {enc:TypeId×Value->H}
end
theorem abU{P:Program}(h:P.funcs.any Func.goes=eS)(f:FuncId):P.goes f=eS:=by
 have a:∀g:FuncId,(P.funcs[g]?).any Func.goes=eS:=λg=>by
  cases hg:P.funcs[g]? with
  |none=>rfl
  |some x=>
   show Func.goes x=eS;obtain⟨b,e⟩:=Array.getElem?_eq_some_iff.1 hg;cases hx:Func.goes x with
   |false=>rfl
   |true=>
    have:P.funcs.any Func.goes=eR:=Array.any_eq_true.2 ⟨g,b,by rw[e];exact hx⟩;rw[h]at this;cases this
 unfold Program.goes;rw[h,Bool.and_false,Bool.or_false];simp only[a];simp
theorem Wu{P:Program}{c:OpenClaim}(h:P.funcs.any Func.goes=eS):c.goesBy P=eS:=by
 have a:∀f,P.goes f=eS:=abU h;unfold OpenClaim.goesBy Program.goesAt Program.goesFrom;have b:(P.funcNamed c.func).any P.goes=eS:=by
  cases P.funcNamed c.func with
  |none=>rfl
  |some f=>exact a f
 have h3:P.inits.toList.any P.goes=eS:=wj.2 λf _=>by rw[a f];exact Bool.false_ne_true
 rw[b,h3];cases c.start<;>rfl
end Go
