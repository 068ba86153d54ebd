/- Lemmas for the proof of the law; no condition. -/
import Derived.Test.YtdibhfbogjngkaaGreatDoorPlA
import Derived.Shelf.SlSortCmp.NoneTotal
import Derived.ProofKit
import Derived.Deep.Matrix
import Derived.Carry
import Derived.Lib.SmallJoins
import Derived.Handed
import Derived.HandedShaped
import Derived.ChangeMaps5
import Derived.SevenTiedAt
set_option linter.unusedVariables false
set_option linter.unusedSimpArgs false
open Option renaming some -> dB
open Bool renaming true -> eR, false -> eS
open List renaming length -> i0
open List renaming mem_take_iff_getElem -> yJ, nodup_range -> vK, range -> qw, range' -> zR, range'_succ -> yj, replicate -> qg
open Nat renaming add_sub_cancel -> y8, mul_add -> vW
open Go.Value renaming int -> xi
open Go.IntKind renaming i64 -> xo
open Prod renaming fst -> qM, snd -> zF
open Go.Instr renaming slice -> xg, sliceAt -> yk, sliceBounds -> wB
namespace Go.Vc
open Go
abbrev gZ:=FloatKind.format .f64
theorem GZ{P:Program}{a b c:Nat}(h:gZ.add a b=dB c):aL P (Op.Complex.arith .add .f64 a b) c:=λw=>by
 have h':(FloatKind.format .f64).add a b=dB c:=h;unfold Op.Complex.arith Op.floatArith;simp only[h'];rfl
theorem Ha{P:Program}{a b c:Nat}(h:gZ.sub a b=dB c):aL P (Op.Complex.arith .sub .f64 a b) c:=λw=>by
 have h':(FloatKind.format .f64).sub a b=dB c:=h;unfold Op.Complex.arith Op.floatArith;simp only[h'];rfl
theorem BF{P:Program}{a b c:Nat}(h:gZ.mul a b=dB c):aL P (Op.Complex.arith .mul .f64 a b) c:=λw=>by
 have h':(FloatKind.format .f64).mul a b=dB c:=h;unfold Op.Complex.arith Op.floatArith;simp only[h'];rfl
theorem Cp{P:Program}{op:BinOp}(h:op=.add∨op=.sub∨op=.mul)(t:TypeId)(x y:Operand)(a b:Value):aL P (eqGuard op t x y a b) ():=λw=>by
 rcases h with rfl|rfl|rfl<;>rfl
theorem agj{P:Program}{t:TypeId}{x y:Operand}{a b c d e f:Nat}(g:gZ.add a c=dB e)(h:gZ.add b d=dB f):kB P .add t x y (.complex .f64 a b) (.complex .f64 c d) (.complex .f64 e f):=
 (Cp (.inl i4) t x y _ _).bind (show aL P (Op.complexOp .add .f64 a b c d) _ from(GZ g).bind ((GZ h).bind λ_=>rfl))
theorem agk{P:Program}{t:TypeId}{x y:Operand}{a b c d e f:Nat}(g:gZ.sub a c=dB e)(h:gZ.sub b d=dB f):kB P .sub t x y (.complex .f64 a b) (.complex .f64 c d) (.complex .f64 e f):=
 (Cp (.inr (.inl i4)) t x y _ _).bind (show aL P (Op.complexOp .sub .f64 a b c d) _ from(Ha g).bind ((Ha h).bind λ_=>rfl))
theorem agl{P:Program}{t:TypeId}{x y:Operand}{a b c d e f k j h i:Nat}(m:gZ.mul a c=dB k)(n:gZ.mul b d=dB j)(h3:gZ.sub k j=dB e)(o:gZ.mul a d=dB h)(p:gZ.mul b c=dB i)(q:gZ.add h i=dB f):
  kB P .mul t x y (.complex .f64 a b) (.complex .f64 c d) (.complex .f64 e f):=by
 refine(Cp (.inr (.inr i4)) t x y _ _).bind ?_;have l:aL P (Op.Complex.product a b c d) (e,f):=
  (BF m).bind ((BF n).bind ((Ha h3).bind ((BF o).bind ((BF p).bind ((GZ q).bind λ_=>rfl)))))
 show aL P (Op.complexOp .mul .f64 a b c d) _;have g:∀x,aL P (Op.Complex.conv .f64 x .f64) x:=λx w=>by unfold Op.Complex.conv;rw[f9 rfl];rfl
 unfold Op.complexOp;refine(g a).bind ((g b).bind ((g c).bind ((g d).bind ?_)));refine aL.bind (v:=(e,f)) ?_ ?_
 ·exact l
 ·exact(g e).bind ((g f).bind λ_=>rfl)
open Go Go.Sort Go.Proofs
theorem agm{w a:World}(n:dm w a)(f:aY (λb=>b<w.heap.size) w.heap a.heap):∃q c,a=Sort.grow (w.drewN q) c:=by
 refine⟨a.drawn-w.drawn,a.heap.extract w.heap.size a.heap.size,?_⟩;have l:w.heap++a.heap.extract w.heap.size a.heap.size=a.heap:=by
  apply yE;intro i;have o:=f.1;by_cases d:i<w.heap.size
  ·rw[Array.getElem?_append_left d,f.2 i d d]
  ·rw[Array.getElem?_append_right i5,Array.getElem?_extract];by_cases u:i<a.heap.size
   ·rw[f9 i5,show w.heap.size+(i-w.heap.size)=i by omega]
   ·rw[g0 i5,Array.getElem?_eq_none i5]
 obtain⟨s,t,dr,os,out⟩:=w;obtain⟨j,p,m,c,k⟩:=a;obtain⟨g,h,e,r⟩:=n;simp only at g h e r l;subst g;subst h;subst e;simp only[Sort.grow,World.drewN,World.mk.injEq];refine⟨l.symm,trivial,i5,trivial,trivial⟩
theorem PQ{α:Type}[Inhabited α]{enc:α->bc}{k:Nat}(b:∀x,i0 (enc x)=k)(l:List α):flatK enc k l.toArray=(l.flatMap enc).toArray:=by
 refine ext_get! (by simp[eu b]) λt j=>?_;have a:t<i0 l*k:=by simpa using j
 have e:0<k:=by
  rcases Nat.eq_zero_or_pos k with h|h
  ·subst h;simp at a
  ·exact h
 rw[get_flatK _ _ _ t j9];have d:t/k<i0 l:=(Nat.div_lt_iff_lt_mul e).2 a;obtain⟨pre,post,i,o⟩:=KJ b l (t/k) l[t/k] (qd d);have f:t%k<k:=Nat.mod_lt _ e;have m:t=t/k*k+t%k:=by rw[Nat.mul_comm];exact(Nat.div_add_mod t k).symm
 have c:(l.flatMap enc)[t]?=dB ((enc l[t/k])[t%k]'(by rw[b];exact f)):=by
  rw[i,qq,qj i5,qo (by rw[b];omega)];have:t-i0 pre=t%k:=i5
  rw[this,qd]
 have n:l.toArray[t/k]! =l[t/k]:=pb
 rw[n];have g:t<i0 (l.flatMap enc):=by rw[eu b];exact a
 rw[getElem!_pos (enc l[t/k]) (t%k) (by rw[b];exact f),getElem!_pos _ t k9];rw[qd g]at c;simp only[List.getElem_toArray];exact(Option.some.inj c).symm
theorem Yo{α:Type}[Inhabited α]{enc:α->bc}{k:Nat}(f:∀x,i0 (enc x)=k){w:World}{e:TypeId}{b:Nat}{rest:bc}{l:List α}(c:w.heap[b]?=dB (.cells (l.flatMap enc++rest).toArray e (0,0))):HoldsK enc k w b 0 l.toArray:=by
 intro j d;rw[PQ f]at d⊢;have a:j<i0 (l.flatMap enc):=n5
 refine⟨?_,by simp[World.frozen?,c]⟩;have g:(l.flatMap enc++rest).toArray[0+j]?=dB (l.flatMap enc)[j]:=by rw[wJ,wc,qo a,qd a]
 simp only[World.cell?,c];rw[getElem!_pos _ j j9];simpa using g
theorem aaw{α:Type}[Inhabited α]{enc:α->bc}{k:Nat}(a:∀x,i0 (enc x)=k)(l l':List α)(rest:bc)(d:i0 l'=i0 l):putCells id 0 (flatK enc k l'.toArray) (l.flatMap enc++rest).toArray=(l'.flatMap enc++rest).toArray:=by
 rw[PQ a];have c:=eu a l;have b:=eu a l';rw[d]at b;apply yE;intro i;simp only[putCells,Array.getElem?_mapIdx,wc,yb,wJ,Nat.zero_le,true_and,Nat.sub_zero];by_cases e:i<i0 l*k
 ·rw[qo i5,qo i5,qd i5,qd i5,qT,f9 i5];rw[getElem!_pos _ i (by rw[yb];omega)];simp
 ·rw[qj i5,qj i5,c,b];cases rest[i-i0 l*k]? with
  |none=>rfl
  |some x=>rw[qT,g0 i5]
theorem Re{α:Type}[Inhabited α]{P:Program}{id_ g:FuncId}{enc:α->bc}{k:Nat}{cf:α->α->Int}(A:∀x,i0 (enc x)=k)
  (G:∀(fP cap:Nat) (l:List α) (w:World),CmpLays P g #[] enc k cf fP 0 l.length w->HoldsK enc k w fP 0 l.toArray->fP<w.heap.size->i0 l<4611686018427387904->
   Calls P id_ #[.slice (dB ⟨fP,0,none⟩) l.length cap,.func (.func g) #[] #[]] w λe o=>e=.returned (.tuple #[])/\∃n os,o=sortWorldK enc k w fP 0 n (l.mergeSort λx y=>!(ltOf cf) y x).toArray os)
  (I:∀(p:aO) (cap:Nat) (w:World),Calls P id_ #[.slice p 0 cap,.func (.func g) #[] #[]] w λe o=>e=.returned (.tuple #[])/\o=w)
  (H:∀x y h,ab P g #[.agg (enc x).toArray,.agg (enc y).toArray] h λv h'=>v=xi xo (cf x y)/\aY (λb=>b<h.size) h h')
  {e:TypeId} {s:Sl} {l:List α} {h:Heap} (D:Own h e s k enc l) (J:i0 l<2^40):
  ab P id_ #[.slice s.ptr s.len s.cap,.func (.func g) #[] #[]] h λv h'=>v=.tuple #[]/\Own h' e s k enc (l.mergeSort λx y=>!(ltOf cf) y x)/\aY (λb=>¬s.on b) h h':=by
 intro w i;have a:=D.len;rcases D.head with⟨h1,h2,h3⟩|⟨b,rest,h1,h2,h3,h4⟩
 ·subst h3;rw[a,h1];refine(I none s.cap w).mono ?_;rintro B o ⟨rfl,rfl⟩;have K:(([]:List α).mergeSort λx y=>!(ltOf cf) y x)=[]:=jj
  exact⟨_,i4,dm.refl _,i4,by rw[K];exact⟨a,.inl ⟨h1,h2,i4⟩⟩,by rw[<-i];exact aY.refl _ _⟩
 ·rw[h1,a];have t:w.heap[b]?=dB (.cells (l.flatMap enc++rest).toArray e (0,0)):=by rw[i];exact h2
  have f:CmpLays P g #[] enc k cf b 0 l.length w:=λm os E _ x y=>by
   have:=H x y _ (sortWorldK enc k w b 0 m E os) i4;refine(show Calls P g (#[Value.agg (enc x).toArray,.agg (enc y).toArray]++#[]) _ _ from ?_);rw[Array.append_empty];refine this.mono ?_;rintro B o ⟨v,rfl,F,rfl,u⟩;exact⟨i4,agm F u⟩
  refine(G b s.cap l w f (Yo A t) (lt_of_block t) i5).mono ?_;rintro B o ⟨rfl,n,os,rfl⟩;have r:=lt_of_block t;have q:i0 (l.mergeSort λx y=>!(ltOf cf) y x)=i0 l:=List.length_mergeSort l;have c:∀j,j<h.size->(sortWorldK enc k w b 0 n (l.mergeSort λx y=>!(ltOf cf) y x).toArray os).heap[j]?=if b=j then dB (.cells ((l.mergeSort λx y=>!(ltOf cf) y x).flatMap enc++rest).toArray e (0,0))else h[j]?:=by
   intro j z;unfold sortWorldK;rw[Sort.heap_grow_old _ _ (by simpa[putRowK,Sort.putRow,Sort.mapBlock,Sort.ahead,i]using z)];simp only[putRowK,Sort.putRow,Sort.mapBlock,Sort.ahead,Array.getElem?_modify];by_cases d:b=j
   ·subst d;rw[f9 i4,f9 i4,t,qT,Sort.onCells,aaw A _ _ _ q]
   ·rw[g0 d,g0 d,i]
  rw[i]at r;refine⟨_,i4,⟨i4,i4,i4,Nat.le_add_right _ _⟩,i4,⟨by rw[q];exact a,.inr ⟨b,rest,h1,?_,h3,h4⟩⟩,?_,?_⟩
  ·rw[c b r,f9 rfl]
  ·simp[sortWorldK,putRowK,Sort.grow,Sort.putRow,Sort.mapBlock,Sort.ahead,i]
  ·intro j z u;rw[c j z,g0 λd=>u ⟨0,by rw[h1,d]⟩]
end Go.Vc
namespace Wl
open Go Go.Vc
def df(n:Int):Nat:=
 if n=0 then 0 else
  let m:=n.natAbs;let e:=m.log2
  (if n<0 then 2^63 else 0)+(1023+e)*2^52+(m-2^e)*2^(52-e)
structure Fw where
 ax:Nat
 ay:Nat
 sx:Nat
 sy:Nat
 left:Int
 leg:Int
 second:Bool
def pZ:Nat:=4607182418800017408
def fs0:Fw:=⟨0,0,pZ,0,1,1,eS⟩
def oV(a b:Nat):Nat:=(gZ.add a b).getD 0
def ajg(a b:Nat):Nat:=(gZ.sub a b).getD 0
def uA(a b:Nat):Nat:=(gZ.mul a b).getD 0
def tx(a b:Nat):Nat:=ajg (uA a 0) (uA b pZ)
def ty(a b:Nat):Nat:=oV (uA a pZ) (uA b 0)
def Fw.on(s:Fw):Fw:=
 if s.left-1>0 then{s with ax:=oV s.ax s.sx,ay:=oV s.ay s.sy,left:=s.left-1}
 else{ax:=oV s.ax s.sx,ay:=oV s.ay s.sy,sx:=tx s.sx s.sy,sy:=ty s.sx s.sy,leg:=if s.second then s.leg+1 else s.leg,left:=if s.second then s.leg+1 else s.leg,second:=!s.second}
def lq:Nat->Fw
 |0=>fs0
 |n+1=>(lq n).on
def Fw.ok(s:Fw):Bool:=
 (gZ.add s.ax s.sx).isSome&&(gZ.add s.ay s.sy).isSome&&(gZ.mul s.sx 0).isSome&&(gZ.mul s.sy pZ).isSome&&(gZ.sub (uA s.sx 0) (uA s.sy pZ)).isSome&&(gZ.mul s.sx pZ).isSome&&(gZ.mul s.sy 0).isSome&&(gZ.add (uA s.sx pZ) (uA s.sy 0)).isSome&&decide (1<=s.left)&&decide (s.left<=100)&&decide (1<=s.leg)&&decide (s.leg<=100)
structure Spi where
 x:Int
 y:Int
 dx:Int
 dy:Int
 left:Int
 leg:Int
 turns:Int
def ajh:Spi:=⟨0,0,1,0,1,1,0⟩
def Spi.on(s:Spi):Spi:=
 if s.left-1=0 then
  {x:=s.x+s.dx,y:=s.y+s.dy,dx:=-s.dy,dy:=s.dx,leg:=if(s.turns+1)%2=0 then s.leg+1 else s.leg,left:=if(s.turns+1)%2=0 then s.leg+1 else s.leg,turns:=s.turns+1}
 else{s with x:=s.x+s.dx,y:=s.y+s.dy,left:=s.left-1}
def gj:Nat->Spi
 |0=>ajh
 |n+1=>(gj n).on
theorem aiK:∀n,n<64->(lq n).ok=eR:=j6
theorem ahw:∀n,n<64->((lq n).ax==df (gj n).x&&(lq n).ay==df (gj n).y&&decide (-4<=(gj n).x)&&decide ((gj n).x<=4)&&decide (-4<=(gj n).y)&&decide ((gj n).y<=4))=eR:=j6
theorem ahx:∀i,i<9->∀j,j<9->gZ.sub (df ((i:Nat)-4:Int)) (df ((j:Nat)-4:Int))=dB (df ((i:Int)-(j:Int))):=j6
theorem ahy:∀i,i<17->gZ.mul (df ((i:Nat)-8:Int)) (df ((i:Nat)-8:Int))=dB (df (((i:Nat)-8:Int)*((i:Nat)-8:Int))):=j6
theorem ahz:∀i,i<9->∀j,j<9->gZ.add (df (((i:Nat):Int)*(i:Nat))) (df (((j:Nat):Int)*(j:Nat)))=dB (df (((i:Nat):Int)*(i:Nat)+((j:Nat):Int)*(j:Nat))):=j6
theorem aay:∀m,m<129->∀n,n<129->gZ.order (df (m:Nat)) (df (n:Nat))=dB (compare m n):=j6
theorem Yp{seq a c:Int}{b:ba}(d:i0 b<=48):eF (kv seq a c b)=none:=by unfold eF kv;rw[BD i6 i6 l6];dsimp only;rw[g0 (by rintro⟨h,_⟩;exact absurd h i6)]
theorem th{m:aE}{c:ba}(h:c∈bm m):eF c=none:=by unfold bm at h;obtain⟨i,_,rfl⟩:=qt.1 h;exact Yp i9
theorem Yq(m n:aE):(bm n).filterMap (jo m)=[]:=by rw[List.filterMap_eq_nil_iff];intro c a;unfold jo;rw[th a]
theorem PR{α:Type}{R:α->α->Prop}(n:∀a b c,R a b->R b c->R a c){l:List α}(h:∀i (m:i+1<i0 l),R (l[i]'(by omega)) l[i+1]):l.Pairwise R:=by
 have g:∀d i (f:i+(d+1)<i0 l),R (l[i]'(by omega)) l[i+(d+1)]:=by
  intro d
  induction d with
  |zero=>exactλi f=>h i f
  |succ d ih=>exactλi f=>n _ _ _ (ih i i5) (h (i+(d+1)) i5)
 refine zm.2 λi j m f k=>?_;have:=g (j-i-1) i i5;have e:i+(j-i-1+1)=j:=i5
 simp only[e]at this;exact this
theorem PS{α:Type}{R:α->α->Prop}{l:List α}(h:l.Pairwise R)(i:Nat)(a:i+1<i0 l):R (l[i]'(by omega)) l[i+1]:=zm.1 h i (i+1) i5 a i5
theorem ge{α:Type}{l:List α}{i:Nat}(d:α)(h:i<i0 l:=by omega):l.getD i d=l[i]:=by rw[qe,qd h];rfl
theorem kw(n a b:Int):fq n a b=eR↔a<=n/\n<=b:=by unfold fq;rw[qz,decide_eq_true_eq,decide_eq_true_eq]
theorem aaz(l:az)(most:Int):pQ l most=eR↔l.Pairwise (·<·)/\∀x∈l,0<=x/\x<=most:=by
 unfold pQ;rw[qL];constructor
 ·intro h;have g:∀i (d:i<i0 l),(0<=l[i]/\l[i]<=most)/\(i=0∨l.getD (i-1) 0<l[i]):=λi d=>by
   have:=h i (qE.2 d);unfold kd at this;rw[ge 0 d,qz,kw,we,decide_eq_true_eq,decide_eq_true_eq]at this;exact this
  refine⟨PR (R:=λa b:Int=>a<b) (λa b c e f=>Int.lt_trans e f) λi d=>?_,λx j=>?_⟩
  ·rcases(g (i+1) d).2 with h0|h0
   ·omega
   ·rw[y8,ge 0]at h0;exact h0
  ·obtain⟨i,d,rfl⟩:=qJ j;exact(g i d).1
 ·rintro⟨e,f⟩ i d;have d:=qE.1 d;unfold kd;rw[ge 0 d,qz,kw,we,decide_eq_true_eq,decide_eq_true_eq];refine⟨f _ (qh d),?_⟩;cases i with
  |zero=>exact .inl i4
  |succ i=>exact .inr (by rw[y8,ge 0];exact PS e i d)
theorem SZ(a b c:ByteArray)(d:ft a b=eR)(e:ft b c=eR):ft a c=eR:=Jf _ _ _ d e
theorem cF(m:aE):bN m=eR↔lA m=eR/\m.drives.Pairwise (·<·)/\(∀k∈m.drives,0<=k/\k<=63)/\m.aH.length<=12/\(∀e∈m.aH,gX m e=eR)/\m.aH.Pairwise (λa b=>ft a.name b.name=eR)/\m.aH.Pairwise (λa b=>a.object≠b.object):=by
 unfold bN;rw[qz,qz,qz,aaz,decide_eq_true_eq,qL];have r:(∀i∈qw m.aH.length,pR m i=eR)↔(∀e∈m.aH,gX m e=eR)/\m.aH.Pairwise (λa b=>ft a.name b.name=eR)/\m.aH.Pairwise (λa b=>a.object≠b.object):=by
  constructor
  ·intro h;have n:∀i (l:i<m.aH.length),gX m m.aH[i]=eR/\(i=0∨ft (pP m.aH (i-1)).name m.aH[i].name=eR)/\∀y∈m.aH.take i,y.object≠m.aH[i].object:=λi l=>by
    have:=h i (qE.2 l);unfold pR at this;rw[oT l,qz,qz,we,decide_eq_true_eq,wL,wi]at this;exact⟨this.1,this.2.1,λy p=>by have:=this.2.2 y p;simpa using this⟩
   refine⟨λe u=>?_,PR (R:=λa b:bM=>ft a.name b.name=eR) (λa b c o q=>SZ _ _ _ o q) λi l=>?_,zm.2 λi j l s t=>?_⟩
   ·obtain⟨i,l,rfl⟩:=qJ u;exact(n i l).1
   ·rcases(n (i+1) l).2.1 with h0|h0
    ·omega
    ·rw[y8,oT]at h0;exact h0
   ·refine(n j s).2.2 m.aH[i] ?_;exact yJ.2 ⟨i,i5,i4⟩
  ·rintro⟨o,q,h3⟩ i l;have l:=qE.1 l;unfold pR;rw[oT l,qz,qz,we,decide_eq_true_eq,wL,wi];refine⟨o _ (qh l),?_,λy p=>?_⟩
   ·cases i with
    |zero=>exact .inl i4
    |succ i=>exact .inr (by rw[y8,oT];exact PS q i l)
   ·obtain⟨j,s,rfl⟩:=yJ.1 p;have:=zm.1 h3 j i i5 l i5;simpa using this
 rw[r];constructor
 ·rintro⟨a,⟨b,c⟩,d,e,f,g⟩;exact⟨a,b,c,d,e,f,g⟩
 ·rintro⟨a,b,c,d,e,f,g⟩;exact⟨a,⟨b,c⟩,d,e,f,g⟩
theorem fg(m:aE):lA m=eR↔(1<=m.seq/\m.seq<=2147483647)/\(0<=m.next/\m.next<=16777216)/\bB m.p=eR/\0<=m.extra/\m.extra<=16:=by unfold lA;rw[qz,qz,qz,kw,kw,kw]
theorem iR(m:aE)(x:bM):gX m x=eR↔ms x.name=eR/\(0<=x.object/\x.object<m.next)/\(0<=x.length/\x.length<=m.p.1*m.p.2.2*8)/\(∀t∈x.tries,0<=t/\t<=15)/\(x.tries.length:Int)=countP m.p x.length:=by
 unfold gX;rw[qz,qz,qz,qz,kw,kw,qL,decide_eq_true_eq];simp only[kw];constructor
 ·rintro⟨a,b,c,d,e⟩;exact⟨a,⟨b.1,i5⟩,c,d,e⟩
 ·rintro⟨a,b,c,d,e⟩;exact⟨a,⟨b.1,i5⟩,c,d,e⟩
theorem nE{m:aE}(h:bN m=eR):m.drives.Nodup:=((cF m).1 h).2.1.imp λh e=>i5
theorem mO{m:aE}(h:bN m=eR):∀k∈m.drives,0<=k/\k<64:=λk a=>by have:=((cF m).1 h).2.2.1 k a;omega
theorem Ta:∀{l:az} {a b:Int},l.Pairwise (·<·)->(∀k∈l,a<=k/\k<b)->a<=b->(i0 l:Int)<=b-a
 |[],a,b,_,_,h=>i9
 |x::l,a,b,hp,hl,h=>by
  obtain⟨d,e⟩:=zC.1 hp;have f:=hl x qH;have:=Ta (a:=x+1) (b:=b) e (λk c=>⟨by have:=d k c;omega,(hl k (qC _ c)).2⟩) i5;rw[zi];omega
theorem kG{m:aE}(h:bN m=eR):i0 m.drives<=64:=by have:=Ta ((cF m).1 h).2.1 (mO h) i6;omega
theorem Vt(b:ByteArray):∀n i r,b.size-i=n->ByteArray.toList.loop b i r=r.reverse++b.data.toList.drop i:=by
 have c:i0 b.data.toList=b.size:=rfl;intro n
 induction n with
 |zero=>
  intro i r h;rw[ByteArray.toList.loop,g0 i5,List.drop_eq_nil_of_le (by rw[c];omega),qN]
 |succ n ih=>
  intro i r h;have a:i<b.size:=i5
  rw[ByteArray.toList.loop,f9 a,ih (i+1) _ i5];have d:b.data.toList.drop i=b.get! i::b.data.toList.drop (i+1):=by rw[List.drop_eq_getElem_cons (by rw[c];exact a)];congr 1;show _=b.data[i]!;rw[getElem!_pos b.data i a,Array.getElem_toList]
  rw[d,List.reverse_cons,qq];rfl
theorem toList_eq(x:ByteArray):x.toList=x.data.toList:=by unfold ByteArray.toList;rw[Vt x _ 0 [] rfl];rfl
theorem Ep{a b:ByteArray}(h:a.toList=b.toList):a=b:=by rw[toList_eq,toList_eq]at h;cases a;cases b;congr;exact Array.toList_inj.1 h
end Wl
namespace Go.Qw
open Go Go.Vc
def kH:Nat->Nat->Nat->List (List Nat)
 |0,_,_=>[[]]
 |t+1,a,n=>(zR a (n-t-a)).flatMap λi=>(kH t (i+1) n).map (i::·)
def kl(n:Nat):List Nat->Option (List Nat)
 |[]=>none
 |x::l=>match kl n l with
  |some l'=>dB (x::l')
  |none=>if x+i0 l+1<n then dB (zR (x+1) (i0 l+1))else none
inductive ra (n:Nat):List Nat->List (List Nat)->Prop
 |last {l:List Nat}:kl n l=none->ra n l [l]
 |more {l l':List Nat} {L:List (List Nat)}:kl n l=dB l'->ra n l' L->ra n l (l::L)
theorem Hb{n:Nat}:∀{l l':List Nat},kl n l=dB l'->i0 l'=i0 l
 |[],_,h=>k5
 |x::l,l',h=>by
  unfold kl at h;cases hs:kl n l with
  |some m=>rw[hs]at h;injection h with h;subst h;simp[Hb hs]
  |none=>
   rw[hs]at h;dsimp only at h;split at h
   ·injection h with h;subst h;simp
   ·cases h
theorem ra.cons{n x t:Nat}{l:List Nat}{L R:List (List Nat)}(h:ra n l L)(a:i0 l=t)(c:x+t+1<n)(b:ra n (zR (x+1) (t+1)) R):ra n (x::l) (L.map (x::·)++R):=by
 induction h with
 |last hs=>exact .more (by unfold kl;rw[hs];dsimp only;rw[f9 i5,a]) b
 |more hs _ ih=>exact .more (by unfold kl;rw[hs]) (ih (by rw[Hb hs,a]))
theorem ra.aiL{n x t:Nat}{l:List Nat}{L:List (List Nat)}(h:ra n l L)(a:i0 l=t)(b:¬x+t+1<n):ra n (x::l) (L.map (x::·)):=by
 induction h with
 |last hs=>exact .last (by unfold kl;rw[hs];dsimp only;rw[g0 i5])
 |more hs _ ih=>exact .more (by unfold kl;rw[hs]) (ih (by rw[Hb hs,a]))
theorem Hd(n:Nat):∀t a,a+t<=n->ra n (zR a t) (kH t a n)
 |0,a,_=>.last i4
 |t+1,a,h=>by
  have b:∀m a,a+(t+1)<=n->m+1=n-t-a->ra n (zR a (t+1)) ((zR a (m+1)).flatMap λi=>(kH t (i+1) n).map (i::·)):=by
   intro m
   induction m with
   |zero=>
    intro a h c;have:=(Hd n t (a+1) i5).aiL (x:=a) (t:=t) jj i5;simpa[yj]using this
   |succ m ih=>
    intro a h c;have:=(Hd n t (a+1) i5).cons (x:=a) (t:=t) jj i5 (ih (a+1) i5 i5);rw[yj,yj (n:=m+1),zg];exact this
  have:=b (n-t-a-1) a h i5;rw[show n-t-a-1+1=n-t-a by omega]at this;exact this
theorem Tb{n:Nat}:∀(i:Nat) (l m:List Nat),i<=i0 l->kl n (l.drop i)=dB m->kl n l=dB (l.take i++m)
 |0,l,m,_,h=>j7
 |i+1,[],m,h,_=>m6
 |i+1,x::l,m,h,hs=>by
  have:=Tb i l m j7 (by simpa using hs);unfold kl;rw[this];simp
theorem Ak{n:Nat}:∀{t a:Nat} {s:List Nat},s∈kH t a n->i0 s=t/\(∀x∈s,a<=x/\x<n)/\s.Pairwise (·<·)
 |0,a,s,h=>by simp[kH]at h;subst h;simp
 |t+1,a,s,h=>by
  simp only[kH,zD,qt,List.mem_range'_1]at h;obtain⟨i,f,l,e,rfl⟩:=h;obtain⟨d,c,h3⟩:=Ak e;refine⟨pb,?_,zC.2 ⟨λx b=>(c x b).1,h3⟩⟩;intro x b;rcases qX.1 b with rfl|b
  ·omega
  ·have:=c x b;omega
theorem KU{n:Nat}:∀{t a:Nat} {s:List Nat},i0 s=t->(∀x∈s,a<=x/\x<n)->s.Pairwise (·<·)->s∈kH t a n
 |0,a,s,h,_,_=>by simp[kH];simpa using h
 |t+1,a,[],h,_,_=>m6
 |t+1,a,x::l,h,hb,b=>by
  rw[zC]at b;have f:i0 l=t:=j7
  simp only[kH,zD,qt,List.mem_range'_1];have g:=hb x jj;refine⟨x,⟨g.1,?_⟩,l,KU f (λy c=>⟨b.1 y c,(hb y mn).2⟩) b.2,i4⟩;have d:∀(l:List Nat) (x:Nat),(x::l).Pairwise (·<·)->(∀y∈x::l,y<n)->x+i0 l<n:=by
   intro l
   induction l with
   |nil=>intro x _ c;exact c x jj
   |cons y l ih=>
    intro x b c;rw[zC]at b;have i:=ih y b.2 λz e=>c z (qC _ e);have j:=b.1 y jj;simp;omega
  have:=d l x (zC.2 b) λy c=>(hb y c).2;omega
def ch:Nat->Nat->Nat
 |_,0=>1
 |0,_+1=>0
 |n+1,k+1=>ch n k+ch n (k+1)
theorem nF(n:Nat):ch n 0=1:=by cases n<;>rfl
theorem Jm:∀(n k:Nat),n<k->ch n k=0
 |_,0,h=>i5
 |0,k+1,_=>rfl
 |n+1,k+1,h=>by rw[ch,Jm n k i5,Jm n (k+1) i5]
theorem OD:∀n,ch n n=1
 |0=>rfl
 |n+1=>by rw[ch,OD n,Jm n (n+1) i5]
theorem He:∀(n k:Nat),(k+1)*ch (n+1) (k+1)=(n+1)*ch n k
 |0,0=>rfl
 |0,k+1=>by rw[Jm 0 (k+1) i5,Jm (0+1) (k+1+1) i5];simp
 |n+1,0=>by
  have:=He n 0;rw[nF]at this⊢;rw[ch,nF,vW,this];omega
 |n+1,k+1=>by
  have b:=He n k;have c:=He n (k+1);rw[ch];have e:(k+1+1)*(ch (n+1) (k+1)+ch (n+1) (k+1+1))=((k+1)*ch (n+1) (k+1)+ch (n+1) (k+1))+(k+1+1)*ch (n+1) (k+1+1):=by rw[vW,zG (k+1)]
  rw[e,b,c];have a:ch (n+1) (k+1)=ch n k+ch n (k+1):=rfl;rw[a,zG (n+1),vW (n+1)];omega
theorem Xk{n k:Nat}(h:k<=n):ch n (k+1)*(k+1)=ch n k*(n-k):=by
 cases n with
 |zero=>
  have:k=0:=i5
  subst this;rfl
 |succ n=>
  have b:=He n k;have c:(n+1)*ch n k=(n+1-k)*ch (n+1) k:=by
   cases k with
   |zero=>rw[nF,nF];simp
   |succ k=>
    have h3:=He n k;have a:ch (n+1) (k+1)=ch n k+ch n (k+1):=rfl;have e:(n+1)*ch (n+1) (k+1)=(n+1)*ch n k+(n+1)*ch n (k+1):=by rw[a,vW]
    have d:(n+1-(k+1))*ch (n+1) (k+1)=(n+1)*ch (n+1) (k+1)-(k+1)*ch (n+1) (k+1):=Nat.sub_mul _ _ _;rw[d,h3,e];omega
  rw[Nat.mul_comm,b,c,Nat.mul_comm]
theorem aiM{n k:Nat}(h:2*(k+1)<=n+1):ch n k<=ch n (k+1):=by
 have a:=Xk (n:=n) (k:=k) i5;by_cases h0:ch n k=0
 ·omega
 ·have b:ch n k*(k+1)<=ch n (k+1)*(k+1):=by rw[a];exact Nat.mul_le_mul_left _ i5
  exact Nat.le_of_mul_le_mul_right b i5
theorem Tc:∀(n k:Nat),k<=n->ch n k=ch n (n-k)
 |0,0,_=>rfl
 |n+1,0,_=>by rw[nF,Nat.sub_zero,OD]
 |n+1,k+1,h=>by
  by_cases b:k=n
  ·subst b;rw[OD,Nat.sub_self,nF]
  ·have a:=Tc n k i5;have c:=Tc n (k+1) i5;rw[show n+1-(k+1)=(n-(k+1))+1 by omega,ch,ch,a,c,show n-k=n-(k+1)+1 by omega];omega
theorem KV(n:Nat):∀t a,a<=n->i0 (kH t a n)=ch (n-a) t
 |0,a,_=>by rw[nF];rfl
 |t+1,a,h=>by
  have b:∀m a,m=n-t-a->a<=n->i0 ((zR a m).flatMap λi=>(kH t (i+1) n).map (i::·))=ch (n-a) (t+1):=by
   intro m
   induction m with
   |zero=>intro a d c;rw[Jm _ _ i5];rfl
   |succ m ih=>
    intro a d c;rw[yj,zg,qy,qA,KV n t (a+1) i5,ih (a+1) i5 i5];rw[show n-a=n-(a+1)+1 by omega];rfl
  exact b _ a i4 h
def hJ(n t:Int):Int:=if 0<=n/\n<=64/\0<=t/\t<=n then(min (ch n.toNat t.toNat) 4097:Nat)else 0
end Go.Qw
namespace Wl
open Classical
def fm(r:Row):Nat:=r.findIdx (λx=>x !=0)
def eK(M:aM)(r:Row):Row:=M.foldl (λout x=>cR (aN out (fm x)) x out) r
def nj(m:aM):aM:=(bH m (eN m)).2.take (cb m)
def Td(M:aM)(r:Row):aM:=if fm (eK M r)<i0 (eK M r) then nj (M++[eK M r])else M
theorem OE{r:Row}{c:Nat}(h:c<i0 r):aN r c=r[c]:=by rw[aN,qe,qd h];rfl
theorem agn{r:Row}{j:Nat}(h:aN r j≠0):fm r<i0 r:=by have a:j<i0 r:=Nat.lt_of_not_le λb=>h (by simp[aN,qe,qV b]);rw[fm,wK];exact⟨r[j],qh a,by rw[<-OE a];simpa using h⟩
theorem aaA{r:Row}(h:¬fm r<i0 r):r=aK r.length:=by rw[fm,wK]at h;refine eT i4 k6 λj a=>?_;rw[cy,OE a];have c:¬((r[j] !=0)=eR):=λb=>h ⟨r[j],qh a,b⟩;simpa using c
section
variable {n:Nat} {m M A:aM}
theorem KW(b:aV n M){r:Row}(a:i0 r=n):i0 (eK M r)=n:=by
 unfold eK
 induction M generalizing r with
 |nil=>exact a
 |cons x M ih=>
  rw[zB];exact ih (λy c=>b y (qC _ c)) (by rw[bX (by rw[b x jj,a])];exact a)
theorem aaB{c:UInt8}{a t:Row}(h:i0 a=i0 t):cR c a (cR c a t)=t:=
 eT (n:=i0 t) (by rw[bX (by rw[bX h];exact h),bX h]) i4 λj _=>by
  rw[cH (by rw[bX h];exact h),cH h,sA]
theorem PT(a:aV n m)(d:∀x∈M,Span n m x){r:Row}(c:i0 r=n):Span n m (eK M r)↔Span n m r:=by
 unfold eK
 induction M generalizing r with
 |nil=>exact Iff.rfl
 |cons x M ih=>
  have b:=d x jj;have e:i0 x=i0 r:=by rw[b.len a,c]
  rw[zB,ih (λy f=>d y (qC _ f)) (by rw[bX e];exact c)];refine⟨λh=>?_,λh=>b.comb a h _⟩;have:=b.comb a h (aN r (fm x));rw[aaB e]at this;exact this
structure Er (n:Nat) (M A:aM):Prop where
 even:aV n M
 evenA:aV n A
 span:∀v,Span n M v↔Span n A v
 len:i0 M=cb A
 lead:∀x∈M,fm x<n
theorem ahA(n:Nat):Er n [] []:=⟨λ_ h=>k5,λ_ h=>k5,λ_=>Iff.rfl,by simp[cb,kF],λ_ h=>k5⟩
theorem PU(b:aV n m)(a:aV n A)(h:∀v,Span n m v↔Span n A v):cb m=cb A:=by rw[mu b,mu a];congr 1;funext v;exact propext (h v)
theorem Te(a:aV n m):Way n m n (cb m) (bH m (eN m)).2:=by
 have h:=Ji a n (qk _);cases m with
 |nil=>rw[kF]at h;rw[cb,kF];exact h
 |cons x t=>
  have b:eN (x::t)=n:=by rw[eN,bx jj];exact a _ jj
  rw[cb,b];exact h
theorem ahB(B:aV n m):aV n (nj m)/\(∀v,Span n (nj m) v↔Span n m v)/\(nj m).length=cb m/\∀x∈nj m,fm x<n:=by
 have w:=Te B;obtain⟨f,q,A,i,t,⟨p,F,z,E,D⟩,d⟩:=w;have a:aV n (nj m):=λx h=>f x (zS h);refine⟨a,λv=>?_,by rw[nj,zb];omega,λx h=>?_⟩
 ·rw[<-i v];refine⟨Span.mono λr g=>zS g,Span.sub a λr g=>?_⟩;obtain⟨k,b,rfl⟩:=fl g;by_cases u:k<cb m
  ·refine Span.row a ?_;have:aC (bH m (eN m)).2 k=aC (nj m) k:=by rw[bx b,bx (by rw[nj,zb];omega)];simp[nj]
   rw[this];exact mem_row (by rw[nj,zb];omega)
  ·have:aC (bH m (eN m)).2 k=aK n:=eT (f _ g) k6 λj y=>by rw[cy];exact d k i5 b j y
   rw[this];exact .zero
 ·obtain⟨k,b,rfl⟩:=fl h;have l:k<cb m:=by rw[nj,zb]at b;omega
  have c:k<(bH m (eN m)).2.length:=i5
  have e:aC (nj m) k=aC (bH m (eN m)).2 k:=by rw[bx c,bx b];simp[nj]
  have o:=z k l k c;rw[f9 rfl]at o;have s:=agn (r:=aC (nj m) k) (j:=p k) (by rw[e,o];decide);rw[a _ h]at s;exact s
theorem adF(h:∀v,Span n M v↔Span n A v)(g:aV n M)(f:aV n A){r:Row}(j:i0 r=n){rest:Row}(k:i0 rest=n)
  (e:∀m,aV n m->(∀x∈M,Span n m x)->(Span n m rest↔Span n m r)):∀v,Span n (M++[rest]) v↔Span n (A++[r]) v:=λv=>by
 have b:=nh g k;have d:=nh f j;have o:∀x∈M,Span n (M++[rest]) x:=λx c=>Span.row b (zn _ c);have i:∀x∈M,Span n (A++[r]) x:=λx c=>Span.mono (λy a=>zn _ a) ((h x).1 (Span.row g c));constructor
 ·refine Span.sub d λy a=>?_;rcases qD.1 a with a|a
  ·exact i y a
  ·rw[qx]at a;subst a;exact(e _ d i).2 (Span.row d jj)
 ·refine Span.sub b λy a=>?_;rcases qD.1 a with a|a
  ·exact Span.mono (λz l=>zn _ l) ((h y).2 (Span.row f a))
  ·rw[qx]at a;subst a;exact(e _ b o).1 (Span.row b jj)
theorem aaC(h:Er n M A){r:Row}(b:i0 r=n):Er n (Td M r) (A++[r]):=by
 have d:=KW h.even b;have j:=adF h.span h.even h.evenA b d λm l k=>PT l k b;have e:=nh h.evenA b;unfold Td;split
 ·have t:=ahB (nh h.even d);refine⟨t.1,e,λv=>(t.2.1 v).trans (j v),?_,t.2.2.2⟩;rw[t.2.2.1];exact PU (nh h.even d) e j
 ·rename_i g;have g:=aaA g;have f:Span n M r:=(PT h.even (λx i=>Span.row h.even i) b).1 (by rw[g,d];exact .zero);have c:∀v,Span n M v↔Span n (A++[r]) v:=λv=>by
   rw[h.span v];refine⟨Span.mono λx i=>zn _ i,Span.sub h.evenA λy a=>?_⟩;rcases qD.1 a with a|a
   ·exact Span.row h.evenA a
   ·rw[qx]at a;subst a;exact(h.span _).1 f
  refine⟨h.even,e,c,?_,h.lead⟩;rw[h.len];exact PU h.evenA e λv=>(h.span v).symm.trans (c v)
end
abbrev fu:=az×Row
def cO(x:Int->UInt8):az->UInt8
 |[]=>0
 |c::l=>x c^^^cO x l
theorem kI{x y:Int->UInt8}:∀{l:az},(∀c∈l,x c=y c)->cO x l=cO y l
 |[],_=>rfl
 |c::l,h=>by rw[cO,cO,h c jj,kI λd a=>h d l7]
theorem JT(x:Int->UInt8)(p:Int->Bool):∀l,cO x l=cO x (l.filter p)^^^cO x (l.filter λc=>!p c)
 |[]=>by simp[cO]
 |c::l=>by
  rw[cO,JT x p l];cases h:p c<;>simp only[zr,h,w6,Bool.not_false,if_true,zj,if_false,cO]<;>ac_rfl
theorem BG(x:Int->UInt8){c:Int}:∀{l:az},l.Nodup->c∈l->cO x l=x c^^^cO x (l.filter λd=>!decide (d=c))
 |[],_,h=>k5
 |d::l,hd,h=>by
  rw[yg]at hd;rcases qX.1 h with rfl|h
  ·have:l.filter (λd=>!decide (d=c))=l:=zU.2 λe f=>by
    have:e≠c:=λb=>hd.1 (b▸f);simp[this]
   rw[zr];simp only[decide_true,w6,zj,if_false];rw[this,cO]
  ·have a:d≠c:=λb=>hd.1 (b▸h);rw[zr,f9 l7,cO,cO,BG x hd.2 h];ac_rfl
theorem Tf(x y:Int->UInt8):∀l,cO (λc=>x c^^^y c) l=cO x l^^^cO y l
 |[]=>by simp[cO]
 |c::l=>by rw[cO,cO,cO,Tf x y l];ac_rfl
theorem Hg:∀{x:Int->UInt8} {l:az},(∀c∈l,x c=0)->cO x l=0
 |_,[],_=>rfl
 |x,c::l,h=>by rw[cO,h c jj,Hg λd a=>h d l7];rfl
def cP(V:aM)(a:Row)(l:az):Row:=l.foldl (λa c=>cR 1 (aC V c.toNat) a) a
theorem kf{V:aM}{m:Nat}:∀{l:az} {a:Row},i0 a=m->(∀c∈l,i0 (aC V c.toNat)=m)->i0 (cP V a l)=m
 |[],a,h,_=>h
 |c::l,a,h,hv=>by
  rw[cP,zB];exact kf (l:=l) (by rw[bX (by rw[hv c jj,h])];exact h) λd b=>hv d oi
theorem KX{V:aM}{m:Nat}(j:Nat):∀{l:az} {a:Row},i0 a=m->(∀c∈l,i0 (aC V c.toNat)=m)->aN (cP V a l) j=aN a j^^^cO (λc=>aN (aC V c.toNat) j) l
 |[],a,_,_=>by simp[cP,cO]
 |c::l,a,h,hv=>by
  have b:i0 (aC V c.toNat)=i0 a:=by rw[hv c jj,h]
  rw[cP,zB];have:=KX (V:=V) j (l:=l) (a:=cR 1 (aC V c.toNat) a) (by rw[bX b];exact h) λd e=>hv d pt;rw[cP]at this;rw[this,cH b,Gf.one_mul,cO];ac_rfl
def Sat(t:UInt8)(k:Nat)(x:Int->UInt8)(e:fu):Prop:=cO x e.1=Gf.mul t (aN e.2 k)
structure jf (n w:Nat) (e:fu):Prop where
 cS:∀c∈e.1,0<=c/\c<(n:Int)
 nodup:e.1.Nodup
 len:i0 e.2=w
def kn(known:List Bool)(c:Int):Bool:=known.getD c.toNat eS
def fw(known:List Bool)(vals:aM)(e:fu):fu:=(e.1.filter λc=>!kn known c,cP vals e.2 (e.1.filter λc=>kn known c))
structure kg (n w:Nat) (l:List fu) (known:List Bool) (vals:aM):Prop where
 klen:i0 known=n
 vlen:i0 vals=n
 row:∀c:Nat,c<n->i0 (aC vals c)=if known.getD c eS then w else 0
 sound:∀t k x,k<w->(∀e∈l,Sat t k x e)->∀c:Int,0<=c->c<(n:Int)->kn known c=eR->x c=Gf.mul t (aN (aC vals c.toNat) k)
section
variable {n w:Nat} {l:List fu} {known:List Bool} {vals:aM}
theorem Yr(n w:Nat)(l:List fu):kg n w l (qg n eS) (qg n []):=by
 refine⟨jj,jj,λc b=>?_,λt k x e f c h0 d a=>?_⟩
 ·rw[bx k0];simp[qe,b]
 ·exfalso;rw[kn,qe,List.getElem?_replicate]at a;split at a<;>simp at a
theorem kg.Hi(h:kg n w l known vals){c:Int}(d:0<=c)(b:c<(n:Int))(a:kn known c=eR):i0 (aC vals c.toNat)=w:=by have:=h.row c.toNat i5;rw[kn]at a;rw[a]at this;simpa using this
theorem kg.Da(h:kg n w l known vals){e:fu}(b:jf n w e):jf n w (fw known vals e):=
 ⟨λc d=>b.cS c (qI.1 d).1,b.nodup.filter _,kf b.len λc d=>by
  have a:=qI.1 d;exact h.Hi (b.cS c a.1).1 (b.cS c a.1).2 a.2⟩
theorem kg.Jn(h:kg n w l known vals){e:fu}(f:jf n w e){t:UInt8}{k:Nat}{x:Int->UInt8}(j:∀c:Int,0<=c->c<(n:Int)->kn known c=eR->x c=Gf.mul t (aN (aC vals c.toNat) k)):
  Sat t k x (fw known vals e)↔Sat t k x e:=by
 have d:∀c∈e.1.filter λc=>kn known c,i0 (aC vals c.toNat)=w:=λc g=>by
  have b:=qI.1 g;exact h.Hi (f.cS c b.1).1 (f.cS c b.1).2 b.2
 have o:cO x (e.1.filter λc=>kn known c)=Gf.mul t (cO (λc=>aN (aC vals c.toNat) k) (e.1.filter λc=>kn known c)):=by
  rw[kI (y:=λc=>Gf.mul t (aN (aC vals c.toNat) k)) λc g=>j c (f.cS c (qI.1 g).1).1 (f.cS c (qI.1 g).1).2 (qI.1 g).2];generalize e.1.filter (λc=>kn known c)=m
  induction m with
  |nil=>simp[cO,Gf.mul_zero]
  |cons a m ih=>rw[cO,cO,Gf.ku,ih]
 unfold Sat fw;dsimp only;rw[KX k f.len d,Gf.ku,<-o,JT x (λc=>kn known c) e.1];constructor
 ·intro i;rw[i];rw[vj,sA]
 ·intro i;rw[<-i];rw[vj (cO x (e.1.filter λc=>kn known c)),sA]
theorem ahC{known:List Bool}{c d:Int}(b:0<=c)(a:0<=d)(e:c<(i0 known:Int)):kn (known.set c.toNat eR) d=(decide (d=c)||kn known d):=by
 unfold kn;rw[qe,zd];by_cases h:d=c
 ·subst h;rw[f9 i4,f9 i5];simp
 ·rw[g0 i5];simp[h]
theorem aaD(h:kg n w l known vals)(m:∀e∈l,jf n w e){e:fu}(j:e∈l){c:Int}(o:(fw known vals e).1=[c]):kg n w l (known.set c.toNat eR) (vals.set c.toNat (fw known vals e).2):=by
 have b:=h.Da (m e j);have i:=b.cS c (by rw[o];simp);have u:=h.vlen;have f:=h.klen;refine⟨nn,by simp[u],λd r=>?_,λt k x p g d h0 s q=>?_⟩
 ·rw[lH,qe,zd];by_cases a:c.toNat=d
  ·subst a;simp[show c.toNat<i0 known by omega,b.len]
  ·rw[g0 a,g0 a,h.row d r,qe]
 ·rw[ahC i.1 h0 i5]at q;rw[lH];by_cases a:d=c
  ·subst a;rw[f9 rfl];have:=(h.Jn (m e j) (h.sound t k x p g)).2 (g e j);unfold Sat at this;rw[o]at this;simpa[cO]using this
  ·rw[g0 i5];exact h.sound t k x p g d h0 s (by simpa[a]using q)
theorem Hj(h:kg n w l known vals)(e:fu):∀c∈(fw known vals e).1,kn known c=eS:=λc a=>by
 have:=(qI.1 a).2;simpa using this
def bf(known:List Bool)(vals:aM)(l:List fu):List fu:=(l.map (fw known vals)).filter λe=>!e.1.isEmpty
def kJ(known:List Bool)(vals:aM)(l:List fu):Bool:=(l.map (fw known vals)).any λe=>e.1.isEmpty&&e.2.any (· !=0)
theorem Tg(h:kg n w l known vals)(g:∀e∈l,jf n w e)(f:kJ known vals l=eS){t:UInt8}{k:Nat}{x:Int->UInt8}(o:k<w):
  (∀e∈l,Sat t k x e)↔(∀c:Int,0<=c->c<(n:Int)->kn known c=eR->x c=Gf.mul t (aN (aC vals c.toNat) k))/\∀e∈bf known vals l,Sat t k x e:=by
 constructor
 ·intro i;refine⟨h.sound t k x o i,λe b=>?_⟩;obtain⟨m,d,rfl⟩:=qt.1 (qI.1 b).1;exact(h.Jn (g m d) (h.sound t k x o i)).2 (i m d)
 ·rintro⟨q,p⟩ e b;refine(h.Jn (g e b) q).1 ?_;by_cases a:(fw known vals e).1=[]
  ·unfold Sat;rw[a,cO];have j:((fw known vals e).1.isEmpty&&(fw known vals e).2.any (· !=0))=eS:=by have:=wi.1 f _ (List.mem_map_of_mem b);simpa using this
   rw[a]at j;have r:∀y∈(fw known vals e).2,y=0:=by simpa using j
   have h3:=(h.Da (g e b)).len;have:aN (fw known vals e).2 k=0:=by rw[aN,qe,qd i5];exact r _ (qh _)
   rw[this,Gf.mul_zero]
  ·refine p _ (qI.2 ⟨List.mem_map_of_mem b,?_⟩);simpa using a
theorem Ys(h:kg n w l known vals)(i:∀e∈l,jf n w e)(b:kJ known vals l=eR):∃k,k<w/\∀x:Int->UInt8,¬∀e∈l,Sat 1 k x e:=by
 obtain⟨y,p,d⟩:=zV.1 b;obtain⟨e,g,rfl⟩:=qt.1 p;rw[qz]at d;obtain⟨z,m,a⟩:=zV.1 d.2;obtain⟨k,o,rfl⟩:=qJ m;have h3:=(h.Da (i e g)).len;refine⟨k,i5,λx j=>?_⟩;have f:=(h.Jn (i e g) (h.sound 1 k x i5 j)).2 (j e g);unfold Sat at f;have c:(fw known vals e).1=[]:=by simpa using d.1
 rw[c,cO,Gf.one_mul,aN,qe,qd o]at f;simp at a;exact a f.symm
end
def kp(op:List Bool)(c:Int):Bool:=op.getD c.toNat eS
def db(op:List Bool)(r:az):az:=r.filter (kp op)
def mV(rows:bV)(op us:List Bool)(i:Nat):Bool:=!(us.getD i eS)&&i0 (db op (rows.getD i []))==1
def mW(rows:bV)(op us:List Bool):Option Nat:=(qw rows.length).find? (mV rows op us)
def fo(rows:bV)(op:List Bool)(i:Nat):Int:=(db op (rows.getD i [])).getLast?.getD 0
def kK(a:az)(r:az):az:=r.foldl (λa c=>a.set c.toNat (a.getD c.toNat 0+1)) a
def lJ(g:Nat->az->az)(rows:bV)(us:List Bool)(a:az):Nat->az
 |0=>a
 |k+1=>if us.getD k eS then lJ g rows us a k else kK (lJ g rows us a k) (g k (rows.getD k []))
def ja(op:List Bool)(a:az):Nat->Int
 |0=>-1
 |k+1=>if op.getD k eS&&(decide (ja op a k<0)||decide (a.getD k 0>a.getD (ja op a k).toNat 0))then(k:Int)else ja op a k
def hO(rows:bV)(op us:List Bool):Int:=ja op (lJ (λ_ r=>r) rows us (qg op.length 0) rows.length) op.length
structure Pl where
 steps:List (Int×Int)
 dead:az
 used:List Bool
def cD(rows:bV):Nat->List Bool->List Bool->Pl
 |0,_,us=>⟨[],[],us⟩
 |k+1,op,us=>
  if op.contains eR then
   match mW rows op us with
   |some i=>let r:=cD rows k (op.set (fo rows op i).toNat eS) (us.set i eR);⟨((i:Int),fo rows op i)::r.steps,r.dead,r.used⟩
   |none=>let r:=cD rows k (op.set (hO rows op us).toNat eS) us;⟨r.steps,hO rows op us::r.dead,r.used⟩
  else⟨[],[],us⟩
def fG(us:List Bool):Nat->az
 |0=>[]
 |k+1=>if us.getD k eS then fG us k else fG us k++[(k:Int)]
def dM(n:Nat)(rows:bV):Pl:=cD rows n (qg n eR) (qg rows.length eS)
theorem aaE{P:Nat->Bool}{n:Nat}(h:∀j,j<n->P j=eS):(qw n).find? P=none:=by rw[z8];intro x a;rw[qE]at a;simp[h x a]
theorem aaF{P:Nat->Bool}{n k:Nat}(f:k<n)(h:∀j,j<k->P j=eS)(c:P k=eR):(qw n).find? P=dB k:=by
 rw[List.find?_eq_some_iff_append];refine⟨c,qw k,zR (k+1) (n-k-1),?_,λa b=>?_⟩
 ·rw[yN,yN];have d:n=k+(n-k):=i5
  have e:n-k=(n-k-1)+1:=i5
  conv=>lhs;rw[d,<-List.range'_append_1 (s:=0) (m:=k) (n:=n-k)]
  rw[wJ]
  conv=>lhs;rw[e,yj]
 ·rw[qE]at b;simp[h a b]
theorem Vu(a r:az)(c:Int):kK a (r++[c])=(kK a r).set c.toNat ((kK a r).getD c.toNat 0+1):=by simp[kK]
theorem Fx(b r:az):i0 (kK b r)=i0 b:=by
 induction r generalizing b with
 |nil=>rfl
 |cons a t ih=>simp only[kK,zB]at*;rw[ih];simp
theorem Es(g:Nat->az->az)(rows:bV)(us:List Bool)(a:az):∀k,i0 (lJ g rows us a k)=i0 a
 |0=>rfl
 |k+1=>by
  unfold lJ;split
  ·exact Es g rows us a k
  ·rw[Fx,Es g rows us a k]
theorem Hk{m:Int}:∀{r b:az},(∀x∈b,0<=x/\x<=m)->∀x∈kK b r,0<=x/\x<=m+i0 r
 |[],b,h,x,hx=>by have:=h x hx;simp;omega
 |a::t,b,h,x,hx=>by
  have d:∀y∈b.set a.toNat (b.getD a.toNat 0+1),0<=y/\y<=m+1:=by
   intro y c;rcases List.mem_or_eq_of_mem_set c with c|c
   ·have:=h y c;omega
   ·subst c;rw[qe];cases hc:b[a.toNat]? with
    |none=>
     rw[List.getElem?_eq_none_iff]at hc;rw[List.set_eq_of_length_le hc]at c;have:=h _ c;rw[qe,qV hc]at this;simp at this⊢;omega
    |some z=>have:=h z (List.mem_of_getElem? hc);simp;omega
  have:=Hk (r:=t) d x hx;simp only[zi];omega
theorem Th(g:Nat->az->az){rows:bV}{us:List Bool}{n:Nat}(a:∀k,i0 (g k (rows.getD k []))<=64):∀k,∀x∈lJ g rows us (qg n 0) k,0<=x/\x<=64*k
 |0,x,hx=>by
  have:=List.eq_of_mem_replicate hx;subst this;simp
 |k+1,x,hx=>by
  unfold lJ at hx;split at hx
  ·have:=Th g a k x hx;omega
  ·have:=Hk (Th g a k) x hx;have:=a k;omega
theorem PW(op:List Bool)(a:az):∀k,(ja op a k=-1/\∀j,j<k->op.getD j eS=eS)∨(0<=ja op a k/\ja op a k<k/\op.getD (ja op a k).toNat eS=eR)
 |0=>.inl ⟨i4,λj b=>i5⟩
 |k+1=>by
  unfold ja;split
  ·rename_i c;simp only[qz]at c;exact .inr ⟨i5,i5,by rw[qm];exact c.1⟩
  ·rename_i c;rcases PW op a k with⟨e,h⟩|⟨h1,h2,h3⟩
   ·refine .inl ⟨e,λj b=>?_⟩;rcases zo.1 b with b|rfl
    ·exact h j b
    ·by_cases d:op.getD j eS=eR
     ·exact absurd (by rw[d,e];rfl) c
     ·simpa using d
   ·exact .inr ⟨h1,i5,h3⟩
theorem Hl{op:List Bool}(h:op.contains eR=eR):∃j,j<i0 op/\op.getD j eS=eR:=by simp only[List.contains_iff_mem]at h;obtain⟨j,a,e⟩:=qJ h;exact⟨j,a,by rw[qe,qd a];exact e⟩
theorem tQ{rows:bV}{op us:List Bool}(h:op.contains eR=eR):0<=hO rows op us/\hO rows op us<i0 op/\op.getD (hO rows op us).toNat eS=eR:=by
 obtain⟨j,a,e⟩:=Hl h;rcases PW op (lJ (λ_ r=>r) rows us (qg op.length 0) rows.length) op.length with⟨_,h2⟩|h2
 ·rw[h2 j a]at e;cases e
 ·exact h2
theorem xv{rows:bV}{op us:List Bool}{i:Nat}(h:mW rows op us=dB i):i<i0 rows/\mV rows op us i=eR:=by have a:=List.mem_of_find?_eq_some h;have b:=List.find?_some h;exact⟨qE.1 a,b⟩
theorem Et{rows:bV}{op us:List Bool}{i:Nat}(d:mV rows op us i=eR):db op (rows.getD i [])=[fo rows op i]/\fo rows op i∈rows.getD i []/\kp op (fo rows op i)=eR:=by
 simp only[mV,qz,beq_iff_eq]at d;obtain⟨c,b⟩:=List.length_eq_one_iff.1 d.2;have e:fo rows op i=c:=by unfold fo;rw[b];rfl
 have a:c∈db op (rows.getD i []):=by rw[b];simp
 rw[db,qI]at a;rw[e];exact⟨b,a.1,a.2⟩
theorem kZ{op:List Bool}{j:Nat}(h:op.getD j eS=eR):(op.set j eS).count eR+1=op.count eR:=by
 have a:j<i0 op:=by
  by_cases a:j<i0 op
  ·exact a
  ·rw[qe,qV i5]at h;cases h
 have e:op[j]=eR:=by rw[qe,qd a]at h;exact h
 have b:0<op.count eR:=List.count_pos_iff.2 (e▸qh a);rw[List.count_set a,e];simp;omega
theorem Ti{op:List Bool}(h:op.count eR=0):op.contains eR=eS:=by rw[List.count_eq_zero]at h;simpa using h
theorem BH{rows:bV}{op us:List Bool}(h:op.contains eR=eS):∀k,cD rows k op us=⟨[],[],us⟩
 |0=>rfl
 |k+1=>by unfold cD;rw[h];rfl
theorem pj{rows:bV}{op us:List Bool}{i k:Nat}(h:op.contains eR=eR)(a:mW rows op us=dB i):
  cD rows (k+1) op us=⟨((i:Int),fo rows op i)::(cD rows k (op.set (fo rows op i).toNat eS) (us.set i eR)).steps,(cD rows k (op.set (fo rows op i).toNat eS) (us.set i eR)).dead,(cD rows k (op.set (fo rows op i).toNat eS) (us.set i eR)).used⟩:=by
 rw[cD,h,a];rfl
theorem pk{rows:bV}{op us:List Bool}{k:Nat}(h:op.contains eR=eR)(a:mW rows op us=none):
  cD rows (k+1) op us=⟨(cD rows k (op.set (hO rows op us).toNat eS) us).steps,hO rows op us::(cD rows k (op.set (hO rows op us).toNat eS) us).dead,(cD rows k (op.set (hO rows op us).toNat eS) us).used⟩:=by
 rw[cD,h,a];rfl
theorem uB(rows:bV):∀k op us,(cD rows k op us).used.length=i0 us
 |0,_,_=>rfl
 |k+1,op,us=>by
  unfold cD;split
  ·split
   ·show(cD rows k _ _).used.length=_;rw[uB];simp
   ·show(cD rows k _ _).used.length=_;rw[uB]
  ·rfl
theorem Jo(us:List Bool):∀k,i0 (fG us k)<=k
 |0=>by simp[fG]
 |k+1=>by
  have:=Jo us k;unfold fG;split<;>simp<;>omega
theorem uO{op:List Bool}{f:Nat}(h:op.count eR=f+1):op.contains eR=eR:=by
 have:0<op.count eR:=i5
 rw[List.count_pos_iff]at this;simpa using this
theorem Vv{P:Nat->Bool}{n j:Nat}(a:j<n)(h:P j=eR):∃i,(qw n).find? P=dB i:=by
 cases hf:(qw n).find? P with
 |some i=>exact⟨i,i4⟩
 |none=>
  rw[z8]at hf;exact absurd h (hf j (qE.2 a))
theorem jO(l:List Bool)(i j:Nat)(x:Bool):(l.set i x).getD j eS=if i=j/\j<i0 l then x else l.getD j eS:=by
 simp only[qe,zd];by_cases h:i=j
 ·subst h;by_cases a:i<i0 l<;>simp[a]
 ·simp[h]
def Al(rows:bV)(op us:List Bool):Prop:=∀i,us.getD i eS=eR->db op (rows.getD i [])=[]
theorem nG{op:List Bool}{c d:Int}(h:kp (op.set d.toNat eS) c=eR):kp op c=eR/\c.toNat≠d.toNat:=by
 unfold kp at*;rw[jO]at h;by_cases e:d.toNat=c.toNat
 ·rw[f9]at h
  ·cases h
  ·refine⟨e,?_⟩;by_cases b:c.toNat<i0 op
   ·exact b
   ·rw[g0 λa=>b a.2,qe,qV i5]at h;cases h
 ·rw[g0 λa=>e a.1]at h;exact⟨h,λa=>e a.symm⟩
theorem aaG{rows:bV}{op us:List Bool}{i:Nat}(m:Al rows op us)(h:mV rows op us i=eR):Al rows (op.set (fo rows op i).toNat eS) (us.set i eR):=by
 obtain⟨g,n,h3⟩:=Et h;intro j b;rw[jO]at b;rw[db,wo];intro c l f;obtain⟨f,d⟩:=nG f;have a:c∈db op (rows.getD j []):=by rw[db,qI];exact⟨l,f⟩
 by_cases e:i=j
 ·subst e;rw[g]at a;simp at a;exact d (by rw[a])
 ·rw[g0 λk=>e k.1]at b;rw[m j b]at a;simp at a
theorem Hm(n j:Nat):(qg n eS).getD j eS=eS:=by
 rw[qe];by_cases h:j<n
 ·rw[qd j7];simp
 ·rw[qV j7];rfl
theorem ahD{rows:bV}{r:az}(h:r∈rows):∃j,j<i0 rows/\rows.getD j []=r:=by obtain⟨j,a,e⟩:=qJ h;exact⟨j,a,by rw[qe,qd a];exact e⟩
def other(m i:Nat):Nat:=if i<m then i else i+1
def tR(rows:bV):(Int->Prop)->(Int->Prop)->List (Int×Int)->Prop
 |_,_,[]=>True
 |D,U,(i,c)::t=>(0<=i/\i<i0 rows)/\¬U i/\¬D c/\c∈rows.getD i.toNat []/\(∀a∈rows.getD i.toNat [],a≠c->D a)/\tR rows (λx=>D x∨x=c) (λx=>U x∨x=i) t
def aji(op:List Bool)(c:Int):Prop:=0<=c/\kp op c=eR
theorem aaH{op:List Bool}{c:Int}(h:kp op c=eR):c.toNat<i0 op:=by
 by_cases a:c.toNat<i0 op
 ·exact a
 ·unfold kp at h;rw[qe,qV i5]at h;cases h
theorem Xl{op:List Bool}{c d:Int}(f:0<=c)(b:0<=d):kp op c=eR->c≠d->kp (op.set d.toNat eS) c=eR:=by intro h a;unfold kp;rw[jO,g0 λe=>a i5];exact h
theorem xw{op:List Bool}{d:Int}(h:kp op d=eR):kp (op.set d.toNat eS) d=eS:=by unfold kp;rw[jO,f9 ⟨i4,aaH h⟩]
structure aiN (rows:bV) (op us:List Bool) (r:Pl):Prop where
 cS:i0 r.steps+i0 r.dead=op.count eR
 used:r.used.count eR=us.count eR+i0 r.steps
 keepU:∀i,us.getD i eS=eR->r.used.getD i eS=eR
 dead:∀c∈r.dead,aji op c
 deadN:r.dead.Nodup
 good:∀D U:Int->Prop,(∀c:Int,0<=c->c<i0 op->(D c↔kp op c=eS∨c∈r.dead))->(∀i:Nat,i<i0 rows->(U i↔us.getD i eS=eR∨r.used.getD i eS=eS))->tR rows D U r.steps
theorem adG{us:List Bool}{i:Nat}(h:us.getD i eS=eS)(a:i<i0 us):(us.set i eR).count eR=us.count eR+1:=by
 have e:us[i]=eS:=by rw[qe,qd a]at h;exact h
 rw[List.count_set a,e];simp
theorem Tj{rows:bV}{n:Nat}(b:∀r∈rows,∀c∈r,0<=c/\c<n):∀k op us,i0 op=n->i0 us=i0 rows->op.count eR=k->aiN rows op us (cD rows k op us)
 |0,op,us,hl,hul,hc=>⟨by simp[cD,hc],by simp[cD],λi h=>h,λc h=>by simp[cD]at h,by simp[cD],λ_ _ _ _=>trivial⟩
 |k+1,op,us,hl,hul,hc=>by
  have t:=uO hc;cases hst:mW rows op us with
  |some i=>
   obtain⟨m,s⟩:=xv hst;obtain⟨M,I,h3⟩:=Et s;have l:rows.getD i []=rows[i]:=by rw[qe,qd m];rfl
   have v:=b _ (qh m) _ (l▸I);have F:=kZ (op:=op) (j:=(fo rows op i).toNat) h3;have x:us.getD i eS=eS:=by simp only[mV,qz,wL]at s;exact s.1
   have L:=adG x i5;have a:=Tj b k (op.set (fo rows op i).toNat eS) (us.set i eR) (by simp[hl]) (by simp[hul]) i5;rw[pj t hst];generalize cD rows k (op.set (fo rows op i).toNat eS) (us.set i eR)=r at a;generalize J:fo rows op i=c at*;have z:r.used.getD i eS=eR:=a.keepU i (by rw[jO,f9 ⟨i4,i5⟩]);have p:c∉r.dead:=λh=>by
    have:=(a.dead c h).2;rw[xw h3]at this;cases this
   refine⟨by simp only[zi];have:=a.cS;omega,by simp only[zi];have:=a.used;omega,λj A=>a.keepU j (by rw[jO];split;rfl;exact A),λd q=>⟨(a.dead d q).1,(nG (a.dead d q).2).1⟩,a.deadN,λD U w y=>?_⟩;have o:rows.getD ((i:Int)).toNat []=rows.getD i []:=by rw[qm]
   refine⟨i5,?_,?_,by rw[o];exact I,?_,?_⟩
   ·rw[y i m,x,z];simp
   ·rw[w c v.1 i5,h3];simp[p]
   ·intro G u E;rw[o]at u;have B:=b _ (qh m) _ (l▸u);refine(w G B.1 i5).2 (.inl ?_);cases ho:kp op G with
    |false=>rfl
    |true=>
     have:G∈db op (rows.getD i []):=by rw[db,qI];exact⟨u,ho⟩
     rw[M]at this;simp at this;exact absurd this E
   ·refine a.good _ _ (λd f g=>?_) (λj A=>?_)
    ·simp only[zA]at g;rw[w d f g];by_cases e:d=c
     ·subst e;simp[xw h3]
     ·cases ho:kp op d with
      |true=>rw[Xl f v.1 ho e];simp[e]
      |false=>
       have:kp (op.set c.toNat eS) d=eS:=by
        cases hh:kp (op.set c.toNat eS) d with
        |false=>rfl
        |true=>rw[(nG hh).1]at ho;cases ho
       rw[this];simp
    ·rw[y j A,jO];by_cases e:i=j
     ·subst e;simp[hul,m]
     ·have N:¬((j:Int)=(i:Int)):=λh=>e i5;simp[e,N]
  |none=>
   obtain⟨K,O,H⟩:=tQ (rows:=rows) (us:=us) t;have F:=kZ (op:=op) (j:=(hO rows op us).toNat) H;have a:=Tj b k (op.set (hO rows op us).toNat eS) us (by simp[hl]) hul i5;rw[pk t hst];generalize cD rows k (op.set (hO rows op us).toNat eS) us=r at a;generalize hO rows op us=c at*;have h3:kp op c=eR:=H;have p:c∉r.dead:=λh=>by
    have:=(a.dead c h).2;rw[xw h3]at this;cases this
   refine⟨by simp only[zi];have:=a.cS;omega,a.used,a.keepU,λd q=>?_,by simp only[yg];exact⟨p,a.deadN⟩,λD U w y=>?_⟩
   ·rcases qX.1 q with rfl|q
    ·exact⟨K,h3⟩
    ·exact⟨(a.dead d q).1,(nG (a.dead d q).2).1⟩
   ·refine a.good D U (λd f g=>?_) y;simp only[zA]at g;rw[w d f g];by_cases e:d=c
    ·subst e;simp[xw h3]
    ·have:kp (op.set c.toNat eS) d=kp op d:=by
      cases ho:kp op d with
      |true=>exact Xl f K ho e
      |false=>
       cases hh:kp (op.set c.toNat eS) d with
       |false=>rfl
       |true=>rw[(nG hh).1]at ho;cases ho
     rw[this];simp[e]
theorem Eu(us:List Bool):∀k (c:Int),c∈fG us k↔∃j:Nat,c=j/\j<k/\us.getD j eS=eS
 |0,c=>by simp[fG]
 |k+1,c=>by
  have e:=Eu us k c;unfold fG;cases h:us.getD k eS with
  |true=>
   simp only[if_true];rw[e];constructor
   ·rintro⟨j,a,b,d⟩;exact⟨j,a,i5,d⟩
   ·rintro⟨j,a,b,d⟩;refine⟨j,a,?_,d⟩;rcases zo.1 b with b|rfl
    ·exact b
    ·rw[h]at d;cases d
  |false=>
   simp only[zj,if_false,qD,qx];rw[e];constructor
   ·rintro(⟨j,a,b,d⟩|rfl)
    ·exact⟨j,a,i5,d⟩
    ·exact⟨k,i4,i5,h⟩
   ·rintro⟨j,a,b,d⟩;rcases zo.1 b with b|rfl
    ·exact .inl ⟨j,a,b,d⟩
    ·exact .inr a
theorem Tk(us:List Bool):∀k,k<=i0 us->i0 (fG us k)+(us.take k).count eR=k
 |0,_=>by simp[fG]
 |k+1,hk=>by
  have a:=Tk us k i5;have e:us.getD k eS=us[k]:=by rw[qe,qd i5];rfl
  unfold fG;rw[zH i5,List.count_append,e];cases us[k]<;>simp<;>omega
theorem Am{rows:bV}{n:Nat}(a:∀r∈rows,∀c∈r,0<=c/\c<n):
  (dM n rows).steps.length+(dM n rows).dead.length=n/\(dM n rows).steps.length+i0 (fG (dM n rows).used rows.length)=i0 rows/\(∀c∈(dM n rows).dead,0<=c/\c<n)/\(dM n rows).dead.Nodup/\
  (∀c∈fG (dM n rows).used rows.length,0<=c/\c<i0 rows)/\tR rows (·∈(dM n rows).dead) (·∈fG (dM n rows).used rows.length) (dM n rows).steps:=by
 have h:=Tj a n (qg n eR) (qg rows.length eS) jj jj jj;have p:(dM n rows).used.length=i0 rows:=by unfold dM;rw[uB];simp
 have d:=Tk (dM n rows).used rows.length i5;rw[List.take_of_length_le i5]at d;refine⟨by have:=h.cS;simpa[dM]using this,?_,λc e=>?_,h.deadN,λc e=>?_,?_⟩
 ·have:=h.used;have l:(qg rows.length eS).count eR=0:=by simp[List.count_replicate]
  rw[l]at this;unfold dM at*;omega
 ·obtain⟨h0,k⟩:=h.dead c e;have:=aaH k;simp at this;omega
 ·obtain⟨j,rfl,f,_⟩:=(Eu _ _ _).1 e;omega
 ·refine h.good _ _ (λc m b=>?_) (λi o=>?_)
  ·have:kp (qg n eR) c=eR:=by simp at b;unfold kp;rw[qe,qd i9];simp
   rw[this];simp[dM]
  ·rw[Hm,Eu];constructor
   ·rintro⟨j,f,_,g⟩;have:j=i:=i5
    subst this;exact .inr g
   ·rintro(hh|hh)
    ·cases hh
    ·exact⟨i,i4,o,hh⟩
theorem Hn{rows:bV}:∀k op us i,(cD rows k op us).used.getD i eS=eR->us.getD i eS=eR∨∃c,((i:Int),c)∈(cD rows k op us).steps
 |0,_,_,_,h=>.inl h
 |k+1,op,us,i,h=>by
  by_cases a:op.contains eR=eR
  ·cases hst:mW rows op us with
   |some j=>
    rw[pj a hst]at h⊢;dsimp only at h⊢;rcases Hn k _ _ i h with h1|⟨c,hc⟩
    ·rw[jO]at h1;by_cases b:j=i
     ·subst b;exact .inr ⟨_,qH⟩
     ·rw[g0 λd=>b d.1]at h1;exact .inl h1
    ·exact .inr ⟨c,qC _ hc⟩
   |none=>
    rw[pk a hst]at h⊢;exact Hn k _ _ i h
  ·have a:op.contains eR=eS:=j9
   rw[BH a]at h⊢;exact .inl h
theorem Ho{rows:bV}{n:Nat}(a:∀r∈rows,∀c∈r,0<=c/\c<(n:Int)):∀k op us,i0 op=n->op.count eR=k->∀c:Nat,op.getD c eS=eR->
  (c:Int)∈(cD rows k op us).dead∨∃i,(i,(c:Int))∈(cD rows k op us).steps
 |0,op,us,hl,hc,c,h=>by
  have:=Ti hc;exfalso;have g:c<i0 op:=by
   by_cases l:c<i0 op
   ·exact l
   ·rw[qe,qV i5]at h;cases h
  rw[List.count_eq_zero]at hc;rw[qe,qd g]at h;exact hc (h▸qh g)
 |k+1,op,us,hl,hc,c,h=>by
  have e:=uO hc;cases hst:mW rows op us with
  |some j=>
   rw[pj e hst];obtain⟨f,m⟩:=xv hst;obtain⟨t,s,h3⟩:=Et m;have d:rows.getD j []=rows[j]:=by rw[qe,qd f];rfl
   have p:=a _ (qh f) _ (d▸s);have o:=kZ (op:=op) (j:=(fo rows op j).toNat) h3;dsimp only;by_cases b:(fo rows op j).toNat=c
   ·exact .inr ⟨j,by rw[show((c:Nat):Int)=fo rows op j by omega];exact qH⟩
   ·rcases Ho a k (op.set (fo rows op j).toNat eS) (us.set j eR) (by simp[hl]) i5 c (by rw[jO,g0 λl=>b l.1];exact h)with h5|⟨i,h5⟩
    ·exact .inl h5
    ·exact .inr ⟨i,qC _ h5⟩
  |none=>
   rw[pk e hst];obtain⟨v,u,q⟩:=tQ (rows:=rows) (us:=us) e;have o:=kZ (op:=op) (j:=(hO rows op us).toNat) q;dsimp only;by_cases b:(hO rows op us).toNat=c
   ·exact .inl (by rw[show((c:Nat):Int)=hO rows op us by omega];exact qH)
   ·rcases Ho a k (op.set (hO rows op us).toNat eS) us (by simp[hl]) i5 c (by rw[jO,g0 λl=>b l.1];exact h)with h5|⟨i,h5⟩
    ·exact .inl (qC _ h5)
    ·exact .inr ⟨i,h5⟩
theorem Yt{rows:bV}{op us:List Bool}{c:Int}(h:Al rows op us):Al rows (op.set c.toNat eS) us:=λi e=>by
 have:=h i e;rw[db,wo]at this⊢;exactλd a b=>this d a (nG b).1
theorem Ev{rows:bV}{c:Int}(l:[c]∈rows):∀k op us,Al rows op us->(∀d:Int,d<0->d∉(cD rows k op us).dead)->0<=c->c∉(cD rows k op us).dead
 |0,_,_,_,_,_=>by simp[cD]
 |k+1,op,us,hu,_,h0=>by
  by_cases a:op.contains eR=eR
  ·cases hst:mW rows op us with
   |some j=>
    rw[pj a hst];dsimp only;obtain⟨_,m⟩:=xv hst;exact Ev l k _ _ (aaG hu m) (λd q b=>by
     have f:∀k op us,∀d∈(cD rows k op us).dead,0<=d:=plan_dead0;have:=f _ _ _ d b;omega) h0
   |none=>
    rw[pk a hst];obtain⟨u,t,r⟩:=tQ (rows:=rows) (us:=us) a;dsimp only;intro b;rcases qX.1 b with e|b
    ·obtain⟨j,p,g⟩:=ahD l;have n:db op [c]=[c]:=by rw[db,zr,f9 (show kp op c=eR by rw[e];exact r)];rfl
     have s:mV rows op us j=eR:=by
      unfold mV;rw[g,n];cases hus:us.getD j eS with
      |false=>rfl
      |true=>have:=hu j hus;rw[g,n]at this;cases this
     obtain⟨i,o⟩:∃i,mW rows op us=dB i:=Vv p s;rw[hst]at o;cases o
    ·exact Ev l k _ _ (Yt hu) (λd q b=>by have:=plan_dead0 (rows:=rows) _ _ _ d b;omega) h0 b
  ·have a:op.contains eR=eS:=j9
   rw[BH a];simp
where
 plan_dead0 {rows:bV}:∀k op us,∀d∈(cD rows k op us).dead,0<=d
  |0,_,_,d,h=>by simp[cD]at h
  |k+1,op,us,d,h=>by
   by_cases a:op.contains eR=eR
   ·cases hst:mW rows op us with
    |some j=>rw[pj a hst]at h;exact plan_dead0 k _ _ d h
    |none=>
     rw[pk a hst]at h;rcases qX.1 h with rfl|h
     ·exact(tQ a).1
     ·exact plan_dead0 k _ _ d h
   ·have a:op.contains eR=eS:=j9
    rw[BH a]at h;simp at h
def tU(R:bV):(Int->Prop)->List (Int×Int)->Prop
 |_,[]=>True
 |D,(i,c)::t=>(0<=i/\i<i0 R)/\¬D c/\c∈R.getD i.toNat []/\(∀a∈R.getD i.toNat [],a≠c->D a)/\tU R (λx=>D x∨x=c) t
theorem Cq{R S:bV}{K:Int->Prop}(f:∀r∈R,∀c∈r,¬K c)(o:∀r∈S,∀c∈r,K c):∀{a:List (Int×Int)} {D D' U:Int->Prop},tR (R++S) D U a->(∀c,¬K c->(D c↔D' c))->
  tU R D' (a.filter λp=>decide (p.1<i0 R))
 |[],_,_,_,_,_=>trivial
 |(i,c)::t,D,D',U,h,hD=>by
  obtain⟨v,z,h3,j,w,x⟩:=h;rw[zr];by_cases u:i<i0 R
  ·have e:(R++S).getD i.toNat []=R.getD i.toNat []:=by rw[qe,qo i5,qe]
   have k:R.getD i.toNat []∈R:=by rw[qe,qd i5];exact qh _
   rw[e]at j w;have l:=f _ k c j;rw[f9 p9];refine⟨⟨v.1,u⟩,λs=>h3 ((hD c l).2 s),j,λq b m=>(hD q (f _ k q b)).1 (w q b m),Cq f o x λd g=>?_⟩;rw[hD d g]
  ·rw[g0 p9];have k:(R++S).getD i.toNat []∈S:=by have n:=v.2;rw[qy]at n;rw[qe,qj i5,qd i5];exact qh _
   have l:=o _ k c j;refine Cq f o x λd g=>?_;rw[<-hD d g];exact⟨λs=>s.elim id λy=>absurd (y▸l) g,.inl⟩
def ev(t:UInt8)(k nd:Nat)(W M:aM)(y:Nat->UInt8)(c:Int):UInt8:=bU (λi=>aN (aC W c.toNat) i) y nd^^^Gf.mul t (aN (aC M c.toNat) k)
theorem KY{a b:Row}(h:i0 a=i0 b)(c:UInt8)(y:Nat->UInt8)(n:Nat):bU (λj=>aN (cR c a b) j) y n=bU (λj=>aN b j) y n^^^Gf.mul c (bU (λj=>aN a j) y n):=by rw[fY n (λj _=>cH h j) λ_ _=>rfl];exact Jh _ _ _ _ _
theorem Tl{V:aM}{m:Nat}(y:Nat->UInt8)(n:Nat):∀{l:az} {a:Row},i0 a=m->(∀c∈l,i0 (aC V c.toNat)=m)->bU (λj=>aN (cP V a l) j) y n=bU (λj=>aN a j) y n^^^cO (λc=>bU (λj=>aN (aC V c.toNat) j) y n) l
 |[],a,_,_=>by simp[cP,cO]
 |c::l,a,h,hv=>by
  have b:i0 (aC V c.toNat)=i0 a:=by rw[hv c jj,h]
  have:=Tl (V:=V) y n (l:=l) (a:=cR 1 (aC V c.toNat) a) (by rw[bX b];exact h) λd e=>hv d pt;rw[cP,zB];rw[cP]at this;rw[this,KY b,Gf.one_mul,cO];ac_rfl
theorem Tm(t:UInt8)(x:Int->UInt8):∀l,cO (λc=>Gf.mul t (x c)) l=Gf.mul t (cO x l)
 |[]=>by simp[cO,Gf.mul_zero]
 |c::l=>by rw[cO,cO,Gf.ku,Tm t x l]
theorem OF{W M:aM}{nd w:Nat}{l:az}{a m:Row}(d:i0 a=nd)(e:i0 m=w)(f:∀c∈l,i0 (aC W c.toNat)=nd)(b:∀c∈l,i0 (aC M c.toNat)=w)(t:UInt8)(k:Nat)(y:Nat->UInt8):
  bU (λj=>aN (cP W a l) j) y nd^^^Gf.mul t (aN (cP M m l) k)=(bU (λj=>aN a j) y nd^^^Gf.mul t (aN m k))^^^cO (ev t k nd W M y) l:=by
 rw[Tl y nd d f,KX k e b,Gf.ku];have:cO (ev t k nd W M y) l=cO (λc=>bU (λj=>aN (aC W c.toNat) j) y nd) l^^^Gf.mul t (cO (λc=>aN (aC M c.toNat) k) l):=by rw[<-Tm,<-Tf];rfl
 rw[this];ac_rfl
def ia(rest:List fu)(nd:Nat)(s:aM×aM)(p:Int×Int):aM×aM:=
 let r:=rest.getD p.1.toNat ([],[])
 (s.1.set p.2.toNat (cP s.1 (aK nd) (r.1.filter λc=>!decide (c=p.2))),s.2.set p.2.toNat (cP s.2 r.2 (r.1.filter λc=>!decide (c=p.2))))
structure WOk (n nd w:Nat) (D:Int->Prop) (W M:aM):Prop where
 wl:i0 W=n
 ml:i0 M=n
 rw_:∀c:Int,D c->0<=c->c<(n:Int)->i0 (aC W c.toNat)=nd/\(aC M c.toNat).length=w
theorem Ew{W M a b:aM}{t:UInt8}{k nd:Nat}{y:Nat->UInt8}{c:Int}(d:aC a c.toNat=aC W c.toNat)(e:aC b c.toNat=aC M c.toNat):ev t k nd a b y c=ev t k nd W M y c:=by unfold ev;rw[d,e]
theorem KZ{n nd w:Nat}{rest:List fu}(v:∀e∈rest,jf n w e):∀{a:List (Int×Int)} {D:Int->Prop} {W M:aM},tU (rest.map qM) D a->WOk n nd w D W M->
  WOk n nd w (λc=>D c∨∃i,(i,c)∈a) (a.foldl (ia rest nd) (W,M)).1 (a.foldl (ia rest nd) (W,M)).2/\
  (∀c:Int,D c->0<=c->aC (a.foldl (ia rest nd) (W,M)).1 c.toNat=aC W c.toNat/\aC (a.foldl (ia rest nd) (W,M)).2 c.toNat=aC M c.toNat)/\
  (∀p∈a,∀t k y,k<w->Sat t k (ev t k nd (a.foldl (ia rest nd) (W,M)).1 (a.foldl (ia rest nd) (W,M)).2 y) (rest.getD p.1.toNat ([],[])))/\
  (∀t k x y,k<w->(∀c:Int,D c->0<=c->c<(n:Int)->x c=ev t k nd W M y c)->(∀p∈a,Sat t k x (rest.getD p.1.toNat ([],[])))->∀c:Int,(D c∨∃i,(i,c)∈a)->0<=c->c<(n:Int)->x c=ev t k nd (a.foldl (ia rest nd) (W,M)).1 (a.foldl (ia rest nd) (W,M)).2 y c)
 |[],D,W,M,_,hw=>⟨⟨hw.wl,hw.ml,λc R=>hw.rw_ c (R.elim id λ⟨i,h⟩=>k5)⟩,λ_ _ _=>⟨i4,i4⟩,λp r=>by(cases r),λt k x y J K _ c R h0 o=>K c (R.elim id λ⟨i,h⟩=>k5) h0 o⟩
 |(i,c)::st,D,W,M,hg,hw=>by
  obtain⟨g1,g2,I,g4,g5⟩:=hg;have u:i.toNat<i0 rest:=by have:=g1.2;rw[qA]at this;omega
  obtain⟨e,he⟩:∃e,e=rest[i.toNat]:=⟨_,rfl⟩
  have Y:rest.getD i.toNat ([],[])=e:=by rw[qe,qd u,he];rfl
  have V:(rest.map qM).getD i.toNat []=e.1:=by rw[qe,List.getElem?_map,qd u,he];rfl
  rw[V]at I g4;have l:=v e (he▸qh u);have P:=l.cS c I;obtain⟨F,N⟩:∃F,F=e.1.filter (λd=>!decide (d=c)):=⟨_,rfl⟩
  have q:∀d∈F,d∈e.1/\d≠c:=λd b=>by rw[N,qI]at b;exact⟨b.1,by simpa using b.2⟩
  have f:∀d∈F,D d/\0<=d/\d<(n:Int):=λd b=>⟨g4 d (q d b).1 (q d b).2,l.cS d (q d b).1⟩
  have l1:∀d∈F,i0 (aC W d.toNat)=nd:=λd b=>(hw.rw_ d (f d b).1 (f d b).2.1 (f d b).2.2).1;have l2:∀d∈F,i0 (aC M d.toNat)=w:=λd b=>(hw.rw_ d (f d b).1 (f d b).2.1 (f d b).2.2).2;have lz:i0 (aK nd)=nd:=k6
  have T:ia rest nd (W,M) (i,c)=(W.set c.toNat (cP W (aK nd) F),M.set c.toNat (cP M e.2 F)):=by unfold ia;dsimp only;rw[Y,<-N]
  have ad:=hw.wl;have S:=hw.ml;have E:∀d:Nat,aC (W.set c.toNat (cP W (aK nd) F)) d=if c.toNat=d then cP W (aK nd) F else aC W d:=λd=>lH
  have B:∀d:Nat,aC (M.set c.toNat (cP M e.2 F)) d=if c.toNat=d then cP M e.2 F else aC M d:=λd=>lH
  have Z:WOk n nd w (λx=>D x∨x=c) (W.set c.toNat (cP W (aK nd) F)) (M.set c.toNat (cP M e.2 F)):=by
   refine⟨by simp[ad],by simp[S],λd b h0 o=>?_⟩;rw[E,B];by_cases g:c.toNat=d.toNat
   ·rw[f9 g,f9 g];exact⟨kf lz l1,kf l.len l2⟩
   ·rw[g0 g,g0 g];exact hw.rw_ d (b.elim id λO=>absurd (by rw[O]) g) h0 o
  obtain⟨L,Q,r3,r4⟩:=KZ v g5 Z;rw[zB,T];generalize st.foldl (ia rest nd) (W.set c.toNat (cP W (aK nd) F),M.set c.toNat (cP M e.2 F))=s at L Q r3 r4;have G:∀d:Int,D d->0<=d->c.toNat≠d.toNat:=λd b h0 O=>g2 (by rw[show c=d by omega];exact b);have keep:∀d:Int,D d->0<=d->aC s.1 d.toNat=aC W d.toNat/\aC s.2 d.toNat=aC M d.toNat:=λd b h0=>by
   have:=Q d (.inl b) h0;rw[E,B,g0 (G d b h0),g0 (G d b h0)]at this;exact this
  have U:∀t k y,ev t k nd s.1 s.2 y c=Gf.mul t (aN e.2 k)^^^cO (ev t k nd W M y) F:=λt k y=>by
   have X:=Q c (.inr i4) P.1;rw[E,B,f9 rfl,f9 rfl]at X;unfold ev;rw[X.1,X.2,OF lz l.len l1 l2 t k y,fU _ _ nd λj _=>cy _ _,wq];rfl
  have A:∀t k y,cO (ev t k nd s.1 s.2 y) F=cO (ev t k nd W M y) F:=λt k y=>kI λd b=>Ew (keep d (f d b).1 (f d b).2.1).1 (keep d (f d b).1 (f d b).2.1).2;refine⟨⟨L.wl,L.ml,λd b h0 o=>L.rw_ d ?_ h0 o⟩,keep,λp r t k y J=>?_,λt k x y J K hs d b h0 o=>?_⟩
  ·rcases b with b|⟨j,hj⟩
   ·exact .inl (.inl b)
   ·rcases qX.1 hj with hj|hj
    ·injection hj with _ hj;exact .inl (.inr hj)
    ·exact .inr ⟨j,hj⟩
  ·rcases qX.1 r with rfl|r
   ·dsimp only;rw[Y];unfold Sat;rw[BG _ l.nodup I,<-N,U,A,sA]
   ·exact r3 p r t k y J
  ·refine r4 t k x y J (λd b h0 o=>?_) (λp r=>hs p (qC _ r)) d ?_ h0 o
   ·by_cases g:d=c
    ·subst g;have z:=hs (i,d) jj;dsimp only at z;rw[Y]at z;unfold Sat at z;rw[BG _ l.nodup I,<-N,kI (y:=ev t k nd W M y) λH m=>K H (f H m).1 (f H m).2.1 (f H m).2.2]at z;have h6:ev t k nd (W.set d.toNat (cP W (aK nd) F)) (M.set d.toNat (cP M e.2 F)) y d=Gf.mul t (aN e.2 k)^^^cO (ev t k nd W M y) F:=by unfold ev;rw[E,B,f9 i4,f9 i4,OF lz l.len l1 l2 t k y,fU _ _ nd λj _=>cy _ _,wq];rfl
     rw[h6,<-z,sA]
    ·have m:D d:=b.elim id λO=>absurd O g;rw[K d m h0 o];refine(Ew ?_ ?_).symm
     ·rw[E,g0 i5]
     ·rw[B,g0 i5]
   ·rcases b with b|⟨j,hj⟩
    ·exact .inl (.inl b)
    ·rcases qX.1 hj with hj|hj
     ·injection hj with _ hj;exact .inl (.inr hj)
     ·exact .inr ⟨j,hj⟩
theorem PX:∀{l m:List Nat},l.Nodup->(∀x∈l,x∈m)->i0 l<=i0 m
 |[],_,_,_=>jj
 |x::l,m,hd,h=>by
  rw[yg]at hd;have b:=h x jj;have c:=PX (l:=l) (m:=m.erase x) hd.2 λy a=>(List.mem_erase_of_ne λd:y=x=>hd.1 (by rw[<-d];exact a)).2 (h y l7);rw[List.length_erase_of_mem b]at c;have:=List.length_pos_of_mem b;simp;omega
def oI(nd i:Nat):Row:=(aK nd).set i 1
theorem adH(nd i:Nat):i0 (oI nd i)=nd:=by simp[oI,aK]
theorem adI{nd i:Nat}(a:i<nd)(j:Nat):aN (oI nd i) j=if j=i then 1 else 0:=by rw[oI,OB (by simpa[aK]using a),cy]
theorem adJ{nd i:Nat}(a:i<nd)(y:Nat->UInt8):bU (λj=>aN (oI nd i) j) y nd=y i:=
 Jg _ _ i nd a λj _=>by
  rw[adI a];by_cases h:j=i
  ·subst h;simp
  ·rw[g0 h,g0 λb=>h b.symm]
def fZ(n nd w:Nat)(dead:az):aM×aM:=
 (dead.zipIdx).foldl (λs p=>(s.1.set p.1.toNat (oI nd p.2),s.2.set p.1.toNat (aK w))) (qg n [],qg n [])
theorem Mn(n nd w:Nat)(d:az)(c:Int):fZ n nd w (d++[c])=((fZ n nd w d).1.set c.toNat (oI nd d.length),(fZ n nd w d).2.set c.toNat (aK w)):=by unfold fZ;rw[List.zipIdx_append,List.foldl_append];simp
theorem OG{n nd w:Nat}{dead:az}(h:∀c∈dead,0<=c/\c<(n:Int))(l:dead.Nodup):∀k,k<=i0 dead->
  WOk n nd w (·∈dead.take k) (fZ n nd w (dead.take k)).1 (fZ n nd w (dead.take k)).2/\∀i,(o:i<k)->(m:i<i0 dead)->aC (fZ n nd w (dead.take k)).1 dead[i].toNat=oI nd i/\aC (fZ n nd w (dead.take k)).2 dead[i].toNat=aK w
 |0,_=>⟨⟨by simp[fZ],by simp[fZ],λc b=>by simp at b⟩,λi o=>i5⟩
 |k+1,hk=>by
  obtain⟨j,m⟩:=OG (nd:=nd) (w:=w) h l k i5;have f:k<i0 dead:=i5
  have r:=h _ (qh f);have e:dead.take (k+1)=dead.take k++[dead[k]]:=zH f;have p:i0 (dead.take k)=k:=i9
  rw[e,Mn,p];have s:=j.wl;have u:=j.ml;refine⟨⟨by simp[s],by simp[u],λc b h0 h3=>?_⟩,λi o g=>?_⟩
  ·dsimp only;rw[lH,lH];by_cases a:dead[k].toNat=c.toNat
   ·rw[f9 a,f9 a];exact⟨adH _ _,k6⟩
   ·rw[g0 a,g0 a];refine j.rw_ c ?_ h0 h3;rcases qD.1 b with b|b
    ·exact b
    ·rw[qx]at b;exact absurd (by rw[b]) a
  ·dsimp only;rw[lH,lH];by_cases d:i=k
   ·subst d;rw[f9 i4,f9 rfl];exact⟨i4,i4⟩
   ·have q:dead[k]≠dead[i]:=λt=>d ((List.getElem_inj l).1 t).symm;have:=h _ (qh g);rw[g0 i5,g0 i5];exact m i i5 g
def iN(nd:Nat)(known:List Bool)(vals:aM)(s:aM×aM):aM×aM:=
 (s.1.mapIdx λc r=>if known.getD c eS then aK nd else r,s.2.mapIdx λc r=>if known.getD c eS then aC vals c else r)
theorem Ex{m:aM}{f:Nat->Row->Row}{c:Nat}(h:c<i0 m):aC (m.mapIdx f) c=f c (aC m c):=by rw[bx j7,bx h];simp
def gQ(V:aM)(r:Row)(a:Row):Nat->Row
 |0=>a
 |c+1=>cR (aN r c) (aC V c) (gQ V r a c)
theorem mw{V:aM}{m:Nat}(r:Row){a:Row}(b:i0 a=m):∀{c:Nat},(∀i,i<c->i0 (aC V i)=m)->i0 (gQ V r a c)=m
 |0,_=>b
 |c+1,h=>by
  have:=mw r b (c:=c) λi d=>h i i5;rw[gQ,bX (by rw[h c i5,this])];exact this
theorem La{V:aM}{m:Nat}(r:Row){a:Row}(b:i0 a=m)(j:Nat):∀{c:Nat},(∀i,i<c->i0 (aC V i)=m)->aN (gQ V r a c) j=aN a j^^^bU (λi=>aN r i) (λi=>aN (aC V i) j) c
 |0,_=>by simp[gQ,bU]
 |c+1,h=>by
  have d:=mw r b (c:=c) λi e=>h i i5;rw[gQ,cH (by rw[h c i5,d]),La r b j (c:=c) λi e=>h i i5,bU];ac_rfl
theorem Tn{V:aM}{m:Nat}(r:Row){a:Row}(b:i0 a=m)(y:Nat->UInt8)(n:Nat):∀{c:Nat},(∀i,i<c->i0 (aC V i)=m)->bU (λj=>aN (gQ V r a c) j) y n=bU (λj=>aN a j) y n^^^bU (λi=>aN r i) (λi=>bU (λj=>aN (aC V i) j) y n) c
 |0,_=>by simp[gQ,bU]
 |c+1,h=>by
  have d:=mw r b (c:=c) λi e=>h i i5;rw[gQ,KY (by rw[h c i5,d]),Tn r b y n (c:=c) λi e=>h i i5,bU];ac_rfl
theorem To(f g g':Nat->UInt8):∀k,bU f (λi=>g i^^^g' i) k=bU f g k^^^bU f g' k
 |0=>by simp[bU]
 |k+1=>by rw[bU,bU,bU,To f g g' k,Gf.ku];ac_rfl
theorem Tp(t:UInt8)(f g:Nat->UInt8):∀k,bU f (λi=>Gf.mul t (g i)) k=Gf.mul t (bU f g k)
 |0=>by simp[bU,Gf.mul_zero]
 |k+1=>by
  rw[bU,bU,Tp t f g k,Gf.ku];congr 1;rw[<-Gf.mul_assoc,<-Gf.mul_assoc,Gf.mul_comm (f k) t]
theorem Ey{n:Nat}(g:Nat->UInt8):∀{l:az},(∀x∈l,0<=x/\x<(n:Int))->l.Nodup->bU (λj=>aN (gp n l) j) g n=cO (λc=>g c.toNat) l
 |[],_,_=>by
  rw[cO];refine fU _ _ n λj _=>?_;rw[En [] (λx a=>sz) j];simp
 |c::l,h,hd=>by
  rw[yg]at hd;have o:=h c jj;have d:=Ey g (l:=l) (λx a=>h x l7) hd.2;have e:bU (λj=>aN (gp n (c::l)) j) g n=bU (λj=>if(j:Int)∈c::l then 1 else 0) g n:=fY n (λj _=>En _ h j) λ_ _=>rfl;have k:bU (λj=>aN (gp n l) j) g n=bU (λj=>if(j:Int)∈l then 1 else 0) g n:=fY n (λj _=>En _ (λx a=>h x l7) j) λ_ _=>rfl;rw[e,cO,<-d,k];rw[KT (f:=λj=>if(j:Int)∈l then 1 else 0) (f':=λj=>if(j:Int)∈c::l then 1 else 0) (c:=c.toNat) (by rw[g0];rw[show((c.toNat:Nat):Int)=c by omega];exact hd.1) (λi=>by
   by_cases b:i=c.toNat
   ·subst b;rw[f9 i4,f9];rw[show((c.toNat:Nat):Int)=c by omega];simp
   ·rw[g0 b];have:(i:Int)≠c:=λm=>b i5;simp[this]),f9 i5]
  ac_rfl
theorem kernel{nd:Nat}{a:aM}(W:aV nd a)(L:cb a<nd):∃y:Nat->UInt8,(∃i,i<nd/\y i≠0)/\∀r∈a,bU (λj=>aN r j) y nd=0:=by
 have w:=Te W;obtain⟨R,Y,ad,M,Z,⟨p,X,V,p3,U⟩,G⟩:=w;generalize hT:cb a=T at*;generalize (bH a (eN a)).2=rows at*;have s:∃j,j<nd/\∀i,i<T->p i≠j:=by
  have u:∀T nd:Nat,T<nd->∀p:Nat->Nat,(∀i,i<T->p i<nd)->∃j,j<nd/\∀i,i<T->p i≠j:=by
   intro T nd ah p S;by_cases f:∀j,j<nd->∃i,i<T/\p i=j
   ·exfalso;have H:∀j∈qw nd,j∈(qw T).map p:=λj A=>by
     obtain⟨i,l,rfl⟩:=f j (qE.1 A);exact qt.2 ⟨i,qE.2 l,i4⟩
    have:=PX vK H;simp at this;omega
   ·simp only[Classical.not_forall,not_exists,not_and]at f;obtain⟨j,A,h⟩:=f;exact⟨j,A,h⟩
  exact u T nd L p X
 obtain⟨j,A,E⟩:=s;have I:∀i e,i<T->e<T->p i=p e->i=e:=λi e o q h3=>by
  rcases Nat.lt_trichotomy i e with h|h|h
  ·have:=U i e h q;omega
  ·exact h
  ·have:=U e i h o;omega
 let y:Nat->UInt8:=λc=>if c=j then 1 else cO (λi=>if p i.toNat=c then aN (aC rows i.toNat) j else 0) ((qw T).map λi:Nat=>(i:Int))
 have hy:∀i,i<T->y (p i)=aN (aC rows i) j:=λi l=>by
  show(if p i=j then 1 else _)=_;rw[g0 (E i l)];have Q:((qw T).map λi:Nat=>(i:Int)).Nodup:=by exact List.Pairwise.map _ (λa b h v=>h (Int.ofNat_inj.1 v)) vK
  rw[BG _ Q (c:=(i:Int)) (qt.2 ⟨i,qE.2 l,i4⟩),Hg,zW]
  ·simp
  ·intro c n;rw[qI]at n;obtain⟨e,t,rfl⟩:=qt.1 n.1;have F:e≠i:=λv=>by subst v;simp at n
   rw[qm,g0 λv=>F (I e i (qE.1 t) l v)]
 have O:∀c,c≠j->(∀i,i<T->p i≠c)->y c=0:=λc n S=>by
  show(if c=j then 1 else _)=_;rw[g0 n,Hg];intro d hd;obtain⟨e,t,rfl⟩:=qt.1 hd;rw[qm,g0 (S e (qE.1 t))]
 have J:y j=1:=by show(if j=j then 1 else _)=_;rw[f9 rfl]
 refine⟨y,⟨j,A,by rw[J];decide⟩,λr K=>?_⟩;refine Span.lin R (λr=>bU (λc=>aN r c) y nd) (fU _ _ nd λc _=>cy _ _) (λc x z o q=>KY i5 c y nd) (λr L=>?_) ((M r).2 (Span.row W K));obtain⟨k,N,rfl⟩:=fl L;by_cases g:k<T
 ·--the row's own beginning,and j
  have hf:∀c,c<nd->aN (aC rows k) c=0∨y c=0∨c=p k∨c=j:=λc n=>by
   by_cases o:c=j
   ·exact .inr (.inr (.inr o))
   ·by_cases q:∃i,i<T/\p i=c
    ·obtain⟨i,l,rfl⟩:=q;by_cases B:k=i
     ·subst B;exact .inr (.inr (.inl i4))
     ·refine .inl ?_;rw[V i l k N,g0 B]
    ·exact .inr (.inl (O c o λi l v=>q ⟨i,l,v⟩))
  have P:=X k g;have D:aN (aC rows k) (p k)=1:=by rw[V k g k N,f9 rfl]
  have F:p k≠j:=E k g;have u:∀m,m<=nd->bU (λc=>aN (aC rows k) c) y m=(if p k<m then aN (aC rows k) j else 0)^^^(if j<m then aN (aC rows k) j else 0):=by
   intro m
   induction m with
   |zero=>intro _;simp[bU]
   |succ m ih=>
    intro hm;rw[bU,ih i5];by_cases o:m=p k
    ·have am:m≠j:=i5
     rw[o,D,Gf.one_mul,hy k g];rw[g0 (Nat.lt_irrefl _),f9 (Nat.lt_succ_self _)];by_cases h3:j<p k
     ·rw[f9 h3,f9 i5];ac_rfl
     ·rw[g0 h3,g0 i5];ac_rfl
    ·by_cases q:m=j
     ·rw[q,J,Gf.mul_one];rw[g0 (Nat.lt_irrefl j),f9 (Nat.lt_succ_self j),zW];by_cases h3:p k<j
      ·rw[f9 h3,f9 i5]
      ·rw[g0 h3,g0 i5]
     ·have hz:Gf.mul (aN (aC rows k) m) (y m)=0:=by
       rcases hf m i5 with h|h|h|h
       ·rw[h,Gf.zero_mul]
       ·rw[h,Gf.mul_zero]
       ·exact absurd h o
       ·exact absurd h q
      rw[hz,zW];have a1:(p k<m+1)↔(p k<m):=i5
      have a2:(j<m+1)↔(j<m):=i5
      simp only[a1,a2]
  rw[u nd (qk _),f9 P,f9 A,lZ]
 ·exact fU _ _ nd λc n=>G k i5 N c n
def dH(n nd:Nat)(rest:List fu)(W:aM)(left:az)(ahead:aM):aM:=(left.map λi=>cP W (aK nd) (rest.getD i.toNat ([],[])).1)++ahead.map λr=>gQ W r (aK nd) n
def fH(n w:Nat)(rest:List fu)(M:aM)(left:az)(ahead:aM):aM:=(left.map λi=>cP M (rest.getD i.toNat ([],[])).2 (rest.getD i.toNat ([],[])).1)++ahead.map λr=>gQ M r (aK w) n
def An(nd:Nat)(known:List Bool)(vals:aM)(W M D:aM):aM:=vals.mapIdx λc r=>if known.getD c eS then r else gQ D (aC W c) (aC M c) nd
def dI(n:Nat)(l:List fu)(ahead:aM):aM:=ahead++l.map λe=>gp n e.1
def iI(w:Nat)(l:List fu)(ahead:aM):aM:=qg ahead.length (aK w)++l.map zF
def at_(X:aM)(k:Nat)(c:Int):UInt8:=aN (aC X c.toNat) k
section
variable {n w:Nat} {l:List fu} {ahead:aM}
theorem BI(b:aV n ahead):aV n (dI n l ahead):=λr a=>by
 rcases qD.1 a with a|a
 ·exact b r a
 ·obtain⟨e,_,rfl⟩:=qt.1 a;exact sv _ _
theorem BJ(b:∀e∈l,jf n w e):aV w (iI w l ahead):=λr a=>by
 rcases qD.1 a with a|a
 ·rw[(wX.1 a).2];simp[aK]
 ·obtain⟨e,c,rfl⟩:=qt.1 a;exact(b e c).len
theorem xR:i0 (dI n l ahead)=i0 (iI w l ahead):=by simp[dI,iI]
theorem Ez(p:∀e∈l,jf n w e){X:aM}:fF n w (dI n l ahead) (iI w l ahead) X↔X.length=n/\aV w X/\∀k,k<w->(∀e∈l,Sat 1 k (at_ X k) e)/\∀r∈ahead,bU (λj=>aN r j) (λc=>aN (aC X c) k) n=0:=by
 unfold fF;refine⟨λ⟨h1,h2,h3⟩=>⟨h1,h2,λk q=>⟨λe g=>?_,λr t=>?_⟩⟩,λ⟨h1,h2,h3⟩=>⟨h1,h2,λi h=>?_⟩⟩
 ·obtain⟨i,h,rfl⟩:=qJ g;have:=h3 (i0 ahead+i) m4;have a:aC (dI n l ahead) (i0 ahead+i)=gp n l[i].1:=by rw[bx m4];simp[dI]
  have b:aC (iI w l ahead) (i0 ahead+i)=l[i].2:=by rw[bx p5];simp[iI]
  rw[a,b]at this;have m:=congrArg (λr=>aN r k) this;rw[gY h2 h1 _ k n (qk _),Ey _ (p _ g).cS (p _ g).nodup]at m;unfold Sat;rw[Gf.one_mul];exact m
 ·obtain⟨i,h,rfl⟩:=qJ t;have:=h3 i m4;have a:aC (dI n l ahead) i=ahead[i]:=by rw[bx m4];simp[dI,wU h]
  have b:aC (iI w l ahead) i=aK w:=by rw[bx p5];simp[iI,h]
  rw[a,b]at this;have m:=congrArg (λr=>aN r k) this;rw[gY h2 h1 _ k n (qk _),cy]at m;exact m
 ·have o:i0 (aC (iI w l ahead) i)=w:=cx (BJ p) (by rw[<-xR (n:=n)];exact h);refine eT (n:=w) (iQ h2 h1 _ n (qk _)) o λk q=>?_;rw[gY h2 h1 _ k n (qk _)];simp only[dI,qy,qA]at h;by_cases f:i<i0 ahead
  ·have a:aC (dI n l ahead) i=ahead[i]:=by rw[bx m4];simp[dI,wU f]
   have b:aC (iI w l ahead) i=aK w:=by rw[bx p5];simp[iI,f]
   rw[a,b,cy];exact(h3 k q).2 _ (qh f)
  ·obtain⟨d,rfl⟩:∃d,i=i0 ahead+d:=⟨i-i0 ahead,i5⟩
   have s:d<i0 l:=i5
   have a:aC (dI n l ahead) (i0 ahead+d)=gp n l[d].1:=by rw[bx m4];simp[dI]
   have b:aC (iI w l ahead) (i0 ahead+d)=l[d].2:=by rw[bx p5];simp[iI]
   have g:=p _ (qh s);rw[a,b,Ey _ g.cS g.nodup];have:=(h3 k q).1 _ (qh s);unfold Sat at this;rw[Gf.one_mul]at this;exact this
end
structure gP (n w:Nat) (l:List fu) (ahead:aM) (known:List Bool) (vals:aM) (dead left:az) (W M:aM):Prop where
 eqs:∀e∈l,jf n w e
 ahd:aV n ahead
 pinv:kg n w l known vals
 calm:kJ known vals l=eS
 deadR:∀c∈dead,0<=c/\c<(n:Int)
 deadN:dead.Nodup
 deadK:∀c∈dead,kn known c=eS
 lens:i0 W=n/\M.length=n/\∀c:Nat,c<n->i0 (aC W c)=i0 dead/\(aC M c).length=w
 evKnown:∀t k y,∀c:Int,0<=c->c<(n:Int)->kn known c=eR->ev t k dead.length W M y c=Gf.mul t (aN (aC vals c.toNat) k)
 evDead:∀t k y,∀i,(h:i<i0 dead)->ev t k dead.length W M y dead[i]=y i
 evRest:∀t k y,k<w->(∀i∈left,Sat t k (ev t k dead.length W M y) ((bf known vals l).getD i.toNat ([],[])))->∀e∈bf known vals l,Sat t k (ev t k dead.length W M y) e
 leftR:∀i∈left,0<=i/\i<(i0 (bf known vals l):Int)
 evAll:∀t k x,k<w->(∀c:Int,0<=c->c<(n:Int)->kn known c=eR->x c=Gf.mul t (aN (aC vals c.toNat) k))->(∀e∈bf known vals l,Sat t k x e)->∀c:Int,0<=c->c<(n:Int)->x c=ev t k dead.length W M (λi=>x (dead.getD i 0)) c
section
variable {n w:Nat} {l:List fu} {ahead:aM} {known:List Bool} {vals:aM} {dead left:az} {W M:aM}
theorem pm(h:kg n w l known vals)(c:∀e∈l,jf n w e):∀e∈bf known vals l,jf n w e:=λe d=>by
 obtain⟨b,a,rfl⟩:=qt.1 (qI.1 d).1;exact h.Da (c b a)
theorem Cr{a b:UInt8}:a^^^b=0↔a=b:=pV
theorem gP.Tq(S:gP n w l ahead known vals dead left W M){i:Int}(p:i∈left)(t:UInt8)(k:Nat)(y:Nat->UInt8):
  bU (λj=>aN (cP W (aK dead.length) ((bf known vals l).getD i.toNat ([],[])).1) j) y dead.length=Gf.mul t (aN (cP M ((bf known vals l).getD i.toNat ([],[])).2 ((bf known vals l).getD i.toNat ([],[])).1) k)↔Sat t k (ev t k dead.length W M y) ((bf known vals l).getD i.toNat ([],[])):=by
 have o:=S.leftR i p;have b:i.toNat<i0 (bf known vals l):=i5
 have f:(bf known vals l).getD i.toNat ([],[])=(bf known vals l)[i.toNat]:=by rw[qe,qd b];rfl
 have a:=pm S.pinv S.eqs _ (qh b);rw[f];generalize (bf known vals l)[i.toNat]=e at*;have g:i0 (aK dead.length)=i0 dead:=k6
 have h:∀c∈e.1,i0 (aC W c.toNat)=i0 dead:=λc d=>((S.lens.2.2 c.toNat) (by have:=a.cS c d;omega)).1;have m:∀c∈e.1,i0 (aC M c.toNat)=w:=λc d=>((S.lens.2.2 c.toNat) (by have:=a.cS c d;omega)).2;have:=OF g a.len h m t k y;rw[fU _ _ dead.length λj _=>cy _ _,wq]at this;rw[<-Cr,this];unfold Sat;rw[Cr];exact eq_comm
theorem gP.PY(S:gP n w l ahead known vals dead left W M)(r:Row)(t:UInt8)(k:Nat)(y:Nat->UInt8):
  bU (λj=>aN (gQ W r (aK dead.length) n) j) y dead.length=Gf.mul t (aN (gQ M r (aK w) n) k)↔bU (λj=>aN r j) (λc=>ev t k dead.length W M y (c:Int)) n=0:=by
 have d:=Tn (V:=W) (m:=i0 dead) r (a:=aK dead.length) k6 y dead.length (c:=n) λi b=>(S.lens.2.2 i b).1;have e:=La (V:=M) (m:=w) r (a:=aK w) k6 k (c:=n) λi b=>(S.lens.2.2 i b).2;rw[d,e,fU _ _ dead.length λj _=>cy _ _,cy,wq,wq,<-Cr,<-Tp,<-To];have:(λc:Nat=>ev t k dead.length W M y (c:Int))=λi=>bU (λj=>aN (aC W i) j) y dead.length^^^Gf.mul t (aN (aC M i) k):=by funext c;unfold ev;rw[qm]
 rw[this]
theorem gP.up(S:gP n w l ahead known vals dead left W M){t:UInt8}{k:Nat}{y:Nat->UInt8}(g:k<w)
  (f:∀i,i<i0 (dH n dead.length (bf known vals l) W left ahead)->bU (λj=>aN (aC (dH n dead.length (bf known vals l) W left ahead) i) j) y dead.length=Gf.mul t (aN (aC (fH n w (bf known vals l) M left ahead) i) k)):
  (∀e∈l,Sat t k (ev t k dead.length W M y) e)/\∀r∈ahead,bU (λj=>aN r j) (λc=>ev t k dead.length W M y (c:Int)) n=0:=by
 refine⟨(Tg S.pinv S.eqs S.calm g).2 ⟨λc h0 o p=>S.evKnown t k y c h0 o p,S.evRest t k y g λi h=>?_⟩,λr m=>?_⟩
 ·obtain⟨j,a,rfl⟩:=qJ h;have:=f j m5;have b:aC (dH n dead.length (bf known vals l) W left ahead) j=cP W (aK dead.length) ((bf known vals l).getD left[j].toNat ([],[])).1:=by rw[bx m5];simp[dH,a]
  have d:aC (fH n w (bf known vals l) M left ahead) j=cP M ((bf known vals l).getD left[j].toNat ([],[])).2 ((bf known vals l).getD left[j].toNat ([],[])).1:=by rw[bx p6];simp[fH,a]
  rw[b,d]at this;exact(S.Tq h t k y).1 this
 ·obtain⟨j,a,rfl⟩:=qJ m;have:=f (i0 left+j) m5;have b:aC (dH n dead.length (bf known vals l) W left ahead) (i0 left+j)=gQ W ahead[j] (aK dead.length) n:=by rw[bx m5];simp[dH]
  have d:aC (fH n w (bf known vals l) M left ahead) (i0 left+j)=gQ M ahead[j] (aK w) n:=by rw[bx p6];simp[fH]
  rw[b,d]at this;exact(S.PY _ t k y).1 this
theorem gP.down(S:gP n w l ahead known vals dead left W M){t:UInt8}{k:Nat}{x:Int->UInt8}(q:k<w)(u:∀e∈l,Sat t k x e)(y:∀r∈ahead,bU (λj=>aN r j) (λc=>x (c:Int)) n=0):
  (∀c:Int,0<=c->c<(n:Int)->x c=ev t k dead.length W M (λi=>x (dead.getD i 0)) c)/\
  ∀i,i<i0 (dH n dead.length (bf known vals l) W left ahead)->bU (λj=>aN (aC (dH n dead.length (bf known vals l) W left ahead) i) j) (λi=>x (dead.getD i 0)) dead.length=Gf.mul t (aN (aC (fH n w (bf known vals l) M left ahead) i) k):=by
 obtain⟨z,p⟩:=(Tg S.pinv S.eqs S.calm q).1 u;have m:=S.evAll t k x q z p;refine⟨m,λi D=>?_⟩;simp only[dH,qy,qA]at D;by_cases a:i<i0 left
 ·have g:aC (dH n dead.length (bf known vals l) W left ahead) i=cP W (aK dead.length) ((bf known vals l).getD left[i].toNat ([],[])).1:=by rw[bx m5];simp[dH,a]
  have o:aC (fH n w (bf known vals l) M left ahead) i=cP M ((bf known vals l).getD left[i].toNat ([],[])).2 ((bf known vals l).getD left[i].toNat ([],[])).1:=by rw[bx p6];simp[fH,a]
  rw[g,o];refine(S.Tq (qh a) t k _).2 ?_;have A:=S.leftR _ (qh a);have b:left[i].toNat<i0 (bf known vals l):=i5
  have B:(bf known vals l).getD left[i].toNat ([],[])=(bf known vals l)[left[i].toNat]:=by rw[qe,qd b];rfl
  rw[B];have s:=p _ (qh b);have f:=pm S.pinv S.eqs _ (qh b);unfold Sat at s⊢;rw[<-s];exact kI λc h=>(m c (f.cS c h).1 (f.cS c h).2).symm
 ·obtain⟨d,rfl⟩:∃d,i=i0 left+d:=⟨i-i0 left,i5⟩
  have v:d<i0 ahead:=i5
  have g:aC (dH n dead.length (bf known vals l) W left ahead) (i0 left+d)=gQ W ahead[d] (aK dead.length) n:=by rw[bx m5];simp[dH]
  have o:aC (fH n w (bf known vals l) M left ahead) (i0 left+d)=gQ M ahead[d] (aK w) n:=by rw[bx p6];simp[fH]
  rw[g,o];refine(S.PY _ t k _).2 ?_;rw[<-y _ (qh v)];exact fY n (λ_ _=>rfl) λc h=>(m (c:Int) i5 i5).symm
theorem rc(S:gP n w l ahead known vals dead left W M):aV dead.length (dH n dead.length (bf known vals l) W left ahead)/\aV w (fH n w (bf known vals l) M left ahead):=by
 have d:∀i∈left,jf n w ((bf known vals l).getD i.toNat ([],[])):=λi b=>by
  have g:=S.leftR i b;have e:i.toNat<i0 (bf known vals l):=i5
  rw[qe,qd e];exact pm S.pinv S.eqs _ (qh e)
 constructor
 ·intro r a;rcases qD.1 a with a|a
  ·obtain⟨i,b,rfl⟩:=qt.1 a;exact kf k6 λc f=>((S.lens.2.2 c.toNat) (by have:=(d i b).cS c f;omega)).1
  ·obtain⟨x,h,rfl⟩:=qt.1 a;exact mw x k6 λi b=>(S.lens.2.2 i b).1
 ·intro r a;rcases qD.1 a with a|a
  ·obtain⟨i,b,rfl⟩:=qt.1 a;exact kf (d i b).len λc f=>((S.lens.2.2 c.toNat) (by have:=(d i b).cS c f;omega)).2
  ·obtain⟨x,h,rfl⟩:=qt.1 a;exact mw x k6 λi b=>(S.lens.2.2 i b).2
theorem BL:i0 (dH n dead.length (bf known vals l) W left ahead)=i0 (fH n w (bf known vals l) M left ahead):=by simp[dH,fH]
theorem gP.OC(S:gP n w l ahead known vals dead left W M)(N:1<=w)(d:cb (dI n l ahead)=n):cb (dH n dead.length (bf known vals l) W left ahead)=i0 dead:=by
 obtain⟨G,Y⟩:=rc S;have U:=lI G;by_cases D:cb (dH n dead.length (bf known vals l) W left ahead)<i0 dead
 ·exfalso;obtain⟨y,⟨i,b,L⟩,J⟩:=kernel G D;have h:=S.up (t:=0) (k:=0) (y:=y) N λi b=>by rw[J _ (mem_row b),Gf.zero_mul]
  have H:=BI (l:=l) S.ahd;have s:aV 1 (qg (dI n l ahead).length (aK 1)):=λr d=>by rw[(wX.1 d).2];simp[aK]
  have f:i0 (dI n l ahead)=i0 (qg (dI n l ahead).length (aK 1)):=jj
  have T:fF n 1 (dI n l ahead) (qg (dI n l ahead).length (aK 1)) (qg n (aK 1)):=by
   have a:aV 1 (qg n (aK 1)):=λr d=>by rw[(wX.1 d).2];simp[aK]
   refine⟨jj,a,λi b=>?_⟩;refine eT (n:=1) (iQ a jj _ n (qk _)) (cx s k0) λk K=>?_;rw[gY a jj _ k n (qk _)];have v:aC (qg (dI n l ahead).length (aK 1)) i=aK 1:=by rw[bx k0];simp
   rw[v,cy];have:∀g,g<=n->bU (λj=>aN (aC (dI n l ahead) i) j) (λc=>aN (aC (qg n (aK 1)) c) k) g=0:=by
    intro g
    induction g with
    |zero=>intro _;rfl
    |succ g ih=>
     intro R;have X:aC (qg n (aK 1)) g=aK 1:=by rw[bx i9];simp
     rw[bU,ih i5,X,cy,Gf.mul_zero];rfl
   exact this n (qk _)
  have O:fF n 1 (dI n l ahead) (qg (dI n l ahead).length (aK 1)) ((qw n).map λc:Nat=>[ev 0 0 dead.length W M y (c:Int)]):=by
   have a:aV 1 ((qw n).map λc:Nat=>[ev 0 0 dead.length W M y (c:Int)]):=λr d=>by obtain⟨c,_,rfl⟩:=qt.1 d;rfl
   have q:∀c:Nat,c<n->aC ((qw n).map λc:Nat=>[ev 0 0 dead.length W M y (c:Int)]) c=[ev 0 0 dead.length W M y (c:Int)]:=λc o=>by rw[bx n0];simp
   refine⟨jj,a,λi b=>?_⟩;refine eT (n:=1) (iQ a jj _ n (qk _)) (cx s k0) λk K=>?_;have z:k=0:=i5
   subst z;rw[gY a jj _ 0 n (qk _)];have v:aC (qg (dI n l ahead).length (aK 1)) i=aK 1:=by rw[bx k0];simp
   rw[v,cy];have V:bU (λj=>aN (aC (dI n l ahead) i) j) (λc=>aN (aC ((qw n).map λc:Nat=>[ev 0 0 dead.length W M y (c:Int)]) c) 0) n=bU (λj=>aN (aC (dI n l ahead) i) j) (λc=>ev 0 0 dead.length W M y (c:Int)) n:=
    fY n (λ_ _=>rfl) λc o=>by rw[q c o];rfl
   rw[V];have B:aC (dI n l ahead) i∈ahead++l.map λe=>gp n e.1:=mem_row b;obtain E|E:=qD.1 B
   ·exact h.2 _ E
   ·obtain⟨e,u,x⟩:=qt.1 E;rw[<-x,Ey _ (S.eqs e u).cS (S.eqs e u).nodup];have F:=h.1 e u;unfold Sat at F;rw[Gf.zero_mul]at F;refine Eq.trans (kI λc o=>?_) F;have:=(S.eqs e u).cS c o;rw[show((c.toNat:Nat):Int)=c by omega]
  have I:=(mv f H s d T).1;have Q:=(mv f H s d O).1;have A:=Q.trans I.symm;have P:=S.deadR _ (qh b);have p:=congrArg (λm=>aN (aC m dead[i].toNat) 0) A;rw[bx i9,bx i9]at p;simp only[List.getElem_map,List.getElem_range,List.getElem_replicate,cy]at p;rw[show((dead[i].toNat:Nat):Int)=dead[i]by omega]at p;have h8:aN [ev 0 0 dead.length W M y dead[i]] 0=ev 0 0 dead.length W M y dead[i]:=rfl;rw[h8,S.evDead 0 0 y i b]at p;exact L p
 ·omega
theorem OH(S:gP n w l ahead known vals dead left W M){D:aM}(g:i0 D=i0 dead)(f:aV w D){c:Nat}(e:c<n):
  (aC (An dead.length known vals W M D) c).length=w/\∀k,aN (aC (An dead.length known vals W M D) c) k=ev 1 k dead.length W M (λi=>aN (aC D i) k) (c:Int):=by
 have j:=S.pinv.vlen;have b:aC (An dead.length known vals W M D) c=if known.getD c eS then aC vals c else gQ D (aC W c) (aC M c) dead.length:=by unfold An;rw[Ex i5]
 have d:=S.lens.2.2 c e;rw[b];cases hkn:known.getD c eS with
 |true=>
  rw[f9 rfl];refine⟨by have:=S.pinv.row c e;rw[hkn]at this;simpa using this,λk=>?_⟩;have:=S.evKnown 1 k (λi=>aN (aC D i) k) (c:Int) i5 i5 (by unfold kn;rw[qm];exact hkn);rw[this,qm,Gf.one_mul]
 |false=>
  rw[g0 jj];have a:∀i,i<i0 dead->i0 (aC D i)=w:=λi h=>cx f;refine⟨mw _ d.2 a,λk=>?_⟩;rw[La _ d.2 k a];unfold ev;rw[qm,Gf.one_mul,vj]
theorem ago(h:i0 vals=n){D:aM}:i0 (An dead.length known vals W M D)=n:=by simp[An,h]
theorem gP.Yu(S:gP n w l ahead known vals dead left W M){D:aM}(o:fF dead.length w (dH n dead.length (bf known vals l) W left ahead) (fH n w (bf known vals l) M left ahead) D):fF n w (dI n l ahead) (iI w l ahead) (An dead.length known vals W M D):=by
 obtain⟨d,b,g⟩:=o;obtain⟨u,v⟩:=rc S;have h:=ago (dead:=dead) (known:=known) (W:=W) (M:=M) S.pinv.vlen (D:=D);refine(Ez S.eqs).2 ⟨h,λr f=>?_,λk p=>?_⟩
 ·obtain⟨c,a,rfl⟩:=fl f;exact(OH S d b i5).1
 ·have m:=S.up (t:=1) (k:=k) (y:=λi=>aN (aC D i) k) p λi s=>by
   have:=congrArg (λr=>aN r k) (g i s);rw[gY b d _ k dead.length (qk _)]at this;rw[this,Gf.one_mul]
  refine⟨λe j=>?_,λr f=>?_⟩
  ·have h3:=m.1 e j;unfold Sat at h3⊢;rw[<-h3];refine kI λc a=>?_;have q:=(S.eqs e j).cS c a;unfold at_;rw[(OH S d b (show c.toNat<n by omega)).2 k,show((c.toNat:Nat):Int)=c by omega]
  ·rw[<-m.2 r f];exact fY n (λ_ _=>rfl) λc a=>(OH S d b a).2 k
theorem gP.Vw(S:gP n w l ahead known vals dead left W M){X:aM}(p:fF n w (dI n l ahead) (iI w l ahead) X):fF dead.length w (dH n dead.length (bf known vals l) W left ahead) (fH n w (bf known vals l) M left ahead) (dead.map λc=>aC X c.toNat):=by
 obtain⟨u,o,h⟩:=(Ez S.eqs).1 p;obtain⟨s,q⟩:=rc S;have e:aV w (dead.map λc=>aC X c.toNat):=λr d=>by
  obtain⟨c,g,rfl⟩:=qt.1 d;have:=S.deadR c g;exact cx o
 have a:i0 (dead.map λc=>aC X c.toNat)=i0 dead:=jj
 refine⟨a,e,λi m=>eT (n:=w) (iQ e a _ _ (qk _)) (cx q (by rw[<-BL (n:=n) (w:=w)];exact m)) λk b=>?_⟩;rw[gY e a _ k dead.length (qk _)];have h3:=(S.down (t:=1) (x:=at_ X k) b (h k b).1 (λr d=>by
  have:=(h k b).2 r d;rw[<-this];exact fY n (λ_ _=>rfl) λc g=>by unfold at_;rw[qm])).2 i m
 rw[Gf.one_mul]at h3;rw[<-h3];refine fY _ (λ_ _=>rfl) λj f=>?_;unfold at_;rw[bx o5,qe,qd f];simp
end
def iD(known:List Bool)(i:Nat):bV:=((qw i).filter λc=>known.getD c eS).map λc:Nat=>[(c:Int)]
theorem OI(known:List Bool)(i:Nat):iD known (i+1)=iD known i++if known.getD i eS then[[(i:Int)]]else[]:=by unfold iD;rw[List.range_succ,List.filter_append,List.map_append];cases h:known.getD i eS<;>simp only[zr,h,List.filter_nil]<;>rfl
theorem Fy(known:List Bool)(i:Nat):i0 (iD known i)<=i:=by unfold iD;rw[qA];exact za (qR _ _) jj
def rowsOf(R:List fu)(known:List Bool)(n:Nat):bV:=R.map qM++iD known n
def gJ(R:List fu)(known:List Bool)(n:Nat):Pl:=dM n (rowsOf R known n)
def nH(R:List fu)(known:List Bool)(n:Nat):List (Int×Int):=(gJ R known n).steps.filter λx=>decide (x.1<i0 R)
def leftOf(R:List fu)(known:List Bool)(n:Nat):az:=(fG (gJ R known n).used (rowsOf R known n).length).filter λx=>decide (x<i0 R)
theorem BM{known:List Bool}{n:Nat}{r:az}(h:r∈iD known n):∃c:Nat,r=[(c:Int)]/\c<n/\known.getD c eS=eR:=by obtain⟨c,a,rfl⟩:=qt.1 h;rw[qI,qE]at a;exact⟨c,i4,a.1,a.2⟩
theorem Hp{rows:bV}:∀{d:List (Int×Int)} {D U:Int->Prop},tR rows D U d->∀i c,(i,c)∈d->(0<=i/\i<i0 rows)/\c∈rows.getD i.toNat []
 |[],_,_,_,_,_,h=>k5
 |(i',c')::t,D,U,hg,i,c,h=>by
  obtain⟨e,_,_,f,_,g⟩:=hg;rcases qX.1 h with h|h
  ·injection h with a b;subst a;subst b;exact⟨e,f⟩
  ·exact Hp g i c h
section
variable {n w:Nat} {l:List fu} {ahead:aM} {known:List Bool} {vals:aM}
theorem xS(f:∀e∈bf known vals l,jf n w e):∀r∈rowsOf (bf known vals l) known n,∀c∈r,0<=c/\c<(n:Int):=λr a c b=>by
 rcases qD.1 a with a|a
 ·obtain⟨e,g,rfl⟩:=qt.1 a;exact(f e g).cS c b
 ·obtain⟨d,rfl,h,_⟩:=BM a;rw[qx]at b;subst b;omega
theorem PZ(k:∀e∈l,jf n w e)(f:kg n w l known vals):tU ((bf known vals l).map qM) (·∈(gJ (bf known vals l) known n).dead) (nH (bf known vals l) known n):=by
 have h:=pm f k;obtain⟨_,_,_,_,_,g⟩:=Am (xS h);have:=Cq (R:=(bf known vals l).map qM) (S:=iD known n) (K:=λc=>kn known c=eR) (λr b c a=>?_) (λr b c a=>?_) g (D':=(·∈(gJ (bf known vals l) known n).dead)) λc _=>Iff.rfl
 ·rw[qA]at this;exact this
 ·obtain⟨e,m,rfl⟩:=qt.1 b;obtain⟨i,o,rfl⟩:=qt.1 (qI.1 m).1;rw[Hj f i c a];simp
 ·obtain⟨d,rfl,_,j⟩:=BM b;rw[qx]at a;subst a;unfold kn;rw[qm];exact j
theorem Mo(k:∀e∈l,jf n w e)(o:kg n w l known vals):
  (∀c∈(gJ (bf known vals l) known n).dead,0<=c/\c<(n:Int))/\(gJ (bf known vals l) known n).dead.Nodup/\(∀c∈(gJ (bf known vals l) known n).dead,kn known c=eS)/\
  (∀i∈leftOf (bf known vals l) known n,0<=i/\i<(i0 (bf known vals l):Int))/\(gJ (bf known vals l) known n).dead.length<=n:=by
 have j:=pm o k;obtain⟨q,r,a3,a4,a5,g⟩:=Am (xS j);refine⟨a3,a4,λc h=>?_,λi a=>?_,by unfold gJ;omega⟩
 ·have b:=a3 c h;cases hk:kn known c with
  |false=>rfl
  |true=>
   exfalso;have f:[c]∈rowsOf (bf known vals l) known n:=qD.2 (.inr (qt.2 ⟨c.toNat,qI.2 ⟨qE.2 i5,hk⟩,by rw[show((c.toNat:Nat):Int)=c by omega]⟩));exact Ev f n (qg n eR) (qg _ eS) (λi a=>by rw[Hm]at a;cases a) (λd p f=>by have:=a3 d f;omega) b.1 h
 ·unfold leftOf at a;rw[qI]at a;have:=a5 i a.1;have m:i<(i0 (bf known vals l):Int):=by simpa using a.2
  exact⟨this.1,m⟩
theorem adK(k:∀e∈l,jf n w e)(q:kg n w l known vals){c:Int}(u:0<=c)(t:c<(n:Int))(f:kn known c=eS):c∈(gJ (bf known vals l) known n).dead∨∃i,(i,c)∈nH (bf known vals l) known n:=by
 have h:=pm q k;obtain⟨_,_,_,_,_,g⟩:=Am (xS h);have a:=Ho (xS h) n (qg n eR) (qg (rowsOf (bf known vals l) known n).length eS) jj jj c.toNat (by rw[qe,qd i9];simp);rw[show((c.toNat:Nat):Int)=c by omega]at a;rcases a with a|⟨i,a⟩
 ·exact .inl a
 ·refine .inr ⟨i,qI.2 ⟨a,?_⟩⟩;obtain⟨p,j⟩:=Hp g i c a;by_cases s:i<(i0 (bf known vals l):Int)
  ·simpa using s
  ·exfalso;have o:=p.2;rw[rowsOf,qy,qA]at o;have r:(rowsOf (bf known vals l) known n).getD i.toNat []∈iD known n:=by rw[rowsOf,qe,qj o6,qd o6];exact qh _
   obtain⟨d,m,_,b⟩:=BM r;rw[m,qx]at j;subst j;unfold kn at f;rw[qm,b]at f;cases f
def RZ(n w:Nat)(known:List Bool)(vals:aM)(R:List fu):aM×aM:=
 iN (gJ R known n).dead.length known vals ((nH R known n).foldl (ia R (gJ R known n).dead.length) (fZ n (gJ R known n).dead.length w (gJ R known n).dead))
theorem adL{nd:Nat}{s:aM×aM}{c:Int}(d:0<=c)(a:c.toNat<i0 s.1)(b:c.toNat<i0 s.2):
  aC (iN nd known vals s).1 c.toNat=(if kn known c then aK nd else aC s.1 c.toNat)/\aC (iN nd known vals s).2 c.toNat=if kn known c then aC vals c.toNat else aC s.2 c.toNat:=by
 unfold iN kn;exact⟨Ex a,Ex b⟩
theorem adM(G:∀e∈l,jf n w e)(hA:aV n ahead)(z:kg n w l known vals)(T:kJ known vals l=eS):
  gP n w l ahead known vals (gJ (bf known vals l) known n).dead (leftOf (bf known vals l) known n) (RZ n w known vals (bf known vals l)).1 (RZ n w known vals (bf known vals l)).2:=by
 have E:=pm z G;have U:=PZ G z;have a:=λc h0 f o=>adK (c:=c) G z h0 f o;obtain⟨K,O,P,f4,Y⟩:=Mo G z;have b:∀j:Nat,j<i0 (bf known vals l)->(∃c,((j:Int),c)∈nH (bf known vals l) known n)∨(j:Int)∈leftOf (bf known vals l) known n:=λj Q=>by
  cases hu:(gJ (bf known vals l) known n).used.getD j eS with
  |true=>
   rcases Hn n (qg n eR) (qg _ eS) j hu with h|⟨c,h⟩
   ·rw[Hm]at h;cases h
   ·exact .inl ⟨c,qI.2 ⟨h,i9⟩⟩
  |false=>exact .inr (qI.2 ⟨(Eu _ _ _).2 ⟨j,i4,by rw[rowsOf,qy,qA];omega,hu⟩,i9⟩)
 have s:∀e∈bf known vals l,∀c∈e.1,kn known c=eS:=λe A c N=>by
  obtain⟨e0,ad,rfl⟩:=qt.1 (qI.1 A).1;exact Hj z e0 c N
 unfold RZ;obtain⟨R,m⟩:∃R,R=bf known vals l:=⟨_,rfl⟩
 rw[<-m]at E U K O P f4 Y b a s⊢;obtain⟨D,W⟩:∃D,D=(gJ R known n).dead:=⟨_,rfl⟩
 obtain⟨ST,r⟩:∃ST,ST=nH R known n:=⟨_,rfl⟩
 rw[<-W,<-r]at U a;rw[<-r]at b;rw[<-W]at K O P Y;rw[<-W,<-r];obtain⟨Z,du⟩:=OG (nd:=i0 D) (w:=w) K O D.length (qk _);rw[List.take_length]at Z du;obtain⟨u,keep,S,L⟩:=KZ E U Z;generalize ah:ST.foldl (ia R D.length) (fZ n D.length w D)=S0 at*;have X:=u.wl;have V:=u.ml;have fr:∀c:Int,0<=c->c<(n:Int)->aC (iN D.length known vals S0).1 c.toNat=(if kn known c then aK D.length else aC S0.1 c.toNat)/\aC (iN D.length known vals S0).2 c.toNat=if kn known c then aC vals c.toNat else aC S0.2 c.toNat:=λc h0 f=>adL h0 i5 i5
 have v:∀t k y (c:Int),0<=c->c<(n:Int)->kn known c=eS->ev t k D.length (iN D.length known vals S0).1 (iN D.length known vals S0).2 y c=ev t k D.length S0.1 S0.2 y c:=λt k y c h0 f o=>by
  have:=fr c h0 f;rw[o]at this;exact Ew this.1 this.2
 have I:∀t k y (c:Int),0<=c->c<(n:Int)->kn known c=eR->ev t k D.length (iN D.length known vals S0).1 (iN D.length known vals S0).2 y c=Gf.mul t (aN (aC vals c.toNat) k):=λt k y c h0 f o=>by
  have:=fr c h0 f;rw[o,f9 rfl,f9 rfl]at this;unfold ev;rw[this.1,this.2,fU _ _ D.length λj _=>cy _ _,wq]
 have B:∀t k y i,(h:i<i0 D)->ev t k D.length (fZ n D.length w D).1 (fZ n D.length w D).2 y D[i]=y i:=λt k y i h=>by
  have:=du i h h;unfold ev;rw[this.1,this.2,adJ h,cy,Gf.mul_zero,zW]
 have F:∀i:Int,0<=i->i<(i0 R:Int)->R.getD i.toNat ([],[])∈R:=λi h0 f=>by
  rw[qe,qd i5];exact qh _
 refine⟨G,hA,z,T,K,O,P,⟨by simp[iN,X],by simp[iN,V],λc N=>?_⟩,I,λt k y i h=>?_,λt k y o H e A=>?_,by rw[<-m];exact f4,λt k x o hx H c h0 f=>?_⟩
 ·have h:=fr (c:Int) i5 i5;rw[qm]at h;rw[h.1,h.2];cases o:kn known (c:Int)with
  |true=>
   rw[f9 i4,f9 rfl];refine⟨k6,?_⟩;have:=z.Hi (c:=(c:Int)) i5 i5 o
   rwa [qm]at this
  |false=>
   rw[g0 jj,g0 jj];have:=u.rw_ (c:Int) (a _ i5 i5 o) i5 i5
   rwa [qm]at this
 ·have M:=K _ (qh h);rw[v t k y _ M.1 M.2 (P _ (qh h)),<-B t k y i h];exact Ew (keep _ (qh h) M.1).1 (keep _ (qh h) M.1).2
 ·rw[<-m]at A H;obtain⟨j,Q,rfl⟩:=qJ A;have ej:R.getD ((j:Int)).toNat ([],[])=R[j]:=by rw[qm,qe,qd Q];rfl
  rcases b j Q with⟨c,N⟩|hlf
  ·have:=S _ N t k y o;dsimp only at this;rw[ej]at this;unfold Sat at this⊢;rw[<-this];exact kI λd J=>v t k y d ((E _ A).cS d J).1 ((E _ A).cS d J).2 (s _ A d J)
  ·have:=H _ hlf
   rwa [ej]at this
 ·rw[<-m]at H;cases hkc:kn known c with
  |true=>rw[hx c h0 f hkc,I _ _ _ c h0 f hkc]
  |false=>
   rw[v _ _ _ c h0 f hkc];refine L t k x _ o (λd J h2 h3=>?_) (λp hp=>?_) c (a c h0 f hkc) h0 f
   ·obtain⟨i,hi,rfl⟩:=qJ J;rw[B t k _ i hi,qe,qd hi];rfl
   ·have q:p∈nH R known n:=r▸hp;unfold nH at q;rw[qI]at q;have h2:p.1<(i0 R:Int):=by simpa using q.2
    have h3:0<=p.1:=by obtain⟨_,_,_,_,_,g⟩:=Am (rows:=rowsOf R known n) (n:=n) (by rw[m];exact xS (m▸E));exact(Hp g p.1 p.2 q.1).1.1
    exact H _ (F _ h3 h2)
end
def xx(n:Nat)(seed:Int)(l:List (Int×Row)):List fu:=l.map λx=>(dw n seed x.1,x.2)
def sC(p:Int×Int×Int)(l:List (Int×Row)):aM:=qg p.2.1.toNat (aK p.2.2.toNat)++l.map zF
structure BN (p:Int×Int×Int) (x:Int×Row):Prop where
 id:bW x.1=eR
 len:i0 x.2=p.2.2.toNat
theorem agp{n:Nat}(c:1<=n)(d:n<=20)(seed id:Int):(dw n seed id).Pairwise (·<·):=by have a:=Vq n seed id;have b:=Em c d seed id;rw[List.Nodup]at b;exact(a.and b).imp λ⟨c,d⟩=>i5
section
variable {p:Int×Int×Int} {seed:Int} {l:List (Int×Row)} {n w:Nat}
theorem ahE(a:1<=n)(b:n<=20)(d:∀x∈l,BN p x)(f:p.2.2.toNat=w):∀e∈xx n seed l,jf n w e/\e.1.Pairwise (·<·):=λe g=>by
 obtain⟨x,h,rfl⟩:=qt.1 g;exact⟨⟨λc i=>nf a b i,Em a b seed x.1,by rw[<-f];exact(d x h).len⟩,agp a b seed x.1⟩
theorem Yv(b:bB p=eR)(a:(bE p).toNat=n)(c:∀x∈l,BN p x):dI n (xx n seed l) (bz p.1.toNat p.2.1.toNat)=dP p seed (l.map qM):=by
 unfold dI dP xx;rw[f9 b,a];have:(l.map qM).filter bW=l.map qM:=zU.2 λi e=>by
  obtain⟨x,d,rfl⟩:=qt.1 e;exact(c x d).id
 rw[this,wD,wD];rfl
theorem Yw(a:p.2.2.toNat=w):iI w (xx n seed l) (bz p.1.toNat p.2.1.toNat)=sC p l:=by unfold iI sC xx;rw[a,wD];simp[bz]
end
section
variable {n w:Nat} {l:List fu} {ahead:aM} {known:List Bool} {vals:aM} {dead left:az} {W M:aM}
theorem aaJ(b:∀e∈l,jf n w e)(f:aV n ahead)(d:kg n w l known vals)(a:kJ known vals l=eR)(h:cb (dI n l ahead)=n):¬lB n (dI n l ahead) (iI w l ahead):=λj=>by
 obtain⟨k,g,c⟩:=Ys d b a;have i:=pW xR (BI f) (BJ b) h j;exact c _ (((Ez b).1 i).2.2 k g).1
theorem gP.Xm(S:gP n w l ahead known vals dead left W M)(a:cb (dI n l ahead)=n){D:aM}(b:fF dead.length w (dH n dead.length (bf known vals l) W left ahead) (fH n w (bf known vals l) M left ahead) D):
  lB n (dI n l ahead) (iI w l ahead)/\An dead.length known vals W M D=gh n (dI n l ahead) (iI w l ahead):=by
 have h:=mv xR (BI S.ahd) (BJ S.eqs) a (S.Yu b);exact⟨h.2,h.1⟩
theorem gP.Xn(S:gP n w l ahead known vals dead left W M)(b:cb (dI n l ahead)=n)(a:lB n (dI n l ahead) (iI w l ahead)):fF dead.length w (dH n dead.length (bf known vals l) W left ahead) (fH n w (bf known vals l) M left ahead) (dead.map λc=>aC (gh n (dI n l ahead) (iI w l ahead)) c.toNat):=
 S.Vw (pW xR (BI S.ahd) (BJ S.eqs) b a)
theorem gP.Yx(S:gP n w l ahead known vals dead left W M)(f:1<=w)(b:cb (dI n l ahead)=n):lB dead.length (dH n dead.length (bf known vals l) W left ahead) (fH n w (bf known vals l) M left ahead)↔lB n (dI n l ahead) (iI w l ahead):=by obtain⟨d,e⟩:=rc S;have a:=S.OC f b;exact⟨λc=>(S.Xm b (pW BL d e a c)).1,λc=>(mv BL d e a (S.Xn b c)).2⟩
theorem Mp{a b:aM}(h:i0 a=i0 b):fF 0 w a b []↔∀r∈b,r=aK w:=by
 unfold fF;constructor
 ·rintro⟨_,_,h3⟩ r c;obtain⟨i,e,rfl⟩:=fl c;exact(h3 i i5).symm
 ·intro d;refine⟨i4,λr c=>(by cases c),λi e=>?_⟩;have:aC b i∈b:=mem_row;rw[d _ this];rfl
theorem agq(c:∀e∈l,e.1.Pairwise (·<·)):∀e∈bf known vals l,e.1.Pairwise (·<·):=λe d=>by
 obtain⟨b,a,rfl⟩:=qt.1 (qI.1 d).1;exact(c b a).filter _
theorem aaK:i0 (bf known vals l)<=i0 l:=by unfold bf;refine za (qR _ _) ?_;simp
theorem aaL{m:Nat}(c:∀e∈l,i0 e.1<=m):∀e∈bf known vals l,i0 e.1<=m:=λe d=>by
 obtain⟨b,a,rfl⟩:=qt.1 (qI.1 d).1;exact za (qR _ _) (c b a)
end
open Go
end Wl
namespace Go.Vc
open Go
section
variable {B:aB} {α:Type} {C:Ctx} {h0 h:Heap} {As:List HP} {e t t2 k by_:Nat} {s:Sl} {f:α->bc} {d:List α} {z:bc}
end
section
variable {P:Program}
structure ajv (P:Program) (t it:TypeId):Prop where
 u:∃f0 f1 f2:Field,P.underlying t=dB (.struct #[f0,f1,f2])/\f0.name≠ "_" /\f1.name≠ "_" /\f2.name≠ "_" /\f0.type=it/\f1.type=it/\f2.type=it/\f0.offset=0/\f1.offset=1/\f2.offset=2
 st:P.stoodInHeld t=eS
 i:P.underlying it=dB (.int .i64)
 a:aL P (isAgg it) eS
abbrev k3v(x:Int×Int×Int):Value:=.agg #[xi xo x.1,xi xo x.2.1,xi xo x.2.2]
structure ajw (h:Heap) (r:Nat) (ks:List (Int×Int×Int)):Prop where
 ex:∃es clock,h[r]?=dB (.map es clock)/\es.toList.map (λe=>(e.key,e.val))=ks.map (λk=>(k3v k,Value.bool eR))
end
section
variable {C:Ctx} {t t2 e k:Nat} {z:bc} {by_:Nat} {α:Type} {h h0:Heap} {p q B:aB} {s v:Sl} {f:α->bc} {l l2:List α} {As:List HP}
end
section
variable {C:Ctx} {t e k:Nat} {z:bc} {by_:Nat} {h:Heap} {s:Sl}
theorem Yy(b:C.Ok)(c:cj C.toCU t e k z by_)(n:Nat){x y:Int}(g:x=n)(l:y=n)(o:n<=s.cap){K:Sl->Heap->Prop}(j:K ⟨s.ptr,n,n⟩ h):
  aA C.P (yk t (.slice s.ptr s.len s.cap) none (dB (xi xo x)) (dB (xi xo y))) (.one (.sc .slc)) h K:=by
 subst g;subst l;have d:aL C.P (wB eR s.len s.cap none (dB (xi xo (n:Int))) (dB (xi xo (n:Int)))) (0,n,n):=λw=>by
  have f:¬((n:Int)<0):=i5
  have x2:¬((s.cap:Int)<(n:Int)):=i5
  have x3:(n:Int)<=(s.cap:Int):=i5
  have i:(0:Int)<=(n:Int):=i5
  simp[wB,Instr.sliceBound,asIntOf,f,x2,x3,i]
 unfold aA yk;refine af.bind (af.always (aU (c.under b)) ?_);show af C.P (xg t (.slice s.ptr s.len s.cap) none (dB (xi xo (n:Int))) (dB (xi xo (n:Int)))) h _;unfold xg;refine af.bind (af.always (aU (c.under b)) ?_);refine af.bind (af.always d ?_);refine af.bind (af.always (c.size b) ?_);have m:(if n=0 then s.ptr else s.ptr.map (·.add (0*k)))=s.ptr:=by
  split
  ·rfl
  ·cases s.ptr with
   |none=>rfl
   |some a=>simp[Addr.add]
 refine af.pure' ⟨⟨s.ptr,n,n⟩,?_,j⟩;show Value.slice (if n=0 then s.ptr else s.ptr.map (·.add (0*k))) (n-0) (n-0)=_;rw[m];rfl
end
open Go Go.RowKit Go.ChangeShapes Go.WideShapes Go.Joins Go.Deep
section
variable {H:Type} {enc:TypeId×Value->H} {P:Program} {W W':World}
theorem adN{w c:World}(a:dm w c)(d:aY (λb=>b<w.heap.size) w.heap c.heap):Below w.heap.size w c:=
 ⟨a.os,a.tape,a.output,d.1,λk e=>d.2 k e e⟩
theorem Fz(i:laidOutB P=eR)(g:Below W.heap.size W W'):∀{c:List TypeId} {vs:bc} {ds:List (DataW H)} {a:List MemPlace},
  (∀t∈c,P.readableRec t=eR/\t<P.types.size)->DataW.TrodAll enc P W 0 (λ_=>eR) eR c vs ds a->(∀x∈a,x.block<W.heap.size)->DataW.TrodAll enc P W' 0 (λb=>decide (b<W.heap.size)) eR c vs ds a
 |[],[],[],a,_,h,_=>h
 |t::c,v::vs,d::ds,a,hr,⟨p,q,h1,h2,e⟩,hlt=>by
  subst e;exact⟨p,q,Below.trod i (hr t jj).1 (hr t jj).2 h1 g λx f=>hlt x nn,Fz i g (λu j=>hr u (by simp[j])) h2 λx f=>hlt x nn,i4⟩
 |[],_::_,_,_,_,h,_=>h.elim
 |[],[],_::_,_,_,h,_=>h.elim
 |_::_,[],_,_,_,h,_=>h.elim
 |_::_,_::_,[],_,_,h,_=>h.elim
theorem adO{f:Func}{s:ChangeSpec}{args:Array Value}{ds:List (DataW H)}{a:List MemPlace}{rt:TypeId}(i:s.vars=[])(d:DataW.Whole enc P f.params.toList s.vars eS W args.toList ds [] a)
  (b:s.fn H (ds++[])={results:=[.lit (.bool eR)],args:=ds}) (m:laidOutB P=eR) (j:Below W.heap.size W W') (l:∀t∈f.params.toList,P.readableRec t=eR/\t<P.types.size)
  (c:f.resultTypes=#[rt]) (e:P.underlying rt=dB .bool):s.post enc P f eS eR eS eS W args (.bool eR) W':=by
 obtain⟨p,q,n,k,h3,r,u⟩:=id d;have g:=d.lt;rw[i]at k;have o:q=[]:=k;subst o;simp only[qN]at h3;subst h3;refine⟨ds,[],a,[],a,[],d,?_,?_,?_,j.frame _,λh=>k5⟩
 ·rw[b,c];exact trodAll_mk1 (shut_bool e eR)
 ·rw[b];exact Fz m j l n g
 ·rw[b,i];rfl
theorem Vx(w:World)(a:Addr):w.cell? a=cellOf w.heap a:=rfl
theorem aaM{h:Heap}{a:Addr}{v:Value}(c:cellOf h a=dB v):a=⟨a.block,a.off,none⟩:=by
 obtain⟨b,o,s⟩:=a;cases s with
 |none=>rfl
 |some s=>
  unfold cellOf at c;cases hb:h[b]? with
  |none=>rw[hb]at c;cases c
  |some x=>rw[hb]at c;cases x<;>simp at c
theorem ahF{α:Type}{f:α->Value}{h:Heap}{a:Addr}{len cap:Nat}{l:List α}(j:i0 l=len)(g:∀i (d:i<i0 l),cellOf h (a.add i)=dB (f l[i])):Seq h (λb=>b<h.size) ⟨dB a,len,cap⟩ 1 (λx=>[f x]) l:=by refine⟨j.symm,λi x k=>?_⟩;obtain⟨d,e⟩:=List.getElem?_eq_some_iff.1 k;have h0:=g 0 i5;rw[add_zero]at h0;have c:=aaM h0;refine⟨a.block,a.off,by rw[<-c],vH h0,?_,trivial⟩;have:=g i d;rw[c,add_eq]at this;rw[Nat.mul_one,add_eq,Nat.add_zero,this,e]
theorem adP{t e:TypeId}{v:Value}{d:DataW H}{m:List MemPlace}(o:P.underlying t=dB (.slice e))(q:P.underlying e=dB (.int .i64))(k:P.cellsOf e=1)
  (u:∃p n c,v=.slice p n c) (h:DataW.Trod enc P W 0 (λ_=>eR) eR t v d m):∃(s:Sl) (l:az),v=.slice s.ptr s.len s.cap/\Seq W.heap (λb=>b<W.heap.size) s 1 aq l:=by
 obtain⟨g,j⟩:=h;obtain⟨p,n,c,rfl⟩:=u;rcases open_ints o q k j with⟨h1,_⟩|⟨a,len,cap,zs,h1,_,hle,_,hz,_,hcell,_⟩
 ·simp[Value.cells]at h1;obtain⟨rfl,rfl,rfl⟩:=h1;exact⟨⟨none,0,0⟩,[],i4,Seq.nil _ _ _ _ _ _⟩
 ·simp[Value.cells]at h1;obtain⟨rfl,rfl,rfl⟩:=h1;simp only[if_true]at hz;refine⟨⟨dB a,n,c⟩,zs.take n,i4,ahF (f:=λx=>xi xo x) i9 λi r=>?_⟩;simp at r;rw[<-Vx,hcell i i5];simp[qe,qd (show i<i0 zs by omega)]
theorem Rf{r:_root_.Go.Reach}{b:Nat}{t e:TypeId}{v:Value}(a:P.underlying t=dB (.slice e))(h:Value.okWide P W r b t v):∃p n c,v=.slice p n c:=by simp only[Value.okWide,a,Cell.okWide]at h;cases v<;>simp_all [Cell.ok]
theorem Tr{w:World}{base:Nat}{a:Nat->Bool}{held:Bool}{t0 E G t3 t4:TypeId}{args:Array Value}{ds:List (DataW H)}{z:List MemPlace}(h:DataW.TrodAll enc P w base a held [t0,E,G,t3,t4] args.toList ds z):
  ∃v0 B n v3 v4 y I m l o A D j k i,args=#[v0,B,n,v3,v4]/\ds=[y,I,m,l,o]/\z=A++D++j++k++i/\DataW.Trod enc P w base a held t0 v0 y A/\DataW.Trod enc P w base a held E B I D/\DataW.Trod enc P w base a held G n m j/\DataW.Trod enc P w base a held t3 v3 l k/\DataW.Trod enc P w base a held t4 v4 o i:=by
 obtain⟨v,vs,d,ds',p,q,r,rfl,rfl,O,g⟩:=trodAll_cons h;obtain⟨M,J,L,F,U,q',rfl,rfl,rfl,t,b⟩:=trodAll_cons g;obtain⟨n,N,m,S,j,W,rfl,rfl,rfl,x,f⟩:=trodAll_cons b;obtain⟨v3,Q,l,T,k,V,rfl,rfl,rfl,s,c⟩:=trodAll_cons f;obtain⟨v4,R,o,K,i,X,rfl,rfl,rfl,u,e⟩:=trodAll_cons c;obtain⟨rfl,rfl,rfl⟩:=trodAll_nil e;exact⟨v,M,n,v3,v4,d,L,m,l,o,p,U,j,k,i,by cases args;simp_all,i4,jj,O,t,x,s,u⟩
end
section
variable {H:Type} {enc:TypeId×Value->H} {P:Program} {W W':World}
end
end Go.Vc
namespace Go
section
variable {H:Type} {enc:TypeId×Value->H}
end
theorem aaN{P:Program}(h:P.funcs.any Func.goes=eS)(f:FuncId):P.goes f=eS:=by
 have a:∀g:FuncId,(P.funcs[g]?).any Func.goes=eS:=λg=>by
  cases hg:P.funcs[g]? with
  |none=>rfl
  |some x=>
   show Func.goes x=eS;obtain⟨b,e⟩:=Array.getElem?_eq_some_iff.1 hg;cases hx:Func.goes x with
   |false=>rfl
   |true=>
    have:P.funcs.any Func.goes=eR:=Array.any_eq_true.2 ⟨g,b,by rw[e];exact hx⟩;rw[h]at this;cases this
 unfold Program.goes;rw[h,Bool.and_false,Bool.or_false];simp only[a];simp
theorem Vy{P:Program}{c:OpenClaim}(h:P.funcs.any Func.goes=eS):c.goesBy P=eS:=by
 have a:∀f,P.goes f=eS:=aaN h;unfold OpenClaim.goesBy Program.goesAt Program.goesFrom;have b:(P.funcNamed c.func).any P.goes=eS:=by
  cases P.funcNamed c.func with
  |none=>rfl
  |some f=>exact a f
 have h3:P.inits.toList.any P.goes=eS:=wi.2 λf _=>by rw[a f];exact Bool.false_ne_true
 rw[b,h3];cases c.start<;>rfl
end Go
