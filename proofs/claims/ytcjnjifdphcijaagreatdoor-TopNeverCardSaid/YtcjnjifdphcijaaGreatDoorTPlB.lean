/- Lemmas for the proof of the law; no condition. -/
import Derived.Test.YtcjnjifdphcijaaGreatDoorTPlA
import Derived.Shelf.SlSortCmp.NoneTotal
import Derived.ProofKit
import Derived.Deep.Matrix
import Derived.Carry
import Derived.Lib.SmallJoins
import Derived.Handed
import Derived.HandedShaped
import Derived.ChangeMaps5
import Derived.SevenTiedAt
set_option linter.unusedVariables false
set_option linter.unusedSimpArgs false
open Array renaming getElem?_eq_getElem -> vx, getElem?_setIfInBounds -> wu, mem_toList_iff -> wo
open List renaming mem_take_iff_getElem -> yR, nodup_range -> vY, range -> qt, range' -> zM, range'_succ -> yp, replicate -> qh
open Nat renaming add_sub_cancel -> vg, lt_succ_self -> vV
open Go.Value renaming int -> xz
open Go.IntKind renaming i64 -> xF
open Prod renaming fst -> qL, snd -> zH
open Go.Instr renaming entry -> xx, findNow -> v8, makeMap -> vz, mapUpdate -> yD, range -> xw, slice -> xv, sliceAt -> yt, sliceBounds -> wH
set_option maxRecDepth 100000
open Option renaming some -> dB, none -> eH
open Bool renaming true -> eR, false -> eS
open Go renaming Value -> eX
open List renaming length -> i0
namespace Go.Qw
open Go.Proofs
abbrev gO:=FloatKind.format .f64
theorem CH{P:Program}{a b c:Nat}(h:gO.add a b=dB c):aF P (Op.Complex.arith .add .f64 a b) c:=λw=>by
 have h':(FloatKind.format .f64).add a b=dB c:=h;unfold Op.Complex.arith Op.floatArith;simp only[h'];rfl
theorem CI{P:Program}{a b c:Nat}(h:gO.sub a b=dB c):aF P (Op.Complex.arith .sub .f64 a b) c:=λw=>by
 have h':(FloatKind.format .f64).sub a b=dB c:=h;unfold Op.Complex.arith Op.floatArith;simp only[h'];rfl
theorem uC{P:Program}{a b c:Nat}(h:gO.mul a b=dB c):aF P (Op.Complex.arith .mul .f64 a b) c:=λw=>by
 have h':(FloatKind.format .f64).mul a b=dB c:=h;unfold Op.Complex.arith Op.floatArith;simp only[h'];rfl
theorem vT{P:Program}{op:BinOp}(h:op=.add∨op=.sub∨op=.mul)(t:TypeId)(x y:Operand)(a b:eX):aF P (eqGuard op t x y a b) ():=λw=>by
 rcases h with rfl|rfl|rfl<;>rfl
theorem abs{P:Program}{t:TypeId}{x y:Operand}{a b c d e f:Nat}(h:gO.add a c=dB e)(g:gO.add b d=dB f):kf P .add t x y (.complex .f64 a b) (.complex .f64 c d) (.complex .f64 e f):=
 (vT (.inl i4) t x y _ _).bind (show aF P (Op.complexOp .add .f64 a b c d) _ from(CH h).bind ((CH g).bind λ_=>rfl))
theorem abt{P:Program}{t:TypeId}{x y:Operand}{a b c d e f:Nat}(h:gO.sub a c=dB e)(g:gO.sub b d=dB f):kf P .sub t x y (.complex .f64 a b) (.complex .f64 c d) (.complex .f64 e f):=
 (vT (.inr (.inl i4)) t x y _ _).bind (show aF P (Op.complexOp .sub .f64 a b c d) _ from(CI h).bind ((CI g).bind λ_=>rfl))
theorem abu{P:Program}{t:TypeId}{x y:Operand}{a b c d e f h j i k:Nat}(p:gO.mul a c=dB h)(q:gO.mul b d=dB j)(h3:gO.sub h j=dB e)(l:gO.mul a d=dB i)(m:gO.mul b c=dB k)(o:gO.add i k=dB f):
  kf P .mul t x y (.complex .f64 a b) (.complex .f64 c d) (.complex .f64 e f):=by
 refine(vT (.inr (.inr i4)) t x y _ _).bind ?_;have n:aF P (Op.Complex.product a b c d) (e,f):=
  (uC p).bind ((uC q).bind ((CI h3).bind ((uC l).bind ((uC m).bind ((CH o).bind λ_=>rfl)))))
 show aF P (Op.complexOp .mul .f64 a b c d) _;have g:∀x,aF P (Op.Complex.conv .f64 x .f64) x:=λx w=>by unfold Op.Complex.conv;rw[g0 rfl];rfl
 unfold Op.complexOp;refine(g a).bind ((g b).bind ((g c).bind ((g d).bind ?_)));refine aF.bind (v:=(e,f)) ?_ ?_
 ·exact n
 ·exact(g e).bind ((g f).bind λ_=>rfl)
section
open Go.Sort
theorem abv{w a:World}(r:cX w a)(f:aP (λb=>b<w.heap.size) w.heap a.heap):∃q c,a=Sort.grow (w.drewN q) c:=by
 refine⟨a.drawn-w.drawn,a.heap.extract w.heap.size a.heap.size,?_⟩;have k:w.heap++a.heap.extract w.heap.size a.heap.size=a.heap:=by
  apply yJ;intro i;have l:=f.1;by_cases d:i<w.heap.size
  ·rw[Array.getElem?_append_left d,f.2 i d d]
  ·rw[Array.getElem?_append_right i5,Array.getElem?_extract];by_cases t:i<a.heap.size
   ·rw[g0 i5,show w.heap.size+(i-w.heap.size)=i by omega]
   ·rw[g9 i5,Array.getElem?_eq_none i5]
 obtain⟨p,s,dr,os,out⟩:=w;obtain⟨g,m,n,c,e⟩:=a;obtain⟨h,e2,j,o⟩:=r;simp only at h e2 j o k;subst h;subst e2;subst j;simp only[Sort.grow,World.drewN,World.mk.injEq];refine⟨k.symm,trivial,i5,trivial,trivial⟩
theorem JE{α:Type}[Inhabited α]{enc:α->aR}{k:Nat}(b:∀x,i0 (enc x)=k)(l:List α):flatK enc k l.toArray=(l.flatMap enc).toArray:=by
 refine ext_get! (by simp[ez b]) λt i=>?_;have a:t<i0 l*k:=sR
 have g:0<k:=by
  rcases Nat.eq_zero_or_pos k with h|h
  ·subst h;simp at a
  ·exact h
 rw[get_flatK _ _ _ t j9];have c:t/k<i0 l:=(Nat.div_lt_iff_lt_mul g).2 a;obtain⟨pre,post,j,e2⟩:=AF b l (t/k) l[t/k] (qc c);have f:t%k<k:=yK _ g;have n:t=t/k*k+t%k:=by rw[vM];exact(Nat.div_add_mod t k).symm
 have e:(l.flatMap enc)[t]?=dB ((enc l[t/k])[t%k]'(by rw[b];exact f)):=by
  rw[j,qn,qi i5,qm (by rw[b];omega)];have:t-i0 pre=t%k:=i5
  rw[this,qc]
 have m:l.toArray[t/k]! =l[t/k]:=l5
 rw[m];have d:t<i0 (l.flatMap enc):=by rw[ez b];exact a
 rw[getElem!_pos (enc l[t/k]) (t%k) (by rw[b];exact f),getElem!_pos _ t o4];rw[qc d]at e;simp only[List.getElem_toArray];exact(Option.some.inj e).symm
theorem Sm{α:Type}[Inhabited α]{enc:α->aR}{k:Nat}(f:∀x,i0 (enc x)=k){w:World}{e:TypeId}{b:Nat}{rest:aR}{l:List α}(d:w.heap[b]?=dB (.cells (l.flatMap enc++rest).toArray e (0,0))):HoldsK enc k w b 0 l.toArray:=by
 intro j c;rw[JE f]at c⊢;have a:j<i0 (l.flatMap enc):=pa
 refine⟨?_,by simp[World.frozen?,d]⟩;have g:(l.flatMap enc++rest).toArray[0+j]?=dB (l.flatMap enc)[j]:=by rw[we,wb,qm a,qc a]
 simp only[World.cell?,d];rw[getElem!_pos _ j j9];simpa using g
theorem UU{α:Type}[Inhabited α]{enc:α->aR}{k:Nat}(a:∀x,i0 (enc x)=k)(l l':List α)(rest:aR)(c:i0 l'=i0 l):putCells id 0 (flatK enc k l'.toArray) (l.flatMap enc++rest).toArray=(l'.flatMap enc++rest).toArray:=by
 rw[JE a];have d:=ez a l;have b:=ez a l';rw[c]at b;apply yJ;intro i;simp only[putCells,Array.getElem?_mapIdx,wb,yc,we,Nat.zero_le,true_and,Nat.sub_zero];by_cases e:i<i0 l*k
 ·rw[qm i5,qm i5,qc i5,qc i5,qS,g0 i5];rw[getElem!_pos _ i (by rw[yc];omega)];simp
 ·rw[qi i5,qi i5,d,b];cases rest[i-i0 l*k]? with
  |none=>rfl
  |some x=>rw[qS,g9 i5]
theorem KH{α:Type}[Inhabited α]{P:Program}{id_ g:FuncId}{enc:α->aR}{k:Nat}{cf:α->α->Int}(D:∀x,i0 (enc x)=k)
  (J:∀(eV cap:Nat) (l:List α) (w:World),CmpLays P g #[] enc k cf eV 0 l.length w->HoldsK enc k w eV 0 l.toArray->eV<w.heap.size->i0 l<4611686018427387904->
   Calls P id_ #[.slice (dB ⟨eV,0,eH⟩) l.length cap,.func (.func g) #[] #[]] w λe o=>e=.returned (.tuple #[])/\∃n os,o=sortWorldK enc k w eV 0 n (l.mergeSort λx y=>!(ltOf cf) y x).toArray os)
  (H:∀(p:bK) (cap:Nat) (w:World),Calls P id_ #[.slice p 0 cap,.func (.func g) #[] #[]] w λe o=>e=.returned (.tuple #[])/\o=w)
  (F:∀x y h,ai P g #[.agg (enc x).toArray,.agg (enc y).toArray] h λv h'=>v=xz xF (cf x y)/\aP (λb=>b<h.size) h h')
  {e:TypeId} {s:Sl} {l:List α} {h:Heap} (A:Own h e s k enc l) (G:i0 l<2^40):
  ai P id_ #[.slice s.ptr s.len s.cap,.func (.func g) #[] #[]] h λv h'=>v=.tuple #[]/\Own h' e s k enc (l.mergeSort λx y=>!(ltOf cf) y x)/\aP (λb=>¬s.on b) h h':=by
 intro w i;have a:=A.len;rcases A.head with⟨h1,h2,h3⟩|⟨b,rest,h1,h2,h3,h4⟩
 ·subst h3;rw[a,h1];refine(H eH s.cap w).mono ?_;rintro B o ⟨rfl,rfl⟩;have I:(([]:List α).mergeSort λx y=>!(ltOf cf) y x)=[]:=jj
  exact⟨_,i4,cX.refl _,i4,by rw[I];exact⟨a,.inl ⟨h1,h2,i4⟩⟩,by rw[<-i];exact aP.refl _ _⟩
 ·rw[h1,a];have t:w.heap[b]?=dB (.cells (l.flatMap enc++rest).toArray e (0,0)):=by rw[i];exact h2
  have f:CmpLays P g #[] enc k cf b 0 l.length w:=λm os E _ x y=>by
   have:=F x y _ (sortWorldK enc k w b 0 m E os) i4;refine(show Calls P g (#[Value.agg (enc x).toArray,.agg (enc y).toArray]++#[]) _ _ from ?_);rw[Array.append_empty];refine this.mono ?_;rintro B o ⟨v,rfl,K,rfl,u⟩;exact⟨i4,abv K u⟩
  refine(J b s.cap l w f (Sm D t) (lt_of_block t) i5).mono ?_;rintro B o ⟨rfl,n,os,rfl⟩;have r:=lt_of_block t;have q:i0 (l.mergeSort λx y=>!(ltOf cf) y x)=i0 l:=List.length_mergeSort l;have c:∀j,j<h.size->(sortWorldK enc k w b 0 n (l.mergeSort λx y=>!(ltOf cf) y x).toArray os).heap[j]?=if b=j then dB (.cells ((l.mergeSort λx y=>!(ltOf cf) y x).flatMap enc++rest).toArray e (0,0))else h[j]?:=by
   intro j z;unfold sortWorldK;rw[Sort.heap_grow_old _ _ (by simpa[putRowK,Sort.putRow,Sort.mapBlock,Sort.ahead,i]using z)];simp only[putRowK,Sort.putRow,Sort.mapBlock,Sort.ahead,Array.getElem?_modify];by_cases d:b=j
   ·subst d;rw[g0 i4,g0 i4,t,qS,Sort.onCells,UU D _ _ _ q]
   ·rw[g9 d,g9 d,i]
  rw[i]at r;refine⟨_,i4,⟨i4,i4,i4,Nat.le_add_right _ _⟩,i4,⟨by rw[q];exact a,.inr ⟨b,rest,h1,?_,h3,h4⟩⟩,?_,?_⟩
  ·rw[c b r,g0 rfl]
  ·simp[sortWorldK,putRowK,Sort.grow,Sort.putRow,Sort.mapBlock,Sort.ahead,i]
  ·intro j z u;rw[c j z,g9 λd=>u ⟨0,by rw[h1,d]⟩]
end
def cL(n:Int):Nat:=
 if n=0 then 0 else
  let m:=n.natAbs;let e:=m.log2
  (if n<0 then 2^63 else 0)+(1023+e)*2^52+(m-2^e)*2^(52-e)
structure BN where
 ax:Nat
 ay:Nat
 sx:Nat
 sy:Nat
 left:Int
 leg:Int
 second:Bool
def oB:Nat:=4607182418800017408
def fs0:BN:=⟨0,0,oB,0,1,1,eS⟩
def nH(a b:Nat):Nat:=(gO.add a b).getD 0
def afr(a b:Nat):Nat:=(gO.sub a b).getD 0
def rL(a b:Nat):Nat:=(gO.mul a b).getD 0
def tx(a b:Nat):Nat:=afr (rL a 0) (rL b oB)
def ty(a b:Nat):Nat:=nH (rL a oB) (rL b 0)
def BN.on(s:BN):BN:=
 if s.left-1>0 then{s with ax:=nH s.ax s.sx,ay:=nH s.ay s.sy,left:=s.left-1}
 else{ax:=nH s.ax s.sx,ay:=nH s.ay s.sy,sx:=tx s.sx s.sy,sy:=ty s.sx s.sy,leg:=if s.second then s.leg+1 else s.leg,left:=if s.second then s.leg+1 else s.leg,second:=!s.second}
def jt:Nat->BN
 |0=>fs0
 |n+1=>(jt n).on
def BN.ok(s:BN):Bool:=
 (gO.add s.ax s.sx).isSome&&(gO.add s.ay s.sy).isSome&&(gO.mul s.sx 0).isSome&&(gO.mul s.sy oB).isSome&&(gO.sub (rL s.sx 0) (rL s.sy oB)).isSome&&(gO.mul s.sx oB).isSome&&(gO.mul s.sy 0).isSome&&(gO.add (rL s.sx oB) (rL s.sy 0)).isSome&&decide (1<=s.left)&&decide (s.left<=100)&&decide (1<=s.leg)&&decide (s.leg<=100)
structure UV where
 x:Int
 y:Int
 dx:Int
 dy:Int
 left:Int
 leg:Int
 turns:Int
def afs:UV:=⟨0,0,1,0,1,1,0⟩
def UV.on(s:UV):UV:=
 if s.left-1=0 then
  {x:=s.x+s.dx,y:=s.y+s.dy,dx:=-s.dy,dy:=s.dx,leg:=if(s.turns+1)%2=0 then s.leg+1 else s.leg,left:=if(s.turns+1)%2=0 then s.leg+1 else s.leg,turns:=s.turns+1}
 else{s with x:=s.x+s.dx,y:=s.y+s.dy,left:=s.left-1}
def gh:Nat->UV
 |0=>afs
 |n+1=>(gh n).on
theorem aeP:∀n,n<64->(jt n).ok=eR:=j4
theorem adi:∀n,n<64->((jt n).ax==cL (gh n).x&&(jt n).ay==cL (gh n).y&&decide (-4<=(gh n).x)&&decide ((gh n).x<=4)&&decide (-4<=(gh n).y)&&decide ((gh n).y<=4))=eR:=j4
theorem adj:∀i,i<9->∀j,j<9->gO.sub (cL ((i:Nat)-4:Int)) (cL ((j:Nat)-4:Int))=dB (cL ((i:Int)-(j:Int))):=j4
theorem adk:∀i,i<17->gO.mul (cL ((i:Nat)-8:Int)) (cL ((i:Nat)-8:Int))=dB (cL (((i:Nat)-8:Int)*((i:Nat)-8:Int))):=j4
theorem adl:∀i,i<9->∀j,j<9->gO.add (cL (((i:Nat):Int)*(i:Nat))) (cL (((j:Nat):Int)*(j:Nat)))=dB (cL (((i:Nat):Int)*(i:Nat)+((j:Nat):Int)*(j:Nat))):=j4
theorem UW:∀m,m<129->∀n,n<129->gO.order (cL (m:Nat)) (cL (n:Nat))=dB (compare m n):=j4
theorem Sn{seq a c:Int}{b:aM}(d:i0 b<=48):dg (jZ seq a c b)=eH:=by unfold dg jZ;rw[uA i6 i6 m5];dsimp only;rw[g9 (by rintro⟨h,_⟩;exact absurd h i6)]
theorem ni{m:aw}{c:aM}(h:c∈aX m):dg c=eH:=by unfold aX at h;obtain⟨i,_,rfl⟩:=qo.1 h;exact Sn i9
theorem JF{α:Type}{R:α->α->Prop}(n:∀a b c,R a b->R b c->R a c){l:List α}(h:∀i (k:i+1<i0 l),R (l[i]'(by omega)) l[i+1]):l.Pairwise R:=by
 have g:∀d i (f:i+(d+1)<i0 l),R (l[i]'(by omega)) l[i+(d+1)]:=by
  intro d
  induction d with
  |zero=>exactλi f=>h i f
  |succ d ih=>exactλi f=>n _ _ _ (ih i i5) (h (i+(d+1)) i5)
 refine zj.2 λi j k f m=>?_;have:=g (j-i-1) i i5;have e:i+(j-i-1+1)=j:=i5
 simp only[e]at this;exact this
theorem JG{α:Type}{R:α->α->Prop}{l:List α}(h:l.Pairwise R)(i:Nat)(a:i+1<i0 l):R (l[i]'(by omega)) l[i+1]:=zj.1 h i (i+1) i5 a i5
theorem fh{α:Type}{l:List α}{i:Nat}(d:α)(h:i<i0 l:=by omega):l.getD i d=l[i]:=by rw[qd,qc h];rfl
theorem lU(n a b:Int):fz n a b=eR↔a<=n/\n<=b:=by unfold fz;rw[qu,decide_eq_true_eq,decide_eq_true_eq]
theorem UX(l:au)(most:Int):ot l most=eR↔l.Pairwise (·<·)/\∀x∈l,0<=x/\x<=most:=by
 unfold ot;rw[qK];constructor
 ·intro h;have g:∀i (d:i<i0 l),(0<=l[i]/\l[i]<=most)/\(i=0∨l.getD (i-1) 0<l[i]):=λi d=>by
   have:=h i (qA.2 d);unfold jJ at this;rw[fh 0 d,qu,lU,wv,decide_eq_true_eq,decide_eq_true_eq]at this;exact this
  refine⟨JF (R:=λa b:Int=>a<b) (λa b c f e=>Int.lt_trans f e) λi d=>?_,λx j=>?_⟩
  ·rcases(g (i+1) d).2 with h0|h0
   ·omega
   ·rw[vg,fh 0]at h0;exact h0
  ·obtain⟨i,d,rfl⟩:=qD j;exact(g i d).1
 ·rintro⟨f,e⟩ i d;have d:=qA.1 d;unfold jJ;rw[fh 0 d,qu,lU,wv,decide_eq_true_eq,decide_eq_true_eq];refine⟨e _ (qf d),?_⟩;cases i with
  |zero=>exact .inl i4
  |succ i=>exact .inr (by rw[vg,fh 0];exact JG f i d)
theorem Ml(a b c:ByteArray)(e:fg a b=eR)(d:fg b c=eR):fg a c=eR:=Ej _ _ _ e d
theorem cv(m:aw):bp m=eR↔kJ m=eR/\m.drives.Pairwise (·<·)/\(∀k∈m.drives,0<=k/\k<=63)/\m.objs.length<=12/\(∀e∈m.objs,gM m e=eR)/\m.objs.Pairwise (λa b=>fg a.name b.name=eR)/\m.objs.Pairwise (λa b=>a.object≠b.object):=by
 unfold bp;rw[qu,qu,qu,UX,decide_eq_true_eq,qK];have n:(∀i∈qt m.objs.length,ou m i=eR)↔(∀e∈m.objs,gM m e=eR)/\m.objs.Pairwise (λa b=>fg a.name b.name=eR)/\m.objs.Pairwise (λa b=>a.object≠b.object):=by
  constructor
  ·intro h;have o:∀i (l:i<m.objs.length),gM m m.objs[i]=eR/\(i=0∨fg (oq m.objs (i-1)).name m.objs[i].name=eR)/\∀y∈m.objs.take i,y.object≠m.objs[i].object:=λi l=>by
    have:=h i (qA.2 l);unfold ou at this;rw[nF l,qu,qu,wv,decide_eq_true_eq,wW,wL]at this;exact⟨this.1,this.2.1,λy q=>by have:=this.2.2 y q;simpa using this⟩
   refine⟨λe t=>?_,JF (R:=λa b:ci=>fg a.name b.name=eR) (λa b c p r=>Ml _ _ _ p r) λi l=>?_,zj.2 λi j l s u=>?_⟩
   ·obtain⟨i,l,rfl⟩:=qD t;exact(o i l).1
   ·rcases(o (i+1) l).2.1 with h0|h0
    ·omega
    ·rw[vg,nF]at h0;exact h0
   ·refine(o j s).2.2 m.objs[i] ?_;exact yR.2 ⟨i,i5,i4⟩
  ·rintro⟨p,r,h3⟩ i l;have l:=qA.1 l;unfold ou;rw[nF l,qu,qu,wv,decide_eq_true_eq,wW,wL];refine⟨p _ (qf l),?_,λy q=>?_⟩
   ·cases i with
    |zero=>exact .inl i4
    |succ i=>exact .inr (by rw[vg,nF];exact JG r i l)
   ·obtain⟨j,s,rfl⟩:=yR.1 q;have:=zj.1 h3 j i i5 l i5;simpa using this
 rw[n];constructor
 ·rintro⟨a,⟨b,c⟩,d,e,f,g⟩;exact⟨a,b,c,d,e,f,g⟩
 ·rintro⟨a,b,c,d,e,f,g⟩;exact⟨a,⟨b,c⟩,d,e,f,g⟩
theorem dZ(m:aw):kJ m=eR↔(1<=m.seq/\m.seq<=2147483647)/\(0<=m.next/\m.next<=16777216)/\bx m.p=eR/\0<=m.extra/\m.extra<=16:=by unfold kJ;rw[qu,qu,qu,lU,lU,lU]
theorem iS(m:aw)(x:ci):gM m x=eR↔mb x.name=eR/\(0<=x.object/\x.object<m.next)/\(0<=x.length/\x.length<=m.p.1*m.p.2.2*8)/\(∀t∈x.tries,0<=t/\t<=15)/\(x.tries.length:Int)=countP m.p x.length:=by
 unfold gM;rw[qu,qu,qu,qu,lU,lU,qK,decide_eq_true_eq];simp only[lU];constructor
 ·rintro⟨a,b,c,d,e⟩;exact⟨a,⟨b.1,i5⟩,c,d,e⟩
 ·rintro⟨a,b,c,d,e⟩;exact⟨a,⟨b.1,i5⟩,c,d,e⟩
theorem oC{m:aw}(h:bp m=eR):m.drives.Nodup:=((cv m).1 h).2.1.imp λh e=>i5
theorem iB{m:aw}(h:bp m=eR):∀k∈m.drives,0<=k/\k<64:=λk a=>by have:=((cv m).1 h).2.2.1 k a;omega
theorem Mm:∀{l:au} {a b:Int},l.Pairwise (·<·)->(∀k∈l,a<=k/\k<b)->a<=b->(i0 l:Int)<=b-a
 |[],a,b,_,_,h=>i9
 |x::l,a,b,hp,hl,h=>by
  obtain⟨e,d⟩:=zu.1 hp;have f:=hl x qF;have:=Mm (a:=x+1) (b:=b) d (λk c=>⟨by have:=e k c;omega,(hl k (qz _ c)).2⟩) i5;rw[zc];omega
theorem iH{m:aw}(h:bp m=eR):i0 m.drives<=64:=by have:=Mm ((cv m).1 h).2.1 (iB h) i6;omega
theorem OB(b:ByteArray):∀n i r,b.size-i=n->ByteArray.toList.loop b i r=r.reverse++b.data.toList.drop i:=by
 have c:i0 b.data.toList=b.size:=rfl;intro n
 induction n with
 |zero=>
  intro i r h;rw[ByteArray.toList.loop,g9 i5,List.drop_eq_nil_of_le (by rw[c];omega),qH]
 |succ n ih=>
  intro i r h;have a:i<b.size:=i5
  rw[ByteArray.toList.loop,g0 a,ih (i+1) _ i5];have d:b.data.toList.drop i=b.get! i::b.data.toList.drop (i+1):=by rw[List.drop_eq_getElem_cons (by rw[c];exact a)];congr 1;show _=b.data[i]!;rw[getElem!_pos b.data i a,Array.getElem_toList]
  rw[d,List.reverse_cons,qn];rfl
theorem toList_eq(x:ByteArray):x.toList=x.data.toList:=by unfold ByteArray.toList;rw[OB x _ 0 [] rfl];rfl
theorem oD{a b:ByteArray}(h:a.toList=b.toList):a=b:=by rw[toList_eq,toList_eq]at h;cases a;cases b;congr;exact Array.toList_inj.1 h
def kj:Nat->Nat->Nat->List (List Nat)
 |0,_,_=>[[]]
 |t+1,a,n=>(zM a (n-t-a)).flatMap λi=>(kj t (i+1) n).map (i::·)
def jS(n:Nat):List Nat->Option (List Nat)
 |[]=>eH
 |x::l=>match jS n l with
  |some l'=>dB (x::l')
  |none=>if x+i0 l+1<n then dB (zM (x+1) (i0 l+1))else eH
inductive oE (n:Nat):List Nat->List (List Nat)->Prop
 |last {l:List Nat}:jS n l=eH->oE n l [l]
 |more {l l':List Nat} {L:List (List Nat)}:jS n l=dB l'->oE n l' L->oE n l (l::L)
theorem CJ{n:Nat}:∀{l l':List Nat},jS n l=dB l'->i0 l'=i0 l
 |[],_,h=>j7
 |x::l,l',h=>by
  unfold jS at h;cases hs:jS n l with
  |some m=>rw[hs]at h;injection h with h;subst h;simp[CJ hs]
  |none=>
   rw[hs]at h;dsimp only at h;split at h
   ·injection h with h;subst h;simp
   ·cases h
theorem oE.cons{n x t:Nat}{l:List Nat}{L R:List (List Nat)}(h:oE n l L)(a:i0 l=t)(c:x+t+1<n)(b:oE n (zM (x+1) (t+1)) R):oE n (x::l) (L.map (x::·)++R):=by
 induction h with
 |last hs=>exact .more (by unfold jS;rw[hs];dsimp only;rw[g0 i5,a]) b
 |more hs _ ih=>exact .more (by unfold jS;rw[hs]) (ih (by rw[CJ hs,a]))
theorem oE.aeQ{n x t:Nat}{l:List Nat}{L:List (List Nat)}(h:oE n l L)(a:i0 l=t)(b:¬x+t+1<n):oE n (x::l) (L.map (x::·)):=by
 induction h with
 |last hs=>exact .last (by unfold jS;rw[hs];dsimp only;rw[g9 i5])
 |more hs _ ih=>exact .more (by unfold jS;rw[hs]) (ih (by rw[CJ hs,a]))
theorem CK(n:Nat):∀t a,a+t<=n->oE n (zM a t) (kj t a n)
 |0,a,_=>.last i4
 |t+1,a,h=>by
  have b:∀m a,a+(t+1)<=n->m+1=n-t-a->oE n (zM a (t+1)) ((zM a (m+1)).flatMap λi=>(kj t (i+1) n).map (i::·)):=by
   intro m
   induction m with
   |zero=>
    intro a h c;have:=(CK n t (a+1) i5).aeQ (x:=a) (t:=t) jj i5;simpa[yp]using this
   |succ m ih=>
    intro a h c;have:=(CK n t (a+1) i5).cons (x:=a) (t:=t) jj i5 (ih (a+1) i5 i5);rw[yp,yp (n:=m+1),zd];exact this
  have:=b (n-t-a-1) a h i5;rw[show n-t-a-1+1=n-t-a by omega]at this;exact this
theorem Mn{n:Nat}:∀(i:Nat) (l m:List Nat),i<=i0 l->jS n (l.drop i)=dB m->jS n l=dB (l.take i++m)
 |0,l,m,_,h=>j6
 |i+1,[],m,h,_=>m0
 |i+1,x::l,m,h,hs=>by
  have:=Mn i l m j6 (by simpa using hs);unfold jS;rw[this];simp
theorem AT{n:Nat}:∀{t a:Nat} {s:List Nat},s∈kj t a n->i0 s=t/\(∀x∈s,a<=x/\x<n)/\s.Pairwise (·<·)
 |0,a,s,h=>by simp[kj]at h;subst h;simp
 |t+1,a,s,h=>by
  simp only[kj,zO,qo,List.mem_range'_1]at h;obtain⟨i,f,l,d,rfl⟩:=h;obtain⟨e,c,h3⟩:=AT d;refine⟨p5,?_,zu.2 ⟨λx b=>(c x b).1,h3⟩⟩;intro x b;rcases qX.1 b with rfl|b
  ·omega
  ·have:=c x b;omega
theorem Mo{n:Nat}:∀{t a:Nat} {s:List Nat},i0 s=t->(∀x∈s,a<=x/\x<n)->s.Pairwise (·<·)->s∈kj t a n
 |0,a,s,h,_,_=>by simp[kj];simpa using h
 |t+1,a,[],h,_,_=>m0
 |t+1,a,x::l,h,hb,b=>by
  rw[zu]at b;have f:i0 l=t:=j6
  simp only[kj,zO,qo,List.mem_range'_1];have e:=hb x jj;refine⟨x,⟨e.1,?_⟩,l,Mo f (λy c=>⟨b.1 y c,(hb y l5).2⟩) b.2,i4⟩;have d:∀(l:List Nat) (x:Nat),(x::l).Pairwise (·<·)->(∀y∈x::l,y<n)->x+i0 l<n:=by
   intro l
   induction l with
   |nil=>intro x _ c;exact c x jj
   |cons y l ih=>
    intro x b c;rw[zu]at b;have j:=ih y b.2 λz g=>c z (qz _ g);have i:=b.1 y jj;simp;omega
  have:=d l x (zu.2 b) λy c=>(hb y c).2;omega
def ch:Nat->Nat->Nat
 |_,0=>1
 |0,_+1=>0
 |n+1,k+1=>ch n k+ch n (k+1)
theorem mN(n:Nat):ch n 0=1:=by cases n<;>rfl
theorem Es:∀(n k:Nat),n<k->ch n k=0
 |_,0,h=>i5
 |0,k+1,_=>rfl
 |n+1,k+1,h=>by rw[ch,Es n k i5,Es n (k+1) i5]
theorem IJ:∀n,ch n n=1
 |0=>rfl
 |n+1=>by rw[ch,IJ n,Es n (n+1) i5]
theorem CL:∀(n k:Nat),(k+1)*ch (n+1) (k+1)=(n+1)*ch n k
 |0,0=>rfl
 |0,k+1=>by rw[Es 0 (k+1) i5,Es (0+1) (k+1+1) i5];simp
 |n+1,0=>by
  have:=CL n 0;rw[mN]at this⊢;rw[ch,mN,Nat.mul_add,this];omega
 |n+1,k+1=>by
  have c:=CL n k;have b:=CL n (k+1);rw[ch];have e:(k+1+1)*(ch (n+1) (k+1)+ch (n+1) (k+1+1))=((k+1)*ch (n+1) (k+1)+ch (n+1) (k+1))+(k+1+1)*ch (n+1) (k+1+1):=by rw[Nat.mul_add,zI (k+1)]
  rw[e,c,b];have a:ch (n+1) (k+1)=ch n k+ch n (k+1):=rfl;rw[a,zI (n+1),Nat.mul_add (n+1)];omega
theorem Qx{n k:Nat}(h:k<=n):ch n (k+1)*(k+1)=ch n k*(n-k):=by
 cases n with
 |zero=>
  have:k=0:=i5
  subst this;rfl
 |succ n=>
  have c:=CL n k;have b:(n+1)*ch n k=(n+1-k)*ch (n+1) k:=by
   cases k with
   |zero=>rw[mN,mN];simp
   |succ k=>
    have h3:=CL n k;have a:ch (n+1) (k+1)=ch n k+ch n (k+1):=rfl;have e:(n+1)*ch (n+1) (k+1)=(n+1)*ch n k+(n+1)*ch n (k+1):=by rw[a,Nat.mul_add]
    have e2:(n+1-(k+1))*ch (n+1) (k+1)=(n+1)*ch (n+1) (k+1)-(k+1)*ch (n+1) (k+1):=Nat.sub_mul _ _ _;rw[e2,h3,e];omega
  rw[vM,c,b,vM]
theorem aeR{n k:Nat}(h:2*(k+1)<=n+1):ch n k<=ch n (k+1):=by
 have b:=Qx (n:=n) (k:=k) i5;by_cases h0:ch n k=0
 ·omega
 ·have a:ch n k*(k+1)<=ch n (k+1)*(k+1):=by rw[b];exact Nat.mul_le_mul_left _ i5
  exact Nat.le_of_mul_le_mul_right a i5
theorem Mp:∀(n k:Nat),k<=n->ch n k=ch n (n-k)
 |0,0,_=>rfl
 |n+1,0,_=>by rw[mN,Nat.sub_zero,IJ]
 |n+1,k+1,h=>by
  by_cases a:k=n
  ·subst a;rw[IJ,Nat.sub_self,mN]
  ·have c:=Mp n k i5;have b:=Mp n (k+1) i5;rw[show n+1-(k+1)=(n-(k+1))+1 by omega,ch,ch,c,b,show n-k=n-(k+1)+1 by omega];omega
theorem Fz(n:Nat):∀t a,a<=n->i0 (kj t a n)=ch (n-a) t
 |0,a,_=>by rw[mN];rfl
 |t+1,a,h=>by
  have b:∀m a,m=n-t-a->a<=n->i0 ((zM a m).flatMap λi=>(kj t (i+1) n).map (i::·))=ch (n-a) (t+1):=by
   intro m
   induction m with
   |zero=>intro a c d;rw[Es _ _ i5];rfl
   |succ m ih=>
    intro a c d;rw[yp,zd,qp,qy,Fz n t (a+1) i5,ih (a+1) i5 i5];rw[show n-a=n-(a+1)+1 by omega];rfl
  exact b _ a i4 h
def iX(n t:Int):Int:=if 0<=n/\n<=64/\0<=t/\t<=n then(min (ch n.toNat t.toNat) 4097:Nat)else 0
section
open Classical
def fb(r:Row):Nat:=r.findIdx (λx=>x !=0)
def eJ(M:aI)(r:Row):Row:=M.foldl (λout x=>cK (aJ out (fb x)) x out) r
def mw(m:aI):aI:=(bA m (eC m)).2.take (bL m)
def Mq(M:aI)(r:Row):aI:=if fb (eJ M r)<i0 (eJ M r) then mw (M++[eJ M r])else M
theorem IK{r:Row}{c:Nat}(h:c<i0 r):aJ r c=r[c]:=by rw[aJ,qd,qc h];rfl
theorem abw{r:Row}{j:Nat}(h:aJ r j≠0):fb r<i0 r:=by have a:j<i0 r:=Nat.lt_of_not_le λb=>h (by simp[aJ,qd,qM b]);rw[fb,wU];exact⟨r[j],qf a,by rw[<-IK a];simpa using h⟩
theorem UY{r:Row}(h:¬fb r<i0 r):r=aG r.length:=by rw[fb,wU]at h;refine eE i4 k8 λj a=>?_;rw[cg,IK a];have b:¬((r[j] !=0)=eR):=λc=>h ⟨r[j],qf a,c⟩;simpa using b
section
variable {n:Nat} {m M A:aI}
theorem FA(b:aQ n M){r:Row}(a:i0 r=n):i0 (eJ M r)=n:=by
 unfold eJ
 induction M generalizing r with
 |nil=>exact a
 |cons x M ih=>
  rw[zr];exact ih (λy c=>b y (qz _ c)) (by rw[bM (by rw[b x jj,a])];exact a)
theorem UZ{c:UInt8}{a t:Row}(h:i0 a=i0 t):cK c a (cK c a t)=t:=
 eE (n:=i0 t) (by rw[bM (by rw[bM h];exact h),bM h]) i4 λj _=>by
  rw[cy (by rw[bM h];exact h),cy h,pv]
theorem JH(b:aQ n m)(d:∀x∈M,Span n m x){r:Row}(e:i0 r=n):Span n m (eJ M r)↔Span n m r:=by
 unfold eJ
 induction M generalizing r with
 |nil=>exact Iff.rfl
 |cons x M ih=>
  have a:=d x jj;have c:i0 x=i0 r:=by rw[a.len b,e]
  rw[zr,ih (λy f=>d y (qz _ f)) (by rw[bM c];exact e)];refine⟨λh=>?_,λh=>a.comb b h _⟩;have:=a.comb b h (aJ r (fb x));rw[UZ c]at this;exact this
structure AU (n:Nat) (M A:aI):Prop where
 even:aQ n M
 evenA:aQ n A
 span:∀v,Span n M v↔Span n A v
 len:i0 M=bL A
 lead:∀x∈M,fb x<n
theorem adm(n:Nat):AU n [] []:=⟨λ_ h=>j7,λ_ h=>j7,λ_=>Iff.rfl,by simp[bL,kh],λ_ h=>j7⟩
theorem JI(b:aQ n m)(a:aQ n A)(h:∀v,Span n m v↔Span n A v):bL m=bL A:=by rw[ly b,ly a];congr 1;funext v;exact propext (h v)
theorem Mr(a:aQ n m):Way n m n (bL m) (bA m (eC m)).2:=by
 have h:=Em a n (qk _);cases m with
 |nil=>rw[kh]at h;rw[bL,kh];exact h
 |cons x t=>
  have b:eC (x::t)=n:=by rw[eC,bm jj];exact a _ jj
  rw[bL,b];exact h
theorem adn(B:aQ n m):aQ n (mw m)/\(∀v,Span n (mw m) v↔Span n m v)/\(mw m).length=bL m/\∀x∈mw m,fb x<n:=by
 have w:=Mr B;obtain⟨f,q,y,i,o,⟨p,E,A,F,D⟩,b⟩:=w;have a:aQ n (mw m):=λx g=>f x (zN g);refine⟨a,λv=>?_,by rw[mw,qP];omega,λx g=>?_⟩
 ·rw[<-i v];refine⟨Span.mono λr h=>zN h,Span.sub a λr h=>?_⟩;obtain⟨k,d,rfl⟩:=fa h;by_cases u:k<bL m
  ·refine Span.row a ?_;have:aA (bA m (eC m)).2 k=aA (mw m) k:=by rw[bm d,bm (by rw[mw,qP];omega)];simp[mw]
   rw[this];exact mem_row (by rw[mw,qP];omega)
  ·have:aA (bA m (eC m)).2 k=aG n:=eE (f _ h) k8 λj z=>by rw[cg];exact b k i5 d j z
   rw[this];exact .zero
 ·obtain⟨k,d,rfl⟩:=fa g;have l:k<bL m:=by rw[mw,qP]at d;omega
  have c:k<(bA m (eC m)).2.length:=i5
  have e:aA (mw m) k=aA (bA m (eC m)).2 k:=by rw[bm c,bm d];simp[mw]
  have s:=A k l k c;rw[g0 rfl]at s;have t:=abw (r:=aA (mw m) k) (j:=p k) (by rw[e,s];decide);rw[a _ g]at t;exact t
theorem Yo(h:∀v,Span n M v↔Span n A v)(e:aQ n M)(d:aQ n A){r:Row}(k:i0 r=n){rest:Row}(l:i0 rest=n)
  (g:∀m,aQ n m->(∀x∈M,Span n m x)->(Span n m rest↔Span n m r)):∀v,Span n (M++[rest]) v↔Span n (A++[r]) v:=λv=>by
 have b:=mu e l;have e2:=mu d k;have i:∀x∈M,Span n (M++[rest]) x:=λx c=>Span.row b (zm _ c);have f:∀x∈M,Span n (A++[r]) x:=λx c=>Span.mono (λy a=>zm _ a) ((h x).1 (Span.row e c));constructor
 ·refine Span.sub e2 λy a=>?_;rcases qw.1 a with a|a
  ·exact f y a
  ·rw[qx]at a;subst a;exact(g _ e2 f).2 (Span.row e2 jj)
 ·refine Span.sub b λy a=>?_;rcases qw.1 a with a|a
  ·exact Span.mono (λz j=>zm _ j) ((h y).2 (Span.row d a))
  ·rw[qx]at a;subst a;exact(g _ b i).1 (Span.row b jj)
theorem Va(h:AU n M A){r:Row}(c:i0 r=n):AU n (Mq M r) (A++[r]):=by
 have d:=FA h.even c;have i:=Yo h.span h.even h.evenA c d λm j k=>JH j k c;have e2:=mu h.evenA c;unfold Mq;split
 ·have t:=adn (mu h.even d);refine⟨t.1,e2,λv=>(t.2.1 v).trans (i v),?_,t.2.2.2⟩;rw[t.2.2.1];exact JI (mu h.even d) e2 i
 ·rename_i f;have f:=UY f;have g:Span n M r:=(JH h.even (λx e=>Span.row h.even e) c).1 (by rw[f,d];exact .zero);have b:∀v,Span n M v↔Span n (A++[r]) v:=λv=>by
   rw[h.span v];refine⟨Span.mono λx e=>zm _ e,Span.sub h.evenA λy a=>?_⟩;rcases qw.1 a with a|a
   ·exact Span.row h.evenA a
   ·rw[qx]at a;subst a;exact(h.span _).1 g
  refine⟨h.even,e2,b,?_,h.lead⟩;rw[h.len];exact JI h.evenA e2 λv=>(h.span v).symm.trans (b v)
end
def So(r:aM×Bool)(n:Int):aM×(aM×Bool):=if n<=i0 r.1 then(r.1.take n.toNat,(r.1.drop n.toNat,r.2))else([],(r.1,eR))
def aft(l:aM):Int:=l.foldl (λn x=>n*256+(x.toNat:Int)) 0
def oF(r:aM×Bool)(k:Int):Int×(aM×Bool):=(aft (So r k).1,(So r k).2)
def Li:Nat->aM×Bool->au×(aM×Bool)
 |0,r=>([],r)
 |n+1,r=>if r.2 then([],r)else((oF r 1).1::(Li n (oF r 1).2).1,(Li n (oF r 1).2).2)
def Yp(p:Int×Int×Int)(r:aM×Bool):ci×(aM×Bool):=
 let a:=oF r 1;let b:=So a.2 a.1;let c:=oF b.2 3;let d:=oF c.2 2;let e:=Li (countP p d.1).toNat d.2
 (⟨⟨b.1.toArray⟩,c.1,d.1,e.1⟩,e.2)
def Sq(p:Int×Int×Int):Nat->aM×Bool->List ci×(aM×Bool)
 |0,r=>([],r)
 |n+1,r=>if r.2 then([],r)else((Yp p r).1::(Sq p n (Yp p r).2).1,(Sq p n (Yp p r).2).2)
def Sr(b:aM):aw×(aM×Bool):=
 let a:=oF (b,eS) 4;let c:=oF a.2 4;let k:=oF c.2 1;let h:=oF k.2 1;let z:=oF h.2 1;let x:=oF z.2 1;let n:=oF x.2 1;let d:=Li n.1.toNat n.2;let o:=oF d.2 1;let e:=Sq (k.1,h.1,z.1) o.1.toNat o.2
 (⟨a.1,c.1,(k.1,h.1,z.1),x.1,d.1,e.1⟩,e.2)
def ado(b:aM):Option aw:=if(Sr b).2.2||(decide (i0 b=0)||!decide (b=fX (Sr b).1))then eH else dB (Sr b).1
abbrev fi:=au×Row
def cG(x:Int->UInt8):au->UInt8
 |[]=>0
 |c::l=>x c^^^cG x l
theorem kl{x y:Int->UInt8}:∀{l:au},(∀c∈l,x c=y c)->cG x l=cG y l
 |[],_=>rfl
 |c::l,h=>by rw[cG,cG,h c jj,kl λd a=>h d m6]
theorem EO(x:Int->UInt8)(p:Int->Bool):∀l,cG x l=cG x (l.filter p)^^^cG x (l.filter λc=>!p c)
 |[]=>by simp[cG]
 |c::l=>by
  rw[cG,EO x p l];cases h:p c<;>simp only[zl,h,yb,Bool.not_false,if_true,zb,if_false,cG]<;>ac_rfl
theorem uD(x:Int->UInt8){c:Int}:∀{l:au},l.Nodup->c∈l->cG x l=x c^^^cG x (l.filter λd=>!decide (d=c))
 |[],_,h=>j7
 |d::l,hd,h=>by
  rw[yl]at hd;rcases qX.1 h with rfl|h
  ·have:l.filter (λd=>!decide (d=c))=l:=wD.2 λe f=>by
    have:e≠c:=λa=>hd.1 (a▸f);simp[this]
   rw[zl];simp only[decide_true,yb,zb,if_false];rw[this,cG]
  ·have b:d≠c:=λa=>hd.1 (a▸h);rw[zl,g0 n5,cG,cG,uD x hd.2 h];ac_rfl
theorem Mt(x y:Int->UInt8):∀l,cG (λc=>x c^^^y c) l=cG x l^^^cG y l
 |[]=>by simp[cG]
 |c::l=>by rw[cG,cG,cG,Mt x y l];ac_rfl
theorem CM:∀{x:Int->UInt8} {l:au},(∀c∈l,x c=0)->cG x l=0
 |_,[],_=>rfl
 |x,c::l,h=>by rw[cG,h c jj,CM λd a=>h d m6];rfl
def cH(V:aI)(a:Row)(l:au):Row:=l.foldl (λa c=>cK 1 (aA V c.toNat) a) a
theorem jL{V:aI}{m:Nat}:∀{l:au} {a:Row},i0 a=m->(∀c∈l,i0 (aA V c.toNat)=m)->i0 (cH V a l)=m
 |[],a,h,_=>h
 |c::l,a,h,hv=>by
  rw[cH,zr];exact jL (l:=l) (by rw[bM (by rw[hv c jj,h])];exact h) λd b=>hv d n5
theorem FB{V:aI}{m:Nat}(j:Nat):∀{l:au} {a:Row},i0 a=m->(∀c∈l,i0 (aA V c.toNat)=m)->aJ (cH V a l) j=aJ a j^^^cG (λc=>aJ (aA V c.toNat) j) l
 |[],a,_,_=>by simp[cH,cG]
 |c::l,a,h,hv=>by
  have b:i0 (aA V c.toNat)=i0 a:=by rw[hv c jj,h]
  rw[cH,zr];have:=FB (V:=V) j (l:=l) (a:=cK 1 (aA V c.toNat) a) (by rw[bM b];exact h) λd e=>hv d p5;rw[cH]at this;rw[this,cy b,Gf.one_mul,cG];ac_rfl
def Sat(t:UInt8)(k:Nat)(x:Int->UInt8)(e:fi):Prop:=cG x e.1=Gf.mul t (aJ e.2 k)
structure iI (n w:Nat) (e:fi):Prop where
 cM:∀c∈e.1,0<=c/\c<(n:Int)
 nodup:e.1.Nodup
 len:i0 e.2=w
def kn(known:List Bool)(c:Int):Bool:=known.getD c.toNat eS
def ft(known:List Bool)(vals:aI)(e:fi):fi:=(e.1.filter λc=>!kn known c,cH vals e.2 (e.1.filter λc=>kn known c))
structure jM (n w:Nat) (l:List fi) (known:List Bool) (vals:aI):Prop where
 klen:i0 known=n
 vlen:i0 vals=n
 row:∀c:Nat,c<n->i0 (aA vals c)=if known.getD c eS then w else 0
 sound:∀t k x,k<w->(∀e∈l,Sat t k x e)->∀c:Int,0<=c->c<(n:Int)->kn known c=eR->x c=Gf.mul t (aJ (aA vals c.toNat) k)
section
variable {n w:Nat} {l:List fi} {known:List Bool} {vals:aI}
theorem Ss(n w:Nat)(l:List fi):jM n w l (qh n eS) (qh n []):=by
 refine⟨jj,jj,λc b=>?_,λt k x e d c h0 f a=>?_⟩
 ·rw[bm kt];simp[qd,b]
 ·exfalso;rw[kn,qd,List.getElem?_replicate]at a;split at a<;>simp at a
theorem jM.CN(h:jM n w l known vals){c:Int}(b:0<=c)(d:c<(n:Int))(a:kn known c=eR):i0 (aA vals c.toNat)=w:=by have:=h.row c.toNat i5;rw[kn]at a;rw[a]at this;simpa using this
theorem jM.Ad(h:jM n w l known vals){e:fi}(b:iI n w e):iI n w (ft known vals e):=
 ⟨λc d=>b.cM c (qC.1 d).1,b.nodup.filter _,jL b.len λc d=>by
  have a:=qC.1 d;exact h.CN (b.cM c a.1).1 (b.cM c a.1).2 a.2⟩
theorem jM.Et(h:jM n w l known vals){e:fi}(d:iI n w e){t:UInt8}{k:Nat}{x:Int->UInt8}(j:∀c:Int,0<=c->c<(n:Int)->kn known c=eR->x c=Gf.mul t (aJ (aA vals c.toNat) k)):
  Sat t k x (ft known vals e)↔Sat t k x e:=by
 have f:∀c∈e.1.filter λc=>kn known c,i0 (aA vals c.toNat)=w:=λc g=>by
  have b:=qC.1 g;exact h.CN (d.cM c b.1).1 (d.cM c b.1).2 b.2
 have o:cG x (e.1.filter λc=>kn known c)=Gf.mul t (cG (λc=>aJ (aA vals c.toNat) k) (e.1.filter λc=>kn known c)):=by
  rw[kl (y:=λc=>Gf.mul t (aJ (aA vals c.toNat) k)) λc g=>j c (d.cM c (qC.1 g).1).1 (d.cM c (qC.1 g).1).2 (qC.1 g).2];generalize e.1.filter (λc=>kn known c)=m
  induction m with
  |nil=>simp[cG,Gf.mul_zero]
  |cons a m ih=>rw[cG,cG,Gf.jY,ih]
 unfold Sat ft;dsimp only;rw[FB k d.len f,Gf.jY,<-o,EO x (λc=>kn known c) e.1];constructor
 ·intro i;rw[i];rw[vo,pv]
 ·intro i;rw[<-i];rw[vo (cG x (e.1.filter λc=>kn known c)),pv]
theorem adp{known:List Bool}{c d:Int}(b:0<=c)(a:0<=d)(e:c<(i0 known:Int)):kn (known.set c.toNat eR) d=(decide (d=c)||kn known d):=by
 unfold kn;rw[qd,qV];by_cases h:d=c
 ·subst h;rw[g0 i4,g0 i5];simp
 ·rw[g9 i5];simp[h]
theorem Vb(h:jM n w l known vals)(p:∀e∈l,iI n w e){e:fi}(f:e∈l){c:Int}(m:(ft known vals e).1=[c]):jM n w l (known.set c.toNat eR) (vals.set c.toNat (ft known vals e).2):=by
 have b:=h.Ad (p e f);have g:=b.cM c (by rw[m];simp);have r:=h.vlen;have j:=h.klen;refine⟨by simp[j],by simp[r],λd s=>?_,λt k x o i d h0 u q=>?_⟩
 ·rw[kQ,qd,qV];by_cases a:c.toNat=d
  ·subst a;simp[show c.toNat<i0 known by omega,b.len]
  ·rw[g9 a,g9 a,h.row d s,qd]
 ·rw[adp g.1 h0 i5]at q;rw[kQ];by_cases a:d=c
  ·subst a;rw[g0 rfl];have:=(h.Et (p e f) (h.sound t k x o i)).2 (i e f);unfold Sat at this;rw[m]at this;simpa[cG]using this
  ·rw[g9 i5];exact h.sound t k x o i d h0 u (by simpa[a]using q)
theorem CO(h:jM n w l known vals)(e:fi):∀c∈(ft known vals e).1,kn known c=eS:=λc a=>by
 have:=(qC.1 a).2;simpa using this
def aV(known:List Bool)(vals:aI)(l:List fi):List fi:=(l.map (ft known vals)).filter λe=>!e.1.isEmpty
def km(known:List Bool)(vals:aI)(l:List fi):Bool:=(l.map (ft known vals)).any λe=>e.1.isEmpty&&e.2.any (· !=0)
theorem Mu(h:jM n w l known vals)(i:∀e∈l,iI n w e)(f:km known vals l=eS){t:UInt8}{k:Nat}{x:Int->UInt8}(o:k<w):
  (∀e∈l,Sat t k x e)↔(∀c:Int,0<=c->c<(n:Int)->kn known c=eR->x c=Gf.mul t (aJ (aA vals c.toNat) k))/\∀e∈aV known vals l,Sat t k x e:=by
 constructor
 ·intro g;refine⟨h.sound t k x o g,λe b=>?_⟩;obtain⟨m,d,rfl⟩:=qo.1 (qC.1 b).1;exact(h.Et (i m d) (h.sound t k x o g)).2 (g m d)
 ·rintro⟨p,q⟩ e b;refine(h.Et (i e b) p).1 ?_;by_cases a:(ft known vals e).1=[]
  ·unfold Sat;rw[a,cG];have j:((ft known vals e).1.isEmpty&&(ft known vals e).2.any (· !=0))=eS:=by have:=wL.1 f _ (List.mem_map_of_mem b);simpa using this
   rw[a]at j;have r:∀y∈(ft known vals e).2,y=0:=o5
   have h3:=(h.Ad (i e b)).len;have:aJ (ft known vals e).2 k=0:=by rw[aJ,qd,qc i5];exact r _ (qf _)
   rw[this,Gf.mul_zero]
  ·refine q _ (qC.2 ⟨List.mem_map_of_mem b,?_⟩);simpa using a
theorem Su(h:jM n w l known vals)(j:∀e∈l,iI n w e)(d:km known vals l=eR):∃k,k<w/\∀x:Int->UInt8,¬∀e∈l,Sat 1 k x e:=by
 obtain⟨y,p,f⟩:=zY.1 d;obtain⟨e,b,rfl⟩:=qo.1 p;rw[qu]at f;obtain⟨z,m,a⟩:=zY.1 f.2;obtain⟨k,o,rfl⟩:=qD m;have h3:=(h.Ad (j e b)).len;refine⟨k,i5,λx i=>?_⟩;have c:=(h.Et (j e b) (h.sound 1 k x i5 i)).2 (i e b);unfold Sat at c;have g:(ft known vals e).1=[]:=by simpa using f.1
 rw[g,cG,Gf.one_mul,aJ,qd,qc o]at c;simp at a;exact a c.symm
end
def jU(op:List Bool)(c:Int):Bool:=op.getD c.toNat eS
def cO(op:List Bool)(r:au):au:=r.filter (jU op)
def md(rows:bP)(op us:List Bool)(i:Nat):Bool:=!(us.getD i eS)&&i0 (cO op (rows.getD i []))==1
def me(rows:bP)(op us:List Bool):Option Nat:=(qt rows.length).find? (md rows op us)
def fc(rows:bP)(op:List Bool)(i:Nat):Int:=(cO op (rows.getD i [])).getLast?.getD 0
def ko(a:au)(r:au):au:=r.foldl (λa c=>a.set c.toNat (a.getD c.toNat 0+1)) a
def kS(g:Nat->au->au)(rows:bP)(us:List Bool)(a:au):Nat->au
 |0=>a
 |k+1=>if us.getD k eS then kS g rows us a k else ko (kS g rows us a k) (g k (rows.getD k []))
def iC(op:List Bool)(a:au):Nat->Int
 |0=>-1
 |k+1=>if op.getD k eS&&(decide (iC op a k<0)||decide (a.getD k 0>a.getD (iC op a k).toNat 0))then(k:Int)else iC op a k
def gP(rows:bP)(op us:List Bool):Int:=iC op (kS (λ_ r=>r) rows us (qh op.length 0) rows.length) op.length
structure Pl where
 steps:List (Int×Int)
 dead:au
 used:List Bool
def cu(rows:bP):Nat->List Bool->List Bool->Pl
 |0,_,us=>⟨[],[],us⟩
 |k+1,op,us=>
  if op.contains eR then
   match me rows op us with
   |some i=>let r:=cu rows k (op.set (fc rows op i).toNat eS) (us.set i eR);⟨((i:Int),fc rows op i)::r.steps,r.dead,r.used⟩
   |none=>let r:=cu rows k (op.set (gP rows op us).toNat eS) us;⟨r.steps,gP rows op us::r.dead,r.used⟩
  else⟨[],[],us⟩
def fO(us:List Bool):Nat->au
 |0=>[]
 |k+1=>if us.getD k eS then fO us k else fO us k++[(k:Int)]
def dW(n:Nat)(rows:bP):Pl:=cu rows n (qh n eR) (qh rows.length eS)
theorem JJ{P:Nat->Bool}{n:Nat}(h:∀j,j<n->P j=eS):(qt n).find? P=eH:=by rw[z7];intro x a;rw[qA]at a;simp[h x a]
theorem Vd{P:Nat->Bool}{n k:Nat}(e:k<n)(h:∀j,j<k->P j=eS)(c:P k=eR):(qt n).find? P=dB k:=by
 rw[List.find?_eq_some_iff_append];refine⟨c,qt k,zM (k+1) (n-k-1),?_,λa b=>?_⟩
 ·rw[yW,yW];have d:n=k+(n-k):=i5
  have e2:n-k=(n-k-1)+1:=i5
  conv=>lhs;rw[d,<-List.range'_append_1 (s:=0) (m:=k) (n:=n-k)]
  rw[we]
  conv=>lhs;rw[e2,yp]
 ·rw[qA]at b;simp[h a b]
theorem OC(a r:au)(c:Int):ko a (r++[c])=(ko a r).set c.toNat ((ko a r).getD c.toNat 0+1):=by simp[ko]
theorem BO(b r:au):i0 (ko b r)=i0 b:=by
 induction r generalizing b with
 |nil=>rfl
 |cons a t ih=>simp only[ko,zr]at*;rw[ih];simp
theorem AV(g:Nat->au->au)(rows:bP)(us:List Bool)(a:au):∀k,i0 (kS g rows us a k)=i0 a
 |0=>rfl
 |k+1=>by
  unfold kS;split
  ·exact AV g rows us a k
  ·rw[BO,AV g rows us a k]
theorem CQ{m:Int}:∀{r b:au},(∀x∈b,0<=x/\x<=m)->∀x∈ko b r,0<=x/\x<=m+i0 r
 |[],b,h,x,hx=>by have:=h x hx;simp;omega
 |a::t,b,h,x,hx=>by
  have d:∀y∈b.set a.toNat (b.getD a.toNat 0+1),0<=y/\y<=m+1:=by
   intro y c;rcases List.mem_or_eq_of_mem_set c with c|c
   ·have:=h y c;omega
   ·subst c;rw[qd];cases hc:b[a.toNat]? with
    |none=>
     rw[List.getElem?_eq_none_iff]at hc;rw[List.set_eq_of_length_le hc]at c;have:=h _ c;rw[qd,qM hc]at this;simp at this⊢;omega
    |some z=>have:=h z (List.mem_of_getElem? hc);simp;omega
  have:=CQ (r:=t) d x hx;simp only[zc];omega
theorem Mw(g:Nat->au->au){rows:bP}{us:List Bool}{n:Nat}(a:∀k,i0 (g k (rows.getD k []))<=64):∀k,∀x∈kS g rows us (qh n 0) k,0<=x/\x<=64*k
 |0,x,hx=>by
  have:=List.eq_of_mem_replicate hx;subst this;simp
 |k+1,x,hx=>by
  unfold kS at hx;split at hx
  ·have:=Mw g a k x hx;omega
  ·have:=CQ (Mw g a k) x hx;have:=a k;omega
theorem JK(op:List Bool)(a:au):∀k,(iC op a k=-1/\∀j,j<k->op.getD j eS=eS)∨(0<=iC op a k/\iC op a k<k/\op.getD (iC op a k).toNat eS=eR)
 |0=>.inl ⟨i4,λj c=>i5⟩
 |k+1=>by
  unfold iC;split
  ·rename_i b;simp only[qu]at b;exact .inr ⟨i5,i5,by rw[qj];exact b.1⟩
  ·rename_i b;rcases JK op a k with⟨e,h⟩|⟨h1,h2,h3⟩
   ·refine .inl ⟨e,λj c=>?_⟩;rcases zi.1 c with c|rfl
    ·exact h j c
    ·by_cases d:op.getD j eS=eR
     ·exact absurd (by rw[d,e];rfl) b
     ·simpa using d
   ·exact .inr ⟨h1,i5,h3⟩
theorem CR{op:List Bool}(h:op.contains eR=eR):∃j,j<i0 op/\op.getD j eS=eR:=by simp only[List.contains_iff_mem]at h;obtain⟨j,a,e⟩:=qD h;exact⟨j,a,by rw[qd,qc a];exact e⟩
theorem rq{rows:bP}{op us:List Bool}(h:op.contains eR=eR):0<=gP rows op us/\gP rows op us<i0 op/\op.getD (gP rows op us).toNat eS=eR:=by
 obtain⟨j,a,e⟩:=CR h;rcases JK op (kS (λ_ r=>r) rows us (qh op.length 0) rows.length) op.length with⟨_,h2⟩|h2
 ·rw[h2 j a]at e;cases e
 ·exact h2
theorem sq{rows:bP}{op us:List Bool}{i:Nat}(h:me rows op us=dB i):i<i0 rows/\md rows op us i=eR:=by have b:=List.mem_of_find?_eq_some h;have a:=List.find?_some h;exact⟨qA.1 b,a⟩
theorem AW{rows:bP}{op us:List Bool}{i:Nat}(d:md rows op us i=eR):cO op (rows.getD i [])=[fc rows op i]/\fc rows op i∈rows.getD i []/\jU op (fc rows op i)=eR:=by
 simp only[md,qu,beq_iff_eq]at d;obtain⟨c,b⟩:=List.length_eq_one_iff.1 d.2;have e:fc rows op i=c:=by unfold fc;rw[b];rfl
 have a:c∈cO op (rows.getD i []):=by rw[b];simp
 rw[cO,qC]at a;rw[e];exact⟨b,a.1,a.2⟩
theorem kC{op:List Bool}{j:Nat}(h:op.getD j eS=eR):(op.set j eS).count eR+1=op.count eR:=by
 have a:j<i0 op:=by
  by_cases a:j<i0 op
  ·exact a
  ·rw[qd,qM i5]at h;cases h
 have e:op[j]=eR:=by rw[qd,qc a]at h;exact h
 have b:0<op.count eR:=List.count_pos_iff.2 (e▸qf a);rw[List.count_set a,e];simp;omega
theorem Mx{op:List Bool}(h:op.count eR=0):op.contains eR=eS:=by rw[List.count_eq_zero]at h;simpa using h
theorem uE{rows:bP}{op us:List Bool}(h:op.contains eR=eS):∀k,cu rows k op us=⟨[],[],us⟩
 |0=>rfl
 |k+1=>by unfold cu;rw[h];rfl
theorem nS{rows:bP}{op us:List Bool}{i k:Nat}(h:op.contains eR=eR)(a:me rows op us=dB i):
  cu rows (k+1) op us=⟨((i:Int),fc rows op i)::(cu rows k (op.set (fc rows op i).toNat eS) (us.set i eR)).steps,(cu rows k (op.set (fc rows op i).toNat eS) (us.set i eR)).dead,(cu rows k (op.set (fc rows op i).toNat eS) (us.set i eR)).used⟩:=by
 rw[cu,h,a];rfl
theorem nT{rows:bP}{op us:List Bool}{k:Nat}(h:op.contains eR=eR)(a:me rows op us=eH):
  cu rows (k+1) op us=⟨(cu rows k (op.set (gP rows op us).toNat eS) us).steps,gP rows op us::(cu rows k (op.set (gP rows op us).toNat eS) us).dead,(cu rows k (op.set (gP rows op us).toNat eS) us).used⟩:=by
 rw[cu,h,a];rfl
theorem rN(rows:bP):∀k op us,(cu rows k op us).used.length=i0 us
 |0,_,_=>rfl
 |k+1,op,us=>by
  unfold cu;split
  ·split
   ·show(cu rows k _ _).used.length=_;rw[rN];simp
   ·show(cu rows k _ _).used.length=_;rw[rN]
  ·rfl
theorem Eu(us:List Bool):∀k,i0 (fO us k)<=k
 |0=>by simp[fO]
 |k+1=>by
  have:=Eu us k;unfold fO;split<;>simp<;>omega
theorem sa{op:List Bool}{f:Nat}(h:op.count eR=f+1):op.contains eR=eR:=by
 have:0<op.count eR:=i5
 rw[List.count_pos_iff]at this;simpa using this
theorem OD{P:Nat->Bool}{n j:Nat}(a:j<n)(h:P j=eR):∃i,(qt n).find? P=dB i:=by
 cases hf:(qt n).find? P with
 |some i=>exact⟨i,i4⟩
 |none=>
  rw[z7]at hf;exact absurd h (hf j (qA.2 a))
theorem ju(l:List Bool)(i j:Nat)(x:Bool):(l.set i x).getD j eS=if i=j/\j<i0 l then x else l.getD j eS:=by
 simp only[qd,qV];by_cases h:i=j
 ·subst h;by_cases a:i<i0 l<;>simp[a]
 ·simp[h]
def tE(rows:bP)(op us:List Bool):Prop:=∀i,us.getD i eS=eR->cO op (rows.getD i [])=[]
theorem mO{op:List Bool}{c d:Int}(h:jU (op.set d.toNat eS) c=eR):jU op c=eR/\c.toNat≠d.toNat:=by
 unfold jU at*;rw[ju]at h;by_cases e:d.toNat=c.toNat
 ·rw[g0]at h
  ·cases h
  ·refine⟨e,?_⟩;by_cases b:c.toNat<i0 op
   ·exact b
   ·rw[g9 λa=>b a.2,qd,qM i5]at h;cases h
 ·rw[g9 λa=>e a.1]at h;exact⟨h,λa=>e a.symm⟩
theorem Ve{rows:bP}{op us:List Bool}{i:Nat}(k:tE rows op us)(g:md rows op us i=eR):tE rows (op.set (fc rows op i).toNat eS) (us.set i eR):=by
 obtain⟨m,n,h3⟩:=AW g;intro j f;rw[ju]at f;rw[cO,wT];intro c h b;obtain⟨b,d⟩:=mO b;have a:c∈cO op (rows.getD j []):=by rw[cO,qC];exact⟨h,b⟩
 by_cases e:i=j
 ·subst e;rw[m]at a;simp at a;exact d (by rw[a])
 ·rw[g9 λl=>e l.1]at f;rw[k j f]at a;simp at a
theorem CS(n j:Nat):(qh n eS).getD j eS=eS:=by
 rw[qd];by_cases h:j<n
 ·rw[qc j6];simp
 ·rw[qM j6];rfl
theorem adq{rows:bP}{r:au}(h:r∈rows):∃j,j<i0 rows/\rows.getD j []=r:=by obtain⟨j,a,e⟩:=qD h;exact⟨j,a,by rw[qd,qc a];exact e⟩
def other(m i:Nat):Nat:=if i<m then i else i+1
def rv(rows:bP):(Int->Prop)->(Int->Prop)->List (Int×Int)->Prop
 |_,_,[]=>True
 |D,U,(i,c)::t=>(0<=i/\i<i0 rows)/\¬U i/\¬D c/\c∈rows.getD i.toNat []/\(∀a∈rows.getD i.toNat [],a≠c->D a)/\rv rows (λx=>D x∨x=c) (λx=>U x∨x=i) t
def afu(op:List Bool)(c:Int):Prop:=0<=c/\jU op c=eR
theorem Vf{op:List Bool}{c:Int}(h:jU op c=eR):c.toNat<i0 op:=by
 by_cases a:c.toNat<i0 op
 ·exact a
 ·unfold jU at h;rw[qd,qM i5]at h;cases h
theorem Qy{op:List Bool}{c d:Int}(b:0<=c)(f:0<=d):jU op c=eR->c≠d->jU (op.set d.toNat eS) c=eR:=by intro h a;unfold jU;rw[ju,g9 λe=>a i5];exact h
theorem su{op:List Bool}{d:Int}(h:jU op d=eR):jU (op.set d.toNat eS) d=eS:=by unfold jU;rw[ju,g0 ⟨i4,Vf h⟩]
structure aeS (rows:bP) (op us:List Bool) (r:Pl):Prop where
 cM:i0 r.steps+i0 r.dead=op.count eR
 used:r.used.count eR=us.count eR+i0 r.steps
 keepU:∀i,us.getD i eS=eR->r.used.getD i eS=eR
 dead:∀c∈r.dead,afu op c
 deadN:r.dead.Nodup
 good:∀D U:Int->Prop,(∀c:Int,0<=c->c<i0 op->(D c↔jU op c=eS∨c∈r.dead))->(∀i:Nat,i<i0 rows->(U i↔us.getD i eS=eR∨r.used.getD i eS=eS))->rv rows D U r.steps
theorem Yq{us:List Bool}{i:Nat}(h:us.getD i eS=eS)(a:i<i0 us):(us.set i eR).count eR=us.count eR+1:=by
 have e:us[i]=eS:=by rw[qd,qc a]at h;exact h
 rw[List.count_set a,e];simp
theorem My{rows:bP}{n:Nat}(b:∀r∈rows,∀c∈r,0<=c/\c<n):∀k op us,i0 op=n->i0 us=i0 rows->op.count eR=k->aeS rows op us (cu rows k op us)
 |0,op,us,hl,hul,hc=>⟨by simp[cu,hc],by simp[cu],λi h=>h,λc h=>by simp[cu]at h,by simp[cu],λ_ _ _ _=>trivial⟩
 |k+1,op,us,hl,hul,hc=>by
  have q:=sa hc;cases hst:me rows op us with
  |some i=>
   obtain⟨l,u⟩:=sq hst;obtain⟨L,K,h3⟩:=AW u;have f:rows.getD i []=rows[i]:=by rw[qd,qc l];rfl
   have x:=b _ (qf l) _ (f▸K);have B:=kC (op:=op) (j:=(fc rows op i).toNat) h3;have v:us.getD i eS=eS:=by simp only[md,qu,wW]at u;exact u.1
   have M:=Yq v i5;have a:=My b k (op.set (fc rows op i).toNat eS) (us.set i eR) (by simp[hl]) (by simp[hul]) i5;rw[nS q hst];generalize cu rows k (op.set (fc rows op i).toNat eS) (us.set i eR)=r at a;generalize J:fc rows op i=c at*;have F:r.used.getD i eS=eR:=a.keepU i (by rw[ju,g0 ⟨i4,i5⟩]);have p:c∉r.dead:=λh=>by
    have:=(a.dead c h).2;rw[su h3]at this;cases this
   refine⟨by simp only[zc];have:=a.cM;omega,by simp only[zc];have:=a.used;omega,λj E=>a.keepU j (by rw[ju];split;rfl;exact E),λd t=>⟨(a.dead d t).1,(mO (a.dead d t).2).1⟩,a.deadN,λD U w y=>?_⟩;have o:rows.getD ((i:Int)).toNat []=rows.getD i []:=by rw[qj]
   refine⟨i5,?_,?_,by rw[o];exact K,?_,?_⟩
   ·rw[y i l,v,F];simp
   ·rw[w c x.1 i5,h3];simp[p]
   ·intro G s z;rw[o]at s;have A:=b _ (qf l) _ (f▸s);refine(w G A.1 i5).2 (.inl ?_);cases ho:jU op G with
    |false=>rfl
    |true=>
     have:G∈cO op (rows.getD i []):=by rw[cO,qC];exact⟨s,ho⟩
     rw[L]at this;simp at this;exact absurd this z
   ·refine a.good _ _ (λd g m=>?_) (λj E=>?_)
    ·simp only[q9]at m;rw[w d g m];by_cases e:d=c
     ·subst e;simp[su h3]
     ·cases ho:jU op d with
      |true=>rw[Qy g x.1 ho e];simp[e]
      |false=>
       have:jU (op.set c.toNat eS) d=eS:=by
        cases hh:jU (op.set c.toNat eS) d with
        |false=>rfl
        |true=>rw[(mO hh).1]at ho;cases ho
       rw[this];simp
    ·rw[y j E,ju];by_cases e:i=j
     ·subst e;simp[hul,l]
     ·have e2:¬((j:Int)=(i:Int)):=λh=>e i5;simp[e,e2]
  |none=>
   obtain⟨H,N,I⟩:=rq (rows:=rows) (us:=us) q;have B:=kC (op:=op) (j:=(gP rows op us).toNat) I;have a:=My b k (op.set (gP rows op us).toNat eS) us (by simp[hl]) hul i5;rw[nT q hst];generalize cu rows k (op.set (gP rows op us).toNat eS) us=r at a;generalize gP rows op us=c at*;have h3:jU op c=eR:=I;have p:c∉r.dead:=λh=>by
    have:=(a.dead c h).2;rw[su h3]at this;cases this
   refine⟨by simp only[zc];have:=a.cM;omega,a.used,a.keepU,λd t=>?_,by simp only[yl];exact⟨p,a.deadN⟩,λD U w y=>?_⟩
   ·rcases qX.1 t with rfl|t
    ·exact⟨H,h3⟩
    ·exact⟨(a.dead d t).1,(mO (a.dead d t).2).1⟩
   ·refine a.good D U (λd g m=>?_) y;simp only[q9]at m;rw[w d g m];by_cases e:d=c
    ·subst e;simp[su h3]
    ·have:jU (op.set c.toNat eS) d=jU op d:=by
      cases ho:jU op d with
      |true=>exact Qy g H ho e
      |false=>
       cases hh:jU (op.set c.toNat eS) d with
       |false=>rfl
       |true=>rw[(mO hh).1]at ho;cases ho
     rw[this];simp[e]
theorem AX(us:List Bool):∀k (c:Int),c∈fO us k↔∃j:Nat,c=j/\j<k/\us.getD j eS=eS
 |0,c=>by simp[fO]
 |k+1,c=>by
  have e:=AX us k c;unfold fO;cases h:us.getD k eS with
  |true=>
   simp only[if_true];rw[e];constructor
   ·rintro⟨j,a,b,d⟩;exact⟨j,a,i5,d⟩
   ·rintro⟨j,a,b,d⟩;refine⟨j,a,?_,d⟩;rcases zi.1 b with b|rfl
    ·exact b
    ·rw[h]at d;cases d
  |false=>
   simp only[zb,if_false,qw,qx];rw[e];constructor
   ·rintro(⟨j,a,b,d⟩|rfl)
    ·exact⟨j,a,i5,d⟩
    ·exact⟨k,i4,i5,h⟩
   ·rintro⟨j,a,b,d⟩;rcases zi.1 b with b|rfl
    ·exact .inl ⟨j,a,b,d⟩
    ·exact .inr a
theorem Mz(us:List Bool):∀k,k<=i0 us->i0 (fO us k)+(us.take k).count eR=k
 |0,_=>by simp[fO]
 |k+1,hk=>by
  have a:=Mz us k i5;have e:us.getD k eS=us[k]:=by rw[qd,qc i5];rfl
  unfold fO;rw[zF i5,List.count_append,e];cases us[k]<;>simp<;>omega
theorem tG{rows:bP}{n:Nat}(a:∀r∈rows,∀c∈r,0<=c/\c<n):
  (dW n rows).steps.length+(dW n rows).dead.length=n/\(dW n rows).steps.length+i0 (fO (dW n rows).used rows.length)=i0 rows/\(∀c∈(dW n rows).dead,0<=c/\c<n)/\(dW n rows).dead.Nodup/\
  (∀c∈fO (dW n rows).used rows.length,0<=c/\c<i0 rows)/\rv rows (·∈(dW n rows).dead) (·∈fO (dW n rows).used rows.length) (dW n rows).steps:=by
 have h:=My a n (qh n eR) (qh rows.length eS) jj jj jj;have p:(dW n rows).used.length=i0 rows:=by unfold dW;rw[rN];simp
 have e:=Mz (dW n rows).used rows.length i5;rw[List.take_of_length_le i5]at e;refine⟨by have:=h.cM;simpa[dW]using this,?_,λc b=>?_,h.deadN,λc b=>?_,?_⟩
 ·have:=h.used;have o:(qh rows.length eS).count eR=0:=by simp[List.count_replicate]
  rw[o]at this;unfold dW at*;omega
 ·obtain⟨h0,l⟩:=h.dead c b;have:=Vf l;simp at this;omega
 ·obtain⟨j,rfl,g,_⟩:=(AX _ _ _).1 b;omega
 ·refine h.good _ _ (λc k d=>?_) (λi m=>?_)
  ·have:jU (qh n eR) c=eR:=by simp at d;unfold jU;rw[qd,qc i9];simp
   rw[this];simp[dW]
  ·rw[CS,AX];constructor
   ·rintro⟨j,g,_,f⟩;have:j=i:=i5
    subst this;exact .inr f
   ·rintro(hh|hh)
    ·cases hh
    ·exact⟨i,i4,m,hh⟩
theorem CT{rows:bP}:∀k op us i,(cu rows k op us).used.getD i eS=eR->us.getD i eS=eR∨∃c,((i:Int),c)∈(cu rows k op us).steps
 |0,_,_,_,h=>.inl h
 |k+1,op,us,i,h=>by
  by_cases a:op.contains eR=eR
  ·cases hst:me rows op us with
   |some j=>
    rw[nS a hst]at h⊢;dsimp only at h⊢;rcases CT k _ _ i h with h1|⟨c,hc⟩
    ·rw[ju]at h1;by_cases b:j=i
     ·subst b;exact .inr ⟨_,qF⟩
     ·rw[g9 λd=>b d.1]at h1;exact .inl h1
    ·exact .inr ⟨c,qz _ hc⟩
   |none=>
    rw[nT a hst]at h⊢;exact CT k _ _ i h
  ·have a:op.contains eR=eS:=j9
   rw[uE a]at h⊢;exact .inl h
theorem CV{rows:bP}{n:Nat}(a:∀r∈rows,∀c∈r,0<=c/\c<(n:Int)):∀k op us,i0 op=n->op.count eR=k->∀c:Nat,op.getD c eS=eR->
  (c:Int)∈(cu rows k op us).dead∨∃i,(i,(c:Int))∈(cu rows k op us).steps
 |0,op,us,hl,hc,c,h=>by
  have:=Mx hc;exfalso;have g:c<i0 op:=by
   by_cases l:c<i0 op
   ·exact l
   ·rw[qd,qM i5]at h;cases h
  rw[List.count_eq_zero]at hc;rw[qd,qc g]at h;exact hc (h▸qf g)
 |k+1,op,us,hl,hc,c,h=>by
  have b:=sa hc;cases hst:me rows op us with
  |some j=>
   rw[nS b hst];obtain⟨f,o⟩:=sq hst;obtain⟨u,s,h3⟩:=AW o;have d:rows.getD j []=rows[j]:=by rw[qd,qc f];rfl
   have q:=a _ (qf f) _ (d▸s);have m:=kC (op:=op) (j:=(fc rows op j).toNat) h3;dsimp only;by_cases e:(fc rows op j).toNat=c
   ·exact .inr ⟨j,by rw[show((c:Nat):Int)=fc rows op j by omega];exact qF⟩
   ·rcases CV a k (op.set (fc rows op j).toNat eS) (us.set j eR) (by simp[hl]) i5 c (by rw[ju,g9 λl=>e l.1];exact h)with h5|⟨i,h5⟩
    ·exact .inl h5
    ·exact .inr ⟨i,qz _ h5⟩
  |none=>
   rw[nT b hst];obtain⟨t,v,p⟩:=rq (rows:=rows) (us:=us) b;have m:=kC (op:=op) (j:=(gP rows op us).toNat) p;dsimp only;by_cases e:(gP rows op us).toNat=c
   ·exact .inl (by rw[show((c:Nat):Int)=gP rows op us by omega];exact qF)
   ·rcases CV a k (op.set (gP rows op us).toNat eS) us (by simp[hl]) i5 c (by rw[ju,g9 λl=>e l.1];exact h)with h5|⟨i,h5⟩
    ·exact .inl (qz _ h5)
    ·exact .inr ⟨i,h5⟩
theorem Sv{rows:bP}{op us:List Bool}{c:Int}(h:tE rows op us):tE rows (op.set c.toNat eS) us:=λi a=>by
 have:=h i a;rw[cO,wT]at this⊢;exactλd e b=>this d e (mO b).1
theorem AY{rows:bP}{c:Int}(l:[c]∈rows):∀k op us,tE rows op us->(∀d:Int,d<0->d∉(cu rows k op us).dead)->0<=c->c∉(cu rows k op us).dead
 |0,_,_,_,_,_=>by simp[cu]
 |k+1,op,us,hu,_,h0=>by
  by_cases a:op.contains eR=eR
  ·cases hst:me rows op us with
   |some j=>
    rw[nS a hst];dsimp only;obtain⟨_,m⟩:=sq hst;exact AY l k _ _ (Ve hu m) (λd s b=>by
     have g:∀k op us,∀d∈(cu rows k op us).dead,0<=d:=plan_dead0;have:=g _ _ _ d b;omega) h0
   |none=>
    rw[nT a hst];obtain⟨t,u,q⟩:=rq (rows:=rows) (us:=us) a;dsimp only;intro b;rcases qX.1 b with e|b
    ·obtain⟨j,r,f⟩:=adq l;have n:cO op [c]=[c]:=by rw[cO,zl,g0 (show jU op c=eR by rw[e];exact q)];rfl
     have p:md rows op us j=eR:=by
      unfold md;rw[f,n];cases hus:us.getD j eS with
      |false=>rfl
      |true=>have:=hu j hus;rw[f,n]at this;cases this
     obtain⟨i,o⟩:∃i,me rows op us=dB i:=OD r p;rw[hst]at o;cases o
    ·exact AY l k _ _ (Sv hu) (λd s b=>by have:=plan_dead0 (rows:=rows) _ _ _ d b;omega) h0 b
  ·have a:op.contains eR=eS:=j9
   rw[uE a];simp
where
 plan_dead0 {rows:bP}:∀k op us,∀d∈(cu rows k op us).dead,0<=d
  |0,_,_,d,h=>by simp[cu]at h
  |k+1,op,us,d,h=>by
   by_cases a:op.contains eR=eR
   ·cases hst:me rows op us with
    |some j=>rw[nS a hst]at h;exact plan_dead0 k _ _ d h
    |none=>
     rw[nT a hst]at h;rcases qX.1 h with rfl|h
     ·exact(rq a).1
     ·exact plan_dead0 k _ _ d h
   ·have a:op.contains eR=eS:=j9
    rw[uE a]at h;simp at h
def rx(R:bP):(Int->Prop)->List (Int×Int)->Prop
 |_,[]=>True
 |D,(i,c)::t=>(0<=i/\i<i0 R)/\¬D c/\c∈R.getD i.toNat []/\(∀a∈R.getD i.toNat [],a≠c->D a)/\rx R (λx=>D x∨x=c) t
theorem wd{R S:bP}{K:Int->Prop}(k:∀r∈R,∀c∈r,¬K c)(s:∀r∈S,∀c∈r,K c):∀{a:List (Int×Int)} {D D' U:Int->Prop},rv (R++S) D U a->(∀c,¬K c->(D c↔D' c))->
  rx R D' (a.filter λp=>decide (p.1<i0 R))
 |[],_,_,_,_,_=>trivial
 |(i,c)::t,D,D',U,h,hD=>by
  obtain⟨x,z,h3,f,v,w⟩:=h;rw[zl];by_cases o:i<i0 R
  ·have e:(R++S).getD i.toNat []=R.getD i.toNat []:=by rw[qd,qm i5,qd]
   have j:R.getD i.toNat []∈R:=by rw[qd,qc i5];exact qf _
   rw[e]at f v;have q:=k _ j c f;rw[g0 p9];refine⟨⟨x.1,o⟩,λu=>h3 ((hD c q).2 u),f,λm b l=>(hD m (k _ j m b)).1 (v m b l),wd k s w λd g=>?_⟩;rw[hD d g]
  ·rw[g9 p9];have j:(R++S).getD i.toNat []∈S:=by have n:=x.2;rw[qp]at n;rw[qd,qi i5,qc i5];exact qf _
   have q:=s _ j c f;refine wd k s w λd g=>?_;rw[<-hD d g];exact⟨λu=>u.elim id λy=>absurd (y▸q) g,.inl⟩
def ev(t:UInt8)(k nd:Nat)(W M:aI)(y:Nat->UInt8)(c:Int):UInt8:=bI (λi=>aJ (aA W c.toNat) i) y nd^^^Gf.mul t (aJ (aA M c.toNat) k)
theorem FC{a b:Row}(h:i0 a=i0 b)(c:UInt8)(y:Nat->UInt8)(n:Nat):bI (λj=>aJ (cK c a b) j) y n=bI (λj=>aJ b j) y n^^^Gf.mul c (bI (λj=>aJ a j) y n):=by rw[fY n (λj _=>cy h j) λ_ _=>rfl];exact El _ _ _ _ _
theorem MB{V:aI}{m:Nat}(y:Nat->UInt8)(n:Nat):∀{l:au} {a:Row},i0 a=m->(∀c∈l,i0 (aA V c.toNat)=m)->bI (λj=>aJ (cH V a l) j) y n=bI (λj=>aJ a j) y n^^^cG (λc=>bI (λj=>aJ (aA V c.toNat) j) y n) l
 |[],a,_,_=>by simp[cH,cG]
 |c::l,a,h,hv=>by
  have b:i0 (aA V c.toNat)=i0 a:=by rw[hv c jj,h]
  have:=MB (V:=V) y n (l:=l) (a:=cK 1 (aA V c.toNat) a) (by rw[bM b];exact h) λd e=>hv d p5;rw[cH,zr];rw[cH]at this;rw[this,FC b,Gf.one_mul,cG];ac_rfl
theorem MC(t:UInt8)(x:Int->UInt8):∀l,cG (λc=>Gf.mul t (x c)) l=Gf.mul t (cG x l)
 |[]=>by simp[cG,Gf.mul_zero]
 |c::l=>by rw[cG,cG,Gf.jY,MC t x l]
theorem IL{W M:aI}{nd w:Nat}{l:au}{a m:Row}(f:i0 a=nd)(d:i0 m=w)(b:∀c∈l,i0 (aA W c.toNat)=nd)(e:∀c∈l,i0 (aA M c.toNat)=w)(t:UInt8)(k:Nat)(y:Nat->UInt8):
  bI (λj=>aJ (cH W a l) j) y nd^^^Gf.mul t (aJ (cH M m l) k)=(bI (λj=>aJ a j) y nd^^^Gf.mul t (aJ m k))^^^cG (ev t k nd W M y) l:=by
 rw[MB y nd f b,FB k d e,Gf.jY];have:cG (ev t k nd W M y) l=cG (λc=>bI (λj=>aJ (aA W c.toNat) j) y nd) l^^^Gf.mul t (cG (λc=>aJ (aA M c.toNat) k) l):=by rw[<-MC,<-Mt];rfl
 rw[this];ac_rfl
def gQ(rest:List fi)(nd:Nat)(s:aI×aI)(p:Int×Int):aI×aI:=
 let r:=rest.getD p.1.toNat ([],[])
 (s.1.set p.2.toNat (cH s.1 (aG nd) (r.1.filter λc=>!decide (c=p.2))),s.2.set p.2.toNat (cH s.2 r.2 (r.1.filter λc=>!decide (c=p.2))))
structure Vg (n nd w:Nat) (D:Int->Prop) (W M:aI):Prop where
 wl:i0 W=n
 ml:i0 M=n
 rw_:∀c:Int,D c->0<=c->c<(n:Int)->i0 (aA W c.toNat)=nd/\(aA M c.toNat).length=w
theorem AZ{W M a b:aI}{t:UInt8}{k nd:Nat}{y:Nat->UInt8}{c:Int}(e:aA a c.toNat=aA W c.toNat)(d:aA b c.toNat=aA M c.toNat):ev t k nd a b y c=ev t k nd W M y c:=by unfold ev;rw[e,d]
theorem FD{n nd w:Nat}{rest:List fi}(v:∀e∈rest,iI n w e):∀{a:List (Int×Int)} {D:Int->Prop} {W M:aI},rx (rest.map qL) D a->Vg n nd w D W M->
  Vg n nd w (λc=>D c∨∃i,(i,c)∈a) (a.foldl (gQ rest nd) (W,M)).1 (a.foldl (gQ rest nd) (W,M)).2/\
  (∀c:Int,D c->0<=c->aA (a.foldl (gQ rest nd) (W,M)).1 c.toNat=aA W c.toNat/\aA (a.foldl (gQ rest nd) (W,M)).2 c.toNat=aA M c.toNat)/\
  (∀p∈a,∀t k y,k<w->Sat t k (ev t k nd (a.foldl (gQ rest nd) (W,M)).1 (a.foldl (gQ rest nd) (W,M)).2 y) (rest.getD p.1.toNat ([],[])))/\
  (∀t k x y,k<w->(∀c:Int,D c->0<=c->c<(n:Int)->x c=ev t k nd W M y c)->(∀p∈a,Sat t k x (rest.getD p.1.toNat ([],[])))->∀c:Int,(D c∨∃i,(i,c)∈a)->0<=c->c<(n:Int)->x c=ev t k nd (a.foldl (gQ rest nd) (W,M)).1 (a.foldl (gQ rest nd) (W,M)).2 y c)
 |[],D,W,M,_,hw=>⟨⟨hw.wl,hw.ml,λc T=>hw.rw_ c (T.elim id λ⟨i,h⟩=>j7)⟩,λ_ _ _=>⟨i4,i4⟩,λp q=>by(cases q),λt k x y L I _ c T h0 o=>I c (T.elim id λ⟨i,h⟩=>j7) h0 o⟩
 |(i,c)::st,D,W,M,hg,hw=>by
  obtain⟨g1,g2,H,g4,g5⟩:=hg;have r:i.toNat<i0 rest:=by have:=g1.2;rw[qy]at this;omega
  obtain⟨e,P⟩:∃e,e=rest[i.toNat]:=⟨_,rfl⟩
  have X:rest.getD i.toNat ([],[])=e:=by rw[qd,qc r,P];rfl
  have ab:(rest.map qL).getD i.toNat []=e.1:=by rw[qd,List.getElem?_map,qc r,P];rfl
  rw[ab]at H g4;have l:=v e (P▸qf r);have Y:=l.cM c H;obtain⟨F,J⟩:∃F,F=e.1.filter (λd=>!decide (d=c)):=⟨_,rfl⟩
  have u:∀d∈F,d∈e.1/\d≠c:=λd b=>by rw[J,qC]at b;exact⟨b.1,by simpa using b.2⟩
  have f:∀d∈F,D d/\0<=d/\d<(n:Int):=λd b=>⟨g4 d (u d b).1 (u d b).2,l.cM d (u d b).1⟩
  have l1:∀d∈F,i0 (aA W d.toNat)=nd:=λd b=>(hw.rw_ d (f d b).1 (f d b).2.1 (f d b).2.2).1;have l2:∀d∈F,i0 (aA M d.toNat)=w:=λd b=>(hw.rw_ d (f d b).1 (f d b).2.1 (f d b).2.2).2;have Q:i0 (aG nd)=nd:=k8
  have U:gQ rest nd (W,M) (i,c)=(W.set c.toNat (cH W (aG nd) F),M.set c.toNat (cH M e.2 F)):=by unfold gQ;dsimp only;rw[X,<-J]
  have Z:=hw.wl;have R:=hw.ml;have B:∀d:Nat,aA (W.set c.toNat (cH W (aG nd) F)) d=if c.toNat=d then cH W (aG nd) F else aA W d:=λd=>kQ
  have G:∀d:Nat,aA (M.set c.toNat (cH M e.2 F)) d=if c.toNat=d then cH M e.2 F else aA M d:=λd=>kQ
  have V:Vg n nd w (λx=>D x∨x=c) (W.set c.toNat (cH W (aG nd) F)) (M.set c.toNat (cH M e.2 F)):=by
   refine⟨by simp[Z],by simp[R],λd b h0 o=>?_⟩;rw[B,G];by_cases g:c.toNat=d.toNat
   ·rw[g0 g,g0 g];exact⟨jL Q l1,jL l.len l2⟩
   ·rw[g9 g,g9 g];exact hw.rw_ d (b.elim id λO=>absurd (by rw[O]) g) h0 o
  obtain⟨N,r2,r3,r4⟩:=FD v g5 V;rw[zr,U];generalize st.foldl (gQ rest nd) (W.set c.toNat (cH W (aG nd) F),M.set c.toNat (cH M e.2 F))=s at N r2 r3 r4;have E:∀d:Int,D d->0<=d->c.toNat≠d.toNat:=λd b h0 O=>g2 (by rw[show c=d by omega];exact b);have keep:∀d:Int,D d->0<=d->aA s.1 d.toNat=aA W d.toNat/\aA s.2 d.toNat=aA M d.toNat:=λd b h0=>by
   have:=r2 d (.inl b) h0;rw[B,G,g9 (E d b h0),g9 (E d b h0)]at this;exact this
  have S:∀t k y,ev t k nd s.1 s.2 y c=Gf.mul t (aJ e.2 k)^^^cG (ev t k nd W M y) F:=λt k y=>by
   have h2:=r2 c (.inr i4) Y.1;rw[B,G,g0 rfl,g0 rfl]at h2;unfold ev;rw[h2.1,h2.2,IL Q l.len l1 l2 t k y,fR _ _ nd λj _=>cg _ _,wz];rfl
  have A:∀t k y,cG (ev t k nd s.1 s.2 y) F=cG (ev t k nd W M y) F:=λt k y=>kl λd b=>AZ (keep d (f d b).1 (f d b).2.1).1 (keep d (f d b).1 (f d b).2.1).2;refine⟨⟨N.wl,N.ml,λd b h0 o=>N.rw_ d ?_ h0 o⟩,keep,λp q t k y L=>?_,λt k x y L I hs d b h0 o=>?_⟩
  ·rcases b with b|⟨j,hj⟩
   ·exact .inl (.inl b)
   ·rcases qX.1 hj with hj|hj
    ·injection hj with _ hj;exact .inl (.inr hj)
    ·exact .inr ⟨j,hj⟩
  ·rcases qX.1 q with rfl|q
   ·dsimp only;rw[X];unfold Sat;rw[uD _ l.nodup H,<-J,S,A,pv]
   ·exact r3 p q t k y L
  ·refine r4 t k x y L (λd b h0 o=>?_) (λp q=>hs p (qz _ q)) d ?_ h0 o
   ·by_cases g:d=c
    ·subst g;have z:=hs (i,d) jj;dsimp only at z;rw[X]at z;unfold Sat at z;rw[uD _ l.nodup H,<-J,kl (y:=ev t k nd W M y) λK m=>I K (f K m).1 (f K m).2.1 (f K m).2.2]at z;have h6:ev t k nd (W.set d.toNat (cH W (aG nd) F)) (M.set d.toNat (cH M e.2 F)) y d=Gf.mul t (aJ e.2 k)^^^cG (ev t k nd W M y) F:=by unfold ev;rw[B,G,g0 i4,g0 i4,IL Q l.len l1 l2 t k y,fR _ _ nd λj _=>cg _ _,wz];rfl
     rw[h6,<-z,pv]
    ·have m:D d:=b.elim id λO=>absurd O g;rw[I d m h0 o];refine(AZ ?_ ?_).symm
     ·rw[B,g9 i5]
     ·rw[G,g9 i5]
   ·rcases b with b|⟨j,hj⟩
    ·exact .inl (.inl b)
    ·rcases qX.1 hj with hj|hj
     ·injection hj with _ hj;exact .inl (.inr hj)
     ·exact .inr ⟨j,hj⟩
theorem JL:∀{l m:List Nat},l.Nodup->(∀x∈l,x∈m)->i0 l<=i0 m
 |[],_,_,_=>jj
 |x::l,m,hd,h=>by
  rw[yl]at hd;have b:=h x jj;have c:=JL (l:=l) (m:=m.erase x) hd.2 λy a=>(List.mem_erase_of_ne λd:y=x=>hd.1 (by rw[<-d];exact a)).2 (h y m6);rw[List.length_erase_of_mem b]at c;have:=List.length_pos_of_mem b;simp;omega
def nt(nd i:Nat):Row:=(aG nd).set i 1
theorem Yr(nd i:Nat):i0 (nt nd i)=nd:=by simp[nt,aG]
theorem Ys{nd i:Nat}(a:i<nd)(j:Nat):aJ (nt nd i) j=if j=i then 1 else 0:=by rw[nt,IH (by simpa[aG]using a),cg]
theorem Yt{nd i:Nat}(a:i<nd)(y:Nat->UInt8):bI (λj=>aJ (nt nd i) j) y nd=y i:=
 Ek _ _ i nd a λj _=>by
  rw[Ys a];by_cases h:j=i
  ·subst h;simp
  ·rw[g9 h,g9 λb=>h b.symm]
def fZ(n nd w:Nat)(dead:au):aI×aI:=
 (dead.zipIdx).foldl (λs p=>(s.1.set p.1.toNat (nt nd p.2),s.2.set p.1.toNat (aG w))) (qh n [],qh n [])
theorem GO(n nd w:Nat)(d:au)(c:Int):fZ n nd w (d++[c])=((fZ n nd w d).1.set c.toNat (nt nd d.length),(fZ n nd w d).2.set c.toNat (aG w)):=by unfold fZ;rw[List.zipIdx_append,List.foldl_append];simp
theorem IM{n nd w:Nat}{dead:au}(j:∀c∈dead,0<=c/\c<(n:Int))(l:dead.Nodup):∀k,k<=i0 dead->
  Vg n nd w (·∈dead.take k) (fZ n nd w (dead.take k)).1 (fZ n nd w (dead.take k)).2/\∀i,(m:i<k)->(o:i<i0 dead)->aA (fZ n nd w (dead.take k)).1 dead[i].toNat=nt nd i/\aA (fZ n nd w (dead.take k)).2 dead[i].toNat=aG w
 |0,_=>⟨⟨by simp[fZ],by simp[fZ],λc b=>by simp at b⟩,λi m=>i5⟩
 |k+1,hk=>by
  obtain⟨h,o⟩:=IM (nd:=nd) (w:=w) j l k i5;have g:k<i0 dead:=i5
  have q:=j _ (qf g);have e:dead.take (k+1)=dead.take k++[dead[k]]:=zF g;have s:i0 (dead.take k)=k:=i9
  rw[e,GO,s];have p:=h.wl;have u:=h.ml;refine⟨⟨by simp[p],by simp[u],λc b h0 h3=>?_⟩,λi m d=>?_⟩
  ·dsimp only;rw[kQ,kQ];by_cases a:dead[k].toNat=c.toNat
   ·rw[g0 a,g0 a];exact⟨Yr _ _,k8⟩
   ·rw[g9 a,g9 a];refine h.rw_ c ?_ h0 h3;rcases qw.1 b with b|b
    ·exact b
    ·rw[qx]at b;exact absurd (by rw[b]) a
  ·dsimp only;rw[kQ,kQ];by_cases f:i=k
   ·subst f;rw[g0 i4,g0 rfl];exact⟨i4,i4⟩
   ·have r:dead[k]≠dead[i]:=λt=>f ((List.getElem_inj l).1 t).symm;have:=j _ (qf d);rw[g9 i5,g9 i5];exact o i i5 d
def il(nd:Nat)(known:List Bool)(vals:aI)(s:aI×aI):aI×aI:=
 (s.1.mapIdx λc r=>if known.getD c eS then aG nd else r,s.2.mapIdx λc r=>if known.getD c eS then aA vals c else r)
theorem Ba{m:aI}{f:Nat->Row->Row}{c:Nat}(h:c<i0 m):aA (m.mapIdx f) c=f c (aA m c):=by rw[bm j6,bm h];simp
def gG(V:aI)(r:Row)(a:Row):Nat->Row
 |0=>a
 |c+1=>cK (aJ r c) (aA V c) (gG V r a c)
theorem lB{V:aI}{m:Nat}(r:Row){a:Row}(b:i0 a=m):∀{c:Nat},(∀i,i<c->i0 (aA V i)=m)->i0 (gG V r a c)=m
 |0,_=>b
 |c+1,h=>by
  have:=lB r b (c:=c) λi d=>h i i5;rw[gG,bM (by rw[h c i5,this])];exact this
theorem FE{V:aI}{m:Nat}(r:Row){a:Row}(b:i0 a=m)(j:Nat):∀{c:Nat},(∀i,i<c->i0 (aA V i)=m)->aJ (gG V r a c) j=aJ a j^^^bI (λi=>aJ r i) (λi=>aJ (aA V i) j) c
 |0,_=>by simp[gG,bI]
 |c+1,h=>by
  have e:=lB r b (c:=c) λi d=>h i i5;rw[gG,cy (by rw[h c i5,e]),FE r b j (c:=c) λi d=>h i i5,bI];ac_rfl
theorem MD{V:aI}{m:Nat}(r:Row){a:Row}(b:i0 a=m)(y:Nat->UInt8)(n:Nat):∀{c:Nat},(∀i,i<c->i0 (aA V i)=m)->bI (λj=>aJ (gG V r a c) j) y n=bI (λj=>aJ a j) y n^^^bI (λi=>aJ r i) (λi=>bI (λj=>aJ (aA V i) j) y n) c
 |0,_=>by simp[gG,bI]
 |c+1,h=>by
  have e:=lB r b (c:=c) λi d=>h i i5;rw[gG,FC (by rw[h c i5,e]),MD r b y n (c:=c) λi d=>h i i5,bI];ac_rfl
theorem ME(f g g':Nat->UInt8):∀k,bI f (λi=>g i^^^g' i) k=bI f g k^^^bI f g' k
 |0=>by simp[bI]
 |k+1=>by rw[bI,bI,bI,ME f g g' k,Gf.jY];ac_rfl
theorem MF(t:UInt8)(f g:Nat->UInt8):∀k,bI f (λi=>Gf.mul t (g i)) k=Gf.mul t (bI f g k)
 |0=>by simp[bI,Gf.mul_zero]
 |k+1=>by
  rw[bI,bI,MF t f g k,Gf.jY];congr 1;rw[<-Gf.mul_assoc,<-Gf.mul_assoc,Gf.mul_comm (f k) t]
theorem Bb{n:Nat}(g:Nat->UInt8):∀{l:au},(∀x∈l,0<=x/\x<(n:Int))->l.Nodup->bI (λj=>aJ (fW n l) j) g n=cG (λc=>g c.toNat) l
 |[],_,_=>by
  rw[cG];refine fR _ _ n λj _=>?_;rw[AR [] (λx a=>qs) j];simp
 |c::l,h,hd=>by
  rw[yl]at hd;have k:=h c jj;have e:=Bb g (l:=l) (λx a=>h x m6) hd.2;have d:bI (λj=>aJ (fW n (c::l)) j) g n=bI (λj=>if(j:Int)∈c::l then 1 else 0) g n:=fY n (λj _=>AR _ h j) λ_ _=>rfl;have e2:bI (λj=>aJ (fW n l) j) g n=bI (λj=>if(j:Int)∈l then 1 else 0) g n:=fY n (λj _=>AR _ (λx a=>h x m6) j) λ_ _=>rfl;rw[d,cG,<-e,e2];rw[Fy (f:=λj=>if(j:Int)∈l then 1 else 0) (f':=λj=>if(j:Int)∈c::l then 1 else 0) (c:=c.toNat) (by rw[g9];rw[show((c.toNat:Nat):Int)=c by omega];exact hd.1) (λi=>by
   by_cases b:i=c.toNat
   ·subst b;rw[g0 i4,g0];rw[show((c.toNat:Nat):Int)=c by omega];simp
   ·rw[g9 b];have:(i:Int)≠c:=λm=>b i5;simp[this]),g0 i5]
  ac_rfl
theorem kernel{nd:Nat}{a:aI}(Z:aQ nd a)(O:bL a<nd):∃y:Nat->UInt8,(∃i,i<nd/\y i≠0)/\∀r∈a,bI (λj=>aJ r j) y nd=0:=by
 have w:=Mr Z;obtain⟨R,U,ab,M,S,⟨p,W,Y,p3,V⟩,E⟩:=w;generalize hT:bL a=T at*;generalize (bA a (eC a)).2=rows at*;have s:∃j,j<nd/\∀i,i<T->p i≠j:=by
  have t:∀T nd:Nat,T<nd->∀p:Nat->Nat,(∀i,i<T->p i<nd)->∃j,j<nd/\∀i,i<T->p i≠j:=by
   intro T nd ad p X;by_cases f:∀j,j<nd->∃i,i<T/\p i=j
   ·exfalso;have I:∀j∈qt nd,j∈(qt T).map p:=λj A=>by
     obtain⟨i,l,rfl⟩:=f j (qA.1 A);exact qo.2 ⟨i,qA.2 l,i4⟩
    have:=JL vY I;simp at this;omega
   ·simp only[Classical.not_forall,not_exists,not_and]at f;obtain⟨j,A,h⟩:=f;exact⟨j,A,h⟩
  exact t T nd O p W
 obtain⟨j,A,G⟩:=s;have J:∀i e,i<T->e<T->p i=p e->i=e:=λi e o q h3=>by
  rcases Nat.lt_trichotomy i e with h|h|h
  ·have:=V i e h q;omega
  ·exact h
  ·have:=V e i h o;omega
 let y:Nat->UInt8:=λc=>if c=j then 1 else cG (λi=>if p i.toNat=c then aJ (aA rows i.toNat) j else 0) ((qt T).map λi:Nat=>(i:Int))
 have hy:∀i,i<T->y (p i)=aJ (aA rows i) j:=λi l=>by
  show(if p i=j then 1 else _)=_;rw[g9 (G i l)];have K:((qt T).map λi:Nat=>(i:Int)).Nodup:=by exact List.Pairwise.map _ (λa b h v=>h (Int.ofNat_inj.1 v)) vY
  rw[uD _ K (c:=(i:Int)) (qo.2 ⟨i,qA.2 l,i4⟩),CM,zT]
  ·simp
  ·intro c n;rw[qC]at n;obtain⟨e,u,rfl⟩:=qo.1 n.1;have D:e≠i:=λv=>by subst v;simp at n
   rw[qj,g9 λv=>D (J e i (qA.1 u) l v)]
 have Q:∀c,c≠j->(∀i,i<T->p i≠c)->y c=0:=λc n X=>by
  show(if c=j then 1 else _)=_;rw[g9 n,CM];intro d hd;obtain⟨e,u,rfl⟩:=qo.1 hd;rw[qj,g9 (X e (qA.1 u))]
 have B:y j=1:=by show(if j=j then 1 else _)=_;rw[g0 rfl]
 refine⟨y,⟨j,A,by rw[B];decide⟩,λr L=>?_⟩;refine Span.lin R (λr=>bI (λc=>aJ r c) y nd) (fR _ _ nd λc _=>cg _ _) (λc x z o q=>FC i5 c y nd) (λr O=>?_) ((M r).2 (Span.row Z L));obtain⟨k,P,rfl⟩:=fa O;by_cases g:k<T
 ·--the row's own beginning,and j
  have hf:∀c,c<nd->aJ (aA rows k) c=0∨y c=0∨c=p k∨c=j:=λc n=>by
   by_cases o:c=j
   ·exact .inr (.inr (.inr o))
   ·by_cases q:∃i,i<T/\p i=c
    ·obtain⟨i,l,rfl⟩:=q;by_cases F:k=i
     ·subst F;exact .inr (.inr (.inl i4))
     ·refine .inl ?_;rw[Y i l k P,g9 F]
    ·exact .inr (.inl (Q c o λi l v=>q ⟨i,l,v⟩))
  have N:=W k g;have H:aJ (aA rows k) (p k)=1:=by rw[Y k g k P,g0 rfl]
  have D:p k≠j:=G k g;have t:∀m,m<=nd->bI (λc=>aJ (aA rows k) c) y m=(if p k<m then aJ (aA rows k) j else 0)^^^(if j<m then aJ (aA rows k) j else 0):=by
   intro m
   induction m with
   |zero=>intro _;simp[bI]
   |succ m ih=>
    intro hm;rw[bI,ih i5];by_cases o:m=p k
    ·have ah:m≠j:=i5
     rw[o,H,Gf.one_mul,hy k g];rw[g9 (Nat.lt_irrefl _),g0 (vV _)];by_cases h3:j<p k
     ·rw[g0 h3,g0 i5];ac_rfl
     ·rw[g9 h3,g9 i5];ac_rfl
    ·by_cases q:m=j
     ·rw[q,B,Gf.mul_one];rw[g9 (Nat.lt_irrefl j),g0 (vV j),zT];by_cases h3:p k<j
      ·rw[g0 h3,g0 i5]
      ·rw[g9 h3,g9 i5]
     ·have hz:Gf.mul (aJ (aA rows k) m) (y m)=0:=by
       rcases hf m i5 with h|h|h|h
       ·rw[h,Gf.zero_mul]
       ·rw[h,Gf.mul_zero]
       ·exact absurd h o
       ·exact absurd h q
      rw[hz,zT];have a1:(p k<m+1)↔(p k<m):=i5
      have a2:(j<m+1)↔(j<m):=i5
      simp only[a1,a2]
  rw[t nd (qk _),g0 N,g0 A,lj]
 ·exact fR _ _ nd λc n=>E k i5 P c n
def dq(n nd:Nat)(rest:List fi)(W:aI)(left:au)(ahead:aI):aI:=(left.map λi=>cH W (aG nd) (rest.getD i.toNat ([],[])).1)++ahead.map λr=>gG W r (aG nd) n
def fE(n w:Nat)(rest:List fi)(M:aI)(left:au)(ahead:aI):aI:=(left.map λi=>cH M (rest.getD i.toNat ([],[])).2 (rest.getD i.toNat ([],[])).1)++ahead.map λr=>gG M r (aG w) n
def tH(nd:Nat)(known:List Bool)(vals:aI)(W M D:aI):aI:=vals.mapIdx λc r=>if known.getD c eS then r else gG D (aA W c) (aA M c) nd
def dC(n:Nat)(l:List fi)(ahead:aI):aI:=ahead++l.map λe=>fW n e.1
def ic(w:Nat)(l:List fi)(ahead:aI):aI:=qh ahead.length (aG w)++l.map zH
def at_(X:aI)(k:Nat)(c:Int):UInt8:=aJ (aA X c.toNat) k
section
variable {n w:Nat} {l:List fi} {ahead:aI}
theorem uF(b:aQ n ahead):aQ n (dC n l ahead):=λr a=>by
 rcases qw.1 a with a|a
 ·exact b r a
 ·obtain⟨e,_,rfl⟩:=qo.1 a;exact pq _ _
theorem uG(c:∀e∈l,iI n w e):aQ w (ic w l ahead):=λr a=>by
 rcases qw.1 a with a|a
 ·rw[(w6.1 a).2];simp[aG]
 ·obtain⟨e,b,rfl⟩:=qo.1 a;exact(c e b).len
theorem sP:i0 (dC n l ahead)=i0 (ic w l ahead):=by simp[dC,ic]
theorem Bc(o:∀e∈l,iI n w e){X:aI}:fD n w (dC n l ahead) (ic w l ahead) X↔X.length=n/\aQ w X/\∀k,k<w->(∀e∈l,Sat 1 k (at_ X k) e)/\∀r∈ahead,bI (λj=>aJ r j) (λc=>aJ (aA X c) k) n=0:=by
 unfold fD;refine⟨λ⟨h1,h2,h3⟩=>⟨h1,h2,λk p=>⟨λe f=>?_,λr s=>?_⟩⟩,λ⟨h1,h2,h3⟩=>⟨h1,h2,λi g=>?_⟩⟩
 ·obtain⟨i,g,rfl⟩:=qD f;have:=h3 (i0 ahead+i) m8;have b:aA (dC n l ahead) (i0 ahead+i)=fW n l[i].1:=by rw[bm m8];simp[dC]
  have e2:aA (ic w l ahead) (i0 ahead+i)=l[i].2:=by rw[bm p6];simp[ic]
  rw[b,e2]at this;have m:=congrArg (λr=>aJ r k) this;rw[gN h2 h1 _ k n (qk _),Bb _ (o _ f).cM (o _ f).nodup]at m;unfold Sat;rw[Gf.one_mul];exact m
 ·obtain⟨i,g,rfl⟩:=qD s;have:=h3 i m8;have b:aA (dC n l ahead) i=ahead[i]:=by rw[bm m8];simp[dC,w4 g]
  have e2:aA (ic w l ahead) i=aG w:=by rw[bm p6];simp[ic,g]
  rw[b,e2]at this;have m:=congrArg (λr=>aJ r k) this;rw[gN h2 h1 _ k n (qk _),cg]at m;exact m
 ·have h:i0 (aA (ic w l ahead) i)=w:=ce (uG o) (by rw[<-sP (n:=n)];exact g);refine eE (n:=w) (ir h2 h1 _ n (qk _)) h λk p=>?_;rw[gN h2 h1 _ k n (qk _)];simp only[dC,qp,qy]at g;by_cases a:i<i0 ahead
  ·have b:aA (dC n l ahead) i=ahead[i]:=by rw[bm m8];simp[dC,w4 a]
   have e2:aA (ic w l ahead) i=aG w:=by rw[bm p6];simp[ic,a]
   rw[b,e2,cg];exact(h3 k p).2 _ (qf a)
  ·obtain⟨d,rfl⟩:∃d,i=i0 ahead+d:=⟨i-i0 ahead,i5⟩
   have q:d<i0 l:=i5
   have b:aA (dC n l ahead) (i0 ahead+d)=fW n l[d].1:=by rw[bm m8];simp[dC]
   have e2:aA (ic w l ahead) (i0 ahead+d)=l[d].2:=by rw[bm p6];simp[ic]
   have f:=o _ (qf q);rw[b,e2,Bb _ f.cM f.nodup];have:=(h3 k p).1 _ (qf q);unfold Sat at this;rw[Gf.one_mul]at this;exact this
end
structure gF (n w:Nat) (l:List fi) (ahead:aI) (known:List Bool) (vals:aI) (dead left:au) (W M:aI):Prop where
 eqs:∀e∈l,iI n w e
 ahd:aQ n ahead
 pinv:jM n w l known vals
 calm:km known vals l=eS
 deadR:∀c∈dead,0<=c/\c<(n:Int)
 deadN:dead.Nodup
 deadK:∀c∈dead,kn known c=eS
 lens:i0 W=n/\M.length=n/\∀c:Nat,c<n->i0 (aA W c)=i0 dead/\(aA M c).length=w
 evKnown:∀t k y,∀c:Int,0<=c->c<(n:Int)->kn known c=eR->ev t k dead.length W M y c=Gf.mul t (aJ (aA vals c.toNat) k)
 evDead:∀t k y,∀i,(h:i<i0 dead)->ev t k dead.length W M y dead[i]=y i
 evRest:∀t k y,k<w->(∀i∈left,Sat t k (ev t k dead.length W M y) ((aV known vals l).getD i.toNat ([],[])))->∀e∈aV known vals l,Sat t k (ev t k dead.length W M y) e
 leftR:∀i∈left,0<=i/\i<(i0 (aV known vals l):Int)
 evAll:∀t k x,k<w->(∀c:Int,0<=c->c<(n:Int)->kn known c=eR->x c=Gf.mul t (aJ (aA vals c.toNat) k))->(∀e∈aV known vals l,Sat t k x e)->∀c:Int,0<=c->c<(n:Int)->x c=ev t k dead.length W M (λi=>x (dead.getD i 0)) c
section
variable {n w:Nat} {l:List fi} {ahead:aI} {known:List Bool} {vals:aI} {dead left:au} {W M:aI}
theorem nU(h:jM n w l known vals)(c:∀e∈l,iI n w e):∀e∈aV known vals l,iI n w e:=λe b=>by
 obtain⟨d,a,rfl⟩:=qo.1 (qC.1 b).1;exact h.Ad (c d a)
theorem wf{a b:UInt8}:a^^^b=0↔a=b:=ox
theorem gF.MG(S:gF n w l ahead known vals dead left W M){i:Int}(f:i∈left)(t:UInt8)(k:Nat)(y:Nat->UInt8):
  bI (λj=>aJ (cH W (aG dead.length) ((aV known vals l).getD i.toNat ([],[])).1) j) y dead.length=Gf.mul t (aJ (cH M ((aV known vals l).getD i.toNat ([],[])).2 ((aV known vals l).getD i.toNat ([],[])).1) k)↔Sat t k (ev t k dead.length W M y) ((aV known vals l).getD i.toNat ([],[])):=by
 have m:=S.leftR i f;have b:i.toNat<i0 (aV known vals l):=i5
 have h:(aV known vals l).getD i.toNat ([],[])=(aV known vals l)[i.toNat]:=by rw[qd,qc b];rfl
 have a:=nU S.pinv S.eqs _ (qf b);rw[h];generalize (aV known vals l)[i.toNat]=e at*;have p:i0 (aG dead.length)=i0 dead:=k8
 have o:∀c∈e.1,i0 (aA W c.toNat)=i0 dead:=λc d=>((S.lens.2.2 c.toNat) (by have:=a.cM c d;omega)).1;have g:∀c∈e.1,i0 (aA M c.toNat)=w:=λc d=>((S.lens.2.2 c.toNat) (by have:=a.cM c d;omega)).2;have:=IL p a.len o g t k y;rw[fR _ _ dead.length λj _=>cg _ _,wz]at this;rw[<-wf,this];unfold Sat;rw[wf];exact eq_comm
theorem gF.JM(S:gF n w l ahead known vals dead left W M)(r:Row)(t:UInt8)(k:Nat)(y:Nat->UInt8):
  bI (λj=>aJ (gG W r (aG dead.length) n) j) y dead.length=Gf.mul t (aJ (gG M r (aG w) n) k)↔bI (λj=>aJ r j) (λc=>ev t k dead.length W M y (c:Int)) n=0:=by
 have e:=MD (V:=W) (m:=i0 dead) r (a:=aG dead.length) k8 y dead.length (c:=n) λi b=>(S.lens.2.2 i b).1;have d:=FE (V:=M) (m:=w) r (a:=aG w) k8 k (c:=n) λi b=>(S.lens.2.2 i b).2;rw[e,d,fR _ _ dead.length λj _=>cg _ _,cg,wz,wz,<-wf,<-MF,<-ME];have:(λc:Nat=>ev t k dead.length W M y (c:Int))=λi=>bI (λj=>aJ (aA W i) j) y dead.length^^^Gf.mul t (aJ (aA M i) k):=by funext c;unfold ev;rw[qj]
 rw[this]
theorem gF.up(S:gF n w l ahead known vals dead left W M){t:UInt8}{k:Nat}{y:Nat->UInt8}(g:k<w)
  (d:∀i,i<i0 (dq n dead.length (aV known vals l) W left ahead)->bI (λj=>aJ (aA (dq n dead.length (aV known vals l) W left ahead) i) j) y dead.length=Gf.mul t (aJ (aA (fE n w (aV known vals l) M left ahead) i) k)):
  (∀e∈l,Sat t k (ev t k dead.length W M y) e)/\∀r∈ahead,bI (λj=>aJ r j) (λc=>ev t k dead.length W M y (c:Int)) n=0:=by
 refine⟨(Mu S.pinv S.eqs S.calm g).2 ⟨λc h0 m o=>S.evKnown t k y c h0 m o,S.evRest t k y g λi f=>?_⟩,λr h=>?_⟩
 ·obtain⟨j,b,rfl⟩:=qD f;have:=d j m9;have a:aA (dq n dead.length (aV known vals l) W left ahead) j=cH W (aG dead.length) ((aV known vals l).getD left[j].toNat ([],[])).1:=by rw[bm m9];simp[dq,b]
  have e2:aA (fE n w (aV known vals l) M left ahead) j=cH M ((aV known vals l).getD left[j].toNat ([],[])).2 ((aV known vals l).getD left[j].toNat ([],[])).1:=by rw[bm p7];simp[fE,b]
  rw[a,e2]at this;exact(S.MG f t k y).1 this
 ·obtain⟨j,b,rfl⟩:=qD h;have:=d (i0 left+j) m9;have a:aA (dq n dead.length (aV known vals l) W left ahead) (i0 left+j)=gG W ahead[j] (aG dead.length) n:=by rw[bm m9];simp[dq]
  have e2:aA (fE n w (aV known vals l) M left ahead) (i0 left+j)=gG M ahead[j] (aG w) n:=by rw[bm p7];simp[fE]
  rw[a,e2]at this;exact(S.JM _ t k y).1 this
theorem gF.down(S:gF n w l ahead known vals dead left W M){t:UInt8}{k:Nat}{x:Int->UInt8}(q:k<w)(A:∀e∈l,Sat t k x e)(B:∀r∈ahead,bI (λj=>aJ r j) (λc=>x (c:Int)) n=0):
  (∀c:Int,0<=c->c<(n:Int)->x c=ev t k dead.length W M (λi=>x (dead.getD i 0)) c)/\
  ∀i,i<i0 (dq n dead.length (aV known vals l) W left ahead)->bI (λj=>aJ (aA (dq n dead.length (aV known vals l) W left ahead) i) j) (λi=>x (dead.getD i 0)) dead.length=Gf.mul t (aJ (aA (fE n w (aV known vals l) M left ahead) i) k):=by
 obtain⟨u,p⟩:=(Mu S.pinv S.eqs S.calm q).1 A;have h:=S.evAll t k x q u p;refine⟨h,λi z=>?_⟩;simp only[dq,qp,qy]at z;by_cases a:i<i0 left
 ·have m:aA (dq n dead.length (aV known vals l) W left ahead) i=cH W (aG dead.length) ((aV known vals l).getD left[i].toNat ([],[])).1:=by rw[bm m9];simp[dq,a]
  have e2:aA (fE n w (aV known vals l) M left ahead) i=cH M ((aV known vals l).getD left[i].toNat ([],[])).2 ((aV known vals l).getD left[i].toNat ([],[])).1:=by rw[bm p7];simp[fE,a]
  rw[m,e2];refine(S.MG (qf a) t k _).2 ?_;have s:=S.leftR _ (qf a);have b:left[i].toNat<i0 (aV known vals l):=i5
  have v:(aV known vals l).getD left[i].toNat ([],[])=(aV known vals l)[left[i].toNat]:=by rw[qd,qc b];rfl
  rw[v];have o:=p _ (qf b);have f:=nU S.pinv S.eqs _ (qf b);unfold Sat at o⊢;rw[<-o];exact kl λc g=>(h c (f.cM c g).1 (f.cM c g).2).symm
 ·obtain⟨d,rfl⟩:∃d,i=i0 left+d:=⟨i-i0 left,i5⟩
  have y:d<i0 ahead:=i5
  have m:aA (dq n dead.length (aV known vals l) W left ahead) (i0 left+d)=gG W ahead[d] (aG dead.length) n:=by rw[bm m9];simp[dq]
  have e2:aA (fE n w (aV known vals l) M left ahead) (i0 left+d)=gG M ahead[d] (aG w) n:=by rw[bm p7];simp[fE]
  rw[m,e2];refine(S.JM _ t k _).2 ?_;rw[<-B _ (qf y)];exact fY n (λ_ _=>rfl) λc g=>(h (c:Int) i5 i5).symm
theorem oG(S:gF n w l ahead known vals dead left W M):aQ dead.length (dq n dead.length (aV known vals l) W left ahead)/\aQ w (fE n w (aV known vals l) M left ahead):=by
 have d:∀i∈left,iI n w ((aV known vals l).getD i.toNat ([],[])):=λi b=>by
  have h:=S.leftR i b;have e:i.toNat<i0 (aV known vals l):=i5
  rw[qd,qc e];exact nU S.pinv S.eqs _ (qf e)
 constructor
 ·intro r a;rcases qw.1 a with a|a
  ·obtain⟨i,b,rfl⟩:=qo.1 a;exact jL k8 λc f=>((S.lens.2.2 c.toNat) (by have:=(d i b).cM c f;omega)).1
  ·obtain⟨x,g,rfl⟩:=qo.1 a;exact lB x k8 λi b=>(S.lens.2.2 i b).1
 ·intro r a;rcases qw.1 a with a|a
  ·obtain⟨i,b,rfl⟩:=qo.1 a;exact jL (d i b).len λc f=>((S.lens.2.2 c.toNat) (by have:=(d i b).cM c f;omega)).2
  ·obtain⟨x,g,rfl⟩:=qo.1 a;exact lB x k8 λi b=>(S.lens.2.2 i b).2
theorem uH:i0 (dq n dead.length (aV known vals l) W left ahead)=i0 (fE n w (aV known vals l) M left ahead):=by simp[dq,fE]
theorem gF.II(S:gF n w l ahead known vals dead left W M)(N:1<=w)(f:bL (dC n l ahead)=n):bL (dq n dead.length (aV known vals l) W left ahead)=i0 dead:=by
 obtain⟨H,e2⟩:=oG S;have J:=kR H;by_cases x:bL (dq n dead.length (aV known vals l) W left ahead)<i0 dead
 ·exfalso;obtain⟨y,⟨i,b,V⟩,L⟩:=kernel H x;have p:=S.up (t:=0) (k:=0) (y:=y) N λi b=>by rw[L _ (mem_row b),Gf.zero_mul]
  have G:=uF (l:=l) S.ahd;have u:aQ 1 (qh (dC n l ahead).length (aG 1)):=λr f=>by rw[(w6.1 f).2];simp[aG]
  have d:i0 (dC n l ahead)=i0 (qh (dC n l ahead).length (aG 1)):=jj
  have R:fD n 1 (dC n l ahead) (qh (dC n l ahead).length (aG 1)) (qh n (aG 1)):=by
   have a:aQ 1 (qh n (aG 1)):=λr f=>by rw[(w6.1 f).2];simp[aG]
   refine⟨jj,a,λi b=>?_⟩;refine eE (n:=1) (ir a jj _ n (qk _)) (ce u kt) λk P=>?_;rw[gN a jj _ k n (qk _)];have D:aA (qh (dC n l ahead).length (aG 1)) i=aG 1:=by rw[bm kt];simp
   rw[D,cg];have:∀g,g<=n->bI (λj=>aJ (aA (dC n l ahead) i) j) (λc=>aJ (aA (qh n (aG 1)) c) k) g=0:=by
    intro g
    induction g with
    |zero=>intro _;rfl
    |succ g ih=>
     intro O;have Q:aA (qh n (aG 1)) g=aG 1:=by rw[bm i9];simp
     rw[bI,ih i5,Q,cg,Gf.mul_zero];rfl
   exact this n (qk _)
  have I:fD n 1 (dC n l ahead) (qh (dC n l ahead).length (aG 1)) ((qt n).map λc:Nat=>[ev 0 0 dead.length W M y (c:Int)]):=by
   have a:aQ 1 ((qt n).map λc:Nat=>[ev 0 0 dead.length W M y (c:Int)]):=λr f=>by obtain⟨c,_,rfl⟩:=qo.1 f;rfl
   have q:∀c:Nat,c<n->aA ((qt n).map λc:Nat=>[ev 0 0 dead.length W M y (c:Int)]) c=[ev 0 0 dead.length W M y (c:Int)]:=λc h=>by rw[bm j6];simp
   refine⟨jj,a,λi b=>?_⟩;refine eE (n:=1) (ir a jj _ n (qk _)) (ce u kt) λk P=>?_;have A:k=0:=i5
   subst A;rw[gN a jj _ 0 n (qk _)];have D:aA (qh (dC n l ahead).length (aG 1)) i=aG 1:=by rw[bm kt];simp
   rw[D,cg];have U:bI (λj=>aJ (aA (dC n l ahead) i) j) (λc=>aJ (aA ((qt n).map λc:Nat=>[ev 0 0 dead.length W M y (c:Int)]) c) 0) n=bI (λj=>aJ (aA (dC n l ahead) i) j) (λc=>ev 0 0 dead.length W M y (c:Int)) n:=
    fY n (λ_ _=>rfl) λc h=>by rw[q c h];rfl
   rw[U];have F:aA (dC n l ahead) i∈ahead++l.map λe=>fW n e.1:=mem_row b;obtain E|E:=qw.1 F
   ·exact p.2 _ E
   ·obtain⟨e,s,z⟩:=qo.1 E;rw[<-z,Bb _ (S.eqs e s).cM (S.eqs e s).nodup];have v:=p.1 e s;unfold Sat at v;rw[Gf.zero_mul]at v;refine Eq.trans (kl λc h=>?_) v;have:=(S.eqs e s).cM c h;rw[show((c.toNat:Nat):Int)=c by omega]
  have T:=(lA d G u f R).1;have X:=(lA d G u f I).1;have B:=X.trans T.symm;have K:=S.deadR _ (qf b);have o:=congrArg (λm=>aJ (aA m dead[i].toNat) 0) B;rw[bm i9,bm i9]at o;simp only[List.getElem_map,List.getElem_range,List.getElem_replicate,cg]at o;rw[show((dead[i].toNat:Nat):Int)=dead[i]by omega]at o;have h8:aJ [ev 0 0 dead.length W M y dead[i]] 0=ev 0 0 dead.length W M y dead[i]:=rfl;rw[h8,S.evDead 0 0 y i b]at o;exact V o
 ·omega
theorem IN(S:gF n w l ahead known vals dead left W M){D:aI}(j:i0 D=i0 dead)(f:aQ w D){c:Nat}(e:c<n):
  (aA (tH dead.length known vals W M D) c).length=w/\∀k,aJ (aA (tH dead.length known vals W M D) c) k=ev 1 k dead.length W M (λi=>aJ (aA D i) k) (c:Int):=by
 have g:=S.pinv.vlen;have a:aA (tH dead.length known vals W M D) c=if known.getD c eS then aA vals c else gG D (aA W c) (aA M c) dead.length:=by unfold tH;rw[Ba i5]
 have d:=S.lens.2.2 c e;rw[a];cases hkn:known.getD c eS with
 |true=>
  rw[g0 rfl];refine⟨by have:=S.pinv.row c e;rw[hkn]at this;simpa using this,λk=>?_⟩;have:=S.evKnown 1 k (λi=>aJ (aA D i) k) (c:Int) i5 i5 (by unfold kn;rw[qj];exact hkn);rw[this,qj,Gf.one_mul]
 |false=>
  rw[g9 jj];have b:∀i,i<i0 dead->i0 (aA D i)=w:=λi h=>ce f;refine⟨lB _ d.2 b,λk=>?_⟩;rw[FE _ d.2 k b];unfold ev;rw[qj,Gf.one_mul,vo]
theorem abx(h:i0 vals=n){D:aI}:i0 (tH dead.length known vals W M D)=n:=by simp[tH,h]
theorem gF.Sw(S:gF n w l ahead known vals dead left W M){D:aI}(s:fD dead.length w (dq n dead.length (aV known vals l) W left ahead) (fE n w (aV known vals l) M left ahead) D):fD n w (dC n l ahead) (ic w l ahead) (tH dead.length known vals W M D):=by
 obtain⟨b,d,f⟩:=s;obtain⟨u,e2⟩:=oG S;have g:=abx (dead:=dead) (known:=known) (W:=W) (M:=M) S.pinv.vlen (D:=D);refine(Bc S.eqs).2 ⟨g,λr h=>?_,λk q=>?_⟩
 ·obtain⟨c,a,rfl⟩:=fa h;exact(IN S b d i5).1
 ·have m:=S.up (t:=1) (k:=k) (y:=λi=>aJ (aA D i) k) q λi p=>by
   have:=congrArg (λr=>aJ r k) (f i p);rw[gN d b _ k dead.length (qk _)]at this;rw[this,Gf.one_mul]
  refine⟨λe j=>?_,λr h=>?_⟩
  ·have h3:=m.1 e j;unfold Sat at h3⊢;rw[<-h3];refine kl λc a=>?_;have o:=(S.eqs e j).cM c a;unfold at_;rw[(IN S b d (show c.toNat<n by omega)).2 k,show((c.toNat:Nat):Int)=c by omega]
  ·rw[<-m.2 r h];exact fY n (λ_ _=>rfl) λc a=>(IN S b d a).2 k
theorem gF.OE(S:gF n w l ahead known vals dead left W M){X:aI}(p:fD n w (dC n l ahead) (ic w l ahead) X):fD dead.length w (dq n dead.length (aV known vals l) W left ahead) (fE n w (aV known vals l) M left ahead) (dead.map λc=>aA X c.toNat):=by
 obtain⟨q,o,m⟩:=(Bc S.eqs).1 p;obtain⟨s,e2⟩:=oG S;have d:aQ w (dead.map λc=>aA X c.toNat):=λr e=>by
  obtain⟨c,f,rfl⟩:=qo.1 e;have:=S.deadR c f;exact ce o
 have b:i0 (dead.map λc=>aA X c.toNat)=i0 dead:=jj
 refine⟨b,d,λi h=>eE (n:=w) (ir d b _ _ (qk _)) (ce e2 (by rw[<-uH (n:=n) (w:=w)];exact h)) λk a=>?_⟩;rw[gN d b _ k dead.length (qk _)];have h3:=(S.down (t:=1) (x:=at_ X k) a (m k a).1 (λr e=>by
  have:=(m k a).2 r e;rw[<-this];exact fY n (λ_ _=>rfl) λc f=>by unfold at_;rw[qj])).2 i h
 rw[Gf.one_mul]at h3;rw[<-h3];refine fY _ (λ_ _=>rfl) λj g=>?_;unfold at_;rw[bm l7,qd,qc g];simp
end
def hO(known:List Bool)(i:Nat):bP:=((qt i).filter λc=>known.getD c eS).map λc:Nat=>[(c:Int)]
theorem IP(known:List Bool)(i:Nat):hO known (i+1)=hO known i++if known.getD i eS then[[(i:Int)]]else[]:=by unfold hO;rw[List.range_succ,List.filter_append,List.map_append];cases h:known.getD i eS<;>simp only[zl,h,List.filter_nil]<;>rfl
theorem BP(known:List Bool)(i:Nat):i0 (hO known i)<=i:=by unfold hO;rw[qy];exact qY (qJ _ _) jj
def rowsOf(R:List fi)(known:List Bool)(n:Nat):bP:=R.map qL++hO known n
def gC(R:List fi)(known:List Bool)(n:Nat):Pl:=dW n (rowsOf R known n)
def mP(R:List fi)(known:List Bool)(n:Nat):List (Int×Int):=(gC R known n).steps.filter λx=>decide (x.1<i0 R)
def leftOf(R:List fi)(known:List Bool)(n:Nat):au:=(fO (gC R known n).used (rowsOf R known n).length).filter λx=>decide (x<i0 R)
theorem uI{known:List Bool}{n:Nat}{r:au}(h:r∈hO known n):∃c:Nat,r=[(c:Int)]/\c<n/\known.getD c eS=eR:=by obtain⟨c,a,rfl⟩:=qo.1 h;rw[qC,qA]at a;exact⟨c,i4,a.1,a.2⟩
theorem CW{rows:bP}:∀{d:List (Int×Int)} {D U:Int->Prop},rv rows D U d->∀i c,(i,c)∈d->(0<=i/\i<i0 rows)/\c∈rows.getD i.toNat []
 |[],_,_,_,_,_,h=>j7
 |(i',c')::t,D,U,hg,i,c,h=>by
  obtain⟨g,_,_,f,_,e⟩:=hg;rcases qX.1 h with h|h
  ·injection h with a b;subst a;subst b;exact⟨g,f⟩
  ·exact CW e i c h
section
variable {n w:Nat} {l:List fi} {ahead:aI} {known:List Bool} {vals:aI}
theorem sQ(g:∀e∈aV known vals l,iI n w e):∀r∈rowsOf (aV known vals l) known n,∀c∈r,0<=c/\c<(n:Int):=λr a c b=>by
 rcases qw.1 a with a|a
 ·obtain⟨e,f,rfl⟩:=qo.1 a;exact(g e f).cM c b
 ·obtain⟨d,rfl,h,_⟩:=uI a;rw[qx]at b;subst b;omega
theorem JN(i:∀e∈l,iI n w e)(f:jM n w l known vals):rx ((aV known vals l).map qL) (·∈(gC (aV known vals l) known n).dead) (mP (aV known vals l) known n):=by
 have m:=nU f i;obtain⟨_,_,_,_,_,g⟩:=tG (sQ m);have:=wd (R:=(aV known vals l).map qL) (S:=hO known n) (K:=λc=>kn known c=eR) (λr b c a=>?_) (λr b c a=>?_) g (D':=(·∈(gC (aV known vals l) known n).dead)) λc _=>Iff.rfl
 ·rw[qy]at this;exact this
 ·obtain⟨e,h,rfl⟩:=qo.1 b;obtain⟨j,o,rfl⟩:=qo.1 (qC.1 h).1;rw[CO f j c a];simp
 ·obtain⟨d,rfl,_,k⟩:=uI b;rw[qx]at a;subst a;unfold kn;rw[qj];exact k
theorem GP(k:∀e∈l,iI n w e)(j:jM n w l known vals):
  (∀c∈(gC (aV known vals l) known n).dead,0<=c/\c<(n:Int))/\(gC (aV known vals l) known n).dead.Nodup/\(∀c∈(gC (aV known vals l) known n).dead,kn known c=eS)/\
  (∀i∈leftOf (aV known vals l) known n,0<=i/\i<(i0 (aV known vals l):Int))/\(gC (aV known vals l) known n).dead.length<=n:=by
 have o:=nU j k;obtain⟨r,p,a3,a4,a5,g⟩:=tG (sQ o);refine⟨a3,a4,λc h=>?_,λi a=>?_,by unfold gC;omega⟩
 ·have f:=a3 c h;cases hk:kn known c with
  |false=>rfl
  |true=>
   exfalso;have b:[c]∈rowsOf (aV known vals l) known n:=qw.2 (.inr (qo.2 ⟨c.toNat,qC.2 ⟨qA.2 i5,hk⟩,by rw[show((c.toNat:Nat):Int)=c by omega]⟩));exact AY b n (qh n eR) (qh _ eS) (λi a=>by rw[CS]at a;cases a) (λd q b=>by have:=a3 d b;omega) f.1 h
 ·unfold leftOf at a;rw[qC]at a;have:=a5 i a.1;have m:i<(i0 (aV known vals l):Int):=by simpa using a.2
  exact⟨this.1,m⟩
theorem Yu(s:∀e∈l,iI n w e)(k:jM n w l known vals){c:Int}(u:0<=c)(t:c<(n:Int))(f:kn known c=eS):c∈(gC (aV known vals l) known n).dead∨∃i,(i,c)∈mP (aV known vals l) known n:=by
 have j:=nU k s;obtain⟨_,_,_,_,_,g⟩:=tG (sQ j);have a:=CV (sQ j) n (qh n eR) (qh (rowsOf (aV known vals l) known n).length eS) jj jj c.toNat (by rw[qd,qc i9];simp);rw[show((c.toNat:Nat):Int)=c by omega]at a;rcases a with a|⟨i,a⟩
 ·exact .inl a
 ·refine .inr ⟨i,qC.2 ⟨a,?_⟩⟩;obtain⟨m,h⟩:=CW g i c a;by_cases p:i<(i0 (aV known vals l):Int)
  ·simpa using p
  ·exfalso;have r:=m.2;rw[rowsOf,qp,qy]at r;have q:(rowsOf (aV known vals l) known n).getD i.toNat []∈hO known n:=by rw[rowsOf,qd,qi q0,qc q0];exact qf _
   obtain⟨d,o,_,b⟩:=uI q;rw[o,qx]at h;subst h;unfold kn at f;rw[qj,b]at f;cases f
def Lj(n w:Nat)(known:List Bool)(vals:aI)(R:List fi):aI×aI:=
 il (gC R known n).dead.length known vals ((mP R known n).foldl (gQ R (gC R known n).dead.length) (fZ n (gC R known n).dead.length w (gC R known n).dead))
theorem Yv{nd:Nat}{s:aI×aI}{c:Int}(d:0<=c)(b:c.toNat<i0 s.1)(a:c.toNat<i0 s.2):
  aA (il nd known vals s).1 c.toNat=(if kn known c then aG nd else aA s.1 c.toNat)/\aA (il nd known vals s).2 c.toNat=if kn known c then aA vals c.toNat else aA s.2 c.toNat:=by
 unfold il kn;exact⟨Ba b,Ba a⟩
theorem Yw(K:∀e∈l,iI n w e)(hA:aQ n ahead)(z:jM n w l known vals)(S:km known vals l=eS):
  gF n w l ahead known vals (gC (aV known vals l) known n).dead (leftOf (aV known vals l) known n) (Lj n w known vals (aV known vals l)).1 (Lj n w known vals (aV known vals l)).2:=by
 have L:=nU z K;have U:=JN K z;have a:=λc h0 m o=>Yu (c:=c) K z h0 m o;obtain⟨E,P,O,f4,f5⟩:=GP K z;have b:∀j:Nat,j<i0 (aV known vals l)->(∃c,((j:Int),c)∈mP (aV known vals l) known n)∨(j:Int)∈leftOf (aV known vals l) known n:=λj W=>by
  cases hu:(gC (aV known vals l) known n).used.getD j eS with
  |true=>
   rcases CT n (qh n eR) (qh _ eS) j hu with h|⟨c,h⟩
   ·rw[CS]at h;cases h
   ·exact .inl ⟨c,qC.2 ⟨h,i9⟩⟩
  |false=>exact .inr (qC.2 ⟨(AX _ _ _).2 ⟨j,i4,by rw[rowsOf,qp,qy];omega,hu⟩,i9⟩)
 have s:∀e∈aV known vals l,∀c∈e.1,kn known c=eS:=λe u c M=>by
  obtain⟨e0,ab,rfl⟩:=qo.1 (qC.1 u).1;exact CO z e0 c M
 unfold Lj;obtain⟨R,f⟩:∃R,R=aV known vals l:=⟨_,rfl⟩
 rw[<-f]at L U E P O f4 f5 b a s⊢;obtain⟨D,V⟩:∃D,D=(gC R known n).dead:=⟨_,rfl⟩
 obtain⟨ST,r⟩:∃ST,ST=mP R known n:=⟨_,rfl⟩
 rw[<-V,<-r]at U a;rw[<-r]at b;rw[<-V]at E P O f5;rw[<-V,<-r];obtain⟨Y,du⟩:=IM (nd:=i0 D) (w:=w) E P D.length (qk _);rw[List.take_length]at Y du;obtain⟨A,keep,T,G⟩:=FD L U Y;generalize ad:ST.foldl (gQ R D.length) (fZ n D.length w D)=S0 at*;have X:=A.wl;have Q:=A.ml;have fr:∀c:Int,0<=c->c<(n:Int)->aA (il D.length known vals S0).1 c.toNat=(if kn known c then aG D.length else aA S0.1 c.toNat)/\aA (il D.length known vals S0).2 c.toNat=if kn known c then aA vals c.toNat else aA S0.2 c.toNat:=λc h0 m=>Yv h0 i5 i5
 have v:∀t k y (c:Int),0<=c->c<(n:Int)->kn known c=eS->ev t k D.length (il D.length known vals S0).1 (il D.length known vals S0).2 y c=ev t k D.length S0.1 S0.2 y c:=λt k y c h0 m o=>by
  have:=fr c h0 m;rw[o]at this;exact AZ this.1 this.2
 have B:∀t k y (c:Int),0<=c->c<(n:Int)->kn known c=eR->ev t k D.length (il D.length known vals S0).1 (il D.length known vals S0).2 y c=Gf.mul t (aJ (aA vals c.toNat) k):=λt k y c h0 m o=>by
  have:=fr c h0 m;rw[o,g0 rfl,g0 rfl]at this;unfold ev;rw[this.1,this.2,fR _ _ D.length λj _=>cg _ _,wz]
 have F:∀t k y i,(h:i<i0 D)->ev t k D.length (fZ n D.length w D).1 (fZ n D.length w D).2 y D[i]=y i:=λt k y i h=>by
  have:=du i h h;unfold ev;rw[this.1,this.2,Yt h,cg,Gf.mul_zero,zT]
 have H:∀i:Int,0<=i->i<(i0 R:Int)->R.getD i.toNat ([],[])∈R:=λi h0 m=>by
  rw[qd,qc i5];exact qf _
 refine⟨K,hA,z,S,E,P,O,⟨by simp[il,X],by simp[il,Q],λc M=>?_⟩,B,λt k y i h=>?_,λt k y o J e u=>?_,by rw[<-f];exact f4,λt k x o hx J c h0 m=>?_⟩
 ·have h:=fr (c:Int) i5 i5;rw[qj]at h;rw[h.1,h.2];cases o:kn known (c:Int)with
  |true=>
   rw[g0 i4,g0 rfl];refine⟨k8,?_⟩;have:=z.CN (c:=(c:Int)) i5 i5 o
   rwa [qj]at this
  |false=>
   rw[g9 jj,g9 jj];have:=A.rw_ (c:Int) (a _ i5 i5 o) i5 i5
   rwa [qj]at this
 ·have N:=E _ (qf h);rw[v t k y _ N.1 N.2 (O _ (qf h)),<-F t k y i h];exact AZ (keep _ (qf h) N.1).1 (keep _ (qf h) N.1).2
 ·rw[<-f]at u J;obtain⟨j,W,rfl⟩:=qD u;have Z:R.getD ((j:Int)).toNat ([],[])=R[j]:=by rw[qj,qd,qc W];rfl
  rcases b j W with⟨c,M⟩|hlf
  ·have:=T _ M t k y o;dsimp only at this;rw[Z]at this;unfold Sat at this⊢;rw[<-this];exact kl λd I=>v t k y d ((L _ u).cM d I).1 ((L _ u).cM d I).2 (s _ u d I)
  ·have:=J _ hlf
   rwa [Z]at this
 ·rw[<-f]at J;cases hkc:kn known c with
  |true=>rw[hx c h0 m hkc,B _ _ _ c h0 m hkc]
  |false=>
   rw[v _ _ _ c h0 m hkc];refine G t k x _ o (λd I h2 h3=>?_) (λp hp=>?_) c (a c h0 m hkc) h0 m
   ·obtain⟨i,hi,rfl⟩:=qD I;rw[F t k _ i hi,qd,qc hi];rfl
   ·have q:p∈mP R known n:=r▸hp;unfold mP at q;rw[qC]at q;have h2:p.1<(i0 R:Int):=by simpa using q.2
    have h3:0<=p.1:=by obtain⟨_,_,_,_,_,g⟩:=tG (rows:=rowsOf R known n) (n:=n) (by rw[f];exact sQ (f▸L));exact(CW g p.1 p.2 q.1).1.1
    exact J _ (H _ h3 h2)
end
def sv(n:Nat)(seed:Int)(l:List (Int×Row)):List fi:=l.map λx=>(cW n seed x.1,x.2)
def py(p:Int×Int×Int)(l:List (Int×Row)):aI:=qh p.2.1.toNat (aG p.2.2.toNat)++l.map zH
structure uJ (p:Int×Int×Int) (x:Int×Row):Prop where
 id:bJ x.1=eR
 len:i0 x.2=p.2.2.toNat
theorem aby{n:Nat}(d:1<=n)(c:n<=20)(seed id:Int):(cW n seed id).Pairwise (·<·):=by have a:=Oy n seed id;have b:=AQ d c seed id;rw[List.Nodup]at b;exact(a.and b).imp λ⟨d,c⟩=>i5
section
variable {p:Int×Int×Int} {seed:Int} {l:List (Int×Row)} {n w:Nat}
theorem ads(b:1<=n)(a:n<=20)(g:∀x∈l,uJ p x)(i:p.2.2.toNat=w):∀e∈sv n seed l,iI n w e/\e.1.Pairwise (·<·):=λe f=>by
 obtain⟨x,d,rfl⟩:=qo.1 f;exact⟨⟨λc h=>mj b a h,AQ b a seed x.1,by rw[<-i];exact(g x d).len⟩,aby b a seed x.1⟩
theorem Sx(c:bx p=eR)(e:(bu p).toNat=n)(d:∀x∈l,uJ p x):dC n (sv n seed l) (bn p.1.toNat p.2.1.toNat)=dE p seed (l.map qL):=by
 unfold dC dE sv;rw[g0 c,e];have:(l.map qL).filter bJ=l.map qL:=wD.2 λi b=>by
  obtain⟨x,a,rfl⟩:=qo.1 b;exact(d x a).id
 rw[this,w5,w5];rfl
theorem Sy(a:p.2.2.toNat=w):ic w (sv n seed l) (bn p.1.toNat p.2.1.toNat)=py p l:=by unfold ic py sv;rw[a,w5];simp[bn]
end
section
variable {n w:Nat} {l:List fi} {ahead:aI} {known:List Bool} {vals:aI} {dead left:au} {W M:aI}
theorem Vh(b:∀e∈l,iI n w e)(d:aQ n ahead)(f:jM n w l known vals)(a:km known vals l=eR)(j:bL (dC n l ahead)=n):¬kK n (dC n l ahead) (ic w l ahead):=λi=>by
 obtain⟨k,h,c⟩:=Su f b a;have g:=oy sP (uF d) (uG b) j i;exact c _ (((Bc b).1 g).2.2 k h).1
theorem gF.Qz(S:gF n w l ahead known vals dead left W M)(b:bL (dC n l ahead)=n){D:aI}(a:fD dead.length w (dq n dead.length (aV known vals l) W left ahead) (fE n w (aV known vals l) M left ahead) D):
  kK n (dC n l ahead) (ic w l ahead)/\tH dead.length known vals W M D=gg n (dC n l ahead) (ic w l ahead):=by
 have h:=lA sP (uF S.ahd) (uG S.eqs) b (S.Sw a);exact⟨h.2,h.1⟩
theorem gF.QA(S:gF n w l ahead known vals dead left W M)(a:bL (dC n l ahead)=n)(b:kK n (dC n l ahead) (ic w l ahead)):fD dead.length w (dq n dead.length (aV known vals l) W left ahead) (fE n w (aV known vals l) M left ahead) (dead.map λc=>aA (gg n (dC n l ahead) (ic w l ahead)) c.toNat):=
 S.OE (oy sP (uF S.ahd) (uG S.eqs) a b)
theorem gF.Sz(S:gF n w l ahead known vals dead left W M)(e:1<=w)(b:bL (dC n l ahead)=n):kK dead.length (dq n dead.length (aV known vals l) W left ahead) (fE n w (aV known vals l) M left ahead)↔kK n (dC n l ahead) (ic w l ahead):=by obtain⟨d,e2⟩:=oG S;have a:=S.II e b;exact⟨λc=>(S.Qz b (oy uH d e2 a c)).1,λc=>(lA uH d e2 a (S.QA b c)).2⟩
theorem GQ{a b:aI}(h:i0 a=i0 b):fD 0 w a b []↔∀r∈b,r=aG w:=by
 unfold fD;constructor
 ·rintro⟨_,_,h3⟩ r c;obtain⟨i,d,rfl⟩:=fa c;exact(h3 i i5).symm
 ·intro e;refine⟨i4,λr c=>(by cases c),λi d=>?_⟩;have:aA b i∈b:=mem_row;rw[e _ this];rfl
theorem abz(c:∀e∈l,e.1.Pairwise (·<·)):∀e∈aV known vals l,e.1.Pairwise (·<·):=λe b=>by
 obtain⟨d,a,rfl⟩:=qo.1 (qC.1 b).1;exact(c d a).filter _
theorem Vi:i0 (aV known vals l)<=i0 l:=by unfold aV;refine qY (qJ _ _) ?_;simp
theorem Vj{m:Nat}(c:∀e∈l,i0 e.1<=m):∀e∈aV known vals l,i0 e.1<=m:=λe b=>by
 obtain⟨d,a,rfl⟩:=qo.1 (qC.1 b).1;exact qY (qJ _ _) (c d a)
end
end
variable {t t2 e k:Nat} {z:aR} {by_:Nat} {α:Type} {h h0:Heap} {p q B:ak} {s v:Sl} {f:α->aR} {l l2:List α} {As:List HP}
section
variable {C:Ctx}
end
section
variable {C:Ctx}
theorem SB(c:C.Ok)(b:bO C.toxZ t e k z by_)(n:Nat){x y:Int}(g:x=n)(f:y=n)(j:n<=s.cap){K:Sl->Heap->Prop}(l:K ⟨s.ptr,n,n⟩ h):
  bG C.P (yt t (.slice s.ptr s.len s.cap) eH (dB (xz xF x)) (dB (xz xF y))) (.one (.sc .slc)) h K:=by
 subst g;subst f;have o:aF C.P (wH eR s.len s.cap eH (dB (xz xF (n:Int))) (dB (xz xF (n:Int)))) (0,n,n):=λw=>by
  have i:¬((n:Int)<0):=i5
  have x2:¬((s.cap:Int)<(n:Int)):=i5
  have x3:(n:Int)<=(s.cap:Int):=i5
  have d:(0:Int)<=(n:Int):=i5
  simp[wH,Instr.sliceBound,asIntOf,i,x2,x3,d]
 unfold bG yt;refine aj.bind (aj.always (aH (b.under c)) ?_);show aj C.P (xv t (.slice s.ptr s.len s.cap) eH (dB (xz xF (n:Int))) (dB (xz xF (n:Int)))) h _;unfold xv;refine aj.bind (aj.always (aH (b.under c)) ?_);refine aj.bind (aj.always o ?_);refine aj.bind (aj.always (b.size c) ?_);have m:(if n=0 then s.ptr else s.ptr.map (·.add (0*k)))=s.ptr:=by
  split
  ·rfl
  ·cases s.ptr with
   |none=>rfl
   |some a=>simp[Addr.add]
 refine aj.pure' ⟨⟨s.ptr,n,n⟩,?_,l⟩;show Value.slice (if n=0 then s.ptr else s.ptr.map (·.add (0*k))) (n-0) (n-0)=_;rw[m];rfl
end
namespace Gf
def pl(a b:Nat):Nat->Nat
 |0=>0
 |i+1=>if b/2^i%2=1 then pl a b i^^^(a*2^i)else pl a b i
def rd(p:Nat):Nat->Nat
 |0=>p
 |i+1=>if rd p i/2^(15-i)%2=1 then rd p i^^^(283*2^(7-i))else rd p i
end Gf
abbrev Bd:=Int×Sl×Sl×Int×Int×Int×Sl×Int
abbrev jV(y:Bd):aR:=[xz xF y.1,.slice y.2.1.ptr y.2.1.len y.2.1.cap,.slice y.2.2.1.ptr y.2.2.1.len y.2.2.1.cap,xz xF y.2.2.2.1,xz xF y.2.2.2.2.1,xz xF y.2.2.2.2.2.1,.slice y.2.2.2.2.2.2.1.ptr y.2.2.2.2.2.2.1.len y.2.2.2.2.2.2.1.cap,xz xF y.2.2.2.2.2.2.2]
abbrev CX(y:Bd):eX:=.agg (jV y).toArray
abbrev fj:Sl:=⟨eH,0,0⟩
abbrev ga(e:Int):Bd:=(e,fj,fj,0,0,0,fj,0)
variable {B:ak} {α:Type} {h0 h:Heap} {As:List HP} {e t t2 k by_:Nat} {s:Sl} {f:α->aR} {d:List α} {z:aR}
section
variable {C:Ctx}
end
variable {P:Program}
structure afU (P:Program) (t it:TypeId):Prop where
 u:∃f0 f1 f2:Field,P.underlying t=dB (.struct #[f0,f1,f2])/\f0.name≠ "_" /\f1.name≠ "_" /\f2.name≠ "_" /\f0.type=it/\f1.type=it/\f2.type=it/\f0.offset=0/\f1.offset=1/\f2.offset=2
 st:P.stoodInHeld t=eS
 i:P.underlying it=dB (.int .i64)
 a:aF P (isAgg it) eS
abbrev k3v(x:Int×Int×Int):eX:=.agg #[xz xF x.1,xz xF x.2.1,xz xF x.2.2]
structure afV (h:Heap) (r:Nat) (ks:List (Int×Int×Int)):Prop where
 ex:∃es clock,h[r]?=dB (.map es clock)/\es.toList.map (λe=>(e.key,e.val))=ks.map (λk=>(k3v k,Value.bool eR))
theorem Vk(a b:ByteArray):(a==b)=decide (a=b):=by
 cases a with
 |mk a=>
  cases b with
  |mk b=>
   have h:((ByteArray.mk a)==(ByteArray.mk b))=(a==b):=rfl;rw[h,Bool.eq_iff_iff,beq_iff_eq,decide_eq_true_eq,ByteArray.mk.injEq]
theorem QB(a:ByteArray):(a==a)=eR:=by rw[Vk,hU rfl]
theorem aan{a b:ByteArray}(h:a≠b):(a==b)=eS:=by rw[Vk,hZ h]
section
def pW(x:ByteArray)(v:α):List (ByteArray×α)->List (ByteArray×α)
 |[]=>[(x,v)]
 |(k,u)::t=>if k=x then(k,v)::t else(k,u)::pW x v t
def fF(x:ByteArray):List (ByteArray×α)->Option α
 |[]=>eH
 |(k,u)::t=>if k=x then dB u else fF x t
def Be(x:ByteArray):List (ByteArray×α)->List (ByteArray×α)
 |[]=>[]
 |(k,u)::t=>if k=x then t else(k,u)::Be x t
theorem JO{x:ByteArray}{v:α}:∀{l:List (ByteArray×α)},fF x l=dB v->(x,v)∈l
 |[],h=>j7
 |(k,u)::t,h=>by
  unfold fF at h;split at h
  ·rename_i a;injection h with h;subst a;subst h;exact qF
  ·exact qz _ (JO h)
theorem GR{x:ByteArray}:∀{l:List (ByteArray×α)},fF x l=eH↔∀p∈l,p.1≠x
 |[]=>by simp[fF]
 |(k,u)::t=>by
  unfold fF;have a:=GR (x:=x) (l:=t);by_cases h:k=x
  ·rw[g0 h];simp[h]
  ·rw[g9 h,a];simp[h]
theorem CY{x:ByteArray}(v:α):∀{l:List (ByteArray×α)},fF x l=eH->pW x v l=l++[(x,v)]
 |[],_=>rfl
 |(k,u)::t,h=>by
  unfold fF at h;split at h
  ·cases h
  ·rename_i a;unfold pW;rw[g9 a,CY v h];rfl
structure rO (h:Heap) (r:Nat) (g:α->eX) (kvs:List (ByteArray×α)):Prop where
 ex:∃es clock,h[r]?=dB (.map es clock)/\es.toList.map (λe=>(e.key,e.val))=kvs.map (λp=>(Value.string p.1,g p.2))/\∀e∈es.toList,e.born<clock
variable {P:Program} {h h':Heap} {r:Nat} {g:α->eX} {kvs:List (ByteArray×α)}
theorem rO.ac{p:ak}(d:rO h r g kvs)(c:aP p h h')(f:p r):rO h' r g kvs:=by obtain⟨b,a,i,e,h3⟩:=d.ex;exact⟨b,a,c.block f i,e,h3⟩
theorem rO.lt(b:rO h r g kvs):r<h.size:=by obtain⟨d,a,c,e,h3⟩:=b.ex;exact lt_of_block c
theorem GS{x:ByteArray}:∀{L:List MapEntry} {kvs:List (ByteArray×α)} {n:Nat},L.map (λe=>(e.key,e.val))=kvs.map (λp=>(Value.string p.1,g p.2))->fF x kvs=eH->
  v8 .string (.string x) L n=dB eH
 |[],_,_,_,_=>rfl
 |e::L,[],_,h,_=>m0
 |e::L,(k,u)::t,n,h,hg=>by
  simp only[wm,List.cons.injEq,Prod.mk.injEq]at h;obtain⟨⟨b,c⟩,h3⟩:=h;unfold fF at hg;split at hg
  ·cases hg
  ·rename_i a;have:(x==k)=eS:=aan λe=>a e.symm;simp only[v8,Instr.sameNow,b,this];exact GS h3 hg
theorem GU{x:ByteArray}{u:α}:∀{L:List MapEntry} {kvs:List (ByteArray×α)} {n:Nat},L.map (λe=>(e.key,e.val))=kvs.map (λp=>(Value.string p.1,g p.2))->fF x kvs=dB u->
  ∃j e,v8 .string (.string x) L n=dB (dB (n+j,g u))/\L[j]?=dB e/\e.key=.string x/\
   (∀(v:α) (f:MapEntry->MapEntry),(∀e,e.key=Value.string x->((f e).key,(f e).val)=(Value.string x,g v))->(L.modify j f).map (λe=>(e.key,e.val))=(pW x v kvs).map λp=>(Value.string p.1,g p.2))/\
   (L.eraseIdx j).map (λe=>(e.key,e.val))=(Be x kvs).map (λp=>(Value.string p.1,g p.2))
 |[],[],_,_,hg=>by cases hg
 |e::L,[],_,h,_=>m0
 |[],_::_,_,h,_=>m0
 |e::L,(k,w)::t,n,h,hg=>by
  simp only[wm,List.cons.injEq,Prod.mk.injEq]at h;obtain⟨⟨a,d⟩,h3⟩:=h;unfold fF at hg;by_cases b:k=x
  ·subst b;rw[g0 rfl]at hg;cases hg;refine⟨0,e,?_,i4,a,λv f c=>?_,?_⟩
   ·simp only[v8,Instr.sameNow,a,QB,d,wJ]
   ·simp only[pW,if_true,List.modify_zero_cons,wm,h3,c e a]
   ·simp only[Be,if_true,List.eraseIdx_cons_zero,h3]
  ·rw[g9 b]at hg;obtain⟨j,q,m,l,i,r,o⟩:=GU (n:=n+1) h3 hg;refine⟨j+1,q,?_,l,i,λv f c=>?_,?_⟩
   ·have:(x==k)=eS:=aan λe=>b e.symm;simp only[v8,Instr.sameNow,a,this];rw[m];congr 3;omega
   ·simp only[pW,b,if_false,List.modify_succ_cons,wm,r v f c,a,d]
   ·simp only[Be,b,if_false,List.eraseIdx_cons_succ,wm,o,a,d]
theorem MH{a:TypeId}{x:ByteArray}{b:Bool}(c:P.underlying a=dB .string)(n:Nat):aF P (Instr.checkKey b (n+1) a (.string x)) ():=by unfold Instr.checkKey;exact(aH c).bind .pure
theorem MI{t:Nat}{K:Option Nat->Heap->Prop}(g:α->eX)(a:∀r h',r=h.size->rO h' r g []->aP (λ_=>True) h h'->K (dB r) h'):
  bG P (vz t eH) (.one (.sc .mp)) h K:=by
 unfold bG vz;refine aj.bind (aj.mI (aj.pure' ⟨dB h.size,i4,a _ _ i4 ⟨#[],0,jj,i4,jj⟩ (aP.push _ _ _)⟩))
theorem rO.update{t p w:Nat}{x:ByteArray}(v:α)(D:rO h r g kvs)(s:P.underlying t=dB (.map p w))(c:P.underlying p=dB .string)
  {K:Unit->Heap->Prop} (q:∀h',rO h' r g (pW x v kvs)->aP (·≠r) h h'->h'.size=h.size->K () h'):
  aj P (yD t (.map (dB r)) (.string x) (g v)) h K:=by
 obtain⟨k,i,d,l,h3⟩:=D.ex;have m:=lt_of_block d;unfold yD;refine aj.bind (aj.always (aH s) ?_);refine aj.bind (aj.sI d (λ_ _ _ h=>j7) ?_);refine aj.bind (aj.always (MH c 9999) ?_);unfold Instr.findKey;refine aj.bind (aj.bind (aj.always (aH c) ?_));have ac:∀o,aP (·≠r) h (h.setIfInBounds r o):=λo=>aP.jb d λG=>G i4;cases hg:fF x kvs with
 |none=>
  rw[GS l hg];refine aj.pure' ?_;refine aj.Io d (λ_ _ _ h=>j7) ?_;refine q _ ⟨_,_,by rw[wu,g0 i4,g0 m],?_,?_⟩ (ac _) jj
  ·rw[CY v hg];simp[l]
  ·intro e a;rcases Array.mem_push.1 (wo.1 a)with a|rfl
   ·exact Nat.lt_succ_of_lt (h3 e (wo.2 a))
   ·exact vV _
 |some u=>
  obtain⟨j,e,B,z,y,E,_⟩:=GU (x:=x) (n:=0) l hg;rw[B];refine aj.pure' ?_;have a:k[0+j]?=dB e:=by rw[we,<-Array.getElem?_toList];exact z
  dsimp only;rw[a];simp only[qS,Option.getD_some,y];refine aj.bind ?_;unfold Instr.keyThatStays;have F:Instr.sameBits 10000 (.string x) (.string x)=eR:=by simp only[Instr.sameBits,QB]
  rw[F,g0 rfl];refine aj.pure' ?_;refine aj.Io d (λ_ _ _ h=>j7) ?_;refine q _ ⟨_,_,by rw[wu,g0 i4,g0 m],?_,?_⟩ (ac _) jj
  ·rw[Array.toList_modify,we];exact E v _ λ_ _=>rfl
  ·intro H b;rw[Array.toList_modify]at b;obtain⟨n,A,rfl⟩:=List.mem_iff_getElem.1 b;rw[List.getElem_modify];have f:n<i0 k.toList:=by simpa using A
   have:=h3 k.toList[n] (qf f);split<;>exact this
end
def lC{α:Type}(r:Nat)(g:α->eX)(a:List (ByteArray×α)):HP:=
 ⟨λh q=>rO h r g a/\q r,λx b=>⟨x.1.ac b x.2,x.2⟩,λx c=>⟨x.1,c _ x.2⟩⟩
variable {h':Heap} {r:Nat} {g:α->eX} {kvs:List (ByteArray×α)}
theorem aa.adt{t:Nat}(H:aa B h0 h As)(g:α->eX){K:Option Nat->Heap->Prop}(c:∀r h',aa B h0 h' (As++[lC r g []])->K (dB r) h'):bG P (vz t eH) (.one (.sc .mp)) h K:=
 MI g λr h' d a b=>c r h' (H.comp (.one (any b) ⟨a,i5,a.lt⟩))
theorem aa.map(H:aa B h0 h As)(i:Nat)(a:As[i]?=dB (lC r g kvs)):rO h r g kvs:=(H.at i a).1
theorem aa.adu{t d l:Nat}{x:ByteArray}(v:α)(H:aa B h0 h As)(i:Nat)(f:As[i]?=dB (lC r g kvs))(k:P.underlying t=dB (.map d l))(a:P.underlying d=dB .string)
  {K:Unit->Heap->Prop} (p:∀h',aa B h0 h' (As.set i (lC r g (pW x v kvs)))->K () h'):aj P (yD t (.map (dB r)) (.string x) (g v)) h K:=
 (H.map i f).update v k a λh' j n s=>p h' (H.step i f λq c o=>⟨n.mono λb _ m e=>m (e▸c.2),j,j.lt,.inl c.2⟩)
theorem SC{x y:ByteArray}(a:y≠x):∀{l:List (ByteArray×α)},fF y (Be x l)=fF y l
 |[]=>rfl
 |(k,u)::t=>by
  unfold Be;split
  ·rename_i e;show fF y t=if k=y then dB u else fF y t
   rw[g9 λh=>a (by rw[<-h,e])]
  ·show(if k=y then dB u else fF y (Be x t))=if k=y then dB u else fF y t
   rw[SC a]
theorem JP{x y:ByteArray}{v:α}:∀{l:List (ByteArray×α)},fF y (l++[(x,v)])=(fF y l).or (if x=y then dB v else eH)
 |[]=>by
  show(if x=y then dB v else eH)=_;rfl
 |(k,u)::t=>by
  show(if k=y then dB u else fF y (t++[(x,v)]))=(if k=y then dB u else fF y t).or _;split
  ·rfl
  ·exact JP
variable {m n:Nat} {st:Bool}
structure SD (h:Heap) (r m:Nat) (g:α->eX) (kvs:List (ByteArray×α)) (n:Nat) (st:Bool):Prop where
 ex:∃es clock seen,h[m]?=dB (.map es clock)/\es.toList.map (λe=>(e.key,e.val))=kvs.map (λp=>(Value.string p.1,g p.2))/\(∀e∈es.toList,e.born<clock)/\h[r]?=dB (.mapIter (dB m) clock seen clock)/\(es.filter λe=>!seen.contains e.born).size=n/\(st=eR->∃e∈es.toList,seen.back?=dB e.born)
theorem SD.ac{p:ak}(f:SD h r m g kvs n st)(c:aP p h h')(k:p r)(b:p m):SD h' r m g kvs n st:=by obtain⟨e,a,seen,l,i,h3,j,d⟩:=f.ex;exact⟨e,a,seen,c.block b l,i,h3,c.block k j,d⟩
def FF(r m:Nat)(g:α->eX)(a:List (ByteArray×α))(n:Nat)(d:Bool):HP:=
 ⟨λh q=>SD h r m g a n d/\q r/\q m,λx c=>⟨x.1.ac c x.2.1 x.2.2,x.2⟩,λx b=>⟨x.1,b _ x.2.1,b _ x.2.2⟩⟩
theorem aa.adv{t l j:Nat}(H:aa B h0 h As)(i:Nat)(c:As[i]?=dB (lC m g kvs))(e:P.underlying t=dB (.map l j)){K:rI}
  (o:∀r n h',aa B h0 h' (As.set i (FF r m g kvs n eS))->K (.pointer (dB ⟨r,0,eH⟩)) h'):aj P (xw t (.map (dB m))) h K:=by
 obtain⟨p,a,b,s,h3⟩:=(H.map i c).ex;have d:=lt_of_block b;unfold xw;refine aj.bind (aj.always (aH e) ?_);refine aj.bind (aj.sI b (λ_ _ _ h=>j7) ?_);refine aj.bind (aj.pure' ?_);refine(aj.bind (aj.mI (aj.pure' ?_)));refine o h.size _ _ (H.step i c λq f k=>⟨(aP.push _ _ _).mono λ_ _ _=>trivial,⟨p,a,#[],?_,s,h3,jj,i4,λh=>j7⟩,⟨jj,.inr (qk _)⟩,i9,.inl f.2⟩);rw[Array.getElem?_push_lt d,<-vx d,b]
theorem abA(a:Array MapEntry)(seen:Array Nat){e:MapEntry}(b:e∈a.filter λe=>!seen.contains e.born):(a.filter λx=>!(seen.push e.born).contains x.born).size<(a.filter λe=>!seen.contains e.born).size:=by
 have d:(a.filter λx=>!(seen.push e.born).contains x.born)=(a.filter λe=>!seen.contains e.born).filter λx=>decide (x.born≠e.born):=by
  rw[Array.filter_filter];congr 1;funext x;rw[Array.contains_push];by_cases h:x.born=e.born
  ·simp[h]
  ·simp[h]
 rw[d];generalize (a.filter λe=>!seen.contains e.born)=L at b;refine Nat.lt_of_le_of_ne (Array.size_filter_le ..) λh=>?_;have c:=congrArg List.length (Array.toList_filter (xs:=L) (p:=λx=>decide (x.born≠e.born)));rw[Array.length_toList,h,<-Array.length_toList]at c;exact absurd i4 (ii (List.length_filter_eq_length_iff.1 c.symm e (wo.2 b)))
theorem aa.abB{ty:TypeId}(H:aa B h0 h As)(i:Nat)(I:As[i]?=dB (FF r m g kvs n st)){K:rI}
  (U:aa B h0 h (As.set i (lC m g kvs))->K (.tuple #[.bool eS]) h)
  (N:∀k u h' O,(k,u)∈kvs->O<n->aa B h0 h' (As.set i (FF r m g kvs O eR))->K (.tuple #[.bool eR,.string k,g u]) h'):aj P (Instr.next (.pointer (dB ⟨r,0,eH⟩)) eS ty) h K:=by
 obtain⟨⟨b,a,seen,t,F,a3,a4,a5,X⟩,Z,Y⟩:=H.at i I;have T:=lt_of_block a4;have hm:=lt_of_block t;have E:r≠m:=λe=>by rw[e,t]at a4;cases a4
 unfold Instr.next;refine aj.bind (aj.sI a4 (λ_ _ _ h=>j7) ?_);refine aj.bind (aj.sI t (λ_ _ _ h=>j7) ?_);have M:(!seen.isEmpty&&!b.isEmpty&&b.all λx=>decide (x.born>=a))=eS:=by
  rw[Bool.eq_false_iff];intro h;rw[qu,qu,Array.all_eq_true_iff_forall_mem]at h;obtain⟨⟨_,N⟩,h3⟩:=h;have h0:0<b.size:=by
   rcases Nat.eq_zero_or_pos b.size with h0|h0
   ·simp[Array.isEmpty,h0]at N
   ·exact h0
  have:=h3 _ (Array.getElem_mem h0);have:=a3 b[0] jj;simp at*;omega
 dsimp only;rw[M,g9 i6];have w:((b.filter λe=>!seen.contains e.born).filter λx=>decide (x.born<a))=b.filter λe=>!seen.contains e.born:=Array.filter_eq_self.2 λx d=>by
  have:=a3 x (wo.2 (Array.mem_filter.1 d).1);simpa using this
 have y:((b.filter λe=>!seen.contains e.born).filter λx=>decide (x.born>=a))=#[]:=by rw[Array.filter_eq_empty_iff];intro x d;have:=a3 x (wo.2 (Array.mem_filter.1 d).1);simp;omega
 rw[w,y,Array.append_empty];obtain⟨L,A⟩:∃L,L=b.filter λe=>!seen.contains e.born:=⟨_,rfl⟩
 rw[<-A]at a5⊢;have v:rO h m g kvs:=⟨b,a,t,F,a3⟩
 have over:K (.tuple #[.bool eS]) h:=U (H.fM i I λq f=>⟨v,f.2.2⟩);have c:∀j,(Q:j<L.size)->aj P (do setObj r (.mapIter (dB m) a (seen.push L[j].born) a);Pure.pure (Value.tuple #[.bool eR,L[j].key,L[j].val])) h K:=λj Q=>by
  have o:L[j]∈L:=Array.getElem_mem Q;have z:∀x∈L,x∈b:=λx d=>by rw[A]at d;exact(Array.mem_filter.1 d).1
  have s:L[j]∈b.toList:=wo.2 (z _ o);have J:(L[j].key,L[j].val)∈kvs.map (λp=>(Value.string p.1,g p.2)):=by rw[<-F];exact qo.2 ⟨_,s,i4⟩
  obtain⟨⟨k,u⟩,D,G⟩:=qo.1 J;injection G with e1 e2
  refine aj.bind (aj.Io a4 (λ_ _ _ h=>j7) (aj.pure' ?_));rw[<-e1,<-e2];refine N k u _ _ D (by rw[<-a5];exact A▸abA b seen (by rw[<-A];exact o)) (H.step i I λq f S=>⟨aP.jb a4 λW=>W f.2.1,⟨b,a,_,?_,F,a3,?_,i4,λ_=>⟨_,s,jj⟩⟩,⟨i9,.inl f.2.1⟩,i9,.inl f.2.2⟩)
  ·rw[wu,g9 E];exact t
  ·rw[wu,g0 i4,g0 T]
 by_cases h0:L.size=0
 ·have:L=#[]:=Array.eq_empty_of_size_eq_zero h0;subst this;refine aj.bind (aj.xW ⟨λ_=>?_,λh=>?_⟩)
  ·have V:((if(#[]:Array MapEntry).isEmpty=eR then #[eH]else #[])++Array.map dB (#[]:Array MapEntry))[0]?=dB eH:=jj
   rw[V];exact aj.pure' over
  ·simp[Question.forced]at h
 ·have l:L.isEmpty=eS:=by simp[Array.isEmpty,h0]
  rw[l,g9 i6,Array.empty_append];refine aj.bind (aj.xW ⟨λ_=>?_,λ_ k=>?_⟩)
  ·rw[vE,vx i5];exact c 0 i5
  ·have R:(Question.mapNext (L.map dB).size).cut k<L.size:=by rw[Array.size_map];exact yK _ i5
   rw[vE,vx R];exact c _ R
theorem aa.Yx(H:aa B h0 h As)(i:Nat)(v:As[i]?=dB (FF r m g kvs n eR)){K:rI}
  (w:∀k u,(k,u)∈kvs->K (.tuple #[.string k,g u]) h):aj P (xx (.pointer (dB ⟨r,0,eH⟩))) h K:=by
 obtain⟨⟨f,a,seen,t,s,a3,a4,a5,o⟩,z,y⟩:=H.at i v;obtain⟨e,j,l⟩:=o rfl;unfold xx;refine aj.bind (aj.sI a4 (λ_ _ _ h=>j7) ?_);dsimp only;rw[l];dsimp only;refine aj.bind (aj.sI t (λ_ _ _ h=>j7) ?_);dsimp only;rw[show(a !=a)=eS by simp,g9 i6];refine aj.bind (aj.pure' ?_);cases hf:f.find? (λx=>x.born==e.born)with
 |none=>
  rw[Array.find?_eq_none]at hf;have:=hf e (wo.1 j);simp at this
 |some x=>
  have q:x∈f.toList:=wo.2 (Array.mem_of_find?_eq_some hf);have d:(x.key,x.val)∈kvs.map (λp=>(Value.string p.1,g p.2)):=by rw[<-s];exact qo.2 ⟨_,q,i4⟩
  obtain⟨⟨k,u⟩,b,c⟩:=qo.1 d;injection c with e1 e2
  refine aj.pure' ?_;rw[<-e1,<-e2];exact w k u b
variable {e2:Nat}
section
variable {C:Ctx}
theorem aa.b2b(r:C.Ok)(H:aa B h0 h As)(i:Nat){s:Sl}{x:UInt8}{l:aM}(z:As[i]?=dB (an e s 1 aB (x::l)))(A:∃i,C.T.get t=dB i/\i.cj=.slice e2)(D:∃i,C.T.get e2=dB i/\i.cj=.int .u8)
  {K:Sl->Heap->Prop} (L:∀h',aa B h0 h' (As.set i (pm s 1 aB (x::l)))->K s h'):bG C.P (convert t t (.slice s.ptr s.len s.cap)) (.one (.sc .slc)) h K:=by
 obtain⟨S,G,F⟩:=A;obtain⟨i3,a3,Q⟩:=D;have w:C.P.underlying t=dB (.slice e2):=by have:=r.cj G;rw[F]at this;exact jo this
 have u3:C.P.underlying e2=dB (.int .u8):=by have:=r.cj a3;rw[Q]at this;exact zZ this
 have E:Own h e s 1 aB (x::l):=H.own i z;rcases E.head with⟨_,_,h1⟩|⟨b,rest,hp,hb,_,_⟩
 ·cases h1
 unfold bG convert;refine aj.bind (aj.always (aH w) ?_);refine aj.bind (aj.always (aH w) ?_);have p:∀N:Sl,N.ptr=dB ⟨b,0,eH⟩->(.slice s.ptr s.len s.cap:eX)=.slice (dB ⟨b,0,eH⟩) s.len s.cap:=λ_ _=>by rw[hp]
 rw[p s hp];dsimp only;refine aj.bind (aj.always (aH u3) ?_);rw[beq_self_eq_true];dsimp only;unfold markStringish;obtain⟨g,d⟩:∃g,g=((x::l).flatMap aB++rest).toArray:=⟨_,rfl⟩
 rw[<-d]at hb;have n:shapeOf h b=dB (e,g.size):=by unfold shapeOf;rw[hb]
 refine aj.bind (aj.bind (aj.Ui ?_));dsimp only;rw[n];refine aj.Jz (c:=g) (e:=e) hb i4 λh' M v m=>?_;refine aj.pure' ⟨s,(p s hp).symm,L _ (H.step i z λq u o=>?_)⟩;have a:q b:=u.2 b ⟨0,hp⟩;obtain⟨f,m⟩:=m;refine⟨⟨by rw[v];exact qk _,λc _ I=>M c λe=>I (by rw[e];exact a)⟩,u.1.len,λj y O=>⟨b,0,hp,⟨by rw[v];exact o b a,.inl a⟩,?_⟩⟩;obtain⟨pre,post,J,R⟩:=AF (f:=aB) (k:=1) (λ_=>rfl) (x::l) j y O;refine pP (e:=e) (fr:=f) (pre:=pre) (post:=post++rest) ?_ i5;rw[m,d,J];simp
end
section
open Go.RowKit Go.ChangeShapes Go.WideShapes Go.Joins Go.Deep
section
variable {H:Type} {enc:TypeId×eX->H} {P:Program} {W W':World}
theorem Yy{w c:World}(a:cX w c)(d:aP (λb=>b<w.heap.size) w.heap c.heap):Below w.heap.size w c:=
 ⟨a.os,a.tape,a.output,d.1,λk e=>d.2 k e e⟩
theorem BQ(f:laidOutB P=eR)(g:Below W.heap.size W W'):∀{ts:List TypeId} {vs:aR} {ds:List (DataW H)} {a:List MemPlace},
  (∀t∈ts,P.readableRec t=eR/\t<P.types.size)->DataW.TrodAll enc P W 0 (λ_=>eR) eR ts vs ds a->(∀x∈a,x.block<W.heap.size)->DataW.TrodAll enc P W' 0 (λb=>decide (b<W.heap.size)) eR ts vs ds a
 |[],[],[],a,_,h,_=>h
 |t::ts,v::vs,d::ds,a,hr,⟨p,q,h1,h2,e⟩,hlt=>by
  subst e;exact⟨p,q,Below.trod f (hr t jj).1 (hr t jj).2 h1 g λx c=>hlt x l5,BQ f g (λu i=>hr u (by simp[i])) h2 λx c=>hlt x l5,i4⟩
 |[],_::_,_,_,_,h,_=>h.elim
 |[],[],_::_,_,_,h,_=>h.elim
 |_::_,[],_,_,_,h,_=>h.elim
 |_::_,_::_,[],_,_,h,_=>h.elim
theorem Yz{f:Func}{s:ChangeSpec}{args:Array eX}{ds:List (DataW H)}{a:List MemPlace}{rt:TypeId}(j:s.vars=[])(e:DataW.Whole enc P f.params.toList s.vars eS W args.toList ds [] a)
  (b:s.fn H (ds++[])={results:=[.lit (.bool eR)],args:=ds}) (o:laidOutB P=eR) (i:Below W.heap.size W W') (m:∀t∈f.params.toList,P.readableRec t=eR/\t<P.types.size)
  (c:f.resultTypes=#[rt]) (g:P.underlying rt=dB .bool):s.post enc P f eS eR eS eS W args (.bool eR) W':=by
 obtain⟨p,q,n,k,h3,r,u⟩:=id e;have d:=e.lt;rw[j]at k;have l:q=[]:=k;subst l;simp only[qH]at h3;subst h3;refine⟨ds,[],a,[],a,[],e,?_,?_,?_,i.frame _,λh=>j7⟩
 ·rw[b,c];exact trodAll_mk1 (shut_bool g eR)
 ·rw[b];exact BQ o i m n d
 ·rw[b,j];rfl
theorem OF(w:World)(a:Addr):w.cell? a=cellOf w.heap a:=rfl
theorem Vl{h:Heap}{a:Addr}{v:eX}(c:cellOf h a=dB v):a=⟨a.block,a.off,eH⟩:=by
 obtain⟨b,o,s⟩:=a;cases s with
 |none=>rfl
 |some s=>
  unfold cellOf at c;cases hb:h[b]? with
  |none=>rw[hb]at c;cases c
  |some x=>rw[hb]at c;cases x<;>simp at c
theorem adw{α:Type}{f:α->eX}{h:Heap}{a:Addr}{len cap:Nat}{l:List α}(k:i0 l=len)(d:∀i (c:i<i0 l),cellOf h (a.add i)=dB (f l[i])):Seq h (λb=>b<h.size) ⟨dB a,len,cap⟩ 1 (λx=>[f x]) l:=by refine⟨k.symm,λi x j=>?_⟩;obtain⟨c,e⟩:=List.getElem?_eq_some_iff.1 j;have h0:=d 0 i5;rw[add_zero]at h0;have g:=Vl h0;refine⟨a.block,a.off,by rw[<-g],sf h0,?_,trivial⟩;have:=d i c;rw[g,add_eq]at this;rw[Nat.mul_one,add_eq,wJ,this,e]
theorem FG{t e:TypeId}{v:eX}{d:DataW H}{u:List MemPlace}(j:P.underlying t=dB (.slice e))(m:P.underlying e=dB (.int .i64))(o:P.cellsOf e=1)
  (k:∃p n c,v=.slice p n c) (h:DataW.Trod enc P W 0 (λ_=>eR) eR t v d u):∃(s:Sl) (l:au),v=.slice s.ptr s.len s.cap/\Seq W.heap (λb=>b<W.heap.size) s 1 az l:=by
 obtain⟨g,q⟩:=h;obtain⟨p,n,c,rfl⟩:=k;rcases open_ints j m o q with⟨h1,_⟩|⟨a,len,cap,zs,h1,_,hle,_,hz,_,hcell,_⟩
 ·simp[Value.cells]at h1;obtain⟨rfl,rfl,rfl⟩:=h1;exact⟨⟨eH,0,0⟩,[],i4,Seq.nil _ _ _ _ _ _⟩
 ·simp[Value.cells]at h1;obtain⟨rfl,rfl,rfl⟩:=h1;simp only[if_true]at hz;refine⟨⟨dB a,n,c⟩,zs.take n,i4,adw (f:=λx=>xz xF x) i9 λi r=>?_⟩;simp at r;rw[<-OF,hcell i i5];simp[qd,qc (show i<i0 zs by omega)]
theorem rP{r:_root_.Go.Reach}{b:Nat}{t e:TypeId}{v:eX}(a:P.underlying t=dB (.slice e))(h:Value.okWide P W r b t v):∃p n c,v=.slice p n c:=by simp only[Value.okWide,a,Cell.okWide]at h;cases v<;>simp_all [Cell.ok]
end
end
variable {H:Type}
section
variable {enc:TypeId×eX->H}
end
theorem Vm{P:Program}(h:P.funcs.any Func.goes=eS)(f:FuncId):P.goes f=eS:=by
 have b:∀g:FuncId,(P.funcs[g]?).any Func.goes=eS:=λg=>by
  cases hg:P.funcs[g]? with
  |none=>rfl
  |some x=>
   show Func.goes x=eS;obtain⟨a,e⟩:=Array.getElem?_eq_some_iff.1 hg;cases hx:Func.goes x with
   |false=>rfl
   |true=>
    have:P.funcs.any Func.goes=eR:=Array.any_eq_true.2 ⟨g,a,by rw[e];exact hx⟩;rw[h]at this;cases this
 unfold Program.goes;rw[h,Bool.and_false,Bool.or_false];simp only[b];simp
theorem OG{P:Program}{c:OpenClaim}(h:P.funcs.any Func.goes=eS):c.goesBy P=eS:=by
 have a:∀f,P.goes f=eS:=Vm h;unfold OpenClaim.goesBy Program.goesAt Program.goesFrom;have b:(P.funcNamed c.func).any P.goes=eS:=by
  cases P.funcNamed c.func with
  |none=>rfl
  |some f=>exact a f
 have h3:P.inits.toList.any P.goes=eS:=wL.2 λf _=>by rw[a f];exact Bool.false_ne_true
 rw[b,h3];cases c.start<;>rfl
end Go.Qw
