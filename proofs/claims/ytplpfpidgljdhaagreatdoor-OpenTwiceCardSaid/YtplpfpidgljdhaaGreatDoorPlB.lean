/- Lemmas for the proof of the law; no condition. -/
import Derived.Test.YtplpfpidgljdhaaGreatDoorPlA
import Derived.Shelf.SlSortCmp.NoneTotal
import Derived.ProofKit
import Derived.Deep.Matrix
import Derived.Carry
import Derived.Lib.SmallJoins
import Derived.Handed
import Derived.HandedShaped
import Derived.ChangeMaps5
import Derived.SevenTiedAt
set_option linter.unusedVariables false
set_option linter.unusedSimpArgs false
open Option renaming some -> dB
open Bool renaming true -> eH, false -> eL
open Go renaming Value -> eR
open List renaming length -> ii
open Array renaming getElem?_setIfInBounds -> yC
open List renaming getElem_append_left -> vf, mem_take_iff_getElem -> ym, nodup_range -> vB, range -> qz, range' -> zJ, range'_succ -> yo, replicate -> qi
open Nat renaming add_sub_cancel -> vO
open Go.Value renaming int -> xG
open Go.IntKind renaming i64 -> xM
open Prod renaming fst -> qq, snd -> zi
open Go.Builtin renaming append_ -> zD
open Go.Instr renaming findNow -> xm, lookup -> xB, makeMap -> xl, mapUpdate -> yY
namespace Go.Qw
open Go.Proofs
abbrev gZ:=FloatKind.format .f64
theorem CZ{P:Program}{a b c:Nat}(h:gZ.add a b=dB c):aH P (Op.Complex.arith .add .f64 a b) c:=λw=>by
 have h':(FloatKind.format .f64).add a b=dB c:=h;unfold Op.Complex.arith Op.floatArith;simp only[h'];rfl
theorem Da{P:Program}{a b c:Nat}(h:gZ.sub a b=dB c):aH P (Op.Complex.arith .sub .f64 a b) c:=λw=>by
 have h':(FloatKind.format .f64).sub a b=dB c:=h;unfold Op.Complex.arith Op.floatArith;simp only[h'];rfl
theorem uC{P:Program}{a b c:Nat}(h:gZ.mul a b=dB c):aH P (Op.Complex.arith .mul .f64 a b) c:=λw=>by
 have h':(FloatKind.format .f64).mul a b=dB c:=h;unfold Op.Complex.arith Op.floatArith;simp only[h'];rfl
theorem xS{P:Program}{op:BinOp}(h:op=.add∨op=.sub∨op=.mul)(t:TypeId)(x y:Operand)(a b:eR):aH P (eqGuard op t x y a b) ():=λw=>by
 rcases h with rfl|rfl|rfl<;>rfl
theorem acB{P:Program}{t:TypeId}{x y:Operand}{a b c d e f:Nat}(h:gZ.add a c=dB e)(g:gZ.add b d=dB f):jY P .add t x y (.complex .f64 a b) (.complex .f64 c d) (.complex .f64 e f):=
 (xS (.inl i0) t x y _ _).bind (show aH P (Op.complexOp .add .f64 a b c d) _ from(CZ h).bind ((CZ g).bind λ_=>rfl))
theorem acC{P:Program}{t:TypeId}{x y:Operand}{a b c d e f:Nat}(h:gZ.sub a c=dB e)(g:gZ.sub b d=dB f):jY P .sub t x y (.complex .f64 a b) (.complex .f64 c d) (.complex .f64 e f):=
 (xS (.inr (.inl i0)) t x y _ _).bind (show aH P (Op.complexOp .sub .f64 a b c d) _ from(Da h).bind ((Da g).bind λ_=>rfl))
theorem acD{P:Program}{t:TypeId}{x y:Operand}{a b c d e f k j h i:Nat}(q:gZ.mul a c=dB k)(o:gZ.mul b d=dB j)(h3:gZ.sub k j=dB e)(l:gZ.mul a d=dB h)(p:gZ.mul b c=dB i)(n:gZ.add h i=dB f):
  jY P .mul t x y (.complex .f64 a b) (.complex .f64 c d) (.complex .f64 e f):=by
 refine(xS (.inr (.inr i0)) t x y _ _).bind ?_;have m:aH P (Op.Complex.product a b c d) (e,f):=
  (uC q).bind ((uC o).bind ((Da h3).bind ((uC l).bind ((uC p).bind ((CZ n).bind λ_=>rfl)))))
 show aH P (Op.complexOp .mul .f64 a b c d) _;have g:∀x,aH P (Op.Complex.conv .f64 x .f64) x:=λx w=>by unfold Op.Complex.conv;rw[f9 rfl];rfl
 unfold Op.complexOp;refine(g a).bind ((g b).bind ((g c).bind ((g d).bind ?_)));refine aH.bind (v:=(e,f)) ?_ ?_
 ·exact m
 ·exact(g e).bind ((g f).bind λ_=>rfl)
section
open Go.Sort
theorem acE{w a:World}(n:de w a)(f:aN (λb=>b<w.heap.size) w.heap a.heap):∃q c,a=Sort.grow (w.drewN q) c:=by
 refine⟨a.drawn-w.drawn,a.heap.extract w.heap.size a.heap.size,?_⟩;have h:w.heap++a.heap.extract w.heap.size a.heap.size=a.heap:=by
  apply yN;intro i;have p:=f.1;by_cases d:i<w.heap.size
  ·rw[Array.getElem?_append_left d,f.2 i d d]
  ·rw[Array.getElem?_append_right i4,Array.getElem?_extract];by_cases t:i<a.heap.size
   ·rw[f9 i4,show w.heap.size+(i-w.heap.size)=i by omega]
   ·rw[g0 i4,Array.getElem?_eq_none i4]
 obtain⟨r,u,dr,os,out⟩:=w;obtain⟨g,o,s,c,e⟩:=a;obtain⟨l,k,j,m⟩:=n;simp only at l k j m h;subst l;subst k;subst j;simp only[Sort.grow,World.drewN,World.mk.injEq];refine⟨h.symm,trivial,i4,trivial,trivial⟩
theorem Kg{α:Type}[Inhabited α]{enc:α->aR}{k:Nat}(b:∀x,ii (enc x)=k)(l:List α):flatK enc k l.toArray=(l.flatMap enc).toArray:=by
 refine ext_get! (by simp[di b]) λt m=>?_;have a:t<ii l*k:=n9
 have g:0<k:=by
  rcases Nat.eq_zero_or_pos k with h|h
  ·subst h;simp at a
  ·exact h
 rw[get_flatK _ _ _ t kt];have c:t/k<ii l:=(Nat.div_lt_iff_lt_mul g).2 a;obtain⟨pre,post,n,o⟩:=FK b l (t/k) l[t/k] (qc c);have e:t%k<k:=Nat.mod_lt _ g;have i:t=t/k*k+t%k:=by rw[vT];exact(Nat.div_add_mod t k).symm
 have f:(l.flatMap enc)[t]?=dB ((enc l[t/k])[t%k]'(by rw[b];exact e)):=by
  rw[n,qn,qh i4,ql (by rw[b];omega)];have:t-ii pre=t%k:=i4
  rw[this,qc]
 have j:l.toArray[t/k]! =l[t/k]:=n7
 rw[j];have d:t<ii (l.flatMap enc):=by rw[di b];exact a
 rw[getElem!_pos (enc l[t/k]) (t%k) (by rw[b];exact e),getElem!_pos _ t p0];rw[qc d]at f;simp only[List.getElem_toArray];exact(Option.some.inj f).symm
theorem Tp{α:Type}[Inhabited α]{enc:α->aR}{k:Nat}(g:∀x,ii (enc x)=k){w:World}{e:TypeId}{b:Nat}{rest:aR}{l:List α}(c:w.heap[b]?=dB (.cells (l.flatMap enc++rest).toArray e (0,0))):HoldsK enc k w b 0 l.toArray:=by
 intro j d;rw[Kg g]at d⊢;have a:j<ii (l.flatMap enc):=p0
 refine⟨?_,by simp[World.frozen?,c]⟩;have f:(l.flatMap enc++rest).toArray[0+j]?=dB (l.flatMap enc)[j]:=by rw[zY,zP,ql a,qc a]
 simp only[World.cell?,c];rw[getElem!_pos _ j kt];simpa using f
theorem VQ{α:Type}[Inhabited α]{enc:α->aR}{k:Nat}(b:∀x,ii (enc x)=k)(l a:List α)(rest:aR)(e:ii a=ii l):putCells id 0 (flatK enc k a.toArray) (l.flatMap enc++rest).toArray=(a.flatMap enc++rest).toArray:=by
 rw[Kg b];have d:=di b l;have c:=di b a;rw[e]at c;apply yN;intro i;simp only[putCells,Array.getElem?_mapIdx,zP,wZ,zY,Nat.zero_le,true_and,Nat.sub_zero];by_cases f:i<ii l*k
 ·rw[ql i4,ql i4,qc i4,qc i4,qQ,f9 i4];rw[getElem!_pos _ i (by rw[wZ];omega)];simp
 ·rw[qh i4,qh i4,d,c];cases rest[i-ii l*k]? with
  |none=>rfl
  |some x=>rw[qQ,g0 i4]
theorem Ll{α:Type}[Inhabited α]{P:Program}{id_ g:FuncId}{enc:α->aR}{k:Nat}{cf:α->α->Int}(E:∀x,ii (enc x)=k)
  (L:∀(f cap:Nat) (l:List α) (w:World),CmpLays P g #[] enc k cf f 0 l.length w->HoldsK enc k w f 0 l.toArray->f<w.heap.size->ii l<4611686018427387904->
   Calls P id_ #[.slice (dB ⟨f,0,none⟩) l.length cap,.func (.func g) #[] #[]] w λe q=>e=.returned (.tuple #[])/\∃n os,q=sortWorldK enc k w f 0 n (l.mergeSort λx y=>!(ltOf cf) y x).toArray os)
  (H:∀(p:bZ) (cap:Nat) (w:World),Calls P id_ #[.slice p 0 cap,.func (.func g) #[] #[]] w λe q=>e=.returned (.tuple #[])/\q=w)
  (K:∀x y h,an P g #[.agg (enc x).toArray,.agg (enc y).toArray] h λv h'=>v=xG xM (cf x y)/\aN (λb=>b<h.size) h h')
  {e:TypeId} {s:Sl} {l:List α} {h:Heap} (D:Own h e s k enc l) (F:ii l<2^40):
  an P id_ #[.slice s.ptr s.len s.cap,.func (.func g) #[] #[]] h λv h'=>v=.tuple #[]/\Own h' e s k enc (l.mergeSort λx y=>!(ltOf cf) y x)/\aN (λb=>¬s.on b) h h':=by
 intro w o;have a:=D.len;rcases D.head with⟨h1,h2,h3⟩|⟨b,rest,h1,h2,h3,h4⟩
 ·subst h3;rw[a,h1];refine(H none s.cap w).mono ?_;rintro B q ⟨rfl,rfl⟩;have I:(([]:List α).mergeSort λx y=>!(ltOf cf) y x)=[]:=i9
  exact⟨_,i0,de.refl _,i0,by rw[I];exact⟨a,.inl ⟨h1,h2,i0⟩⟩,by rw[<-o];exact aN.refl _ _⟩
 ·rw[h1,a];have u:w.heap[b]?=dB (.cells (l.flatMap enc++rest).toArray e (0,0)):=by rw[o];exact h2
  have i:CmpLays P g #[] enc k cf b 0 l.length w:=λm os J _ x y=>by
   have:=K x y _ (sortWorldK enc k w b 0 m J os) i0;refine(show Calls P g (#[Value.agg (enc x).toArray,.agg (enc y).toArray]++#[]) _ _ from ?_);rw[Array.append_empty];refine this.mono ?_;rintro B q ⟨v,rfl,G,rfl,z⟩;exact⟨i0,acE G z⟩
  refine(L b s.cap l w i (Tp E u) (lt_of_block u) i4).mono ?_;rintro B q ⟨rfl,n,os,rfl⟩;have r:=lt_of_block u;have t:ii (l.mergeSort λx y=>!(ltOf cf) y x)=ii l:=List.length_mergeSort l;have d:∀j,j<h.size->(sortWorldK enc k w b 0 n (l.mergeSort λx y=>!(ltOf cf) y x).toArray os).heap[j]?=if b=j then dB (.cells ((l.mergeSort λx y=>!(ltOf cf) y x).flatMap enc++rest).toArray e (0,0))else h[j]?:=by
   intro j A;unfold sortWorldK;rw[Sort.heap_grow_old _ _ (by simpa[putRowK,Sort.putRow,Sort.mapBlock,Sort.ahead,o]using A)];simp only[putRowK,Sort.putRow,Sort.mapBlock,Sort.ahead,Array.getElem?_modify];by_cases c:b=j
   ·subst c;rw[f9 i0,f9 i0,u,qQ,Sort.onCells,VQ E _ _ _ t]
   ·rw[g0 c,g0 c,o]
  rw[o]at r;refine⟨_,i0,⟨i0,i0,i0,Nat.le_add_right _ _⟩,i0,⟨by rw[t];exact a,.inr ⟨b,rest,h1,?_,h3,h4⟩⟩,?_,?_⟩
  ·rw[d b r,f9 rfl]
  ·simp[sortWorldK,putRowK,Sort.grow,Sort.putRow,Sort.mapBlock,Sort.ahead,o]
  ·intro j A z;rw[d j A,g0 λc=>z ⟨0,by rw[h1,c]⟩]
end
def cQ(n:Int):Nat:=
 if n=0 then 0 else
  let m:=n.natAbs;let e:=m.log2
  (if n<0 then 2^63 else 0)+(1023+e)*2^52+(m-2^e)*2^(52-e)
structure BZ where
 ax:Nat
 ay:Nat
 sx:Nat
 sy:Nat
 left:Int
 leg:Int
 second:Bool
def oL:Nat:=4607182418800017408
def fs0:BZ:=⟨0,0,oL,0,1,1,eL⟩
def nO(a b:Nat):Nat:=(gZ.add a b).getD 0
def ago(a b:Nat):Nat:=(gZ.sub a b).getD 0
def rH(a b:Nat):Nat:=(gZ.mul a b).getD 0
def tx(a b:Nat):Nat:=ago (rH a 0) (rH b oL)
def ty(a b:Nat):Nat:=nO (rH a oL) (rH b 0)
def BZ.on(s:BZ):BZ:=
 if s.left-1>0 then{s with ax:=nO s.ax s.sx,ay:=nO s.ay s.sy,left:=s.left-1}
 else{ax:=nO s.ax s.sx,ay:=nO s.ay s.sy,sx:=tx s.sx s.sy,sy:=ty s.sx s.sy,leg:=if s.second then s.leg+1 else s.leg,left:=if s.second then s.leg+1 else s.leg,second:=!s.second}
def jr:Nat->BZ
 |0=>fs0
 |n+1=>(jr n).on
def BZ.ok(s:BZ):Bool:=
 (gZ.add s.ax s.sx).isSome&&(gZ.add s.ay s.sy).isSome&&(gZ.mul s.sx 0).isSome&&(gZ.mul s.sy oL).isSome&&(gZ.sub (rH s.sx 0) (rH s.sy oL)).isSome&&(gZ.mul s.sx oL).isSome&&(gZ.mul s.sy 0).isSome&&(gZ.add (rH s.sx oL) (rH s.sy 0)).isSome&&decide (1<=s.left)&&decide (s.left<=100)&&decide (1<=s.leg)&&decide (s.leg<=100)
structure VR where
 x:Int
 y:Int
 dx:Int
 dy:Int
 left:Int
 leg:Int
 turns:Int
def agp:VR:=⟨0,0,1,0,1,1,0⟩
def VR.on(s:VR):VR:=
 if s.left-1=0 then
  {x:=s.x+s.dx,y:=s.y+s.dy,dx:=-s.dy,dy:=s.dx,leg:=if(s.turns+1)%2=0 then s.leg+1 else s.leg,left:=if(s.turns+1)%2=0 then s.leg+1 else s.leg,turns:=s.turns+1}
 else{s with x:=s.x+s.dx,y:=s.y+s.dy,left:=s.left-1}
def ge:Nat->VR
 |0=>agp
 |n+1=>(ge n).on
theorem afL:∀n,n<64->(jr n).ok=eH:=j5
theorem aep:∀n,n<64->((jr n).ax==cQ (ge n).x&&(jr n).ay==cQ (ge n).y&&decide (-4<=(ge n).x)&&decide ((ge n).x<=4)&&decide (-4<=(ge n).y)&&decide ((ge n).y<=4))=eH:=j5
theorem aeq:∀i,i<9->∀j,j<9->gZ.sub (cQ ((i:Nat)-4:Int)) (cQ ((j:Nat)-4:Int))=dB (cQ ((i:Int)-(j:Int))):=j5
theorem aer:∀i,i<17->gZ.mul (cQ ((i:Nat)-8:Int)) (cQ ((i:Nat)-8:Int))=dB (cQ (((i:Nat)-8:Int)*((i:Nat)-8:Int))):=j5
theorem aes:∀i,i<9->∀j,j<9->gZ.add (cQ (((i:Nat):Int)*(i:Nat))) (cQ (((j:Nat):Int)*(j:Nat)))=dB (cQ (((i:Nat):Int)*(i:Nat)+((j:Nat):Int)*(j:Nat))):=j5
theorem VS:∀m,m<129->∀n,n<129->gZ.order (cQ (m:Nat)) (cQ (n:Nat))=dB (compare m n):=j5
theorem Tq{seq a c:Int}{b:aP}(d:ii b<=48):dP (jT seq a c b)=none:=by unfold dP jT;rw[CO i5 i5 m0];dsimp only;rw[g0 (by rintro⟨h,_⟩;exact absurd h i5)]
theorem xT{m:aA}{c:aP}(h:c∈aO m):dP c=none:=by unfold aO at h;obtain⟨i,_,rfl⟩:=qx.1 h;exact Tq i7
theorem Tr(m n:aA):(aO n).filterMap (gY m)=[]:=by rw[List.filterMap_eq_nil_iff];intro c a;unfold gY;rw[xT a]
def ltC(a b:dG):Prop:=mv a b=eH/\oF a b=eL
theorem PG{l:List dG}(h:l.Pairwise ltC):rG (l.mergeSort mv)=l:=by
 have j:l.mergeSort mv=l:=(LL MO (h.imp λh=>h.1) (cb.refl _)).symm;rw[j];unfold rG;have d:(qz l.length).filter (se l)=qz l.length:=by
  refine wY.2 λk d=>?_;have d:=qC.1 d;unfold se;by_cases h0:k=0
  ·rw[g9 h0];rfl
  ·have:=(zp.1 h (k-1) k i4 d i4).2;have m:l.getD k uA=l[k]:=by rw[qd,qc d];rfl
   have g:l.getD (k-1) uA=l[k-1]'(by omega):=by rw[qd,qc i4];rfl
   rw[m,g];have e:oF l[k] (l[k-1]'(by omega))=eL:=by unfold oF at this⊢;rw[decide_eq_false_iff_not]at this⊢;rintro⟨a,b,c⟩;exact this ⟨a.symm,b.symm,c.symm⟩
   rw[e,w4,Bool.or_true]
 rw[d];apply List.ext_getElem?;intro i;rw[qL];by_cases f:i<ii l
 ·rw[List.getElem?_range f,qc f];show dB (l.getD i uA)=_;rw[qd,qc f];rfl
 ·rw[qB i7,qB i4];rfl
theorem Kh{α:Type}{R:α->α->Prop}(tr:∀a b c,R a b->R b c->R a c){l:List α}(h:∀i (k:i+1<ii l),R (l[i]'(by omega)) l[i+1]):l.Pairwise R:=by
 have g:∀d i (f:i+(d+1)<ii l),R (l[i]'(by omega)) l[i+(d+1)]:=by
  intro d
  induction d with
  |zero=>exactλi f=>h i f
  |succ d ih=>exactλi f=>tr _ _ _ (ih i i4) (h (i+(d+1)) i4)
 refine zp.2 λi j k f m=>?_;have:=g (j-i-1) i i4;have e:i+(j-i-1+1)=j:=i4
 simp only[e]at this;exact this
theorem Ki{α:Type}{R:α->α->Prop}{l:List α}(h:l.Pairwise R)(i:Nat)(a:i+1<ii l):R (l[i]'(by omega)) l[i+1]:=zp.1 h i (i+1) i4 a i4
theorem hJ{α:Type}{l:List α}{i:Nat}(d:α)(h:i<ii l:=by omega):l.getD i d=l[i]:=by rw[qd,qc h];rfl
theorem lV(n a b:Int):fo n a b=eH↔a<=n/\n<=b:=by unfold fo;rw[qw,decide_eq_true_eq,decide_eq_true_eq]
theorem VT(l:aB)(most:Int):oD l most=eH↔l.Pairwise (·<·)/\∀x∈l,0<=x/\x<=most:=by
 unfold oD;rw[qY];constructor
 ·intro h;have g:∀i (d:i<ii l),(0<=l[i]/\l[i]<=most)/\(i=0∨l.getD (i-1) 0<l[i]):=λi d=>by
   have:=h i (qC.2 d);unfold jD at this;rw[hJ 0 d,qw,lV,zU,decide_eq_true_eq,decide_eq_true_eq]at this;exact this
  refine⟨Kh (R:=λa b:Int=>a<b) (λa b c f e=>Int.lt_trans f e) λi d=>?_,λx j=>?_⟩
  ·rcases(g (i+1) d).2 with h0|h0
   ·omega
   ·rw[vO,hJ 0]at h0;exact h0
  ·obtain⟨i,d,rfl⟩:=qD j;exact(g i d).1
 ·rintro⟨f,e⟩ i d;have d:=qC.1 d;unfold jD;rw[hJ 0 d,qw,lV,zU,decide_eq_true_eq,decide_eq_true_eq];refine⟨e _ (qf d),?_⟩;cases i with
  |zero=>exact .inl i0
  |succ i=>exact .inr (by rw[vO,hJ 0];exact Ki f i d)
theorem MX(a b c:ByteArray)(e:fd a b=eH)(d:fd b c=eH):fd a c=eH:=EF _ _ _ e d
theorem cY(m:aA):bs m=eH↔kK m=eH/\m.drives.Pairwise (·<·)/\(∀k∈m.drives,0<=k/\k<=63)/\m.objs.length<=12/\(∀e∈m.objs,gC m e=eH)/\m.objs.Pairwise (λa b=>fd a.name b.name=eH)/\m.objs.Pairwise (λa b=>a.object≠b.object):=by
 unfold bs;rw[qw,qw,qw,VT,decide_eq_true_eq,qY];have n:(∀i∈qz m.objs.length,oE m i=eH)↔(∀e∈m.objs,gC m e=eH)/\m.objs.Pairwise (λa b=>fd a.name b.name=eH)/\m.objs.Pairwise (λa b=>a.object≠b.object):=by
  constructor
  ·intro h;have r:∀i (l:i<m.objs.length),gC m m.objs[i]=eH/\(i=0∨fd (oC m.objs (i-1)).name m.objs[i].name=eH)/\∀y∈m.objs.take i,y.object≠m.objs[i].object:=λi l=>by
    have:=h i (qC.2 l);unfold oE at this;rw[nK l,qw,qw,zU,decide_eq_true_eq,wF,wH]at this;exact⟨this.1,this.2.1,λy q=>by have:=this.2.2 y q;simpa using this⟩
   refine⟨λe t=>?_,Kh (R:=λa b:dm=>fd a.name b.name=eH) (λa b c p o=>MX _ _ _ p o) λi l=>?_,zp.2 λi j l s u=>?_⟩
   ·obtain⟨i,l,rfl⟩:=qD t;exact(r i l).1
   ·rcases(r (i+1) l).2.1 with h0|h0
    ·omega
    ·rw[vO,nK]at h0;exact h0
   ·refine(r j s).2.2 m.objs[i] ?_;exact ym.2 ⟨i,i4,i0⟩
  ·rintro⟨p,o,h3⟩ i l;have l:=qC.1 l;unfold oE;rw[nK l,qw,qw,zU,decide_eq_true_eq,wF,wH];refine⟨p _ (qf l),?_,λy q=>?_⟩
   ·cases i with
    |zero=>exact .inl i0
    |succ i=>exact .inr (by rw[vO,nK];exact Ki o i l)
   ·obtain⟨j,s,rfl⟩:=ym.1 q;have:=zp.1 h3 j i i4 l i4;simpa using this
 rw[n];constructor
 ·rintro⟨a,⟨b,c⟩,d,e,f,g⟩;exact⟨a,b,c,d,e,f,g⟩
 ·rintro⟨a,b,c,d,e,f,g⟩;exact⟨a,⟨b,c⟩,d,e,f,g⟩
theorem fp(m:aA):kK m=eH↔(1<=m.seq/\m.seq<=2147483647)/\(0<=m.next/\m.next<=16777216)/\bS m.p=eH/\0<=m.extra/\m.extra<=16:=by unfold kK;rw[qw,qw,qw,lV,lV,lV]
theorem jF(m:aA)(x:dm):gC m x=eH↔ly x.name=eH/\(0<=x.object/\x.object<m.next)/\(0<=x.length/\x.length<=m.p.1*m.p.2.2*8)/\(∀t∈x.tries,0<=t/\t<=15)/\(x.tries.length:Int)=countP m.p x.length:=by
 unfold gC;rw[qw,qw,qw,qw,lV,lV,qY,decide_eq_true_eq];simp only[lV];constructor
 ·rintro⟨a,b,c,d,e⟩;exact⟨a,⟨b.1,i4⟩,c,d,e⟩
 ·rintro⟨a,b,c,d,e⟩;exact⟨a,⟨b.1,i4⟩,c,d,e⟩
theorem si{m:aA}(h:bs m=eH):m.drives.Nodup:=((cY m).1 h).2.1.imp λh e=>i4
theorem js{m:aA}(h:bs m=eH):∀k∈m.drives,0<=k/\k<64:=λk a=>by have:=((cY m).1 h).2.2.1 k a;omega
theorem MY:∀{l:aB} {a b:Int},l.Pairwise (·<·)->(∀k∈l,a<=k/\k<b)->a<=b->(ii l:Int)<=b-a
 |[],a,b,_,_,h=>i7
 |x::l,a,b,hp,hl,h=>by
  obtain⟨e,d⟩:=zH.1 hp;have f:=hl x qP;have:=MY (a:=x+1) (b:=b) d (λk c=>⟨by have:=e k c;omega,(hl k (qH _ c)).2⟩) i4;rw[zh];omega
theorem im{m:aA}(h:bs m=eH):ii m.drives<=64:=by have:=MY ((cY m).1 h).2.1 (js h) i5;omega
theorem PH(b:ByteArray):∀n i r,b.size-i=n->ByteArray.toList.loop b i r=r.reverse++b.data.toList.drop i:=by
 have c:ii b.data.toList=b.size:=rfl;intro n
 induction n with
 |zero=>
  intro i r h;rw[ByteArray.toList.loop,g0 i4,List.drop_eq_nil_of_le (by rw[c];omega),qF]
 |succ n ih=>
  intro i r h;have a:i<b.size:=i4
  rw[ByteArray.toList.loop,f9 a,ih (i+1) _ i4];have d:b.data.toList.drop i=b.get! i::b.data.toList.drop (i+1):=by rw[List.drop_eq_getElem_cons (by rw[c];exact a)];congr 1;show _=b.data[i]!;rw[getElem!_pos b.data i a,Array.getElem_toList]
  rw[d,List.reverse_cons,qn];rfl
theorem toList_eq(x:ByteArray):x.toList=x.data.toList:=by unfold ByteArray.toList;rw[PH x _ 0 [] rfl];rfl
theorem Ts{a b:ByteArray}(h:a.toList=b.toList):a=b:=by rw[toList_eq,toList_eq]at h;cases a;cases b;congr;exact Array.toList_inj.1 h
def gx(r:aP×Bool)(n:Int):aP×(aP×Bool):=if n<=ii r.1 then(r.1.take n.toNat,(r.1.drop n.toNat,r.2))else([],(r.1,eH))
def iK(l:aP):Int:=l.foldl (λn x=>n*256+(x.toNat:Int)) 0
def bP(r:aP×Bool)(k:Int):Int×(aP×Bool):=(iK (gx r k).1,(gx r k).2)
def fP:Nat->aP×Bool->aB×(aP×Bool)
 |0,r=>([],r)
 |n+1,r=>if r.2 then([],r)else((bP r 1).1::(fP n (bP r 1).2).1,(fP n (bP r 1).2).2)
def iL(p:Int×Int×Int)(r:aP×Bool):dm×(aP×Bool):=
 let a:=bP r 1;let b:=gx a.2 a.1;let c:=bP b.2 3;let d:=bP c.2 2;let e:=fP (countP p d.1).toNat d.2
 (⟨⟨b.1.toArray⟩,c.1,d.1,e.1⟩,e.2)
def iS(p:Int×Int×Int):Nat->aP×Bool->List dm×(aP×Bool)
 |0,r=>([],r)
 |n+1,r=>if r.2 then([],r)else((iL p r).1::(iS p n (iL p r).2).1,(iS p n (iL p r).2).2)
def Bd(b:aP):aA×(aP×Bool):=
 let a:=bP (b,eL) 4;let c:=bP a.2 4;let k:=bP c.2 1;let h:=bP k.2 1;let z:=bP h.2 1;let x:=bP z.2 1;let n:=bP x.2 1;let d:=fP n.1.toNat n.2;let o:=bP d.2 1;let e:=iS (k.1,h.1,z.1) o.1.toNat o.2
 (⟨a.1,c.1,(k.1,h.1,z.1),x.1,d.1,e.1⟩,e.2)
theorem uD(l:aP)(x:UInt8):iK (l++[x])=iK l*256+(x.toNat:Int):=by simp[iK]
theorem Tt(n:Int)(k:Nat):ce n (k+1)=ce (n/256) k++[b8 n]:=by
 unfold ce;rw[zV,qM];congr 1
 ·refine List.map_congr_left λi a=>?_;have a:=qC.1 a;have e:8*(k+1-1-i)=8+8*(k-1-i):=i4
  have b:(0:Int)<2^(8*(k-1-i)):=Int.pow_pos i5;rw[e,Int.pow_add,wO _ i4,wO _ (Int.le_of_lt b),<-Int.ediv_ediv_of_nonneg i5];rfl
 ·simp
theorem Kj:∀(k:Nat) (n:Int),0<=n->n<256^k->iK (ce n k)=n
 |0,n,h0,h1=>by simp at h1;simp[ce,iK];omega
 |k+1,n,h0,h1=>by
  rw[Tt,uD,Kj k (n/256) i4 (by rw[Int.pow_succ]at h1;omega),tm];omega
theorem MZ(l s:aP)(f:Bool):gx (l++s,f) l.length=(l,(s,f)):=by unfold gx;rw[f9 (by simp only[qt];omega)];simp
theorem ri(k:Nat)(n:Int)(s:aP)(f:Bool)(b:0<=n)(a:n<256^k:=by omega):bP (ce n k++s,f) k=(n,(s,f)):=by unfold bP;have:=MZ (ce n k) s f;rw[cD]at this;rw[this,Kj k n b a]
theorem my(n:Int)(s:aP)(f:Bool)(a:0<=n:=by omega)(b:n<256:=by omega):bP (b8 n::s,f) 1=(n,(s,f)):=by
 have e:ce n 1=[b8 n]:=by simp[ce]
 have:=ri 1 n s f a;rw[e]at this;exact this
theorem FV(s:aP):∀(l:aB),(∀x∈l,0<=x/\x<256)->fP l.length (l.map b8++s,eL)=(l,(s,eL))
 |[],_=>rfl
 |x::l,h=>by
  have a:=h x qP;have b:=FV s l λy c=>h y (qH _ c);show fP (ii l+1) (b8 x::(l.map b8++s),eL)=_;unfold fP;rw[my x _ _ a.1 a.2,b];rfl
theorem Zn{m:aA}{x:dm}(g:gC m x=eH)(r:m.next<=16777216)(n:m.p.1*m.p.2.2*8<65536)(s:aP):iL m.p (fI x++s,eL)=(x,(s,eL)):=by
 obtain⟨a,h,h3,b,o⟩:=(jF m x).1 g;have q:1<=x.name.size/\x.name.size<=12:=by unfold ly at a;rw[qw,qw,decide_eq_true_eq,decide_eq_true_eq]at a;exact a.2
 have j:fI x++s=b8 x.name.size::(x.name.data.toList++(ce x.object 3++(ce x.length 2++(x.tries.map b8++s)))):=by simp[fI,qn]
 have l:x.name.data.toList.length=x.name.size:=by rw[Array.length_toList];rfl
 have c:=MZ x.name.data.toList (ce x.object 3++(ce x.length 2++(x.tries.map b8++s))) eL;rw[l]at c;have d:=ri 3 x.object (ce x.length 2++(x.tries.map b8++s)) eL h.1;have e:=ri 2 x.length (x.tries.map b8++s) eL h3.1;have k:=FV s x.tries λy f=>⟨(b y f).1,by have:=(b y f).2;omega⟩
 have i:(countP m.p x.length).toNat=x.tries.length:=i4
 unfold iL;rw[j,my _ _ _];simp only[c];rw[show((3:Nat):Int)=3 from rfl]at d;rw[show((2:Nat):Int)=2 from rfl]at e;simp only[d,e,i,k]
theorem Na{m:aA}(a:m.next<=16777216)(b:m.p.1*m.p.2.2*8<65536)(s:aP):∀(l:List dm),(∀e∈l,gC m e=eH)->iS m.p l.length (l.flatMap fI++s,eL)=(l,(s,eL))
 |[],_=>rfl
 |x::l,h=>by
  have c:=Na a b s l λy d=>h y (qH _ d);rw[zj,qn];show iS m.p (ii l+1) _=_;unfold iS;rw[Zn (h x qP) a b,c];simp
theorem Be{m:aA}(a:bs m=eH):Bd (bJ m)=(m,([],eL)):=by
 obtain⟨k,x,d,r,j,_⟩:=(cY m).1 a;obtain⟨⟨s,v⟩,⟨n1,n2⟩,f,o,x2⟩:=(fp m).1 k;obtain⟨⟨w,l⟩,⟨u,n⟩,t,i⟩:=(cg m.p).1 f;have q:ii m.drives<=64:=im a;have g:m.p.1*m.p.2.2*8<65536:=by have:m.p.1*m.p.2.2<=16*24:=Int.mul_le_mul l i i4 i4;omega
 have h:bJ m=ce m.seq 4++(ce m.next 4++(b8 m.p.1::b8 m.p.2.1::b8 m.p.2.2::b8 m.extra::b8 m.drives.length::(m.drives.map b8++(b8 m.objs.length::(m.objs.flatMap fI++[]))))):=by unfold bJ;rw[f9 a];simp
 have c:=ri 4 m.seq (ce m.next 4++(b8 m.p.1::b8 m.p.2.1::b8 m.p.2.2::b8 m.extra::b8 m.drives.length::(m.drives.map b8++(b8 m.objs.length::(m.objs.flatMap fI++[]))))) eL i4;have b:=ri 4 m.next (b8 m.p.1::b8 m.p.2.1::b8 m.p.2.2::b8 m.extra::b8 m.drives.length::(m.drives.map b8++(b8 m.objs.length::(m.objs.flatMap fI++[])))) eL n1;rw[show((4:Nat):Int)=4 from rfl]at c b;have a3:=FV (b8 m.objs.length::(m.objs.flatMap fI++[])) m.drives λy e=>⟨(d y e).1,by have:=(d y e).2;omega⟩
 have a4:=Na (m:=m) n2 g [] m.objs j;unfold Bd;rw[h];simp only[c,b];rw[my _ _ _];simp only[];rw[my _ _ _];simp only[];rw[my _ _ _];simp only[];rw[my _ _ _];simp only[];rw[my _ _ _];simp only[qk,a3];rw[my _ _ _];simp only[qk];rw[show((m.p.1,m.p.2.1,m.p.2.2):Int×Int×Int)=m.p from i0,a4]
def ke(b:aP):Option aA:=if(Bd b).2.2||(decide (ii b=0)||!decide (b=bJ (Bd b).1))then none else dB (Bd b).1
theorem VU{m:aA}(h:bJ m≠[]):bs m=eH:=by refine Decidable.byContradiction λa=>h ?_;unfold bJ;rw[g0 a]
theorem Nb{m:aA}(h:bs m=eH):bJ m≠[]:=by unfold bJ;rw[f9 h];intro e;have:=congrArg List.length e;simp[cD]at this
theorem Bf{b:aP}{m:aA}:ke b=dB m↔bs m=eH/\b=bJ m:=by
 unfold ke;constructor
 ·intro h;split at h
  ·cases h
  ·rename_i a;cases h;simp only[zU,decide_eq_true_eq,wF,decide_eq_false_iff_not,not_or,Classical.not_not]at a;refine⟨VU ?_,a.2.2⟩;rw[<-a.2.2];intro e;exact a.2.1 o0
 ·rintro⟨c,rfl⟩;rw[Be c];simp[Nb c]
abbrev fe:=aB×Row
def cL(x:Int->UInt8):aB->UInt8
 |[]=>0
 |c::l=>x c^^^cL x l
theorem kf{x y:Int->UInt8}:∀{l:aB},(∀c∈l,x c=y c)->cL x l=cL y l
 |[],_=>rfl
 |c::l,h=>by rw[cL,cL,h c i9,kf λd a=>h d m5]
theorem Ff(x:Int->UInt8)(p:Int->Bool):∀l,cL x l=cL x (l.filter p)^^^cL x (l.filter λc=>!p c)
 |[]=>by simp[cL]
 |c::l=>by
  rw[cL,Ff x p l];cases h:p c<;>simp only[zq,h,yb,w4,if_true,zf,if_false,cL]<;>ac_rfl
theorem uE(x:Int->UInt8){c:Int}:∀{l:aB},l.Nodup->c∈l->cL x l=x c^^^cL x (l.filter λd=>!decide (d=c))
 |[],_,h=>j8
 |d::l,hd,h=>by
  rw[yk]at hd;rcases qV.1 h with rfl|h
  ·have:l.filter (λd=>!decide (d=c))=l:=wY.2 λe f=>by
    have:e≠c:=λa=>hd.1 (a▸f);simp[this]
   rw[zq];simp only[decide_true,yb,zf,if_false];rw[this,cL]
  ·have b:d≠c:=λa=>hd.1 (a▸h);rw[zq,f9 m4,cL,cL,uE x hd.2 h];ac_rfl
theorem Nc(x y:Int->UInt8):∀l,cL (λc=>x c^^^y c) l=cL x l^^^cL y l
 |[]=>by simp[cL]
 |c::l=>by rw[cL,cL,cL,Nc x y l];ac_rfl
theorem Db:∀{x:Int->UInt8} {l:aB},(∀c∈l,x c=0)->cL x l=0
 |_,[],_=>rfl
 |x,c::l,h=>by rw[cL,h c i9,Db λd a=>h d m5];rfl
def cM(V:aI)(a:Row)(l:aB):Row:=l.foldl (λa c=>cO 1 (aC V c.toNat) a) a
theorem jG{V:aI}{m:Nat}:∀{l:aB} {a:Row},ii a=m->(∀c∈l,ii (aC V c.toNat)=m)->ii (cM V a l)=m
 |[],a,h,_=>h
 |c::l,a,h,hv=>by
  rw[cM,zx];exact jG (l:=l) (by rw[bV (by rw[hv c i9,h])];exact h) λd b=>hv d m4
theorem FW{V:aI}{m:Nat}(j:Nat):∀{l:aB} {a:Row},ii a=m->(∀c∈l,ii (aC V c.toNat)=m)->aJ (cM V a l) j=aJ a j^^^cL (λc=>aJ (aC V c.toNat) j) l
 |[],a,_,_=>by simp[cM,cL]
 |c::l,a,h,hv=>by
  have b:ii (aC V c.toNat)=ii a:=by rw[hv c i9,h]
  rw[cM,zx];have:=FW (V:=V) j (l:=l) (a:=cO 1 (aC V c.toNat) a) (by rw[bV b];exact h) λd e=>hv d p8;rw[cM]at this;rw[this,cH b,Gf.one_mul,cL];ac_rfl
def Sat(t:UInt8)(k:Nat)(x:Int->UInt8)(e:fe):Prop:=cL x e.1=Gf.mul t (aJ e.2 k)
structure iM (n w:Nat) (e:fe):Prop where
 cS:∀c∈e.1,0<=c/\c<(n:Int)
 nodup:e.1.Nodup
 len:ii e.2=w
def kn(known:List Bool)(c:Int):Bool:=known.getD c.toNat eL
def fh(known:List Bool)(vals:aI)(e:fe):fe:=(e.1.filter λc=>!kn known c,cM vals e.2 (e.1.filter λc=>kn known c))
structure jH (n w:Nat) (l:List fe) (known:List Bool) (vals:aI):Prop where
 klen:ii known=n
 vlen:ii vals=n
 row:∀c:Nat,c<n->ii (aC vals c)=if known.getD c eL then w else 0
 sound:∀t k x,k<w->(∀e∈l,Sat t k x e)->∀c:Int,0<=c->c<(n:Int)->kn known c=eH->x c=Gf.mul t (aJ (aC vals c.toNat) k)
variable {n w:Nat} {l:List fe}
section
variable {known:List Bool} {vals:aI}
theorem Tu(n w:Nat)(l:List fe):jH n w l (qi n eL) (qi n []):=by
 refine⟨i9,i9,λc b=>?_,λt k x e f c h0 d a=>?_⟩
 ·rw[bE k9];simp[qd,b]
 ·exfalso;rw[kn,qd,List.getElem?_replicate]at a;split at a<;>simp at a
theorem jH.Dc(h:jH n w l known vals){c:Int}(d:0<=c)(b:c<(n:Int))(a:kn known c=eH):ii (aC vals c.toNat)=w:=by have:=h.row c.toNat i4;rw[kn]at a;rw[a]at this;simpa using this
theorem jH.Ap(h:jH n w l known vals){e:fe}(b:iM n w e):iM n w (fh known vals e):=
 ⟨λc d=>b.cS c (qI.1 d).1,b.nodup.filter _,jG b.len λc d=>by
  have a:=qI.1 d;exact h.Dc (b.cS c a.1).1 (b.cS c a.1).2 a.2⟩
theorem jH.EN(h:jH n w l known vals){e:fe}(d:iM n w e){t:UInt8}{k:Nat}{x:Int->UInt8}(o:∀c:Int,0<=c->c<(n:Int)->kn known c=eH->x c=Gf.mul t (aJ (aC vals c.toNat) k)):
  Sat t k x (fh known vals e)↔Sat t k x e:=by
 have g:∀c∈e.1.filter λc=>kn known c,ii (aC vals c.toNat)=w:=λc f=>by
  have b:=qI.1 f;exact h.Dc (d.cS c b.1).1 (d.cS c b.1).2 b.2
 have j:cL x (e.1.filter λc=>kn known c)=Gf.mul t (cL (λc=>aJ (aC vals c.toNat) k) (e.1.filter λc=>kn known c)):=by
  rw[kf (y:=λc=>Gf.mul t (aJ (aC vals c.toNat) k)) λc f=>o c (d.cS c (qI.1 f).1).1 (d.cS c (qI.1 f).1).2 (qI.1 f).2];generalize e.1.filter (λc=>kn known c)=m
  induction m with
  |nil=>simp[cL,Gf.mul_zero]
  |cons a m ih=>rw[cL,cL,Gf.jS,ih]
 unfold Sat fh;dsimp only;rw[FW k d.len g,Gf.jS,<-j,Ff x (λc=>kn known c) e.1];constructor
 ·intro i;rw[i];rw[vz,pu]
 ·intro i;rw[<-i];rw[vz (cL x (e.1.filter λc=>kn known c)),pu]
theorem aet{known:List Bool}{c d:Int}(e:0<=c)(a:0<=d)(b:c<(ii known:Int)):kn (known.set c.toNat eH) d=(decide (d=c)||kn known d):=by
 unfold kn;rw[qd,qU];by_cases h:d=c
 ·subst h;rw[f9 i0,f9 i4];simp
 ·rw[g0 i4];simp[h]
theorem VV(h:jH n w l known vals)(o:∀e∈l,iM n w e){e:fe}(g:e∈l){c:Int}(p:(fh known vals e).1=[c]):jH n w l (known.set c.toNat eH) (vals.set c.toNat (fh known vals e).2):=by
 have b:=h.Ap (o e g);have f:=b.cS c (by rw[p];simp);have r:=h.vlen;have j:=h.klen;refine⟨by simp[j],by simp[r],λd u=>?_,λt k x q i d h0 s m=>?_⟩
 ·rw[kU,qd,qU];by_cases a:c.toNat=d
  ·subst a;simp[show c.toNat<ii known by omega,b.len]
  ·rw[g0 a,g0 a,h.row d u,qd]
 ·rw[aet f.1 h0 i4]at m;rw[kU];by_cases a:d=c
  ·subst a;rw[f9 rfl];have:=(h.EN (o e g) (h.sound t k x q i)).2 (i e g);unfold Sat at this;rw[p]at this;simpa[cL]using this
  ·rw[g0 i4];exact h.sound t k x q i d h0 s (by simpa[a]using m)
theorem Dd(h:jH n w l known vals)(e:fe):∀c∈(fh known vals e).1,kn known c=eL:=λc a=>by
 have:=(qI.1 a).2;simpa using this
def aW(known:List Bool)(vals:aI)(l:List fe):List fe:=(l.map (fh known vals)).filter λe=>!e.1.isEmpty
def kg(known:List Bool)(vals:aI)(l:List fe):Bool:=(l.map (fh known vals)).any λe=>e.1.isEmpty&&e.2.any (· !=0)
theorem Nd(h:jH n w l known vals)(f:∀e∈l,iM n w e)(g:kg known vals l=eL){t:UInt8}{k:Nat}{x:Int->UInt8}(o:k<w):
  (∀e∈l,Sat t k x e)↔(∀c:Int,0<=c->c<(n:Int)->kn known c=eH->x c=Gf.mul t (aJ (aC vals c.toNat) k))/\∀e∈aW known vals l,Sat t k x e:=by
 constructor
 ·intro i;refine⟨h.sound t k x o i,λe b=>?_⟩;obtain⟨j,d,rfl⟩:=qx.1 (qI.1 b).1;exact(h.EN (f j d) (h.sound t k x o i)).2 (i j d)
 ·rintro⟨p,r⟩ e b;refine(h.EN (f e b) p).1 ?_;by_cases a:(fh known vals e).1=[]
  ·unfold Sat;rw[a,cL];have m:((fh known vals e).1.isEmpty&&(fh known vals e).2.any (· !=0))=eL:=by have:=wH.1 g _ (List.mem_map_of_mem b);simpa using this
   rw[a]at m;have q:∀y∈(fh known vals e).2,y=0:=n9
   have h3:=(h.Ap (f e b)).len;have:aJ (fh known vals e).2 k=0:=by rw[aJ,qd,qc i4];exact q _ (qf _)
   rw[this,Gf.mul_zero]
  ·refine r _ (qI.2 ⟨List.mem_map_of_mem b,?_⟩);simpa using a
theorem Tv(h:jH n w l known vals)(i:∀e∈l,iM n w e)(c:kg known vals l=eH):∃k,k<w/\∀x:Int->UInt8,¬∀e∈l,Sat 1 k x e:=by
 obtain⟨y,m,f⟩:=wq.1 c;obtain⟨e,d,rfl⟩:=qx.1 m;rw[qw]at f;obtain⟨z,o,a⟩:=wq.1 f.2;obtain⟨k,p,rfl⟩:=qD o;have h3:=(h.Ap (i e d)).len;refine⟨k,i4,λx j=>?_⟩;have b:=(h.EN (i e d) (h.sound 1 k x i4 j)).2 (j e d);unfold Sat at b;have g:(fh known vals e).1=[]:=by simpa using f.1
 rw[g,cL,Gf.one_mul,aJ,qd,qc p]at b;simp at a;exact a b.symm
end
def jP(op:List Bool)(c:Int):Bool:=op.getD c.toNat eL
def cV(op:List Bool)(r:aB):aB:=r.filter (jP op)
def me(rows:cu)(op us:List Bool)(i:Nat):Bool:=!(us.getD i eL)&&ii (cV op (rows.getD i []))==1
def mf(rows:cu)(op us:List Bool):Option Nat:=(qz rows.length).find? (me rows op us)
def eZ(rows:cu)(op:List Bool)(i:Nat):Int:=(cV op (rows.getD i [])).getLast?.getD 0
def kh(a:aB)(r:aB):aB:=r.foldl (λa c=>a.set c.toNat (a.getD c.toNat 0+1)) a
def kV(g:Nat->aB->aB)(rows:cu)(us:List Bool)(a:aB):Nat->aB
 |0=>a
 |k+1=>if us.getD k eL then kV g rows us a k else kh (kV g rows us a k) (g k (rows.getD k []))
def iH(op:List Bool)(a:aB):Nat->Int
 |0=>-1
 |k+1=>if op.getD k eL&&(decide (iH op a k<0)||decide (a.getD k 0>a.getD (iH op a k).toNat 0))then(k:Int)else iH op a k
def hO(rows:cu)(op us:List Bool):Int:=iH op (kV (λ_ r=>r) rows us (qi op.length 0) rows.length) op.length
structure Pl where
 steps:List (Int×Int)
 dead:aB
 used:List Bool
def cB(rows:cu):Nat->List Bool->List Bool->Pl
 |0,_,us=>⟨[],[],us⟩
 |k+1,op,us=>
  if op.contains eH then
   match mf rows op us with
   |some i=>let r:=cB rows k (op.set (eZ rows op i).toNat eL) (us.set i eH);⟨((i:Int),eZ rows op i)::r.steps,r.dead,r.used⟩
   |none=>let r:=cB rows k (op.set (hO rows op us).toNat eL) us;⟨r.steps,hO rows op us::r.dead,r.used⟩
  else⟨[],[],us⟩
def fu(us:List Bool):Nat->aB
 |0=>[]
 |k+1=>if us.getD k eL then fu us k else fu us k++[(k:Int)]
def dE(n:Nat)(rows:cu):Pl:=cB rows n (qi n eH) (qi rows.length eL)
theorem VW{P:Nat->Bool}{n:Nat}(h:∀j,j<n->P j=eL):(qz n).find? P=none:=by rw[yq];intro x a;rw[qC]at a;simp[h x a]
theorem VX{P:Nat->Bool}{n k:Nat}(f:k<n)(h:∀j,j<k->P j=eL)(d:P k=eH):(qz n).find? P=dB k:=by
 rw[List.find?_eq_some_iff_append];refine⟨d,qz k,zJ (k+1) (n-k-1),?_,λa b=>?_⟩
 ·rw[y8,y8];have e:n=k+(n-k):=i4
  have c:n-k=(n-k-1)+1:=i4
  conv=>lhs;rw[e,<-List.range'_append_1 (s:=0) (m:=k) (n:=n-k)]
  rw[zY]
  conv=>lhs;rw[c,yo]
 ·rw[qC]at b;simp[h a b]
theorem PI(a r:aB)(c:Int):kh a (r++[c])=(kh a r).set c.toNat ((kh a r).getD c.toNat 0+1):=by simp[kh]
theorem Cb(b r:aB):ii (kh b r)=ii b:=by
 induction r generalizing b with
 |nil=>rfl
 |cons a t ih=>simp only[kh,zx]at*;rw[ih];simp
theorem Bg(g:Nat->aB->aB)(rows:cu)(us:List Bool)(a:aB):∀k,ii (kV g rows us a k)=ii a
 |0=>rfl
 |k+1=>by
  unfold kV;split
  ·exact Bg g rows us a k
  ·rw[Cb,Bg g rows us a k]
theorem De{m:Int}:∀{r b:aB},(∀x∈b,0<=x/\x<=m)->∀x∈kh b r,0<=x/\x<=m+ii r
 |[],b,h,x,hx=>by have:=h x hx;simp;omega
 |a::t,b,h,x,hx=>by
  have d:∀y∈b.set a.toNat (b.getD a.toNat 0+1),0<=y/\y<=m+1:=by
   intro y c;rcases List.mem_or_eq_of_mem_set c with c|c
   ·have:=h y c;omega
   ·subst c;rw[qd];cases hc:b[a.toNat]? with
    |none=>
     rw[List.getElem?_eq_none_iff]at hc;rw[List.set_eq_of_length_le hc]at c;have:=h _ c;rw[qd,qB hc]at this;simp at this⊢;omega
    |some z=>have:=h z (List.mem_of_getElem? hc);simp;omega
  have:=De (r:=t) d x hx;simp only[zh];omega
theorem Nf(g:Nat->aB->aB){rows:cu}{us:List Bool}{n:Nat}(a:∀k,ii (g k (rows.getD k []))<=64):∀k,∀x∈kV g rows us (qi n 0) k,0<=x/\x<=64*k
 |0,x,hx=>by
  have:=List.eq_of_mem_replicate hx;subst this;simp
 |k+1,x,hx=>by
  unfold kV at hx;split at hx
  ·have:=Nf g a k x hx;omega
  ·have:=De (Nf g a k) x hx;have:=a k;omega
theorem Kk(op:List Bool)(a:aB):∀k,(iH op a k=-1/\∀j,j<k->op.getD j eL=eL)∨(0<=iH op a k/\iH op a k<k/\op.getD (iH op a k).toNat eL=eH)
 |0=>.inl ⟨i0,λj b=>i4⟩
 |k+1=>by
  unfold iH;split
  ·rename_i c;simp only[qw]at c;exact .inr ⟨i4,i4,by rw[qk];exact c.1⟩
  ·rename_i c;rcases Kk op a k with⟨e,h⟩|⟨h1,h2,h3⟩
   ·refine .inl ⟨e,λj b=>?_⟩;rcases zk.1 b with b|rfl
    ·exact h j b
    ·by_cases d:op.getD j eL=eH
     ·exact absurd (by rw[d,e];rfl) c
     ·simpa using d
   ·exact .inr ⟨h1,i4,h3⟩
theorem Df{op:List Bool}(h:op.contains eH=eH):∃j,j<ii op/\op.getD j eL=eH:=by simp only[List.contains_iff_mem]at h;obtain⟨j,a,e⟩:=qD h;exact⟨j,a,by rw[qd,qc a];exact e⟩
theorem rj{rows:cu}{op us:List Bool}(h:op.contains eH=eH):0<=hO rows op us/\hO rows op us<ii op/\op.getD (hO rows op us).toNat eL=eH:=by
 obtain⟨j,a,e⟩:=Df h;rcases Kk op (kV (λ_ r=>r) rows us (qi op.length 0) rows.length) op.length with⟨_,h2⟩|h2
 ·rw[h2 j a]at e;cases e
 ·exact h2
theorem sj{rows:cu}{op us:List Bool}{i:Nat}(h:mf rows op us=dB i):i<ii rows/\me rows op us i=eH:=by have b:=List.mem_of_find?_eq_some h;have a:=List.find?_some h;exact⟨qC.1 b,a⟩
theorem Bh{rows:cu}{op us:List Bool}{i:Nat}(d:me rows op us i=eH):cV op (rows.getD i [])=[eZ rows op i]/\eZ rows op i∈rows.getD i []/\jP op (eZ rows op i)=eH:=by
 simp only[me,qw,beq_iff_eq]at d;obtain⟨c,a⟩:=List.length_eq_one_iff.1 d.2;have e:eZ rows op i=c:=by unfold eZ;rw[a];rfl
 have b:c∈cV op (rows.getD i []):=by rw[a];simp
 rw[cV,qI]at b;rw[e];exact⟨a,b.1,b.2⟩
theorem kD{op:List Bool}{j:Nat}(h:op.getD j eL=eH):(op.set j eL).count eH+1=op.count eH:=by
 have a:j<ii op:=by
  by_cases a:j<ii op
  ·exact a
  ·rw[qd,qB i4]at h;cases h
 have e:op[j]=eH:=by rw[qd,qc a]at h;exact h
 have b:0<op.count eH:=List.count_pos_iff.2 (e▸qf a);rw[List.count_set a,e];simp;omega
theorem Ng{op:List Bool}(h:op.count eH=0):op.contains eH=eL:=by rw[List.count_eq_zero]at h;simpa using h
theorem uF{rows:cu}{op us:List Bool}(h:op.contains eH=eL):∀k,cB rows k op us=⟨[],[],us⟩
 |0=>rfl
 |k+1=>by unfold cB;rw[h];rfl
theorem nW{rows:cu}{op us:List Bool}{i k:Nat}(h:op.contains eH=eH)(a:mf rows op us=dB i):
  cB rows (k+1) op us=⟨((i:Int),eZ rows op i)::(cB rows k (op.set (eZ rows op i).toNat eL) (us.set i eH)).steps,(cB rows k (op.set (eZ rows op i).toNat eL) (us.set i eH)).dead,(cB rows k (op.set (eZ rows op i).toNat eL) (us.set i eH)).used⟩:=by
 rw[cB,h,a];rfl
theorem nX{rows:cu}{op us:List Bool}{k:Nat}(h:op.contains eH=eH)(a:mf rows op us=none):
  cB rows (k+1) op us=⟨(cB rows k (op.set (hO rows op us).toNat eL) us).steps,hO rows op us::(cB rows k (op.set (hO rows op us).toNat eL) us).dead,(cB rows k (op.set (hO rows op us).toNat eL) us).used⟩:=by
 rw[cB,h,a];rfl
theorem rI(rows:cu):∀k op us,(cB rows k op us).used.length=ii us
 |0,_,_=>rfl
 |k+1,op,us=>by
  unfold cB;split
  ·split
   ·show(cB rows k _ _).used.length=_;rw[rI];simp
   ·show(cB rows k _ _).used.length=_;rw[rI]
  ·rfl
theorem EO(us:List Bool):∀k,ii (fu us k)<=k
 |0=>by simp[fu]
 |k+1=>by
  have:=EO us k;unfold fu;split<;>simp<;>omega
theorem rR{op:List Bool}{f:Nat}(h:op.count eH=f+1):op.contains eH=eH:=by
 have:0<op.count eH:=i4
 rw[List.count_pos_iff]at this;simpa using this
theorem PJ{P:Nat->Bool}{n j:Nat}(a:j<n)(h:P j=eH):∃i,(qz n).find? P=dB i:=by
 cases hf:(qz n).find? P with
 |some i=>exact⟨i,i0⟩
 |none=>
  rw[yq]at hf;exact absurd h (hf j (qC.2 a))
theorem jt(l:List Bool)(i j:Nat)(x:Bool):(l.set i x).getD j eL=if i=j/\j<ii l then x else l.getD j eL:=by
 simp only[qd,qU];by_cases h:i=j
 ·subst h;by_cases a:i<ii l<;>simp[a]
 ·simp[h]
def tw(rows:cu)(op us:List Bool):Prop:=∀i,us.getD i eL=eH->cV op (rows.getD i [])=[]
theorem mQ{op:List Bool}{c d:Int}(h:jP (op.set d.toNat eL) c=eH):jP op c=eH/\c.toNat≠d.toNat:=by
 unfold jP at*;rw[jt]at h;by_cases e:d.toNat=c.toNat
 ·rw[f9]at h
  ·cases h
  ·refine⟨e,?_⟩;by_cases b:c.toNat<ii op
   ·exact b
   ·rw[g0 λa=>b a.2,qd,qB i4]at h;cases h
 ·rw[g0 λa=>e a.1]at h;exact⟨h,λa=>e a.symm⟩
theorem VY{rows:cu}{op us:List Bool}{i:Nat}(l:tw rows op us)(m:me rows op us i=eH):tw rows (op.set (eZ rows op i).toNat eL) (us.set i eH):=by
 obtain⟨h,n,h3⟩:=Bh m;intro j b;rw[jt]at b;rw[cV,wU];intro c k f;obtain⟨f,d⟩:=mQ f;have a:c∈cV op (rows.getD j []):=by rw[cV,qI];exact⟨k,f⟩
 by_cases e:i=j
 ·subst e;rw[h]at a;simp at a;exact d (by rw[a])
 ·rw[g0 λg=>e g.1]at b;rw[l j b]at a;simp at a
theorem Dg(n j:Nat):(qi n eL).getD j eL=eL:=by
 rw[qd];by_cases h:j<n
 ·rw[qc j7];simp
 ·rw[qB j7];rfl
theorem aeu{rows:cu}{r:aB}(h:r∈rows):∃j,j<ii rows/\rows.getD j []=r:=by obtain⟨j,a,e⟩:=qD h;exact⟨j,a,by rw[qd,qc a];exact e⟩
def other(m i:Nat):Nat:=if i<m then i else i+1
def rk(rows:cu):(Int->Prop)->(Int->Prop)->List (Int×Int)->Prop
 |_,_,[]=>True
 |D,U,(i,c)::t=>(0<=i/\i<ii rows)/\¬U i/\¬D c/\c∈rows.getD i.toNat []/\(∀a∈rows.getD i.toNat [],a≠c->D a)/\rk rows (λx=>D x∨x=c) (λx=>U x∨x=i) t
def agq(op:List Bool)(c:Int):Prop:=0<=c/\jP op c=eH
theorem VZ{op:List Bool}{c:Int}(h:jP op c=eH):c.toNat<ii op:=by
 by_cases a:c.toNat<ii op
 ·exact a
 ·unfold jP at h;rw[qd,qB i4]at h;cases h
theorem RK{op:List Bool}{c d:Int}(e:0<=c)(f:0<=d):jP op c=eH->c≠d->jP (op.set d.toNat eL) c=eH:=by intro h a;unfold jP;rw[jt,g0 λb=>a i4];exact h
theorem sl{op:List Bool}{d:Int}(h:jP op d=eH):jP (op.set d.toNat eL) d=eL:=by unfold jP;rw[jt,f9 ⟨i0,VZ h⟩]
structure afM (rows:cu) (op us:List Bool) (r:Pl):Prop where
 cS:ii r.steps+ii r.dead=op.count eH
 used:r.used.count eH=us.count eH+ii r.steps
 keepU:∀i,us.getD i eL=eH->r.used.getD i eL=eH
 dead:∀c∈r.dead,agq op c
 deadN:r.dead.Nodup
 good:∀D U:Int->Prop,(∀c:Int,0<=c->c<ii op->(D c↔jP op c=eL∨c∈r.dead))->(∀i:Nat,i<ii rows->(U i↔us.getD i eL=eH∨r.used.getD i eL=eL))->rk rows D U r.steps
theorem Zo{us:List Bool}{i:Nat}(h:us.getD i eL=eL)(a:i<ii us):(us.set i eH).count eH=us.count eH+1:=by
 have e:us[i]=eL:=by rw[qd,qc a]at h;exact h
 rw[List.count_set a,e];simp
theorem Nh{rows:cu}{n:Nat}(b:∀r∈rows,∀c∈r,0<=c/\c<n):∀k op us,ii op=n->ii us=ii rows->op.count eH=k->afM rows op us (cB rows k op us)
 |0,op,us,hl,hul,hc=>⟨by simp[cB,hc],by simp[cB],λi h=>h,λc h=>by simp[cB]at h,by simp[cB],λ_ _ _ _=>trivial⟩
 |k+1,op,us,hl,hul,hc=>by
  have q:=rR hc;cases hst:mf rows op us with
  |some i=>
   obtain⟨g,s⟩:=sj hst;obtain⟨M,I,h3⟩:=Bh s;have l:rows.getD i []=rows[i]:=by rw[qd,qc g];rfl
   have v:=b _ (qf g) _ (l▸I);have z:=kD (op:=op) (j:=(eZ rows op i).toNat) h3;have w:us.getD i eL=eL:=by simp only[me,qw,wF]at s;exact s.1
   have L:=Zo w i4;have a:=Nh b k (op.set (eZ rows op i).toNat eL) (us.set i eH) (by simp[hl]) (by simp[hul]) i4;rw[nW q hst];generalize cB rows k (op.set (eZ rows op i).toNat eL) (us.set i eH)=r at a;generalize J:eZ rows op i=c at*;have G:r.used.getD i eL=eH:=a.keepU i (by rw[jt,f9 ⟨i0,i4⟩]);have t:c∉r.dead:=λh=>by
    have:=(a.dead c h).2;rw[sl h3]at this;cases this
   refine⟨by simp only[zh];have:=a.cS;omega,by simp only[zh];have:=a.used;omega,λj A=>a.keepU j (by rw[jt];split;rfl;exact A),λd u=>⟨(a.dead d u).1,(mQ (a.dead d u).2).1⟩,a.deadN,λD U x y=>?_⟩;have o:rows.getD ((i:Int)).toNat []=rows.getD i []:=by rw[qk]
   refine⟨i4,?_,?_,by rw[o];exact I,?_,?_⟩
   ·rw[y i g,w,G];simp
   ·rw[x c v.1 i4,h3];simp[t]
   ·intro E p F;rw[o]at p;have B:=b _ (qf g) _ (l▸p);refine(x E B.1 i4).2 (.inl ?_);cases ho:jP op E with
    |false=>rfl
    |true=>
     have:E∈cV op (rows.getD i []):=by rw[cV,qI];exact⟨p,ho⟩
     rw[M]at this;simp at this;exact absurd this F
   ·refine a.good _ _ (λd f m=>?_) (λj A=>?_)
    ·simp only[zc]at m;rw[x d f m];by_cases e:d=c
     ·subst e;simp[sl h3]
     ·cases ho:jP op d with
      |true=>rw[RK f v.1 ho e];simp[e]
      |false=>
       have:jP (op.set c.toNat eL) d=eL:=by
        cases hh:jP (op.set c.toNat eL) d with
        |false=>rfl
        |true=>rw[(mQ hh).1]at ho;cases ho
       rw[this];simp
    ·rw[y j A,jt];by_cases e:i=j
     ·subst e;simp[hul,g]
     ·have N:¬((j:Int)=(i:Int)):=λh=>e i4;simp[e,N]
  |none=>
   obtain⟨K,O,H⟩:=rj (rows:=rows) (us:=us) q;have z:=kD (op:=op) (j:=(hO rows op us).toNat) H;have a:=Nh b k (op.set (hO rows op us).toNat eL) us (by simp[hl]) hul i4;rw[nX q hst];generalize cB rows k (op.set (hO rows op us).toNat eL) us=r at a;generalize hO rows op us=c at*;have h3:jP op c=eH:=H;have t:c∉r.dead:=λh=>by
    have:=(a.dead c h).2;rw[sl h3]at this;cases this
   refine⟨by simp only[zh];have:=a.cS;omega,a.used,a.keepU,λd u=>?_,by simp only[yk];exact⟨t,a.deadN⟩,λD U x y=>?_⟩
   ·rcases qV.1 u with rfl|u
    ·exact⟨K,h3⟩
    ·exact⟨(a.dead d u).1,(mQ (a.dead d u).2).1⟩
   ·refine a.good D U (λd f m=>?_) y;simp only[zc]at m;rw[x d f m];by_cases e:d=c
    ·subst e;simp[sl h3]
    ·have:jP (op.set c.toNat eL) d=jP op d:=by
      cases ho:jP op d with
      |true=>exact RK f K ho e
      |false=>
       cases hh:jP (op.set c.toNat eL) d with
       |false=>rfl
       |true=>rw[(mQ hh).1]at ho;cases ho
     rw[this];simp[e]
theorem Bi(us:List Bool):∀k (c:Int),c∈fu us k↔∃j:Nat,c=j/\j<k/\us.getD j eL=eL
 |0,c=>by simp[fu]
 |k+1,c=>by
  have e:=Bi us k c;unfold fu;cases h:us.getD k eL with
  |true=>
   simp only[if_true];rw[e];constructor
   ·rintro⟨j,a,b,d⟩;exact⟨j,a,i4,d⟩
   ·rintro⟨j,a,b,d⟩;refine⟨j,a,?_,d⟩;rcases zk.1 b with b|rfl
    ·exact b
    ·rw[h]at d;cases d
  |false=>
   simp only[zf,if_false,qy,qp];rw[e];constructor
   ·rintro(⟨j,a,b,d⟩|rfl)
    ·exact⟨j,a,i4,d⟩
    ·exact⟨k,i0,i4,h⟩
   ·rintro⟨j,a,b,d⟩;rcases zk.1 b with b|rfl
    ·exact .inl ⟨j,a,b,d⟩
    ·exact .inr a
theorem Ni(us:List Bool):∀k,k<=ii us->ii (fu us k)+(us.take k).count eH=k
 |0,_=>by simp[fu]
 |k+1,hk=>by
  have a:=Ni us k i4;have e:us.getD k eL=us[k]:=by rw[qd,qc i4];rfl
  unfold fu;rw[zN i4,List.count_append,e];cases us[k]<;>simp<;>omega
theorem tz{rows:cu}{n:Nat}(a:∀r∈rows,∀c∈r,0<=c/\c<n):
  (dE n rows).steps.length+(dE n rows).dead.length=n/\(dE n rows).steps.length+ii (fu (dE n rows).used rows.length)=ii rows/\(∀c∈(dE n rows).dead,0<=c/\c<n)/\(dE n rows).dead.Nodup/\
  (∀c∈fu (dE n rows).used rows.length,0<=c/\c<ii rows)/\rk rows (·∈(dE n rows).dead) (·∈fu (dE n rows).used rows.length) (dE n rows).steps:=by
 have h:=Nh a n (qi n eH) (qi rows.length eL) i9 i9 i9;have p:(dE n rows).used.length=ii rows:=by unfold dE;rw[rI];simp
 have e:=Ni (dE n rows).used rows.length i4;rw[List.take_of_length_le i4]at e;refine⟨by have:=h.cS;simpa[dE]using this,?_,λc d=>?_,h.deadN,λc d=>?_,?_⟩
 ·have:=h.used;have g:(qi rows.length eL).count eH=0:=by simp[List.count_replicate]
  rw[g]at this;unfold dE at*;omega
 ·obtain⟨h0,k⟩:=h.dead c d;have:=VZ k;simp at this;omega
 ·obtain⟨j,rfl,f,_⟩:=(Bi _ _ _).1 d;omega
 ·refine h.good _ _ (λc o b=>?_) (λi l=>?_)
  ·have:jP (qi n eH) c=eH:=by simp at b;unfold jP;rw[qd,qc i7];simp
   rw[this];simp[dE]
  ·rw[Dg,Bi];constructor
   ·rintro⟨j,f,_,m⟩;have:j=i:=i4
    subst this;exact .inr m
   ·rintro(hh|hh)
    ·cases hh
    ·exact⟨i,i0,l,hh⟩
theorem Dh{rows:cu}:∀k op us i,(cB rows k op us).used.getD i eL=eH->us.getD i eL=eH∨∃c,((i:Int),c)∈(cB rows k op us).steps
 |0,_,_,_,h=>.inl h
 |k+1,op,us,i,h=>by
  by_cases a:op.contains eH=eH
  ·cases hst:mf rows op us with
   |some j=>
    rw[nW a hst]at h⊢;dsimp only at h⊢;rcases Dh k _ _ i h with h1|⟨c,hc⟩
    ·rw[jt]at h1;by_cases b:j=i
     ·subst b;exact .inr ⟨_,qP⟩
     ·rw[g0 λd=>b d.1]at h1;exact .inl h1
    ·exact .inr ⟨c,qH _ hc⟩
   |none=>
    rw[nX a hst]at h⊢;exact Dh k _ _ i h
  ·have a:op.contains eH=eL:=kt
   rw[uF a]at h⊢;exact .inl h
theorem Di{rows:cu}{n:Nat}(a:∀r∈rows,∀c∈r,0<=c/\c<(n:Int)):∀k op us,ii op=n->op.count eH=k->∀c:Nat,op.getD c eL=eH->
  (c:Int)∈(cB rows k op us).dead∨∃i,(i,(c:Int))∈(cB rows k op us).steps
 |0,op,us,hl,hc,c,h=>by
  have:=Ng hc;exfalso;have f:c<ii op:=by
   by_cases l:c<ii op
   ·exact l
   ·rw[qd,qB i4]at h;cases h
  rw[List.count_eq_zero]at hc;rw[qd,qc f]at h;exact hc (h▸qf f)
 |k+1,op,us,hl,hc,c,h=>by
  have e:=rR hc;cases hst:mf rows op us with
  |some j=>
   rw[nW e hst];obtain⟨g,o⟩:=sj hst;obtain⟨u,s,h3⟩:=Bh o;have d:rows.getD j []=rows[j]:=by rw[qd,qc g];rfl
   have q:=a _ (qf g) _ (d▸s);have m:=kD (op:=op) (j:=(eZ rows op j).toNat) h3;dsimp only;by_cases b:(eZ rows op j).toNat=c
   ·exact .inr ⟨j,by rw[show((c:Nat):Int)=eZ rows op j by omega];exact qP⟩
   ·rcases Di a k (op.set (eZ rows op j).toNat eL) (us.set j eH) (by simp[hl]) i4 c (by rw[jt,g0 λl=>b l.1];exact h)with h5|⟨i,h5⟩
    ·exact .inl h5
    ·exact .inr ⟨i,qH _ h5⟩
  |none=>
   rw[nX e hst];obtain⟨v,t,p⟩:=rj (rows:=rows) (us:=us) e;have m:=kD (op:=op) (j:=(hO rows op us).toNat) p;dsimp only;by_cases b:(hO rows op us).toNat=c
   ·exact .inl (by rw[show((c:Nat):Int)=hO rows op us by omega];exact qP)
   ·rcases Di a k (op.set (hO rows op us).toNat eL) us (by simp[hl]) i4 c (by rw[jt,g0 λl=>b l.1];exact h)with h5|⟨i,h5⟩
    ·exact .inl (qH _ h5)
    ·exact .inr ⟨i,h5⟩
theorem Tw{rows:cu}{op us:List Bool}{c:Int}(h:tw rows op us):tw rows (op.set c.toNat eL) us:=λi a=>by
 have:=h i a;rw[cV,wU]at this⊢;exactλd b e=>this d b (mQ e).1
theorem Bj{rows:cu}{c:Int}(m:[c]∈rows):∀k op us,tw rows op us->(∀d:Int,d<0->d∉(cB rows k op us).dead)->0<=c->c∉(cB rows k op us).dead
 |0,_,_,_,_,_=>by simp[cB]
 |k+1,op,us,hu,_,h0=>by
  by_cases a:op.contains eH=eH
  ·cases hst:mf rows op us with
   |some j=>
    rw[nW a hst];dsimp only;obtain⟨_,l⟩:=sj hst;exact Bj m k _ _ (VY hu l) (λd s b=>by
     have f:∀k op us,∀d∈(cB rows k op us).dead,0<=d:=plan_dead0;have:=f _ _ _ d b;omega) h0
   |none=>
    rw[nX a hst];obtain⟨u,t,p⟩:=rj (rows:=rows) (us:=us) a;dsimp only;intro b;rcases qV.1 b with e|b
    ·obtain⟨j,r,g⟩:=aeu m;have n:cV op [c]=[c]:=by rw[cV,zq,f9 (show jP op c=eH by rw[e];exact p)];rfl
     have q:me rows op us j=eH:=by
      unfold me;rw[g,n];cases hus:us.getD j eL with
      |false=>rfl
      |true=>have:=hu j hus;rw[g,n]at this;cases this
     obtain⟨i,o⟩:∃i,mf rows op us=dB i:=PJ r q;rw[hst]at o;cases o
    ·exact Bj m k _ _ (Tw hu) (λd s b=>by have:=plan_dead0 (rows:=rows) _ _ _ d b;omega) h0 b
  ·have a:op.contains eH=eL:=kt
   rw[uF a];simp
where
 plan_dead0 {rows:cu}:∀k op us,∀d∈(cB rows k op us).dead,0<=d
  |0,_,_,d,h=>by simp[cB]at h
  |k+1,op,us,d,h=>by
   by_cases a:op.contains eH=eH
   ·cases hst:mf rows op us with
    |some j=>rw[nW a hst]at h;exact plan_dead0 k _ _ d h
    |none=>
     rw[nX a hst]at h;rcases qV.1 h with rfl|h
     ·exact(rj a).1
     ·exact plan_dead0 k _ _ d h
   ·have a:op.contains eH=eL:=kt
    rw[uF a]at h;simp at h
def rm(R:cu):(Int->Prop)->List (Int×Int)->Prop
 |_,[]=>True
 |D,(i,c)::t=>(0<=i/\i<ii R)/\¬D c/\c∈R.getD i.toNat []/\(∀a∈R.getD i.toNat [],a≠c->D a)/\rm R (λx=>D x∨x=c) t
theorem xU{R S:cu}{K:Int->Prop}(g:∀r∈R,∀c∈r,¬K c)(m:∀r∈S,∀c∈r,K c):∀{a:List (Int×Int)} {D D' U:Int->Prop},rk (R++S) D U a->(∀c,¬K c->(D c↔D' c))->
  rm R D' (a.filter λp=>decide (p.1<ii R))
 |[],_,_,_,_,_=>trivial
 |(i,c)::t,D,D',U,h,hD=>by
  obtain⟨x,z,h3,f,w,v⟩:=h;rw[zq];by_cases s:i<ii R
  ·have e:(R++S).getD i.toNat []=R.getD i.toNat []:=by rw[qd,ql i4,qd]
   have j:R.getD i.toNat []∈R:=by rw[qd,qc i4];exact qf _
   rw[e]at f w;have u:=g _ j c f;rw[f9 (by simpa using s)];refine⟨⟨x.1,s⟩,λq=>h3 ((hD c u).2 q),f,λn b o=>(hD n (g _ j n b)).1 (w n b o),xU g m v λd k=>?_⟩;rw[hD d k]
  ·rw[g0 (by simpa using s)];have j:(R++S).getD i.toNat []∈S:=by have l:=x.2;rw[qt]at l;rw[qd,qh i4,qc i4];exact qf _
   have u:=m _ j c f;refine xU g m v λd k=>?_;rw[<-hD d k];exact⟨λq=>q.elim id λy=>absurd (y▸u) k,.inl⟩
def ev(t:UInt8)(k nd:Nat)(W M:aI)(y:Nat->UInt8)(c:Int):UInt8:=bT (λi=>aJ (aC W c.toNat) i) y nd^^^Gf.mul t (aJ (aC M c.toNat) k)
theorem FX{a b:Row}(h:ii a=ii b)(c:UInt8)(y:Nat->UInt8)(n:Nat):bT (λj=>aJ (cO c a b) j) y n=bT (λj=>aJ b j) y n^^^Gf.mul c (bT (λj=>aJ a j) y n):=by rw[gw n (λj _=>cH h j) λ_ _=>rfl];exact EH _ _ _ _ _
theorem Nj{V:aI}{m:Nat}(y:Nat->UInt8)(n:Nat):∀{l:aB} {a:Row},ii a=m->(∀c∈l,ii (aC V c.toNat)=m)->bT (λj=>aJ (cM V a l) j) y n=bT (λj=>aJ a j) y n^^^cL (λc=>bT (λj=>aJ (aC V c.toNat) j) y n) l
 |[],a,_,_=>by simp[cM,cL]
 |c::l,a,h,hv=>by
  have b:ii (aC V c.toNat)=ii a:=by rw[hv c i9,h]
  have:=Nj (V:=V) y n (l:=l) (a:=cO 1 (aC V c.toNat) a) (by rw[bV b];exact h) λd e=>hv d p8;rw[cM,zx];rw[cM]at this;rw[this,FX b,Gf.one_mul,cL];ac_rfl
theorem Nk(t:UInt8)(x:Int->UInt8):∀l,cL (λc=>Gf.mul t (x c)) l=Gf.mul t (cL x l)
 |[]=>by simp[cL,Gf.mul_zero]
 |c::l=>by rw[cL,cL,Gf.jS,Nk t x l]
theorem Ji{W M:aI}{nd w:Nat}{l:aB}{a m:Row}(f:ii a=nd)(e:ii m=w)(b:∀c∈l,ii (aC W c.toNat)=nd)(d:∀c∈l,ii (aC M c.toNat)=w)(t:UInt8)(k:Nat)(y:Nat->UInt8):
  bT (λj=>aJ (cM W a l) j) y nd^^^Gf.mul t (aJ (cM M m l) k)=(bT (λj=>aJ a j) y nd^^^Gf.mul t (aJ m k))^^^cL (ev t k nd W M y) l:=by
 rw[Nj y nd f b,FW k e d,Gf.jS];have:cL (ev t k nd W M y) l=cL (λc=>bT (λj=>aJ (aC W c.toNat) j) y nd) l^^^Gf.mul t (cL (λc=>aJ (aC M c.toNat) k) l):=by rw[<-Nk,<-Nc];rfl
 rw[this];ac_rfl
def hY(rest:List fe)(nd:Nat)(s:aI×aI)(p:Int×Int):aI×aI:=
 let r:=rest.getD p.1.toNat ([],[])
 (s.1.set p.2.toNat (cM s.1 (aM nd) (r.1.filter λc=>!decide (c=p.2))),s.2.set p.2.toNat (cM s.2 r.2 (r.1.filter λc=>!decide (c=p.2))))
structure Wa (n nd w:Nat) (D:Int->Prop) (W M:aI):Prop where
 wl:ii W=n
 ml:ii M=n
 rw_:∀c:Int,D c->0<=c->c<(n:Int)->ii (aC W c.toNat)=nd/\(aC M c.toNat).length=w
theorem Bl{W M b a:aI}{t:UInt8}{k nd:Nat}{y:Nat->UInt8}{c:Int}(e:aC b c.toNat=aC W c.toNat)(d:aC a c.toNat=aC M c.toNat):ev t k nd b a y c=ev t k nd W M y c:=by unfold ev;rw[e,d]
theorem FY{n nd w:Nat}{rest:List fe}(z:∀e∈rest,iM n w e):∀{a:List (Int×Int)} {D:Int->Prop} {W M:aI},rm (rest.map qq) D a->Wa n nd w D W M->
  Wa n nd w (λc=>D c∨∃i,(i,c)∈a) (a.foldl (hY rest nd) (W,M)).1 (a.foldl (hY rest nd) (W,M)).2/\
  (∀c:Int,D c->0<=c->aC (a.foldl (hY rest nd) (W,M)).1 c.toNat=aC W c.toNat/\aC (a.foldl (hY rest nd) (W,M)).2 c.toNat=aC M c.toNat)/\
  (∀p∈a,∀t k y,k<w->Sat t k (ev t k nd (a.foldl (hY rest nd) (W,M)).1 (a.foldl (hY rest nd) (W,M)).2 y) (rest.getD p.1.toNat ([],[])))/\
  (∀t k x y,k<w->(∀c:Int,D c->0<=c->c<(n:Int)->x c=ev t k nd W M y c)->(∀p∈a,Sat t k x (rest.getD p.1.toNat ([],[])))->∀c:Int,(D c∨∃i,(i,c)∈a)->0<=c->c<(n:Int)->x c=ev t k nd (a.foldl (hY rest nd) (W,M)).1 (a.foldl (hY rest nd) (W,M)).2 y c)
 |[],D,W,M,_,hw=>⟨⟨hw.wl,hw.ml,λc hc=>hw.rw_ c (hc.elim id λ⟨i,h⟩=>j8)⟩,λ_ _ _=>⟨i0,i0⟩,λp q=>by(cases q),λt k x y O H _ c hc h0 o=>H c (hc.elim id λ⟨i,h⟩=>j8) h0 o⟩
 |(i,c)::st,D,W,M,hg,hw=>by
  obtain⟨g1,g2,L,g4,g5⟩:=hg;have u:i.toNat<ii rest:=by have:=g1.2;rw[qu]at this;omega
  obtain⟨e,Z⟩:∃e,e=rest[i.toNat]:=⟨_,rfl⟩
  have X:rest.getD i.toNat ([],[])=e:=by rw[qd,qc u,Z];rfl
  have T:(rest.map qq).getD i.toNat []=e.1:=by rw[qd,qL,qc u,Z];rfl
  rw[T]at L g4;have l:=z e (Z▸qf u);have R:=l.cS c L;obtain⟨F,I⟩:∃F,F=e.1.filter (λd=>!decide (d=c)):=⟨_,rfl⟩
  have r:∀d∈F,d∈e.1/\d≠c:=λd b=>by rw[I,qI]at b;exact⟨b.1,by simpa using b.2⟩
  have f:∀d∈F,D d/\0<=d/\d<(n:Int):=λd b=>⟨g4 d (r d b).1 (r d b).2,l.cS d (r d b).1⟩
  have l1:∀d∈F,ii (aC W d.toNat)=nd:=λd b=>(hw.rw_ d (f d b).1 (f d b).2.1 (f d b).2.2).1;have l2:∀d∈F,ii (aC M d.toNat)=w:=λd b=>(hw.rw_ d (f d b).1 (f d b).2.1 (f d b).2.2).2;have P:ii (aM nd)=nd:=k8
  have ad:hY rest nd (W,M) (i,c)=(W.set c.toNat (cM W (aM nd) F),M.set c.toNat (cM M e.2 F)):=by unfold hY;dsimp only;rw[X,<-I]
  have Q:=hw.wl;have Y:=hw.ml;have G:∀d:Nat,aC (W.set c.toNat (cM W (aM nd) F)) d=if c.toNat=d then cM W (aM nd) F else aC W d:=λd=>kU
  have A:∀d:Nat,aC (M.set c.toNat (cM M e.2 F)) d=if c.toNat=d then cM M e.2 F else aC M d:=λd=>kU
  have V:Wa n nd w (λx=>D x∨x=c) (W.set c.toNat (cM W (aM nd) F)) (M.set c.toNat (cM M e.2 F)):=by
   refine⟨by simp[Q],by simp[Y],λd b h0 o=>?_⟩;rw[G,A];by_cases g:c.toNat=d.toNat
   ·rw[f9 g,f9 g];exact⟨jG P l1,jG l.len l2⟩
   ·rw[g0 g,g0 g];exact hw.rw_ d (b.elim id λK=>absurd (by rw[K]) g) h0 o
  obtain⟨N,U,r3,r4⟩:=FY z g5 V;rw[zx,ad];generalize st.foldl (hY rest nd) (W.set c.toNat (cM W (aM nd) F),M.set c.toNat (cM M e.2 F))=s at N U r3 r4;have v:∀d:Int,D d->0<=d->c.toNat≠d.toNat:=λd b h0 K=>g2 (by rw[show c=d by omega];exact b);have keep:∀d:Int,D d->0<=d->aC s.1 d.toNat=aC W d.toNat/\aC s.2 d.toNat=aC M d.toNat:=λd b h0=>by
   have:=U d (.inl b) h0;rw[G,A,g0 (v d b h0),g0 (v d b h0)]at this;exact this
  have ab:∀t k y,ev t k nd s.1 s.2 y c=Gf.mul t (aJ e.2 k)^^^cL (ev t k nd W M y) F:=λt k y=>by
   have S:=U c (.inr i0) R.1;rw[G,A,f9 rfl,f9 rfl]at S;unfold ev;rw[S.1,S.2,Ji P l.len l1 l2 t k y,gb _ _ nd λj _=>cE _ _,wz];rfl
  have E:∀t k y,cL (ev t k nd s.1 s.2 y) F=cL (ev t k nd W M y) F:=λt k y=>kf λd b=>Bl (keep d (f d b).1 (f d b).2.1).1 (keep d (f d b).1 (f d b).2.1).2;refine⟨⟨N.wl,N.ml,λd b h0 o=>N.rw_ d ?_ h0 o⟩,keep,λp q t k y O=>?_,λt k x y O H hs d b h0 o=>?_⟩
  ·rcases b with b|⟨j,hj⟩
   ·exact .inl (.inl b)
   ·rcases qV.1 hj with hj|hj
    ·injection hj with _ hj;exact .inl (.inr hj)
    ·exact .inr ⟨j,hj⟩
  ·rcases qV.1 q with rfl|q
   ·dsimp only;rw[X];unfold Sat;rw[uE _ l.nodup L,<-I,ab,E,pu]
   ·exact r3 p q t k y O
  ·refine r4 t k x y O (λd b h0 o=>?_) (λp q=>hs p (qH _ q)) d ?_ h0 o
   ·by_cases g:d=c
    ·subst g;have B:=hs (i,d) i9;dsimp only at B;rw[X]at B;unfold Sat at B;rw[uE _ l.nodup L,<-I,kf (y:=ev t k nd W M y) λJ m=>H J (f J m).1 (f J m).2.1 (f J m).2.2]at B;have h6:ev t k nd (W.set d.toNat (cM W (aM nd) F)) (M.set d.toNat (cM M e.2 F)) y d=Gf.mul t (aJ e.2 k)^^^cL (ev t k nd W M y) F:=by unfold ev;rw[G,A,f9 i0,f9 i0,Ji P l.len l1 l2 t k y,gb _ _ nd λj _=>cE _ _,wz];rfl
     rw[h6,<-B,pu]
    ·have m:D d:=b.elim id λK=>absurd K g;rw[H d m h0 o];refine(Bl ?_ ?_).symm
     ·rw[G,g0 i4]
     ·rw[A,g0 i4]
   ·rcases b with b|⟨j,hj⟩
    ·exact .inl (.inl b)
    ·rcases qV.1 hj with hj|hj
     ·injection hj with _ hj;exact .inl (.inr hj)
     ·exact .inr ⟨j,hj⟩
section
open Classical
def fa(r:Row):Nat:=r.findIdx (λx=>x !=0)
def dZ(M:aI)(r:Row):Row:=M.foldl (λout x=>cO (aJ out (fa x)) x out) r
def mz(m:aI):aI:=(bD m (eE m)).2.take (bY m)
def Nl(M:aI)(r:Row):aI:=if fa (dZ M r)<ii (dZ M r) then mz (M++[dZ M r])else M
theorem Jj{r:Row}{c:Nat}(h:c<ii r):aJ r c=r[c]:=by rw[aJ,qd,qc h];rfl
theorem acF{r:Row}{j:Nat}(h:aJ r j≠0):fa r<ii r:=by have a:j<ii r:=Nat.lt_of_not_le λb=>h (by simp[aJ,qd,qB b]);rw[fa,we];exact⟨r[j],qf a,by rw[<-Jj a];simpa using h⟩
theorem Wb{r:Row}(h:¬fa r<ii r):r=aM r.length:=by rw[fa,we]at h;refine fG i0 k8 λj a=>?_;rw[cE,Jj a];have b:¬((r[j] !=0)=eH):=λc=>h ⟨r[j],qf a,c⟩;simpa using b
section
variable {n:Nat} {m M A:aI}
theorem FZ(b:aV n M){r:Row}(a:ii r=n):ii (dZ M r)=n:=by
 unfold dZ
 induction M generalizing r with
 |nil=>exact a
 |cons x M ih=>
  rw[zx];exact ih (λy c=>b y (qH _ c)) (by rw[bV (by rw[b x i9,a])];exact a)
theorem Wc{c:UInt8}{a t:Row}(h:ii a=ii t):cO c a (cO c a t)=t:=
 fG (n:=ii t) (by rw[bV (by rw[bV h];exact h),bV h]) i0 λj _=>by
  rw[cH (by rw[bV h];exact h),cH h,pu]
theorem Kl(b:aV n m)(d:∀x∈M,Span n m x){r:Row}(e:ii r=n):Span n m (dZ M r)↔Span n m r:=by
 unfold dZ
 induction M generalizing r with
 |nil=>exact Iff.rfl
 |cons x M ih=>
  have a:=d x i9;have c:ii x=ii r:=by rw[a.len b,e]
  rw[zx,ih (λy f=>d y (qH _ f)) (by rw[bV c];exact e)];refine⟨λh=>?_,λh=>a.comb b h _⟩;have:=a.comb b h (aJ r (fa x));rw[Wc c]at this;exact this
structure Bn (n:Nat) (M A:aI):Prop where
 even:aV n M
 evenA:aV n A
 span:∀v,Span n M v↔Span n A v
 len:ii M=bY A
 lead:∀x∈M,fa x<n
theorem aev(n:Nat):Bn n [] []:=⟨λ_ h=>j8,λ_ h=>j8,λ_=>Iff.rfl,by simp[bY,kb],λ_ h=>j8⟩
theorem Km(a:aV n m)(b:aV n A)(h:∀v,Span n m v↔Span n A v):bY m=bY A:=by rw[lA a,lA b];congr 1;funext v;exact propext (h v)
theorem Nm(a:aV n m):Way n m n (bY m) (bD m (eE m)).2:=by
 have h:=EI a n (qm _);cases m with
 |nil=>rw[kb]at h;rw[bY,kb];exact h
 |cons x t=>
  have b:eE (x::t)=n:=by rw[eE,bE i9];exact a _ i9
  rw[bY,b];exact h
theorem aew(A:aV n m):aV n (mz m)/\(∀v,Span n (mz m) v↔Span n m v)/\(mz m).length=bY m/\∀x∈mz m,fa x<n:=by
 have w:=Nm A;obtain⟨c,s,B,i,q,⟨p,F,y,D,E⟩,b⟩:=w;have a:aV n (mz m):=λx g=>c x (zA g);refine⟨a,λv=>?_,by rw[mz,qO];omega,λx g=>?_⟩
 ·rw[<-i v];refine⟨Span.mono λr h=>zA h,Span.sub a λr h=>?_⟩;obtain⟨k,f,rfl⟩:=eW h;by_cases u:k<bY m
  ·refine Span.row a ?_;have:aC (bD m (eE m)).2 k=aC (mz m) k:=by rw[bE f,bE (by rw[mz,qO];omega)];simp[mz]
   rw[this];exact mem_row (by rw[mz,qO];omega)
  ·have:aC (bD m (eE m)).2 k=aM n:=fG (c _ h) k8 λj z=>by rw[cE];exact b k i4 f j z
   rw[this];exact .zero
 ·obtain⟨k,f,rfl⟩:=eW g;have l:k<bY m:=by rw[mz,qO]at f;omega
  have d:k<(bD m (eE m)).2.length:=i4
  have e:aC (mz m) k=aC (bD m (eE m)).2 k:=by rw[bE d,bE f];simp[mz]
  have t:=y k l k d;rw[f9 rfl]at t;have o:=acF (r:=aC (mz m) k) (j:=p k) (by rw[e,t];decide);rw[a _ g]at o;exact o
theorem Zp(h:∀v,Span n M v↔Span n A v)(e:aV n M)(f:aV n A){r:Row}(o:ii r=n){rest:Row}(j:ii rest=n)
  (i:∀m,aV n m->(∀x∈M,Span n m x)->(Span n m rest↔Span n m r)):∀v,Span n (M++[rest]) v↔Span n (A++[r]) v:=λv=>by
 have b:=mw e j;have d:=mw f o;have l:∀x∈M,Span n (M++[rest]) x:=λx c=>Span.row b (zS _ c);have g:∀x∈M,Span n (A++[r]) x:=λx c=>Span.mono (λy a=>zS _ a) ((h x).1 (Span.row e c));constructor
 ·refine Span.sub d λy a=>?_;rcases qy.1 a with a|a
  ·exact g y a
  ·rw[qp]at a;subst a;exact(i _ d g).2 (Span.row d i9)
 ·refine Span.sub b λy a=>?_;rcases qy.1 a with a|a
  ·exact Span.mono (λz k=>zS _ k) ((h y).2 (Span.row f a))
  ·rw[qp]at a;subst a;exact(i _ b l).1 (Span.row b i9)
theorem Wd(h:Bn n M A){r:Row}(c:ii r=n):Bn n (Nl M r) (A++[r]):=by
 have e:=FZ h.even c;have j:=Zp h.span h.even h.evenA c e λm l k=>Kl l k c;have d:=mw h.evenA c;unfold Nl;split
 ·have t:=aew (mw h.even e);refine⟨t.1,d,λv=>(t.2.1 v).trans (j v),?_,t.2.2.2⟩;rw[t.2.2.1];exact Km (mw h.even e) d j
 ·rename_i f;have f:=Wb f;have i:Span n M r:=(Kl h.even (λx g=>Span.row h.even g) c).1 (by rw[f,e];exact .zero);have b:∀v,Span n M v↔Span n (A++[r]) v:=λv=>by
   rw[h.span v];refine⟨Span.mono λx g=>zS _ g,Span.sub h.evenA λy a=>?_⟩;rcases qy.1 a with a|a
   ·exact Span.row h.evenA a
   ·rw[qp]at a;subst a;exact(h.span _).1 i
  refine⟨h.even,d,b,?_,h.lead⟩;rw[h.len];exact Km h.evenA d λv=>(h.span v).symm.trans (b v)
end
theorem Kn:∀{l m:List Nat},l.Nodup->(∀x∈l,x∈m)->ii l<=ii m
 |[],_,_,_=>i9
 |x::l,m,hd,h=>by
  rw[yk]at hd;have a:=h x i9;have c:=Kn (l:=l) (m:=m.erase x) hd.2 λy b=>(List.mem_erase_of_ne λd:y=x=>hd.1 (by rw[<-d];exact b)).2 (h y m4);rw[List.length_erase_of_mem a]at c;have:=List.length_pos_of_mem a;simp;omega
def ny(nd i:Nat):Row:=(aM nd).set i 1
theorem Zq(nd i:Nat):ii (ny nd i)=nd:=by simp[ny,aM]
theorem Zr{nd i:Nat}(a:i<nd)(j:Nat):aJ (ny nd i) j=if j=i then 1 else 0:=by rw[ny,RH (by simpa[aM]using a),cE]
theorem Zs{nd i:Nat}(a:i<nd)(y:Nat->UInt8):bT (λj=>aJ (ny nd i) j) y nd=y i:=
 EG _ _ i nd a λj _=>by
  rw[Zr a];by_cases h:j=i
  ·subst h;simp
  ·rw[g0 h,g0 λb=>h b.symm]
def fQ(n nd w:Nat)(dead:aB):aI×aI:=
 (dead.zipIdx).foldl (λs p=>(s.1.set p.1.toNat (ny nd p.2),s.2.set p.1.toNat (aM w))) (qi n [],qi n [])
theorem Ht(n nd w:Nat)(d:aB)(c:Int):fQ n nd w (d++[c])=((fQ n nd w d).1.set c.toNat (ny nd d.length),(fQ n nd w d).2.set c.toNat (aM w)):=by unfold fQ;rw[List.zipIdx_append,List.foldl_append];simp
theorem Jk{n nd w:Nat}{dead:aB}(j:∀c∈dead,0<=c/\c<(n:Int))(m:dead.Nodup):∀k,k<=ii dead->
  Wa n nd w (·∈dead.take k) (fQ n nd w (dead.take k)).1 (fQ n nd w (dead.take k)).2/\∀i,(o:i<k)->(l:i<ii dead)->aC (fQ n nd w (dead.take k)).1 dead[i].toNat=ny nd i/\aC (fQ n nd w (dead.take k)).2 dead[i].toNat=aM w
 |0,_=>⟨⟨by simp[fQ],by simp[fQ],λc b=>by simp at b⟩,λi o=>i4⟩
 |k+1,hk=>by
  obtain⟨h,l⟩:=Jk (nd:=nd) (w:=w) j m k i4;have g:k<ii dead:=i4
  have u:=j _ (qf g);have e:dead.take (k+1)=dead.take k++[dead[k]]:=zN g;have q:ii (dead.take k)=k:=i7
  rw[e,Ht,q];have p:=h.wl;have r:=h.ml;refine⟨⟨by simp[p],by simp[r],λc b h0 h3=>?_⟩,λi o d=>?_⟩
  ·dsimp only;rw[kU,kU];by_cases a:dead[k].toNat=c.toNat
   ·rw[f9 a,f9 a];exact⟨Zq _ _,k8⟩
   ·rw[g0 a,g0 a];refine h.rw_ c ?_ h0 h3;rcases qy.1 b with b|b
    ·exact b
    ·rw[qp]at b;exact absurd (by rw[b]) a
  ·dsimp only;rw[kU,kU];by_cases f:i=k
   ·subst f;rw[f9 i0,f9 rfl];exact⟨i0,i0⟩
   ·have s:dead[k]≠dead[i]:=λt=>f ((List.getElem_inj m).1 t).symm;have:=j _ (qf d);rw[g0 i4,g0 i4];exact l i i4 d
def iv(nd:Nat)(known:List Bool)(vals:aI)(s:aI×aI):aI×aI:=
 (s.1.mapIdx λc r=>if known.getD c eL then aM nd else r,s.2.mapIdx λc r=>if known.getD c eL then aC vals c else r)
theorem Bo{m:aI}{f:Nat->Row->Row}{c:Nat}(h:c<ii m):aC (m.mapIdx f) c=f c (aC m c):=by rw[bE j7,bE h];simp
def gQ(V:aI)(r:Row)(a:Row):Nat->Row
 |0=>a
 |c+1=>cO (aJ r c) (aC V c) (gQ V r a c)
theorem lC{V:aI}{m:Nat}(r:Row){a:Row}(b:ii a=m):∀{c:Nat},(∀i,i<c->ii (aC V i)=m)->ii (gQ V r a c)=m
 |0,_=>b
 |c+1,h=>by
  have:=lC r b (c:=c) λi d=>h i i4;rw[gQ,bV (by rw[h c i4,this])];exact this
theorem Ga{V:aI}{m:Nat}(r:Row){a:Row}(b:ii a=m)(j:Nat):∀{c:Nat},(∀i,i<c->ii (aC V i)=m)->aJ (gQ V r a c) j=aJ a j^^^bT (λi=>aJ r i) (λi=>aJ (aC V i) j) c
 |0,_=>by simp[gQ,bT]
 |c+1,h=>by
  have e:=lC r b (c:=c) λi d=>h i i4;rw[gQ,cH (by rw[h c i4,e]),Ga r b j (c:=c) λi d=>h i i4,bT];ac_rfl
theorem Nn{V:aI}{m:Nat}(r:Row){a:Row}(b:ii a=m)(y:Nat->UInt8)(n:Nat):∀{c:Nat},(∀i,i<c->ii (aC V i)=m)->bT (λj=>aJ (gQ V r a c) j) y n=bT (λj=>aJ a j) y n^^^bT (λi=>aJ r i) (λi=>bT (λj=>aJ (aC V i) j) y n) c
 |0,_=>by simp[gQ,bT]
 |c+1,h=>by
  have e:=lC r b (c:=c) λi d=>h i i4;rw[gQ,FX (by rw[h c i4,e]),Nn r b y n (c:=c) λi d=>h i i4,bT];ac_rfl
theorem No(f g a:Nat->UInt8):∀k,bT f (λi=>g i^^^a i) k=bT f g k^^^bT f a k
 |0=>by simp[bT]
 |k+1=>by rw[bT,bT,bT,No f g a k,Gf.jS];ac_rfl
theorem Np(t:UInt8)(f g:Nat->UInt8):∀k,bT f (λi=>Gf.mul t (g i)) k=Gf.mul t (bT f g k)
 |0=>by simp[bT,Gf.mul_zero]
 |k+1=>by
  rw[bT,bT,Np t f g k,Gf.jS];congr 1;rw[<-Gf.mul_assoc,<-Gf.mul_assoc,Gf.mul_comm (f k) t]
theorem Bp{n:Nat}(g:Nat->UInt8):∀{l:aB},(∀x∈l,0<=x/\x<(n:Int))->l.Nodup->bT (λj=>aJ (iE n l) j) g n=cL (λc=>g c.toNat) l
 |[],_,_=>by
  rw[cL];refine gb _ _ n λj _=>?_;rw[FT [] (λx a=>t8) j];simp
 |c::l,h,hd=>by
  rw[yk]at hd;have o:=h c i9;have d:=Bp g (l:=l) (λx a=>h x m5) hd.2;have k:bT (λj=>aJ (iE n (c::l)) j) g n=bT (λj=>if(j:Int)∈c::l then 1 else 0) g n:=gw n (λj _=>FT _ h j) λ_ _=>rfl;have e:bT (λj=>aJ (iE n l) j) g n=bT (λj=>if(j:Int)∈l then 1 else 0) g n:=gw n (λj _=>FT _ (λx a=>h x m5) j) λ_ _=>rfl;rw[k,cL,<-d,e];rw[MV (f:=λj=>if(j:Int)∈l then 1 else 0) (f':=λj=>if(j:Int)∈c::l then 1 else 0) (c:=c.toNat) (by rw[g0];rw[show((c.toNat:Nat):Int)=c by omega];exact hd.1) (λi=>by
   by_cases b:i=c.toNat
   ·subst b;rw[f9 i0,f9];rw[show((c.toNat:Nat):Int)=c by omega];simp
   ·rw[g0 b];have:(i:Int)≠c:=λm=>b i4;simp[this]),f9 i4]
  ac_rfl
theorem kernel{nd:Nat}{a:aI}(V:aV nd a)(R:bY a<nd):∃y:Nat->UInt8,(∃i,i<nd/\y i≠0)/\∀r∈a,bT (λj=>aJ r j) y nd=0:=by
 have w:=Nm V;obtain⟨O,Y,ah,K,X,⟨p,Z,U,p3,W⟩,B⟩:=w;generalize hT:bY a=T at*;generalize (bD a (eE a)).2=rows at*;have u:∃j,j<nd/\∀i,i<T->p i≠j:=by
  have s:∀T nd:Nat,T<nd->∀p:Nat->Nat,(∀i,i<T->p i<nd)->∃j,j<nd/\∀i,i<T->p i≠j:=by
   intro T nd ab p S;by_cases f:∀j,j<nd->∃i,i<T/\p i=j
   ·exfalso;have D:∀j∈qz nd,j∈(qz T).map p:=λj A=>by
     obtain⟨i,g,rfl⟩:=f j (qC.1 A);exact qx.2 ⟨i,qC.2 g,i0⟩
    have:=Kn vB D;simp at this;omega
   ·simp only[Classical.not_forall,not_exists,not_and]at f;obtain⟨j,A,h⟩:=f;exact⟨j,A,h⟩
  exact s T nd R p Z
 obtain⟨j,A,E⟩:=u;have F:∀i e,i<T->e<T->p i=p e->i=e:=λi e o n h3=>by
  rcases Nat.lt_trichotomy i e with h|h|h
  ·have:=W i e h n;omega
  ·exact h
  ·have:=W e i h o;omega
 let y:Nat->UInt8:=λc=>if c=j then 1 else cL (λi=>if p i.toNat=c then aJ (aC rows i.toNat) j else 0) ((qz T).map λi:Nat=>(i:Int))
 have hy:∀i,i<T->y (p i)=aJ (aC rows i) j:=λi g=>by
  show(if p i=j then 1 else _)=_;rw[g0 (E i g)];have L:((qz T).map λi:Nat=>(i:Int)).Nodup:=by exact List.Pairwise.map _ (λa b h v=>h (Int.ofNat_inj.1 v)) vB
  rw[uE _ L (c:=(i:Int)) (qx.2 ⟨i,qC.2 g,i0⟩),Db,zX]
  ·simp
  ·intro c q;rw[qI]at q;obtain⟨e,t,rfl⟩:=qx.1 q.1;have I:e≠i:=λv=>by subst v;simp at q
   rw[qk,g0 λv=>I (F e i (qC.1 t) g v)]
 have P:∀c,c≠j->(∀i,i<T->p i≠c)->y c=0:=λc q S=>by
  show(if c=j then 1 else _)=_;rw[g0 q,Db];intro d hd;obtain⟨e,t,rfl⟩:=qx.1 hd;rw[qk,g0 (S e (qC.1 t))]
 have J:y j=1:=by show(if j=j then 1 else _)=_;rw[f9 rfl]
 refine⟨y,⟨j,A,by rw[J];decide⟩,λr N=>?_⟩;refine Span.lin O (λr=>bT (λc=>aJ r c) y nd) (gb _ _ nd λc _=>cE _ _) (λc x z o n=>FX i4 c y nd) (λr R=>?_) ((K r).2 (Span.row V N));obtain⟨k,Q,rfl⟩:=eW R;by_cases l:k<T
 ·--the row's own beginning,and j
  have hf:∀c,c<nd->aJ (aC rows k) c=0∨y c=0∨c=p k∨c=j:=λc q=>by
   by_cases o:c=j
   ·exact .inr (.inr (.inr o))
   ·by_cases n:∃i,i<T/\p i=c
    ·obtain⟨i,g,rfl⟩:=n;by_cases H:k=i
     ·subst H;exact .inr (.inr (.inl i0))
     ·refine .inl ?_;rw[U i g k Q,g0 H]
    ·exact .inr (.inl (P c o λi g v=>n ⟨i,g,v⟩))
  have M:=Z k l;have G:aJ (aC rows k) (p k)=1:=by rw[U k l k Q,f9 rfl]
  have I:p k≠j:=E k l;have s:∀m,m<=nd->bT (λc=>aJ (aC rows k) c) y m=(if p k<m then aJ (aC rows k) j else 0)^^^(if j<m then aJ (aC rows k) j else 0):=by
   intro m
   induction m with
   |zero=>intro _;simp[bT]
   |succ m ih=>
    intro hm;rw[bT,ih i4];by_cases o:m=p k
    ·have ad:m≠j:=i4
     rw[o,G,Gf.one_mul,hy k l];rw[g0 (Nat.lt_irrefl _),f9 (Nat.lt_succ_self _)];by_cases h3:j<p k
     ·rw[f9 h3,f9 i4];ac_rfl
     ·rw[g0 h3,g0 i4];ac_rfl
    ·by_cases n:m=j
     ·rw[n,J,Gf.mul_one];rw[g0 (Nat.lt_irrefl j),f9 (Nat.lt_succ_self j),zX];by_cases h3:p k<j
      ·rw[f9 h3,f9 i4]
      ·rw[g0 h3,g0 i4]
     ·have hz:Gf.mul (aJ (aC rows k) m) (y m)=0:=by
       rcases hf m i4 with h|h|h|h
       ·rw[h,Gf.zero_mul]
       ·rw[h,Gf.mul_zero]
       ·exact absurd h o
       ·exact absurd h n
      rw[hz,zX];have a1:(p k<m+1)↔(p k<m):=i4
      have a2:(j<m+1)↔(j<m):=i4
      simp only[a1,a2]
  rw[s nd (qm _),f9 M,f9 A,lm]
 ·exact gb _ _ nd λc q=>B k i4 Q c q
def dt(n nd:Nat)(rest:List fe)(W:aI)(left:aB)(ahead:aI):aI:=(left.map λi=>cM W (aM nd) (rest.getD i.toNat ([],[])).1)++ahead.map λr=>gQ W r (aM nd) n
def fv(n w:Nat)(rest:List fe)(M:aI)(left:aB)(ahead:aI):aI:=(left.map λi=>cM M (rest.getD i.toNat ([],[])).2 (rest.getD i.toNat ([],[])).1)++ahead.map λr=>gQ M r (aM w) n
def tC(nd:Nat)(known:List Bool)(vals:aI)(W M D:aI):aI:=vals.mapIdx λc r=>if known.getD c eL then r else gQ D (aC W c) (aC M c) nd
def dz(n:Nat)(l:List fe)(ahead:aI):aI:=ahead++l.map λe=>iE n e.1
def iq(w:Nat)(l:List fe)(ahead:aI):aI:=qi ahead.length (aM w)++l.map zi
def at_(X:aI)(k:Nat)(c:Int):UInt8:=aJ (aC X c.toNat) k
section
variable {n w:Nat} {l:List fe} {ahead:aI}
theorem uG(b:aV n ahead):aV n (dz n l ahead):=λr a=>by
 rcases qy.1 a with a|a
 ·exact b r a
 ·obtain⟨e,_,rfl⟩:=qx.1 a;exact tj _ _
theorem uH(c:∀e∈l,iM n w e):aV w (iq w l ahead):=λr a=>by
 rcases qy.1 a with a|a
 ·rw[(yO.1 a).2];simp[aM]
 ·obtain⟨e,b,rfl⟩:=qx.1 a;exact(c e b).len
theorem Aq:ii (dz n l ahead)=ii (iq w l ahead):=by simp[dz,iq]
theorem Bq(p:∀e∈l,iM n w e){X:aI}:iz n w (dz n l ahead) (iq w l ahead) X↔X.length=n/\aV w X/\∀k,k<w->(∀e∈l,Sat 1 k (at_ X k) e)/\∀r∈ahead,bT (λj=>aJ r j) (λc=>aJ (aC X c) k) n=0:=by
 unfold iz;refine⟨λ⟨h1,h2,h3⟩=>⟨h1,h2,λk q=>⟨λe g=>?_,λr t=>?_⟩⟩,λ⟨h1,h2,h3⟩=>⟨h1,h2,λi h=>?_⟩⟩
 ·obtain⟨i,h,rfl⟩:=qD g;have:=h3 (ii ahead+i) m6;have f:aC (dz n l ahead) (ii ahead+i)=iE n l[i].1:=by rw[bE m6];simp[dz]
  have b:aC (iq w l ahead) (ii ahead+i)=l[i].2:=by rw[bE qb];simp[iq]
  rw[f,b]at this;have o:=congrArg (λr=>aJ r k) this;rw[kB h2 h1 _ k n (qm _),Bp _ (p _ g).cS (p _ g).nodup]at o;unfold Sat;rw[Gf.one_mul];exact o
 ·obtain⟨i,h,rfl⟩:=qD t;have:=h3 i m6;have f:aC (dz n l ahead) i=ahead[i]:=by rw[bE m6];simp[dz,vf h]
  have b:aC (iq w l ahead) i=aM w:=by rw[bE qb];simp[iq,h]
  rw[f,b]at this;have o:=congrArg (λr=>aJ r k) this;rw[kB h2 h1 _ k n (qm _),cE]at o;exact o
 ·have m:ii (aC (iq w l ahead) i)=w:=cC (uH p) (by rw[<-Aq (n:=n)];exact h);refine fG (n:=w) (nN h2 h1 _ n (qm _)) m λk q=>?_;rw[kB h2 h1 _ k n (qm _)];simp only[dz,qt,qu]at h;by_cases a:i<ii ahead
  ·have f:aC (dz n l ahead) i=ahead[i]:=by rw[bE m6];simp[dz,vf a]
   have b:aC (iq w l ahead) i=aM w:=by rw[bE qb];simp[iq,a]
   rw[f,b,cE];exact(h3 k q).2 _ (qf a)
  ·obtain⟨d,rfl⟩:∃d,i=ii ahead+d:=⟨i-ii ahead,i4⟩
   have s:d<ii l:=i4
   have f:aC (dz n l ahead) (ii ahead+d)=iE n l[d].1:=by rw[bE m6];simp[dz]
   have b:aC (iq w l ahead) (ii ahead+d)=l[d].2:=by rw[bE qb];simp[iq]
   have g:=p _ (qf s);rw[f,b,Bp _ g.cS g.nodup];have:=(h3 k q).1 _ (qf s);unfold Sat at this;rw[Gf.one_mul]at this;exact this
end
structure gJ (n w:Nat) (l:List fe) (ahead:aI) (known:List Bool) (vals:aI) (dead left:aB) (W M:aI):Prop where
 eqs:∀e∈l,iM n w e
 ahd:aV n ahead
 pinv:jH n w l known vals
 calm:kg known vals l=eL
 deadR:∀c∈dead,0<=c/\c<(n:Int)
 deadN:dead.Nodup
 deadK:∀c∈dead,kn known c=eL
 lens:ii W=n/\M.length=n/\∀c:Nat,c<n->ii (aC W c)=ii dead/\(aC M c).length=w
 evKnown:∀t k y,∀c:Int,0<=c->c<(n:Int)->kn known c=eH->ev t k dead.length W M y c=Gf.mul t (aJ (aC vals c.toNat) k)
 evDead:∀t k y,∀i,(h:i<ii dead)->ev t k dead.length W M y dead[i]=y i
 evRest:∀t k y,k<w->(∀i∈left,Sat t k (ev t k dead.length W M y) ((aW known vals l).getD i.toNat ([],[])))->∀e∈aW known vals l,Sat t k (ev t k dead.length W M y) e
 leftR:∀i∈left,0<=i/\i<(ii (aW known vals l):Int)
 evAll:∀t k x,k<w->(∀c:Int,0<=c->c<(n:Int)->kn known c=eH->x c=Gf.mul t (aJ (aC vals c.toNat) k))->(∀e∈aW known vals l,Sat t k x e)->∀c:Int,0<=c->c<(n:Int)->x c=ev t k dead.length W M (λi=>x (dead.getD i 0)) c
section
variable {n w:Nat} {l:List fe} {ahead:aI} {known:List Bool} {vals:aI} {dead left:aB} {W M:aI}
theorem nY(h:jH n w l known vals)(c:∀e∈l,iM n w e):∀e∈aW known vals l,iM n w e:=λe b=>by
 obtain⟨d,a,rfl⟩:=qx.1 (qI.1 b).1;exact h.Ap (c d a)
theorem xV{a b:UInt8}:a^^^b=0↔a=b:=oJ
theorem gJ.Nq(S:gJ n w l ahead known vals dead left W M){i:Int}(m:i∈left)(t:UInt8)(k:Nat)(y:Nat->UInt8):
  bT (λj=>aJ (cM W (aM dead.length) ((aW known vals l).getD i.toNat ([],[])).1) j) y dead.length=Gf.mul t (aJ (cM M ((aW known vals l).getD i.toNat ([],[])).2 ((aW known vals l).getD i.toNat ([],[])).1) k)↔Sat t k (ev t k dead.length W M y) ((aW known vals l).getD i.toNat ([],[])):=by
 have p:=S.leftR i m;have b:i.toNat<ii (aW known vals l):=i4
 have o:(aW known vals l).getD i.toNat ([],[])=(aW known vals l)[i.toNat]:=by rw[qd,qc b];rfl
 have a:=nY S.pinv S.eqs _ (qf b);rw[o];generalize (aW known vals l)[i.toNat]=e at*;have f:ii (aM dead.length)=ii dead:=k8
 have h:∀c∈e.1,ii (aC W c.toNat)=ii dead:=λc d=>((S.lens.2.2 c.toNat) (by have:=a.cS c d;omega)).1;have g:∀c∈e.1,ii (aC M c.toNat)=w:=λc d=>((S.lens.2.2 c.toNat) (by have:=a.cS c d;omega)).2;have:=Ji f a.len h g t k y;rw[gb _ _ dead.length λj _=>cE _ _,wz]at this;rw[<-xV,this];unfold Sat;rw[xV];exact eq_comm
theorem gJ.Ko(S:gJ n w l ahead known vals dead left W M)(r:Row)(t:UInt8)(k:Nat)(y:Nat->UInt8):
  bT (λj=>aJ (gQ W r (aM dead.length) n) j) y dead.length=Gf.mul t (aJ (gQ M r (aM w) n) k)↔bT (λj=>aJ r j) (λc=>ev t k dead.length W M y (c:Int)) n=0:=by
 have e:=Nn (V:=W) (m:=ii dead) r (a:=aM dead.length) k8 y dead.length (c:=n) λi b=>(S.lens.2.2 i b).1;have d:=Ga (V:=M) (m:=w) r (a:=aM w) k8 k (c:=n) λi b=>(S.lens.2.2 i b).2;rw[e,d,gb _ _ dead.length λj _=>cE _ _,cE,wz,wz,<-xV,<-Np,<-No];have:(λc:Nat=>ev t k dead.length W M y (c:Int))=λi=>bT (λj=>aJ (aC W i) j) y dead.length^^^Gf.mul t (aJ (aC M i) k):=by funext c;unfold ev;rw[qk]
 rw[this]
theorem gJ.up(S:gJ n w l ahead known vals dead left W M){t:UInt8}{k:Nat}{y:Nat->UInt8}(h:k<w)
  (g:∀i,i<ii (dt n dead.length (aW known vals l) W left ahead)->bT (λj=>aJ (aC (dt n dead.length (aW known vals l) W left ahead) i) j) y dead.length=Gf.mul t (aJ (aC (fv n w (aW known vals l) M left ahead) i) k)):
  (∀e∈l,Sat t k (ev t k dead.length W M y) e)/\∀r∈ahead,bT (λj=>aJ r j) (λc=>ev t k dead.length W M y (c:Int)) n=0:=by
 refine⟨(Nd S.pinv S.eqs S.calm h).2 ⟨λc h0 o m=>S.evKnown t k y c h0 o m,S.evRest t k y h λi f=>?_⟩,λr p=>?_⟩
 ·obtain⟨j,a,rfl⟩:=qD f;have:=g j m7;have d:aC (dt n dead.length (aW known vals l) W left ahead) j=cM W (aM dead.length) ((aW known vals l).getD left[j].toNat ([],[])).1:=by rw[bE m7];simp[dt,a]
  have b:aC (fv n w (aW known vals l) M left ahead) j=cM M ((aW known vals l).getD left[j].toNat ([],[])).2 ((aW known vals l).getD left[j].toNat ([],[])).1:=by rw[bE qs];simp[fv,a]
  rw[d,b]at this;exact(S.Nq f t k y).1 this
 ·obtain⟨j,a,rfl⟩:=qD p;have:=g (ii left+j) m7;have d:aC (dt n dead.length (aW known vals l) W left ahead) (ii left+j)=gQ W ahead[j] (aM dead.length) n:=by rw[bE m7];simp[dt]
  have b:aC (fv n w (aW known vals l) M left ahead) (ii left+j)=gQ M ahead[j] (aM w) n:=by rw[bE qs];simp[fv]
  rw[d,b]at this;exact(S.Ko _ t k y).1 this
theorem gJ.down(S:gJ n w l ahead known vals dead left W M){t:UInt8}{k:Nat}{x:Int->UInt8}(s:k<w)(D:∀e∈l,Sat t k x e)(u:∀r∈ahead,bT (λj=>aJ r j) (λc=>x (c:Int)) n=0):
  (∀c:Int,0<=c->c<(n:Int)->x c=ev t k dead.length W M (λi=>x (dead.getD i 0)) c)/\
  ∀i,i<ii (dt n dead.length (aW known vals l) W left ahead)->bT (λj=>aJ (aC (dt n dead.length (aW known vals l) W left ahead) i) j) (λi=>x (dead.getD i 0)) dead.length=Gf.mul t (aJ (aC (fv n w (aW known vals l) M left ahead) i) k):=by
 obtain⟨z,p⟩:=(Nd S.pinv S.eqs S.calm s).1 D;have g:=S.evAll t k x s z p;refine⟨g,λi A=>?_⟩;simp only[dt,qt,qu]at A;by_cases a:i<ii left
 ·have o:aC (dt n dead.length (aW known vals l) W left ahead) i=cM W (aM dead.length) ((aW known vals l).getD left[i].toNat ([],[])).1:=by rw[bE m7];simp[dt,a]
  have h:aC (fv n w (aW known vals l) M left ahead) i=cM M ((aW known vals l).getD left[i].toNat ([],[])).2 ((aW known vals l).getD left[i].toNat ([],[])).1:=by rw[bE qs];simp[fv,a]
  rw[o,h];refine(S.Nq (qf a) t k _).2 ?_;have y:=S.leftR _ (qf a);have b:left[i].toNat<ii (aW known vals l):=i4
  have v:(aW known vals l).getD left[i].toNat ([],[])=(aW known vals l)[left[i].toNat]:=by rw[qd,qc b];rfl
  rw[v];have q:=p _ (qf b);have f:=nY S.pinv S.eqs _ (qf b);unfold Sat at q⊢;rw[<-q];exact kf λc m=>(g c (f.cS c m).1 (f.cS c m).2).symm
 ·obtain⟨d,rfl⟩:∃d,i=ii left+d:=⟨i-ii left,i4⟩
  have B:d<ii ahead:=i4
  have o:aC (dt n dead.length (aW known vals l) W left ahead) (ii left+d)=gQ W ahead[d] (aM dead.length) n:=by rw[bE m7];simp[dt]
  have h:aC (fv n w (aW known vals l) M left ahead) (ii left+d)=gQ M ahead[d] (aM w) n:=by rw[bE qs];simp[fv]
  rw[o,h];refine(S.Ko _ t k _).2 ?_;rw[<-u _ (qf B)];exact gw n (λ_ _=>rfl) λc m=>(g (c:Int) i4 i4).symm
theorem oM(S:gJ n w l ahead known vals dead left W M):aV dead.length (dt n dead.length (aW known vals l) W left ahead)/\aV w (fv n w (aW known vals l) M left ahead):=by
 have d:∀i∈left,iM n w ((aW known vals l).getD i.toNat ([],[])):=λi b=>by
  have h:=S.leftR i b;have e:i.toNat<ii (aW known vals l):=i4
  rw[qd,qc e];exact nY S.pinv S.eqs _ (qf e)
 constructor
 ·intro r a;rcases qy.1 a with a|a
  ·obtain⟨i,b,rfl⟩:=qx.1 a;exact jG k8 λc f=>((S.lens.2.2 c.toNat) (by have:=(d i b).cS c f;omega)).1
  ·obtain⟨x,g,rfl⟩:=qx.1 a;exact lC x k8 λi b=>(S.lens.2.2 i b).1
 ·intro r a;rcases qy.1 a with a|a
  ·obtain⟨i,b,rfl⟩:=qx.1 a;exact jG (d i b).len λc f=>((S.lens.2.2 c.toNat) (by have:=(d i b).cS c f;omega)).2
  ·obtain⟨x,g,rfl⟩:=qx.1 a;exact lC x k8 λi b=>(S.lens.2.2 i b).2
theorem uI:ii (dt n dead.length (aW known vals l) W left ahead)=ii (fv n w (aW known vals l) M left ahead):=by simp[dt,fv]
theorem gJ.MW(S:gJ n w l ahead known vals dead left W M)(J:1<=w)(f:bY (dz n l ahead)=n):bY (dt n dead.length (aW known vals l) W left ahead)=ii dead:=by
 obtain⟨H,X⟩:=oM S;have P:=oH H;by_cases z:bY (dt n dead.length (aW known vals l) W left ahead)<ii dead
 ·exfalso;obtain⟨y,⟨i,b,U⟩,O⟩:=kernel H z;have o:=S.up (t:=0) (k:=0) (y:=y) J λi b=>by rw[O _ (mem_row b),Gf.zero_mul]
  have G:=uG (l:=l) S.ahd;have u:aV 1 (qi (dz n l ahead).length (aM 1)):=λr f=>by rw[(yO.1 f).2];simp[aM]
  have d:ii (dz n l ahead)=ii (qi (dz n l ahead).length (aM 1)):=i9
  have L:iz n 1 (dz n l ahead) (qi (dz n l ahead).length (aM 1)) (qi n (aM 1)):=by
   have a:aV 1 (qi n (aM 1)):=λr f=>by rw[(yO.1 f).2];simp[aM]
   refine⟨i9,a,λi b=>?_⟩;refine fG (n:=1) (nN a i9 _ n (qm _)) (cC u k9) λk T=>?_;rw[kB a i9 _ k n (qm _)];have F:aC (qi (dz n l ahead).length (aM 1)) i=aM 1:=by rw[bE k9];simp
   rw[F,cE];have:∀g,g<=n->bT (λj=>aJ (aC (dz n l ahead) i) j) (λc=>aJ (aC (qi n (aM 1)) c) k) g=0:=by
    intro g
    induction g with
    |zero=>intro _;rfl
    |succ g ih=>
     intro R;have I:aC (qi n (aM 1)) g=aM 1:=by rw[bE i7];simp
     rw[bT,ih i4,I,cE,Gf.mul_zero];rfl
   exact this n (qm _)
  have K:iz n 1 (dz n l ahead) (qi (dz n l ahead).length (aM 1)) ((qz n).map λc:Nat=>[ev 0 0 dead.length W M y (c:Int)]):=by
   have a:aV 1 ((qz n).map λc:Nat=>[ev 0 0 dead.length W M y (c:Int)]):=λr f=>by obtain⟨c,_,rfl⟩:=qx.1 f;rfl
   have p:∀c:Nat,c<n->aC ((qz n).map λc:Nat=>[ev 0 0 dead.length W M y (c:Int)]) c=[ev 0 0 dead.length W M y (c:Int)]:=λc q=>by rw[bE o7];simp
   refine⟨i9,a,λi b=>?_⟩;refine fG (n:=1) (nN a i9 _ n (qm _)) (cC u k9) λk T=>?_;have B:k=0:=i4
   subst B;rw[kB a i9 _ 0 n (qm _)];have F:aC (qi (dz n l ahead).length (aM 1)) i=aM 1:=by rw[bE k9];simp
   rw[F,cE];have Q:bT (λj=>aJ (aC (dz n l ahead) i) j) (λc=>aJ (aC ((qz n).map λc:Nat=>[ev 0 0 dead.length W M y (c:Int)]) c) 0) n=bT (λj=>aJ (aC (dz n l ahead) i) j) (λc=>ev 0 0 dead.length W M y (c:Int)) n:=
    gw n (λ_ _=>rfl) λc q=>by rw[p c q];rfl
   rw[Q];have A:aC (dz n l ahead) i∈ahead++l.map λe=>iE n e.1:=mem_row b;obtain D|D:=qy.1 A
   ·exact o.2 _ D
   ·obtain⟨e,s,v⟩:=qx.1 D;rw[<-v,Bp _ (S.eqs e s).cS (S.eqs e s).nodup];have x:=o.1 e s;unfold Sat at x;rw[Gf.zero_mul]at x;refine Eq.trans (kf λc q=>?_) x;have:=(S.eqs e s).cS c q;rw[show((c.toNat:Nat):Int)=c by omega]
  have u0:=(sg d G u f L).1;have V:=(sg d G u f K).1;have E:=V.trans u0.symm;have N:=S.deadR _ (qf b);have h:=congrArg (λm=>aJ (aC m dead[i].toNat) 0) E;rw[bE i7,bE i7]at h;simp only[List.getElem_map,List.getElem_range,List.getElem_replicate,cE]at h;rw[show((dead[i].toNat:Nat):Int)=dead[i]by omega]at h;have h8:aJ [ev 0 0 dead.length W M y dead[i]] 0=ev 0 0 dead.length W M y dead[i]:=rfl;rw[h8,S.evDead 0 0 y i b]at h;exact U h
 ·omega
theorem Jl(S:gJ n w l ahead known vals dead left W M){D:aI}(j:ii D=ii dead)(f:aV w D){c:Nat}(d:c<n):
  (aC (tC dead.length known vals W M D) c).length=w/\∀k,aJ (aC (tC dead.length known vals W M D) c) k=ev 1 k dead.length W M (λi=>aJ (aC D i) k) (c:Int):=by
 have h:=S.pinv.vlen;have a:aC (tC dead.length known vals W M D) c=if known.getD c eL then aC vals c else gQ D (aC W c) (aC M c) dead.length:=by unfold tC;rw[Bo i4]
 have e:=S.lens.2.2 c d;rw[a];cases hkn:known.getD c eL with
 |true=>
  rw[f9 rfl];refine⟨by have:=S.pinv.row c d;rw[hkn]at this;simpa using this,λk=>?_⟩;have:=S.evKnown 1 k (λi=>aJ (aC D i) k) (c:Int) i4 i4 (by unfold kn;rw[qk];exact hkn);rw[this,qk,Gf.one_mul]
 |false=>
  rw[g0 i9];have b:∀i,i<ii dead->ii (aC D i)=w:=λi g=>cC f;refine⟨lC _ e.2 b,λk=>?_⟩;rw[Ga _ e.2 k b];unfold ev;rw[qk,Gf.one_mul,vz]
theorem acG(h:ii vals=n){D:aI}:ii (tC dead.length known vals W M D)=n:=by simp[tC,h]
theorem gJ.Tx(S:gJ n w l ahead known vals dead left W M){D:aI}(q:iz dead.length w (dt n dead.length (aW known vals l) W left ahead) (fv n w (aW known vals l) M left ahead) D):iz n w (dz n l ahead) (iq w l ahead) (tC dead.length known vals W M D):=by
 obtain⟨d,a,f⟩:=q;obtain⟨v,u⟩:=oM S;have g:=acG (dead:=dead) (known:=known) (W:=W) (M:=M) S.pinv.vlen (D:=D);refine(Bq S.eqs).2 ⟨g,λr h=>?_,λk s=>?_⟩
 ·obtain⟨c,b,rfl⟩:=eW h;exact(Jl S d a i4).1
 ·have j:=S.up (t:=1) (k:=k) (y:=λi=>aJ (aC D i) k) s λi p=>by
   have:=congrArg (λr=>aJ r k) (f i p);rw[kB a d _ k dead.length (qm _)]at this;rw[this,Gf.one_mul]
  refine⟨λe m=>?_,λr h=>?_⟩
  ·have h3:=j.1 e m;unfold Sat at h3⊢;rw[<-h3];refine kf λc b=>?_;have o:=(S.eqs e m).cS c b;unfold at_;rw[(Jl S d a (show c.toNat<n by omega)).2 k,show((c.toNat:Nat):Int)=c by omega]
  ·rw[<-j.2 r h];exact gw n (λ_ _=>rfl) λc b=>(Jl S d a b).2 k
theorem gJ.PK(S:gJ n w l ahead known vals dead left W M){X:aI}(q:iz n w (dz n l ahead) (iq w l ahead) X):iz dead.length w (dt n dead.length (aW known vals l) W left ahead) (fv n w (aW known vals l) M left ahead) (dead.map λc=>aC X c.toNat):=by
 obtain⟨s,o,m⟩:=(Bq S.eqs).1 q;obtain⟨u,p⟩:=oM S;have d:aV w (dead.map λc=>aC X c.toNat):=λr e=>by
  obtain⟨c,h,rfl⟩:=qx.1 e;have:=S.deadR c h;exact cC o
 have a:ii (dead.map λc=>aC X c.toNat)=ii dead:=i9
 refine⟨a,d,λi g=>fG (n:=w) (nN d a _ _ (qm _)) (cC p (by rw[<-uI (n:=n) (w:=w)];exact g)) λk b=>?_⟩;rw[kB d a _ k dead.length (qm _)];have h3:=(S.down (t:=1) (x:=at_ X k) b (m k b).1 (λr e=>by
  have:=(m k b).2 r e;rw[<-this];exact gw n (λ_ _=>rfl) λc h=>by unfold at_;rw[qk])).2 i g
 rw[Gf.one_mul]at h3;rw[<-h3];refine gw _ (λ_ _=>rfl) λj f=>?_;unfold at_;rw[bE sR,qd,qc f];simp
end
def io(known:List Bool)(i:Nat):cu:=((qz i).filter λc=>known.getD c eL).map λc:Nat=>[(c:Int)]
theorem Jm(known:List Bool)(i:Nat):io known (i+1)=io known i++if known.getD i eL then[[(i:Int)]]else[]:=by unfold io;rw[zV,List.filter_append,qM];cases h:known.getD i eL<;>simp only[zq,h,List.filter_nil]<;>rfl
theorem Cc(known:List Bool)(i:Nat):ii (io known i)<=i:=by unfold io;rw[qu];exact q9 (qR _ _) i9
def rowsOf(R:List fe)(known:List Bool)(n:Nat):cu:=R.map qq++io known n
def gE(R:List fe)(known:List Bool)(n:Nat):Pl:=dE n (rowsOf R known n)
def mR(R:List fe)(known:List Bool)(n:Nat):List (Int×Int):=(gE R known n).steps.filter λx=>decide (x.1<ii R)
def leftOf(R:List fe)(known:List Bool)(n:Nat):aB:=(fu (gE R known n).used (rowsOf R known n).length).filter λx=>decide (x<ii R)
theorem uJ{known:List Bool}{n:Nat}{r:aB}(h:r∈io known n):∃c:Nat,r=[(c:Int)]/\c<n/\known.getD c eL=eH:=by obtain⟨c,a,rfl⟩:=qx.1 h;rw[qI,qC]at a;exact⟨c,i0,a.1,a.2⟩
theorem Dj{rows:cu}:∀{d:List (Int×Int)} {D U:Int->Prop},rk rows D U d->∀i c,(i,c)∈d->(0<=i/\i<ii rows)/\c∈rows.getD i.toNat []
 |[],_,_,_,_,_,h=>j8
 |(i',c')::t,D,U,hg,i,c,h=>by
  obtain⟨f,_,_,e,_,g⟩:=hg;rcases qV.1 h with h|h
  ·injection h with a b;subst a;subst b;exact⟨f,e⟩
  ·exact Dj g i c h
section
variable {n w:Nat} {l:List fe} {ahead:aI} {known:List Bool} {vals:aI}
theorem sN(f:∀e∈aW known vals l,iM n w e):∀r∈rowsOf (aW known vals l) known n,∀c∈r,0<=c/\c<(n:Int):=λr a c b=>by
 rcases qy.1 a with a|a
 ·obtain⟨e,g,rfl⟩:=qx.1 a;exact(f e g).cS c b
 ·obtain⟨d,rfl,h,_⟩:=uJ a;rw[qp]at b;subst b;omega
theorem Kp(k:∀e∈l,iM n w e)(f:jH n w l known vals):rm ((aW known vals l).map qq) (·∈(gE (aW known vals l) known n).dead) (mR (aW known vals l) known n):=by
 have h:=nY f k;obtain⟨_,_,_,_,_,g⟩:=tz (sN h);have:=xU (R:=(aW known vals l).map qq) (S:=io known n) (K:=λc=>kn known c=eH) (λr b c a=>?_) (λr b c a=>?_) g (D':=(·∈(gE (aW known vals l) known n).dead)) λc _=>Iff.rfl
 ·rw[qu]at this;exact this
 ·obtain⟨e,i,rfl⟩:=qx.1 b;obtain⟨m,o,rfl⟩:=qx.1 (qI.1 i).1;rw[Dd f m c a];simp
 ·obtain⟨d,rfl,_,j⟩:=uJ b;rw[qp]at a;subst a;unfold kn;rw[qk];exact j
theorem Hu(o:∀e∈l,iM n w e)(k:jH n w l known vals):
  (∀c∈(gE (aW known vals l) known n).dead,0<=c/\c<(n:Int))/\(gE (aW known vals l) known n).dead.Nodup/\(∀c∈(gE (aW known vals l) known n).dead,kn known c=eL)/\
  (∀i∈leftOf (aW known vals l) known n,0<=i/\i<(ii (aW known vals l):Int))/\(gE (aW known vals l) known n).dead.length<=n:=by
 have m:=nY k o;obtain⟨q,p,a3,a4,a5,g⟩:=tz (sN m);refine⟨a3,a4,λc h=>?_,λi a=>?_,by unfold gE;omega⟩
 ·have b:=a3 c h;cases hk:kn known c with
  |false=>rfl
  |true=>
   exfalso;have f:[c]∈rowsOf (aW known vals l) known n:=qy.2 (.inr (qx.2 ⟨c.toNat,qI.2 ⟨qC.2 i4,hk⟩,by rw[show((c.toNat:Nat):Int)=c by omega]⟩));exact Bj f n (qi n eH) (qi _ eL) (λi a=>by rw[Dg]at a;cases a) (λd r f=>by have:=a3 d f;omega) b.1 h
 ·unfold leftOf at a;rw[qI]at a;have:=a5 i a.1;have j:i<(ii (aW known vals l):Int):=by simpa using a.2
  exact⟨this.1,j⟩
theorem Zt(m:∀e∈l,iM n w e)(k:jH n w l known vals){c:Int}(t:0<=c)(u:c<(n:Int))(f:kn known c=eL):c∈(gE (aW known vals l) known n).dead∨∃i,(i,c)∈mR (aW known vals l) known n:=by
 have h:=nY k m;obtain⟨_,_,_,_,_,g⟩:=tz (sN h);have a:=Di (sN h) n (qi n eH) (qi (rowsOf (aW known vals l) known n).length eL) i9 i9 c.toNat (by rw[qd,qc i7];simp);rw[show((c.toNat:Nat):Int)=c by omega]at a;rcases a with a|⟨i,a⟩
 ·exact .inl a
 ·refine .inr ⟨i,qI.2 ⟨a,?_⟩⟩;obtain⟨o,j⟩:=Dj g i c a;by_cases q:i<(ii (aW known vals l):Int)
  ·simpa using q
  ·exfalso;have s:=o.2;rw[rowsOf,qt,qu]at s;have p:(rowsOf (aW known vals l) known n).getD i.toNat []∈io known n:=by rw[rowsOf,qd,qh oa,qc oa];exact qf _
   obtain⟨d,r,_,b⟩:=uJ p;rw[r,qp]at j;subst j;unfold kn at f;rw[qk,b]at f;cases f
def LN(n w:Nat)(known:List Bool)(vals:aI)(R:List fe):aI×aI:=
 iv (gE R known n).dead.length known vals ((mR R known n).foldl (hY R (gE R known n).dead.length) (fQ n (gE R known n).dead.length w (gE R known n).dead))
theorem Zu{nd:Nat}{s:aI×aI}{c:Int}(d:0<=c)(b:c.toNat<ii s.1)(a:c.toNat<ii s.2):
  aC (iv nd known vals s).1 c.toNat=(if kn known c then aM nd else aC s.1 c.toNat)/\aC (iv nd known vals s).2 c.toNat=if kn known c then aC vals c.toNat else aC s.2 c.toNat:=by
 unfold iv kn;exact⟨Bo b,Bo a⟩
theorem Zv(F:∀e∈l,iM n w e)(hA:aV n ahead)(u:jH n w l known vals)(T:kg known vals l=eL):
  gJ n w l ahead known vals (gE (aW known vals l) known n).dead (leftOf (aW known vals l) known n) (LN n w known vals (aW known vals l)).1 (LN n w known vals (aW known vals l)).2:=by
 have B:=nY u F;have V:=Kp F u;have a:=λc h0 m o=>Zt (c:=c) F u h0 m o;obtain⟨J,M,N,f4,f5⟩:=Hu F u;have b:∀j:Nat,j<ii (aW known vals l)->(∃c,((j:Int),c)∈mR (aW known vals l) known n)∨(j:Int)∈leftOf (aW known vals l) known n:=λj S=>by
  cases hu:(gE (aW known vals l) known n).used.getD j eL with
  |true=>
   rcases Dh n (qi n eH) (qi _ eL) j hu with h|⟨c,h⟩
   ·rw[Dg]at h;cases h
   ·exact .inl ⟨c,qI.2 ⟨h,i7⟩⟩
  |false=>exact .inr (qI.2 ⟨(Bi _ _ _).2 ⟨j,i0,by rw[rowsOf,qt,qu];omega,hu⟩,i7⟩)
 have s:∀e∈aW known vals l,∀c∈e.1,kn known c=eL:=λe v c O=>by
  obtain⟨e0,ab,rfl⟩:=qx.1 (qI.1 v).1;exact Dd u e0 c O
 unfold LN;obtain⟨R,f⟩:∃R,R=aW known vals l:=⟨_,rfl⟩
 rw[<-f]at B V J M N f4 f5 b a s⊢;obtain⟨D,X⟩:∃D,D=(gE R known n).dead:=⟨_,rfl⟩
 obtain⟨ST,r⟩:∃ST,ST=mR R known n:=⟨_,rfl⟩
 rw[<-X,<-r]at V a;rw[<-r]at b;rw[<-X]at J M N f5;rw[<-X,<-r];obtain⟨dk,Y⟩:=Jk (nd:=ii D) (w:=w) J M D.length (qm _);rw[List.take_length]at dk Y;obtain⟨z,keep,W,G⟩:=FY B V dk;generalize ad:ST.foldl (hY R D.length) (fQ n D.length w D)=S0 at*;have Q:=z.wl;have U:=z.ml;have fr:∀c:Int,0<=c->c<(n:Int)->aC (iv D.length known vals S0).1 c.toNat=(if kn known c then aM D.length else aC S0.1 c.toNat)/\aC (iv D.length known vals S0).2 c.toNat=if kn known c then aC vals c.toNat else aC S0.2 c.toNat:=λc h0 m=>Zu h0 i4 i4
 have A:∀t k y (c:Int),0<=c->c<(n:Int)->kn known c=eL->ev t k D.length (iv D.length known vals S0).1 (iv D.length known vals S0).2 y c=ev t k D.length S0.1 S0.2 y c:=λt k y c h0 m o=>by
  have:=fr c h0 m;rw[o]at this;exact Bl this.1 this.2
 have E:∀t k y (c:Int),0<=c->c<(n:Int)->kn known c=eH->ev t k D.length (iv D.length known vals S0).1 (iv D.length known vals S0).2 y c=Gf.mul t (aJ (aC vals c.toNat) k):=λt k y c h0 m o=>by
  have:=fr c h0 m;rw[o,f9 rfl,f9 rfl]at this;unfold ev;rw[this.1,this.2,gb _ _ D.length λj _=>cE _ _,wz]
 have H:∀t k y i,(h:i<ii D)->ev t k D.length (fQ n D.length w D).1 (fQ n D.length w D).2 y D[i]=y i:=λt k y i h=>by
  have:=Y i h h;unfold ev;rw[this.1,this.2,Zs h,cE,Gf.mul_zero,zX]
 have I:∀i:Int,0<=i->i<(ii R:Int)->R.getD i.toNat ([],[])∈R:=λi h0 m=>by
  rw[qd,qc i4];exact qf _
 refine⟨F,hA,u,T,J,M,N,⟨by simp[iv,Q],by simp[iv,U],λc O=>?_⟩,E,λt k y i h=>?_,λt k y o K e v=>?_,by rw[<-f];exact f4,λt k x o hx K c h0 m=>?_⟩
 ·have h:=fr (c:Int) i4 i4;rw[qk]at h;rw[h.1,h.2];cases o:kn known (c:Int)with
  |true=>
   rw[f9 i0,f9 rfl];refine⟨k8,?_⟩;have:=u.Dc (c:=(c:Int)) i4 i4 o
   rwa [qk]at this
  |false=>
   rw[g0 i9,g0 i9];have:=z.rw_ (c:Int) (a _ i4 i4 o) i4 i4
   rwa [qk]at this
 ·have P:=J _ (qf h);rw[A t k y _ P.1 P.2 (N _ (qf h)),<-H t k y i h];exact Bl (keep _ (qf h) P.1).1 (keep _ (qf h) P.1).2
 ·rw[<-f]at v K;obtain⟨j,S,rfl⟩:=qD v;have ej:R.getD ((j:Int)).toNat ([],[])=R[j]:=by rw[qk,qd,qc S];rfl
  rcases b j S with⟨c,O⟩|hlf
  ·have:=W _ O t k y o;dsimp only at this;rw[ej]at this;unfold Sat at this⊢;rw[<-this];exact kf λd L=>A t k y d ((B _ v).cS d L).1 ((B _ v).cS d L).2 (s _ v d L)
  ·have:=K _ hlf
   rwa [ej]at this
 ·rw[<-f]at K;cases hkc:kn known c with
  |true=>rw[hx c h0 m hkc,E _ _ _ c h0 m hkc]
  |false=>
   rw[A _ _ _ c h0 m hkc];refine G t k x _ o (λd L Z h3=>?_) (λp hp=>?_) c (a c h0 m hkc) h0 m
   ·obtain⟨i,hi,rfl⟩:=qD L;rw[H t k _ i hi,qd,qc hi];rfl
   ·have q:p∈mR R known n:=r▸hp;unfold mR at q;rw[qI]at q;have Z:p.1<(ii R:Int):=by simpa using q.2
    have h3:0<=p.1:=by obtain⟨_,_,_,_,_,g⟩:=tz (rows:=rowsOf R known n) (n:=n) (by rw[f];exact sN (f▸B));exact(Dj g p.1 p.2 q.1).1.1
    exact K _ (I _ h3 Z)
end
def sn(n:Nat)(seed:Int)(l:List (Int×Row)):List fe:=l.map λx=>(eT n seed x.1,x.2)
def Dk(p:Int×Int×Int)(l:List (Int×Row)):aI:=qi p.2.1.toNat (aM p.2.2.toNat)++l.map zi
structure Hv (p:Int×Int×Int) (x:Int×Row):Prop where
 id:ct x.1=eH
 len:ii x.2=p.2.2.toNat
theorem acH{n:Nat}(d:1<=n)(c:n<=20)(seed id:Int):(eT n seed id).Pairwise (·<·):=by have a:=PD n seed id;have b:=Hr d c seed id;rw[List.Nodup]at b;exact(a.and b).imp λ⟨d,c⟩=>i4
section
variable {p:Int×Int×Int} {seed:Int} {l:List (Int×Row)} {n w:Nat}
theorem aex(b:1<=n)(a:n<=20)(g:∀x∈l,Hv p x)(i:p.2.2.toNat=w):∀e∈sn n seed l,iM n w e/\e.1.Pairwise (·<·):=λe d=>by
 obtain⟨x,h,rfl⟩:=qx.1 d;exact⟨⟨λc f=>nT b a f,Hr b a seed x.1,by rw[<-i];exact(g x h).len⟩,acH b a seed x.1⟩
theorem abp(e:bS p=eH)(a:(bX p).toNat=n)(c:∀x∈l,Hv p x):dz n (sn n seed l) (bU p.1.toNat p.2.1.toNat)=ga p seed (l.map qq):=by
 unfold dz ga sn;rw[f9 e,a];have:(l.map qq).filter ct=l.map qq:=wY.2 λi b=>by
  obtain⟨x,d,rfl⟩:=qx.1 b;exact(c x d).id
 rw[this,w7,w7];rfl
theorem abq(a:p.2.2.toNat=w):iq w (sn n seed l) (bU p.1.toNat p.2.1.toNat)=Dk p l:=by unfold iq Dk sn;rw[a,w7];simp[bU]
end
section
variable {n w:Nat} {l:List fe} {ahead:aI} {known:List Bool} {vals:aI} {dead left:aB} {W M:aI}
theorem We(c:∀e∈l,iM n w e)(j:aV n ahead)(f:jH n w l known vals)(a:kg known vals l=eH)(d:bY (dz n l ahead)=n):¬lB n (dz n l ahead) (iq w l ahead):=λg=>by
 obtain⟨k,i,b⟩:=Tv f c a;have h:=sh Aq (uG j) (uH c) d g;exact b _ (((Bq c).1 h).2.2 k i).1
theorem gJ.RL(S:gJ n w l ahead known vals dead left W M)(b:bY (dz n l ahead)=n){D:aI}(a:iz dead.length w (dt n dead.length (aW known vals l) W left ahead) (fv n w (aW known vals l) M left ahead) D):
  lB n (dz n l ahead) (iq w l ahead)/\tC dead.length known vals W M D=gc n (dz n l ahead) (iq w l ahead):=by
 have h:=sg Aq (uG S.ahd) (uH S.eqs) b (S.Tx a);exact⟨h.2,h.1⟩
theorem gJ.RM(S:gJ n w l ahead known vals dead left W M)(b:bY (dz n l ahead)=n)(a:lB n (dz n l ahead) (iq w l ahead)):iz dead.length w (dt n dead.length (aW known vals l) W left ahead) (fv n w (aW known vals l) M left ahead) (dead.map λc=>aC (gc n (dz n l ahead) (iq w l ahead)) c.toNat):=
 S.PK (sh Aq (uG S.ahd) (uH S.eqs) b a)
theorem gJ.Tz(S:gJ n w l ahead known vals dead left W M)(f:1<=w)(c:bY (dz n l ahead)=n):lB dead.length (dt n dead.length (aW known vals l) W left ahead) (fv n w (aW known vals l) M left ahead)↔lB n (dz n l ahead) (iq w l ahead):=by obtain⟨e,d⟩:=oM S;have a:=S.MW f c;exact⟨λb=>(S.RL c (sh uI e d a b)).1,λb=>(sg uI e d a (S.RM c b)).2⟩
theorem Hw{a b:aI}(h:ii a=ii b):iz 0 w a b []↔∀r∈b,r=aM w:=by
 unfold iz;constructor
 ·rintro⟨_,_,h3⟩ r c;obtain⟨i,e,rfl⟩:=eW c;exact(h3 i i4).symm
 ·intro d;refine⟨i0,λr c=>(by cases c),λi e=>?_⟩;have:aC b i∈b:=mem_row;rw[d _ this];rfl
theorem acI(c:∀e∈l,e.1.Pairwise (·<·)):∀e∈aW known vals l,e.1.Pairwise (·<·):=λe b=>by
 obtain⟨d,a,rfl⟩:=qx.1 (qI.1 b).1;exact(c d a).filter _
theorem Wf:ii (aW known vals l)<=ii l:=by unfold aW;refine q9 (qR _ _) ?_;simp
theorem Wg{m:Nat}(c:∀e∈l,ii e.1<=m):∀e∈aW known vals l,ii e.1<=m:=λe b=>by
 obtain⟨d,a,rfl⟩:=qx.1 (qI.1 b).1;exact q9 (qR _ _) (c d a)
end
end
variable {B:av} {α:Type} {h0 h:Heap} {As:List HP} {e t t2 k by_:Nat} {s:Sl} {f:α->aR} {d:List α} {z:aR}
section
variable {C:Ctx}
theorem Own.Jn(u:C.Ok)(D:bI C.toAi t e k z by_)(G:∃i y,C.T.get t2=dB i/\i.cz=.slice y)(g:∀x,ii (f x)=k)
  (n:Own h e s k f d) (j:∀x,∀c∈f x,c.oneCell'=eH) (i:Nat) (L:i<ii d) {ty:Nat} {K:Sl->Heap->Prop}
  (M:∀h',Own h' e s k f ((d.take i++d.drop (i+1))++d.drop (ii d-1))->aN (λb=>¬s.on b) h h'->K ⟨s.ptr,ii d-1,s.cap⟩ h'):
  bz C.P (zD #[t,t2] ty #[.slice s.ptr i s.cap,.slice (if s.cap=i+1 then s.ptr else s.ptr.map (·.add ((i+1)*k))) (s.len-(i+1)) (s.cap-(i+1))]) (.one (.sc .slc)) h K:=by
 obtain⟨Q,y,F,O⟩:=G;have r:C.P.underlying t2=dB (.slice y):=by have:=u.cz F;rw[O]at this;exact jo this
 have E:=n.len;have l:=n.cap;have B:Seq h (λ_=>True) ⟨if s.cap=i+1 then s.ptr else s.ptr.map (·.add ((i+1)*k)),s.len-(i+1),s.cap-(i+1)⟩ k f (d.drop (i+1)):=Seq.drop (n.seq g λ_ _=>trivial) (i+1) l;obtain⟨v,a⟩:∃v:Sl,v=⟨if s.cap=i+1 then s.ptr else s.ptr.map (·.add ((i+1)*k)),s.len-(i+1),s.cap-(i+1)⟩:=⟨_,rfl⟩
 rw[<-a]at B;have I:(Value.slice (if s.cap=i+1 then s.ptr else s.ptr.map (·.add ((i+1)*k))) (s.len-(i+1)) (s.cap-(i+1)))=.slice v.ptr v.len v.cap:=by rw[a]
 have H:v.len=s.len-(i+1):=by rw[a]
 rw[I];unfold bz zD;simp only[zP,List.getElem?_cons_zero,List.getElem?_cons_succ];refine au.bind (au.always (aG (D.under u)) ?_);refine au.bind (au.always (D.size u) ?_);refine au.bind (au.always (aG r) ?_);refine au.bind (au.pure' ?_);simp only[zf,if_false,w4,if_true];refine au.bind (au.pure' ?_);have m:i+v.len<=s.cap:=i4
 rw[f9 m];refine au.bind (fM g B ?_);rcases n.head with⟨p1,p2,p3⟩|⟨b,rest,p1,p2,p3,p4⟩
 ·subst p3;simp at L
 ·rw[p1];refine au.bind ?_;rw[add_eq,zY];have A:d=d.take i++((d.drop i).take (ii d-1-i)++d.drop (ii d-1)):=by
   have J:(d.drop i).drop (ii d-1-i)=d.drop (ii d-1):=by rw[List.drop_drop];congr 1;omega
   rw[<-J,qA,qA]
  have o:((d.drop i).take (ii d-1-i)).length=ii d-1-i:=i7
  have p:ii (d.drop (i+1))=ii d-1-i:=i7
  refine ey (e:=e) (pre:=(d.take i).flatMap f) (old:=((d.drop i).take (ii d-1-i)).flatMap f) (post:=(d.drop (ii d-1)).flatMap f++rest) ?_ ?_ ?_ ?_ ?_
  ·have:(d.take i).flatMap f++((d.drop i).take (ii d-1-i)).flatMap f++((d.drop (ii d-1)).flatMap f++rest)=d.flatMap f++rest:=by
    conv=>rhs;rw[A]
    simp only[qZ,qn]
   rw[this];exact p2
  ·rw[di g,di g,o,p]
  ·rw[di g,qO,Nat.min_eq_left i4];omega
  ·intro c N;obtain⟨x,_,w⟩:=zM.1 N;exact j x c w
  ·have q:i+v.len=ii d-1:=i4
   rw[q];refine au.pure' ⟨⟨dB ⟨b,0,none⟩,ii d-1,s.cap⟩,i0,?_⟩;rw[<-p1];refine M _ ⟨?_,.inr ⟨b,rest,p1,?_,p3,p4⟩⟩ ?_
   ·simp;omega
   ·rw[gV p2,f9 rfl];simp[qZ]
   ·exact aN.iW p2 (λq=>q ⟨0,p1⟩)
theorem aa.Jn(u:C.Ok)(H:aa B h0 h As)(j:Nat)(m:As[j]?=dB (ae e s k f d))(r:bI C.toAi t e k z by_)(p:∃i w,C.T.get t2=dB i/\i.cz=.slice w)(o:∀x,ii (f x)=k)
  (a:∀x,∀c∈f x,c.oneCell'=eH) (i:Nat) (v:i<ii d) {ty:Nat} {K:Sl->Heap->Prop}
  (A:∀h',aa B h0 h' (As.set j (ae e s k f ((d.take i++d.drop (i+1))++d.drop (ii d-1))))->K ⟨s.ptr,ii d-1,s.cap⟩ h'):
  bz C.P (zD #[t,t2] ty #[.slice s.ptr i s.cap,.slice (if s.cap=i+1 then s.ptr else s.ptr.map (·.add ((i+1)*k))) (s.len-(i+1)) (s.cap-(i+1))]) (.one (.sc .slc)) h K:=
 (H.own j m).Jn u r p o a i v λh' x y=>A h' (H.step j m λq n _=>⟨y.mono λb _ g l=>g (n.2 b l),x,λb g=>⟨x.lt g,.inl (n.2 b g)⟩⟩)
end
variable {P:Program}
structure agR (P:Program) (t it:TypeId):Prop where
 u:∃f0 f1 f2:Field,P.underlying t=dB (.struct #[f0,f1,f2])/\f0.name≠ "_" /\f1.name≠ "_" /\f2.name≠ "_" /\f0.type=it/\f1.type=it/\f2.type=it/\f0.offset=0/\f1.offset=1/\f2.offset=2
 st:P.stoodInHeld t=eL
 i:P.underlying it=dB (.int .i64)
 a:aH P (isAgg it) eL
abbrev k3v(x:Int×Int×Int):eR:=.agg #[xG xM x.1,xG xM x.2.1,xG xM x.2.2]
structure agS (h:Heap) (r:Nat) (ks:List (Int×Int×Int)):Prop where
 ex:∃es clock,h[r]?=dB (.map es clock)/\es.toList.map (λe=>(e.key,e.val))=ks.map (λk=>(k3v k,Value.bool eH))
def mg:Nat->Nat->Nat->List (List Nat)
 |0,_,_=>[[]]
 |t+1,a,n=>(zJ a (n-t-a)).flatMap λi=>(mg t (i+1) n).map (i::·)
def jM(n:Nat):List Nat->Option (List Nat)
 |[]=>none
 |x::l=>match jM n l with
  |some l'=>dB (x::l')
  |none=>if x+ii l+1<n then dB (zJ (x+1) (ii l+1))else none
inductive oN (n:Nat):List Nat->List (List Nat)->Prop
 |last {l:List Nat}:jM n l=none->oN n l [l]
 |more {l l':List Nat} {L:List (List Nat)}:jM n l=dB l'->oN n l' L->oN n l (l::L)
theorem Dl{n:Nat}:∀{l a:List Nat},jM n l=dB a->ii a=ii l
 |[],_,h=>j8
 |x::l,a,h=>by
  unfold jM at h;cases hs:jM n l with
  |some m=>rw[hs]at h;injection h with h;subst h;simp[Dl hs]
  |none=>
   rw[hs]at h;dsimp only at h;split at h
   ·injection h with h;subst h;simp
   ·cases h
theorem oN.cons{n x t:Nat}{l:List Nat}{L R:List (List Nat)}(h:oN n l L)(a:ii l=t)(c:x+t+1<n)(b:oN n (zJ (x+1) (t+1)) R):oN n (x::l) (L.map (x::·)++R):=by
 induction h with
 |last hs=>exact .more (by unfold jM;rw[hs];dsimp only;rw[f9 i4,a]) b
 |more hs _ ih=>exact .more (by unfold jM;rw[hs]) (ih (by rw[Dl hs,a]))
theorem oN.afN{n x t:Nat}{l:List Nat}{L:List (List Nat)}(h:oN n l L)(a:ii l=t)(b:¬x+t+1<n):oN n (x::l) (L.map (x::·)):=by
 induction h with
 |last hs=>exact .last (by unfold jM;rw[hs];dsimp only;rw[g0 i4])
 |more hs _ ih=>exact .more (by unfold jM;rw[hs]) (ih (by rw[Dl hs,a]))
theorem Dm(n:Nat):∀t a,a+t<=n->oN n (zJ a t) (mg t a n)
 |0,a,_=>.last i0
 |t+1,a,h=>by
  have b:∀m a,a+(t+1)<=n->m+1=n-t-a->oN n (zJ a (t+1)) ((zJ a (m+1)).flatMap λi=>(mg t (i+1) n).map (i::·)):=by
   intro m
   induction m with
   |zero=>
    intro a h c;have:=(Dm n t (a+1) i4).afN (x:=a) (t:=t) i9 i4;simpa[yo]using this
   |succ m ih=>
    intro a h c;have:=(Dm n t (a+1) i4).cons (x:=a) (t:=t) i9 i4 (ih (a+1) i4 i4);rw[yo,yo (n:=m+1),zj];exact this
  have:=b (n-t-a-1) a h i4;rw[show n-t-a-1+1=n-t-a by omega]at this;exact this
theorem Nr{n:Nat}:∀(i:Nat) (l m:List Nat),i<=ii l->jM n (l.drop i)=dB m->jM n l=dB (l.take i++m)
 |0,l,m,_,h=>j7
 |i+1,[],m,h,_=>mq
 |i+1,x::l,m,h,hs=>by
  have:=Nr i l m j7 (by simpa using hs);unfold jM;rw[this];simp
theorem Bt{n:Nat}:∀{t a:Nat} {s:List Nat},s∈mg t a n->ii s=t/\(∀x∈s,a<=x/\x<n)/\s.Pairwise (·<·)
 |0,a,s,h=>by simp[mg]at h;subst h;simp
 |t+1,a,s,h=>by
  simp only[mg,zM,qx,List.mem_range'_1]at h;obtain⟨i,f,l,e,rfl⟩:=h;obtain⟨d,c,h3⟩:=Bt e;refine⟨p7,?_,zH.2 ⟨λx b=>(c x b).1,h3⟩⟩;intro x b;rcases qV.1 b with rfl|b
  ·omega
  ·have:=c x b;omega
def ch:Nat->Nat->Nat
 |_,0=>1
 |0,_+1=>0
 |n+1,k+1=>ch n k+ch n (k+1)
theorem mS(n:Nat):ch n 0=1:=by cases n<;>rfl
theorem EP:∀(n k:Nat),n<k->ch n k=0
 |_,0,h=>i4
 |0,k+1,_=>rfl
 |n+1,k+1,h=>by rw[ch,EP n k i4,EP n (k+1) i4]
theorem Jo:∀n,ch n n=1
 |0=>rfl
 |n+1=>by rw[ch,Jo n,EP n (n+1) i4]
theorem Dn:∀(n k:Nat),(k+1)*ch (n+1) (k+1)=(n+1)*ch n k
 |0,0=>rfl
 |0,k+1=>by rw[EP 0 (k+1) i4,EP (0+1) (k+1+1) i4];simp
 |n+1,0=>by
  have:=Dn n 0;rw[mS]at this⊢;rw[ch,mS,Nat.mul_add,this];omega
 |n+1,k+1=>by
  have b:=Dn n k;have a:=Dn n (k+1);rw[ch];have e:(k+1+1)*(ch (n+1) (k+1)+ch (n+1) (k+1+1))=((k+1)*ch (n+1) (k+1)+ch (n+1) (k+1))+(k+1+1)*ch (n+1) (k+1+1):=by rw[Nat.mul_add,wc (k+1)]
  rw[e,b,a];have c:ch (n+1) (k+1)=ch n k+ch n (k+1):=rfl;rw[c,wc (n+1),Nat.mul_add (n+1)];omega
theorem RN{n k:Nat}(h:k<=n):ch n (k+1)*(k+1)=ch n k*(n-k):=by
 cases n with
 |zero=>
  have:k=0:=i4
  subst this;rfl
 |succ n=>
  have b:=Dn n k;have a:(n+1)*ch n k=(n+1-k)*ch (n+1) k:=by
   cases k with
   |zero=>rw[mS,mS];simp
   |succ k=>
    have h3:=Dn n k;have c:ch (n+1) (k+1)=ch n k+ch n (k+1):=rfl;have e:(n+1)*ch (n+1) (k+1)=(n+1)*ch n k+(n+1)*ch n (k+1):=by rw[c,Nat.mul_add]
    have d:(n+1-(k+1))*ch (n+1) (k+1)=(n+1)*ch (n+1) (k+1)-(k+1)*ch (n+1) (k+1):=Nat.sub_mul _ _ _;rw[d,h3,e];omega
  rw[vT,b,a,vT]
theorem afO{n k:Nat}(h:2*(k+1)<=n+1):ch n k<=ch n (k+1):=by
 have b:=RN (n:=n) (k:=k) i4;by_cases h0:ch n k=0
 ·omega
 ·have a:ch n k*(k+1)<=ch n (k+1)*(k+1):=by rw[b];exact Nat.mul_le_mul_left _ i4
  exact Nat.le_of_mul_le_mul_right a i4
theorem Ns:∀(n k:Nat),k<=n->ch n k=ch n (n-k)
 |0,0,_=>rfl
 |n+1,0,_=>by rw[mS,Nat.sub_zero,Jo]
 |n+1,k+1,h=>by
  by_cases c:k=n
  ·subst c;rw[Jo,Nat.sub_self,mS]
  ·have b:=Ns n k i4;have a:=Ns n (k+1) i4;rw[show n+1-(k+1)=(n-(k+1))+1 by omega,ch,ch,b,a,show n-k=n-(k+1)+1 by omega];omega
theorem Gb(n:Nat):∀t a,a<=n->ii (mg t a n)=ch (n-a) t
 |0,a,_=>by rw[mS];rfl
 |t+1,a,h=>by
  have b:∀m a,m=n-t-a->a<=n->ii ((zJ a m).flatMap λi=>(mg t (i+1) n).map (i::·))=ch (n-a) (t+1):=by
   intro m
   induction m with
   |zero=>intro a c d;rw[EP _ _ i4];rfl
   |succ m ih=>
    intro a c d;rw[yo,zj,qt,qu,Gb n t (a+1) i4,ih (a+1) i4 i4];rw[show n-a=n-(a+1)+1 by omega];rfl
  exact b _ a i0 h
def lN(n t:Int):Int:=if 0<=n/\n<=64/\0<=t/\t<=n then(min (ch n.toNat t.toNat) 4097:Nat)else 0
theorem Wh(a b:ByteArray):(a==b)=decide (a=b):=by
 cases a with
 |mk a=>
  cases b with
  |mk b=>
   have h:((ByteArray.mk a)==(ByteArray.mk b))=(a==b):=rfl;rw[h,Bool.eq_iff_iff,beq_iff_eq,decide_eq_true_eq,ByteArray.mk.injEq]
theorem RO(a:ByteArray):(a==a)=eH:=by rw[Wh,g9 rfl]
theorem abr{a b:ByteArray}(h:a≠b):(a==b)=eL:=by rw[Wh,hU h]
section
def uK(x:ByteArray)(v:α):List (ByteArray×α)->List (ByteArray×α)
 |[]=>[(x,v)]
 |(k,u)::t=>if k=x then(k,v)::t else(k,u)::uK x v t
def jN(x:ByteArray):List (ByteArray×α)->Option α
 |[]=>none
 |(k,u)::t=>if k=x then dB u else jN x t
def LO(x:ByteArray):List (ByteArray×α)->List (ByteArray×α)
 |[]=>[]
 |(k,u)::t=>if k=x then t else(k,u)::LO x t
theorem Hx{x:ByteArray}:∀{l:List (ByteArray×α)},jN x l=none↔∀p∈l,p.1≠x
 |[]=>by simp[jN]
 |(k,u)::t=>by
  unfold jN;have a:=Hx (x:=x) (l:=t);by_cases h:k=x
  ·rw[f9 h];simp[h]
  ·rw[g0 h,a];simp[h]
theorem Do{x:ByteArray}(v:α):∀{l:List (ByteArray×α)},jN x l=none->uK x v l=l++[(x,v)]
 |[],_=>rfl
 |(k,u)::t,h=>by
  unfold jN at h;split at h
  ·cases h
  ·rename_i a;unfold uK;rw[g0 a,Do v h];rfl
structure px (h:Heap) (r:Nat) (g:α->eR) (kvs:List (ByteArray×α)):Prop where
 ex:∃es clock,h[r]?=dB (.map es clock)/\es.toList.map (λe=>(e.key,e.val))=kvs.map (λp=>(Value.string p.1,g p.2))
variable {P:Program} {h h':Heap} {r:Nat} {g:α->eR} {kvs:List (ByteArray×α)}
theorem px.af{p:av}(f:px h r g kvs)(d:aN p h h')(i:p r):px h' r g kvs:=by obtain⟨e,a,c,b⟩:=f.ex;exact⟨e,a,d.block i c,b⟩
theorem px.lt(c:px h r g kvs):r<h.size:=by obtain⟨e,a,b,d⟩:=c.ex;exact lt_of_block b
theorem Bu{x:ByteArray}:∀{L:List MapEntry} {kvs:List (ByteArray×α)} {n:Nat},L.map (λe=>(e.key,e.val))=kvs.map (λp=>(Value.string p.1,g p.2))->jN x kvs=none->
  xm .string (.string x) L n=dB none
 |[],_,_,_,_=>rfl
 |e::L,[],_,h,_=>mq
 |e::L,(k,u)::t,n,h,hg=>by
  simp only[z6,List.cons.injEq,Prod.mk.injEq]at h;obtain⟨⟨b,c⟩,h3⟩:=h;unfold jN at hg;split at hg
  ·cases hg
  ·rename_i a;have:(x==k)=eL:=abr λe=>a e.symm;simp only[xm,Instr.sameNow,b,this];exact Bu h3 hg
theorem Bv{x:ByteArray}{u:α}:∀{L:List MapEntry} {kvs:List (ByteArray×α)} {n:Nat},L.map (λe=>(e.key,e.val))=kvs.map (λp=>(Value.string p.1,g p.2))->jN x kvs=dB u->
  ∃j e,xm .string (.string x) L n=dB (dB (n+j,g u))/\L[j]?=dB e/\e.key=.string x/\
   (∀(v:α) (f:MapEntry->MapEntry),(∀e,e.key=Value.string x->((f e).key,(f e).val)=(Value.string x,g v))->(L.modify j f).map (λe=>(e.key,e.val))=(uK x v kvs).map λp=>(Value.string p.1,g p.2))/\
   (L.eraseIdx j).map (λe=>(e.key,e.val))=(LO x kvs).map (λp=>(Value.string p.1,g p.2))
 |[],[],_,_,hg=>by cases hg
 |e::L,[],_,h,_=>mq
 |[],_::_,_,h,_=>mq
 |e::L,(k,w)::t,n,h,hg=>by
  simp only[z6,List.cons.injEq,Prod.mk.injEq]at h;obtain⟨⟨a,c⟩,h3⟩:=h;unfold jN at hg;by_cases b:k=x
  ·subst b;rw[f9 rfl]at hg;cases hg;refine⟨0,e,?_,i0,a,λv f d=>?_,?_⟩
   ·simp only[xm,Instr.sameNow,a,RO,c,wT]
   ·simp only[uK,if_true,List.modify_zero_cons,z6,h3,d e a]
   ·simp only[LO,if_true,List.eraseIdx_cons_zero,h3]
  ·rw[g0 b]at hg;obtain⟨j,l,i,r,q,o,m⟩:=Bv (n:=n+1) h3 hg;refine⟨j+1,l,?_,r,q,λv f d=>?_,?_⟩
   ·have:(x==k)=eL:=abr λe=>b e.symm;simp only[xm,Instr.sameNow,a,this];rw[i];congr 3;omega
   ·simp only[uK,b,if_false,List.modify_succ_cons,z6,o v f d,a,c]
   ·simp only[LO,b,if_false,List.eraseIdx_cons_succ,z6,m,a,c]
theorem Dp{a:TypeId}{x:ByteArray}{b:Bool}(c:P.underlying a=dB .string)(n:Nat):aH P (Instr.checkKey b (n+1) a (.string x)) ():=by unfold Instr.checkKey;exact(aG c).bind .pure
theorem Nt{t:Nat}{K:Option Nat->Heap->Prop}(g:α->eR)(a:∀r h',r=h.size->px h' r g []->aN (λ_=>True) h h'->K (dB r) h'):
  bz P (xl t none) (.one (.sc .mp)) h K:=by
 unfold bz xl;refine au.bind (au.nQ (au.pure' ⟨dB h.size,i0,a _ _ i0 ⟨#[],0,i9,i0⟩ (aN.push _ _ _)⟩))
theorem px.lookup{t i k:Nat}{u0:α}{x:ByteArray}(p:px h r g kvs)(m:P.underlying t=dB (.map i k))(a:P.underlying i=dB .string)(o:aH P (zeroValue k) (g u0))
  {rt:Rt} {K:rt.den->Heap->Prop} (b:∃d:rt.den,g ((jN x kvs).getD u0)=rt.enc d/\K d h):
  bz P (xB t (.map (dB r)) (.string x) eL) rt h K:=by
 obtain⟨s,c,q,f⟩:=p.ex;unfold bz xB;refine au.bind (au.always (aG m) ?_);refine au.bind (au.Rn q (λ_ _ _ h=>j8) ?_);refine au.bind (au.pure' ?_);refine au.bind (au.always (Dp a 9999) ?_);unfold Instr.findKey;refine au.bind (au.bind (au.always (aG a) ?_));cases hg:jN x kvs with
 |none=>
  rw[Bu f hg];refine au.pure' ?_;refine au.bind (au.always o ?_);refine au.bind (au.pure' (au.pure' ?_));rw[hg]at b;exact b
 |some u=>
  obtain⟨j,e,l,_⟩:=Bv (x:=x) (n:=0) f hg;rw[l];refine au.pure' ?_;refine au.bind (au.pure' (au.pure' ?_));rw[hg]at b;exact b
theorem px.update{t f y:Nat}{x:ByteArray}(v:α)(w:px h r g kvs)(m:P.underlying t=dB (.map f y))(a:P.underlying f=dB .string)
  {K:Unit->Heap->Prop} (i:∀h',px h' r g (uK x v kvs)->aN (·≠r) h h'->h'.size=h.size->K () h'):
  au P (yY t (.map (dB r)) (.string x) (g v)) h K:=by
 obtain⟨p,c,b,d⟩:=w.ex;have k:=lt_of_block b;unfold yY;refine au.bind (au.always (aG m) ?_);refine au.bind (au.Rn b (λ_ _ _ h=>j8) ?_);refine au.bind (au.always (Dp a 9999) ?_);unfold Instr.findKey;refine au.bind (au.bind (au.always (aG a) ?_));have af:∀o,aN (·≠r) h (h.setIfInBounds r o):=λo=>aN.iW b λz=>z i0;cases hg:jN x kvs with
 |none=>
  rw[Bu d hg];refine au.pure' ?_;refine au.Ro b (λ_ _ _ h=>j8) ?_;refine i _ ⟨_,_,by rw[yC,f9 i0,f9 k],?_⟩ (af _) i9;rw[Do v hg];simp[d]
 |some u=>
  obtain⟨j,e,l,D,B,q,_⟩:=Bv (x:=x) (n:=0) d hg;rw[l];refine au.pure' ?_;have s:p[0+j]?=dB e:=by rw[zY,<-Array.getElem?_toList];exact D
  dsimp only;rw[s];simp only[qQ,Option.getD_some,B];refine au.bind ?_;unfold Instr.keyThatStays;have A:Instr.sameBits 10000 (.string x) (.string x)=eH:=by simp only[Instr.sameBits,RO]
  rw[A,f9 rfl];refine au.pure' ?_;refine au.Ro b (λ_ _ _ h=>j8) ?_;refine i _ ⟨_,_,by rw[yC,f9 i0,f9 k],?_⟩ (af _) i9;rw[Array.toList_modify,zY];exact q v _ λ_ _=>rfl
end
def nh{α:Type}(r:Nat)(g:α->eR)(a:List (ByteArray×α)):HP:=
 ⟨λh q=>px h r g a/\q r,λx c=>⟨x.1.af c x.2,x.2⟩,λx b=>⟨x.1,b _ x.2⟩⟩
variable {h':Heap} {r:Nat} {g:α->eR} {kvs:List (ByteArray×α)}
theorem aa.aey{t:Nat}(H:aa B h0 h As)(g:α->eR){K:Option Nat->Heap->Prop}(b:∀r h',aa B h0 h' (As++[nh r g []])->K (dB r) h'):bz P (xl t none) (.one (.sc .mp)) h K:=
 Nt g λr h' d a c=>b r h' (H.comp (.one (any c) ⟨a,i4,a.lt⟩))
theorem aa.map(H:aa B h0 h As)(i:Nat)(a:As[i]?=dB (nh r g kvs)):px h r g kvs:=(H.at i a).1
theorem aa.aez{t d o:Nat}{x:ByteArray}(v:α)(H:aa B h0 h As)(i:Nat)(j:As[i]?=dB (nh r g kvs))(l:P.underlying t=dB (.map d o))(a:P.underlying d=dB .string)
  {K:Unit->Heap->Prop} (p:∀h',aa B h0 h' (As.set i (nh r g (uK x v kvs)))->K () h'):au P (yY t (.map (dB r)) (.string x) (g v)) h K:=
 (H.map i j).update v l a λh' f k s=>p h' (H.step i j λq c n=>⟨k.mono λb _ m e=>m (e▸c.2),f,f.lt,.inl c.2⟩)
variable {p q:av} {v:Sl} {l2:List α}
section
variable {C:Ctx} {l:List α}
end
section
variable {C:Ctx}
end
section
open Go.RowKit Go.ChangeShapes Go.WideShapes Go.Joins Go.Deep
section
variable {H:Type} {enc:TypeId×eR->H} {P:Program} {W W':World}
theorem Zw{w a:World}(c:de w a)(d:aN (λb=>b<w.heap.size) w.heap a.heap):Below w.heap.size w a:=
 ⟨c.os,c.tape,c.output,d.1,λk e=>d.2 k e e⟩
theorem Cd(f:laidOutB P=eH)(c:Below W.heap.size W W'):∀{ts:List TypeId} {vs:aR} {ds:List (DataW H)} {ps:List MemPlace},
  (∀t∈ts,P.readableRec t=eH/\t<P.types.size)->DataW.TrodAll enc P W 0 (λ_=>eH) eH ts vs ds ps->(∀x∈ps,x.block<W.heap.size)->DataW.TrodAll enc P W' 0 (λb=>decide (b<W.heap.size)) eH ts vs ds ps
 |[],[],[],ps,_,h,_=>h
 |t::ts,v::vs,d::ds,ps,hr,⟨p,q,h1,h2,e⟩,hlt=>by
  subst e;exact⟨p,q,Below.trod f (hr t i9).1 (hr t i9).2 h1 c λx a=>hlt x m5,Cd f c (λu g=>hr u oj) h2 λx a=>hlt x m5,i0⟩
 |[],_::_,_,_,_,h,_=>h.elim
 |[],[],_::_,_,_,h,_=>h.elim
 |_::_,[],_,_,_,h,_=>h.elim
 |_::_,_::_,[],_,_,h,_=>h.elim
theorem Zx{f:Func}{s:ChangeSpec}{args:Array eR}{ds:List (DataW H)}{a:List MemPlace}{rt:TypeId}(k:s.vars=[])(d:DataW.Whole enc P f.params.toList s.vars eL W args.toList ds [] a)
  (b:s.fn H (ds++[])={results:=[.lit (.bool eH)],args:=ds}) (m:laidOutB P=eH) (j:Below W.heap.size W W') (o:∀t∈f.params.toList,P.readableRec t=eH/\t<P.types.size)
  (c:f.resultTypes=#[rt]) (g:P.underlying rt=dB .bool):s.post enc P f eL eH eL eL W args (.bool eH) W':=by
 obtain⟨p,q,n,i,h3,r,u⟩:=id d;have e:=d.lt;rw[k]at i;have l:q=[]:=i;subst l;simp only[qF]at h3;subst h3;refine⟨ds,[],a,[],a,[],d,?_,?_,?_,j.frame _,λh=>j8⟩
 ·rw[b,c];exact trodAll_mk1 (shut_bool g eH)
 ·rw[b];exact Cd m j o n e
 ·rw[b,k];rfl
theorem PL(w:World)(a:Addr):w.cell? a=cellOf w.heap a:=rfl
theorem Wi{h:Heap}{a:Addr}{v:eR}(c:cellOf h a=dB v):a=⟨a.block,a.off,none⟩:=by
 obtain⟨b,o,s⟩:=a;cases s with
 |none=>rfl
 |some s=>
  unfold cellOf at c;cases hb:h[b]? with
  |none=>rw[hb]at c;cases c
  |some x=>rw[hb]at c;cases x<;>simp at c
theorem aeA{α:Type}{f:α->eR}{h:Heap}{a:Addr}{len cap:Nat}{l:List α}(k:ii l=len)(d:∀i (c:i<ii l),cellOf h (a.add i)=dB (f l[i])):Seq h (λb=>b<h.size) ⟨dB a,len,cap⟩ 1 (λx=>[f x]) l:=by refine⟨k.symm,λi x j=>?_⟩;obtain⟨c,e⟩:=List.getElem?_eq_some_iff.1 j;have h0:=d 0 i4;rw[add_zero]at h0;have g:=Wi h0;refine⟨a.block,a.off,by rw[<-g],df h0,?_,trivial⟩;have:=d i c;rw[g,add_eq]at this;rw[Nat.mul_one,add_eq,wT,this,e]
theorem Nu{t e:TypeId}{v:eR}{d:DataW H}{ps:List MemPlace}(j:P.underlying t=dB (.slice e))(m:P.underlying e=dB (.int .i64))(r:P.cellsOf e=1)
  (k:∃p n c,v=.slice p n c) (h:DataW.Trod enc P W 0 (λ_=>eH) eH t v d ps):∃(s:Sl) (l:aB),v=.slice s.ptr s.len s.cap/\Seq W.heap (λb=>b<W.heap.size) s 1 ak l:=by
 obtain⟨g,o⟩:=h;obtain⟨p,n,c,rfl⟩:=k;rcases open_ints j m r o with⟨h1,_⟩|⟨a,len,cap,zs,h1,_,hle,_,hz,_,hcell,_⟩
 ·simp[Value.cells]at h1;obtain⟨rfl,rfl,rfl⟩:=h1;exact⟨⟨none,0,0⟩,[],i0,Seq.nil _ _ _ _ _ _⟩
 ·simp[Value.cells]at h1;obtain⟨rfl,rfl,rfl⟩:=h1;simp only[if_true]at hz;refine⟨⟨dB a,n,c⟩,zs.take n,i0,aeA (f:=λx=>xG xM x) i7 λi q=>?_⟩;simp at q;rw[<-PL,hcell i i4];simp[qd,qc (show i<ii zs by omega)]
theorem Ce{r:_root_.Go.Reach}{a:Nat}{t e:TypeId}{v:eR}(b:P.underlying t=dB (.slice e))(h:Value.okWide P W r a t v):∃p n c,v=.slice p n c:=by simp only[Value.okWide,b,Cell.okWide]at h;cases v<;>simp_all [Cell.ok]
end
end
variable {H:Type}
section
variable {enc:TypeId×eR->H}
end
theorem Wj{P:Program}(h:P.funcs.any Func.goes=eL)(f:FuncId):P.goes f=eL:=by
 have a:∀g:FuncId,(P.funcs[g]?).any Func.goes=eL:=λg=>by
  cases hg:P.funcs[g]? with
  |none=>rfl
  |some x=>
   show Func.goes x=eL;obtain⟨b,e⟩:=Array.getElem?_eq_some_iff.1 hg;cases hx:Func.goes x with
   |false=>rfl
   |true=>
    have:P.funcs.any Func.goes=eH:=Array.any_eq_true.2 ⟨g,b,by rw[e];exact hx⟩;rw[h]at this;cases this
 unfold Program.goes;rw[h,Bool.and_false,Bool.or_false];simp only[a];simp
theorem PM{P:Program}{c:OpenClaim}(h:P.funcs.any Func.goes=eL):c.goesBy P=eL:=by
 have a:∀f,P.goes f=eL:=Wj h;unfold OpenClaim.goesBy Program.goesAt Program.goesFrom;have b:(P.funcNamed c.func).any P.goes=eL:=by
  cases P.funcNamed c.func with
  |none=>rfl
  |some f=>exact a f
 have h3:P.inits.toList.any P.goes=eL:=wH.2 λf _=>by rw[a f];exact Bool.false_ne_true
 rw[b,h3];cases c.start<;>rfl
end Go.Qw
