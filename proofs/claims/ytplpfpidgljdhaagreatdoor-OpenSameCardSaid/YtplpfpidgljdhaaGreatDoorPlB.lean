/- Lemmas for the proof of the law; no condition. -/
import Derived.Test.YtplpfpidgljdhaaGreatDoorPlA
import Derived.Shelf.SlSortCmp.NoneTotal
import Derived.ProofKit
import Derived.Deep.Matrix
import Derived.Carry
import Derived.Lib.SmallJoins
import Derived.Handed
import Derived.HandedShaped
import Derived.ChangeMaps5
import Derived.SevenTiedAt
set_option linter.unusedVariables false
set_option linter.unusedSimpArgs false
open Option renaming some -> dB, none -> eH
open Bool renaming true -> eX, false -> fz
open Go renaming Value -> f7
open List renaming length -> i0
open Array renaming getElem?_setIfInBounds -> yH
open List renaming mem_take_iff_getElem -> yq, nodup_range -> vE, range -> qx, range' -> zQ, range'_succ -> yt, replicate -> qi
open Nat renaming add_sub_cancel -> vi
open Go.Value renaming int -> xF
open Go.IntKind renaming i64 -> xL
open Prod renaming fst -> qt, snd -> zh
open Go.Builtin renaming append_ -> zx
open Go.Instr renaming findNow -> xi, lookup -> xC, makeMap -> xh, mapUpdate -> yY, slice -> xk, sliceAt -> w4, sliceBounds -> wk
namespace Go.Qw
open Go.Proofs
abbrev im:=FloatKind.format .f64
theorem DJ{P:Program}{a b c:Nat}(h:im.add a b=dB c):aH P (Op.Complex.arith .add .f64 a b) c:=λw=>by
 have h':(FloatKind.format .f64).add a b=dB c:=h;unfold Op.Complex.arith Op.floatArith;simp only[h'];rfl
theorem DL{P:Program}{a b c:Nat}(h:im.sub a b=dB c):aH P (Op.Complex.arith .sub .f64 a b) c:=λw=>by
 have h':(FloatKind.format .f64).sub a b=dB c:=h;unfold Op.Complex.arith Op.floatArith;simp only[h'];rfl
theorem xQ{P:Program}{a b c:Nat}(h:im.mul a b=dB c):aH P (Op.Complex.arith .mul .f64 a b) c:=λw=>by
 have h':(FloatKind.format .f64).mul a b=dB c:=h;unfold Op.Complex.arith Op.floatArith;simp only[h'];rfl
theorem Az{P:Program}{op:BinOp}(h:op=.add∨op=.sub∨op=.mul)(t:TypeId)(x y:Operand)(a b:f7):aH P (eqGuard op t x y a b) ():=λw=>by
 rcases h with rfl|rfl|rfl<;>rfl
theorem ady{P:Program}{t:TypeId}{x y:Operand}{a b c d e f:Nat}(g:im.add a c=dB e)(h:im.add b d=dB f):ku P .add t x y (.complex .f64 a b) (.complex .f64 c d) (.complex .f64 e f):=
 (Az (.inl i4) t x y _ _).bind (show aH P (Op.complexOp .add .f64 a b c d) _ from(DJ g).bind ((DJ h).bind λ_=>rfl))
theorem adz{P:Program}{t:TypeId}{x y:Operand}{a b c d e f:Nat}(g:im.sub a c=dB e)(h:im.sub b d=dB f):ku P .sub t x y (.complex .f64 a b) (.complex .f64 c d) (.complex .f64 e f):=
 (Az (.inr (.inl i4)) t x y _ _).bind (show aH P (Op.complexOp .sub .f64 a b c d) _ from(DL g).bind ((DL h).bind λ_=>rfl))
theorem adA{P:Program}{t:TypeId}{x y:Operand}{a b c d e f j k i h:Nat}(n:im.mul a c=dB j)(o:im.mul b d=dB k)(h3:im.sub j k=dB e)(q:im.mul a d=dB i)(l:im.mul b c=dB h)(m:im.add i h=dB f):
  ku P .mul t x y (.complex .f64 a b) (.complex .f64 c d) (.complex .f64 e f):=by
 refine(Az (.inr (.inr i4)) t x y _ _).bind ?_;have p:aH P (Op.Complex.product a b c d) (e,f):=
  (xQ n).bind ((xQ o).bind ((DL h3).bind ((xQ q).bind ((xQ l).bind ((DJ m).bind λ_=>rfl)))))
 show aH P (Op.complexOp .mul .f64 a b c d) _;have g:∀x,aH P (Op.Complex.conv .f64 x .f64) x:=λx w=>by unfold Op.Complex.conv;rw[g9 rfl];rfl
 unfold Op.complexOp;refine(g a).bind ((g b).bind ((g c).bind ((g d).bind ?_)));refine aH.bind (v:=(e,f)) ?_ ?_
 ·exact p
 ·exact(g e).bind ((g f).bind λ_=>rfl)
section
open Go.Sort
theorem adB{w a:World}(n:dg w a)(j:aP (λb=>b<w.heap.size) w.heap a.heap):∃q c,a=Sort.grow (w.drewN q) c:=by
 refine⟨a.drawn-w.drawn,a.heap.extract w.heap.size a.heap.size,?_⟩;have g:w.heap++a.heap.extract w.heap.size a.heap.size=a.heap:=by
  apply yU;intro i;have o:=j.1;by_cases d:i<w.heap.size
  ·rw[Array.getElem?_append_left d,j.2 i d d]
  ·rw[Array.getElem?_append_right i5,Array.getElem?_extract];by_cases u:i<a.heap.size
   ·rw[g9 i5,show w.heap.size+(i-w.heap.size)=i by omega]
   ·rw[hU i5,Array.getElem?_eq_none i5]
 obtain⟨m,t,dr,os,out⟩:=w;obtain⟨e,s,p,c,h⟩:=a;obtain⟨f,l,k,r⟩:=n;simp only at f l k r g;subst f;subst l;subst k;simp only[Sort.grow,World.drewN,World.mk.injEq];refine⟨g.symm,trivial,i5,trivial,trivial⟩
theorem KW{α:Type}[Inhabited α]{enc:α->aT}{k:Nat}(b:∀x,i0 (enc x)=k)(l:List α):flatK enc k l.toArray=(l.flatMap enc).toArray:=by
 refine ext_get! (by simp[dl b]) λt j=>?_;have a:t<i0 l*k:=tg
 have g:0<k:=by
  rcases Nat.eq_zero_or_pos k with h|h
  ·subst h;simp at a
  ·exact h
 rw[get_flatK _ _ _ t k7];have f:t/k<i0 l:=(Nat.div_lt_iff_lt_mul g).2 a;obtain⟨pre,post,m,o⟩:=GC b l (t/k) l[t/k] (qc f);have e:t%k<k:=Nat.mod_lt _ g;have i:t=t/k*k+t%k:=by rw[Nat.mul_comm];exact(Nat.div_add_mod t k).symm
 have d:(l.flatMap enc)[t]?=dB ((enc l[t/k])[t%k]'(by rw[b];exact e)):=by
  rw[m,qn,qh i5,qm (by rw[b];omega)];have:t-i0 pre=t%k:=i5
  rw[this,qc]
 have n:l.toArray[t/k]! =l[t/k]:=p0
 rw[n];have c:t<i0 (l.flatMap enc):=by rw[dl b];exact a
 rw[getElem!_pos (enc l[t/k]) (t%k) (by rw[b];exact e),getElem!_pos _ t m4];rw[qc c]at d;simp only[List.getElem_toArray];exact(Option.some.inj d).symm
theorem Ug{α:Type}[Inhabited α]{enc:α->aT}{k:Nat}(f:∀x,i0 (enc x)=k){w:World}{e:TypeId}{b:Nat}{rest:aT}{l:List α}(c:w.heap[b]?=dB (.cells (l.flatMap enc++rest).toArray e (0,0))):HoldsK enc k w b 0 l.toArray:=by
 intro j d;rw[KW f]at d⊢;have a:j<i0 (l.flatMap enc):=m8
 refine⟨?_,by simp[World.frozen?,c]⟩;have g:(l.flatMap enc++rest).toArray[0+j]?=dB (l.flatMap enc)[j]:=by rw[wm,zU,qm a,qc a]
 simp only[World.cell?,c];rw[getElem!_pos _ j k7];simpa using g
theorem WM{α:Type}[Inhabited α]{enc:α->aT}{k:Nat}(b:∀x,i0 (enc x)=k)(l a:List α)(rest:aT)(e:i0 a=i0 l):putCells id 0 (flatK enc k a.toArray) (l.flatMap enc++rest).toArray=(a.flatMap enc++rest).toArray:=by
 rw[KW b];have d:=dl b l;have c:=dl b a;rw[e]at c;apply yU;intro i;simp only[putCells,Array.getElem?_mapIdx,zU,wW,wm,Nat.zero_le,true_and,Nat.sub_zero];by_cases f:i<i0 l*k
 ·rw[qm i5,qm i5,qc i5,qc i5,qQ,g9 i5];rw[getElem!_pos _ i (by rw[wW];omega)];simp
 ·rw[qh i5,qh i5,d,c];cases rest[i-i0 l*k]? with
  |none=>rfl
  |some x=>rw[qQ,hU i5]
theorem Mb{α:Type}[Inhabited α]{P:Program}{id_ g:FuncId}{enc:α->aT}{k:Nat}{cf:α->α->Int}(B:∀x,i0 (enc x)=k)
  (K:∀(ff cap:Nat) (l:List α) (w:World),CmpLays P g #[] enc k cf ff 0 l.length w->HoldsK enc k w ff 0 l.toArray->ff<w.heap.size->i0 l<4611686018427387904->
   Calls P id_ #[.slice (dB ⟨ff,0,eH⟩) l.length cap,.func (.func g) #[] #[]] w λe o=>e=.returned (.tuple #[])/\∃n os,o=sortWorldK enc k w ff 0 n (l.mergeSort λx y=>!(ltOf cf) y x).toArray os)
  (H:∀(p:cj) (cap:Nat) (w:World),Calls P id_ #[.slice p 0 cap,.func (.func g) #[] #[]] w λe o=>e=.returned (.tuple #[])/\o=w)
  (G:∀x y h,an P g #[.agg (enc x).toArray,.agg (enc y).toArray] h λv h'=>v=xF xL (cf x y)/\aP (λb=>b<h.size) h h')
  {e:TypeId} {s:Sl} {l:List α} {h:Heap} (A:Own h e s k enc l) (E:i0 l<2^40):
  an P id_ #[.slice s.ptr s.len s.cap,.func (.func g) #[] #[]] h λv h'=>v=.tuple #[]/\Own h' e s k enc (l.mergeSort λx y=>!(ltOf cf) y x)/\aP (λb=>¬s.on b) h h':=by
 intro w i;have a:=A.len;rcases A.head with⟨h1,h2,h3⟩|⟨b,rest,h1,h2,h3,h4⟩
 ·subst h3;rw[a,h1];refine(H eH s.cap w).mono ?_;rintro D o ⟨rfl,rfl⟩;have I:(([]:List α).mergeSort λx y=>!(ltOf cf) y x)=[]:=jj
  exact⟨_,i4,dg.refl _,i4,by rw[I];exact⟨a,.inl ⟨h1,h2,i4⟩⟩,by rw[<-i];exact aP.refl _ _⟩
 ·rw[h1,a];have t:w.heap[b]?=dB (.cells (l.flatMap enc++rest).toArray e (0,0)):=by rw[i];exact h2
  have f:CmpLays P g #[] enc k cf b 0 l.length w:=λm os J _ x y=>by
   have:=G x y _ (sortWorldK enc k w b 0 m J os) i4;refine(show Calls P g (#[Value.agg (enc x).toArray,.agg (enc y).toArray]++#[]) _ _ from ?_);rw[Array.append_empty];refine this.mono ?_;rintro D o ⟨v,rfl,F,rfl,z⟩;exact⟨i4,adB F z⟩
  refine(K b s.cap l w f (Ug B t) (lt_of_block t) i5).mono ?_;rintro D o ⟨rfl,n,os,rfl⟩;have q:=lt_of_block t;have r:i0 (l.mergeSort λx y=>!(ltOf cf) y x)=i0 l:=List.length_mergeSort l;have c:∀j,j<h.size->(sortWorldK enc k w b 0 n (l.mergeSort λx y=>!(ltOf cf) y x).toArray os).heap[j]?=if b=j then dB (.cells ((l.mergeSort λx y=>!(ltOf cf) y x).flatMap enc++rest).toArray e (0,0))else h[j]?:=by
   intro j u;unfold sortWorldK;rw[Sort.heap_grow_old _ _ (by simpa[putRowK,Sort.putRow,Sort.mapBlock,Sort.ahead,i]using u)];simp only[putRowK,Sort.putRow,Sort.mapBlock,Sort.ahead,Array.getElem?_modify];by_cases d:b=j
   ·subst d;rw[g9 i4,g9 i4,t,qQ,Sort.onCells,WM B _ _ _ r]
   ·rw[hU d,hU d,i]
  rw[i]at q;refine⟨_,i4,⟨i4,i4,i4,Nat.le_add_right _ _⟩,i4,⟨by rw[r];exact a,.inr ⟨b,rest,h1,?_,h3,h4⟩⟩,?_,?_⟩
  ·rw[c b q,g9 rfl]
  ·simp[sortWorldK,putRowK,Sort.grow,Sort.putRow,Sort.mapBlock,Sort.ahead,i]
  ·intro j u z;rw[c j u,hU λd=>z ⟨0,by rw[h1,d]⟩]
end
def cX(n:Int):Nat:=
 if n=0 then 0 else
  let m:=n.natAbs;let e:=m.log2
  (if n<0 then 2^63 else 0)+(1023+e)*2^52+(m-2^e)*2^(52-e)
structure CQ where
 ax:Nat
 ay:Nat
 sx:Nat
 sy:Nat
 left:Int
 leg:Int
 second:Bool
def pm:Nat:=4607182418800017408
def fs0:CQ:=⟨0,0,pm,0,1,1,fz⟩
def oy(a b:Nat):Nat:=(im.add a b).getD 0
def ahp(a b:Nat):Nat:=(im.sub a b).getD 0
def sw(a b:Nat):Nat:=(im.mul a b).getD 0
def tx(a b:Nat):Nat:=ahp (sw a 0) (sw b pm)
def ty(a b:Nat):Nat:=oy (sw a pm) (sw b 0)
def CQ.on(s:CQ):CQ:=
 if s.left-1>0 then{s with ax:=oy s.ax s.sx,ay:=oy s.ay s.sy,left:=s.left-1}
 else{ax:=oy s.ax s.sx,ay:=oy s.ay s.sy,sx:=tx s.sx s.sy,sy:=ty s.sx s.sy,leg:=if s.second then s.leg+1 else s.leg,left:=if s.second then s.leg+1 else s.leg,second:=!s.second}
def jG:Nat->CQ
 |0=>fs0
 |n+1=>(jG n).on
def CQ.ok(s:CQ):Bool:=
 (im.add s.ax s.sx).isSome&&(im.add s.ay s.sy).isSome&&(im.mul s.sx 0).isSome&&(im.mul s.sy pm).isSome&&(im.sub (sw s.sx 0) (sw s.sy pm)).isSome&&(im.mul s.sx pm).isSome&&(im.mul s.sy 0).isSome&&(im.add (sw s.sx pm) (sw s.sy 0)).isSome&&decide (1<=s.left)&&decide (s.left<=100)&&decide (1<=s.leg)&&decide (s.leg<=100)
structure WN where
 x:Int
 y:Int
 dx:Int
 dy:Int
 left:Int
 leg:Int
 turns:Int
def ahq:WN:=⟨0,0,1,0,1,1,0⟩
def WN.on(s:WN):WN:=
 if s.left-1=0 then
  {x:=s.x+s.dx,y:=s.y+s.dy,dx:=-s.dy,dy:=s.dx,leg:=if(s.turns+1)%2=0 then s.leg+1 else s.leg,left:=if(s.turns+1)%2=0 then s.leg+1 else s.leg,turns:=s.turns+1}
 else{s with x:=s.x+s.dx,y:=s.y+s.dy,left:=s.left-1}
def gq:Nat->WN
 |0=>ahq
 |n+1=>(gq n).on
theorem agH:∀n,n<64->(jG n).ok=eX:=j5
theorem afk:∀n,n<64->((jG n).ax==cX (gq n).x&&(jG n).ay==cX (gq n).y&&decide (-4<=(gq n).x)&&decide ((gq n).x<=4)&&decide (-4<=(gq n).y)&&decide ((gq n).y<=4))=eX:=j5
theorem afl:∀i,i<9->∀j,j<9->im.sub (cX ((i:Nat)-4:Int)) (cX ((j:Nat)-4:Int))=dB (cX ((i:Int)-(j:Int))):=j5
theorem afm:∀i,i<17->im.mul (cX ((i:Nat)-8:Int)) (cX ((i:Nat)-8:Int))=dB (cX (((i:Nat)-8:Int)*((i:Nat)-8:Int))):=j5
theorem afn:∀i,i<9->∀j,j<9->im.add (cX (((i:Nat):Int)*(i:Nat))) (cX (((j:Nat):Int)*(j:Nat)))=dB (cX (((i:Nat):Int)*(i:Nat)+((j:Nat):Int)*(j:Nat))):=j5
theorem WO:∀m,m<129->∀n,n<129->im.order (cX (m:Nat)) (cX (n:Nat))=dB (compare m n):=j5
theorem Uh{seq a c:Int}{b:aL}(d:i0 b<=48):dO (km seq a c b)=eH:=by unfold dO km;rw[wf i6 i6 m5];dsimp only;rw[hU (by rintro⟨h,_⟩;exact absurd h i6)]
theorem nS{m:av}{c:aL}(h:c∈aM m):dO c=eH:=by unfold aM at h;obtain⟨i,_,rfl⟩:=qo.1 h;exact Uh i9
theorem Ui(m n:av):(aM n).filterMap (gN m)=[]:=by rw[List.filterMap_eq_nil_iff];intro c a;unfold gN;rw[nS a]
def ltC(a b:dm):Prop:=mF a b=eX/\mG a b=fz
theorem Ql{l:List dm}(h:l.Pairwise ltC):nK (l.mergeSort mF)=l:=by
 have m:l.mergeSort mF=l:=(ME NC (h.imp λh=>h.1) (co.refl _)).symm;rw[m];unfold nK;have d:(qx l.length).filter (nu l)=qx l.length:=by
  refine wx.2 λk d=>?_;have d:=qA.1 d;unfold nu;by_cases h0:k=0
  ·rw[hY h0];rfl
  ·have:=(zj.1 h (k-1) k i5 d i5).2;have g:l.getD k wn=l[k]:=by rw[qd,qc d];rfl
   have j:l.getD (k-1) wn=l[k-1]'(by omega):=by rw[qd,qc i5];rfl
   rw[g,j];have e:mG l[k] (l[k-1]'(by omega))=fz:=by unfold mG at this⊢;rw[decide_eq_false_iff_not]at this⊢;rintro⟨a,b,c⟩;exact this ⟨a.symm,b.symm,c.symm⟩
   rw[e,wZ,Bool.or_true]
 rw[d];apply List.ext_getElem?;intro i;rw[qP];by_cases f:i<i0 l
 ·rw[List.getElem?_range f,qc f];show dB (l.getD i wn)=_;rw[qd,qc f];rfl
 ·rw[qI i9,qI i5];rfl
theorem KX{α:Type}{R:α->α->Prop}(n:∀a b c,R a b->R b c->R a c){l:List α}(h:∀i (k:i+1<i0 l),R (l[i]'(by omega)) l[i+1]):l.Pairwise R:=by
 have g:∀d i (f:i+(d+1)<i0 l),R (l[i]'(by omega)) l[i+(d+1)]:=by
  intro d
  induction d with
  |zero=>exactλi f=>h i f
  |succ d ih=>exactλi f=>n _ _ _ (ih i i5) (h (i+(d+1)) i5)
 refine zj.2 λi j k f m=>?_;have:=g (j-i-1) i i5;have e:i+(j-i-1+1)=j:=i5
 simp only[e]at this;exact this
theorem KY{α:Type}{R:α->α->Prop}{l:List α}(h:l.Pairwise R)(i:Nat)(a:i+1<i0 l):R (l[i]'(by omega)) l[i+1]:=zj.1 h i (i+1) i5 a i5
theorem gF{α:Type}{l:List α}{i:Nat}(d:α)(h:i<i0 l:=by omega):l.getD i d=l[i]:=by rw[qd,qc h];rfl
theorem mw(n a b:Int):fy n a b=eX↔a<=n/\n<=b:=by unfold fy;rw[qy,decide_eq_true_eq,decide_eq_true_eq]
theorem WP(l:aB)(most:Int):oZ l most=eX↔l.Pairwise (·<·)/\∀x∈l,0<=x/\x<=most:=by
 unfold oZ;rw[qJ];constructor
 ·intro h;have g:∀i (d:i<i0 l),(0<=l[i]/\l[i]<=most)/\(i=0∨l.getD (i-1) 0<l[i]):=λi d=>by
   have:=h i (qA.2 d);unfold jS at this;rw[gF 0 d,qy,mw,zZ,decide_eq_true_eq,decide_eq_true_eq]at this;exact this
  refine⟨KX (R:=λa b:Int=>a<b) (λa b c e f=>Int.lt_trans e f) λi d=>?_,λx j=>?_⟩
  ·rcases(g (i+1) d).2 with h0|h0
   ·omega
   ·rw[vi,gF 0]at h0;exact h0
  ·obtain⟨i,d,rfl⟩:=qB j;exact(g i d).1
 ·rintro⟨e,f⟩ i d;have d:=qA.1 d;unfold jS;rw[gF 0 d,qy,mw,zZ,decide_eq_true_eq,decide_eq_true_eq];refine⟨f _ (qf d),?_⟩;cases i with
  |zero=>exact .inl i4
  |succ i=>exact .inr (by rw[vi,gF 0];exact KY e i d)
theorem NJ(a b c:ByteArray)(d:fm a b=eX)(e:fm b c=eX):fm a c=eX:=Ft _ _ _ d e
theorem bM(m:av):bf m=eX↔kX m=eX/\m.drives.Pairwise (·<·)/\(∀k∈m.drives,0<=k/\k<=63)/\m.objs.length<=12/\(∀e∈m.objs,gE m e=eX)/\m.objs.Pairwise (λa b=>fm a.name b.name=eX)/\m.objs.Pairwise (λa b=>a.object≠b.object):=by
 unfold bf;rw[qy,qy,qy,WP,decide_eq_true_eq,qJ];have r:(∀i∈qx m.objs.length,pc m i=eX)↔(∀e∈m.objs,gE m e=eX)/\m.objs.Pairwise (λa b=>fm a.name b.name=eX)/\m.objs.Pairwise (λa b=>a.object≠b.object):=by
  constructor
  ·intro h;have p:∀i (l:i<m.objs.length),gE m m.objs[i]=eX/\(i=0∨fm (oY m.objs (i-1)).name m.objs[i].name=eX)/\∀y∈m.objs.take i,y.object≠m.objs[i].object:=λi l=>by
    have:=h i (qA.2 l);unfold pc at this;rw[ow l,qy,qy,zZ,decide_eq_true_eq,wK,wo]at this;exact⟨this.1,this.2.1,λy q=>by have:=this.2.2 y q;simpa using this⟩
   refine⟨λe u=>?_,KX (R:=λa b:cu=>fm a.name b.name=eX) (λa b c n o=>NJ _ _ _ n o) λi l=>?_,zj.2 λi j l s t=>?_⟩
   ·obtain⟨i,l,rfl⟩:=qB u;exact(p i l).1
   ·rcases(p (i+1) l).2.1 with h0|h0
    ·omega
    ·rw[vi,ow]at h0;exact h0
   ·refine(p j s).2.2 m.objs[i] ?_;exact yq.2 ⟨i,i5,i4⟩
  ·rintro⟨n,o,h3⟩ i l;have l:=qA.1 l;unfold pc;rw[ow l,qy,qy,zZ,decide_eq_true_eq,wK,wo];refine⟨n _ (qf l),?_,λy q=>?_⟩
   ·cases i with
    |zero=>exact .inl i4
    |succ i=>exact .inr (by rw[vi,ow];exact KY o i l)
   ·obtain⟨j,s,rfl⟩:=yq.1 q;have:=zj.1 h3 j i i5 l i5;simpa using this
 rw[r];constructor
 ·rintro⟨a,⟨b,c⟩,d,e,f,g⟩;exact⟨a,b,c,d,e,f,g⟩
 ·rintro⟨a,b,c,d,e,f,g⟩;exact⟨a,⟨b,c⟩,d,e,f,g⟩
theorem dn(m:av):kX m=eX↔(1<=m.seq/\m.seq<=2147483647)/\(0<=m.next/\m.next<=16777216)/\bJ m.p=eX/\0<=m.extra/\m.extra<=16:=by unfold kX;rw[qy,qy,qy,mw,mw,mw]
theorem fB(m:av)(x:cu):gE m x=eX↔kW x.name=eX/\(0<=x.object/\x.object<m.next)/\(0<=x.length/\x.length<=m.p.1*m.p.2.2*8)/\(∀t∈x.tries,0<=t/\t<=15)/\(x.tries.length:Int)=countP m.p x.length:=by
 unfold gE;rw[qy,qy,qy,qy,mw,mw,qJ,decide_eq_true_eq];simp only[mw];constructor
 ·rintro⟨a,b,c,d,e⟩;exact⟨a,⟨b.1,i5⟩,c,d,e⟩
 ·rintro⟨a,b,c,d,e⟩;exact⟨a,⟨b.1,i5⟩,c,d,e⟩
theorem po{m:av}(h:bf m=eX):m.drives.Nodup:=((bM m).1 h).2.1.imp λh e=>i5
theorem iQ{m:av}(h:bf m=eX):∀k∈m.drives,0<=k/\k<64:=λk a=>by have:=((bM m).1 h).2.2.1 k a;omega
theorem NK:∀{l:aB} {a b:Int},l.Pairwise (·<·)->(∀k∈l,a<=k/\k<b)->a<=b->(i0 l:Int)<=b-a
 |[],a,b,_,_,h=>i9
 |x::l,a,b,hp,hl,h=>by
  obtain⟨d,e⟩:=zK.1 hp;have f:=hl x qM;have:=NK (a:=x+1) (b:=b) e (λk c=>⟨by have:=d k c;omega,(hl k (qD _ c)).2⟩) i5;rw[ze];omega
theorem gy{m:av}(h:bf m=eX):i0 m.drives<=64:=by have:=NK ((bM m).1 h).2.1 (iQ h) i6;omega
theorem Qm(b:ByteArray):∀n i r,b.size-i=n->ByteArray.toList.loop b i r=r.reverse++b.data.toList.drop i:=by
 have c:i0 b.data.toList=b.size:=rfl;intro n
 induction n with
 |zero=>
  intro i r h;rw[ByteArray.toList.loop,hU i5,List.drop_eq_nil_of_le (by rw[c];omega),qE]
 |succ n ih=>
  intro i r h;have a:i<b.size:=i5
  rw[ByteArray.toList.loop,g9 a,ih (i+1) _ i5];have d:b.data.toList.drop i=b.get! i::b.data.toList.drop (i+1):=by rw[List.drop_eq_getElem_cons (by rw[c];exact a)];congr 1;show _=b.data[i]!;rw[getElem!_pos b.data i a,Array.getElem_toList]
  rw[d,List.reverse_cons,qn];rfl
theorem toList_eq(x:ByteArray):x.toList=x.data.toList:=by unfold ByteArray.toList;rw[Qm x _ 0 [] rfl];rfl
theorem BO{a b:ByteArray}(h:a.toList=b.toList):a=b:=by rw[toList_eq,toList_eq]at h;cases a;cases b;congr;exact Array.toList_inj.1 h
def gO(r:aL×Bool)(n:Int):aL×(aL×Bool):=if n<=i0 r.1 then(r.1.take n.toNat,(r.1.drop n.toNat,r.2))else([],(r.1,eX))
def iX(l:aL):Int:=l.foldl (λn x=>n*256+(x.toNat:Int)) 0
def bX(r:aL×Bool)(k:Int):Int×(aL×Bool):=(iX (gO r k).1,(gO r k).2)
def fZ:Nat->aL×Bool->aB×(aL×Bool)
 |0,r=>([],r)
 |n+1,r=>if r.2 then([],r)else((bX r 1).1::(fZ n (bX r 1).2).1,(fZ n (bX r 1).2).2)
def iY(p:Int×Int×Int)(r:aL×Bool):cu×(aL×Bool):=
 let a:=bX r 1;let b:=gO a.2 a.1;let c:=bX b.2 3;let d:=bX c.2 2;let e:=fZ (countP p d.1).toNat d.2
 (⟨⟨b.1.toArray⟩,c.1,d.1,e.1⟩,e.2)
def jg(p:Int×Int×Int):Nat->aL×Bool->List cu×(aL×Bool)
 |0,r=>([],r)
 |n+1,r=>if r.2 then([],r)else((iY p r).1::(jg p n (iY p r).2).1,(jg p n (iY p r).2).2)
def BP(b:aL):av×(aL×Bool):=
 let a:=bX (b,fz) 4;let c:=bX a.2 4;let k:=bX c.2 1;let h:=bX k.2 1;let z:=bX h.2 1;let x:=bX z.2 1;let n:=bX x.2 1;let d:=fZ n.1.toNat n.2;let o:=bX d.2 1;let e:=jg (k.1,h.1,z.1) o.1.toNat o.2
 (⟨a.1,c.1,(k.1,h.1,z.1),x.1,d.1,e.1⟩,e.2)
theorem xR(l:aL)(x:UInt8):iX (l++[x])=iX l*256+(x.toNat:Int):=by simp[iX]
theorem Uj(n:Int)(k:Nat):bE n (k+1)=bE (n/256) k++[b8 n]:=by
 unfold bE;rw[zB,qL];congr 1
 ·refine List.map_congr_left λi a=>?_;have a:=qA.1 a;have e:8*(k+1-1-i)=8+8*(k-1-i):=i5
  have b:(0:Int)<2^(8*(k-1-i)):=Int.pow_pos i6;rw[e,Int.pow_add,yi _ i5,yi _ (Int.le_of_lt b),<-Int.ediv_ediv_of_nonneg i6];rfl
 ·simp
theorem KZ:∀(k:Nat) (n:Int),0<=n->n<256^k->iX (bE n k)=n
 |0,n,h0,h1=>by simp at h1;simp[bE,iX];omega
 |k+1,n,h0,h1=>by
  rw[Uj,xR,KZ k (n/256) i5 (by rw[Int.pow_succ]at h1;omega),pd];omega
theorem NL(l s:aL)(f:Bool):gO (l++s,f) l.length=(l,(s,f)):=by unfold gO;rw[g9 (by simp only[qw];omega)];simp
theorem rS(k:Nat)(n:Int)(s:aL)(f:Bool)(b:0<=n)(a:n<256^k:=by omega):bX (bE n k++s,f) k=(n,(s,f)):=by unfold bX;have:=NL (bE n k) s f;rw[cA]at this;rw[this,KZ k n b a]
theorem mU(n:Int)(s:aL)(f:Bool)(a:0<=n:=by omega)(b:n<256:=by omega):bX (b8 n::s,f) 1=(n,(s,f)):=by
 have e:bE n 1=[b8 n]:=by simp[bE]
 have:=rS 1 n s f a;rw[e]at this;exact this
theorem GM(s:aL):∀(l:aB),(∀x∈l,0<=x/\x<256)->fZ l.length (l.map b8++s,fz)=(l,(s,fz))
 |[],_=>rfl
 |x::l,h=>by
  have a:=h x qM;have c:=GM s l λy b=>h y (qD _ b);show fZ (i0 l+1) (b8 x::(l.map b8++s),fz)=_;unfold fZ;rw[mU x _ _ a.1 a.2,c];rfl
theorem aal{m:av}{x:cu}(j:gE m x=eX)(r:m.next<=16777216)(o:m.p.1*m.p.2.2*8<65536)(s:aL):iY m.p (fQ x++s,fz)=(x,(s,fz)):=by
 obtain⟨a,i,h3,e,n⟩:=(fB m x).1 j;have q:1<=x.name.size/\x.name.size<=12:=by unfold kW at a;rw[qy,qy,decide_eq_true_eq,decide_eq_true_eq]at a;exact a.2
 have k:fQ x++s=b8 x.name.size::(x.name.data.toList++(bE x.object 3++(bE x.length 2++(x.tries.map b8++s)))):=by simp[fQ,qn]
 have h:x.name.data.toList.length=x.name.size:=by rw[Array.length_toList];rfl
 have d:=NL x.name.data.toList (bE x.object 3++(bE x.length 2++(x.tries.map b8++s))) fz;rw[h]at d;have f:=rS 3 x.object (bE x.length 2++(x.tries.map b8++s)) fz i.1;have b:=rS 2 x.length (x.tries.map b8++s) fz h3.1;have l:=GM s x.tries λy c=>⟨(e y c).1,by have:=(e y c).2;omega⟩
 have g:(countP m.p x.length).toNat=x.tries.length:=i5
 unfold iY;rw[k,mU _ _ _];simp only[d];rw[show((3:Nat):Int)=3 from rfl]at f;rw[show((2:Nat):Int)=2 from rfl]at b;simp only[f,b,g,l]
theorem NM{m:av}(b:m.next<=16777216)(a:m.p.1*m.p.2.2*8<65536)(s:aL):∀(l:List cu),(∀e∈l,gE m e=eX)->jg m.p l.length (l.flatMap fQ++s,fz)=(l,(s,fz))
 |[],_=>rfl
 |x::l,h=>by
  have d:=NM b a s l λy c=>h y (qD _ c);rw[za,qn];show jg m.p (i0 l+1) _=_;unfold jg;rw[aal (h x qM) b a,d];simp
theorem BQ{m:av}(a:bf m=eX):BP (bK m)=(m,([],fz)):=by
 obtain⟨g,t,b,s,l,_⟩:=(bM m).1 a;obtain⟨⟨x,o⟩,⟨n1,n2⟩,h,v,x2⟩:=(dn m).1 g;obtain⟨⟨w,j⟩,⟨r,u⟩,n,f⟩:=(bT m.p).1 h;have q:i0 m.drives<=64:=gy a;have i:m.p.1*m.p.2.2*8<65536:=by have:m.p.1*m.p.2.2<=16*24:=Int.mul_le_mul j f i5 i5;omega
 have k:bK m=bE m.seq 4++(bE m.next 4++(b8 m.p.1::b8 m.p.2.1::b8 m.p.2.2::b8 m.extra::b8 m.drives.length::(m.drives.map b8++(b8 m.objs.length::(m.objs.flatMap fQ++[]))))):=by unfold bK;rw[g9 a];simp
 have c:=rS 4 m.seq (bE m.next 4++(b8 m.p.1::b8 m.p.2.1::b8 m.p.2.2::b8 m.extra::b8 m.drives.length::(m.drives.map b8++(b8 m.objs.length::(m.objs.flatMap fQ++[]))))) fz i5;have e:=rS 4 m.next (b8 m.p.1::b8 m.p.2.1::b8 m.p.2.2::b8 m.extra::b8 m.drives.length::(m.drives.map b8++(b8 m.objs.length::(m.objs.flatMap fQ++[])))) fz n1;rw[show((4:Nat):Int)=4 from rfl]at c e;have a3:=GM (b8 m.objs.length::(m.objs.flatMap fQ++[])) m.drives λy d=>⟨(b y d).1,by have:=(b y d).2;omega⟩
 have a4:=NM (m:=m) n2 i [] m.objs l;unfold BP;rw[k];simp only[c,e];rw[mU _ _ _];simp only[];rw[mU _ _ _];simp only[];rw[mU _ _ _];simp only[];rw[mU _ _ _];simp only[];rw[mU _ _ _];simp only[qj,a3];rw[mU _ _ _];simp only[qj];rw[show((m.p.1,m.p.2.1,m.p.2.2):Int×Int×Int)=m.p from i4,a4]
def ky(b:aL):Option av:=if(BP b).2.2||(decide (i0 b=0)||!decide (b=bK (BP b).1))then eH else dB (BP b).1
theorem WQ{m:av}(h:bK m≠[]):bf m=eX:=by refine Decidable.byContradiction λa=>h ?_;unfold bK;rw[hU a]
theorem NN{m:av}(h:bf m=eX):bK m≠[]:=by unfold bK;rw[g9 h];intro e;have:=congrArg List.length e;simp[cA]at this
theorem BR{b:aL}{m:av}:ky b=dB m↔bf m=eX/\b=bK m:=by
 unfold ky;constructor
 ·intro h;split at h
  ·cases h
  ·rename_i a;cases h;simp only[zZ,decide_eq_true_eq,wK,decide_eq_false_iff_not,not_or,Classical.not_not]at a;refine⟨WQ ?_,a.2.2⟩;rw[<-a.2.2];intro e;exact a.2.1 o8
 ·rintro⟨c,rfl⟩;rw[BQ c];simp[NN c]
abbrev fo:=aB×Row
def cR(x:Int->UInt8):aB->UInt8
 |[]=>0
 |c::l=>x c^^^cR x l
theorem kz{x y:Int->UInt8}:∀{l:aB},(∀c∈l,x c=y c)->cR x l=cR y l
 |[],_=>rfl
 |c::l,h=>by rw[cR,cR,h c jj,kz λd a=>h d m6]
theorem FW(x:Int->UInt8)(p:Int->Bool):∀l,cR x l=cR x (l.filter p)^^^cR x (l.filter λc=>!p c)
 |[]=>by simp[cR]
 |c::l=>by
  rw[cR,FW x p l];cases h:p c<;>simp only[zo,h,yf,wZ,if_true,zg,if_false,cR]<;>ac_rfl
theorem xS(x:Int->UInt8){c:Int}:∀{l:aB},l.Nodup->c∈l->cR x l=x c^^^cR x (l.filter λd=>!decide (d=c))
 |[],_,h=>k9
 |d::l,hd,h=>by
  rw[yn]at hd;rcases qX.1 h with rfl|h
  ·have:l.filter (λd=>!decide (d=c))=l:=wx.2 λe f=>by
    have:e≠c:=λa=>hd.1 (a▸f);simp[this]
   rw[zo];simp only[decide_true,yf,zg,if_false];rw[this,cR]
  ·have b:d≠c:=λa=>hd.1 (a▸h);rw[zo,g9 o0,cR,cR,xS x hd.2 h];ac_rfl
theorem NO(x y:Int->UInt8):∀l,cR (λc=>x c^^^y c) l=cR x l^^^cR y l
 |[]=>by simp[cR]
 |c::l=>by rw[cR,cR,cR,NO x y l];ac_rfl
theorem DM:∀{x:Int->UInt8} {l:aB},(∀c∈l,x c=0)->cR x l=0
 |_,[],_=>rfl
 |x,c::l,h=>by rw[cR,h c jj,DM λd a=>h d m6];rfl
def cS(V:aJ)(a:Row)(l:aB):Row:=l.foldl (λa c=>cV 1 (aC V c.toNat) a) a
theorem jU{V:aJ}{m:Nat}:∀{l:aB} {a:Row},i0 a=m->(∀c∈l,i0 (aC V c.toNat)=m)->i0 (cS V a l)=m
 |[],a,h,_=>h
 |c::l,a,h,hv=>by
  rw[cS,zy];exact jU (l:=l) (by rw[bZ (by rw[hv c jj,h])];exact h) λd b=>hv d o0
theorem GN{V:aJ}{m:Nat}(j:Nat):∀{l:aB} {a:Row},i0 a=m->(∀c∈l,i0 (aC V c.toNat)=m)->aK (cS V a l) j=aK a j^^^cR (λc=>aK (aC V c.toNat) j) l
 |[],a,_,_=>by simp[cS,cR]
 |c::l,a,h,hv=>by
  have b:i0 (aC V c.toNat)=i0 a:=by rw[hv c jj,h]
  rw[cS,zy];have:=GN (V:=V) j (l:=l) (a:=cV 1 (aC V c.toNat) a) (by rw[bZ b];exact h) λd e=>hv d p8;rw[cS]at this;rw[this,cP b,Gf.one_mul,cR];ac_rfl
def Sat(t:UInt8)(k:Nat)(x:Int->UInt8)(e:fo):Prop:=cR x e.1=Gf.mul t (aK e.2 k)
structure iZ (n w:Nat) (e:fo):Prop where
 cZ:∀c∈e.1,0<=c/\c<(n:Int)
 nodup:e.1.Nodup
 len:i0 e.2=w
def kn(known:List Bool)(c:Int):Bool:=known.getD c.toNat fz
def fu(known:List Bool)(vals:aJ)(e:fo):fo:=(e.1.filter λc=>!kn known c,cS vals e.2 (e.1.filter λc=>kn known c))
structure jV (n w:Nat) (l:List fo) (known:List Bool) (vals:aJ):Prop where
 klen:i0 known=n
 vlen:i0 vals=n
 row:∀c:Nat,c<n->i0 (aC vals c)=if known.getD c fz then w else 0
 sound:∀t k x,k<w->(∀e∈l,Sat t k x e)->∀c:Int,0<=c->c<(n:Int)->kn known c=eX->x c=Gf.mul t (aK (aC vals c.toNat) k)
variable {n w:Nat} {l:List fo}
section
variable {known:List Bool} {vals:aJ}
theorem Uk(n w:Nat)(l:List fo):jV n w l (qi n fz) (qi n []):=by
 refine⟨jj,jj,λc b=>?_,λt k x f e c h0 d a=>?_⟩
 ·rw[bw k8];simp[qd,b]
 ·exfalso;rw[kn,qd,List.getElem?_replicate]at a;split at a<;>simp at a
theorem jV.DN(h:jV n w l known vals){c:Int}(d:0<=c)(b:c<(n:Int))(a:kn known c=eX):i0 (aC vals c.toNat)=w:=by have:=h.row c.toNat i5;rw[kn]at a;rw[a]at this;simpa using this
theorem jV.AW(h:jV n w l known vals){e:fo}(b:iZ n w e):iZ n w (fu known vals e):=
 ⟨λc d=>b.cZ c (qF.1 d).1,b.nodup.filter _,jU b.len λc d=>by
  have a:=qF.1 d;exact h.DN (b.cZ c a.1).1 (b.cZ c a.1).2 a.2⟩
theorem jV.FA(h:jV n w l known vals){e:fo}(g:iZ n w e){t:UInt8}{k:Nat}{x:Int->UInt8}(j:∀c:Int,0<=c->c<(n:Int)->kn known c=eX->x c=Gf.mul t (aK (aC vals c.toNat) k)):
  Sat t k x (fu known vals e)↔Sat t k x e:=by
 have d:∀c∈e.1.filter λc=>kn known c,i0 (aC vals c.toNat)=w:=λc f=>by
  have b:=qF.1 f;exact h.DN (g.cZ c b.1).1 (g.cZ c b.1).2 b.2
 have o:cR x (e.1.filter λc=>kn known c)=Gf.mul t (cR (λc=>aK (aC vals c.toNat) k) (e.1.filter λc=>kn known c)):=by
  rw[kz (y:=λc=>Gf.mul t (aK (aC vals c.toNat) k)) λc f=>j c (g.cZ c (qF.1 f).1).1 (g.cZ c (qF.1 f).1).2 (qF.1 f).2];generalize e.1.filter (λc=>kn known c)=m
  induction m with
  |nil=>simp[cR,Gf.mul_zero]
  |cons a m ih=>rw[cR,cR,Gf.kj,ih]
 unfold Sat fu;dsimp only;rw[GN k g.len d,Gf.kj,<-o,FW x (λc=>kn known c) e.1];constructor
 ·intro i;rw[i];rw[vz,pU]
 ·intro i;rw[<-i];rw[vz (cR x (e.1.filter λc=>kn known c)),pU]
theorem afo{known:List Bool}{c d:Int}(e:0<=c)(a:0<=d)(b:c<(i0 known:Int)):kn (known.set c.toNat eX) d=(decide (d=c)||kn known d):=by
 unfold kn;rw[qd,qU];by_cases h:d=c
 ·subst h;rw[g9 i4,g9 i5];simp
 ·rw[hU i5];simp[h]
theorem WR(h:jV n w l known vals)(m:∀e∈l,iZ n w e){e:fo}(i:e∈l){c:Int}(o:(fu known vals e).1=[c]):jV n w l (known.set c.toNat eX) (vals.set c.toNat (fu known vals e).2):=by
 have b:=h.AW (m e i);have g:=b.cZ c (by rw[o];simp);have u:=h.vlen;have f:=h.klen;refine⟨p0,by simp[u],λd r=>?_,λt k x q j d h0 s p=>?_⟩
 ·rw[lu,qd,qU];by_cases a:c.toNat=d
  ·subst a;simp[show c.toNat<i0 known by omega,b.len]
  ·rw[hU a,hU a,h.row d r,qd]
 ·rw[afo g.1 h0 i5]at p;rw[lu];by_cases a:d=c
  ·subst a;rw[g9 rfl];have:=(h.FA (m e i) (h.sound t k x q j)).2 (j e i);unfold Sat at this;rw[o]at this;simpa[cR]using this
  ·rw[hU i5];exact h.sound t k x q j d h0 s (by simpa[a]using p)
theorem DO(h:jV n w l known vals)(e:fo):∀c∈(fu known vals e).1,kn known c=fz:=λc a=>by
 have:=(qF.1 a).2;simpa using this
def aX(known:List Bool)(vals:aJ)(l:List fo):List fo:=(l.map (fu known vals)).filter λe=>!e.1.isEmpty
def kA(known:List Bool)(vals:aJ)(l:List fo):Bool:=(l.map (fu known vals)).any λe=>e.1.isEmpty&&e.2.any (· !=0)
theorem NP(h:jV n w l known vals)(g:∀e∈l,iZ n w e)(f:kA known vals l=fz){t:UInt8}{k:Nat}{x:Int->UInt8}(o:k<w):
  (∀e∈l,Sat t k x e)↔(∀c:Int,0<=c->c<(n:Int)->kn known c=eX->x c=Gf.mul t (aK (aC vals c.toNat) k))/\∀e∈aX known vals l,Sat t k x e:=by
 constructor
 ·intro i;refine⟨h.sound t k x o i,λe b=>?_⟩;obtain⟨m,d,rfl⟩:=qo.1 (qF.1 b).1;exact(h.FA (g m d) (h.sound t k x o i)).2 (i m d)
 ·rintro⟨q,r⟩ e b;refine(h.FA (g e b) q).1 ?_;by_cases a:(fu known vals e).1=[]
  ·unfold Sat;rw[a,cR];have j:((fu known vals e).1.isEmpty&&(fu known vals e).2.any (· !=0))=fz:=by have:=wo.1 f _ (List.mem_map_of_mem b);simpa using this
   rw[a]at j;have p:∀y∈(fu known vals e).2,y=0:=tg
   have h3:=(h.AW (g e b)).len;have:aK (fu known vals e).2 k=0:=by rw[aK,qd,qc i5];exact p _ (qf _)
   rw[this,Gf.mul_zero]
  ·refine r _ (qF.2 ⟨List.mem_map_of_mem b,?_⟩);simpa using a
theorem Ul(h:jV n w l known vals)(i:∀e∈l,iZ n w e)(b:kA known vals l=eX):∃k,k<w/\∀x:Int->UInt8,¬∀e∈l,Sat 1 k x e:=by
 obtain⟨y,p,c⟩:=wg.1 b;obtain⟨e,g,rfl⟩:=qo.1 p;rw[qy]at c;obtain⟨z,m,a⟩:=wg.1 c.2;obtain⟨k,o,rfl⟩:=qB m;have h3:=(h.AW (i e g)).len;refine⟨k,i5,λx j=>?_⟩;have f:=(h.FA (i e g) (h.sound 1 k x i5 j)).2 (j e g);unfold Sat at f;have d:(fu known vals e).1=[]:=by simpa using c.1
 rw[d,cR,Gf.one_mul,aK,qd,qc o]at f;simp at a;exact a f.symm
end
def ki(op:List Bool)(c:Int):Bool:=op.getD c.toNat fz
def df(op:List Bool)(r:aB):aB:=r.filter (ki op)
def mH(rows:ct)(op us:List Bool)(i:Nat):Bool:=!(us.getD i fz)&&i0 (df op (rows.getD i []))==1
def mI(rows:ct)(op us:List Bool):Option Nat:=(qx rows.length).find? (mH rows op us)
def fk(rows:ct)(op:List Bool)(i:Nat):Int:=(df op (rows.getD i [])).getLast?.getD 0
def kB(a:aB)(r:aB):aB:=r.foldl (λa c=>a.set c.toNat (a.getD c.toNat 0+1)) a
def ly(g:Nat->aB->aB)(rows:ct)(us:List Bool)(a:aB):Nat->aB
 |0=>a
 |k+1=>if us.getD k fz then ly g rows us a k else kB (ly g rows us a k) (g k (rows.getD k []))
def iR(op:List Bool)(a:aB):Nat->Int
 |0=>-1
 |k+1=>if op.getD k fz&&(decide (iR op a k<0)||decide (a.getD k 0>a.getD (iR op a k).toNat 0))then(k:Int)else iR op a k
def io(rows:ct)(op us:List Bool):Int:=iR op (ly (λ_ r=>r) rows us (qi op.length 0) rows.length) op.length
structure Pl where
 steps:List (Int×Int)
 dead:aB
 used:List Bool
def cJ(rows:ct):Nat->List Bool->List Bool->Pl
 |0,_,us=>⟨[],[],us⟩
 |k+1,op,us=>
  if op.contains eX then
   match mI rows op us with
   |some i=>let r:=cJ rows k (op.set (fk rows op i).toNat fz) (us.set i eX);⟨((i:Int),fk rows op i)::r.steps,r.dead,r.used⟩
   |none=>let r:=cJ rows k (op.set (io rows op us).toNat fz) us;⟨r.steps,io rows op us::r.dead,r.used⟩
  else⟨[],[],us⟩
def fE(us:List Bool):Nat->aB
 |0=>[]
 |k+1=>if us.getD k fz then fE us k else fE us k++[(k:Int)]
def dP(n:Nat)(rows:ct):Pl:=cJ rows n (qi n eX) (qi rows.length fz)
theorem WS{P:Nat->Bool}{n:Nat}(h:∀j,j<n->P j=fz):(qx n).find? P=eH:=by rw[wu];intro x a;rw[qA]at a;simp[h x a]
theorem WT{P:Nat->Bool}{n k:Nat}(f:k<n)(h:∀j,j<k->P j=fz)(c:P k=eX):(qx n).find? P=dB k:=by
 rw[List.find?_eq_some_iff_append];refine⟨c,qx k,zQ (k+1) (n-k-1),?_,λa b=>?_⟩
 ·rw[y5,y5];have d:n=k+(n-k):=i5
  have e:n-k=(n-k-1)+1:=i5
  conv=>lhs;rw[d,<-List.range'_append_1 (s:=0) (m:=k) (n:=n-k)]
  rw[wm]
  conv=>lhs;rw[e,yt]
 ·rw[qA]at b;simp[h a b]
theorem Qn(a r:aB)(c:Int):kB a (r++[c])=(kB a r).set c.toNat ((kB a r).getD c.toNat 0+1):=by simp[kB]
theorem CR(b r:aB):i0 (kB b r)=i0 b:=by
 induction r generalizing b with
 |nil=>rfl
 |cons a t ih=>simp only[kB,zy]at*;rw[ih];simp
theorem BS(g:Nat->aB->aB)(rows:ct)(us:List Bool)(a:aB):∀k,i0 (ly g rows us a k)=i0 a
 |0=>rfl
 |k+1=>by
  unfold ly;split
  ·exact BS g rows us a k
  ·rw[CR,BS g rows us a k]
theorem DP{m:Int}:∀{r b:aB},(∀x∈b,0<=x/\x<=m)->∀x∈kB b r,0<=x/\x<=m+i0 r
 |[],b,h,x,hx=>by have:=h x hx;simp;omega
 |a::t,b,h,x,hx=>by
  have d:∀y∈b.set a.toNat (b.getD a.toNat 0+1),0<=y/\y<=m+1:=by
   intro y c;rcases List.mem_or_eq_of_mem_set c with c|c
   ·have:=h y c;omega
   ·subst c;rw[qd];cases hc:b[a.toNat]? with
    |none=>
     rw[List.getElem?_eq_none_iff]at hc;rw[List.set_eq_of_length_le hc]at c;have:=h _ c;rw[qd,qI hc]at this;simp at this⊢;omega
    |some z=>have:=h z (List.mem_of_getElem? hc);simp;omega
  have:=DP (r:=t) d x hx;simp only[ze];omega
theorem NQ(g:Nat->aB->aB){rows:ct}{us:List Bool}{n:Nat}(a:∀k,i0 (g k (rows.getD k []))<=64):∀k,∀x∈ly g rows us (qi n 0) k,0<=x/\x<=64*k
 |0,x,hx=>by
  have:=List.eq_of_mem_replicate hx;subst this;simp
 |k+1,x,hx=>by
  unfold ly at hx;split at hx
  ·have:=NQ g a k x hx;omega
  ·have:=DP (NQ g a k) x hx;have:=a k;omega
theorem La(op:List Bool)(a:aB):∀k,(iR op a k=-1/\∀j,j<k->op.getD j fz=fz)∨(0<=iR op a k/\iR op a k<k/\op.getD (iR op a k).toNat fz=eX)
 |0=>.inl ⟨i4,λj c=>i5⟩
 |k+1=>by
  unfold iR;split
  ·rename_i b;simp only[qy]at b;exact .inr ⟨i5,i5,by rw[qj];exact b.1⟩
  ·rename_i b;rcases La op a k with⟨e,h⟩|⟨h1,h2,h3⟩
   ·refine .inl ⟨e,λj c=>?_⟩;rcases zd.1 c with c|rfl
    ·exact h j c
    ·by_cases d:op.getD j fz=eX
     ·exact absurd (by rw[d,e];rfl) b
     ·simpa using d
   ·exact .inr ⟨h1,i5,h3⟩
theorem DQ{op:List Bool}(h:op.contains eX=eX):∃j,j<i0 op/\op.getD j fz=eX:=by simp only[List.contains_iff_mem]at h;obtain⟨j,a,e⟩:=qB h;exact⟨j,a,by rw[qd,qc a];exact e⟩
theorem rT{rows:ct}{op us:List Bool}(h:op.contains eX=eX):0<=io rows op us/\io rows op us<i0 op/\op.getD (io rows op us).toNat fz=eX:=by
 obtain⟨j,a,e⟩:=DQ h;rcases La op (ly (λ_ r=>r) rows us (qi op.length 0) rows.length) op.length with⟨_,h2⟩|h2
 ·rw[h2 j a]at e;cases e
 ·exact h2
theorem sZ{rows:ct}{op us:List Bool}{i:Nat}(h:mI rows op us=dB i):i<i0 rows/\mH rows op us i=eX:=by have a:=List.mem_of_find?_eq_some h;have b:=List.find?_some h;exact⟨qA.1 a,b⟩
theorem BU{rows:ct}{op us:List Bool}{i:Nat}(d:mH rows op us i=eX):df op (rows.getD i [])=[fk rows op i]/\fk rows op i∈rows.getD i []/\ki op (fk rows op i)=eX:=by
 simp only[mH,qy,beq_iff_eq]at d;obtain⟨c,a⟩:=List.length_eq_one_iff.1 d.2;have e:fk rows op i=c:=by unfold fk;rw[a];rfl
 have b:c∈df op (rows.getD i []):=by rw[a];simp
 rw[df,qF]at b;rw[e];exact⟨a,b.1,b.2⟩
theorem kQ{op:List Bool}{j:Nat}(h:op.getD j fz=eX):(op.set j fz).count eX+1=op.count eX:=by
 have a:j<i0 op:=by
  by_cases a:j<i0 op
  ·exact a
  ·rw[qd,qI i5]at h;cases h
 have e:op[j]=eX:=by rw[qd,qc a]at h;exact h
 have b:0<op.count eX:=List.count_pos_iff.2 (e▸qf a);rw[List.count_set a,e];simp;omega
theorem NR{op:List Bool}(h:op.count eX=0):op.contains eX=fz:=by rw[List.count_eq_zero]at h;simpa using h
theorem xT{rows:ct}{op us:List Bool}(h:op.contains eX=fz):∀k,cJ rows k op us=⟨[],[],us⟩
 |0=>rfl
 |k+1=>by unfold cJ;rw[h];rfl
theorem oG{rows:ct}{op us:List Bool}{i k:Nat}(h:op.contains eX=eX)(a:mI rows op us=dB i):
  cJ rows (k+1) op us=⟨((i:Int),fk rows op i)::(cJ rows k (op.set (fk rows op i).toNat fz) (us.set i eX)).steps,(cJ rows k (op.set (fk rows op i).toNat fz) (us.set i eX)).dead,(cJ rows k (op.set (fk rows op i).toNat fz) (us.set i eX)).used⟩:=by
 rw[cJ,h,a];rfl
theorem oH{rows:ct}{op us:List Bool}{k:Nat}(h:op.contains eX=eX)(a:mI rows op us=eH):
  cJ rows (k+1) op us=⟨(cJ rows k (op.set (io rows op us).toNat fz) us).steps,io rows op us::(cJ rows k (op.set (io rows op us).toNat fz) us).dead,(cJ rows k (op.set (io rows op us).toNat fz) us).used⟩:=by
 rw[cJ,h,a];rfl
theorem sA(rows:ct):∀k op us,(cJ rows k op us).used.length=i0 us
 |0,_,_=>rfl
 |k+1,op,us=>by
  unfold cJ;split
  ·split
   ·show(cJ rows k _ _).used.length=_;rw[sA];simp
   ·show(cJ rows k _ _).used.length=_;rw[sA]
  ·rfl
theorem FB(us:List Bool):∀k,i0 (fE us k)<=k
 |0=>by simp[fE]
 |k+1=>by
  have:=FB us k;unfold fE;split<;>simp<;>omega
theorem sK{op:List Bool}{f:Nat}(h:op.count eX=f+1):op.contains eX=eX:=by
 have:0<op.count eX:=i5
 rw[List.count_pos_iff]at this;simpa using this
theorem Qp{P:Nat->Bool}{n j:Nat}(a:j<n)(h:P j=eX):∃i,(qx n).find? P=dB i:=by
 cases hf:(qx n).find? P with
 |some i=>exact⟨i,i4⟩
 |none=>
  rw[wu]at hf;exact absurd h (hf j (qA.2 a))
theorem jH(l:List Bool)(i j:Nat)(x:Bool):(l.set i x).getD j fz=if i=j/\j<i0 l then x else l.getD j fz:=by
 simp only[qd,qU];by_cases h:i=j
 ·subst h;by_cases a:i<i0 l<;>simp[a]
 ·simp[h]
def um(rows:ct)(op us:List Bool):Prop:=∀i,us.getD i fz=eX->df op (rows.getD i [])=[]
theorem nv{op:List Bool}{c d:Int}(h:ki (op.set d.toNat fz) c=eX):ki op c=eX/\c.toNat≠d.toNat:=by
 unfold ki at*;rw[jH]at h;by_cases e:d.toNat=c.toNat
 ·rw[g9]at h
  ·cases h
  ·refine⟨e,?_⟩;by_cases b:c.toNat<i0 op
   ·exact b
   ·rw[hU λa=>b a.2,qd,qI i5]at h;cases h
 ·rw[hU λa=>e a.1]at h;exact⟨h,λa=>e a.symm⟩
theorem WU{rows:ct}{op us:List Bool}{i:Nat}(l:um rows op us)(g:mH rows op us i=eX):um rows (op.set (fk rows op i).toNat fz) (us.set i eX):=by
 obtain⟨k,n,h3⟩:=BU g;intro j d;rw[jH]at d;rw[df,wT];intro c h b;obtain⟨b,f⟩:=nv b;have a:c∈df op (rows.getD j []):=by rw[df,qF];exact⟨h,b⟩
 by_cases e:i=j
 ·subst e;rw[k]at a;simp at a;exact f (by rw[a])
 ·rw[hU λm=>e m.1]at d;rw[l j d]at a;simp at a
theorem DR(n j:Nat):(qi n fz).getD j fz=fz:=by
 rw[qd];by_cases h:j<n
 ·rw[qc j9];simp
 ·rw[qI j9];rfl
theorem afp{rows:ct}{r:aB}(h:r∈rows):∃j,j<i0 rows/\rows.getD j []=r:=by obtain⟨j,a,e⟩:=qB h;exact⟨j,a,by rw[qd,qc a];exact e⟩
def other(m i:Nat):Nat:=if i<m then i else i+1
def rU(rows:ct):(Int->Prop)->(Int->Prop)->List (Int×Int)->Prop
 |_,_,[]=>True
 |D,U,(i,c)::t=>(0<=i/\i<i0 rows)/\¬U i/\¬D c/\c∈rows.getD i.toNat []/\(∀a∈rows.getD i.toNat [],a≠c->D a)/\rU rows (λx=>D x∨x=c) (λx=>U x∨x=i) t
def ahr(op:List Bool)(c:Int):Prop:=0<=c/\ki op c=eX
theorem WV{op:List Bool}{c:Int}(h:ki op c=eX):c.toNat<i0 op:=by
 by_cases a:c.toNat<i0 op
 ·exact a
 ·unfold ki at h;rw[qd,qI i5]at h;cases h
theorem SB{op:List Bool}{c d:Int}(b:0<=c)(e:0<=d):ki op c=eX->c≠d->ki (op.set d.toNat fz) c=eX:=by intro h a;unfold ki;rw[jH,hU λf=>a i5];exact h
theorem ta{op:List Bool}{d:Int}(h:ki op d=eX):ki (op.set d.toNat fz) d=fz:=by unfold ki;rw[jH,g9 ⟨i4,WV h⟩]
structure agI (rows:ct) (op us:List Bool) (r:Pl):Prop where
 cZ:i0 r.steps+i0 r.dead=op.count eX
 used:r.used.count eX=us.count eX+i0 r.steps
 keepU:∀i,us.getD i fz=eX->r.used.getD i fz=eX
 dead:∀c∈r.dead,ahr op c
 deadN:r.dead.Nodup
 good:∀D U:Int->Prop,(∀c:Int,0<=c->c<i0 op->(D c↔ki op c=fz∨c∈r.dead))->(∀i:Nat,i<i0 rows->(U i↔us.getD i fz=eX∨r.used.getD i fz=fz))->rU rows D U r.steps
theorem aam{us:List Bool}{i:Nat}(h:us.getD i fz=fz)(a:i<i0 us):(us.set i eX).count eX=us.count eX+1:=by
 have e:us[i]=fz:=by rw[qd,qc a]at h;exact h
 rw[List.count_set a,e];simp
theorem NS{rows:ct}{n:Nat}(b:∀r∈rows,∀c∈r,0<=c/\c<n):∀k op us,i0 op=n->i0 us=i0 rows->op.count eX=k->agI rows op us (cJ rows k op us)
 |0,op,us,hl,hul,hc=>⟨by simp[cJ,hc],by simp[cJ],λi h=>h,λc h=>by simp[cJ]at h,by simp[cJ],λ_ _ _ _=>trivial⟩
 |k+1,op,us,hl,hul,hc=>by
  have t:=sK hc;cases hst:mI rows op us with
  |some i=>
   obtain⟨l,s⟩:=sZ hst;obtain⟨L,I,h3⟩:=BU s;have g:rows.getD i []=rows[i]:=by rw[qd,qc l];rfl
   have v:=b _ (qf l) _ (g▸I);have E:=kQ (op:=op) (j:=(fk rows op i).toNat) h3;have x:us.getD i fz=fz:=by simp only[mH,qy,wK]at s;exact s.1
   have N:=aam x i5;have a:=NS b k (op.set (fk rows op i).toNat fz) (us.set i eX) (by simp[hl]) (by simp[hul]) i5;rw[oG t hst];generalize cJ rows k (op.set (fk rows op i).toNat fz) (us.set i eX)=r at a;generalize K:fk rows op i=c at*;have B:r.used.getD i fz=eX:=a.keepU i (by rw[jH,g9 ⟨i4,i5⟩]);have p:c∉r.dead:=λh=>by
    have:=(a.dead c h).2;rw[ta h3]at this;cases this
   refine⟨by simp only[ze];have:=a.cZ;omega,by simp only[ze];have:=a.used;omega,λj A=>a.keepU j (by rw[jH];split;rfl;exact A),λd q=>⟨(a.dead d q).1,(nv (a.dead d q).2).1⟩,a.deadN,λD U w y=>?_⟩;have o:rows.getD ((i:Int)).toNat []=rows.getD i []:=by rw[qj]
   refine⟨i5,?_,?_,by rw[o];exact I,?_,?_⟩
   ·rw[y i l,x,B];simp
   ·rw[w c v.1 i5,h3];simp[p]
   ·intro z u G;rw[o]at u;have F:=b _ (qf l) _ (g▸u);refine(w z F.1 i5).2 (.inl ?_);cases ho:ki op z with
    |false=>rfl
    |true=>
     have:z∈df op (rows.getD i []):=by rw[df,qF];exact⟨u,ho⟩
     rw[L]at this;simp at this;exact absurd this G
   ·refine a.good _ _ (λd f m=>?_) (λj A=>?_)
    ·simp only[zC]at m;rw[w d f m];by_cases e:d=c
     ·subst e;simp[ta h3]
     ·cases ho:ki op d with
      |true=>rw[SB f v.1 ho e];simp[e]
      |false=>
       have:ki (op.set c.toNat fz) d=fz:=by
        cases hh:ki (op.set c.toNat fz) d with
        |false=>rfl
        |true=>rw[(nv hh).1]at ho;cases ho
       rw[this];simp
    ·rw[y j A,jH];by_cases e:i=j
     ·subst e;simp[hul,l]
     ·have M:¬((j:Int)=(i:Int)):=λh=>e i5;simp[e,M]
  |none=>
   obtain⟨J,O,H⟩:=rT (rows:=rows) (us:=us) t;have E:=kQ (op:=op) (j:=(io rows op us).toNat) H;have a:=NS b k (op.set (io rows op us).toNat fz) us (by simp[hl]) hul i5;rw[oH t hst];generalize cJ rows k (op.set (io rows op us).toNat fz) us=r at a;generalize io rows op us=c at*;have h3:ki op c=eX:=H;have p:c∉r.dead:=λh=>by
    have:=(a.dead c h).2;rw[ta h3]at this;cases this
   refine⟨by simp only[ze];have:=a.cZ;omega,a.used,a.keepU,λd q=>?_,by simp only[yn];exact⟨p,a.deadN⟩,λD U w y=>?_⟩
   ·rcases qX.1 q with rfl|q
    ·exact⟨J,h3⟩
    ·exact⟨(a.dead d q).1,(nv (a.dead d q).2).1⟩
   ·refine a.good D U (λd f m=>?_) y;simp only[zC]at m;rw[w d f m];by_cases e:d=c
    ·subst e;simp[ta h3]
    ·have:ki (op.set c.toNat fz) d=ki op d:=by
      cases ho:ki op d with
      |true=>exact SB f J ho e
      |false=>
       cases hh:ki (op.set c.toNat fz) d with
       |false=>rfl
       |true=>rw[(nv hh).1]at ho;cases ho
     rw[this];simp[e]
theorem BV(us:List Bool):∀k (c:Int),c∈fE us k↔∃j:Nat,c=j/\j<k/\us.getD j fz=fz
 |0,c=>by simp[fE]
 |k+1,c=>by
  have e:=BV us k c;unfold fE;cases h:us.getD k fz with
  |true=>
   simp only[if_true];rw[e];constructor
   ·rintro⟨j,a,b,d⟩;exact⟨j,a,i5,d⟩
   ·rintro⟨j,a,b,d⟩;refine⟨j,a,?_,d⟩;rcases zd.1 b with b|rfl
    ·exact b
    ·rw[h]at d;cases d
  |false=>
   simp only[zg,if_false,qz,qu];rw[e];constructor
   ·rintro(⟨j,a,b,d⟩|rfl)
    ·exact⟨j,a,i5,d⟩
    ·exact⟨k,i4,i5,h⟩
   ·rintro⟨j,a,b,d⟩;rcases zd.1 b with b|rfl
    ·exact .inl ⟨j,a,b,d⟩
    ·exact .inr a
theorem NT(us:List Bool):∀k,k<=i0 us->i0 (fE us k)+(us.take k).count eX=k
 |0,_=>by simp[fE]
 |k+1,hk=>by
  have a:=NT us k i5;have e:us.getD k fz=us[k]:=by rw[qd,qc i5];rfl
  unfold fE;rw[zJ i5,List.count_append,e];cases us[k]<;>simp<;>omega
theorem un{rows:ct}{n:Nat}(a:∀r∈rows,∀c∈r,0<=c/\c<n):
  (dP n rows).steps.length+(dP n rows).dead.length=n/\(dP n rows).steps.length+i0 (fE (dP n rows).used rows.length)=i0 rows/\(∀c∈(dP n rows).dead,0<=c/\c<n)/\(dP n rows).dead.Nodup/\
  (∀c∈fE (dP n rows).used rows.length,0<=c/\c<i0 rows)/\rU rows (·∈(dP n rows).dead) (·∈fE (dP n rows).used rows.length) (dP n rows).steps:=by
 have h:=NS a n (qi n eX) (qi rows.length fz) jj jj jj;have p:(dP n rows).used.length=i0 rows:=by unfold dP;rw[sA];simp
 have e:=NT (dP n rows).used rows.length i5;rw[List.take_of_length_le i5]at e;refine⟨by have:=h.cZ;simpa[dP]using this,?_,λc d=>?_,h.deadN,λc d=>?_,?_⟩
 ·have:=h.used;have o:(qi rows.length fz).count eX=0:=by simp[List.count_replicate]
  rw[o]at this;unfold dP at*;omega
 ·obtain⟨h0,m⟩:=h.dead c d;have:=WV m;simp at this;omega
 ·obtain⟨j,rfl,l,_⟩:=(BV _ _ _).1 d;omega
 ·refine h.good _ _ (λc k b=>?_) (λi g=>?_)
  ·have:ki (qi n eX) c=eX:=by simp at b;unfold ki;rw[qd,qc i9];simp
   rw[this];simp[dP]
  ·rw[DR,BV];constructor
   ·rintro⟨j,l,_,f⟩;have:j=i:=i5
    subst this;exact .inr f
   ·rintro(hh|hh)
    ·cases hh
    ·exact⟨i,i4,g,hh⟩
theorem DS{rows:ct}:∀k op us i,(cJ rows k op us).used.getD i fz=eX->us.getD i fz=eX∨∃c,((i:Int),c)∈(cJ rows k op us).steps
 |0,_,_,_,h=>.inl h
 |k+1,op,us,i,h=>by
  by_cases a:op.contains eX=eX
  ·cases hst:mI rows op us with
   |some j=>
    rw[oG a hst]at h⊢;dsimp only at h⊢;rcases DS k _ _ i h with h1|⟨c,hc⟩
    ·rw[jH]at h1;by_cases b:j=i
     ·subst b;exact .inr ⟨_,qM⟩
     ·rw[hU λd=>b d.1]at h1;exact .inl h1
    ·exact .inr ⟨c,qD _ hc⟩
   |none=>
    rw[oH a hst]at h⊢;exact DS k _ _ i h
  ·have a:op.contains eX=fz:=k7
   rw[xT a]at h⊢;exact .inl h
theorem DT{rows:ct}{n:Nat}(a:∀r∈rows,∀c∈r,0<=c/\c<(n:Int)):∀k op us,i0 op=n->op.count eX=k->∀c:Nat,op.getD c fz=eX->
  (c:Int)∈(cJ rows k op us).dead∨∃i,(i,(c:Int))∈(cJ rows k op us).steps
 |0,op,us,hl,hc,c,h=>by
  have:=NR hc;exfalso;have l:c<i0 op:=by
   by_cases f:c<i0 op
   ·exact f
   ·rw[qd,qI i5]at h;cases h
  rw[List.count_eq_zero]at hc;rw[qd,qc l]at h;exact hc (h▸qf l)
 |k+1,op,us,hl,hc,c,h=>by
  have d:=sK hc;cases hst:mI rows op us with
  |some j=>
   rw[oG d hst];obtain⟨g,m⟩:=sZ hst;obtain⟨t,s,h3⟩:=BU m;have e:rows.getD j []=rows[j]:=by rw[qd,qc g];rfl
   have q:=a _ (qf g) _ (e▸s);have o:=kQ (op:=op) (j:=(fk rows op j).toNat) h3;dsimp only;by_cases b:(fk rows op j).toNat=c
   ·exact .inr ⟨j,by rw[show((c:Nat):Int)=fk rows op j by omega];exact qM⟩
   ·rcases DT a k (op.set (fk rows op j).toNat fz) (us.set j eX) (by simp[hl]) i5 c (by rw[jH,hU λf=>b f.1];exact h)with h5|⟨i,h5⟩
    ·exact .inl h5
    ·exact .inr ⟨i,qD _ h5⟩
  |none=>
   rw[oH d hst];obtain⟨u,v,p⟩:=rT (rows:=rows) (us:=us) d;have o:=kQ (op:=op) (j:=(io rows op us).toNat) p;dsimp only;by_cases b:(io rows op us).toNat=c
   ·exact .inl (by rw[show((c:Nat):Int)=io rows op us by omega];exact qM)
   ·rcases DT a k (op.set (io rows op us).toNat fz) us (by simp[hl]) i5 c (by rw[jH,hU λf=>b f.1];exact h)with h5|⟨i,h5⟩
    ·exact .inl (qD _ h5)
    ·exact .inr ⟨i,h5⟩
theorem Um{rows:ct}{op us:List Bool}{c:Int}(h:um rows op us):um rows (op.set c.toNat fz) us:=λi b=>by
 have:=h i b;rw[df,wT]at this⊢;exactλd a e=>this d a (nv e).1
theorem BW{rows:ct}{c:Int}(m:[c]∈rows):∀k op us,um rows op us->(∀d:Int,d<0->d∉(cJ rows k op us).dead)->0<=c->c∉(cJ rows k op us).dead
 |0,_,_,_,_,_=>by simp[cJ]
 |k+1,op,us,hu,_,h0=>by
  by_cases a:op.contains eX=eX
  ·cases hst:mI rows op us with
   |some j=>
    rw[oG a hst];dsimp only;obtain⟨_,l⟩:=sZ hst;exact BW m k _ _ (WU hu l) (λd p b=>by
     have f:∀k op us,∀d∈(cJ rows k op us).dead,0<=d:=plan_dead0;have:=f _ _ _ d b;omega) h0
   |none=>
    rw[oH a hst];obtain⟨t,u,r⟩:=rT (rows:=rows) (us:=us) a;dsimp only;intro b;rcases qX.1 b with e|b
    ·obtain⟨j,q,g⟩:=afp m;have o:df op [c]=[c]:=by rw[df,zo,g9 (show ki op c=eX by rw[e];exact r)];rfl
     have s:mH rows op us j=eX:=by
      unfold mH;rw[g,o];cases hus:us.getD j fz with
      |false=>rfl
      |true=>have:=hu j hus;rw[g,o]at this;cases this
     obtain⟨i,n⟩:∃i,mI rows op us=dB i:=Qp q s;rw[hst]at n;cases n
    ·exact BW m k _ _ (Um hu) (λd p b=>by have:=plan_dead0 (rows:=rows) _ _ _ d b;omega) h0 b
  ·have a:op.contains eX=fz:=k7
   rw[xT a];simp
where
 plan_dead0 {rows:ct}:∀k op us,∀d∈(cJ rows k op us).dead,0<=d
  |0,_,_,d,h=>by simp[cJ]at h
  |k+1,op,us,d,h=>by
   by_cases a:op.contains eX=eX
   ·cases hst:mI rows op us with
    |some j=>rw[oG a hst]at h;exact plan_dead0 k _ _ d h
    |none=>
     rw[oH a hst]at h;rcases qX.1 h with rfl|h
     ·exact(rT a).1
     ·exact plan_dead0 k _ _ d h
   ·have a:op.contains eX=fz:=k7
    rw[xT a]at h;simp at h
def rV(R:ct):(Int->Prop)->List (Int×Int)->Prop
 |_,[]=>True
 |D,(i,c)::t=>(0<=i/\i<i0 R)/\¬D c/\c∈R.getD i.toNat []/\(∀a∈R.getD i.toNat [],a≠c->D a)/\rV R (λx=>D x∨x=c) t
theorem AA{R S:ct}{K:Int->Prop}(g:∀r∈R,∀c∈r,¬K c)(o:∀r∈S,∀c∈r,K c):∀{a:List (Int×Int)} {D D' U:Int->Prop},rU (R++S) D U a->(∀c,¬K c->(D c↔D' c))->
  rV R D' (a.filter λp=>decide (p.1<i0 R))
 |[],_,_,_,_,_=>trivial
 |(i,c)::t,D,D',U,h,hD=>by
  obtain⟨x,z,h3,j,v,w⟩:=h;rw[zo];by_cases m:i<i0 R
  ·have e:(R++S).getD i.toNat []=R.getD i.toNat []:=by rw[qd,qm i5,qd]
   have k:R.getD i.toNat []∈R:=by rw[qd,qc i5];exact qf _
   rw[e]at j v;have q:=g _ k c j;rw[g9 m0];refine⟨⟨x.1,m⟩,λn=>h3 ((hD c q).2 n),j,λl b s=>(hD l (g _ k l b)).1 (v l b s),AA g o w λd f=>?_⟩;rw[hD d f]
  ·rw[hU m0];have k:(R++S).getD i.toNat []∈S:=by have u:=x.2;rw[qw]at u;rw[qd,qh i5,qc i5];exact qf _
   have q:=o _ k c j;refine AA g o w λd f=>?_;rw[<-hD d f];exact⟨λn=>n.elim id λy=>absurd (y▸q) f,.inl⟩
def ev(t:UInt8)(k nd:Nat)(W M:aJ)(y:Nat->UInt8)(c:Int):UInt8:=bU (λi=>aK (aC W c.toNat) i) y nd^^^Gf.mul t (aK (aC M c.toNat) k)
theorem GO{a b:Row}(h:i0 a=i0 b)(c:UInt8)(y:Nat->UInt8)(n:Nat):bU (λj=>aK (cV c a b) j) y n=bU (λj=>aK b j) y n^^^Gf.mul c (bU (λj=>aK a j) y n):=by rw[fY n (λj _=>cP h j) λ_ _=>rfl];exact Fv _ _ _ _ _
theorem NU{V:aJ}{m:Nat}(y:Nat->UInt8)(n:Nat):∀{l:aB} {a:Row},i0 a=m->(∀c∈l,i0 (aC V c.toNat)=m)->bU (λj=>aK (cS V a l) j) y n=bU (λj=>aK a j) y n^^^cR (λc=>bU (λj=>aK (aC V c.toNat) j) y n) l
 |[],a,_,_=>by simp[cS,cR]
 |c::l,a,h,hv=>by
  have b:i0 (aC V c.toNat)=i0 a:=by rw[hv c jj,h]
  have:=NU (V:=V) y n (l:=l) (a:=cV 1 (aC V c.toNat) a) (by rw[bZ b];exact h) λd e=>hv d p8;rw[cS,zy];rw[cS]at this;rw[this,GO b,Gf.one_mul,cR];ac_rfl
theorem NV(t:UInt8)(x:Int->UInt8):∀l,cR (λc=>Gf.mul t (x c)) l=Gf.mul t (cR x l)
 |[]=>by simp[cR,Gf.mul_zero]
 |c::l=>by rw[cR,cR,Gf.kj,NV t x l]
theorem JX{W M:aJ}{nd w:Nat}{l:aB}{a m:Row}(d:i0 a=nd)(e:i0 m=w)(b:∀c∈l,i0 (aC W c.toNat)=nd)(f:∀c∈l,i0 (aC M c.toNat)=w)(t:UInt8)(k:Nat)(y:Nat->UInt8):
  bU (λj=>aK (cS W a l) j) y nd^^^Gf.mul t (aK (cS M m l) k)=(bU (λj=>aK a j) y nd^^^Gf.mul t (aK m k))^^^cR (ev t k nd W M y) l:=by
 rw[NU y nd d b,GN k e f,Gf.kj];have:cR (ev t k nd W M y) l=cR (λc=>bU (λj=>aK (aC W c.toNat) j) y nd) l^^^Gf.mul t (cR (λc=>aK (aC M c.toNat) k) l):=by rw[<-NV,<-NO];rfl
 rw[this];ac_rfl
def iq(rest:List fo)(nd:Nat)(s:aJ×aJ)(p:Int×Int):aJ×aJ:=
 let r:=rest.getD p.1.toNat ([],[])
 (s.1.set p.2.toNat (cS s.1 (aI nd) (r.1.filter λc=>!decide (c=p.2))),s.2.set p.2.toNat (cS s.2 r.2 (r.1.filter λc=>!decide (c=p.2))))
structure WW (n nd w:Nat) (D:Int->Prop) (W M:aJ):Prop where
 wl:i0 W=n
 ml:i0 M=n
 rw_:∀c:Int,D c->0<=c->c<(n:Int)->i0 (aC W c.toNat)=nd/\(aC M c.toNat).length=w
theorem BX{W M a b:aJ}{t:UInt8}{k nd:Nat}{y:Nat->UInt8}{c:Int}(d:aC a c.toNat=aC W c.toNat)(e:aC b c.toNat=aC M c.toNat):ev t k nd a b y c=ev t k nd W M y c:=by unfold ev;rw[d,e]
theorem GP{n nd w:Nat}{rest:List fo}(G:∀e∈rest,iZ n w e):∀{a:List (Int×Int)} {D:Int->Prop} {W M:aJ},rV (rest.map qt) D a->WW n nd w D W M->
  WW n nd w (λc=>D c∨∃i,(i,c)∈a) (a.foldl (iq rest nd) (W,M)).1 (a.foldl (iq rest nd) (W,M)).2/\
  (∀c:Int,D c->0<=c->aC (a.foldl (iq rest nd) (W,M)).1 c.toNat=aC W c.toNat/\aC (a.foldl (iq rest nd) (W,M)).2 c.toNat=aC M c.toNat)/\
  (∀p∈a,∀t k y,k<w->Sat t k (ev t k nd (a.foldl (iq rest nd) (W,M)).1 (a.foldl (iq rest nd) (W,M)).2 y) (rest.getD p.1.toNat ([],[])))/\
  (∀t k x y,k<w->(∀c:Int,D c->0<=c->c<(n:Int)->x c=ev t k nd W M y c)->(∀p∈a,Sat t k x (rest.getD p.1.toNat ([],[])))->∀c:Int,(D c∨∃i,(i,c)∈a)->0<=c->c<(n:Int)->x c=ev t k nd (a.foldl (iq rest nd) (W,M)).1 (a.foldl (iq rest nd) (W,M)).2 y c)
 |[],D,W,M,_,hw=>⟨⟨hw.wl,hw.ml,λc S=>hw.rw_ c (S.elim id λ⟨i,h⟩=>k9)⟩,λ_ _ _=>⟨i4,i4⟩,λp r=>by(cases r),λt k x y N K _ c S h0 o=>K c (S.elim id λ⟨i,h⟩=>k9) h0 o⟩
 |(i,c)::st,D,W,M,hg,hw=>by
  obtain⟨g1,g2,H,g4,g5⟩:=hg;have u:i.toNat<i0 rest:=by have:=g1.2;rw[qq]at this;omega
  obtain⟨e,Y⟩:∃e,e=rest[i.toNat]:=⟨_,rfl⟩
  have er:rest.getD i.toNat ([],[])=e:=by rw[qd,qc u,Y];rfl
  have V:(rest.map qt).getD i.toNat []=e.1:=by rw[qd,qP,qc u,Y];rfl
  rw[V]at H g4;have l:=G e (Y▸qf u);have R:=l.cZ c H;obtain⟨F,I⟩:∃F,F=e.1.filter (λd=>!decide (d=c)):=⟨_,rfl⟩
  have q:∀d∈F,d∈e.1/\d≠c:=λd b=>by rw[I,qF]at b;exact⟨b.1,by simpa using b.2⟩
  have f:∀d∈F,D d/\0<=d/\d<(n:Int):=λd b=>⟨g4 d (q d b).1 (q d b).2,l.cZ d (q d b).1⟩
  have l1:∀d∈F,i0 (aC W d.toNat)=nd:=λd b=>(hw.rw_ d (f d b).1 (f d b).2.1 (f d b).2.2).1;have l2:∀d∈F,i0 (aC M d.toNat)=w:=λd b=>(hw.rw_ d (f d b).1 (f d b).2.1 (f d b).2.2).2;have Z:i0 (aI nd)=nd:=ln
  have ab:iq rest nd (W,M) (i,c)=(W.set c.toNat (cS W (aI nd) F),M.set c.toNat (cS M e.2 F)):=by unfold iq;dsimp only;rw[er,<-I]
  have U:=hw.wl;have X:=hw.ml;have B:∀d:Nat,aC (W.set c.toNat (cS W (aI nd) F)) d=if c.toNat=d then cS W (aI nd) F else aC W d:=λd=>lu
  have E:∀d:Nat,aC (M.set c.toNat (cS M e.2 F)) d=if c.toNat=d then cS M e.2 F else aC M d:=λd=>lu
  have Q:WW n nd w (λx=>D x∨x=c) (W.set c.toNat (cS W (aI nd) F)) (M.set c.toNat (cS M e.2 F)):=by
   refine⟨by simp[U],by simp[X],λd b h0 o=>?_⟩;rw[B,E];by_cases g:c.toNat=d.toNat
   ·rw[g9 g,g9 g];exact⟨jU Z l1,jU l.len l2⟩
   ·rw[hU g,hU g];exact hw.rw_ d (b.elim id λJ=>absurd (by rw[J]) g) h0 o
  obtain⟨L,r2,r3,r4⟩:=GP G g5 Q;rw[zy,ab];generalize st.foldl (iq rest nd) (W.set c.toNat (cS W (aI nd) F),M.set c.toNat (cS M e.2 F))=s at L r2 r3 r4;have A:∀d:Int,D d->0<=d->c.toNat≠d.toNat:=λd b h0 J=>g2 (by rw[show c=d by omega];exact b);have keep:∀d:Int,D d->0<=d->aC s.1 d.toNat=aC W d.toNat/\aC s.2 d.toNat=aC M d.toNat:=λd b h0=>by
   have:=r2 d (.inl b) h0;rw[B,E,hU (A d b h0),hU (A d b h0)]at this;exact this
  have P:∀t k y,ev t k nd s.1 s.2 y c=Gf.mul t (aK e.2 k)^^^cR (ev t k nd W M y) F:=λt k y=>by
   have T:=r2 c (.inr i4) R.1;rw[B,E,g9 rfl,g9 rfl]at T;unfold ev;rw[T.1,T.2,JX Z l.len l1 l2 t k y,fU _ _ nd λj _=>cD _ _,wF];rfl
  have z:∀t k y,cR (ev t k nd s.1 s.2 y) F=cR (ev t k nd W M y) F:=λt k y=>kz λd b=>BX (keep d (f d b).1 (f d b).2.1).1 (keep d (f d b).1 (f d b).2.1).2;refine⟨⟨L.wl,L.ml,λd b h0 o=>L.rw_ d ?_ h0 o⟩,keep,λp r t k y N=>?_,λt k x y N K hs d b h0 o=>?_⟩
  ·rcases b with b|⟨j,hj⟩
   ·exact .inl (.inl b)
   ·rcases qX.1 hj with hj|hj
    ·injection hj with _ hj;exact .inl (.inr hj)
    ·exact .inr ⟨j,hj⟩
  ·rcases qX.1 r with rfl|r
   ·dsimp only;rw[er];unfold Sat;rw[xS _ l.nodup H,<-I,P,z,pU]
   ·exact r3 p r t k y N
  ·refine r4 t k x y N (λd b h0 o=>?_) (λp r=>hs p (qD _ r)) d ?_ h0 o
   ·by_cases g:d=c
    ·subst g;have v:=hs (i,d) jj;dsimp only at v;rw[er]at v;unfold Sat at v;rw[xS _ l.nodup H,<-I,kz (y:=ev t k nd W M y) λO m=>K O (f O m).1 (f O m).2.1 (f O m).2.2]at v;have h6:ev t k nd (W.set d.toNat (cS W (aI nd) F)) (M.set d.toNat (cS M e.2 F)) y d=Gf.mul t (aK e.2 k)^^^cR (ev t k nd W M y) F:=by unfold ev;rw[B,E,g9 i4,g9 i4,JX Z l.len l1 l2 t k y,fU _ _ nd λj _=>cD _ _,wF];rfl
     rw[h6,<-v,pU]
    ·have m:D d:=b.elim id λJ=>absurd J g;rw[K d m h0 o];refine(BX ?_ ?_).symm
     ·rw[B,hU i5]
     ·rw[E,hU i5]
   ·rcases b with b|⟨j,hj⟩
    ·exact .inl (.inl b)
    ·rcases qX.1 hj with hj|hj
     ·injection hj with _ hj;exact .inl (.inr hj)
     ·exact .inr ⟨j,hj⟩
section
open Classical
def fl(r:Row):Nat:=r.findIdx (λx=>x !=0)
def eK(M:aJ)(r:Row):Row:=M.foldl (λout x=>cV (aK out (fl x)) x out) r
def mV(m:aJ):aJ:=(bH m (eU m)).2.take (ce m)
def NW(M:aJ)(r:Row):aJ:=if fl (eK M r)<i0 (eK M r) then mV (M++[eK M r])else M
theorem JY{r:Row}{c:Nat}(h:c<i0 r):aK r c=r[c]:=by rw[aK,qd,qc h];rfl
theorem adC{r:Row}{j:Nat}(h:aK r j≠0):fl r<i0 r:=by have a:j<i0 r:=Nat.lt_of_not_le λb=>h (by simp[aK,qd,qI b]);rw[fl,wq];exact⟨r[j],qf a,by rw[<-JY a];simpa using h⟩
theorem WX{r:Row}(h:¬fl r<i0 r):r=aI r.length:=by rw[fl,wq]at h;refine eZ i4 ln λj a=>?_;rw[cD,JY a];have b:¬((r[j] !=0)=eX):=λc=>h ⟨r[j],qf a,c⟩;simpa using b
section
variable {n:Nat} {m M A:aJ}
theorem GQ(b:aS n M){r:Row}(a:i0 r=n):i0 (eK M r)=n:=by
 unfold eK
 induction M generalizing r with
 |nil=>exact a
 |cons x M ih=>
  rw[zy];exact ih (λy c=>b y (qD _ c)) (by rw[bZ (by rw[b x jj,a])];exact a)
theorem WY{c:UInt8}{a t:Row}(h:i0 a=i0 t):cV c a (cV c a t)=t:=
 eZ (n:=i0 t) (by rw[bZ (by rw[bZ h];exact h),bZ h]) i4 λj _=>by
  rw[cP (by rw[bZ h];exact h),cP h,pU]
theorem Lb(b:aS n m)(d:∀x∈M,Span n m x){r:Row}(c:i0 r=n):Span n m (eK M r)↔Span n m r:=by
 unfold eK
 induction M generalizing r with
 |nil=>exact Iff.rfl
 |cons x M ih=>
  have a:=d x jj;have e:i0 x=i0 r:=by rw[a.len b,c]
  rw[zy,ih (λy f=>d y (qD _ f)) (by rw[bZ e];exact c)];refine⟨λh=>?_,λh=>a.comb b h _⟩;have:=a.comb b h (aK r (fl x));rw[WY e]at this;exact this
structure BY (n:Nat) (M A:aJ):Prop where
 even:aS n M
 evenA:aS n A
 span:∀v,Span n M v↔Span n A v
 len:i0 M=ce A
 lead:∀x∈M,fl x<n
theorem afq(n:Nat):BY n [] []:=⟨λ_ h=>k9,λ_ h=>k9,λ_=>Iff.rfl,by simp[ce,kv],λ_ h=>k9⟩
theorem Lc(b:aS n m)(a:aS n A)(h:∀v,Span n m v↔Span n A v):ce m=ce A:=by rw[lP b,lP a];congr 1;funext v;exact propext (h v)
theorem NX(a:aS n m):Way n m n (ce m) (bH m (eU m)).2:=by
 have h:=Fw a n (ql _);cases m with
 |nil=>rw[kv]at h;rw[ce,kv];exact h
 |cons x t=>
  have b:eU (x::t)=n:=by rw[eU,bw jj];exact a _ jj
  rw[ce,b];exact h
theorem afr(z:aS n m):aS n (mV m)/\(∀v,Span n (mV m) v↔Span n m v)/\(mV m).length=ce m/\∀x∈mV m,fl x<n:=by
 have w:=NX z;obtain⟨f,t,y,i,o,⟨p,F,A,E,D⟩,c⟩:=w;have a:aS n (mV m):=λx g=>f x (zr g);refine⟨a,λv=>?_,by rw[mV,qR];omega,λx g=>?_⟩
 ·rw[<-i v];refine⟨Span.mono λr h=>zr h,Span.sub a λr h=>?_⟩;obtain⟨k,d,rfl⟩:=fj h;by_cases B:k<ce m
  ·refine Span.row a ?_;have:aC (bH m (eU m)).2 k=aC (mV m) k:=by rw[bw d,bw (by rw[mV,qR];omega)];simp[mV]
   rw[this];exact mem_row (by rw[mV,qR];omega)
  ·have:aC (bH m (eU m)).2 k=aI n:=eZ (f _ h) ln λj u=>by rw[cD];exact c k i5 d j u
   rw[this];exact .zero
 ·obtain⟨k,d,rfl⟩:=fj g;have l:k<ce m:=by rw[mV,qR]at d;omega
  have b:k<(bH m (eU m)).2.length:=i5
  have e:aC (mV m) k=aC (bH m (eU m)).2 k:=by rw[bw b,bw d];simp[mV]
  have q:=A k l k b;rw[g9 rfl]at q;have s:=adC (r:=aC (mV m) k) (j:=p k) (by rw[e,q];decide);rw[a _ g]at s;exact s
theorem aan(h:∀v,Span n M v↔Span n A v)(e:aS n M)(g:aS n A){r:Row}(l:i0 r=n){rest:Row}(j:i0 rest=n)
  (i:∀m,aS n m->(∀x∈M,Span n m x)->(Span n m rest↔Span n m r)):∀v,Span n (M++[rest]) v↔Span n (A++[r]) v:=λv=>by
 have b:=mR e j;have d:=mR g l;have k:∀x∈M,Span n (M++[rest]) x:=λx c=>Span.row b (zR _ c);have f:∀x∈M,Span n (A++[r]) x:=λx c=>Span.mono (λy a=>zR _ a) ((h x).1 (Span.row e c));constructor
 ·refine Span.sub d λy a=>?_;rcases qz.1 a with a|a
  ·exact f y a
  ·rw[qu]at a;subst a;exact(i _ d f).2 (Span.row d jj)
 ·refine Span.sub b λy a=>?_;rcases qz.1 a with a|a
  ·exact Span.mono (λz o=>zR _ o) ((h y).2 (Span.row g a))
  ·rw[qu]at a;subst a;exact(i _ b k).1 (Span.row b jj)
theorem WZ(h:BY n M A){r:Row}(b:i0 r=n):BY n (NW M r) (A++[r]):=by
 have e:=GQ h.even b;have j:=aan h.span h.even h.evenA b e λm k l=>Lb k l b;have d:=mR h.evenA b;unfold NW;split
 ·have t:=afr (mR h.even e);refine⟨t.1,d,λv=>(t.2.1 v).trans (j v),?_,t.2.2.2⟩;rw[t.2.2.1];exact Lc (mR h.even e) d j
 ·rename_i g;have g:=WX g;have i:Span n M r:=(Lb h.even (λx f=>Span.row h.even f) b).1 (by rw[g,e];exact .zero);have c:∀v,Span n M v↔Span n (A++[r]) v:=λv=>by
   rw[h.span v];refine⟨Span.mono λx f=>zR _ f,Span.sub h.evenA λy a=>?_⟩;rcases qz.1 a with a|a
   ·exact Span.row h.evenA a
   ·rw[qu]at a;subst a;exact(h.span _).1 i
  refine⟨h.even,d,c,?_,h.lead⟩;rw[h.len];exact Lc h.evenA d λv=>(h.span v).symm.trans (c v)
end
theorem Ld:∀{l m:List Nat},l.Nodup->(∀x∈l,x∈m)->i0 l<=i0 m
 |[],_,_,_=>jj
 |x::l,m,hd,h=>by
  rw[yn]at hd;have a:=h x jj;have d:=Ld (l:=l) (m:=m.erase x) hd.2 λy b=>(List.mem_erase_of_ne λc:y=x=>hd.1 (by rw[<-c];exact b)).2 (h y o0);rw[List.length_erase_of_mem a]at d;have:=List.length_pos_of_mem a;simp;omega
def nZ(nd i:Nat):Row:=(aI nd).set i 1
theorem aao(nd i:Nat):i0 (nZ nd i)=nd:=by simp[nZ,aI]
theorem aap{nd i:Nat}(a:i<nd)(j:Nat):aK (nZ nd i) j=if j=i then 1 else 0:=by rw[nZ,JV (by simpa[aI]using a),cD]
theorem aaq{nd i:Nat}(a:i<nd)(y:Nat->UInt8):bU (λj=>aK (nZ nd i) j) y nd=y i:=
 Fu _ _ i nd a λj _=>by
  rw[aap a];by_cases h:j=i
  ·subst h;simp
  ·rw[hU h,hU λb=>h b.symm]
def ga(n nd w:Nat)(dead:aB):aJ×aJ:=
 (dead.zipIdx).foldl (λs p=>(s.1.set p.1.toNat (nZ nd p.2),s.2.set p.1.toNat (aI w))) (qi n [],qi n [])
theorem Ij(n nd w:Nat)(d:aB)(c:Int):ga n nd w (d++[c])=((ga n nd w d).1.set c.toNat (nZ nd d.length),(ga n nd w d).2.set c.toNat (aI w)):=by unfold ga;rw[List.zipIdx_append,List.foldl_append];simp
theorem JZ{n nd w:Nat}{dead:aB}(h:∀c∈dead,0<=c/\c<(n:Int))(o:dead.Nodup):∀k,k<=i0 dead->
  WW n nd w (·∈dead.take k) (ga n nd w (dead.take k)).1 (ga n nd w (dead.take k)).2/\∀i,(l:i<k)->(m:i<i0 dead)->aC (ga n nd w (dead.take k)).1 dead[i].toNat=nZ nd i/\aC (ga n nd w (dead.take k)).2 dead[i].toNat=aI w
 |0,_=>⟨⟨by simp[ga],by simp[ga],λc b=>by simp at b⟩,λi l=>i5⟩
 |k+1,hk=>by
  obtain⟨j,m⟩:=JZ (nd:=nd) (w:=w) h o k i5;have g:k<i0 dead:=i5
  have s:=h _ (qf g);have e:dead.take (k+1)=dead.take k++[dead[k]]:=zJ g;have q:i0 (dead.take k)=k:=i9
  rw[e,Ij,q];have u:=j.wl;have p:=j.ml;refine⟨⟨by simp[u],by simp[p],λc b h0 h3=>?_⟩,λi l f=>?_⟩
  ·dsimp only;rw[lu,lu];by_cases a:dead[k].toNat=c.toNat
   ·rw[g9 a,g9 a];exact⟨aao _ _,ln⟩
   ·rw[hU a,hU a];refine j.rw_ c ?_ h0 h3;rcases qz.1 b with b|b
    ·exact b
    ·rw[qu]at b;exact absurd (by rw[b]) a
  ·dsimp only;rw[lu,lu];by_cases d:i=k
   ·subst d;rw[g9 i4,g9 rfl];exact⟨i4,i4⟩
   ·have t:dead[k]≠dead[i]:=λr=>d ((List.getElem_inj o).1 r).symm;have:=h _ (qf f);rw[hU i5,hU i5];exact m i i5 f
def iI(nd:Nat)(known:List Bool)(vals:aJ)(s:aJ×aJ):aJ×aJ:=
 (s.1.mapIdx λc r=>if known.getD c fz then aI nd else r,s.2.mapIdx λc r=>if known.getD c fz then aC vals c else r)
theorem BZ{m:aJ}{f:Nat->Row->Row}{c:Nat}(h:c<i0 m):aC (m.mapIdx f) c=f c (aC m c):=by rw[bw j9,bw h];simp
def ic(V:aJ)(r:Row)(a:Row):Nat->Row
 |0=>a
 |c+1=>cV (aK r c) (aC V c) (ic V r a c)
theorem lR{V:aJ}{m:Nat}(r:Row){a:Row}(b:i0 a=m):∀{c:Nat},(∀i,i<c->i0 (aC V i)=m)->i0 (ic V r a c)=m
 |0,_=>b
 |c+1,h=>by
  have:=lR r b (c:=c) λi d=>h i i5;rw[ic,bZ (by rw[h c i5,this])];exact this
theorem GR{V:aJ}{m:Nat}(r:Row){a:Row}(b:i0 a=m)(j:Nat):∀{c:Nat},(∀i,i<c->i0 (aC V i)=m)->aK (ic V r a c) j=aK a j^^^bU (λi=>aK r i) (λi=>aK (aC V i) j) c
 |0,_=>by simp[ic,bU]
 |c+1,h=>by
  have e:=lR r b (c:=c) λi d=>h i i5;rw[ic,cP (by rw[h c i5,e]),GR r b j (c:=c) λi d=>h i i5,bU];ac_rfl
theorem NY{V:aJ}{m:Nat}(r:Row){a:Row}(b:i0 a=m)(y:Nat->UInt8)(n:Nat):∀{c:Nat},(∀i,i<c->i0 (aC V i)=m)->bU (λj=>aK (ic V r a c) j) y n=bU (λj=>aK a j) y n^^^bU (λi=>aK r i) (λi=>bU (λj=>aK (aC V i) j) y n) c
 |0,_=>by simp[ic,bU]
 |c+1,h=>by
  have e:=lR r b (c:=c) λi d=>h i i5;rw[ic,GO (by rw[h c i5,e]),NY r b y n (c:=c) λi d=>h i i5,bU];ac_rfl
theorem NZ(f g a:Nat->UInt8):∀k,bU f (λi=>g i^^^a i) k=bU f g k^^^bU f a k
 |0=>by simp[bU]
 |k+1=>by rw[bU,bU,bU,NZ f g a k,Gf.kj];ac_rfl
theorem Oa(t:UInt8)(f g:Nat->UInt8):∀k,bU f (λi=>Gf.mul t (g i)) k=Gf.mul t (bU f g k)
 |0=>by simp[bU,Gf.mul_zero]
 |k+1=>by
  rw[bU,bU,Oa t f g k,Gf.kj];congr 1;rw[<-Gf.mul_assoc,<-Gf.mul_assoc,Gf.mul_comm (f k) t]
theorem Cb{n:Nat}(g:Nat->UInt8):∀{l:aB},(∀x∈l,0<=x/\x<(n:Int))->l.Nodup->bU (λj=>aK (gx n l) j) g n=cR (λc=>g c.toNat) l
 |[],_,_=>by
  rw[cR];refine fU _ _ n λj _=>?_;rw[BM [] (λx a=>by cases a) j];simp
 |c::l,h,hd=>by
  rw[yn]at hd;have m:=h c jj;have k:=Cb g (l:=l) (λx a=>h x m6) hd.2;have d:bU (λj=>aK (gx n (c::l)) j) g n=bU (λj=>if(j:Int)∈c::l then 1 else 0) g n:=fY n (λj _=>BM _ h j) λ_ _=>rfl;have e:bU (λj=>aK (gx n l) j) g n=bU (λj=>if(j:Int)∈l then 1 else 0) g n:=fY n (λj _=>BM _ (λx a=>h x m6) j) λ_ _=>rfl;rw[d,cR,<-k,e];rw[GL (f:=λj=>if(j:Int)∈l then 1 else 0) (f':=λj=>if(j:Int)∈c::l then 1 else 0) (c:=c.toNat) (by rw[hU];rw[show((c.toNat:Nat):Int)=c by omega];exact hd.1) (λi=>by
   by_cases b:i=c.toNat
   ·subst b;rw[g9 i4,g9];rw[show((c.toNat:Nat):Int)=c by omega];simp
   ·rw[hU b];have:(i:Int)≠c:=λo=>b i5;simp[this]),g9 i5]
  ac_rfl
theorem kernel{nd:Nat}{a:aJ}(V:aS nd a)(O:ce a<nd):∃y:Nat->UInt8,(∃i,i<nd/\y i≠0)/\∀r∈a,bU (λj=>aK r j) y nd=0:=by
 have w:=NX V;obtain⟨K,Y,ab,M,S,⟨p,W,Z,p3,U⟩,E⟩:=w;generalize hT:ce a=T at*;generalize (bH a (eU a)).2=rows at*;have v:∃j,j<nd/\∀i,i<T->p i≠j:=by
  have t:∀T nd:Nat,T<nd->∀p:Nat->Nat,(∀i,i<T->p i<nd)->∃j,j<nd/\∀i,i<T->p i≠j:=by
   intro T nd ah p X;by_cases f:∀j,j<nd->∃i,i<T/\p i=j
   ·exfalso;have I:∀j∈qx nd,j∈(qx T).map p:=λj A=>by
     obtain⟨i,g,rfl⟩:=f j (qA.1 A);exact qo.2 ⟨i,qA.2 g,i4⟩
    have:=Ld vE I;simp at this;omega
   ·simp only[Classical.not_forall,not_exists,not_and]at f;obtain⟨j,A,h⟩:=f;exact⟨j,A,h⟩
  exact t T nd O p W
 obtain⟨j,A,G⟩:=v;have B:∀i e,i<T->e<T->p i=p e->i=e:=λi e o q h3=>by
  rcases Nat.lt_trichotomy i e with h|h|h
  ·have:=U i e h q;omega
  ·exact h
  ·have:=U e i h o;omega
 let y:Nat->UInt8:=λc=>if c=j then 1 else cR (λi=>if p i.toNat=c then aK (aC rows i.toNat) j else 0) ((qx T).map λi:Nat=>(i:Int))
 have hy:∀i,i<T->y (p i)=aK (aC rows i) j:=λi g=>by
  show(if p i=j then 1 else _)=_;rw[hU (G i g)];have L:((qx T).map λi:Nat=>(i:Int)).Nodup:=by exact List.Pairwise.map _ (λa b h u=>h (Int.ofNat_inj.1 u)) vE
  rw[xS _ L (c:=(i:Int)) (qo.2 ⟨i,qA.2 g,i4⟩),DM,z7]
  ·simp
  ·intro c n;rw[qF]at n;obtain⟨e,s,rfl⟩:=qo.1 n.1;have F:e≠i:=λu=>by subst u;simp at n
   rw[qj,hU λu=>F (B e i (qA.1 s) g u)]
 have P:∀c,c≠j->(∀i,i<T->p i≠c)->y c=0:=λc n X=>by
  show(if c=j then 1 else _)=_;rw[hU n,DM];intro d hd;obtain⟨e,s,rfl⟩:=qo.1 hd;rw[qj,hU (X e (qA.1 s))]
 have H:y j=1:=by show(if j=j then 1 else _)=_;rw[g9 rfl]
 refine⟨y,⟨j,A,by rw[H];decide⟩,λr N=>?_⟩;refine Span.lin K (λr=>bU (λc=>aK r c) y nd) (fU _ _ nd λc _=>cD _ _) (λc x z o q=>GO i5 c y nd) (λr O=>?_) ((M r).2 (Span.row V N));obtain⟨k,Q,rfl⟩:=fj O;by_cases l:k<T
 ·--the row's own beginning,and j
  have hf:∀c,c<nd->aK (aC rows k) c=0∨y c=0∨c=p k∨c=j:=λc n=>by
   by_cases o:c=j
   ·exact .inr (.inr (.inr o))
   ·by_cases q:∃i,i<T/\p i=c
    ·obtain⟨i,g,rfl⟩:=q;by_cases D:k=i
     ·subst D;exact .inr (.inr (.inl i4))
     ·refine .inl ?_;rw[Z i g k Q,hU D]
    ·exact .inr (.inl (P c o λi g u=>q ⟨i,g,u⟩))
  have R:=W k l;have J:aK (aC rows k) (p k)=1:=by rw[Z k l k Q,g9 rfl]
  have F:p k≠j:=G k l;have t:∀m,m<=nd->bU (λc=>aK (aC rows k) c) y m=(if p k<m then aK (aC rows k) j else 0)^^^(if j<m then aK (aC rows k) j else 0):=by
   intro m
   induction m with
   |zero=>intro _;simp[bU]
   |succ m ih=>
    intro hm;rw[bU,ih i5];by_cases o:m=p k
    ·have ad:m≠j:=i5
     rw[o,J,Gf.one_mul,hy k l];rw[hU (Nat.lt_irrefl _),g9 (Nat.lt_succ_self _)];by_cases h3:j<p k
     ·rw[g9 h3,g9 i5];ac_rfl
     ·rw[hU h3,hU i5];ac_rfl
    ·by_cases q:m=j
     ·rw[q,H,Gf.mul_one];rw[hU (Nat.lt_irrefl j),g9 (Nat.lt_succ_self j),z7];by_cases h3:p k<j
      ·rw[g9 h3,g9 i5]
      ·rw[hU h3,hU i5]
     ·have hz:Gf.mul (aK (aC rows k) m) (y m)=0:=by
       rcases hf m i5 with h|h|h|h
       ·rw[h,Gf.zero_mul]
       ·rw[h,Gf.mul_zero]
       ·exact absurd h o
       ·exact absurd h q
      rw[hz,z7];have a1:(p k<m+1)↔(p k<m):=i5
      have a2:(j<m+1)↔(j<m):=i5
      simp only[a1,a2]
  rw[t nd (ql _),g9 R,g9 A,lK]
 ·exact fU _ _ nd λc n=>E k i5 Q c n
def dJ(n nd:Nat)(rest:List fo)(W:aJ)(left:aB)(ahead:aJ):aJ:=(left.map λi=>cS W (aI nd) (rest.getD i.toNat ([],[])).1)++ahead.map λr=>ic W r (aI nd) n
def fF(n w:Nat)(rest:List fo)(M:aJ)(left:aB)(ahead:aJ):aJ:=(left.map λi=>cS M (rest.getD i.toNat ([],[])).2 (rest.getD i.toNat ([],[])).1)++ahead.map λr=>ic M r (aI w) n
def uo(nd:Nat)(known:List Bool)(vals:aJ)(W M D:aJ):aJ:=vals.mapIdx λc r=>if known.getD c fz then r else ic D (aC W c) (aC M c) nd
def dL(n:Nat)(l:List fo)(ahead:aJ):aJ:=ahead++l.map λe=>gx n e.1
def iF(w:Nat)(l:List fo)(ahead:aJ):aJ:=qi ahead.length (aI w)++l.map zh
def at_(X:aJ)(k:Nat)(c:Int):UInt8:=aK (aC X c.toNat) k
section
variable {n w:Nat} {l:List fo} {ahead:aJ}
theorem xU(b:aS n ahead):aS n (dL n l ahead):=λr a=>by
 rcases qz.1 a with a|a
 ·exact b r a
 ·obtain⟨e,_,rfl⟩:=qo.1 a;exact pS _ _
theorem xV(c:∀e∈l,iZ n w e):aS w (iF w l ahead):=λr a=>by
 rcases qz.1 a with a|a
 ·rw[(ya.1 a).2];simp[aI]
 ·obtain⟨e,b,rfl⟩:=qo.1 a;exact(c e b).len
theorem tH:i0 (dL n l ahead)=i0 (iF w l ahead):=by simp[dL,iF]
theorem Cc(p:∀e∈l,iZ n w e){X:aJ}:fD n w (dL n l ahead) (iF w l ahead) X↔X.length=n/\aS w X/\∀k,k<w->(∀e∈l,Sat 1 k (at_ X k) e)/\∀r∈ahead,bU (λj=>aK r j) (λc=>aK (aC X c) k) n=0:=by
 unfold fD;refine⟨λ⟨h1,h2,h3⟩=>⟨h1,h2,λk q=>⟨λe h=>?_,λr t=>?_⟩⟩,λ⟨h1,h2,h3⟩=>⟨h1,h2,λi g=>?_⟩⟩
 ·obtain⟨i,g,rfl⟩:=qB h;have:=h3 (i0 ahead+i) nq;have a:aC (dL n l ahead) (i0 ahead+i)=gx n l[i].1:=by rw[bw nq];simp[dL]
  have f:aC (iF w l ahead) (i0 ahead+i)=l[i].2:=by rw[bw p9];simp[iF]
  rw[a,f]at this;have m:=congrArg (λr=>aK r k) this;rw[il h2 h1 _ k n (ql _),Cb _ (p _ h).cZ (p _ h).nodup]at m;unfold Sat;rw[Gf.one_mul];exact m
 ·obtain⟨i,g,rfl⟩:=qB t;have:=h3 i nq;have a:aC (dL n l ahead) i=ahead[i]:=by rw[bw nq];simp[dL,w8 g]
  have f:aC (iF w l ahead) i=aI w:=by rw[bw p9];simp[iF,g]
  rw[a,f]at this;have m:=congrArg (λr=>aK r k) this;rw[il h2 h1 _ k n (ql _),cD]at m;exact m
 ·have o:i0 (aC (iF w l ahead) i)=w:=cC (xV p) (by rw[<-tH (n:=n)];exact g);refine eZ (n:=w) (iM h2 h1 _ n (ql _)) o λk q=>?_;rw[il h2 h1 _ k n (ql _)];simp only[dL,qw,qq]at g;by_cases b:i<i0 ahead
  ·have a:aC (dL n l ahead) i=ahead[i]:=by rw[bw nq];simp[dL,w8 b]
   have f:aC (iF w l ahead) i=aI w:=by rw[bw p9];simp[iF,b]
   rw[a,f,cD];exact(h3 k q).2 _ (qf b)
  ·obtain⟨d,rfl⟩:∃d,i=i0 ahead+d:=⟨i-i0 ahead,i5⟩
   have s:d<i0 l:=i5
   have a:aC (dL n l ahead) (i0 ahead+d)=gx n l[d].1:=by rw[bw nq];simp[dL]
   have f:aC (iF w l ahead) (i0 ahead+d)=l[d].2:=by rw[bw p9];simp[iF]
   have h:=p _ (qf s);rw[a,f,Cb _ h.cZ h.nodup];have:=(h3 k q).1 _ (qf s);unfold Sat at this;rw[Gf.one_mul]at this;exact this
end
structure hO (n w:Nat) (l:List fo) (ahead:aJ) (known:List Bool) (vals:aJ) (dead left:aB) (W M:aJ):Prop where
 eqs:∀e∈l,iZ n w e
 ahd:aS n ahead
 pinv:jV n w l known vals
 calm:kA known vals l=fz
 deadR:∀c∈dead,0<=c/\c<(n:Int)
 deadN:dead.Nodup
 deadK:∀c∈dead,kn known c=fz
 lens:i0 W=n/\M.length=n/\∀c:Nat,c<n->i0 (aC W c)=i0 dead/\(aC M c).length=w
 evKnown:∀t k y,∀c:Int,0<=c->c<(n:Int)->kn known c=eX->ev t k dead.length W M y c=Gf.mul t (aK (aC vals c.toNat) k)
 evDead:∀t k y,∀i,(h:i<i0 dead)->ev t k dead.length W M y dead[i]=y i
 evRest:∀t k y,k<w->(∀i∈left,Sat t k (ev t k dead.length W M y) ((aX known vals l).getD i.toNat ([],[])))->∀e∈aX known vals l,Sat t k (ev t k dead.length W M y) e
 leftR:∀i∈left,0<=i/\i<(i0 (aX known vals l):Int)
 evAll:∀t k x,k<w->(∀c:Int,0<=c->c<(n:Int)->kn known c=eX->x c=Gf.mul t (aK (aC vals c.toNat) k))->(∀e∈aX known vals l,Sat t k x e)->∀c:Int,0<=c->c<(n:Int)->x c=ev t k dead.length W M (λi=>x (dead.getD i 0)) c
section
variable {n w:Nat} {l:List fo} {ahead:aJ} {known:List Bool} {vals:aJ} {dead left:aB} {W M:aJ}
theorem oI(h:jV n w l known vals)(d:∀e∈l,iZ n w e):∀e∈aX known vals l,iZ n w e:=λe b=>by
 obtain⟨c,a,rfl⟩:=qo.1 (qF.1 b).1;exact h.AW (d c a)
theorem AB{a b:UInt8}:a^^^b=0↔a=b:=ph
theorem hO.Ob(S:hO n w l ahead known vals dead left W M){i:Int}(g:i∈left)(t:UInt8)(k:Nat)(y:Nat->UInt8):
  bU (λj=>aK (cS W (aI dead.length) ((aX known vals l).getD i.toNat ([],[])).1) j) y dead.length=Gf.mul t (aK (cS M ((aX known vals l).getD i.toNat ([],[])).2 ((aX known vals l).getD i.toNat ([],[])).1) k)↔Sat t k (ev t k dead.length W M y) ((aX known vals l).getD i.toNat ([],[])):=by
 have f:=S.leftR i g;have b:i.toNat<i0 (aX known vals l):=i5
 have p:(aX known vals l).getD i.toNat ([],[])=(aX known vals l)[i.toNat]:=by rw[qd,qc b];rfl
 have a:=oI S.pinv S.eqs _ (qf b);rw[p];generalize (aX known vals l)[i.toNat]=e at*;have m:i0 (aI dead.length)=i0 dead:=ln
 have h:∀c∈e.1,i0 (aC W c.toNat)=i0 dead:=λc d=>((S.lens.2.2 c.toNat) (by have:=a.cZ c d;omega)).1;have o:∀c∈e.1,i0 (aC M c.toNat)=w:=λc d=>((S.lens.2.2 c.toNat) (by have:=a.cZ c d;omega)).2;have:=JX m a.len h o t k y;rw[fU _ _ dead.length λj _=>cD _ _,wF]at this;rw[<-AB,this];unfold Sat;rw[AB];exact eq_comm
theorem hO.Le(S:hO n w l ahead known vals dead left W M)(r:Row)(t:UInt8)(k:Nat)(y:Nat->UInt8):
  bU (λj=>aK (ic W r (aI dead.length) n) j) y dead.length=Gf.mul t (aK (ic M r (aI w) n) k)↔bU (λj=>aK r j) (λc=>ev t k dead.length W M y (c:Int)) n=0:=by
 have d:=NY (V:=W) (m:=i0 dead) r (a:=aI dead.length) ln y dead.length (c:=n) λi b=>(S.lens.2.2 i b).1;have e:=GR (V:=M) (m:=w) r (a:=aI w) ln k (c:=n) λi b=>(S.lens.2.2 i b).2;rw[d,e,fU _ _ dead.length λj _=>cD _ _,cD,wF,wF,<-AB,<-Oa,<-NZ];have:(λc:Nat=>ev t k dead.length W M y (c:Int))=λi=>bU (λj=>aK (aC W i) j) y dead.length^^^Gf.mul t (aK (aC M i) k):=by funext c;unfold ev;rw[qj]
 rw[this]
theorem hO.up(S:hO n w l ahead known vals dead left W M){t:UInt8}{k:Nat}{y:Nat->UInt8}(h:k<w)
  (f:∀i,i<i0 (dJ n dead.length (aX known vals l) W left ahead)->bU (λj=>aK (aC (dJ n dead.length (aX known vals l) W left ahead) i) j) y dead.length=Gf.mul t (aK (aC (fF n w (aX known vals l) M left ahead) i) k)):
  (∀e∈l,Sat t k (ev t k dead.length W M y) e)/\∀r∈ahead,bU (λj=>aK r j) (λc=>ev t k dead.length W M y (c:Int)) n=0:=by
 refine⟨(NP S.pinv S.eqs S.calm h).2 ⟨λc h0 m o=>S.evKnown t k y c h0 m o,S.evRest t k y h λi g=>?_⟩,λr p=>?_⟩
 ·obtain⟨j,a,rfl⟩:=qB g;have:=f j n0;have b:aC (dJ n dead.length (aX known vals l) W left ahead) j=cS W (aI dead.length) ((aX known vals l).getD left[j].toNat ([],[])).1:=by rw[bw n0];simp[dJ,a]
  have d:aC (fF n w (aX known vals l) M left ahead) j=cS M ((aX known vals l).getD left[j].toNat ([],[])).2 ((aX known vals l).getD left[j].toNat ([],[])).1:=by rw[bw qa];simp[fF,a]
  rw[b,d]at this;exact(S.Ob g t k y).1 this
 ·obtain⟨j,a,rfl⟩:=qB p;have:=f (i0 left+j) n0;have b:aC (dJ n dead.length (aX known vals l) W left ahead) (i0 left+j)=ic W ahead[j] (aI dead.length) n:=by rw[bw n0];simp[dJ]
  have d:aC (fF n w (aX known vals l) M left ahead) (i0 left+j)=ic M ahead[j] (aI w) n:=by rw[bw qa];simp[fF]
  rw[b,d]at this;exact(S.Le _ t k y).1 this
theorem hO.down(S:hO n w l ahead known vals dead left W M){t:UInt8}{k:Nat}{x:Int->UInt8}(q:k<w)(B:∀e∈l,Sat t k x e)(z:∀r∈ahead,bU (λj=>aK r j) (λc=>x (c:Int)) n=0):
  (∀c:Int,0<=c->c<(n:Int)->x c=ev t k dead.length W M (λi=>x (dead.getD i 0)) c)/\
  ∀i,i<i0 (dJ n dead.length (aX known vals l) W left ahead)->bU (λj=>aK (aC (dJ n dead.length (aX known vals l) W left ahead) i) j) (λi=>x (dead.getD i 0)) dead.length=Gf.mul t (aK (aC (fF n w (aX known vals l) M left ahead) i) k):=by
 obtain⟨A,s⟩:=(NP S.pinv S.eqs S.calm q).1 B;have m:=S.evAll t k x q A s;refine⟨m,λi v=>?_⟩;simp only[dJ,qw,qq]at v;by_cases a:i<i0 left
 ·have h:aC (dJ n dead.length (aX known vals l) W left ahead) i=cS W (aI dead.length) ((aX known vals l).getD left[i].toNat ([],[])).1:=by rw[bw n0];simp[dJ,a]
  have o:aC (fF n w (aX known vals l) M left ahead) i=cS M ((aX known vals l).getD left[i].toNat ([],[])).2 ((aX known vals l).getD left[i].toNat ([],[])).1:=by rw[bw qa];simp[fF,a]
  rw[h,o];refine(S.Ob (qf a) t k _).2 ?_;have y:=S.leftR _ (qf a);have b:left[i].toNat<i0 (aX known vals l):=i5
  have D:(aX known vals l).getD left[i].toNat ([],[])=(aX known vals l)[left[i].toNat]:=by rw[qd,qc b];rfl
  rw[D];have p:=s _ (qf b);have f:=oI S.pinv S.eqs _ (qf b);unfold Sat at p⊢;rw[<-p];exact kz λc g=>(m c (f.cZ c g).1 (f.cZ c g).2).symm
 ·obtain⟨d,rfl⟩:∃d,i=i0 left+d:=⟨i-i0 left,i5⟩
  have u:d<i0 ahead:=i5
  have h:aC (dJ n dead.length (aX known vals l) W left ahead) (i0 left+d)=ic W ahead[d] (aI dead.length) n:=by rw[bw n0];simp[dJ]
  have o:aC (fF n w (aX known vals l) M left ahead) (i0 left+d)=ic M ahead[d] (aI w) n:=by rw[bw qa];simp[fF]
  rw[h,o];refine(S.Le _ t k _).2 ?_;rw[<-z _ (qf u)];exact fY n (λ_ _=>rfl) λc g=>(m (c:Int) i5 i5).symm
theorem pq(S:hO n w l ahead known vals dead left W M):aS dead.length (dJ n dead.length (aX known vals l) W left ahead)/\aS w (fF n w (aX known vals l) M left ahead):=by
 have d:∀i∈left,iZ n w ((aX known vals l).getD i.toNat ([],[])):=λi b=>by
  have g:=S.leftR i b;have e:i.toNat<i0 (aX known vals l):=i5
  rw[qd,qc e];exact oI S.pinv S.eqs _ (qf e)
 constructor
 ·intro r a;rcases qz.1 a with a|a
  ·obtain⟨i,b,rfl⟩:=qo.1 a;exact jU ln λc f=>((S.lens.2.2 c.toNat) (by have:=(d i b).cZ c f;omega)).1
  ·obtain⟨x,h,rfl⟩:=qo.1 a;exact lR x ln λi b=>(S.lens.2.2 i b).1
 ·intro r a;rcases qz.1 a with a|a
  ·obtain⟨i,b,rfl⟩:=qo.1 a;exact jU (d i b).len λc f=>((S.lens.2.2 c.toNat) (by have:=(d i b).cZ c f;omega)).2
  ·obtain⟨x,h,rfl⟩:=qo.1 a;exact lR x ln λi b=>(S.lens.2.2 i b).2
theorem xW:i0 (dJ n dead.length (aX known vals l) W left ahead)=i0 (fF n w (aX known vals l) M left ahead):=by simp[dJ,fF]
theorem hO.JW(S:hO n w l ahead known vals dead left W M)(I:1<=w)(f:ce (dL n l ahead)=n):ce (dJ n dead.length (aX known vals l) W left ahead)=i0 dead:=by
 obtain⟨G,X⟩:=pq S;have J:=mQ G;by_cases F:ce (dJ n dead.length (aX known vals l) W left ahead)<i0 dead
 ·exfalso;obtain⟨y,⟨i,b,V⟩,N⟩:=kernel G F;have o:=S.up (t:=0) (k:=0) (y:=y) I λi b=>by rw[N _ (mem_row b),Gf.zero_mul]
  have H:=xU (l:=l) S.ahd;have u:aS 1 (qi (dL n l ahead).length (aI 1)):=λr f=>by rw[(ya.1 f).2];simp[aI]
  have d:i0 (dL n l ahead)=i0 (qi (dL n l ahead).length (aI 1)):=jj
  have O:fD n 1 (dL n l ahead) (qi (dL n l ahead).length (aI 1)) (qi n (aI 1)):=by
   have a:aS 1 (qi n (aI 1)):=λr f=>by rw[(ya.1 f).2];simp[aI]
   refine⟨jj,a,λi b=>?_⟩;refine eZ (n:=1) (iM a jj _ n (ql _)) (cC u k8) λk P=>?_;rw[il a jj _ k n (ql _)];have A:aC (qi (dL n l ahead).length (aI 1)) i=aI 1:=by rw[bw k8];simp
   rw[A,cD];have:∀g,g<=n->bU (λj=>aK (aC (dL n l ahead) i) j) (λc=>aK (aC (qi n (aI 1)) c) k) g=0:=by
    intro g
    induction g with
    |zero=>intro _;rfl
    |succ g ih=>
     intro U;have K:aC (qi n (aI 1)) g=aI 1:=by rw[bw i9];simp
     rw[bU,ih i5,K,cD,Gf.mul_zero];rfl
   exact this n (ql _)
  have L:fD n 1 (dL n l ahead) (qi (dL n l ahead).length (aI 1)) ((qx n).map λc:Nat=>[ev 0 0 dead.length W M y (c:Int)]):=by
   have a:aS 1 ((qx n).map λc:Nat=>[ev 0 0 dead.length W M y (c:Int)]):=λr f=>by obtain⟨c,_,rfl⟩:=qo.1 f;rfl
   have h:∀c:Nat,c<n->aC ((qx n).map λc:Nat=>[ev 0 0 dead.length W M y (c:Int)]) c=[ev 0 0 dead.length W M y (c:Int)]:=λc p=>by rw[bw (by simpa using p)];simp
   refine⟨jj,a,λi b=>?_⟩;refine eZ (n:=1) (iM a jj _ n (ql _)) (cC u k8) λk P=>?_;have v:k=0:=i5
   subst v;rw[il a jj _ 0 n (ql _)];have A:aC (qi (dL n l ahead).length (aI 1)) i=aI 1:=by rw[bw k8];simp
   rw[A,cD];have R:bU (λj=>aK (aC (dL n l ahead) i) j) (λc=>aK (aC ((qx n).map λc:Nat=>[ev 0 0 dead.length W M y (c:Int)]) c) 0) n=bU (λj=>aK (aC (dL n l ahead) i) j) (λc=>ev 0 0 dead.length W M y (c:Int)) n:=
    fY n (λ_ _=>rfl) λc p=>by rw[h c p];rfl
   rw[R];have E:aC (dL n l ahead) i∈ahead++l.map λe=>gx n e.1:=mem_row b;obtain B|B:=qz.1 E
   ·exact o.2 _ B
   ·obtain⟨e,s,D⟩:=qo.1 B;rw[<-D,Cb _ (S.eqs e s).cZ (S.eqs e s).nodup];have x:=o.1 e s;unfold Sat at x;rw[Gf.zero_mul]at x;refine Eq.trans (kz λc p=>?_) x;have:=(S.eqs e s).cZ c p;rw[show((c.toNat:Nat):Int)=c by omega]
  have u0:=(lQ d H u f O).1;have Q:=(lQ d H u f L).1;have z:=Q.trans u0.symm;have T:=S.deadR _ (qf b);have q:=congrArg (λm=>aK (aC m dead[i].toNat) 0) z;rw[bw i9,bw i9]at q;simp only[List.getElem_map,List.getElem_range,List.getElem_replicate,cD]at q;rw[show((dead[i].toNat:Nat):Int)=dead[i]by omega]at q;have h8:aK [ev 0 0 dead.length W M y dead[i]] 0=ev 0 0 dead.length W M y dead[i]:=rfl;rw[h8,S.evDead 0 0 y i b]at q;exact V q
 ·omega
theorem Ka(S:hO n w l ahead known vals dead left W M){D:aJ}(g:i0 D=i0 dead)(f:aS w D){c:Nat}(d:c<n):
  (aC (uo dead.length known vals W M D) c).length=w/\∀k,aK (aC (uo dead.length known vals W M D) c) k=ev 1 k dead.length W M (λi=>aK (aC D i) k) (c:Int):=by
 have j:=S.pinv.vlen;have b:aC (uo dead.length known vals W M D) c=if known.getD c fz then aC vals c else ic D (aC W c) (aC M c) dead.length:=by unfold uo;rw[BZ i5]
 have e:=S.lens.2.2 c d;rw[b];cases hkn:known.getD c fz with
 |true=>
  rw[g9 rfl];refine⟨by have:=S.pinv.row c d;rw[hkn]at this;simpa using this,λk=>?_⟩;have:=S.evKnown 1 k (λi=>aK (aC D i) k) (c:Int) i5 i5 (by unfold kn;rw[qj];exact hkn);rw[this,qj,Gf.one_mul]
 |false=>
  rw[hU jj];have a:∀i,i<i0 dead->i0 (aC D i)=w:=λi h=>cC f;refine⟨lR _ e.2 a,λk=>?_⟩;rw[GR _ e.2 k a];unfold ev;rw[qj,Gf.one_mul,vz]
theorem adD(h:i0 vals=n){D:aJ}:i0 (uo dead.length known vals W M D)=n:=by simp[uo,h]
theorem hO.Un(S:hO n w l ahead known vals dead left W M){D:aJ}(s:fD dead.length w (dJ n dead.length (aX known vals l) W left ahead) (fF n w (aX known vals l) M left ahead) D):fD n w (dL n l ahead) (iF w l ahead) (uo dead.length known vals W M D):=by
 obtain⟨a,d,f⟩:=s;obtain⟨u,v⟩:=pq S;have g:=adD (dead:=dead) (known:=known) (W:=W) (M:=M) S.pinv.vlen (D:=D);refine(Cc S.eqs).2 ⟨g,λr h=>?_,λk q=>?_⟩
 ·obtain⟨c,b,rfl⟩:=fj h;exact(Ka S a d i5).1
 ·have j:=S.up (t:=1) (k:=k) (y:=λi=>aK (aC D i) k) q λi o=>by
   have:=congrArg (λr=>aK r k) (f i o);rw[il d a _ k dead.length (ql _)]at this;rw[this,Gf.one_mul]
  refine⟨λe m=>?_,λr h=>?_⟩
  ·have h3:=j.1 e m;unfold Sat at h3⊢;rw[<-h3];refine kz λc b=>?_;have p:=(S.eqs e m).cZ c b;unfold at_;rw[(Ka S a d (show c.toNat<n by omega)).2 k,show((c.toNat:Nat):Int)=c by omega]
  ·rw[<-j.2 r h];exact fY n (λ_ _=>rfl) λc b=>(Ka S a d b).2 k
theorem hO.Qq(S:hO n w l ahead known vals dead left W M){X:aJ}(q:fD n w (dL n l ahead) (iF w l ahead) X):fD dead.length w (dJ n dead.length (aX known vals l) W left ahead) (fF n w (aX known vals l) M left ahead) (dead.map λc=>aC X c.toNat):=by
 obtain⟨s,o,m⟩:=(Cc S.eqs).1 q;obtain⟨u,p⟩:=pq S;have e:aS w (dead.map λc=>aC X c.toNat):=λr d=>by
  obtain⟨c,h,rfl⟩:=qo.1 d;have:=S.deadR c h;exact cC o
 have b:i0 (dead.map λc=>aC X c.toNat)=i0 dead:=jj
 refine⟨b,e,λi f=>eZ (n:=w) (iM e b _ _ (ql _)) (cC p (by rw[<-xW (n:=n) (w:=w)];exact f)) λk a=>?_⟩;rw[il e b _ k dead.length (ql _)];have h3:=(S.down (t:=1) (x:=at_ X k) a (m k a).1 (λr d=>by
  have:=(m k a).2 r d;rw[<-this];exact fY n (λ_ _=>rfl) λc h=>by unfold at_;rw[qj])).2 i f
 rw[Gf.one_mul]at h3;rw[<-h3];refine fY _ (λ_ _=>rfl) λj g=>?_;unfold at_;rw[bw l4,qd,qc g];simp
end
def iE(known:List Bool)(i:Nat):ct:=((qx i).filter λc=>known.getD c fz).map λc:Nat=>[(c:Int)]
theorem Kb(known:List Bool)(i:Nat):iE known (i+1)=iE known i++if known.getD i fz then[[(i:Int)]]else[]:=by unfold iE;rw[zB,List.filter_append,qL];cases h:known.getD i fz<;>simp only[zo,h,List.filter_nil]<;>rfl
theorem CS(known:List Bool)(i:Nat):i0 (iE known i)<=i:=by unfold iE;rw[qq];exact qT (qS _ _) jj
def rowsOf(R:List fo)(known:List Bool)(n:Nat):ct:=R.map qt++iE known n
def gX(R:List fo)(known:List Bool)(n:Nat):Pl:=dP n (rowsOf R known n)
def nw(R:List fo)(known:List Bool)(n:Nat):List (Int×Int):=(gX R known n).steps.filter λx=>decide (x.1<i0 R)
def leftOf(R:List fo)(known:List Bool)(n:Nat):aB:=(fE (gX R known n).used (rowsOf R known n).length).filter λx=>decide (x<i0 R)
theorem xX{known:List Bool}{n:Nat}{r:aB}(h:r∈iE known n):∃c:Nat,r=[(c:Int)]/\c<n/\known.getD c fz=eX:=by obtain⟨c,a,rfl⟩:=qo.1 h;rw[qF,qA]at a;exact⟨c,i4,a.1,a.2⟩
theorem DU{rows:ct}:∀{d:List (Int×Int)} {D U:Int->Prop},rU rows D U d->∀i c,(i,c)∈d->(0<=i/\i<i0 rows)/\c∈rows.getD i.toNat []
 |[],_,_,_,_,_,h=>k9
 |(i',c')::t,D,U,hg,i,c,h=>by
  obtain⟨g,_,_,f,_,e⟩:=hg;rcases qX.1 h with h|h
  ·injection h with a b;subst a;subst b;exact⟨g,f⟩
  ·exact DU e i c h
section
variable {n w:Nat} {l:List fo} {ahead:aJ} {known:List Bool} {vals:aJ}
theorem tI(f:∀e∈aX known vals l,iZ n w e):∀r∈rowsOf (aX known vals l) known n,∀c∈r,0<=c/\c<(n:Int):=λr a c b=>by
 rcases qz.1 a with a|a
 ·obtain⟨e,g,rfl⟩:=qo.1 a;exact(f e g).cZ c b
 ·obtain⟨d,rfl,h,_⟩:=xX a;rw[qu]at b;subst b;omega
theorem Lf(o:∀e∈l,iZ n w e)(f:jV n w l known vals):rV ((aX known vals l).map qt) (·∈(gX (aX known vals l) known n).dead) (nw (aX known vals l) known n):=by
 have h:=oI f o;obtain⟨_,_,_,_,_,g⟩:=un (tI h);have:=AA (R:=(aX known vals l).map qt) (S:=iE known n) (K:=λc=>kn known c=eX) (λr b c a=>?_) (λr b c a=>?_) g (D':=(·∈(gX (aX known vals l) known n).dead)) λc _=>Iff.rfl
 ·rw[qq]at this;exact this
 ·obtain⟨e,i,rfl⟩:=qo.1 b;obtain⟨k,j,rfl⟩:=qo.1 (qF.1 i).1;rw[DO f k c a];simp
 ·obtain⟨d,rfl,_,m⟩:=xX b;rw[qu]at a;subst a;unfold kn;rw[qj];exact m
theorem Ik(k:∀e∈l,iZ n w e)(j:jV n w l known vals):
  (∀c∈(gX (aX known vals l) known n).dead,0<=c/\c<(n:Int))/\(gX (aX known vals l) known n).dead.Nodup/\(∀c∈(gX (aX known vals l) known n).dead,kn known c=fz)/\
  (∀i∈leftOf (aX known vals l) known n,0<=i/\i<(i0 (aX known vals l):Int))/\(gX (aX known vals l) known n).dead.length<=n:=by
 have m:=oI j k;obtain⟨q,r,a3,a4,a5,g⟩:=un (tI m);refine⟨a3,a4,λc h=>?_,λi a=>?_,by unfold gX;omega⟩
 ·have b:=a3 c h;cases hk:kn known c with
  |false=>rfl
  |true=>
   exfalso;have f:[c]∈rowsOf (aX known vals l) known n:=qz.2 (.inr (qo.2 ⟨c.toNat,qF.2 ⟨qA.2 i5,hk⟩,by rw[show((c.toNat:Nat):Int)=c by omega]⟩));exact BW f n (qi n eX) (qi _ fz) (λi a=>by rw[DR]at a;cases a) (λd p f=>by have:=a3 d f;omega) b.1 h
 ·unfold leftOf at a;rw[qF]at a;have:=a5 i a.1;have o:i<(i0 (aX known vals l):Int):=by simpa using a.2
  exact⟨this.1,o⟩
theorem aar(q:∀e∈l,iZ n w e)(p:jV n w l known vals){c:Int}(u:0<=c)(t:c<(n:Int))(f:kn known c=fz):c∈(gX (aX known vals l) known n).dead∨∃i,(i,c)∈nw (aX known vals l) known n:=by
 have h:=oI p q;obtain⟨_,_,_,_,_,g⟩:=un (tI h);have a:=DT (tI h) n (qi n eX) (qi (rowsOf (aX known vals l) known n).length fz) jj jj c.toNat (by rw[qd,qc i9];simp);rw[show((c.toNat:Nat):Int)=c by omega]at a;rcases a with a|⟨i,a⟩
 ·exact .inl a
 ·refine .inr ⟨i,qF.2 ⟨a,?_⟩⟩;obtain⟨k,j⟩:=DU g i c a;by_cases o:i<(i0 (aX known vals l):Int)
  ·simpa using o
  ·exfalso;have s:=k.2;rw[rowsOf,qw,qq]at s;have r:(rowsOf (aX known vals l) known n).getD i.toNat []∈iE known n:=by rw[rowsOf,qd,qh m9,qc m9];exact qf _
   obtain⟨d,m,_,b⟩:=xX r;rw[m,qu]at j;subst j;unfold kn at f;rw[qj,b]at f;cases f
def MG(n w:Nat)(known:List Bool)(vals:aJ)(R:List fo):aJ×aJ:=
 iI (gX R known n).dead.length known vals ((nw R known n).foldl (iq R (gX R known n).dead.length) (ga n (gX R known n).dead.length w (gX R known n).dead))
theorem aas{nd:Nat}{s:aJ×aJ}{c:Int}(d:0<=c)(a:c.toNat<i0 s.1)(b:c.toNat<i0 s.2):
  aC (iI nd known vals s).1 c.toNat=(if kn known c then aI nd else aC s.1 c.toNat)/\aC (iI nd known vals s).2 c.toNat=if kn known c then aC vals c.toNat else aC s.2 c.toNat:=by
 unfold iI kn;exact⟨BZ a,BZ b⟩
theorem aat(E:∀e∈l,iZ n w e)(hA:aS n ahead)(u:jV n w l known vals)(T:kA known vals l=fz):
  hO n w l ahead known vals (gX (aX known vals l) known n).dead (leftOf (aX known vals l) known n) (MG n w known vals (aX known vals l)).1 (MG n w known vals (aX known vals l)).2:=by
 have G:=oI u E;have Q:=Lf E u;have a:=λc h0 m o=>aar (c:=c) E u h0 m o;obtain⟨F,P,N,f4,f5⟩:=Ik E u;have b:∀j:Nat,j<i0 (aX known vals l)->(∃c,((j:Int),c)∈nw (aX known vals l) known n)∨(j:Int)∈leftOf (aX known vals l) known n:=λj U=>by
  cases hu:(gX (aX known vals l) known n).used.getD j fz with
  |true=>
   rcases DS n (qi n eX) (qi _ fz) j hu with h|⟨c,h⟩
   ·rw[DR]at h;cases h
   ·exact .inl ⟨c,qF.2 ⟨h,i9⟩⟩
  |false=>exact .inr (qF.2 ⟨(BV _ _ _).2 ⟨j,i4,by rw[rowsOf,qw,qq];omega,hu⟩,i9⟩)
 have s:∀e∈aX known vals l,∀c∈e.1,kn known c=fz:=λe A c M=>by
  obtain⟨e0,ad,rfl⟩:=qo.1 (qF.1 A).1;exact DO u e0 c M
 unfold MG;obtain⟨R,f⟩:∃R,R=aX known vals l:=⟨_,rfl⟩
 rw[<-f]at G Q F P N f4 f5 b a s⊢;obtain⟨D,V⟩:∃D,D=(gX R known n).dead:=⟨_,rfl⟩
 obtain⟨ST,r⟩:∃ST,ST=nw R known n:=⟨_,rfl⟩
 rw[<-V,<-r]at Q a;rw[<-r]at b;rw[<-V]at F P N f5;rw[<-V,<-r];obtain⟨dk,Y⟩:=JZ (nd:=i0 D) (w:=w) F P D.length (ql _);rw[List.take_length]at dk Y;obtain⟨z,keep,S,I⟩:=GP G Q dk;generalize ab:ST.foldl (iq R D.length) (ga n D.length w D)=S0 at*;have W:=z.wl;have X:=z.ml;have fr:∀c:Int,0<=c->c<(n:Int)->aC (iI D.length known vals S0).1 c.toNat=(if kn known c then aI D.length else aC S0.1 c.toNat)/\aC (iI D.length known vals S0).2 c.toNat=if kn known c then aC vals c.toNat else aC S0.2 c.toNat:=λc h0 m=>aas h0 i5 i5
 have v:∀t k y (c:Int),0<=c->c<(n:Int)->kn known c=fz->ev t k D.length (iI D.length known vals S0).1 (iI D.length known vals S0).2 y c=ev t k D.length S0.1 S0.2 y c:=λt k y c h0 m o=>by
  have:=fr c h0 m;rw[o]at this;exact BX this.1 this.2
 have L:∀t k y (c:Int),0<=c->c<(n:Int)->kn known c=eX->ev t k D.length (iI D.length known vals S0).1 (iI D.length known vals S0).2 y c=Gf.mul t (aK (aC vals c.toNat) k):=λt k y c h0 m o=>by
  have:=fr c h0 m;rw[o,g9 rfl,g9 rfl]at this;unfold ev;rw[this.1,this.2,fU _ _ D.length λj _=>cD _ _,wF]
 have H:∀t k y i,(h:i<i0 D)->ev t k D.length (ga n D.length w D).1 (ga n D.length w D).2 y D[i]=y i:=λt k y i h=>by
  have:=Y i h h;unfold ev;rw[this.1,this.2,aaq h,cD,Gf.mul_zero,z7]
 have J:∀i:Int,0<=i->i<(i0 R:Int)->R.getD i.toNat ([],[])∈R:=λi h0 m=>by
  rw[qd,qc i5];exact qf _
 refine⟨E,hA,u,T,F,P,N,⟨by simp[iI,W],by simp[iI,X],λc M=>?_⟩,L,λt k y i h=>?_,λt k y o K e A=>?_,by rw[<-f];exact f4,λt k x o hx K c h0 m=>?_⟩
 ·have h:=fr (c:Int) i5 i5;rw[qj]at h;rw[h.1,h.2];cases o:kn known (c:Int)with
  |true=>
   rw[g9 i4,g9 rfl];refine⟨ln,?_⟩;have:=u.DN (c:=(c:Int)) i5 i5 o
   rwa [qj]at this
  |false=>
   rw[hU jj,hU jj];have:=z.rw_ (c:Int) (a _ i5 i5 o) i5 i5
   rwa [qj]at this
 ·have O:=F _ (qf h);rw[v t k y _ O.1 O.2 (N _ (qf h)),<-H t k y i h];exact BX (keep _ (qf h) O.1).1 (keep _ (qf h) O.1).2
 ·rw[<-f]at A K;obtain⟨j,U,rfl⟩:=qB A;have ej:R.getD ((j:Int)).toNat ([],[])=R[j]:=by rw[qj,qd,qc U];rfl
  rcases b j U with⟨c,M⟩|hlf
  ·have:=S _ M t k y o;dsimp only at this;rw[ej]at this;unfold Sat at this⊢;rw[<-this];exact kz λd B=>v t k y d ((G _ A).cZ d B).1 ((G _ A).cZ d B).2 (s _ A d B)
  ·have:=K _ hlf
   rwa [ej]at this
 ·rw[<-f]at K;cases hkc:kn known c with
  |true=>rw[hx c h0 m hkc,L _ _ _ c h0 m hkc]
  |false=>
   rw[v _ _ _ c h0 m hkc];refine I t k x _ o (λd B h2 h3=>?_) (λp hp=>?_) c (a c h0 m hkc) h0 m
   ·obtain⟨i,Z,rfl⟩:=qB B;rw[H t k _ i Z,qd,qc Z];rfl
   ·have q:p∈nw R known n:=r▸hp;unfold nw at q;rw[qF]at q;have h2:p.1<(i0 R:Int):=by simpa using q.2
    have h3:0<=p.1:=by obtain⟨_,_,_,_,_,g⟩:=un (rows:=rowsOf R known n) (n:=n) (by rw[f];exact tI (f▸G));exact(DU g p.1 p.2 q.1).1.1
    exact K _ (J _ h3 h2)
end
def td(n:Nat)(seed:Int)(l:List (Int×Row)):List fo:=l.map λx=>(dD n seed x.1,x.2)
def pW(p:Int×Int×Int)(l:List (Int×Row)):aJ:=qi p.2.1.toNat (aI p.2.2.toNat)++l.map zh
structure xY (p:Int×Int×Int) (x:Int×Row):Prop where
 id:bW x.1=eX
 len:i0 x.2=p.2.2.toNat
theorem adE{n:Nat}(c:1<=n)(d:n<=20)(seed id:Int):(dD n seed id).Pairwise (·<·):=by have a:=Qi n seed id;have b:=BL c d seed id;rw[List.Nodup]at b;exact(a.and b).imp λ⟨c,d⟩=>i5
section
variable {p:Int×Int×Int} {seed:Int} {l:List (Int×Row)} {n w:Nat}
theorem afs(a:1<=n)(b:n<=20)(i:∀x∈l,xY p x)(d:p.2.2.toNat=w):∀e∈td n seed l,iZ n w e/\e.1.Pairwise (·<·):=λe h=>by
 obtain⟨x,f,rfl⟩:=qo.1 h;exact⟨⟨λc g=>mO a b g,BL a b seed x.1,by rw[<-d];exact(i x f).len⟩,adE a b seed x.1⟩
theorem Uo(b:bJ p=eX)(e:(bN p).toNat=n)(d:∀x∈l,xY p x):dL n (td n seed l) (bB p.1.toNat p.2.1.toNat)=dV p seed (l.map qt):=by
 unfold dL dV td;rw[g9 b,e];have:(l.map qt).filter bW=l.map qt:=wx.2 λi c=>by
  obtain⟨x,a,rfl⟩:=qo.1 c;exact(d x a).id
 rw[this,wL,wL];rfl
theorem Up(a:p.2.2.toNat=w):iF w (td n seed l) (bB p.1.toNat p.2.1.toNat)=pW p l:=by unfold iF pW td;rw[a,wL];simp[bB]
end
section
variable {n w:Nat} {l:List fo} {ahead:aJ} {known:List Bool} {vals:aJ} {dead left:aB} {W M:aJ}
theorem Xa(c:∀e∈l,iZ n w e)(h:aS n ahead)(g:jV n w l known vals)(a:kA known vals l=eX)(f:ce (dL n l ahead)=n):¬kY n (dL n l ahead) (iF w l ahead):=λd=>by
 obtain⟨k,j,b⟩:=Ul g c a;have i:=pi tH (xU h) (xV c) f d;exact b _ (((Cc c).1 i).2.2 k j).1
theorem hO.SC(S:hO n w l ahead known vals dead left W M)(a:ce (dL n l ahead)=n){D:aJ}(b:fD dead.length w (dJ n dead.length (aX known vals l) W left ahead) (fF n w (aX known vals l) M left ahead) D):
  kY n (dL n l ahead) (iF w l ahead)/\uo dead.length known vals W M D=gp n (dL n l ahead) (iF w l ahead):=by
 have h:=lQ tH (xU S.ahd) (xV S.eqs) a (S.Un b);exact⟨h.2,h.1⟩
theorem hO.SD(S:hO n w l ahead known vals dead left W M)(b:ce (dL n l ahead)=n)(a:kY n (dL n l ahead) (iF w l ahead)):fD dead.length w (dJ n dead.length (aX known vals l) W left ahead) (fF n w (aX known vals l) M left ahead) (dead.map λc=>aC (gp n (dL n l ahead) (iF w l ahead)) c.toNat):=
 S.Qq (pi tH (xU S.ahd) (xV S.eqs) b a)
theorem hO.Uq(S:hO n w l ahead known vals dead left W M)(f:1<=w)(c:ce (dL n l ahead)=n):kY dead.length (dJ n dead.length (aX known vals l) W left ahead) (fF n w (aX known vals l) M left ahead)↔kY n (dL n l ahead) (iF w l ahead):=by obtain⟨d,e⟩:=pq S;have a:=S.JW f c;exact⟨λb=>(S.SC c (pi xW d e a b)).1,λb=>(lQ xW d e a (S.SD c b)).2⟩
theorem Il{a b:aJ}(h:i0 a=i0 b):fD 0 w a b []↔∀r∈b,r=aI w:=by
 unfold fD;constructor
 ·rintro⟨_,_,h3⟩ r c;obtain⟨i,d,rfl⟩:=fj c;exact(h3 i i5).symm
 ·intro e;refine⟨i4,λr c=>(by cases c),λi d=>?_⟩;have:aC b i∈b:=mem_row;rw[e _ this];rfl
theorem adF(d:∀e∈l,e.1.Pairwise (·<·)):∀e∈aX known vals l,e.1.Pairwise (·<·):=λe b=>by
 obtain⟨c,a,rfl⟩:=qo.1 (qF.1 b).1;exact(d c a).filter _
theorem Xb:i0 (aX known vals l)<=i0 l:=by unfold aX;refine qT (qS _ _) ?_;simp
theorem Xc{m:Nat}(d:∀e∈l,i0 e.1<=m):∀e∈aX known vals l,i0 e.1<=m:=λe b=>by
 obtain⟨c,a,rfl⟩:=qo.1 (qF.1 b).1;exact qT (qS _ _) (d c a)
end
end
variable {B:aw} {α:Type} {h0 h:Heap} {As:List HP} {e t t2 k by_:Nat} {s:Sl} {f:α->aT} {d:List α} {z:aT}
section
variable {C:Ctx}
theorem Own.Kc(p:C.Ok)(D:bG C.toAQ t e k z by_)(I:∃i u,C.T.get t2=dB i/\i.cG=.slice u)(g:∀x,i0 (f x)=k)
  (n:Own h e s k f d) (m:∀x,∀c∈f x,c.oneCell'=eX) (i:Nat) (F:i<i0 d) {ty:Nat} {K:Sl->Heap->Prop}
  (N:∀h',Own h' e s k f ((d.take i++d.drop (i+1))++d.drop (i0 d-1))->aP (λb=>¬s.on b) h h'->K ⟨s.ptr,i0 d-1,s.cap⟩ h'):
  bz C.P (zx #[t,t2] ty #[.slice s.ptr i s.cap,.slice (if s.cap=i+1 then s.ptr else s.ptr.map (·.add ((i+1)*k))) (s.len-(i+1)) (s.cap-(i+1))]) (.one (.sc .slc)) h K:=by
 obtain⟨Q,u,J,L⟩:=I;have y:C.P.underlying t2=dB (.slice u):=by have:=p.cG J;rw[L]at this;exact jF this
 have B:=n.len;have j:=n.cap;have E:Seq h (λ_=>True) ⟨if s.cap=i+1 then s.ptr else s.ptr.map (·.add ((i+1)*k)),s.len-(i+1),s.cap-(i+1)⟩ k f (d.drop (i+1)):=Seq.drop (n.seq g λ_ _=>trivial) (i+1) j;obtain⟨v,a⟩:∃v:Sl,v=⟨if s.cap=i+1 then s.ptr else s.ptr.map (·.add ((i+1)*k)),s.len-(i+1),s.cap-(i+1)⟩:=⟨_,rfl⟩
 rw[<-a]at E;have M:(Value.slice (if s.cap=i+1 then s.ptr else s.ptr.map (·.add ((i+1)*k))) (s.len-(i+1)) (s.cap-(i+1)))=.slice v.ptr v.len v.cap:=by rw[a]
 have O:v.len=s.len-(i+1):=by rw[a]
 rw[M];unfold bz zx;simp only[zU,List.getElem?_cons_zero,List.getElem?_cons_succ];refine au.bind (au.always (aG (D.under p)) ?_);refine au.bind (au.always (D.size p) ?_);refine au.bind (au.always (aG y) ?_);refine au.bind (au.pure' ?_);simp only[zg,if_false,wZ,if_true];refine au.bind (au.pure' ?_);have l:i+v.len<=s.cap:=i5
 rw[g9 l];refine au.bind (fX g E ?_);rcases n.head with⟨p1,p2,p3⟩|⟨b,rest,p1,p2,p3,p4⟩
 ·subst p3;simp at F
 ·rw[p1];refine au.bind ?_;rw[add_eq,wm];have q:d=d.take i++((d.drop i).take (i0 d-1-i)++d.drop (i0 d-1)):=by
   have H:(d.drop i).drop (i0 d-1-i)=d.drop (i0 d-1):=by rw[List.drop_drop];congr 1;omega
   rw[<-H,qC,qC]
  have o:((d.drop i).take (i0 d-1-i)).length=i0 d-1-i:=i9
  have r:i0 (d.drop (i+1))=i0 d-1-i:=i9
  refine eO (e:=e) (pre:=(d.take i).flatMap f) (old:=((d.drop i).take (i0 d-1-i)).flatMap f) (post:=(d.drop (i0 d-1)).flatMap f++rest) ?_ ?_ ?_ ?_ ?_
  ·have:(d.take i).flatMap f++((d.drop i).take (i0 d-1-i)).flatMap f++((d.drop (i0 d-1)).flatMap f++rest)=d.flatMap f++rest:=by
    conv=>rhs;rw[q]
    simp only[qY,qn]
   rw[this];exact p2
  ·rw[dl g,dl g,o,r]
  ·rw[dl g,qR,Nat.min_eq_left i5];omega
  ·intro c G;obtain⟨x,_,w⟩:=zE.1 G;exact m x c w
  ·have A:i+v.len=i0 d-1:=i5
   rw[A];refine au.pure' ⟨⟨dB ⟨b,0,eH⟩,i0 d-1,s.cap⟩,i4,?_⟩;rw[<-p1];refine N _ ⟨?_,.inr ⟨b,rest,p1,?_,p3,p4⟩⟩ ?_
   ·simp;omega
   ·rw[ij p2,g9 rfl];simp[qY]
   ·exact aP.jk p2 (λA=>A ⟨0,p1⟩)
theorem aa.Kc(r:C.Ok)(H:aa B h0 h As)(j:Nat)(m:As[j]?=dB (af e s k f d))(A:bG C.toAQ t e k z by_)(u:∃i v,C.T.get t2=dB i/\i.cG=.slice v)(o:∀x,i0 (f x)=k)
  (a:∀x,∀c∈f x,c.oneCell'=eX) (i:Nat) (p:i<i0 d) {ty:Nat} {K:Sl->Heap->Prop}
  (w:∀h',aa B h0 h' (As.set j (af e s k f ((d.take i++d.drop (i+1))++d.drop (i0 d-1))))->K ⟨s.ptr,i0 d-1,s.cap⟩ h'):
  bz C.P (zx #[t,t2] ty #[.slice s.ptr i s.cap,.slice (if s.cap=i+1 then s.ptr else s.ptr.map (·.add ((i+1)*k))) (s.len-(i+1)) (s.cap-(i+1))]) (.one (.sc .slc)) h K:=
 (H.own j m).Kc r A u o a i p λh' x y=>w h' (H.step j m λq n _=>⟨y.mono λb _ g l=>g (n.2 b l),x,λb g=>⟨x.lt g,.inl (n.2 b g)⟩⟩)
end
variable {P:Program}
structure ahJ (P:Program) (t it:TypeId):Prop where
 u:∃f0 f1 f2:Field,P.underlying t=dB (.struct #[f0,f1,f2])/\f0.name≠ "_" /\f1.name≠ "_" /\f2.name≠ "_" /\f0.type=it/\f1.type=it/\f2.type=it/\f0.offset=0/\f1.offset=1/\f2.offset=2
 st:P.stoodInHeld t=fz
 i:P.underlying it=dB (.int .i64)
 a:aH P (isAgg it) fz
abbrev k3v(x:Int×Int×Int):f7:=.agg #[xF xL x.1,xF xL x.2.1,xF xL x.2.2]
structure ahK (h:Heap) (r:Nat) (ks:List (Int×Int×Int)):Prop where
 ex:∃es clock,h[r]?=dB (.map es clock)/\es.toList.map (λe=>(e.key,e.val))=ks.map (λk=>(k3v k,Value.bool eX))
def lS:Nat->Nat->Nat->List (List Nat)
 |0,_,_=>[[]]
 |t+1,a,n=>(zQ a (n-t-a)).flatMap λi=>(lS t (i+1) n).map (i::·)
def kf(n:Nat):List Nat->Option (List Nat)
 |[]=>eH
 |x::l=>match kf n l with
  |some l'=>dB (x::l')
  |none=>if x+i0 l+1<n then dB (zQ (x+1) (i0 l+1))else eH
inductive pr (n:Nat):List Nat->List (List Nat)->Prop
 |last {l:List Nat}:kf n l=eH->pr n l [l]
 |more {l l':List Nat} {L:List (List Nat)}:kf n l=dB l'->pr n l' L->pr n l (l::L)
theorem DV{n:Nat}:∀{l a:List Nat},kf n l=dB a->i0 a=i0 l
 |[],_,h=>k9
 |x::l,a,h=>by
  unfold kf at h;cases hs:kf n l with
  |some m=>rw[hs]at h;injection h with h;subst h;simp[DV hs]
  |none=>
   rw[hs]at h;dsimp only at h;split at h
   ·injection h with h;subst h;simp
   ·cases h
theorem pr.cons{n x t:Nat}{l:List Nat}{L R:List (List Nat)}(h:pr n l L)(a:i0 l=t)(c:x+t+1<n)(b:pr n (zQ (x+1) (t+1)) R):pr n (x::l) (L.map (x::·)++R):=by
 induction h with
 |last hs=>exact .more (by unfold kf;rw[hs];dsimp only;rw[g9 i5,a]) b
 |more hs _ ih=>exact .more (by unfold kf;rw[hs]) (ih (by rw[DV hs,a]))
theorem pr.agJ{n x t:Nat}{l:List Nat}{L:List (List Nat)}(h:pr n l L)(a:i0 l=t)(b:¬x+t+1<n):pr n (x::l) (L.map (x::·)):=by
 induction h with
 |last hs=>exact .last (by unfold kf;rw[hs];dsimp only;rw[hU i5])
 |more hs _ ih=>exact .more (by unfold kf;rw[hs]) (ih (by rw[DV hs,a]))
theorem DW(n:Nat):∀t a,a+t<=n->pr n (zQ a t) (lS t a n)
 |0,a,_=>.last i4
 |t+1,a,h=>by
  have b:∀m a,a+(t+1)<=n->m+1=n-t-a->pr n (zQ a (t+1)) ((zQ a (m+1)).flatMap λi=>(lS t (i+1) n).map (i::·)):=by
   intro m
   induction m with
   |zero=>
    intro a h c;have:=(DW n t (a+1) i5).agJ (x:=a) (t:=t) jj i5;simpa[yt]using this
   |succ m ih=>
    intro a h c;have:=(DW n t (a+1) i5).cons (x:=a) (t:=t) jj i5 (ih (a+1) i5 i5);rw[yt,yt (n:=m+1),za];exact this
  have:=b (n-t-a-1) a h i5;rw[show n-t-a-1+1=n-t-a by omega]at this;exact this
theorem Oc{n:Nat}:∀(i:Nat) (l m:List Nat),i<=i0 l->kf n (l.drop i)=dB m->kf n l=dB (l.take i++m)
 |0,l,m,_,h=>j9
 |i+1,[],m,h,_=>mn
 |i+1,x::l,m,h,hs=>by
  have:=Oc i l m j9 (by simpa using hs);unfold kf;rw[this];simp
theorem Cd{n:Nat}:∀{t a:Nat} {s:List Nat},s∈lS t a n->i0 s=t/\(∀x∈s,a<=x/\x<n)/\s.Pairwise (·<·)
 |0,a,s,h=>by simp[lS]at h;subst h;simp
 |t+1,a,s,h=>by
  simp only[lS,zE,qo,List.mem_range'_1]at h;obtain⟨i,f,l,e,rfl⟩:=h;obtain⟨d,c,h3⟩:=Cd e;refine⟨p6,?_,zK.2 ⟨λx b=>(c x b).1,h3⟩⟩;intro x b;rcases qX.1 b with rfl|b
  ·omega
  ·have:=c x b;omega
def ch:Nat->Nat->Nat
 |_,0=>1
 |0,_+1=>0
 |n+1,k+1=>ch n k+ch n (k+1)
theorem ny(n:Nat):ch n 0=1:=by cases n<;>rfl
theorem FC:∀(n k:Nat),n<k->ch n k=0
 |_,0,h=>i5
 |0,k+1,_=>rfl
 |n+1,k+1,h=>by rw[ch,FC n k i5,FC n (k+1) i5]
theorem Kd:∀n,ch n n=1
 |0=>rfl
 |n+1=>by rw[ch,Kd n,FC n (n+1) i5]
theorem DX:∀(n k:Nat),(k+1)*ch (n+1) (k+1)=(n+1)*ch n k
 |0,0=>rfl
 |0,k+1=>by rw[FC 0 (k+1) i5,FC (0+1) (k+1+1) i5];simp
 |n+1,0=>by
  have:=DX n 0;rw[ny]at this⊢;rw[ch,ny,Nat.mul_add,this];omega
 |n+1,k+1=>by
  have b:=DX n k;have c:=DX n (k+1);rw[ch];have e:(k+1+1)*(ch (n+1) (k+1)+ch (n+1) (k+1+1))=((k+1)*ch (n+1) (k+1)+ch (n+1) (k+1))+(k+1+1)*ch (n+1) (k+1+1):=by rw[Nat.mul_add,zP (k+1)]
  rw[e,b,c];have a:ch (n+1) (k+1)=ch n k+ch n (k+1):=rfl;rw[a,zP (n+1),Nat.mul_add (n+1)];omega
theorem SE{n k:Nat}(h:k<=n):ch n (k+1)*(k+1)=ch n k*(n-k):=by
 cases n with
 |zero=>
  have:k=0:=i5
  subst this;rfl
 |succ n=>
  have c:=DX n k;have d:(n+1)*ch n k=(n+1-k)*ch (n+1) k:=by
   cases k with
   |zero=>rw[ny,ny];simp
   |succ k=>
    have h3:=DX n k;have a:ch (n+1) (k+1)=ch n k+ch n (k+1):=rfl;have e:(n+1)*ch (n+1) (k+1)=(n+1)*ch n k+(n+1)*ch n (k+1):=by rw[a,Nat.mul_add]
    have b:(n+1-(k+1))*ch (n+1) (k+1)=(n+1)*ch (n+1) (k+1)-(k+1)*ch (n+1) (k+1):=Nat.sub_mul _ _ _;rw[b,h3,e];omega
  rw[Nat.mul_comm,c,d,Nat.mul_comm]
theorem agK{n k:Nat}(h:2*(k+1)<=n+1):ch n k<=ch n (k+1):=by
 have a:=SE (n:=n) (k:=k) i5;by_cases h0:ch n k=0
 ·omega
 ·have b:ch n k*(k+1)<=ch n (k+1)*(k+1):=by rw[a];exact Nat.mul_le_mul_left _ i5
  exact Nat.le_of_mul_le_mul_right b i5
theorem Od:∀(n k:Nat),k<=n->ch n k=ch n (n-k)
 |0,0,_=>rfl
 |n+1,0,_=>by rw[ny,Nat.sub_zero,Kd]
 |n+1,k+1,h=>by
  by_cases c:k=n
  ·subst c;rw[Kd,Nat.sub_self,ny]
  ·have a:=Od n k i5;have b:=Od n (k+1) i5;rw[show n+1-(k+1)=(n-(k+1))+1 by omega,ch,ch,a,b,show n-k=n-(k+1)+1 by omega];omega
theorem GS(n:Nat):∀t a,a<=n->i0 (lS t a n)=ch (n-a) t
 |0,a,_=>by rw[ny];rfl
 |t+1,a,h=>by
  have b:∀m a,m=n-t-a->a<=n->i0 ((zQ a m).flatMap λi=>(lS t (i+1) n).map (i::·))=ch (n-a) (t+1):=by
   intro m
   induction m with
   |zero=>intro a d c;rw[FC _ _ i5];rfl
   |succ m ih=>
    intro a d c;rw[yt,za,qw,qq,GS n t (a+1) i5,ih (a+1) i5 i5];rw[show n-a=n-(a+1)+1 by omega];rfl
  exact b _ a i4 h
def lA(n t:Int):Int:=if 0<=n/\n<=64/\0<=t/\t<=n then(min (ch n.toNat t.toNat) 4097:Nat)else 0
theorem Xd(a b:ByteArray):(a==b)=decide (a=b):=by
 cases a with
 |mk a=>
  cases b with
  |mk b=>
   have h:((ByteArray.mk a)==(ByteArray.mk b))=(a==b):=rfl;rw[h,Bool.eq_iff_iff,beq_iff_eq,decide_eq_true_eq,ByteArray.mk.injEq]
theorem SF(a:ByteArray):(a==a)=eX:=by rw[Xd,hY rfl]
theorem acm{a b:ByteArray}(h:a≠b):(a==b)=fz:=by rw[Xd,hZ h]
section
def xZ(x:ByteArray)(v:α):List (ByteArray×α)->List (ByteArray×α)
 |[]=>[(x,v)]
 |(k,u)::t=>if k=x then(k,v)::t else(k,u)::xZ x v t
def kg(x:ByteArray):List (ByteArray×α)->Option α
 |[]=>eH
 |(k,u)::t=>if k=x then dB u else kg x t
def MH(x:ByteArray):List (ByteArray×α)->List (ByteArray×α)
 |[]=>[]
 |(k,u)::t=>if k=x then t else(k,u)::MH x t
theorem Im{x:ByteArray}:∀{l:List (ByteArray×α)},kg x l=eH↔∀p∈l,p.1≠x
 |[]=>by simp[kg]
 |(k,u)::t=>by
  unfold kg;have a:=Im (x:=x) (l:=t);by_cases h:k=x
  ·rw[g9 h];simp[h]
  ·rw[hU h,a];simp[h]
theorem DY{x:ByteArray}(v:α):∀{l:List (ByteArray×α)},kg x l=eH->xZ x v l=l++[(x,v)]
 |[],_=>rfl
 |(k,u)::t,h=>by
  unfold kg at h;split at h
  ·cases h
  ·rename_i a;unfold xZ;rw[hU a,DY v h];rfl
structure pX (h:Heap) (r:Nat) (g:α->f7) (kvs:List (ByteArray×α)):Prop where
 ex:∃es clock,h[r]?=dB (.map es clock)/\es.toList.map (λe=>(e.key,e.val))=kvs.map (λp=>(Value.string p.1,g p.2))
variable {P:Program} {h h':Heap} {r:Nat} {g:α->f7} {kvs:List (ByteArray×α)}
theorem pX.ae{p:aw}(d:pX h r g kvs)(c:aP p h h')(e:p r):pX h' r g kvs:=by obtain⟨b,a,f,i⟩:=d.ex;exact⟨b,a,c.block e f,i⟩
theorem pX.lt(b:pX h r g kvs):r<h.size:=by obtain⟨d,a,c,e⟩:=b.ex;exact lt_of_block c
theorem Ce{x:ByteArray}:∀{L:List MapEntry} {kvs:List (ByteArray×α)} {n:Nat},L.map (λe=>(e.key,e.val))=kvs.map (λp=>(Value.string p.1,g p.2))->kg x kvs=eH->
  xi .string (.string x) L n=dB eH
 |[],_,_,_,_=>rfl
 |e::L,[],_,h,_=>mn
 |e::L,(k,u)::t,n,h,hg=>by
  simp only[zO,List.cons.injEq,Prod.mk.injEq]at h;obtain⟨⟨b,c⟩,h3⟩:=h;unfold kg at hg;split at hg
  ·cases hg
  ·rename_i a;have:(x==k)=fz:=acm λe=>a e.symm;simp only[xi,Instr.sameNow,b,this];exact Ce h3 hg
theorem Cf{x:ByteArray}{u:α}:∀{L:List MapEntry} {kvs:List (ByteArray×α)} {n:Nat},L.map (λe=>(e.key,e.val))=kvs.map (λp=>(Value.string p.1,g p.2))->kg x kvs=dB u->
  ∃j e,xi .string (.string x) L n=dB (dB (n+j,g u))/\L[j]?=dB e/\e.key=.string x/\
   (∀(v:α) (f:MapEntry->MapEntry),(∀e,e.key=Value.string x->((f e).key,(f e).val)=(Value.string x,g v))->(L.modify j f).map (λe=>(e.key,e.val))=(xZ x v kvs).map λp=>(Value.string p.1,g p.2))/\
   (L.eraseIdx j).map (λe=>(e.key,e.val))=(MH x kvs).map (λp=>(Value.string p.1,g p.2))
 |[],[],_,_,hg=>by cases hg
 |e::L,[],_,h,_=>mn
 |[],_::_,_,h,_=>mn
 |e::L,(k,w)::t,n,h,hg=>by
  simp only[zO,List.cons.injEq,Prod.mk.injEq]at h;obtain⟨⟨a,d⟩,h3⟩:=h;unfold kg at hg;by_cases b:k=x
  ·subst b;rw[g9 rfl]at hg;cases hg;refine⟨0,e,?_,i4,a,λv f c=>?_,?_⟩
   ·simp only[xi,Instr.sameNow,a,SF,d,w9]
   ·simp only[xZ,if_true,List.modify_zero_cons,zO,h3,c e a]
   ·simp only[MH,if_true,List.eraseIdx_cons_zero,h3]
  ·rw[hU b]at hg;obtain⟨j,r,o,q,l,m,i⟩:=Cf (n:=n+1) h3 hg;refine⟨j+1,r,?_,q,l,λv f c=>?_,?_⟩
   ·have:(x==k)=fz:=acm λe=>b e.symm;simp only[xi,Instr.sameNow,a,this];rw[o];congr 3;omega
   ·simp only[xZ,b,if_false,List.modify_succ_cons,zO,m v f c,a,d]
   ·simp only[MH,b,if_false,List.eraseIdx_cons_succ,zO,i,a,d]
theorem DZ{a:TypeId}{x:ByteArray}{b:Bool}(c:P.underlying a=dB .string)(n:Nat):aH P (Instr.checkKey b (n+1) a (.string x)) ():=by unfold Instr.checkKey;exact(aG c).bind .pure
theorem Oe{t:Nat}{K:Option Nat->Heap->Prop}(g:α->f7)(a:∀r h',r=h.size->pX h' r g []->aP (λ_=>True) h h'->K (dB r) h'):
  bz P (xh t eH) (.one (.sc .mp)) h K:=by
 unfold bz xh;refine au.bind (au.oB (au.pure' ⟨dB h.size,i4,a _ _ i4 ⟨#[],0,jj,i4⟩ (aP.push _ _ _)⟩))
theorem pX.lookup{t f k:Nat}{u0:α}{x:ByteArray}(p:pX h r g kvs)(l:P.underlying t=dB (.map f k))(a:P.underlying f=dB .string)(q:aH P (zeroValue k) (g u0))
  {rt:Rt} {K:rt.den->Heap->Prop} (b:∃d:rt.den,g ((kg x kvs).getD u0)=rt.enc d/\K d h):
  bz P (xC t (.map (dB r)) (.string x) fz) rt h K:=by
 obtain⟨s,c,m,i⟩:=p.ex;unfold bz xC;refine au.bind (au.always (aG l) ?_);refine au.bind (au.Sg m (λ_ _ _ h=>k9) ?_);refine au.bind (au.pure' ?_);refine au.bind (au.always (DZ a 9999) ?_);unfold Instr.findKey;refine au.bind (au.bind (au.always (aG a) ?_));cases hg:kg x kvs with
 |none=>
  rw[Ce i hg];refine au.pure' ?_;refine au.bind (au.always q ?_);refine au.bind (au.pure' (au.pure' ?_));rw[hg]at b;exact b
 |some u=>
  obtain⟨j,e,o,_⟩:=Cf (x:=x) (n:=0) i hg;rw[o];refine au.pure' ?_;refine au.bind (au.pure' (au.pure' ?_));rw[hg]at b;exact b
theorem pX.update{t f D:Nat}{x:ByteArray}(v:α)(y:pX h r g kvs)(p:P.underlying t=dB (.map f D))(a:P.underlying f=dB .string)
  {K:Unit->Heap->Prop} (k:∀h',pX h' r g (xZ x v kvs)->aP (·≠r) h h'->h'.size=h.size->K () h'):
  au P (yY t (.map (dB r)) (.string x) (g v)) h K:=by
 obtain⟨z,d,b,c⟩:=y.ex;have i:=lt_of_block b;unfold yY;refine au.bind (au.always (aG p) ?_);refine au.bind (au.Sg b (λ_ _ _ h=>k9) ?_);refine au.bind (au.always (DZ a 9999) ?_);unfold Instr.findKey;refine au.bind (au.bind (au.always (aG a) ?_));have ae:∀o,aP (·≠r) h (h.setIfInBounds r o):=λo=>aP.jk b λs=>s i4;cases hg:kg x kvs with
 |none=>
  rw[Ce c hg];refine au.pure' ?_;refine au.Sh b (λ_ _ _ h=>k9) ?_;refine k _ ⟨_,_,by rw[yH,g9 i4,g9 i],?_⟩ (ae _) jj;rw[DY v hg];simp[c]
 |some u=>
  obtain⟨j,e,q,w,l,m,_⟩:=Cf (x:=x) (n:=0) c hg;rw[q];refine au.pure' ?_;have A:z[0+j]?=dB e:=by rw[wm,<-Array.getElem?_toList];exact w
  dsimp only;rw[A];simp only[qQ,Option.getD_some,l];refine au.bind ?_;unfold Instr.keyThatStays;have B:Instr.sameBits 10000 (.string x) (.string x)=eX:=by simp only[Instr.sameBits,SF]
  rw[B,g9 rfl];refine au.pure' ?_;refine au.Sh b (λ_ _ _ h=>k9) ?_;refine k _ ⟨_,_,by rw[yH,g9 i4,g9 i],?_⟩ (ae _) jj;rw[Array.toList_modify,wm];exact m v _ λ_ _=>rfl
end
def nL{α:Type}(r:Nat)(g:α->f7)(a:List (ByteArray×α)):HP:=
 ⟨λh q=>pX h r g a/\q r,λx c=>⟨x.1.ae c x.2,x.2⟩,λx b=>⟨x.1,b _ x.2⟩⟩
variable {h':Heap} {r:Nat} {g:α->f7} {kvs:List (ByteArray×α)}
theorem aa.aft{t:Nat}(H:aa B h0 h As)(g:α->f7){K:Option Nat->Heap->Prop}(c:∀r h',aa B h0 h' (As++[nL r g []])->K (dB r) h'):bz P (xh t eH) (.one (.sc .mp)) h K:=
 Oe g λr h' d a b=>c r h' (H.comp (.one (any b) ⟨a,i5,a.lt⟩))
theorem aa.map(H:aa B h0 h As)(i:Nat)(a:As[i]?=dB (nL r g kvs)):pX h r g kvs:=(H.at i a).1
theorem aa.afu{t c o:Nat}{x:ByteArray}(v:α)(H:aa B h0 h As)(i:Nat)(d:As[i]?=dB (nL r g kvs))(k:P.underlying t=dB (.map c o))(a:P.underlying c=dB .string)
  {K:Unit->Heap->Prop} (n:∀h',aa B h0 h' (As.set i (nL r g (xZ x v kvs)))->K () h'):au P (yY t (.map (dB r)) (.string x) (g v)) h K:=
 (H.map i d).update v k a λh' f l s=>n h' (H.step i d λq j p=>⟨l.mono λb _ m e=>m (e▸j.2),f,f.lt,.inl j.2⟩)
variable {p q:aw} {v:Sl} {l2:List α}
section
variable {C:Ctx} {l:List α}
end
section
variable {C:Ctx}
theorem Ur(c:C.Ok)(b:bG C.toAQ t e k z by_)(n:Nat){x y:Int}(f:x=n)(l:y=n)(j:n<=s.cap){K:Sl->Heap->Prop}(m:K ⟨s.ptr,n,n⟩ h):
  bz C.P (w4 t (.slice s.ptr s.len s.cap) eH (dB (xF xL x)) (dB (xF xL y))) (.one (.sc .slc)) h K:=by
 subst f;subst l;have d:aH C.P (wk eX s.len s.cap eH (dB (xF xL (n:Int))) (dB (xF xL (n:Int)))) (0,n,n):=λw=>by
  have g:¬((n:Int)<0):=i5
  have x2:¬((s.cap:Int)<(n:Int)):=i5
  have x3:(n:Int)<=(s.cap:Int):=i5
  have o:(0:Int)<=(n:Int):=i5
  simp[wk,Instr.sliceBound,asIntOf,g,x2,x3,o]
 unfold bz w4;refine au.bind (au.always (aG (b.under c)) ?_);show au C.P (xk t (.slice s.ptr s.len s.cap) eH (dB (xF xL (n:Int))) (dB (xF xL (n:Int)))) h _;unfold xk;refine au.bind (au.always (aG (b.under c)) ?_);refine au.bind (au.always d ?_);refine au.bind (au.always (b.size c) ?_);have i:(if n=0 then s.ptr else s.ptr.map (·.add (0*k)))=s.ptr:=by
  split
  ·rfl
  ·cases s.ptr with
   |none=>rfl
   |some a=>simp[Addr.add]
 refine au.pure' ⟨⟨s.ptr,n,n⟩,?_,m⟩;show Value.slice (if n=0 then s.ptr else s.ptr.map (·.add (0*k))) (n-0) (n-0)=_;rw[i];rfl
end
section
open Go.RowKit Go.ChangeShapes Go.WideShapes Go.Joins Go.Deep
section
variable {H:Type} {enc:TypeId×f7->H} {P:Program} {W W':World}
theorem aau{w c:World}(a:dg w c)(d:aP (λb=>b<w.heap.size) w.heap c.heap):Below w.heap.size w c:=
 ⟨a.os,a.tape,a.output,d.1,λk e=>d.2 k e e⟩
theorem CT(f:laidOutB P=eX)(c:Below W.heap.size W W'):∀{ts:List TypeId} {vs:aT} {ds:List (DataW H)} {ps:List MemPlace},
  (∀t∈ts,P.readableRec t=eX/\t<P.types.size)->DataW.TrodAll enc P W 0 (λ_=>eX) eX ts vs ds ps->(∀x∈ps,x.block<W.heap.size)->DataW.TrodAll enc P W' 0 (λb=>decide (b<W.heap.size)) eX ts vs ds ps
 |[],[],[],ps,_,h,_=>h
 |t::ts,v::vs,d::ds,ps,hr,⟨p,q,h1,h2,e⟩,hlt=>by
  subst e;exact⟨p,q,Below.trod f (hr t jj).1 (hr t jj).2 h1 c λx a=>hlt x m6,CT f c (λu g=>hr u n9) h2 λx a=>hlt x m6,i4⟩
 |[],_::_,_,_,_,h,_=>h.elim
 |[],[],_::_,_,_,h,_=>h.elim
 |_::_,[],_,_,_,h,_=>h.elim
 |_::_,_::_,[],_,_,h,_=>h.elim
theorem aav{f:Func}{s:ChangeSpec}{args:Array f7}{ds:List (DataW H)}{a:List MemPlace}{rt:TypeId}(k:s.vars=[])(e:DataW.Whole enc P f.params.toList s.vars fz W args.toList ds [] a)
  (b:s.fn H (ds++[])={results:=[.lit (.bool eX)],args:=ds}) (l:laidOutB P=eX) (j:Below W.heap.size W W') (n:∀t∈f.params.toList,P.readableRec t=eX/\t<P.types.size)
  (c:f.resultTypes=#[rt]) (d:P.underlying rt=dB .bool):s.post enc P f fz eX fz fz W args (.bool eX) W':=by
 obtain⟨p,q,m,i,h3,u,r⟩:=id e;have g:=e.lt;rw[k]at i;have o:q=[]:=i;subst o;simp only[qE]at h3;subst h3;refine⟨ds,[],a,[],a,[],e,?_,?_,?_,j.frame _,λh=>k9⟩
 ·rw[b,c];exact trodAll_mk1 (shut_bool d eX)
 ·rw[b];exact CT l j n m g
 ·rw[b,k];rfl
theorem Qr(w:World)(a:Addr):w.cell? a=cellOf w.heap a:=rfl
theorem Xe{h:Heap}{a:Addr}{v:f7}(c:cellOf h a=dB v):a=⟨a.block,a.off,eH⟩:=by
 obtain⟨b,o,s⟩:=a;cases s with
 |none=>rfl
 |some s=>
  unfold cellOf at c;cases hb:h[b]? with
  |none=>rw[hb]at c;cases c
  |some x=>rw[hb]at c;cases x<;>simp at c
theorem afv{α:Type}{f:α->f7}{h:Heap}{a:Addr}{len cap:Nat}{l:List α}(k:i0 l=len)(d:∀i (g:i<i0 l),cellOf h (a.add i)=dB (f l[i])):Seq h (λb=>b<h.size) ⟨dB a,len,cap⟩ 1 (λx=>[f x]) l:=by refine⟨k.symm,λi x j=>?_⟩;obtain⟨g,e⟩:=List.getElem?_eq_some_iff.1 j;have h0:=d 0 i5;rw[add_zero]at h0;have c:=Xe h0;refine⟨a.block,a.off,by rw[<-c],dC h0,?_,trivial⟩;have:=d i g;rw[c,add_eq]at this;rw[Nat.mul_one,add_eq,w9,this,e]
theorem Of{t e:TypeId}{v:f7}{d:DataW H}{ps:List MemPlace}(m:P.underlying t=dB (.slice e))(q:P.underlying e=dB (.int .i64))(o:P.cellsOf e=1)
  (r:∃p n c,v=.slice p n c) (h:DataW.Trod enc P W 0 (λ_=>eX) eX t v d ps):∃(s:Sl) (l:aB),v=.slice s.ptr s.len s.cap/\Seq W.heap (λb=>b<W.heap.size) s 1 ak l:=by
 obtain⟨g,j⟩:=h;obtain⟨p,n,c,rfl⟩:=r;rcases open_ints m q o j with⟨h1,_⟩|⟨a,len,cap,zs,h1,_,hle,_,hz,_,hcell,_⟩
 ·simp[Value.cells]at h1;obtain⟨rfl,rfl,rfl⟩:=h1;exact⟨⟨eH,0,0⟩,[],i4,Seq.nil _ _ _ _ _ _⟩
 ·simp[Value.cells]at h1;obtain⟨rfl,rfl,rfl⟩:=h1;simp only[if_true]at hz;refine⟨⟨dB a,n,c⟩,zs.take n,i4,afv (f:=λx=>xF xL x) i9 λi k=>?_⟩;simp at k;rw[<-Qr,hcell i i5];simp[qd,qc (show i<i0 zs by omega)]
theorem CV{r:_root_.Go.Reach}{b:Nat}{t e:TypeId}{v:f7}(a:P.underlying t=dB (.slice e))(h:Value.okWide P W r b t v):∃p n c,v=.slice p n c:=by simp only[Value.okWide,a,Cell.okWide]at h;cases v<;>simp_all [Cell.ok]
end
end
variable {H:Type}
section
variable {enc:TypeId×f7->H}
end
theorem Xf{P:Program}(h:P.funcs.any Func.goes=fz)(f:FuncId):P.goes f=fz:=by
 have a:∀g:FuncId,(P.funcs[g]?).any Func.goes=fz:=λg=>by
  cases hg:P.funcs[g]? with
  |none=>rfl
  |some x=>
   show Func.goes x=fz;obtain⟨b,e⟩:=Array.getElem?_eq_some_iff.1 hg;cases hx:Func.goes x with
   |false=>rfl
   |true=>
    have:P.funcs.any Func.goes=eX:=Array.any_eq_true.2 ⟨g,b,by rw[e];exact hx⟩;rw[h]at this;cases this
 unfold Program.goes;rw[h,Bool.and_false,Bool.or_false];simp only[a];simp
theorem Qs{P:Program}{c:OpenClaim}(h:P.funcs.any Func.goes=fz):c.goesBy P=fz:=by
 have a:∀f,P.goes f=fz:=Xf h;unfold OpenClaim.goesBy Program.goesAt Program.goesFrom;have b:(P.funcNamed c.func).any P.goes=fz:=by
  cases P.funcNamed c.func with
  |none=>rfl
  |some f=>exact a f
 have h3:P.inits.toList.any P.goes=fz:=wo.2 λf _=>by rw[a f];exact Bool.false_ne_true
 rw[b,h3];cases c.start<;>rfl
end Go.Qw
