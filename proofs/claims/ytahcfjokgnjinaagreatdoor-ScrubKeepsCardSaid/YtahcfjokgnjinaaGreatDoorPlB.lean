/- Lemmas for the proof of the law; no condition. -/
import Derived.Test.YtahcfjokgnjinaaGreatDoorPlA
import Derived.Shelf.SlSortCmp.NoneTotal
import Derived.ProofKit
import Derived.Deep.Matrix
import Derived.Carry
import Derived.Lib.SmallJoins
import Derived.Handed
import Derived.HandedShaped
import Derived.ChangeMaps5
import Derived.SevenTiedAt
set_option linter.unusedVariables false
set_option linter.unusedSimpArgs false
open Option renaming some -> dB
open Bool renaming true -> eR, false -> eS
open List renaming length -> ii
open List renaming mem_take_iff_getElem -> yo, nodup_range -> vW, range -> qz, range' -> zR, range'_succ -> yt, replicate -> qh
open Nat renaming add_sub_cancel -> vh
open Go.Value renaming int -> xt
open Go.IntKind renaming i64 -> xz
open Prod renaming fst -> qK, snd -> zL
open Go.Builtin renaming append_ -> qt
namespace Go.Vc
open Go
abbrev gZ:=FloatKind.format .f64
theorem Ek{P:Program}{a b c:Nat}(h:gZ.add a b=dB c):aK P (Op.Complex.arith .add .f64 a b) c:=λw=>by
 have h':(FloatKind.format .f64).add a b=dB c:=h;unfold Op.Complex.arith Op.floatArith;simp only[h'];rfl
theorem El{P:Program}{a b c:Nat}(h:gZ.sub a b=dB c):aK P (Op.Complex.arith .sub .f64 a b) c:=λw=>by
 have h':(FloatKind.format .f64).sub a b=dB c:=h;unfold Op.Complex.arith Op.floatArith;simp only[h'];rfl
theorem xJ{P:Program}{a b c:Nat}(h:gZ.mul a b=dB c):aK P (Op.Complex.arith .mul .f64 a b) c:=λw=>by
 have h':(FloatKind.format .f64).mul a b=dB c:=h;unfold Op.Complex.arith Op.floatArith;simp only[h'];rfl
theorem Al{P:Program}{op:BinOp}(h:op=.add∨op=.sub∨op=.mul)(t:TypeId)(x y:Operand)(a b:Value):aK P (eqGuard op t x y a b) ():=λw=>by
 rcases h with rfl|rfl|rfl<;>rfl
theorem ads{P:Program}{t:TypeId}{x y:Operand}{a b c d e f:Nat}(g:gZ.add a c=dB e)(h:gZ.add b d=dB f):ko P .add t x y (.complex .f64 a b) (.complex .f64 c d) (.complex .f64 e f):=
 (Al (.inl i0) t x y _ _).bind (show aK P (Op.complexOp .add .f64 a b c d) _ from(Ek g).bind ((Ek h).bind λ_=>rfl))
theorem adt{P:Program}{t:TypeId}{x y:Operand}{a b c d e f:Nat}(g:gZ.sub a c=dB e)(h:gZ.sub b d=dB f):ko P .sub t x y (.complex .f64 a b) (.complex .f64 c d) (.complex .f64 e f):=
 (Al (.inr (.inl i0)) t x y _ _).bind (show aK P (Op.complexOp .sub .f64 a b c d) _ from(El g).bind ((El h).bind λ_=>rfl))
theorem adu{P:Program}{t:TypeId}{x y:Operand}{a b c d e f h i j k:Nat}(p:gZ.mul a c=dB h)(m:gZ.mul b d=dB i)(h3:gZ.sub h i=dB e)(o:gZ.mul a d=dB j)(l:gZ.mul b c=dB k)(q:gZ.add j k=dB f):
  ko P .mul t x y (.complex .f64 a b) (.complex .f64 c d) (.complex .f64 e f):=by
 refine(Al (.inr (.inr i0)) t x y _ _).bind ?_;have n:aK P (Op.Complex.product a b c d) (e,f):=
  (xJ p).bind ((xJ m).bind ((El h3).bind ((xJ o).bind ((xJ l).bind ((Ek q).bind λ_=>rfl)))))
 show aK P (Op.complexOp .mul .f64 a b c d) _;have g:∀x,aK P (Op.Complex.conv .f64 x .f64) x:=λx w=>by unfold Op.Complex.conv;rw[f9 rfl];rfl
 unfold Op.complexOp;refine(g a).bind ((g b).bind ((g c).bind ((g d).bind ?_)));refine aK.bind (v:=(e,f)) ?_ ?_
 ·exact n
 ·exact(g e).bind ((g f).bind λ_=>rfl)
open Go Go.Sort Go.Proofs
theorem adv{w a:World}(s:dG w a)(j:aZ (λb=>b<w.heap.size) w.heap a.heap):∃q c,a=Sort.grow (w.drewN q) c:=by
 refine⟨a.drawn-w.drawn,a.heap.extract w.heap.size a.heap.size,?_⟩;have h:w.heap++a.heap.extract w.heap.size a.heap.size=a.heap:=by
  apply yN;intro i;have m:=j.1;by_cases d:i<w.heap.size
  ·rw[Array.getElem?_append_left d,j.2 i d d]
  ·rw[Array.getElem?_append_right i4,Array.getElem?_extract];by_cases t:i<a.heap.size
   ·rw[f9 i4,show w.heap.size+(i-w.heap.size)=i by omega]
   ·rw[g0 i4,Array.getElem?_eq_none i4]
 obtain⟨o,u,dr,os,out⟩:=w;obtain⟨k,r,n,c,f⟩:=a;obtain⟨g,l,e,p⟩:=s;simp only at g l e p h;subst g;subst l;subst e;simp only[Sort.grow,World.drewN,World.mk.injEq];refine⟨h.symm,trivial,i4,trivial,trivial⟩
theorem Ma{α:Type}[Inhabited α]{enc:α->ba}{k:Nat}(b:∀x,ii (enc x)=k)(l:List α):flatK enc k l.toArray=(l.flatMap enc).toArray:=by
 refine ext_get! (by simp[dK b]) λt n=>?_;have a:t<ii l*k:=l6
 have f:0<k:=by
  rcases Nat.eq_zero_or_pos k with h|h
  ·subst h;simp at a
  ·exact h
 rw[get_flatK _ _ _ t j9];have g:t/k<ii l:=(Nat.div_lt_iff_lt_mul f).2 a;obtain⟨pre,post,i,o⟩:=Hl b l (t/k) l[t/k] (qd g);have e:t%k<k:=Nat.mod_lt _ f;have j:t=t/k*k+t%k:=by rw[vu];exact(Nat.div_add_mod t k).symm
 have c:(l.flatMap enc)[t]?=dB ((enc l[t/k])[t%k]'(by rw[b];exact e)):=by
  rw[i,qp,qj i4,qo (by rw[b];omega)];have:t-ii pre=t%k:=i4
  rw[this,qd]
 have m:l.toArray[t/k]! =l[t/k]:=mn
 rw[m];have d:t<ii (l.flatMap enc):=by rw[dK b];exact a
 rw[getElem!_pos (enc l[t/k]) (t%k) (by rw[b];exact e),getElem!_pos _ t o8];rw[qd d]at c;simp only[List.getElem_toArray];exact(Option.some.inj c).symm
theorem UY{α:Type}[Inhabited α]{enc:α->ba}{k:Nat}(g:∀x,ii (enc x)=k){w:World}{e:TypeId}{b:Nat}{rest:ba}{l:List α}(d:w.heap[b]?=dB (.cells (l.flatMap enc++rest).toArray e (0,0))):HoldsK enc k w b 0 l.toArray:=by
 intro j c;rw[Ma g]at c⊢;have a:j<ii (l.flatMap enc):=n9
 refine⟨?_,by simp[World.frozen?,d]⟩;have f:(l.flatMap enc++rest).toArray[0+j]?=dB (l.flatMap enc)[j]:=by rw[wh,zX,qo a,qd a]
 simp only[World.cell?,d];rw[getElem!_pos _ j j9];simpa using f
theorem Xw{α:Type}[Inhabited α]{enc:α->ba}{k:Nat}(a:∀x,ii (enc x)=k)(l l':List α)(rest:ba)(c:ii l'=ii l):putCells id 0 (flatK enc k l'.toArray) (l.flatMap enc++rest).toArray=(l'.flatMap enc++rest).toArray:=by
 rw[Ma a];have d:=dK a l;have b:=dK a l';rw[c]at b;apply yN;intro i;simp only[putCells,Array.getElem?_mapIdx,zX,yh,wh,Nat.zero_le,true_and,Nat.sub_zero];by_cases e:i<ii l*k
 ·rw[qo i4,qo i4,qd i4,qd i4,q9,f9 i4];rw[getElem!_pos _ i (by rw[yh];omega)];simp
 ·rw[qj i4,qj i4,d,b];cases rest[i-ii l*k]? with
  |none=>rfl
  |some x=>rw[q9,g0 i4]
theorem Nh{α:Type}[Inhabited α]{P:Program}{id_ g:FuncId}{enc:α->ba}{k:Nat}{cf:α->α->Int}(A:∀x,ii (enc x)=k)
  (G:∀(ga cap:Nat) (l:List α) (w:World),CmpLays P g #[] enc k cf ga 0 l.length w->HoldsK enc k w ga 0 l.toArray->ga<w.heap.size->ii l<4611686018427387904->
   Calls P id_ #[.slice (dB ⟨ga,0,none⟩) l.length cap,.func (.func g) #[] #[]] w λe o=>e=.returned (.tuple #[])/\∃n os,o=sortWorldK enc k w ga 0 n (l.mergeSort λx y=>!(ltOf cf) y x).toArray os)
  (K:∀(p:bm) (cap:Nat) (w:World),Calls P id_ #[.slice p 0 cap,.func (.func g) #[] #[]] w λe o=>e=.returned (.tuple #[])/\o=w)
  (H:∀x y h,aq P g #[.agg (enc x).toArray,.agg (enc y).toArray] h λv h'=>v=xt xz (cf x y)/\aZ (λb=>b<h.size) h h')
  {e:TypeId} {s:Sl} {l:List α} {h:Heap} (B:Own h e s k enc l) (I:ii l<2^40):
  aq P id_ #[.slice s.ptr s.len s.cap,.func (.func g) #[] #[]] h λv h'=>v=.tuple #[]/\Own h' e s k enc (l.mergeSort λx y=>!(ltOf cf) y x)/\aZ (λb=>¬s.on b) h h':=by
 intro w i;have a:=B.len;rcases B.head with⟨h1,h2,h3⟩|⟨b,rest,h1,h2,h3,h4⟩
 ·subst h3;rw[a,h1];refine(K none s.cap w).mono ?_;rintro D o ⟨rfl,rfl⟩;have F:(([]:List α).mergeSort λx y=>!(ltOf cf) y x)=[]:=i9
  exact⟨_,i0,dG.refl _,i0,by rw[F];exact⟨a,.inl ⟨h1,h2,i0⟩⟩,by rw[<-i];exact aZ.refl _ _⟩
 ·rw[h1,a];have t:w.heap[b]?=dB (.cells (l.flatMap enc++rest).toArray e (0,0)):=by rw[i];exact h2
  have f:CmpLays P g #[] enc k cf b 0 l.length w:=λm os E _ x y=>by
   have:=H x y _ (sortWorldK enc k w b 0 m E os) i0;refine(show Calls P g (#[Value.agg (enc x).toArray,.agg (enc y).toArray]++#[]) _ _ from ?_);rw[Array.append_empty];refine this.mono ?_;rintro D o ⟨v,rfl,J,rfl,z⟩;exact⟨i0,adv J z⟩
  refine(G b s.cap l w f (UY A t) (lt_of_block t) i4).mono ?_;rintro D o ⟨rfl,n,os,rfl⟩;have r:=lt_of_block t;have q:ii (l.mergeSort λx y=>!(ltOf cf) y x)=ii l:=List.length_mergeSort l;have c:∀j,j<h.size->(sortWorldK enc k w b 0 n (l.mergeSort λx y=>!(ltOf cf) y x).toArray os).heap[j]?=if b=j then dB (.cells ((l.mergeSort λx y=>!(ltOf cf) y x).flatMap enc++rest).toArray e (0,0))else h[j]?:=by
   intro j u;unfold sortWorldK;rw[Sort.heap_grow_old _ _ (by simpa[putRowK,Sort.putRow,Sort.mapBlock,Sort.ahead,i]using u)];simp only[putRowK,Sort.putRow,Sort.mapBlock,Sort.ahead,Array.getElem?_modify];by_cases d:b=j
   ·subst d;rw[f9 i0,f9 i0,t,q9,Sort.onCells,Xw A _ _ _ q]
   ·rw[g0 d,g0 d,i]
  rw[i]at r;refine⟨_,i0,⟨i0,i0,i0,Nat.le_add_right _ _⟩,i0,⟨by rw[q];exact a,.inr ⟨b,rest,h1,?_,h3,h4⟩⟩,?_,?_⟩
  ·rw[c b r,f9 rfl]
  ·simp[sortWorldK,putRowK,Sort.grow,Sort.putRow,Sort.mapBlock,Sort.ahead,i]
  ·intro j u z;rw[c j u,g0 λd=>z ⟨0,by rw[h1,d]⟩]
end Go.Vc
namespace Wl
open Go Go.Vc
def dq(n:Int):Nat:=
 if n=0 then 0 else
  let m:=n.natAbs;let e:=m.log2
  (if n<0 then 2^63 else 0)+(1023+e)*2^52+(m-2^e)*2^(52-e)
structure Dd where
 ax:Nat
 ay:Nat
 sx:Nat
 sy:Nat
 left:Int
 leg:Int
 second:Bool
def oP:Nat:=4607182418800017408
def fs0:Dd:=⟨0,0,oP,0,1,1,eS⟩
def oa(a b:Nat):Nat:=(gZ.add a b).getD 0
def agt(a b:Nat):Nat:=(gZ.sub a b).getD 0
def sf(a b:Nat):Nat:=(gZ.mul a b).getD 0
def tx(a b:Nat):Nat:=agt (sf a 0) (sf b oP)
def ty(a b:Nat):Nat:=oa (sf a oP) (sf b 0)
def Dd.on(s:Dd):Dd:=
 if s.left-1>0 then{s with ax:=oa s.ax s.sx,ay:=oa s.ay s.sy,left:=s.left-1}
 else{ax:=oa s.ax s.sx,ay:=oa s.ay s.sy,sx:=tx s.sx s.sy,sy:=ty s.sx s.sy,leg:=if s.second then s.leg+1 else s.leg,left:=if s.second then s.leg+1 else s.leg,second:=!s.second}
def kR:Nat->Dd
 |0=>fs0
 |n+1=>(kR n).on
def Dd.ok(s:Dd):Bool:=
 (gZ.add s.ax s.sx).isSome&&(gZ.add s.ay s.sy).isSome&&(gZ.mul s.sx 0).isSome&&(gZ.mul s.sy oP).isSome&&(gZ.sub (sf s.sx 0) (sf s.sy oP)).isSome&&(gZ.mul s.sx oP).isSome&&(gZ.mul s.sy 0).isSome&&(gZ.add (sf s.sx oP) (sf s.sy 0)).isSome&&decide (1<=s.left)&&decide (s.left<=100)&&decide (1<=s.leg)&&decide (s.leg<=100)
structure Xx where
 x:Int
 y:Int
 dx:Int
 dy:Int
 left:Int
 leg:Int
 turns:Int
def agu:Xx:=⟨0,0,1,0,1,1,0⟩
def Xx.on(s:Xx):Xx:=
 if s.left-1=0 then
  {x:=s.x+s.dx,y:=s.y+s.dy,dx:=-s.dy,dy:=s.dx,leg:=if(s.turns+1)%2=0 then s.leg+1 else s.leg,left:=if(s.turns+1)%2=0 then s.leg+1 else s.leg,turns:=s.turns+1}
 else{s with x:=s.x+s.dx,y:=s.y+s.dy,left:=s.left-1}
def gp:Nat->Xx
 |0=>agu
 |n+1=>(gp n).on
theorem afV:∀n,n<64->(kR n).ok=eR:=j4
theorem aeD:∀n,n<64->((kR n).ax==dq (gp n).x&&(kR n).ay==dq (gp n).y&&decide (-4<=(gp n).x)&&decide ((gp n).x<=4)&&decide (-4<=(gp n).y)&&decide ((gp n).y<=4))=eR:=j4
theorem aeE:∀i,i<9->∀j,j<9->gZ.sub (dq ((i:Nat)-4:Int)) (dq ((j:Nat)-4:Int))=dB (dq ((i:Int)-(j:Int))):=j4
theorem aeF:∀i,i<17->gZ.mul (dq ((i:Nat)-8:Int)) (dq ((i:Nat)-8:Int))=dB (dq (((i:Nat)-8:Int)*((i:Nat)-8:Int))):=j4
theorem aeG:∀i,i<9->∀j,j<9->gZ.add (dq (((i:Nat):Int)*(i:Nat))) (dq (((j:Nat):Int)*(j:Nat)))=dB (dq (((i:Nat):Int)*(i:Nat)+((j:Nat):Int)*(j:Nat))):=j4
theorem Xy:∀m,m<129->∀n,n<129->gZ.order (dq (m:Nat)) (dq (n:Nat))=dB (compare m n):=j4
theorem UZ{seq a c:Int}{b:aV}(d:ii b<=48):dT (kg seq a c b)=none:=by unfold dT kg;rw[xG i5 i5 l9];dsimp only;rw[g0 (by rintro⟨h,_⟩;exact absurd h i5)]
theorem rC{m:aC}{c:aV}(h:c∈bn m):dT c=none:=by unfold bn at h;obtain⟨i,_,rfl⟩:=qu.1 h;exact UZ i7
theorem Va(m n:aC):(bn n).filterMap (jd m)=[]:=by rw[List.filterMap_eq_nil_iff];intro c a;unfold jd;rw[rC a]
theorem Mb{α:Type}{R:α->α->Prop}(k:∀a b c,R a b->R b c->R a c){l:List α}(h:∀i (m:i+1<ii l),R (l[i]'(by omega)) l[i+1]):l.Pairwise R:=by
 have g:∀d i (f:i+(d+1)<ii l),R (l[i]'(by omega)) l[i+(d+1)]:=by
  intro d
  induction d with
  |zero=>exactλi f=>h i f
  |succ d ih=>exactλi f=>k _ _ _ (ih i i4) (h (i+(d+1)) i4)
 refine zu.2 λi j m f n=>?_;have:=g (j-i-1) i i4;have e:i+(j-i-1+1)=j:=i4
 simp only[e]at this;exact this
theorem Mc{α:Type}{R:α->α->Prop}{l:List α}(h:l.Pairwise R)(i:Nat)(a:i+1<ii l):R (l[i]'(by omega)) l[i+1]:=zu.1 h i (i+1) i4 a i4
theorem eE{α:Type}{l:List α}{i:Nat}(d:α)(h:i<ii l:=by omega):l.getD i d=l[i]:=by rw[qe,qd h];rfl
theorem kh(n a b:Int):fm n a b=eR↔a<=n/\n<=b:=by unfold fm;rw[qC,decide_eq_true_eq,decide_eq_true_eq]
theorem Xz(l:aw)(most:Int):oF l most=eR↔l.Pairwise (·<·)/\∀x∈l,0<=x/\x<=most:=by
 unfold oF;rw[q7];constructor
 ·intro h;have g:∀i (d:i<ii l),(0<=l[i]/\l[i]<=most)/\(i=0∨l.getD (i-1) 0<l[i]):=λi d=>by
   have:=h i (qJ.2 d);unfold jN at this;rw[eE 0 d,qC,kh,wu,decide_eq_true_eq,decide_eq_true_eq]at this;exact this
  refine⟨Mb (R:=λa b:Int=>a<b) (λa b c e f=>Int.lt_trans e f) λi d=>?_,λx j=>?_⟩
  ·rcases(g (i+1) d).2 with h0|h0
   ·omega
   ·rw[vh,eE 0]at h0;exact h0
  ·obtain⟨i,d,rfl⟩:=qL j;exact(g i d).1
 ·rintro⟨e,f⟩ i d;have d:=qJ.1 d;unfold jN;rw[eE 0 d,qC,kh,wu,decide_eq_true_eq,decide_eq_true_eq];refine⟨f _ (qg d),?_⟩;cases i with
  |zero=>exact .inl i0
  |succ i=>exact .inr (by rw[vh,eE 0];exact Mc e i d)
theorem OZ(a b c:ByteArray)(d:fp a b=eR)(e:fp b c=eR):fp a c=eR:=FT _ _ _ d e
theorem cx(m:aC):bL m=eR↔kV m=eR/\m.drives.Pairwise (·<·)/\(∀k∈m.drives,0<=k/\k<=63)/\m.aF.length<=12/\(∀e∈m.aF,gX m e=eR)/\m.aF.Pairwise (λa b=>fp a.name b.name=eR)/\m.aF.Pairwise (λa b=>a.object≠b.object):=by
 unfold bL;rw[qC,qC,qC,Xz,decide_eq_true_eq,q7];have o:(∀i∈qz m.aF.length,oG m i=eR)↔(∀e∈m.aF,gX m e=eR)/\m.aF.Pairwise (λa b=>fp a.name b.name=eR)/\m.aF.Pairwise (λa b=>a.object≠b.object):=by
  constructor
  ·intro h;have q:∀i (l:i<m.aF.length),gX m m.aF[i]=eR/\(i=0∨fp (oE m.aF (i-1)).name m.aF[i].name=eR)/\∀y∈m.aF.take i,y.object≠m.aF[i].object:=λi l=>by
    have:=h i (qJ.2 l);unfold oG at this;rw[nY l,qC,qC,wu,decide_eq_true_eq,wZ,wL]at this;exact⟨this.1,this.2.1,λy n=>by have:=this.2.2 y n;simpa using this⟩
   refine⟨λe t=>?_,Mb (R:=λa b:cz=>fp a.name b.name=eR) (λa b c r p=>OZ _ _ _ r p) λi l=>?_,zu.2 λi j l s u=>?_⟩
   ·obtain⟨i,l,rfl⟩:=qL t;exact(q i l).1
   ·rcases(q (i+1) l).2.1 with h0|h0
    ·omega
    ·rw[vh,nY]at h0;exact h0
   ·refine(q j s).2.2 m.aF[i] ?_;exact yo.2 ⟨i,i4,i0⟩
  ·rintro⟨r,p,h3⟩ i l;have l:=qJ.1 l;unfold oG;rw[nY l,qC,qC,wu,decide_eq_true_eq,wZ,wL];refine⟨r _ (qg l),?_,λy n=>?_⟩
   ·cases i with
    |zero=>exact .inl i0
    |succ i=>exact .inr (by rw[vh,nY];exact Mc p i l)
   ·obtain⟨j,s,rfl⟩:=yo.1 n;have:=zu.1 h3 j i i4 l i4;simpa using this
 rw[o];constructor
 ·rintro⟨a,⟨b,c⟩,d,e,f,g⟩;exact⟨a,b,c,d,e,f,g⟩
 ·rintro⟨a,b,c,d,e,f,g⟩;exact⟨a,⟨b,c⟩,d,e,f,g⟩
theorem fy(m:aC):kV m=eR↔(1<=m.seq/\m.seq<=2147483647)/\(0<=m.next/\m.next<=16777216)/\bM m.p=eR/\0<=m.extra/\m.extra<=16:=by unfold kV;rw[qC,qC,qC,kh,kh,kh]
theorem hJ(m:aC)(x:cz):gX m x=eR↔mB x.name=eR/\(0<=x.object/\x.object<m.next)/\(0<=x.length/\x.length<=m.p.1*m.p.2.2*8)/\(∀t∈x.tries,0<=t/\t<=15)/\(x.tries.length:Int)=countP m.p x.length:=by
 unfold gX;rw[qC,qC,qC,qC,kh,kh,q7,decide_eq_true_eq];simp only[kh];constructor
 ·rintro⟨a,b,c,d,e⟩;exact⟨a,⟨b.1,i4⟩,c,d,e⟩
 ·rintro⟨a,b,c,d,e⟩;exact⟨a,⟨b.1,i4⟩,c,d,e⟩
theorem nf{m:aC}(h:bL m=eR):m.drives.Nodup:=((cx m).1 h).2.1.imp λh e=>i4
theorem kL{m:aC}(h:bL m=eR):∀k∈m.drives,0<=k/\k<64:=λk a=>by have:=((cx m).1 h).2.2.1 k a;omega
theorem Hv:∀{l:aw} {a b:Int},l.Pairwise (·<·)->(∀k∈l,a<=k/\k<b)->a<=b->(ii l:Int)<=b-a
 |[],a,b,_,_,h=>i7
 |x::l,a,b,hp,hl,h=>by
  obtain⟨d,e⟩:=zG.1 hp;have f:=hl x qI;have:=Hv (a:=x+1) (b:=b) e (λk c=>⟨by have:=d k c;omega,(hl k (qD _ c)).2⟩) i4;rw[zh];omega
theorem jy{m:aC}(h:bL m=eR):ii m.drives<=64:=by have:=Hv ((cx m).1 h).2.1 (kL h) i5;omega
theorem RP(b:ByteArray):∀n i r,b.size-i=n->ByteArray.toList.loop b i r=r.reverse++b.data.toList.drop i:=by
 have c:ii b.data.toList=b.size:=rfl;intro n
 induction n with
 |zero=>
  intro i r h;rw[ByteArray.toList.loop,g0 i4,List.drop_eq_nil_of_le (by rw[c];omega),qM]
 |succ n ih=>
  intro i r h;have a:i<b.size:=i4
  rw[ByteArray.toList.loop,f9 a,ih (i+1) _ i4];have d:b.data.toList.drop i=b.get! i::b.data.toList.drop (i+1):=by rw[List.drop_eq_getElem_cons (by rw[c];exact a)];congr 1;show _=b.data[i]!;rw[getElem!_pos b.data i a,Array.getElem_toList]
  rw[d,List.reverse_cons,qp];rfl
theorem toList_eq(x:ByteArray):x.toList=x.data.toList:=by unfold ByteArray.toList;rw[RP x _ 0 [] rfl];rfl
theorem Vb{a b:ByteArray}(h:a.toList=b.toList):a=b:=by rw[toList_eq,toList_eq]at h;cases a;cases b;congr;exact Array.toList_inj.1 h
end Wl
namespace Go.Qw
open Go Go.Vc
def kt:Nat->Nat->Nat->List (List Nat)
 |0,_,_=>[[]]
 |t+1,a,n=>(zR a (n-t-a)).flatMap λi=>(kt t (i+1) n).map (i::·)
def jU(n:Nat):List Nat->Option (List Nat)
 |[]=>none
 |x::l=>match jU n l with
  |some l'=>dB (x::l')
  |none=>if x+ii l+1<n then dB (zR (x+1) (ii l+1))else none
inductive oQ (n:Nat):List Nat->List (List Nat)->Prop
 |last {l:List Nat}:jU n l=none->oQ n l [l]
 |more {l l':List Nat} {L:List (List Nat)}:jU n l=dB l'->oQ n l' L->oQ n l (l::L)
theorem Em{n:Nat}:∀{l l':List Nat},jU n l=dB l'->ii l'=ii l
 |[],_,h=>j8
 |x::l,l',h=>by
  unfold jU at h;cases hs:jU n l with
  |some m=>rw[hs]at h;injection h with h;subst h;simp[Em hs]
  |none=>
   rw[hs]at h;dsimp only at h;split at h
   ·injection h with h;subst h;simp
   ·cases h
theorem oQ.cons{n x t:Nat}{l:List Nat}{L R:List (List Nat)}(h:oQ n l L)(a:ii l=t)(c:x+t+1<n)(b:oQ n (zR (x+1) (t+1)) R):oQ n (x::l) (L.map (x::·)++R):=by
 induction h with
 |last hs=>exact .more (by unfold jU;rw[hs];dsimp only;rw[f9 i4,a]) b
 |more hs _ ih=>exact .more (by unfold jU;rw[hs]) (ih (by rw[Em hs,a]))
theorem oQ.afW{n x t:Nat}{l:List Nat}{L:List (List Nat)}(h:oQ n l L)(a:ii l=t)(b:¬x+t+1<n):oQ n (x::l) (L.map (x::·)):=by
 induction h with
 |last hs=>exact .last (by unfold jU;rw[hs];dsimp only;rw[g0 i4])
 |more hs _ ih=>exact .more (by unfold jU;rw[hs]) (ih (by rw[Em hs,a]))
theorem En(n:Nat):∀t a,a+t<=n->oQ n (zR a t) (kt t a n)
 |0,a,_=>.last i0
 |t+1,a,h=>by
  have b:∀m a,a+(t+1)<=n->m+1=n-t-a->oQ n (zR a (t+1)) ((zR a (m+1)).flatMap λi=>(kt t (i+1) n).map (i::·)):=by
   intro m
   induction m with
   |zero=>
    intro a h c;have:=(En n t (a+1) i4).afW (x:=a) (t:=t) i9 i4;simpa[yt]using this
   |succ m ih=>
    intro a h c;have:=(En n t (a+1) i4).cons (x:=a) (t:=t) i9 i4 (ih (a+1) i4 i4);rw[yt,yt (n:=m+1),zf];exact this
  have:=b (n-t-a-1) a h i4;rw[show n-t-a-1+1=n-t-a by omega]at this;exact this
theorem Pa{n:Nat}:∀(i:Nat) (l m:List Nat),i<=ii l->jU n (l.drop i)=dB m->jU n l=dB (l.take i++m)
 |0,l,m,_,h=>j5
 |i+1,[],m,h,_=>m9
 |i+1,x::l,m,h,hs=>by
  have:=Pa i l m j5 (by simpa using hs);unfold jU;rw[this];simp
theorem BW{n:Nat}:∀{t a:Nat} {s:List Nat},s∈kt t a n->ii s=t/\(∀x∈s,a<=x/\x<n)/\s.Pairwise (·<·)
 |0,a,s,h=>by simp[kt]at h;subst h;simp
 |t+1,a,s,h=>by
  simp only[kt,zS,qu,List.mem_range'_1]at h;obtain⟨i,f,l,e,rfl⟩:=h;obtain⟨d,c,h3⟩:=BW e;refine⟨qb,?_,zG.2 ⟨λx b=>(c x b).1,h3⟩⟩;intro x b;rcases q8.1 b with rfl|b
  ·omega
  ·have:=c x b;omega
theorem Pb{n:Nat}:∀{t a:Nat} {s:List Nat},ii s=t->(∀x∈s,a<=x/\x<n)->s.Pairwise (·<·)->s∈kt t a n
 |0,a,s,h,_,_=>by simp[kt];simpa using h
 |t+1,a,[],h,_,_=>m9
 |t+1,a,x::l,h,hb,c=>by
  rw[zG]at c;have e:ii l=t:=j5
  simp only[kt,zS,qu,List.mem_range'_1];have g:=hb x i9;refine⟨x,⟨g.1,?_⟩,l,Pb e (λy b=>⟨c.1 y b,(hb y l4).2⟩) c.2,i0⟩;have d:∀(l:List Nat) (x:Nat),(x::l).Pairwise (·<·)->(∀y∈x::l,y<n)->x+ii l<n:=by
   intro l
   induction l with
   |nil=>intro x _ b;exact b x i9
   |cons y l ih=>
    intro x c b;rw[zG]at c;have i:=ih y c.2 λz f=>b z (qD _ f);have j:=c.1 y i9;simp;omega
  have:=d l x (zG.2 c) λy b=>(hb y b).2;omega
def ch:Nat->Nat->Nat
 |_,0=>1
 |0,_+1=>0
 |n+1,k+1=>ch n k+ch n (k+1)
theorem ng(n:Nat):ch n 0=1:=by cases n<;>rfl
theorem Ga:∀(n k:Nat),n<k->ch n k=0
 |_,0,h=>i4
 |0,k+1,_=>rfl
 |n+1,k+1,h=>by rw[ch,Ga n k i4,Ga n (k+1) i4]
theorem KN:∀n,ch n n=1
 |0=>rfl
 |n+1=>by rw[ch,KN n,Ga n (n+1) i4]
theorem Eo:∀(n k:Nat),(k+1)*ch (n+1) (k+1)=(n+1)*ch n k
 |0,0=>rfl
 |0,k+1=>by rw[Ga 0 (k+1) i4,Ga (0+1) (k+1+1) i4];simp
 |n+1,0=>by
  have:=Eo n 0;rw[ng]at this⊢;rw[ch,ng,Nat.mul_add,this];omega
 |n+1,k+1=>by
  have c:=Eo n k;have b:=Eo n (k+1);rw[ch];have e:(k+1+1)*(ch (n+1) (k+1)+ch (n+1) (k+1+1))=((k+1)*ch (n+1) (k+1)+ch (n+1) (k+1))+(k+1+1)*ch (n+1) (k+1+1):=by rw[Nat.mul_add,zH (k+1)]
  rw[e,c,b];have a:ch (n+1) (k+1)=ch n k+ch n (k+1):=rfl;rw[a,zH (n+1),Nat.mul_add (n+1)];omega
theorem TN{n k:Nat}(h:k<=n):ch n (k+1)*(k+1)=ch n k*(n-k):=by
 cases n with
 |zero=>
  have:k=0:=i4
  subst this;rfl
 |succ n=>
  have c:=Eo n k;have d:(n+1)*ch n k=(n+1-k)*ch (n+1) k:=by
   cases k with
   |zero=>rw[ng,ng];simp
   |succ k=>
    have h3:=Eo n k;have a:ch (n+1) (k+1)=ch n k+ch n (k+1):=rfl;have e:(n+1)*ch (n+1) (k+1)=(n+1)*ch n k+(n+1)*ch n (k+1):=by rw[a,Nat.mul_add]
    have b:(n+1-(k+1))*ch (n+1) (k+1)=(n+1)*ch (n+1) (k+1)-(k+1)*ch (n+1) (k+1):=Nat.sub_mul _ _ _;rw[b,h3,e];omega
  rw[vu,c,d,vu]
theorem afX{n k:Nat}(h:2*(k+1)<=n+1):ch n k<=ch n (k+1):=by
 have b:=TN (n:=n) (k:=k) i4;by_cases h0:ch n k=0
 ·omega
 ·have a:ch n k*(k+1)<=ch n (k+1)*(k+1):=by rw[b];exact Nat.mul_le_mul_left _ i4
  exact Nat.le_of_mul_le_mul_right a i4
theorem Pc:∀(n k:Nat),k<=n->ch n k=ch n (n-k)
 |0,0,_=>rfl
 |n+1,0,_=>by rw[ng,Nat.sub_zero,KN]
 |n+1,k+1,h=>by
  by_cases c:k=n
  ·subst c;rw[KN,Nat.sub_self,ng]
  ·have b:=Pc n k i4;have a:=Pc n (k+1) i4;rw[show n+1-(k+1)=(n-(k+1))+1 by omega,ch,ch,b,a,show n-k=n-(k+1)+1 by omega];omega
theorem Hw(n:Nat):∀t a,a<=n->ii (kt t a n)=ch (n-a) t
 |0,a,_=>by rw[ng];rfl
 |t+1,a,h=>by
  have b:∀m a,m=n-t-a->a<=n->ii ((zR a m).flatMap λi=>(kt t (i+1) n).map (i::·))=ch (n-a) (t+1):=by
   intro m
   induction m with
   |zero=>intro a d c;rw[Ga _ _ i4];rfl
   |succ m ih=>
    intro a d c;rw[yt,zf,qw,qx,Hw n t (a+1) i4,ih (a+1) i4 i4];rw[show n-a=n-(a+1)+1 by omega];rfl
  exact b _ a i0 h
def gI(n t:Int):Int:=if 0<=n/\n<=64/\0<=t/\t<=n then(min (ch n.toNat t.toNat) 4097:Nat)else 0
end Go.Qw
namespace Wl
open Classical
def fk(r:Row):Nat:=r.findIdx (λx=>x !=0)
def eG(M:aL)(r:Row):Row:=M.foldl (λout x=>cY (aN out (fk x)) x out) r
def mQ(m:aL):aL:=(bI m (eK m)).2.take (ca m)
def Pd(M:aL)(r:Row):aL:=if fk (eG M r)<ii (eG M r) then mQ (M++[eG M r])else M
theorem KO{r:Row}{c:Nat}(h:c<ii r):aN r c=r[c]:=by rw[aN,qe,qd h];rfl
theorem adw{r:Row}{j:Nat}(h:aN r j≠0):fk r<ii r:=by have a:j<ii r:=Nat.lt_of_not_le λb=>h (by simp[aN,qe,qP b]);rw[fk,wY];exact⟨r[j],qg a,by rw[<-KO a];simpa using h⟩
theorem XA{r:Row}(h:¬fk r<ii r):r=aJ r.length:=by rw[fk,wY]at h;refine eO i0 k7 λj a=>?_;rw[cB,KO a];have c:¬((r[j] !=0)=eR):=λb=>h ⟨r[j],qg a,b⟩;simpa using c
variable {n:Nat} {m M A:aL}
theorem Hx(b:aY n M){r:Row}(a:ii r=n):ii (eG M r)=n:=by
 unfold eG
 induction M generalizing r with
 |nil=>exact a
 |cons x M ih=>
  rw[zE];exact ih (λy c=>b y (qD _ c)) (by rw[bZ (by rw[b x i9,a])];exact a)
theorem XB{c:UInt8}{a t:Row}(h:ii a=ii t):cY c a (cY c a t)=t:=
 eO (n:=ii t) (by rw[bZ (by rw[bZ h];exact h),bZ h]) i0 λj _=>by
  rw[cN (by rw[bZ h];exact h),cN h,pO]
theorem Md(a:aY n m)(d:∀x∈M,Span n m x){r:Row}(e:ii r=n):Span n m (eG M r)↔Span n m r:=by
 unfold eG
 induction M generalizing r with
 |nil=>exact Iff.rfl
 |cons x M ih=>
  have b:=d x i9;have c:ii x=ii r:=by rw[b.len a,e]
  rw[zE,ih (λy f=>d y (qD _ f)) (by rw[bZ c];exact e)];refine⟨λh=>?_,λh=>b.comb a h _⟩;have:=b.comb a h (aN r (fk x));rw[XB c]at this;exact this
structure BX (n:Nat) (M A:aL):Prop where
 even:aY n M
 evenA:aY n A
 span:∀v,Span n M v↔Span n A v
 len:ii M=ca A
 lead:∀x∈M,fk x<n
theorem aeH(n:Nat):BX n [] []:=⟨λ_ h=>j8,λ_ h=>j8,λ_=>Iff.rfl,by simp[ca,kq],λ_ h=>j8⟩
theorem Mf(b:aY n m)(a:aY n A)(h:∀v,Span n m v↔Span n A v):ca m=ca A:=by rw[lN b,lN a];congr 1;funext v;exact propext (h v)
theorem Pe(a:aY n m):Way n m n (ca m) (bI m (eK m)).2:=by
 have h:=FW a n (qm _);cases m with
 |nil=>rw[kq]at h;rw[ca,kq];exact h
 |cons x t=>
  have b:eK (x::t)=n:=by rw[eK,bz i9];exact a _ i9
  rw[ca,b];exact h
theorem aeI(z:aY n m):aY n (mQ m)/\(∀v,Span n (mQ m) v↔Span n m v)/\(mQ m).length=ca m/\∀x∈mQ m,fk x<n:=by
 have w:=Pe z;obtain⟨b,q,y,i,s,⟨p,F,B,D,E⟩,d⟩:=w;have a:aY n (mQ m):=λx h=>b x (zD h);refine⟨a,λv=>?_,by rw[mQ,qU];omega,λx h=>?_⟩
 ·rw[<-i v];refine⟨Span.mono λr g=>zD g,Span.sub a λr g=>?_⟩;obtain⟨k,c,rfl⟩:=fj g;by_cases A:k<ca m
  ·refine Span.row a ?_;have:aB (bI m (eK m)).2 k=aB (mQ m) k:=by rw[bz c,bz (by rw[mQ,qU];omega)];simp[mQ]
   rw[this];exact mem_row (by rw[mQ,qU];omega)
  ·have:aB (bI m (eK m)).2 k=aJ n:=eO (b _ g) k7 λj u=>by rw[cB];exact d k i4 c j u
   rw[this];exact .zero
 ·obtain⟨k,c,rfl⟩:=fj h;have l:k<ca m:=by rw[mQ,qU]at c;omega
  have f:k<(bI m (eK m)).2.length:=i4
  have e:aB (mQ m) k=aB (bI m (eK m)).2 k:=by rw[bz f,bz c];simp[mQ]
  have t:=B k l k f;rw[f9 rfl]at t;have o:=adw (r:=aB (mQ m) k) (j:=p k) (by rw[e,t];decide);rw[a _ h]at o;exact o
theorem aaz(h:∀v,Span n M v↔Span n A v)(i:aY n M)(g:aY n A){r:Row}(l:ii r=n){rest:Row}(o:ii rest=n)
  (f:∀m,aY n m->(∀x∈M,Span n m x)->(Span n m rest↔Span n m r)):∀v,Span n (M++[rest]) v↔Span n (A++[r]) v:=λv=>by
 have b:=mO i o;have c:=mO g l;have j:∀x∈M,Span n (M++[rest]) x:=λx d=>Span.row b (zp _ d);have e:∀x∈M,Span n (A++[r]) x:=λx d=>Span.mono (λy a=>zp _ a) ((h x).1 (Span.row i d));constructor
 ·refine Span.sub c λy a=>?_;rcases qA.1 a with a|a
  ·exact e y a
  ·rw[qB]at a;subst a;exact(f _ c e).2 (Span.row c i9)
 ·refine Span.sub b λy a=>?_;rcases qA.1 a with a|a
  ·exact Span.mono (λz k=>zp _ k) ((h y).2 (Span.row g a))
  ·rw[qB]at a;subst a;exact(f _ b j).1 (Span.row b i9)
theorem XC(h:BX n M A){r:Row}(c:ii r=n):BX n (Pd M r) (A++[r]):=by
 have d:=Hx h.even c;have j:=aaz h.span h.even h.evenA c d λm k l=>Md k l c;have e:=mO h.evenA c;unfold Pd;split
 ·have t:=aeI (mO h.even d);refine⟨t.1,e,λv=>(t.2.1 v).trans (j v),?_,t.2.2.2⟩;rw[t.2.2.1];exact Mf (mO h.even d) e j
 ·rename_i g;have g:=XA g;have f:Span n M r:=(Md h.even (λx i=>Span.row h.even i) c).1 (by rw[g,d];exact .zero);have b:∀v,Span n M v↔Span n (A++[r]) v:=λv=>by
   rw[h.span v];refine⟨Span.mono λx i=>zp _ i,Span.sub h.evenA λy a=>?_⟩;rcases qA.1 a with a|a
   ·exact Span.row h.evenA a
   ·rw[qB]at a;subst a;exact(h.span _).1 f
  refine⟨h.even,e,b,?_,h.lead⟩;rw[h.len];exact Mf h.evenA e λv=>(h.span v).symm.trans (b v)
abbrev fq:=aw×Row
def cU(x:Int->UInt8):aw->UInt8
 |[]=>0
 |c::l=>x c^^^cU x l
theorem ku{x y:Int->UInt8}:∀{l:aw},(∀c∈l,x c=y c)->cU x l=cU y l
 |[],_=>rfl
 |c::l,h=>by rw[cU,cU,h c i9,ku λd a=>h d oi]
theorem GI(x:Int->UInt8)(p:Int->Bool):∀l,cU x l=cU x (l.filter p)^^^cU x (l.filter λc=>!p c)
 |[]=>by simp[cU]
 |c::l=>by
  rw[cU,GI x p l];cases h:p c<;>simp only[zr,h,yf,yg,if_true,zn,if_false,cU]<;>ac_rfl
theorem xK(x:Int->UInt8){c:Int}:∀{l:aw},l.Nodup->c∈l->cU x l=x c^^^cU x (l.filter λd=>!decide (d=c))
 |[],_,h=>j8
 |d::l,hd,h=>by
  rw[wU]at hd;rcases q8.1 h with rfl|h
  ·have:l.filter (λd=>!decide (d=c))=l:=zZ.2 λe f=>by
    have:e≠c:=λa=>hd.1 (a▸f);simp[this]
   rw[zr];simp only[decide_true,yf,zn,if_false];rw[this,cU]
  ·have b:d≠c:=λa=>hd.1 (a▸h);rw[zr,f9 l4,cU,cU,xK x hd.2 h];ac_rfl
theorem Pf(x y:Int->UInt8):∀l,cU (λc=>x c^^^y c) l=cU x l^^^cU y l
 |[]=>by simp[cU]
 |c::l=>by rw[cU,cU,cU,Pf x y l];ac_rfl
theorem Ep:∀{x:Int->UInt8} {l:aw},(∀c∈l,x c=0)->cU x l=0
 |_,[],_=>rfl
 |x,c::l,h=>by rw[cU,h c i9,Ep λd a=>h d oi];rfl
def cV(V:aL)(a:Row)(l:aw):Row:=l.foldl (λa c=>cY 1 (aB V c.toNat) a) a
theorem jQ{V:aL}{m:Nat}:∀{l:aw} {a:Row},ii a=m->(∀c∈l,ii (aB V c.toNat)=m)->ii (cV V a l)=m
 |[],a,h,_=>h
 |c::l,a,h,hv=>by
  rw[cV,zE];exact jQ (l:=l) (by rw[bZ (by rw[hv c i9,h])];exact h) λd b=>hv d l4
theorem Hy{V:aL}{m:Nat}(j:Nat):∀{l:aw} {a:Row},ii a=m->(∀c∈l,ii (aB V c.toNat)=m)->aN (cV V a l) j=aN a j^^^cU (λc=>aN (aB V c.toNat) j) l
 |[],a,_,_=>by simp[cV,cU]
 |c::l,a,h,hv=>by
  have b:ii (aB V c.toNat)=ii a:=by rw[hv c i9,h]
  rw[cV,zE];have:=Hy (V:=V) j (l:=l) (a:=cY 1 (aB V c.toNat) a) (by rw[bZ b];exact h) λd e=>hv d q6;rw[cV]at this;rw[this,cN b,Gf.one_mul,cU];ac_rfl
def Sat(t:UInt8)(k:Nat)(x:Int->UInt8)(e:fq):Prop:=cU x e.1=Gf.mul t (aN e.2 k)
structure iT (n w:Nat) (e:fq):Prop where
 cZ:∀c∈e.1,0<=c/\c<(n:Int)
 nodup:e.1.Nodup
 len:ii e.2=w
def kn(known:List Bool)(c:Int):Bool:=known.getD c.toNat eS
def fv(known:List Bool)(vals:aL)(e:fq):fq:=(e.1.filter λc=>!kn known c,cV vals e.2 (e.1.filter λc=>kn known c))
structure jR (n w:Nat) (l:List fq) (known:List Bool) (vals:aL):Prop where
 klen:ii known=n
 vlen:ii vals=n
 row:∀c:Nat,c<n->ii (aB vals c)=if known.getD c eS then w else 0
 sound:∀t k x,k<w->(∀e∈l,Sat t k x e)->∀c:Int,0<=c->c<(n:Int)->kn known c=eR->x c=Gf.mul t (aN (aB vals c.toNat) k)
variable {w:Nat} {l:List fq} {known:List Bool} {vals:aL}
theorem Vd(n w:Nat)(l:List fq):jR n w l (qh n eS) (qh n []):=by
 refine⟨i9,i9,λc b=>?_,λt k x f e c h0 d a=>?_⟩
 ·rw[bz j6];simp[qe,b]
 ·exfalso;rw[kn,qe,List.getElem?_replicate]at a;split at a<;>simp at a
theorem jR.Er(h:jR n w l known vals){c:Int}(b:0<=c)(d:c<(n:Int))(a:kn known c=eR):ii (aB vals c.toNat)=w:=by have:=h.row c.toNat i4;rw[kn]at a;rw[a]at this;simpa using this
theorem jR.AS(h:jR n w l known vals){e:fq}(b:iT n w e):iT n w (fv known vals e):=
 ⟨λc d=>b.cZ c (qH.1 d).1,b.nodup.filter _,jQ b.len λc d=>by
  have a:=qH.1 d;exact h.Er (b.cZ c a.1).1 (b.cZ c a.1).2 a.2⟩
theorem jR.Gb(h:jR n w l known vals){e:fq}(g:iT n w e){t:UInt8}{k:Nat}{x:Int->UInt8}(o:∀c:Int,0<=c->c<(n:Int)->kn known c=eR->x c=Gf.mul t (aN (aB vals c.toNat) k)):
  Sat t k x (fv known vals e)↔Sat t k x e:=by
 have d:∀c∈e.1.filter λc=>kn known c,ii (aB vals c.toNat)=w:=λc f=>by
  have b:=qH.1 f;exact h.Er (g.cZ c b.1).1 (g.cZ c b.1).2 b.2
 have j:cU x (e.1.filter λc=>kn known c)=Gf.mul t (cU (λc=>aN (aB vals c.toNat) k) (e.1.filter λc=>kn known c)):=by
  rw[ku (y:=λc=>Gf.mul t (aN (aB vals c.toNat) k)) λc f=>o c (g.cZ c (qH.1 f).1).1 (g.cZ c (qH.1 f).1).2 (qH.1 f).2];generalize e.1.filter (λc=>kn known c)=m
  induction m with
  |nil=>simp[cU,Gf.mul_zero]
  |cons a m ih=>rw[cU,cU,Gf.kf,ih]
 unfold Sat fv;dsimp only;rw[Hy k g.len d,Gf.kf,<-j,GI x (λc=>kn known c) e.1];constructor
 ·intro i;rw[i];rw[vq,pO]
 ·intro i;rw[<-i];rw[vq (cU x (e.1.filter λc=>kn known c)),pO]
theorem aeJ{known:List Bool}{c d:Int}(b:0<=c)(a:0<=d)(e:c<(ii known:Int)):kn (known.set c.toNat eR) d=(decide (d=c)||kn known d):=by
 unfold kn;rw[qe,zb];by_cases h:d=c
 ·subst h;rw[f9 i0,f9 i4];simp
 ·rw[g0 i4];simp[h]
theorem XD(h:jR n w l known vals)(q:∀e∈l,iT n w e){e:fq}(f:e∈l){c:Int}(p:(fv known vals e).1=[c]):jR n w l (known.set c.toNat eR) (vals.set c.toNat (fv known vals e).2):=by
 have b:=h.AS (q e f);have j:=b.cZ c (by rw[p];simp);have r:=h.vlen;have g:=h.klen;refine⟨mn,by simp[r],λd s=>?_,λt k x m i d h0 u o=>?_⟩
 ·rw[lj,qe,zb];by_cases a:c.toNat=d
  ·subst a;simp[show c.toNat<ii known by omega,b.len]
  ·rw[g0 a,g0 a,h.row d s,qe]
 ·rw[aeJ j.1 h0 i4]at o;rw[lj];by_cases a:d=c
  ·subst a;rw[f9 rfl];have:=(h.Gb (q e f) (h.sound t k x m i)).2 (i e f);unfold Sat at this;rw[p]at this;simpa[cU]using this
  ·rw[g0 i4];exact h.sound t k x m i d h0 u (by simpa[a]using o)
theorem Es(h:jR n w l known vals)(e:fq):∀c∈(fv known vals e).1,kn known c=eS:=λc a=>by
 have:=(qH.1 a).2;simpa using this
def bg(known:List Bool)(vals:aL)(l:List fq):List fq:=(l.map (fv known vals)).filter λe=>!e.1.isEmpty
def kv(known:List Bool)(vals:aL)(l:List fq):Bool:=(l.map (fv known vals)).any λe=>e.1.isEmpty&&e.2.any (· !=0)
theorem Ph(h:jR n w l known vals)(i:∀e∈l,iT n w e)(g:kv known vals l=eS){t:UInt8}{k:Nat}{x:Int->UInt8}(j:k<w):
  (∀e∈l,Sat t k x e)↔(∀c:Int,0<=c->c<(n:Int)->kn known c=eR->x c=Gf.mul t (aN (aB vals c.toNat) k))/\∀e∈bg known vals l,Sat t k x e:=by
 constructor
 ·intro f;refine⟨h.sound t k x j f,λe b=>?_⟩;obtain⟨m,d,rfl⟩:=qu.1 (qH.1 b).1;exact(h.Gb (i m d) (h.sound t k x j f)).2 (f m d)
 ·rintro⟨r,q⟩ e b;refine(h.Gb (i e b) r).1 ?_;by_cases a:(fv known vals e).1=[]
  ·unfold Sat;rw[a,cU];have o:((fv known vals e).1.isEmpty&&(fv known vals e).2.any (· !=0))=eS:=by have:=wL.1 g _ (List.mem_map_of_mem b);simpa using this
   rw[a]at o;have p:∀y∈(fv known vals e).2,y=0:=by simpa using o
   have h3:=(h.AS (i e b)).len;have:aN (fv known vals e).2 k=0:=by rw[aN,qe,qd i4];exact p _ (qg _)
   rw[this,Gf.mul_zero]
  ·refine q _ (qH.2 ⟨List.mem_map_of_mem b,?_⟩);simpa using a
theorem Ve(h:jR n w l known vals)(j:∀e∈l,iT n w e)(f:kv known vals l=eR):∃k,k<w/\∀x:Int->UInt8,¬∀e∈l,Sat 1 k x e:=by
 obtain⟨y,m,g⟩:=wk.1 f;obtain⟨e,b,rfl⟩:=qu.1 m;rw[qC]at g;obtain⟨z,p,a⟩:=wk.1 g.2;obtain⟨k,o,rfl⟩:=qL p;have h3:=(h.AS (j e b)).len;refine⟨k,i4,λx i=>?_⟩;have d:=(h.Gb (j e b) (h.sound 1 k x i4 i)).2 (i e b);unfold Sat at d;have c:(fv known vals e).1=[]:=by simpa using g.1
 rw[c,cU,Gf.one_mul,aN,qe,qd o]at d;simp at a;exact a d.symm
def jY(op:List Bool)(c:Int):Bool:=op.getD c.toNat eS
def dj(op:List Bool)(r:aw):aw:=r.filter (jY op)
def mC(rows:bP)(op us:List Bool)(i:Nat):Bool:=!(us.getD i eS)&&ii (dj op (rows.getD i []))==1
def mD(rows:bP)(op us:List Bool):Option Nat:=(qz rows.length).find? (mC rows op us)
def fl(rows:bP)(op:List Bool)(i:Nat):Int:=(dj op (rows.getD i [])).getLast?.getD 0
def kw(a:aw)(r:aw):aw:=r.foldl (λa c=>a.set c.toNat (a.getD c.toNat 0+1)) a
def lp(g:Nat->aw->aw)(rows:bP)(us:List Bool)(a:aw):Nat->aw
 |0=>a
 |k+1=>if us.getD k eS then lp g rows us a k else kw (lp g rows us a k) (g k (rows.getD k []))
def iO(op:List Bool)(a:aw):Nat->Int
 |0=>-1
 |k+1=>if op.getD k eS&&(decide (iO op a k<0)||decide (a.getD k 0>a.getD (iO op a k).toNat 0))then(k:Int)else iO op a k
def hO(rows:bP)(op us:List Bool):Int:=iO op (lp (λ_ r=>r) rows us (qh op.length 0) rows.length) op.length
structure Pl where
 steps:List (Int×Int)
 dead:aw
 used:List Bool
def cJ(rows:bP):Nat->List Bool->List Bool->Pl
 |0,_,us=>⟨[],[],us⟩
 |k+1,op,us=>
  if op.contains eR then
   match mD rows op us with
   |some i=>let r:=cJ rows k (op.set (fl rows op i).toNat eS) (us.set i eR);⟨((i:Int),fl rows op i)::r.steps,r.dead,r.used⟩
   |none=>let r:=cJ rows k (op.set (hO rows op us).toNat eS) us;⟨r.steps,hO rows op us::r.dead,r.used⟩
  else⟨[],[],us⟩
def fD(us:List Bool):Nat->aw
 |0=>[]
 |k+1=>if us.getD k eS then fD us k else fD us k++[(k:Int)]
def dL(n:Nat)(rows:bP):Pl:=cJ rows n (qh n eR) (qh rows.length eS)
theorem XE{P:Nat->Bool}{n:Nat}(h:∀j,j<n->P j=eS):(qz n).find? P=none:=by rw[yu];intro x a;rw[qJ]at a;simp[h x a]
theorem XF{P:Nat->Bool}{n k:Nat}(f:k<n)(h:∀j,j<k->P j=eS)(d:P k=eR):(qz n).find? P=dB k:=by
 rw[List.find?_eq_some_iff_append];refine⟨d,qz k,zR (k+1) (n-k-1),?_,λa b=>?_⟩
 ·rw[yX,yX];have c:n=k+(n-k):=i4
  have e:n-k=(n-k-1)+1:=i4
  conv=>lhs;rw[c,<-List.range'_append_1 (s:=0) (m:=k) (n:=n-k)]
  rw[wh]
  conv=>lhs;rw[e,yt]
 ·rw[qJ]at b;simp[h a b]
theorem RQ(a r:aw)(c:Int):kw a (r++[c])=(kw a r).set c.toNat ((kw a r).getD c.toNat 0+1):=by simp[kw]
theorem De(b r:aw):ii (kw b r)=ii b:=by
 induction r generalizing b with
 |nil=>rfl
 |cons a t ih=>simp only[kw,zE]at*;rw[ih];simp
theorem BY(g:Nat->aw->aw)(rows:bP)(us:List Bool)(a:aw):∀k,ii (lp g rows us a k)=ii a
 |0=>rfl
 |k+1=>by
  unfold lp;split
  ·exact BY g rows us a k
  ·rw[De,BY g rows us a k]
theorem Et{m:Int}:∀{r c:aw},(∀x∈c,0<=x/\x<=m)->∀x∈kw c r,0<=x/\x<=m+ii r
 |[],c,h,x,hx=>by have:=h x hx;simp;omega
 |a::t,c,h,x,hx=>by
  have d:∀y∈c.set a.toNat (c.getD a.toNat 0+1),0<=y/\y<=m+1:=by
   intro y b;rcases List.mem_or_eq_of_mem_set b with b|b
   ·have:=h y b;omega
   ·subst b;rw[qe];cases hc:c[a.toNat]? with
    |none=>
     rw[List.getElem?_eq_none_iff]at hc;rw[List.set_eq_of_length_le hc]at b;have:=h _ b;rw[qe,qP hc]at this;simp at this⊢;omega
    |some z=>have:=h z (List.mem_of_getElem? hc);simp;omega
  have:=Et (r:=t) d x hx;simp only[zh];omega
theorem Pj(g:Nat->aw->aw){rows:bP}{us:List Bool}{n:Nat}(a:∀k,ii (g k (rows.getD k []))<=64):∀k,∀x∈lp g rows us (qh n 0) k,0<=x/\x<=64*k
 |0,x,hx=>by
  have:=List.eq_of_mem_replicate hx;subst this;simp
 |k+1,x,hx=>by
  unfold lp at hx;split at hx
  ·have:=Pj g a k x hx;omega
  ·have:=Et (Pj g a k) x hx;have:=a k;omega
theorem Mg(op:List Bool)(a:aw):∀k,(iO op a k=-1/\∀j,j<k->op.getD j eS=eS)∨(0<=iO op a k/\iO op a k<k/\op.getD (iO op a k).toNat eS=eR)
 |0=>.inl ⟨i0,λj b=>i4⟩
 |k+1=>by
  unfold iO;split
  ·rename_i c;simp only[qC]at c;exact .inr ⟨i4,i4,by rw[ql];exact c.1⟩
  ·rename_i c;rcases Mg op a k with⟨e,h⟩|⟨h1,h2,h3⟩
   ·refine .inl ⟨e,λj b=>?_⟩;rcases zy.1 b with b|rfl
    ·exact h j b
    ·by_cases d:op.getD j eS=eR
     ·exact absurd (by rw[d,e];rfl) c
     ·simpa using d
   ·exact .inr ⟨h1,i4,h3⟩
theorem Eu{op:List Bool}(h:op.contains eR=eR):∃j,j<ii op/\op.getD j eS=eR:=by simp only[List.contains_iff_mem]at h;obtain⟨j,a,e⟩:=qL h;exact⟨j,a,by rw[qe,qd a];exact e⟩
theorem rP{rows:bP}{op us:List Bool}(h:op.contains eR=eR):0<=hO rows op us/\hO rows op us<ii op/\op.getD (hO rows op us).toNat eS=eR:=by
 obtain⟨j,a,e⟩:=Eu h;rcases Mg op (lp (λ_ r=>r) rows us (qh op.length 0) rows.length) op.length with⟨_,h2⟩|h2
 ·rw[h2 j a]at e;cases e
 ·exact h2
theorem sK{rows:bP}{op us:List Bool}{i:Nat}(h:mD rows op us=dB i):i<ii rows/\mC rows op us i=eR:=by have a:=List.mem_of_find?_eq_some h;have b:=List.find?_some h;exact⟨qJ.1 a,b⟩
theorem BZ{rows:bP}{op us:List Bool}{i:Nat}(d:mC rows op us i=eR):dj op (rows.getD i [])=[fl rows op i]/\fl rows op i∈rows.getD i []/\jY op (fl rows op i)=eR:=by
 simp only[mC,qC,beq_iff_eq]at d;obtain⟨c,b⟩:=List.length_eq_one_iff.1 d.2;have e:fl rows op i=c:=by unfold fl;rw[b];rfl
 have a:c∈dj op (rows.getD i []):=by rw[b];simp
 rw[dj,qH]at a;rw[e];exact⟨b,a.1,a.2⟩
theorem kM{op:List Bool}{j:Nat}(h:op.getD j eS=eR):(op.set j eS).count eR+1=op.count eR:=by
 have a:j<ii op:=by
  by_cases a:j<ii op
  ·exact a
  ·rw[qe,qP i4]at h;cases h
 have e:op[j]=eR:=by rw[qe,qd a]at h;exact h
 have b:0<op.count eR:=List.count_pos_iff.2 (e▸qg a);rw[List.count_set a,e];simp;omega
theorem Pk{op:List Bool}(h:op.count eR=0):op.contains eR=eS:=by rw[List.count_eq_zero]at h;simpa using h
theorem xL{rows:bP}{op us:List Bool}(h:op.contains eR=eS):∀k,cJ rows k op us=⟨[],[],us⟩
 |0=>rfl
 |k+1=>by unfold cJ;rw[h];rfl
theorem oo{rows:bP}{op us:List Bool}{i k:Nat}(h:op.contains eR=eR)(a:mD rows op us=dB i):
  cJ rows (k+1) op us=⟨((i:Int),fl rows op i)::(cJ rows k (op.set (fl rows op i).toNat eS) (us.set i eR)).steps,(cJ rows k (op.set (fl rows op i).toNat eS) (us.set i eR)).dead,(cJ rows k (op.set (fl rows op i).toNat eS) (us.set i eR)).used⟩:=by
 rw[cJ,h,a];rfl
theorem oq{rows:bP}{op us:List Bool}{k:Nat}(h:op.contains eR=eR)(a:mD rows op us=none):
  cJ rows (k+1) op us=⟨(cJ rows k (op.set (hO rows op us).toNat eS) us).steps,hO rows op us::(cJ rows k (op.set (hO rows op us).toNat eS) us).dead,(cJ rows k (op.set (hO rows op us).toNat eS) us).used⟩:=by
 rw[cJ,h,a];rfl
theorem sg(rows:bP):∀k op us,(cJ rows k op us).used.length=ii us
 |0,_,_=>rfl
 |k+1,op,us=>by
  unfold cJ;split
  ·split
   ·show(cJ rows k _ _).used.length=_;rw[sg];simp
   ·show(cJ rows k _ _).used.length=_;rw[sg]
  ·rfl
theorem Gc(us:List Bool):∀k,ii (fD us k)<=k
 |0=>by simp[fD]
 |k+1=>by
  have:=Gc us k;unfold fD;split<;>simp<;>omega
theorem sA{op:List Bool}{f:Nat}(h:op.count eR=f+1):op.contains eR=eR:=by
 have:0<op.count eR:=i4
 rw[List.count_pos_iff]at this;simpa using this
theorem RR{P:Nat->Bool}{n j:Nat}(a:j<n)(h:P j=eR):∃i,(qz n).find? P=dB i:=by
 cases hf:(qz n).find? P with
 |some i=>exact⟨i,i0⟩
 |none=>
  rw[yu]at hf;exact absurd h (hf j (qJ.2 a))
theorem jz(l:List Bool)(i j:Nat)(x:Bool):(l.set i x).getD j eS=if i=j/\j<ii l then x else l.getD j eS:=by
 simp only[qe,zb];by_cases h:i=j
 ·subst h;by_cases a:i<ii l<;>simp[a]
 ·simp[h]
def ug(rows:bP)(op us:List Bool):Prop:=∀i,us.getD i eS=eR->dj op (rows.getD i [])=[]
theorem nh{op:List Bool}{c d:Int}(h:jY (op.set d.toNat eS) c=eR):jY op c=eR/\c.toNat≠d.toNat:=by
 unfold jY at*;rw[jz]at h;by_cases e:d.toNat=c.toNat
 ·rw[f9]at h
  ·cases h
  ·refine⟨e,?_⟩;by_cases b:c.toNat<ii op
   ·exact b
   ·rw[g0 λa=>b a.2,qe,qP i4]at h;cases h
 ·rw[g0 λa=>e a.1]at h;exact⟨h,λa=>e a.symm⟩
theorem XG{rows:bP}{op us:List Bool}{i:Nat}(h:ug rows op us)(k:mC rows op us i=eR):ug rows (op.set (fl rows op i).toNat eS) (us.set i eR):=by
 obtain⟨m,n,h3⟩:=BZ k;intro j b;rw[jz]at b;rw[dj,wX];intro c l f;obtain⟨f,d⟩:=nh f;have a:c∈dj op (rows.getD j []):=by rw[dj,qH];exact⟨l,f⟩
 by_cases e:i=j
 ·subst e;rw[m]at a;simp at a;exact d (by rw[a])
 ·rw[g0 λg=>e g.1]at b;rw[h j b]at a;simp at a
theorem Ev(n j:Nat):(qh n eS).getD j eS=eS:=by
 rw[qe];by_cases h:j<n
 ·rw[qd j5];simp
 ·rw[qP j5];rfl
theorem aeK{rows:bP}{r:aw}(h:r∈rows):∃j,j<ii rows/\rows.getD j []=r:=by obtain⟨j,a,e⟩:=qL h;exact⟨j,a,by rw[qe,qd a];exact e⟩
def other(m i:Nat):Nat:=if i<m then i else i+1
def rQ(rows:bP):(Int->Prop)->(Int->Prop)->List (Int×Int)->Prop
 |_,_,[]=>True
 |D,U,(i,c)::t=>(0<=i/\i<ii rows)/\¬U i/\¬D c/\c∈rows.getD i.toNat []/\(∀a∈rows.getD i.toNat [],a≠c->D a)/\rQ rows (λx=>D x∨x=c) (λx=>U x∨x=i) t
def agv(op:List Bool)(c:Int):Prop:=0<=c/\jY op c=eR
theorem XH{op:List Bool}{c:Int}(h:jY op c=eR):c.toNat<ii op:=by
 by_cases a:c.toNat<ii op
 ·exact a
 ·unfold jY at h;rw[qe,qP i4]at h;cases h
theorem TO{op:List Bool}{c d:Int}(f:0<=c)(e:0<=d):jY op c=eR->c≠d->jY (op.set d.toNat eS) c=eR:=by intro h a;unfold jY;rw[jz,g0 λb=>a i4];exact h
theorem sM{op:List Bool}{d:Int}(h:jY op d=eR):jY (op.set d.toNat eS) d=eS:=by unfold jY;rw[jz,f9 ⟨i0,XH h⟩]
structure afY (rows:bP) (op us:List Bool) (r:Pl):Prop where
 cZ:ii r.steps+ii r.dead=op.count eR
 used:r.used.count eR=us.count eR+ii r.steps
 keepU:∀i,us.getD i eS=eR->r.used.getD i eS=eR
 dead:∀c∈r.dead,agv op c
 deadN:r.dead.Nodup
 good:∀D U:Int->Prop,(∀c:Int,0<=c->c<ii op->(D c↔jY op c=eS∨c∈r.dead))->(∀i:Nat,i<ii rows->(U i↔us.getD i eS=eR∨r.used.getD i eS=eS))->rQ rows D U r.steps
theorem aaA{us:List Bool}{i:Nat}(h:us.getD i eS=eS)(a:i<ii us):(us.set i eR).count eR=us.count eR+1:=by
 have e:us[i]=eS:=by rw[qe,qd a]at h;exact h
 rw[List.count_set a,e];simp
theorem Pn{rows:bP}{n:Nat}(b:∀r∈rows,∀c∈r,0<=c/\c<n):∀k op us,ii op=n->ii us=ii rows->op.count eR=k->afY rows op us (cJ rows k op us)
 |0,op,us,hl,hul,hc=>⟨by simp[cJ,hc],by simp[cJ],λi h=>h,λc h=>by simp[cJ]at h,by simp[cJ],λ_ _ _ _=>trivial⟩
 |k+1,op,us,hl,hul,hc=>by
  have p:=sA hc;cases hst:mD rows op us with
  |some i=>
   obtain⟨l,q⟩:=sK hst;obtain⟨N,J,h3⟩:=BZ q;have f:rows.getD i []=rows[i]:=by rw[qe,qd l];rfl
   have v:=b _ (qg l) _ (f▸J);have G:=kM (op:=op) (j:=(fl rows op i).toNat) h3;have w:us.getD i eS=eS:=by simp only[mC,qC,wZ]at q;exact q.1
   have L:=aaA w i4;have a:=Pn b k (op.set (fl rows op i).toNat eS) (us.set i eR) (by simp[hl]) (by simp[hul]) i4;rw[oo p hst];generalize cJ rows k (op.set (fl rows op i).toNat eS) (us.set i eR)=r at a;generalize I:fl rows op i=c at*;have A:r.used.getD i eS=eR:=a.keepU i (by rw[jz,f9 ⟨i0,i4⟩]);have u:c∉r.dead:=λh=>by
    have:=(a.dead c h).2;rw[sM h3]at this;cases this
   refine⟨by simp only[zh];have:=a.cZ;omega,by simp only[zh];have:=a.used;omega,λj z=>a.keepU j (by rw[jz];split;rfl;exact z),λd s=>⟨(a.dead d s).1,(nh (a.dead d s).2).1⟩,a.deadN,λD U x y=>?_⟩;have o:rows.getD ((i:Int)).toNat []=rows.getD i []:=by rw[ql]
   refine⟨i4,?_,?_,by rw[o];exact J,?_,?_⟩
   ·rw[y i l,w,A];simp
   ·rw[x c v.1 i4,h3];simp[u]
   ·intro B t E;rw[o]at t;have F:=b _ (qg l) _ (f▸t);refine(x B F.1 i4).2 (.inl ?_);cases ho:jY op B with
    |false=>rfl
    |true=>
     have:B∈dj op (rows.getD i []):=by rw[dj,qH];exact⟨t,ho⟩
     rw[N]at this;simp at this;exact absurd this E
   ·refine a.good _ _ (λd g m=>?_) (λj z=>?_)
    ·simp only[zl]at m;rw[x d g m];by_cases e:d=c
     ·subst e;simp[sM h3]
     ·cases ho:jY op d with
      |true=>rw[TO g v.1 ho e];simp[e]
      |false=>
       have:jY (op.set c.toNat eS) d=eS:=by
        cases hh:jY (op.set c.toNat eS) d with
        |false=>rfl
        |true=>rw[(nh hh).1]at ho;cases ho
       rw[this];simp
    ·rw[y j z,jz];by_cases e:i=j
     ·subst e;simp[hul,l]
     ·have M:¬((j:Int)=(i:Int)):=λh=>e i4;simp[e,M]
  |none=>
   obtain⟨H,O,K⟩:=rP (rows:=rows) (us:=us) p;have G:=kM (op:=op) (j:=(hO rows op us).toNat) K;have a:=Pn b k (op.set (hO rows op us).toNat eS) us (by simp[hl]) hul i4;rw[oq p hst];generalize cJ rows k (op.set (hO rows op us).toNat eS) us=r at a;generalize hO rows op us=c at*;have h3:jY op c=eR:=K;have u:c∉r.dead:=λh=>by
    have:=(a.dead c h).2;rw[sM h3]at this;cases this
   refine⟨by simp only[zh];have:=a.cZ;omega,a.used,a.keepU,λd s=>?_,by simp only[wU];exact⟨u,a.deadN⟩,λD U x y=>?_⟩
   ·rcases q8.1 s with rfl|s
    ·exact⟨H,h3⟩
    ·exact⟨(a.dead d s).1,(nh (a.dead d s).2).1⟩
   ·refine a.good D U (λd g m=>?_) y;simp only[zl]at m;rw[x d g m];by_cases e:d=c
    ·subst e;simp[sM h3]
    ·have:jY (op.set c.toNat eS) d=jY op d:=by
      cases ho:jY op d with
      |true=>exact TO g H ho e
      |false=>
       cases hh:jY (op.set c.toNat eS) d with
       |false=>rfl
       |true=>rw[(nh hh).1]at ho;cases ho
     rw[this];simp[e]
theorem Cb(us:List Bool):∀k (c:Int),c∈fD us k↔∃j:Nat,c=j/\j<k/\us.getD j eS=eS
 |0,c=>by simp[fD]
 |k+1,c=>by
  have e:=Cb us k c;unfold fD;cases h:us.getD k eS with
  |true=>
   simp only[if_true];rw[e];constructor
   ·rintro⟨j,a,b,d⟩;exact⟨j,a,i4,d⟩
   ·rintro⟨j,a,b,d⟩;refine⟨j,a,?_,d⟩;rcases zy.1 b with b|rfl
    ·exact b
    ·rw[h]at d;cases d
  |false=>
   simp only[zn,if_false,qA,qB];rw[e];constructor
   ·rintro(⟨j,a,b,d⟩|rfl)
    ·exact⟨j,a,i4,d⟩
    ·exact⟨k,i0,i4,h⟩
   ·rintro⟨j,a,b,d⟩;rcases zy.1 b with b|rfl
    ·exact .inl ⟨j,a,b,d⟩
    ·exact .inr a
theorem Po(us:List Bool):∀k,k<=ii us->ii (fD us k)+(us.take k).count eR=k
 |0,_=>by simp[fD]
 |k+1,hk=>by
  have a:=Po us k i4;have e:us.getD k eS=us[k]:=by rw[qe,qd i4];rfl
  unfold fD;rw[zM i4,List.count_append,e];cases us[k]<;>simp<;>omega
theorem uh{rows:bP}{n:Nat}(a:∀r∈rows,∀c∈r,0<=c/\c<n):
  (dL n rows).steps.length+(dL n rows).dead.length=n/\(dL n rows).steps.length+ii (fD (dL n rows).used rows.length)=ii rows/\(∀c∈(dL n rows).dead,0<=c/\c<n)/\(dL n rows).dead.Nodup/\
  (∀c∈fD (dL n rows).used rows.length,0<=c/\c<ii rows)/\rQ rows (·∈(dL n rows).dead) (·∈fD (dL n rows).used rows.length) (dL n rows).steps:=by
 have h:=Pn a n (qh n eR) (qh rows.length eS) i9 i9 i9;have p:(dL n rows).used.length=ii rows:=by unfold dL;rw[sg];simp
 have b:=Po (dL n rows).used rows.length i4;rw[List.take_of_length_le i4]at b;refine⟨by have:=h.cZ;simpa[dL]using this,?_,λc d=>?_,h.deadN,λc d=>?_,?_⟩
 ·have:=h.used;have l:(qh rows.length eS).count eR=0:=by simp[List.count_replicate]
  rw[l]at this;unfold dL at*;omega
 ·obtain⟨h0,o⟩:=h.dead c d;have:=XH o;simp at this;omega
 ·obtain⟨j,rfl,f,_⟩:=(Cb _ _ _).1 d;omega
 ·refine h.good _ _ (λc g e=>?_) (λi m=>?_)
  ·have:jY (qh n eR) c=eR:=by simp at e;unfold jY;rw[qe,qd i7];simp
   rw[this];simp[dL]
  ·rw[Ev,Cb];constructor
   ·rintro⟨j,f,_,k⟩;have:j=i:=i4
    subst this;exact .inr k
   ·rintro(hh|hh)
    ·cases hh
    ·exact⟨i,i0,m,hh⟩
theorem Ew{rows:bP}:∀k op us i,(cJ rows k op us).used.getD i eS=eR->us.getD i eS=eR∨∃c,((i:Int),c)∈(cJ rows k op us).steps
 |0,_,_,_,h=>.inl h
 |k+1,op,us,i,h=>by
  by_cases a:op.contains eR=eR
  ·cases hst:mD rows op us with
   |some j=>
    rw[oo a hst]at h⊢;dsimp only at h⊢;rcases Ew k _ _ i h with h1|⟨c,hc⟩
    ·rw[jz]at h1;by_cases b:j=i
     ·subst b;exact .inr ⟨_,qI⟩
     ·rw[g0 λd=>b d.1]at h1;exact .inl h1
    ·exact .inr ⟨c,qD _ hc⟩
   |none=>
    rw[oq a hst]at h⊢;exact Ew k _ _ i h
  ·have a:op.contains eR=eS:=j9
   rw[xL a]at h⊢;exact .inl h
theorem Ex{rows:bP}{n:Nat}(a:∀r∈rows,∀c∈r,0<=c/\c<(n:Int)):∀k op us,ii op=n->op.count eR=k->∀c:Nat,op.getD c eS=eR->
  (c:Int)∈(cJ rows k op us).dead∨∃i,(i,(c:Int))∈(cJ rows k op us).steps
 |0,op,us,hl,hc,c,h=>by
  have:=Pk hc;exfalso;have l:c<ii op:=by
   by_cases f:c<ii op
   ·exact f
   ·rw[qe,qP i4]at h;cases h
  rw[List.count_eq_zero]at hc;rw[qe,qd l]at h;exact hc (h▸qg l)
 |k+1,op,us,hl,hc,c,h=>by
  have b:=sA hc;cases hst:mD rows op us with
  |some j=>
   rw[oo b hst];obtain⟨g,m⟩:=sK hst;obtain⟨v,q,h3⟩:=BZ m;have e:rows.getD j []=rows[j]:=by rw[qe,qd g];rfl
   have p:=a _ (qg g) _ (e▸q);have o:=kM (op:=op) (j:=(fl rows op j).toNat) h3;dsimp only;by_cases d:(fl rows op j).toNat=c
   ·exact .inr ⟨j,by rw[show((c:Nat):Int)=fl rows op j by omega];exact qI⟩
   ·rcases Ex a k (op.set (fl rows op j).toNat eS) (us.set j eR) (by simp[hl]) i4 c (by rw[jz,g0 λf=>d f.1];exact h)with h5|⟨i,h5⟩
    ·exact .inl h5
    ·exact .inr ⟨i,qD _ h5⟩
  |none=>
   rw[oq b hst];obtain⟨t,u,s⟩:=rP (rows:=rows) (us:=us) b;have o:=kM (op:=op) (j:=(hO rows op us).toNat) s;dsimp only;by_cases d:(hO rows op us).toNat=c
   ·exact .inl (by rw[show((c:Nat):Int)=hO rows op us by omega];exact qI)
   ·rcases Ex a k (op.set (hO rows op us).toNat eS) us (by simp[hl]) i4 c (by rw[jz,g0 λf=>d f.1];exact h)with h5|⟨i,h5⟩
    ·exact .inl (qD _ h5)
    ·exact .inr ⟨i,h5⟩
theorem Vf{rows:bP}{op us:List Bool}{c:Int}(h:ug rows op us):ug rows (op.set c.toNat eS) us:=λi a=>by
 have:=h i a;rw[dj,wX]at this⊢;exactλd b e=>this d b (nh e).1
theorem Cc{rows:bP}{c:Int}(m:[c]∈rows):∀k op us,ug rows op us->(∀d:Int,d<0->d∉(cJ rows k op us).dead)->0<=c->c∉(cJ rows k op us).dead
 |0,_,_,_,_,_=>by simp[cJ]
 |k+1,op,us,hu,_,h0=>by
  by_cases a:op.contains eR=eR
  ·cases hst:mD rows op us with
   |some j=>
    rw[oo a hst];dsimp only;obtain⟨_,l⟩:=sK hst;exact Cc m k _ _ (XG hu l) (λd q b=>by
     have f:∀k op us,∀d∈(cJ rows k op us).dead,0<=d:=plan_dead0;have:=f _ _ _ d b;omega) h0
   |none=>
    rw[oq a hst];obtain⟨t,u,r⟩:=rP (rows:=rows) (us:=us) a;dsimp only;intro b;rcases q8.1 b with e|b
    ·obtain⟨j,p,g⟩:=aeK m;have n:dj op [c]=[c]:=by rw[dj,zr,f9 (show jY op c=eR by rw[e];exact r)];rfl
     have s:mC rows op us j=eR:=by
      unfold mC;rw[g,n];cases hus:us.getD j eS with
      |false=>rfl
      |true=>have:=hu j hus;rw[g,n]at this;cases this
     obtain⟨i,o⟩:∃i,mD rows op us=dB i:=RR p s;rw[hst]at o;cases o
    ·exact Cc m k _ _ (Vf hu) (λd q b=>by have:=plan_dead0 (rows:=rows) _ _ _ d b;omega) h0 b
  ·have a:op.contains eR=eS:=j9
   rw[xL a];simp
where
 plan_dead0 {rows:bP}:∀k op us,∀d∈(cJ rows k op us).dead,0<=d
  |0,_,_,d,h=>by simp[cJ]at h
  |k+1,op,us,d,h=>by
   by_cases a:op.contains eR=eR
   ·cases hst:mD rows op us with
    |some j=>rw[oo a hst]at h;exact plan_dead0 k _ _ d h
    |none=>
     rw[oq a hst]at h;rcases q8.1 h with rfl|h
     ·exact(rP a).1
     ·exact plan_dead0 k _ _ d h
   ·have a:op.contains eR=eS:=j9
    rw[xL a]at h;simp at h
def rR(R:bP):(Int->Prop)->List (Int×Int)->Prop
 |_,[]=>True
 |D,(i,c)::t=>(0<=i/\i<ii R)/\¬D c/\c∈R.getD i.toNat []/\(∀a∈R.getD i.toNat [],a≠c->D a)/\rR R (λx=>D x∨x=c) t
theorem Am{R S:bP}{K:Int->Prop}(k:∀r∈R,∀c∈r,¬K c)(s:∀r∈S,∀c∈r,K c):∀{a:List (Int×Int)} {D D' U:Int->Prop},rQ (R++S) D U a->(∀c,¬K c->(D c↔D' c))->
  rR R D' (a.filter λp=>decide (p.1<ii R))
 |[],_,_,_,_,_=>trivial
 |(i,c)::t,D,D',U,h,hD=>by
  obtain⟨w,z,h3,j,v,x⟩:=h;rw[zr];by_cases u:i<ii R
  ·have e:(R++S).getD i.toNat []=R.getD i.toNat []:=by rw[qe,qo i4,qe]
   have f:R.getD i.toNat []∈R:=by rw[qe,qd i4];exact qg _
   rw[e]at j v;have l:=k _ f c j;rw[f9 (by simpa using u)];refine⟨⟨w.1,u⟩,λo=>h3 ((hD c l).2 o),j,λm b n=>(hD m (k _ f m b)).1 (v m b n),Am k s x λd g=>?_⟩;rw[hD d g]
  ·rw[g0 (by simpa using u)];have f:(R++S).getD i.toNat []∈S:=by have q:=w.2;rw[qw]at q;rw[qe,qj i4,qd i4];exact qg _
   have l:=s _ f c j;refine Am k s x λd g=>?_;rw[<-hD d g];exact⟨λo=>o.elim id λy=>absurd (y▸l) g,.inl⟩
def ev(t:UInt8)(k nd:Nat)(W M:aL)(y:Nat->UInt8)(c:Int):UInt8:=bR (λi=>aN (aB W c.toNat) i) y nd^^^Gf.mul t (aN (aB M c.toNat) k)
theorem Hz{a b:Row}(h:ii a=ii b)(c:UInt8)(y:Nat->UInt8)(n:Nat):bR (λj=>aN (cY c a b) j) y n=bR (λj=>aN b j) y n^^^Gf.mul c (bR (λj=>aN a j) y n):=by rw[gd n (λj _=>cN h j) λ_ _=>rfl];exact FV _ _ _ _ _
theorem Pp{V:aL}{m:Nat}(y:Nat->UInt8)(n:Nat):∀{l:aw} {a:Row},ii a=m->(∀c∈l,ii (aB V c.toNat)=m)->bR (λj=>aN (cV V a l) j) y n=bR (λj=>aN a j) y n^^^cU (λc=>bR (λj=>aN (aB V c.toNat) j) y n) l
 |[],a,_,_=>by simp[cV,cU]
 |c::l,a,h,hv=>by
  have b:ii (aB V c.toNat)=ii a:=by rw[hv c i9,h]
  have:=Pp (V:=V) y n (l:=l) (a:=cY 1 (aB V c.toNat) a) (by rw[bZ b];exact h) λd e=>hv d q6;rw[cV,zE];rw[cV]at this;rw[this,Hz b,Gf.one_mul,cU];ac_rfl
theorem Pq(t:UInt8)(x:Int->UInt8):∀l,cU (λc=>Gf.mul t (x c)) l=Gf.mul t (cU x l)
 |[]=>by simp[cU,Gf.mul_zero]
 |c::l=>by rw[cU,cU,Gf.kf,Pq t x l]
theorem KP{W M:aL}{nd w:Nat}{l:aw}{a m:Row}(b:ii a=nd)(e:ii m=w)(d:∀c∈l,ii (aB W c.toNat)=nd)(f:∀c∈l,ii (aB M c.toNat)=w)(t:UInt8)(k:Nat)(y:Nat->UInt8):
  bR (λj=>aN (cV W a l) j) y nd^^^Gf.mul t (aN (cV M m l) k)=(bR (λj=>aN a j) y nd^^^Gf.mul t (aN m k))^^^cU (ev t k nd W M y) l:=by
 rw[Pp y nd b d,Hy k e f,Gf.kf];have:cU (ev t k nd W M y) l=cU (λc=>bR (λj=>aN (aB W c.toNat) j) y nd) l^^^Gf.mul t (cU (λc=>aN (aB M c.toNat) k) l):=by rw[<-Pq,<-Pf];rfl
 rw[this];ac_rfl
def hY(rest:List fq)(nd:Nat)(s:aL×aL)(p:Int×Int):aL×aL:=
 let r:=rest.getD p.1.toNat ([],[])
 (s.1.set p.2.toNat (cV s.1 (aJ nd) (r.1.filter λc=>!decide (c=p.2))),s.2.set p.2.toNat (cV s.2 r.2 (r.1.filter λc=>!decide (c=p.2))))
structure XI (n nd w:Nat) (D:Int->Prop) (W M:aL):Prop where
 wl:ii W=n
 ml:ii M=n
 rw_:∀c:Int,D c->0<=c->c<(n:Int)->ii (aB W c.toNat)=nd/\(aB M c.toNat).length=w
theorem Cd{W M a b:aL}{t:UInt8}{k nd:Nat}{y:Nat->UInt8}{c:Int}(d:aB a c.toNat=aB W c.toNat)(e:aB b c.toNat=aB M c.toNat):ev t k nd a b y c=ev t k nd W M y c:=by unfold ev;rw[d,e]
theorem HB{n nd w:Nat}{rest:List fq}(E:∀e∈rest,iT n w e):∀{a:List (Int×Int)} {D:Int->Prop} {W M:aL},rR (rest.map qK) D a->XI n nd w D W M->
  XI n nd w (λc=>D c∨∃i,(i,c)∈a) (a.foldl (hY rest nd) (W,M)).1 (a.foldl (hY rest nd) (W,M)).2/\
  (∀c:Int,D c->0<=c->aB (a.foldl (hY rest nd) (W,M)).1 c.toNat=aB W c.toNat/\aB (a.foldl (hY rest nd) (W,M)).2 c.toNat=aB M c.toNat)/\
  (∀p∈a,∀t k y,k<w->Sat t k (ev t k nd (a.foldl (hY rest nd) (W,M)).1 (a.foldl (hY rest nd) (W,M)).2 y) (rest.getD p.1.toNat ([],[])))/\
  (∀t k x y,k<w->(∀c:Int,D c->0<=c->c<(n:Int)->x c=ev t k nd W M y c)->(∀p∈a,Sat t k x (rest.getD p.1.toNat ([],[])))->∀c:Int,(D c∨∃i,(i,c)∈a)->0<=c->c<(n:Int)->x c=ev t k nd (a.foldl (hY rest nd) (W,M)).1 (a.foldl (hY rest nd) (W,M)).2 y c)
 |[],D,W,M,_,hw=>⟨⟨hw.wl,hw.ml,λc Y=>hw.rw_ c (Y.elim id λ⟨i,h⟩=>j8)⟩,λ_ _ _=>⟨i0,i0⟩,λp r=>by(cases r),λt k x y H O _ c Y h0 o=>O c (Y.elim id λ⟨i,h⟩=>j8) h0 o⟩
 |(i,c)::st,D,W,M,hg,hw=>by
  obtain⟨g1,g2,N,g4,g5⟩:=hg;have u:i.toNat<ii rest:=by have:=g1.2;rw[qx]at this;omega
  obtain⟨e,R⟩:∃e,e=rest[i.toNat]:=⟨_,rfl⟩
  have X:rest.getD i.toNat ([],[])=e:=by rw[qe,qd u,R];rfl
  have S:(rest.map qK).getD i.toNat []=e.1:=by rw[qe,List.getElem?_map,qd u,R];rfl
  rw[S]at N g4;have l:=E e (R▸qg u);have Q:=l.cZ c N;obtain⟨F,I⟩:∃F,F=e.1.filter (λd=>!decide (d=c)):=⟨_,rfl⟩
  have q:∀d∈F,d∈e.1/\d≠c:=λd b=>by rw[I,qH]at b;exact⟨b.1,by simpa using b.2⟩
  have f:∀d∈F,D d/\0<=d/\d<(n:Int):=λd b=>⟨g4 d (q d b).1 (q d b).2,l.cZ d (q d b).1⟩
  have l1:∀d∈F,ii (aB W d.toNat)=nd:=λd b=>(hw.rw_ d (f d b).1 (f d b).2.1 (f d b).2.2).1;have l2:∀d∈F,ii (aB M d.toNat)=w:=λd b=>(hw.rw_ d (f d b).1 (f d b).2.1 (f d b).2.2).2;have U:ii (aJ nd)=nd:=k7
  have P:hY rest nd (W,M) (i,c)=(W.set c.toNat (cV W (aJ nd) F),M.set c.toNat (cV M e.2 F)):=by unfold hY;dsimp only;rw[X,<-I]
  have ab:=hw.wl;have T:=hw.ml;have z:∀d:Nat,aB (W.set c.toNat (cV W (aJ nd) F)) d=if c.toNat=d then cV W (aJ nd) F else aB W d:=λd=>lj
  have A:∀d:Nat,aB (M.set c.toNat (cV M e.2 F)) d=if c.toNat=d then cV M e.2 F else aB M d:=λd=>lj
  have ad:XI n nd w (λx=>D x∨x=c) (W.set c.toNat (cV W (aJ nd) F)) (M.set c.toNat (cV M e.2 F)):=by
   refine⟨by simp[ab],by simp[T],λd b h0 o=>?_⟩;rw[z,A];by_cases g:c.toNat=d.toNat
   ·rw[f9 g,f9 g];exact⟨jQ U l1,jQ l.len l2⟩
   ·rw[g0 g,g0 g];exact hw.rw_ d (b.elim id λJ=>absurd (by rw[J]) g) h0 o
  obtain⟨L,r2,r3,r4⟩:=HB E g5 ad;rw[zE,P];generalize st.foldl (hY rest nd) (W.set c.toNat (cV W (aJ nd) F),M.set c.toNat (cV M e.2 F))=s at L r2 r3 r4;have G:∀d:Int,D d->0<=d->c.toNat≠d.toNat:=λd b h0 J=>g2 (by rw[show c=d by omega];exact b);have keep:∀d:Int,D d->0<=d->aB s.1 d.toNat=aB W d.toNat/\aB s.2 d.toNat=aB M d.toNat:=λd b h0=>by
   have:=r2 d (.inl b) h0;rw[z,A,g0 (G d b h0),g0 (G d b h0)]at this;exact this
  have Z:∀t k y,ev t k nd s.1 s.2 y c=Gf.mul t (aN e.2 k)^^^cU (ev t k nd W M y) F:=λt k y=>by
   have V:=r2 c (.inr i0) Q.1;rw[z,A,f9 rfl,f9 rfl]at V;unfold ev;rw[V.1,V.2,KP U l.len l1 l2 t k y,fP _ _ nd λj _=>cB _ _,wy];rfl
  have v:∀t k y,cU (ev t k nd s.1 s.2 y) F=cU (ev t k nd W M y) F:=λt k y=>ku λd b=>Cd (keep d (f d b).1 (f d b).2.1).1 (keep d (f d b).1 (f d b).2.1).2;refine⟨⟨L.wl,L.ml,λd b h0 o=>L.rw_ d ?_ h0 o⟩,keep,λp r t k y H=>?_,λt k x y H O hs d b h0 o=>?_⟩
  ·rcases b with b|⟨j,hj⟩
   ·exact .inl (.inl b)
   ·rcases q8.1 hj with hj|hj
    ·injection hj with _ hj;exact .inl (.inr hj)
    ·exact .inr ⟨j,hj⟩
  ·rcases q8.1 r with rfl|r
   ·dsimp only;rw[X];unfold Sat;rw[xK _ l.nodup N,<-I,Z,v,pO]
   ·exact r3 p r t k y H
  ·refine r4 t k x y H (λd b h0 o=>?_) (λp r=>hs p (qD _ r)) d ?_ h0 o
   ·by_cases g:d=c
    ·subst g;have B:=hs (i,d) i9;dsimp only at B;rw[X]at B;unfold Sat at B;rw[xK _ l.nodup N,<-I,ku (y:=ev t k nd W M y) λK m=>O K (f K m).1 (f K m).2.1 (f K m).2.2]at B;have h6:ev t k nd (W.set d.toNat (cV W (aJ nd) F)) (M.set d.toNat (cV M e.2 F)) y d=Gf.mul t (aN e.2 k)^^^cU (ev t k nd W M y) F:=by unfold ev;rw[z,A,f9 i0,f9 i0,KP U l.len l1 l2 t k y,fP _ _ nd λj _=>cB _ _,wy];rfl
     rw[h6,<-B,pO]
    ·have m:D d:=b.elim id λJ=>absurd J g;rw[O d m h0 o];refine(Cd ?_ ?_).symm
     ·rw[z,g0 i4]
     ·rw[A,g0 i4]
   ·rcases b with b|⟨j,hj⟩
    ·exact .inl (.inl b)
    ·rcases q8.1 hj with hj|hj
     ·injection hj with _ hj;exact .inl (.inr hj)
     ·exact .inr ⟨j,hj⟩
theorem Mh:∀{l m:List Nat},l.Nodup->(∀x∈l,x∈m)->ii l<=ii m
 |[],_,_,_=>i9
 |x::l,m,hd,h=>by
  rw[wU]at hd;have b:=h x i9;have c:=Mh (l:=l) (m:=m.erase x) hd.2 λy a=>(List.mem_erase_of_ne λd:y=x=>hd.1 (by rw[<-d];exact a)).2 (h y oi);rw[List.length_erase_of_mem b]at c;have:=List.length_pos_of_mem b;simp;omega
def nP(nd i:Nat):Row:=(aJ nd).set i 1
theorem aaB(nd i:Nat):ii (nP nd i)=nd:=by simp[nP,aJ]
theorem aaC{nd i:Nat}(a:i<nd)(j:Nat):aN (nP nd i) j=if j=i then 1 else 0:=by rw[nP,KL (by simpa[aJ]using a),cB]
theorem aaD{nd i:Nat}(a:i<nd)(y:Nat->UInt8):bR (λj=>aN (nP nd i) j) y nd=y i:=
 FU _ _ i nd a λj _=>by
  rw[aaC a];by_cases h:j=i
  ·subst h;simp
  ·rw[g0 h,g0 λb=>h b.symm]
def ge(n nd w:Nat)(dead:aw):aL×aL:=
 (dead.zipIdx).foldl (λs p=>(s.1.set p.1.toNat (nP nd p.2),s.2.set p.1.toNat (aJ w))) (qh n [],qh n [])
theorem IS(n nd w:Nat)(d:aw)(c:Int):ge n nd w (d++[c])=((ge n nd w d).1.set c.toNat (nP nd d.length),(ge n nd w d).2.set c.toNat (aJ w)):=by unfold ge;rw[List.zipIdx_append,List.foldl_append];simp
theorem KQ{n nd w:Nat}{dead:aw}(h:∀c∈dead,0<=c/\c<(n:Int))(o:dead.Nodup):∀k,k<=ii dead->
  XI n nd w (·∈dead.take k) (ge n nd w (dead.take k)).1 (ge n nd w (dead.take k)).2/\∀i,(m:i<k)->(l:i<ii dead)->aB (ge n nd w (dead.take k)).1 dead[i].toNat=nP nd i/\aB (ge n nd w (dead.take k)).2 dead[i].toNat=aJ w
 |0,_=>⟨⟨by simp[ge],by simp[ge],λc b=>by simp at b⟩,λi m=>i4⟩
 |k+1,hk=>by
  obtain⟨j,l⟩:=KQ (nd:=nd) (w:=w) h o k i4;have g:k<ii dead:=i4
  have p:=h _ (qg g);have e:dead.take (k+1)=dead.take k++[dead[k]]:=zM g;have u:ii (dead.take k)=k:=i7
  rw[e,IS,u];have r:=j.wl;have q:=j.ml;refine⟨⟨by simp[r],by simp[q],λc b h0 h3=>?_⟩,λi m d=>?_⟩
  ·dsimp only;rw[lj,lj];by_cases a:dead[k].toNat=c.toNat
   ·rw[f9 a,f9 a];exact⟨aaB _ _,k7⟩
   ·rw[g0 a,g0 a];refine j.rw_ c ?_ h0 h3;rcases qA.1 b with b|b
    ·exact b
    ·rw[qB]at b;exact absurd (by rw[b]) a
  ·dsimp only;rw[lj,lj];by_cases f:i=k
   ·subst f;rw[f9 i0,f9 rfl];exact⟨i0,i0⟩
   ·have s:dead[k]≠dead[i]:=λt=>f ((List.getElem_inj o).1 t).symm;have:=h _ (qg d);rw[g0 i4,g0 i4];exact l i i4 d
def iD(nd:Nat)(known:List Bool)(vals:aL)(s:aL×aL):aL×aL:=
 (s.1.mapIdx λc r=>if known.getD c eS then aJ nd else r,s.2.mapIdx λc r=>if known.getD c eS then aB vals c else r)
theorem Ce{m:aL}{f:Nat->Row->Row}{c:Nat}(h:c<ii m):aB (m.mapIdx f) c=f c (aB m c):=by rw[bz j5,bz h];simp
def gT(V:aL)(r:Row)(a:Row):Nat->Row
 |0=>a
 |c+1=>cY (aN r c) (aB V c) (gT V r a c)
theorem lP{V:aL}{m:Nat}(r:Row){a:Row}(b:ii a=m):∀{c:Nat},(∀i,i<c->ii (aB V i)=m)->ii (gT V r a c)=m
 |0,_=>b
 |c+1,h=>by
  have:=lP r b (c:=c) λi d=>h i i4;rw[gT,bZ (by rw[h c i4,this])];exact this
theorem HC{V:aL}{m:Nat}(r:Row){a:Row}(b:ii a=m)(j:Nat):∀{c:Nat},(∀i,i<c->ii (aB V i)=m)->aN (gT V r a c) j=aN a j^^^bR (λi=>aN r i) (λi=>aN (aB V i) j) c
 |0,_=>by simp[gT,bR]
 |c+1,h=>by
  have d:=lP r b (c:=c) λi e=>h i i4;rw[gT,cN (by rw[h c i4,d]),HC r b j (c:=c) λi e=>h i i4,bR];ac_rfl
theorem Pr{V:aL}{m:Nat}(r:Row){a:Row}(b:ii a=m)(y:Nat->UInt8)(n:Nat):∀{c:Nat},(∀i,i<c->ii (aB V i)=m)->bR (λj=>aN (gT V r a c) j) y n=bR (λj=>aN a j) y n^^^bR (λi=>aN r i) (λi=>bR (λj=>aN (aB V i) j) y n) c
 |0,_=>by simp[gT,bR]
 |c+1,h=>by
  have d:=lP r b (c:=c) λi e=>h i i4;rw[gT,Hz (by rw[h c i4,d]),Pr r b y n (c:=c) λi e=>h i i4,bR];ac_rfl
theorem Ps(f g g':Nat->UInt8):∀k,bR f (λi=>g i^^^g' i) k=bR f g k^^^bR f g' k
 |0=>by simp[bR]
 |k+1=>by rw[bR,bR,bR,Ps f g g' k,Gf.kf];ac_rfl
theorem Pt(t:UInt8)(f g:Nat->UInt8):∀k,bR f (λi=>Gf.mul t (g i)) k=Gf.mul t (bR f g k)
 |0=>by simp[bR,Gf.mul_zero]
 |k+1=>by
  rw[bR,bR,Pt t f g k,Gf.kf];congr 1;rw[<-Gf.mul_assoc,<-Gf.mul_assoc,Gf.mul_comm (f k) t]
theorem Cf{n:Nat}(g:Nat->UInt8):∀{l:aw},(∀x∈l,0<=x/\x<(n:Int))->l.Nodup->bR (λj=>aN (gv n l) j) g n=cU (λc=>g c.toNat) l
 |[],_,_=>by
  rw[cU];refine fP _ _ n λj _=>?_;rw[BU [] (λx a=>by cases a) j];simp
 |c::l,h,hd=>by
  rw[wU]at hd;have o:=h c i9;have d:=Cf g (l:=l) (λx a=>h x oi) hd.2;have e:bR (λj=>aN (gv n (c::l)) j) g n=bR (λj=>if(j:Int)∈c::l then 1 else 0) g n:=gd n (λj _=>BU _ h j) λ_ _=>rfl;have k:bR (λj=>aN (gv n l) j) g n=bR (λj=>if(j:Int)∈l then 1 else 0) g n:=gd n (λj _=>BU _ (λx a=>h x oi) j) λ_ _=>rfl;rw[e,cU,<-d,k];rw[Hu (f:=λj=>if(j:Int)∈l then 1 else 0) (f':=λj=>if(j:Int)∈c::l then 1 else 0) (c:=c.toNat) (by rw[g0];rw[show((c.toNat:Nat):Int)=c by omega];exact hd.1) (λi=>by
   by_cases b:i=c.toNat
   ·subst b;rw[f9 i0,f9];rw[show((c.toNat:Nat):Int)=c by omega];simp
   ·rw[g0 b];have:(i:Int)≠c:=λm=>b i4;simp[this]),f9 i4]
  ac_rfl
theorem kernel{nd:Nat}{a:aL}(S:aY nd a)(N:ca a<nd):∃y:Nat->UInt8,(∃i,i<nd/\y i≠0)/\∀r∈a,bR (λj=>aN r j) y nd=0:=by
 have w:=Pe S;obtain⟨L,V,ab,P,Y,⟨p,Z,W,p3,X⟩,J⟩:=w;generalize hT:ca a=T at*;generalize (bI a (eK a)).2=rows at*;have v:∃j,j<nd/\∀i,i<T->p i≠j:=by
  have t:∀T nd:Nat,T<nd->∀p:Nat->Nat,(∀i,i<T->p i<nd)->∃j,j<nd/\∀i,i<T->p i≠j:=by
   intro T nd ah p U;by_cases f:∀j,j<nd->∃i,i<T/\p i=j
   ·exfalso;have G:∀j∈qz nd,j∈(qz T).map p:=λj A=>by
     obtain⟨i,l,rfl⟩:=f j (qJ.1 A);exact qu.2 ⟨i,qJ.2 l,i0⟩
    have:=Mh vW G;simp at this;omega
   ·simp only[Classical.not_forall,not_exists,not_and]at f;obtain⟨j,A,h⟩:=f;exact⟨j,A,h⟩
  exact t T nd N p Z
 obtain⟨j,A,D⟩:=v;have B:∀i e,i<T->e<T->p i=p e->i=e:=λi e q n h3=>by
  rcases Nat.lt_trichotomy i e with h|h|h
  ·have:=X i e h n;omega
  ·exact h
  ·have:=X e i h q;omega
 let y:Nat->UInt8:=λc=>if c=j then 1 else cU (λi=>if p i.toNat=c then aN (aB rows i.toNat) j else 0) ((qz T).map λi:Nat=>(i:Int))
 have hy:∀i,i<T->y (p i)=aN (aB rows i) j:=λi l=>by
  show(if p i=j then 1 else _)=_;rw[g0 (D i l)];have R:((qz T).map λi:Nat=>(i:Int)).Nodup:=by exact List.Pairwise.map _ (λa b h u=>h (Int.ofNat_inj.1 u)) vW
  rw[xK _ R (c:=(i:Int)) (qu.2 ⟨i,qJ.2 l,i0⟩),Ep,zV]
  ·simp
  ·intro c o;rw[qH]at o;obtain⟨e,s,rfl⟩:=qu.1 o.1;have F:e≠i:=λu=>by subst u;simp at o
   rw[ql,g0 λu=>F (B e i (qJ.1 s) l u)]
 have K:∀c,c≠j->(∀i,i<T->p i≠c)->y c=0:=λc o U=>by
  show(if c=j then 1 else _)=_;rw[g0 o,Ep];intro d hd;obtain⟨e,s,rfl⟩:=qu.1 hd;rw[ql,g0 (U e (qJ.1 s))]
 have E:y j=1:=by show(if j=j then 1 else _)=_;rw[f9 rfl]
 refine⟨y,⟨j,A,by rw[E];decide⟩,λr O=>?_⟩;refine Span.lin L (λr=>bR (λc=>aN r c) y nd) (fP _ _ nd λc _=>cB _ _) (λc x z q n=>Hz i4 c y nd) (λr N=>?_) ((P r).2 (Span.row S O));obtain⟨k,M,rfl⟩:=fj N;by_cases g:k<T
 ·--the row's own beginning,and j
  have hf:∀c,c<nd->aN (aB rows k) c=0∨y c=0∨c=p k∨c=j:=λc o=>by
   by_cases q:c=j
   ·exact .inr (.inr (.inr q))
   ·by_cases n:∃i,i<T/\p i=c
    ·obtain⟨i,l,rfl⟩:=n;by_cases H:k=i
     ·subst H;exact .inr (.inr (.inl i0))
     ·refine .inl ?_;rw[W i l k M,g0 H]
    ·exact .inr (.inl (K c q λi l u=>n ⟨i,l,u⟩))
  have Q:=Z k g;have I:aN (aB rows k) (p k)=1:=by rw[W k g k M,f9 rfl]
  have F:p k≠j:=D k g;have t:∀m,m<=nd->bR (λc=>aN (aB rows k) c) y m=(if p k<m then aN (aB rows k) j else 0)^^^(if j<m then aN (aB rows k) j else 0):=by
   intro m
   induction m with
   |zero=>intro _;simp[bR]
   |succ m ih=>
    intro hm;rw[bR,ih i4];by_cases q:m=p k
    ·have ad:m≠j:=i4
     rw[q,I,Gf.one_mul,hy k g];rw[g0 (Nat.lt_irrefl _),f9 (Nat.lt_succ_self _)];by_cases h3:j<p k
     ·rw[f9 h3,f9 i4];ac_rfl
     ·rw[g0 h3,g0 i4];ac_rfl
    ·by_cases n:m=j
     ·rw[n,E,Gf.mul_one];rw[g0 (Nat.lt_irrefl j),f9 (Nat.lt_succ_self j),zV];by_cases h3:p k<j
      ·rw[f9 h3,f9 i4]
      ·rw[g0 h3,g0 i4]
     ·have hz:Gf.mul (aN (aB rows k) m) (y m)=0:=by
       rcases hf m i4 with h|h|h|h
       ·rw[h,Gf.zero_mul]
       ·rw[h,Gf.mul_zero]
       ·exact absurd h q
       ·exact absurd h n
      rw[hz,zV];have a1:(p k<m+1)↔(p k<m):=i4
      have a2:(j<m+1)↔(j<m):=i4
      simp only[a1,a2]
  rw[t nd (qm _),f9 Q,f9 A,lF]
 ·exact fP _ _ nd λc o=>J k i4 M c o
def dI(n nd:Nat)(rest:List fq)(W:aL)(left:aw)(ahead:aL):aL:=(left.map λi=>cV W (aJ nd) (rest.getD i.toNat ([],[])).1)++ahead.map λr=>gT W r (aJ nd) n
def fE(n w:Nat)(rest:List fq)(M:aL)(left:aw)(ahead:aL):aL:=(left.map λi=>cV M (rest.getD i.toNat ([],[])).2 (rest.getD i.toNat ([],[])).1)++ahead.map λr=>gT M r (aJ w) n
def ui(nd:Nat)(known:List Bool)(vals:aL)(W M D:aL):aL:=vals.mapIdx λc r=>if known.getD c eS then r else gT D (aB W c) (aB M c) nd
def dJ(n:Nat)(l:List fq)(ahead:aL):aL:=ahead++l.map λe=>gv n e.1
def iv(w:Nat)(l:List fq)(ahead:aL):aL:=qh ahead.length (aJ w)++l.map zL
def at_(X:aL)(k:Nat)(c:Int):UInt8:=aN (aB X c.toNat) k
variable {ahead:aL}
theorem xM(b:aY n ahead):aY n (dJ n l ahead):=λr a=>by
 rcases qA.1 a with a|a
 ·exact b r a
 ·obtain⟨e,_,rfl⟩:=qu.1 a;exact pM _ _
theorem xN(b:∀e∈l,iT n w e):aY w (iv w l ahead):=λr a=>by
 rcases qA.1 a with a|a
 ·rw[(ya.1 a).2];simp[aJ]
 ·obtain⟨e,c,rfl⟩:=qu.1 a;exact(b e c).len
theorem tv:ii (dJ n l ahead)=ii (iv w l ahead):=by simp[dJ,iv]
theorem Cg(p:∀e∈l,iT n w e){X:aL}:fC n w (dJ n l ahead) (iv w l ahead) X↔X.length=n/\aY w X/\∀k,k<w->(∀e∈l,Sat 1 k (at_ X k) e)/\∀r∈ahead,bR (λj=>aN r j) (λc=>aN (aB X c) k) n=0:=by
 unfold fC;refine⟨λ⟨h1,h2,h3⟩=>⟨h1,h2,λk q=>⟨λe g=>?_,λr t=>?_⟩⟩,λ⟨h1,h2,h3⟩=>⟨h1,h2,λi h=>?_⟩⟩
 ·obtain⟨i,h,rfl⟩:=qL g;have:=h3 (ii ahead+i) m6;have b:aB (dJ n l ahead) (ii ahead+i)=gv n l[i].1:=by rw[bz m6];simp[dJ]
  have f:aB (iv w l ahead) (ii ahead+i)=l[i].2:=by rw[bz p8];simp[iv]
  rw[b,f]at this;have o:=congrArg (λr=>aN r k) this;rw[gY h2 h1 _ k n (qm _),Cf _ (p _ g).cZ (p _ g).nodup]at o;unfold Sat;rw[Gf.one_mul];exact o
 ·obtain⟨i,h,rfl⟩:=qL t;have:=h3 i m6;have b:aB (dJ n l ahead) i=ahead[i]:=by rw[bz m6];simp[dJ,w7 h]
  have f:aB (iv w l ahead) i=aJ w:=by rw[bz p8];simp[iv,h]
  rw[b,f]at this;have o:=congrArg (λr=>aN r k) this;rw[gY h2 h1 _ k n (qm _),cB]at o;exact o
 ·have m:ii (aB (iv w l ahead) i)=w:=cA (xN p) (by rw[<-tv (n:=n)];exact h);refine eO (n:=w) (iJ h2 h1 _ n (qm _)) m λk q=>?_;rw[gY h2 h1 _ k n (qm _)];simp only[dJ,qw,qx]at h;by_cases a:i<ii ahead
  ·have b:aB (dJ n l ahead) i=ahead[i]:=by rw[bz m6];simp[dJ,w7 a]
   have f:aB (iv w l ahead) i=aJ w:=by rw[bz p8];simp[iv,a]
   rw[b,f,cB];exact(h3 k q).2 _ (qg a)
  ·obtain⟨d,rfl⟩:∃d,i=ii ahead+d:=⟨i-ii ahead,i4⟩
   have s:d<ii l:=i4
   have b:aB (dJ n l ahead) (ii ahead+d)=gv n l[d].1:=by rw[bz m6];simp[dJ]
   have f:aB (iv w l ahead) (ii ahead+d)=l[d].2:=by rw[bz p8];simp[iv]
   have g:=p _ (qg s);rw[b,f,Cf _ g.cZ g.nodup];have:=(h3 k q).1 _ (qg s);unfold Sat at this;rw[Gf.one_mul]at this;exact this
structure gO (n w:Nat) (l:List fq) (ahead:aL) (known:List Bool) (vals:aL) (dead left:aw) (W M:aL):Prop where
 eqs:∀e∈l,iT n w e
 ahd:aY n ahead
 pinv:jR n w l known vals
 calm:kv known vals l=eS
 deadR:∀c∈dead,0<=c/\c<(n:Int)
 deadN:dead.Nodup
 deadK:∀c∈dead,kn known c=eS
 lens:ii W=n/\M.length=n/\∀c:Nat,c<n->ii (aB W c)=ii dead/\(aB M c).length=w
 evKnown:∀t k y,∀c:Int,0<=c->c<(n:Int)->kn known c=eR->ev t k dead.length W M y c=Gf.mul t (aN (aB vals c.toNat) k)
 evDead:∀t k y,∀i,(h:i<ii dead)->ev t k dead.length W M y dead[i]=y i
 evRest:∀t k y,k<w->(∀i∈left,Sat t k (ev t k dead.length W M y) ((bg known vals l).getD i.toNat ([],[])))->∀e∈bg known vals l,Sat t k (ev t k dead.length W M y) e
 leftR:∀i∈left,0<=i/\i<(ii (bg known vals l):Int)
 evAll:∀t k x,k<w->(∀c:Int,0<=c->c<(n:Int)->kn known c=eR->x c=Gf.mul t (aN (aB vals c.toNat) k))->(∀e∈bg known vals l,Sat t k x e)->∀c:Int,0<=c->c<(n:Int)->x c=ev t k dead.length W M (λi=>x (dead.getD i 0)) c
variable {dead left:aw} {W:aL}
theorem ot(h:jR n w l known vals)(b:∀e∈l,iT n w e):∀e∈bg known vals l,iT n w e:=λe d=>by
 obtain⟨c,a,rfl⟩:=qu.1 (qH.1 d).1;exact h.AS (b c a)
theorem An{a b:UInt8}:a^^^b=0↔a=b:=oL
theorem gO.Pu(S:gO n w l ahead known vals dead left W M){i:Int}(h:i∈left)(t:UInt8)(k:Nat)(y:Nat->UInt8):
  bR (λj=>aN (cV W (aJ dead.length) ((bg known vals l).getD i.toNat ([],[])).1) j) y dead.length=Gf.mul t (aN (cV M ((bg known vals l).getD i.toNat ([],[])).2 ((bg known vals l).getD i.toNat ([],[])).1) k)↔Sat t k (ev t k dead.length W M y) ((bg known vals l).getD i.toNat ([],[])):=by
 have f:=S.leftR i h;have b:i.toNat<ii (bg known vals l):=i4
 have g:(bg known vals l).getD i.toNat ([],[])=(bg known vals l)[i.toNat]:=by rw[qe,qd b];rfl
 have a:=ot S.pinv S.eqs _ (qg b);rw[g];generalize (bg known vals l)[i.toNat]=e at*;have m:ii (aJ dead.length)=ii dead:=k7
 have o:∀c∈e.1,ii (aB W c.toNat)=ii dead:=λc d=>((S.lens.2.2 c.toNat) (by have:=a.cZ c d;omega)).1;have p:∀c∈e.1,ii (aB M c.toNat)=w:=λc d=>((S.lens.2.2 c.toNat) (by have:=a.cZ c d;omega)).2;have:=KP m a.len o p t k y;rw[fP _ _ dead.length λj _=>cB _ _,wy]at this;rw[<-An,this];unfold Sat;rw[An];exact eq_comm
theorem gO.Mi(S:gO n w l ahead known vals dead left W M)(r:Row)(t:UInt8)(k:Nat)(y:Nat->UInt8):
  bR (λj=>aN (gT W r (aJ dead.length) n) j) y dead.length=Gf.mul t (aN (gT M r (aJ w) n) k)↔bR (λj=>aN r j) (λc=>ev t k dead.length W M y (c:Int)) n=0:=by
 have d:=Pr (V:=W) (m:=ii dead) r (a:=aJ dead.length) k7 y dead.length (c:=n) λi b=>(S.lens.2.2 i b).1;have e:=HC (V:=M) (m:=w) r (a:=aJ w) k7 k (c:=n) λi b=>(S.lens.2.2 i b).2;rw[d,e,fP _ _ dead.length λj _=>cB _ _,cB,wy,wy,<-An,<-Pt,<-Ps];have:(λc:Nat=>ev t k dead.length W M y (c:Int))=λi=>bR (λj=>aN (aB W i) j) y dead.length^^^Gf.mul t (aN (aB M i) k):=by funext c;unfold ev;rw[ql]
 rw[this]
theorem gO.up(S:gO n w l ahead known vals dead left W M){t:UInt8}{k:Nat}{y:Nat->UInt8}(f:k<w)
  (g:∀i,i<ii (dI n dead.length (bg known vals l) W left ahead)->bR (λj=>aN (aB (dI n dead.length (bg known vals l) W left ahead) i) j) y dead.length=Gf.mul t (aN (aB (fE n w (bg known vals l) M left ahead) i) k)):
  (∀e∈l,Sat t k (ev t k dead.length W M y) e)/\∀r∈ahead,bR (λj=>aN r j) (λc=>ev t k dead.length W M y (c:Int)) n=0:=by
 refine⟨(Ph S.pinv S.eqs S.calm f).2 ⟨λc h0 p m=>S.evKnown t k y c h0 p m,S.evRest t k y f λi h=>?_⟩,λr o=>?_⟩
 ·obtain⟨j,a,rfl⟩:=qL h;have:=g j m7;have b:aB (dI n dead.length (bg known vals l) W left ahead) j=cV W (aJ dead.length) ((bg known vals l).getD left[j].toNat ([],[])).1:=by rw[bz m7];simp[dI,a]
  have d:aB (fE n w (bg known vals l) M left ahead) j=cV M ((bg known vals l).getD left[j].toNat ([],[])).2 ((bg known vals l).getD left[j].toNat ([],[])).1:=by rw[bz p9];simp[fE,a]
  rw[b,d]at this;exact(S.Pu h t k y).1 this
 ·obtain⟨j,a,rfl⟩:=qL o;have:=g (ii left+j) m7;have b:aB (dI n dead.length (bg known vals l) W left ahead) (ii left+j)=gT W ahead[j] (aJ dead.length) n:=by rw[bz m7];simp[dI]
  have d:aB (fE n w (bg known vals l) M left ahead) (ii left+j)=gT M ahead[j] (aJ w) n:=by rw[bz p9];simp[fE]
  rw[b,d]at this;exact(S.Mi _ t k y).1 this
theorem gO.down(S:gO n w l ahead known vals dead left W M){t:UInt8}{k:Nat}{x:Int->UInt8}(q:k<w)(z:∀e∈l,Sat t k x e)(u:∀r∈ahead,bR (λj=>aN r j) (λc=>x (c:Int)) n=0):
  (∀c:Int,0<=c->c<(n:Int)->x c=ev t k dead.length W M (λi=>x (dead.getD i 0)) c)/\
  ∀i,i<ii (dI n dead.length (bg known vals l) W left ahead)->bR (λj=>aN (aB (dI n dead.length (bg known vals l) W left ahead) i) j) (λi=>x (dead.getD i 0)) dead.length=Gf.mul t (aN (aB (fE n w (bg known vals l) M left ahead) i) k):=by
 obtain⟨B,s⟩:=(Ph S.pinv S.eqs S.calm q).1 z;have o:=S.evAll t k x q B s;refine⟨o,λi D=>?_⟩;simp only[dI,qw,qx]at D;by_cases a:i<ii left
 ·have g:aB (dI n dead.length (bg known vals l) W left ahead) i=cV W (aJ dead.length) ((bg known vals l).getD left[i].toNat ([],[])).1:=by rw[bz m7];simp[dI,a]
  have m:aB (fE n w (bg known vals l) M left ahead) i=cV M ((bg known vals l).getD left[i].toNat ([],[])).2 ((bg known vals l).getD left[i].toNat ([],[])).1:=by rw[bz p9];simp[fE,a]
  rw[g,m];refine(S.Pu (qg a) t k _).2 ?_;have v:=S.leftR _ (qg a);have b:left[i].toNat<ii (bg known vals l):=i4
  have A:(bg known vals l).getD left[i].toNat ([],[])=(bg known vals l)[left[i].toNat]:=by rw[qe,qd b];rfl
  rw[A];have p:=s _ (qg b);have f:=ot S.pinv S.eqs _ (qg b);unfold Sat at p⊢;rw[<-p];exact ku λc h=>(o c (f.cZ c h).1 (f.cZ c h).2).symm
 ·obtain⟨d,rfl⟩:∃d,i=ii left+d:=⟨i-ii left,i4⟩
  have y:d<ii ahead:=i4
  have g:aB (dI n dead.length (bg known vals l) W left ahead) (ii left+d)=gT W ahead[d] (aJ dead.length) n:=by rw[bz m7];simp[dI]
  have m:aB (fE n w (bg known vals l) M left ahead) (ii left+d)=gT M ahead[d] (aJ w) n:=by rw[bz p9];simp[fE]
  rw[g,m];refine(S.Mi _ t k _).2 ?_;rw[<-u _ (qg y)];exact gd n (λ_ _=>rfl) λc h=>(o (c:Int) i4 i4).symm
theorem oR(S:gO n w l ahead known vals dead left W M):aY dead.length (dI n dead.length (bg known vals l) W left ahead)/\aY w (fE n w (bg known vals l) M left ahead):=by
 have d:∀i∈left,iT n w ((bg known vals l).getD i.toNat ([],[])):=λi b=>by
  have g:=S.leftR i b;have e:i.toNat<ii (bg known vals l):=i4
  rw[qe,qd e];exact ot S.pinv S.eqs _ (qg e)
 constructor
 ·intro r a;rcases qA.1 a with a|a
  ·obtain⟨i,b,rfl⟩:=qu.1 a;exact jQ k7 λc f=>((S.lens.2.2 c.toNat) (by have:=(d i b).cZ c f;omega)).1
  ·obtain⟨x,h,rfl⟩:=qu.1 a;exact lP x k7 λi b=>(S.lens.2.2 i b).1
 ·intro r a;rcases qA.1 a with a|a
  ·obtain⟨i,b,rfl⟩:=qu.1 a;exact jQ (d i b).len λc f=>((S.lens.2.2 c.toNat) (by have:=(d i b).cZ c f;omega)).2
  ·obtain⟨x,h,rfl⟩:=qu.1 a;exact lP x k7 λi b=>(S.lens.2.2 i b).2
theorem xO:ii (dI n dead.length (bg known vals l) W left ahead)=ii (fE n w (bg known vals l) M left ahead):=by simp[dI,fE]
theorem gO.KM(S:gO n w l ahead known vals dead left W M)(U:1<=w)(d:ca (dJ n l ahead)=n):ca (dI n dead.length (bg known vals l) W left ahead)=ii dead:=by
 obtain⟨G,Y⟩:=oR S;have J:=lm G;by_cases E:ca (dI n dead.length (bg known vals l) W left ahead)<ii dead
 ·exfalso;obtain⟨y,⟨i,b,I⟩,R⟩:=kernel G E;have h:=S.up (t:=0) (k:=0) (y:=y) U λi b=>by rw[R _ (mem_row b),Gf.zero_mul]
  have H:=xM (l:=l) S.ahd;have u:aY 1 (qh (dJ n l ahead).length (aJ 1)):=λr d=>by rw[(ya.1 d).2];simp[aJ]
  have f:ii (dJ n l ahead)=ii (qh (dJ n l ahead).length (aJ 1)):=i9
  have T:fC n 1 (dJ n l ahead) (qh (dJ n l ahead).length (aJ 1)) (qh n (aJ 1)):=by
   have a:aY 1 (qh n (aJ 1)):=λr d=>by rw[(ya.1 d).2];simp[aJ]
   refine⟨i9,a,λi b=>?_⟩;refine eO (n:=1) (iJ a i9 _ n (qm _)) (cA u j6) λk K=>?_;rw[gY a i9 _ k n (qm _)];have v:aB (qh (dJ n l ahead).length (aJ 1)) i=aJ 1:=by rw[bz j6];simp
   rw[v,cB];have:∀g,g<=n->bR (λj=>aN (aB (dJ n l ahead) i) j) (λc=>aN (aB (qh n (aJ 1)) c) k) g=0:=by
    intro g
    induction g with
    |zero=>intro _;rfl
    |succ g ih=>
     intro X;have Q:aB (qh n (aJ 1)) g=aJ 1:=by rw[bz i7];simp
     rw[bR,ih i4,Q,cB,Gf.mul_zero];rfl
   exact this n (qm _)
  have N:fC n 1 (dJ n l ahead) (qh (dJ n l ahead).length (aJ 1)) ((qz n).map λc:Nat=>[ev 0 0 dead.length W M y (c:Int)]):=by
   have a:aY 1 ((qz n).map λc:Nat=>[ev 0 0 dead.length W M y (c:Int)]):=λr d=>by obtain⟨c,_,rfl⟩:=qu.1 d;rfl
   have o:∀c:Nat,c<n->aB ((qz n).map λc:Nat=>[ev 0 0 dead.length W M y (c:Int)]) c=[ev 0 0 dead.length W M y (c:Int)]:=λc q=>by rw[bz rb];simp
   refine⟨i9,a,λi b=>?_⟩;refine eO (n:=1) (iJ a i9 _ n (qm _)) (cA u j6) λk K=>?_;have x:k=0:=i4
   subst x;rw[gY a i9 _ 0 n (qm _)];have v:aB (qh (dJ n l ahead).length (aJ 1)) i=aJ 1:=by rw[bz j6];simp
   rw[v,cB];have O:bR (λj=>aN (aB (dJ n l ahead) i) j) (λc=>aN (aB ((qz n).map λc:Nat=>[ev 0 0 dead.length W M y (c:Int)]) c) 0) n=bR (λj=>aN (aB (dJ n l ahead) i) j) (λc=>ev 0 0 dead.length W M y (c:Int)) n:=
    gd n (λ_ _=>rfl) λc q=>by rw[o c q];rfl
   rw[O];have A:aB (dJ n l ahead) i∈ahead++l.map λe=>gv n e.1:=mem_row b;obtain B|B:=qA.1 A
   ·exact h.2 _ B
   ·obtain⟨e,s,z⟩:=qu.1 B;rw[<-z,Cf _ (S.eqs e s).cZ (S.eqs e s).nodup];have F:=h.1 e s;unfold Sat at F;rw[Gf.zero_mul]at F;refine Eq.trans (ku λc q=>?_) F;have:=(S.eqs e s).cZ c q;rw[show((c.toNat:Nat):Int)=c by omega]
  have L:=(lO f H u d T).1;have V:=(lO f H u d N).1;have D:=V.trans L.symm;have P:=S.deadR _ (qg b);have p:=congrArg (λm=>aN (aB m dead[i].toNat) 0) D;rw[bz i7,bz i7]at p;simp only[List.getElem_map,List.getElem_range,List.getElem_replicate,cB]at p;rw[show((dead[i].toNat:Nat):Int)=dead[i]by omega]at p;have h8:aN [ev 0 0 dead.length W M y dead[i]] 0=ev 0 0 dead.length W M y dead[i]:=rfl;rw[h8,S.evDead 0 0 y i b]at p;exact I p
 ·omega
theorem KR(S:gO n w l ahead known vals dead left W M){D:aL}(h:ii D=ii dead)(f:aY w D){c:Nat}(e:c<n):
  (aB (ui dead.length known vals W M D) c).length=w/\∀k,aN (aB (ui dead.length known vals W M D) c) k=ev 1 k dead.length W M (λi=>aN (aB D i) k) (c:Int):=by
 have g:=S.pinv.vlen;have b:aB (ui dead.length known vals W M D) c=if known.getD c eS then aB vals c else gT D (aB W c) (aB M c) dead.length:=by unfold ui;rw[Ce i4]
 have d:=S.lens.2.2 c e;rw[b];cases hkn:known.getD c eS with
 |true=>
  rw[f9 rfl];refine⟨by have:=S.pinv.row c e;rw[hkn]at this;simpa using this,λk=>?_⟩;have:=S.evKnown 1 k (λi=>aN (aB D i) k) (c:Int) i4 i4 (by unfold kn;rw[ql];exact hkn);rw[this,ql,Gf.one_mul]
 |false=>
  rw[g0 i9];have a:∀i,i<ii dead->ii (aB D i)=w:=λi j=>cA f;refine⟨lP _ d.2 a,λk=>?_⟩;rw[HC _ d.2 k a];unfold ev;rw[ql,Gf.one_mul,vq]
theorem adx(h:ii vals=n){D:aL}:ii (ui dead.length known vals W M D)=n:=by simp[ui,h]
theorem gO.Vg(S:gO n w l ahead known vals dead left W M){D:aL}(p:fC dead.length w (dI n dead.length (bg known vals l) W left ahead) (fE n w (bg known vals l) M left ahead) D):fC n w (dJ n l ahead) (iv w l ahead) (ui dead.length known vals W M D):=by
 obtain⟨d,a,h⟩:=p;obtain⟨u,v⟩:=oR S;have g:=adx (dead:=dead) (known:=known) (W:=W) (M:=M) S.pinv.vlen (D:=D);refine(Cg S.eqs).2 ⟨g,λr f=>?_,λk o=>?_⟩
 ·obtain⟨c,b,rfl⟩:=fj f;exact(KR S d a i4).1
 ·have j:=S.up (t:=1) (k:=k) (y:=λi=>aN (aB D i) k) o λi s=>by
   have:=congrArg (λr=>aN r k) (h i s);rw[gY a d _ k dead.length (qm _)]at this;rw[this,Gf.one_mul]
  refine⟨λe m=>?_,λr f=>?_⟩
  ·have h3:=j.1 e m;unfold Sat at h3⊢;rw[<-h3];refine ku λc b=>?_;have q:=(S.eqs e m).cZ c b;unfold at_;rw[(KR S d a (show c.toNat<n by omega)).2 k,show((c.toNat:Nat):Int)=c by omega]
  ·rw[<-j.2 r f];exact gd n (λ_ _=>rfl) λc b=>(KR S d a b).2 k
theorem gO.RS(S:gO n w l ahead known vals dead left W M){X:aL}(p:fC n w (dJ n l ahead) (iv w l ahead) X):fC dead.length w (dI n dead.length (bg known vals l) W left ahead) (fE n w (bg known vals l) M left ahead) (dead.map λc=>aB X c.toNat):=by
 obtain⟨u,o,g⟩:=(Cg S.eqs).1 p;obtain⟨s,q⟩:=oR S;have e:aY w (dead.map λc=>aB X c.toNat):=λr d=>by
  obtain⟨c,h,rfl⟩:=qu.1 d;have:=S.deadR c h;exact cA o
 have b:ii (dead.map λc=>aB X c.toNat)=ii dead:=i9
 refine⟨b,e,λi m=>eO (n:=w) (iJ e b _ _ (qm _)) (cA q (by rw[<-xO (n:=n) (w:=w)];exact m)) λk a=>?_⟩;rw[gY e b _ k dead.length (qm _)];have h3:=(S.down (t:=1) (x:=at_ X k) a (g k a).1 (λr d=>by
  have:=(g k a).2 r d;rw[<-this];exact gd n (λ_ _=>rfl) λc h=>by unfold at_;rw[ql])).2 i m
 rw[Gf.one_mul]at h3;rw[<-h3];refine gd _ (λ_ _=>rfl) λj f=>?_;unfold at_;rw[bz pa,qe,qd f];simp
def io(known:List Bool)(i:Nat):bP:=((qz i).filter λc=>known.getD c eS).map λc:Nat=>[(c:Int)]
theorem KS(known:List Bool)(i:Nat):io known (i+1)=io known i++if known.getD i eS then[[(i:Int)]]else[]:=by unfold io;rw[List.range_succ,List.filter_append,List.map_append];cases h:known.getD i eS<;>simp only[zr,h,List.filter_nil]<;>rfl
theorem Df(known:List Bool)(i:Nat):ii (io known i)<=i:=by unfold io;rw[qx];exact zd (qT _ _) i9
def rowsOf(R:List fq)(known:List Bool)(n:Nat):bP:=R.map qK++io known n
def gJ(R:List fq)(known:List Bool)(n:Nat):Pl:=dL n (rowsOf R known n)
def ni(R:List fq)(known:List Bool)(n:Nat):List (Int×Int):=(gJ R known n).steps.filter λx=>decide (x.1<ii R)
def leftOf(R:List fq)(known:List Bool)(n:Nat):aw:=(fD (gJ R known n).used (rowsOf R known n).length).filter λx=>decide (x<ii R)
theorem xP{known:List Bool}{n:Nat}{r:aw}(h:r∈io known n):∃c:Nat,r=[(c:Int)]/\c<n/\known.getD c eS=eR:=by obtain⟨c,a,rfl⟩:=qu.1 h;rw[qH,qJ]at a;exact⟨c,i0,a.1,a.2⟩
theorem Ey{rows:bP}:∀{d:List (Int×Int)} {D U:Int->Prop},rQ rows D U d->∀i c,(i,c)∈d->(0<=i/\i<ii rows)/\c∈rows.getD i.toNat []
 |[],_,_,_,_,_,h=>j8
 |(i',c')::t,D,U,hg,i,c,h=>by
  obtain⟨e,_,_,f,_,g⟩:=hg;rcases q8.1 h with h|h
  ·injection h with a b;subst a;subst b;exact⟨e,f⟩
  ·exact Ey g i c h
theorem tw(f:∀e∈bg known vals l,iT n w e):∀r∈rowsOf (bg known vals l) known n,∀c∈r,0<=c/\c<(n:Int):=λr a c b=>by
 rcases qA.1 a with a|a
 ·obtain⟨e,g,rfl⟩:=qu.1 a;exact(f e g).cZ c b
 ·obtain⟨d,rfl,h,_⟩:=xP a;rw[qB]at b;subst b;omega
theorem Mj(h:∀e∈l,iT n w e)(f:jR n w l known vals):rR ((bg known vals l).map qK) (·∈(gJ (bg known vals l) known n).dead) (ni (bg known vals l) known n):=by
 have j:=ot f h;obtain⟨_,_,_,_,_,g⟩:=uh (tw j);have:=Am (R:=(bg known vals l).map qK) (S:=io known n) (K:=λc=>kn known c=eR) (λr b c a=>?_) (λr b c a=>?_) g (D':=(·∈(gJ (bg known vals l) known n).dead)) λc _=>Iff.rfl
 ·rw[qx]at this;exact this
 ·obtain⟨e,m,rfl⟩:=qu.1 b;obtain⟨i,k,rfl⟩:=qu.1 (qH.1 m).1;rw[Es f i c a];simp
 ·obtain⟨d,rfl,_,o⟩:=xP b;rw[qB]at a;subst a;unfold kn;rw[ql];exact o
theorem IT(m:∀e∈l,iT n w e)(j:jR n w l known vals):
  (∀c∈(gJ (bg known vals l) known n).dead,0<=c/\c<(n:Int))/\(gJ (bg known vals l) known n).dead.Nodup/\(∀c∈(gJ (bg known vals l) known n).dead,kn known c=eS)/\
  (∀i∈leftOf (bg known vals l) known n,0<=i/\i<(ii (bg known vals l):Int))/\(gJ (bg known vals l) known n).dead.length<=n:=by
 have o:=ot j m;obtain⟨r,q,a3,a4,a5,g⟩:=uh (tw o);refine⟨a3,a4,λc h=>?_,λi a=>?_,by unfold gJ;omega⟩
 ·have b:=a3 c h;cases hk:kn known c with
  |false=>rfl
  |true=>
   exfalso;have f:[c]∈rowsOf (bg known vals l) known n:=qA.2 (.inr (qu.2 ⟨c.toNat,qH.2 ⟨qJ.2 i4,hk⟩,by rw[show((c.toNat:Nat):Int)=c by omega]⟩));exact Cc f n (qh n eR) (qh _ eS) (λi a=>by rw[Ev]at a;cases a) (λd p f=>by have:=a3 d f;omega) b.1 h
 ·unfold leftOf at a;rw[qH]at a;have:=a5 i a.1;have k:i<(ii (bg known vals l):Int):=by simpa using a.2
  exact⟨this.1,k⟩
theorem aaE(r:∀e∈l,iT n w e)(k:jR n w l known vals){c:Int}(t:0<=c)(u:c<(n:Int))(b:kn known c=eS):c∈(gJ (bg known vals l) known n).dead∨∃i,(i,c)∈ni (bg known vals l) known n:=by
 have j:=ot k r;obtain⟨_,_,_,_,_,g⟩:=uh (tw j);have a:=Ex (tw j) n (qh n eR) (qh (rowsOf (bg known vals l) known n).length eS) i9 i9 c.toNat (by rw[qe,qd i7];simp);rw[show((c.toNat:Nat):Int)=c by omega]at a;rcases a with a|⟨i,a⟩
 ·exact .inl a
 ·refine .inr ⟨i,qH.2 ⟨a,?_⟩⟩;obtain⟨q,h⟩:=Ey g i c a;by_cases s:i<(ii (bg known vals l):Int)
  ·simpa using s
  ·exfalso;have p:=q.2;rw[rowsOf,qw,qx]at p;have m:(rowsOf (bg known vals l) known n).getD i.toNat []∈io known n:=by rw[rowsOf,qe,qj oj,qd oj];exact qg _
   obtain⟨d,o,_,f⟩:=xP m;rw[o,qB]at h;subst h;unfold kn at b;rw[ql,f]at b;cases b
def Oc(n w:Nat)(known:List Bool)(vals:aL)(R:List fq):aL×aL:=
 iD (gJ R known n).dead.length known vals ((ni R known n).foldl (hY R (gJ R known n).dead.length) (ge n (gJ R known n).dead.length w (gJ R known n).dead))
theorem aaF{nd:Nat}{s:aL×aL}{c:Int}(d:0<=c)(a:c.toNat<ii s.1)(b:c.toNat<ii s.2):
  aB (iD nd known vals s).1 c.toNat=(if kn known c then aJ nd else aB s.1 c.toNat)/\aB (iD nd known vals s).2 c.toNat=if kn known c then aB vals c.toNat else aB s.2 c.toNat:=by
 unfold iD kn;exact⟨Ce a,Ce b⟩
theorem aaG(K:∀e∈l,iT n w e)(hA:aY n ahead)(z:jR n w l known vals)(X:kv known vals l=eS):
  gO n w l ahead known vals (gJ (bg known vals l) known n).dead (leftOf (bg known vals l) known n) (Oc n w known vals (bg known vals l)).1 (Oc n w known vals (bg known vals l)).2:=by
 have L:=ot z K;have U:=Mj K z;have a:=λc h0 m o=>aaE (c:=c) K z h0 m o;obtain⟨B,O,P,f4,f5⟩:=IT K z;have b:∀j:Nat,j<ii (bg known vals l)->(∃c,((j:Int),c)∈ni (bg known vals l) known n)∨(j:Int)∈leftOf (bg known vals l) known n:=λj Q=>by
  cases hu:(gJ (bg known vals l) known n).used.getD j eS with
  |true=>
   rcases Ew n (qh n eR) (qh _ eS) j hu with h|⟨c,h⟩
   ·rw[Ev]at h;cases h
   ·exact .inl ⟨c,qH.2 ⟨h,i7⟩⟩
  |false=>exact .inr (qH.2 ⟨(Cb _ _ _).2 ⟨j,i0,by rw[rowsOf,qw,qx];omega,hu⟩,i7⟩)
 have s:∀e∈bg known vals l,∀c∈e.1,kn known c=eS:=λe v c N=>by
  obtain⟨e0,ab,rfl⟩:=qu.1 (qH.1 v).1;exact Es z e0 c N
 unfold Oc;obtain⟨R,f⟩:∃R,R=bg known vals l:=⟨_,rfl⟩
 rw[<-f]at L U B O P f4 f5 b a s⊢;obtain⟨D,V⟩:∃D,D=(gJ R known n).dead:=⟨_,rfl⟩
 obtain⟨ST,r⟩:∃ST,ST=ni R known n:=⟨_,rfl⟩
 rw[<-V,<-r]at U a;rw[<-r]at b;rw[<-V]at B O P f5;rw[<-V,<-r];obtain⟨Y,Z⟩:=KQ (nd:=ii D) (w:=w) B O D.length (qm _);rw[List.take_length]at Y Z;obtain⟨A,keep,T,J⟩:=HB L U Y;generalize ad:ST.foldl (hY R D.length) (ge n D.length w D)=S0 at*;have W:=A.wl;have S:=A.ml;have fr:∀c:Int,0<=c->c<(n:Int)->aB (iD D.length known vals S0).1 c.toNat=(if kn known c then aJ D.length else aB S0.1 c.toNat)/\aB (iD D.length known vals S0).2 c.toNat=if kn known c then aB vals c.toNat else aB S0.2 c.toNat:=λc h0 m=>aaF h0 i4 i4
 have u:∀t k y (c:Int),0<=c->c<(n:Int)->kn known c=eS->ev t k D.length (iD D.length known vals S0).1 (iD D.length known vals S0).2 y c=ev t k D.length S0.1 S0.2 y c:=λt k y c h0 m o=>by
  have:=fr c h0 m;rw[o]at this;exact Cd this.1 this.2
 have I:∀t k y (c:Int),0<=c->c<(n:Int)->kn known c=eR->ev t k D.length (iD D.length known vals S0).1 (iD D.length known vals S0).2 y c=Gf.mul t (aN (aB vals c.toNat) k):=λt k y c h0 m o=>by
  have:=fr c h0 m;rw[o,f9 rfl,f9 rfl]at this;unfold ev;rw[this.1,this.2,fP _ _ D.length λj _=>cB _ _,wy]
 have F:∀t k y i,(h:i<ii D)->ev t k D.length (ge n D.length w D).1 (ge n D.length w D).2 y D[i]=y i:=λt k y i h=>by
  have:=Z i h h;unfold ev;rw[this.1,this.2,aaD h,cB,Gf.mul_zero,zV]
 have E:∀i:Int,0<=i->i<(ii R:Int)->R.getD i.toNat ([],[])∈R:=λi h0 m=>by
  rw[qe,qd i4];exact qg _
 refine⟨K,hA,z,X,B,O,P,⟨by simp[iD,W],by simp[iD,S],λc N=>?_⟩,I,λt k y i h=>?_,λt k y o H e v=>?_,by rw[<-f];exact f4,λt k x o hx H c h0 m=>?_⟩
 ·have h:=fr (c:Int) i4 i4;rw[ql]at h;rw[h.1,h.2];cases o:kn known (c:Int)with
  |true=>
   rw[f9 i0,f9 rfl];refine⟨k7,?_⟩;have:=z.Er (c:=(c:Int)) i4 i4 o
   rwa [ql]at this
  |false=>
   rw[g0 i9,g0 i9];have:=A.rw_ (c:Int) (a _ i4 i4 o) i4 i4
   rwa [ql]at this
 ·have M:=B _ (qg h);rw[u t k y _ M.1 M.2 (P _ (qg h)),<-F t k y i h];exact Cd (keep _ (qg h) M.1).1 (keep _ (qg h) M.1).2
 ·rw[<-f]at v H;obtain⟨j,Q,rfl⟩:=qL v;have ej:R.getD ((j:Int)).toNat ([],[])=R[j]:=by rw[ql,qe,qd Q];rfl
  rcases b j Q with⟨c,N⟩|hlf
  ·have:=T _ N t k y o;dsimp only at this;rw[ej]at this;unfold Sat at this⊢;rw[<-this];exact ku λd G=>u t k y d ((L _ v).cZ d G).1 ((L _ v).cZ d G).2 (s _ v d G)
  ·have:=H _ hlf
   rwa [ej]at this
 ·rw[<-f]at H;cases hkc:kn known c with
  |true=>rw[hx c h0 m hkc,I _ _ _ c h0 m hkc]
  |false=>
   rw[u _ _ _ c h0 m hkc];refine J t k x _ o (λd G h2 h3=>?_) (λp hp=>?_) c (a c h0 m hkc) h0 m
   ·obtain⟨i,hi,rfl⟩:=qL G;rw[F t k _ i hi,qe,qd hi];rfl
   ·have q:p∈ni R known n:=r▸hp;unfold ni at q;rw[qH]at q;have h2:p.1<(ii R:Int):=by simpa using q.2
    have h3:0<=p.1:=by obtain⟨_,_,_,_,_,g⟩:=uh (rows:=rowsOf R known n) (n:=n) (by rw[f];exact tw (f▸L));exact(Ey g p.1 p.2 q.1).1.1
    exact H _ (E _ h3 h2)
def sN(n:Nat)(seed:Int)(l:List (Int×Row)):List fq:=l.map λx=>(dE n seed x.1,x.2)
def pQ(p:Int×Int×Int)(l:List (Int×Row)):aL:=qh p.2.1.toNat (aJ p.2.2.toNat)++l.map zL
structure xQ (p:Int×Int×Int) (x:Int×Row):Prop where
 id:bW x.1=eR
 len:ii x.2=p.2.2.toNat
theorem ady{n:Nat}(c:1<=n)(d:n<=20)(seed id:Int):(dE n seed id).Pairwise (·<·):=by have a:=RM n seed id;have b:=BS c d seed id;rw[List.Nodup]at b;exact(a.and b).imp λ⟨c,d⟩=>i4
variable {p:Int×Int×Int} {seed:Int}
section
variable {l:List (Int×Row)}
theorem aeL(a:1<=n)(b:n<=20)(f:∀x∈l,xQ p x)(d:p.2.2.toNat=w):∀e∈sN n seed l,iT n w e/\e.1.Pairwise (·<·):=λe h=>by
 obtain⟨x,i,rfl⟩:=qu.1 h;exact⟨⟨λc g=>mM a b g,BS a b seed x.1,by rw[<-d];exact(f x i).len⟩,ady a b seed x.1⟩
theorem Vh(a:bM p=eR)(c:(bG p).toNat=n)(d:∀x∈l,xQ p x):dJ n (sN n seed l) (bC p.1.toNat p.2.1.toNat)=dP p seed (l.map qK):=by
 unfold dJ dP sN;rw[f9 a,c];have:(l.map qK).filter bW=l.map qK:=zZ.2 λi b=>by
  obtain⟨x,e,rfl⟩:=qu.1 b;exact(d x e).id
 rw[this,w9,w9];rfl
theorem Vi(a:p.2.2.toNat=w):iv w (sN n seed l) (bC p.1.toNat p.2.1.toNat)=pQ p l:=by unfold iv pQ sN;rw[a,w9];simp[bC]
end
theorem XJ(c:∀e∈l,iT n w e)(f:aY n ahead)(g:jR n w l known vals)(b:kv known vals l=eR)(j:ca (dJ n l ahead)=n):¬kW n (dJ n l ahead) (iv w l ahead):=λh=>by
 obtain⟨k,i,a⟩:=Ve g c b;have d:=oM tv (xM f) (xN c) j h;exact a _ (((Cg c).1 d).2.2 k i).1
theorem gO.TP(S:gO n w l ahead known vals dead left W M)(b:ca (dJ n l ahead)=n){D:aL}(a:fC dead.length w (dI n dead.length (bg known vals l) W left ahead) (fE n w (bg known vals l) M left ahead) D):
  kW n (dJ n l ahead) (iv w l ahead)/\ui dead.length known vals W M D=go n (dJ n l ahead) (iv w l ahead):=by
 have h:=lO tv (xM S.ahd) (xN S.eqs) b (S.Vg a);exact⟨h.2,h.1⟩
theorem gO.TQ(S:gO n w l ahead known vals dead left W M)(b:ca (dJ n l ahead)=n)(a:kW n (dJ n l ahead) (iv w l ahead)):fC dead.length w (dI n dead.length (bg known vals l) W left ahead) (fE n w (bg known vals l) M left ahead) (dead.map λc=>aB (go n (dJ n l ahead) (iv w l ahead)) c.toNat):=
 S.RS (oM tv (xM S.ahd) (xN S.eqs) b a)
theorem gO.Vj(S:gO n w l ahead known vals dead left W M)(f:1<=w)(b:ca (dJ n l ahead)=n):kW dead.length (dI n dead.length (bg known vals l) W left ahead) (fE n w (bg known vals l) M left ahead)↔kW n (dJ n l ahead) (iv w l ahead):=by obtain⟨d,e⟩:=oR S;have a:=S.KM f b;exact⟨λc=>(S.TP b (oM xO d e a c)).1,λc=>(lO xO d e a (S.TQ b c)).2⟩
theorem IU{a b:aL}(h:ii a=ii b):fC 0 w a b []↔∀r∈b,r=aJ w:=by
 unfold fC;constructor
 ·rintro⟨_,_,h3⟩ r c;obtain⟨i,d,rfl⟩:=fj c;exact(h3 i i4).symm
 ·intro e;refine⟨i0,λr c=>(by cases c),λi d=>?_⟩;have:aB b i∈b:=mem_row;rw[e _ this];rfl
theorem adz(b:∀e∈l,e.1.Pairwise (·<·)):∀e∈bg known vals l,e.1.Pairwise (·<·):=λe d=>by
 obtain⟨c,a,rfl⟩:=qu.1 (qH.1 d).1;exact(b c a).filter _
theorem XK:ii (bg known vals l)<=ii l:=by unfold bg;refine zd (qT _ _) ?_;simp
theorem XL{m:Nat}(b:∀e∈l,ii e.1<=m):∀e∈bg known vals l,ii e.1<=m:=λe d=>by
 obtain⟨c,a,rfl⟩:=qu.1 (qH.1 d).1;exact zd (qT _ _) (b c a)
open Go
end Wl
namespace Go.Vc
open Go
variable {B:aA} {α:Type} {C:Ctx} {h0 h:Heap} {As:List HP} {e t t2 k by_:Nat} {s:Sl} {f:α->ba} {d:List α} {z:ba}
theorem Own.KT(q:C.Ok)(B:bU C.toAO t e k z by_)(J:∃i w,C.T.get t2=dB i/\i.db=.slice w)(j:∀x,ii (f x)=k)
  (n:Own h e s k f d) (m:∀x,∀c∈f x,c.oneCell'=eR) (i:Nat) (N:i<ii d) {ty:Nat} {K:Sl->Heap->Prop}
  (G:∀h',Own h' e s k f ((d.take i++d.drop (i+1))++d.drop (ii d-1))->aZ (λb=>¬s.on b) h h'->K ⟨s.ptr,ii d-1,s.cap⟩ h'):
  bV C.P (qt #[t,t2] ty #[.slice s.ptr i s.cap,.slice (if s.cap=i+1 then s.ptr else s.ptr.map (·.add ((i+1)*k))) (s.len-(i+1)) (s.cap-(i+1))]) (.one (.sc .slc)) h K:=by
 obtain⟨Q,w,L,F⟩:=J;have A:C.P.underlying t2=dB (.slice w):=by have:=q.db L;rw[F]at this;exact jv this
 have E:=n.len;have l:=n.cap;have D:Seq h (λ_=>True) ⟨if s.cap=i+1 then s.ptr else s.ptr.map (·.add ((i+1)*k)),s.len-(i+1),s.cap-(i+1)⟩ k f (d.drop (i+1)):=Seq.drop (n.seq j λ_ _=>trivial) (i+1) l;obtain⟨v,a⟩:∃v:Sl,v=⟨if s.cap=i+1 then s.ptr else s.ptr.map (·.add ((i+1)*k)),s.len-(i+1),s.cap-(i+1)⟩:=⟨_,rfl⟩
 rw[<-a]at D;have I:(Value.slice (if s.cap=i+1 then s.ptr else s.ptr.map (·.add ((i+1)*k))) (s.len-(i+1)) (s.cap-(i+1)))=.slice v.ptr v.len v.cap:=by rw[a]
 have H:v.len=s.len-(i+1):=by rw[a]
 rw[I];unfold bV qt;simp only[zX,List.getElem?_cons_zero,List.getElem?_cons_succ];refine az.bind (az.always (aR (B.under q)) ?_);refine az.bind (az.always (B.size q) ?_);refine az.bind (az.always (aR A) ?_);refine az.bind (az.pure' ?_);simp only[zn,if_false,yg,if_true];refine az.bind (az.pure' ?_);have g:i+v.len<=s.cap:=i4
 rw[f9 g];refine az.bind (gG j D ?_);rcases n.head with⟨p1,p2,p3⟩|⟨b,rest,p1,p2,p3,p4⟩
 ·subst p3;simp at N
 ·rw[p1];refine az.bind ?_;rw[add_eq,wh];have y:d=d.take i++((d.drop i).take (ii d-1-i)++d.drop (ii d-1)):=by
   have O:(d.drop i).drop (ii d-1-i)=d.drop (ii d-1):=by rw[List.drop_drop];congr 1;omega
   rw[<-O,qF,qF]
  have r:((d.drop i).take (ii d-1-i)).length=ii d-1-i:=i7
  have p:ii (d.drop (i+1))=ii d-1-i:=i7
  refine fx (e:=e) (pre:=(d.take i).flatMap f) (old:=((d.drop i).take (ii d-1-i)).flatMap f) (post:=(d.drop (ii d-1)).flatMap f++rest) ?_ ?_ ?_ ?_ ?_
  ·have:(d.take i).flatMap f++((d.drop i).take (ii d-1-i)).flatMap f++((d.drop (ii d-1)).flatMap f++rest)=d.flatMap f++rest:=by
    conv=>rhs;rw[y]
    simp only[zg,qp]
   rw[this];exact p2
  ·rw[dK j,dK j,r,p]
  ·rw[dK j,qU,Nat.min_eq_left i4];omega
  ·intro c M;obtain⟨x,_,o⟩:=zS.1 M;exact m x c o
  ·have u:i+v.len=ii d-1:=i4
   rw[u];refine az.pure' ⟨⟨dB ⟨b,0,none⟩,ii d-1,s.cap⟩,i0,?_⟩;rw[<-p1];refine G _ ⟨?_,.inr ⟨b,rest,p1,?_,p3,p4⟩⟩ ?_
   ·simp;omega
   ·rw[iI p2,f9 rfl];simp[zg]
   ·exact aZ.jI p2 (λu=>u ⟨0,p1⟩)
theorem aa.KT(u:C.Ok)(H:aa B h0 h As)(j:Nat)(m:As[j]?=dB (ae e s k f d))(o:bU C.toAO t e k z by_)(r:∃i A,C.T.get t2=dB i/\i.db=.slice A)(v:∀x,ii (f x)=k)
  (a:∀x,∀c∈f x,c.oneCell'=eR) (i:Nat) (w:i<ii d) {ty:Nat} {K:Sl->Heap->Prop}
  (p:∀h',aa B h0 h' (As.set j (ae e s k f ((d.take i++d.drop (i+1))++d.drop (ii d-1))))->K ⟨s.ptr,ii d-1,s.cap⟩ h'):
  bV C.P (qt #[t,t2] ty #[.slice s.ptr i s.cap,.slice (if s.cap=i+1 then s.ptr else s.ptr.map (·.add ((i+1)*k))) (s.len-(i+1)) (s.cap-(i+1))]) (.one (.sc .slc)) h K:=
 (H.own j m).KT u o r v a i w λh' x y=>p h' (H.step j m λq n _=>⟨y.mono λb _ g l=>g (n.2 b l),x,λb g=>⟨x.lt g,.inl (n.2 b g)⟩⟩)
variable {P:Program}
structure agN (P:Program) (t it:TypeId):Prop where
 u:∃f0 f1 f2:Field,P.underlying t=dB (.struct #[f0,f1,f2])/\f0.name≠ "_" /\f1.name≠ "_" /\f2.name≠ "_" /\f0.type=it/\f1.type=it/\f2.type=it/\f0.offset=0/\f1.offset=1/\f2.offset=2
 st:P.stoodInHeld t=eS
 i:P.underlying it=dB (.int .i64)
 a:aK P (isAgg it) eS
abbrev k3v(x:Int×Int×Int):Value:=.agg #[xt xz x.1,xt xz x.2.1,xt xz x.2.2]
structure agO (h:Heap) (r:Nat) (ks:List (Int×Int×Int)):Prop where
 ex:∃es clock,h[r]?=dB (.map es clock)/\es.toList.map (λe=>(e.key,e.val))=ks.map (λk=>(k3v k,Value.bool eR))
variable {p q:aA} {v:Sl} {l l2:List α}
open Go Go.RowKit Go.ChangeShapes Go.WideShapes Go.Joins Go.Deep
variable {H:Type} {enc:TypeId×Value->H} {W W':World}
theorem aaH{w a:World}(c:dG w a)(d:aZ (λb=>b<w.heap.size) w.heap a.heap):Below w.heap.size w a:=
 ⟨c.os,c.tape,c.output,d.1,λk e=>d.2 k e e⟩
theorem Dg(i:laidOutB P=eR)(g:Below W.heap.size W W'):∀{c:List TypeId} {vs:ba} {ds:List (DataW H)} {a:List MemPlace},
  (∀t∈c,P.readableRec t=eR/\t<P.types.size)->DataW.TrodAll enc P W 0 (λ_=>eR) eR c vs ds a->(∀x∈a,x.block<W.heap.size)->DataW.TrodAll enc P W' 0 (λb=>decide (b<W.heap.size)) eR c vs ds a
 |[],[],[],a,_,h,_=>h
 |t::c,v::vs,d::ds,a,hr,⟨p,q,h1,h2,e⟩,hlt=>by
  subst e;exact⟨p,q,Below.trod i (hr t i9).1 (hr t i9).2 h1 g λx f=>hlt x p0,Dg i g (λu j=>hr u (by simp[j])) h2 λx f=>hlt x p0,i0⟩
 |[],_::_,_,_,_,h,_=>h.elim
 |[],[],_::_,_,_,h,_=>h.elim
 |_::_,[],_,_,_,h,_=>h.elim
 |_::_,_::_,[],_,_,h,_=>h.elim
theorem aaI{f:Func}{s:ChangeSpec}{args:Array Value}{ds:List (DataW H)}{a:List MemPlace}{rt:TypeId}(k:s.vars=[])(d:DataW.Whole enc P f.params.toList s.vars eS W args.toList ds [] a)
  (b:s.fn H (ds++[])={results:=[.lit (.bool eR)],args:=ds}) (m:laidOutB P=eR) (i:Below W.heap.size W W') (l:∀t∈f.params.toList,P.readableRec t=eR/\t<P.types.size)
  (c:f.resultTypes=#[rt]) (g:P.underlying rt=dB .bool):s.post enc P f eS eR eS eS W args (.bool eR) W':=by
 obtain⟨p,q,o,j,h3,u,r⟩:=id d;have e:=d.lt;rw[k]at j;have n:q=[]:=j;subst n;simp only[qM]at h3;subst h3;refine⟨ds,[],a,[],a,[],d,?_,?_,?_,i.frame _,λh=>j8⟩
 ·rw[b,c];exact trodAll_mk1 (shut_bool g eR)
 ·rw[b];exact Dg m i l o e
 ·rw[b,k];rfl
theorem RT(w:World)(a:Addr):w.cell? a=cellOf w.heap a:=rfl
theorem XM{h:Heap}{a:Addr}{v:Value}(c:cellOf h a=dB v):a=⟨a.block,a.off,none⟩:=by
 obtain⟨b,o,s⟩:=a;cases s with
 |none=>rfl
 |some s=>
  unfold cellOf at c;cases hb:h[b]? with
  |none=>rw[hb]at c;cases c
  |some x=>rw[hb]at c;cases x<;>simp at c
theorem aeM{α:Type}{f:α->Value}{h:Heap}{a:Addr}{len cap:Nat}{l:List α}(j:ii l=len)(g:∀i (d:i<ii l),cellOf h (a.add i)=dB (f l[i])):Seq h (λb=>b<h.size) ⟨dB a,len,cap⟩ 1 (λx=>[f x]) l:=by refine⟨j.symm,λi x k=>?_⟩;obtain⟨d,e⟩:=List.getElem?_eq_some_iff.1 k;have h0:=g 0 i4;rw[add_zero]at h0;have c:=XM h0;refine⟨a.block,a.off,by rw[<-c],sC h0,?_,trivial⟩;have:=g i d;rw[c,add_eq]at this;rw[Nat.mul_one,add_eq,Nat.add_zero,this,e]
theorem Pv{t e:TypeId}{v:Value}{d:DataW H}{u:List MemPlace}(q:P.underlying t=dB (.slice e))(j:P.underlying e=dB (.int .i64))(o:P.cellsOf e=1)
  (k:∃p n c,v=.slice p n c) (h:DataW.Trod enc P W 0 (λ_=>eR) eR t v d u):∃(s:Sl) (l:aw),v=.slice s.ptr s.len s.cap/\Seq W.heap (λb=>b<W.heap.size) s 1 ak l:=by
 obtain⟨g,m⟩:=h;obtain⟨p,n,c,rfl⟩:=k;rcases open_ints q j o m with⟨h1,_⟩|⟨a,len,cap,zs,h1,_,hle,_,hz,_,hcell,_⟩
 ·simp[Value.cells]at h1;obtain⟨rfl,rfl,rfl⟩:=h1;exact⟨⟨none,0,0⟩,[],i0,Seq.nil _ _ _ _ _ _⟩
 ·simp[Value.cells]at h1;obtain⟨rfl,rfl,rfl⟩:=h1;simp only[if_true]at hz;refine⟨⟨dB a,n,c⟩,zs.take n,i0,aeM (f:=λx=>xt xz x) i7 λi r=>?_⟩;simp at r;rw[<-RT,hcell i i4];simp[qe,qd (show i<ii zs by omega)]
theorem Dh{r:_root_.Go.Reach}{b:Nat}{t e:TypeId}{v:Value}(a:P.underlying t=dB (.slice e))(h:Value.okWide P W r b t v):∃p n c,v=.slice p n c:=by simp only[Value.okWide,a,Cell.okWide]at h;cases v<;>simp_all [Cell.ok]
end Go.Vc
namespace Go
variable {H:Type} {enc:TypeId×Value->H}
theorem XN{P:Program}(h:P.funcs.any Func.goes=eS)(f:FuncId):P.goes f=eS:=by
 have b:∀g:FuncId,(P.funcs[g]?).any Func.goes=eS:=λg=>by
  cases hg:P.funcs[g]? with
  |none=>rfl
  |some x=>
   show Func.goes x=eS;obtain⟨a,e⟩:=Array.getElem?_eq_some_iff.1 hg;cases hx:Func.goes x with
   |false=>rfl
   |true=>
    have:P.funcs.any Func.goes=eR:=Array.any_eq_true.2 ⟨g,a,by rw[e];exact hx⟩;rw[h]at this;cases this
 unfold Program.goes;rw[h,Bool.and_false,Bool.or_false];simp only[b];simp
theorem RU{P:Program}{c:OpenClaim}(h:P.funcs.any Func.goes=eS):c.goesBy P=eS:=by
 have a:∀f,P.goes f=eS:=XN h;unfold OpenClaim.goesBy Program.goesAt Program.goesFrom;have b:(P.funcNamed c.func).any P.goes=eS:=by
  cases P.funcNamed c.func with
  |none=>rfl
  |some f=>exact a f
 have h3:P.inits.toList.any P.goes=eS:=wL.2 λf _=>by rw[a f];exact Bool.false_ne_true
 rw[b,h3];cases c.start<;>rfl
end Go
