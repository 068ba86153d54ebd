/- Lemmas for the proof of the law; no condition. -/
import Derived.Test.YtcjnjifdphcijaaGreatDoorPlA
import Derived.Shelf.SlSortCmp.NoneTotal
import Derived.ProofKit
import Derived.Deep.Matrix
import Derived.Carry
import Derived.Lib.SmallJoins
import Derived.Handed
import Derived.HandedShaped
import Derived.ChangeMaps5
import Derived.SevenTiedAt
set_option linter.unusedVariables false
set_option linter.unusedSimpArgs false
open Array renaming getElem?_setIfInBounds -> yH
open List renaming mem_take_iff_getElem -> yt, nodup_range -> vF, range -> qx, range' -> zT, range'_succ -> yu, replicate -> qg
open Nat renaming add_sub_cancel -> vj
open Go.Value renaming int -> xJ
open Go.IntKind renaming i64 -> xP, u32 -> xR
open Prod renaming fst -> qE, snd -> zi
open Go.Instr renaming findNow -> xk, lookup -> xF, makeMap -> xj, mapUpdate -> yZ, slice -> xn, sliceAt -> w5, sliceBounds -> wo
open Go.Builtin renaming append_ -> zA
set_option maxRecDepth 100000
open Option renaming some -> dB, none -> et
open Bool renaming true -> ez, false -> eH
open Go renaming Value -> eR
open List renaming length -> hY
namespace Go.Qw
open Go.Proofs
abbrev iE:=FloatKind.format .f64
theorem Et{P:Program}{a b c:Nat}(h:iE.add a b=dB c):aI P (Op.Complex.arith .add .f64 a b) c:=λw=>by
 have h':(FloatKind.format .f64).add a b=dB c:=h;unfold Op.Complex.arith Op.floatArith;simp only[h'];rfl
theorem Eu{P:Program}{a b c:Nat}(h:iE.sub a b=dB c):aI P (Op.Complex.arith .sub .f64 a b) c:=λw=>by
 have h':(FloatKind.format .f64).sub a b=dB c:=h;unfold Op.Complex.arith Op.floatArith;simp only[h'];rfl
theorem AB{P:Program}{a b c:Nat}(h:iE.mul a b=dB c):aI P (Op.Complex.arith .mul .f64 a b) c:=λw=>by
 have h':(FloatKind.format .f64).mul a b=dB c:=h;unfold Op.Complex.arith Op.floatArith;simp only[h'];rfl
theorem Bh{P:Program}{op:BinOp}(h:op=.add∨op=.sub∨op=.mul)(t:TypeId)(x y:Operand)(a b:eR):aI P (eqGuard op t x y a b) ():=λw=>by
 rcases h with rfl|rfl|rfl<;>rfl
theorem afj{P:Program}{t:TypeId}{x y:Operand}{a b c d e f:Nat}(g:iE.add a c=dB e)(h:iE.add b d=dB f):kM P .add t x y (.complex .f64 a b) (.complex .f64 c d) (.complex .f64 e f):=
 (Bh (.inl hZ) t x y _ _).bind (show aI P (Op.complexOp .add .f64 a b c d) _ from(Et g).bind ((Et h).bind λ_=>rfl))
theorem afk{P:Program}{t:TypeId}{x y:Operand}{a b c d e f:Nat}(g:iE.sub a c=dB e)(h:iE.sub b d=dB f):kM P .sub t x y (.complex .f64 a b) (.complex .f64 c d) (.complex .f64 e f):=
 (Bh (.inr (.inl hZ)) t x y _ _).bind (show aI P (Op.complexOp .sub .f64 a b c d) _ from(Eu g).bind ((Eu h).bind λ_=>rfl))
theorem afl{P:Program}{t:TypeId}{x y:Operand}{a b c d e f h i k j:Nat}(l:iE.mul a c=dB h)(n:iE.mul b d=dB i)(h3:iE.sub h i=dB e)(q:iE.mul a d=dB k)(m:iE.mul b c=dB j)(o:iE.add k j=dB f):
  kM P .mul t x y (.complex .f64 a b) (.complex .f64 c d) (.complex .f64 e f):=by
 refine(Bh (.inr (.inr hZ)) t x y _ _).bind ?_;have p:aI P (Op.Complex.product a b c d) (e,f):=
  (AB l).bind ((AB n).bind ((Eu h3).bind ((AB q).bind ((AB m).bind ((Et o).bind λ_=>rfl)))))
 show aI P (Op.complexOp .mul .f64 a b c d) _;have g:∀x,aI P (Op.Complex.conv .f64 x .f64) x:=λx w=>by unfold Op.Complex.conv;rw[f8 rfl];rfl
 unfold Op.complexOp;refine(g a).bind ((g b).bind ((g c).bind ((g d).bind ?_)));refine aI.bind (v:=(e,f)) ?_ ?_
 .exact p
 .exact(g e).bind ((g f).bind λ_=>rfl)
section
open Go.Sort
theorem afm{w a:World}(s:dh w a)(g:aS (λb=>b<w.heap.size) w.heap a.heap):∃q c,a=Sort.grow (w.drewN q) c:=by
 refine⟨a.drawn-w.drawn,a.heap.extract w.heap.size a.heap.size,?_⟩;have h:w.heap++a.heap.extract w.heap.size a.heap.size=a.heap:=by
  apply yU;intro i;have r:=g.1;by_cases d:i<w.heap.size
  .rw[Array.getElem?_append_left d,g.2 i d d]
  .rw[Array.getElem?_append_right ii,Array.getElem?_extract];by_cases u:i<a.heap.size
   .rw[f8 ii,show w.heap.size+(i-w.heap.size)=i by omega]
   .rw[f9 ii,Array.getElem?_eq_none ii]
 obtain⟨m,t,dr,os,out⟩:=w;obtain⟨e,o,p,c,l⟩:=a;obtain⟨f,j,k,n⟩:=s;simp only at f j k n h;subst f;subst j;subst k;simp only[Sort.grow,World.drewN,World.mk.injEq];refine⟨h.symm,x7,ii,x7,x7⟩
theorem LP{α:Type}[Inhabited α]{enc:α->aT}{k:Nat}(b:∀x,hY (enc x)=k)(l:List α):flatK enc k l.toArray=(l.flatMap enc).toArray:=by
 refine ext_get! (by simp[dm b]) λt i=>?_;have a:t<hY l*k:=tg
 have e:0<k:=by
  rcases Nat.eq_zero_or_pos k with h|h
  .subst h;simp at a
  .exact h
 rw[get_flatK _ _ _ t j5];have d:t/k<hY l:=(Nat.div_lt_iff_lt_mul e).2 a;obtain⟨pre,post,m,o⟩:=Hp b l (t/k) l[t/k] (qc d);have g:t%k<k:=Nat.mod_lt _ e;have n:t=t/k*k+t%k:=by rw[Nat.mul_comm];exact(Nat.div_add_mod t k).symm
 have f:(l.flatMap enc)[t]?=dB ((enc l[t/k])[t%k]'(by rw[b];exact g)):=by
  rw[m,qn,qi ii,ql (by rw[b];omega)];have:t-hY pre=t%k:=ii
  rw[this,qc]
 have j:l.toArray[t/k]! =l[t/k]:=p8
 rw[j];have c:t<hY (l.flatMap enc):=by rw[dm b];exact a
 rw[getElem!_pos (enc l[t/k]) (t%k) (by rw[b];exact g),getElem!_pos _ t l7];rw[qc c]at f;simp only[List.getElem_toArray];exact(Option.some.inj f).symm
theorem Vq{α:Type}[Inhabited α]{enc:α->aT}{k:Nat}(f:∀x,hY (enc x)=k){w:World}{e:TypeId}{b:Nat}{rest:aT}{l:List α}(d:w.heap[b]?=dB (.cells (l.flatMap enc++rest).toArray e (0,0))):HoldsK enc k w b 0 l.toArray:=by
 intro j c;rw[LP f]at c⊢;have a:j<hY (l.flatMap enc):=l7
 refine⟨?_,by simp[World.frozen?,d]⟩;have g:(l.flatMap enc++rest).toArray[0+j]?=dB (l.flatMap enc)[j]:=by rw[zY,zV,ql a,qc a]
 simp only[World.cell?,d];rw[getElem!_pos _ j j5];simpa using g
theorem Yb{α:Type}[Inhabited α]{enc:α->aT}{k:Nat}(a:∀x,hY (enc x)=k)(l l':List α)(rest:aT)(d:hY l'=hY l):putCells id 0 (flatK enc k l'.toArray) (l.flatMap enc++rest).toArray=(l'.flatMap enc++rest).toArray:=by
 rw[LP a];have c:=dm a l;have b:=dm a l';rw[d]at b;apply yU;intro i;simp only[putCells,Array.getElem?_mapIdx,zV,wY,zY,Nat.zero_le,true_and,Nat.sub_zero];by_cases e:i<hY l*k
 .rw[ql ii,ql ii,qc ii,qc ii,qS,f8 ii];rw[getElem!_pos _ i (by rw[wY];omega)];simp
 .rw[qi ii,qi ii,c,b];cases rest[i-hY l*k]? with
  |none=>rfl
  |some x=>rw[qS,f9 ii]
theorem Nc{α:Type}[Inhabited α]{P:Program}{id_ g:FuncId}{enc:α->aT}{k:Nat}{cf:α->α->Int}(D:∀x,hY (enc x)=k)
  (H:∀(fm cap:Nat) (l:List α) (w:World),CmpLays P g #[] enc k cf fm 0 l.length w->HoldsK enc k w fm 0 l.toArray->fm<w.heap.size->hY l<4611686018427387904->
   Calls P id_ #[.slice (dB ⟨fm,0,et⟩) l.length cap,.func (.func g) #[] #[]] w λe o=>e=.returned (.tuple #[])/\∃n os,o=sortWorldK enc k w fm 0 n (l.mergeSort λx y=>!(ltOf cf) y x).toArray os)
  (F:∀(p:bD) (cap:Nat) (w:World),Calls P id_ #[.slice p 0 cap,.func (.func g) #[] #[]] w λe o=>e=.returned (.tuple #[])/\o=w)
  (G:∀x y h,ai P g #[.agg (enc x).toArray,.agg (enc y).toArray] h λv h'=>v=xJ xP (cf x y)/\aS (λb=>b<h.size) h h')
  {e:TypeId} {s:Sl} {l:List α} {h:Heap} (B:Own h e s k enc l) (K:hY l<2^40):
  ai P id_ #[.slice s.ptr s.len s.cap,.func (.func g) #[] #[]] h λv h'=>v=.tuple #[]/\Own h' e s k enc (l.mergeSort λx y=>!(ltOf cf) y x)/\aS (λb=>¬s.on b) h h':=by
 intro w i;have a:=B.len;rcases B.head with⟨h1,h2,h3⟩|⟨b,rest,h1,h2,h3,h4⟩
 .subst h3;rw[a,h1];refine(F et s.cap w).mono ?_;rintro A o ⟨rfl,rfl⟩;have I:(([]:List α).mergeSort λx y=>!(ltOf cf) y x)=[]:=i6
  exact⟨_,hZ,dh.refl _,hZ,by rw[I];exact⟨a,.inl ⟨h1,h2,hZ⟩⟩,by rw[<-i];exact aS.refl _ _⟩
 .rw[h1,a];have t:w.heap[b]?=dB (.cells (l.flatMap enc++rest).toArray e (0,0)):=by rw[i];exact h2
  have f:CmpLays P g #[] enc k cf b 0 l.length w:=λm os E _ x y=>by
   have:=G x y _ (sortWorldK enc k w b 0 m E os) hZ;refine(show Calls P g (#[Value.agg (enc x).toArray,.agg (enc y).toArray]++#[]) _ _ from ?_);rw[Array.append_empty];refine this.mono ?_;rintro A o ⟨v,rfl,J,rfl,z⟩;exact⟨hZ,afm J z⟩
  refine(H b s.cap l w f (Vq D t) (lt_of_block t) ii).mono ?_;rintro A o ⟨rfl,n,os,rfl⟩;have r:=lt_of_block t;have q:hY (l.mergeSort λx y=>!(ltOf cf) y x)=hY l:=List.length_mergeSort l;have c:∀j,j<h.size->(sortWorldK enc k w b 0 n (l.mergeSort λx y=>!(ltOf cf) y x).toArray os).heap[j]?=if b=j then dB (.cells ((l.mergeSort λx y=>!(ltOf cf) y x).flatMap enc++rest).toArray e (0,0))else h[j]?:=by
   intro j u;unfold sortWorldK;rw[Sort.heap_grow_old _ _ (by simpa[putRowK,Sort.putRow,Sort.mapBlock,Sort.ahead,i]using u)];simp only[putRowK,Sort.putRow,Sort.mapBlock,Sort.ahead,Array.getElem?_modify];by_cases d:b=j
   .subst d;rw[f8 hZ,f8 hZ,t,qS,Sort.onCells,Yb D _ _ _ q]
   .rw[f9 d,f9 d,i]
  rw[i]at r;refine⟨_,hZ,⟨hZ,hZ,hZ,Nat.le_add_right _ _⟩,hZ,⟨by rw[q];exact a,.inr ⟨b,rest,h1,?_,h3,h4⟩⟩,?_,?_⟩
  .rw[c b r,f8 rfl]
  .simp[sortWorldK,putRowK,Sort.grow,Sort.putRow,Sort.mapBlock,Sort.ahead,i]
  .intro j u z;rw[c j u,f9 λd=>z ⟨0,by rw[h1,d]⟩]
end
def cY(n:Int):Nat:=
 if n=0 then 0 else
  let m:=n.natAbs;let e:=m.log2
  (if n<0 then 2^63 else 0)+(1023+e)*2^52+(m-2^e)*2^(52-e)
structure DB where
 ax:Nat
 ay:Nat
 sx:Nat
 sy:Nat
 left:Int
 leg:Int
 second:Bool
def pP:Nat:=4607182418800017408
def fs0:DB:=⟨0,0,pP,0,1,1,eH⟩
def oQ(a b:Nat):Nat:=(iE.add a b).getD 0
def aji(a b:Nat):Nat:=(iE.sub a b).getD 0
def tl(a b:Nat):Nat:=(iE.mul a b).getD 0
def tx(a b:Nat):Nat:=aji (tl a 0) (tl b pP)
def ty(a b:Nat):Nat:=oQ (tl a pP) (tl b 0)
def DB.on(s:DB):DB:=
 if s.left-1>0 then{s with ax:=oQ s.ax s.sx,ay:=oQ s.ay s.sy,left:=s.left-1}
 else{ax:=oQ s.ax s.sx,ay:=oQ s.ay s.sy,sx:=tx s.sx s.sy,sy:=ty s.sx s.sy,leg:=if s.second then s.leg+1 else s.leg,left:=if s.second then s.leg+1 else s.leg,second:=!s.second}
def jY:Nat->DB
 |0=>fs0
 |n+1=>(jY n).on
def DB.ok(s:DB):Bool:=
 (iE.add s.ax s.sx).isSome&&(iE.add s.ay s.sy).isSome&&(iE.mul s.sx 0).isSome&&(iE.mul s.sy pP).isSome&&(iE.sub (tl s.sx 0) (tl s.sy pP)).isSome&&(iE.mul s.sx pP).isSome&&(iE.mul s.sy 0).isSome&&(iE.add (tl s.sx pP) (tl s.sy 0)).isSome&&decide (1<=s.left)&&decide (s.left<=100)&&decide (1<=s.leg)&&decide (s.leg<=100)
structure Yc where
 x:Int
 y:Int
 dx:Int
 dy:Int
 left:Int
 leg:Int
 turns:Int
def ajj:Yc:=⟨0,0,1,0,1,1,0⟩
def Yc.on(s:Yc):Yc:=
 if s.left-1=0 then
  {x:=s.x+s.dx,y:=s.y+s.dy,dx:=-s.dy,dy:=s.dx,leg:=if(s.turns+1)%2=0 then s.leg+1 else s.leg,left:=if(s.turns+1)%2=0 then s.leg+1 else s.leg,turns:=s.turns+1}
 else{s with x:=s.x+s.dx,y:=s.y+s.dy,left:=s.left-1}
def gG:Nat->Yc
 |0=>ajj
 |n+1=>(gG n).on
theorem aiE:∀n,n<64->(jY n).ok=ez:=j0
theorem aha:∀n,n<64->((jY n).ax==cY (gG n).x&&(jY n).ay==cY (gG n).y&&decide (-4<=(gG n).x)&&decide ((gG n).x<=4)&&decide (-4<=(gG n).y)&&decide ((gG n).y<=4))=ez:=j0
theorem ahb:∀i,i<9->∀j,j<9->iE.sub (cY ((i:Nat)-4:Int)) (cY ((j:Nat)-4:Int))=dB (cY ((i:Int)-(j:Int))):=j0
theorem ahc:∀i,i<17->iE.mul (cY ((i:Nat)-8:Int)) (cY ((i:Nat)-8:Int))=dB (cY (((i:Nat)-8:Int)*((i:Nat)-8:Int))):=j0
theorem ahe:∀i,i<9->∀j,j<9->iE.add (cY (((i:Nat):Int)*(i:Nat))) (cY (((j:Nat):Int)*(j:Nat)))=dB (cY (((i:Nat):Int)*(i:Nat)+((j:Nat):Int)*(j:Nat))):=j0
theorem Yd:∀m,m<129->∀n,n<129->iE.order (cY (m:Nat)) (cY (n:Nat))=dB (compare m n):=j0
theorem Vr{seq a c:Int}{b:aL}(d:hY b<=48):dJ (kH seq a c b)=et:=by unfold dJ kH;rw[Ay i0 i0 m4];dsimp only;rw[f9 (by rintro⟨h,_⟩;exact absurd h i0)]
theorem oq{m:ak}{c:aL}(h:c∈aP m):dJ c=et:=by unfold aP at h;obtain⟨i,_,rfl⟩:=qo.1 h;exact Vr i5
theorem LQ{α:Type}{R:α->α->Prop}(tr:∀a b c,R a b->R b c->R a c){l:List α}(h:∀i (m:i+1<hY l),R (l[i]'ii) l[i+1]):l.Pairwise R:=by
 have g:∀d i (f:i+(d+1)<hY l),R (l[i]'ii) l[i+(d+1)]:=by
  intro d
  induction d with
  |zero=>exactλi f=>h i f
  |succ d ih=>exactλi f=>tr _ _ _ (ih i ii) (h (i+(d+1)) ii)
 refine zq.2 λi j m f k=>?_;have:=g (j-i-1) i ii;have e:i+(j-i-1+1)=j:=ii
 simp only[e]at this;exact this
theorem LR{α:Type}{R:α->α->Prop}{l:List α}(h:l.Pairwise R)(i:Nat)(a:i+1<hY l):R (l[i]'ii) l[i+1]:=zq.1 h i (i+1) ii a ii
theorem gT{α:Type}{l:List α}{i:Nat}(d:α)(h:i<hY l:=by omega):l.getD i d=l[i]:=by rw[qd,qc h];rfl
theorem mL(n a b:Int):fR n a b=ez↔a<=n/\n<=b:=by unfold fR;rw[qy,decide_eq_true_eq,decide_eq_true_eq]
theorem Ye(l:az)(most:Int):pH l most=ez↔l.Pairwise (·<·)/\∀x∈l,0<=x/\x<=most:=by
 unfold pH;rw[qK];constructor
 .intro h;have g:∀i (d:i<hY l),(0<=l[i]/\l[i]<=most)/\(i=0∨l.getD (i-1) 0<l[i]):=λi d=>by
   have:=h i (qz.2 d);unfold ko at this;rw[gT 0 d,qy,mL,wb,decide_eq_true_eq,decide_eq_true_eq]at this;exact this
  refine⟨LQ (R:=λa b:Int=>a<b) (λa b c e f=>Int.lt_trans e f) λi d=>?_,λx j=>?_⟩
  .rcases(g (i+1) d).2 with h0|h0
   .omega
   .rw[vj,gT 0]at h0;exact h0
  .obtain⟨i,d,rfl⟩:=qB j;exact(g i d).1
 .rintro⟨e,f⟩ i d;have d:=qz.1 d;unfold ko;rw[gT 0 d,qy,mL,wb,decide_eq_true_eq,decide_eq_true_eq];refine⟨f _ (qf d),?_⟩;cases i with
  |zero=>exact .inl hZ
  |succ i=>exact .inr (by rw[vj,gT 0];exact LR e i d)
theorem ON(a b c:ByteArray)(d:fK a b=ez)(e:fK b c=ez):fK a c=ez:=FW _ _ _ d e
theorem bU(m:ak):bc m=ez↔lD m=ez/\m.drives.Pairwise (·<·)/\(∀k∈m.drives,0<=k/\k<=63)/\m.objs.length<=12/\(∀e∈m.objs,gQ m e=ez)/\m.objs.Pairwise (λa b=>fK a.name b.name=ez)/\m.objs.Pairwise (λa b=>a.object≠b.object):=by
 unfold bc;rw[qy,qy,qy,Ye,decide_eq_true_eq,qK];have r:(∀i∈qx m.objs.length,pI m i=ez)↔(∀e∈m.objs,gQ m e=ez)/\m.objs.Pairwise (λa b=>fK a.name b.name=ez)/\m.objs.Pairwise (λa b=>a.object≠b.object):=by
  constructor
  .intro h;have o:∀i (l:i<m.objs.length),gQ m m.objs[i]=ez/\(i=0∨fK (pG m.objs (i-1)).name m.objs[i].name=ez)/\∀y∈m.objs.take i,y.object≠m.objs[i].object:=λi l=>by
    have:=h i (qz.2 l);unfold pI at this;rw[oO l,qy,qy,wb,decide_eq_true_eq,wM,wq]at this;exact⟨this.1,this.2.1,λy q=>by have:=this.2.2 y q;simpa using this⟩
   refine⟨λe u=>?_,LQ (R:=λa b:cb=>fK a.name b.name=ez) (λa b c n p=>ON _ _ _ n p) λi l=>?_,zq.2 λi j l s t=>?_⟩
   .obtain⟨i,l,rfl⟩:=qB u;exact(o i l).1
   .rcases(o (i+1) l).2.1 with h0|h0
    .omega
    .rw[vj,oO]at h0;exact h0
   .refine(o j s).2.2 m.objs[i] ?_;exact yt.2 ⟨i,ii,hZ⟩
  .rintro⟨n,p,h3⟩ i l;have l:=qz.1 l;unfold pI;rw[oO l,qy,qy,wb,decide_eq_true_eq,wM,wq];refine⟨n _ (qf l),?_,λy q=>?_⟩
   .cases i with
    |zero=>exact .inl hZ
    |succ i=>exact .inr (by rw[vj,oO];exact LR p i l)
   .obtain⟨j,s,rfl⟩:=yt.1 q;have:=zq.1 h3 j i ii l ii;simpa using this
 rw[r];constructor
 .rintro⟨a,⟨b,c⟩,d,e,f,g⟩;exact⟨a,b,c,d,e,f,g⟩
 .rintro⟨a,b,c,d,e,f,g⟩;exact⟨a,⟨b,c⟩,d,e,f,g⟩
theorem dn(m:ak):lD m=ez↔(1<=m.seq/\m.seq<=2147483647)/\(0<=m.next/\m.next<=16777216)/\bK m.p=ez/\0<=m.extra/\m.extra<=16:=by unfold lD;rw[qy,qy,qy,mL,mL,mL]
theorem gr(m:ak)(x:cb):gQ m x=ez↔lC x.name=ez/\(0<=x.object/\x.object<m.next)/\(0<=x.length/\x.length<=m.p.1*m.p.2.2*8)/\(∀t∈x.tries,0<=t/\t<=15)/\(x.tries.length:Int)=countP m.p x.length:=by
 unfold gQ;rw[qy,qy,qy,qy,mL,mL,qK,decide_eq_true_eq];simp only[mL];constructor
 .rintro⟨a,b,c,d,e⟩;exact⟨a,⟨b.1,ii⟩,c,d,e⟩
 .rintro⟨a,b,c,d,e⟩;exact⟨a,⟨b.1,ii⟩,c,d,e⟩
theorem mq{m:ak}(h:bc m=ez):m.drives.Nodup:=((bU m).1 h).2.1.imp λh e=>ii
theorem gv{m:ak}(h:bc m=ez):∀k∈m.drives,0<=k/\k<64:=λk a=>by have:=((bU m).1 h).2.2.1 k a;omega
theorem OO:∀{l:az} {a b:Int},l.Pairwise (·<·)->(∀k∈l,a<=k/\k<b)->a<=b->(hY l:Int)<=b-a
 |[],a,b,_,_,h=>i5
 |x::l,a,b,hp,hl,h=>by
  obtain⟨d,e⟩:=zx.1 hp;have f:=hl x qF;have:=OO (a:=x+1) (b:=b) e (λk c=>⟨by have:=d k c;omega,(hl k (qA _ c)).2⟩) ii;rw[za];omega
theorem gM{m:ak}(h:bc m=ez):hY m.drives<=64:=by have:=OO ((bU m).1 h).2.1 (gv h) i0;omega
theorem RC(b:ByteArray):∀n i r,b.size-i=n->ByteArray.toList.loop b i r=r.reverse++b.data.toList.drop i:=by
 have c:hY b.data.toList=b.size:=rfl;intro n
 induction n with
 |zero=>
  intro i r h;rw[ByteArray.toList.loop,f9 ii,List.drop_eq_nil_of_le (by rw[c];omega),qG]
 |succ n ih=>
  intro i r h;have a:i<b.size:=ii
  rw[ByteArray.toList.loop,f8 a,ih (i+1) _ ii];have d:b.data.toList.drop i=b.get! i::b.data.toList.drop (i+1):=by rw[List.drop_eq_getElem_cons (by rw[c];exact a)];congr 1;show _=b.data[i]!;rw[getElem!_pos b.data i a,Array.getElem_toList]
  rw[d,List.reverse_cons,qn];rfl
theorem toList_eq(x:ByteArray):x.toList=x.data.toList:=by unfold ByteArray.toList;rw[RC x _ 0 [] rfl];rfl
theorem Cy{a b:ByteArray}(h:a.toList=b.toList):a=b:=by rw[toList_eq,toList_eq]at h;cases a;cases b;congr;exact Array.toList_inj.1 h
def kQ:Nat->Nat->Nat->List (List Nat)
 |0,_,_=>[[]]
 |t+1,a,n=>(zT a (n-t-a)).flatMap λi=>(kQ t (i+1) n).map (i::·)
def kz(n:Nat):List Nat->Option (List Nat)
 |[]=>et
 |x::l=>match kz n l with
  |some l'=>dB (x::l')
  |none=>if x+hY l+1<n then dB (zT (x+1) (hY l+1))else et
inductive pQ (n:Nat):List Nat->List (List Nat)->Prop
 |last {l:List Nat}:kz n l=et->pQ n l [l]
 |more {l l':List Nat} {L:List (List Nat)}:kz n l=dB l'->pQ n l' L->pQ n l (l::L)
theorem Ew{n:Nat}:∀{l l':List Nat},kz n l=dB l'->hY l'=hY l
 |[],_,h=>j8
 |x::l,l',h=>by
  unfold kz at h;cases hs:kz n l with
  |some m=>rw[hs]at h;injection h with h;subst h;simp[Ew hs]
  |none=>
   rw[hs]at h;dsimp only at h;split at h
   .injection h with h;subst h;simp
   .cases h
theorem pQ.cons{n x t:Nat}{l:List Nat}{L R:List (List Nat)}(h:pQ n l L)(a:hY l=t)(c:x+t+1<n)(b:pQ n (zT (x+1) (t+1)) R):pQ n (x::l) (L.map (x::·)++R):=by
 induction h with
 |last hs=>exact .more (by unfold kz;rw[hs];dsimp only;rw[f8 ii,a]) b
 |more hs _ ih=>exact .more (by unfold kz;rw[hs]) (ih (by rw[Ew hs,a]))
theorem pQ.aiF{n x t:Nat}{l:List Nat}{L:List (List Nat)}(h:pQ n l L)(a:hY l=t)(b:¬x+t+1<n):pQ n (x::l) (L.map (x::·)):=by
 induction h with
 |last hs=>exact .last (by unfold kz;rw[hs];dsimp only;rw[f9 ii])
 |more hs _ ih=>exact .more (by unfold kz;rw[hs]) (ih (by rw[Ew hs,a]))
theorem Ex(n:Nat):∀t a,a+t<=n->pQ n (zT a t) (kQ t a n)
 |0,a,_=>.last hZ
 |t+1,a,h=>by
  have b:∀m a,a+(t+1)<=n->m+1=n-t-a->pQ n (zT a (t+1)) ((zT a (m+1)).flatMap λi=>(kQ t (i+1) n).map (i::·)):=by
   intro m
   induction m with
   |zero=>
    intro a h c;have:=(Ex n t (a+1) ii).aiF (x:=a) (t:=t) i6 ii;simpa[yu]using this
   |succ m ih=>
    intro a h c;have:=(Ex n t (a+1) ii).cons (x:=a) (t:=t) i6 ii (ih (a+1) ii ii);rw[yu,yu (n:=m+1),zb];exact this
  have:=b (n-t-a-1) a h ii;rw[show n-t-a-1+1=n-t-a by omega]at this;exact this
theorem OP{n:Nat}:∀(i:Nat) (l m:List Nat),i<=hY l->kz n (l.drop i)=dB m->kz n l=dB (l.take i++m)
 |0,l,m,_,h=>j4
 |i+1,[],m,h,_=>l6
 |i+1,x::l,m,h,hs=>by
  have:=OP i l m j4 (by simpa using hs);unfold kz;rw[this];simp
theorem Cz{n:Nat}:∀{t a:Nat} {s:List Nat},s∈kQ t a n->hY s=t/\(∀x∈s,a<=x/\x<n)/\s.Pairwise (·<·)
 |0,a,s,h=>by simp[kQ]at h;subst h;simp
 |t+1,a,s,h=>by
  simp only[kQ,zI,qo,List.mem_range'_1]at h;obtain⟨i,f,l,e,rfl⟩:=h;obtain⟨d,c,h3⟩:=Cz e;refine⟨p8,?_,zx.2 ⟨λx b=>(c x b).1,h3⟩⟩;intro x b;rcases qT.1 b with rfl|b
  .omega
  .have:=c x b;omega
theorem OQ{n:Nat}:∀{t a:Nat} {s:List Nat},hY s=t->(∀x∈s,a<=x/\x<n)->s.Pairwise (·<·)->s∈kQ t a n
 |0,a,s,h,_,_=>by simp[kQ];simpa using h
 |t+1,a,[],h,_,_=>l6
 |t+1,a,x::l,h,hb,c=>by
  rw[zx]at c;have g:hY l=t:=j4
  simp only[kQ,zI,qo,List.mem_range'_1];have e:=hb x i6;refine⟨x,⟨e.1,?_⟩,l,OQ g (λy b=>⟨c.1 y b,(hb y mn).2⟩) c.2,hZ⟩;have d:∀(l:List Nat) (x:Nat),(x::l).Pairwise (·<·)->(∀y∈x::l,y<n)->x+hY l<n:=by
   intro l
   induction l with
   |nil=>intro x _ b;exact b x i6
   |cons y l ih=>
    intro x c b;rw[zx]at c;have i:=ih y c.2 λz f=>b z (qA _ f);have j:=c.1 y i6;simp;omega
  have:=d l x (zx.2 c) λy b=>(hb y b).2;omega
def ch:Nat->Nat->Nat
 |_,0=>1
 |0,_+1=>0
 |n+1,k+1=>ch n k+ch n (k+1)
theorem nJ(n:Nat):ch n 0=1:=by cases n<;>rfl
theorem Ge:∀(n k:Nat),n<k->ch n k=0
 |_,0,h=>ii
 |0,k+1,_=>rfl
 |n+1,k+1,h=>by rw[ch,Ge n k ii,Ge n (k+1) ii]
theorem KM:∀n,ch n n=1
 |0=>rfl
 |n+1=>by rw[ch,KM n,Ge n (n+1) ii]
theorem Ey:∀(n k:Nat),(k+1)*ch (n+1) (k+1)=(n+1)*ch n k
 |0,0=>rfl
 |0,k+1=>by rw[Ge 0 (k+1) ii,Ge (0+1) (k+1+1) ii];simp
 |n+1,0=>by
  have:=Ey n 0;rw[nJ]at this⊢;rw[ch,nJ,Nat.mul_add,this];omega
 |n+1,k+1=>by
  have a:=Ey n k;have c:=Ey n (k+1);rw[ch];have e:(k+1+1)*(ch (n+1) (k+1)+ch (n+1) (k+1+1))=((k+1)*ch (n+1) (k+1)+ch (n+1) (k+1))+(k+1+1)*ch (n+1) (k+1+1):=by rw[Nat.mul_add,zM (k+1)]
  rw[e,a,c];have b:ch (n+1) (k+1)=ch n k+ch n (k+1):=rfl;rw[b,zM (n+1),Nat.mul_add (n+1)];omega
theorem TK{n k:Nat}(h:k<=n):ch n (k+1)*(k+1)=ch n k*(n-k):=by
 cases n with
 |zero=>
  have:k=0:=ii
  subst this;rfl
 |succ n=>
  have a:=Ey n k;have d:(n+1)*ch n k=(n+1-k)*ch (n+1) k:=by
   cases k with
   |zero=>rw[nJ,nJ];simp
   |succ k=>
    have h3:=Ey n k;have c:ch (n+1) (k+1)=ch n k+ch n (k+1):=rfl;have e:(n+1)*ch (n+1) (k+1)=(n+1)*ch n k+(n+1)*ch n (k+1):=by rw[c,Nat.mul_add]
    have b:(n+1-(k+1))*ch (n+1) (k+1)=(n+1)*ch (n+1) (k+1)-(k+1)*ch (n+1) (k+1):=Nat.sub_mul _ _ _;rw[b,h3,e];omega
  rw[Nat.mul_comm,a,d,Nat.mul_comm]
theorem aiG{n k:Nat}(h:2*(k+1)<=n+1):ch n k<=ch n (k+1):=by
 have a:=TK (n:=n) (k:=k) ii;by_cases h0:ch n k=0
 .omega
 .have b:ch n k*(k+1)<=ch n (k+1)*(k+1):=by rw[a];exact Nat.mul_le_mul_left _ ii
  exact Nat.le_of_mul_le_mul_right b ii
theorem OR:∀(n k:Nat),k<=n->ch n k=ch n (n-k)
 |0,0,_=>rfl
 |n+1,0,_=>by rw[nJ,Nat.sub_zero,KM]
 |n+1,k+1,h=>by
  by_cases b:k=n
  .subst b;rw[KM,Nat.sub_self,nJ]
  .have a:=OR n k ii;have c:=OR n (k+1) ii;rw[show n+1-(k+1)=(n-(k+1))+1 by omega,ch,ch,a,c,show n-k=n-(k+1)+1 by omega];omega
theorem HC(n:Nat):∀t a,a<=n->hY (kQ t a n)=ch (n-a) t
 |0,a,_=>by rw[nJ];rfl
 |t+1,a,h=>by
  have b:∀m a,m=n-t-a->a<=n->hY ((zT a m).flatMap λi=>(kQ t (i+1) n).map (i::·))=ch (n-a) (t+1):=by
   intro m
   induction m with
   |zero=>intro a c d;rw[Ge _ _ ii];rfl
   |succ m ih=>
    intro a c d;rw[yu,zb,qw,qu,HC n t (a+1) ii,ih (a+1) ii ii];rw[show n-a=n-(a+1)+1 by omega];rfl
  exact b _ a hZ h
def jI(n t:Int):Int:=if 0<=n/\n<=64/\0<=t/\t<=n then(min (ch n.toNat t.toNat) 4097:Nat)else 0
section
open Classical
def fD(r:Row):Nat:=r.findIdx (λx=>x !=0)
def fl(M:aN)(r:Row):Row:=M.foldl (λout x=>cW (aO out (fD x)) x out) r
def nj(m:aN):aN:=(bJ m (ff m)).2.take (bZ m)
def OS(M:aN)(r:Row):aN:=if fD (fl M r)<hY (fl M r) then nj (M++[fl M r])else M
theorem KN{r:Row}{c:Nat}(h:c<hY r):aO r c=r[c]:=by rw[aO,qd,qc h];rfl
theorem afn{r:Row}{j:Nat}(h:aO r j≠0):fD r<hY r:=by have a:j<hY r:=Nat.lt_of_not_le λb=>h (by simp[aO,qd,qJ b]);rw[fD,wu];exact⟨r[j],qf a,by rw[<-KN a];simpa using h⟩
theorem Yf{r:Row}(h:¬fD r<hY r):r=aK r.length:=by rw[fD,wu]at h;refine fh hZ k8 λj a=>?_;rw[cB,KN a];have c:¬((r[j] !=0)=ez):=λb=>h ⟨r[j],qf a,b⟩;simpa using c
section
variable {n:Nat} {m M A:aN}
theorem HD(b:aV n M){r:Row}(a:hY r=n):hY (fl M r)=n:=by
 unfold fl
 induction M generalizing r with
 |nil=>exact a
 |cons x M ih=>
  rw[zB];exact ih (λy c=>b y (qA _ c)) (by rw[bX (by rw[b x i6,a])];exact a)
theorem Yg{c:UInt8}{a t:Row}(h:hY a=hY t):cW c a (cW c a t)=t:=
 fh (n:=hY t) (by rw[bX (by rw[bX h];exact h),bX h]) hZ λj _=>by
  rw[cO (by rw[bX h];exact h),cO h,rL]
theorem LS(a:aV n m)(e:∀x∈M,Span n m x){r:Row}(c:hY r=n):Span n m (fl M r)↔Span n m r:=by
 unfold fl
 induction M generalizing r with
 |nil=>exact Iff.rfl
 |cons x M ih=>
  have b:=e x i6;have d:hY x=hY r:=by rw[b.len a,c]
  rw[zB,ih (λy f=>e y (qA _ f)) (by rw[bX d];exact c)];refine⟨λh=>?_,λh=>b.comb a h _⟩;have:=b.comb a h (aO r (fD x));rw[Yg d]at this;exact this
structure CB (n:Nat) (M A:aN):Prop where
 even:aV n M
 evenA:aV n A
 span:∀v,Span n M v↔Span n A v
 len:hY M=bZ A
 lead:∀x∈M,fD x<n
theorem ahf(n:Nat):CB n [] []:=⟨λ_ h=>j8,λ_ h=>j8,λ_=>Iff.rfl,by simp[bZ,kO],λ_ h=>j8⟩
theorem LU(b:aV n m)(a:aV n A)(h:∀v,Span n m v↔Span n A v):bZ m=bZ A:=by rw[mi b,mi a];congr 1;funext v;exact propext (h v)
theorem OT(a:aV n m):Way n m n (bZ m) (bJ m (ff m)).2:=by
 have h:=FZ a n (qm _);cases m with
 |nil=>rw[kO]at h;rw[bZ,kO];exact h
 |cons x t=>
  have b:ff (x::t)=n:=by rw[ff,bv i6];exact a _ i6
  rw[bZ,b];exact h
theorem ahg(B:aV n m):aV n (nj m)/\(∀v,Span n (nj m) v↔Span n m v)/\(nj m).length=bZ m/\∀x∈nj m,fD x<n:=by
 have w:=OT B;obtain⟨c,s,A,i,t,⟨p,F,u,E,D⟩,b⟩:=w;have a:aV n (nj m):=λx h=>c x (zw h);refine⟨a,λv=>?_,by rw[nj,qR];omega,λx h=>?_⟩
 .rw[<-i v];refine⟨Span.mono λr g=>zw g,Span.sub a λr g=>?_⟩;obtain⟨k,f,rfl⟩:=fC g;by_cases z:k<bZ m
  .refine Span.row a ?_;have:aC (bJ m (ff m)).2 k=aC (nj m) k:=by rw[bv f,bv (by rw[nj,qR];omega)];simp[nj]
   rw[this];exact mem_row (by rw[nj,qR];omega)
  .have:aC (bJ m (ff m)).2 k=aK n:=fh (c _ g) k8 λj y=>by rw[cB];exact b k ii f j y
   rw[this];exact .zero
 .obtain⟨k,f,rfl⟩:=fC h;have l:k<bZ m:=by rw[nj,qR]at f;omega
  have d:k<(bJ m (ff m)).2.length:=ii
  have e:aC (nj m) k=aC (bJ m (ff m)).2 k:=by rw[bv d,bv f];simp[nj]
  have o:=u k l k d;rw[f8 rfl]at o;have q:=afn (r:=aC (nj m) k) (j:=p k) (by rw[e,o];decide);rw[a _ h]at q;exact q
theorem abM(h:∀v,Span n M v↔Span n A v)(e:aV n M)(i:aV n A){r:Row}(j:hY r=n){rest:Row}(o:hY rest=n)
  (g:∀m,aV n m->(∀x∈M,Span n m x)->(Span n m rest↔Span n m r)):∀v,Span n (M++[rest]) v↔Span n (A++[r]) v:=λv=>by
 have b:=nh e o;have d:=nh i j;have k:∀x∈M,Span n (M++[rest]) x:=λx c=>Span.row b (ze _ c);have f:∀x∈M,Span n (A++[r]) x:=λx c=>Span.mono (λy a=>ze _ a) ((h x).1 (Span.row e c));constructor
 .refine Span.sub d λy a=>?_;rcases qt.1 a with a|a
  .exact f y a
  .rw[qp]at a;subst a;exact(g _ d f).2 (Span.row d i6)
 .refine Span.sub b λy a=>?_;rcases qt.1 a with a|a
  .exact Span.mono (λz l=>ze _ l) ((h y).2 (Span.row i a))
  .rw[qp]at a;subst a;exact(g _ b k).1 (Span.row b i6)
theorem Yh(h:CB n M A){r:Row}(b:hY r=n):CB n (OS M r) (A++[r]):=by
 have e:=HD h.even b;have j:=abM h.span h.even h.evenA b e λm k l=>LS k l b;have d:=nh h.evenA b;unfold OS;split
 .have t:=ahg (nh h.even e);refine⟨t.1,d,λv=>(t.2.1 v).trans (j v),?_,t.2.2.2⟩;rw[t.2.2.1];exact LU (nh h.even e) d j
 .rename_i i;have i:=Yf i;have f:Span n M r:=(LS h.even (λx g=>Span.row h.even g) b).1 (by rw[i,e];exact .zero);have c:∀v,Span n M v↔Span n (A++[r]) v:=λv=>by
   rw[h.span v];refine⟨Span.mono λx g=>ze _ g,Span.sub h.evenA λy a=>?_⟩;rcases qt.1 a with a|a
   .exact Span.row h.evenA a
   .rw[qp]at a;subst a;exact(h.span _).1 f
  refine⟨h.even,d,c,?_,h.lead⟩;rw[h.len];exact LU h.evenA d λv=>(h.span v).symm.trans (c v)
end
def gZ(r:aL×Bool)(n:Int):aL×(aL×Bool):=if n<=hY r.1 then(r.1.take n.toNat,(r.1.drop n.toNat,r.2))else([],(r.1,ez))
def jE(l:aL):Int:=l.foldl (λn x=>n*256+(x.toNat:Int)) 0
def cy(r:aL×Bool)(k:Int):Int×(aL×Bool):=(jE (gZ r k).1,(gZ r k).2)
def gy:Nat->aL×Bool->az×(aL×Bool)
 |0,r=>([],r)
 |n+1,r=>if r.2 then([],r)else((cy r 1).1::(gy n (cy r 1).2).1,(gy n (cy r 1).2).2)
def lN(p:Int×Int×Int)(r:aL×Bool):cb×(aL×Bool):=
 let a:=cy r 1;let b:=gZ a.2 a.1;let c:=cy b.2 3;let d:=cy c.2 2;let e:=gy (countP p d.1).toNat d.2
 (⟨⟨b.1.toArray⟩,c.1,d.1,e.1⟩,e.2)
def jA(p:Int×Int×Int):Nat->aL×Bool->List cb×(aL×Bool)
 |0,r=>([],r)
 |n+1,r=>if r.2 then([],r)else((lN p r).1::(jA p n (lN p r).2).1,(jA p n (lN p r).2).2)
def CC(b:aL):ak×(aL×Bool):=
 let a:=cy (b,eH) 4;let c:=cy a.2 4;let k:=cy c.2 1;let h:=cy k.2 1;let z:=cy h.2 1;let x:=cy z.2 1;let n:=cy x.2 1;let d:=gy n.1.toNat n.2;let o:=cy d.2 1;let e:=jA (k.1,h.1,z.1) o.1.toNat o.2
 (⟨a.1,c.1,(k.1,h.1,z.1),x.1,d.1,e.1⟩,e.2)
theorem AC(l:aL)(x:UInt8):jE (l++[x])=jE l*256+(x.toNat:Int):=by simp[jE]
theorem Vs(n:Int)(k:Nat):bE n (k+1)=bE (n/256) k++[b8 n]:=by
 unfold bE;rw[zJ,qN];congr 1
 .refine List.map_congr_left λi a=>?_;have a:=qz.1 a;have e:8*(k+1-1-i)=8+8*(k-1-i):=ii
  have b:(0:Int)<2^(8*(k-1-i)):=Int.pow_pos i0;rw[e,Int.pow_add,yk _ ii,yk _ (Int.le_of_lt b),<-Int.ediv_ediv_of_nonneg i0];rfl
 .simp
theorem LV:∀(k:Nat) (n:Int),0<=n->n<256^k->jE (bE n k)=n
 |0,n,h0,h1=>by simp at h1;simp[bE,jE];omega
 |k+1,n,h0,h1=>by
  rw[Vs,AC,LV k (n/256) ii (by rw[Int.pow_succ]at h1;omega),pJ];omega
theorem OU(l s:aL)(f:Bool):gZ (l++s,f) l.length=(l,(s,f)):=by unfold gZ;rw[f8 (by simp only[qw];omega)];simp
theorem sO(k:Nat)(n:Int)(s:aL)(f:Bool)(b:0<=n)(a:n<256^k:=by omega):cy (bE n k++s,f) k=(n,(s,f)):=by unfold cy;have:=OU (bE n k) s f;rw[cw]at this;rw[this,LV k n b a]
theorem nk(n:Int)(s:aL)(f:Bool)(a:0<=n:=by omega)(b:n<256:=by omega):cy (b8 n::s,f) 1=(n,(s,f)):=by
 have e:bE n 1=[b8 n]:=by simp[bE]
 have:=sO 1 n s f a;rw[e]at this;exact this
theorem HE(s:aL):∀(l:az),(∀x∈l,0<=x/\x<256)->gy l.length (l.map b8++s,eH)=(l,(s,eH))
 |[],_=>rfl
 |x::l,h=>by
  have a:=h x qF;have b:=HE s l λy c=>h y (qA _ c);show gy (hY l+1) (b8 x::(l.map b8++s),eH)=_;unfold gy;rw[nk x _ _ a.1 a.2,b];rfl
theorem abN{m:ak}{x:cb}(g:gQ m x=ez)(o:m.next<=16777216)(q:m.p.1*m.p.2.2*8<65536)(s:aL):lN m.p (ge x++s,eH)=(x,(s,eH)):=by
 obtain⟨a,h,h3,f,n⟩:=(gr m x).1 g;have r:1<=x.name.size/\x.name.size<=12:=by unfold lC at a;rw[qy,qy,decide_eq_true_eq,decide_eq_true_eq]at a;exact a.2
 have j:ge x++s=b8 x.name.size::(x.name.data.toList++(bE x.object 3++(bE x.length 2++(x.tries.map b8++s)))):=by simp[ge,qn]
 have k:x.name.data.toList.length=x.name.size:=by rw[Array.length_toList];rfl
 have d:=OU x.name.data.toList (bE x.object 3++(bE x.length 2++(x.tries.map b8++s))) eH;rw[k]at d;have e:=sO 3 x.object (bE x.length 2++(x.tries.map b8++s)) eH h.1;have b:=sO 2 x.length (x.tries.map b8++s) eH h3.1;have i:=HE s x.tries λy c=>⟨(f y c).1,by have:=(f y c).2;omega⟩
 have l:(countP m.p x.length).toNat=x.tries.length:=ii
 unfold lN;rw[j,nk _ _ _];simp only[d];rw[show((3:Nat):Int)=3 from rfl]at e;rw[show((2:Nat):Int)=2 from rfl]at b;simp only[e,b,l,i]
theorem OV{m:ak}(a:m.next<=16777216)(b:m.p.1*m.p.2.2*8<65536)(s:aL):∀(l:List cb),(∀e∈l,gQ m e=ez)->jA m.p l.length (l.flatMap ge++s,eH)=(l,(s,eH))
 |[],_=>rfl
 |x::l,h=>by
  have c:=OV a b s l λy d=>h y (qA _ d);rw[zb,qn];show jA m.p (hY l+1) _=_;unfold jA;rw[abN (h x qF) a b,c];simp
theorem CD{m:ak}(a:bc m=ez):CC (bO m)=(m,([],eH)):=by
 obtain⟨i,s,e,w,l,_⟩:=(bU m).1 a;obtain⟨⟨t,u⟩,⟨n1,n2⟩,h,o,x2⟩:=(dn m).1 i;obtain⟨⟨q,f⟩,⟨v,n⟩,r,k⟩:=(bP m.p).1 h;have x:hY m.drives<=64:=gM a;have j:m.p.1*m.p.2.2*8<65536:=by have:m.p.1*m.p.2.2<=16*24:=Int.mul_le_mul f k ii ii;omega
 have g:bO m=bE m.seq 4++(bE m.next 4++(b8 m.p.1::b8 m.p.2.1::b8 m.p.2.2::b8 m.extra::b8 m.drives.length::(m.drives.map b8++(b8 m.objs.length::(m.objs.flatMap ge++[]))))):=by unfold bO;rw[f8 a];simp
 have b:=sO 4 m.seq (bE m.next 4++(b8 m.p.1::b8 m.p.2.1::b8 m.p.2.2::b8 m.extra::b8 m.drives.length::(m.drives.map b8++(b8 m.objs.length::(m.objs.flatMap ge++[]))))) eH ii;have d:=sO 4 m.next (b8 m.p.1::b8 m.p.2.1::b8 m.p.2.2::b8 m.extra::b8 m.drives.length::(m.drives.map b8++(b8 m.objs.length::(m.objs.flatMap ge++[])))) eH n1;rw[show((4:Nat):Int)=4 from rfl]at b d;have a3:=HE (b8 m.objs.length::(m.objs.flatMap ge++[])) m.drives λy c=>⟨(e y c).1,by have:=(e y c).2;omega⟩
 have a4:=OV (m:=m) n2 j [] m.objs l;unfold CC;rw[g];simp only[b,d];rw[nk _ _ _];simp only[];rw[nk _ _ _];simp only[];rw[nk _ _ _];simp only[];rw[nk _ _ _];simp only[];rw[nk _ _ _];simp only[qj,a3];rw[nk _ _ _];simp only[qj];rw[show((m.p.1,m.p.2.1,m.p.2.2):Int×Int×Int)=m.p from hZ,a4]
def kR(b:aL):Option ak:=if(CC b).2.2||(decide (hY b=0)||!decide (b=bO (CC b).1))then et else dB (CC b).1
theorem Yi{m:ak}(h:bO m≠[]):bc m=ez:=by refine Decidable.byContradiction λa=>h ?_;unfold bO;rw[f9 a]
theorem OW{m:ak}(h:bc m=ez):bO m≠[]:=by unfold bO;rw[f8 h];intro e;have:=congrArg List.length e;simp[cw]at this
theorem CE{b:aL}{m:ak}:kR b=dB m↔bc m=ez/\b=bO m:=by
 unfold kR;constructor
 .intro h;split at h
  .cases h
  .rename_i a;cases h;simp only[wb,decide_eq_true_eq,wM,decide_eq_false_iff_not,not_or,Classical.not_not]at a;refine⟨Yi ?_,a.2.2⟩;rw[<-a.2.2];intro e;exact a.2.1 n4
 .rintro⟨c,rfl⟩;rw[CD c];simp[OW c]
abbrev fL:=az×Row
def cS(x:Int->UInt8):az->UInt8
 |[]=>0
 |c::l=>x c^^^cS x l
theorem kS{x y:Int->UInt8}:∀{l:az},(∀c∈l,x c=y c)->cS x l=cS y l
 |[],_=>rfl
 |c::l,h=>by rw[cS,cS,h c i6,kS λd a=>h d m5]
theorem GH(x:Int->UInt8)(p:Int->Bool):∀l,cS x l=cS x (l.filter p)^^^cS x (l.filter λc=>!p c)
 |[]=>by simp[cS]
 |c::l=>by
  rw[cS,GH x p l];cases h:p c<;>simp only[zr,h,yg,yi,if_true,zh,if_false,cS]<;>ac_rfl
theorem AD(x:Int->UInt8){c:Int}:∀{l:az},l.Nodup->c∈l->cS x l=x c^^^cS x (l.filter λd=>!decide (d=c))
 |[],_,h=>j8
 |d::l,hd,h=>by
  rw[ya]at hd;rcases qT.1 h with rfl|h
  .have:l.filter (λd=>!decide (d=c))=l:=wJ.2 λe f=>by
    have:e≠c:=λa=>hd.1 (a▸f);simp[this]
   rw[zr];simp only[decide_true,yg,zh,if_false];rw[this,cS]
  .have b:d≠c:=λa=>hd.1 (a▸h);rw[zr,f8 mn,cS,cS,AD x hd.2 h];ac_rfl
theorem OX(x y:Int->UInt8):∀l,cS (λc=>x c^^^y c) l=cS x l^^^cS y l
 |[]=>by simp[cS]
 |c::l=>by rw[cS,cS,cS,OX x y l];ac_rfl
theorem Ez:∀{x:Int->UInt8} {l:az},(∀c∈l,x c=0)->cS x l=0
 |_,[],_=>rfl
 |x,c::l,h=>by rw[cS,h c i6,Ez λd a=>h d m5];rfl
def cT(V:aN)(a:Row)(l:az):Row:=l.foldl (λa c=>cW 1 (aC V c.toNat) a) a
theorem kq{V:aN}{m:Nat}:∀{l:az} {a:Row},hY a=m->(∀c∈l,hY (aC V c.toNat)=m)->hY (cT V a l)=m
 |[],a,h,_=>h
 |c::l,a,h,hv=>by
  rw[cT,zB];exact kq (l:=l) (by rw[bX (by rw[hv c i6,h])];exact h) λd b=>hv d mn
theorem HG{V:aN}{m:Nat}(j:Nat):∀{l:az} {a:Row},hY a=m->(∀c∈l,hY (aC V c.toNat)=m)->aO (cT V a l) j=aO a j^^^cS (λc=>aO (aC V c.toNat) j) l
 |[],a,_,_=>by simp[cT,cS]
 |c::l,a,h,hv=>by
  have b:hY (aC V c.toNat)=hY a:=by rw[hv c i6,h]
  rw[cT,zB];have:=HG (V:=V) j (l:=l) (a:=cW 1 (aC V c.toNat) a) (by rw[bX b];exact h) λd e=>hv d sp;rw[cT]at this;rw[this,cO b,Gf.one_mul,cS];ac_rfl
def Sat(t:UInt8)(k:Nat)(x:Int->UInt8)(e:fL):Prop:=cS x e.1=Gf.mul t (aO e.2 k)
structure jl (n w:Nat) (e:fL):Prop where
 cZ:∀c∈e.1,0<=c/\c<(n:Int)
 nodup:e.1.Nodup
 len:hY e.2=w
def kn(known:List Bool)(c:Int):Bool:=known.getD c.toNat eH
def fO(known:List Bool)(vals:aN)(e:fL):fL:=(e.1.filter λc=>!kn known c,cT vals e.2 (e.1.filter λc=>kn known c))
structure kr (n w:Nat) (l:List fL) (known:List Bool) (vals:aN):Prop where
 klen:hY known=n
 vlen:hY vals=n
 row:∀c:Nat,c<n->hY (aC vals c)=if known.getD c eH then w else 0
 sound:∀t k x,k<w->(∀e∈l,Sat t k x e)->∀c:Int,0<=c->c<(n:Int)->kn known c=ez->x c=Gf.mul t (aO (aC vals c.toNat) k)
section
variable {n w:Nat} {l:List fL} {known:List Bool} {vals:aN}
theorem Vt(n w:Nat)(l:List fL):kr n w l (qg n eH) (qg n []):=by
 refine⟨i6,i6,λc b=>?_,λt k x e f c h0 d a=>?_⟩
 .rw[bv j9];simp[qd,b]
 .exfalso;rw[kn,qd,List.getElem?_replicate]at a;split at a<;>simp at a
theorem kr.EB(h:kr n w l known vals){c:Int}(d:0<=c)(b:c<(n:Int))(a:kn known c=ez):hY (aC vals c.toNat)=w:=by have:=h.row c.toNat ii;rw[kn]at a;rw[a]at this;simpa using this
theorem kr.BO(h:kr n w l known vals){e:fL}(b:jl n w e):jl n w (fO known vals e):=
 ⟨λc d=>b.cZ c (qD.1 d).1,b.nodup.filter _,kq b.len λc d=>by
  have a:=qD.1 d;exact h.EB (b.cZ c a.1).1 (b.cZ c a.1).2 a.2⟩
theorem kr.Gg(h:kr n w l known vals){e:fL}(f:jl n w e){t:UInt8}{k:Nat}{x:Int->UInt8}(j:∀c:Int,0<=c->c<(n:Int)->kn known c=ez->x c=Gf.mul t (aO (aC vals c.toNat) k)):
  Sat t k x (fO known vals e)↔Sat t k x e:=by
 have g:∀c∈e.1.filter λc=>kn known c,hY (aC vals c.toNat)=w:=λc d=>by
  have b:=qD.1 d;exact h.EB (f.cZ c b.1).1 (f.cZ c b.1).2 b.2
 have o:cS x (e.1.filter λc=>kn known c)=Gf.mul t (cS (λc=>aO (aC vals c.toNat) k) (e.1.filter λc=>kn known c)):=by
  rw[kS (y:=λc=>Gf.mul t (aO (aC vals c.toNat) k)) λc d=>j c (f.cZ c (qD.1 d).1).1 (f.cZ c (qD.1 d).1).2 (qD.1 d).2];generalize e.1.filter (λc=>kn known c)=m
  induction m with
  |nil=>simp[cS,Gf.mul_zero]
  |cons a m ih=>rw[cS,cS,Gf.kG,ih]
 unfold Sat fO;dsimp only;rw[HG k f.len g,Gf.kG,<-o,GH x (λc=>kn known c) e.1];constructor
 .intro i;rw[i];rw[vA,rL]
 .intro i;rw[<-i];rw[vA (cS x (e.1.filter λc=>kn known c)),rL]
theorem ahh{known:List Bool}{c d:Int}(e:0<=c)(a:0<=d)(b:c<(hY known:Int)):kn (known.set c.toNat ez) d=(decide (d=c)||kn known d):=by
 unfold kn;rw[qd,qW];by_cases h:d=c
 .subst h;rw[f8 hZ,f8 ii];simp
 .rw[f9 ii];simp[h]
theorem Yj(h:kr n w l known vals)(q:∀e∈l,jl n w e){e:fL}(i:e∈l){c:Int}(o:(fO known vals e).1=[c]):kr n w l (known.set c.toNat ez) (vals.set c.toNat (fO known vals e).2):=by
 have b:=h.BO (q e i);have f:=b.cZ c pa;have s:=h.vlen;have j:=h.klen;refine⟨by simp[j],by simp[s],λd u=>?_,λt k x p g d h0 r m=>?_⟩
 .rw[lL,qd,qW];by_cases a:c.toNat=d
  .subst a;simp[show c.toNat<hY known by omega,b.len]
  .rw[f9 a,f9 a,h.row d u,qd]
 .rw[ahh f.1 h0 ii]at m;rw[lL];by_cases a:d=c
  .subst a;rw[f8 rfl];have:=(h.Gg (q e i) (h.sound t k x p g)).2 (g e i);unfold Sat at this;rw[o]at this;simpa[cS]using this
  .rw[f9 ii];exact h.sound t k x p g d h0 r (by simpa[a]using m)
theorem EC(h:kr n w l known vals)(e:fL):∀c∈(fO known vals e).1,kn known c=eH:=λc a=>by
 have:=(qD.1 a).2;simpa using this
def be(known:List Bool)(vals:aN)(l:List fL):List fL:=(l.map (fO known vals)).filter λe=>!e.1.isEmpty
def kT(known:List Bool)(vals:aN)(l:List fL):Bool:=(l.map (fO known vals)).any λe=>e.1.isEmpty&&e.2.any (· !=0)
theorem OY(h:kr n w l known vals)(i:∀e∈l,jl n w e)(g:kT known vals l=eH){t:UInt8}{k:Nat}{x:Int->UInt8}(o:k<w):
  (∀e∈l,Sat t k x e)↔(∀c:Int,0<=c->c<(n:Int)->kn known c=ez->x c=Gf.mul t (aO (aC vals c.toNat) k))/\∀e∈be known vals l,Sat t k x e:=by
 constructor
 .intro f;refine⟨h.sound t k x o f,λe b=>?_⟩;obtain⟨m,d,rfl⟩:=qo.1 (qD.1 b).1;exact(h.Gg (i m d) (h.sound t k x o f)).2 (f m d)
 .rintro⟨q,p⟩ e b;refine(h.Gg (i e b) q).1 ?_;by_cases a:(fO known vals e).1=[]
  .unfold Sat;rw[a,cS];have j:((fO known vals e).1.isEmpty&&(fO known vals e).2.any (· !=0))=eH:=by have:=wq.1 g _ (List.mem_map_of_mem b);simpa using this
   rw[a]at j;have r:∀y∈(fO known vals e).2,y=0:=rb
   have h3:=(h.BO (i e b)).len;have:aO (fO known vals e).2 k=0:=by rw[aO,qd,qc ii];exact r _ (qf _)
   rw[this,Gf.mul_zero]
  .refine p _ (qD.2 ⟨List.mem_map_of_mem b,?_⟩);simpa using a
theorem Vu(h:kr n w l known vals)(j:∀e∈l,jl n w e)(f:kT known vals l=ez):∃k,k<w/\∀x:Int->UInt8,¬∀e∈l,Sat 1 k x e:=by
 obtain⟨y,m,b⟩:=z7.1 f;obtain⟨e,d,rfl⟩:=qo.1 m;rw[qy]at b;obtain⟨z,o,a⟩:=z7.1 b.2;obtain⟨k,p,rfl⟩:=qB o;have h3:=(h.BO (j e d)).len;refine⟨k,ii,λx i=>?_⟩;have g:=(h.Gg (j e d) (h.sound 1 k x ii i)).2 (i e d);unfold Sat at g;have c:(fO known vals e).1=[]:=by simpa using b.1
 rw[c,cS,Gf.one_mul,aO,qd,qc p]at g;simp at a;exact a g.symm
end
def kD(op:List Bool)(c:Int):Bool:=op.getD c.toNat eH
def df(op:List Bool)(r:az):az:=r.filter (kD op)
def mV(rows:cg)(op us:List Bool)(i:Nat):Bool:=!(us.getD i eH)&&hY (df op (rows.getD i []))==1
def mW(rows:cg)(op us:List Bool):Option Nat:=(qx rows.length).find? (mV rows op us)
def fE(rows:cg)(op:List Bool)(i:Nat):Int:=(df op (rows.getD i [])).getLast?.getD 0
def kU(a:az)(r:az):az:=r.foldl (λa c=>a.set c.toNat (a.getD c.toNat 0+1)) a
def lO(g:Nat->az->az)(rows:cg)(us:List Bool)(a:az):Nat->az
 |0=>a
 |k+1=>if us.getD k eH then lO g rows us a k else kU (lO g rows us a k) (g k (rows.getD k []))
def je(op:List Bool)(a:az):Nat->Int
 |0=>-1
 |k+1=>if op.getD k eH&&(decide (je op a k<0)||decide (a.getD k 0>a.getD (je op a k).toNat 0))then(k:Int)else je op a k
def iF(rows:cg)(op us:List Bool):Int:=je op (lO (λ_ r=>r) rows us (qg op.length 0) rows.length) op.length
structure Pl where
 steps:List (Int×Int)
 dead:az
 used:List Bool
def cJ(rows:cg):Nat->List Bool->List Bool->Pl
 |0,_,us=>⟨[],[],us⟩
 |k+1,op,us=>
  if op.contains ez then
   match mW rows op us with
   |some i=>let r:=cJ rows k (op.set (fE rows op i).toNat eH) (us.set i ez);⟨((i:Int),fE rows op i)::r.steps,r.dead,r.used⟩
   |none=>let r:=cJ rows k (op.set (iF rows op us).toNat eH) us;⟨r.steps,iF rows op us::r.dead,r.used⟩
  else⟨[],[],us⟩
def gf(us:List Bool):Nat->az
 |0=>[]
 |k+1=>if us.getD k eH then gf us k else gf us k++[(k:Int)]
def eV(n:Nat)(rows:cg):Pl:=cJ rows n (qg n ez) (qg rows.length eH)
theorem Yk{P:Nat->Bool}{n:Nat}(h:∀j,j<n->P j=eH):(qx n).find? P=et:=by rw[wg];intro x a;rw[qz]at a;simp[h x a]
theorem Yl{P:Nat->Bool}{n k:Nat}(f:k<n)(h:∀j,j<k->P j=eH)(e:P k=ez):(qx n).find? P=dB k:=by
 rw[List.find?_eq_some_iff_append];refine⟨e,qx k,zT (k+1) (n-k-1),?_,λa b=>?_⟩
 .rw[y6,y6];have d:n=k+(n-k):=ii
  have c:n-k=(n-k-1)+1:=ii
  conv=>lhs;rw[d,<-List.range'_append_1 (s:=0) (m:=k) (n:=n-k)]
  rw[zY]
  conv=>lhs;rw[c,yu]
 .rw[qz]at b;simp[h a b]
theorem RD(a r:az)(c:Int):kU a (r++[c])=(kU a r).set c.toNat ((kU a r).getD c.toNat 0+1):=by simp[kU]
theorem DC(b r:az):hY (kU b r)=hY b:=by
 induction r generalizing b with
 |nil=>rfl
 |cons a t ih=>simp only[kU,zB]at*;rw[ih];simp
theorem CF(g:Nat->az->az)(rows:cg)(us:List Bool)(a:az):∀k,hY (lO g rows us a k)=hY a
 |0=>rfl
 |k+1=>by
  unfold lO;split
  .exact CF g rows us a k
  .rw[DC,CF g rows us a k]
theorem ED{m:Int}:∀{r c:az},(∀x∈c,0<=x/\x<=m)->∀x∈kU c r,0<=x/\x<=m+hY r
 |[],c,h,x,hx=>by have:=h x hx;simp;omega
 |a::t,c,h,x,hx=>by
  have d:∀y∈c.set a.toNat (c.getD a.toNat 0+1),0<=y/\y<=m+1:=by
   intro y b;rcases List.mem_or_eq_of_mem_set b with b|b
   .have:=h y b;omega
   .subst b;rw[qd];cases hc:c[a.toNat]? with
    |none=>
     rw[List.getElem?_eq_none_iff]at hc;rw[List.set_eq_of_length_le hc]at b;have:=h _ b;rw[qd,qJ hc]at this;simp at this⊢;omega
    |some z=>have:=h z (List.mem_of_getElem? hc);simp;omega
  have:=ED (r:=t) d x hx;simp only[za];omega
theorem OZ(g:Nat->az->az){rows:cg}{us:List Bool}{n:Nat}(a:∀k,hY (g k (rows.getD k []))<=64):∀k,∀x∈lO g rows us (qg n 0) k,0<=x/\x<=64*k
 |0,x,hx=>by
  have:=List.eq_of_mem_replicate hx;subst this;simp
 |k+1,x,hx=>by
  unfold lO at hx;split at hx
  .have:=OZ g a k x hx;omega
  .have:=ED (OZ g a k) x hx;have:=a k;omega
theorem LW(op:List Bool)(a:az):∀k,(je op a k=-1/\∀j,j<k->op.getD j eH=eH)∨(0<=je op a k/\je op a k<k/\op.getD (je op a k).toNat eH=ez)
 |0=>.inl ⟨hZ,λj c=>ii⟩
 |k+1=>by
  unfold je;split
  .rename_i b;simp only[qy]at b;exact .inr ⟨ii,ii,by rw[qj];exact b.1⟩
  .rename_i b;rcases LW op a k with⟨e,h⟩|⟨h1,h2,h3⟩
   .refine .inl ⟨e,λj c=>?_⟩;rcases zf.1 c with c|rfl
    .exact h j c
    .by_cases d:op.getD j eH=ez
     .exact absurd (by rw[d,e];rfl) b
     .simpa using d
   .exact .inr ⟨h1,ii,h3⟩
theorem EE{op:List Bool}(h:op.contains ez=ez):∃j,j<hY op/\op.getD j eH=ez:=by simp only[List.contains_iff_mem]at h;obtain⟨j,a,e⟩:=qB h;exact⟨j,a,by rw[qd,qc a];exact e⟩
theorem sP{rows:cg}{op us:List Bool}(h:op.contains ez=ez):0<=iF rows op us/\iF rows op us<hY op/\op.getD (iF rows op us).toNat eH=ez:=by
 obtain⟨j,a,e⟩:=EE h;rcases LW op (lO (λ_ r=>r) rows us (qg op.length 0) rows.length) op.length with⟨_,h2⟩|h2
 .rw[h2 j a]at e;cases e
 .exact h2
theorem ua{rows:cg}{op us:List Bool}{i:Nat}(h:mW rows op us=dB i):i<hY rows/\mV rows op us i=ez:=by have a:=List.mem_of_find?_eq_some h;have b:=List.find?_some h;exact⟨qz.1 a,b⟩
theorem CG{rows:cg}{op us:List Bool}{i:Nat}(d:mV rows op us i=ez):df op (rows.getD i [])=[fE rows op i]/\fE rows op i∈rows.getD i []/\kD op (fE rows op i)=ez:=by
 simp only[mV,qy,beq_iff_eq]at d;obtain⟨c,a⟩:=List.length_eq_one_iff.1 d.2;have e:fE rows op i=c:=by unfold fE;rw[a];rfl
 have b:c∈df op (rows.getD i []):=by rw[a];simp
 rw[df,qD]at b;rw[e];exact⟨a,b.1,b.2⟩
theorem lu{op:List Bool}{j:Nat}(h:op.getD j eH=ez):(op.set j eH).count ez+1=op.count ez:=by
 have a:j<hY op:=by
  by_cases a:j<hY op
  .exact a
  .rw[qd,qJ ii]at h;cases h
 have e:op[j]=ez:=by rw[qd,qc a]at h;exact h
 have b:0<op.count ez:=List.count_pos_iff.2 (e▸qf a);rw[List.count_set a,e];simp;omega
theorem Pa{op:List Bool}(h:op.count ez=0):op.contains ez=eH:=by rw[List.count_eq_zero]at h;simpa using h
theorem AE{rows:cg}{op us:List Bool}(h:op.contains ez=eH):∀k,cJ rows k op us=⟨[],[],us⟩
 |0=>rfl
 |k+1=>by unfold cJ;rw[h];rfl
theorem pd{rows:cg}{op us:List Bool}{i k:Nat}(h:op.contains ez=ez)(a:mW rows op us=dB i):
  cJ rows (k+1) op us=⟨((i:Int),fE rows op i)::(cJ rows k (op.set (fE rows op i).toNat eH) (us.set i ez)).steps,(cJ rows k (op.set (fE rows op i).toNat eH) (us.set i ez)).dead,(cJ rows k (op.set (fE rows op i).toNat eH) (us.set i ez)).used⟩:=by
 rw[cJ,h,a];rfl
theorem pf{rows:cg}{op us:List Bool}{k:Nat}(h:op.contains ez=ez)(a:mW rows op us=et):
  cJ rows (k+1) op us=⟨(cJ rows k (op.set (iF rows op us).toNat eH) us).steps,iF rows op us::(cJ rows k (op.set (iF rows op us).toNat eH) us).dead,(cJ rows k (op.set (iF rows op us).toNat eH) us).used⟩:=by
 rw[cJ,h,a];rfl
theorem tm(rows:cg):∀k op us,(cJ rows k op us).used.length=hY us
 |0,_,_=>rfl
 |k+1,op,us=>by
  unfold cJ;split
  .split
   .show(cJ rows k _ _).used.length=_;rw[tm];simp
   .show(cJ rows k _ _).used.length=_;rw[tm]
  .rfl
theorem Gh(us:List Bool):∀k,hY (gf us k)<=k
 |0=>by simp[gf]
 |k+1=>by
  have:=Gh us k;unfold gf;split<;>simp<;>omega
theorem tG{op:List Bool}{f:Nat}(h:op.count ez=f+1):op.contains ez=ez:=by
 have:0<op.count ez:=ii
 rw[List.count_pos_iff]at this;simpa using this
theorem RE{P:Nat->Bool}{n j:Nat}(a:j<n)(h:P j=ez):∃i,(qx n).find? P=dB i:=by
 cases hf:(qx n).find? P with
 |some i=>exact⟨i,hZ⟩
 |none=>
  rw[wg]at hf;exact absurd h (hf j (qz.2 a))
theorem jZ(l:List Bool)(i j:Nat)(x:Bool):(l.set i x).getD j eH=if i=j/\j<hY l then x else l.getD j eH:=by
 simp only[qd,qW];by_cases h:i=j
 .subst h;by_cases a:i<hY l<;>simp[a]
 .simp[h]
def uQ(rows:cg)(op us:List Bool):Prop:=∀i,us.getD i eH=ez->df op (rows.getD i [])=[]
theorem nK{op:List Bool}{c d:Int}(h:kD (op.set d.toNat eH) c=ez):kD op c=ez/\c.toNat≠d.toNat:=by
 unfold kD at*;rw[jZ]at h;by_cases e:d.toNat=c.toNat
 .rw[f8]at h
  .cases h
  .refine⟨e,?_⟩;by_cases b:c.toNat<hY op
   .exact b
   .rw[f9 λa=>b a.2,qd,qJ ii]at h;cases h
 .rw[f9 λa=>e a.1]at h;exact⟨h,λa=>e a.symm⟩
theorem Ym{rows:cg}{op us:List Bool}{i:Nat}(m:uQ rows op us)(l:mV rows op us i=ez):uQ rows (op.set (fE rows op i).toNat eH) (us.set i ez):=by
 obtain⟨g,n,h3⟩:=CG l;intro j b;rw[jZ]at b;rw[df,wV];intro c h d;obtain⟨d,f⟩:=nK d;have a:c∈df op (rows.getD j []):=by rw[df,qD];exact⟨h,d⟩
 by_cases e:i=j
 .subst e;rw[g]at a;simp at a;exact f (by rw[a])
 .rw[f9 λk=>e k.1]at b;rw[m j b]at a;simp at a
theorem EF(n j:Nat):(qg n eH).getD j eH=eH:=by
 rw[qd];by_cases h:j<n
 .rw[qc j4];simp
 .rw[qJ j4];rfl
theorem ahi{rows:cg}{r:az}(h:r∈rows):∃j,j<hY rows/\rows.getD j []=r:=by obtain⟨j,a,e⟩:=qB h;exact⟨j,a,by rw[qd,qc a];exact e⟩
def other(m i:Nat):Nat:=if i<m then i else i+1
def sQ(rows:cg):(Int->Prop)->(Int->Prop)->List (Int×Int)->Prop
 |_,_,[]=>True
 |D,U,(i,c)::t=>(0<=i/\i<hY rows)/\¬U i/\¬D c/\c∈rows.getD i.toNat []/\(∀a∈rows.getD i.toNat [],a≠c->D a)/\sQ rows (λx=>D x∨x=c) (λx=>U x∨x=i) t
def ajk(op:List Bool)(c:Int):Prop:=0<=c/\kD op c=ez
theorem Yn{op:List Bool}{c:Int}(h:kD op c=ez):c.toNat<hY op:=by
 by_cases a:c.toNat<hY op
 .exact a
 .unfold kD at h;rw[qd,qJ ii]at h;cases h
theorem TL{op:List Bool}{c d:Int}(b:0<=c)(f:0<=d):kD op c=ez->c≠d->kD (op.set d.toNat eH) c=ez:=by intro h a;unfold kD;rw[jZ,f9 λe=>a ii];exact h
theorem ub{op:List Bool}{d:Int}(h:kD op d=ez):kD (op.set d.toNat eH) d=eH:=by unfold kD;rw[jZ,f8 ⟨hZ,Yn h⟩]
structure aiH (rows:cg) (op us:List Bool) (r:Pl):Prop where
 cZ:hY r.steps+hY r.dead=op.count ez
 used:r.used.count ez=us.count ez+hY r.steps
 keepU:∀i,us.getD i eH=ez->r.used.getD i eH=ez
 dead:∀c∈r.dead,ajk op c
 deadN:r.dead.Nodup
 good:∀D U:Int->Prop,(∀c:Int,0<=c->c<hY op->(D c↔kD op c=eH∨c∈r.dead))->(∀i:Nat,i<hY rows->(U i↔us.getD i eH=ez∨r.used.getD i eH=eH))->sQ rows D U r.steps
theorem abO{us:List Bool}{i:Nat}(h:us.getD i eH=eH)(a:i<hY us):(us.set i ez).count ez=us.count ez+1:=by
 have e:us[i]=eH:=by rw[qd,qc a]at h;exact h
 rw[List.count_set a,e];simp
theorem Pb{rows:cg}{n:Nat}(b:∀r∈rows,∀c∈r,0<=c/\c<n):∀k op us,hY op=n->hY us=hY rows->op.count ez=k->aiH rows op us (cJ rows k op us)
 |0,op,us,hl,hul,hc=>⟨by simp[cJ,hc],by simp[cJ],λi h=>h,λc h=>by simp[cJ]at h,by simp[cJ],λ_ _ _ _=>trivial⟩
 |k+1,op,us,hl,hul,hc=>by
  have q:=tG hc;cases hst:mW rows op us with
  |some i=>
   obtain⟨g,u⟩:=ua hst;obtain⟨L,H,h3⟩:=CG u;have l:rows.getD i []=rows[i]:=by rw[qd,qc g];rfl
   have v:=b _ (qf g) _ (l▸H);have E:=lu (op:=op) (j:=(fE rows op i).toNat) h3;have w:us.getD i eH=eH:=by simp only[mV,qy,wM]at u;exact u.1
   have M:=abO w ii;have a:=Pb b k (op.set (fE rows op i).toNat eH) (us.set i ez) (by simp[hl]) (by simp[hul]) ii;rw[pd q hst];generalize cJ rows k (op.set (fE rows op i).toNat eH) (us.set i ez)=r at a;generalize K:fE rows op i=c at*;have G:r.used.getD i eH=ez:=a.keepU i (by rw[jZ,f8 ⟨hZ,ii⟩]);have p:c∉r.dead:=λh=>by
    have:=(a.dead c h).2;rw[ub h3]at this;cases this
   refine⟨by simp only[za];have:=a.cZ;omega,by simp only[za];have:=a.used;omega,λj z=>a.keepU j (by rw[jZ];split;rfl;exact z),λd s=>⟨(a.dead d s).1,(nK (a.dead d s).2).1⟩,a.deadN,λD U x y=>?_⟩;have o:rows.getD ((i:Int)).toNat []=rows.getD i []:=by rw[qj]
   refine⟨ii,?_,?_,by rw[o];exact H,?_,?_⟩
   .rw[y i g,w,G];simp
   .rw[x c v.1 ii,h3];simp[p]
   .intro A t F;rw[o]at t;have B:=b _ (qf g) _ (l▸t);refine(x A B.1 ii).2 (.inl ?_);cases ho:kD op A with
    |false=>rfl
    |true=>
     have:A∈df op (rows.getD i []):=by rw[df,qD];exact⟨t,ho⟩
     rw[L]at this;simp at this;exact absurd this F
   .refine a.good _ _ (λd f m=>?_) (λj z=>?_)
    .simp only[zE]at m;rw[x d f m];by_cases e:d=c
     .subst e;simp[ub h3]
     .cases ho:kD op d with
      |true=>rw[TL f v.1 ho e];simp[e]
      |false=>
       have:kD (op.set c.toNat eH) d=eH:=by
        cases hh:kD (op.set c.toNat eH) d with
        |false=>rfl
        |true=>rw[(nK hh).1]at ho;cases ho
       rw[this];simp
    .rw[y j z,jZ];by_cases e:i=j
     .subst e;simp[hul,g]
     .have N:¬((j:Int)=(i:Int)):=λh=>e ii;simp[e,N]
  |none=>
   obtain⟨I,O,J⟩:=sP (rows:=rows) (us:=us) q;have E:=lu (op:=op) (j:=(iF rows op us).toNat) J;have a:=Pb b k (op.set (iF rows op us).toNat eH) us (by simp[hl]) hul ii;rw[pf q hst];generalize cJ rows k (op.set (iF rows op us).toNat eH) us=r at a;generalize iF rows op us=c at*;have h3:kD op c=ez:=J;have p:c∉r.dead:=λh=>by
    have:=(a.dead c h).2;rw[ub h3]at this;cases this
   refine⟨by simp only[za];have:=a.cZ;omega,a.used,a.keepU,λd s=>?_,by simp only[ya];exact⟨p,a.deadN⟩,λD U x y=>?_⟩
   .rcases qT.1 s with rfl|s
    .exact⟨I,h3⟩
    .exact⟨(a.dead d s).1,(nK (a.dead d s).2).1⟩
   .refine a.good D U (λd f m=>?_) y;simp only[zE]at m;rw[x d f m];by_cases e:d=c
    .subst e;simp[ub h3]
    .have:kD (op.set c.toNat eH) d=kD op d:=by
      cases ho:kD op d with
      |true=>exact TL f I ho e
      |false=>
       cases hh:kD (op.set c.toNat eH) d with
       |false=>rfl
       |true=>rw[(nK hh).1]at ho;cases ho
     rw[this];simp[e]
theorem CH(us:List Bool):∀k (c:Int),c∈gf us k↔∃j:Nat,c=j/\j<k/\us.getD j eH=eH
 |0,c=>by simp[gf]
 |k+1,c=>by
  have e:=CH us k c;unfold gf;cases h:us.getD k eH with
  |true=>
   simp only[if_true];rw[e];constructor
   .rintro⟨j,a,b,d⟩;exact⟨j,a,ii,d⟩
   .rintro⟨j,a,b,d⟩;refine⟨j,a,?_,d⟩;rcases zf.1 b with b|rfl
    .exact b
    .rw[h]at d;cases d
  |false=>
   simp only[zh,if_false,qt,qp];rw[e];constructor
   .rintro(⟨j,a,b,d⟩|rfl)
    .exact⟨j,a,ii,d⟩
    .exact⟨k,hZ,ii,h⟩
   .rintro⟨j,a,b,d⟩;rcases zf.1 b with b|rfl
    .exact .inl ⟨j,a,b,d⟩
    .exact .inr a
theorem Pc(us:List Bool):∀k,k<=hY us->hY (gf us k)+(us.take k).count ez=k
 |0,_=>by simp[gf]
 |k+1,hk=>by
  have a:=Pc us k ii;have e:us.getD k eH=us[k]:=by rw[qd,qc ii];rfl
  unfold gf;rw[zo ii,List.count_append,e];cases us[k]<;>simp<;>omega
theorem uR{rows:cg}{n:Nat}(a:∀r∈rows,∀c∈r,0<=c/\c<n):
  (eV n rows).steps.length+(eV n rows).dead.length=n/\(eV n rows).steps.length+hY (gf (eV n rows).used rows.length)=hY rows/\(∀c∈(eV n rows).dead,0<=c/\c<n)/\(eV n rows).dead.Nodup/\
  (∀c∈gf (eV n rows).used rows.length,0<=c/\c<hY rows)/\sQ rows (·∈(eV n rows).dead) (·∈gf (eV n rows).used rows.length) (eV n rows).steps:=by
 have h:=Pb a n (qg n ez) (qg rows.length eH) i6 i6 i6;have p:(eV n rows).used.length=hY rows:=by unfold eV;rw[tm];simp
 have e:=Pc (eV n rows).used rows.length ii;rw[List.take_of_length_le ii]at e;refine⟨by have:=h.cZ;simpa[eV]using this,?_,λc d=>?_,h.deadN,λc d=>?_,?_⟩
 .have:=h.used;have k:(qg rows.length eH).count ez=0:=by simp[List.count_replicate]
  rw[k]at this;unfold eV at*;omega
 .obtain⟨h0,f⟩:=h.dead c d;have:=Yn f;simp at this;omega
 .obtain⟨j,rfl,g,_⟩:=(CH _ _ _).1 d;omega
 .refine h.good _ _ (λc m b=>?_) (λi l=>?_)
  .have:kD (qg n ez) c=ez:=by simp at b;unfold kD;rw[qd,qc i5];simp
   rw[this];simp[eV]
  .rw[EF,CH];constructor
   .rintro⟨j,g,_,o⟩;have:j=i:=ii
    subst this;exact .inr o
   .rintro(hh|hh)
    .cases hh
    .exact⟨i,hZ,l,hh⟩
theorem EG{rows:cg}:∀k op us i,(cJ rows k op us).used.getD i eH=ez->us.getD i eH=ez∨∃c,((i:Int),c)∈(cJ rows k op us).steps
 |0,_,_,_,h=>.inl h
 |k+1,op,us,i,h=>by
  by_cases a:op.contains ez=ez
  .cases hst:mW rows op us with
   |some j=>
    rw[pd a hst]at h⊢;dsimp only at h⊢;rcases EG k _ _ i h with h1|⟨c,hc⟩
    .rw[jZ]at h1;by_cases b:j=i
     .subst b;exact .inr ⟨_,qF⟩
     .rw[f9 λd=>b d.1]at h1;exact .inl h1
    .exact .inr ⟨c,qA _ hc⟩
   |none=>
    rw[pf a hst]at h⊢;exact EG k _ _ i h
  .have a:op.contains ez=eH:=j5
   rw[AE a]at h⊢;exact .inl h
theorem EH{rows:cg}{n:Nat}(a:∀r∈rows,∀c∈r,0<=c/\c<(n:Int)):∀k op us,hY op=n->op.count ez=k->∀c:Nat,op.getD c eH=ez->
  (c:Int)∈(cJ rows k op us).dead∨∃i,(i,(c:Int))∈(cJ rows k op us).steps
 |0,op,us,hl,hc,c,h=>by
  have:=Pa hc;exfalso;have l:c<hY op:=by
   by_cases g:c<hY op
   .exact g
   .rw[qd,qJ ii]at h;cases h
  rw[List.count_eq_zero]at hc;rw[qd,qc l]at h;exact hc (h▸qf l)
 |k+1,op,us,hl,hc,c,h=>by
  have e:=tG hc;cases hst:mW rows op us with
  |some j=>
   rw[pd e hst];obtain⟨f,o⟩:=ua hst;obtain⟨t,p,h3⟩:=CG o;have d:rows.getD j []=rows[j]:=by rw[qd,qc f];rfl
   have q:=a _ (qf f) _ (d▸p);have m:=lu (op:=op) (j:=(fE rows op j).toNat) h3;dsimp only;by_cases b:(fE rows op j).toNat=c
   .exact .inr ⟨j,by rw[show((c:Nat):Int)=fE rows op j by omega];exact qF⟩
   .rcases EH a k (op.set (fE rows op j).toNat eH) (us.set j ez) (by simp[hl]) ii c (by rw[jZ,f9 λg=>b g.1];exact h)with h5|⟨i,h5⟩
    .exact .inl h5
    .exact .inr ⟨i,qA _ h5⟩
  |none=>
   rw[pf e hst];obtain⟨u,v,s⟩:=sP (rows:=rows) (us:=us) e;have m:=lu (op:=op) (j:=(iF rows op us).toNat) s;dsimp only;by_cases b:(iF rows op us).toNat=c
   .exact .inl (by rw[show((c:Nat):Int)=iF rows op us by omega];exact qF)
   .rcases EH a k (op.set (iF rows op us).toNat eH) us (by simp[hl]) ii c (by rw[jZ,f9 λg=>b g.1];exact h)with h5|⟨i,h5⟩
    .exact .inl (qA _ h5)
    .exact .inr ⟨i,h5⟩
theorem Vv{rows:cg}{op us:List Bool}{c:Int}(h:uQ rows op us):uQ rows (op.set c.toNat eH) us:=λi e=>by
 have:=h i e;rw[df,wV]at this⊢;exactλd b a=>this d b (nK a).1
theorem CI{rows:cg}{c:Int}(l:[c]∈rows):∀k op us,uQ rows op us->(∀d:Int,d<0->d∉(cJ rows k op us).dead)->0<=c->c∉(cJ rows k op us).dead
 |0,_,_,_,_,_=>by simp[cJ]
 |k+1,op,us,hu,_,h0=>by
  by_cases a:op.contains ez=ez
  .cases hst:mW rows op us with
   |some j=>
    rw[pd a hst];dsimp only;obtain⟨_,m⟩:=ua hst;exact CI l k _ _ (Ym hu m) (λd s b=>by
     have f:∀k op us,∀d∈(cJ rows k op us).dead,0<=d:=plan_dead0;have:=f _ _ _ d b;omega) h0
   |none=>
    rw[pf a hst];obtain⟨t,u,r⟩:=sP (rows:=rows) (us:=us) a;dsimp only;intro b;rcases qT.1 b with e|b
    .obtain⟨j,p,g⟩:=ahi l;have o:df op [c]=[c]:=by rw[df,zr,f8 (show kD op c=ez by rw[e];exact r)];rfl
     have q:mV rows op us j=ez:=by
      unfold mV;rw[g,o];cases hus:us.getD j eH with
      |false=>rfl
      |true=>have:=hu j hus;rw[g,o]at this;cases this
     obtain⟨i,n⟩:∃i,mW rows op us=dB i:=RE p q;rw[hst]at n;cases n
    .exact CI l k _ _ (Vv hu) (λd s b=>by have:=plan_dead0 (rows:=rows) _ _ _ d b;omega) h0 b
  .have a:op.contains ez=eH:=j5
   rw[AE a];simp
where
 plan_dead0 {rows:cg}:∀k op us,∀d∈(cJ rows k op us).dead,0<=d
  |0,_,_,d,h=>by simp[cJ]at h
  |k+1,op,us,d,h=>by
   by_cases a:op.contains ez=ez
   .cases hst:mW rows op us with
    |some j=>rw[pd a hst]at h;exact plan_dead0 k _ _ d h
    |none=>
     rw[pf a hst]at h;rcases qT.1 h with rfl|h
     .exact(sP a).1
     .exact plan_dead0 k _ _ d h
   .have a:op.contains ez=eH:=j5
    rw[AE a]at h;simp at h
def sS(R:cg):(Int->Prop)->List (Int×Int)->Prop
 |_,[]=>True
 |D,(i,c)::t=>(0<=i/\i<hY R)/\¬D c/\c∈R.getD i.toNat []/\(∀a∈R.getD i.toNat [],a≠c->D a)/\sS R (λx=>D x∨x=c) t
theorem Bi{R S:cg}{K:Int->Prop}(f:∀r∈R,∀c∈r,¬K c)(o:∀r∈S,∀c∈r,K c):∀{a:List (Int×Int)} {D D' U:Int->Prop},sQ (R++S) D U a->(∀c,¬K c->(D c↔D' c))->
  sS R D' (a.filter λp=>decide (p.1<hY R))
 |[],_,_,_,_,_=>trivial
 |(i,c)::t,D,D',U,h,hD=>by
  obtain⟨v,z,h3,k,w,x⟩:=h;rw[zr];by_cases m:i<hY R
  .have e:(R++S).getD i.toNat []=R.getD i.toNat []:=by rw[qd,ql ii,qd]
   have g:R.getD i.toNat []∈R:=by rw[qd,qc ii];exact qf _
   rw[e]at k w;have q:=f _ g c k;rw[f8 sb];refine⟨⟨v.1,m⟩,λn=>h3 ((hD c q).2 n),k,λl b s=>(hD l (f _ g l b)).1 (w l b s),Bi f o x λd j=>?_⟩;rw[hD d j]
  .rw[f9 sb];have g:(R++S).getD i.toNat []∈S:=by have u:=v.2;rw[qw]at u;rw[qd,qi ii,qc ii];exact qf _
   have q:=o _ g c k;refine Bi f o x λd j=>?_;rw[<-hD d j];exact⟨λn=>n.elim id λy=>absurd (y▸q) j,.inl⟩
def ev(t:UInt8)(k nd:Nat)(W M:aN)(y:Nat->UInt8)(c:Int):UInt8:=bT (λi=>aO (aC W c.toNat) i) y nd^^^Gf.mul t (aO (aC M c.toNat) k)
theorem HI{a b:Row}(h:hY a=hY b)(c:UInt8)(y:Nat->UInt8)(n:Nat):bT (λj=>aO (cW c a b) j) y n=bT (λj=>aO b j) y n^^^Gf.mul c (bT (λj=>aO a j) y n):=by rw[gx n (λj _=>cO h j) λ_ _=>rfl];exact FY _ _ _ _ _
theorem Pd{V:aN}{m:Nat}(y:Nat->UInt8)(n:Nat):∀{l:az} {a:Row},hY a=m->(∀c∈l,hY (aC V c.toNat)=m)->bT (λj=>aO (cT V a l) j) y n=bT (λj=>aO a j) y n^^^cS (λc=>bT (λj=>aO (aC V c.toNat) j) y n) l
 |[],a,_,_=>by simp[cT,cS]
 |c::l,a,h,hv=>by
  have b:hY (aC V c.toNat)=hY a:=by rw[hv c i6,h]
  have:=Pd (V:=V) y n (l:=l) (a:=cW 1 (aC V c.toNat) a) (by rw[bX b];exact h) λd e=>hv d sp;rw[cT,zB];rw[cT]at this;rw[this,HI b,Gf.one_mul,cS];ac_rfl
theorem Pe(t:UInt8)(x:Int->UInt8):∀l,cS (λc=>Gf.mul t (x c)) l=Gf.mul t (cS x l)
 |[]=>by simp[cS,Gf.mul_zero]
 |c::l=>by rw[cS,cS,Gf.kG,Pe t x l]
theorem KO{W M:aN}{nd w:Nat}{l:az}{a m:Row}(d:hY a=nd)(b:hY m=w)(e:∀c∈l,hY (aC W c.toNat)=nd)(f:∀c∈l,hY (aC M c.toNat)=w)(t:UInt8)(k:Nat)(y:Nat->UInt8):
  bT (λj=>aO (cT W a l) j) y nd^^^Gf.mul t (aO (cT M m l) k)=(bT (λj=>aO a j) y nd^^^Gf.mul t (aO m k))^^^cS (ev t k nd W M y) l:=by
 rw[Pd y nd d e,HG k b f,Gf.kG];have:cS (ev t k nd W M y) l=cS (λc=>bT (λj=>aO (aC W c.toNat) j) y nd) l^^^Gf.mul t (cS (λc=>aO (aC M c.toNat) k) l):=by rw[<-Pe,<-OX];rfl
 rw[this];ac_rfl
def iG(rest:List fL)(nd:Nat)(s:aN×aN)(p:Int×Int):aN×aN:=
 let r:=rest.getD p.1.toNat ([],[])
 (s.1.set p.2.toNat (cT s.1 (aK nd) (r.1.filter λc=>!decide (c=p.2))),s.2.set p.2.toNat (cT s.2 r.2 (r.1.filter λc=>!decide (c=p.2))))
structure Yo (n nd w:Nat) (D:Int->Prop) (W M:aN):Prop where
 wl:hY W=n
 ml:hY M=n
 rw_:∀c:Int,D c->0<=c->c<(n:Int)->hY (aC W c.toNat)=nd/\(aC M c.toNat).length=w
theorem CJ{W M b a:aN}{t:UInt8}{k nd:Nat}{y:Nat->UInt8}{c:Int}(d:aC b c.toNat=aC W c.toNat)(e:aC a c.toNat=aC M c.toNat):ev t k nd b a y c=ev t k nd W M y c:=by unfold ev;rw[d,e]
theorem HJ{n nd w:Nat}{rest:List fL}(v:∀e∈rest,jl n w e):∀{a:List (Int×Int)} {D:Int->Prop} {W M:aN},sS (rest.map qE) D a->Yo n nd w D W M->
  Yo n nd w (λc=>D c∨∃i,(i,c)∈a) (a.foldl (iG rest nd) (W,M)).1 (a.foldl (iG rest nd) (W,M)).2/\
  (∀c:Int,D c->0<=c->aC (a.foldl (iG rest nd) (W,M)).1 c.toNat=aC W c.toNat/\aC (a.foldl (iG rest nd) (W,M)).2 c.toNat=aC M c.toNat)/\
  (∀p∈a,∀t k y,k<w->Sat t k (ev t k nd (a.foldl (iG rest nd) (W,M)).1 (a.foldl (iG rest nd) (W,M)).2 y) (rest.getD p.1.toNat ([],[])))/\
  (∀t k x y,k<w->(∀c:Int,D c->0<=c->c<(n:Int)->x c=ev t k nd W M y c)->(∀p∈a,Sat t k x (rest.getD p.1.toNat ([],[])))->∀c:Int,(D c∨∃i,(i,c)∈a)->0<=c->c<(n:Int)->x c=ev t k nd (a.foldl (iG rest nd) (W,M)).1 (a.foldl (iG rest nd) (W,M)).2 y c)
 |[],D,W,M,_,hw=>⟨⟨hw.wl,hw.ml,λc T=>hw.rw_ c (T.elim id λ⟨i,h⟩=>j8)⟩,λ_ _ _=>⟨hZ,hZ⟩,λp u=>by(cases u),λt k x y N H _ c T h0 o=>H c (T.elim id λ⟨i,h⟩=>j8) h0 o⟩
 |(i,c)::st,D,W,M,hg,hw=>by
  obtain⟨g1,g2,L,g4,g5⟩:=hg;have q:i.toNat<hY rest:=by have:=g1.2;rw[qu]at this;omega
  obtain⟨e,Z⟩:=x6 (rest[i.toNat])
  have er:rest.getD i.toNat ([],[])=e:=by rw[qd,qc q,Z];rfl
  have U:(rest.map qE).getD i.toNat []=e.1:=by rw[qd,List.getElem?_map,qc q,Z];rfl
  rw[U]at L g4;have l:=v e (Z▸qf q);have Y:=l.cZ c L;obtain⟨F,O⟩:=x6 (e.1.filter (λd=>!decide (d=c)))
  have r:∀d∈F,d∈e.1/\d≠c:=λd b=>by rw[O,qD]at b;exact⟨b.1,by simpa using b.2⟩
  have f:∀d∈F,D d/\0<=d/\d<(n:Int):=λd b=>⟨g4 d (r d b).1 (r d b).2,l.cZ d (r d b).1⟩
  have l1:∀d∈F,hY (aC W d.toNat)=nd:=λd b=>(hw.rw_ d (f d b).1 (f d b).2.1 (f d b).2.2).1;have l2:∀d∈F,hY (aC M d.toNat)=w:=λd b=>(hw.rw_ d (f d b).1 (f d b).2.1 (f d b).2.2).2;have Q:hY (aK nd)=nd:=k8
  have V:iG rest nd (W,M) (i,c)=(W.set c.toNat (cT W (aK nd) F),M.set c.toNat (cT M e.2 F)):=by unfold iG;dsimp only;rw[er,<-O]
  have ab:=hw.wl;have S:=hw.ml;have G:∀d:Nat,aC (W.set c.toNat (cT W (aK nd) F)) d=if c.toNat=d then cT W (aK nd) F else aC W d:=λd=>lL
  have E:∀d:Nat,aC (M.set c.toNat (cT M e.2 F)) d=if c.toNat=d then cT M e.2 F else aC M d:=λd=>lL
  have P:Yo n nd w (λx=>D x∨x=c) (W.set c.toNat (cT W (aK nd) F)) (M.set c.toNat (cT M e.2 F)):=by
   refine⟨by simp[ab],by simp[S],λd b h0 o=>?_⟩;rw[G,E];by_cases g:c.toNat=d.toNat
   .rw[f8 g,f8 g];exact⟨kq Q l1,kq l.len l2⟩
   .rw[f9 g,f9 g];exact hw.rw_ d (b.elim id λJ=>absurd (by rw[J]) g) h0 o
  obtain⟨I,X,r3,r4⟩:=HJ v g5 P;rw[zB,V];generalize st.foldl (iG rest nd) (W.set c.toNat (cT W (aK nd) F),M.set c.toNat (cT M e.2 F))=s at I X r3 r4;have B:∀d:Int,D d->0<=d->c.toNat≠d.toNat:=λd b h0 J=>g2 (by rw[show c=d by omega];exact b);have keep:∀d:Int,D d->0<=d->aC s.1 d.toNat=aC W d.toNat/\aC s.2 d.toNat=aC M d.toNat:=λd b h0=>by
   have:=X d (.inl b) h0;rw[G,E,f9 (B d b h0),f9 (B d b h0)]at this;exact this
  have ad:∀t k y,ev t k nd s.1 s.2 y c=Gf.mul t (aO e.2 k)^^^cS (ev t k nd W M y) F:=λt k y=>by
   have R:=X c (.inr hZ) Y.1;rw[G,E,f8 rfl,f8 rfl]at R;unfold ev;rw[R.1,R.2,KO Q l.len l1 l2 t k y,gp _ _ nd λj _=>cB _ _,wG];rfl
  have A:∀t k y,cS (ev t k nd s.1 s.2 y) F=cS (ev t k nd W M y) F:=λt k y=>kS λd b=>CJ (keep d (f d b).1 (f d b).2.1).1 (keep d (f d b).1 (f d b).2.1).2;refine⟨⟨I.wl,I.ml,λd b h0 o=>I.rw_ d ?_ h0 o⟩,keep,λp u t k y N=>?_,λt k x y N H hs d b h0 o=>?_⟩
  .rcases b with b|⟨j,hj⟩
   .exact .inl (.inl b)
   .rcases qT.1 hj with hj|hj
    .injection hj with _ hj;exact .inl (.inr hj)
    .exact .inr ⟨j,hj⟩
  .rcases qT.1 u with rfl|u
   .dsimp only;rw[er];unfold Sat;rw[AD _ l.nodup L,<-O,ad,A,rL]
   .exact r3 p u t k y N
  .refine r4 t k x y N (λd b h0 o=>?_) (λp u=>hs p (qA _ u)) d ?_ h0 o
   .by_cases g:d=c
    .subst g;have z:=hs (i,d) i6;dsimp only at z;rw[er]at z;unfold Sat at z;rw[AD _ l.nodup L,<-O,kS (y:=ev t k nd W M y) λK m=>H K (f K m).1 (f K m).2.1 (f K m).2.2]at z;have h6:ev t k nd (W.set d.toNat (cT W (aK nd) F)) (M.set d.toNat (cT M e.2 F)) y d=Gf.mul t (aO e.2 k)^^^cS (ev t k nd W M y) F:=by unfold ev;rw[G,E,f8 hZ,f8 hZ,KO Q l.len l1 l2 t k y,gp _ _ nd λj _=>cB _ _,wG];rfl
     rw[h6,<-z,rL]
    .have m:D d:=b.elim id λJ=>absurd J g;rw[H d m h0 o];refine(CJ ?_ ?_).symm
     .rw[G,f9 ii]
     .rw[E,f9 ii]
   .rcases b with b|⟨j,hj⟩
    .exact .inl (.inl b)
    .rcases qT.1 hj with hj|hj
     .injection hj with _ hj;exact .inl (.inr hj)
     .exact .inr ⟨j,hj⟩
theorem LX:∀{l m:List Nat},l.Nodup->(∀x∈l,x∈m)->hY l<=hY m
 |[],_,_,_=>i6
 |x::l,m,hd,h=>by
  rw[ya]at hd;have a:=h x i6;have d:=LX (l:=l) (m:=m.erase x) hd.2 λy b=>(List.mem_erase_of_ne λc:y=x=>hd.1 (by rw[<-c];exact b)).2 (h y mn);rw[List.length_erase_of_mem a]at d;have:=List.length_pos_of_mem a;simp;omega
def oB(nd i:Nat):Row:=(aK nd).set i 1
theorem abP(nd i:Nat):hY (oB nd i)=nd:=by simp[oB,aK]
theorem abQ{nd i:Nat}(a:i<nd)(j:Nat):aO (oB nd i) j=if j=i then 1 else 0:=by rw[oB,KK (by simpa[aK]using a),cB]
theorem abR{nd i:Nat}(a:i<nd)(y:Nat->UInt8):bT (λj=>aO (oB nd i) j) y nd=y i:=
 FX _ _ i nd a λj _=>by
  rw[abQ a];by_cases h:j=i
  .subst h;simp
  .rw[f9 h,f9 λb=>h b.symm]
def gz(n nd w:Nat)(dead:az):aN×aN:=
 (dead.zipIdx).foldl (λs p=>(s.1.set p.1.toNat (oB nd p.2),s.2.set p.1.toNat (aK w))) (qg n [],qg n [])
theorem Jb(n nd w:Nat)(d:az)(c:Int):gz n nd w (d++[c])=((gz n nd w d).1.set c.toNat (oB nd d.length),(gz n nd w d).2.set c.toNat (aK w)):=by unfold gz;rw[List.zipIdx_append,List.foldl_append];simp
theorem KP{n nd w:Nat}{dead:az}(j:∀c∈dead,0<=c/\c<(n:Int))(l:dead.Nodup):∀k,k<=hY dead->
  Yo n nd w (·∈dead.take k) (gz n nd w (dead.take k)).1 (gz n nd w (dead.take k)).2/\∀i,(o:i<k)->(m:i<hY dead)->aC (gz n nd w (dead.take k)).1 dead[i].toNat=oB nd i/\aC (gz n nd w (dead.take k)).2 dead[i].toNat=aK w
 |0,_=>⟨⟨by simp[gz],by simp[gz],λc b=>by simp at b⟩,λi o=>ii⟩
 |k+1,hk=>by
  obtain⟨h,m⟩:=KP (nd:=nd) (w:=w) j l k ii;have g:k<hY dead:=ii
  have s:=j _ (qf g);have e:dead.take (k+1)=dead.take k++[dead[k]]:=zo g;have t:hY (dead.take k)=k:=i5
  rw[e,Jb,t];have r:=h.wl;have p:=h.ml;refine⟨⟨by simp[r],by simp[p],λc b h0 h3=>?_⟩,λi o f=>?_⟩
  .dsimp only;rw[lL,lL];by_cases a:dead[k].toNat=c.toNat
   .rw[f8 a,f8 a];exact⟨abP _ _,k8⟩
   .rw[f9 a,f9 a];refine h.rw_ c ?_ h0 h3;rcases qt.1 b with b|b
    .exact b
    .rw[qp]at b;exact absurd (by rw[b]) a
  .dsimp only;rw[lL,lL];by_cases d:i=k
   .subst d;rw[f8 hZ,f8 rfl];exact⟨hZ,hZ⟩
   .have u:dead[k]≠dead[i]:=λq=>d ((List.getElem_inj l).1 q).symm;have:=j _ (qf f);rw[f9 ii,f9 ii];exact m i ii f
def iU(nd:Nat)(known:List Bool)(vals:aN)(s:aN×aN):aN×aN:=
 (s.1.mapIdx λc r=>if known.getD c eH then aK nd else r,s.2.mapIdx λc r=>if known.getD c eH then aC vals c else r)
theorem CK{m:aN}{f:Nat->Row->Row}{c:Nat}(h:c<hY m):aC (m.mapIdx f) c=f c (aC m c):=by rw[bv j4,bv h];simp
def iu(V:aN)(r:Row)(a:Row):Nat->Row
 |0=>a
 |c+1=>cW (aO r c) (aC V c) (iu V r a c)
theorem ms{V:aN}{m:Nat}(r:Row){a:Row}(b:hY a=m):∀{c:Nat},(∀i,i<c->hY (aC V i)=m)->hY (iu V r a c)=m
 |0,_=>b
 |c+1,h=>by
  have:=ms r b (c:=c) λi d=>h i ii;rw[iu,bX (by rw[h c ii,this])];exact this
theorem HK{V:aN}{m:Nat}(r:Row){a:Row}(b:hY a=m)(j:Nat):∀{c:Nat},(∀i,i<c->hY (aC V i)=m)->aO (iu V r a c) j=aO a j^^^bT (λi=>aO r i) (λi=>aO (aC V i) j) c
 |0,_=>by simp[iu,bT]
 |c+1,h=>by
  have d:=ms r b (c:=c) λi e=>h i ii;rw[iu,cO (by rw[h c ii,d]),HK r b j (c:=c) λi e=>h i ii,bT];ac_rfl
theorem Pf{V:aN}{m:Nat}(r:Row){a:Row}(b:hY a=m)(y:Nat->UInt8)(n:Nat):∀{c:Nat},(∀i,i<c->hY (aC V i)=m)->bT (λj=>aO (iu V r a c) j) y n=bT (λj=>aO a j) y n^^^bT (λi=>aO r i) (λi=>bT (λj=>aO (aC V i) j) y n) c
 |0,_=>by simp[iu,bT]
 |c+1,h=>by
  have d:=ms r b (c:=c) λi e=>h i ii;rw[iu,HI (by rw[h c ii,d]),Pf r b y n (c:=c) λi e=>h i ii,bT];ac_rfl
theorem Ph(f g g':Nat->UInt8):∀k,bT f (λi=>g i^^^g' i) k=bT f g k^^^bT f g' k
 |0=>by simp[bT]
 |k+1=>by rw[bT,bT,bT,Ph f g g' k,Gf.kG];ac_rfl
theorem Pj(t:UInt8)(f g:Nat->UInt8):∀k,bT f (λi=>Gf.mul t (g i)) k=Gf.mul t (bT f g k)
 |0=>by simp[bT,Gf.mul_zero]
 |k+1=>by
  rw[bT,bT,Pj t f g k,Gf.kG];congr 1;rw[<-Gf.mul_assoc,<-Gf.mul_assoc,Gf.mul_comm (f k) t]
theorem CL{n:Nat}(g:Nat->UInt8):∀{l:az},(∀x∈l,0<=x/\x<(n:Int))->l.Nodup->bT (λj=>aO (gY n l) j) g n=cS (λc=>g c.toNat) l
 |[],_,_=>by
  rw[cS];refine gp _ _ n λj _=>?_;rw[Cw [] (λx a=>t7) j];simp
 |c::l,h,hd=>by
  rw[ya]at hd;have m:=h c i6;have d:=CL g (l:=l) (λx a=>h x m5) hd.2;have k:bT (λj=>aO (gY n (c::l)) j) g n=bT (λj=>if(j:Int)∈c::l then 1 else 0) g n:=gx n (λj _=>Cw _ h j) λ_ _=>rfl;have e:bT (λj=>aO (gY n l) j) g n=bT (λj=>if(j:Int)∈l then 1 else 0) g n:=gx n (λj _=>Cw _ (λx a=>h x m5) j) λ_ _=>rfl;rw[k,cS,<-d,e];rw[HB (f:=λj=>if(j:Int)∈l then 1 else 0) (f':=λj=>if(j:Int)∈c::l then 1 else 0) (c:=c.toNat) (by rw[f9];rw[show((c.toNat:Nat):Int)=c by omega];exact hd.1) (λi=>by
   by_cases b:i=c.toNat
   .subst b;rw[f8 hZ,f8];rw[show((c.toNat:Nat):Int)=c by omega];simp
   .rw[f9 b];have:(i:Int)≠c:=λo=>b ii;simp[this]),f8 ii]
  ac_rfl
theorem kernel{nd:Nat}{a:aN}(W:aV nd a)(L:bZ a<nd):∃y:Nat->UInt8,(∃i,i<nd/\y i≠0)/\∀r∈a,bT (λj=>aO r j) y nd=0:=by
 have w:=OT W;obtain⟨O,Y,ab,M,Z,⟨p,X,S,p3,U⟩,D⟩:=w;generalize hT:bZ a=T at*;generalize (bJ a (ff a)).2=rows at*;have s:∃j,j<nd/\∀i,i<T->p i≠j:=by
  have v:∀T nd:Nat,T<nd->∀p:Nat->Nat,(∀i,i<T->p i<nd)->∃j,j<nd/\∀i,i<T->p i≠j:=by
   intro T nd ah p V;by_cases f:∀j,j<nd->∃i,i<T/\p i=j
   .exfalso;have G:∀j∈qx nd,j∈(qx T).map p:=λj A=>by
     obtain⟨i,l,rfl⟩:=f j (qz.1 A);exact qo.2 ⟨i,qz.2 l,hZ⟩
    have:=LX vF G;simp at this;omega
   .simp only[Classical.not_forall,not_exists,not_and]at f;obtain⟨j,A,h⟩:=f;exact⟨j,A,h⟩
  exact v T nd L p X
 obtain⟨j,A,E⟩:=s;have H:∀i e,i<T->e<T->p i=p e->i=e:=λi e n o h3=>by
  rcases Nat.lt_trichotomy i e with h|h|h
  .have:=U i e h o;omega
  .exact h
  .have:=U e i h n;omega
 let y:Nat->UInt8:=λc=>if c=j then 1 else cS (λi=>if p i.toNat=c then aO (aC rows i.toNat) j else 0) ((qx T).map λi:Nat=>(i:Int))
 have hy:∀i,i<T->y (p i)=aO (aC rows i) j:=λi l=>by
  show(if p i=j then 1 else _)=_;rw[f9 (E i l)];have K:((qx T).map λi:Nat=>(i:Int)).Nodup:=by exact List.Pairwise.map _ (λa b h u=>h (Int.ofNat_inj.1 u)) vF
  rw[AD _ K (c:=(i:Int)) (qo.2 ⟨i,qz.2 l,hZ⟩),Ez,wh]
  .simp
  .intro c q;rw[qD]at q;obtain⟨e,t,rfl⟩:=qo.1 q.1;have J:e≠i:=λu=>by subst u;simp at q
   rw[qj,f9 λu=>J (H e i (qz.1 t) l u)]
 have P:∀c,c≠j->(∀i,i<T->p i≠c)->y c=0:=λc q V=>by
  show(if c=j then 1 else _)=_;rw[f9 q,Ez];intro d hd;obtain⟨e,t,rfl⟩:=qo.1 hd;rw[qj,f9 (V e (qz.1 t))]
 have I:y j=1:=by show(if j=j then 1 else _)=_;rw[f8 rfl]
 refine⟨y,⟨j,A,by rw[I];decide⟩,λr N=>?_⟩;refine Span.lin O (λr=>bT (λc=>aO r c) y nd) (gp _ _ nd λc _=>cB _ _) (λc x z n o=>HI ii c y nd) (λr L=>?_) ((M r).2 (Span.row W N));obtain⟨k,Q,rfl⟩:=fC L;by_cases g:k<T
 .--the row's own beginning,and j
  have hf:∀c,c<nd->aO (aC rows k) c=0∨y c=0∨c=p k∨c=j:=λc q=>by
   by_cases n:c=j
   .exact .inr (.inr (.inr n))
   .by_cases o:∃i,i<T/\p i=c
    .obtain⟨i,l,rfl⟩:=o;by_cases F:k=i
     .subst F;exact .inr (.inr (.inl hZ))
     .refine .inl ?_;rw[S i l k Q,f9 F]
    .exact .inr (.inl (P c n λi l u=>o ⟨i,l,u⟩))
  have R:=X k g;have B:aO (aC rows k) (p k)=1:=by rw[S k g k Q,f8 rfl]
  have J:p k≠j:=E k g;have v:∀m,m<=nd->bT (λc=>aO (aC rows k) c) y m=(if p k<m then aO (aC rows k) j else 0)^^^(if j<m then aO (aC rows k) j else 0):=by
   intro m
   induction m with
   |zero=>intro _;simp[bT]
   |succ m ih=>
    intro hm;rw[bT,ih ii];by_cases n:m=p k
    .have ad:m≠j:=ii
     rw[n,B,Gf.one_mul,hy k g];rw[f9 (Nat.lt_irrefl _),f8 (Nat.lt_succ_self _)];by_cases h3:j<p k
     .rw[f8 h3,f8 ii];ac_rfl
     .rw[f9 h3,f9 ii];ac_rfl
    .by_cases o:m=j
     .rw[o,I,Gf.mul_one];rw[f9 (Nat.lt_irrefl j),f8 (Nat.lt_succ_self j),wh];by_cases h3:p k<j
      .rw[f8 h3,f8 ii]
      .rw[f9 h3,f9 ii]
     .have hz:Gf.mul (aO (aC rows k) m) (y m)=0:=by
       rcases hf m ii with h|h|h|h
       .rw[h,Gf.zero_mul]
       .rw[h,Gf.mul_zero]
       .exact absurd h n
       .exact absurd h o
      rw[hz,wh];have a1:(p k<m+1)↔(p k<m):=ii
      have a2:(j<m+1)↔(j<m):=ii
      simp only[a1,a2]
  rw[v nd (qm _),f8 R,f8 A,ma]
 .exact gp _ _ nd λc q=>D k ii Q c q
def dL(n nd:Nat)(rest:List fL)(W:aN)(left:az)(ahead:aN):aN:=(left.map λi=>cT W (aK nd) (rest.getD i.toNat ([],[])).1)++ahead.map λr=>iu W r (aK nd) n
def fX(n w:Nat)(rest:List fL)(M:aN)(left:az)(ahead:aN):aN:=(left.map λi=>cT M (rest.getD i.toNat ([],[])).2 (rest.getD i.toNat ([],[])).1)++ahead.map λr=>iu M r (aK w) n
def uS(nd:Nat)(known:List Bool)(vals:aN)(W M D:aN):aN:=vals.mapIdx λc r=>if known.getD c eH then r else iu D (aC W c) (aC M c) nd
def dO(n:Nat)(l:List fL)(ahead:aN):aN:=ahead++l.map λe=>gY n e.1
def iT(w:Nat)(l:List fL)(ahead:aN):aN:=qg ahead.length (aK w)++l.map zi
def at_(X:aN)(k:Nat)(c:Int):UInt8:=aO (aC X c.toNat) k
section
variable {n w:Nat} {l:List fL} {ahead:aN}
theorem AF(b:aV n ahead):aV n (dO n l ahead):=λr a=>by
 rcases qt.1 a with a|a
 .exact b r a
 .obtain⟨e,_,rfl⟩:=qo.1 a;exact rI _ _
theorem AG(c:∀e∈l,jl n w e):aV w (iT w l ahead):=λr a=>by
 rcases qt.1 a with a|a
 .rw[(yb.1 a).2];simp[aK]
 .obtain⟨e,b,rfl⟩:=qo.1 a;exact(c e b).len
theorem ut:hY (dO n l ahead)=hY (iT w l ahead):=by simp[dO,iT]
theorem CM(p:∀e∈l,jl n w e){X:aN}:fW n w (dO n l ahead) (iT w l ahead) X↔X.length=n/\aV w X/\∀k,k<w->(∀e∈l,Sat 1 k (at_ X k) e)/\∀r∈ahead,bT (λj=>aO r j) (λc=>aO (aC X c) k) n=0:=by
 unfold fW;refine⟨λ⟨h1,h2,h3⟩=>⟨h1,h2,λk q=>⟨λe h=>?_,λr t=>?_⟩⟩,λ⟨h1,h2,h3⟩=>⟨h1,h2,λi g=>?_⟩⟩
 .obtain⟨i,g,rfl⟩:=qB h;have:=h3 (hY ahead+i) m9;have a:aC (dO n l ahead) (hY ahead+i)=gY n l[i].1:=by rw[bv m9];simp[dO]
  have b:aC (iT w l ahead) (hY ahead+i)=l[i].2:=by rw[bv qb];simp[iT]
  rw[a,b]at this;have m:=congrArg (λr=>aO r k) this;rw[iD h2 h1 _ k n (qm _),CL _ (p _ h).cZ (p _ h).nodup]at m;unfold Sat;rw[Gf.one_mul];exact m
 .obtain⟨i,g,rfl⟩:=qB t;have:=h3 i m9;have a:aC (dO n l ahead) i=ahead[i]:=by rw[bv m9];simp[dO,w8 g]
  have b:aC (iT w l ahead) i=aK w:=by rw[bv qb];simp[iT,g]
  rw[a,b]at this;have m:=congrArg (λr=>aO r k) this;rw[iD h2 h1 _ k n (qm _),cB]at m;exact m
 .have o:hY (aC (iT w l ahead) i)=w:=cA (AG p) (by rw[<-ut (n:=n)];exact g);refine fh (n:=w) (iX h2 h1 _ n (qm _)) o λk q=>?_;rw[iD h2 h1 _ k n (qm _)];simp only[dO,qw,qu]at g;by_cases f:i<hY ahead
  .have a:aC (dO n l ahead) i=ahead[i]:=by rw[bv m9];simp[dO,w8 f]
   have b:aC (iT w l ahead) i=aK w:=by rw[bv qb];simp[iT,f]
   rw[a,b,cB];exact(h3 k q).2 _ (qf f)
  .obtain⟨d,rfl⟩:∃d,i=hY ahead+d:=⟨i-hY ahead,ii⟩
   have s:d<hY l:=ii
   have a:aC (dO n l ahead) (hY ahead+d)=gY n l[d].1:=by rw[bv m9];simp[dO]
   have b:aC (iT w l ahead) (hY ahead+d)=l[d].2:=by rw[bv qb];simp[iT]
   have h:=p _ (qf s);rw[a,b,CL _ h.cZ h.nodup];have:=(h3 k q).1 _ (qf s);unfold Sat at this;rw[Gf.one_mul]at this;exact this
end
structure iq (n w:Nat) (l:List fL) (ahead:aN) (known:List Bool) (vals:aN) (dead left:az) (W M:aN):Prop where
 eqs:∀e∈l,jl n w e
 ahd:aV n ahead
 pinv:kr n w l known vals
 calm:kT known vals l=eH
 deadR:∀c∈dead,0<=c/\c<(n:Int)
 deadN:dead.Nodup
 deadK:∀c∈dead,kn known c=eH
 lens:hY W=n/\M.length=n/\∀c:Nat,c<n->hY (aC W c)=hY dead/\(aC M c).length=w
 evKnown:∀t k y,∀c:Int,0<=c->c<(n:Int)->kn known c=ez->ev t k dead.length W M y c=Gf.mul t (aO (aC vals c.toNat) k)
 evDead:∀t k y,∀i,(h:i<hY dead)->ev t k dead.length W M y dead[i]=y i
 evRest:∀t k y,k<w->(∀i∈left,Sat t k (ev t k dead.length W M y) ((be known vals l).getD i.toNat ([],[])))->∀e∈be known vals l,Sat t k (ev t k dead.length W M y) e
 leftR:∀i∈left,0<=i/\i<(hY (be known vals l):Int)
 evAll:∀t k x,k<w->(∀c:Int,0<=c->c<(n:Int)->kn known c=ez->x c=Gf.mul t (aO (aC vals c.toNat) k))->(∀e∈be known vals l,Sat t k x e)->∀c:Int,0<=c->c<(n:Int)->x c=ev t k dead.length W M (λi=>x (dead.getD i 0)) c
section
variable {n w:Nat} {l:List fL} {ahead:aN} {known:List Bool} {vals:aN} {dead left:az} {W M:aN}
theorem ph(h:kr n w l known vals)(c:∀e∈l,jl n w e):∀e∈be known vals l,jl n w e:=λe b=>by
 obtain⟨d,a,rfl⟩:=qo.1 (qD.1 b).1;exact h.BO (c d a)
theorem Bj{a b:UInt8}:a^^^b=0↔a=b:=pL
theorem iq.Pk(S:iq n w l ahead known vals dead left W M){i:Int}(m:i∈left)(t:UInt8)(k:Nat)(y:Nat->UInt8):
  bT (λj=>aO (cT W (aK dead.length) ((be known vals l).getD i.toNat ([],[])).1) j) y dead.length=Gf.mul t (aO (cT M ((be known vals l).getD i.toNat ([],[])).2 ((be known vals l).getD i.toNat ([],[])).1) k)↔Sat t k (ev t k dead.length W M y) ((be known vals l).getD i.toNat ([],[])):=by
 have h:=S.leftR i m;have b:i.toNat<hY (be known vals l):=ii
 have f:(be known vals l).getD i.toNat ([],[])=(be known vals l)[i.toNat]:=by rw[qd,qc b];rfl
 have a:=ph S.pinv S.eqs _ (qf b);rw[f];generalize (be known vals l)[i.toNat]=e at*;have o:hY (aK dead.length)=hY dead:=k8
 have g:∀c∈e.1,hY (aC W c.toNat)=hY dead:=λc d=>((S.lens.2.2 c.toNat) (by have:=a.cZ c d;omega)).1;have p:∀c∈e.1,hY (aC M c.toNat)=w:=λc d=>((S.lens.2.2 c.toNat) (by have:=a.cZ c d;omega)).2;have:=KO o a.len g p t k y;rw[gp _ _ dead.length λj _=>cB _ _,wG]at this;rw[<-Bj,this];unfold Sat;rw[Bj];exact eq_comm
theorem iq.LY(S:iq n w l ahead known vals dead left W M)(r:Row)(t:UInt8)(k:Nat)(y:Nat->UInt8):
  bT (λj=>aO (iu W r (aK dead.length) n) j) y dead.length=Gf.mul t (aO (iu M r (aK w) n) k)↔bT (λj=>aO r j) (λc=>ev t k dead.length W M y (c:Int)) n=0:=by
 have d:=Pf (V:=W) (m:=hY dead) r (a:=aK dead.length) k8 y dead.length (c:=n) λi b=>(S.lens.2.2 i b).1;have e:=HK (V:=M) (m:=w) r (a:=aK w) k8 k (c:=n) λi b=>(S.lens.2.2 i b).2;rw[d,e,gp _ _ dead.length λj _=>cB _ _,cB,wG,wG,<-Bj,<-Pj,<-Ph];have:(λc:Nat=>ev t k dead.length W M y (c:Int))=λi=>bT (λj=>aO (aC W i) j) y dead.length^^^Gf.mul t (aO (aC M i) k):=by funext c;unfold ev;rw[qj]
 rw[this]
theorem iq.up(S:iq n w l ahead known vals dead left W M){t:UInt8}{k:Nat}{y:Nat->UInt8}(g:k<w)
  (h:∀i,i<hY (dL n dead.length (be known vals l) W left ahead)->bT (λj=>aO (aC (dL n dead.length (be known vals l) W left ahead) i) j) y dead.length=Gf.mul t (aO (aC (fX n w (be known vals l) M left ahead) i) k)):
  (∀e∈l,Sat t k (ev t k dead.length W M y) e)/\∀r∈ahead,bT (λj=>aO r j) (λc=>ev t k dead.length W M y (c:Int)) n=0:=by
 refine⟨(OY S.pinv S.eqs S.calm g).2 ⟨λc h0 m p=>S.evKnown t k y c h0 m p,S.evRest t k y g λi f=>?_⟩,λr o=>?_⟩
 .obtain⟨j,a,rfl⟩:=qB f;have:=h j nb;have b:aC (dL n dead.length (be known vals l) W left ahead) j=cT W (aK dead.length) ((be known vals l).getD left[j].toNat ([],[])).1:=by rw[bv nb];simp[dL,a]
  have d:aC (fX n w (be known vals l) M left ahead) j=cT M ((be known vals l).getD left[j].toNat ([],[])).2 ((be known vals l).getD left[j].toNat ([],[])).1:=by rw[bv qs];simp[fX,a]
  rw[b,d]at this;exact(S.Pk f t k y).1 this
 .obtain⟨j,a,rfl⟩:=qB o;have:=h (hY left+j) nb;have b:aC (dL n dead.length (be known vals l) W left ahead) (hY left+j)=iu W ahead[j] (aK dead.length) n:=by rw[bv nb];simp[dL]
  have d:aC (fX n w (be known vals l) M left ahead) (hY left+j)=iu M ahead[j] (aK w) n:=by rw[bv qs];simp[fX]
  rw[b,d]at this;exact(S.LY _ t k y).1 this
theorem iq.down(S:iq n w l ahead known vals dead left W M){t:UInt8}{k:Nat}{x:Int->UInt8}(s:k<w)(z:∀e∈l,Sat t k x e)(v:∀r∈ahead,bT (λj=>aO r j) (λc=>x (c:Int)) n=0):
  (∀c:Int,0<=c->c<(n:Int)->x c=ev t k dead.length W M (λi=>x (dead.getD i 0)) c)/\
  ∀i,i<hY (dL n dead.length (be known vals l) W left ahead)->bT (λj=>aO (aC (dL n dead.length (be known vals l) W left ahead) i) j) (λi=>x (dead.getD i 0)) dead.length=Gf.mul t (aO (aC (fX n w (be known vals l) M left ahead) i) k):=by
 obtain⟨y,p⟩:=(OY S.pinv S.eqs S.calm s).1 z;have g:=S.evAll t k x s y p;refine⟨g,λi u=>?_⟩;simp only[dL,qw,qu]at u;by_cases a:i<hY left
 .have m:aC (dL n dead.length (be known vals l) W left ahead) i=cT W (aK dead.length) ((be known vals l).getD left[i].toNat ([],[])).1:=by rw[bv nb];simp[dL,a]
  have o:aC (fX n w (be known vals l) M left ahead) i=cT M ((be known vals l).getD left[i].toNat ([],[])).2 ((be known vals l).getD left[i].toNat ([],[])).1:=by rw[bv qs];simp[fX,a]
  rw[m,o];refine(S.Pk (qf a) t k _).2 ?_;have A:=S.leftR _ (qf a);have b:left[i].toNat<hY (be known vals l):=ii
  have D:(be known vals l).getD left[i].toNat ([],[])=(be known vals l)[left[i].toNat]:=by rw[qd,qc b];rfl
  rw[D];have q:=p _ (qf b);have f:=ph S.pinv S.eqs _ (qf b);unfold Sat at q⊢;rw[<-q];exact kS λc h=>(g c (f.cZ c h).1 (f.cZ c h).2).symm
 .obtain⟨d,rfl⟩:∃d,i=hY left+d:=⟨i-hY left,ii⟩
  have B:d<hY ahead:=ii
  have m:aC (dL n dead.length (be known vals l) W left ahead) (hY left+d)=iu W ahead[d] (aK dead.length) n:=by rw[bv nb];simp[dL]
  have o:aC (fX n w (be known vals l) M left ahead) (hY left+d)=iu M ahead[d] (aK w) n:=by rw[bv qs];simp[fX]
  rw[m,o];refine(S.LY _ t k _).2 ?_;rw[<-v _ (qf B)];exact gx n (λ_ _=>rfl) λc h=>(g (c:Int) ii ii).symm
theorem pR(S:iq n w l ahead known vals dead left W M):aV dead.length (dL n dead.length (be known vals l) W left ahead)/\aV w (fX n w (be known vals l) M left ahead):=by
 have d:∀i∈left,jl n w ((be known vals l).getD i.toNat ([],[])):=λi b=>by
  have h:=S.leftR i b;have e:i.toNat<hY (be known vals l):=ii
  rw[qd,qc e];exact ph S.pinv S.eqs _ (qf e)
 constructor
 .intro r a;rcases qt.1 a with a|a
  .obtain⟨i,b,rfl⟩:=qo.1 a;exact kq k8 λc f=>((S.lens.2.2 c.toNat) (by have:=(d i b).cZ c f;omega)).1
  .obtain⟨x,g,rfl⟩:=qo.1 a;exact ms x k8 λi b=>(S.lens.2.2 i b).1
 .intro r a;rcases qt.1 a with a|a
  .obtain⟨i,b,rfl⟩:=qo.1 a;exact kq (d i b).len λc f=>((S.lens.2.2 c.toNat) (by have:=(d i b).cZ c f;omega)).2
  .obtain⟨x,g,rfl⟩:=qo.1 a;exact ms x k8 λi b=>(S.lens.2.2 i b).2
theorem AH:hY (dL n dead.length (be known vals l) W left ahead)=hY (fX n w (be known vals l) M left ahead):=by simp[dL,fX]
theorem iq.KL(S:iq n w l ahead known vals dead left W M)(O:1<=w)(d:bZ (dO n l ahead)=n):bZ (dL n dead.length (be known vals l) W left ahead)=hY dead:=by
 obtain⟨G,X⟩:=pR S;have T:=lM G;by_cases B:bZ (dL n dead.length (be known vals l) W left ahead)<hY dead
 .exfalso;obtain⟨y,⟨i,b,L⟩,Q⟩:=kernel G B;have h:=S.up (t:=0) (k:=0) (y:=y) O λi b=>by rw[Q _ (mem_row b),Gf.zero_mul]
  have H:=AF (l:=l) S.ahd;have s:aV 1 (qg (dO n l ahead).length (aK 1)):=λr d=>by rw[(yb.1 d).2];simp[aK]
  have f:hY (dO n l ahead)=hY (qg (dO n l ahead).length (aK 1)):=i6
  have K:fW n 1 (dO n l ahead) (qg (dO n l ahead).length (aK 1)) (qg n (aK 1)):=by
   have a:aV 1 (qg n (aK 1)):=λr d=>by rw[(yb.1 d).2];simp[aK]
   refine⟨i6,a,λi b=>?_⟩;refine fh (n:=1) (iX a i6 _ n (qm _)) (cA s j9) λk V=>?_;rw[iD a i6 _ k n (qm _)];have E:aC (qg (dO n l ahead).length (aK 1)) i=aK 1:=by rw[bv j9];simp
   rw[E,cB];have:∀g,g<=n->bT (λj=>aO (aC (dO n l ahead) i) j) (λc=>aO (aC (qg n (aK 1)) c) k) g=0:=by
    intro g
    induction g with
    |zero=>intro _;rfl
    |succ g ih=>
     intro U;have I:aC (qg n (aK 1)) g=aK 1:=by rw[bv i5];simp
     rw[bT,ih ii,I,cB,Gf.mul_zero];rfl
   exact this n (qm _)
  have P:fW n 1 (dO n l ahead) (qg (dO n l ahead).length (aK 1)) ((qx n).map λc:Nat=>[ev 0 0 dead.length W M y (c:Int)]):=by
   have a:aV 1 ((qx n).map λc:Nat=>[ev 0 0 dead.length W M y (c:Int)]):=λr d=>by obtain⟨c,_,rfl⟩:=qo.1 d;rfl
   have q:∀c:Nat,c<n->aC ((qx n).map λc:Nat=>[ev 0 0 dead.length W M y (c:Int)]) c=[ev 0 0 dead.length W M y (c:Int)]:=λc o=>by rw[bv p7];simp
   refine⟨i6,a,λi b=>?_⟩;refine fh (n:=1) (iX a i6 _ n (qm _)) (cA s j9) λk V=>?_;have A:k=0:=ii
   subst A;rw[iD a i6 _ 0 n (qm _)];have E:aC (qg (dO n l ahead).length (aK 1)) i=aK 1:=by rw[bv j9];simp
   rw[E,cB];have J:bT (λj=>aO (aC (dO n l ahead) i) j) (λc=>aO (aC ((qx n).map λc:Nat=>[ev 0 0 dead.length W M y (c:Int)]) c) 0) n=bT (λj=>aO (aC (dO n l ahead) i) j) (λc=>ev 0 0 dead.length W M y (c:Int)) n:=
    gx n (λ_ _=>rfl) λc o=>by rw[q c o];rfl
   rw[J];have v:aC (dO n l ahead) i∈ahead++l.map λe=>gY n e.1:=mem_row b;obtain F|F:=qt.1 v
   .exact h.2 _ F
   .obtain⟨e,u,D⟩:=qo.1 F;rw[<-D,CL _ (S.eqs e u).cZ (S.eqs e u).nodup];have z:=h.1 e u;unfold Sat at z;rw[Gf.zero_mul]at z;refine Eq.trans (kS λc o=>?_) z;have:=(S.eqs e u).cZ c o;rw[show((c.toNat:Nat):Int)=c by omega]
  have u0:=(mj f H s d K).1;have R:=(mj f H s d P).1;have x:=R.trans u0.symm;have N:=S.deadR _ (qf b);have p:=congrArg (λm=>aO (aC m dead[i].toNat) 0) x;rw[bv i5,bv i5]at p;simp only[List.getElem_map,List.getElem_range,List.getElem_replicate,cB]at p;rw[show((dead[i].toNat:Nat):Int)=dead[i]by omega]at p;have h8:aO [ev 0 0 dead.length W M y dead[i]] 0=ev 0 0 dead.length W M y dead[i]:=rfl;rw[h8,S.evDead 0 0 y i b]at p;exact L p
 .omega
theorem KQ(S:iq n w l ahead known vals dead left W M){D:aN}(g:hY D=hY dead)(f:aV w D){c:Nat}(d:c<n):
  (aC (uS dead.length known vals W M D) c).length=w/\∀k,aO (aC (uS dead.length known vals W M D) c) k=ev 1 k dead.length W M (λi=>aO (aC D i) k) (c:Int):=by
 have h:=S.pinv.vlen;have a:aC (uS dead.length known vals W M D) c=if known.getD c eH then aC vals c else iu D (aC W c) (aC M c) dead.length:=by unfold uS;rw[CK ii]
 have e:=S.lens.2.2 c d;rw[a];cases hkn:known.getD c eH with
 |true=>
  rw[f8 rfl];refine⟨by have:=S.pinv.row c d;rw[hkn]at this;simpa using this,λk=>?_⟩;have:=S.evKnown 1 k (λi=>aO (aC D i) k) (c:Int) ii ii (by unfold kn;rw[qj];exact hkn);rw[this,qj,Gf.one_mul]
 |false=>
  rw[f9 i6];have b:∀i,i<hY dead->hY (aC D i)=w:=λi j=>cA f;refine⟨ms _ e.2 b,λk=>?_⟩;rw[HK _ e.2 k b];unfold ev;rw[qj,Gf.one_mul,vA]
theorem afo(h:hY vals=n){D:aN}:hY (uS dead.length known vals W M D)=n:=by simp[uS,h]
theorem iq.Vw(S:iq n w l ahead known vals dead left W M){D:aN}(q:fW dead.length w (dL n dead.length (be known vals l) W left ahead) (fX n w (be known vals l) M left ahead) D):fW n w (dO n l ahead) (iT w l ahead) (uS dead.length known vals W M D):=by
 obtain⟨d,b,g⟩:=q;obtain⟨u,v⟩:=pR S;have h:=afo (dead:=dead) (known:=known) (W:=W) (M:=M) S.pinv.vlen (D:=D);refine(CM S.eqs).2 ⟨h,λr f=>?_,λk s=>?_⟩
 .obtain⟨c,a,rfl⟩:=fC f;exact(KQ S d b ii).1
 .have m:=S.up (t:=1) (k:=k) (y:=λi=>aO (aC D i) k) s λi p=>by
   have:=congrArg (λr=>aO r k) (g i p);rw[iD b d _ k dead.length (qm _)]at this;rw[this,Gf.one_mul]
  refine⟨λe j=>?_,λr f=>?_⟩
  .have h3:=m.1 e j;unfold Sat at h3⊢;rw[<-h3];refine kS λc a=>?_;have o:=(S.eqs e j).cZ c a;unfold at_;rw[(KQ S d b (show c.toNat<n by omega)).2 k,show((c.toNat:Nat):Int)=c by omega]
  .rw[<-m.2 r f];exact gx n (λ_ _=>rfl) λc a=>(KQ S d b a).2 k
theorem iq.RF(S:iq n w l ahead known vals dead left W M){X:aN}(q:fW n w (dO n l ahead) (iT w l ahead) X):fW dead.length w (dL n dead.length (be known vals l) W left ahead) (fX n w (be known vals l) M left ahead) (dead.map λc=>aC X c.toNat):=by
 obtain⟨u,p,m⟩:=(CM S.eqs).1 q;obtain⟨s,o⟩:=pR S;have e:aV w (dead.map λc=>aC X c.toNat):=λr d=>by
  obtain⟨c,g,rfl⟩:=qo.1 d;have:=S.deadR c g;exact cA p
 have a:hY (dead.map λc=>aC X c.toNat)=hY dead:=i6
 refine⟨a,e,λi h=>fh (n:=w) (iX e a _ _ (qm _)) (cA o (by rw[<-AH (n:=n) (w:=w)];exact h)) λk b=>?_⟩;rw[iD e a _ k dead.length (qm _)];have h3:=(S.down (t:=1) (x:=at_ X k) b (m k b).1 (λr d=>by
  have:=(m k b).2 r d;rw[<-this];exact gx n (λ_ _=>rfl) λc g=>by unfold at_;rw[qj])).2 i h
 rw[Gf.one_mul]at h3;rw[<-h3];refine gx _ (λ_ _=>rfl) λj f=>?_;unfold at_;rw[bv m6,qd,qc f];simp
end
def iR(known:List Bool)(i:Nat):cg:=((qx i).filter λc=>known.getD c eH).map λc:Nat=>[(c:Int)]
theorem KR(known:List Bool)(i:Nat):iR known (i+1)=iR known i++if known.getD i eH then[[(i:Int)]]else[]:=by unfold iR;rw[zJ,List.filter_append,qN];cases h:known.getD i eH<;>simp only[zr,h,List.filter_nil]<;>rfl
theorem DD(known:List Bool)(i:Nat):hY (iR known i)<=i:=by unfold iR;rw[qu];exact qQ (qU _ _) i6
def rowsOf(R:List fL)(known:List Bool)(n:Nat):cg:=R.map qE++iR known n
def ig(R:List fL)(known:List Bool)(n:Nat):Pl:=eV n (rowsOf R known n)
def nL(R:List fL)(known:List Bool)(n:Nat):List (Int×Int):=(ig R known n).steps.filter λx=>decide (x.1<hY R)
def leftOf(R:List fL)(known:List Bool)(n:Nat):az:=(gf (ig R known n).used (rowsOf R known n).length).filter λx=>decide (x<hY R)
theorem AI{known:List Bool}{n:Nat}{r:az}(h:r∈iR known n):∃c:Nat,r=[(c:Int)]/\c<n/\known.getD c eH=ez:=by obtain⟨c,a,rfl⟩:=qo.1 h;rw[qD,qz]at a;exact⟨c,hZ,a.1,a.2⟩
theorem EI{rows:cg}:∀{d:List (Int×Int)} {D U:Int->Prop},sQ rows D U d->∀i c,(i,c)∈d->(0<=i/\i<hY rows)/\c∈rows.getD i.toNat []
 |[],_,_,_,_,_,h=>j8
 |(i',c')::t,D,U,hg,i,c,h=>by
  obtain⟨e,_,_,g,_,f⟩:=hg;rcases qT.1 h with h|h
  .injection h with a b;subst a;subst b;exact⟨e,g⟩
  .exact EI f i c h
section
variable {n w:Nat} {l:List fL} {ahead:aN} {known:List Bool} {vals:aN}
theorem uu(g:∀e∈be known vals l,jl n w e):∀r∈rowsOf (be known vals l) known n,∀c∈r,0<=c/\c<(n:Int):=λr a c b=>by
 rcases qt.1 a with a|a
 .obtain⟨e,f,rfl⟩:=qo.1 a;exact(g e f).cZ c b
 .obtain⟨d,rfl,h,_⟩:=AI a;rw[qp]at b;subst b;omega
theorem LZ(m:∀e∈l,jl n w e)(f:kr n w l known vals):sS ((be known vals l).map qE) (·∈(ig (be known vals l) known n).dead) (nL (be known vals l) known n):=by
 have k:=ph f m;obtain⟨_,_,_,_,_,g⟩:=uR (uu k);have:=Bi (R:=(be known vals l).map qE) (S:=iR known n) (K:=λc=>kn known c=ez) (λr b c a=>?_) (λr b c a=>?_) g (D':=(·∈(ig (be known vals l) known n).dead)) λc _=>Iff.rfl
 .rw[qu]at this;exact this
 .obtain⟨e,h,rfl⟩:=qo.1 b;obtain⟨o,j,rfl⟩:=qo.1 (qD.1 h).1;rw[EC f o c a];simp
 .obtain⟨d,rfl,_,i⟩:=AI b;rw[qp]at a;subst a;unfold kn;rw[qj];exact i
theorem Jc(o:∀e∈l,jl n w e)(k:kr n w l known vals):
  (∀c∈(ig (be known vals l) known n).dead,0<=c/\c<(n:Int))/\(ig (be known vals l) known n).dead.Nodup/\(∀c∈(ig (be known vals l) known n).dead,kn known c=eH)/\
  (∀i∈leftOf (be known vals l) known n,0<=i/\i<(hY (be known vals l):Int))/\(ig (be known vals l) known n).dead.length<=n:=by
 have m:=ph k o;obtain⟨p,q,a3,a4,a5,g⟩:=uR (uu m);refine⟨a3,a4,λc h=>?_,λi a=>?_,by unfold ig;omega⟩
 .have b:=a3 c h;cases hk:kn known c with
  |false=>rfl
  |true=>
   exfalso;have f:[c]∈rowsOf (be known vals l) known n:=qt.2 (.inr (qo.2 ⟨c.toNat,qD.2 ⟨qz.2 ii,hk⟩,by rw[show((c.toNat:Nat):Int)=c by omega]⟩));exact CI f n (qg n ez) (qg _ eH) (λi a=>by rw[EF]at a;cases a) (λd r f=>by have:=a3 d f;omega) b.1 h
 .unfold leftOf at a;rw[qD]at a;have:=a5 i a.1;have j:i<(hY (be known vals l):Int):=by simpa using a.2
  exact⟨this.1,j⟩
theorem abS(s:∀e∈l,jl n w e)(p:kr n w l known vals){c:Int}(u:0<=c)(t:c<(n:Int))(f:kn known c=eH):c∈(ig (be known vals l) known n).dead∨∃i,(i,c)∈nL (be known vals l) known n:=by
 have h:=ph p s;obtain⟨_,_,_,_,_,g⟩:=uR (uu h);have a:=EH (uu h) n (qg n ez) (qg (rowsOf (be known vals l) known n).length eH) i6 i6 c.toNat (by rw[qd,qc i5];simp);rw[show((c.toNat:Nat):Int)=c by omega]at a;rcases a with a|⟨i,a⟩
 .exact .inl a
 .refine .inr ⟨i,qD.2 ⟨a,?_⟩⟩;obtain⟨k,j⟩:=EI g i c a;by_cases m:i<(hY (be known vals l):Int)
  .simpa using m
  .exfalso;have o:=k.2;rw[rowsOf,qw,qu]at o;have q:(rowsOf (be known vals l) known n).getD i.toNat []∈iR known n:=by rw[rowsOf,qd,qi m8,qc m8];exact qf _
   obtain⟨d,r,_,b⟩:=AI q;rw[r,qp]at j;subst j;unfold kn at f;rw[qj,b]at f;cases f
def NH(n w:Nat)(known:List Bool)(vals:aN)(R:List fL):aN×aN:=
 iU (ig R known n).dead.length known vals ((nL R known n).foldl (iG R (ig R known n).dead.length) (gz n (ig R known n).dead.length w (ig R known n).dead))
theorem abT{nd:Nat}{s:aN×aN}{c:Int}(d:0<=c)(a:c.toNat<hY s.1)(b:c.toNat<hY s.2):
  aC (iU nd known vals s).1 c.toNat=(if kn known c then aK nd else aC s.1 c.toNat)/\aC (iU nd known vals s).2 c.toNat=if kn known c then aC vals c.toNat else aC s.2 c.toNat:=by
 unfold iU kn;exact⟨CK a,CK b⟩
theorem abU(L:∀e∈l,jl n w e)(hA:aV n ahead)(v:kr n w l known vals)(W:kT known vals l=eH):
  iq n w l ahead known vals (ig (be known vals l) known n).dead (leftOf (be known vals l) known n) (NH n w known vals (be known vals l)).1 (NH n w known vals (be known vals l)).2:=by
 have J:=ph v L;have X:=LZ L v;have a:=λc h0 f o=>abS (c:=c) L v h0 f o;obtain⟨B,O,M,f4,f5⟩:=Jc L v;have b:∀j:Nat,j<hY (be known vals l)->(∃c,((j:Int),c)∈nL (be known vals l) known n)∨(j:Int)∈leftOf (be known vals l) known n:=λj Q=>by
  cases hu:(ig (be known vals l) known n).used.getD j eH with
  |true=>
   rcases EG n (qg n ez) (qg _ eH) j hu with h|⟨c,h⟩
   .rw[EF]at h;cases h
   .exact .inl ⟨c,qD.2 ⟨h,i5⟩⟩
  |false=>exact .inr (qD.2 ⟨(CH _ _ _).2 ⟨j,hZ,by rw[rowsOf,qw,qu];omega,hu⟩,i5⟩)
 have s:∀e∈be known vals l,∀c∈e.1,kn known c=eH:=λe z c P=>by
  obtain⟨e0,ad,rfl⟩:=qo.1 (qD.1 z).1;exact EC v e0 c P
 unfold NH;obtain⟨R,m⟩:=x6 (be known vals l)
 rw[<-m]at J X B O M f4 f5 b a s⊢;obtain⟨D,V⟩:=x6 ((ig R known n).dead)
 obtain⟨ST,q⟩:=x6 (nL R known n)
 rw[<-V,<-q]at X a;rw[<-q]at b;rw[<-V]at B O M f5;rw[<-V,<-q];obtain⟨Z,du⟩:=KP (nd:=hY D) (w:=w) B O D.length (qm _);rw[List.take_length]at Z du;obtain⟨u,keep,S,G⟩:=HJ J X Z;generalize ab:ST.foldl (iG R D.length) (gz n D.length w D)=S0 at*;have U:=u.wl;have T:=u.ml;have fr:∀c:Int,0<=c->c<(n:Int)->aC (iU D.length known vals S0).1 c.toNat=(if kn known c then aK D.length else aC S0.1 c.toNat)/\aC (iU D.length known vals S0).2 c.toNat=if kn known c then aC vals c.toNat else aC S0.2 c.toNat:=λc h0 f=>abT h0 ii ii
 have A:∀t k y (c:Int),0<=c->c<(n:Int)->kn known c=eH->ev t k D.length (iU D.length known vals S0).1 (iU D.length known vals S0).2 y c=ev t k D.length S0.1 S0.2 y c:=λt k y c h0 f o=>by
  have:=fr c h0 f;rw[o]at this;exact CJ this.1 this.2
 have E:∀t k y (c:Int),0<=c->c<(n:Int)->kn known c=ez->ev t k D.length (iU D.length known vals S0).1 (iU D.length known vals S0).2 y c=Gf.mul t (aO (aC vals c.toNat) k):=λt k y c h0 f o=>by
  have:=fr c h0 f;rw[o,f8 rfl,f8 rfl]at this;unfold ev;rw[this.1,this.2,gp _ _ D.length λj _=>cB _ _,wG]
 have F:∀t k y i,(h:i<hY D)->ev t k D.length (gz n D.length w D).1 (gz n D.length w D).2 y D[i]=y i:=λt k y i h=>by
  have:=du i h h;unfold ev;rw[this.1,this.2,abR h,cB,Gf.mul_zero,wh]
 have H:∀i:Int,0<=i->i<(hY R:Int)->R.getD i.toNat ([],[])∈R:=λi h0 f=>by
  rw[qd,qc ii];exact qf _
 refine⟨L,hA,v,W,B,O,M,⟨by simp[iU,U],by simp[iU,T],λc P=>?_⟩,E,λt k y i h=>?_,λt k y o I e z=>?_,by rw[<-m];exact f4,λt k x o hx I c h0 f=>?_⟩
 .have h:=fr (c:Int) ii ii;rw[qj]at h;rw[h.1,h.2];cases o:kn known (c:Int)with
  |true=>
   rw[f8 hZ,f8 rfl];refine⟨k8,?_⟩;have:=v.EB (c:=(c:Int)) ii ii o
   rwa [qj]at this
  |false=>
   rw[f9 i6,f9 i6];have:=u.rw_ (c:Int) (a _ ii ii o) ii ii
   rwa [qj]at this
 .have N:=B _ (qf h);rw[A t k y _ N.1 N.2 (M _ (qf h)),<-F t k y i h];exact CJ (keep _ (qf h) N.1).1 (keep _ (qf h) N.1).2
 .rw[<-m]at z I;obtain⟨j,Q,rfl⟩:=qB z;have Y:R.getD ((j:Int)).toNat ([],[])=R[j]:=by rw[qj,qd,qc Q];rfl
  rcases b j Q with⟨c,P⟩|hlf
  .have:=S _ P t k y o;dsimp only at this;rw[Y]at this;unfold Sat at this⊢;rw[<-this];exact kS λd K=>A t k y d ((J _ z).cZ d K).1 ((J _ z).cZ d K).2 (s _ z d K)
  .have:=I _ hlf
   rwa [Y]at this
 .rw[<-m]at I;cases hkc:kn known c with
  |true=>rw[hx c h0 f hkc,E _ _ _ c h0 f hkc]
  |false=>
   rw[A _ _ _ c h0 f hkc];refine G t k x _ o (λd K h2 h3=>?_) (λp hp=>?_) c (a c h0 f hkc) h0 f
   .obtain⟨i,hi,rfl⟩:=qB K;rw[F t k _ i hi,qd,qc hi];rfl
   .have r:p∈nL R known n:=q▸hp;unfold nL at r;rw[qD]at r;have h2:p.1<(hY R:Int):=by simpa using r.2
    have h3:0<=p.1:=by obtain⟨_,_,_,_,_,g⟩:=uR (rows:=rowsOf R known n) (n:=n) (by rw[m];exact uu (m▸J));exact(EI g p.1 p.2 r.1).1.1
    exact I _ (H _ h3 h2)
end
def uc(n:Nat)(seed:Int)(l:List (Int×Row)):List fL:=l.map λx=>(dz n seed x.1,x.2)
def rO(p:Int×Int×Int)(l:List (Int×Row)):aN:=qg p.2.1.toNat (aK p.2.2.toNat)++l.map zi
structure AJ (p:Int×Int×Int) (x:Int×Row):Prop where
 id:bW x.1=ez
 len:hY x.2=p.2.2.toNat
theorem afp{n:Nat}(c:1<=n)(d:n<=20)(seed id:Int):(dz n seed id).Pairwise (·<·):=by have a:=Rx n seed id;have b:=Cv c d seed id;rw[List.Nodup]at b;exact(a.and b).imp λ⟨c,d⟩=>ii
section
variable {p:Int×Int×Int} {seed:Int} {l:List (Int×Row)} {n w:Nat}
theorem ahj(a:1<=n)(b:n<=20)(i:∀x∈l,AJ p x)(h:p.2.2.toNat=w):∀e∈uc n seed l,jl n w e/\e.1.Pairwise (·<·):=λe f=>by
 obtain⟨x,g,rfl⟩:=qo.1 f;exact⟨⟨λc d=>nf a b d,Cv a b seed x.1,by rw[<-h];exact(i x g).len⟩,afp a b seed x.1⟩
theorem Vx(a:bK p=ez)(c:(bG p).toNat=n)(d:∀x∈l,AJ p x):dO n (uc n seed l) (bz p.1.toNat p.2.1.toNat)=dU p seed (l.map qE):=by
 unfold dO dU uc;rw[f8 a,c];have:(l.map qE).filter bW=l.map qE:=wJ.2 λi e=>by
  obtain⟨x,b,rfl⟩:=qo.1 e;exact(d x b).id
 rw[this,wN,wN];rfl
theorem Vy(a:p.2.2.toNat=w):iT w (uc n seed l) (bz p.1.toNat p.2.1.toNat)=rO p l:=by unfold iT rO uc;rw[a,wN];simp[bz]
end
section
variable {n w:Nat} {l:List fL} {ahead:aN} {known:List Bool} {vals:aN} {dead left:az} {W M:aN}
theorem Yp(c:∀e∈l,jl n w e)(j:aV n ahead)(i:kr n w l known vals)(a:kT known vals l=ez)(g:bZ (dO n l ahead)=n):¬lE n (dO n l ahead) (iT w l ahead):=λd=>by
 obtain⟨k,f,b⟩:=Vu i c a;have h:=pM ut (AF j) (AG c) g d;exact b _ (((CM c).1 h).2.2 k f).1
theorem iq.TM(S:iq n w l ahead known vals dead left W M)(a:bZ (dO n l ahead)=n){D:aN}(b:fW dead.length w (dL n dead.length (be known vals l) W left ahead) (fX n w (be known vals l) M left ahead) D):
  lE n (dO n l ahead) (iT w l ahead)/\uS dead.length known vals W M D=gF n (dO n l ahead) (iT w l ahead):=by
 have h:=mj ut (AF S.ahd) (AG S.eqs) a (S.Vw b);exact⟨h.2,h.1⟩
theorem iq.TN(S:iq n w l ahead known vals dead left W M)(b:bZ (dO n l ahead)=n)(a:lE n (dO n l ahead) (iT w l ahead)):fW dead.length w (dL n dead.length (be known vals l) W left ahead) (fX n w (be known vals l) M left ahead) (dead.map λc=>aC (gF n (dO n l ahead) (iT w l ahead)) c.toNat):=
 S.RF (pM ut (AF S.ahd) (AG S.eqs) b a)
theorem iq.Vz(S:iq n w l ahead known vals dead left W M)(f:1<=w)(c:bZ (dO n l ahead)=n):lE dead.length (dL n dead.length (be known vals l) W left ahead) (fX n w (be known vals l) M left ahead)↔lE n (dO n l ahead) (iT w l ahead):=by obtain⟨e,d⟩:=pR S;have a:=S.KL f c;exact⟨λb=>(S.TM c (pM AH e d a b)).1,λb=>(mj AH e d a (S.TN c b)).2⟩
theorem Jd{a b:aN}(h:hY a=hY b):fW 0 w a b []↔∀r∈b,r=aK w:=by
 unfold fW;constructor
 .rintro⟨_,_,h3⟩ r c;obtain⟨i,e,rfl⟩:=fC c;exact(h3 i ii).symm
 .intro d;refine⟨hZ,λr c=>(by cases c),λi e=>?_⟩;have:aC b i∈b:=mem_row;rw[d _ this];rfl
theorem afq(c:∀e∈l,e.1.Pairwise (·<·)):∀e∈be known vals l,e.1.Pairwise (·<·):=λe b=>by
 obtain⟨d,a,rfl⟩:=qo.1 (qD.1 b).1;exact(c d a).filter _
theorem Yq:hY (be known vals l)<=hY l:=by unfold be;refine qQ (qU _ _) ?_;simp
theorem Yr{m:Nat}(c:∀e∈l,hY e.1<=m):∀e∈be known vals l,hY e.1<=m:=λe b=>by
 obtain⟨d,a,rfl⟩:=qo.1 (qD.1 b).1;exact qQ (qU _ _) (c d a)
end
end
variable {t t2 e k:Nat} {z:aT} {by_:Nat} {α:Type} {h h0:Heap} {p q B:av} {s v:Sl} {f:α->aT} {l l2:List α} {As:List HP}
section
variable {C:Ctx}
end
section
variable {C:Ctx}
theorem VA(c:C.Ok)(b:bL C.toBH t e k z by_)(n:Nat){x y:Int}(i:x=n)(m:y=n)(o:n<=s.cap){K:Sl->Heap->Prop}(g:K ⟨s.ptr,n,n⟩ h):
  bx C.P (w5 t (.slice s.ptr s.len s.cap) et (dB (xJ xP x)) (dB (xJ xP y))) (.one (.sc .slc)) h K:=by
 subst i;subst m;have j:aI C.P (wo ez s.len s.cap et (dB (xJ xP (n:Int))) (dB (xJ xP (n:Int)))) (0,n,n):=λw=>by
  have f:¬((n:Int)<0):=ii
  have x2:¬((s.cap:Int)<(n:Int)):=ii
  have x3:(n:Int)<=(s.cap:Int):=ii
  have d:(0:Int)<=(n:Int):=ii
  simp[wo,Instr.sliceBound,asIntOf,f,x2,x3,d]
 unfold bx w5;refine au.bind (au.always (aF (b.under c)) ?_);show au C.P (xn t (.slice s.ptr s.len s.cap) et (dB (xJ xP (n:Int))) (dB (xJ xP (n:Int)))) h _;unfold xn;refine au.bind (au.always (aF (b.under c)) ?_);refine au.bind (au.always j ?_);refine au.bind (au.always (b.size c) ?_);have l:(if n=0 then s.ptr else s.ptr.map (·.add (0*k)))=s.ptr:=by
  split
  .rfl
  .cases s.ptr with
   |none=>rfl
   |some a=>simp[Addr.add]
 refine au.pure' ⟨⟨s.ptr,n,n⟩,?_,g⟩;show Value.slice (if n=0 then s.ptr else s.ptr.map (·.add (0*k))) (n-0) (n-0)=_;rw[l];rfl
end
namespace Gf
def pl(a b:Nat):Nat->Nat
 |0=>0
 |i+1=>if b/2^i%2=1 then pl a b i^^^(a*2^i)else pl a b i
def rd(p:Nat):Nat->Nat
 |0=>p
 |i+1=>if rd p i/2^(15-i)%2=1 then rd p i^^^(283*2^(7-i))else rd p i
end Gf
abbrev Bl:=Int×Sl×Sl×Int×Int×Int×Sl×Int
abbrev gA(y:Bl):aT:=[xJ xP y.1,.slice y.2.1.ptr y.2.1.len y.2.1.cap,.slice y.2.2.1.ptr y.2.2.1.len y.2.2.1.cap,xJ xP y.2.2.2.1,xJ xP y.2.2.2.2.1,xJ xP y.2.2.2.2.2.1,.slice y.2.2.2.2.2.2.1.ptr y.2.2.2.2.2.2.1.len y.2.2.2.2.2.2.1.cap,xJ xP y.2.2.2.2.2.2.2]
abbrev mR(y:Bl):eR:=.agg (gA y).toArray
abbrev ck:Sl:=⟨et,0,0⟩
abbrev dw(e:Int):Bl:=(e,ck,ck,0,0,0,ck,0)
abbrev mvL(k:Int):aT:=[xJ xP k,.string (⟨#[]⟩:ByteArray),.slice et 0 0,xJ xP 0,xJ xP 0,xJ xP 0,xJ xR 0,.slice et 0 0,.slice et 0 0]
abbrev mvz(k:Int):eR:=.agg (mvL k).toArray
abbrev mvt(k:Int):Int×ByteArray×Sl×Int×Int×Int×Int×Sl×Sl:=(k,(⟨#[]⟩:ByteArray),ck,0,0,0,0,ck,ck)
variable {B:av} {α:Type} {h0 h:Heap} {As:List HP} {e t t2 k by_:Nat} {s:Sl} {f:α->aT} {d:List α} {z:aT}
section
variable {C:Ctx}
theorem Own.KS(q:C.Ok)(D:bL C.toBH t e k z by_)(H:∃i r,C.T.get t2=dB i/\i.cD=.slice r)(l:∀x,hY (f x)=k)
  (n:Own h e s k f d) (g:∀x,∀c∈f x,c.oneCell'=ez) (i:Nat) (M:i<hY d) {ty:Nat} {K:Sl->Heap->Prop}
  (O:∀h',Own h' e s k f ((d.take i++d.drop (i+1))++d.drop (hY d-1))->aS (λb=>¬s.on b) h h'->K ⟨s.ptr,hY d-1,s.cap⟩ h'):
  bx C.P (zA #[t,t2] ty #[.slice s.ptr i s.cap,.slice (if s.cap=i+1 then s.ptr else s.ptr.map (·.add ((i+1)*k))) (s.len-(i+1)) (s.cap-(i+1))]) (.one (.sc .slc)) h K:=by
 obtain⟨Q,r,G,N⟩:=H;have w:C.P.underlying t2=dB (.slice r):=by have:=q.cD G;rw[N]at this;exact jV this
 have E:=n.len;have j:=n.cap;have B:Seq h (λ_=>True) ⟨if s.cap=i+1 then s.ptr else s.ptr.map (·.add ((i+1)*k)),s.len-(i+1),s.cap-(i+1)⟩ k f (d.drop (i+1)):=Seq.drop (n.seq l λ_ _=>trivial) (i+1) j;obtain⟨v,a⟩:∃v:Sl,v=⟨if s.cap=i+1 then s.ptr else s.ptr.map (·.add ((i+1)*k)),s.len-(i+1),s.cap-(i+1)⟩:=⟨_,rfl⟩
 rw[<-a]at B;have I:(Value.slice (if s.cap=i+1 then s.ptr else s.ptr.map (·.add ((i+1)*k))) (s.len-(i+1)) (s.cap-(i+1)))=.slice v.ptr v.len v.cap:=by rw[a]
 have L:v.len=s.len-(i+1):=by rw[a]
 rw[I];unfold bx zA;simp only[zV,List.getElem?_cons_zero,List.getElem?_cons_succ];refine au.bind (au.always (aF (D.under q)) ?_);refine au.bind (au.always (D.size q) ?_);refine au.bind (au.always (aF w) ?_);refine au.bind (au.pure' ?_);simp only[zh,if_false,yi,if_true];refine au.bind (au.pure' ?_);have m:i+v.len<=s.cap:=ii
 rw[f8 m];refine au.bind (gw l B ?_);rcases n.head with⟨p1,p2,p3⟩|⟨b,rest,p1,p2,p3,p4⟩
 .subst p3;simp at M
 .rw[p1];refine au.bind ?_;rw[add_eq,zY];have A:d=d.take i++((d.drop i).take (hY d-1-i)++d.drop (hY d-1)):=by
   have F:(d.drop i).drop (hY d-1-i)=d.drop (hY d-1):=by rw[List.drop_drop];congr 1;omega
   rw[<-F,qC,qC]
  have y:((d.drop i).take (hY d-1-i)).length=hY d-1-i:=i5
  have p:hY (d.drop (i+1))=hY d-1-i:=i5
  refine fc (e:=e) (pre:=(d.take i).flatMap f) (old:=((d.drop i).take (hY d-1-i)).flatMap f) (post:=(d.drop (hY d-1)).flatMap f++rest) ?_ ?_ ?_ ?_ ?_
  .have:(d.take i).flatMap f++((d.drop i).take (hY d-1-i)).flatMap f++((d.drop (hY d-1)).flatMap f++rest)=d.flatMap f++rest:=by
    conv=>rhs;rw[A]
    simp only[q9,qn]
   rw[this];exact p2
  .rw[dm l,dm l,y,p]
  .rw[dm l,qR,Nat.min_eq_left ii];omega
  .intro c J;obtain⟨x,_,u⟩:=zI.1 J;exact g x c u
  .have o:i+v.len=hY d-1:=ii
   rw[o];refine au.pure' ⟨⟨dB ⟨b,0,et⟩,hY d-1,s.cap⟩,hZ,?_⟩;rw[<-p1];refine O _ ⟨?_,.inr ⟨b,rest,p1,?_,p3,p4⟩⟩ ?_
   .simp;omega
   .rw[iA p2,f8 rfl];simp[q9]
   .exact aS.jD p2 (λo=>o ⟨0,p1⟩)
theorem aa.KS(r:C.Ok)(H:aa B h0 h As)(j:Nat)(m:As[j]?=dB (an e s k f d))(w:bL C.toBH t e k z by_)(o:∃i v,C.T.get t2=dB i/\i.cD=.slice v)(u:∀x,hY (f x)=k)
  (a:∀x,∀c∈f x,c.oneCell'=ez) (i:Nat) (p:i<hY d) {ty:Nat} {K:Sl->Heap->Prop}
  (A:∀h',aa B h0 h' (As.set j (an e s k f ((d.take i++d.drop (i+1))++d.drop (hY d-1))))->K ⟨s.ptr,hY d-1,s.cap⟩ h'):
  bx C.P (zA #[t,t2] ty #[.slice s.ptr i s.cap,.slice (if s.cap=i+1 then s.ptr else s.ptr.map (·.add ((i+1)*k))) (s.len-(i+1)) (s.cap-(i+1))]) (.one (.sc .slc)) h K:=
 (H.own j m).KS r w o u a i p λh' x y=>A h' (H.step j m λq n _=>⟨y.mono λb _ g l=>g (n.2 b l),x,λb g=>⟨x.lt g,.inl (n.2 b g)⟩⟩)
end
variable {P:Program}
structure ajE (P:Program) (t it:TypeId):Prop where
 u:∃f0 f1 f2:Field,P.underlying t=dB (.struct #[f0,f1,f2])/\f0.name≠ "_" /\f1.name≠ "_" /\f2.name≠ "_" /\f0.type=it/\f1.type=it/\f2.type=it/\f0.offset=0/\f1.offset=1/\f2.offset=2
 st:P.stoodInHeld t=eH
 i:P.underlying it=dB (.int .i64)
 a:aI P (isAgg it) eH
abbrev k3v(x:Int×Int×Int):eR:=.agg #[xJ xP x.1,xJ xP x.2.1,xJ xP x.2.2]
structure ajF (h:Heap) (r:Nat) (ks:List (Int×Int×Int)):Prop where
 ex:∃es clock,h[r]?=dB (.map es clock)/\es.toList.map (λe=>(e.key,e.val))=ks.map (λk=>(k3v k,Value.bool ez))
theorem Ys(a b:ByteArray):(a==b)=decide (a=b):=by
 cases a with
 |mk a=>
  cases b with
  |mk b=>
   have h:((ByteArray.mk a)==(ByteArray.mk b))=(a==b):=rfl;rw[h,Bool.eq_iff_iff,beq_iff_eq,decide_eq_true_eq,ByteArray.mk.injEq]
theorem TO(a:ByteArray):(a==a)=ez:=by rw[Ys,g0 rfl]
theorem adV{a b:ByteArray}(h:a≠b):(a==b)=eH:=by rw[Ys,g9 h]
section
def AK(x:ByteArray)(v:α):List (ByteArray×α)->List (ByteArray×α)
 |[]=>[(x,v)]
 |(k,u)::t=>if k=x then(k,v)::t else(k,u)::AK x v t
def kA(x:ByteArray):List (ByteArray×α)->Option α
 |[]=>et
 |(k,u)::t=>if k=x then dB u else kA x t
def NI(x:ByteArray):List (ByteArray×α)->List (ByteArray×α)
 |[]=>[]
 |(k,u)::t=>if k=x then t else(k,u)::NI x t
theorem Je{x:ByteArray}:∀{l:List (ByteArray×α)},kA x l=et↔∀p∈l,p.1≠x
 |[]=>by simp[kA]
 |(k,u)::t=>by
  unfold kA;have a:=Je (x:=x) (l:=t);by_cases h:k=x
  .rw[f8 h];simp[h]
  .rw[f9 h,a];simp[h]
theorem EJ{x:ByteArray}(v:α):∀{l:List (ByteArray×α)},kA x l=et->AK x v l=l++[(x,v)]
 |[],_=>rfl
 |(k,u)::t,h=>by
  unfold kA at h;split at h
  .cases h
  .rename_i a;unfold AK;rw[f9 a,EJ v h];rfl
structure rP (h:Heap) (r:Nat) (g:α->eR) (kvs:List (ByteArray×α)):Prop where
 ex:∃es clock,h[r]?=dB (.map es clock)/\es.toList.map (λe=>(e.key,e.val))=kvs.map (λp=>(Value.string p.1,g p.2))
variable {P:Program} {h h':Heap} {r:Nat} {g:α->eR} {kvs:List (ByteArray×α)}
theorem rP.ac{p:av}(e:rP h r g kvs)(d:aS p h h')(f:p r):rP h' r g kvs:=by obtain⟨c,a,b,i⟩:=e.ex;exact⟨c,a,d.block f b,i⟩
theorem rP.lt(c:rP h r g kvs):r<h.size:=by obtain⟨d,a,b,e⟩:=c.ex;exact lt_of_block b
theorem CN{x:ByteArray}:∀{L:List MapEntry} {kvs:List (ByteArray×α)} {n:Nat},L.map (λe=>(e.key,e.val))=kvs.map (λp=>(Value.string p.1,g p.2))->kA x kvs=et->
  xk .string (.string x) L n=dB et
 |[],_,_,_,_=>rfl
 |e::L,[],_,h,_=>l6
 |e::L,(k,u)::t,n,h,hg=>by
  simp only[zR,List.cons.injEq,Prod.mk.injEq]at h;obtain⟨⟨b,c⟩,h3⟩:=h;unfold kA at hg;split at hg
  .cases hg
  .rename_i a;have:(x==k)=eH:=adV λe=>a e.symm;simp only[xk,Instr.sameNow,b,this];exact CN h3 hg
theorem CO{x:ByteArray}{u:α}:∀{L:List MapEntry} {kvs:List (ByteArray×α)} {n:Nat},L.map (λe=>(e.key,e.val))=kvs.map (λp=>(Value.string p.1,g p.2))->kA x kvs=dB u->
  ∃j e,xk .string (.string x) L n=dB (dB (n+j,g u))/\L[j]?=dB e/\e.key=.string x/\
   (∀(v:α) (f:MapEntry->MapEntry),(∀e,e.key=Value.string x->((f e).key,(f e).val)=(Value.string x,g v))->(L.modify j f).map (λe=>(e.key,e.val))=(AK x v kvs).map λp=>(Value.string p.1,g p.2))/\
   (L.eraseIdx j).map (λe=>(e.key,e.val))=(NI x kvs).map (λp=>(Value.string p.1,g p.2))
 |[],[],_,_,hg=>by cases hg
 |e::L,[],_,h,_=>l6
 |[],_::_,_,h,_=>l6
 |e::L,(k,w)::t,n,h,hg=>by
  simp only[zR,List.cons.injEq,Prod.mk.injEq]at h;obtain⟨⟨a,d⟩,h3⟩:=h;unfold kA at hg;by_cases b:k=x
  .subst b;rw[f8 rfl]at hg;cases hg;refine⟨0,e,?_,hZ,a,λv f c=>?_,?_⟩
   .simp only[xk,Instr.sameNow,a,TO,d,wE]
   .simp only[AK,if_true,List.modify_zero_cons,zR,h3,c e a]
   .simp only[NI,if_true,List.eraseIdx_cons_zero,h3]
  .rw[f9 b]at hg;obtain⟨j,l,i,o,r,m,q⟩:=CO (n:=n+1) h3 hg;refine⟨j+1,l,?_,o,r,λv f c=>?_,?_⟩
   .have:(x==k)=eH:=adV λe=>b e.symm;simp only[xk,Instr.sameNow,a,this];rw[i];congr 3;omega
   .simp only[AK,b,if_false,List.modify_succ_cons,zR,m v f c,a,d]
   .simp only[NI,b,if_false,List.eraseIdx_cons_succ,zR,q,a,d]
theorem EK{a:TypeId}{x:ByteArray}{b:Bool}(c:P.underlying a=dB .string)(n:Nat):aI P (Instr.checkKey b (n+1) a (.string x)) ():=by unfold Instr.checkKey;exact(aF c).bind .pure
theorem Pn{t:Nat}{K:Option Nat->Heap->Prop}(g:α->eR)(a:∀r h',r=h.size->rP h' r g []->aS (λ_=>True) h h'->K (dB r) h'):
  bx P (xj t et) (.one (.sc .mp)) h K:=by
 unfold bx xj;refine au.bind (au.oV (au.pure' ⟨dB h.size,hZ,a _ _ hZ ⟨#[],0,i6,hZ⟩ (aS.push _ _ _)⟩))
theorem rP.lookup{t i k:Nat}{u0:α}{x:ByteArray}(q:rP h r g kvs)(o:P.underlying t=dB (.map i k))(a:P.underlying i=dB .string)(p:aI P (zeroValue k) (g u0))
  {rt:Rt} {K:rt.den->Heap->Prop} (b:∃d:rt.den,g ((kA x kvs).getD u0)=rt.enc d/\K d h):
  bx P (xF t (.map (dB r)) (.string x) eH) rt h K:=by
 obtain⟨s,c,l,f⟩:=q.ex;unfold bx xF;refine au.bind (au.always (aF o) ?_);refine au.bind (au.Tr l (λ_ _ _ h=>j8) ?_);refine au.bind (au.pure' ?_);refine au.bind (au.always (EK a 9999) ?_);unfold Instr.findKey;refine au.bind (au.bind (au.always (aF a) ?_));cases hg:kA x kvs with
 |none=>
  rw[CN f hg];refine au.pure' ?_;refine au.bind (au.always p ?_);refine au.bind (au.pure' (au.pure' ?_));rw[hg]at b;exact b
 |some u=>
  obtain⟨j,e,m,_⟩:=CO (x:=x) (n:=0) f hg;rw[m];refine au.pure' ?_;refine au.bind (au.pure' (au.pure' ?_));rw[hg]at b;exact b
theorem rP.update{t i q:Nat}{x:ByteArray}(v:α)(D:rP h r g kvs)(p:P.underlying t=dB (.map i q))(b:P.underlying i=dB .string)
  {K:Unit->Heap->Prop} (k:∀h',rP h' r g (AK x v kvs)->aS (·≠r) h h'->h'.size=h.size->K () h'):
  au P (yZ t (.map (dB r)) (.string x) (g v)) h K:=by
 obtain⟨m,d,a,c⟩:=D.ex;have f:=lt_of_block a;unfold yZ;refine au.bind (au.always (aF p) ?_);refine au.bind (au.Tr a (λ_ _ _ h=>j8) ?_);refine au.bind (au.always (EK b 9999) ?_);unfold Instr.findKey;refine au.bind (au.bind (au.always (aF b) ?_));have ac:∀o,aS (·≠r) h (h.setIfInBounds r o):=λo=>aS.jD a λw=>w hZ;cases hg:kA x kvs with
 |none=>
  rw[CN c hg];refine au.pure' ?_;refine au.Ts a (λ_ _ _ h=>j8) ?_;refine k _ ⟨_,_,by rw[yH,f8 hZ,f8 f],?_⟩ (ac _) i6;rw[EJ v hg];simp[c]
 |some u=>
  obtain⟨j,e,l,y,A,s,_⟩:=CO (x:=x) (n:=0) c hg;rw[l];refine au.pure' ?_;have B:m[0+j]?=dB e:=by rw[zY,<-Array.getElem?_toList];exact y
  dsimp only;rw[B];simp only[qS,Option.getD_some,A];refine au.bind ?_;unfold Instr.keyThatStays;have z:Instr.sameBits 10000 (.string x) (.string x)=ez:=by simp only[Instr.sameBits,TO]
  rw[z,f8 rfl];refine au.pure' ?_;refine au.Ts a (λ_ _ _ h=>j8) ?_;refine k _ ⟨_,_,by rw[yH,f8 hZ,f8 f],?_⟩ (ac _) i6;rw[Array.toList_modify,zY];exact s v _ λ_ _=>rfl
end
def HL{α:Type}(r:Nat)(g:α->eR)(a:List (ByteArray×α)):HP:=
 ⟨λh q=>rP h r g a/\q r,λx c=>⟨x.1.ac c x.2,x.2⟩,λx b=>⟨x.1,b _ x.2⟩⟩
variable {h':Heap} {r:Nat} {g:α->eR} {kvs:List (ByteArray×α)}
theorem aa.ahl{t:Nat}(H:aa B h0 h As)(g:α->eR){K:Option Nat->Heap->Prop}(b:∀r h',aa B h0 h' (As++[HL r g []])->K (dB r) h'):bx P (xj t et) (.one (.sc .mp)) h K:=
 Pn g λr h' d a c=>b r h' (H.comp (.one (any c) ⟨a,ii,a.lt⟩))
theorem aa.map(H:aa B h0 h As)(i:Nat)(a:As[i]?=dB (HL r g kvs)):rP h r g kvs:=(H.at i a).1
theorem aa.ahm{t d l:Nat}{x:ByteArray}(v:α)(H:aa B h0 h As)(i:Nat)(f:As[i]?=dB (HL r g kvs))(k:P.underlying t=dB (.map d l))(a:P.underlying d=dB .string)
  {K:Unit->Heap->Prop} (p:∀h',aa B h0 h' (As.set i (HL r g (AK x v kvs)))->K () h'):au P (yZ t (.map (dB r)) (.string x) (g v)) h K:=
 (H.map i f).update v k a λh' j m s=>p h' (H.step i f λq c o=>⟨m.mono λb _ n e=>n (e▸c.2),j,j.lt,.inl c.2⟩)
section
open Go.RowKit Go.ChangeShapes Go.WideShapes Go.Joins Go.Deep
section
variable {H:Type} {enc:TypeId×eR->H} {P:Program} {W W':World}
theorem abV{w a:World}(c:dh w a)(e:aS (λb=>b<w.heap.size) w.heap a.heap):Below w.heap.size w a:=
 ⟨c.os,c.tape,c.output,e.1,λk d=>e.2 k d d⟩
theorem DE(f:laidOutB P=ez)(c:Below W.heap.size W W'):∀{ts:List TypeId} {vs:aT} {ds:List (DataW H)} {ps:List MemPlace},
  (∀t∈ts,P.readableRec t=ez/\t<P.types.size)->DataW.TrodAll enc P W 0 (λ_=>ez) ez ts vs ds ps->(∀x∈ps,x.block<W.heap.size)->DataW.TrodAll enc P W' 0 (λb=>decide (b<W.heap.size)) ez ts vs ds ps
 |[],[],[],ps,_,h,_=>h
 |t::ts,v::vs,d::ds,ps,hr,⟨p,q,h1,h2,e⟩,hlt=>by
  subst e;exact⟨p,q,Below.trod f (hr t i6).1 (hr t i6).2 h1 c λx a=>hlt x m5,DE f c (λu g=>hr u oo) h2 λx a=>hlt x m5,hZ⟩
 |[],_::_,_,_,_,h,_=>h.elim
 |[],[],_::_,_,_,h,_=>h.elim
 |_::_,[],_,_,_,h,_=>h.elim
 |_::_,_::_,[],_,_,h,_=>h.elim
theorem abW{f:Func}{s:ChangeSpec}{args:Array eR}{ds:List (DataW H)}{a:List MemPlace}{rt:TypeId}(k:s.vars=[])(d:DataW.Whole enc P f.params.toList s.vars eH W args.toList ds [] a)
  (b:s.fn H (ds++[])={results:=[.lit (.bool ez)],args:=ds}) (o:laidOutB P=ez) (j:Below W.heap.size W W') (m:∀t∈f.params.toList,P.readableRec t=ez/\t<P.types.size)
  (c:f.resultTypes=#[rt]) (e:P.underlying rt=dB .bool):s.post enc P f eH ez eH eH W args (.bool ez) W':=by
 obtain⟨p,q,l,i,h3,u,r⟩:=id d;have g:=d.lt;rw[k]at i;have n:q=[]:=i;subst n;simp only[qG]at h3;subst h3;refine⟨ds,[],a,[],a,[],d,?_,?_,?_,j.frame _,λh=>j8⟩
 .rw[b,c];exact trodAll_mk1 (shut_bool e ez)
 .rw[b];exact DE o j m l g
 .rw[b,k];rfl
theorem RG(w:World)(a:Addr):w.cell? a=cellOf w.heap a:=rfl
theorem Yt{h:Heap}{a:Addr}{v:eR}(c:cellOf h a=dB v):a=⟨a.block,a.off,et⟩:=by
 obtain⟨b,o,s⟩:=a;cases s with
 |none=>rfl
 |some s=>
  unfold cellOf at c;cases hb:h[b]? with
  |none=>rw[hb]at c;cases c
  |some x=>rw[hb]at c;cases x<;>simp at c
theorem ahn{α:Type}{f:α->eR}{h:Heap}{a:Addr}{len cap:Nat}{l:List α}(k:hY l=len)(c:∀i (g:i<hY l),cellOf h (a.add i)=dB (f l[i])):Seq h (λb=>b<h.size) ⟨dB a,len,cap⟩ 1 (λx=>[f x]) l:=by refine⟨k.symm,λi x j=>?_⟩;obtain⟨g,e⟩:=List.getElem?_eq_some_iff.1 j;have h0:=c 0 ii;rw[add_zero]at h0;have d:=Yt h0;refine⟨a.block,a.off,by rw[<-d],tK h0,?_,x7⟩;have:=c i g;rw[d,add_eq]at this;rw[Nat.mul_one,add_eq,wE,this,e]
theorem CQ{t e:TypeId}{v:eR}{d:DataW H}{ps:List MemPlace}(m:P.underlying t=dB (.slice e))(r:P.underlying e=dB (.int .i64))(k:P.cellsOf e=1)
  (q:∃p n c,v=.slice p n c) (h:DataW.Trod enc P W 0 (λ_=>ez) ez t v d ps):∃(s:Sl) (l:az),v=.slice s.ptr s.len s.cap/\Seq W.heap (λb=>b<W.heap.size) s 1 aw l:=by
 obtain⟨g,j⟩:=h;obtain⟨p,n,c,rfl⟩:=q;rcases open_ints m r k j with⟨h1,_⟩|⟨a,len,cap,zs,h1,_,hle,_,hz,_,hcell,_⟩
 .simp[Value.cells]at h1;obtain⟨rfl,rfl,rfl⟩:=h1;exact⟨⟨et,0,0⟩,[],hZ,Seq.nil _ _ _ _ _ _⟩
 .simp[Value.cells]at h1;obtain⟨rfl,rfl,rfl⟩:=h1;simp only[if_true]at hz;refine⟨⟨dB a,n,c⟩,zs.take n,hZ,ahn (f:=λx=>xJ xP x) i5 λi o=>?_⟩;simp at o;rw[<-RG,hcell i ii];simp[qd,qc (show i<hY zs by omega)]
theorem oC{r:_root_.Go.Reach}{b:Nat}{t e:TypeId}{v:eR}(a:P.underlying t=dB (.slice e))(h:Value.okWide P W r b t v):∃p n c,v=.slice p n c:=by simp only[Value.okWide,a,Cell.okWide]at h;cases v<;>simp_all [Cell.ok]
theorem Po{w:World}{base:Nat}{a:Nat->Bool}{held:Bool}{t0 y G t3 t4:TypeId}{args:Array eR}{ds:List (DataW H)}{ps:List MemPlace}(h:DataW.TrodAll enc P w base a held [t0,y,G,t3,t4] args.toList ds ps):
  ∃v0 E l v3 v4 z F k n o B D i m j,args=#[v0,E,l,v3,v4]/\ds=[z,F,k,n,o]/\ps=B++D++i++m++j/\DataW.Trod enc P w base a held t0 v0 z B/\DataW.Trod enc P w base a held y E F D/\DataW.Trod enc P w base a held G l k i/\DataW.Trod enc P w base a held t3 v3 n m/\DataW.Trod enc P w base a held t4 v4 o j:=by
 obtain⟨v,vs,d,ds',p,q,x,rfl,rfl,T,g⟩:=trodAll_cons h;obtain⟨O,I,Q,A,L,q',rfl,rfl,rfl,t,b⟩:=trodAll_cons g;obtain⟨l,N,k,J,i,V,rfl,rfl,rfl,r,c⟩:=trodAll_cons b;obtain⟨v3,R,n,M,m,W,rfl,rfl,rfl,u,f⟩:=trodAll_cons c;obtain⟨v4,K,o,S,j,U,rfl,rfl,rfl,s,e⟩:=trodAll_cons f;obtain⟨rfl,rfl,rfl⟩:=trodAll_nil e;exact⟨v,O,l,v3,v4,d,Q,k,n,o,p,L,i,m,j,by cases args;simp_all,hZ,i6,T,t,r,u,s⟩
end
end
variable {H:Type}
section
variable {enc:TypeId×eR->H}
end
theorem Yu{P:Program}(h:P.funcs.any Func.goes=eH)(f:FuncId):P.goes f=eH:=by
 have b:∀g:FuncId,(P.funcs[g]?).any Func.goes=eH:=λg=>by
  cases hg:P.funcs[g]? with
  |none=>rfl
  |some x=>
   show Func.goes x=eH;obtain⟨a,e⟩:=Array.getElem?_eq_some_iff.1 hg;cases hx:Func.goes x with
   |false=>rfl
   |true=>
    have:P.funcs.any Func.goes=ez:=Array.any_eq_true.2 ⟨g,a,by rw[e];exact hx⟩;rw[h]at this;cases this
 unfold Program.goes;rw[h,Bool.and_false,Bool.or_false];simp only[b];simp
theorem RH{P:Program}{c:OpenClaim}(h:P.funcs.any Func.goes=eH):c.goesBy P=eH:=by
 have a:∀f,P.goes f=eH:=Yu h;unfold OpenClaim.goesBy Program.goesAt Program.goesFrom;have b:(P.funcNamed c.func).any P.goes=eH:=by
  cases P.funcNamed c.func with
  |none=>rfl
  |some f=>exact a f
 have h3:P.inits.toList.any P.goes=eH:=wq.2 λf _=>by rw[a f];exact Bool.false_ne_true
 rw[b,h3];cases c.start<;>rfl
end Go.Qw
