/- Lemmas for the proof of the law; no condition. -/
import Derived.Test.YtdibhfbogjngkaaGreatDoorPlA
import Derived.Shelf.SlSortCmp.NoneTotal
import Derived.ProofKit
import Derived.Deep.Matrix
import Derived.Carry
import Derived.Lib.SmallJoins
import Derived.Handed
import Derived.HandedShaped
import Derived.ChangeMaps5
import Derived.SevenTiedAt
set_option linter.unusedVariables false
set_option linter.unusedSimpArgs false
open Option renaming some -> dB
open Bool renaming true -> eR, false -> eS
open List renaming length -> j9
open List renaming mem_take_iff_getElem -> yG, nodup_range -> vI, range -> qx, range' -> zM, range'_succ -> yf, replicate -> qg
open Nat renaming add_sub_cancel -> y6, mul_add -> vT
open Go.Value renaming int -> xb
open Go.IntKind renaming i64 -> xi
open Prod renaming fst -> qM, snd -> zH
namespace Go.Vc
open Go
abbrev ib:=FloatKind.format .f64
theorem Gx{P:Program}{a b c:Nat}(h:ib.add a b=dB c):aL P (Op.Complex.arith .add .f64 a b) c:=λw=>by
 have h':(FloatKind.format .f64).add a b=dB c:=h;unfold Op.Complex.arith Op.floatArith;simp only[h'];rfl
theorem Gy{P:Program}{a b c:Nat}(h:ib.sub a b=dB c):aL P (Op.Complex.arith .sub .f64 a b) c:=λw=>by
 have h':(FloatKind.format .f64).sub a b=dB c:=h;unfold Op.Complex.arith Op.floatArith;simp only[h'];rfl
theorem Bo{P:Program}{a b c:Nat}(h:ib.mul a b=dB c):aL P (Op.Complex.arith .mul .f64 a b) c:=λw=>by
 have h':(FloatKind.format .f64).mul a b=dB c:=h;unfold Op.Complex.arith Op.floatArith;simp only[h'];rfl
theorem Cc{P:Program}{op:BinOp}(h:op=.add∨op=.sub∨op=.mul)(t:TypeId)(x y:Operand)(a b:Value):aL P (eqGuard op t x y a b) ():=λw=>by
 rcases h with rfl|rfl|rfl<;>rfl
theorem afN{P:Program}{t:TypeId}{x y:Operand}{a b c d e f:Nat}(h:ib.add a c=dB e)(g:ib.add b d=dB f):kB P .add t x y (.complex .f64 a b) (.complex .f64 c d) (.complex .f64 e f):=
 (Cc (.inl k0) t x y _ _).bind (show aL P (Op.complexOp .add .f64 a b c d) _ from(Gx h).bind ((Gx g).bind λ_=>rfl))
theorem afO{P:Program}{t:TypeId}{x y:Operand}{a b c d e f:Nat}(h:ib.sub a c=dB e)(g:ib.sub b d=dB f):kB P .sub t x y (.complex .f64 a b) (.complex .f64 c d) (.complex .f64 e f):=
 (Cc (.inr (.inl k0)) t x y _ _).bind (show aL P (Op.complexOp .sub .f64 a b c d) _ from(Gy h).bind ((Gy g).bind λ_=>rfl))
theorem afP{P:Program}{t:TypeId}{x y:Operand}{a b c d e f i j h k:Nat}(n:ib.mul a c=dB i)(m:ib.mul b d=dB j)(h3:ib.sub i j=dB e)(p:ib.mul a d=dB h)(q:ib.mul b c=dB k)(l:ib.add h k=dB f):
  kB P .mul t x y (.complex .f64 a b) (.complex .f64 c d) (.complex .f64 e f):=by
 refine(Cc (.inr (.inr k0)) t x y _ _).bind ?_;have o:aL P (Op.Complex.product a b c d) (e,f):=
  (Bo n).bind ((Bo m).bind ((Gy h3).bind ((Bo p).bind ((Bo q).bind ((Gx l).bind λ_=>rfl)))))
 show aL P (Op.complexOp .mul .f64 a b c d) _;have g:∀x,aL P (Op.Complex.conv .f64 x .f64) x:=λx w=>by unfold Op.Complex.conv;rw[j1 rfl];rfl
 unfold Op.complexOp;refine(g a).bind ((g b).bind ((g c).bind ((g d).bind ?_)));refine aL.bind (v:=(e,f)) ?_ ?_
 ·exact o
 ·exact(g e).bind ((g f).bind λ_=>rfl)
open Go Go.Sort Go.Proofs
theorem afQ{w a:World}(m:dl w a)(l:aX (λb=>b<w.heap.size) w.heap a.heap):∃q c,a=Sort.grow (w.drewN q) c:=by
 refine⟨a.drawn-w.drawn,a.heap.extract w.heap.size a.heap.size,?_⟩;have j:w.heap++a.heap.extract w.heap.size a.heap.size=a.heap:=by
  apply yA;intro i;have p:=l.1;by_cases d:i<w.heap.size
  ·rw[Array.getElem?_append_left d,l.2 i d d]
  ·rw[Array.getElem?_append_right k4,Array.getElem?_extract];by_cases u:i<a.heap.size
   ·rw[j1 k4,show w.heap.size+(i-w.heap.size)=i by omega]
   ·rw[j3 k4,Array.getElem?_eq_none k4]
 obtain⟨o,t,dr,os,out⟩:=w;obtain⟨h,r,s,c,g⟩:=a;obtain⟨e,f,k,n⟩:=m;simp only at e f k n j;subst e;subst f;subst k;simp only[Sort.grow,World.drewN,World.mk.injEq];refine⟨j.symm,trivial,k4,trivial,trivial⟩
theorem Ph{α:Type}[Inhabited α]{enc:α->ba}{k:Nat}(b:∀x,j9 (enc x)=k)(l:List α):flatK enc k l.toArray=(l.flatMap enc).toArray:=by
 refine ext_get! (by simp[ez b]) λt n=>?_;have a:t<j9 l*k:=tg
 have c:0<k:=by
  rcases Nat.eq_zero_or_pos k with h|h
  ·subst h;simp at a
  ·exact h
 rw[get_flatK _ _ _ t l7];have f:t/k<j9 l:=(Nat.div_lt_iff_lt_mul c).2 a;obtain⟨pre,post,i,o⟩:=Kj b l (t/k) l[t/k] (qd f);have d:t%k<k:=Nat.mod_lt _ c;have j:t=t/k*k+t%k:=by rw[Nat.mul_comm];exact(Nat.div_add_mod t k).symm
 have e:(l.flatMap enc)[t]?=dB ((enc l[t/k])[t%k]'(by rw[b];exact d)):=by
  rw[i,qt,qj k4,qp (by rw[b];omega)];have:t-j9 pre=t%k:=k4
  rw[this,qd]
 have m:l.toArray[t/k]! =l[t/k]:=sb
 rw[m];have g:t<j9 (l.flatMap enc):=by rw[ez b];exact a
 rw[getElem!_pos (enc l[t/k]) (t%k) (by rw[b];exact d),getElem!_pos _ t nn];rw[qd g]at e;simp only[List.getElem_toArray];exact(Option.some.inj e).symm
theorem XJ{α:Type}[Inhabited α]{enc:α->ba}{k:Nat}(g:∀x,j9 (enc x)=k){w:World}{e:TypeId}{b:Nat}{rest:ba}{l:List α}(d:w.heap[b]?=dB (.cells (l.flatMap enc++rest).toArray e (0,0))):HoldsK enc k w b 0 l.toArray:=by
 intro j c;rw[Ph g]at c⊢;have a:j<j9 (l.flatMap enc):=oo
 refine⟨?_,by simp[World.frozen?,d]⟩;have f:(l.flatMap enc++rest).toArray[0+j]?=dB (l.flatMap enc)[j]:=by rw[z6,zZ,qp a,qd a]
 simp only[World.cell?,d];rw[getElem!_pos _ j l7];simpa using f
theorem ZR{α:Type}[Inhabited α]{enc:α->ba}{k:Nat}(a:∀x,j9 (enc x)=k)(l l':List α)(rest:ba)(c:j9 l'=j9 l):putCells id 0 (flatK enc k l'.toArray) (l.flatMap enc++rest).toArray=(l'.flatMap enc++rest).toArray:=by
 rw[Ph a];have d:=ez a l;have b:=ez a l';rw[c]at b;apply yA;intro i;simp only[putCells,Array.getElem?_mapIdx,zZ,w8,z6,Nat.zero_le,true_and,Nat.sub_zero];by_cases e:i<j9 l*k
 ·rw[qp k4,qp k4,qd k4,qd k4,qY,j1 k4];rw[getElem!_pos _ i (by rw[w8];omega)];simp
 ·rw[qj k4,qj k4,d,b];cases rest[i-j9 l*k]? with
  |none=>rfl
  |some x=>rw[qY,j3 k4]
theorem Qu{α:Type}[Inhabited α]{P:Program}{id_ g:FuncId}{enc:α->ba}{k:Nat}{cf:α->α->Int}(D:∀x,j9 (enc x)=k)
  (K:∀(fO cap:Nat) (l:List α) (w:World),CmpLays P g #[] enc k cf fO 0 l.length w->HoldsK enc k w fO 0 l.toArray->fO<w.heap.size->j9 l<4611686018427387904->
   Calls P id_ #[.slice (dB ⟨fO,0,none⟩) l.length cap,.func (.func g) #[] #[]] w λe o=>e=.returned (.tuple #[])/\∃n os,o=sortWorldK enc k w fO 0 n (l.mergeSort λx y=>!(ltOf cf) y x).toArray os)
  (E:∀(p:aQ) (cap:Nat) (w:World),Calls P id_ #[.slice p 0 cap,.func (.func g) #[] #[]] w λe o=>e=.returned (.tuple #[])/\o=w)
  (F:∀x y h,ab P g #[.agg (enc x).toArray,.agg (enc y).toArray] h λv h'=>v=xb xi (cf x y)/\aX (λb=>b<h.size) h h')
  {e:TypeId} {s:Sl} {l:List α} {h:Heap} (B:Own h e s k enc l) (J:j9 l<2^40):
  ab P id_ #[.slice s.ptr s.len s.cap,.func (.func g) #[] #[]] h λv h'=>v=.tuple #[]/\Own h' e s k enc (l.mergeSort λx y=>!(ltOf cf) y x)/\aX (λb=>¬s.on b) h h':=by
 intro w i;have a:=B.len;rcases B.head with⟨h1,h2,h3⟩|⟨b,rest,h1,h2,h3,h4⟩
 ·subst h3;rw[a,h1];refine(E none s.cap w).mono ?_;rintro A o ⟨rfl,rfl⟩;have I:(([]:List α).mergeSort λx y=>!(ltOf cf) y x)=[]:=k9
  exact⟨_,k0,dl.refl _,k0,by rw[I];exact⟨a,.inl ⟨h1,h2,k0⟩⟩,by rw[<-i];exact aX.refl _ _⟩
 ·rw[h1,a];have t:w.heap[b]?=dB (.cells (l.flatMap enc++rest).toArray e (0,0)):=by rw[i];exact h2
  have f:CmpLays P g #[] enc k cf b 0 l.length w:=λm os G _ x y=>by
   have:=F x y _ (sortWorldK enc k w b 0 m G os) k0;refine(show Calls P g (#[Value.agg (enc x).toArray,.agg (enc y).toArray]++#[]) _ _ from ?_);rw[Array.append_empty];refine this.mono ?_;rintro A o ⟨v,rfl,H,rfl,z⟩;exact⟨k0,afQ H z⟩
  refine(K b s.cap l w f (XJ D t) (lt_of_block t) k4).mono ?_;rintro A o ⟨rfl,n,os,rfl⟩;have q:=lt_of_block t;have r:j9 (l.mergeSort λx y=>!(ltOf cf) y x)=j9 l:=List.length_mergeSort l;have d:∀j,j<h.size->(sortWorldK enc k w b 0 n (l.mergeSort λx y=>!(ltOf cf) y x).toArray os).heap[j]?=if b=j then dB (.cells ((l.mergeSort λx y=>!(ltOf cf) y x).flatMap enc++rest).toArray e (0,0))else h[j]?:=by
   intro j u;unfold sortWorldK;rw[Sort.heap_grow_old _ _ (by simpa[putRowK,Sort.putRow,Sort.mapBlock,Sort.ahead,i]using u)];simp only[putRowK,Sort.putRow,Sort.mapBlock,Sort.ahead,Array.getElem?_modify];by_cases c:b=j
   ·subst c;rw[j1 k0,j1 k0,t,qY,Sort.onCells,ZR D _ _ _ r]
   ·rw[j3 c,j3 c,i]
  rw[i]at q;refine⟨_,k0,⟨k0,k0,k0,Nat.le_add_right _ _⟩,k0,⟨by rw[r];exact a,.inr ⟨b,rest,h1,?_,h3,h4⟩⟩,?_,?_⟩
  ·rw[d b q,j1 rfl]
  ·simp[sortWorldK,putRowK,Sort.grow,Sort.putRow,Sort.mapBlock,Sort.ahead,i]
  ·intro j u z;rw[d j u,j3 λc=>z ⟨0,by rw[h1,c]⟩]
end Go.Vc
namespace Wl
open Go Go.Vc
def di(n:Int):Nat:=
 if n=0 then 0 else
  let m:=n.natAbs;let e:=m.log2
  (if n<0 then 2^63 else 0)+(1023+e)*2^52+(m-2^e)*2^(52-e)
structure EU where
 ax:Nat
 ay:Nat
 sx:Nat
 sy:Nat
 left:Int
 leg:Int
 second:Bool
def pR:Nat:=4607182418800017408
def fs0:EU:=⟨0,0,pR,0,1,1,eS⟩
def oO(a b:Nat):Nat:=(ib.add a b).getD 0
def aiG(a b:Nat):Nat:=(ib.sub a b).getD 0
def uk(a b:Nat):Nat:=(ib.mul a b).getD 0
def tx(a b:Nat):Nat:=aiG (uk a 0) (uk b pR)
def ty(a b:Nat):Nat:=oO (uk a pR) (uk b 0)
def EU.on(s:EU):EU:=
 if s.left-1>0 then{s with ax:=oO s.ax s.sx,ay:=oO s.ay s.sy,left:=s.left-1}
 else{ax:=oO s.ax s.sx,ay:=oO s.ay s.sy,sx:=tx s.sx s.sy,sy:=ty s.sx s.sy,leg:=if s.second then s.leg+1 else s.leg,left:=if s.second then s.leg+1 else s.leg,second:=!s.second}
def lp:Nat->EU
 |0=>fs0
 |n+1=>(lp n).on
def EU.ok(s:EU):Bool:=
 (ib.add s.ax s.sx).isSome&&(ib.add s.ay s.sy).isSome&&(ib.mul s.sx 0).isSome&&(ib.mul s.sy pR).isSome&&(ib.sub (uk s.sx 0) (uk s.sy pR)).isSome&&(ib.mul s.sx pR).isSome&&(ib.mul s.sy 0).isSome&&(ib.add (uk s.sx pR) (uk s.sy 0)).isSome&&decide (1<=s.left)&&decide (s.left<=100)&&decide (1<=s.leg)&&decide (s.leg<=100)
structure ZS where
 x:Int
 y:Int
 dx:Int
 dy:Int
 left:Int
 leg:Int
 turns:Int
def aiH:ZS:=⟨0,0,1,0,1,1,0⟩
def ZS.on(s:ZS):ZS:=
 if s.left-1=0 then
  {x:=s.x+s.dx,y:=s.y+s.dy,dx:=-s.dy,dy:=s.dx,leg:=if(s.turns+1)%2=0 then s.leg+1 else s.leg,left:=if(s.turns+1)%2=0 then s.leg+1 else s.leg,turns:=s.turns+1}
 else{s with x:=s.x+s.dx,y:=s.y+s.dy,left:=s.left-1}
def gd:Nat->ZS
 |0=>aiH
 |n+1=>(gd n).on
theorem aik:∀n,n<64->(lp n).ok=eR:=l4
theorem agX:∀n,n<64->((lp n).ax==di (gd n).x&&(lp n).ay==di (gd n).y&&decide (-4<=(gd n).x)&&decide ((gd n).x<=4)&&decide (-4<=(gd n).y)&&decide ((gd n).y<=4))=eR:=l4
theorem agY:∀i,i<9->∀j,j<9->ib.sub (di ((i:Nat)-4:Int)) (di ((j:Nat)-4:Int))=dB (di ((i:Int)-(j:Int))):=l4
theorem agZ:∀i,i<17->ib.mul (di ((i:Nat)-8:Int)) (di ((i:Nat)-8:Int))=dB (di (((i:Nat)-8:Int)*((i:Nat)-8:Int))):=l4
theorem aha:∀i,i<9->∀j,j<9->ib.add (di (((i:Nat):Int)*(i:Nat))) (di (((j:Nat):Int)*(j:Nat)))=dB (di (((i:Nat):Int)*(i:Nat)+((j:Nat):Int)*(j:Nat))):=l4
theorem ZT:∀m,m<129->∀n,n<129->ib.order (di (m:Nat)) (di (n:Nat))=dB (compare m n):=l4
theorem XK{seq a c:Int}{b:aY}(d:j9 b<=48):dJ (kw seq a c b)=none:=by unfold dJ kw;rw[Bl k6 k6 n7];dsimp only;rw[j3 (by rintro⟨h,_⟩;exact absurd h k6)]
theorem iX{m:aE}{c:aY}(h:c∈bs m):dJ c=none:=by unfold bs at h;obtain⟨i,_,rfl⟩:=qo.1 h;exact XK k8
theorem XL(m n:aE):(bs n).filterMap (jl m)=[]:=by rw[List.filterMap_eq_nil_iff];intro c a;unfold jl;rw[iX a]
theorem Pj{α:Type}{R:α->α->Prop}(k:∀a b c,R a b->R b c->R a c){l:List α}(h:∀i (m:i+1<j9 l),R (l[i]'(by omega)) l[i+1]):l.Pairwise R:=by
 have g:∀d i (f:i+(d+1)<j9 l),R (l[i]'(by omega)) l[i+(d+1)]:=by
  intro d
  induction d with
  |zero=>exactλi f=>h i f
  |succ d ih=>exactλi f=>k _ _ _ (ih i k4) (h (i+(d+1)) k4)
 refine zd.2 λi j m f n=>?_;have:=g (j-i-1) i k4;have e:i+(j-i-1+1)=j:=k4
 simp only[e]at this;exact this
theorem Pk{α:Type}{R:α->α->Prop}{l:List α}(h:l.Pairwise R)(i:Nat)(a:i+1<j9 l):R (l[i]'(by omega)) l[i+1]:=zd.1 h i (i+1) k4 a k4
theorem dT{α:Type}{l:List α}{i:Nat}(d:α)(h:i<j9 l:=by omega):l.getD i d=l[i]:=by rw[qe,qd h];rfl
theorem ky(n a b:Int):fp n a b=eR↔a<=n/\n<=b:=by unfold fp;rw[qz,decide_eq_true_eq,decide_eq_true_eq]
theorem ZU(l:au)(most:Int):pI l most=eR↔l.Pairwise (·<·)/\∀x∈l,0<=x/\x<=most:=by
 unfold pI;rw[qU];constructor
 ·intro h;have g:∀i (d:i<j9 l),(0<=l[i]/\l[i]<=most)/\(i=0∨l.getD (i-1) 0<l[i]):=λi d=>by
   have:=h i (qD.2 d);unfold jW at this;rw[dT 0 d,qz,ky,z7,decide_eq_true_eq,decide_eq_true_eq]at this;exact this
  refine⟨Pj (R:=λa b:Int=>a<b) (λa b c f e=>Int.lt_trans f e) λi d=>?_,λx j=>?_⟩
  ·rcases(g (i+1) d).2 with h0|h0
   ·omega
   ·rw[y6,dT 0]at h0;exact h0
  ·obtain⟨i,d,rfl⟩:=qK j;exact(g i d).1
 ·rintro⟨f,e⟩ i d;have d:=qD.1 d;unfold jW;rw[dT 0 d,qz,ky,z7,decide_eq_true_eq,decide_eq_true_eq];refine⟨e _ (qh d),?_⟩;cases i with
  |zero=>exact .inl k0
  |succ i=>exact .inr (by rw[y6,dT 0];exact Pk f i d)
theorem Sn(a b c:ByteArray)(e:ft a b=eR)(d:ft b c=eR):ft a c=eR:=IG _ _ _ e d
theorem cM(m:aE):bV m=eR↔lx m=eR/\m.drives.Pairwise (·<·)/\(∀k∈m.drives,0<=k/\k<=63)/\m.aG.length<=12/\(∀e∈m.aG,hO m e=eR)/\m.aG.Pairwise (λa b=>ft a.name b.name=eR)/\m.aG.Pairwise (λa b=>a.object≠b.object):=by
 unfold bV;rw[qz,qz,qz,ZU,decide_eq_true_eq,qU];have o:(∀i∈qx m.aG.length,pJ m i=eR)↔(∀e∈m.aG,hO m e=eR)/\m.aG.Pairwise (λa b=>ft a.name b.name=eR)/\m.aG.Pairwise (λa b=>a.object≠b.object):=by
  constructor
  ·intro h;have r:∀i (l:i<m.aG.length),hO m m.aG[i]=eR/\(i=0∨ft (pH m.aG (i-1)).name m.aG[i].name=eR)/\∀y∈m.aG.take i,y.object≠m.aG[i].object:=λi l=>by
    have:=h i (qD.2 l);unfold pJ at this;rw[oM l,qz,qz,z7,decide_eq_true_eq,wE,wG]at this;exact⟨this.1,this.2.1,λy n=>by have:=this.2.2 y n;simpa using this⟩
   refine⟨λe u=>?_,Pj (R:=λa b:bK=>ft a.name b.name=eR) (λa b c q p=>Sn _ _ _ q p) λi l=>?_,zd.2 λi j l s t=>?_⟩
   ·obtain⟨i,l,rfl⟩:=qK u;exact(r i l).1
   ·rcases(r (i+1) l).2.1 with h0|h0
    ·omega
    ·rw[y6,oM]at h0;exact h0
   ·refine(r j s).2.2 m.aG[i] ?_;exact yG.2 ⟨i,k4,k0⟩
  ·rintro⟨q,p,h3⟩ i l;have l:=qD.1 l;unfold pJ;rw[oM l,qz,qz,z7,decide_eq_true_eq,wE,wG];refine⟨q _ (qh l),?_,λy n=>?_⟩
   ·cases i with
    |zero=>exact .inl k0
    |succ i=>exact .inr (by rw[y6,oM];exact Pk p i l)
   ·obtain⟨j,s,rfl⟩:=yG.1 n;have:=zd.1 h3 j i k4 l k4;simpa using this
 rw[o];constructor
 ·rintro⟨a,⟨b,c⟩,d,e,f,g⟩;exact⟨a,b,c,d,e,f,g⟩
 ·rintro⟨a,b,c,d,e,f,g⟩;exact⟨a,⟨b,c⟩,d,e,f,g⟩
theorem fB(m:aE):lx m=eR↔(1<=m.seq/\m.seq<=2147483647)/\(0<=m.next/\m.next<=16777216)/\bH m.p=eR/\0<=m.extra/\m.extra<=16:=by unfold lx;rw[qz,qz,qz,ky,ky,ky]
theorem iP(m:aE)(x:bK):hO m x=eR↔mg x.name=eR/\(0<=x.object/\x.object<m.next)/\(0<=x.length/\x.length<=m.p.1*m.p.2.2*8)/\(∀t∈x.tries,0<=t/\t<=15)/\(x.tries.length:Int)=countP m.p x.length:=by
 unfold hO;rw[qz,qz,qz,qz,ky,ky,qU,decide_eq_true_eq];simp only[ky];constructor
 ·rintro⟨a,b,c,d,e⟩;exact⟨a,⟨b.1,k4⟩,c,d,e⟩
 ·rintro⟨a,b,c,d,e⟩;exact⟨a,⟨b.1,k4⟩,c,d,e⟩
theorem kG{m:aE}(h:bV m=eR):m.drives.Nodup:=((cM m).1 h).2.1.imp λh e=>k4
theorem od{m:aE}(h:bV m=eR):∀k∈m.drives,0<=k/\k<64:=λk a=>by have:=((cM m).1 h).2.2.1 k a;omega
theorem So:∀{l:au} {a b:Int},l.Pairwise (·<·)->(∀k∈l,a<=k/\k<b)->a<=b->(j9 l:Int)<=b-a
 |[],a,b,_,_,h=>k8
 |x::l,a,b,hp,hl,h=>by
  obtain⟨e,d⟩:=zD.1 hp;have f:=hl x qI;have:=So (a:=x+1) (b:=b) d (λk c=>⟨by have:=e k c;omega,(hl k (qC _ c)).2⟩) k4;rw[zm];omega
theorem nh{m:aE}(h:bV m=eR):j9 m.drives<=64:=by have:=So ((cM m).1 h).2.1 (od h) k6;omega
theorem UN(b:ByteArray):∀n i r,b.size-i=n->ByteArray.toList.loop b i r=r.reverse++b.data.toList.drop i:=by
 have c:j9 b.data.toList=b.size:=rfl;intro n
 induction n with
 |zero=>
  intro i r h;rw[ByteArray.toList.loop,j3 k4,List.drop_eq_nil_of_le (by rw[c];omega),qL]
 |succ n ih=>
  intro i r h;have a:i<b.size:=k4
  rw[ByteArray.toList.loop,j1 a,ih (i+1) _ k4];have d:b.data.toList.drop i=b.get! i::b.data.toList.drop (i+1):=by rw[List.drop_eq_getElem_cons (by rw[c];exact a)];congr 1;show _=b.data[i]!;rw[getElem!_pos b.data i a,Array.getElem_toList]
  rw[d,List.reverse_cons,qt];rfl
theorem toList_eq(x:ByteArray):x.toList=x.data.toList:=by unfold ByteArray.toList;rw[UN x _ 0 [] rfl];rfl
theorem XM{a b:ByteArray}(h:a.toList=b.toList):a=b:=by rw[toList_eq,toList_eq]at h;cases a;cases b;congr;exact Array.toList_inj.1 h
end Wl
namespace Go.Qw
open Go Go.Vc
def kH:Nat->Nat->Nat->List (List Nat)
 |0,_,_=>[[]]
 |t+1,a,n=>(zM a (n-t-a)).flatMap λi=>(kH t (i+1) n).map (i::·)
def kj(n:Nat):List Nat->Option (List Nat)
 |[]=>none
 |x::l=>match kj n l with
  |some l'=>dB (x::l')
  |none=>if x+j9 l+1<n then dB (zM (x+1) (j9 l+1))else none
inductive pS (n:Nat):List Nat->List (List Nat)->Prop
 |last {l:List Nat}:kj n l=none->pS n l [l]
 |more {l l':List Nat} {L:List (List Nat)}:kj n l=dB l'->pS n l' L->pS n l (l::L)
theorem Gz{n:Nat}:∀{l l':List Nat},kj n l=dB l'->j9 l'=j9 l
 |[],_,h=>l9
 |x::l,l',h=>by
  unfold kj at h;cases hs:kj n l with
  |some m=>rw[hs]at h;injection h with h;subst h;simp[Gz hs]
  |none=>
   rw[hs]at h;dsimp only at h;split at h
   ·injection h with h;subst h;simp
   ·cases h
theorem pS.cons{n x t:Nat}{l:List Nat}{L R:List (List Nat)}(h:pS n l L)(a:j9 l=t)(c:x+t+1<n)(b:pS n (zM (x+1) (t+1)) R):pS n (x::l) (L.map (x::·)++R):=by
 induction h with
 |last hs=>exact .more (by unfold kj;rw[hs];dsimp only;rw[j1 k4,a]) b
 |more hs _ ih=>exact .more (by unfold kj;rw[hs]) (ih (by rw[Gz hs,a]))
theorem pS.ail{n x t:Nat}{l:List Nat}{L:List (List Nat)}(h:pS n l L)(a:j9 l=t)(b:¬x+t+1<n):pS n (x::l) (L.map (x::·)):=by
 induction h with
 |last hs=>exact .last (by unfold kj;rw[hs];dsimp only;rw[j3 k4])
 |more hs _ ih=>exact .more (by unfold kj;rw[hs]) (ih (by rw[Gz hs,a]))
theorem GA(n:Nat):∀t a,a+t<=n->pS n (zM a t) (kH t a n)
 |0,a,_=>.last k0
 |t+1,a,h=>by
  have b:∀m a,a+(t+1)<=n->m+1=n-t-a->pS n (zM a (t+1)) ((zM a (m+1)).flatMap λi=>(kH t (i+1) n).map (i::·)):=by
   intro m
   induction m with
   |zero=>
    intro a h c;have:=(GA n t (a+1) k4).ail (x:=a) (t:=t) k9 k4;simpa[yf]using this
   |succ m ih=>
    intro a h c;have:=(GA n t (a+1) k4).cons (x:=a) (t:=t) k9 k4 (ih (a+1) k4 k4);rw[yf,yf (n:=m+1),zg];exact this
  have:=b (n-t-a-1) a h k4;rw[show n-t-a-1+1=n-t-a by omega]at this;exact this
theorem Sq{n:Nat}:∀(i:Nat) (l m:List Nat),i<=j9 l->kj n (l.drop i)=dB m->kj n l=dB (l.take i++m)
 |0,l,m,_,h=>l6
 |i+1,[],m,h,_=>o5
 |i+1,x::l,m,h,hs=>by
  have:=Sq i l m l6 (by simpa using hs);unfold kj;rw[this];simp
theorem xT{n:Nat}:∀{t a:Nat} {s:List Nat},s∈kH t a n->j9 s=t/\(∀x∈s,a<=x/\x<n)/\s.Pairwise (·<·)
 |0,a,s,h=>by simp[kH]at h;subst h;simp
 |t+1,a,s,h=>by
  simp only[kH,zB,qo,List.mem_range'_1]at h;obtain⟨i,f,l,d,rfl⟩:=h;obtain⟨e,c,h3⟩:=xT d;refine⟨t8,?_,zD.2 ⟨λx b=>(c x b).1,h3⟩⟩;intro x b;rcases qV.1 b with rfl|b
  ·omega
  ·have:=c x b;omega
theorem Sr{n:Nat}:∀{t a:Nat} {s:List Nat},j9 s=t->(∀x∈s,a<=x/\x<n)->s.Pairwise (·<·)->s∈kH t a n
 |0,a,s,h,_,_=>by simp[kH];simpa using h
 |t+1,a,[],h,_,_=>o5
 |t+1,a,x::l,h,hb,c=>by
  rw[zD]at c;have g:j9 l=t:=l6
  simp only[kH,zB,qo,List.mem_range'_1];have f:=hb x k9;refine⟨x,⟨f.1,?_⟩,l,Sr g (λy b=>⟨c.1 y b,(hb y p0).2⟩) c.2,k0⟩;have d:∀(l:List Nat) (x:Nat),(x::l).Pairwise (·<·)->(∀y∈x::l,y<n)->x+j9 l<n:=by
   intro l
   induction l with
   |nil=>intro x _ b;exact b x k9
   |cons y l ih=>
    intro x c b;rw[zD]at c;have j:=ih y c.2 λz e=>b z (qC _ e);have i:=c.1 y k9;simp;omega
  have:=d l x (zD.2 c) λy b=>(hb y b).2;omega
def ch:Nat->Nat->Nat
 |_,0=>1
 |0,_+1=>0
 |n+1,k+1=>ch n k+ch n (k+1)
theorem nD(n:Nat):ch n 0=1:=by cases n<;>rfl
theorem IN:∀(n k:Nat),n<k->ch n k=0
 |_,0,h=>k4
 |0,k+1,_=>rfl
 |n+1,k+1,h=>by rw[ch,IN n k k4,IN n (k+1) k4]
theorem NV:∀n,ch n n=1
 |0=>rfl
 |n+1=>by rw[ch,NV n,IN n (n+1) k4]
theorem GB:∀(n k:Nat),(k+1)*ch (n+1) (k+1)=(n+1)*ch n k
 |0,0=>rfl
 |0,k+1=>by rw[IN 0 (k+1) k4,IN (0+1) (k+1+1) k4];simp
 |n+1,0=>by
  have:=GB n 0;rw[nD]at this⊢;rw[ch,nD,vT,this];omega
 |n+1,k+1=>by
  have c:=GB n k;have a:=GB n (k+1);rw[ch];have e:(k+1+1)*(ch (n+1) (k+1)+ch (n+1) (k+1+1))=((k+1)*ch (n+1) (k+1)+ch (n+1) (k+1))+(k+1+1)*ch (n+1) (k+1+1):=by rw[vT,zO (k+1)]
  rw[e,c,a];have b:ch (n+1) (k+1)=ch n k+ch n (k+1):=rfl;rw[b,zO (n+1),vT (n+1)];omega
theorem WF{n k:Nat}(h:k<=n):ch n (k+1)*(k+1)=ch n k*(n-k):=by
 cases n with
 |zero=>
  have:k=0:=k4
  subst this;rfl
 |succ n=>
  have d:=GB n k;have b:(n+1)*ch n k=(n+1-k)*ch (n+1) k:=by
   cases k with
   |zero=>rw[nD,nD];simp
   |succ k=>
    have h3:=GB n k;have c:ch (n+1) (k+1)=ch n k+ch n (k+1):=rfl;have e:(n+1)*ch (n+1) (k+1)=(n+1)*ch n k+(n+1)*ch n (k+1):=by rw[c,vT]
    have a:(n+1-(k+1))*ch (n+1) (k+1)=(n+1)*ch (n+1) (k+1)-(k+1)*ch (n+1) (k+1):=Nat.sub_mul _ _ _;rw[a,h3,e];omega
  rw[Nat.mul_comm,d,b,Nat.mul_comm]
theorem aim{n k:Nat}(h:2*(k+1)<=n+1):ch n k<=ch n (k+1):=by
 have b:=WF (n:=n) (k:=k) k4;by_cases h0:ch n k=0
 ·omega
 ·have a:ch n k*(k+1)<=ch n (k+1)*(k+1):=by rw[b];exact Nat.mul_le_mul_left _ k4
  exact Nat.le_of_mul_le_mul_right a k4
theorem Ss:∀(n k:Nat),k<=n->ch n k=ch n (n-k)
 |0,0,_=>rfl
 |n+1,0,_=>by rw[nD,Nat.sub_zero,NV]
 |n+1,k+1,h=>by
  by_cases c:k=n
  ·subst c;rw[NV,Nat.sub_self,nD]
  ·have b:=Ss n k k4;have a:=Ss n (k+1) k4;rw[show n+1-(k+1)=(n-(k+1))+1 by omega,ch,ch,b,a,show n-k=n-(k+1)+1 by omega];omega
theorem Ku(n:Nat):∀t a,a<=n->j9 (kH t a n)=ch (n-a) t
 |0,a,_=>by rw[nD];rfl
 |t+1,a,h=>by
  have b:∀m a,m=n-t-a->a<=n->j9 ((zM a m).flatMap λi=>(kH t (i+1) n).map (i::·))=ch (n-a) (t+1):=by
   intro m
   induction m with
   |zero=>intro a d c;rw[IN _ _ k4];rfl
   |succ m ih=>
    intro a d c;rw[yf,zg,qy,qw,Ku n t (a+1) k4,ih (a+1) k4 k4];rw[show n-a=n-(a+1)+1 by omega];rfl
  exact b _ a k0 h
def gw(n t:Int):Int:=if 0<=n/\n<=64/\0<=t/\t<=n then(min (ch n.toNat t.toNat) 4097:Nat)else 0
end Go.Qw
namespace Wl
open Classical
def fl(r:Row):Nat:=r.findIdx (λx=>x !=0)
def eO(M:aM)(r:Row):Row:=M.foldl (λout x=>cY (aN out (fl x)) x out) r
def ni(m:aM):aM:=(bG m (eU m)).2.take (ca m)
def Su(M:aM)(r:Row):aM:=if fl (eO M r)<j9 (eO M r) then ni (M++[eO M r])else M
theorem NW{r:Row}{c:Nat}(h:c<j9 r):aN r c=r[c]:=by rw[aN,qe,qd h];rfl
theorem afR{r:Row}{j:Nat}(h:aN r j≠0):fl r<j9 r:=by have a:j<j9 r:=Nat.lt_of_not_le λb=>h (by simp[aN,qe,qQ b]);rw[fl,wD];exact⟨r[j],qh a,by rw[<-NW a];simpa using h⟩
theorem ZV{r:Row}(h:¬fl r<j9 r):r=aK r.length:=by rw[fl,wD]at h;refine eZ k0 mn λj a=>?_;rw[cz,NW a];have c:¬((r[j] !=0)=eR):=λb=>h ⟨r[j],qh a,b⟩;simpa using c
section
variable {n:Nat} {m M A:aM}
theorem Kv(b:aT n M){r:Row}(a:j9 r=n):j9 (eO M r)=n:=by
 unfold eO
 induction M generalizing r with
 |nil=>exact a
 |cons x M ih=>
  rw[zC];exact ih (λy c=>b y (qC _ c)) (by rw[bX (by rw[b x k9,a])];exact a)
theorem ZW{c:UInt8}{a t:Row}(h:j9 a=j9 t):cY c a (cY c a t)=t:=
 eZ (n:=j9 t) (by rw[bX (by rw[bX h];exact h),bX h]) k0 λj _=>by
  rw[cN (by rw[bX h];exact h),cN h,sk]
theorem Pn(b:aT n m)(d:∀x∈M,Span n m x){r:Row}(c:j9 r=n):Span n m (eO M r)↔Span n m r:=by
 unfold eO
 induction M generalizing r with
 |nil=>exact Iff.rfl
 |cons x M ih=>
  have a:=d x k9;have e:j9 x=j9 r:=by rw[a.len b,c]
  rw[zC,ih (λy f=>d y (qC _ f)) (by rw[bX e];exact c)];refine⟨λh=>?_,λh=>a.comb b h _⟩;have:=a.comb b h (aN r (fl x));rw[ZW e]at this;exact this
structure DW (n:Nat) (M A:aM):Prop where
 even:aT n M
 evenA:aT n A
 span:∀v,Span n M v↔Span n A v
 len:j9 M=ca A
 lead:∀x∈M,fl x<n
theorem ahb(n:Nat):DW n [] []:=⟨λ_ h=>l9,λ_ h=>l9,λ_=>Iff.rfl,by simp[ca,kF],λ_ h=>l9⟩
theorem Po(b:aT n m)(a:aT n A)(h:∀v,Span n m v↔Span n A v):ca m=ca A:=by rw[mh b,mh a];congr 1;funext v;exact propext (h v)
theorem Sv(a:aT n m):Way n m n (ca m) (bG m (eU m)).2:=by
 have h:=IJ a n (ql _);cases m with
 |nil=>rw[kF]at h;rw[ca,kF];exact h
 |cons x t=>
  have b:eU (x::t)=n:=by rw[eU,bv k9];exact a _ k9
  rw[ca,b];exact h
theorem ahc(z:aT n m):aT n (ni m)/\(∀v,Span n (ni m) v↔Span n m v)/\(ni m).length=ca m/\∀x∈ni m,fl x<n:=by
 have w:=Sv z;obtain⟨b,o,B,i,q,⟨p,F,A,D,E⟩,d⟩:=w;have a:aT n (ni m):=λx g=>b x (zI g);refine⟨a,λv=>?_,by rw[ni,qZ];omega,λx g=>?_⟩
 ·rw[<-i v];refine⟨Span.mono λr h=>zI h,Span.sub a λr h=>?_⟩;obtain⟨k,f,rfl⟩:=fk h;by_cases y:k<ca m
  ·refine Span.row a ?_;have:aC (bG m (eU m)).2 k=aC (ni m) k:=by rw[bv f,bv (by rw[ni,qZ];omega)];simp[ni]
   rw[this];exact mem_row (by rw[ni,qZ];omega)
  ·have:aC (bG m (eU m)).2 k=aK n:=eZ (b _ h) mn λj u=>by rw[cz];exact d k k4 f j u
   rw[this];exact .zero
 ·obtain⟨k,f,rfl⟩:=fk g;have l:k<ca m:=by rw[ni,qZ]at f;omega
  have c:k<(bG m (eU m)).2.length:=k4
  have e:aC (ni m) k=aC (bG m (eU m)).2 k:=by rw[bv c,bv f];simp[ni]
  have t:=A k l k c;rw[j1 rfl]at t;have s:=afR (r:=aC (ni m) k) (j:=p k) (by rw[e,t];decide);rw[a _ g]at s;exact s
theorem ada(h:∀v,Span n M v↔Span n A v)(f:aT n M)(e:aT n A){r:Row}(o:j9 r=n){rest:Row}(j:j9 rest=n)
  (i:∀m,aT n m->(∀x∈M,Span n m x)->(Span n m rest↔Span n m r)):∀v,Span n (M++[rest]) v↔Span n (A++[r]) v:=λv=>by
 have b:=nf f j;have c:=nf e o;have k:∀x∈M,Span n (M++[rest]) x:=λx d=>Span.row b (zn _ d);have g:∀x∈M,Span n (A++[r]) x:=λx d=>Span.mono (λy a=>zn _ a) ((h x).1 (Span.row f d));constructor
 ·refine Span.sub c λy a=>?_;rcases qA.1 a with a|a
  ·exact g y a
  ·rw[qB]at a;subst a;exact(i _ c g).2 (Span.row c k9)
 ·refine Span.sub b λy a=>?_;rcases qA.1 a with a|a
  ·exact Span.mono (λz l=>zn _ l) ((h y).2 (Span.row e a))
  ·rw[qB]at a;subst a;exact(i _ b k).1 (Span.row b k9)
theorem ZX(h:DW n M A){r:Row}(b:j9 r=n):DW n (Su M r) (A++[r]):=by
 have e:=Kv h.even b;have j:=ada h.span h.even h.evenA b e λm l k=>Pn l k b;have d:=nf h.evenA b;unfold Su;split
 ·have t:=ahc (nf h.even e);refine⟨t.1,d,λv=>(t.2.1 v).trans (j v),?_,t.2.2.2⟩;rw[t.2.2.1];exact Po (nf h.even e) d j
 ·rename_i f;have f:=ZV f;have g:Span n M r:=(Pn h.even (λx i=>Span.row h.even i) b).1 (by rw[f,e];exact .zero);have c:∀v,Span n M v↔Span n (A++[r]) v:=λv=>by
   rw[h.span v];refine⟨Span.mono λx i=>zn _ i,Span.sub h.evenA λy a=>?_⟩;rcases qA.1 a with a|a
   ·exact Span.row h.evenA a
   ·rw[qB]at a;subst a;exact(h.span _).1 g
  refine⟨h.even,d,c,?_,h.lead⟩;rw[h.len];exact Po h.evenA d λv=>(h.span v).symm.trans (c v)
end
abbrev fu:=au×Row
def cV(x:Int->UInt8):au->UInt8
 |[]=>0
 |c::l=>x c^^^cV x l
theorem kI{x y:Int->UInt8}:∀{l:au},(∀c∈l,x c=y c)->cV x l=cV y l
 |[],_=>rfl
 |c::l,h=>by rw[cV,cV,h c k9,kI λd a=>h d o7]
theorem Jt(x:Int->UInt8)(p:Int->Bool):∀l,cV x l=cV x (l.filter p)^^^cV x (l.filter λc=>!p c)
 |[]=>by simp[cV]
 |c::l=>by
  rw[cV,Jt x p l];cases h:p c<;>simp only[zp,h,w4,Bool.not_false,if_true,zk,if_false,cV]<;>ac_rfl
theorem Bp(x:Int->UInt8){c:Int}:∀{l:au},l.Nodup->c∈l->cV x l=x c^^^cV x (l.filter λd=>!decide (d=c))
 |[],_,h=>l9
 |d::l,hd,h=>by
  rw[wP]at hd;rcases qV.1 h with rfl|h
  ·have:l.filter (λd=>!decide (d=c))=l:=zW.2 λe f=>by
    have:e≠c:=λa=>hd.1 (a▸f);simp[this]
   rw[zp];simp only[decide_true,w4,zk,if_false];rw[this,cV]
  ·have b:d≠c:=λa=>hd.1 (a▸h);rw[zp,j1 p0,cV,cV,Bp x hd.2 h];ac_rfl
theorem Sw(x y:Int->UInt8):∀l,cV (λc=>x c^^^y c) l=cV x l^^^cV y l
 |[]=>by simp[cV]
 |c::l=>by rw[cV,cV,cV,Sw x y l];ac_rfl
theorem GC:∀{x:Int->UInt8} {l:au},(∀c∈l,x c=0)->cV x l=0
 |_,[],_=>rfl
 |x,c::l,h=>by rw[cV,h c k9,GC λd a=>h d o7];rfl
def cW(V:aM)(a:Row)(l:au):Row:=l.foldl (λa c=>cY 1 (aC V c.toNat) a) a
theorem ka{V:aM}{m:Nat}:∀{l:au} {a:Row},j9 a=m->(∀c∈l,j9 (aC V c.toNat)=m)->j9 (cW V a l)=m
 |[],a,h,_=>h
 |c::l,a,h,hv=>by
  rw[cW,zC];exact ka (l:=l) (by rw[bX (by rw[hv c k9,h])];exact h) λd b=>hv d p0
theorem Kw{V:aM}{m:Nat}(j:Nat):∀{l:au} {a:Row},j9 a=m->(∀c∈l,j9 (aC V c.toNat)=m)->aN (cW V a l) j=aN a j^^^cV (λc=>aN (aC V c.toNat) j) l
 |[],a,_,_=>by simp[cW,cV]
 |c::l,a,h,hv=>by
  have b:j9 (aC V c.toNat)=j9 a:=by rw[hv c k9,h]
  rw[cW,zC];have:=Kw (V:=V) j (l:=l) (a:=cY 1 (aC V c.toNat) a) (by rw[bX b];exact h) λd e=>hv d t8;rw[cW]at this;rw[this,cN b,Gf.one_mul,cV];ac_rfl
def Sat(t:UInt8)(k:Nat)(x:Int->UInt8)(e:fu):Prop:=cV x e.1=Gf.mul t (aN e.2 k)
structure jc (n w:Nat) (e:fu):Prop where
 cZ:∀c∈e.1,0<=c/\c<(n:Int)
 nodup:e.1.Nodup
 len:j9 e.2=w
def kn(known:List Bool)(c:Int):Bool:=known.getD c.toNat eS
def fx(known:List Bool)(vals:aM)(e:fu):fu:=(e.1.filter λc=>!kn known c,cW vals e.2 (e.1.filter λc=>kn known c))
structure kb (n w:Nat) (l:List fu) (known:List Bool) (vals:aM):Prop where
 klen:j9 known=n
 vlen:j9 vals=n
 row:∀c:Nat,c<n->j9 (aC vals c)=if known.getD c eS then w else 0
 sound:∀t k x,k<w->(∀e∈l,Sat t k x e)->∀c:Int,0<=c->c<(n:Int)->kn known c=eR->x c=Gf.mul t (aN (aC vals c.toNat) k)
section
variable {n w:Nat} {l:List fu} {known:List Bool} {vals:aM}
theorem XN(n w:Nat)(l:List fu):kb n w l (qg n eS) (qg n []):=by
 refine⟨k9,k9,λc b=>?_,λt k x f d c h0 e a=>?_⟩
 ·rw[bv m5];simp[qe,b]
 ·exfalso;rw[kn,qe,List.getElem?_replicate]at a;split at a<;>simp at a
theorem kb.GD(h:kb n w l known vals){c:Int}(b:0<=c)(d:c<(n:Int))(a:kn known c=eR):j9 (aC vals c.toNat)=w:=by have:=h.row c.toNat k4;rw[kn]at a;rw[a]at this;simpa using this
theorem kb.CM(h:kb n w l known vals){e:fu}(b:jc n w e):jc n w (fx known vals e):=
 ⟨λc d=>b.cZ c (qH.1 d).1,b.nodup.filter _,ka b.len λc d=>by
  have a:=qH.1 d;exact h.GD (b.cZ c a.1).1 (b.cZ c a.1).2 a.2⟩
theorem kb.IP(h:kb n w l known vals){e:fu}(g:jc n w e){t:UInt8}{k:Nat}{x:Int->UInt8}(o:∀c:Int,0<=c->c<(n:Int)->kn known c=eR->x c=Gf.mul t (aN (aC vals c.toNat) k)):
  Sat t k x (fx known vals e)↔Sat t k x e:=by
 have d:∀c∈e.1.filter λc=>kn known c,j9 (aC vals c.toNat)=w:=λc f=>by
  have b:=qH.1 f;exact h.GD (g.cZ c b.1).1 (g.cZ c b.1).2 b.2
 have j:cV x (e.1.filter λc=>kn known c)=Gf.mul t (cV (λc=>aN (aC vals c.toNat) k) (e.1.filter λc=>kn known c)):=by
  rw[kI (y:=λc=>Gf.mul t (aN (aC vals c.toNat) k)) λc f=>o c (g.cZ c (qH.1 f).1).1 (g.cZ c (qH.1 f).1).2 (qH.1 f).2];generalize e.1.filter (λc=>kn known c)=m
  induction m with
  |nil=>simp[cV,Gf.mul_zero]
  |cons a m ih=>rw[cV,cV,Gf.kv,ih]
 unfold Sat fx;dsimp only;rw[Kw k g.len d,Gf.kv,<-j,Jt x (λc=>kn known c) e.1];constructor
 ·intro i;rw[i];rw[vg,sk]
 ·intro i;rw[<-i];rw[vg (cV x (e.1.filter λc=>kn known c)),sk]
theorem ahe{known:List Bool}{c d:Int}(b:0<=c)(a:0<=d)(e:c<(j9 known:Int)):kn (known.set c.toNat eR) d=(decide (d=c)||kn known d):=by
 unfold kn;rw[qe,zb];by_cases h:d=c
 ·subst h;rw[j1 k0,j1 k4];simp
 ·rw[j3 k4];simp[h]
theorem ZY(h:kb n w l known vals)(o:∀e∈l,jc n w e){e:fu}(g:e∈l){c:Int}(m:(fx known vals e).1=[c]):kb n w l (known.set c.toNat eR) (vals.set c.toNat (fx known vals e).2):=by
 have b:=h.CM (o e g);have f:=b.cZ c (by rw[m];simp);have r:=h.vlen;have i:=h.klen;refine⟨by simp[i],by simp[r],λd u=>?_,λt k x q j d h0 s p=>?_⟩
 ·rw[lF,qe,zb];by_cases a:c.toNat=d
  ·subst a;simp[show c.toNat<j9 known by omega,b.len]
  ·rw[j3 a,j3 a,h.row d u,qe]
 ·rw[ahe f.1 h0 k4]at p;rw[lF];by_cases a:d=c
  ·subst a;rw[j1 rfl];have:=(h.IP (o e g) (h.sound t k x q j)).2 (j e g);unfold Sat at this;rw[m]at this;simpa[cV]using this
  ·rw[j3 k4];exact h.sound t k x q j d h0 s (by simpa[a]using p)
theorem GF(h:kb n w l known vals)(e:fu):∀c∈(fx known vals e).1,kn known c=eS:=λc a=>by
 have:=(qH.1 a).2;simpa using this
def bf(known:List Bool)(vals:aM)(l:List fu):List fu:=(l.map (fx known vals)).filter λe=>!e.1.isEmpty
def kJ(known:List Bool)(vals:aM)(l:List fu):Bool:=(l.map (fx known vals)).any λe=>e.1.isEmpty&&e.2.any (· !=0)
theorem Sx(h:kb n w l known vals)(f:∀e∈l,jc n w e)(i:kJ known vals l=eS){t:UInt8}{k:Nat}{x:Int->UInt8}(o:k<w):
  (∀e∈l,Sat t k x e)↔(∀c:Int,0<=c->c<(n:Int)->kn known c=eR->x c=Gf.mul t (aN (aC vals c.toNat) k))/\∀e∈bf known vals l,Sat t k x e:=by
 constructor
 ·intro g;refine⟨h.sound t k x o g,λe b=>?_⟩;obtain⟨j,d,rfl⟩:=qo.1 (qH.1 b).1;exact(h.IP (f j d) (h.sound t k x o g)).2 (g j d)
 ·rintro⟨p,r⟩ e b;refine(h.IP (f e b) p).1 ?_;by_cases a:(fx known vals e).1=[]
  ·unfold Sat;rw[a,cV];have m:((fx known vals e).1.isEmpty&&(fx known vals e).2.any (· !=0))=eS:=by have:=wG.1 i _ (List.mem_map_of_mem b);simpa using this
   rw[a]at m;have q:∀y∈(fx known vals e).2,y=0:=v2
   have h3:=(h.CM (f e b)).len;have:aN (fx known vals e).2 k=0:=by rw[aN,qe,qd k4];exact q _ (qh _)
   rw[this,Gf.mul_zero]
  ·refine r _ (qH.2 ⟨List.mem_map_of_mem b,?_⟩);simpa using a
theorem XO(h:kb n w l known vals)(i:∀e∈l,jc n w e)(f:kJ known vals l=eR):∃k,k<w/\∀x:Int->UInt8,¬∀e∈l,Sat 1 k x e:=by
 obtain⟨y,m,c⟩:=wc.1 f;obtain⟨e,b,rfl⟩:=qo.1 m;rw[qz]at c;obtain⟨z,p,a⟩:=wc.1 c.2;obtain⟨k,o,rfl⟩:=qK p;have h3:=(h.CM (i e b)).len;refine⟨k,k4,λx j=>?_⟩;have d:=(h.IP (i e b) (h.sound 1 k x k4 j)).2 (j e b);unfold Sat at d;have g:(fx known vals e).1=[]:=by simpa using c.1
 rw[g,cV,Gf.one_mul,aN,qe,qd o]at d;simp at a;exact a d.symm
end
def ko(op:List Bool)(c:Int):Bool:=op.getD c.toNat eS
def de(op:List Bool)(r:au):au:=r.filter (ko op)
def mP(rows:bz)(op us:List Bool)(i:Nat):Bool:=!(us.getD i eS)&&j9 (de op (rows.getD i []))==1
def mQ(rows:bz)(op us:List Bool):Option Nat:=(qx rows.length).find? (mP rows op us)
def fm(rows:bz)(op:List Bool)(i:Nat):Int:=(de op (rows.getD i [])).getLast?.getD 0
def kK(a:au)(r:au):au:=r.foldl (λa c=>a.set c.toNat (a.getD c.toNat 0+1)) a
def lH(g:Nat->au->au)(rows:bz)(us:List Bool)(a:au):Nat->au
 |0=>a
 |k+1=>if us.getD k eS then lH g rows us a k else kK (lH g rows us a k) (g k (rows.getD k []))
def iY(op:List Bool)(a:au):Nat->Int
 |0=>-1
 |k+1=>if op.getD k eS&&(decide (iY op a k<0)||decide (a.getD k 0>a.getD (iY op a k).toNat 0))then(k:Int)else iY op a k
def ic(rows:bz)(op us:List Bool):Int:=iY op (lH (λ_ r=>r) rows us (qg op.length 0) rows.length) op.length
structure Pl where
 steps:List (Int×Int)
 dead:au
 used:List Bool
def cJ(rows:bz):Nat->List Bool->List Bool->Pl
 |0,_,us=>⟨[],[],us⟩
 |k+1,op,us=>
  if op.contains eR then
   match mQ rows op us with
   |some i=>let r:=cJ rows k (op.set (fm rows op i).toNat eS) (us.set i eR);⟨((i:Int),fm rows op i)::r.steps,r.dead,r.used⟩
   |none=>let r:=cJ rows k (op.set (ic rows op us).toNat eS) us;⟨r.steps,ic rows op us::r.dead,r.used⟩
  else⟨[],[],us⟩
def fF(us:List Bool):Nat->au
 |0=>[]
 |k+1=>if us.getD k eS then fF us k else fF us k++[(k:Int)]
def dN(n:Nat)(rows:bz):Pl:=cJ rows n (qg n eR) (qg rows.length eS)
theorem ZZ{P:Nat->Bool}{n:Nat}(h:∀j,j<n->P j=eS):(qx n).find? P=none:=by rw[yh];intro x a;rw[qD]at a;simp[h x a]
theorem aaa{P:Nat->Bool}{n k:Nat}(f:k<n)(h:∀j,j<k->P j=eS)(e:P k=eR):(qx n).find? P=dB k:=by
 rw[List.find?_eq_some_iff_append];refine⟨e,qx k,zM (k+1) (n-k-1),?_,λa b=>?_⟩
 ·rw[yL,yL];have c:n=k+(n-k):=k4
  have d:n-k=(n-k-1)+1:=k4
  conv=>lhs;rw[c,<-List.range'_append_1 (s:=0) (m:=k) (n:=n-k)]
  rw[z6]
  conv=>lhs;rw[d,yf]
 ·rw[qD]at b;simp[h a b]
theorem UO(a r:au)(c:Int):kK a (r++[c])=(kK a r).set c.toNat ((kK a r).getD c.toNat 0+1):=by simp[kK]
theorem EV(b r:au):j9 (kK b r)=j9 b:=by
 induction r generalizing b with
 |nil=>rfl
 |cons a t ih=>simp only[kK,zC]at*;rw[ih];simp
theorem DX(g:Nat->au->au)(rows:bz)(us:List Bool)(a:au):∀k,j9 (lH g rows us a k)=j9 a
 |0=>rfl
 |k+1=>by
  unfold lH;split
  ·exact DX g rows us a k
  ·rw[EV,DX g rows us a k]
theorem GG{m:Int}:∀{r b:au},(∀x∈b,0<=x/\x<=m)->∀x∈kK b r,0<=x/\x<=m+j9 r
 |[],b,h,x,hx=>by have:=h x hx;simp;omega
 |a::t,b,h,x,hx=>by
  have d:∀y∈b.set a.toNat (b.getD a.toNat 0+1),0<=y/\y<=m+1:=by
   intro y c;rcases List.mem_or_eq_of_mem_set c with c|c
   ·have:=h y c;omega
   ·subst c;rw[qe];cases hc:b[a.toNat]? with
    |none=>
     rw[List.getElem?_eq_none_iff]at hc;rw[List.set_eq_of_length_le hc]at c;have:=h _ c;rw[qe,qQ hc]at this;simp at this⊢;omega
    |some z=>have:=h z (List.mem_of_getElem? hc);simp;omega
  have:=GG (r:=t) d x hx;simp only[zm];omega
theorem Sy(g:Nat->au->au){rows:bz}{us:List Bool}{n:Nat}(a:∀k,j9 (g k (rows.getD k []))<=64):∀k,∀x∈lH g rows us (qg n 0) k,0<=x/\x<=64*k
 |0,x,hx=>by
  have:=List.eq_of_mem_replicate hx;subst this;simp
 |k+1,x,hx=>by
  unfold lH at hx;split at hx
  ·have:=Sy g a k x hx;omega
  ·have:=GG (Sy g a k) x hx;have:=a k;omega
theorem Pp(op:List Bool)(a:au):∀k,(iY op a k=-1/\∀j,j<k->op.getD j eS=eS)∨(0<=iY op a k/\iY op a k<k/\op.getD (iY op a k).toNat eS=eR)
 |0=>.inl ⟨k0,λj c=>k4⟩
 |k+1=>by
  unfold iY;split
  ·rename_i b;simp only[qz]at b;exact .inr ⟨k4,k4,by rw[qn];exact b.1⟩
  ·rename_i b;rcases Pp op a k with⟨e,h⟩|⟨h1,h2,h3⟩
   ·refine .inl ⟨e,λj c=>?_⟩;rcases zu.1 c with c|rfl
    ·exact h j c
    ·by_cases d:op.getD j eS=eR
     ·exact absurd (by rw[d,e];rfl) b
     ·simpa using d
   ·exact .inr ⟨h1,k4,h3⟩
theorem GH{op:List Bool}(h:op.contains eR=eR):∃j,j<j9 op/\op.getD j eS=eR:=by simp only[List.contains_iff_mem]at h;obtain⟨j,a,e⟩:=qK h;exact⟨j,a,by rw[qe,qd a];exact e⟩
theorem tf{rows:bz}{op us:List Bool}(h:op.contains eR=eR):0<=ic rows op us/\ic rows op us<j9 op/\op.getD (ic rows op us).toNat eS=eR:=by
 obtain⟨j,a,e⟩:=GH h;rcases Pp op (lH (λ_ r=>r) rows us (qg op.length 0) rows.length) op.length with⟨_,h2⟩|h2
 ·rw[h2 j a]at e;cases e
 ·exact h2
theorem uT{rows:bz}{op us:List Bool}{i:Nat}(h:mQ rows op us=dB i):i<j9 rows/\mP rows op us i=eR:=by have b:=List.mem_of_find?_eq_some h;have a:=List.find?_some h;exact⟨qD.1 b,a⟩
theorem DY{rows:bz}{op us:List Bool}{i:Nat}(d:mP rows op us i=eR):de op (rows.getD i [])=[fm rows op i]/\fm rows op i∈rows.getD i []/\ko op (fm rows op i)=eR:=by
 simp only[mP,qz,beq_iff_eq]at d;obtain⟨c,a⟩:=List.length_eq_one_iff.1 d.2;have e:fm rows op i=c:=by unfold fm;rw[a];rfl
 have b:c∈de op (rows.getD i []):=by rw[a];simp
 rw[de,qH]at b;rw[e];exact⟨a,b.1,b.2⟩
theorem lh{op:List Bool}{j:Nat}(h:op.getD j eS=eR):(op.set j eS).count eR+1=op.count eR:=by
 have a:j<j9 op:=by
  by_cases a:j<j9 op
  ·exact a
  ·rw[qe,qQ k4]at h;cases h
 have e:op[j]=eR:=by rw[qe,qd a]at h;exact h
 have b:0<op.count eR:=List.count_pos_iff.2 (e▸qh a);rw[List.count_set a,e];simp;omega
theorem Sz{op:List Bool}(h:op.count eR=0):op.contains eR=eS:=by rw[List.count_eq_zero]at h;simpa using h
theorem Bq{rows:bz}{op us:List Bool}(h:op.contains eR=eS):∀k,cJ rows k op us=⟨[],[],us⟩
 |0=>rfl
 |k+1=>by unfold cJ;rw[h];rfl
theorem oW{rows:bz}{op us:List Bool}{i k:Nat}(h:op.contains eR=eR)(a:mQ rows op us=dB i):
  cJ rows (k+1) op us=⟨((i:Int),fm rows op i)::(cJ rows k (op.set (fm rows op i).toNat eS) (us.set i eR)).steps,(cJ rows k (op.set (fm rows op i).toNat eS) (us.set i eR)).dead,(cJ rows k (op.set (fm rows op i).toNat eS) (us.set i eR)).used⟩:=by
 rw[cJ,h,a];rfl
theorem oX{rows:bz}{op us:List Bool}{k:Nat}(h:op.contains eR=eR)(a:mQ rows op us=none):
  cJ rows (k+1) op us=⟨(cJ rows k (op.set (ic rows op us).toNat eS) us).steps,ic rows op us::(cJ rows k (op.set (ic rows op us).toNat eS) us).dead,(cJ rows k (op.set (ic rows op us).toNat eS) us).used⟩:=by
 rw[cJ,h,a];rfl
theorem ul(rows:bz):∀k op us,(cJ rows k op us).used.length=j9 us
 |0,_,_=>rfl
 |k+1,op,us=>by
  unfold cJ;split
  ·split
   ·show(cJ rows k _ _).used.length=_;rw[ul];simp
   ·show(cJ rows k _ _).used.length=_;rw[ul]
  ·rfl
theorem IQ(us:List Bool):∀k,j9 (fF us k)<=k
 |0=>by simp[fF]
 |k+1=>by
  have:=IQ us k;unfold fF;split<;>simp<;>omega
theorem uz{op:List Bool}{f:Nat}(h:op.count eR=f+1):op.contains eR=eR:=by
 have:0<op.count eR:=k4
 rw[List.count_pos_iff]at this;simpa using this
theorem UP{P:Nat->Bool}{n j:Nat}(a:j<n)(h:P j=eR):∃i,(qx n).find? P=dB i:=by
 cases hf:(qx n).find? P with
 |some i=>exact⟨i,k0⟩
 |none=>
  rw[yh]at hf;exact absurd h (hf j (qD.2 a))
theorem jM(l:List Bool)(i j:Nat)(x:Bool):(l.set i x).getD j eS=if i=j/\j<j9 l then x else l.getD j eS:=by
 simp only[qe,zb];by_cases h:i=j
 ·subst h;by_cases a:i<j9 l<;>simp[a]
 ·simp[h]
def xU(rows:bz)(op us:List Bool):Prop:=∀i,us.getD i eS=eR->de op (rows.getD i [])=[]
theorem nE{op:List Bool}{c d:Int}(h:ko (op.set d.toNat eS) c=eR):ko op c=eR/\c.toNat≠d.toNat:=by
 unfold ko at*;rw[jM]at h;by_cases e:d.toNat=c.toNat
 ·rw[j1]at h
  ·cases h
  ·refine⟨e,?_⟩;by_cases b:c.toNat<j9 op
   ·exact b
   ·rw[j3 λa=>b a.2,qe,qQ k4]at h;cases h
 ·rw[j3 λa=>e a.1]at h;exact⟨h,λa=>e a.symm⟩
theorem aab{rows:bz}{op us:List Bool}{i:Nat}(g:xU rows op us)(l:mP rows op us i=eR):xU rows (op.set (fm rows op i).toNat eS) (us.set i eR):=by
 obtain⟨m,n,h3⟩:=DY l;intro j f;rw[jM]at f;rw[de,wB];intro c k b;obtain⟨b,d⟩:=nE b;have a:c∈de op (rows.getD j []):=by rw[de,qH];exact⟨k,b⟩
 by_cases e:i=j
 ·subst e;rw[m]at a;simp at a;exact d (by rw[a])
 ·rw[j3 λh=>e h.1]at f;rw[g j f]at a;simp at a
theorem GI(n j:Nat):(qg n eS).getD j eS=eS:=by
 rw[qe];by_cases h:j<n
 ·rw[qd l6];simp
 ·rw[qQ l6];rfl
theorem ahf{rows:bz}{r:au}(h:r∈rows):∃j,j<j9 rows/\rows.getD j []=r:=by obtain⟨j,a,e⟩:=qK h;exact⟨j,a,by rw[qe,qd a];exact e⟩
def other(m i:Nat):Nat:=if i<m then i else i+1
def th(rows:bz):(Int->Prop)->(Int->Prop)->List (Int×Int)->Prop
 |_,_,[]=>True
 |D,U,(i,c)::t=>(0<=i/\i<j9 rows)/\¬U i/\¬D c/\c∈rows.getD i.toNat []/\(∀a∈rows.getD i.toNat [],a≠c->D a)/\th rows (λx=>D x∨x=c) (λx=>U x∨x=i) t
def aiI(op:List Bool)(c:Int):Prop:=0<=c/\ko op c=eR
theorem aac{op:List Bool}{c:Int}(h:ko op c=eR):c.toNat<j9 op:=by
 by_cases a:c.toNat<j9 op
 ·exact a
 ·unfold ko at h;rw[qe,qQ k4]at h;cases h
theorem WG{op:List Bool}{c d:Int}(f:0<=c)(b:0<=d):ko op c=eR->c≠d->ko (op.set d.toNat eS) c=eR:=by intro h a;unfold ko;rw[jM,j3 λe=>a k4];exact h
theorem uU{op:List Bool}{d:Int}(h:ko op d=eR):ko (op.set d.toNat eS) d=eS:=by unfold ko;rw[jM,j1 ⟨k0,aac h⟩]
structure ain (rows:bz) (op us:List Bool) (r:Pl):Prop where
 cZ:j9 r.steps+j9 r.dead=op.count eR
 used:r.used.count eR=us.count eR+j9 r.steps
 keepU:∀i,us.getD i eS=eR->r.used.getD i eS=eR
 dead:∀c∈r.dead,aiI op c
 deadN:r.dead.Nodup
 good:∀D U:Int->Prop,(∀c:Int,0<=c->c<j9 op->(D c↔ko op c=eS∨c∈r.dead))->(∀i:Nat,i<j9 rows->(U i↔us.getD i eS=eR∨r.used.getD i eS=eS))->th rows D U r.steps
theorem adb{us:List Bool}{i:Nat}(h:us.getD i eS=eS)(a:i<j9 us):(us.set i eR).count eR=us.count eR+1:=by
 have e:us[i]=eS:=by rw[qe,qd a]at h;exact h
 rw[List.count_set a,e];simp
theorem SB{rows:bz}{n:Nat}(b:∀r∈rows,∀c∈r,0<=c/\c<n):∀k op us,j9 op=n->j9 us=j9 rows->op.count eR=k->ain rows op us (cJ rows k op us)
 |0,op,us,hl,hul,hc=>⟨by simp[cJ,hc],by simp[cJ],λi h=>h,λc h=>by simp[cJ]at h,by simp[cJ],λ_ _ _ _=>trivial⟩
 |k+1,op,us,hl,hul,hc=>by
  have p:=uz hc;cases hst:mQ rows op us with
  |some i=>
   obtain⟨l,q⟩:=uT hst;obtain⟨N,I,h3⟩:=DY q;have f:rows.getD i []=rows[i]:=by rw[qe,qd l];rfl
   have x:=b _ (qh l) _ (f▸I);have A:=lh (op:=op) (j:=(fm rows op i).toNat) h3;have w:us.getD i eS=eS:=by simp only[mP,qz,wE]at q;exact q.1
   have M:=adb w k4;have a:=SB b k (op.set (fm rows op i).toNat eS) (us.set i eR) (by simp[hl]) (by simp[hul]) k4;rw[oW p hst];generalize cJ rows k (op.set (fm rows op i).toNat eS) (us.set i eR)=r at a;generalize K:fm rows op i=c at*;have F:r.used.getD i eS=eR:=a.keepU i (by rw[jM,j1 ⟨k0,k4⟩]);have t:c∉r.dead:=λh=>by
    have:=(a.dead c h).2;rw[uU h3]at this;cases this
   refine⟨by simp only[zm];have:=a.cZ;omega,by simp only[zm];have:=a.used;omega,λj z=>a.keepU j (by rw[jM];split;rfl;exact z),λd s=>⟨(a.dead d s).1,(nE (a.dead d s).2).1⟩,a.deadN,λD U v y=>?_⟩;have o:rows.getD ((i:Int)).toNat []=rows.getD i []:=by rw[qn]
   refine⟨k4,?_,?_,by rw[o];exact I,?_,?_⟩
   ·rw[y i l,w,F];simp
   ·rw[v c x.1 k4,h3];simp[t]
   ·intro G u E;rw[o]at u;have B:=b _ (qh l) _ (f▸u);refine(v G B.1 k4).2 (.inl ?_);cases ho:ko op G with
    |false=>rfl
    |true=>
     have:G∈de op (rows.getD i []):=by rw[de,qH];exact⟨u,ho⟩
     rw[N]at this;simp at this;exact absurd this E
   ·refine a.good _ _ (λd m g=>?_) (λj z=>?_)
    ·simp only[zF]at g;rw[v d m g];by_cases e:d=c
     ·subst e;simp[uU h3]
     ·cases ho:ko op d with
      |true=>rw[WG m x.1 ho e];simp[e]
      |false=>
       have:ko (op.set c.toNat eS) d=eS:=by
        cases hh:ko (op.set c.toNat eS) d with
        |false=>rfl
        |true=>rw[(nE hh).1]at ho;cases ho
       rw[this];simp
    ·rw[y j z,jM];by_cases e:i=j
     ·subst e;simp[hul,l]
     ·have L:¬((j:Int)=(i:Int)):=λh=>e k4;simp[e,L]
  |none=>
   obtain⟨J,O,H⟩:=tf (rows:=rows) (us:=us) p;have A:=lh (op:=op) (j:=(ic rows op us).toNat) H;have a:=SB b k (op.set (ic rows op us).toNat eS) us (by simp[hl]) hul k4;rw[oX p hst];generalize cJ rows k (op.set (ic rows op us).toNat eS) us=r at a;generalize ic rows op us=c at*;have h3:ko op c=eR:=H;have t:c∉r.dead:=λh=>by
    have:=(a.dead c h).2;rw[uU h3]at this;cases this
   refine⟨by simp only[zm];have:=a.cZ;omega,a.used,a.keepU,λd s=>?_,by simp only[wP];exact⟨t,a.deadN⟩,λD U v y=>?_⟩
   ·rcases qV.1 s with rfl|s
    ·exact⟨J,h3⟩
    ·exact⟨(a.dead d s).1,(nE (a.dead d s).2).1⟩
   ·refine a.good D U (λd m g=>?_) y;simp only[zF]at g;rw[v d m g];by_cases e:d=c
    ·subst e;simp[uU h3]
    ·have:ko (op.set c.toNat eS) d=ko op d:=by
      cases ho:ko op d with
      |true=>exact WG m J ho e
      |false=>
       cases hh:ko (op.set c.toNat eS) d with
       |false=>rfl
       |true=>rw[(nE hh).1]at ho;cases ho
     rw[this];simp[e]
theorem DZ(us:List Bool):∀k (c:Int),c∈fF us k↔∃j:Nat,c=j/\j<k/\us.getD j eS=eS
 |0,c=>by simp[fF]
 |k+1,c=>by
  have e:=DZ us k c;unfold fF;cases h:us.getD k eS with
  |true=>
   simp only[if_true];rw[e];constructor
   ·rintro⟨j,a,b,d⟩;exact⟨j,a,k4,d⟩
   ·rintro⟨j,a,b,d⟩;refine⟨j,a,?_,d⟩;rcases zu.1 b with b|rfl
    ·exact b
    ·rw[h]at d;cases d
  |false=>
   simp only[zk,if_false,qA,qB];rw[e];constructor
   ·rintro(⟨j,a,b,d⟩|rfl)
    ·exact⟨j,a,k4,d⟩
    ·exact⟨k,k0,k4,h⟩
   ·rintro⟨j,a,b,d⟩;rcases zu.1 b with b|rfl
    ·exact .inl ⟨j,a,b,d⟩
    ·exact .inr a
theorem SC(us:List Bool):∀k,k<=j9 us->j9 (fF us k)+(us.take k).count eR=k
 |0,_=>by simp[fF]
 |k+1,hk=>by
  have a:=SC us k k4;have e:us.getD k eS=us[k]:=by rw[qe,qd k4];rfl
  unfold fF;rw[zG k4,List.count_append,e];cases us[k]<;>simp<;>omega
theorem xV{rows:bz}{n:Nat}(a:∀r∈rows,∀c∈r,0<=c/\c<n):
  (dN n rows).steps.length+(dN n rows).dead.length=n/\(dN n rows).steps.length+j9 (fF (dN n rows).used rows.length)=j9 rows/\(∀c∈(dN n rows).dead,0<=c/\c<n)/\(dN n rows).dead.Nodup/\
  (∀c∈fF (dN n rows).used rows.length,0<=c/\c<j9 rows)/\th rows (·∈(dN n rows).dead) (·∈fF (dN n rows).used rows.length) (dN n rows).steps:=by
 have h:=SB a n (qg n eR) (qg rows.length eS) k9 k9 k9;have p:(dN n rows).used.length=j9 rows:=by unfold dN;rw[ul];simp
 have e:=SC (dN n rows).used rows.length k4;rw[List.take_of_length_le k4]at e;refine⟨by have:=h.cZ;simpa[dN]using this,?_,λc d=>?_,h.deadN,λc d=>?_,?_⟩
 ·have:=h.used;have g:(qg rows.length eS).count eR=0:=by simp[List.count_replicate]
  rw[g]at this;unfold dN at*;omega
 ·obtain⟨h0,k⟩:=h.dead c d;have:=aac k;simp at this;omega
 ·obtain⟨j,rfl,f,_⟩:=(DZ _ _ _).1 d;omega
 ·refine h.good _ _ (λc o b=>?_) (λi m=>?_)
  ·have:ko (qg n eR) c=eR:=by simp at b;unfold ko;rw[qe,qd k8];simp
   rw[this];simp[dN]
  ·rw[GI,DZ];constructor
   ·rintro⟨j,f,_,l⟩;have:j=i:=k4
    subst this;exact .inr l
   ·rintro(hh|hh)
    ·cases hh
    ·exact⟨i,k0,m,hh⟩
theorem GJ{rows:bz}:∀k op us i,(cJ rows k op us).used.getD i eS=eR->us.getD i eS=eR∨∃c,((i:Int),c)∈(cJ rows k op us).steps
 |0,_,_,_,h=>.inl h
 |k+1,op,us,i,h=>by
  by_cases a:op.contains eR=eR
  ·cases hst:mQ rows op us with
   |some j=>
    rw[oW a hst]at h⊢;dsimp only at h⊢;rcases GJ k _ _ i h with h1|⟨c,hc⟩
    ·rw[jM]at h1;by_cases b:j=i
     ·subst b;exact .inr ⟨_,qI⟩
     ·rw[j3 λd=>b d.1]at h1;exact .inl h1
    ·exact .inr ⟨c,qC _ hc⟩
   |none=>
    rw[oX a hst]at h⊢;exact GJ k _ _ i h
  ·have a:op.contains eR=eS:=l7
   rw[Bq a]at h⊢;exact .inl h
theorem GK{rows:bz}{n:Nat}(a:∀r∈rows,∀c∈r,0<=c/\c<(n:Int)):∀k op us,j9 op=n->op.count eR=k->∀c:Nat,op.getD c eS=eR->
  (c:Int)∈(cJ rows k op us).dead∨∃i,(i,(c:Int))∈(cJ rows k op us).steps
 |0,op,us,hl,hc,c,h=>by
  have:=Sz hc;exfalso;have f:c<j9 op:=by
   by_cases g:c<j9 op
   ·exact g
   ·rw[qe,qQ k4]at h;cases h
  rw[List.count_eq_zero]at hc;rw[qe,qd f]at h;exact hc (h▸qh f)
 |k+1,op,us,hl,hc,c,h=>by
  have d:=uz hc;cases hst:mQ rows op us with
  |some j=>
   rw[oW d hst];obtain⟨l,o⟩:=uT hst;obtain⟨v,q,h3⟩:=DY o;have b:rows.getD j []=rows[j]:=by rw[qe,qd l];rfl
   have s:=a _ (qh l) _ (b▸q);have m:=lh (op:=op) (j:=(fm rows op j).toNat) h3;dsimp only;by_cases e:(fm rows op j).toNat=c
   ·exact .inr ⟨j,by rw[show((c:Nat):Int)=fm rows op j by omega];exact qI⟩
   ·rcases GK a k (op.set (fm rows op j).toNat eS) (us.set j eR) (by simp[hl]) k4 c (by rw[jM,j3 λg=>e g.1];exact h)with h5|⟨i,h5⟩
    ·exact .inl h5
    ·exact .inr ⟨i,qC _ h5⟩
  |none=>
   rw[oX d hst];obtain⟨t,u,p⟩:=tf (rows:=rows) (us:=us) d;have m:=lh (op:=op) (j:=(ic rows op us).toNat) p;dsimp only;by_cases e:(ic rows op us).toNat=c
   ·exact .inl (by rw[show((c:Nat):Int)=ic rows op us by omega];exact qI)
   ·rcases GK a k (op.set (ic rows op us).toNat eS) us (by simp[hl]) k4 c (by rw[jM,j3 λg=>e g.1];exact h)with h5|⟨i,h5⟩
    ·exact .inl (qC _ h5)
    ·exact .inr ⟨i,h5⟩
theorem XP{rows:bz}{op us:List Bool}{c:Int}(h:xU rows op us):xU rows (op.set c.toNat eS) us:=λi e=>by
 have:=h i e;rw[de,wB]at this⊢;exactλd a b=>this d a (nE b).1
theorem Ea{rows:bz}{c:Int}(m:[c]∈rows):∀k op us,xU rows op us->(∀d:Int,d<0->d∉(cJ rows k op us).dead)->0<=c->c∉(cJ rows k op us).dead
 |0,_,_,_,_,_=>by simp[cJ]
 |k+1,op,us,hu,_,h0=>by
  by_cases a:op.contains eR=eR
  ·cases hst:mQ rows op us with
   |some j=>
    rw[oW a hst];dsimp only;obtain⟨_,l⟩:=uT hst;exact Ea m k _ _ (aab hu l) (λd r b=>by
     have g:∀k op us,∀d∈(cJ rows k op us).dead,0<=d:=plan_dead0;have:=g _ _ _ d b;omega) h0
   |none=>
    rw[oX a hst];obtain⟨t,u,q⟩:=tf (rows:=rows) (us:=us) a;dsimp only;intro b;rcases qV.1 b with e|b
    ·obtain⟨j,p,f⟩:=ahf m;have n:de op [c]=[c]:=by rw[de,zp,j1 (show ko op c=eR by rw[e];exact q)];rfl
     have s:mP rows op us j=eR:=by
      unfold mP;rw[f,n];cases hus:us.getD j eS with
      |false=>rfl
      |true=>have:=hu j hus;rw[f,n]at this;cases this
     obtain⟨i,o⟩:∃i,mQ rows op us=dB i:=UP p s;rw[hst]at o;cases o
    ·exact Ea m k _ _ (XP hu) (λd r b=>by have:=plan_dead0 (rows:=rows) _ _ _ d b;omega) h0 b
  ·have a:op.contains eR=eS:=l7
   rw[Bq a];simp
where
 plan_dead0 {rows:bz}:∀k op us,∀d∈(cJ rows k op us).dead,0<=d
  |0,_,_,d,h=>by simp[cJ]at h
  |k+1,op,us,d,h=>by
   by_cases a:op.contains eR=eR
   ·cases hst:mQ rows op us with
    |some j=>rw[oW a hst]at h;exact plan_dead0 k _ _ d h
    |none=>
     rw[oX a hst]at h;rcases qV.1 h with rfl|h
     ·exact(tf a).1
     ·exact plan_dead0 k _ _ d h
   ·have a:op.contains eR=eS:=l7
    rw[Bq a]at h;simp at h
def tj(R:bz):(Int->Prop)->List (Int×Int)->Prop
 |_,[]=>True
 |D,(i,c)::t=>(0<=i/\i<j9 R)/\¬D c/\c∈R.getD i.toNat []/\(∀a∈R.getD i.toNat [],a≠c->D a)/\tj R (λx=>D x∨x=c) t
theorem Cd{R S:bz}{K:Int->Prop}(f:∀r∈R,∀c∈r,¬K c)(l:∀r∈S,∀c∈r,K c):∀{a:List (Int×Int)} {D D' U:Int->Prop},th (R++S) D U a->(∀c,¬K c->(D c↔D' c))->
  tj R D' (a.filter λp=>decide (p.1<j9 R))
 |[],_,_,_,_,_=>trivial
 |(i,c)::t,D,D',U,h,hD=>by
  obtain⟨w,z,h3,j,x,v⟩:=h;rw[zp];by_cases s:i<j9 R
  ·have e:(R++S).getD i.toNat []=R.getD i.toNat []:=by rw[qe,qp k4,qe]
   have g:R.getD i.toNat []∈R:=by rw[qe,qd k4];exact qh _
   rw[e]at j x;have q:=f _ g c j;rw[j1 v6];refine⟨⟨w.1,s⟩,λn=>h3 ((hD c q).2 n),j,λu b o=>(hD u (f _ g u b)).1 (x u b o),Cd f l v λd k=>?_⟩;rw[hD d k]
  ·rw[j3 v6];have g:(R++S).getD i.toNat []∈S:=by have m:=w.2;rw[qy]at m;rw[qe,qj k4,qd k4];exact qh _
   have q:=l _ g c j;refine Cd f l v λd k=>?_;rw[<-hD d k];exact⟨λn=>n.elim id λy=>absurd (y▸q) k,.inl⟩
def ev(t:UInt8)(k nd:Nat)(W M:aM)(y:Nat->UInt8)(c:Int):UInt8:=bU (λi=>aN (aC W c.toNat) i) y nd^^^Gf.mul t (aN (aC M c.toNat) k)
theorem Kx{a b:Row}(h:j9 a=j9 b)(c:UInt8)(y:Nat->UInt8)(n:Nat):bU (λj=>aN (cY c a b) j) y n=bU (λj=>aN b j) y n^^^Gf.mul c (bU (λj=>aN a j) y n):=by rw[fV n (λj _=>cN h j) λ_ _=>rfl];exact II _ _ _ _ _
theorem SD{V:aM}{m:Nat}(y:Nat->UInt8)(n:Nat):∀{l:au} {a:Row},j9 a=m->(∀c∈l,j9 (aC V c.toNat)=m)->bU (λj=>aN (cW V a l) j) y n=bU (λj=>aN a j) y n^^^cV (λc=>bU (λj=>aN (aC V c.toNat) j) y n) l
 |[],a,_,_=>by simp[cW,cV]
 |c::l,a,h,hv=>by
  have b:j9 (aC V c.toNat)=j9 a:=by rw[hv c k9,h]
  have:=SD (V:=V) y n (l:=l) (a:=cY 1 (aC V c.toNat) a) (by rw[bX b];exact h) λd e=>hv d t8;rw[cW,zC];rw[cW]at this;rw[this,Kx b,Gf.one_mul,cV];ac_rfl
theorem SE(t:UInt8)(x:Int->UInt8):∀l,cV (λc=>Gf.mul t (x c)) l=Gf.mul t (cV x l)
 |[]=>by simp[cV,Gf.mul_zero]
 |c::l=>by rw[cV,cV,Gf.kv,SE t x l]
theorem NX{W M:aM}{nd w:Nat}{l:au}{a m:Row}(e:j9 a=nd)(f:j9 m=w)(b:∀c∈l,j9 (aC W c.toNat)=nd)(d:∀c∈l,j9 (aC M c.toNat)=w)(t:UInt8)(k:Nat)(y:Nat->UInt8):
  bU (λj=>aN (cW W a l) j) y nd^^^Gf.mul t (aN (cW M m l) k)=(bU (λj=>aN a j) y nd^^^Gf.mul t (aN m k))^^^cV (ev t k nd W M y) l:=by
 rw[SD y nd e b,Kw k f d,Gf.kv];have:cV (ev t k nd W M y) l=cV (λc=>bU (λj=>aN (aC W c.toNat) j) y nd) l^^^Gf.mul t (cV (λc=>aN (aC M c.toNat) k) l):=by rw[<-SE,<-Sw];rfl
 rw[this];ac_rfl
def ie(rest:List fu)(nd:Nat)(s:aM×aM)(p:Int×Int):aM×aM:=
 let r:=rest.getD p.1.toNat ([],[])
 (s.1.set p.2.toNat (cW s.1 (aK nd) (r.1.filter λc=>!decide (c=p.2))),s.2.set p.2.toNat (cW s.2 r.2 (r.1.filter λc=>!decide (c=p.2))))
structure WOk (n nd w:Nat) (D:Int->Prop) (W M:aM):Prop where
 wl:j9 W=n
 ml:j9 M=n
 rw_:∀c:Int,D c->0<=c->c<(n:Int)->j9 (aC W c.toNat)=nd/\(aC M c.toNat).length=w
theorem Eb{W M a b:aM}{t:UInt8}{k nd:Nat}{y:Nat->UInt8}{c:Int}(e:aC a c.toNat=aC W c.toNat)(d:aC b c.toNat=aC M c.toNat):ev t k nd a b y c=ev t k nd W M y c:=by unfold ev;rw[e,d]
theorem Ky{n nd w:Nat}{rest:List fu}(B:∀e∈rest,jc n w e):∀{a:List (Int×Int)} {D:Int->Prop} {W M:aM},tj (rest.map qM) D a->WOk n nd w D W M->
  WOk n nd w (λc=>D c∨∃i,(i,c)∈a) (a.foldl (ie rest nd) (W,M)).1 (a.foldl (ie rest nd) (W,M)).2/\
  (∀c:Int,D c->0<=c->aC (a.foldl (ie rest nd) (W,M)).1 c.toNat=aC W c.toNat/\aC (a.foldl (ie rest nd) (W,M)).2 c.toNat=aC M c.toNat)/\
  (∀p∈a,∀t k y,k<w->Sat t k (ev t k nd (a.foldl (ie rest nd) (W,M)).1 (a.foldl (ie rest nd) (W,M)).2 y) (rest.getD p.1.toNat ([],[])))/\
  (∀t k x y,k<w->(∀c:Int,D c->0<=c->c<(n:Int)->x c=ev t k nd W M y c)->(∀p∈a,Sat t k x (rest.getD p.1.toNat ([],[])))->∀c:Int,(D c∨∃i,(i,c)∈a)->0<=c->c<(n:Int)->x c=ev t k nd (a.foldl (ie rest nd) (W,M)).1 (a.foldl (ie rest nd) (W,M)).2 y c)
 |[],D,W,M,_,hw=>⟨⟨hw.wl,hw.ml,λc P=>hw.rw_ c (P.elim id λ⟨i,h⟩=>l9)⟩,λ_ _ _=>⟨k0,k0⟩,λp r=>by(cases r),λt k x y N J _ c P h0 o=>J c (P.elim id λ⟨i,h⟩=>l9) h0 o⟩
 |(i,c)::st,D,W,M,hg,hw=>by
  obtain⟨g1,g2,O,g4,g5⟩:=hg;have u:i.toNat<j9 rest:=by have:=g1.2;rw[qw]at this;omega
  obtain⟨e,U⟩:∃e,e=rest[i.toNat]:=⟨_,rfl⟩
  have Q:rest.getD i.toNat ([],[])=e:=by rw[qe,qd u,U];rfl
  have ah:(rest.map qM).getD i.toNat []=e.1:=by rw[qe,List.getElem?_map,qd u,U];rfl
  rw[ah]at O g4;have l:=B e (U▸qh u);have ad:=l.cZ c O;obtain⟨F,L⟩:∃F,F=e.1.filter (λd=>!decide (d=c)):=⟨_,rfl⟩
  have q:∀d∈F,d∈e.1/\d≠c:=λd b=>by rw[L,qH]at b;exact⟨b.1,by simpa using b.2⟩
  have f:∀d∈F,D d/\0<=d/\d<(n:Int):=λd b=>⟨g4 d (q d b).1 (q d b).2,l.cZ d (q d b).1⟩
  have l1:∀d∈F,j9 (aC W d.toNat)=nd:=λd b=>(hw.rw_ d (f d b).1 (f d b).2.1 (f d b).2.2).1;have l2:∀d∈F,j9 (aC M d.toNat)=w:=λd b=>(hw.rw_ d (f d b).1 (f d b).2.1 (f d b).2.2).2;have lz:j9 (aK nd)=nd:=mn
  have R:ie rest nd (W,M) (i,c)=(W.set c.toNat (cW W (aK nd) F),M.set c.toNat (cW M e.2 F)):=by unfold ie;dsimp only;rw[Q,<-L]
  have S:=hw.wl;have Y:=hw.ml;have G:∀d:Nat,aC (W.set c.toNat (cW W (aK nd) F)) d=if c.toNat=d then cW W (aK nd) F else aC W d:=λd=>lF
  have A:∀d:Nat,aC (M.set c.toNat (cW M e.2 F)) d=if c.toNat=d then cW M e.2 F else aC M d:=λd=>lF
  have V:WOk n nd w (λx=>D x∨x=c) (W.set c.toNat (cW W (aK nd) F)) (M.set c.toNat (cW M e.2 F)):=by
   refine⟨by simp[S],by simp[Y],λd b h0 o=>?_⟩;rw[G,A];by_cases g:c.toNat=d.toNat
   ·rw[j1 g,j1 g];exact⟨ka lz l1,ka l.len l2⟩
   ·rw[j3 g,j3 g];exact hw.rw_ d (b.elim id λK=>absurd (by rw[K]) g) h0 o
  obtain⟨H,T,r3,r4⟩:=Ky B g5 V;rw[zC,R];generalize st.foldl (ie rest nd) (W.set c.toNat (cW W (aK nd) F),M.set c.toNat (cW M e.2 F))=s at H T r3 r4;have z:∀d:Int,D d->0<=d->c.toNat≠d.toNat:=λd b h0 K=>g2 (by rw[show c=d by omega];exact b);have keep:∀d:Int,D d->0<=d->aC s.1 d.toNat=aC W d.toNat/\aC s.2 d.toNat=aC M d.toNat:=λd b h0=>by
   have:=T d (.inl b) h0;rw[G,A,j3 (z d b h0),j3 (z d b h0)]at this;exact this
  have Z:∀t k y,ev t k nd s.1 s.2 y c=Gf.mul t (aN e.2 k)^^^cV (ev t k nd W M y) F:=λt k y=>by
   have X:=T c (.inr k0) ad.1;rw[G,A,j1 rfl,j1 rfl]at X;unfold ev;rw[X.1,X.2,NX lz l.len l1 l2 t k y,fR _ _ nd λj _=>cz _ _,wm];rfl
  have v:∀t k y,cV (ev t k nd s.1 s.2 y) F=cV (ev t k nd W M y) F:=λt k y=>kI λd b=>Eb (keep d (f d b).1 (f d b).2.1).1 (keep d (f d b).1 (f d b).2.1).2;refine⟨⟨H.wl,H.ml,λd b h0 o=>H.rw_ d ?_ h0 o⟩,keep,λp r t k y N=>?_,λt k x y N J hs d b h0 o=>?_⟩
  ·rcases b with b|⟨j,hj⟩
   ·exact .inl (.inl b)
   ·rcases qV.1 hj with hj|hj
    ·injection hj with _ hj;exact .inl (.inr hj)
    ·exact .inr ⟨j,hj⟩
  ·rcases qV.1 r with rfl|r
   ·dsimp only;rw[Q];unfold Sat;rw[Bp _ l.nodup O,<-L,Z,v,sk]
   ·exact r3 p r t k y N
  ·refine r4 t k x y N (λd b h0 o=>?_) (λp r=>hs p (qC _ r)) d ?_ h0 o
   ·by_cases g:d=c
    ·subst g;have E:=hs (i,d) k9;dsimp only at E;rw[Q]at E;unfold Sat at E;rw[Bp _ l.nodup O,<-L,kI (y:=ev t k nd W M y) λI m=>J I (f I m).1 (f I m).2.1 (f I m).2.2]at E;have h6:ev t k nd (W.set d.toNat (cW W (aK nd) F)) (M.set d.toNat (cW M e.2 F)) y d=Gf.mul t (aN e.2 k)^^^cV (ev t k nd W M y) F:=by unfold ev;rw[G,A,j1 k0,j1 k0,NX lz l.len l1 l2 t k y,fR _ _ nd λj _=>cz _ _,wm];rfl
     rw[h6,<-E,sk]
    ·have m:D d:=b.elim id λK=>absurd K g;rw[J d m h0 o];refine(Eb ?_ ?_).symm
     ·rw[G,j3 k4]
     ·rw[A,j3 k4]
   ·rcases b with b|⟨j,hj⟩
    ·exact .inl (.inl b)
    ·rcases qV.1 hj with hj|hj
     ·injection hj with _ hj;exact .inl (.inr hj)
     ·exact .inr ⟨j,hj⟩
theorem Pq:∀{l m:List Nat},l.Nodup->(∀x∈l,x∈m)->j9 l<=j9 m
 |[],_,_,_=>k9
 |x::l,m,hd,h=>by
  rw[wP]at hd;have b:=h x k9;have d:=Pq (l:=l) (m:=m.erase x) hd.2 λy a=>(List.mem_erase_of_ne λc:y=x=>hd.1 (by rw[<-c];exact a)).2 (h y o7);rw[List.length_erase_of_mem b]at d;have:=List.length_pos_of_mem b;simp;omega
def oD(nd i:Nat):Row:=(aK nd).set i 1
theorem adc(nd i:Nat):j9 (oD nd i)=nd:=by simp[oD,aK]
theorem ade{nd i:Nat}(a:i<nd)(j:Nat):aN (oD nd i) j=if j=i then 1 else 0:=by rw[oD,NT (by simpa[aK]using a),cz]
theorem adf{nd i:Nat}(a:i<nd)(y:Nat->UInt8):bU (λj=>aN (oD nd i) j) y nd=y i:=
 IH _ _ i nd a λj _=>by
  rw[ade a];by_cases h:j=i
  ·subst h;simp
  ·rw[j3 h,j3 λb=>h b.symm]
def fW(n nd w:Nat)(dead:au):aM×aM:=
 (dead.zipIdx).foldl (λs p=>(s.1.set p.1.toNat (oD nd p.2),s.2.set p.1.toNat (aK w))) (qg n [],qg n [])
theorem LK(n nd w:Nat)(d:au)(c:Int):fW n nd w (d++[c])=((fW n nd w d).1.set c.toNat (oD nd d.length),(fW n nd w d).2.set c.toNat (aK w)):=by unfold fW;rw[List.zipIdx_append,List.foldl_append];simp
theorem NY{n nd w:Nat}{dead:au}(j:∀c∈dead,0<=c/\c<(n:Int))(l:dead.Nodup):∀k,k<=j9 dead->
  WOk n nd w (·∈dead.take k) (fW n nd w (dead.take k)).1 (fW n nd w (dead.take k)).2/\∀i,(o:i<k)->(m:i<j9 dead)->aC (fW n nd w (dead.take k)).1 dead[i].toNat=oD nd i/\aC (fW n nd w (dead.take k)).2 dead[i].toNat=aK w
 |0,_=>⟨⟨by simp[fW],by simp[fW],λc b=>by simp at b⟩,λi o=>k4⟩
 |k+1,hk=>by
  obtain⟨h,m⟩:=NY (nd:=nd) (w:=w) j l k k4;have f:k<j9 dead:=k4
  have t:=j _ (qh f);have e:dead.take (k+1)=dead.take k++[dead[k]]:=zG f;have q:j9 (dead.take k)=k:=k8
  rw[e,LK,q];have u:=h.wl;have p:=h.ml;refine⟨⟨by simp[u],by simp[p],λc b h0 h3=>?_⟩,λi o d=>?_⟩
  ·dsimp only;rw[lF,lF];by_cases a:dead[k].toNat=c.toNat
   ·rw[j1 a,j1 a];exact⟨adc _ _,mn⟩
   ·rw[j3 a,j3 a];refine h.rw_ c ?_ h0 h3;rcases qA.1 b with b|b
    ·exact b
    ·rw[qB]at b;exact absurd (by rw[b]) a
  ·dsimp only;rw[lF,lF];by_cases g:i=k
   ·subst g;rw[j1 k0,j1 rfl];exact⟨k0,k0⟩
   ·have s:dead[k]≠dead[i]:=λr=>g ((List.getElem_inj l).1 r).symm;have:=j _ (qh d);rw[j3 k4,j3 k4];exact m i k4 d
def iI(nd:Nat)(known:List Bool)(vals:aM)(s:aM×aM):aM×aM:=
 (s.1.mapIdx λc r=>if known.getD c eS then aK nd else r,s.2.mapIdx λc r=>if known.getD c eS then aC vals c else r)
theorem Ec{m:aM}{f:Nat->Row->Row}{c:Nat}(h:c<j9 m):aC (m.mapIdx f) c=f c (aC m c):=by rw[bv l6,bv h];simp
def gV(V:aM)(r:Row)(a:Row):Nat->Row
 |0=>a
 |c+1=>cY (aN r c) (aC V c) (gV V r a c)
theorem mj{V:aM}{m:Nat}(r:Row){a:Row}(b:j9 a=m):∀{c:Nat},(∀i,i<c->j9 (aC V i)=m)->j9 (gV V r a c)=m
 |0,_=>b
 |c+1,h=>by
  have:=mj r b (c:=c) λi d=>h i k4;rw[gV,bX (by rw[h c k4,this])];exact this
theorem Kz{V:aM}{m:Nat}(r:Row){a:Row}(b:j9 a=m)(j:Nat):∀{c:Nat},(∀i,i<c->j9 (aC V i)=m)->aN (gV V r a c) j=aN a j^^^bU (λi=>aN r i) (λi=>aN (aC V i) j) c
 |0,_=>by simp[gV,bU]
 |c+1,h=>by
  have e:=mj r b (c:=c) λi d=>h i k4;rw[gV,cN (by rw[h c k4,e]),Kz r b j (c:=c) λi d=>h i k4,bU];ac_rfl
theorem SF{V:aM}{m:Nat}(r:Row){a:Row}(b:j9 a=m)(y:Nat->UInt8)(n:Nat):∀{c:Nat},(∀i,i<c->j9 (aC V i)=m)->bU (λj=>aN (gV V r a c) j) y n=bU (λj=>aN a j) y n^^^bU (λi=>aN r i) (λi=>bU (λj=>aN (aC V i) j) y n) c
 |0,_=>by simp[gV,bU]
 |c+1,h=>by
  have e:=mj r b (c:=c) λi d=>h i k4;rw[gV,Kx (by rw[h c k4,e]),SF r b y n (c:=c) λi d=>h i k4,bU];ac_rfl
theorem SG(f g g':Nat->UInt8):∀k,bU f (λi=>g i^^^g' i) k=bU f g k^^^bU f g' k
 |0=>by simp[bU]
 |k+1=>by rw[bU,bU,bU,SG f g g' k,Gf.kv];ac_rfl
theorem SH(t:UInt8)(f g:Nat->UInt8):∀k,bU f (λi=>Gf.mul t (g i)) k=Gf.mul t (bU f g k)
 |0=>by simp[bU,Gf.mul_zero]
 |k+1=>by
  rw[bU,bU,SH t f g k,Gf.kv];congr 1;rw[<-Gf.mul_assoc,<-Gf.mul_assoc,Gf.mul_comm (f k) t]
theorem Ed{n:Nat}(g:Nat->UInt8):∀{l:au},(∀x∈l,0<=x/\x<(n:Int))->l.Nodup->bU (λj=>aN (gh n l) j) g n=cV (λc=>g c.toNat) l
 |[],_,_=>by
  rw[cV];refine fR _ _ n λj _=>?_;rw[DU [] (λx a=>by cases a) j];simp
 |c::l,h,hd=>by
  rw[wP]at hd;have o:=h c k9;have k:=Ed g (l:=l) (λx a=>h x o7) hd.2;have d:bU (λj=>aN (gh n (c::l)) j) g n=bU (λj=>if(j:Int)∈c::l then 1 else 0) g n:=fV n (λj _=>DU _ h j) λ_ _=>rfl;have e:bU (λj=>aN (gh n l) j) g n=bU (λj=>if(j:Int)∈l then 1 else 0) g n:=fV n (λj _=>DU _ (λx a=>h x o7) j) λ_ _=>rfl;rw[d,cV,<-k,e];rw[Kt (f:=λj=>if(j:Int)∈l then 1 else 0) (f':=λj=>if(j:Int)∈c::l then 1 else 0) (c:=c.toNat) (by rw[j3];rw[show((c.toNat:Nat):Int)=c by omega];exact hd.1) (λi=>by
   by_cases b:i=c.toNat
   ·subst b;rw[j1 k0,j1];rw[show((c.toNat:Nat):Int)=c by omega];simp
   ·rw[j3 b];have:(i:Int)≠c:=λm=>b k4;simp[this]),j1 k4]
  ac_rfl
theorem kernel{nd:Nat}{a:aM}(V:aT nd a)(R:ca a<nd):∃y:Nat->UInt8,(∃i,i<nd/\y i≠0)/\∀r∈a,bU (λj=>aN r j) y nd=0:=by
 have w:=Sv V;obtain⟨K,S,am,L,W,⟨p,X,Y,p3,U⟩,B⟩:=w;generalize hT:ca a=T at*;generalize (bG a (eU a)).2=rows at*;have v:∃j,j<nd/\∀i,i<T->p i≠j:=by
  have t:∀T nd:Nat,T<nd->∀p:Nat->Nat,(∀i,i<T->p i<nd)->∃j,j<nd/\∀i,i<T->p i≠j:=by
   intro T nd ad p Z;by_cases f:∀j,j<nd->∃i,i<T/\p i=j
   ·exfalso;have E:∀j∈qx nd,j∈(qx T).map p:=λj A=>by
     obtain⟨i,l,rfl⟩:=f j (qD.1 A);exact qo.2 ⟨i,qD.2 l,k0⟩
    have:=Pq vI E;simp at this;omega
   ·simp only[Classical.not_forall,not_exists,not_and]at f;obtain⟨j,A,h⟩:=f;exact⟨j,A,h⟩
  exact t T nd R p X
 obtain⟨j,A,G⟩:=v;have D:∀i e,i<T->e<T->p i=p e->i=e:=λi e q o h3=>by
  rcases Nat.lt_trichotomy i e with h|h|h
  ·have:=U i e h o;omega
  ·exact h
  ·have:=U e i h q;omega
 let y:Nat->UInt8:=λc=>if c=j then 1 else cV (λi=>if p i.toNat=c then aN (aC rows i.toNat) j else 0) ((qx T).map λi:Nat=>(i:Int))
 have hy:∀i,i<T->y (p i)=aN (aC rows i) j:=λi l=>by
  show(if p i=j then 1 else _)=_;rw[j3 (G i l)];have M:((qx T).map λi:Nat=>(i:Int)).Nodup:=by exact List.Pairwise.map _ (λa b h u=>h (Int.ofNat_inj.1 u)) vI
  rw[Bp _ M (c:=(i:Int)) (qo.2 ⟨i,qD.2 l,k0⟩),GC,zU]
  ·simp
  ·intro c n;rw[qH]at n;obtain⟨e,s,rfl⟩:=qo.1 n.1;have I:e≠i:=λu=>by subst u;simp at n
   rw[qn,j3 λu=>I (D e i (qD.1 s) l u)]
 have Q:∀c,c≠j->(∀i,i<T->p i≠c)->y c=0:=λc n Z=>by
  show(if c=j then 1 else _)=_;rw[j3 n,GC];intro d hd;obtain⟨e,s,rfl⟩:=qo.1 hd;rw[qn,j3 (Z e (qD.1 s))]
 have F:y j=1:=by show(if j=j then 1 else _)=_;rw[j1 rfl]
 refine⟨y,⟨j,A,by rw[F];decide⟩,λr N=>?_⟩;refine Span.lin K (λr=>bU (λc=>aN r c) y nd) (fR _ _ nd λc _=>cz _ _) (λc x z q o=>Kx k4 c y nd) (λr R=>?_) ((L r).2 (Span.row V N));obtain⟨k,P,rfl⟩:=fk R;by_cases g:k<T
 ·--the row's own beginning,and j
  have hf:∀c,c<nd->aN (aC rows k) c=0∨y c=0∨c=p k∨c=j:=λc n=>by
   by_cases q:c=j
   ·exact .inr (.inr (.inr q))
   ·by_cases o:∃i,i<T/\p i=c
    ·obtain⟨i,l,rfl⟩:=o;by_cases J:k=i
     ·subst J;exact .inr (.inr (.inl k0))
     ·refine .inl ?_;rw[Y i l k P,j3 J]
    ·exact .inr (.inl (Q c q λi l u=>o ⟨i,l,u⟩))
  have O:=X k g;have H:aN (aC rows k) (p k)=1:=by rw[Y k g k P,j1 rfl]
  have I:p k≠j:=G k g;have t:∀m,m<=nd->bU (λc=>aN (aC rows k) c) y m=(if p k<m then aN (aC rows k) j else 0)^^^(if j<m then aN (aC rows k) j else 0):=by
   intro m
   induction m with
   |zero=>intro _;simp[bU]
   |succ m ih=>
    intro hm;rw[bU,ih k4];by_cases q:m=p k
    ·have ah:m≠j:=k4
     rw[q,H,Gf.one_mul,hy k g];rw[j3 (Nat.lt_irrefl _),j1 (Nat.lt_succ_self _)];by_cases h3:j<p k
     ·rw[j1 h3,j1 k4];ac_rfl
     ·rw[j3 h3,j3 k4];ac_rfl
    ·by_cases o:m=j
     ·rw[o,F,Gf.mul_one];rw[j3 (Nat.lt_irrefl j),j1 (Nat.lt_succ_self j),zU];by_cases h3:p k<j
      ·rw[j1 h3,j1 k4]
      ·rw[j3 h3,j3 k4]
     ·have hz:Gf.mul (aN (aC rows k) m) (y m)=0:=by
       rcases hf m k4 with h|h|h|h
       ·rw[h,Gf.zero_mul]
       ·rw[h,Gf.mul_zero]
       ·exact absurd h q
       ·exact absurd h o
      rw[hz,zU];have a1:(p k<m+1)↔(p k<m):=k4
      have a2:(j<m+1)↔(j<m):=k4
      simp only[a1,a2]
  rw[t nd (ql _),j1 O,j1 A,lU]
 ·exact fR _ _ nd λc n=>B k k4 P c n
def dF(n nd:Nat)(rest:List fu)(W:aM)(left:au)(ahead:aM):aM:=(left.map λi=>cW W (aK nd) (rest.getD i.toNat ([],[])).1)++ahead.map λr=>gV W r (aK nd) n
def fG(n w:Nat)(rest:List fu)(M:aM)(left:au)(ahead:aM):aM:=(left.map λi=>cW M (rest.getD i.toNat ([],[])).2 (rest.getD i.toNat ([],[])).1)++ahead.map λr=>gV M r (aK w) n
def xW(nd:Nat)(known:List Bool)(vals:aM)(W M D:aM):aM:=vals.mapIdx λc r=>if known.getD c eS then r else gV D (aC W c) (aC M c) nd
def dI(n:Nat)(l:List fu)(ahead:aM):aM:=ahead++l.map λe=>gh n e.1
def iD(w:Nat)(l:List fu)(ahead:aM):aM:=qg ahead.length (aK w)++l.map zH
def at_(X:aM)(k:Nat)(c:Int):UInt8:=aN (aC X c.toNat) k
section
variable {n w:Nat} {l:List fu} {ahead:aM}
theorem Bt(b:aT n ahead):aT n (dI n l ahead):=λr a=>by
 rcases qA.1 a with a|a
 ·exact b r a
 ·obtain⟨e,_,rfl⟩:=qo.1 a;exact si _ _
theorem Bu(b:∀e∈l,jc n w e):aT w (iD w l ahead):=λr a=>by
 rcases qA.1 a with a|a
 ·rw[(wT.1 a).2];simp[aK]
 ·obtain⟨e,c,rfl⟩:=qo.1 a;exact(b e c).len
theorem xA:j9 (dI n l ahead)=j9 (iD w l ahead):=by simp[dI,iD]
theorem Ee(p:∀e∈l,jc n w e){X:aM}:fE n w (dI n l ahead) (iD w l ahead) X↔X.length=n/\aT w X/\∀k,k<w->(∀e∈l,Sat 1 k (at_ X k) e)/\∀r∈ahead,bU (λj=>aN r j) (λc=>aN (aC X c) k) n=0:=by
 unfold fE;refine⟨λ⟨h1,h2,h3⟩=>⟨h1,h2,λk q=>⟨λe g=>?_,λr t=>?_⟩⟩,λ⟨h1,h2,h3⟩=>⟨h1,h2,λi h=>?_⟩⟩
 ·obtain⟨i,h,rfl⟩:=qK g;have:=h3 (j9 ahead+i) o0;have a:aC (dI n l ahead) (j9 ahead+i)=gh n l[i].1:=by rw[bv o0];simp[dI]
  have b:aC (iD w l ahead) (j9 ahead+i)=l[i].2:=by rw[bv u0];simp[iD]
  rw[a,b]at this;have o:=congrArg (λr=>aN r k) this;rw[ia h2 h1 _ k n (ql _),Ed _ (p _ g).cZ (p _ g).nodup]at o;unfold Sat;rw[Gf.one_mul];exact o
 ·obtain⟨i,h,rfl⟩:=qK t;have:=h3 i o0;have a:aC (dI n l ahead) i=ahead[i]:=by rw[bv o0];simp[dI,wN h]
  have b:aC (iD w l ahead) i=aK w:=by rw[bv u0];simp[iD,h]
  rw[a,b]at this;have o:=congrArg (λr=>aN r k) this;rw[ia h2 h1 _ k n (ql _),cz]at o;exact o
 ·have m:j9 (aC (iD w l ahead) i)=w:=cy (Bu p) (by rw[<-xA (n:=n)];exact h);refine eZ (n:=w) (iO h2 h1 _ n (ql _)) m λk q=>?_;rw[ia h2 h1 _ k n (ql _)];simp only[dI,qy,qw]at h;by_cases f:i<j9 ahead
  ·have a:aC (dI n l ahead) i=ahead[i]:=by rw[bv o0];simp[dI,wN f]
   have b:aC (iD w l ahead) i=aK w:=by rw[bv u0];simp[iD,f]
   rw[a,b,cz];exact(h3 k q).2 _ (qh f)
  ·obtain⟨d,rfl⟩:∃d,i=j9 ahead+d:=⟨i-j9 ahead,k4⟩
   have s:d<j9 l:=k4
   have a:aC (dI n l ahead) (j9 ahead+d)=gh n l[d].1:=by rw[bv o0];simp[dI]
   have b:aC (iD w l ahead) (j9 ahead+d)=l[d].2:=by rw[bv u0];simp[iD]
   have g:=p _ (qh s);rw[a,b,Ed _ g.cZ g.nodup];have:=(h3 k q).1 _ (qh s);unfold Sat at this;rw[Gf.one_mul]at this;exact this
end
structure gP (n w:Nat) (l:List fu) (ahead:aM) (known:List Bool) (vals:aM) (dead left:au) (W M:aM):Prop where
 eqs:∀e∈l,jc n w e
 ahd:aT n ahead
 pinv:kb n w l known vals
 calm:kJ known vals l=eS
 deadR:∀c∈dead,0<=c/\c<(n:Int)
 deadN:dead.Nodup
 deadK:∀c∈dead,kn known c=eS
 lens:j9 W=n/\M.length=n/\∀c:Nat,c<n->j9 (aC W c)=j9 dead/\(aC M c).length=w
 evKnown:∀t k y,∀c:Int,0<=c->c<(n:Int)->kn known c=eR->ev t k dead.length W M y c=Gf.mul t (aN (aC vals c.toNat) k)
 evDead:∀t k y,∀i,(h:i<j9 dead)->ev t k dead.length W M y dead[i]=y i
 evRest:∀t k y,k<w->(∀i∈left,Sat t k (ev t k dead.length W M y) ((bf known vals l).getD i.toNat ([],[])))->∀e∈bf known vals l,Sat t k (ev t k dead.length W M y) e
 leftR:∀i∈left,0<=i/\i<(j9 (bf known vals l):Int)
 evAll:∀t k x,k<w->(∀c:Int,0<=c->c<(n:Int)->kn known c=eR->x c=Gf.mul t (aN (aC vals c.toNat) k))->(∀e∈bf known vals l,Sat t k x e)->∀c:Int,0<=c->c<(n:Int)->x c=ev t k dead.length W M (λi=>x (dead.getD i 0)) c
section
variable {n w:Nat} {l:List fu} {ahead:aM} {known:List Bool} {vals:aM} {dead left:au} {W M:aM}
theorem oY(h:kb n w l known vals)(b:∀e∈l,jc n w e):∀e∈bf known vals l,jc n w e:=λe c=>by
 obtain⟨d,a,rfl⟩:=qo.1 (qH.1 c).1;exact h.CM (b d a)
theorem Ce{a b:UInt8}:a^^^b=0↔a=b:=pN
theorem gP.SI(S:gP n w l ahead known vals dead left W M){i:Int}(h:i∈left)(t:UInt8)(k:Nat)(y:Nat->UInt8):
  bU (λj=>aN (cW W (aK dead.length) ((bf known vals l).getD i.toNat ([],[])).1) j) y dead.length=Gf.mul t (aN (cW M ((bf known vals l).getD i.toNat ([],[])).2 ((bf known vals l).getD i.toNat ([],[])).1) k)↔Sat t k (ev t k dead.length W M y) ((bf known vals l).getD i.toNat ([],[])):=by
 have m:=S.leftR i h;have b:i.toNat<j9 (bf known vals l):=k4
 have o:(bf known vals l).getD i.toNat ([],[])=(bf known vals l)[i.toNat]:=by rw[qe,qd b];rfl
 have a:=oY S.pinv S.eqs _ (qh b);rw[o];generalize (bf known vals l)[i.toNat]=e at*;have f:j9 (aK dead.length)=j9 dead:=mn
 have p:∀c∈e.1,j9 (aC W c.toNat)=j9 dead:=λc d=>((S.lens.2.2 c.toNat) (by have:=a.cZ c d;omega)).1;have g:∀c∈e.1,j9 (aC M c.toNat)=w:=λc d=>((S.lens.2.2 c.toNat) (by have:=a.cZ c d;omega)).2;have:=NX f a.len p g t k y;rw[fR _ _ dead.length λj _=>cz _ _,wm]at this;rw[<-Ce,this];unfold Sat;rw[Ce];exact eq_comm
theorem gP.Pr(S:gP n w l ahead known vals dead left W M)(r:Row)(t:UInt8)(k:Nat)(y:Nat->UInt8):
  bU (λj=>aN (gV W r (aK dead.length) n) j) y dead.length=Gf.mul t (aN (gV M r (aK w) n) k)↔bU (λj=>aN r j) (λc=>ev t k dead.length W M y (c:Int)) n=0:=by
 have e:=SF (V:=W) (m:=j9 dead) r (a:=aK dead.length) mn y dead.length (c:=n) λi b=>(S.lens.2.2 i b).1;have d:=Kz (V:=M) (m:=w) r (a:=aK w) mn k (c:=n) λi b=>(S.lens.2.2 i b).2;rw[e,d,fR _ _ dead.length λj _=>cz _ _,cz,wm,wm,<-Ce,<-SH,<-SG];have:(λc:Nat=>ev t k dead.length W M y (c:Int))=λi=>bU (λj=>aN (aC W i) j) y dead.length^^^Gf.mul t (aN (aC M i) k):=by funext c;unfold ev;rw[qn]
 rw[this]
theorem gP.up(S:gP n w l ahead known vals dead left W M){t:UInt8}{k:Nat}{y:Nat->UInt8}(f:k<w)
  (g:∀i,i<j9 (dF n dead.length (bf known vals l) W left ahead)->bU (λj=>aN (aC (dF n dead.length (bf known vals l) W left ahead) i) j) y dead.length=Gf.mul t (aN (aC (fG n w (bf known vals l) M left ahead) i) k)):
  (∀e∈l,Sat t k (ev t k dead.length W M y) e)/\∀r∈ahead,bU (λj=>aN r j) (λc=>ev t k dead.length W M y (c:Int)) n=0:=by
 refine⟨(Sx S.pinv S.eqs S.calm f).2 ⟨λc h0 o m=>S.evKnown t k y c h0 o m,S.evRest t k y f λi h=>?_⟩,λr p=>?_⟩
 ·obtain⟨j,d,rfl⟩:=qK h;have:=g j o4;have a:aC (dF n dead.length (bf known vals l) W left ahead) j=cW W (aK dead.length) ((bf known vals l).getD left[j].toNat ([],[])).1:=by rw[bv o4];simp[dF,d]
  have b:aC (fG n w (bf known vals l) M left ahead) j=cW M ((bf known vals l).getD left[j].toNat ([],[])).2 ((bf known vals l).getD left[j].toNat ([],[])).1:=by rw[bv u1];simp[fG,d]
  rw[a,b]at this;exact(S.SI h t k y).1 this
 ·obtain⟨j,d,rfl⟩:=qK p;have:=g (j9 left+j) o4;have a:aC (dF n dead.length (bf known vals l) W left ahead) (j9 left+j)=gV W ahead[j] (aK dead.length) n:=by rw[bv o4];simp[dF]
  have b:aC (fG n w (bf known vals l) M left ahead) (j9 left+j)=gV M ahead[j] (aK w) n:=by rw[bv u1];simp[fG]
  rw[a,b]at this;exact(S.Pr _ t k y).1 this
theorem gP.down(S:gP n w l ahead known vals dead left W M){t:UInt8}{k:Nat}{x:Int->UInt8}(q:k<w)(D:∀e∈l,Sat t k x e)(y:∀r∈ahead,bU (λj=>aN r j) (λc=>x (c:Int)) n=0):
  (∀c:Int,0<=c->c<(n:Int)->x c=ev t k dead.length W M (λi=>x (dead.getD i 0)) c)/\
  ∀i,i<j9 (dF n dead.length (bf known vals l) W left ahead)->bU (λj=>aN (aC (dF n dead.length (bf known vals l) W left ahead) i) j) (λi=>x (dead.getD i 0)) dead.length=Gf.mul t (aN (aC (fG n w (bf known vals l) M left ahead) i) k):=by
 obtain⟨z,p⟩:=(Sx S.pinv S.eqs S.calm q).1 D;have o:=S.evAll t k x q z p;refine⟨o,λi B=>?_⟩;simp only[dF,qy,qw]at B;by_cases a:i<j9 left
 ·have g:aC (dF n dead.length (bf known vals l) W left ahead) i=cW W (aK dead.length) ((bf known vals l).getD left[i].toNat ([],[])).1:=by rw[bv o4];simp[dF,a]
  have h:aC (fG n w (bf known vals l) M left ahead) i=cW M ((bf known vals l).getD left[i].toNat ([],[])).2 ((bf known vals l).getD left[i].toNat ([],[])).1:=by rw[bv u1];simp[fG,a]
  rw[g,h];refine(S.SI (qh a) t k _).2 ?_;have u:=S.leftR _ (qh a);have b:left[i].toNat<j9 (bf known vals l):=k4
  have v:(bf known vals l).getD left[i].toNat ([],[])=(bf known vals l)[left[i].toNat]:=by rw[qe,qd b];rfl
  rw[v];have s:=p _ (qh b);have f:=oY S.pinv S.eqs _ (qh b);unfold Sat at s⊢;rw[<-s];exact kI λc m=>(o c (f.cZ c m).1 (f.cZ c m).2).symm
 ·obtain⟨d,rfl⟩:∃d,i=j9 left+d:=⟨i-j9 left,k4⟩
  have A:d<j9 ahead:=k4
  have g:aC (dF n dead.length (bf known vals l) W left ahead) (j9 left+d)=gV W ahead[d] (aK dead.length) n:=by rw[bv o4];simp[dF]
  have h:aC (fG n w (bf known vals l) M left ahead) (j9 left+d)=gV M ahead[d] (aK w) n:=by rw[bv u1];simp[fG]
  rw[g,h];refine(S.Pr _ t k _).2 ?_;rw[<-y _ (qh A)];exact fV n (λ_ _=>rfl) λc m=>(o (c:Int) k4 k4).symm
theorem pT(S:gP n w l ahead known vals dead left W M):aT dead.length (dF n dead.length (bf known vals l) W left ahead)/\aT w (fG n w (bf known vals l) M left ahead):=by
 have d:∀i∈left,jc n w ((bf known vals l).getD i.toNat ([],[])):=λi b=>by
  have h:=S.leftR i b;have e:i.toNat<j9 (bf known vals l):=k4
  rw[qe,qd e];exact oY S.pinv S.eqs _ (qh e)
 constructor
 ·intro r a;rcases qA.1 a with a|a
  ·obtain⟨i,b,rfl⟩:=qo.1 a;exact ka mn λc f=>((S.lens.2.2 c.toNat) (by have:=(d i b).cZ c f;omega)).1
  ·obtain⟨x,g,rfl⟩:=qo.1 a;exact mj x mn λi b=>(S.lens.2.2 i b).1
 ·intro r a;rcases qA.1 a with a|a
  ·obtain⟨i,b,rfl⟩:=qo.1 a;exact ka (d i b).len λc f=>((S.lens.2.2 c.toNat) (by have:=(d i b).cZ c f;omega)).2
  ·obtain⟨x,g,rfl⟩:=qo.1 a;exact mj x mn λi b=>(S.lens.2.2 i b).2
theorem Bv:j9 (dF n dead.length (bf known vals l) W left ahead)=j9 (fG n w (bf known vals l) M left ahead):=by simp[dF,fG]
theorem gP.NU(S:gP n w l ahead known vals dead left W M)(N:1<=w)(f:ca (dI n l ahead)=n):ca (dF n dead.length (bf known vals l) W left ahead)=j9 dead:=by
 obtain⟨G,Y⟩:=pT S;have U:=lG G;by_cases z:ca (dF n dead.length (bf known vals l) W left ahead)<j9 dead
 ·exfalso;obtain⟨y,⟨i,b,I⟩,T⟩:=kernel G z;have h:=S.up (t:=0) (k:=0) (y:=y) N λi b=>by rw[T _ (mem_row b),Gf.zero_mul]
  have H:=Bt (l:=l) S.ahd;have u:aT 1 (qg (dI n l ahead).length (aK 1)):=λr f=>by rw[(wT.1 f).2];simp[aK]
  have d:j9 (dI n l ahead)=j9 (qg (dI n l ahead).length (aK 1)):=k9
  have O:fE n 1 (dI n l ahead) (qg (dI n l ahead).length (aK 1)) (qg n (aK 1)):=by
   have a:aT 1 (qg n (aK 1)):=λr f=>by rw[(wT.1 f).2];simp[aK]
   refine⟨k9,a,λi b=>?_⟩;refine eZ (n:=1) (iO a k9 _ n (ql _)) (cy u m5) λk R=>?_;rw[ia a k9 _ k n (ql _)];have B:aC (qg (dI n l ahead).length (aK 1)) i=aK 1:=by rw[bv m5];simp
   rw[B,cz];have:∀g,g<=n->bU (λj=>aN (aC (dI n l ahead) i) j) (λc=>aN (aC (qg n (aK 1)) c) k) g=0:=by
    intro g
    induction g with
    |zero=>intro _;rfl
    |succ g ih=>
     intro K;have P:aC (qg n (aK 1)) g=aK 1:=by rw[bv k8];simp
     rw[bU,ih k4,P,cz,Gf.mul_zero];rfl
   exact this n (ql _)
  have X:fE n 1 (dI n l ahead) (qg (dI n l ahead).length (aK 1)) ((qx n).map λc:Nat=>[ev 0 0 dead.length W M y (c:Int)]):=by
   have a:aT 1 ((qx n).map λc:Nat=>[ev 0 0 dead.length W M y (c:Int)]):=λr f=>by obtain⟨c,_,rfl⟩:=qo.1 f;rfl
   have p:∀c:Nat,c<n->aC ((qx n).map λc:Nat=>[ev 0 0 dead.length W M y (c:Int)]) c=[ev 0 0 dead.length W M y (c:Int)]:=λc o=>by rw[bv (by simpa using o)];simp
   refine⟨k9,a,λi b=>?_⟩;refine eZ (n:=1) (iO a k9 _ n (ql _)) (cy u m5) λk R=>?_;have A:k=0:=k4
   subst A;rw[ia a k9 _ 0 n (ql _)];have B:aC (qg (dI n l ahead).length (aK 1)) i=aK 1:=by rw[bv m5];simp
   rw[B,cz];have L:bU (λj=>aN (aC (dI n l ahead) i) j) (λc=>aN (aC ((qx n).map λc:Nat=>[ev 0 0 dead.length W M y (c:Int)]) c) 0) n=bU (λj=>aN (aC (dI n l ahead) i) j) (λc=>ev 0 0 dead.length W M y (c:Int)) n:=
    fV n (λ_ _=>rfl) λc o=>by rw[p c o];rfl
   rw[L];have F:aC (dI n l ahead) i∈ahead++l.map λe=>gh n e.1:=mem_row b;obtain x|x:=qA.1 F
   ·exact h.2 _ x
   ·obtain⟨e,s,E⟩:=qo.1 x;rw[<-E,Ed _ (S.eqs e s).cZ (S.eqs e s).nodup];have v:=h.1 e s;unfold Sat at v;rw[Gf.zero_mul]at v;refine Eq.trans (kI λc o=>?_) v;have:=(S.eqs e s).cZ c o;rw[show((c.toNat:Nat):Int)=c by omega]
  have J:=(mi d H u f O).1;have Q:=(mi d H u f X).1;have D:=Q.trans J.symm;have V:=S.deadR _ (qh b);have q:=congrArg (λm=>aN (aC m dead[i].toNat) 0) D;rw[bv k8,bv k8]at q;simp only[List.getElem_map,List.getElem_range,List.getElem_replicate,cz]at q;rw[show((dead[i].toNat:Nat):Int)=dead[i]by omega]at q;have h8:aN [ev 0 0 dead.length W M y dead[i]] 0=ev 0 0 dead.length W M y dead[i]:=rfl;rw[h8,S.evDead 0 0 y i b]at q;exact I q
 ·omega
theorem NZ(S:gP n w l ahead known vals dead left W M){D:aM}(g:j9 D=j9 dead)(f:aT w D){c:Nat}(d:c<n):
  (aC (xW dead.length known vals W M D) c).length=w/\∀k,aN (aC (xW dead.length known vals W M D) c) k=ev 1 k dead.length W M (λi=>aN (aC D i) k) (c:Int):=by
 have h:=S.pinv.vlen;have a:aC (xW dead.length known vals W M D) c=if known.getD c eS then aC vals c else gV D (aC W c) (aC M c) dead.length:=by unfold xW;rw[Ec k4]
 have e:=S.lens.2.2 c d;rw[a];cases hkn:known.getD c eS with
 |true=>
  rw[j1 rfl];refine⟨by have:=S.pinv.row c d;rw[hkn]at this;simpa using this,λk=>?_⟩;have:=S.evKnown 1 k (λi=>aN (aC D i) k) (c:Int) k4 k4 (by unfold kn;rw[qn];exact hkn);rw[this,qn,Gf.one_mul]
 |false=>
  rw[j3 k9];have b:∀i,i<j9 dead->j9 (aC D i)=w:=λi j=>cy f;refine⟨mj _ e.2 b,λk=>?_⟩;rw[Kz _ e.2 k b];unfold ev;rw[qn,Gf.one_mul,vg]
theorem afS(h:j9 vals=n){D:aM}:j9 (xW dead.length known vals W M D)=n:=by simp[xW,h]
theorem gP.XQ(S:gP n w l ahead known vals dead left W M){D:aM}(s:fE dead.length w (dF n dead.length (bf known vals l) W left ahead) (fG n w (bf known vals l) M left ahead) D):fE n w (dI n l ahead) (iD w l ahead) (xW dead.length known vals W M D):=by
 obtain⟨b,d,h⟩:=s;obtain⟨u,v⟩:=pT S;have f:=afS (dead:=dead) (known:=known) (W:=W) (M:=M) S.pinv.vlen (D:=D);refine(Ee S.eqs).2 ⟨f,λr g=>?_,λk p=>?_⟩
 ·obtain⟨c,a,rfl⟩:=fk g;exact(NZ S b d k4).1
 ·have j:=S.up (t:=1) (k:=k) (y:=λi=>aN (aC D i) k) p λi q=>by
   have:=congrArg (λr=>aN r k) (h i q);rw[ia d b _ k dead.length (ql _)]at this;rw[this,Gf.one_mul]
  refine⟨λe m=>?_,λr g=>?_⟩
  ·have h3:=j.1 e m;unfold Sat at h3⊢;rw[<-h3];refine kI λc a=>?_;have o:=(S.eqs e m).cZ c a;unfold at_;rw[(NZ S b d (show c.toNat<n by omega)).2 k,show((c.toNat:Nat):Int)=c by omega]
  ·rw[<-j.2 r g];exact fV n (λ_ _=>rfl) λc a=>(NZ S b d a).2 k
theorem gP.UQ(S:gP n w l ahead known vals dead left W M){X:aM}(q:fE n w (dI n l ahead) (iD w l ahead) X):fE dead.length w (dF n dead.length (bf known vals l) W left ahead) (fG n w (bf known vals l) M left ahead) (dead.map λc=>aC X c.toNat):=by
 obtain⟨u,p,h⟩:=(Ee S.eqs).1 q;obtain⟨s,o⟩:=pT S;have d:aT w (dead.map λc=>aC X c.toNat):=λr e=>by
  obtain⟨c,f,rfl⟩:=qo.1 e;have:=S.deadR c f;exact cy p
 have a:j9 (dead.map λc=>aC X c.toNat)=j9 dead:=k9
 refine⟨a,d,λi m=>eZ (n:=w) (iO d a _ _ (ql _)) (cy o (by rw[<-Bv (n:=n) (w:=w)];exact m)) λk b=>?_⟩;rw[ia d a _ k dead.length (ql _)];have h3:=(S.down (t:=1) (x:=at_ X k) b (h k b).1 (λr e=>by
  have:=(h k b).2 r e;rw[<-this];exact fV n (λ_ _=>rfl) λc f=>by unfold at_;rw[qn])).2 i m
 rw[Gf.one_mul]at h3;rw[<-h3];refine fV _ (λ_ _=>rfl) λj g=>?_;unfold at_;rw[bv nn,qe,qd g];simp
end
def iz(known:List Bool)(i:Nat):bz:=((qx i).filter λc=>known.getD c eS).map λc:Nat=>[(c:Int)]
theorem Oa(known:List Bool)(i:Nat):iz known (i+1)=iz known i++if known.getD i eS then[[(i:Int)]]else[]:=by unfold iz;rw[List.range_succ,List.filter_append,List.map_append];cases h:known.getD i eS<;>simp only[zp,h,List.filter_nil]<;>rfl
theorem EW(known:List Bool)(i:Nat):j9 (iz known i)<=i:=by unfold iz;rw[qw];exact zf (qT _ _) k9
def rowsOf(R:List fu)(known:List Bool)(n:Nat):bz:=R.map qM++iz known n
def gJ(R:List fu)(known:List Bool)(n:Nat):Pl:=dN n (rowsOf R known n)
def nF(R:List fu)(known:List Bool)(n:Nat):List (Int×Int):=(gJ R known n).steps.filter λx=>decide (x.1<j9 R)
def leftOf(R:List fu)(known:List Bool)(n:Nat):au:=(fF (gJ R known n).used (rowsOf R known n).length).filter λx=>decide (x<j9 R)
theorem Bw{known:List Bool}{n:Nat}{r:au}(h:r∈iz known n):∃c:Nat,r=[(c:Int)]/\c<n/\known.getD c eS=eR:=by obtain⟨c,a,rfl⟩:=qo.1 h;rw[qH,qD]at a;exact⟨c,k0,a.1,a.2⟩
theorem GL{rows:bz}:∀{d:List (Int×Int)} {D U:Int->Prop},th rows D U d->∀i c,(i,c)∈d->(0<=i/\i<j9 rows)/\c∈rows.getD i.toNat []
 |[],_,_,_,_,_,h=>l9
 |(i',c')::t,D,U,hg,i,c,h=>by
  obtain⟨g,_,_,e,_,f⟩:=hg;rcases qV.1 h with h|h
  ·injection h with a b;subst a;subst b;exact⟨g,e⟩
  ·exact GL f i c h
section
variable {n w:Nat} {l:List fu} {ahead:aM} {known:List Bool} {vals:aM}
theorem xB(f:∀e∈bf known vals l,jc n w e):∀r∈rowsOf (bf known vals l) known n,∀c∈r,0<=c/\c<(n:Int):=λr a c b=>by
 rcases qA.1 a with a|a
 ·obtain⟨e,g,rfl⟩:=qo.1 a;exact(f e g).cZ c b
 ·obtain⟨d,rfl,h,_⟩:=Bw a;rw[qB]at b;subst b;omega
theorem Ps(i:∀e∈l,jc n w e)(f:kb n w l known vals):tj ((bf known vals l).map qM) (·∈(gJ (bf known vals l) known n).dead) (nF (bf known vals l) known n):=by
 have h:=oY f i;obtain⟨_,_,_,_,_,g⟩:=xV (xB h);have:=Cd (R:=(bf known vals l).map qM) (S:=iz known n) (K:=λc=>kn known c=eR) (λr b c a=>?_) (λr b c a=>?_) g (D':=(·∈(gJ (bf known vals l) known n).dead)) λc _=>Iff.rfl
 ·rw[qw]at this;exact this
 ·obtain⟨e,m,rfl⟩:=qo.1 b;obtain⟨j,k,rfl⟩:=qo.1 (qH.1 m).1;rw[GF f j c a];simp
 ·obtain⟨d,rfl,_,o⟩:=Bw b;rw[qB]at a;subst a;unfold kn;rw[qn];exact o
theorem LL(m:∀e∈l,jc n w e)(j:kb n w l known vals):
  (∀c∈(gJ (bf known vals l) known n).dead,0<=c/\c<(n:Int))/\(gJ (bf known vals l) known n).dead.Nodup/\(∀c∈(gJ (bf known vals l) known n).dead,kn known c=eS)/\
  (∀i∈leftOf (bf known vals l) known n,0<=i/\i<(j9 (bf known vals l):Int))/\(gJ (bf known vals l) known n).dead.length<=n:=by
 have k:=oY j m;obtain⟨p,q,a3,a4,a5,g⟩:=xV (xB k);refine⟨a3,a4,λc h=>?_,λi a=>?_,by unfold gJ;omega⟩
 ·have f:=a3 c h;cases hk:kn known c with
  |false=>rfl
  |true=>
   exfalso;have b:[c]∈rowsOf (bf known vals l) known n:=qA.2 (.inr (qo.2 ⟨c.toNat,qH.2 ⟨qD.2 k4,hk⟩,by rw[show((c.toNat:Nat):Int)=c by omega]⟩));exact Ea b n (qg n eR) (qg _ eS) (λi a=>by rw[GI]at a;cases a) (λd r b=>by have:=a3 d b;omega) f.1 h
 ·unfold leftOf at a;rw[qH]at a;have:=a5 i a.1;have o:i<(j9 (bf known vals l):Int):=by simpa using a.2
  exact⟨this.1,o⟩
theorem adg(p:∀e∈l,jc n w e)(o:kb n w l known vals){c:Int}(t:0<=c)(u:c<(n:Int))(b:kn known c=eS):c∈(gJ (bf known vals l) known n).dead∨∃i,(i,c)∈nF (bf known vals l) known n:=by
 have h:=oY o p;obtain⟨_,_,_,_,_,g⟩:=xV (xB h);have a:=GK (xB h) n (qg n eR) (qg (rowsOf (bf known vals l) known n).length eS) k9 k9 c.toNat (by rw[qe,qd k8];simp);rw[show((c.toNat:Nat):Int)=c by omega]at a;rcases a with a|⟨i,a⟩
 ·exact .inl a
 ·refine .inr ⟨i,qH.2 ⟨a,?_⟩⟩;obtain⟨k,j⟩:=GL g i c a;by_cases s:i<(j9 (bf known vals l):Int)
  ·simpa using s
  ·exfalso;have m:=k.2;rw[rowsOf,qy,qw]at m;have q:(rowsOf (bf known vals l) known n).getD i.toNat []∈iz known n:=by rw[rowsOf,qe,qj oi,qd oi];exact qh _
   obtain⟨d,r,_,f⟩:=Bw q;rw[r,qB]at j;subst j;unfold kn at b;rw[qn,f]at b;cases b
def Rq(n w:Nat)(known:List Bool)(vals:aM)(R:List fu):aM×aM:=
 iI (gJ R known n).dead.length known vals ((nF R known n).foldl (ie R (gJ R known n).dead.length) (fW n (gJ R known n).dead.length w (gJ R known n).dead))
theorem adh{nd:Nat}{s:aM×aM}{c:Int}(d:0<=c)(b:c.toNat<j9 s.1)(a:c.toNat<j9 s.2):
  aC (iI nd known vals s).1 c.toNat=(if kn known c then aK nd else aC s.1 c.toNat)/\aC (iI nd known vals s).2 c.toNat=if kn known c then aC vals c.toNat else aC s.2 c.toNat:=by
 unfold iI kn;exact⟨Ec b,Ec a⟩
theorem adi(G:∀e∈l,jc n w e)(hA:aT n ahead)(u:kb n w l known vals)(X:kJ known vals l=eS):
  gP n w l ahead known vals (gJ (bf known vals l) known n).dead (leftOf (bf known vals l) known n) (Rq n w known vals (bf known vals l)).1 (Rq n w known vals (bf known vals l)).2:=by
 have E:=oY u G;have S:=Ps G u;have a:=λc h0 m o=>adg (c:=c) G u h0 m o;obtain⟨J,N,O,Y,Z⟩:=LL G u;have b:∀j:Nat,j<j9 (bf known vals l)->(∃c,((j:Int),c)∈nF (bf known vals l) known n)∨(j:Int)∈leftOf (bf known vals l) known n:=λj Q=>by
  cases hu:(gJ (bf known vals l) known n).used.getD j eS with
  |true=>
   rcases GJ n (qg n eR) (qg _ eS) j hu with h|⟨c,h⟩
   ·rw[GI]at h;cases h
   ·exact .inl ⟨c,qH.2 ⟨h,k8⟩⟩
  |false=>exact .inr (qH.2 ⟨(DZ _ _ _).2 ⟨j,k0,by rw[rowsOf,qy,qw];omega,hu⟩,k8⟩)
 have s:∀e∈bf known vals l,∀c∈e.1,kn known c=eS:=λe v c M=>by
  obtain⟨e0,ah,rfl⟩:=qo.1 (qH.1 v).1;exact GF u e0 c M
 unfold Rq;obtain⟨R,f⟩:∃R,R=bf known vals l:=⟨_,rfl⟩
 rw[<-f]at E S J N O Y Z b a s⊢;obtain⟨D,T⟩:∃D,D=(gJ R known n).dead:=⟨_,rfl⟩
 obtain⟨ST,r⟩:∃ST,ST=nF R known n:=⟨_,rfl⟩
 rw[<-T,<-r]at S a;rw[<-r]at b;rw[<-T]at J N O Z;rw[<-T,<-r];obtain⟨dk,du⟩:=NY (nd:=j9 D) (w:=w) J N D.length (ql _);rw[List.take_length]at dk du;obtain⟨A,keep,V,B⟩:=Ky E S dk;generalize ad:ST.foldl (ie R D.length) (fW n D.length w D)=S0 at*;have U:=A.wl;have W:=A.ml;have fr:∀c:Int,0<=c->c<(n:Int)->aC (iI D.length known vals S0).1 c.toNat=(if kn known c then aK D.length else aC S0.1 c.toNat)/\aC (iI D.length known vals S0).2 c.toNat=if kn known c then aC vals c.toNat else aC S0.2 c.toNat:=λc h0 m=>adh h0 k4 k4
 have z:∀t k y (c:Int),0<=c->c<(n:Int)->kn known c=eS->ev t k D.length (iI D.length known vals S0).1 (iI D.length known vals S0).2 y c=ev t k D.length S0.1 S0.2 y c:=λt k y c h0 m o=>by
  have:=fr c h0 m;rw[o]at this;exact Eb this.1 this.2
 have H:∀t k y (c:Int),0<=c->c<(n:Int)->kn known c=eR->ev t k D.length (iI D.length known vals S0).1 (iI D.length known vals S0).2 y c=Gf.mul t (aN (aC vals c.toNat) k):=λt k y c h0 m o=>by
  have:=fr c h0 m;rw[o,j1 rfl,j1 rfl]at this;unfold ev;rw[this.1,this.2,fR _ _ D.length λj _=>cz _ _,wm]
 have I:∀t k y i,(h:i<j9 D)->ev t k D.length (fW n D.length w D).1 (fW n D.length w D).2 y D[i]=y i:=λt k y i h=>by
  have:=du i h h;unfold ev;rw[this.1,this.2,adf h,cz,Gf.mul_zero,zU]
 have F:∀i:Int,0<=i->i<(j9 R:Int)->R.getD i.toNat ([],[])∈R:=λi h0 m=>by
  rw[qe,qd k4];exact qh _
 refine⟨G,hA,u,X,J,N,O,⟨by simp[iI,U],by simp[iI,W],λc M=>?_⟩,H,λt k y i h=>?_,λt k y o L e v=>?_,by rw[<-f];exact Y,λt k x o hx L c h0 m=>?_⟩
 ·have h:=fr (c:Int) k4 k4;rw[qn]at h;rw[h.1,h.2];cases o:kn known (c:Int)with
  |true=>
   rw[j1 k0,j1 rfl];refine⟨mn,?_⟩;have:=u.GD (c:=(c:Int)) k4 k4 o
   rwa [qn]at this
  |false=>
   rw[j3 k9,j3 k9];have:=A.rw_ (c:Int) (a _ k4 k4 o) k4 k4
   rwa [qn]at this
 ·have P:=J _ (qh h);rw[z t k y _ P.1 P.2 (O _ (qh h)),<-I t k y i h];exact Eb (keep _ (qh h) P.1).1 (keep _ (qh h) P.1).2
 ·rw[<-f]at v L;obtain⟨j,Q,rfl⟩:=qK v;have ej:R.getD ((j:Int)).toNat ([],[])=R[j]:=by rw[qn,qe,qd Q];rfl
  rcases b j Q with⟨c,M⟩|hlf
  ·have:=V _ M t k y o;dsimp only at this;rw[ej]at this;unfold Sat at this⊢;rw[<-this];exact kI λd K=>z t k y d ((E _ v).cZ d K).1 ((E _ v).cZ d K).2 (s _ v d K)
  ·have:=L _ hlf
   rwa [ej]at this
 ·rw[<-f]at L;cases hkc:kn known c with
  |true=>rw[hx c h0 m hkc,H _ _ _ c h0 m hkc]
  |false=>
   rw[z _ _ _ c h0 m hkc];refine B t k x _ o (λd K h2 h3=>?_) (λp hp=>?_) c (a c h0 m hkc) h0 m
   ·obtain⟨i,hi,rfl⟩:=qK K;rw[I t k _ i hi,qe,qd hi];rfl
   ·have q:p∈nF R known n:=r▸hp;unfold nF at q;rw[qH]at q;have h2:p.1<(j9 R:Int):=by simpa using q.2
    have h3:0<=p.1:=by obtain⟨_,_,_,_,_,g⟩:=xV (rows:=rowsOf R known n) (n:=n) (by rw[f];exact xB (f▸E));exact(GL g p.1 p.2 q.1).1.1
    exact L _ (F _ h3 h2)
end
def uV(n:Nat)(seed:Int)(l:List (Int×Row)):List fu:=l.map λx=>(dt n seed x.1,x.2)
def sn(p:Int×Int×Int)(l:List (Int×Row)):aM:=qg p.2.1.toNat (aK p.2.2.toNat)++l.map zH
structure Bx (p:Int×Int×Int) (x:Int×Row):Prop where
 id:bW x.1=eR
 len:j9 x.2=p.2.2.toNat
theorem afT{n:Nat}(d:1<=n)(c:n<=20)(seed id:Int):(dt n seed id).Pairwise (·<·):=by have a:=UK n seed id;have b:=DT d c seed id;rw[List.Nodup]at b;exact(a.and b).imp λ⟨d,c⟩=>k4
section
variable {p:Int×Int×Int} {seed:Int} {l:List (Int×Row)} {n w:Nat}
theorem ahg(b:1<=n)(a:n<=20)(g:∀x∈l,Bx p x)(h:p.2.2.toNat=w):∀e∈uV n seed l,jc n w e/\e.1.Pairwise (·<·):=λe i=>by
 obtain⟨x,f,rfl⟩:=qo.1 i;exact⟨⟨λc d=>nc b a d,DT b a seed x.1,by rw[<-h];exact(g x f).len⟩,afT b a seed x.1⟩
theorem XR(e:bH p=eR)(a:(bD p).toNat=n)(d:∀x∈l,Bx p x):dI n (uV n seed l) (bw p.1.toNat p.2.1.toNat)=dR p seed (l.map qM):=by
 unfold dI dR uV;rw[j1 e,a];have:(l.map qM).filter bW=l.map qM:=zW.2 λi b=>by
  obtain⟨x,c,rfl⟩:=qo.1 b;exact(d x c).id
 rw[this,wQ,wQ];rfl
theorem XS(a:p.2.2.toNat=w):iD w (uV n seed l) (bw p.1.toNat p.2.1.toNat)=sn p l:=by unfold iD sn uV;rw[a,wQ];simp[bw]
end
section
variable {n w:Nat} {l:List fu} {ahead:aM} {known:List Bool} {vals:aM} {dead left:au} {W M:aM}
theorem aae(b:∀e∈l,jc n w e)(f:aT n ahead)(g:kb n w l known vals)(c:kJ known vals l=eR)(d:ca (dI n l ahead)=n):¬ly n (dI n l ahead) (iD w l ahead):=λh=>by
 obtain⟨k,j,a⟩:=XO g b c;have i:=pO xA (Bt f) (Bu b) d h;exact a _ (((Ee b).1 i).2.2 k j).1
theorem gP.WH(S:gP n w l ahead known vals dead left W M)(a:ca (dI n l ahead)=n){D:aM}(b:fE dead.length w (dF n dead.length (bf known vals l) W left ahead) (fG n w (bf known vals l) M left ahead) D):
  ly n (dI n l ahead) (iD w l ahead)/\xW dead.length known vals W M D=gc n (dI n l ahead) (iD w l ahead):=by
 have h:=mi xA (Bt S.ahd) (Bu S.eqs) a (S.XQ b);exact⟨h.2,h.1⟩
theorem gP.WI(S:gP n w l ahead known vals dead left W M)(b:ca (dI n l ahead)=n)(a:ly n (dI n l ahead) (iD w l ahead)):fE dead.length w (dF n dead.length (bf known vals l) W left ahead) (fG n w (bf known vals l) M left ahead) (dead.map λc=>aC (gc n (dI n l ahead) (iD w l ahead)) c.toNat):=
 S.UQ (pO xA (Bt S.ahd) (Bu S.eqs) b a)
theorem gP.XT(S:gP n w l ahead known vals dead left W M)(f:1<=w)(b:ca (dI n l ahead)=n):ly dead.length (dF n dead.length (bf known vals l) W left ahead) (fG n w (bf known vals l) M left ahead)↔ly n (dI n l ahead) (iD w l ahead):=by obtain⟨d,e⟩:=pT S;have a:=S.NU f b;exact⟨λc=>(S.WH b (pO Bv d e a c)).1,λc=>(mi Bv d e a (S.WI b c)).2⟩
theorem LM{a b:aM}(h:j9 a=j9 b):fE 0 w a b []↔∀r∈b,r=aK w:=by
 unfold fE;constructor
 ·rintro⟨_,_,h3⟩ r c;obtain⟨i,e,rfl⟩:=fk c;exact(h3 i k4).symm
 ·intro d;refine⟨k0,λr c=>(by cases c),λi e=>?_⟩;have:aC b i∈b:=mem_row;rw[d _ this];rfl
theorem afU(b:∀e∈l,e.1.Pairwise (·<·)):∀e∈bf known vals l,e.1.Pairwise (·<·):=λe c=>by
 obtain⟨d,a,rfl⟩:=qo.1 (qH.1 c).1;exact(b d a).filter _
theorem aaf:j9 (bf known vals l)<=j9 l:=by unfold bf;refine zf (qT _ _) ?_;simp
theorem aag{m:Nat}(b:∀e∈l,j9 e.1<=m):∀e∈bf known vals l,j9 e.1<=m:=λe c=>by
 obtain⟨d,a,rfl⟩:=qo.1 (qH.1 c).1;exact zf (qT _ _) (b d a)
end
open Go
end Wl
namespace Go.Vc
open Go
section
variable {B:aB} {α:Type} {C:Ctx} {h0 h:Heap} {As:List HP} {e t t2 k by_:Nat} {s:Sl} {f:α->ba} {d:List α} {z:ba}
end
section
variable {P:Program}
structure aiV (P:Program) (t it:TypeId):Prop where
 u:∃f0 f1 f2:Field,P.underlying t=dB (.struct #[f0,f1,f2])/\f0.name≠ "_" /\f1.name≠ "_" /\f2.name≠ "_" /\f0.type=it/\f1.type=it/\f2.type=it/\f0.offset=0/\f1.offset=1/\f2.offset=2
 st:P.stoodInHeld t=eS
 i:P.underlying it=dB (.int .i64)
 a:aL P (isAgg it) eS
abbrev k3v(x:Int×Int×Int):Value:=.agg #[xb xi x.1,xb xi x.2.1,xb xi x.2.2]
structure aiW (h:Heap) (r:Nat) (ks:List (Int×Int×Int)):Prop where
 ex:∃es clock,h[r]?=dB (.map es clock)/\es.toList.map (λe=>(e.key,e.val))=ks.map (λk=>(k3v k,Value.bool eR))
end
section
variable {C:Ctx} {t t2 e k:Nat} {z:ba} {by_:Nat} {α:Type} {h h0:Heap} {p q B:aB} {s v:Sl} {f:α->ba} {l l2:List α} {As:List HP}
end
section
variable {C:Ctx} {t e k:Nat} {z:ba} {by_:Nat} {h:Heap} {s:Sl}
end
open Go Go.RowKit Go.ChangeShapes Go.WideShapes Go.Joins Go.Deep
section
variable {H:Type} {enc:TypeId×Value->H} {P:Program} {W W':World}
theorem adj{w a:World}(c:dl w a)(d:aX (λb=>b<w.heap.size) w.heap a.heap):Below w.heap.size w a:=
 ⟨c.os,c.tape,c.output,d.1,λk e=>d.2 k e e⟩
theorem EX(g:laidOutB P=eR)(i:Below W.heap.size W W'):∀{c:List TypeId} {vs:ba} {ds:List (DataW H)} {a:List MemPlace},
  (∀t∈c,P.readableRec t=eR/\t<P.types.size)->DataW.TrodAll enc P W 0 (λ_=>eR) eR c vs ds a->(∀x∈a,x.block<W.heap.size)->DataW.TrodAll enc P W' 0 (λb=>decide (b<W.heap.size)) eR c vs ds a
 |[],[],[],a,_,h,_=>h
 |t::c,v::vs,d::ds,a,hr,⟨p,q,h1,h2,e⟩,hlt=>by
  subst e;exact⟨p,q,Below.trod g (hr t k9).1 (hr t k9).2 h1 i λx f=>hlt x sb,EX g i (λu j=>hr u (by simp[j])) h2 λx f=>hlt x sb,k0⟩
 |[],_::_,_,_,_,h,_=>h.elim
 |[],[],_::_,_,_,h,_=>h.elim
 |_::_,[],_,_,_,h,_=>h.elim
 |_::_,_::_,[],_,_,h,_=>h.elim
theorem adk{f:Func}{s:ChangeSpec}{args:Array Value}{ds:List (DataW H)}{a:List MemPlace}{rt:TypeId}(k:s.vars=[])(e:DataW.Whole enc P f.params.toList s.vars eS W args.toList ds [] a)
  (b:s.fn H (ds++[])={results:=[.lit (.bool eR)],args:=ds}) (l:laidOutB P=eR) (j:Below W.heap.size W W') (o:∀t∈f.params.toList,P.readableRec t=eR/\t<P.types.size)
  (c:f.resultTypes=#[rt]) (d:P.underlying rt=dB .bool):s.post enc P f eS eR eS eS W args (.bool eR) W':=by
 obtain⟨p,q,n,i,h3,r,u⟩:=id e;have g:=e.lt;rw[k]at i;have m:q=[]:=i;subst m;simp only[qL]at h3;subst h3;refine⟨ds,[],a,[],a,[],e,?_,?_,?_,j.frame _,λh=>l9⟩
 ·rw[b,c];exact trodAll_mk1 (shut_bool d eR)
 ·rw[b];exact EX l j o n g
 ·rw[b,k];rfl
theorem UR(w:World)(a:Addr):w.cell? a=cellOf w.heap a:=rfl
theorem aah{h:Heap}{a:Addr}{v:Value}(c:cellOf h a=dB v):a=⟨a.block,a.off,none⟩:=by
 obtain⟨b,o,s⟩:=a;cases s with
 |none=>rfl
 |some s=>
  unfold cellOf at c;cases hb:h[b]? with
  |none=>rw[hb]at c;cases c
  |some x=>rw[hb]at c;cases x<;>simp at c
theorem ahh{α:Type}{f:α->Value}{h:Heap}{a:Addr}{len cap:Nat}{l:List α}(k:j9 l=len)(c:∀i (d:i<j9 l),cellOf h (a.add i)=dB (f l[i])):Seq h (λb=>b<h.size) ⟨dB a,len,cap⟩ 1 (λx=>[f x]) l:=by refine⟨k.symm,λi x j=>?_⟩;obtain⟨d,e⟩:=List.getElem?_eq_some_iff.1 j;have h0:=c 0 k4;rw[add_zero]at h0;have g:=aah h0;refine⟨a.block,a.off,by rw[<-g],uK h0,?_,trivial⟩;have:=c i d;rw[g,add_eq]at this;rw[Nat.mul_one,add_eq,Nat.add_zero,this,e]
theorem adl{t e:TypeId}{v:Value}{d:DataW H}{q:List MemPlace}(u:P.underlying t=dB (.slice e))(o:P.underlying e=dB (.int .i64))(k:P.cellsOf e=1)
  (m:∃p n c,v=.slice p n c) (h:DataW.Trod enc P W 0 (λ_=>eR) eR t v d q):∃(s:Sl) (l:au),v=.slice s.ptr s.len s.cap/\Seq W.heap (λb=>b<W.heap.size) s 1 aq l:=by
 obtain⟨g,j⟩:=h;obtain⟨p,n,c,rfl⟩:=m;rcases open_ints u o k j with⟨h1,_⟩|⟨a,len,cap,zs,h1,_,hle,_,hz,_,hcell,_⟩
 ·simp[Value.cells]at h1;obtain⟨rfl,rfl,rfl⟩:=h1;exact⟨⟨none,0,0⟩,[],k0,Seq.nil _ _ _ _ _ _⟩
 ·simp[Value.cells]at h1;obtain⟨rfl,rfl,rfl⟩:=h1;simp only[if_true]at hz;refine⟨⟨dB a,n,c⟩,zs.take n,k0,ahh (f:=λx=>xb xi x) k8 λi r=>?_⟩;simp at r;rw[<-UR,hcell i k4];simp[qe,qd (show i<j9 zs by omega)]
theorem Qv{r:_root_.Go.Reach}{a:Nat}{t e:TypeId}{v:Value}(b:P.underlying t=dB (.slice e))(h:Value.okWide P W r a t v):∃p n c,v=.slice p n c:=by simp only[Value.okWide,b,Cell.okWide]at h;cases v<;>simp_all [Cell.ok]
end
section
variable {H:Type} {enc:TypeId×Value->H} {P:Program} {W W':World}
end
end Go.Vc
namespace Go
section
variable {H:Type} {enc:TypeId×Value->H}
end
theorem aai{P:Program}(h:P.funcs.any Func.goes=eS)(f:FuncId):P.goes f=eS:=by
 have a:∀g:FuncId,(P.funcs[g]?).any Func.goes=eS:=λg=>by
  cases hg:P.funcs[g]? with
  |none=>rfl
  |some x=>
   show Func.goes x=eS;obtain⟨b,e⟩:=Array.getElem?_eq_some_iff.1 hg;cases hx:Func.goes x with
   |false=>rfl
   |true=>
    have:P.funcs.any Func.goes=eR:=Array.any_eq_true.2 ⟨g,b,by rw[e];exact hx⟩;rw[h]at this;cases this
 unfold Program.goes;rw[h,Bool.and_false,Bool.or_false];simp only[a];simp
theorem US{P:Program}{c:OpenClaim}(h:P.funcs.any Func.goes=eS):c.goesBy P=eS:=by
 have a:∀f,P.goes f=eS:=aai h;unfold OpenClaim.goesBy Program.goesAt Program.goesFrom;have b:(P.funcNamed c.func).any P.goes=eS:=by
  cases P.funcNamed c.func with
  |none=>rfl
  |some f=>exact a f
 have h3:P.inits.toList.any P.goes=eS:=wG.2 λf _=>by rw[a f];exact Bool.false_ne_true
 rw[b,h3];cases c.start<;>rfl
end Go
