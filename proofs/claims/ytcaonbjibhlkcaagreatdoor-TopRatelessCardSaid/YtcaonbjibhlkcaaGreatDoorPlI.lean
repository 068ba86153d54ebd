/- Lemmas for the proof of the law; no condition. -/
import Derived.Test.YtcaonbjibhlkcaaGreatDoorPlG
set_option linter.unusedVariables false
set_option linter.unusedSimpArgs false
open List renaming all_eq_true -> qN, any_eq_false -> wV, any_eq_true -> yb, append_assoc -> qo, filter_cons -> zo, filter_eq_nil_iff -> wP, filter_eq_self -> we, find?_eq_none -> w6, flatMap_append -> ze, foldl_cons -> zD, getD_eq_getElem?_getD -> qe, getElem?_append_right -> qj, getElem?_eq_getElem -> qd, getElem?_eq_none -> za, getElem?_map -> qO, getElem?_set -> qV, getElem_append_left -> yl, getElem_mem -> qh, getElem_of_mem -> qE, length_append -> qw, length_cons -> zi, length_filter_le -> zc, length_map -> qD, length_set -> zr, map_map -> w5, mem_append -> qF, mem_cons -> q8, mem_cons_of_mem -> qY, mem_cons_self -> q0, mem_filter -> qJ, mem_map -> qC, mem_range -> qI, mem_replicate -> w8, mem_singleton -> qG, mem_take_iff_getElem -> yI, nodup_cons -> yK, nodup_range -> vK, pairwise_iff_getElem -> zj, range -> qy, range' -> xc, range_eq_range' -> yO, replicate -> qg, take_append_drop -> qx, take_succ_eq_append_getElem -> zw
open Bool renaming and_eq_true -> qA, false_eq_true -> zf, not_eq_true' -> ye, not_false -> w4, not_true -> yd, or_eq_true -> wv
open Nat renaming add_sub_cancel -> y5, le_refl -> ql, le_trans -> zk, lt_succ_iff_lt_or_eq -> zb, mod_lt -> wJ, mul_le_mul -> zJ, pow_le_pow_right -> yo, zero_add -> zX
open UInt8 renaming ofNat -> zH, ofNat_toNat -> wR, toNat_lt -> zN, xor_comm -> vA, xor_zero -> z6, zero_xor -> z7
open Int renaming toNat_natCast -> qp
open Prod renaming fst -> qK, snd -> zE
open Go.Value renaming int -> xk
open Go.IntKind renaming i64 -> xq
open Go.Instr renaming slice -> xi, sliceAt -> yk, sliceBounds -> wE
open Go.Builtin renaming append_ -> qq
set_option maxRecDepth 100000
namespace Wl
open Go Go.Vc
def cJ(n:Int):Nat:=
 if n=0 then 0 else
  let m:=n.natAbs;let e:=m.log2
  (if n<0 then 2^63 else 0)+(1023+e)*2^52+(m-2^e)*2^(52-e)
structure DM where
 ax:Nat
 ay:Nat
 sx:Nat
 sy:Nat
 left:Int
 leg:Int
 second:Bool
def pe:Nat:=4607182418800017408
def fs0:DM:=⟨0,0,pe,0,1,1,false⟩
def nQ(a b:Nat):Nat:=(gf.add a b).getD 0
def afV(a b:Nat):Nat:=(gf.sub a b).getD 0
def sN(a b:Nat):Nat:=(gf.mul a b).getD 0
def tx(a b:Nat):Nat:=afV (sN a 0) (sN b pe)
def ty(a b:Nat):Nat:=nQ (sN a pe) (sN b 0)
def DM.on(s:DM):DM:=
 if s.left-1>0 then{s with ax:=nQ s.ax s.sx,ay:=nQ s.ay s.sy,left:=s.left-1}
 else{ax:=nQ s.ax s.sx,ay:=nQ s.ay s.sy,sx:=tx s.sx s.sy,sy:=ty s.sx s.sy,leg:=if s.second then s.leg+1 else s.leg,left:=if s.second then s.leg+1 else s.leg,second:=!s.second}
def jY:Nat->DM
 |0=>fs0
 |n+1=>(jY n).on
def DM.ok(s:DM):Bool:=
 (gf.add s.ax s.sx).isSome&&(gf.add s.ay s.sy).isSome&&(gf.mul s.sx 0).isSome&&(gf.mul s.sy pe).isSome&&(gf.sub (sN s.sx 0) (sN s.sy pe)).isSome&&(gf.mul s.sx pe).isSome&&(gf.mul s.sy 0).isSome&&(gf.add (sN s.sx pe) (sN s.sy 0)).isSome&&decide (1<=s.left)&&decide (s.left<=100)&&decide (1<=s.leg)&&decide (s.leg<=100)
structure Qd where
 x:Int
 y:Int
 dx:Int
 dy:Int
 left:Int
 leg:Int
 turns:Int
def afW:Qd:=⟨0,0,1,0,1,1,0⟩
def Qd.on(s:Qd):Qd:=
 if s.left-1=0 then
  {x:=s.x+s.dx,y:=s.y+s.dy,dx:=-s.dy,dy:=s.dx,leg:=if(s.turns+1)%2=0 then s.leg+1 else s.leg,left:=if(s.turns+1)%2=0 then s.leg+1 else s.leg,turns:=s.turns+1}
 else{s with x:=s.x+s.dx,y:=s.y+s.dy,left:=s.left-1}
def fD:Nat->Qd
 |0=>afW
 |n+1=>(fD n).on
def Qd.ok(s:Qd):Bool:=decide (-10<=s.x)&&decide (s.x<=10)&&decide (-10<=s.y)&&decide (s.y<=10)&&decide (-1<=s.dx)&&decide (s.dx<=1)&&decide (-1<=s.dy)&&decide (s.dy<=1)&&decide (1<=s.left)&&decide (s.left<=100)&&decide (1<=s.leg)&&decide (s.leg<=100)&&decide (0<=s.turns)&&decide (s.turns<=100)
theorem afE:∀n,n<64->(jY n).ok=true:=by decide+kernel
theorem aeo:∀n,n<64->((jY n).ax==cJ (fD n).x&&(jY n).ay==cJ (fD n).y&&decide (-4<=(fD n).x)&&decide ((fD n).x<=4)&&decide (-4<=(fD n).y)&&decide ((fD n).y<=4))=true:=by decide+kernel
theorem aep:∀i,i<9->∀j,j<9->gf.sub (cJ ((i:Nat)-4:Int)) (cJ ((j:Nat)-4:Int))=some (cJ ((i:Int)-(j:Int))):=by decide+kernel
theorem aeq:∀i,i<17->gf.mul (cJ ((i:Nat)-8:Int)) (cJ ((i:Nat)-8:Int))=some (cJ (((i:Nat)-8:Int)*((i:Nat)-8:Int))):=by decide+kernel
theorem aer:∀i,i<9->∀j,j<9->gf.add (cJ (((i:Nat):Int)*(i:Nat))) (cJ (((j:Nat):Int)*(j:Nat)))=some (cJ (((i:Nat):Int)*(i:Nat)+((j:Nat):Int)*(j:Nat))):=by decide+kernel
theorem XV:∀m,m<129->∀n,n<129->gf.order (cJ (m:Nat)) (cJ (n:Nat))=some (compare m n):=by decide+kernel
theorem VA{seq a c:Int}{b:aU}(d:b.length<=48):cP (ju seq a c b)=none:=by
 unfold cP ju;rw[Ah (by decide) (by decide) (by simp[ci];omega)];dsimp only;rw[if_neg (by rintro⟨h,_⟩;exact absurd h (by decide))]
theorem lx{m:aD}{c:aU}(h:c∈bf m):cP c=none:=by
 unfold bf at h;obtain⟨i,_,rfl⟩:=qC.1 h;exact VA (by simp;omega)
def ltC(a b:cV):Prop:=oa a b=true/\kc a b=false
theorem SH{l:List cV}(h:l.Pairwise ltC):oW (l.mergeSort oa)=l:=by
 have g:l.mergeSort oa=l:=(Vp aas (h.imp fun h=>h.1) (bY.refl _)).symm;rw[g];unfold oW;have d:(qy l.length).filter (oV l)=qy l.length:=by
  refine we.2 fun k d=>?_;have d:=qI.1 d;unfold oV;by_cases h0:k=0
  ·rw[decide_eq_true h0];rfl
  ·have:=(zj.1 h (k-1) k (by omega) d (by omega)).2;have j:l.getD k Ai=l[k]:=by rw[qe,qd d];rfl
   have e2:l.getD (k-1) Ai=l[k-1]'(by omega):=by rw[qe,qd (by omega)];rfl
   rw[j,e2];have e:kc l[k] (l[k-1]'(by omega))=false:=by
    unfold kc at this⊢;rw[decide_eq_false_iff_not]at this⊢;rintro⟨a,b,c⟩;exact this ⟨a.symm,b.symm,c.symm⟩
   rw[e,w4,Bool.or_true]
 rw[d];apply List.ext_getElem?;intro i;rw[qO];by_cases f:i<l.length
 ·rw[List.getElem?_range f,qd f];show some (l.getD i Ai)=_;rw[qe,qd f];rfl
 ·rw[za (by simp;omega),za (by omega)];rfl
theorem Nj{α:Type}{R:α->α->Prop}(m:∀a b c,R a b->R b c->R a c){l:List α}(h:∀i (n:i+1<l.length),R (l[i]'(by omega)) l[i+1]):l.Pairwise R:=by
 have g:∀d i (f:i+(d+1)<l.length),R (l[i]'(by omega)) l[i+(d+1)]:=by
  intro d
  induction d with
  |zero=>exact fun i f=>h i f
  |succ d ih=>exact fun i f=>m _ _ _ (ih i (by omega)) (h (i+(d+1)) (by omega))
 refine zj.2 fun i j n f k=>?_;have:=g (j-i-1) i (by omega);have e:i+(j-i-1+1)=j:=by omega
 simp only[e]at this;exact this
theorem Nk{α:Type}{R:α->α->Prop}{l:List α}(h:l.Pairwise R)(i:Nat)(a:i+1<l.length):R (l[i]'(by omega)) l[i+1]:=zj.1 h i (i+1) (by omega) a (by omega)
theorem kl{α:Type}{l:List α}{i:Nat}(d:α)(h:i<l.length:=by omega):l.getD i d=l[i]:=by rw[qe,qd h];rfl
theorem oc(n a b:Int):fh n a b=true↔a<=n/\n<=b:=by unfold fh;rw[qA,decide_eq_true_eq,decide_eq_true_eq]
theorem XW(l:aB)(e:Int):oT l e=true↔l.Pairwise (·<·)/\∀x∈l,0<=x/\x<=e:=by
 unfold oT;rw[qN];constructor
 ·intro h;have j:∀i (d:i<l.length),(0<=l[i]/\l[i]<=e)/\(i=0∨l.getD (i-1) 0<l[i]):=fun i d=>by
   have:=h i (qI.2 d);unfold jd at this;rw[kl 0 d,qA,oc,wv,decide_eq_true_eq,decide_eq_true_eq]at this;exact this
  refine⟨Nj (R:=fun a b:Int=>a<b) (fun a b c g f=>Int.lt_trans g f) fun i d=>?_,fun x k=>?_⟩
  ·rcases(j (i+1) d).2 with h0|h0
   ·omega
   ·rw[y5,kl 0]at h0;exact h0
  ·obtain⟨i,d,rfl⟩:=qE k;exact(j i d).1
 ·rintro⟨g,f⟩ i d;have d:=qI.1 d;unfold jd;rw[kl 0 d,qA,oc,wv,decide_eq_true_eq,decide_eq_true_eq];refine⟨f _ (qh d),?_⟩;cases i with
  |zero=>exact .inl rfl
  |succ i=>exact .inr (by rw[y5,kl 0];exact Nk g i d)
theorem Qe(a b c:ByteArray)(e:eG a b=true)(d:eG b c=true):eG a c=true:=Ha _ _ _ e d
theorem cD(m:aD):bQ m=true↔kb m=true/\m.drives.Pairwise (·<·)/\(∀k∈m.drives,0<=k/\k<=63)/\m.aL.length<=12/\(∀e∈m.aL,gd m e=true)/\m.aL.Pairwise (fun a b=>eG a.name b.name=true)/\m.aL.Pairwise (fun a b=>a.object≠b.object):=by
 unfold bQ;rw[qA,qA,qA,XW,decide_eq_true_eq,qN];have n:(∀i∈qy m.aL.length,oU m i=true)↔(∀e∈m.aL,gd m e=true)/\m.aL.Pairwise (fun a b=>eG a.name b.name=true)/\m.aL.Pairwise (fun a b=>a.object≠b.object):=by
  constructor
  ·intro h;have r:∀i (l:i<m.aL.length),gd m m.aL[i]=true/\(i=0∨eG (oS m.aL (i-1)).name m.aL[i].name=true)/\∀y∈m.aL.take i,y.object≠m.aL[i].object:=fun i l=>by
    have:=h i (qI.2 l);unfold oU at this;rw[nP l,qA,qA,wv,decide_eq_true_eq,ye,wV]at this;exact⟨this.1,this.2.1,fun y o=>by have:=this.2.2 y o;simpa using this⟩
   refine⟨fun e u=>?_,Nj (R:=fun a b:cm=>eG a.name b.name=true) (fun a b c p q=>Qe _ _ _ p q) fun i l=>?_,zj.2 fun i j l s t=>?_⟩
   ·obtain⟨i,l,rfl⟩:=qE u;exact(r i l).1
   ·rcases(r (i+1) l).2.1 with h0|h0
    ·omega
    ·rw[y5,nP]at h0;exact h0
   ·refine(r j s).2.2 m.aL[i] ?_;exact yI.2 ⟨i,by omega,rfl⟩
  ·rintro⟨p,q,h3⟩ i l;have l:=qI.1 l;unfold oU;rw[nP l,qA,qA,wv,decide_eq_true_eq,ye,wV];refine⟨p _ (qh l),?_,fun y o=>?_⟩
   ·cases i with
    |zero=>exact .inl rfl
    |succ i=>exact .inr (by rw[y5,nP];exact Nk q i l)
   ·obtain⟨j,s,rfl⟩:=yI.1 o;have:=zj.1 h3 j i (by omega) l (by omega);simpa using this
 rw[n];constructor
 ·rintro⟨a,⟨b,c⟩,d,e,f,g⟩;exact⟨a,b,c,d,e,f,g⟩
 ·rintro⟨a,b,c,d,e,f,g⟩;exact⟨a,⟨b,c⟩,d,e,f,g⟩
theorem dW(m:aD):kb m=true↔(1<=m.seq/\m.seq<=2147483647)/\(0<=m.next/\m.next<=16777216)/\bA m.p=true/\0<=m.extra/\m.extra<=16:=by
 unfold kb;rw[qA,qA,qA,oc,oc,oc]
theorem iv(m:aD)(x:cm):gd m x=true↔lH x.name=true/\(0<=x.object/\x.object<m.next)/\(0<=x.length/\x.length<=m.p.1*m.p.2.2*8)/\(∀t∈x.tries,0<=t/\t<=15)/\(x.tries.length:Int)=countP m.p x.length:=by
 unfold gd;rw[qA,qA,qA,qA,oc,oc,qN,decide_eq_true_eq];simp only[oc];constructor
 ·rintro⟨a,b,c,d,e⟩;exact⟨a,⟨b.1,by omega⟩,c,d,e⟩
 ·rintro⟨a,b,c,d,e⟩;exact⟨a,⟨b.1,by omega⟩,c,d,e⟩
theorem CQ{m:aD}(h:bQ m=true):m.drives.Nodup:=((cD m).1 h).2.1.imp fun h e=>by omega
theorem ne{m:aD}(h:bQ m=true):∀k∈m.drives,0<=k/\k<64:=fun k a=>by have:=((cD m).1 h).2.2.1 k a;omega
theorem Qf:∀{l:aB} {a b:Int},l.Pairwise (·<·)->(∀k∈l,a<=k/\k<b)->a<=b->(l.length:Int)<=b-a
 |[],a,b,_,_,h=>by simp;omega
 |x::l,a,b,hp,hl,h=>by
  obtain⟨e,d⟩:=List.pairwise_cons.1 hp;have f:=hl x q0;have:=Qf (a:=x+1) (b:=b) d (fun k c=>⟨by have:=e k c;omega,(hl k (qY _ c)).2⟩) (by omega);rw[zi];omega
theorem rU{m:aD}(h:bQ m=true):m.drives.length<=64:=by
 have:=Qf ((cD m).1 h).2.1 (ne h) (by decide);omega
theorem SI(b:ByteArray):∀n i r,b.size-i=n->ByteArray.toList.loop b i r=r.reverse++b.data.toList.drop i:=by
 have c:b.data.toList.length=b.size:=rfl;intro n
 induction n with
 |zero=>
  intro i r h;rw[ByteArray.toList.loop,if_neg (by omega),List.drop_eq_nil_of_le (by rw[c];omega),List.append_nil]
 |succ n ih=>
  intro i r h;have a:i<b.size:=by omega
  rw[ByteArray.toList.loop,if_pos a,ih (i+1) _ (by omega)];have d:b.data.toList.drop i=b.get! i::b.data.toList.drop (i+1):=by
   rw[List.drop_eq_getElem_cons (by rw[c];exact a)];congr 1;show _=b.data[i]!;rw[getElem!_pos b.data i a,Array.getElem_toList]
  rw[d,List.reverse_cons,qo];rfl
theorem toList_eq(x:ByteArray):x.toList=x.data.toList:=by
 unfold ByteArray.toList;rw[SI x _ 0 [] rfl];rfl
theorem CR{a b:ByteArray}(h:a.toList=b.toList):a=b:=by
 rw[toList_eq,toList_eq]at h;cases a;cases b;congr;exact Array.toList_inj.1 h
end Wl
namespace Go.Qw
open Go Go.Vc
def Ak(n:Nat):List Nat->Option (List Nat)
 |[]=>none
 |x::l=>match Ak n l with
  |some l'=>some (x::l')
  |none=>if x+l.length+1<n then some (xc (x+1) (l.length+1))else none
inductive IH (n:Nat):List Nat->List (List Nat)->Prop
 |last {l:List Nat}:Ak n l=none->IH n l [l]
 |more {l l':List Nat} {L:List (List Nat)}:Ak n l=some l'->IH n l' L->IH n l (l::L)
theorem Nl{n:Nat}:∀{l a:List Nat},Ak n l=some a->a.length=l.length
 |[],_,h=>by cases h
 |x::l,a,h=>by
  unfold Ak at h;cases hs:Ak n l with
  |some m=>rw[hs]at h;injection h with h;subst h;simp[Nl hs]
  |none=>
   rw[hs]at h;dsimp only at h;split at h
   ·injection h with h;subst h;simp
   ·cases h
theorem IH.cons{n x t:Nat}{l:List Nat}{L R:List (List Nat)}(h:IH n l L)(a:l.length=t)(c:x+t+1<n)(b:IH n (xc (x+1) (t+1)) R):IH n (x::l) (L.map (x::·)++R):=by
 induction h with
 |last hs=>exact .more (by unfold Ak;rw[hs];dsimp only;rw[if_pos (by omega),a]) b
 |more hs _ ih=>exact .more (by unfold Ak;rw[hs]) (ih (by rw[Nl hs,a]))
def ch:Nat->Nat->Nat
 |_,0=>1
 |0,_+1=>0
 |n+1,k+1=>ch n k+ch n (k+1)
end Go.Qw
namespace Wl
open Classical
def lI(r:Row):Nat:=r.findIdx (fun x=>x !=0)
section
variable {n:Nat} {m M A:aQ}
structure agk (n:Nat) (M A:aQ):Prop where
 even:aY n M
 evenA:aY n A
 span:∀v,Span n M v↔Span n A v
 len:M.length=bT A
 lead:∀x∈M,lI x<n
theorem aaE(a:aY n m):Way n m n (bT m) (bu m (dn m)).2:=by
 have h:=He a n (ql _);cases m with
 |nil=>rw[iD]at h;rw[bT,iD];exact h
 |cons x t=>
  have b:dn (x::t)=n:=by rw[dn,bj (by simp)];exact a _ (by simp)
  rw[bT,b];exact h
end
open Go
abbrev eI:=aB×Row
def cw(x:Int->UInt8):aB->UInt8
 |[]=>0
 |c::l=>x c^^^cw x l
theorem jB{x y:Int->UInt8}:∀{l:aB},(∀c∈l,x c=y c)->cw x l=cw y l
 |[],_=>rfl
 |c::l,h=>by rw[cw,cw,h c (by simp),jB fun d a=>h d (by simp[a])]
theorem HK(x:Int->UInt8)(p:Int->Bool):∀l,cw x l=cw x (l.filter p)^^^cw x (l.filter fun c=>!p c)
 |[]=>by simp[cw]
 |c::l=>by
  rw[cw,HK x p l];cases h:p c<;>simp only[zo,h,yd,w4,if_true,zf,if_false,cw]<;>ac_rfl
theorem Al(x:Int->UInt8){c:Int}:∀{l:aB},l.Nodup->c∈l->cw x l=x c^^^cw x (l.filter fun d=>!decide (d=c))
 |[],_,h=>by cases h
 |d::l,hd,h=>by
  rw[yK]at hd;rcases q8.1 h with rfl|h
  ·have:l.filter (fun d=>!decide (d=c))=l:=we.2 fun e f=>by
    have:e≠c:=fun a=>hd.1 (a▸f);simp[this]
   rw[zo];simp only[decide_true,yd,zf,if_false];rw[this,cw]
  ·have b:d≠c:=fun a=>hd.1 (a▸h);rw[zo,if_pos (by simp[b]),cw,cw,Al x hd.2 h];ac_rfl
theorem Qg(x y:Int->UInt8):∀l,cw (fun c=>x c^^^y c) l=cw x l^^^cw y l
 |[]=>by simp[cw]
 |c::l=>by rw[cw,cw,cw,Qg x y l];ac_rfl
theorem Fo:∀{x:Int->UInt8} {l:aB},(∀c∈l,x c=0)->cw x l=0
 |_,[],_=>rfl
 |x,c::l,h=>by rw[cw,h c (by simp),Fo fun d a=>h d (by simp[a])];rfl
def cx(V:aQ)(a:Row)(l:aB):Row:=l.foldl (fun a c=>ck 1 (av V c.toNat) a) a
theorem jg{V:aQ}{m:Nat}:∀{l:aB} {a:Row},a.length=m->(∀c∈l,(av V c.toNat).length=m)->(cx V a l).length=m
 |[],a,h,_=>h
 |c::l,a,h,hv=>by
  rw[cx,zD];exact jg (l:=l) (by rw[bK (by rw[hv c (by simp),h])];exact h) fun d b=>hv d (by simp[b])
theorem II{V:aQ}{m:Nat}(j:Nat):∀{l:aB} {a:Row},a.length=m->(∀c∈l,(av V c.toNat).length=m)->aE (cx V a l) j=aE a j^^^cw (fun c=>aE (av V c.toNat) j) l
 |[],a,_,_=>by simp[cx,cw]
 |c::l,a,h,hv=>by
  have b:(av V c.toNat).length=a.length:=by rw[hv c (by simp),h]
  rw[cx,zD];have:=II (V:=V) j (l:=l) (a:=ck 1 (av V c.toNat) a) (by rw[bK b];exact h) fun d e=>hv d (by simp[e]);rw[cx]at this;rw[this,cb b,Gf.one_mul,cw];ac_rfl
def Sat(t:UInt8)(k:Nat)(x:Int->UInt8)(e:eI):Prop:=cw x e.1=Gf.mul t (aE e.2 k)
structure ib (n w:Nat) (e:eI):Prop where
 cC:∀c∈e.1,0<=c/\c<(n:Int)
 nodup:e.1.Nodup
 len:e.2.length=w
def kn(known:List Bool)(c:Int):Bool:=known.getD c.toNat false
def eK(known:List Bool)(vals:aQ)(e:eI):eI:=(e.1.filter fun c=>!kn known c,cx vals e.2 (e.1.filter fun c=>kn known c))
structure jh (n w:Nat) (l:List eI) (known:List Bool) (vals:aQ):Prop where
 klen:known.length=n
 vlen:vals.length=n
 row:∀c:Nat,c<n->(av vals c).length=if known.getD c false then w else 0
 sound:∀t k x,k<w->(∀e∈l,Sat t k x e)->∀c:Int,0<=c->c<(n:Int)->kn known c=true->x c=Gf.mul t (aE (av vals c.toNat) k)
section
variable {n w:Nat} {l:List eI} {known:List Bool} {vals:aQ}
theorem VB(n w:Nat)(l:List eI):jh n w l (qg n false) (qg n []):=by
 refine⟨by simp,by simp,fun c b=>?_,fun t k x d e c h0 f a=>?_⟩
 ·rw[bj (by simpa using b)];simp[qe,b]
 ·exfalso;rw[kn,qe,List.getElem?_replicate]at a;split at a<;>simp at a
theorem jh.Fp(h:jh n w l known vals){c:Int}(b:0<=c)(d:c<(n:Int))(a:kn known c=true):(av vals c.toNat).length=w:=by
 have:=h.row c.toNat (by omega);rw[kn]at a;rw[a]at this;simpa using this
theorem jh.Bx(h:jh n w l known vals){e:eI}(b:ib n w e):ib n w (eK known vals e):=
 ⟨fun c d=>b.cC c (qJ.1 d).1,b.nodup.filter _,jg b.len fun c d=>by
  have a:=qJ.1 d;exact h.Fp (b.cC c a.1).1 (b.cC c a.1).2 a.2⟩
theorem jh.Hk(h:jh n w l known vals){e:eI}(g:ib n w e){t:UInt8}{k:Nat}{x:Int->UInt8}(j:∀c:Int,0<=c->c<(n:Int)->kn known c=true->x c=Gf.mul t (aE (av vals c.toNat) k)):
  Sat t k x (eK known vals e)↔Sat t k x e:=by
 have d:∀c∈e.1.filter (fun c=>kn known c),(av vals c.toNat).length=w:=fun c f=>by
  have b:=qJ.1 f;exact h.Fp (g.cC c b.1).1 (g.cC c b.1).2 b.2
 have o:cw x (e.1.filter fun c=>kn known c)=Gf.mul t (cw (fun c=>aE (av vals c.toNat) k) (e.1.filter fun c=>kn known c)):=by
  rw[jB (y:=fun c=>Gf.mul t (aE (av vals c.toNat) k)) fun c f=>j c (g.cC c (qJ.1 f).1).1 (g.cC c (qJ.1 f).1).2 (qJ.1 f).2];generalize e.1.filter (fun c=>kn known c)=m
  induction m with
  |nil=>simp[cw,Gf.mul_zero]
  |cons a m ih=>rw[cw,cw,Gf.iY,ih]
 unfold Sat eK;dsimp only;rw[II k g.len d,Gf.iY,<-o,HK x (fun c=>kn known c) e.1];constructor
 ·intro i;rw[i];rw[vA,ra]
 ·intro i;rw[<-i];rw[vA (cw x (e.1.filter fun c=>kn known c)),ra]
theorem aes{known:List Bool}{c d:Int}(e:0<=c)(a:0<=d)(b:c<(known.length:Int)):kn (known.set c.toNat true) d=(decide (d=c)||kn known d):=by
 unfold kn;rw[qe,qV];by_cases h:d=c
 ·subst h;rw[if_pos rfl,if_pos (by omega)];simp
 ·rw[if_neg (by omega)];simp[h]
theorem XX(h:jh n w l known vals)(m:∀e∈l,ib n w e){e:eI}(i:e∈l){c:Int}(o:(eK known vals e).1=[c]):jh n w l (known.set c.toNat true) (vals.set c.toNat (eK known vals e).2):=by
 have b:=h.Bx (m e i);have g:=b.cC c (by rw[o];simp);have r:=h.vlen;have f:=h.klen;refine⟨by simp[f],by simp[r],fun d u=>?_,fun t k x q j d h0 s p=>?_⟩
 ·rw[kj,qe,qV];by_cases a:c.toNat=d
  ·subst a;simp[show c.toNat<known.length by omega,b.len]
  ·rw[if_neg a,if_neg a,h.row d u,qe]
 ·rw[aes g.1 h0 (by omega)]at p;rw[kj];by_cases a:d=c
  ·subst a;rw[if_pos rfl];have:=(h.Hk (m e i) (h.sound t k x q j)).2 (j e i);unfold Sat at this;rw[o]at this;simpa[cw]using this
  ·rw[if_neg (by omega)];exact h.sound t k x q j d h0 s (by simpa[a]using p)
theorem Fq(h:jh n w l known vals)(e:eI):∀c∈(eK known vals e).1,kn known c=false:=fun c a=>by
 have:=(qJ.1 a).2;simpa using this
def aZ(known:List Bool)(vals:aQ)(l:List eI):List eI:=(l.map (eK known vals)).filter fun e=>!e.1.isEmpty
def jC(known:List Bool)(vals:aQ)(l:List eI):Bool:=(l.map (eK known vals)).any fun e=>e.1.isEmpty&&e.2.any (· !=0)
theorem Qh(h:jh n w l known vals)(f:∀e∈l,ib n w e)(i:jC known vals l=false){t:UInt8}{k:Nat}{x:Int->UInt8}(o:k<w):
  (∀e∈l,Sat t k x e)↔(∀c:Int,0<=c->c<(n:Int)->kn known c=true->x c=Gf.mul t (aE (av vals c.toNat) k))/\∀e∈aZ known vals l,Sat t k x e:=by
 constructor
 ·intro g;refine⟨h.sound t k x o g,fun e b=>?_⟩;obtain⟨j,d,rfl⟩:=qC.1 (qJ.1 b).1;exact(h.Hk (f j d) (h.sound t k x o g)).2 (g j d)
 ·rintro⟨p,r⟩ e b;refine(h.Hk (f e b) p).1 ?_;by_cases a:(eK known vals e).1=[]
  ·unfold Sat;rw[a,cw];have m:((eK known vals e).1.isEmpty&&(eK known vals e).2.any (· !=0))=false:=by
    have:=wV.1 i _ (List.mem_map_of_mem b);simpa using this
   rw[a]at m;have q:∀y∈(eK known vals e).2,y=0:=by simpa using m
   have h3:=(h.Bx (f e b)).len;have:aE (eK known vals e).2 k=0:=by
    rw[aE,qe,qd (by omega)];exact q _ (qh _)
   rw[this,Gf.mul_zero]
  ·refine r _ (qJ.2 ⟨List.mem_map_of_mem b,?_⟩);simpa using a
theorem VC(h:jh n w l known vals)(i:∀e∈l,ib n w e)(d:jC known vals l=true):∃k,k<w/\∀x:Int->UInt8,¬∀e∈l,Sat 1 k x e:=by
 obtain⟨y,m,b⟩:=yb.1 d;obtain⟨e,c,rfl⟩:=qC.1 m;rw[qA]at b;obtain⟨z,o,a⟩:=yb.1 b.2;obtain⟨k,p,rfl⟩:=qE o;have h3:=(h.Bx (i e c)).len;refine⟨k,by omega,fun x j=>?_⟩;have g:=(h.Hk (i e c) (h.sound 1 k x (by omega) j)).2 (j e c);unfold Sat at g;have f:(eK known vals e).1=[]:=by simpa using b.1
 rw[f,cw,Gf.one_mul,aE,qe,qd p]at g;simp at a;exact a g.symm
end
def jp(op:List Bool)(c:Int):Bool:=op.getD c.toNat false
def cH(op:List Bool)(r:aB):aB:=r.filter (jp op)
def lJ(rows:dq)(op us:List Bool)(i:Nat):Bool:=!(us.getD i false)&&(cH op (rows.getD i [])).length==1
def lK(rows:dq)(op us:List Bool):Option Nat:=(qy rows.length).find? (lJ rows op us)
def ey(rows:dq)(op:List Bool)(i:Nat):Int:=(cH op (rows.getD i [])).getLast?.getD 0
def jD(a:aB)(r:aB):aB:=r.foldl (fun a c=>a.set c.toNat (a.getD c.toNat 0+1)) a
def km(g:Nat->aB->aB)(rows:dq)(us:List Bool)(a:aB):Nat->aB
 |0=>a
 |k+1=>if us.getD k false then km g rows us a k else jD (km g rows us a k) (g k (rows.getD k []))
def gW(op:List Bool)(a:aB):Nat->Int
 |0=>-1
 |k+1=>if op.getD k false&&(decide (gW op a k<0)||decide (a.getD k 0>a.getD (gW op a k).toNat 0))then(k:Int)else gW op a k
def gg(rows:dq)(op us:List Bool):Int:=gW op (km (fun _ r=>r) rows us (qg op.length 0) rows.length) op.length
structure Pl where
 steps:List (Int×Int)
 dead:aB
 used:List Bool
def ce(rows:dq):Nat->List Bool->List Bool->Pl
 |0,_,us=>⟨[],[],us⟩
 |k+1,op,us=>
  if op.contains true then
   match lK rows op us with
   |some i=>let r:=ce rows k (op.set (ey rows op i).toNat false) (us.set i true);⟨((i:Int),ey rows op i)::r.steps,r.dead,r.used⟩
   |none=>let r:=ce rows k (op.set (gg rows op us).toNat false) us;⟨r.steps,gg rows op us::r.dead,r.used⟩
  else⟨[],[],us⟩
def eW(us:List Bool):Nat->aB
 |0=>[]
 |k+1=>if us.getD k false then eW us k else eW us k++[(k:Int)]
def dg(n:Nat)(rows:dq):Pl:=ce rows n (qg n true) (qg rows.length false)
theorem XY{P:Nat->Bool}{n:Nat}(h:∀j,j<n->P j=false):(qy n).find? P=none:=by
 rw[w6];intro x a;rw[qI]at a;simp[h x a]
theorem XZ{P:Nat->Bool}{n k:Nat}(e:k<n)(h:∀j,j<k->P j=false)(d:P k=true):(qy n).find? P=some k:=by
 rw[List.find?_eq_some_iff_append];refine⟨d,qy k,xc (k+1) (n-k-1),?_,fun a b=>?_⟩
 ·rw[yO,yO];have c:n=k+(n-k):=by omega
  have e2:n-k=(n-k-1)+1:=by omega
  conv=>lhs;rw[c,<-List.range'_append_1 (s:=0) (m:=k) (n:=n-k)]
  rw[zX]
  conv=>lhs;rw[e2,List.range'_succ]
 ·rw[qI]at b;simp[h a b]
theorem SJ(a r:aB)(c:Int):jD a (r++[c])=(jD a r).set c.toNat ((jD a r).getD c.toNat 0+1):=by
 simp[jD]
theorem DN(b r:aB):(jD b r).length=b.length:=by
 induction r generalizing b with
 |nil=>rfl
 |cons a t ih=>simp only[jD,zD]at*;rw[ih];simp
theorem CS(g:Nat->aB->aB)(rows:dq)(us:List Bool)(a:aB):∀k,(km g rows us a k).length=a.length
 |0=>rfl
 |k+1=>by
  unfold km;split
  ·exact CS g rows us a k
  ·rw[DN,CS g rows us a k]
theorem Fs{m:Int}:∀{r b:aB},(∀x∈b,0<=x/\x<=m)->∀x∈jD b r,0<=x/\x<=m+r.length
 |[],b,h,x,hx=>by have:=h x hx;simp;omega
 |a::t,b,h,x,hx=>by
  have d:∀y∈b.set a.toNat (b.getD a.toNat 0+1),0<=y/\y<=m+1:=by
   intro y c;rcases List.mem_or_eq_of_mem_set c with c|c
   ·have:=h y c;omega
   ·subst c;rw[qe];cases hc:b[a.toNat]? with
    |none=>
     rw[List.getElem?_eq_none_iff]at hc;rw[List.set_eq_of_length_le hc]at c;have:=h _ c;rw[qe,za hc]at this;simp at this⊢;omega
    |some z=>have:=h z (List.mem_of_getElem? hc);simp;omega
  have:=Fs (r:=t) d x hx;simp only[zi];omega
theorem Qi(g:Nat->aB->aB){rows:dq}{us:List Bool}{n:Nat}(a:∀k,(g k (rows.getD k [])).length<=64):∀k,∀x∈km g rows us (qg n 0) k,0<=x/\x<=64*k
 |0,x,hx=>by
  have:=List.eq_of_mem_replicate hx;subst this;simp
 |k+1,x,hx=>by
  unfold km at hx;split at hx
  ·have:=Qi g a k x hx;omega
  ·have:=Fs (Qi g a k) x hx;have:=a k;omega
theorem Nm(op:List Bool)(a:aB):∀k,(gW op a k=-1/\∀j,j<k->op.getD j false=false)∨(0<=gW op a k/\gW op a k<k/\op.getD (gW op a k).toNat false=true)
 |0=>.inl ⟨rfl,fun j c=>by omega⟩
 |k+1=>by
  unfold gW;split
  ·rename_i b;simp only[qA]at b;exact .inr ⟨by omega,by omega,by rw[qp];exact b.1⟩
  ·rename_i b;rcases Nm op a k with⟨e,h⟩|⟨h1,h2,h3⟩
   ·refine .inl ⟨e,fun j c=>?_⟩;rcases zb.1 c with c|rfl
    ·exact h j c
    ·by_cases d:op.getD j false=true
     ·exact absurd (by rw[d,e];rfl) b
     ·simpa using d
   ·exact .inr ⟨h1,by omega,h3⟩
theorem Ft{op:List Bool}(h:op.contains true=true):∃j,j<op.length/\op.getD j false=true:=by
 simp only[List.contains_iff_mem]at h;obtain⟨j,a,e⟩:=qE h;exact⟨j,a,by rw[qe,qd a];exact e⟩
theorem rV{rows:dq}{op us:List Bool}(h:op.contains true=true):0<=gg rows op us/\gg rows op us<op.length/\op.getD (gg rows op us).toNat false=true:=by
 obtain⟨j,a,e⟩:=Ft h;rcases Nm op (km (fun _ r=>r) rows us (qg op.length 0) rows.length) op.length with⟨_,h2⟩|h2
 ·rw[h2 j a]at e;cases e
 ·exact h2
theorem tJ{rows:dq}{op us:List Bool}{i:Nat}(h:lK rows op us=some i):i<rows.length/\lJ rows op us i=true:=by
 have b:=List.mem_of_find?_eq_some h;have a:=List.find?_some h;exact⟨qI.1 b,a⟩
theorem CT{rows:dq}{op us:List Bool}{i:Nat}(d:lJ rows op us i=true):cH op (rows.getD i [])=[ey rows op i]/\ey rows op i∈rows.getD i []/\jp op (ey rows op i)=true:=by
 simp only[lJ,qA,beq_iff_eq]at d;obtain⟨c,a⟩:=List.length_eq_one_iff.1 d.2;have e:ey rows op i=c:=by unfold ey;rw[a];rfl
 have b:c∈cH op (rows.getD i []):=by rw[a];simp
 rw[cH,qJ]at b;rw[e];exact⟨a,b.1,b.2⟩
theorem jQ{op:List Bool}{j:Nat}(h:op.getD j false=true):(op.set j false).count true+1=op.count true:=by
 have a:j<op.length:=by
  by_cases a:j<op.length
  ·exact a
  ·rw[qe,za (by omega)]at h;cases h
 have e:op[j]=true:=by rw[qe,qd a]at h;exact h
 have b:0<op.count true:=List.count_pos_iff.2 (e▸qh a);rw[List.count_set a,e];simp;omega
theorem Qj{op:List Bool}(h:op.count true=0):op.contains true=false:=by
 rw[List.count_eq_zero]at h;simpa using h
theorem Am{rows:dq}{op us:List Bool}(h:op.contains true=false):∀k,ce rows k op us=⟨[],[],us⟩
 |0=>rfl
 |k+1=>by unfold ce;rw[h];rfl
theorem od{rows:dq}{op us:List Bool}{i k:Nat}(h:op.contains true=true)(a:lK rows op us=some i):
  ce rows (k+1) op us=⟨((i:Int),ey rows op i)::(ce rows k (op.set (ey rows op i).toNat false) (us.set i true)).steps,(ce rows k (op.set (ey rows op i).toNat false) (us.set i true)).dead,(ce rows k (op.set (ey rows op i).toNat false) (us.set i true)).used⟩:=by
 rw[ce,h,a];rfl
theorem oe{rows:dq}{op us:List Bool}{k:Nat}(h:op.contains true=true)(a:lK rows op us=none):
  ce rows (k+1) op us=⟨(ce rows k (op.set (gg rows op us).toNat false) us).steps,gg rows op us::(ce rows k (op.set (gg rows op us).toNat false) us).dead,(ce rows k (op.set (gg rows op us).toNat false) us).used⟩:=by
 rw[ce,h,a];rfl
theorem sO(rows:dq):∀k op us,(ce rows k op us).used.length=us.length
 |0,_,_=>rfl
 |k+1,op,us=>by
  unfold ce;split
  ·split
   ·show(ce rows k _ _).used.length=_;rw[sO];simp
   ·show(ce rows k _ _).used.length=_;rw[sO]
  ·rfl
theorem Hl(us:List Bool):∀k,(eW us k).length<=k
 |0=>by simp[eW]
 |k+1=>by
  have:=Hl us k;unfold eW;split<;>simp<;>omega
theorem te{op:List Bool}{f:Nat}(h:op.count true=f+1):op.contains true=true:=by
 have:0<op.count true:=by omega
 rw[List.count_pos_iff]at this;simpa using this
theorem SK{P:Nat->Bool}{n j:Nat}(a:j<n)(h:P j=true):∃i,(qy n).find? P=some i:=by
 cases hf:(qy n).find? P with
 |some i=>exact⟨i,rfl⟩
 |none=>
  rw[w6]at hf;exact absurd h (hf j (qI.2 a))
theorem iR(l:List Bool)(i j:Nat)(x:Bool):(l.set i x).getD j false=if i=j/\j<l.length then x else l.getD j false:=by
 simp only[qe,qV];by_cases h:i=j
 ·subst h;by_cases a:i<l.length<;>simp[a]
 ·simp[h]
def uL(rows:dq)(op us:List Bool):Prop:=∀i,us.getD i false=true->cH op (rows.getD i [])=[]
theorem my{op:List Bool}{c d:Int}(h:jp (op.set d.toNat false) c=true):jp op c=true/\c.toNat≠d.toNat:=by
 unfold jp at*;rw[iR]at h;by_cases e:d.toNat=c.toNat
 ·rw[if_pos]at h
  ·cases h
  ·refine⟨e,?_⟩;by_cases b:c.toNat<op.length
   ·exact b
   ·rw[if_neg (fun a=>b a.2),qe,za (by omega)]at h;cases h
 ·rw[if_neg (fun a=>e a.1)]at h;exact⟨h,fun a=>e a.symm⟩
theorem Ya{rows:dq}{op us:List Bool}{i:Nat}(l:uL rows op us)(h:lJ rows op us i=true):uL rows (op.set (ey rows op i).toNat false) (us.set i true):=by
 obtain⟨m,n,h3⟩:=CT h;intro j d;rw[iR]at d;rw[cH,wP];intro c k f;obtain⟨f,b⟩:=my f;have a:c∈cH op (rows.getD j []):=by rw[cH,qJ];exact⟨k,f⟩
 by_cases e:i=j
 ·subst e;rw[m]at a;simp at a;exact b (by rw[a])
 ·rw[if_neg (fun g=>e g.1)]at d;rw[l j d]at a;simp at a
theorem Fu(n j:Nat):(qg n false).getD j false=false:=by
 rw[qe];by_cases h:j<n
 ·rw[qd (by simpa using h)];simp
 ·rw[za (by simpa using h)];rfl
theorem aet{rows:dq}{r:aB}(h:r∈rows):∃j,j<rows.length/\rows.getD j []=r:=by
 obtain⟨j,a,e⟩:=qE h;exact⟨j,a,by rw[qe,qd a];exact e⟩
def other(m i:Nat):Nat:=if i<m then i else i+1
def rX(rows:dq):(Int->Prop)->(Int->Prop)->List (Int×Int)->Prop
 |_,_,[]=>True
 |D,U,(i,c)::t=>(0<=i/\i<rows.length)/\¬U i/\¬D c/\c∈rows.getD i.toNat []/\(∀a∈rows.getD i.toNat [],a≠c->D a)/\rX rows (fun x=>D x∨x=c) (fun x=>U x∨x=i) t
def afX(op:List Bool)(c:Int):Prop:=0<=c/\jp op c=true
theorem Yb{op:List Bool}{c:Int}(h:jp op c=true):c.toNat<op.length:=by
 by_cases a:c.toNat<op.length
 ·exact a
 ·unfold jp at h;rw[qe,za (by omega)]at h;cases h
theorem Up{op:List Bool}{c d:Int}(e:0<=c)(f:0<=d):jp op c=true->c≠d->jp (op.set d.toNat false) c=true:=by
 intro h a;unfold jp;rw[iR,if_neg (fun b=>a (by omega))];exact h
theorem tK{op:List Bool}{d:Int}(h:jp op d=true):jp (op.set d.toNat false) d=false:=by
 unfold jp;rw[iR,if_pos ⟨rfl,Yb h⟩]
structure afF (rows:dq) (op us:List Bool) (r:Pl):Prop where
 cC:r.steps.length+r.dead.length=op.count true
 used:r.used.count true=us.count true+r.steps.length
 keepU:∀i,us.getD i false=true->r.used.getD i false=true
 dead:∀c∈r.dead,afX op c
 deadN:r.dead.Nodup
 mw:∀D U:Int->Prop,(∀c:Int,0<=c->c<op.length->(D c↔jp op c=false∨c∈r.dead))->(∀i:Nat,i<rows.length->(U i↔us.getD i false=true∨r.used.getD i false=false))->rX rows D U r.steps
theorem aaF{us:List Bool}{i:Nat}(h:us.getD i false=false)(a:i<us.length):(us.set i true).count true=us.count true+1:=by
 have e:us[i]=false:=by rw[qe,qd a]at h;exact h
 rw[List.count_set a,e];simp
theorem Qk{rows:dq}{n:Nat}(b:∀r∈rows,∀c∈r,0<=c/\c<n):∀k op us,op.length=n->us.length=rows.length->op.count true=k->afF rows op us (ce rows k op us)
 |0,op,us,hl,hul,hc=>⟨by simp[ce,hc],by simp[ce],fun i h=>h,fun c h=>by simp[ce]at h,by simp[ce],fun _ _ _ _=>trivial⟩
 |k+1,op,us,hl,hul,hc=>by
  have s:=te hc;cases hst:lK rows op us with
  |some i=>
   obtain⟨g,t⟩:=tJ hst;obtain⟨L,J,h3⟩:=CT t;have l:rows.getD i []=rows[i]:=by rw[qe,qd g];rfl
   have w:=b _ (qh g) _ (l▸J);have F:=jQ (op:=op) (j:=(ey rows op i).toNat) h3;have v:us.getD i false=false:=by
    simp only[lJ,qA,ye]at t;exact t.1
   have M:=aaF v (by omega);have a:=Qk b k (op.set (ey rows op i).toNat false) (us.set i true) (by simp[hl]) (by simp[hul]) (by omega);rw[od s hst];generalize ce rows k (op.set (ey rows op i).toNat false) (us.set i true)=r at a;generalize K:ey rows op i=c at*;have E:r.used.getD i false=true:=a.keepU i (by rw[iR,if_pos ⟨rfl,by omega⟩]);have q:c∉r.dead:=fun h=>by
    have:=(a.dead c h).2;rw[tK h3]at this;cases this
   refine⟨by simp only[zi];have:=a.cC;omega,by simp only[zi];have:=a.used;omega,fun j B=>a.keepU j (by rw[iR];split;rfl;exact B),fun d u=>⟨(a.dead d u).1,(my (a.dead d u).2).1⟩,a.deadN,fun D U x y=>?_⟩;have o:rows.getD ((i:Int)).toNat []=rows.getD i []:=by rw[qp]
   refine⟨by omega,?_,?_,by rw[o];exact J,?_,?_⟩
   ·rw[y i g,v,E];simp
   ·rw[x c w.1 (by omega),h3];simp[q]
   ·intro G p A;rw[o]at p;have z:=b _ (qh g) _ (l▸p);refine(x G z.1 (by omega)).2 (.inl ?_);cases ho:jp op G with
    |false=>rfl
    |true=>
     have:G∈cH op (rows.getD i []):=by rw[cH,qJ];exact⟨p,ho⟩
     rw[L]at this;simp at this;exact absurd this A
   ·refine a.mw _ _ (fun d f m=>?_) (fun j B=>?_)
    ·simp only[zr]at m;rw[x d f m];by_cases e:d=c
     ·subst e;simp[tK h3]
     ·cases ho:jp op d with
      |true=>rw[Up f w.1 ho e];simp[e]
      |false=>
       have:jp (op.set c.toNat false) d=false:=by
        cases hh:jp (op.set c.toNat false) d with
        |false=>rfl
        |true=>rw[(my hh).1]at ho;cases ho
       rw[this];simp
    ·rw[y j B,iR];by_cases e:i=j
     ·subst e;simp[hul,g]
     ·have e2:¬((j:Int)=(i:Int)):=fun h=>e (by omega);simp[e,e2]
  |none=>
   obtain⟨I,N,H⟩:=rV (rows:=rows) (us:=us) s;have F:=jQ (op:=op) (j:=(gg rows op us).toNat) H;have a:=Qk b k (op.set (gg rows op us).toNat false) us (by simp[hl]) hul (by omega);rw[oe s hst];generalize ce rows k (op.set (gg rows op us).toNat false) us=r at a;generalize gg rows op us=c at*;have h3:jp op c=true:=H;have q:c∉r.dead:=fun h=>by
    have:=(a.dead c h).2;rw[tK h3]at this;cases this
   refine⟨by simp only[zi];have:=a.cC;omega,a.used,a.keepU,fun d u=>?_,by simp only[yK];exact⟨q,a.deadN⟩,fun D U x y=>?_⟩
   ·rcases q8.1 u with rfl|u
    ·exact⟨I,h3⟩
    ·exact⟨(a.dead d u).1,(my (a.dead d u).2).1⟩
   ·refine a.mw D U (fun d f m=>?_) y;simp only[zr]at m;rw[x d f m];by_cases e:d=c
    ·subst e;simp[tK h3]
    ·have:jp (op.set c.toNat false) d=jp op d:=by
      cases ho:jp op d with
      |true=>exact Up f I ho e
      |false=>
       cases hh:jp (op.set c.toNat false) d with
       |false=>rfl
       |true=>rw[(my hh).1]at ho;cases ho
     rw[this];simp[e]
theorem CU(us:List Bool):∀k (c:Int),c∈eW us k↔∃j:Nat,c=j/\j<k/\us.getD j false=false
 |0,c=>by simp[eW]
 |k+1,c=>by
  have e:=CU us k c;unfold eW;cases h:us.getD k false with
  |true=>
   simp only[if_true];rw[e];constructor
   ·rintro⟨j,a,b,d⟩;exact⟨j,a,by omega,d⟩
   ·rintro⟨j,a,b,d⟩;refine⟨j,a,?_,d⟩;rcases zb.1 b with b|rfl
    ·exact b
    ·rw[h]at d;cases d
  |false=>
   simp only[zf,if_false,qF,qG];rw[e];constructor
   ·rintro(⟨j,a,b,d⟩|rfl)
    ·exact⟨j,a,by omega,d⟩
    ·exact⟨k,rfl,by omega,h⟩
   ·rintro⟨j,a,b,d⟩;rcases zb.1 b with b|rfl
    ·exact .inl ⟨j,a,b,d⟩
    ·exact .inr a
theorem Ql(us:List Bool):∀k,k<=us.length->(eW us k).length+(us.take k).count true=k
 |0,_=>by simp[eW]
 |k+1,hk=>by
  have a:=Ql us k (by omega);have e:us.getD k false=us[k]:=by rw[qe,qd (by omega)];rfl
  unfold eW;rw[zw (by omega),List.count_append,e];cases us[k]<;>simp<;>omega
theorem uM{rows:dq}{n:Nat}(a:∀r∈rows,∀c∈r,0<=c/\c<n):
  (dg n rows).steps.length+(dg n rows).dead.length=n/\(dg n rows).steps.length+(eW (dg n rows).used rows.length).length=rows.length/\(∀c∈(dg n rows).dead,0<=c/\c<n)/\(dg n rows).dead.Nodup/\
  (∀c∈eW (dg n rows).used rows.length,0<=c/\c<rows.length)/\rX rows (·∈(dg n rows).dead) (·∈eW (dg n rows).used rows.length) (dg n rows).steps:=by
 have h:=Qk a n (qg n true) (qg rows.length false) (by simp) (by simp) (by simp);have p:(dg n rows).used.length=rows.length:=by unfold dg;rw[sO];simp
 have b:=Ql (dg n rows).used rows.length (by omega);rw[List.take_of_length_le (by omega)]at b;refine⟨by have:=h.cC;simpa[dg]using this,?_,fun c d=>?_,h.deadN,fun c d=>?_,?_⟩
 ·have:=h.used;have f:(qg rows.length false).count true=0:=by simp[List.count_replicate]
  rw[f]at this;unfold dg at*;omega
 ·obtain⟨h0,l⟩:=h.dead c d;have:=Yb l;simp at this;omega
 ·obtain⟨j,rfl,g,_⟩:=(CU _ _ _).1 d;omega
 ·refine h.mw _ _ (fun c m e=>?_) (fun i k=>?_)
  ·have:jp (qg n true) c=true:=by
    simp at e;unfold jp;rw[qe,qd (by simp;omega)];simp
   rw[this];simp[dg]
  ·rw[Fu,CU];constructor
   ·rintro⟨j,g,_,o⟩;have:j=i:=by omega
    subst this;exact .inr o
   ·rintro(hh|hh)
    ·cases hh
    ·exact⟨i,rfl,k,hh⟩
theorem Fv{rows:dq}:∀k op us i,(ce rows k op us).used.getD i false=true->us.getD i false=true∨∃c,((i:Int),c)∈(ce rows k op us).steps
 |0,_,_,_,h=>.inl h
 |k+1,op,us,i,h=>by
  by_cases a:op.contains true=true
  ·cases hst:lK rows op us with
   |some j=>
    rw[od a hst]at h⊢;dsimp only at h⊢;rcases Fv k _ _ i h with h1|⟨c,hc⟩
    ·rw[iR]at h1;by_cases b:j=i
     ·subst b;exact .inr ⟨_,q0⟩
     ·rw[if_neg (fun d=>b d.1)]at h1;exact .inl h1
    ·exact .inr ⟨c,qY _ hc⟩
   |none=>
    rw[oe a hst]at h⊢;exact Fv k _ _ i h
  ·have a:op.contains true=false:=by simpa using a
   rw[Am a]at h⊢;exact .inl h
theorem Fw{rows:dq}{n:Nat}(a:∀r∈rows,∀c∈r,0<=c/\c<(n:Int)):∀k op us,op.length=n->op.count true=k->∀c:Nat,op.getD c false=true->
  (c:Int)∈(ce rows k op us).dead∨∃i,(i,(c:Int))∈(ce rows k op us).steps
 |0,op,us,hl,hc,c,h=>by
  have:=Qj hc;exfalso;have g:c<op.length:=by
   by_cases f:c<op.length
   ·exact f
   ·rw[qe,za (by omega)]at h;cases h
  rw[List.count_eq_zero]at hc;rw[qe,qd g]at h;exact hc (h▸qh g)
 |k+1,op,us,hl,hc,c,h=>by
  have b:=te hc;cases hst:lK rows op us with
  |some j=>
   rw[od b hst];obtain⟨l,o⟩:=tJ hst;obtain⟨u,s,h3⟩:=CT o;have e:rows.getD j []=rows[j]:=by rw[qe,qd l];rfl
   have q:=a _ (qh l) _ (e▸s);have m:=jQ (op:=op) (j:=(ey rows op j).toNat) h3;dsimp only;by_cases d:(ey rows op j).toNat=c
   ·exact .inr ⟨j,by rw[show((c:Nat):Int)=ey rows op j by omega];exact q0⟩
   ·rcases Fw a k (op.set (ey rows op j).toNat false) (us.set j true) (by simp[hl]) (by omega) c (by rw[iR,if_neg (fun f=>d f.1)];exact h)with h5|⟨i,h5⟩
    ·exact .inl h5
    ·exact .inr ⟨i,qY _ h5⟩
  |none=>
   rw[oe b hst];obtain⟨t,v,p⟩:=rV (rows:=rows) (us:=us) b;have m:=jQ (op:=op) (j:=(gg rows op us).toNat) p;dsimp only;by_cases d:(gg rows op us).toNat=c
   ·exact .inl (by rw[show((c:Nat):Int)=gg rows op us by omega];exact q0)
   ·rcases Fw a k (op.set (gg rows op us).toNat false) us (by simp[hl]) (by omega) c (by rw[iR,if_neg (fun f=>d f.1)];exact h)with h5|⟨i,h5⟩
    ·exact .inl (qY _ h5)
    ·exact .inr ⟨i,h5⟩
theorem VD{rows:dq}{op us:List Bool}{c:Int}(h:uL rows op us):uL rows (op.set c.toNat false) us:=fun i b=>by
 have:=h i b;rw[cH,wP]at this⊢;exact fun d a e=>this d a (my e).1
theorem CV{rows:dq}{c:Int}(m:[c]∈rows):∀k op us,uL rows op us->(∀d:Int,d<0->d∉(ce rows k op us).dead)->0<=c->c∉(ce rows k op us).dead
 |0,_,_,_,_,_=>by simp[ce]
 |k+1,op,us,hu,_,h0=>by
  by_cases a:op.contains true=true
  ·cases hst:lK rows op us with
   |some j=>
    rw[od a hst];dsimp only;obtain⟨_,l⟩:=tJ hst;exact CV m k _ _ (Ya hu l) (fun d s b=>by
     have f:∀k op us,∀d∈(ce rows k op us).dead,0<=d:=plan_dead0;have:=f _ _ _ d b;omega) h0
   |none=>
    rw[oe a hst];obtain⟨t,u,p⟩:=rV (rows:=rows) (us:=us) a;dsimp only;intro b;rcases q8.1 b with e|b
    ·obtain⟨j,q,g⟩:=aet m;have n:cH op [c]=[c]:=by rw[cH,zo,if_pos (show jp op c=true by rw[e];exact p)];rfl
     have r:lJ rows op us j=true:=by
      unfold lJ;rw[g,n];cases hus:us.getD j false with
      |false=>rfl
      |true=>have:=hu j hus;rw[g,n]at this;cases this
     obtain⟨i,o⟩:∃i,lK rows op us=some i:=SK q r;rw[hst]at o;cases o
    ·exact CV m k _ _ (VD hu) (fun d s b=>by have:=plan_dead0 (rows:=rows) _ _ _ d b;omega) h0 b
  ·have a:op.contains true=false:=by simpa using a
   rw[Am a];simp
where
 plan_dead0 {rows:dq}:∀k op us,∀d∈(ce rows k op us).dead,0<=d
  |0,_,_,d,h=>by simp[ce]at h
  |k+1,op,us,d,h=>by
   by_cases a:op.contains true=true
   ·cases hst:lK rows op us with
    |some j=>rw[od a hst]at h;exact plan_dead0 k _ _ d h
    |none=>
     rw[oe a hst]at h;rcases q8.1 h with rfl|h
     ·exact(rV a).1
     ·exact plan_dead0 k _ _ d h
   ·have a:op.contains true=false:=by simpa using a
    rw[Am a]at h;simp at h
def rY(R:dq):(Int->Prop)->List (Int×Int)->Prop
 |_,[]=>True
 |D,(i,c)::t=>(0<=i/\i<R.length)/\¬D c/\c∈R.getD i.toNat []/\(∀a∈R.getD i.toNat [],a≠c->D a)/\rY R (fun x=>D x∨x=c) t
theorem AN{R S:dq}{K:Int->Prop}(f:∀r∈R,∀c∈r,¬K c)(n:∀r∈S,∀c∈r,K c):∀{a:List (Int×Int)} {D D' U:Int->Prop},rX (R++S) D U a->(∀c,¬K c->(D c↔D' c))->
  rY R D' (a.filter fun p=>decide (p.1<R.length))
 |[],_,_,_,_,_=>trivial
 |(i,c)::t,D,D',U,h,hD=>by
  obtain⟨w,z,h3,k,x,v⟩:=h;rw[zo];by_cases m:i<R.length
  ·have e:(R++S).getD i.toNat []=R.getD i.toNat []:=by
    rw[qe,List.getElem?_append_left (by omega),qe]
   have g:R.getD i.toNat []∈R:=by
    rw[qe,qd (by omega)];exact qh _
   rw[e]at k x;have s:=f _ g c k;rw[if_pos (by simpa using m)];refine⟨⟨w.1,m⟩,fun o=>h3 ((hD c s).2 o),k,fun u b l=>(hD u (f _ g u b)).1 (x u b l),AN f n v fun d j=>?_⟩;rw[hD d j]
  ·rw[if_neg (by simpa using m)];have g:(R++S).getD i.toNat []∈S:=by
    have q:=w.2;rw[qw]at q;rw[qe,qj (by omega),qd (by omega)];exact qh _
   have s:=n _ g c k;refine AN f n v fun d j=>?_;rw[<-hD d j];exact⟨fun o=>o.elim id fun y=>absurd (y▸s) j,.inl⟩
def ev(t:UInt8)(k nd:Nat)(W M:aQ)(y:Nat->UInt8)(c:Int):UInt8:=bG (fun i=>aE (av W c.toNat) i) y nd^^^Gf.mul t (aE (av M c.toNat) k)
theorem IJ{a b:Row}(h:a.length=b.length)(c:UInt8)(y:Nat->UInt8)(n:Nat):bG (fun j=>aE (ck c a b) j) y n=bG (fun j=>aE b j) y n^^^Gf.mul c (bG (fun j=>aE a j) y n):=by
 rw[fw n (fun j _=>cb h j) fun _ _=>rfl];exact Hd _ _ _ _ _
theorem Qm{V:aQ}{m:Nat}(y:Nat->UInt8)(n:Nat):∀{l:aB} {a:Row},a.length=m->(∀c∈l,(av V c.toNat).length=m)->bG (fun j=>aE (cx V a l) j) y n=bG (fun j=>aE a j) y n^^^cw (fun c=>bG (fun j=>aE (av V c.toNat) j) y n) l
 |[],a,_,_=>by simp[cx,cw]
 |c::l,a,h,hv=>by
  have b:(av V c.toNat).length=a.length:=by rw[hv c (by simp),h]
  have:=Qm (V:=V) y n (l:=l) (a:=ck 1 (av V c.toNat) a) (by rw[bK b];exact h) fun d e=>hv d (by simp[e]);rw[cx,zD];rw[cx]at this;rw[this,IJ b,Gf.one_mul,cw];ac_rfl
theorem Qn(t:UInt8)(x:Int->UInt8):∀l,cw (fun c=>Gf.mul t (x c)) l=Gf.mul t (cw x l)
 |[]=>by simp[cw,Gf.mul_zero]
 |c::l=>by rw[cw,cw,Gf.iY,Qn t x l]
theorem LI{W M:aQ}{nd w:Nat}{l:aB}{a m:Row}(e:a.length=nd)(d:m.length=w)(b:∀c∈l,(av W c.toNat).length=nd)(f:∀c∈l,(av M c.toNat).length=w)(t:UInt8)(k:Nat)(y:Nat->UInt8):
  bG (fun j=>aE (cx W a l) j) y nd^^^Gf.mul t (aE (cx M m l) k)=(bG (fun j=>aE a j) y nd^^^Gf.mul t (aE m k))^^^cw (ev t k nd W M y) l:=by
 rw[Qm y nd e b,II k d f,Gf.iY];have:cw (ev t k nd W M y) l=cw (fun c=>bG (fun j=>aE (av W c.toNat) j) y nd) l^^^Gf.mul t (cw (fun c=>aE (av M c.toNat) k) l):=by
  rw[<-Qn,<-Qg];rfl
 rw[this];ac_rfl
def gh(rest:List eI)(nd:Nat)(s:aQ×aQ)(p:Int×Int):aQ×aQ:=
 let r:=rest.getD p.1.toNat ([],[])
 (s.1.set p.2.toNat (cx s.1 (aM nd) (r.1.filter fun c=>!decide (c=p.2))),s.2.set p.2.toNat (cx s.2 r.2 (r.1.filter fun c=>!decide (c=p.2))))
structure Yc (n nd w:Nat) (D:Int->Prop) (W M:aQ):Prop where
 wl:W.length=n
 ml:M.length=n
 rw_:∀c:Int,D c->0<=c->c<(n:Int)->(av W c.toNat).length=nd/\(av M c.toNat).length=w
theorem CW{W M a b:aQ}{t:UInt8}{k nd:Nat}{y:Nat->UInt8}{c:Int}(e:av a c.toNat=av W c.toNat)(d:av b c.toNat=av M c.toNat):ev t k nd a b y c=ev t k nd W M y c:=by unfold ev;rw[e,d]
theorem IK{n nd w:Nat}{rest:List eI}(B:∀e∈rest,ib n w e):∀{a:List (Int×Int)} {D:Int->Prop} {W M:aQ},rY (rest.map qK) D a->Yc n nd w D W M->
  Yc n nd w (fun c=>D c∨∃i,(i,c)∈a) (a.foldl (gh rest nd) (W,M)).1 (a.foldl (gh rest nd) (W,M)).2/\
  (∀c:Int,D c->0<=c->av (a.foldl (gh rest nd) (W,M)).1 c.toNat=av W c.toNat/\av (a.foldl (gh rest nd) (W,M)).2 c.toNat=av M c.toNat)/\
  (∀p∈a,∀t k y,k<w->Sat t k (ev t k nd (a.foldl (gh rest nd) (W,M)).1 (a.foldl (gh rest nd) (W,M)).2 y) (rest.getD p.1.toNat ([],[])))/\
  (∀t k x y,k<w->(∀c:Int,D c->0<=c->c<(n:Int)->x c=ev t k nd W M y c)->(∀p∈a,Sat t k x (rest.getD p.1.toNat ([],[])))->∀c:Int,(D c∨∃i,(i,c)∈a)->0<=c->c<(n:Int)->x c=ev t k nd (a.foldl (gh rest nd) (W,M)).1 (a.foldl (gh rest nd) (W,M)).2 y c)
 |[],D,W,M,_,hw=>⟨⟨hw.wl,hw.ml,fun c Z=>hw.rw_ c (Z.elim id fun⟨i,h⟩=>by cases h)⟩,fun _ _ _=>⟨rfl,rfl⟩,fun p r=>by(cases r),fun t k x y O K _ c Z h0 o=>K c (Z.elim id fun⟨i,h⟩=>by cases h) h0 o⟩
 |(i,c)::st,D,W,M,hg,hw=>by
  obtain⟨g1,g2,I,g4,g5⟩:=hg;have u:i.toNat<rest.length:=by have:=g1.2;rw[qD]at this;omega
  obtain⟨e,X⟩:∃e,e=rest[i.toNat]:=⟨_,rfl⟩
  have er:rest.getD i.toNat ([],[])=e:=by rw[qe,qd u,X];rfl
  have R:(rest.map qK).getD i.toNat []=e.1:=by rw[qe,qO,qd u,X];rfl
  rw[R]at I g4;have l:=B e (X▸qh u);have V:=l.cC c I;obtain⟨F,N⟩:∃F,F=e.1.filter (fun d=>!decide (d=c)):=⟨_,rfl⟩
  have q:∀d∈F,d∈e.1/\d≠c:=fun d b=>by rw[N,qJ]at b;exact⟨b.1,by simpa using b.2⟩
  have f:∀d∈F,D d/\0<=d/\d<(n:Int):=fun d b=>⟨g4 d (q d b).1 (q d b).2,l.cC d (q d b).1⟩
  have l1:∀d∈F,(av W d.toNat).length=nd:=fun d b=>(hw.rw_ d (f d b).1 (f d b).2.1 (f d b).2.2).1;have l2:∀d∈F,(av M d.toNat).length=w:=fun d b=>(hw.rw_ d (f d b).1 (f d b).2.1 (f d b).2.2).2;have S:(aM nd).length=nd:=by simp[aM]
  have ad:gh rest nd (W,M) (i,c)=(W.set c.toNat (cx W (aM nd) F),M.set c.toNat (cx M e.2 F)):=by
   unfold gh;dsimp only;rw[er,<-N]
  have P:=hw.wl;have Q:=hw.ml;have G:∀d:Nat,av (W.set c.toNat (cx W (aM nd) F)) d=if c.toNat=d then cx W (aM nd) F else av W d:=fun d=>kj
  have z:∀d:Nat,av (M.set c.toNat (cx M e.2 F)) d=if c.toNat=d then cx M e.2 F else av M d:=fun d=>kj
  have Y:Yc n nd w (fun x=>D x∨x=c) (W.set c.toNat (cx W (aM nd) F)) (M.set c.toNat (cx M e.2 F)):=by
   refine⟨by simp[P],by simp[Q],fun d b h0 o=>?_⟩;rw[G,z];by_cases g:c.toNat=d.toNat
   ·rw[if_pos g,if_pos g];exact⟨jg S l1,jg l.len l2⟩
   ·rw[if_neg g,if_neg g];exact hw.rw_ d (b.elim id fun L=>absurd (by rw[L]) g) h0 o
  obtain⟨H,T,r3,r4⟩:=IK B g5 Y;rw[zD,ad];generalize st.foldl (gh rest nd) (W.set c.toNat (cx W (aM nd) F),M.set c.toNat (cx M e.2 F))=s at H T r3 r4;have A:∀d:Int,D d->0<=d->c.toNat≠d.toNat:=fun d b h0 L=>g2 (by rw[show c=d by omega];exact b);have keep:∀d:Int,D d->0<=d->av s.1 d.toNat=av W d.toNat/\av s.2 d.toNat=av M d.toNat:=fun d b h0=>by
   have:=T d (.inl b) h0;rw[G,z,if_neg (A d b h0),if_neg (A d b h0)]at this;exact this
  have U:∀t k y,ev t k nd s.1 s.2 y c=Gf.mul t (aE e.2 k)^^^cw (ev t k nd W M y) F:=fun t k y=>by
   have h2:=T c (.inr rfl) V.1;rw[G,z,if_pos rfl,if_pos rfl]at h2;unfold ev;rw[h2.1,h2.2,LI S l.len l1 l2 t k y,fk _ _ nd fun j _=>bU _ _,z7];rfl
  have v:∀t k y,cw (ev t k nd s.1 s.2 y) F=cw (ev t k nd W M y) F:=fun t k y=>jB fun d b=>CW (keep d (f d b).1 (f d b).2.1).1 (keep d (f d b).1 (f d b).2.1).2;refine⟨⟨H.wl,H.ml,fun d b h0 o=>H.rw_ d ?_ h0 o⟩,keep,fun p r t k y O=>?_,fun t k x y O K hs d b h0 o=>?_⟩
  ·rcases b with b|⟨j,hj⟩
   ·exact .inl (.inl b)
   ·rcases q8.1 hj with hj|hj
    ·injection hj with _ hj;exact .inl (.inr hj)
    ·exact .inr ⟨j,hj⟩
  ·rcases q8.1 r with rfl|r
   ·dsimp only;rw[er];unfold Sat;rw[Al _ l.nodup I,<-N,U,v,ra]
   ·exact r3 p r t k y O
  ·refine r4 t k x y O (fun d b h0 o=>?_) (fun p r=>hs p (qY _ r)) d ?_ h0 o
   ·by_cases g:d=c
    ·subst g;have E:=hs (i,d) (by simp);dsimp only at E;rw[er]at E;unfold Sat at E;rw[Al _ l.nodup I,<-N,jB (y:=ev t k nd W M y) fun J m=>K J (f J m).1 (f J m).2.1 (f J m).2.2]at E;have h6:ev t k nd (W.set d.toNat (cx W (aM nd) F)) (M.set d.toNat (cx M e.2 F)) y d=Gf.mul t (aE e.2 k)^^^cw (ev t k nd W M y) F:=by
      unfold ev;rw[G,z,if_pos rfl,if_pos rfl,LI S l.len l1 l2 t k y,fk _ _ nd fun j _=>bU _ _,z7];rfl
     rw[h6,<-E,ra]
    ·have m:D d:=b.elim id fun L=>absurd L g;rw[K d m h0 o];refine(CW ?_ ?_).symm
     ·rw[G,if_neg (by omega)]
     ·rw[z,if_neg (by omega)]
   ·rcases b with b|⟨j,hj⟩
    ·exact .inl (.inl b)
    ·rcases q8.1 hj with hj|hj
     ·injection hj with _ hj;exact .inl (.inr hj)
     ·exact .inr ⟨j,hj⟩
theorem Nn:∀{l m:List Nat},l.Nodup->(∀x∈l,x∈m)->l.length<=m.length
 |[],_,_,_=>by simp
 |x::l,m,hd,h=>by
  rw[yK]at hd;have a:=h x (by simp);have c:=Nn (l:=l) (m:=m.erase x) hd.2 fun y b=>(List.mem_erase_of_ne (fun d:y=x=>hd.1 (by rw[<-d];exact b))).2 (h y (by simp[b]));rw[List.length_erase_of_mem a]at c;have:=List.length_pos_of_mem a;simp;omega
def nE(nd i:Nat):Row:=(aM nd).set i 1
theorem aaG(nd i:Nat):(nE nd i).length=nd:=by simp[nE,aM]
theorem aaH{nd i:Nat}(a:i<nd)(j:Nat):aE (nE nd i) j=if j=i then 1 else 0:=by
 rw[nE,LG (by simpa[aM]using a),bU]
theorem aaI{nd i:Nat}(a:i<nd)(y:Nat->UInt8):bG (fun j=>aE (nE nd i) j) y nd=y i:=
 Hb _ _ i nd a fun j _=>by
  rw[aaH a];by_cases h:j=i
  ·subst h;simp
  ·rw[if_neg h,if_neg (fun b=>h b.symm)]
def fx(n nd w:Nat)(dead:aB):aQ×aQ:=
 (dead.zipIdx).foldl (fun s p=>(s.1.set p.1.toNat (nE nd p.2),s.2.set p.1.toNat (aM w))) (qg n [],qg n [])
theorem JP(n nd w:Nat)(d:aB)(c:Int):fx n nd w (d++[c])=((fx n nd w d).1.set c.toNat (nE nd d.length),(fx n nd w d).2.set c.toNat (aM w)):=by
 unfold fx;rw[List.zipIdx_append,List.foldl_append];simp
theorem LJ{n nd w:Nat}{dead:aB}(j:∀c∈dead,0<=c/\c<(n:Int))(o:dead.Nodup):∀k,k<=dead.length->
  Yc n nd w (·∈dead.take k) (fx n nd w (dead.take k)).1 (fx n nd w (dead.take k)).2/\∀i,(l:i<k)->(m:i<dead.length)->av (fx n nd w (dead.take k)).1 dead[i].toNat=nE nd i/\av (fx n nd w (dead.take k)).2 dead[i].toNat=aM w
 |0,_=>⟨⟨by simp[fx],by simp[fx],fun c b=>by simp at b⟩,fun i l=>by omega⟩
 |k+1,hk=>by
  obtain⟨h,m⟩:=LJ (nd:=nd) (w:=w) j o k (by omega);have f:k<dead.length:=by omega
  have u:=j _ (qh f);have e:dead.take (k+1)=dead.take k++[dead[k]]:=zw f;have p:(dead.take k).length=k:=by simp;omega
  rw[e,JP,p];have r:=h.wl;have t:=h.ml;refine⟨⟨by simp[r],by simp[t],fun c b h0 h3=>?_⟩,fun i l g=>?_⟩
  ·dsimp only;rw[kj,kj];by_cases a:dead[k].toNat=c.toNat
   ·rw[if_pos a,if_pos a];exact⟨aaG _ _,by simp[aM]⟩
   ·rw[if_neg a,if_neg a];refine h.rw_ c ?_ h0 h3;rcases qF.1 b with b|b
    ·exact b
    ·rw[qG]at b;exact absurd (by rw[b]) a
  ·dsimp only;rw[kj,kj];by_cases d:i=k
   ·subst d;rw[if_pos rfl,if_pos rfl];exact⟨rfl,rfl⟩
   ·have q:dead[k]≠dead[i]:=fun s=>d ((List.getElem_inj o).1 s).symm;have:=j _ (qh g);rw[if_neg (by omega),if_neg (by omega)];exact m i (by omega) g
def gD(nd:Nat)(known:List Bool)(vals:aQ)(s:aQ×aQ):aQ×aQ:=
 (s.1.mapIdx fun c r=>if known.getD c false then aM nd else r,s.2.mapIdx fun c r=>if known.getD c false then av vals c else r)
theorem CX{m:aQ}{f:Nat->Row->Row}{c:Nat}(h:c<m.length):av (m.mapIdx f) c=f c (av m c):=by
 rw[bj (by simpa using h),bj h];simp
def gb(V:aQ)(r:Row)(a:Row):Nat->Row
 |0=>a
 |c+1=>ck (aE r c) (av V c) (gb V r a c)
theorem kO{V:aQ}{m:Nat}(r:Row){a:Row}(b:a.length=m):∀{c:Nat},(∀i,i<c->(av V i).length=m)->(gb V r a c).length=m
 |0,_=>b
 |c+1,h=>by
  have:=kO r b (c:=c) fun i d=>h i (by omega);rw[gb,bK (by rw[h c (by omega),this])];exact this
theorem IL{V:aQ}{m:Nat}(r:Row){a:Row}(b:a.length=m)(j:Nat):∀{c:Nat},(∀i,i<c->(av V i).length=m)->aE (gb V r a c) j=aE a j^^^bG (fun i=>aE r i) (fun i=>aE (av V i) j) c
 |0,_=>by simp[gb,bG]
 |c+1,h=>by
  have d:=kO r b (c:=c) fun i e=>h i (by omega);rw[gb,cb (by rw[h c (by omega),d]),IL r b j (c:=c) fun i e=>h i (by omega),bG];ac_rfl
theorem Qp{V:aQ}{m:Nat}(r:Row){a:Row}(b:a.length=m)(y:Nat->UInt8)(n:Nat):∀{c:Nat},(∀i,i<c->(av V i).length=m)->bG (fun j=>aE (gb V r a c) j) y n=bG (fun j=>aE a j) y n^^^bG (fun i=>aE r i) (fun i=>bG (fun j=>aE (av V i) j) y n) c
 |0,_=>by simp[gb,bG]
 |c+1,h=>by
  have d:=kO r b (c:=c) fun i e=>h i (by omega);rw[gb,IJ (by rw[h c (by omega),d]),Qp r b y n (c:=c) fun i e=>h i (by omega),bG];ac_rfl
theorem Qq(f g a:Nat->UInt8):∀k,bG f (fun i=>g i^^^a i) k=bG f g k^^^bG f a k
 |0=>by simp[bG]
 |k+1=>by rw[bG,bG,bG,Qq f g a k,Gf.iY];ac_rfl
theorem Qr(t:UInt8)(f g:Nat->UInt8):∀k,bG f (fun i=>Gf.mul t (g i)) k=Gf.mul t (bG f g k)
 |0=>by simp[bG,Gf.mul_zero]
 |k+1=>by
  rw[bG,bG,Qr t f g k,Gf.iY];congr 1;rw[<-Gf.mul_assoc,<-Gf.mul_assoc,Gf.mul_comm (f k) t]
theorem CY{n:Nat}(g:Nat->UInt8):∀{l:aB},(∀x∈l,0<=x/\x<(n:Int))->l.Nodup->bG (fun j=>aE (dL n l) j) g n=cw (fun c=>g c.toNat) l
 |[],_,_=>by
  rw[cw];refine fk _ _ n fun j _=>?_;rw[CO [] (fun x a=>by cases a) j];simp
 |c::l,h,hd=>by
  rw[yK]at hd;have m:=h c (by simp);have d:=CY g (l:=l) (fun x a=>h x (by simp[a])) hd.2;have e:bG (fun j=>aE (dL n (c::l)) j) g n=bG (fun j=>if(j:Int)∈c::l then 1 else 0) g n:=fw n (fun j _=>CO _ h j) fun _ _=>rfl;have e2:bG (fun j=>aE (dL n l) j) g n=bG (fun j=>if(j:Int)∈l then 1 else 0) g n:=fw n (fun j _=>CO _ (fun x a=>h x (by simp[a])) j) fun _ _=>rfl;rw[e,cw,<-d,e2];rw[IG (f:=fun j=>if(j:Int)∈l then 1 else 0) (f':=fun j=>if(j:Int)∈c::l then 1 else 0) (c:=c.toNat) (by rw[if_neg];rw[show((c.toNat:Nat):Int)=c by omega];exact hd.1) (fun i=>by
   by_cases b:i=c.toNat
   ·subst b;rw[if_pos rfl,if_pos];rw[show((c.toNat:Nat):Int)=c by omega];simp
   ·rw[if_neg b];have:(i:Int)≠c:=fun k=>b (by omega);simp[this]),if_pos (by omega)]
  ac_rfl
theorem kernel{nd:Nat}{a:aQ}(Y:aY nd a)(R:bT a<nd):∃y:Nat->UInt8,(∃i,i<nd/\y i≠0)/\∀r∈a,bG (fun j=>aE r j) y nd=0:=by
 have w:=aaE Y;obtain⟨N,V,am,Q,W,⟨p,S,X,p3,U⟩,H⟩:=w;generalize hT:bT a=T at*;generalize (bu a (dn a)).2=rows at*;have u:∃j,j<nd/\∀i,i<T->p i≠j:=by
  have s:∀T nd:Nat,T<nd->∀p:Nat->Nat,(∀i,i<T->p i<nd)->∃j,j<nd/\∀i,i<T->p i≠j:=by
   intro T nd ad p Z;by_cases f:∀j,j<nd->∃i,i<T/\p i=j
   ·exfalso;have B:∀j∈qy nd,j∈(qy T).map p:=fun j A=>by
     obtain⟨i,g,rfl⟩:=f j (qI.1 A);exact qC.2 ⟨i,qI.2 g,rfl⟩
    have:=Nn vK B;simp at this;omega
   ·simp only[Classical.not_forall,not_exists,not_and]at f;obtain⟨j,A,h⟩:=f;exact⟨j,A,h⟩
  exact s T nd R p S
 obtain⟨j,A,I⟩:=u;have J:∀i e,i<T->e<T->p i=p e->i=e:=fun i e n q h3=>by
  rcases Nat.lt_trichotomy i e with h|h|h
  ·have:=U i e h q;omega
  ·exact h
  ·have:=U e i h n;omega
 let y:Nat->UInt8:=fun c=>if c=j then 1 else cw (fun i=>if p i.toNat=c then aE (av rows i.toNat) j else 0) ((qy T).map fun i:Nat=>(i:Int))
 have hy:∀i,i<T->y (p i)=aE (av rows i) j:=fun i g=>by
  show(if p i=j then 1 else _)=_;rw[if_neg (I i g)];have M:((qy T).map fun i:Nat=>(i:Int)).Nodup:=by
   exact List.Pairwise.map _ (fun a b h t=>h (Int.ofNat_inj.1 t)) vK
  rw[Al _ M (c:=(i:Int)) (qC.2 ⟨i,qI.2 g,rfl⟩),Fo,z6]
  ·simp
  ·intro c o;rw[qJ]at o;obtain⟨e,v,rfl⟩:=qC.1 o.1;have E:e≠i:=fun t=>by subst t;simp at o
   rw[qp,if_neg fun t=>E (J e i (qI.1 v) g t)]
 have K:∀c,c≠j->(∀i,i<T->p i≠c)->y c=0:=fun c o Z=>by
  show(if c=j then 1 else _)=_;rw[if_neg o,Fo];intro d hd;obtain⟨e,v,rfl⟩:=qC.1 hd;rw[qp,if_neg (Z e (qI.1 v))]
 have D:y j=1:=by show(if j=j then 1 else _)=_;rw[if_pos rfl]
 refine⟨y,⟨j,A,by rw[D];decide⟩,fun r L=>?_⟩;refine Span.XI N (fun r=>bG (fun c=>aE r c) y nd) (fk _ _ nd fun c _=>bU _ _) (fun c x z n q=>IJ (by omega) c y nd) (fun r R=>?_) ((Q r).2 (Span.row Y L));obtain⟨k,P,rfl⟩:=fv R;by_cases l:k<T
 ·--the row's own beginning,and j
  have hf:∀c,c<nd->aE (av rows k) c=0∨y c=0∨c=p k∨c=j:=fun c o=>by
   by_cases n:c=j
   ·exact .inr (.inr (.inr n))
   ·by_cases q:∃i,i<T/\p i=c
    ·obtain⟨i,g,rfl⟩:=q;by_cases F:k=i
     ·subst F;exact .inr (.inr (.inl rfl))
     ·refine .inl ?_;rw[X i g k P,if_neg F]
    ·exact .inr (.inl (K c n fun i g t=>q ⟨i,g,t⟩))
  have O:=S k l;have G:aE (av rows k) (p k)=1:=by rw[X k l k P,if_pos rfl]
  have E:p k≠j:=I k l;have s:∀m,m<=nd->bG (fun c=>aE (av rows k) c) y m=(if p k<m then aE (av rows k) j else 0)^^^(if j<m then aE (av rows k) j else 0):=by
   intro m
   induction m with
   |zero=>intro _;simp[bG]
   |succ m ih=>
    intro hm;rw[bG,ih (by omega)];by_cases n:m=p k
    ·have ah:m≠j:=by omega
     rw[n,G,Gf.one_mul,hy k l];rw[if_neg (Nat.lt_irrefl _),if_pos (Nat.lt_succ_self _)];by_cases h3:j<p k
     ·rw[if_pos h3,if_pos (by omega)];ac_rfl
     ·rw[if_neg h3,if_neg (by omega)];ac_rfl
    ·by_cases q:m=j
     ·rw[q,D,Gf.mul_one];rw[if_neg (Nat.lt_irrefl j),if_pos (Nat.lt_succ_self j),z6];by_cases h3:p k<j
      ·rw[if_pos h3,if_pos (by omega)]
      ·rw[if_neg h3,if_neg (by omega)]
     ·have hz:Gf.mul (aE (av rows k) m) (y m)=0:=by
       rcases hf m (by omega)with h|h|h|h
       ·rw[h,Gf.zero_mul]
       ·rw[h,Gf.mul_zero]
       ·exact absurd h n
       ·exact absurd h q
      rw[hz,z6];have a1:(p k<m+1)↔(p k<m):=by omega
      have a2:(j<m+1)↔(j<m):=by omega
      simp only[a1,a2]
  rw[s nd (ql _),if_pos O,if_pos A,jA]
 ·exact fk _ _ nd fun c o=>H k (by omega) P c o
def cZ(n nd:Nat)(rest:List eI)(W:aQ)(left:aB)(ahead:aQ):aQ:=(left.map fun i=>cx W (aM nd) (rest.getD i.toNat ([],[])).1)++ahead.map fun r=>gb W r (aM nd) n
def eZ(n w:Nat)(rest:List eI)(M:aQ)(left:aB)(ahead:aQ):aQ:=(left.map fun i=>cx M (rest.getD i.toNat ([],[])).2 (rest.getD i.toNat ([],[])).1)++ahead.map fun r=>gb M r (aM w) n
def uN(nd:Nat)(known:List Bool)(vals:aQ)(W M D:aQ):aQ:=vals.mapIdx fun c r=>if known.getD c false then r else gb D (av W c) (av M c) nd
def dc(n:Nat)(l:List eI)(ahead:aQ):aQ:=ahead++l.map fun e=>dL n e.1
def gy(w:Nat)(l:List eI)(ahead:aQ):aQ:=qg ahead.length (aM w)++l.map zE
def at_(X:aQ)(k:Nat)(c:Int):UInt8:=aE (av X c.toNat) k
section
variable {n w:Nat} {l:List eI} {ahead:aQ}
theorem An(b:aY n ahead):aY n (dc n l ahead):=fun r a=>by
 rcases qF.1 a with a|a
 ·exact b r a
 ·obtain⟨e,_,rfl⟩:=qC.1 a;exact nO _ _
theorem Ao(b:∀e∈l,ib n w e):aY w (gy w l ahead):=fun r a=>by
 rcases qF.1 a with a|a
 ·rw[(w8.1 a).2];simp[aM]
 ·obtain⟨e,c,rfl⟩:=qC.1 a;exact(b e c).len
theorem ur:(dc n l ahead).length=(gy w l ahead).length:=by simp[dc,gy]
theorem CZ(o:∀e∈l,ib n w e){X:aQ}:eV n w (dc n l ahead) (gy w l ahead) X↔X.length=n/\aY w X/\∀k,k<w->(∀e∈l,Sat 1 k (at_ X k) e)/\∀r∈ahead,bG (fun j=>aE r j) (fun c=>aE (av X c) k) n=0:=by
 unfold eV;refine⟨fun⟨h1,h2,h3⟩=>⟨h1,h2,fun k p=>⟨fun e g=>?_,fun r s=>?_⟩⟩,fun⟨h1,h2,h3⟩=>⟨h1,h2,fun i f=>?_⟩⟩
 ·obtain⟨i,f,rfl⟩:=qE g;have:=h3 (ahead.length+i) (by simp[dc];omega);have a:av (dc n l ahead) (ahead.length+i)=dL n l[i].1:=by rw[bj (by simp[dc];omega)];simp[dc]
  have e2:av (gy w l ahead) (ahead.length+i)=l[i].2:=by rw[bj (by simp[gy];omega)];simp[gy]
  rw[a,e2]at this;have m:=congrArg (fun r=>aE r k) this;rw[ge h2 h1 _ k n (ql _),CY _ (o _ g).cC (o _ g).nodup]at m;unfold Sat;rw[Gf.one_mul];exact m
 ·obtain⟨i,f,rfl⟩:=qE s;have:=h3 i (by simp[dc];omega);have a:av (dc n l ahead) i=ahead[i]:=by rw[bj (by simp[dc];omega)];simp[dc,yl f]
  have e2:av (gy w l ahead) i=aM w:=by rw[bj (by simp[gy];omega)];simp[gy,f]
  rw[a,e2]at this;have m:=congrArg (fun r=>aE r k) this;rw[ge h2 h1 _ k n (ql _),bU]at m;exact m
 ·have h:(av (gy w l ahead) i).length=w:=bP (Ao o) (by rw[<-ur (n:=n)];exact f);refine dZ (n:=w) (gK h2 h1 _ n (ql _)) h fun k p=>?_;rw[ge h2 h1 _ k n (ql _)];simp only[dc,qw,qD]at f;by_cases b:i<ahead.length
  ·have a:av (dc n l ahead) i=ahead[i]:=by rw[bj (by simp[dc];omega)];simp[dc,yl b]
   have e2:av (gy w l ahead) i=aM w:=by rw[bj (by simp[gy];omega)];simp[gy,b]
   rw[a,e2,bU];exact(h3 k p).2 _ (qh b)
  ·obtain⟨d,rfl⟩:∃d,i=ahead.length+d:=⟨i-ahead.length,by omega⟩
   have q:d<l.length:=by omega
   have a:av (dc n l ahead) (ahead.length+d)=dL n l[d].1:=by rw[bj (by simp[dc];omega)];simp[dc]
   have e2:av (gy w l ahead) (ahead.length+d)=l[d].2:=by rw[bj (by simp[gy];omega)];simp[gy]
   have g:=o _ (qh q);rw[a,e2,CY _ g.cC g.nodup];have:=(h3 k p).1 _ (qh q);unfold Sat at this;rw[Gf.one_mul]at this;exact this
end
structure fZ (n w:Nat) (l:List eI) (ahead:aQ) (known:List Bool) (vals:aQ) (dead left:aB) (W M:aQ):Prop where
 eqs:∀e∈l,ib n w e
 ahd:aY n ahead
 pinv:jh n w l known vals
 calm:jC known vals l=false
 deadR:∀c∈dead,0<=c/\c<(n:Int)
 deadN:dead.Nodup
 deadK:∀c∈dead,kn known c=false
 lens:W.length=n/\M.length=n/\∀c:Nat,c<n->(av W c).length=dead.length/\(av M c).length=w
 evKnown:∀t k y,∀c:Int,0<=c->c<(n:Int)->kn known c=true->ev t k dead.length W M y c=Gf.mul t (aE (av vals c.toNat) k)
 evDead:∀t k y,∀i,(h:i<dead.length)->ev t k dead.length W M y dead[i]=y i
 evRest:∀t k y,k<w->(∀i∈left,Sat t k (ev t k dead.length W M y) ((aZ known vals l).getD i.toNat ([],[])))->∀e∈aZ known vals l,Sat t k (ev t k dead.length W M y) e
 leftR:∀i∈left,0<=i/\i<((aZ known vals l).length:Int)
 evAll:∀t k x,k<w->(∀c:Int,0<=c->c<(n:Int)->kn known c=true->x c=Gf.mul t (aE (av vals c.toNat) k))->(∀e∈aZ known vals l,Sat t k x e)->∀c:Int,0<=c->c<(n:Int)->x c=ev t k dead.length W M (fun i=>x (dead.getD i 0)) c
section
variable {n w:Nat} {l:List eI} {ahead:aQ} {known:List Bool} {vals:aQ} {dead left:aB} {W M:aQ}
theorem og(h:jh n w l known vals)(b:∀e∈l,ib n w e):∀e∈aZ known vals l,ib n w e:=fun e d=>by
 obtain⟨c,a,rfl⟩:=qC.1 (qJ.1 d).1;exact h.Bx (b c a)
theorem AO{a b:UInt8}:a^^^b=0↔a=b:=oZ
theorem fZ.Qs(S:fZ n w l ahead known vals dead left W M){i:Int}(f:i∈left)(t:UInt8)(k:Nat)(y:Nat->UInt8):
  bG (fun j=>aE (cx W (aM dead.length) ((aZ known vals l).getD i.toNat ([],[])).1) j) y dead.length=Gf.mul t (aE (cx M ((aZ known vals l).getD i.toNat ([],[])).2 ((aZ known vals l).getD i.toNat ([],[])).1) k)↔Sat t k (ev t k dead.length W M y) ((aZ known vals l).getD i.toNat ([],[])):=by
 have o:=S.leftR i f;have b:i.toNat<(aZ known vals l).length:=by omega
 have h:(aZ known vals l).getD i.toNat ([],[])=(aZ known vals l)[i.toNat]:=by rw[qe,qd b];rfl
 have a:=og S.pinv S.eqs _ (qh b);rw[h];generalize (aZ known vals l)[i.toNat]=e at*;have g:(aM dead.length).length=dead.length:=by simp[aM]
 have p:∀c∈e.1,(av W c.toNat).length=dead.length:=fun c d=>((S.lens.2.2 c.toNat) (by have:=a.cC c d;omega)).1;have m:∀c∈e.1,(av M c.toNat).length=w:=fun c d=>((S.lens.2.2 c.toNat) (by have:=a.cC c d;omega)).2;have:=LI g a.len p m t k y;rw[fk _ _ dead.length fun j _=>bU _ _,z7]at this;rw[<-AO,this];unfold Sat;rw[AO];exact eq_comm
theorem fZ.No(S:fZ n w l ahead known vals dead left W M)(r:Row)(t:UInt8)(k:Nat)(y:Nat->UInt8):
  bG (fun j=>aE (gb W r (aM dead.length) n) j) y dead.length=Gf.mul t (aE (gb M r (aM w) n) k)↔bG (fun j=>aE r j) (fun c=>ev t k dead.length W M y (c:Int)) n=0:=by
 have e:=Qp (V:=W) (m:=dead.length) r (a:=aM dead.length) (by simp[aM]) y dead.length (c:=n) fun i b=>(S.lens.2.2 i b).1;have d:=IL (V:=M) (m:=w) r (a:=aM w) (by simp[aM]) k (c:=n) fun i b=>(S.lens.2.2 i b).2;rw[e,d,fk _ _ dead.length fun j _=>bU _ _,bU,z7,z7,<-AO,<-Qr,<-Qq];have:(fun c:Nat=>ev t k dead.length W M y (c:Int))=fun i=>bG (fun j=>aE (av W i) j) y dead.length^^^Gf.mul t (aE (av M i) k):=by
  funext c;unfold ev;rw[qp]
 rw[this]
theorem fZ.up(S:fZ n w l ahead known vals dead left W M){t:UInt8}{k:Nat}{y:Nat->UInt8}(f:k<w)
  (g:∀i,i<(cZ n dead.length (aZ known vals l) W left ahead).length->bG (fun j=>aE (av (cZ n dead.length (aZ known vals l) W left ahead) i) j) y dead.length=Gf.mul t (aE (av (eZ n w (aZ known vals l) M left ahead) i) k)):
  (∀e∈l,Sat t k (ev t k dead.length W M y) e)/\∀r∈ahead,bG (fun j=>aE r j) (fun c=>ev t k dead.length W M y (c:Int)) n=0:=by
 refine⟨(Qh S.pinv S.eqs S.calm f).2 ⟨fun c h0 h m=>S.evKnown t k y c h0 h m,S.evRest t k y f fun i d=>?_⟩,fun r o=>?_⟩
 ·obtain⟨j,a,rfl⟩:=qE d;have:=g j (by simp[cZ];omega);have b:av (cZ n dead.length (aZ known vals l) W left ahead) j=cx W (aM dead.length) ((aZ known vals l).getD left[j].toNat ([],[])).1:=by
   rw[bj (by simp[cZ];omega)];simp[cZ,a]
  have e2:av (eZ n w (aZ known vals l) M left ahead) j=cx M ((aZ known vals l).getD left[j].toNat ([],[])).2 ((aZ known vals l).getD left[j].toNat ([],[])).1:=by
   rw[bj (by simp[eZ];omega)];simp[eZ,a]
  rw[b,e2]at this;exact(S.Qs d t k y).1 this
 ·obtain⟨j,a,rfl⟩:=qE o;have:=g (left.length+j) (by simp[cZ];omega);have b:av (cZ n dead.length (aZ known vals l) W left ahead) (left.length+j)=gb W ahead[j] (aM dead.length) n:=by
   rw[bj (by simp[cZ];omega)];simp[cZ]
  have e2:av (eZ n w (aZ known vals l) M left ahead) (left.length+j)=gb M ahead[j] (aM w) n:=by
   rw[bj (by simp[eZ];omega)];simp[eZ]
  rw[b,e2]at this;exact(S.No _ t k y).1 this
theorem fZ.down(S:fZ n w l ahead known vals dead left W M){t:UInt8}{k:Nat}{x:Int->UInt8}(q:k<w)(y:∀e∈l,Sat t k x e)(z:∀r∈ahead,bG (fun j=>aE r j) (fun c=>x (c:Int)) n=0):
  (∀c:Int,0<=c->c<(n:Int)->x c=ev t k dead.length W M (fun i=>x (dead.getD i 0)) c)/\
  ∀i,i<(cZ n dead.length (aZ known vals l) W left ahead).length->bG (fun j=>aE (av (cZ n dead.length (aZ known vals l) W left ahead) i) j) (fun i=>x (dead.getD i 0)) dead.length=Gf.mul t (aE (av (eZ n w (aZ known vals l) M left ahead) i) k):=by
 obtain⟨s,o⟩:=(Qh S.pinv S.eqs S.calm q).1 y;have g:=S.evAll t k x q s o;refine⟨g,fun i v=>?_⟩;simp only[cZ,qw,qD]at v;by_cases a:i<left.length
 ·have m:av (cZ n dead.length (aZ known vals l) W left ahead) i=cx W (aM dead.length) ((aZ known vals l).getD left[i].toNat ([],[])).1:=by
   rw[bj (by simp[cZ];omega)];simp[cZ,a]
  have e2:av (eZ n w (aZ known vals l) M left ahead) i=cx M ((aZ known vals l).getD left[i].toNat ([],[])).2 ((aZ known vals l).getD left[i].toNat ([],[])).1:=by
   rw[bj (by simp[eZ];omega)];simp[eZ,a]
  rw[m,e2];refine(S.Qs (qh a) t k _).2 ?_;have u:=S.leftR _ (qh a);have b:left[i].toNat<(aZ known vals l).length:=by omega
  have A:(aZ known vals l).getD left[i].toNat ([],[])=(aZ known vals l)[left[i].toNat]:=by rw[qe,qd b];rfl
  rw[A];have p:=o _ (qh b);have f:=og S.pinv S.eqs _ (qh b);unfold Sat at p⊢;rw[<-p];exact jB fun c h=>(g c (f.cC c h).1 (f.cC c h).2).symm
 ·obtain⟨d,rfl⟩:∃d,i=left.length+d:=⟨i-left.length,by omega⟩
  have B:d<ahead.length:=by omega
  have m:av (cZ n dead.length (aZ known vals l) W left ahead) (left.length+d)=gb W ahead[d] (aM dead.length) n:=by
   rw[bj (by simp[cZ];omega)];simp[cZ]
  have e2:av (eZ n w (aZ known vals l) M left ahead) (left.length+d)=gb M ahead[d] (aM w) n:=by
   rw[bj (by simp[eZ];omega)];simp[eZ]
  rw[m,e2];refine(S.No _ t k _).2 ?_;rw[<-z _ (qh B)];exact fw n (fun _ _=>rfl) fun c h=>(g (c:Int) (by omega) (by omega)).symm
theorem pf(S:fZ n w l ahead known vals dead left W M):aY dead.length (cZ n dead.length (aZ known vals l) W left ahead)/\aY w (eZ n w (aZ known vals l) M left ahead):=by
 have d:∀i∈left,ib n w ((aZ known vals l).getD i.toNat ([],[])):=fun i b=>by
  have h:=S.leftR i b;have e:i.toNat<(aZ known vals l).length:=by omega
  rw[qe,qd e];exact og S.pinv S.eqs _ (qh e)
 constructor
 ·intro r a;rcases qF.1 a with a|a
  ·obtain⟨i,b,rfl⟩:=qC.1 a;exact jg (by simp[aM]) fun c f=>((S.lens.2.2 c.toNat) (by have:=(d i b).cC c f;omega)).1
  ·obtain⟨x,g,rfl⟩:=qC.1 a;exact kO x (by simp[aM]) fun i b=>(S.lens.2.2 i b).1
 ·intro r a;rcases qF.1 a with a|a
  ·obtain⟨i,b,rfl⟩:=qC.1 a;exact jg (d i b).len fun c f=>((S.lens.2.2 c.toNat) (by have:=(d i b).cC c f;omega)).2
  ·obtain⟨x,g,rfl⟩:=qC.1 a;exact kO x (by simp[aM]) fun i b=>(S.lens.2.2 i b).2
theorem Ap:(cZ n dead.length (aZ known vals l) W left ahead).length=(eZ n w (aZ known vals l) M left ahead).length:=by simp[cZ,eZ]
theorem fZ.LH(S:fZ n w l ahead known vals dead left W M)(I:1<=w)(f:bT (dc n l ahead)=n):bT (cZ n dead.length (aZ known vals l) W left ahead)=dead.length:=by
 obtain⟨G,e2⟩:=pf S;have K:=uJ G;by_cases B:bT (cZ n dead.length (aZ known vals l) W left ahead)<dead.length
 ·exfalso;obtain⟨y,⟨i,b,O⟩,T⟩:=kernel G B;have o:=S.up (t:=0) (k:=0) (y:=y) I fun i b=>by rw[T _ (mem_row b),Gf.zero_mul]
  have H:=An (l:=l) S.ahd;have u:aY 1 (qg (dc n l ahead).length (aM 1)):=fun r f=>by rw[(w8.1 f).2];simp[aM]
  have d:(dc n l ahead).length=(qg (dc n l ahead).length (aM 1)).length:=by simp
  have X:eV n 1 (dc n l ahead) (qg (dc n l ahead).length (aM 1)) (qg n (aM 1)):=by
   have a:aY 1 (qg n (aM 1)):=fun r f=>by rw[(w8.1 f).2];simp[aM]
   refine⟨by simp,a,fun i b=>?_⟩;refine dZ (n:=1) (gK a (by simp) _ n (ql _)) (bP u (by simpa using b)) fun k U=>?_;rw[ge a (by simp) _ k n (ql _)];have A:av (qg (dc n l ahead).length (aM 1)) i=aM 1:=by rw[bj (by simpa using b)];simp
   rw[A,bU];have:∀g,g<=n->bG (fun j=>aE (av (dc n l ahead) i) j) (fun c=>aE (av (qg n (aM 1)) c) k) g=0:=by
    intro g
    induction g with
    |zero=>intro _;rfl
    |succ g ih=>
     intro P;have J:av (qg n (aM 1)) g=aM 1:=by rw[bj (by simp;omega)];simp
     rw[bG,ih (by omega),J,bU,Gf.mul_zero];rfl
   exact this n (ql _)
  have R:eV n 1 (dc n l ahead) (qg (dc n l ahead).length (aM 1)) ((qy n).map fun c:Nat=>[ev 0 0 dead.length W M y (c:Int)]):=by
   have a:aY 1 ((qy n).map fun c:Nat=>[ev 0 0 dead.length W M y (c:Int)]):=fun r f=>by obtain⟨c,_,rfl⟩:=qC.1 f;rfl
   have h:∀c:Nat,c<n->av ((qy n).map fun c:Nat=>[ev 0 0 dead.length W M y (c:Int)]) c=[ev 0 0 dead.length W M y (c:Int)]:=fun c p=>by rw[bj (by simpa using p)];simp
   refine⟨by simp,a,fun i b=>?_⟩;refine dZ (n:=1) (gK a (by simp) _ n (ql _)) (bP u (by simpa using b)) fun k U=>?_;have v:k=0:=by omega
   subst v;rw[ge a (by simp) _ 0 n (ql _)];have A:av (qg (dc n l ahead).length (aM 1)) i=aM 1:=by rw[bj (by simpa using b)];simp
   rw[A,bU];have L:bG (fun j=>aE (av (dc n l ahead) i) j) (fun c=>aE (av ((qy n).map fun c:Nat=>[ev 0 0 dead.length W M y (c:Int)]) c) 0) n=bG (fun j=>aE (av (dc n l ahead) i) j) (fun c=>ev 0 0 dead.length W M y (c:Int)) n:=
    fw n (fun _ _=>rfl) fun c p=>by rw[h c p];rfl
   rw[L];have x:av (dc n l ahead) i∈ahead++l.map fun e=>dL n e.1:=mem_row b;obtain D|D:=qF.1 x
   ·exact o.2 _ D
   ·obtain⟨e,s,F⟩:=qC.1 D;rw[<-F,CY _ (S.eqs e s).cC (S.eqs e s).nodup];have z:=o.1 e s;unfold Sat at z;rw[Gf.zero_mul]at z;refine Eq.trans (jB fun c p=>?_) z;have:=(S.eqs e s).cC c p;rw[show((c.toNat:Nat):Int)=c by omega]
  have Q:=(kN d H u f X).1;have N:=(kN d H u f R).1;have E:=N.trans Q.symm;have V:=S.deadR _ (qh b);have q:=congrArg (fun m=>aE (av m dead[i].toNat) 0) E;rw[bj (by simp;omega),bj (by simp;omega)]at q;simp only[List.getElem_map,List.getElem_range,List.getElem_replicate,bU]at q;rw[show((dead[i].toNat:Nat):Int)=dead[i]by omega]at q;have h8:aE [ev 0 0 dead.length W M y dead[i]] 0=ev 0 0 dead.length W M y dead[i]:=rfl;rw[h8,S.evDead 0 0 y i b]at q;exact O q
 ·omega
theorem LK(S:fZ n w l ahead known vals dead left W M){D:aQ}(g:D.length=dead.length)(f:aY w D){c:Nat}(e:c<n):
  (av (uN dead.length known vals W M D) c).length=w/\∀k,aE (av (uN dead.length known vals W M D) c) k=ev 1 k dead.length W M (fun i=>aE (av D i) k) (c:Int):=by
 have h:=S.pinv.vlen;have a:av (uN dead.length known vals W M D) c=if known.getD c false then av vals c else gb D (av W c) (av M c) dead.length:=by
  unfold uN;rw[CX (by omega)]
 have d:=S.lens.2.2 c e;rw[a];cases hkn:known.getD c false with
 |true=>
  rw[if_pos rfl];refine⟨by have:=S.pinv.row c e;rw[hkn]at this;simpa using this,fun k=>?_⟩;have:=S.evKnown 1 k (fun i=>aE (av D i) k) (c:Int) (by omega) (by omega) (by unfold kn;rw[qp];exact hkn);rw[this,qp,Gf.one_mul]
 |false=>
  rw[if_neg (by simp)];have b:∀i,i<dead.length->(av D i).length=w:=fun i j=>bP f;refine⟨kO _ d.2 b,fun k=>?_⟩;rw[IL _ d.2 k b];unfold ev;rw[qp,Gf.one_mul,vA]
theorem adn(h:vals.length=n){D:aQ}:(uN dead.length known vals W M D).length=n:=by simp[uN,h]
theorem fZ.VE(S:fZ n w l ahead known vals dead left W M){D:aQ}(q:eV dead.length w (cZ n dead.length (aZ known vals l) W left ahead) (eZ n w (aZ known vals l) M left ahead) D):eV n w (dc n l ahead) (gy w l ahead) (uN dead.length known vals W M D):=by
 obtain⟨d,a,f⟩:=q;obtain⟨u,e2⟩:=pf S;have h:=adn (dead:=dead) (known:=known) (W:=W) (M:=M) S.pinv.vlen (D:=D);refine(CZ S.eqs).2 ⟨h,fun r g=>?_,fun k s=>?_⟩
 ·obtain⟨c,b,rfl⟩:=fv g;exact(LK S d a (by omega)).1
 ·have m:=S.up (t:=1) (k:=k) (y:=fun i=>aE (av D i) k) s fun i p=>by
   have:=congrArg (fun r=>aE r k) (f i p);rw[ge a d _ k dead.length (ql _)]at this;rw[this,Gf.one_mul]
  refine⟨fun e j=>?_,fun r g=>?_⟩
  ·have h3:=m.1 e j;unfold Sat at h3⊢;rw[<-h3];refine jB fun c b=>?_;have o:=(S.eqs e j).cC c b;unfold at_;rw[(LK S d a (show c.toNat<n by omega)).2 k,show((c.toNat:Nat):Int)=c by omega]
  ·rw[<-m.2 r g];exact fw n (fun _ _=>rfl) fun c b=>(LK S d a b).2 k
theorem fZ.SL(S:fZ n w l ahead known vals dead left W M){X:aQ}(p:eV n w (dc n l ahead) (gy w l ahead) X):eV dead.length w (cZ n dead.length (aZ known vals l) W left ahead) (eZ n w (aZ known vals l) M left ahead) (dead.map fun c=>av X c.toNat):=by
 obtain⟨q,o,m⟩:=(CZ S.eqs).1 p;obtain⟨s,e2⟩:=pf S;have d:aY w (dead.map fun c=>av X c.toNat):=fun r e=>by
  obtain⟨c,h,rfl⟩:=qC.1 e;have:=S.deadR c h;exact bP o
 have b:(dead.map fun c=>av X c.toNat).length=dead.length:=by simp
 refine⟨b,d,fun i g=>dZ (n:=w) (gK d b _ _ (ql _)) (bP e2 (by rw[<-Ap (n:=n) (w:=w)];exact g)) fun k a=>?_⟩;rw[ge d b _ k dead.length (ql _)];have h3:=(S.down (t:=1) (x:=at_ X k) a (m k a).1 (fun r e=>by
  have:=(m k a).2 r e;rw[<-this];exact fw n (fun _ _=>rfl) fun c h=>by unfold at_;rw[qp])).2 i g
 rw[Gf.one_mul]at h3;rw[<-h3];refine fw _ (fun _ _=>rfl) fun j f=>?_;unfold at_;rw[bj (by simpa using f),qe,qd f];simp
end
def gv(known:List Bool)(i:Nat):dq:=((qy i).filter fun c=>known.getD c false).map fun c:Nat=>[(c:Int)]
theorem LL(known:List Bool)(i:Nat):gv known (i+1)=gv known i++if known.getD i false then[[(i:Int)]]else[]:=by
 unfold gv;rw[List.range_succ,List.filter_append,List.map_append];cases h:known.getD i false<;>simp only[zo,h,List.filter_nil]<;>rfl
theorem DO(known:List Bool)(i:Nat):(gv known i).length<=i:=by
 unfold gv;rw[qD];exact zk (zc _ _) (by simp)
def rowsOf(R:List eI)(known:List Bool)(n:Nat):dq:=R.map qK++gv known n
def fV(R:List eI)(known:List Bool)(n:Nat):Pl:=dg n (rowsOf R known n)
def mz(R:List eI)(known:List Bool)(n:Nat):List (Int×Int):=(fV R known n).steps.filter fun x=>decide (x.1<R.length)
def leftOf(R:List eI)(known:List Bool)(n:Nat):aB:=(eW (fV R known n).used (rowsOf R known n).length).filter fun x=>decide (x<R.length)
theorem Aq{known:List Bool}{n:Nat}{r:aB}(h:r∈gv known n):∃c:Nat,r=[(c:Int)]/\c<n/\known.getD c false=true:=by
 obtain⟨c,a,rfl⟩:=qC.1 h;rw[qJ,qI]at a;exact⟨c,rfl,a.1,a.2⟩
theorem Fx{rows:dq}:∀{d:List (Int×Int)} {D U:Int->Prop},rX rows D U d->∀i c,(i,c)∈d->(0<=i/\i<rows.length)/\c∈rows.getD i.toNat []
 |[],_,_,_,_,_,h=>by cases h
 |(i',c')::t,D,U,hg,i,c,h=>by
  obtain⟨g,_,_,f,_,e⟩:=hg;rcases q8.1 h with h|h
  ·injection h with a b;subst a;subst b;exact⟨g,f⟩
  ·exact Fx e i c h
section
variable {n w:Nat} {l:List eI} {ahead:aQ} {known:List Bool} {vals:aQ}
theorem ut(f:∀e∈aZ known vals l,ib n w e):∀r∈rowsOf (aZ known vals l) known n,∀c∈r,0<=c/\c<(n:Int):=fun r a c b=>by
 rcases qF.1 a with a|a
 ·obtain⟨e,g,rfl⟩:=qC.1 a;exact(f e g).cC c b
 ·obtain⟨d,rfl,h,_⟩:=Aq a;rw[qG]at b;subst b;omega
theorem Np(i:∀e∈l,ib n w e)(f:jh n w l known vals):rY ((aZ known vals l).map qK) (·∈(fV (aZ known vals l) known n).dead) (mz (aZ known vals l) known n):=by
 have m:=og f i;obtain⟨_,_,_,_,_,g⟩:=uM (ut m);have:=AN (R:=(aZ known vals l).map qK) (S:=gv known n) (K:=fun c=>kn known c=true) (fun r b c a=>?_) (fun r b c a=>?_) g (D':=(·∈(fV (aZ known vals l) known n).dead)) fun c _=>Iff.rfl
 ·rw[qD]at this;exact this
 ·obtain⟨e,o,rfl⟩:=qC.1 b;obtain⟨j,k,rfl⟩:=qC.1 (qJ.1 o).1;rw[Fq f j c a];simp
 ·obtain⟨d,rfl,_,h⟩:=Aq b;rw[qG]at a;subst a;unfold kn;rw[qp];exact h
theorem JQ(j:∀e∈l,ib n w e)(m:jh n w l known vals):
  (∀c∈(fV (aZ known vals l) known n).dead,0<=c/\c<(n:Int))/\(fV (aZ known vals l) known n).dead.Nodup/\(∀c∈(fV (aZ known vals l) known n).dead,kn known c=false)/\
  (∀i∈leftOf (aZ known vals l) known n,0<=i/\i<((aZ known vals l).length:Int))/\(fV (aZ known vals l) known n).dead.length<=n:=by
 have k:=og m j;obtain⟨r,p,a3,a4,a5,g⟩:=uM (ut k);refine⟨a3,a4,fun c h=>?_,fun i a=>?_,by unfold fV;omega⟩
 ·have b:=a3 c h;cases hk:kn known c with
  |false=>rfl
  |true=>
   exfalso;have f:[c]∈rowsOf (aZ known vals l) known n:=qF.2 (.inr (qC.2 ⟨c.toNat,qJ.2 ⟨qI.2 (by omega),hk⟩,by rw[show((c.toNat:Nat):Int)=c by omega]⟩));exact CV f n (qg n true) (qg _ false) (fun i a=>by rw[Fu]at a;cases a) (fun d q f=>by have:=a3 d f;omega) b.1 h
 ·unfold leftOf at a;rw[qJ]at a;have:=a5 i a.1;have o:i<((aZ known vals l).length:Int):=by simpa using a.2
  exact⟨this.1,o⟩
theorem aaJ(k:∀e∈l,ib n w e)(q:jh n w l known vals){c:Int}(t:0<=c)(u:c<(n:Int))(f:kn known c=false):c∈(fV (aZ known vals l) known n).dead∨∃i,(i,c)∈mz (aZ known vals l) known n:=by
 have h:=og q k;obtain⟨_,_,_,_,_,g⟩:=uM (ut h);have a:=Fw (ut h) n (qg n true) (qg (rowsOf (aZ known vals l) known n).length false) (by simp) (by simp) c.toNat (by rw[qe,qd (by simp;omega)];simp);rw[show((c.toNat:Nat):Int)=c by omega]at a;rcases a with a|⟨i,a⟩
 ·exact .inl a
 ·refine .inr ⟨i,qJ.2 ⟨a,?_⟩⟩;obtain⟨m,j⟩:=Fx g i c a;by_cases p:i<((aZ known vals l).length:Int)
  ·simpa using p
  ·exfalso;have o:=m.2;rw[rowsOf,qw,qD]at o;have r:(rowsOf (aZ known vals l) known n).getD i.toNat []∈gv known n:=by
    rw[rowsOf,qe,qj (by rw[qD];omega),qd (by rw[qD];omega)];exact qh _
   obtain⟨d,s,_,b⟩:=Aq r;rw[s,qG]at j;subst j;unfold kn at f;rw[qp,b]at f;cases f
def OY(n w:Nat)(known:List Bool)(vals:aQ)(R:List eI):aQ×aQ:=
 gD (fV R known n).dead.length known vals ((mz R known n).foldl (gh R (fV R known n).dead.length) (fx n (fV R known n).dead.length w (fV R known n).dead))
theorem aaK{nd:Nat}{s:aQ×aQ}{c:Int}(d:0<=c)(b:c.toNat<s.1.length)(a:c.toNat<s.2.length):
  av (gD nd known vals s).1 c.toNat=(if kn known c then aM nd else av s.1 c.toNat)/\av (gD nd known vals s).2 c.toNat=if kn known c then av vals c.toNat else av s.2 c.toNat:=by
 unfold gD kn;exact⟨CX b,CX a⟩
theorem aaL(B:∀e∈l,ib n w e)(hA:aY n ahead)(z:jh n w l known vals)(W:jC known vals l=false):
  fZ n w l ahead known vals (fV (aZ known vals l) known n).dead (leftOf (aZ known vals l) known n) (OY n w known vals (aZ known vals l)).1 (OY n w known vals (aZ known vals l)).2:=by
 have G:=og z B;have S:=Np B z;have a:=fun c h0 f o=>aaJ (c:=c) B z h0 f o;obtain⟨F,M,P,f4,f5⟩:=JQ B z;have b:∀j:Nat,j<(aZ known vals l).length->(∃c,((j:Int),c)∈mz (aZ known vals l) known n)∨(j:Int)∈leftOf (aZ known vals l) known n:=fun j T=>by
  cases hu:(fV (aZ known vals l) known n).used.getD j false with
  |true=>
   rcases Fv n (qg n true) (qg _ false) j hu with h|⟨c,h⟩
   ·rw[Fu]at h;cases h
   ·exact .inl ⟨c,qJ.2 ⟨h,by simp;omega⟩⟩
  |false=>exact .inr (qJ.2 ⟨(CU _ _ _).2 ⟨j,rfl,by rw[rowsOf,qw,qD];omega,hu⟩,by simp;omega⟩)
 have s:∀e∈aZ known vals l,∀c∈e.1,kn known c=false:=fun e v c N=>by
  obtain⟨e0,ah,rfl⟩:=qC.1 (qJ.1 v).1;exact Fq z e0 c N
 unfold OY;obtain⟨R,m⟩:∃R,R=aZ known vals l:=⟨_,rfl⟩
 rw[<-m]at G S F M P f4 f5 b a s⊢;obtain⟨D,X⟩:∃D,D=(fV R known n).dead:=⟨_,rfl⟩
 obtain⟨ST,q⟩:∃ST,ST=mz R known n:=⟨_,rfl⟩
 rw[<-X,<-q]at S a;rw[<-q]at b;rw[<-X]at F M P f5;rw[<-X,<-q];obtain⟨Y,du⟩:=LJ (nd:=D.length) (w:=w) F M D.length (ql _);rw[List.take_length]at Y du;obtain⟨A,keep,V,E⟩:=IK G S Y;generalize ad:ST.foldl (gh R D.length) (fx n D.length w D)=S0 at*;have Q:=A.wl;have U:=A.ml;have fr:∀c:Int,0<=c->c<(n:Int)->av (gD D.length known vals S0).1 c.toNat=(if kn known c then aM D.length else av S0.1 c.toNat)/\av (gD D.length known vals S0).2 c.toNat=if kn known c then av vals c.toNat else av S0.2 c.toNat:=fun c h0 f=>aaK h0 (by omega) (by omega)
 have u:∀t k y (c:Int),0<=c->c<(n:Int)->kn known c=false->ev t k D.length (gD D.length known vals S0).1 (gD D.length known vals S0).2 y c=ev t k D.length S0.1 S0.2 y c:=fun t k y c h0 f o=>by
  have:=fr c h0 f;rw[o]at this;exact CW this.1 this.2
 have J:∀t k y (c:Int),0<=c->c<(n:Int)->kn known c=true->ev t k D.length (gD D.length known vals S0).1 (gD D.length known vals S0).2 y c=Gf.mul t (aE (av vals c.toNat) k):=fun t k y c h0 f o=>by
  have:=fr c h0 f;rw[o,if_pos rfl,if_pos rfl]at this;unfold ev;rw[this.1,this.2,fk _ _ D.length fun j _=>bU _ _,z7]
 have H:∀t k y i,(h:i<D.length)->ev t k D.length (fx n D.length w D).1 (fx n D.length w D).2 y D[i]=y i:=fun t k y i h=>by
  have:=du i h h;unfold ev;rw[this.1,this.2,aaI h,bU,Gf.mul_zero,z6]
 have L:∀i:Int,0<=i->i<(R.length:Int)->R.getD i.toNat ([],[])∈R:=fun i h0 f=>by
  rw[qe,qd (by omega)];exact qh _
 refine⟨B,hA,z,W,F,M,P,⟨by simp[gD,Q],by simp[gD,U],fun c N=>?_⟩,J,fun t k y i h=>?_,fun t k y o I e v=>?_,by rw[<-m];exact f4,fun t k x o hx I c h0 f=>?_⟩
 ·have h:=fr (c:Int) (by omega) (by omega);rw[qp]at h;rw[h.1,h.2];cases o:kn known (c:Int)with
  |true=>
   rw[if_pos rfl,if_pos rfl];refine⟨by simp[aM],?_⟩;have:=z.Fp (c:=(c:Int)) (by omega) (by omega) o
   rwa [qp]at this
  |false=>
   rw[if_neg (by simp),if_neg (by simp)];have:=A.rw_ (c:Int) (a _ (by omega) (by omega) o) (by omega) (by omega)
   rwa [qp]at this
 ·have O:=F _ (qh h);rw[u t k y _ O.1 O.2 (P _ (qh h)),<-H t k y i h];exact CW (keep _ (qh h) O.1).1 (keep _ (qh h) O.1).2
 ·rw[<-m]at v I;obtain⟨j,T,rfl⟩:=qE v;have ej:R.getD ((j:Int)).toNat ([],[])=R[j]:=by rw[qp,qe,qd T];rfl
  rcases b j T with⟨c,N⟩|hlf
  ·have:=V _ N t k y o;dsimp only at this;rw[ej]at this;unfold Sat at this⊢;rw[<-this];exact jB fun d K=>u t k y d ((G _ v).cC d K).1 ((G _ v).cC d K).2 (s _ v d K)
  ·have:=I _ hlf
   rwa [ej]at this
 ·rw[<-m]at I;cases hkc:kn known c with
  |true=>rw[hx c h0 f hkc,J _ _ _ c h0 f hkc]
  |false=>
   rw[u _ _ _ c h0 f hkc];refine E t k x _ o (fun d K h2 h3=>?_) (fun p hp=>?_) c (a c h0 f hkc) h0 f
   ·obtain⟨i,Z,rfl⟩:=qE K;rw[H t k _ i Z,qe,qd Z];rfl
   ·have r:p∈mz R known n:=q▸hp;unfold mz at r;rw[qJ]at r;have h2:p.1<(R.length:Int):=by simpa using r.2
    have h3:0<=p.1:=by
     obtain⟨_,_,_,_,_,g⟩:=uM (rows:=rowsOf R known n) (n:=n) (by rw[m];exact ut (m▸G));exact(Fx g p.1 p.2 r.1).1.1
    exact I _ (L _ h3 h2)
end
def tO(n:Nat)(seed:Int)(l:List (Int×Row)):List eI:=l.map fun x=>(cA n seed x.1,x.2)
def re(p:Int×Int×Int)(l:List (Int×Row)):aQ:=qg p.2.1.toNat (aM p.2.2.toNat)++l.map zE
structure Ar (p:Int×Int×Int) (x:Int×Row):Prop where
 id:bp x.1=true
 len:x.2.length=p.2.2.toNat
theorem ado{n:Nat}(d:1<=n)(c:n<=20)(seed id:Int):(cA n seed id).Pairwise (·<·):=by
 have a:=SE n seed id;have b:=CN d c seed id;rw[List.Nodup]at b;exact(a.and b).imp fun⟨d,c⟩=>by omega
section
variable {p:Int×Int×Int} {seed:Int} {l:List (Int×Row)} {n w:Nat}
theorem aeu(b:1<=n)(a:n<=20)(f:∀x∈l,Ar p x)(g:p.2.2.toNat=w):∀e∈tO n seed l,ib n w e/\e.1.Pairwise (·<·):=fun e i=>by
 obtain⟨x,d,rfl⟩:=qC.1 i;exact⟨⟨fun c h=>kB b a h,CN b a seed x.1,by rw[<-g];exact(f x d).len⟩,ado b a seed x.1⟩
theorem VF(d:bA p=true)(a:(bn p).toNat=n)(c:∀x∈l,Ar p x):dc n (tO n seed l) (bc p.1.toNat p.2.1.toNat)=cG p seed (l.map qK):=by
 unfold dc cG tO;rw[if_pos d,a];have:(l.map qK).filter bp=l.map qK:=we.2 fun i e=>by
  obtain⟨x,b,rfl⟩:=qC.1 e;exact(c x b).id
 rw[this,w5,w5];rfl
theorem VG(a:p.2.2.toNat=w):gy w (tO n seed l) (bc p.1.toNat p.2.1.toNat)=re p l:=by
 unfold gy re tO;rw[a,w5];simp[bc]
end
section
variable {n w:Nat} {l:List eI} {ahead:aQ} {known:List Bool} {vals:aQ} {dead left:aB} {W M:aQ}
theorem Yd(a:∀e∈l,ib n w e)(j:aY n ahead)(g:jh n w l known vals)(b:jC known vals l=true)(i:bT (dc n l ahead)=n):¬kd n (dc n l ahead) (gy w l ahead):=fun h=>by
 obtain⟨k,d,c⟩:=VC g a b;have f:=pc ur (An j) (Ao a) i h;exact c _ (((CZ a).1 f).2.2 k d).1
theorem fZ.Uq(S:fZ n w l ahead known vals dead left W M)(b:bT (dc n l ahead)=n){D:aQ}(a:eV dead.length w (cZ n dead.length (aZ known vals l) W left ahead) (eZ n w (aZ known vals l) M left ahead) D):
  kd n (dc n l ahead) (gy w l ahead)/\uN dead.length known vals W M D=fC n (dc n l ahead) (gy w l ahead):=by
 have h:=kN ur (An S.ahd) (Ao S.eqs) b (S.VE a);exact⟨h.2,h.1⟩
theorem fZ.Ur(S:fZ n w l ahead known vals dead left W M)(b:bT (dc n l ahead)=n)(a:kd n (dc n l ahead) (gy w l ahead)):eV dead.length w (cZ n dead.length (aZ known vals l) W left ahead) (eZ n w (aZ known vals l) M left ahead) (dead.map fun c=>av (fC n (dc n l ahead) (gy w l ahead)) c.toNat):=
 S.SL (pc ur (An S.ahd) (Ao S.eqs) b a)
theorem fZ.VH(S:fZ n w l ahead known vals dead left W M)(e:1<=w)(c:bT (dc n l ahead)=n):kd dead.length (cZ n dead.length (aZ known vals l) W left ahead) (eZ n w (aZ known vals l) M left ahead)↔kd n (dc n l ahead) (gy w l ahead):=by
 obtain⟨d,e2⟩:=pf S;have a:=S.LH e c;exact⟨fun b=>(S.Uq c (pc Ap d e2 a b)).1,fun b=>(kN Ap d e2 a (S.Ur c b)).2⟩
theorem JR{a b:aQ}(h:a.length=b.length):eV 0 w a b []↔∀r∈b,r=aM w:=by
 unfold eV;constructor
 ·rintro⟨_,_,h3⟩ r c;obtain⟨i,e,rfl⟩:=fv c;exact(h3 i (by omega)).symm
 ·intro d;refine⟨rfl,fun r c=>(by cases c),fun i e=>?_⟩;have:av b i∈b:=mem_row;rw[d _ this];rfl
theorem adp(b:∀e∈l,e.1.Pairwise (·<·)):∀e∈aZ known vals l,e.1.Pairwise (·<·):=fun e d=>by
 obtain⟨c,a,rfl⟩:=qC.1 (qJ.1 d).1;exact(b c a).filter _
theorem Ye:(aZ known vals l).length<=l.length:=by
 unfold aZ;refine zk (zc _ _) ?_;simp
theorem Yf{m:Nat}(b:∀e∈l,e.1.length<=m):∀e∈aZ known vals l,e.1.length<=m:=fun e d=>by
 obtain⟨c,a,rfl⟩:=qC.1 (qJ.1 d).1;exact zk (zc _ _) (b c a)
end
end Wl
namespace Go.Vc
open Go
section
variable {C:Ctx} {t t2 e k:Nat} {z:aV} {by_:Nat} {α:Type} {h h0:Heap} {p q B:aA} {s v:Sl} {f:α->aV} {l l2:List α} {As:List HP}
end
section
variable {C:Ctx} {t e k:Nat} {z:aV} {by_:Nat} {h:Heap} {s:Sl}
theorem VI(b:C.Ok)(c:bN C.toBq t e k z by_)(n:Nat){x y:Int}(d:x=n)(m:y=n)(j:n<=s.cap){K:Sl->Heap->Prop}(g:K ⟨s.ptr,n,n⟩ h):
  aw C.P (yk t (.slice s.ptr s.len s.cap) none (some (xk xq x)) (some (xk xq y))) (.one (.sc .slc)) h K:=by
 subst d;subst m;have i:aJ C.P (wE true s.len s.cap none (some (xk xq (n:Int))) (some (xk xq (n:Int)))) (0,n,n):=fun w=>by
  have f:¬((n:Int)<0):=by omega
  have x2:¬((s.cap:Int)<(n:Int)):=by omega
  have x3:(n:Int)<=(s.cap:Int):=by omega
  have o:(0:Int)<=(n:Int):=by omega
  simp[wE,Instr.sliceBound,asIntOf,f,x2,x3,o]
 unfold aw yk;refine ae.bind (ae.always (aI (c.under b)) ?_);show ae C.P (xi t (.slice s.ptr s.len s.cap) none (some (xk xq (n:Int))) (some (xk xq (n:Int)))) h _;unfold xi;refine ae.bind (ae.always (aI (c.under b)) ?_);refine ae.bind (ae.always i ?_);refine ae.bind (ae.always (c.size b) ?_);have l:(if n=0 then s.ptr else s.ptr.map (·.add (0*k)))=s.ptr:=by
  split
  ·rfl
  ·cases s.ptr with
   |none=>rfl
   |some a=>simp[Addr.add]
 refine ae.pure' ⟨⟨s.ptr,n,n⟩,?_,g⟩;show Value.slice (if n=0 then s.ptr else s.ptr.map (·.add (0*k))) (n-0) (n-0)=_;rw[l];rfl
end
end Go.Vc
namespace Gf
def pl(a b:Nat):Nat->Nat
 |0=>0
 |i+1=>if b/2^i%2=1 then pl a b i^^^(a*2^i)else pl a b i
def rd(p:Nat):Nat->Nat
 |0=>p
 |i+1=>if rd p i/2^(15-i)%2=1 then rd p i^^^(283*2^(7-i))else rd p i
theorem Us(p q i:Nat):(p^^^q)/2^i%2=(p/2^i%2+q/2^i%2)%2:=by
 have h:=Nat.testBit_xor p q i;simp only[Nat.testBit_eq_decide_div_mod_eq]at h;have b:=wJ ((p^^^q)/2^i) (show 2>0 by decide);have a:=wJ (p/2^i) (show 2>0 by decide);have h3:=wJ (q/2^i) (show 2>0 by decide);generalize (p^^^q)/2^i%2=x at*;generalize p/2^i%2=y at*;generalize q/2^i%2=z at*;rcases(show x=0∨x=1 by omega)with rfl|rfl<;>rcases(show y=0∨y=1 by omega)with rfl|rfl<;>rcases(show z=0∨z=1 by omega)with rfl|rfl<;>simp_all
theorem nx4(a b c d:Nat):(a^^^b)^^^(c^^^d)=(a^^^c)^^^(b^^^d):=by ac_rfl
theorem aaM(x y k i:Nat):(if(x^^^y)/2^i%2=1 then(x^^^y)^^^k else x^^^y)=(if x/2^i%2=1 then x^^^k else x)^^^(if y/2^i%2=1 then y^^^k else y):=by
 rw[Us];have a:=wJ (x/2^i) (show 2>0 by decide);have h3:=wJ (y/2^i) (show 2>0 by decide);rcases(show x/2^i%2=0∨x/2^i%2=1 by omega)with h|h<;>rcases(show y/2^i%2=0∨y/2^i%2=1 by omega)with h'|h'<;>rw[h,h']<;>simp
 ·ac_rfl
 ·ac_rfl
 ·rw[nx4,Nat.xor_self,Nat.xor_zero]
theorem Yg(p q:Nat):∀i,rd (p^^^q) i=rd p i^^^rd q i
 |0=>rfl
 |i+1=>by simp only[rd,Yg p q i];exact aaM _ _ _ _
theorem Yh(a b c:Nat):∀i,pl a (b^^^c) i=pl a b i^^^pl a c i
 |0=>by simp[pl]
 |i+1=>by
  simp only[pl,Yh a b c i,Us];have d:=wJ (b/2^i) (show 2>0 by decide);have h3:=wJ (c/2^i) (show 2>0 by decide);rcases(show b/2^i%2=0∨b/2^i%2=1 by omega)with h|h<;>rcases(show c/2^i%2=0∨c/2^i%2=1 by omega)with h'|h'<;>rw[h,h']<;>simp
  ·ac_rfl
  ·ac_rfl
  ·rw[nx4,Nat.xor_self,Nat.xor_zero]
def mA(a b:Nat):Nat:=rd (pl a b 8) 8%256
theorem SM(a b c:Nat):mA a (b^^^c)=mA a b^^^mA a c:=by
 unfold mA;rw[Yh,Yg,show 256=2^8 from rfl,Nat.xor_mod_two_pow]
theorem mul_two:∀a:UInt8,mul a 2=x2 a:=PI (by decide+kernel)
def itx(a:UInt8):Nat->UInt8
 |0=>a
 |k+1=>x2 (itx a k)
theorem pow_two:∀k,k<7->zH (2^(k+1))=mul (zH (2^k)) 2:=by decide+kernel
theorem mul_pow(a:UInt8):∀k,k<8->mul a (zH (2^k))=itx a k
 |0,_=>mul_one a
 |k+1,h=>by rw[pow_two k (by omega),<-mul_assoc,mul_pow a k (by omega),mul_two];rfl
theorem aaN:∀n,n<256->∀k,k<8->mA n (2^k)=(itx (zH n) k).toNat:=by decide+kernel
theorem Yi:∀k,k<8->∀b,b<256->b<2^(k+1)->2^k<=b->b=(b-2^k)^^^2^k/\zH b=zH (b-2^k)^^^zH (2^k):=by decide+kernel
theorem IM(a:UInt8):∀k,k<=8->∀b,b<2^k->mA a.toNat b=(mul a (zH b)).toNat
 |0,_,b,hb=>by
  have:b=0:=by simpa using hb
  subst this;have h0:∀n,n<256->mA n 0=0:=by decide+kernel
  rw[h0 _ (zN a)];show 0=(mul a 0).toNat;rw[mul_zero];rfl
 |k+1,h,b,hb=>by
  have h8:2^(k+1)<=2^8:=yo (by decide) h;by_cases d:b<2^k
  ·exact IM a k (by omega) b d
  ·have c:=Yi k (by omega) b (by omega) hb (by omega);rw[c.2,iY]
   conv=>lhs;rw[c.1]
   rw[SM,IM a k (by omega) (b-2^k) (by omega),aaN _ (zN a) k (by omega),wR,mul_pow a k (by omega)];rfl
theorem VJ(a b:UInt8):mA a.toNat b.toNat=(mul a b).toNat:=by
 have:=IM a 8 (ql _) b.toNat (zN b)
 rwa [wR]at this
theorem VK(a b:Nat)(d:a<256):∀i,i<=8->pl a b i<2^16
 |0,_=>by simp[pl]
 |i+1,h=>by
  have c:=VK a b d i (by omega);have e:a*2^i<2^16:=by
   have:2^i<=2^7:=yo (by decide) (by omega);have:=zJ (Nat.le_of_lt_succ (show a<255+1 by omega)) this;omega
  rw[pl];split
  ·exact Nat.xor_lt_two_pow c e
  ·exact c
theorem aca(p:Nat)(b:p<2^16):∀i,i<=8->rd p i<2^16
 |0,_=>b
 |i+1,h=>by
  have a:=aca p b i (by omega);have c:283*2^(7-i)<2^16:=by
   have:2^(7-i)<=2^7:=yo (by decide) (by omega);have:=zJ (ql 283) this;omega
  rw[rd];split
  ·exact Nat.xor_lt_two_pow a c
  ·exact a
theorem Yj:∀a:UInt8,mul a 3=x3 a:=PI (by decide+kernel)
theorem VL{a b:UInt8}(h:mul a b=1):b=inv a:=by
 have c:a≠0:=fun e=>by rw[e,zero_mul]at h;cases h
 have:=congrArg (mul (inv a)) h;rw[<-mul_assoc,mul_comm (inv a) a,ul c,one_mul,mul_one]at this;exact this
end Gf
namespace Go.Qw
open Go Go.Vc
abbrev Qt:=Int×Sl×Sl×Int×Int×Int×Sl×Int
abbrev kP(y:Qt):aV:=[xk xq y.1,.slice y.2.1.ptr y.2.1.len y.2.1.cap,.slice y.2.2.1.ptr y.2.2.1.len y.2.2.1.cap,xk xq y.2.2.2.1,xk xq y.2.2.2.2.1,xk xq y.2.2.2.2.2.1,.slice y.2.2.2.2.2.2.1.ptr y.2.2.2.2.2.2.1.len y.2.2.2.2.2.2.1.cap,xk xq y.2.2.2.2.2.2.2]
abbrev VM(y:Qt):Value:=.agg (kP y).toArray
abbrev gz:Sl:=⟨none,0,0⟩
abbrev kQ(e:Int):Qt:=(e,gz,gz,0,0,0,gz,0)
end Go.Qw
namespace Go.Vc
open Go
section
variable {B:aA} {α:Type} {C:Ctx} {h0 h:Heap} {As:List HP} {e t t2 k by_:Nat} {s:Sl} {f:α->aV} {d:List α} {z:aV}
theorem Own.Ut(u:C.Ok)(B:bN C.toBq t e k z by_)(J:∃i e2,C.T.get t2=some i/\i.cu=.slice e2)(g:∀x,(f x).length=k)
  (n:Own h e s k f d) (j:∀x,∀c∈f x,c.oneCell'=true) (i:Nat) (G:i<d.length) {ty:Nat} {K:Sl->Heap->Prop}
  (N:∀h',Own h' e s k f ((d.take i++d.drop (i+1))++d.drop (d.length-1))->aR (fun b=>¬s.on b) h h'->K ⟨s.ptr,d.length-1,s.cap⟩ h'):
  aw C.P (qq #[t,t2] ty #[.slice s.ptr i s.cap,.slice (if s.cap=i+1 then s.ptr else s.ptr.map (·.add ((i+1)*k))) (s.len-(i+1)) (s.cap-(i+1))]) (.one (.sc .slc)) h K:=by
 obtain⟨O,e2,L,E⟩:=J;have o:C.P.underlying t2=some (.slice e2):=by have:=u.cu L;rw[E]at this;exact hG this
 have D:=n.len;have m:=n.cap;have A:Seq h (fun _=>True) ⟨if s.cap=i+1 then s.ptr else s.ptr.map (·.add ((i+1)*k)),s.len-(i+1),s.cap-(i+1)⟩ k f (d.drop (i+1)):=Seq.drop (n.seq g (fun _ _=>trivial)) (i+1) m;obtain⟨v,a⟩:∃v:Sl,v=⟨if s.cap=i+1 then s.ptr else s.ptr.map (·.add ((i+1)*k)),s.len-(i+1),s.cap-(i+1)⟩:=⟨_,rfl⟩
 rw[<-a]at A;have F:(Value.slice (if s.cap=i+1 then s.ptr else s.ptr.map (·.add ((i+1)*k))) (s.len-(i+1)) (s.cap-(i+1)))=.slice v.ptr v.len v.cap:=by rw[a]
 have M:v.len=s.len-(i+1):=by rw[a]
 rw[F];unfold aw qq;simp only[List.getElem?_toArray,List.getElem?_cons_zero,List.getElem?_cons_succ];refine ae.bind (ae.always (aI (B.under u)) ?_);refine ae.bind (ae.always (B.size u) ?_);refine ae.bind (ae.always (aI o) ?_);refine ae.bind (ae.pure' ?_);simp only[zf,if_false,w4,if_true];refine ae.bind (ae.pure' ?_);have l:i+v.len<=s.cap:=by omega
 rw[if_pos l];refine ae.bind (fq g A ?_);rcases n.head with⟨p1,p2,p3⟩|⟨b,rest,p1,p2,p3,p4⟩
 ·subst p3;simp at G
 ·rw[p1];refine ae.bind ?_;rw[add_eq,zX];have w:d=d.take i++((d.drop i).take (d.length-1-i)++d.drop (d.length-1)):=by
   have H:(d.drop i).drop (d.length-1-i)=d.drop (d.length-1):=by rw[List.drop_drop];congr 1;omega
   rw[<-H,qx,qx]
  have p:((d.drop i).take (d.length-1-i)).length=d.length-1-i:=by simp;omega
  have q:(d.drop (i+1)).length=d.length-1-i:=by simp;omega
  refine db (e:=e) (pre:=(d.take i).flatMap f) (old:=((d.drop i).take (d.length-1-i)).flatMap f) (post:=(d.drop (d.length-1)).flatMap f++rest) ?_ ?_ ?_ ?_ ?_
  ·have:(d.take i).flatMap f++((d.drop i).take (d.length-1-i)).flatMap f++((d.drop (d.length-1)).flatMap f++rest)=d.flatMap f++rest:=by
    conv=>rhs;rw[w]
    simp only[ze,qo]
   rw[this];exact p2
  ·rw[cF g,cF g,p,q]
  ·rw[cF g,List.length_take,Nat.min_eq_left (by omega)];omega
  ·intro c I;obtain⟨x,_,r⟩:=List.mem_flatMap.1 I;exact j x c r
  ·have y:i+v.len=d.length-1:=by omega
   rw[y];refine ae.pure' ⟨⟨some ⟨b,0,none⟩,d.length-1,s.cap⟩,rfl,?_⟩;rw[<-p1];refine N _ ⟨?_,.inr ⟨b,rest,p1,?_,p3,p4⟩⟩ ?_
   ·simp;omega
   ·rw[fA p2,if_pos rfl];simp[ze]
   ·exact aR.gx p2 (fun y=>y ⟨0,p1⟩)
theorem aa.Ut(p:C.Ok)(H:aa B h0 h As)(j:Nat)(m:As[j]?=some (an e s k f d))(u:bN C.toBq t e k z by_)(v:∃i e2,C.T.get t2=some i/\i.cu=.slice e2)(o:∀x,(f x).length=k)
  (a:∀x,∀c∈f x,c.oneCell'=true) (i:Nat) (r:i<d.length) {ty:Nat} {K:Sl->Heap->Prop}
  (w:∀h',aa B h0 h' (As.set j (an e s k f ((d.take i++d.drop (i+1))++d.drop (d.length-1))))->K ⟨s.ptr,d.length-1,s.cap⟩ h'):
  aw C.P (qq #[t,t2] ty #[.slice s.ptr i s.cap,.slice (if s.cap=i+1 then s.ptr else s.ptr.map (·.add ((i+1)*k))) (s.len-(i+1)) (s.cap-(i+1))]) (.one (.sc .slc)) h K:=
 (H.own j m).Ut p u v o a i r fun h' x y=>w h' (H.step j m fun q n _=>⟨y.mono fun b _ g l=>g (n.2 b l),x,fun b g=>⟨x.lt g,.inl (n.2 b g)⟩⟩)
end
section
variable {C:Ctx} {B:aA} {h h0:Heap} {As:List HP} {t e e2:Nat}
theorem aa.b2b(r:C.Ok)(H:aa B h0 h As)(i:Nat){s:Sl}{x:UInt8}{l:aU}(v:As[i]?=some (an e s 1 az (x::l)))(O:∃i,C.T.get t=some i/\i.cu=.slice e2)(F:∃i,C.T.get e2=some i/\i.cu=.int .u8)
  {K:Sl->Heap->Prop} (N:∀h',aa B h0 h' (As.set i (nL s 1 az (x::l)))->K s h'):aw C.P (convert t t (.slice s.ptr s.len s.cap)) (.one (.sc .slc)) h K:=by
 obtain⟨S,J,I⟩:=O;obtain⟨i3,a3,D⟩:=F;have w:C.P.underlying t=some (.slice e2):=by have:=r.cu J;rw[I]at this;exact hG this
 have u3:C.P.underlying e2=some (.int .u8):=by have:=r.cu a3;rw[D]at this;exact Bu this
 have A:Own h e s 1 az (x::l):=H.own i v;rcases A.head with⟨_,_,h1⟩|⟨b,rest,hp,hb,_,_⟩
 ·cases h1
 unfold aw convert;refine ae.bind (ae.always (aI w) ?_);refine ae.bind (ae.always (aI w) ?_);have u:∀Q:Sl,Q.ptr=some ⟨b,0,none⟩->(.slice s.ptr s.len s.cap:Value)=.slice (some ⟨b,0,none⟩) s.len s.cap:=fun _ _=>by rw[hp]
 rw[u s hp];dsimp only;refine ae.bind (ae.always (aI u3) ?_);rw[beq_self_eq_true];dsimp only;unfold markStringish;obtain⟨g,d⟩:∃g,g=((x::l).flatMap az++rest).toArray:=⟨_,rfl⟩
 rw[<-d]at hb;have o:shapeOf h b=some (e,g.size):=by unfold shapeOf;rw[hb]
 refine ae.bind (ae.bind (ae.Xo ?_));dsimp only;rw[o];refine ae.Na (c:=g) (e:=e) hb rfl fun h' G z m=>?_;refine ae.pure' ⟨s,(u s hp).symm,N _ (H.step i v fun q p n=>?_)⟩;have a:q b:=p.2 b ⟨0,hp⟩;obtain⟨f,m⟩:=m;refine⟨⟨by rw[z];exact ql _,fun c _ M=>G c fun e=>M (by rw[e];exact a)⟩,p.1.len,fun j y E=>⟨b,0,hp,⟨by rw[z];exact n b a,.inl a⟩,?_⟩⟩;obtain⟨pre,post,L,R⟩:=Cw (f:=az) (k:=1) (fun _=>rfl) (x::l) j y E;refine ru (e:=e) (fr:=f) (pre:=pre) (post:=post++rest) ?_ (by omega);rw[m,d,L];simp
end
end Go.Vc
