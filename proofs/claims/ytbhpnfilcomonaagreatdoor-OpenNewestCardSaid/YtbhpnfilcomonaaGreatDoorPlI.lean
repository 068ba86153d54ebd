/- Lemmas for the proof of the law; no condition. -/
import Derived.Test.YtbhpnfilcomonaaGreatDoorPlG
set_option linter.unusedVariables false
set_option linter.unusedSimpArgs false
open List renaming all_eq_true -> qU, any_eq_false -> wM, append_assoc -> qm, filter_cons -> zx, filter_eq_self -> wy, foldl_cons -> zA, getD_eq_getElem?_getD -> qf, getElem?_cons_zero -> zX, getElem?_eq_getElem -> qd, getElem?_toArray -> zp, getElem_mem -> qn, getElem_of_mem -> qN, length -> yw, length_append -> qw, map_cons -> z6, map_map -> we, mem_append -> qH, mem_cons_of_mem -> q0, mem_cons_self -> qT, mem_filter -> zh, mem_map -> qE, mem_range -> qF, mem_replicate -> vb, mem_take_iff_getElem -> yi, nodup_cons -> yl, nodup_range -> vq, pairwise_iff_getElem -> zu, range -> qD, replicate -> qh
open Bool renaming and_eq_true -> qz, false_eq_true -> zl, not_eq_true' -> wW, not_true -> wS, or_eq_true -> zV
open Nat renaming add_sub_cancel -> vd, le_refl -> qp, zero_add -> zG
open Int renaming fdiv_eq_ediv_of_nonneg -> wK, toNat_natCast -> qq
open UInt8 renaming xor_comm -> vG, xor_zero -> zZ, zero_xor -> wL
open Prod renaming fst -> qx, snd -> ze
open Go.Instr renaming checkKey -> vC, findKey -> vv, findNow -> wU, lookup -> vg, makeMap -> vu, mapUpdate -> yj, sameBits -> vD, sameNow -> yY
open Array renaming getElem?_setIfInBounds -> zC
open Go.Builtin renaming delete_ -> vP, len_ -> vz
namespace Wl
open Go Go.Vc
def ct(n:Int):Nat:=
 if n=0 then 0 else
  let m:=n.natAbs;let e:=m.log2
  (if n<0 then 2^63 else 0)+(1023+e)*2^52+(m-2^e)*2^(52-e)
structure wd where
 ax:Nat
 ay:Nat
 sx:Nat
 sy:Nat
 left:Int
 leg:Int
 second:Bool
def mq:Nat:=4607182418800017408
def Yv:wd:=⟨0,0,mq,0,1,1,false⟩
def lG(a b:Nat):Nat:=(fB.add a b).getD 0
def YE(a b:Nat):Nat:=(fB.sub a b).getD 0
def ot(a b:Nat):Nat:=(fB.mul a b).getD 0
def tx(a b:Nat):Nat:=YE (ot a 0) (ot b mq)
def ty(a b:Nat):Nat:=lG (ot a mq) (ot b 0)
def wd.on(s:wd):wd:=
 if s.left-1>0 then{s with ax:=lG s.ax s.sx,ay:=lG s.ay s.sy,left:=s.left-1}
 else{ax:=lG s.ax s.sx,ay:=lG s.ay s.sy,sx:=tx s.sx s.sy,sy:=ty s.sx s.sy,leg:=if s.second then s.leg+1 else s.leg,left:=if s.second then s.leg+1 else s.leg,second:=!s.second}
def iM:Nat->wd
 |0=>Yv
 |n+1=>(iM n).on
def wd.ok(s:wd):Bool:=
 (fB.add s.ax s.sx).isSome&&(fB.add s.ay s.sy).isSome&&(fB.mul s.sx 0).isSome&&(fB.mul s.sy mq).isSome&&(fB.sub (ot s.sx 0) (ot s.sy mq)).isSome&&(fB.mul s.sx mq).isSome&&(fB.mul s.sy 0).isSome&&(fB.add (ot s.sx mq) (ot s.sy 0)).isSome&&decide (1<=s.left)&&decide (s.left<=100)&&decide (1<=s.leg)&&decide (s.leg<=100)
structure Kt where
 x:Int
 y:Int
 dx:Int
 dy:Int
 left:Int
 leg:Int
 turns:Int
def YF:Kt:=⟨0,0,1,0,1,1,0⟩
def Kt.on(s:Kt):Kt:=
 if s.left-1=0 then
  {x:=s.x+s.dx,y:=s.y+s.dy,dx:=-s.dy,dy:=s.dx,leg:=if(s.turns+1)%2=0 then s.leg+1 else s.leg,left:=if(s.turns+1)%2=0 then s.leg+1 else s.leg,turns:=s.turns+1}
 else{s with x:=s.x+s.dx,y:=s.y+s.dy,left:=s.left-1}
def eJ:Nat->Kt
 |0=>YF
 |n+1=>(eJ n).on
def Kt.ok(s:Kt):Bool:=decide (-10<=s.x)&&decide (s.x<=10)&&decide (-10<=s.y)&&decide (s.y<=10)&&decide (-1<=s.dx)&&decide (s.dx<=1)&&decide (-1<=s.dy)&&decide (s.dy<=1)&&decide (1<=s.left)&&decide (s.left<=100)&&decide (1<=s.leg)&&decide (s.leg<=100)&&decide (0<=s.turns)&&decide (s.turns<=100)
theorem Yk:∀n,n<64->(iM n).ok=true:=by decide+kernel
theorem Xe:∀n,n<64->((iM n).ax==ct (eJ n).x&&(iM n).ay==ct (eJ n).y&&decide (-4<=(eJ n).x)&&decide ((eJ n).x<=4)&&decide (-4<=(eJ n).y)&&decide ((eJ n).y<=4))=true:=by decide+kernel
theorem Xf:∀i,i<9->∀j,j<9->fB.sub (ct ((i:Nat)-4:Int)) (ct ((j:Nat)-4:Int))=some (ct ((i:Int)-(j:Int))):=by decide+kernel
theorem Xg:∀i,i<17->fB.mul (ct ((i:Nat)-8:Int)) (ct ((i:Nat)-8:Int))=some (ct (((i:Nat)-8:Int)*((i:Nat)-8:Int))):=by decide+kernel
theorem Xh:∀i,i<9->∀j,j<9->fB.add (ct (((i:Nat):Int)*(i:Nat))) (ct (((j:Nat):Int)*(j:Nat)))=some (ct (((i:Nat):Int)*(i:Nat)+((j:Nat):Int)*(j:Nat))):=by decide+kernel
theorem Rh:∀m,m<129->∀n,n<129->fB.order (ct (m:Nat)) (ct (n:Nat))=some (compare m n):=by decide+kernel
theorem OY{seq a c:Int}{b:aL}(d:b.length<=48):dJ (iq seq a c b)=none:=by
 unfold dJ iq;rw[rA (by decide) (by decide) (by simp[bM];omega)];dsimp only;rw[if_neg (by rintro⟨h,_⟩;exact absurd h (by decide))]
theorem Mx{m:ar}{c:aL}(h:c∈aP m):dJ c=none:=by
 unfold aP at h;obtain⟨i,_,rfl⟩:=qE.1 h;exact OY (by simp;omega)
theorem HE{α:Type}{R:α->α->Prop}(m:∀a b c,R a b->R b c->R a c){l:List α}(h:∀i (k:i+1<l.length),R (l[i]'(by omega)) l[i+1]):l.Pairwise R:=by
 have g:∀d i (f:i+(d+1)<l.length),R (l[i]'(by omega)) l[i+(d+1)]:=by
  intro d
  induction d with
  |zero=>exact fun i f=>h i f
  |succ d ih=>exact fun i f=>m _ _ _ (ih i (by omega)) (h (i+(d+1)) (by omega))
 refine zu.2 fun i j k f n=>?_;have:=g (j-i-1) i (by omega);have e:i+(j-i-1+1)=j:=by omega
 simp only[e]at this;exact this
theorem HG{α:Type}{R:α->α->Prop}{l:List α}(h:l.Pairwise R)(i:Nat)(a:i+1<l.length):R (l[i]'(by omega)) l[i+1]:=zu.1 h i (i+1) (by omega) a (by omega)
theorem pG{α:Type}{l:List α}{i:Nat}(d:α)(h:i<l.length:=by omega):l.getD i d=l[i]:=by rw[qf,qd h];rfl
theorem jO(n a b:Int):dC n a b=true↔a<=n/\n<=b:=by unfold dC;rw[qz,decide_eq_true_eq,decide_eq_true_eq]
theorem Ri(l:aD)(e:Int):md l e=true↔l.Pairwise (·<·)/\∀x∈l,0<=x/\x<=e:=by
 unfold md;rw[qU];constructor
 ·intro h;have j:∀i (d:i<l.length),(0<=l[i]/\l[i]<=e)/\(i=0∨l.getD (i-1) 0<l[i]):=fun i d=>by
   have:=h i (qF.2 d);unfold gZ at this;rw[pG 0 d,qz,jO,zV,decide_eq_true_eq,decide_eq_true_eq]at this;exact this
  refine⟨HE (R:=fun a b:Int=>a<b) (fun a b c g f=>Int.lt_trans g f) fun i d=>?_,fun x k=>?_⟩
  ·rcases(j (i+1) d).2 with h0|h0
   ·omega
   ·rw[vd,pG 0]at h0;exact h0
  ·obtain⟨i,d,rfl⟩:=qN k;exact(j i d).1
 ·rintro⟨g,f⟩ i d;have d:=qF.1 d;unfold gZ;rw[pG 0 d,qz,jO,zV,decide_eq_true_eq,decide_eq_true_eq];refine⟨f _ (qn d),?_⟩;cases i with
  |zero=>exact .inl rfl
  |succ i=>exact .inr (by rw[vd,pG 0];exact HG g i d)
theorem Ku(a b c:ByteArray)(e:dz a b=true)(d:dz b c=true):dz a c=true:=BO _ _ _ e d
theorem dQ(m:ar):bB m=true↔iQ m=true/\m.drives.Pairwise (·<·)/\(∀k∈m.drives,0<=k/\k<=63)/\m.aH.length<=12/\(∀e∈m.aH,fe m e=true)/\m.aH.Pairwise (fun a b=>dz a.name b.name=true)/\m.aH.Pairwise (fun a b=>a.object≠b.object):=by
 unfold bB;rw[qz,qz,qz,Ri,decide_eq_true_eq,qU];have r:(∀i∈qD m.aH.length,me m i=true)↔(∀e∈m.aH,fe m e=true)/\m.aH.Pairwise (fun a b=>dz a.name b.name=true)/\m.aH.Pairwise (fun a b=>a.object≠b.object):=by
  constructor
  ·intro h;have p:∀i (l:i<m.aH.length),fe m m.aH[i]=true/\(i=0∨dz (mb m.aH (i-1)).name m.aH[i].name=true)/\∀y∈m.aH.take i,y.object≠m.aH[i].object:=fun i l=>by
    have:=h i (qF.2 l);unfold me at this;rw[lE l,qz,qz,zV,decide_eq_true_eq,wW,wM]at this;exact⟨this.1,this.2.1,fun y o=>by have:=this.2.2 y o;simpa using this⟩
   refine⟨fun e t=>?_,HE (R:=fun a b:cE=>dz a.name b.name=true) (fun a b c q n=>Ku _ _ _ q n) fun i l=>?_,zu.2 fun i j l s u=>?_⟩
   ·obtain⟨i,l,rfl⟩:=qN t;exact(p i l).1
   ·rcases(p (i+1) l).2.1 with h0|h0
    ·omega
    ·rw[vd,lE]at h0;exact h0
   ·refine(p j s).2.2 m.aH[i] ?_;exact yi.2 ⟨i,by omega,rfl⟩
  ·rintro⟨q,n,h3⟩ i l;have l:=qF.1 l;unfold me;rw[lE l,qz,qz,zV,decide_eq_true_eq,wW,wM];refine⟨q _ (qn l),?_,fun y o=>?_⟩
   ·cases i with
    |zero=>exact .inl rfl
    |succ i=>exact .inr (by rw[vd,lE];exact HG n i l)
   ·obtain⟨j,s,rfl⟩:=yi.1 o;have:=zu.1 h3 j i (by omega) l (by omega);simpa using this
 rw[r];constructor
 ·rintro⟨a,⟨b,c⟩,d,e,f,g⟩;exact⟨a,b,c,d,e,f,g⟩
 ·rintro⟨a,b,c,d,e,f,g⟩;exact⟨a,⟨b,c⟩,d,e,f,g⟩
theorem gQ(m:ar):iQ m=true↔(1<=m.seq/\m.seq<=2147483647)/\(0<=m.next/\m.next<=16777216)/\bV m.p=true/\0<=m.extra/\m.extra<=16:=by
 unfold iQ;rw[qz,qz,qz,jO,jO,jO]
theorem kg(m:ar)(x:cE):fe m x=true↔gC x.name=true/\(0<=x.object/\x.object<m.next)/\(0<=x.length/\x.length<=m.p.1*m.p.2.2*8)/\(∀t∈x.tries,0<=t/\t<=15)/\(x.tries.length:Int)=countP m.p x.length:=by
 unfold fe;rw[qz,qz,qz,qz,jO,jO,qU,decide_eq_true_eq];simp only[jO];constructor
 ·rintro⟨a,b,c,d,e⟩;exact⟨a,⟨b.1,by omega⟩,c,d,e⟩
 ·rintro⟨a,b,c,d,e⟩;exact⟨a,⟨b.1,by omega⟩,c,d,e⟩
theorem EE{m:ar}(h:bB m=true):m.drives.Nodup:=((dQ m).1 h).2.1.imp fun h e=>by omega
theorem jP{m:ar}(h:bB m=true):∀k∈m.drives,0<=k/\k<64:=fun k a=>by have:=((dQ m).1 h).2.2.1 k a;omega
theorem Kv:∀{l:aD} {a b:Int},l.Pairwise (·<·)->(∀k∈l,a<=k/\k<b)->a<=b->(l.length:Int)<=b-a
 |[],a,b,_,_,h=>by simp;omega
 |x::l,a,b,hp,hl,h=>by
  obtain⟨e,d⟩:=List.pairwise_cons.1 hp;have f:=hl x qT;have:=Kv (a:=x+1) (b:=b) d (fun k c=>⟨by have:=e k c;omega,(hl k (q0 _ c)).2⟩) (by omega);rw[List.length_cons];omega
theorem nR{m:ar}(h:bB m=true):m.drives.length<=64:=by
 have:=Kv ((dQ m).1 h).2.1 (jP h) (by decide);omega
def fa(r:aL×Bool)(n:Int):aL×(aL×Bool):=if n<=r.1.length then(r.1.take n.toNat,(r.1.drop n.toNat,r.2))else([],(r.1,true))
def fZ(l:aL):Int:=l.foldl (fun n x=>n*256+(x.toNat:Int)) 0
def bA(r:aL×Bool)(k:Int):Int×(aL×Bool):=(fZ (fa r k).1,(fa r k).2)
def dX:Nat->aL×Bool->aD×(aL×Bool)
 |0,r=>([],r)
 |n+1,r=>if r.2 then([],r)else((bA r 1).1::(dX n (bA r 1).2).1,(dX n (bA r 1).2).2)
def ga(p:Int×Int×Int)(r:aL×Bool):cE×(aL×Bool):=
 let a:=bA r 1;let b:=fa a.2 a.1;let c:=bA b.2 3;let d:=bA c.2 2;let e:=dX (countP p d.1).toNat d.2
 (⟨⟨b.1.toArray⟩,c.1,d.1,e.1⟩,e.2)
def gg(p:Int×Int×Int):Nat->aL×Bool->List cE×(aL×Bool)
 |0,r=>([],r)
 |n+1,r=>if r.2 then([],r)else((ga p r).1::(gg p n (ga p r).2).1,(gg p n (ga p r).2).2)
def uw(b:aL):ar×(aL×Bool):=
 let a:=bA (b,false) 4;let c:=bA a.2 4;let k:=bA c.2 1;let h:=bA k.2 1;let z:=bA h.2 1;let x:=bA z.2 1;let n:=bA x.2 1;let d:=dX n.1.toNat n.2;let o:=bA d.2 1;let e:=gg (k.1,h.1,z.1) o.1.toNat o.2
 (⟨a.1,c.1,(k.1,h.1,z.1),x.1,d.1,e.1⟩,e.2)
theorem rE(l:aL)(x:UInt8):fZ (l++[x])=fZ l*256+(x.toNat:Int):=by simp[fZ]
theorem OZ(n:Int)(k:Nat):bg n (k+1)=bg (n/256) k++[b8 n]:=by
 unfold bg;rw[List.range_succ,List.map_append];congr 1
 ·refine List.map_congr_left fun i a=>?_;have a:=qF.1 a;have e:8*(k+1-1-i)=8+8*(k-1-i):=by omega
  have b:(0:Int)<2^(8*(k-1-i)):=Int.pow_pos (by decide);rw[e,Int.pow_add,wK _ (by omega),wK _ (Int.le_of_lt b),<-Int.ediv_ediv_of_nonneg (by decide)];rfl
 ·simp
theorem HI:∀(k:Nat) (n:Int),0<=n->n<256^k->fZ (bg n k)=n
 |0,n,h0,h1=>by simp at h1;simp[bg,fZ];omega
 |k+1,n,h0,h1=>by
  rw[OZ,rE,HI k (n/256) (by omega) (by rw[Int.pow_succ]at h1;omega),mf];omega
theorem Kw(l s:aL)(f:Bool):fa (l++s,f) l.length=(l,(s,f)):=by
 unfold fa;rw[if_pos (by simp only[qw];omega)];simp
theorem nS(k:Nat)(n:Int)(s:aL)(f:Bool)(b:0<=n)(a:n<256^k:=by omega):bA (bg n k++s,f) k=(n,(s,f)):=by
 unfold bA;have:=Kw (bg n k) s f;rw[bM]at this;rw[this,HI k n b a]
theorem kh(n:Int)(s:aL)(f:Bool)(a:0<=n:=by omega)(b:n<256:=by omega):bA (b8 n::s,f) 1=(n,(s,f)):=by
 have e:bg n 1=[b8 n]:=by simp[bg]
 have:=nS 1 n s f a;rw[e]at this;exact this
theorem Dt(s:aL):∀(l:aD),(∀x∈l,0<=x/\x<256)->dX l.length (l.map b8++s,false)=(l,(s,false))
 |[],_=>rfl
 |x::l,h=>by
  have a:=h x qT;have c:=Dt s l fun y b=>h y (q0 _ b);show dX (l.length+1) (b8 x::(l.map b8++s),false)=_;unfold dX;rw[kh x _ _ a.1 a.2,c];rfl
theorem TH{m:ar}{x:cE}(g:fe m x=true)(r:m.next<=16777216)(n:m.p.1*m.p.2.2*8<65536)(s:aL):ga m.p (dW x++s,false)=(x,(s,false)):=by
 obtain⟨a,h,h3,f,q⟩:=(kg m x).1 g;have o:1<=x.name.size/\x.name.size<=12:=by
  unfold gC at a;rw[qz,qz,decide_eq_true_eq,decide_eq_true_eq]at a;exact a.2
 have k:dW x++s=b8 x.name.size::(x.name.data.toList++(bg x.object 3++(bg x.length 2++(x.tries.map b8++s)))):=by
  simp[dW,qm]
 have j:x.name.data.toList.length=x.name.size:=by rw[Array.length_toList];rfl
 have b:=Kw x.name.data.toList (bg x.object 3++(bg x.length 2++(x.tries.map b8++s))) false;rw[j]at b;have e:=nS 3 x.object (bg x.length 2++(x.tries.map b8++s)) false h.1;have c:=nS 2 x.length (x.tries.map b8++s) false h3.1;have i:=Dt s x.tries fun y d=>⟨(f y d).1,by have:=(f y d).2;omega⟩
 have l:(countP m.p x.length).toNat=x.tries.length:=by omega
 unfold ga;rw[k,kh _ _ _];simp only[b];rw[show((3:Nat):Int)=3 from rfl]at e;rw[show((2:Nat):Int)=2 from rfl]at c;simp only[e,c,l,i]
theorem Kx{m:ar}(b:m.next<=16777216)(a:m.p.1*m.p.2.2*8<65536)(s:aL):∀(l:List cE),(∀e∈l,fe m e=true)->gg m.p l.length (l.flatMap dW++s,false)=(l,(s,false))
 |[],_=>rfl
 |x::l,h=>by
  have d:=Kx b a s l fun y c=>h y (q0 _ c);rw[List.flatMap_cons,qm];show gg m.p (l.length+1) _=_;unfold gg;rw[TH (h x qT) b a,d];simp
theorem ux{m:ar}(a:bB m=true):uw (bo m)=(m,([],false)):=by
 obtain⟨f,t,d,r,k,_⟩:=(dQ m).1 a;obtain⟨⟨s,q⟩,⟨n1,n2⟩,h,x,x2⟩:=(gQ m).1 f;obtain⟨⟨n,j⟩,⟨u,w⟩,v,g⟩:=(cb m.p).1 h;have o:m.drives.length<=64:=nR a;have l:m.p.1*m.p.2.2*8<65536:=by
  have:m.p.1*m.p.2.2<=16*24:=Int.mul_le_mul j g (by omega) (by omega);omega
 have i:bo m=bg m.seq 4++(bg m.next 4++(b8 m.p.1::b8 m.p.2.1::b8 m.p.2.2::b8 m.extra::b8 m.drives.length::(m.drives.map b8++(b8 m.aH.length::(m.aH.flatMap dW++[]))))):=by
  unfold bo;rw[if_pos a];simp
 have e:=nS 4 m.seq (bg m.next 4++(b8 m.p.1::b8 m.p.2.1::b8 m.p.2.2::b8 m.extra::b8 m.drives.length::(m.drives.map b8++(b8 m.aH.length::(m.aH.flatMap dW++[]))))) false (by omega);have c:=nS 4 m.next (b8 m.p.1::b8 m.p.2.1::b8 m.p.2.2::b8 m.extra::b8 m.drives.length::(m.drives.map b8++(b8 m.aH.length::(m.aH.flatMap dW++[])))) false n1;rw[show((4:Nat):Int)=4 from rfl]at e c;have a3:=Dt (b8 m.aH.length::(m.aH.flatMap dW++[])) m.drives fun y b=>⟨(d y b).1,by have:=(d y b).2;omega⟩
 have a4:=Kx (m:=m) n2 l [] m.aH k;unfold uw;rw[i];simp only[e,c];rw[kh _ _ _];simp only[];rw[kh _ _ _];simp only[];rw[kh _ _ _];simp only[];rw[kh _ _ _];simp only[];rw[kh _ _ _];simp only[qq,a3];rw[kh _ _ _];simp only[qq];rw[show((m.p.1,m.p.2.1,m.p.2.2):Int×Int×Int)=m.p from rfl,a4]
def iz(b:aL):Option ar:=if(uw b).2.2||(decide (b.length=0)||!decide (b=bo (uw b).1))then none else some (uw b).1
theorem Rj{m:ar}(h:bo m≠[]):bB m=true:=by
 refine Decidable.byContradiction fun a=>h ?_;unfold bo;rw[if_neg a]
theorem Ky{m:ar}(h:bB m=true):bo m≠[]:=by
 unfold bo;rw[if_pos h];intro e;have:=congrArg yw e;simp[bM]at this
theorem uy{b:aL}{m:ar}:iz b=some m↔bB m=true/\b=bo m:=by
 unfold iz;constructor
 ·intro h;split at h
  ·cases h
  ·rename_i a;cases h;simp only[zV,decide_eq_true_eq,wW,decide_eq_false_iff_not,not_or,Classical.not_not]at a;refine⟨Rj ?_,a.2.2⟩;rw[<-a.2.2];intro e;exact a.2.1 (by rw[e];rfl)
 ·rintro⟨c,rfl⟩;rw[ux c];simp[Ky c]
abbrev jI:=aD×Row
def cB(x:Int->UInt8):aD->UInt8
 |[]=>0
 |c::l=>x c^^^cB x l
theorem oK{x y:Int->UInt8}:∀{l:aD},(∀c∈l,x c=y c)->cB x l=cB y l
 |[],_=>rfl
 |c::l,h=>by rw[cB,cB,h c (by simp),oK fun d a=>h d (by simp[a])]
theorem Ct(x:Int->UInt8)(p:Int->Bool):∀l,cB x l=cB x (l.filter p)^^^cB x (l.filter fun c=>!p c)
 |[]=>by simp[cB]
 |c::l=>by
  rw[cB,Ct x p l];cases h:p c<;>simp only[zx,h,wS,Bool.not_false,if_true,zl,if_false,cB]<;>ac_rfl
theorem HJ(x:Int->UInt8){c:Int}:∀{l:aD},l.Nodup->c∈l->cB x l=x c^^^cB x (l.filter fun d=>!decide (d=c))
 |[],_,h=>by cases h
 |d::l,hd,h=>by
  rw[yl]at hd;rcases List.mem_cons.1 h with rfl|h
  ·have:l.filter (fun d=>!decide (d=c))=l:=wy.2 fun e f=>by
    have:e≠c:=fun a=>hd.1 (a▸f);simp[this]
   rw[zx];simp only[decide_true,wS,zl,if_false];rw[this,cB]
  ·have b:d≠c:=fun a=>hd.1 (a▸h);rw[zx,if_pos (by simp[b]),cB,cB,HJ x hd.2 h];ac_rfl
theorem Kz(x y:Int->UInt8):∀l,cB (fun c=>x c^^^y c) l=cB x l^^^cB y l
 |[]=>by simp[cB]
 |c::l=>by rw[cB,cB,cB,Kz x y l];ac_rfl
theorem Am:∀{x:Int->UInt8} {l:aD},(∀c∈l,x c=0)->cB x l=0
 |_,[],_=>rfl
 |x,c::l,h=>by rw[cB,h c (by simp),Am fun d a=>h d (by simp[a])];rfl
def iI(V:aX)(a:Row)(l:aD):Row:=l.foldl (fun a c=>cX 1 (aC V c.toNat) a) a
theorem uz{V:aX}{m:Nat}:∀{l:aD} {a:Row},a.length=m->(∀c∈l,(aC V c.toNat).length=m)->(iI V a l).length=m
 |[],a,h,_=>h
 |c::l,a,h,hv=>by
  rw[iI,zA];exact uz (l:=l) (by rw[bO (by rw[hv c (by simp),h])];exact h) fun d b=>hv d (by simp[b])
theorem Du{V:aX}{m:Nat}(j:Nat):∀{l:aD} {a:Row},a.length=m->(∀c∈l,(aC V c.toNat).length=m)->aJ (iI V a l) j=aJ a j^^^cB (fun c=>aJ (aC V c.toNat) j) l
 |[],a,_,_=>by simp[iI,cB]
 |c::l,a,h,hv=>by
  have b:(aC V c.toNat).length=a.length:=by rw[hv c (by simp),h]
  rw[iI,zA];have:=Du (V:=V) j (l:=l) (a:=cX 1 (aC V c.toNat) a) (by rw[bO b];exact h) fun d e=>hv d (by simp[e]);rw[iI]at this;rw[this,cm b,Gf.one_mul,cB];ac_rfl
def Sat(t:UInt8)(k:Nat)(x:Int->UInt8)(e:jI):Prop:=cB x e.1=Gf.mul t (aJ e.2 k)
structure An (n w:Nat) (e:jI):Prop where
 fp:∀c∈e.1,0<=c/\c<(n:Int)
 nodup:e.1.Nodup
 len:e.2.length=w
def kn(known:List Bool)(c:Int):Bool:=known.getD c.toNat false
def nE(known:List Bool)(aV:aX)(e:jI):jI:=(e.1.filter fun c=>!kn known c,iI aV e.2 (e.1.filter fun c=>kn known c))
structure uA (n w:Nat) (l:List jI) (known:List Bool) (aV:aX):Prop where
 klen:known.length=n
 vlen:aV.length=n
 row:∀c:Nat,c<n->(aC aV c).length=if known.getD c false then w else 0
 sound:∀t k x,k<w->(∀e∈l,Sat t k x e)->∀c:Int,0<=c->c<(n:Int)->kn known c=true->x c=Gf.mul t (aJ (aC aV c.toNat) k)
section
variable {n w:Nat} {l:List jI} {known:List Bool} {aV:aX}
theorem uA.Rk(h:uA n w l known aV){c:Int}(d:0<=c)(b:c<(n:Int))(a:kn known c=true):(aC aV c.toNat).length=w:=by
 have:=h.row c.toNat (by omega);rw[kn]at a;rw[a]at this;simpa using this
theorem uA.Rl(h:uA n w l known aV){e:jI}(b:An n w e):An n w (nE known aV e):=
 ⟨fun c d=>b.fp c (zh.1 d).1,b.nodup.filter _,uz b.len fun c d=>by
  have a:=zh.1 d;exact h.Rk (b.fp c a.1).1 (b.fp c a.1).2 a.2⟩
theorem uA.NS(h:uA n w l known aV){e:jI}(g:An n w e){t:UInt8}{k:Nat}{x:Int->UInt8}(o:∀c:Int,0<=c->c<(n:Int)->kn known c=true->x c=Gf.mul t (aJ (aC aV c.toNat) k)):
  Sat t k x (nE known aV e)↔Sat t k x e:=by
 have d:∀c∈e.1.filter (fun c=>kn known c),(aC aV c.toNat).length=w:=fun c f=>by
  have b:=zh.1 f;exact h.Rk (g.fp c b.1).1 (g.fp c b.1).2 b.2
 have j:cB x (e.1.filter fun c=>kn known c)=Gf.mul t (cB (fun c=>aJ (aC aV c.toNat) k) (e.1.filter fun c=>kn known c)):=by
  rw[oK (y:=fun c=>Gf.mul t (aJ (aC aV c.toNat) k)) fun c f=>o c (g.fp c (zh.1 f).1).1 (g.fp c (zh.1 f).1).2 (zh.1 f).2];generalize e.1.filter (fun c=>kn known c)=m
  induction m with
  |nil=>simp[cB,Gf.mul_zero]
  |cons a m ih=>rw[cB,cB,Gf.ip,ih]
 unfold Sat nE;dsimp only;rw[Du k g.len d,Gf.ip,<-j,Ct x (fun c=>kn known c) e.1];constructor
 ·intro i;rw[i];rw[vG,BP]
 ·intro i;rw[<-i];rw[vG (cB x (e.1.filter fun c=>kn known c)),BP]
def bW(known:List Bool)(aV:aX)(l:List jI):List jI:=(l.map (nE known aV)).filter fun e=>!e.1.isEmpty
def Rm(known:List Bool)(aV:aX)(l:List jI):Bool:=(l.map (nE known aV)).any fun e=>e.1.isEmpty&&e.2.any (· !=0)
theorem KA(h:uA n w l known aV)(f:∀e∈l,An n w e)(g:Rm known aV l=false){t:UInt8}{k:Nat}{x:Int->UInt8}(o:k<w):
  (∀e∈l,Sat t k x e)↔(∀c:Int,0<=c->c<(n:Int)->kn known c=true->x c=Gf.mul t (aJ (aC aV c.toNat) k))/\∀e∈bW known aV l,Sat t k x e:=by
 constructor
 ·intro i;refine⟨h.sound t k x o i,fun e b=>?_⟩;obtain⟨j,d,rfl⟩:=qE.1 (zh.1 b).1;exact(h.NS (f j d) (h.sound t k x o i)).2 (i j d)
 ·rintro⟨p,r⟩ e b;refine(h.NS (f e b) p).1 ?_;by_cases a:(nE known aV e).1=[]
  ·unfold Sat;rw[a,cB];have m:((nE known aV e).1.isEmpty&&(nE known aV e).2.any (· !=0))=false:=by
    have:=wM.1 g _ (List.mem_map_of_mem b);simpa using this
   rw[a]at m;have q:∀y∈(nE known aV e).2,y=0:=by simpa using m
   have h3:=(h.Rl (f e b)).len;have:aJ (nE known aV e).2 k=0:=by
    rw[aJ,qf,qd (by omega)];exact q _ (qn _)
   rw[this,Gf.mul_zero]
  ·refine r _ (zh.2 ⟨List.mem_map_of_mem b,?_⟩);simpa using a
end
def Yw(a:List Bool)(c:Int):Bool:=a.getD c.toNat false
structure Pl where
 steps:List (Int×Int)
 dead:aD
 used:List Bool
def other(m i:Nat):Nat:=if i<m then i else i+1
def HK(rows:Oq):(Int->Prop)->(Int->Prop)->List (Int×Int)->Prop
 |_,_,[]=>True
 |D,U,(i,c)::t=>(0<=i/\i<rows.length)/\¬U i/\¬D c/\c∈rows.getD i.toNat []/\(∀a∈rows.getD i.toNat [],a≠c->D a)/\HK rows (fun x=>D x∨x=c) (fun x=>U x∨x=i) t
def YG(a:List Bool)(c:Int):Prop:=0<=c/\Yw a c=true
structure YO (rows:Oq) (op us:List Bool) (r:Pl):Prop where
 fp:r.steps.length+r.dead.length=op.count true
 used:r.used.count true=us.count true+r.steps.length
 keepU:∀i,us.getD i false=true->r.used.getD i false=true
 dead:∀c∈r.dead,YG op c
 deadN:r.dead.Nodup
 good:∀D U:Int->Prop,(∀c:Int,0<=c->c<op.length->(D c↔Yw op c=false∨c∈r.dead))->(∀i:Nat,i<rows.length->(U i↔us.getD i false=true∨r.used.getD i false=false))->HK rows D U r.steps
def ev(t:UInt8)(k a:Nat)(W M:aX)(y:Nat->UInt8)(c:Int):UInt8:=bC (fun i=>aJ (aC W c.toNat) i) y a^^^Gf.mul t (aJ (aC M c.toNat) k)
theorem Dv{a b:Row}(h:a.length=b.length)(c:UInt8)(y:Nat->UInt8)(n:Nat):bC (fun j=>aJ (cX c a b) j) y n=bC (fun j=>aJ b j) y n^^^Gf.mul c (bC (fun j=>aJ a j) y n):=by
 rw[gE n (fun j _=>cm h j) fun _ _=>rfl];exact BQ _ _ _ _ _
theorem KB{V:aX}{m:Nat}(y:Nat->UInt8)(n:Nat):∀{l:aD} {a:Row},a.length=m->(∀c∈l,(aC V c.toNat).length=m)->bC (fun j=>aJ (iI V a l) j) y n=bC (fun j=>aJ a j) y n^^^cB (fun c=>bC (fun j=>aJ (aC V c.toNat) j) y n) l
 |[],a,_,_=>by simp[iI,cB]
 |c::l,a,h,hv=>by
  have b:(aC V c.toNat).length=a.length:=by rw[hv c (by simp),h]
  have:=KB (V:=V) y n (l:=l) (a:=cX 1 (aC V c.toNat) a) (by rw[bO b];exact h) fun d e=>hv d (by simp[e]);rw[iI,zA];rw[iI]at this;rw[this,Dv b,Gf.one_mul,cB];ac_rfl
theorem KC(t:UInt8)(x:Int->UInt8):∀l,cB (fun c=>Gf.mul t (x c)) l=Gf.mul t (cB x l)
 |[]=>by simp[cB,Gf.mul_zero]
 |c::l=>by rw[cB,cB,Gf.ip,KC t x l]
theorem Wc{W M:aX}{b w:Nat}{l:aD}{a m:Row}(f:a.length=b)(g:m.length=w)(d:∀c∈l,(aC W c.toNat).length=b)(e:∀c∈l,(aC M c.toNat).length=w)(t:UInt8)(k:Nat)(y:Nat->UInt8):
  bC (fun j=>aJ (iI W a l) j) y b^^^Gf.mul t (aJ (iI M m l) k)=(bC (fun j=>aJ a j) y b^^^Gf.mul t (aJ m k))^^^cB (ev t k b W M y) l:=by
 rw[KB y b f d,Du k g e,Gf.ip];have:cB (ev t k b W M y) l=cB (fun c=>bC (fun j=>aJ (aC W c.toNat) j) y b) l^^^Gf.mul t (cB (fun c=>aJ (aC M c.toNat) k) l):=by
  rw[<-KC,<-Kz];rfl
 rw[this];ac_rfl
structure YR (n nd w:Nat) (D:Int->Prop) (W M:aX):Prop where
 wl:W.length=n
 ml:M.length=n
 rw_:∀c:Int,D c->0<=c->c<(n:Int)->(aC W c.toNat).length=nd/\(aC M c.toNat).length=w
open Classical
def Yl(r:Row):Nat:=r.findIdx (fun x=>x !=0)
section
variable {n:Nat} {m M A:aX}
structure YQ (n:Nat) (M A:aX):Prop where
 even:aZ n M
 evenA:aZ n A
 span:∀v,Span n M v↔Span n A v
 len:M.length=cU A
 lead:∀x∈M,Yl x<n
theorem TJ(a:aZ n m):Way n m n (cU m) (bz m (fx m)).2:=by
 have h:=BR a n (qp _);cases m with
 |nil=>rw[js]at h;rw[cU,js];exact h
 |cons x t=>
  have b:fx (x::t)=n:=by rw[fx,bI (by simp)];exact a _ (by simp)
  rw[cU,b];exact h
end
theorem HL:∀{l m:List Nat},l.Nodup->(∀x∈l,x∈m)->l.length<=m.length
 |[],_,_,_=>by simp
 |x::l,m,hd,h=>by
  rw[yl]at hd;have b:=h x (by simp);have d:=HL (l:=l) (m:=m.erase x) hd.2 fun y a=>(List.mem_erase_of_ne (fun c:y=x=>hd.1 (by rw[<-c];exact a))).2 (h y (by simp[a]));rw[List.length_erase_of_mem b]at d;have:=List.length_pos_of_mem b;simp;omega
def ki(V:aX)(r:Row)(a:Row):Nat->Row
 |0=>a
 |c+1=>cX (aJ r c) (aC V c) (ki V r a c)
theorem pH{V:aX}{m:Nat}(r:Row){a:Row}(b:a.length=m):∀{c:Nat},(∀i,i<c->(aC V i).length=m)->(ki V r a c).length=m
 |0,_=>b
 |c+1,h=>by
  have:=pH r b (c:=c) fun i d=>h i (by omega);rw[ki,bO (by rw[h c (by omega),this])];exact this
theorem KD{V:aX}{m:Nat}(r:Row){a:Row}(b:a.length=m)(j:Nat):∀{c:Nat},(∀i,i<c->(aC V i).length=m)->aJ (ki V r a c) j=aJ a j^^^bC (fun i=>aJ r i) (fun i=>aJ (aC V i) j) c
 |0,_=>by simp[ki,bC]
 |c+1,h=>by
  have e:=pH r b (c:=c) fun i d=>h i (by omega);rw[ki,cm (by rw[h c (by omega),e]),KD r b j (c:=c) fun i d=>h i (by omega),bC];ac_rfl
theorem KE{V:aX}{m:Nat}(r:Row){a:Row}(b:a.length=m)(y:Nat->UInt8)(n:Nat):∀{c:Nat},(∀i,i<c->(aC V i).length=m)->bC (fun j=>aJ (ki V r a c) j) y n=bC (fun j=>aJ a j) y n^^^bC (fun i=>aJ r i) (fun i=>bC (fun j=>aJ (aC V i) j) y n) c
 |0,_=>by simp[ki,bC]
 |c+1,h=>by
  have e:=pH r b (c:=c) fun i d=>h i (by omega);rw[ki,Dv (by rw[h c (by omega),e]),KE r b y n (c:=c) fun i d=>h i (by omega),bC];ac_rfl
theorem KF(f g a:Nat->UInt8):∀k,bC f (fun i=>g i^^^a i) k=bC f g k^^^bC f a k
 |0=>by simp[bC]
 |k+1=>by rw[bC,bC,bC,KF f g a k,Gf.ip];ac_rfl
theorem KG(t:UInt8)(f g:Nat->UInt8):∀k,bC f (fun i=>Gf.mul t (g i)) k=Gf.mul t (bC f g k)
 |0=>by simp[bC,Gf.mul_zero]
 |k+1=>by
  rw[bC,bC,KG t f g k,Gf.ip];congr 1;rw[<-Gf.mul_assoc,<-Gf.mul_assoc,Gf.mul_comm (f k) t]
theorem KH{n:Nat}(g:Nat->UInt8):∀{l:aD},(∀x∈l,0<=x/\x<(n:Int))->l.Nodup->bC (fun j=>aJ (fl n l) j) g n=cB (fun c=>g c.toNat) l
 |[],_,_=>by
  rw[cB];refine fz _ _ n fun j _=>?_;rw[uv [] (fun x a=>by cases a) j];simp
 |c::l,h,hd=>by
  rw[yl]at hd;have m:=h c (by simp);have k:=KH g (l:=l) (fun x a=>h x (by simp[a])) hd.2;have d:bC (fun j=>aJ (fl n (c::l)) j) g n=bC (fun j=>if(j:Int)∈c::l then 1 else 0) g n:=gE n (fun j _=>uv _ h j) fun _ _=>rfl;have e:bC (fun j=>aJ (fl n l) j) g n=bC (fun j=>if(j:Int)∈l then 1 else 0) g n:=gE n (fun j _=>uv _ (fun x a=>h x (by simp[a])) j) fun _ _=>rfl;rw[d,cB,<-k,e];rw[Dr (f:=fun j=>if(j:Int)∈l then 1 else 0) (f':=fun j=>if(j:Int)∈c::l then 1 else 0) (c:=c.toNat) (by rw[if_neg];rw[show((c.toNat:Nat):Int)=c by omega];exact hd.1) (fun i=>by
   by_cases b:i=c.toNat
   ·subst b;rw[if_pos rfl,if_pos];rw[show((c.toNat:Nat):Int)=c by omega];simp
   ·rw[if_neg b];have:(i:Int)≠c:=fun o=>b (by omega);simp[this]),if_pos (by omega)]
  ac_rfl
theorem kernel{e:Nat}{a:aX}(ha:aZ e a)(M:cU a<e):∃y:Nat->UInt8,(∃i,i<e/\y i≠0)/\∀r∈a,bC (fun j=>aJ r j) y e=0:=by
 have w:=TJ ha;obtain⟨R,Z,ax,N,U,⟨p,X,Y,p3,V⟩,I⟩:=w;generalize hT:cU a=T at*;generalize (bz a (fx a)).2=rows at*;have t:∃j,j<e/\∀i,i<T->p i≠j:=by
  have A:∀T e:Nat,T<e->∀p:Nat->Nat,(∀i,i<T->p i<e)->∃j,j<e/\∀i,i<T->p i≠j:=by
   intro T e ad p W;by_cases g:∀j,j<e->∃i,i<T/\p i=j
   ·exfalso;have J:∀j∈qD e,j∈(qD T).map p:=fun j B=>by
     obtain⟨i,n,rfl⟩:=g j (qF.1 B);exact qE.2 ⟨i,qF.2 n,rfl⟩
    have:=HL vq J;simp at this;omega
   ·simp only[Classical.not_forall,not_exists,not_and]at g;obtain⟨j,B,h⟩:=g;exact⟨j,B,h⟩
  exact A T e M p X
 obtain⟨j,B,F⟩:=t;have K:∀i f,i<T->f<T->p i=p f->i=f:=fun i f q o h3=>by
  rcases Nat.lt_trichotomy i f with h|h|h
  ·have:=V i f h o;omega
  ·exact h
  ·have:=V f i h q;omega
 let y:Nat->UInt8:=fun c=>if c=j then 1 else cB (fun i=>if p i.toNat=c then aJ (aC rows i.toNat) j else 0) ((qD T).map fun i:Nat=>(i:Int))
 have hy:∀i,i<T->y (p i)=aJ (aC rows i) j:=fun i n=>by
  show(if p i=j then 1 else _)=_;rw[if_neg (F i n)];have O:((qD T).map fun i:Nat=>(i:Int)).Nodup:=by
   exact List.Pairwise.map _ (fun a b h u=>h (Int.ofNat_inj.1 u)) vq
  rw[HJ _ O (c:=(i:Int)) (qE.2 ⟨i,qF.2 n,rfl⟩),Am,zZ]
  ·simp
  ·intro c s;rw[zh]at s;obtain⟨f,v,rfl⟩:=qE.1 s.1;have H:f≠i:=fun u=>by subst u;simp at s
   rw[qq,if_neg fun u=>H (K f i (qF.1 v) n u)]
 have S:∀c,c≠j->(∀i,i<T->p i≠c)->y c=0:=fun c s W=>by
  show(if c=j then 1 else _)=_;rw[if_neg s,Am];intro d hd;obtain⟨f,v,rfl⟩:=qE.1 hd;rw[qq,if_neg (W f (qF.1 v))]
 have G:y j=1:=by show(if j=j then 1 else _)=_;rw[if_pos rfl]
 refine⟨y,⟨j,B,by rw[G];decide⟩,fun r L=>?_⟩;refine Span.UU R (fun r=>bC (fun c=>aJ r c) y e) (fz _ _ e fun c _=>cH _ _) (fun c x z q o=>Dv (by omega) c y e) (fun r M=>?_) ((N r).2 (Span.row ha L));obtain⟨k,Q,rfl⟩:=fy M;by_cases l:k<T
 ·--the row's own beginning,and j
  have hf:∀c,c<e->aJ (aC rows k) c=0∨y c=0∨c=p k∨c=j:=fun c s=>by
   by_cases q:c=j
   ·exact .inr (.inr (.inr q))
   ·by_cases o:∃i,i<T/\p i=c
    ·obtain⟨i,n,rfl⟩:=o;by_cases E:k=i
     ·subst E;exact .inr (.inr (.inl rfl))
     ·refine .inl ?_;rw[Y i n k Q,if_neg E]
    ·exact .inr (.inl (S c q fun i n u=>o ⟨i,n,u⟩))
  have P:=X k l;have D:aJ (aC rows k) (p k)=1:=by rw[Y k l k Q,if_pos rfl]
  have H:p k≠j:=F k l;have A:∀m,m<=e->bC (fun c=>aJ (aC rows k) c) y m=(if p k<m then aJ (aC rows k) j else 0)^^^(if j<m then aJ (aC rows k) j else 0):=by
   intro m
   induction m with
   |zero=>intro _;simp[bC]
   |succ m ih=>
    intro hm;rw[bC,ih (by omega)];by_cases q:m=p k
    ·have am:m≠j:=by omega
     rw[q,D,Gf.one_mul,hy k l];rw[if_neg (Nat.lt_irrefl _),if_pos (Nat.lt_succ_self _)];by_cases h3:j<p k
     ·rw[if_pos h3,if_pos (by omega)];ac_rfl
     ·rw[if_neg h3,if_neg (by omega)];ac_rfl
    ·by_cases o:m=j
     ·rw[o,G,Gf.mul_one];rw[if_neg (Nat.lt_irrefl j),if_pos (Nat.lt_succ_self j),zZ];by_cases h3:p k<j
      ·rw[if_pos h3,if_pos (by omega)]
      ·rw[if_neg h3,if_neg (by omega)]
     ·have hz:Gf.mul (aJ (aC rows k) m) (y m)=0:=by
       rcases hf m (by omega)with h|h|h|h
       ·rw[h,Gf.zero_mul]
       ·rw[h,Gf.mul_zero]
       ·exact absurd h q
       ·exact absurd h o
      rw[hz,zZ];have a1:(p k<m+1)↔(p k<m):=by omega
      have a2:(j<m+1)↔(j<m):=by omega
      simp only[a1,a2]
  rw[A e (qp _),if_pos P,if_pos B,jh]
 ·exact fz _ _ e fun c s=>I k (by omega) Q c s
def eu(n a:Nat)(rest:List jI)(W:aX)(left:aD)(ahead:aX):aX:=(left.map fun i=>iI W (be a) (rest.getD i.toNat ([],[])).1)++ahead.map fun r=>ki W r (be a) n
def hY(n w:Nat)(rest:List jI)(M:aX)(left:aD)(ahead:aX):aX:=(left.map fun i=>iI M (rest.getD i.toNat ([],[])).2 (rest.getD i.toNat ([],[])).1)++ahead.map fun r=>ki M r (be w) n
def jv(n:Nat)(l:List jI)(ahead:aX):aX:=ahead++l.map fun e=>fl n e.1
def Pa(w:Nat)(l:List jI)(ahead:aX):aX:=qh ahead.length (be w)++l.map ze
def at_(X:aX)(k:Nat)(c:Int):UInt8:=aJ (aC X c.toNat) k
section
variable {n w:Nat} {l:List jI} {ahead:aX}
theorem Rn(b:aZ n ahead):aZ n (jv n l ahead):=fun r a=>by
 rcases qH.1 a with a|a
 ·exact b r a
 ·obtain⟨e,_,rfl⟩:=qE.1 a;exact na _ _
theorem Wd:(jv n l ahead).length=(Pa w l ahead).length:=by simp[jv,Pa]
end
structure ms (n w:Nat) (l:List jI) (ahead:aX) (known:List Bool) (aV:aX) (dead left:aD) (W M:aX):Prop where
 eqs:∀e∈l,An n w e
 ahd:aZ n ahead
 pinv:uA n w l known aV
 calm:Rm known aV l=false
 deadR:∀c∈dead,0<=c/\c<(n:Int)
 deadN:dead.Nodup
 deadK:∀c∈dead,kn known c=false
 lens:W.length=n/\M.length=n/\∀c:Nat,c<n->(aC W c).length=dead.length/\(aC M c).length=w
 evKnown:∀t k y,∀c:Int,0<=c->c<(n:Int)->kn known c=true->ev t k dead.length W M y c=Gf.mul t (aJ (aC aV c.toNat) k)
 evDead:∀t k y,∀i,(h:i<dead.length)->ev t k dead.length W M y dead[i]=y i
 evRest:∀t k y,k<w->(∀i∈left,Sat t k (ev t k dead.length W M y) ((bW known aV l).getD i.toNat ([],[])))->∀e∈bW known aV l,Sat t k (ev t k dead.length W M y) e
 leftR:∀i∈left,0<=i/\i<((bW known aV l).length:Int)
 evAll:∀t k x,k<w->(∀c:Int,0<=c->c<(n:Int)->kn known c=true->x c=Gf.mul t (aJ (aC aV c.toNat) k))->(∀e∈bW known aV l,Sat t k x e)->∀c:Int,0<=c->c<(n:Int)->x c=ev t k dead.length W M (fun i=>x (dead.getD i 0)) c
section
variable {n w:Nat} {l:List jI} {ahead:aX} {known:List Bool} {aV:aX} {dead left:aD} {W M:aX}
theorem Gy(h:uA n w l known aV)(d:∀e∈l,An n w e):∀e∈bW known aV l,An n w e:=fun e c=>by
 obtain⟨b,a,rfl⟩:=qE.1 (zh.1 c).1;exact h.Rl (d b a)
theorem sm{a b:UInt8}:a^^^b=0↔a=b:=mi
theorem ms.KI(S:ms n w l ahead known aV dead left W M){i:Int}(m:i∈left)(t:UInt8)(k:Nat)(y:Nat->UInt8):
  bC (fun j=>aJ (iI W (be dead.length) ((bW known aV l).getD i.toNat ([],[])).1) j) y dead.length=Gf.mul t (aJ (iI M ((bW known aV l).getD i.toNat ([],[])).2 ((bW known aV l).getD i.toNat ([],[])).1) k)↔Sat t k (ev t k dead.length W M y) ((bW known aV l).getD i.toNat ([],[])):=by
 have h:=S.leftR i m;have b:i.toNat<(bW known aV l).length:=by omega
 have o:(bW known aV l).getD i.toNat ([],[])=(bW known aV l)[i.toNat]:=by rw[qf,qd b];rfl
 have a:=Gy S.pinv S.eqs _ (qn b);rw[o];generalize (bW known aV l)[i.toNat]=e at*;have g:(be dead.length).length=dead.length:=by simp[be]
 have p:∀c∈e.1,(aC W c.toNat).length=dead.length:=fun c d=>((S.lens.2.2 c.toNat) (by have:=a.fp c d;omega)).1;have f:∀c∈e.1,(aC M c.toNat).length=w:=fun c d=>((S.lens.2.2 c.toNat) (by have:=a.fp c d;omega)).2;have:=Wc g a.len p f t k y;rw[fz _ _ dead.length fun j _=>cH _ _,wL]at this;rw[<-sm,this];unfold Sat;rw[sm];exact eq_comm
theorem ms.HM(S:ms n w l ahead known aV dead left W M)(r:Row)(t:UInt8)(k:Nat)(y:Nat->UInt8):
  bC (fun j=>aJ (ki W r (be dead.length) n) j) y dead.length=Gf.mul t (aJ (ki M r (be w) n) k)↔bC (fun j=>aJ r j) (fun c=>ev t k dead.length W M y (c:Int)) n=0:=by
 have e:=KE (V:=W) (m:=dead.length) r (a:=be dead.length) (by simp[be]) y dead.length (c:=n) fun i b=>(S.lens.2.2 i b).1;have d:=KD (V:=M) (m:=w) r (a:=be w) (by simp[be]) k (c:=n) fun i b=>(S.lens.2.2 i b).2;rw[e,d,fz _ _ dead.length fun j _=>cH _ _,cH,wL,wL,<-sm,<-KG,<-KF];have:(fun c:Nat=>ev t k dead.length W M y (c:Int))=fun i=>bC (fun j=>aJ (aC W i) j) y dead.length^^^Gf.mul t (aJ (aC M i) k):=by
  funext c;unfold ev;rw[qq]
 rw[this]
theorem ms.up(S:ms n w l ahead known aV dead left W M){t:UInt8}{k:Nat}{y:Nat->UInt8}(g:k<w)
  (f:∀i,i<(eu n dead.length (bW known aV l) W left ahead).length->bC (fun j=>aJ (aC (eu n dead.length (bW known aV l) W left ahead) i) j) y dead.length=Gf.mul t (aJ (aC (hY n w (bW known aV l) M left ahead) i) k)):
  (∀e∈l,Sat t k (ev t k dead.length W M y) e)/\∀r∈ahead,bC (fun j=>aJ r j) (fun c=>ev t k dead.length W M y (c:Int)) n=0:=by
 refine⟨(KA S.pinv S.eqs S.calm g).2 ⟨fun c h0 p m=>S.evKnown t k y c h0 p m,S.evRest t k y g fun i h=>?_⟩,fun r o=>?_⟩
 ·obtain⟨j,b,rfl⟩:=qN h;have:=f j (by simp[eu];omega);have a:aC (eu n dead.length (bW known aV l) W left ahead) j=iI W (be dead.length) ((bW known aV l).getD left[j].toNat ([],[])).1:=by
   rw[bI (by simp[eu];omega)];simp[eu,b]
  have d:aC (hY n w (bW known aV l) M left ahead) j=iI M ((bW known aV l).getD left[j].toNat ([],[])).2 ((bW known aV l).getD left[j].toNat ([],[])).1:=by
   rw[bI (by simp[hY];omega)];simp[hY,b]
  rw[a,d]at this;exact(S.KI h t k y).1 this
 ·obtain⟨j,b,rfl⟩:=qN o;have:=f (left.length+j) (by simp[eu];omega);have a:aC (eu n dead.length (bW known aV l) W left ahead) (left.length+j)=ki W ahead[j] (be dead.length) n:=by
   rw[bI (by simp[eu];omega)];simp[eu]
  have d:aC (hY n w (bW known aV l) M left ahead) (left.length+j)=ki M ahead[j] (be w) n:=by
   rw[bI (by simp[hY];omega)];simp[hY]
  rw[a,d]at this;exact(S.HM _ t k y).1 this
theorem ms.down(S:ms n w l ahead known aV dead left W M){t:UInt8}{k:Nat}{x:Int->UInt8}(q:k<w)(D:∀e∈l,Sat t k x e)(B:∀r∈ahead,bC (fun j=>aJ r j) (fun c=>x (c:Int)) n=0):
  (∀c:Int,0<=c->c<(n:Int)->x c=ev t k dead.length W M (fun i=>x (dead.getD i 0)) c)/\
  ∀i,i<(eu n dead.length (bW known aV l) W left ahead).length->bC (fun j=>aJ (aC (eu n dead.length (bW known aV l) W left ahead) i) j) (fun i=>x (dead.getD i 0)) dead.length=Gf.mul t (aJ (aC (hY n w (bW known aV l) M left ahead) i) k):=by
 obtain⟨u,p⟩:=(KA S.pinv S.eqs S.calm q).1 D;have g:=S.evAll t k x q u p;refine⟨g,fun i z=>?_⟩;simp only[eu,qw,List.length_map]at z;by_cases a:i<left.length
 ·have h:aC (eu n dead.length (bW known aV l) W left ahead) i=iI W (be dead.length) ((bW known aV l).getD left[i].toNat ([],[])).1:=by
   rw[bI (by simp[eu];omega)];simp[eu,a]
  have o:aC (hY n w (bW known aV l) M left ahead) i=iI M ((bW known aV l).getD left[i].toNat ([],[])).2 ((bW known aV l).getD left[i].toNat ([],[])).1:=by
   rw[bI (by simp[hY];omega)];simp[hY,a]
  rw[h,o];refine(S.KI (qn a) t k _).2 ?_;have v:=S.leftR _ (qn a);have b:left[i].toNat<(bW known aV l).length:=by omega
  have A:(bW known aV l).getD left[i].toNat ([],[])=(bW known aV l)[left[i].toNat]:=by rw[qf,qd b];rfl
  rw[A];have s:=p _ (qn b);have f:=Gy S.pinv S.eqs _ (qn b);unfold Sat at s⊢;rw[<-s];exact oK fun c m=>(g c (f.fp c m).1 (f.fp c m).2).symm
 ·obtain⟨d,rfl⟩:∃d,i=left.length+d:=⟨i-left.length,by omega⟩
  have y:d<ahead.length:=by omega
  have h:aC (eu n dead.length (bW known aV l) W left ahead) (left.length+d)=ki W ahead[d] (be dead.length) n:=by
   rw[bI (by simp[eu];omega)];simp[eu]
  have o:aC (hY n w (bW known aV l) M left ahead) (left.length+d)=ki M ahead[d] (be w) n:=by
   rw[bI (by simp[hY];omega)];simp[hY]
  rw[h,o];refine(S.HM _ t k _).2 ?_;rw[<-B _ (qn y)];exact gE n (fun _ _=>rfl) fun c m=>(g (c:Int) (by omega) (by omega)).symm
theorem Pb(S:ms n w l ahead known aV dead left W M):aZ dead.length (eu n dead.length (bW known aV l) W left ahead)/\aZ w (hY n w (bW known aV l) M left ahead):=by
 have d:∀i∈left,An n w ((bW known aV l).getD i.toNat ([],[])):=fun i b=>by
  have g:=S.leftR i b;have e:i.toNat<(bW known aV l).length:=by omega
  rw[qf,qd e];exact Gy S.pinv S.eqs _ (qn e)
 constructor
 ·intro r a;rcases qH.1 a with a|a
  ·obtain⟨i,b,rfl⟩:=qE.1 a;exact uz (by simp[be]) fun c f=>((S.lens.2.2 c.toNat) (by have:=(d i b).fp c f;omega)).1
  ·obtain⟨x,h,rfl⟩:=qE.1 a;exact pH x (by simp[be]) fun i b=>(S.lens.2.2 i b).1
 ·intro r a;rcases qH.1 a with a|a
  ·obtain⟨i,b,rfl⟩:=qE.1 a;exact uz (d i b).len fun c f=>((S.lens.2.2 c.toNat) (by have:=(d i b).fp c f;omega)).2
  ·obtain⟨x,h,rfl⟩:=qE.1 a;exact pH x (by simp[be]) fun i b=>(S.lens.2.2 i b).2
theorem ms.OV(S:ms n w l ahead known aV dead left W M)(N:1<=w)(d:cU (jv n l ahead)=n):cU (eu n dead.length (bW known aV l) W left ahead)=dead.length:=by
 obtain⟨G,X⟩:=Pb S;have R:=Kl G;by_cases v:cU (eu n dead.length (bW known aV l) W left ahead)<dead.length
 ·exfalso;obtain⟨y,⟨i,b,O⟩,U⟩:=kernel G v;have h:=S.up (t:=0) (k:=0) (y:=y) N fun i b=>by rw[U _ (mem_row b),Gf.zero_mul]
  have H:=Rn (l:=l) S.ahd;have s:aZ 1 (qh (jv n l ahead).length (be 1)):=fun r d=>by rw[(vb.1 d).2];simp[be]
  have f:(jv n l ahead).length=(qh (jv n l ahead).length (be 1)).length:=by simp
  have L:kY n 1 (jv n l ahead) (qh (jv n l ahead).length (be 1)) (qh n (be 1)):=by
   have a:aZ 1 (qh n (be 1)):=fun r d=>by rw[(vb.1 d).2];simp[be]
   refine⟨by simp,a,fun i b=>?_⟩;refine fK (n:=1) (iH a (by simp) _ n (qp _)) (cj s (by simpa using b)) fun k T=>?_;rw[kf a (by simp) _ k n (qp _)];have D:aC (qh (jv n l ahead).length (be 1)) i=be 1:=by rw[bI (by simpa using b)];simp
   rw[D,cH];have:∀g,g<=n->bC (fun j=>aJ (aC (jv n l ahead) i) j) (fun c=>aJ (aC (qh n (be 1)) c) k) g=0:=by
    intro g
    induction g with
    |zero=>intro _;rfl
    |succ g ih=>
     intro P;have Q:aC (qh n (be 1)) g=be 1:=by rw[bI (by simp;omega)];simp
     rw[bC,ih (by omega),Q,cH,Gf.mul_zero];rfl
   exact this n (qp _)
  have I:kY n 1 (jv n l ahead) (qh (jv n l ahead).length (be 1)) ((qD n).map fun c:Nat=>[ev 0 0 dead.length W M y (c:Int)]):=by
   have a:aZ 1 ((qD n).map fun c:Nat=>[ev 0 0 dead.length W M y (c:Int)]):=fun r d=>by obtain⟨c,_,rfl⟩:=qE.1 d;rfl
   have q:∀c:Nat,c<n->aC ((qD n).map fun c:Nat=>[ev 0 0 dead.length W M y (c:Int)]) c=[ev 0 0 dead.length W M y (c:Int)]:=fun c o=>by rw[bI (by simpa using o)];simp
   refine⟨by simp,a,fun i b=>?_⟩;refine fK (n:=1) (iH a (by simp) _ n (qp _)) (cj s (by simpa using b)) fun k T=>?_;have A:k=0:=by omega
   subst A;rw[kf a (by simp) _ 0 n (qp _)];have D:aC (qh (jv n l ahead).length (be 1)) i=be 1:=by rw[bI (by simpa using b)];simp
   rw[D,cH];have V:bC (fun j=>aJ (aC (jv n l ahead) i) j) (fun c=>aJ (aC ((qD n).map fun c:Nat=>[ev 0 0 dead.length W M y (c:Int)]) c) 0) n=bC (fun j=>aJ (aC (jv n l ahead) i) j) (fun c=>ev 0 0 dead.length W M y (c:Int)) n:=
    gE n (fun _ _=>rfl) fun c o=>by rw[q c o];rfl
   rw[V];have x:aC (jv n l ahead) i∈ahead++l.map fun e=>fl n e.1:=mem_row b;obtain F|F:=qH.1 x
   ·exact h.2 _ F
   ·obtain⟨e,u,B⟩:=qE.1 F;rw[<-B,KH _ (S.eqs e u).fp (S.eqs e u).nodup];have z:=h.1 e u;unfold Sat at z;rw[Gf.zero_mul]at z;refine Eq.trans (oK fun c o=>?_) z;have:=(S.eqs e u).fp c o;rw[show((c.toNat:Nat):Int)=c by omega]
  have u0:=(uu f H s d L).1;have K:=(uu f H s d I).1;have E:=K.trans u0.symm;have J:=S.deadR _ (qn b);have p:=congrArg (fun m=>aJ (aC m dead[i].toNat) 0) E;rw[bI (by simp;omega),bI (by simp;omega)]at p;simp only[List.getElem_map,List.getElem_range,List.getElem_replicate,cH]at p;rw[show((dead[i].toNat:Nat):Int)=dead[i]by omega]at p;have h8:aJ [ev 0 0 dead.length W M y dead[i]] 0=ev 0 0 dead.length W M y dead[i]:=rfl;rw[h8,S.evDead 0 0 y i b]at p;exact O p
 ·omega
end
section
variable {n w:Nat} {l:List jI} {ahead:aX} {known:List Bool} {aV:aX}
end
def Jv(n:Nat)(seed:Int)(l:List (Int×Row)):List jI:=l.map fun x=>(eO n seed x.1,x.2)
def uB(p:Int×Int×Int)(l:List (Int×Row)):aX:=qh p.2.1.toNat (be p.2.2.toNat)++l.map ze
structure EF (p:Int×Int×Int) (x:Int×Row):Prop where
 id:cg x.1=true
 len:x.2.length=p.2.2.toNat
section
variable {p:Int×Int×Int} {seed:Int} {l:List (Int×Row)} {n w:Nat}
theorem Ym(e:bV p=true)(a:(cG p).toNat=n)(d:∀x∈l,EF p x):jv n (Jv n seed l) (bT p.1.toNat p.2.1.toNat)=eI p seed (l.map qx):=by
 unfold jv eI Jv;rw[if_pos e,a];have:(l.map qx).filter cg=l.map qx:=wy.2 fun i b=>by
  obtain⟨x,c,rfl⟩:=qE.1 b;exact(d x c).id
 rw[this,we,we];rfl
theorem Yn(a:p.2.2.toNat=w):Pa w (Jv n seed l) (bT p.1.toNat p.2.1.toNat)=uB p l:=by
 unfold Pa uB Jv;rw[a,we];simp[bT]
end
section
variable {n w:Nat} {l:List jI} {ahead:aX} {known:List Bool} {aV:aX} {dead left:aD} {W M:aX}
end
end Wl
namespace Go.Vc
open Go
theorem Ro(a b:ByteArray):(a==b)=decide (a=b):=by
 cases a with
 |mk a=>
  cases b with
  |mk b=>
   have h:((ByteArray.mk a)==(ByteArray.mk b))=(a==b):=rfl;rw[h,Bool.eq_iff_iff,beq_iff_eq,decide_eq_true_eq,ByteArray.mk.injEq]
theorem NT(a:ByteArray):(a==a)=true:=by rw[Ro,decide_eq_true rfl]
theorem UW{a b:ByteArray}(h:a≠b):(a==b)=false:=by rw[Ro,decide_eq_false h]
section
variable {α:Type}
def rF(x:ByteArray)(v:α):List (ByteArray×α)->List (ByteArray×α)
 |[]=>[(x,v)]
 |(k,u)::t=>if k=x then(k,v)::t else(k,u)::rF x v t
def fW(x:ByteArray):List (ByteArray×α)->Option α
 |[]=>none
 |(k,u)::t=>if k=x then some u else fW x t
def uC(x:ByteArray):List (ByteArray×α)->List (ByteArray×α)
 |[]=>[]
 |(k,u)::t=>if k=x then t else(k,u)::uC x t
theorem EG{x:ByteArray}:∀{l:List (ByteArray×α)},fW x l=none↔∀p∈l,p.1≠x
 |[]=>by simp[fW]
 |(k,u)::t=>by
  unfold fW;have a:=EG (x:=x) (l:=t);by_cases h:k=x
  ·rw[if_pos h];simp[h]
  ·rw[if_neg h,a];simp[h]
theorem Ao{x:ByteArray}(v:α):∀{l:List (ByteArray×α)},fW x l=none->rF x v l=l++[(x,v)]
 |[],_=>rfl
 |(k,u)::t,h=>by
  unfold fW at h;split at h
  ·cases h
  ·rename_i a;unfold rF;rw[if_neg a,Ao v h];rfl
theorem EH{x:ByteArray}:∀{l:List (ByteArray×α)},fW x l=none->uC x l=l
 |[],_=>rfl
 |(k,u)::t,h=>by
  unfold fW at h;split at h
  ·cases h
  ·rename_i a;unfold uC;rw[if_neg a,EH h]
structure jT (h:Heap) (r:Nat) (g:α->Value) (kvs:List (ByteArray×α)):Prop where
 ex:∃es clock,h[r]?=some (.map es clock)/\es.toList.map (fun e=>(e.key,e.val))=kvs.map (fun p=>(Value.string p.1,g p.2))
variable {P:Program} {h h':Heap} {r:Nat} {g:α->Value} {kvs:List (ByteArray×α)}
theorem jT.ah{p:ap}(i:jT h r g kvs)(f:aG p h h')(d:p r):jT h' r g kvs:=by
 obtain⟨c,a,e,b⟩:=i.ex;exact⟨c,a,f.block d e,b⟩
theorem jT.lt(c:jT h r g kvs):r<h.size:=by
 obtain⟨e,a,b,d⟩:=c.ex;exact lt_of_block b
theorem oL{x:ByteArray}:∀{L:List MapEntry} {kvs:List (ByteArray×α)} {n:Nat},L.map (fun e=>(e.key,e.val))=kvs.map (fun p=>(Value.string p.1,g p.2))->fW x kvs=none->
  wU .string (.string x) L n=some none
 |[],_,_,_,_=>rfl
 |e::L,[],_,h,_=>by simp at h
 |e::L,(k,u)::t,n,h,hg=>by
  simp only[z6,List.cons.injEq,Prod.mk.injEq]at h;obtain⟨⟨b,c⟩,h3⟩:=h;unfold fW at hg;split at hg
  ·cases hg
  ·rename_i a;have:(x==k)=false:=UW fun e=>a e.symm;simp only[wU,yY,b,this];exact oL h3 hg
theorem oM{x:ByteArray}{u:α}:∀{L:List MapEntry} {kvs:List (ByteArray×α)} {n:Nat},L.map (fun e=>(e.key,e.val))=kvs.map (fun p=>(Value.string p.1,g p.2))->fW x kvs=some u->
  ∃j e,wU .string (.string x) L n=some (some (n+j,g u))/\L[j]?=some e/\e.key=.string x/\
   (∀(v:α) (f:MapEntry->MapEntry),(∀e,e.key=Value.string x->((f e).key,(f e).val)=(Value.string x,g v))->(L.modify j f).map (fun e=>(e.key,e.val))=(rF x v kvs).map (fun p=>(Value.string p.1,g p.2)))/\
   (L.eraseIdx j).map (fun e=>(e.key,e.val))=(uC x kvs).map (fun p=>(Value.string p.1,g p.2))
 |[],[],_,_,hg=>by cases hg
 |e::L,[],_,h,_=>by simp at h
 |[],_::_,_,h,_=>by simp at h
 |e::L,(k,w)::t,n,h,hg=>by
  simp only[z6,List.cons.injEq,Prod.mk.injEq]at h;obtain⟨⟨a,d⟩,h3⟩:=h;unfold fW at hg;by_cases b:k=x
  ·subst b;rw[if_pos rfl]at hg;cases hg;refine⟨0,e,?_,rfl,a,fun v f c=>?_,?_⟩
   ·simp only[wU,yY,a,NT,d,Nat.add_zero]
   ·simp only[rF,if_true,List.modify_zero_cons,z6,h3,c e a]
   ·simp only[uC,if_true,List.eraseIdx_cons_zero,h3]
  ·rw[if_neg b]at hg;obtain⟨j,i,m,l,r,o,q⟩:=oM (n:=n+1) h3 hg;refine⟨j+1,i,?_,l,r,fun v f c=>?_,?_⟩
   ·have:(x==k)=false:=UW fun e=>b e.symm;simp only[wU,yY,a,this];rw[m];congr 3;omega
   ·simp only[rF,b,if_false,List.modify_succ_cons,z6,o v f c,a,d]
   ·simp only[uC,b,if_false,List.eraseIdx_cons_succ,z6,q,a,d]
theorem pI{a:TypeId}{x:ByteArray}{b:Bool}(c:P.underlying a=some .string)(n:Nat):aA P (vC b (n+1) a (.string x)) ():=by
 unfold vC;exact(au c).bind .pure
theorem KJ{t:Nat}{K:Option Nat->Heap->Prop}(g:α->Value)(a:∀r h',r=h.size->jT h' r g []->aG (fun _=>True) h h'->K (some r) h'):
  av P (vu t none) (.one (.sc .mp)) h K:=by
 unfold av vu;refine ab.bind (ab.lJ (ab.pure' ⟨some h.size,rfl,a _ _ rfl ⟨#[],0,by simp,rfl⟩ (aG.push _ _ _)⟩))
theorem jT.lookup{t f i:Nat}{u0:α}{x:ByteArray}(q:jT h r g kvs)(m:P.underlying t=some (.map f i))(a:P.underlying f=some .string)(p:aA P (zeroValue i) (g u0))
  {rt:Rt} {K:rt.den->Heap->Prop} (b:∃d:rt.den,g ((fW x kvs).getD u0)=rt.enc d/\K d h):
  av P (vg t (.map (some r)) (.string x) false) rt h K:=by
 obtain⟨s,c,o,k⟩:=q.ex;unfold av vg;refine ab.bind (ab.always (au m) ?_);refine ab.bind (ab.oV o (fun _ _ _ h=>by cases h) ?_);refine ab.bind (ab.pure' ?_);refine ab.bind (ab.always (pI a 9999) ?_);unfold vv;refine ab.bind (ab.bind (ab.always (au a) ?_));cases hg:fW x kvs with
 |none=>
  rw[oL k hg];refine ab.pure' ?_;refine ab.bind (ab.always p ?_);refine ab.bind (ab.pure' (ab.pure' ?_));rw[hg]at b;exact b
 |some u=>
  obtain⟨j,e,l,_⟩:=oM (x:=x) (n:=0) k hg;rw[l];refine ab.pure' ?_;refine ab.bind (ab.pure' (ab.pure' ?_));rw[hg]at b;exact b
theorem jT.update{t f m:Nat}{x:ByteArray}(v:α)(D:jT h r g kvs)(w:P.underlying t=some (.map f m))(a:P.underlying f=some .string)
  {K:Unit->Heap->Prop} (k:∀h',jT h' r g (rF x v kvs)->aG (·≠r) h h'->h'.size=h.size->K () h'):
  ab P (yj t (.map (some r)) (.string x) (g v)) h K:=by
 obtain⟨q,d,b,c⟩:=D.ex;have i:=lt_of_block b;unfold yj;refine ab.bind (ab.always (au w) ?_);refine ab.bind (ab.oV b (fun _ _ _ h=>by cases h) ?_);refine ab.bind (ab.always (pI a 9999) ?_);unfold vv;refine ab.bind (ab.bind (ab.always (au a) ?_));have ah:∀o,aG (·≠r) h (h.setIfInBounds r o):=fun o=>aG.fc b (fun l=>l rfl);cases hg:fW x kvs with
 |none=>
  rw[oL c hg];refine ab.pure' ?_;refine ab.oW b (fun _ _ _ h=>by cases h) ?_;refine k _ ⟨_,_,by rw[zC,if_pos rfl,if_pos i],?_⟩ (ah _) (by simp);rw[Ao v hg];simp[c]
 |some u=>
  obtain⟨j,e,s,p,A,z,_⟩:=oM (x:=x) (n:=0) c hg;rw[s];refine ab.pure' ?_;have y:q[0+j]?=some e:=by rw[zG,<-Array.getElem?_toList];exact p
  dsimp only;rw[y];simp only[Option.map_some,Option.getD_some,A];refine ab.bind ?_;unfold Instr.keyThatStays;have B:vD 10000 (.string x) (.string x)=true:=by simp only[vD,NT]
  rw[B,if_pos rfl];refine ab.pure' ?_;refine ab.oW b (fun _ _ _ h=>by cases h) ?_;refine k _ ⟨_,_,by rw[zC,if_pos rfl,if_pos i],?_⟩ (ah _) (by simp);rw[Array.toList_modify,zG];exact z v _ fun _ _=>rfl
theorem jT.delete{t i q ty:Nat}{l:Array TypeId}{x:ByteArray}(y:jT h r g kvs)(d:l[0]?=some t)(v:P.underlying t=some (.map i q))(a:P.underlying i=some .string)
  {K:ug} (m:∀h',jT h' r g (uC x kvs)->aG (·≠r) h h'->h'.size=h.size->K (.tuple #[]) h'):
  ab P (vP l ty #[.map (some r),.string x]) h K:=by
 obtain⟨A,f,b,c⟩:=y.ex;have k:=lt_of_block b;unfold vP;rw[d];simp only[zp,zX,List.getElem?_cons_succ];refine ab.bind (ab.always (au v) ?_);refine ab.bind ?_;refine ab.oV b (fun _ _ _ h=>by cases h) ?_;dsimp only;refine ab.bind (ab.always (pI a 9999) ?_);unfold vv;refine ab.bind (ab.bind (ab.always (au a) ?_));have ah:∀o,aG (·≠r) h (h.setIfInBounds r o):=fun o=>aG.fc b (fun p=>p rfl);cases hg:fW x kvs with
 |none=>
  rw[oL c hg];refine ab.pure' ?_;refine ab.bind (ab.oW b (fun _ _ _ h=>by cases h) ?_);refine ab.pure' (m _ ⟨_,_,by rw[zC,if_pos rfl,if_pos k],?_⟩ (ah _) (by simp));rw[c,EH hg]
 |some u=>
  obtain⟨j,e,s,z,B,_,w⟩:=oM (x:=x) (n:=0) c hg;rw[s];refine ab.pure' ?_;refine ab.bind (ab.oW b (fun _ _ _ h=>by cases h) ?_);refine ab.pure' (m _ ⟨_,_,by rw[zC,if_pos rfl,if_pos k],?_⟩ (ah _) (by simp));rw[zG,Array.toList_eraseIdxIfInBounds];exact w
end
def kQ{α:Type}(r:Nat)(g:α->Value)(a:List (ByteArray×α)):HP:=
 ⟨fun h q=>jT h r g a/\q r,fun x c=>⟨x.1.ah c x.2,x.2⟩,fun x b=>⟨x.1,b _ x.2⟩⟩
section
variable {α:Type} {P:Program} {B:ap} {h0 h h':Heap} {As:List HP} {r:Nat} {g:α->Value} {kvs:List (ByteArray×α)}
theorem jT.len{t j l ty:Nat}{c:Array TypeId}(n:jT h r g kvs)(a:c[0]?=some t)(i:P.underlying t=some (.map j l))
  {K:Int->Heap->Prop} (e:K (kvs.length:Int) h):av P (vz c ty #[.map (some r)]) (.one (.sc (.int .i64))) h K:=by
 obtain⟨f,b,k,d⟩:=n.ex;unfold av vz;rw[a];simp only[zp,zX];refine ab.bind (ab.always (au i) ?_);dsimp only;refine ab.bind (ab.oV k (fun _ _ _ h=>by cases h) ?_);have m:f.size=kvs.length:=by have:=congrArg yw d;simpa using this
 refine ab.pure' ⟨(kvs.length:Int),?_,e⟩;rw[m];rfl
theorem aa.Xi{t:Nat}(H:aa B h0 h As)(g:α->Value){K:Option Nat->Heap->Prop}(b:∀r h',aa B h0 h' (As++[kQ r g []])->K (some r) h'):av P (vu t none) (.one (.sc .mp)) h K:=
 KJ g fun r h' d a c=>b r h' (H.comp (.one (any c) ⟨a,by omega,a.lt⟩))
theorem aa.map(H:aa B h0 h As)(i:Nat)(a:As[i]?=some (kQ r g kvs)):jT h r g kvs:=(H.at i a).1
theorem aa.Xj{t c l:Nat}{x:ByteArray}(v:α)(H:aa B h0 h As)(i:Nat)(f:As[i]?=some (kQ r g kvs))(n:P.underlying t=some (.map c l))(a:P.underlying c=some .string)
  {K:Unit->Heap->Prop} (p:∀h',aa B h0 h' (As.set i (kQ r g (rF x v kvs)))->K () h'):ab P (yj t (.map (some r)) (.string x) (g v)) h K:=
 (H.map i f).update v n a fun h' j m s=>p h' (H.step i f fun q d k=>⟨m.mono fun b _ o e=>o (e▸d.2),j,j.lt,.inl d.2⟩)
end
section
variable {α:Type}
end
end Go.Vc
namespace Wl
end Wl
namespace Go.Vc
open Go
section
variable {P:Program}
theorem Rp(a:Addr):aA P (sameAddr a a) true:=fun w=>by
 simp[sameAddr]
theorem eq_self{t e:TypeId}{i:TypeInfo}(b:P.underlying t=some (.pointer e))(c:P.info? e=some i)(d:Nat)(a:aM):aA P (Op.equalIn (d+1) t (.pointer a) (.pointer a)) true:=fun w=>by
 cases a with
 |none=>simp[Op.equalIn,underlying,b]
 |some a=>
  simp[Op.equalIn,underlying,b,sizeOf,typeInfo,c];exact fun _=>Rp a w
theorem TK{t e:TypeId}{i:TypeInfo}{x y:Operand}(d:P.underlying t=some (.pointer e))(b:P.info? e=some i)(a:aM):fR P .neq t x y (.pointer a) (.pointer a) (.bool false):=by
 unfold fR;have c:aA P (eqGuard .neq t x y (.pointer a) (.pointer a)) ():=by
  intro w;simp only[eqGuard];rfl
 refine c.bind ?_;simp only[binOp,ub];exact(eq_self d b _ a).bind .pure
end
end Go.Vc
