/- Part of the proofs that the laws of this seat answer true whatever the input reads, and leave it as it was; no condition. -/
import Derived.Test.YtdhamoojccmbdaaGreatDoorPlG
import Derived.Test.YtdhamoojccmbdaaGreatDoorPlD
import Derived.Test.YtdhamoojccmbdaaGreatDoorPlA
set_option linter.unusedVariables false
set_option linter.unusedSimpArgs false
open List renaming all_eq_true -> qM, any_eq_false -> z6, any_eq_true -> wm, append_assoc -> qp, drop_drop -> zy, filter_append -> zk, filter_cons -> zp, filter_eq_nil_iff -> wF, filter_eq_self -> wq, filter_nil -> yW, find?_eq_none -> z8, find?_eq_some_iff_append -> wL, find?_some -> vK, flatMap_append -> zc, foldl_append -> wM, foldl_cons -> zD, getD_eq_getElem?_getD -> qe, getElem?_append_left -> qn, getElem?_append_right -> qj, getElem?_cons_succ -> qy, getElem?_cons_zero -> wy, getElem?_eq_getElem -> qd, getElem?_eq_none -> zf, getElem?_map -> qP, getElem?_replicate -> zY, getElem?_set -> q8, getElem?_toArray -> zG, getElem_append_left -> ya, getElem_map -> wo, getElem_mem -> qg, getElem_of_mem -> qG, length -> y6, length_append -> qw, length_cons -> zb, length_filter_le -> qY, length_map -> qx, length_set -> zH, length_take -> qZ, map_append -> qS, map_cons -> zT, map_map -> wS, mem_append -> qB, mem_cons -> za, mem_cons_of_mem -> qO, mem_cons_self -> qU, mem_filter -> qI, mem_flatMap -> zo, mem_map -> qu, mem_of_find?_eq_some -> yB, mem_of_getElem? -> ye, mem_or_eq_of_mem_set -> wG, mem_range -> qF, mem_replicate -> wT, mem_singleton -> qH, mem_take_iff_getElem -> w8, nodup_cons -> wR, nodup_range -> yR, pairwise_cons -> zN, pairwise_iff_getElem -> zd, range -> qC, range_eq_range' -> yF, range_succ -> zI, replicate -> qh, take_append_drop -> qE, take_length -> qR, take_of_length_le -> qi, take_succ_eq_append_getElem -> zu
open Bool renaming and_eq_true -> qz, eq_iff_iff -> yC, false_eq_true -> ze, not_eq_true' -> wK, not_false -> wY, not_true -> wW, or_eq_true -> wc
open Nat renaming add_sub_cancel -> yV, add_zero -> w9, le_refl -> ql, le_trans -> q9, lt_succ_iff_lt_or_eq -> zq, lt_trichotomy -> yg, min_eq_left -> w6, zero_add -> zR
open UInt8 renaming xor_comm -> vz, xor_zero -> zS, zero_xor -> wg
open Int renaming ofNat_inj -> vT, toNat_natCast -> qo
open Prod renaming fst -> qJ, snd -> zC
open Go.Builtin renaming append_ -> qt, delete_ -> vl, len_ -> vw
open Go.Value renaming int -> vX
open Go.IntKind renaming i64 -> xh
open Go.Instr renaming findNow -> vH, lookup -> vM, makeMap -> vG, mapUpdate -> vk, slice -> vJ, sliceAt -> wE, sliceBound -> va, sliceBounds -> zQ
open Array renaming getElem?_setIfInBounds -> wb, getElem?_toList -> yY
open Option renaming map_some -> qN
namespace Wl
open Go Go.Vc
def cR(n:Int):Nat:=
 if n=0 then 0 else
  let m:=n.natAbs;let e:=m.log2
  (if n<0 then 2^63 else 0)+(1023+e)*2^52+(m-2^e)*2^(52-e)
structure EZ where
 ax:Nat
 ay:Nat
 sx:Nat
 sy:Nat
 left:Int
 leg:Int
 second:Bool
def pM:Nat:=4607182418800017408
def fs0:EZ:=⟨0,0,pM,0,1,1,false⟩
def oC(a b:Nat):Nat:=(gx.add a b).getD 0
def aib(a b:Nat):Nat:=(gx.sub a b).getD 0
def uc(a b:Nat):Nat:=(gx.mul a b).getD 0
def tx(a b:Nat):Nat:=aib (uc a 0) (uc b pM)
def ty(a b:Nat):Nat:=oC (uc a pM) (uc b 0)
def EZ.on(s:EZ):EZ:=
 if s.left-1>0 then{s with ax:=oC s.ax s.sx,ay:=oC s.ay s.sy,left:=s.left-1}
 else{ax:=oC s.ax s.sx,ay:=oC s.ay s.sy,sx:=tx s.sx s.sy,sy:=ty s.sx s.sy,leg:=if s.second then s.leg+1 else s.leg,left:=if s.second then s.leg+1 else s.leg,second:=!s.second}
def kz:Nat->EZ
 |0=>fs0
 |n+1=>(kz n).on
def EZ.ok(s:EZ):Bool:=
 (gx.add s.ax s.sx).isSome&&(gx.add s.ay s.sy).isSome&&(gx.mul s.sx 0).isSome&&(gx.mul s.sy pM).isSome&&(gx.sub (uc s.sx 0) (uc s.sy pM)).isSome&&(gx.mul s.sx pM).isSome&&(gx.mul s.sy 0).isSome&&(gx.add (uc s.sx pM) (uc s.sy 0)).isSome&&decide (1<=s.left)&&decide (s.left<=100)&&decide (1<=s.leg)&&decide (s.leg<=100)
structure Spi where
 x:Int
 y:Int
 dx:Int
 dy:Int
 left:Int
 leg:Int
 turns:Int
def aic:Spi:=⟨0,0,1,0,1,1,0⟩
def Spi.on(s:Spi):Spi:=
 if s.left-1=0 then
  {x:=s.x+s.dx,y:=s.y+s.dy,dx:=-s.dy,dy:=s.dx,leg:=if(s.turns+1)%2=0 then s.leg+1 else s.leg,left:=if(s.turns+1)%2=0 then s.leg+1 else s.leg,turns:=s.turns+1}
 else{s with x:=s.x+s.dx,y:=s.y+s.dy,left:=s.left-1}
def fE:Nat->Spi
 |0=>aic
 |n+1=>(fE n).on
theorem ahK:∀n,n<64->(kz n).ok=true:=by decide+kernel
theorem agH:∀n,n<64->((kz n).ax==cR (fE n).x&&(kz n).ay==cR (fE n).y&&decide (-4<=(fE n).x)&&decide ((fE n).x<=4)&&decide (-4<=(fE n).y)&&decide ((fE n).y<=4))=true:=by decide+kernel
theorem agI:∀i,i<9->∀j,j<9->gx.sub (cR ((i:Nat)-4:Int)) (cR ((j:Nat)-4:Int))=some (cR ((i:Int)-(j:Int))):=by decide+kernel
theorem agJ:∀i,i<17->gx.mul (cR ((i:Nat)-8:Int)) (cR ((i:Nat)-8:Int))=some (cR (((i:Nat)-8:Int)*((i:Nat)-8:Int))):=by decide+kernel
theorem agK:∀i,i<9->∀j,j<9->gx.add (cR (((i:Nat):Int)*(i:Nat))) (cR (((j:Nat):Int)*(j:Nat)))=some (cR (((i:Nat):Int)*(i:Nat)+((j:Nat):Int)*(j:Nat))):=by decide+kernel
theorem aaM:∀m,m<129->∀n,n<129->gx.order (cR (m:Nat)) (cR (n:Nat))=some (compare m n):=by decide+kernel
theorem Ys{seq a c:Int}{b:List UInt8}(d:b.length<=48):dm (jQ seq a c b)=none:=by
 unfold dm jQ;rw[AZ (by decide) (by decide) (by simp[ck];omega)];dsimp only;rw[if_neg (by rintro⟨h,_⟩;exact absurd h (by decide))]
theorem fN{m:aE}{c:List UInt8}(h:c∈be m):dm c=none:=by
 unfold be at h;obtain⟨i,_,rfl⟩:=qu.1 h;exact Ys (by simp;omega)
theorem PQ{α:Type}{R:α->α->Prop}(k:∀a b c,R a b->R b c->R a c){l:List α}(h:∀i (m:i+1<l.length),R (l[i]'(by omega)) l[i+1]):l.Pairwise R:=by
 have g:∀d i (f:i+(d+1)<l.length),R (l[i]'(by omega)) l[i+(d+1)]:=by
  intro d
  induction d with
  |zero=>exact fun i f=>h i f
  |succ d ih=>exact fun i f=>k _ _ _ (ih i (by omega)) (h (i+(d+1)) (by omega))
 refine zd.2 fun i j m f n=>?_;have:=g (j-i-1) i (by omega);have e:i+(j-i-1+1)=j:=by omega
 simp only[e]at this;exact this
theorem PR{α:Type}{R:α->α->Prop}{l:List α}(h:l.Pairwise R)(i:Nat)(a:i+1<l.length):R (l[i]'(by omega)) l[i+1]:=zd.1 h i (i+1) (by omega) a (by omega)
theorem iM{α:Type}{l:List α}{i:Nat}(d:α)(h:i<l.length):l.getD i d=l[i]:=by rw[qe,qd h];rfl
theorem lT(n a b:Int):eV n a b=true↔a<=n/\n<=b:=by unfold eV;rw[qz,decide_eq_true_eq,decide_eq_true_eq]
theorem aaN(l:List Int)(e:Int):pC l e=true↔l.Pairwise (·<·)/\∀x∈l,0<=x/\x<=e:=by
 unfold pC;rw[qM];constructor
 ·intro h;have j:∀i (d:i<l.length),(0<=l[i]/\l[i]<=e)/\(i=0∨l.getD (i-1) 0<l[i]):=fun i d=>by
   have:=h i (qF.2 d);unfold jw at this;rw[iM 0 d,qz,lT,wc,decide_eq_true_eq,decide_eq_true_eq]at this;exact this
  refine⟨PQ (R:=fun a b:Int=>a<b) (fun a b c f g=>Int.lt_trans f g) fun i d=>?_,fun x k=>?_⟩
  ·rcases(j (i+1) d).2 with h0|h0
   ·omega
   ·rw[yV,iM 0 (by omega)]at h0;exact h0
  ·obtain⟨i,d,rfl⟩:=qG k;exact(j i d).1
 ·rintro⟨f,g⟩ i d;have d:=qF.1 d;unfold jw;rw[iM 0 d,qz,lT,wc,decide_eq_true_eq,decide_eq_true_eq];refine⟨g _ (qg d),?_⟩;cases i with
  |zero=>exact .inl rfl
  |succ i=>exact .inr (by rw[yV,iM 0 (by omega)];exact PR f i d)
theorem SZ(a b c:ByteArray)(e:eG a b=true)(d:eG b c=true):eG a c=true:=IR _ _ _ e d
theorem bS(m:aE):bP m=true↔kD m=true/\m.drives.Pairwise (·<·)/\(∀k∈m.drives,0<=k/\k<=63)/\m.objs.length<=12/\(∀e∈m.objs,gv m e=true)/\m.objs.Pairwise (fun a b=>eG a.name b.name=true)/\m.objs.Pairwise (fun a b=>a.object≠b.object):=by
 unfold bP;rw[qz,qz,qz,aaN,decide_eq_true_eq,qM];have n:(∀i∈qC m.objs.length,pD m i=true)↔(∀e∈m.objs,gv m e=true)/\m.objs.Pairwise (fun a b=>eG a.name b.name=true)/\m.objs.Pairwise (fun a b=>a.object≠b.object):=by
  constructor
  ·intro h;have q:∀i (l:i<m.objs.length),gv m m.objs[i]=true/\(i=0∨eG (pB m.objs (i-1)).name m.objs[i].name=true)/\∀y∈m.objs.take i,y.object≠m.objs[i].object:=fun i l=>by
    have:=h i (qF.2 l);unfold pD at this;rw[oB l,qz,qz,wc,decide_eq_true_eq,wK,z6]at this;exact⟨this.1,this.2.1,fun y r=>by have:=this.2.2 y r;simpa using this⟩
   refine⟨fun e u=>?_,PQ (R:=fun a b:bY=>eG a.name b.name=true) (fun a b c p o=>SZ _ _ _ p o) fun i l=>?_,zd.2 fun i j l s t=>?_⟩
   ·obtain⟨i,l,rfl⟩:=qG u;exact(q i l).1
   ·rcases(q (i+1) l).2.1 with h0|h0
    ·omega
    ·rw[yV,oB (by omega)]at h0;exact h0
   ·refine(q j s).2.2 m.objs[i] ?_;exact w8.2 ⟨i,by omega,rfl⟩
  ·rintro⟨p,o,h3⟩ i l;have l:=qF.1 l;unfold pD;rw[oB l,qz,qz,wc,decide_eq_true_eq,wK,z6];refine⟨p _ (qg l),?_,fun y r=>?_⟩
   ·cases i with
    |zero=>exact .inl rfl
    |succ i=>exact .inr (by rw[yV,oB (by omega)];exact PR o i l)
   ·obtain⟨j,s,rfl⟩:=w8.1 r;have:=zd.1 h3 j i (by omega) l (by omega);simpa using this
 rw[n];constructor
 ·rintro⟨a,⟨b,c⟩,d,e,f,g⟩;exact⟨a,b,c,d,e,f,g⟩
 ·rintro⟨a,b,c,d,e,f,g⟩;exact⟨a,⟨b,c⟩,d,e,f,g⟩
theorem dD(m:aE):kD m=true↔(1<=m.seq/\m.seq<=2147483647)/\(0<=m.next/\m.next<=16777216)/\bJ m.p=true/\0<=m.extra/\m.extra<=16:=by
 unfold kD;rw[qz,qz,qz,lT,lT,lT]
theorem eW(m:aE)(x:bY):gv m x=true↔jG x.name=true/\(0<=x.object/\x.object<m.next)/\(0<=x.length/\x.length<=m.p.1*m.p.2.2*8)/\(∀t∈x.tries,0<=t/\t<=15)/\(x.tries.length:Int)=countP m.p x.length:=by
 unfold gv;rw[qz,qz,qz,qz,lT,lT,qM,decide_eq_true_eq];simp only[lT];constructor
 ·rintro⟨a,b,c,d,e⟩;exact⟨a,⟨b.1,by omega⟩,c,d,e⟩
 ·rintro⟨a,b,c,d,e⟩;exact⟨a,⟨b.1,by omega⟩,c,d,e⟩
theorem uG{m:aE}(h:bP m=true):m.drives.Nodup:=((bS m).1 h).2.1.imp fun h e=>by omega
theorem ko{m:aE}(h:bP m=true):∀k∈m.drives,0<=k/\k<64:=fun k a=>by have:=((bS m).1 h).2.2.1 k a;omega
theorem Ta:∀{l:List Int} {a b:Int},l.Pairwise (·<·)->(∀k∈l,a<=k/\k<b)->a<=b->(l.length:Int)<=b-a
 |[],a,b,_,_,h=>by simp;omega
 |x::l,a,b,hp,hl,h=>by
  obtain⟨e,d⟩:=zN.1 hp;have f:=hl x qU;have:=Ta (a:=x+1) (b:=b) d (fun k c=>⟨by have:=e k c;omega,(hl k (qO _ c)).2⟩) (by omega);rw[zb];omega
theorem kZ{m:aE}(h:bP m=true):m.drives.length<=64:=by
 have:=Ta ((bS m).1 h).2.1 (ko h) (by decide);omega
abbrev eK:=List Int×Row
def cC(x:Int->UInt8):List Int->UInt8
 |[]=>0
 |c::l=>x c^^^cC x l
theorem jU{x y:Int->UInt8}:∀{l:List Int},(∀c∈l,x c=y c)->cC x l=cC y l
 |[],_=>rfl
 |c::l,h=>by rw[cC,cC,h c (by simp),jU fun d a=>h d (by simp[a])]
theorem JB(x:Int->UInt8)(p:Int->Bool):∀l,cC x l=cC x (l.filter p)^^^cC x (l.filter fun c=>!p c)
 |[]=>by simp[cC]
 |c::l=>by
  rw[cC,JB x p l];cases h:p c<;>simp only[zp,h,wW,wY,if_true,ze,if_false,cC]<;>ac_rfl
theorem Bc(x:Int->UInt8){c:Int}:∀{l:List Int},l.Nodup->c∈l->cC x l=x c^^^cC x (l.filter fun d=>!decide (d=c))
 |[],_,h=>by cases h
 |d::l,hd,h=>by
  rw[wR]at hd;rcases za.1 h with rfl|h
  ·have:l.filter (fun d=>!decide (d=c))=l:=wq.2 fun e f=>by
    have:e≠c:=fun b=>hd.1 (b▸f);simp[this]
   rw[zp];simp only[decide_true,wW,ze,if_false];rw[this,cC]
  ·have a:d≠c:=fun b=>hd.1 (b▸h);rw[zp,if_pos (by simp[a]),cC,cC,Bc x hd.2 h];ac_rfl
theorem Tb(x y:Int->UInt8):∀l,cC (fun c=>x c^^^y c) l=cC x l^^^cC y l
 |[]=>by simp[cC]
 |c::l=>by rw[cC,cC,cC,Tb x y l];ac_rfl
theorem GO:∀{x:Int->UInt8} {l:List Int},(∀c∈l,x c=0)->cC x l=0
 |_,[],_=>rfl
 |x,c::l,h=>by rw[cC,h c (by simp),GO fun d a=>h d (by simp[a])];rfl
def cD(V:aS)(a:Row)(l:List Int):Row:=l.foldl (fun a c=>df 1 (az V c.toNat) a) a
theorem jz{V:aS}{m:Nat}:∀{l:List Int} {a:Row},a.length=m->(∀c∈l,(az V c.toNat).length=m)->(cD V a l).length=m
 |[],a,h,_=>h
 |c::l,a,h,hv=>by
  rw[cD,zD];exact jz (l:=l) (by rw[ca (by rw[hv c (by simp),h])];exact h) fun d b=>hv d (by simp[b])
theorem Kr{V:aS}{m:Nat}(j:Nat):∀{l:List Int} {a:Row},a.length=m->(∀c∈l,(az V c.toNat).length=m)->aN (cD V a l) j=aN a j^^^cC (fun c=>aN (az V c.toNat) j) l
 |[],a,_,_=>by simp[cD,cC]
 |c::l,a,h,hv=>by
  have b:(az V c.toNat).length=a.length:=by rw[hv c (by simp),h]
  rw[cD,zD];have:=Kr (V:=V) j (l:=l) (a:=df 1 (az V c.toNat) a) (by rw[ca b];exact h) fun d e=>hv d (by simp[e]);rw[cD]at this;rw[this,cH b,Gf.one_mul,cC];ac_rfl
def Sat(t:UInt8)(k:Nat)(x:Int->UInt8)(e:eK):Prop:=cC x e.1=Gf.mul t (aN e.2 k)
structure iu (n w:Nat) (e:eK):Prop where
 cF:∀c∈e.1,0<=c/\c<(n:Int)
 nodup:e.1.Nodup
 len:e.2.length=w
def kn(known:List Bool)(c:Int):Bool:=known.getD c.toNat false
def eN(known:List Bool)(vals:aS)(e:eK):eK:=(e.1.filter fun c=>!kn known c,cD vals e.2 (e.1.filter fun c=>kn known c))
structure jA (n w:Nat) (l:List eK) (known:List Bool) (vals:aS):Prop where
 klen:known.length=n
 vlen:vals.length=n
 row:∀c:Nat,c<n->(az vals c).length=if known.getD c false then w else 0
 sound:∀t k x,k<w->(∀e∈l,Sat t k x e)->∀c:Int,0<=c->c<(n:Int)->kn known c=true->x c=Gf.mul t (aN (az vals c.toNat) k)
section
variable {n w:Nat} {l:List eK} {known:List Bool} {vals:aS}
theorem Yt(n w:Nat)(l:List eK):jA n w l (qh n false) (qh n []):=by
 refine⟨by simp,by simp,fun c b=>?_,fun t k x d f c h0 e a=>?_⟩
 ·rw[bu (by simpa using b)];simp[qe,b]
 ·exfalso;rw[kn,qe,zY]at a;split at a<;>simp at a
theorem jA.GP(h:jA n w l known vals){c:Int}(b:0<=c)(d:c<(n:Int))(a:kn known c=true):(az vals c.toNat).length=w:=by
 have:=h.row c.toNat (by omega);rw[kn]at a;rw[a]at this;simpa using this
theorem jA.CI(h:jA n w l known vals){e:eK}(b:iu n w e):iu n w (eN known vals e):=
 ⟨fun c d=>b.cF c (qI.1 d).1,b.nodup.filter _,jz b.len fun c d=>by
  have a:=qI.1 d;exact h.GP (b.cF c a.1).1 (b.cF c a.1).2 a.2⟩
theorem jA.IY(h:jA n w l known vals){e:eK}(g:iu n w e){t:UInt8}{k:Nat}{x:Int->UInt8}(j:∀c:Int,0<=c->c<(n:Int)->kn known c=true->x c=Gf.mul t (aN (az vals c.toNat) k)):
  Sat t k x (eN known vals e)↔Sat t k x e:=by
 have f:∀c∈e.1.filter (fun c=>kn known c),(az vals c.toNat).length=w:=fun c d=>by
  have b:=qI.1 d;exact h.GP (g.cF c b.1).1 (g.cF c b.1).2 b.2
 have o:cC x (e.1.filter fun c=>kn known c)=Gf.mul t (cC (fun c=>aN (az vals c.toNat) k) (e.1.filter fun c=>kn known c)):=by
  rw[jU (y:=fun c=>Gf.mul t (aN (az vals c.toNat) k)) fun c d=>j c (g.cF c (qI.1 d).1).1 (g.cF c (qI.1 d).1).2 (qI.1 d).2];generalize e.1.filter (fun c=>kn known c)=m
  induction m with
  |nil=>simp[cC,Gf.mul_zero]
  |cons a m ih=>rw[cC,cC,Gf.jP,ih]
 unfold Sat eN;dsimp only;rw[Kr k g.len f,Gf.jP,<-o,JB x (fun c=>kn known c) e.1];constructor
 ·intro i;rw[i];rw[vz,wt]
 ·intro i;rw[<-i];rw[vz (cC x (e.1.filter fun c=>kn known c)),wt]
theorem agL{known:List Bool}{c d:Int}(b:0<=c)(a:0<=d)(e:c<(known.length:Int)):kn (known.set c.toNat true) d=(decide (d=c)||kn known d):=by
 unfold kn;rw[qe,q8];by_cases h:d=c
 ·subst h;rw[if_pos rfl,if_pos (by omega)];simp
 ·rw[if_neg (by omega)];simp[h]
theorem aaO(h:jA n w l known vals)(q:∀e∈l,iu n w e){e:eK}(g:e∈l){c:Int}(p:(eN known vals e).1=[c]):jA n w l (known.set c.toNat true) (vals.set c.toNat (eN known vals e).2):=by
 have b:=h.CI (q e g);have j:=b.cF c (by rw[p];simp);have u:=h.vlen;have f:=h.klen;refine⟨by simp[f],by simp[u],fun d r=>?_,fun t k x m i d h0 s o=>?_⟩
 ·rw[kM (by omega),qe,q8];by_cases a:c.toNat=d
  ·subst a;simp[show c.toNat<known.length by omega,b.len]
  ·rw[if_neg a,if_neg a,h.row d r,qe]
 ·rw[agL j.1 h0 (by omega)]at o;rw[kM (by omega)];by_cases a:d=c
  ·subst a;rw[if_pos rfl];have:=(h.IY (q e g) (h.sound t k x m i)).2 (i e g);unfold Sat at this;rw[p]at this;simpa[cC]using this
  ·rw[if_neg (by omega)];exact h.sound t k x m i d h0 s (by simpa[a]using o)
theorem GQ(h:jA n w l known vals)(e:eK):∀c∈(eN known vals e).1,kn known c=false:=fun c a=>by
 have:=(qI.1 a).2;simpa using this
def aY(known:List Bool)(vals:aS)(l:List eK):List eK:=(l.map (eN known vals)).filter fun e=>!e.1.isEmpty
def jV(known:List Bool)(vals:aS)(l:List eK):Bool:=(l.map (eN known vals)).any fun e=>e.1.isEmpty&&e.2.any (· !=0)
theorem Tc(h:jA n w l known vals)(i:∀e∈l,iu n w e)(f:jV known vals l=false){t:UInt8}{k:Nat}{x:Int->UInt8}(j:k<w):
  (∀e∈l,Sat t k x e)↔(∀c:Int,0<=c->c<(n:Int)->kn known c=true->x c=Gf.mul t (aN (az vals c.toNat) k))/\∀e∈aY known vals l,Sat t k x e:=by
 constructor
 ·intro g;refine⟨h.sound t k x j g,fun e b=>?_⟩;obtain⟨o,d,rfl⟩:=qu.1 (qI.1 b).1;exact(h.IY (i o d) (h.sound t k x j g)).2 (g o d)
 ·rintro⟨r,q⟩ e b;refine(h.IY (i e b) r).1 ?_;by_cases a:(eN known vals e).1=[]
  ·unfold Sat;rw[a,cC];have m:((eN known vals e).1.isEmpty&&(eN known vals e).2.any (· !=0))=false:=by
    have:=z6.1 f _ (List.mem_map_of_mem b);simpa using this
   rw[a]at m;have p:∀y∈(eN known vals e).2,y=0:=by simpa using m
   have h3:=(h.CI (i e b)).len;have:aN (eN known vals e).2 k=0:=by
    rw[aN,qe,qd (by omega)];exact p _ (qg _)
   rw[this,Gf.mul_zero]
  ·refine q _ (qI.2 ⟨List.mem_map_of_mem b,?_⟩);simpa using a
theorem Yu(h:jA n w l known vals)(j:∀e∈l,iu n w e)(c:jV known vals l=true):∃k,k<w/\∀x:Int->UInt8,¬∀e∈l,Sat 1 k x e:=by
 obtain⟨y,o,b⟩:=wm.1 c;obtain⟨e,f,rfl⟩:=qu.1 o;rw[qz]at b;obtain⟨z,p,a⟩:=wm.1 b.2;obtain⟨k,m,rfl⟩:=qG p;have h3:=(h.CI (j e f)).len;refine⟨k,by omega,fun x i=>?_⟩;have d:=(h.IY (j e f) (h.sound 1 k x (by omega) i)).2 (i e f);unfold Sat at d;have g:(eN known vals e).1=[]:=by simpa using b.1
 rw[g,cC,Gf.one_mul,aN,qe,qd m]at d;simp at a;exact a d.symm
end
def jK(op:List Bool)(c:Int):Bool:=op.getD c.toNat false
def cP(op:List Bool)(r:List Int):List Int:=r.filter (jK op)
def mj(rows:List (List Int))(op us:List Bool)(i:Nat):Bool:=!(us.getD i false)&&(cP op (rows.getD i [])).length==1
def mq(rows:List (List Int))(op us:List Bool):Option Nat:=(qC rows.length).find? (mj rows op us)
def eC(rows:List (List Int))(op:List Bool)(i:Nat):Int:=(cP op (rows.getD i [])).getLast?.getD 0
def jW(a:List Int)(r:List Int):List Int:=r.foldl (fun a c=>a.set c.toNat (a.getD c.toNat 0+1)) a
def kN(g:Nat->List Int->List Int)(rows:List (List Int))(us:List Bool)(a:List Int):Nat->List Int
 |0=>a
 |k+1=>if us.getD k false then kN g rows us a k else jW (kN g rows us a k) (g k (rows.getD k []))
def il(op:List Bool)(a:List Int):Nat->Int
 |0=>-1
 |k+1=>if op.getD k false&&(decide (il op a k<0)||decide (a.getD k 0>a.getD (il op a k).toNat 0))then(k:Int)else il op a k
def gy(rows:List (List Int))(op us:List Bool):Int:=il op (kN (fun _ r=>r) rows us (qh op.length 0) rows.length) op.length
structure Pl where
 steps:List (Int×Int)
 dead:List Int
 used:List Bool
def cm(rows:List (List Int)):Nat->List Bool->List Bool->Pl
 |0,_,us=>⟨[],[],us⟩
 |k+1,op,us=>
  if op.contains true then
   match mq rows op us with
   |some i=>let r:=cm rows k (op.set (eC rows op i).toNat false) (us.set i true);⟨((i:Int),eC rows op i)::r.steps,r.dead,r.used⟩
   |none=>let r:=cm rows k (op.set (gy rows op us).toNat false) us;⟨r.steps,gy rows op us::r.dead,r.used⟩
  else⟨[],[],us⟩
def fd(us:List Bool):Nat->List Int
 |0=>[]
 |k+1=>if us.getD k false then fd us k else fd us k++[(k:Int)]
def dn(n:Nat)(rows:List (List Int)):Pl:=cm rows n (qh n true) (qh rows.length false)
theorem Bd{P:Nat->Bool}{n:Nat}(h:∀j,j<n->P j=false):(qC n).find? P=none:=by
 rw[z8];intro x a;rw[qF]at a;simp[h x a]
theorem aaP{P:Nat->Bool}{n k:Nat}(f:k<n)(h:∀j,j<k->P j=false)(d:P k=true):(qC n).find? P=some k:=by
 rw[wL];refine⟨d,qC k,List.range' (k+1) (n-k-1),?_,fun a b=>?_⟩
 ·rw[yF,yF];have e:n=k+(n-k):=by omega
  have c:n-k=(n-k-1)+1:=by omega
  conv=>lhs;rw[e,<-List.range'_append_1 (s:=0) (m:=k) (n:=n-k)]
  rw[zR]
  conv=>lhs;rw[c,List.range'_succ]
 ·rw[qF]at b;simp[h a b]
theorem Vs(a r:List Int)(c:Int):jW a (r++[c])=(jW a r).set c.toNat ((jW a r).getD c.toNat 0+1):=by
 simp[jW]
theorem Fa(b r:List Int):(jW b r).length=b.length:=by
 induction r generalizing b with
 |nil=>rfl
 |cons a t ih=>simp only[jW,zD]at*;rw[ih];simp
theorem Ec(g:Nat->List Int->List Int)(rows:List (List Int))(us:List Bool)(a:List Int):∀k,(kN g rows us a k).length=a.length
 |0=>rfl
 |k+1=>by
  unfold kN;split
  ·exact Ec g rows us a k
  ·rw[Fa,Ec g rows us a k]
theorem GR{m:Int}:∀{r c:List Int},(∀x∈c,0<=x/\x<=m)->∀x∈jW c r,0<=x/\x<=m+r.length
 |[],c,h,x,hx=>by have:=h x hx;simp;omega
 |a::t,c,h,x,hx=>by
  have d:∀y∈c.set a.toNat (c.getD a.toNat 0+1),0<=y/\y<=m+1:=by
   intro y b;rcases wG b with b|b
   ·have:=h y b;omega
   ·subst b;rw[qe];cases hc:c[a.toNat]? with
    |none=>
     rw[List.getElem?_eq_none_iff]at hc;rw[List.set_eq_of_length_le hc]at b;have:=h _ b;rw[qe,zf hc]at this;simp at this⊢;omega
    |some z=>have:=h z (ye hc);simp;omega
  have:=GR (r:=t) d x hx;simp only[zb];omega
theorem Td(g:Nat->List Int->List Int){rows:List (List Int)}{us:List Bool}{n:Nat}(a:∀k,(g k (rows.getD k [])).length<=64):∀k,∀x∈kN g rows us (qh n 0) k,0<=x/\x<=64*k
 |0,x,hx=>by
  have:=List.eq_of_mem_replicate hx;subst this;simp
 |k+1,x,hx=>by
  unfold kN at hx;split at hx
  ·have:=Td g a k x hx;omega
  ·have:=GR (Td g a k) x hx;have:=a k;omega
theorem PS(op:List Bool)(a:List Int):∀k,(il op a k=-1/\∀j,j<k->op.getD j false=false)∨(0<=il op a k/\il op a k<k/\op.getD (il op a k).toNat false=true)
 |0=>.inl ⟨rfl,fun j b=>by omega⟩
 |k+1=>by
  unfold il;split
  ·rename_i c;simp only[qz]at c;exact .inr ⟨by omega,by omega,by rw[qo];exact c.1⟩
  ·rename_i c;rcases PS op a k with⟨e,h⟩|⟨h1,h2,h3⟩
   ·refine .inl ⟨e,fun j b=>?_⟩;rcases zq.1 b with b|rfl
    ·exact h j b
    ·by_cases d:op.getD j false=true
     ·exact absurd (by rw[d,e];rfl) c
     ·simpa using d
   ·exact .inr ⟨h1,by omega,h3⟩
theorem GS{op:List Bool}(h:op.contains true=true):∃j,j<op.length/\op.getD j false=true:=by
 simp only[List.contains_iff_mem]at h;obtain⟨j,a,e⟩:=qG h;exact⟨j,a,by rw[qe,qd a];exact e⟩
theorem sY{rows:List (List Int)}{op us:List Bool}(h:op.contains true=true):0<=gy rows op us/\gy rows op us<op.length/\op.getD (gy rows op us).toNat false=true:=by
 obtain⟨j,a,e⟩:=GS h;rcases PS op (kN (fun _ r=>r) rows us (qh op.length 0) rows.length) op.length with⟨_,h2⟩|h2
 ·rw[h2 j a]at e;cases e
 ·exact h2
theorem uH{rows:List (List Int)}{op us:List Bool}{i:Nat}(h:mq rows op us=some i):i<rows.length/\mj rows op us i=true:=by
 have b:=yB h;have a:=vK h;exact⟨qF.1 b,a⟩
theorem Ed{rows:List (List Int)}{op us:List Bool}{i:Nat}(d:mj rows op us i=true):cP op (rows.getD i [])=[eC rows op i]/\eC rows op i∈rows.getD i []/\jK op (eC rows op i)=true:=by
 simp only[mj,qz,beq_iff_eq]at d;obtain⟨c,b⟩:=List.length_eq_one_iff.1 d.2;have e:eC rows op i=c:=by unfold eC;rw[b];rfl
 have a:c∈cP op (rows.getD i []):=by rw[b];simp
 rw[cP,qI]at a;rw[e];exact⟨b,a.1,a.2⟩
theorem kp{op:List Bool}{j:Nat}(h:op.getD j false=true):(op.set j false).count true+1=op.count true:=by
 have a:j<op.length:=by
  by_cases a:j<op.length
  ·exact a
  ·rw[qe,zf (by omega)]at h;cases h
 have e:op[j]=true:=by rw[qe,qd a]at h;exact h
 have b:0<op.count true:=List.count_pos_iff.2 (e▸qg a);rw[List.count_set a,e];simp;omega
theorem Te{op:List Bool}(h:op.count true=0):op.contains true=false:=by
 rw[List.count_eq_zero]at h;simpa using h
theorem Be{rows:List (List Int)}{op us:List Bool}(h:op.contains true=false):∀k,cm rows k op us=⟨[],[],us⟩
 |0=>rfl
 |k+1=>by unfold cm;rw[h];rfl
theorem oL{rows:List (List Int)}{op us:List Bool}{i k:Nat}(h:op.contains true=true)(a:mq rows op us=some i):
  cm rows (k+1) op us=⟨((i:Int),eC rows op i)::(cm rows k (op.set (eC rows op i).toNat false) (us.set i true)).steps,(cm rows k (op.set (eC rows op i).toNat false) (us.set i true)).dead,(cm rows k (op.set (eC rows op i).toNat false) (us.set i true)).used⟩:=by
 rw[cm,h,a];rfl
theorem oM{rows:List (List Int)}{op us:List Bool}{k:Nat}(h:op.contains true=true)(a:mq rows op us=none):
  cm rows (k+1) op us=⟨(cm rows k (op.set (gy rows op us).toNat false) us).steps,gy rows op us::(cm rows k (op.set (gy rows op us).toNat false) us).dead,(cm rows k (op.set (gy rows op us).toNat false) us).used⟩:=by
 rw[cm,h,a];rfl
theorem ud(rows:List (List Int)):∀k op us,(cm rows k op us).used.length=us.length
 |0,_,_=>rfl
 |k+1,op,us=>by
  unfold cm;split
  ·split
   ·show(cm rows k _ _).used.length=_;rw[ud];simp
   ·show(cm rows k _ _).used.length=_;rw[ud]
  ·rfl
theorem IZ(us:List Bool):∀k,(fd us k).length<=k
 |0=>by simp[fd]
 |k+1=>by
  have:=IZ us k;unfold fd;split<;>simp<;>omega
theorem un{op:List Bool}{f:Nat}(h:op.count true=f+1):op.contains true=true:=by
 have:0<op.count true:=by omega
 rw[List.count_pos_iff]at this;simpa using this
theorem Vt{P:Nat->Bool}{n j:Nat}(a:j<n)(h:P j=true):∃i,(qC n).find? P=some i:=by
 cases hf:(qC n).find? P with
 |some i=>exact⟨i,rfl⟩
 |none=>
  rw[z8]at hf;exact absurd h (hf j (qF.2 a))
theorem jf(l:List Bool)(i j:Nat)(x:Bool):(l.set i x).getD j false=if i=j/\j<l.length then x else l.getD j false:=by
 simp only[qe,q8];by_cases h:i=j
 ·subst h;by_cases a:i<l.length<;>simp[a]
 ·simp[h]
def xH(rows:List (List Int))(op us:List Bool):Prop:=∀i,us.getD i false=true->cP op (rows.getD i [])=[]
theorem nj{op:List Bool}{c d:Int}(h:jK (op.set d.toNat false) c=true):jK op c=true/\c.toNat≠d.toNat:=by
 unfold jK at*;rw[jf]at h;by_cases e:d.toNat=c.toNat
 ·rw[if_pos]at h
  ·cases h
  ·refine⟨e,?_⟩;by_cases b:c.toNat<op.length
   ·exact b
   ·rw[if_neg (fun a=>b a.2),qe,zf (by omega)]at h;cases h
 ·rw[if_neg (fun a=>e a.1)]at h;exact⟨h,fun a=>e a.symm⟩
theorem aaQ{rows:List (List Int)}{op us:List Bool}{i:Nat}(g:xH rows op us)(k:mj rows op us i=true):xH rows (op.set (eC rows op i).toNat false) (us.set i true):=by
 obtain⟨l,n,h3⟩:=Ed k;intro j d;rw[jf]at d;rw[cP,wF];intro c m f;obtain⟨f,b⟩:=nj f;have a:c∈cP op (rows.getD j []):=by rw[cP,qI];exact⟨m,f⟩
 by_cases e:i=j
 ·subst e;rw[l]at a;simp at a;exact b (by rw[a])
 ·rw[if_neg (fun h=>e h.1)]at d;rw[g j d]at a;simp at a
theorem GU(n j:Nat):(qh n false).getD j false=false:=by
 rw[qe];by_cases h:j<n
 ·rw[qd (by simpa using h)];simp
 ·rw[zf (by simpa using h)];rfl
theorem agM{rows:List (List Int)}{r:List Int}(h:r∈rows):∃j,j<rows.length/\rows.getD j []=r:=by
 obtain⟨j,a,e⟩:=qG h;exact⟨j,a,by rw[qe,qd a];exact e⟩
def other(m i:Nat):Nat:=if i<m then i else i+1
def sZ(rows:List (List Int)):(Int->Prop)->(Int->Prop)->List (Int×Int)->Prop
 |_,_,[]=>True
 |D,U,(i,c)::t=>(0<=i/\i<rows.length)/\¬U i/\¬D c/\c∈rows.getD i.toNat []/\(∀a∈rows.getD i.toNat [],a≠c->D a)/\sZ rows (fun x=>D x∨x=c) (fun x=>U x∨x=i) t
def aid(op:List Bool)(c:Int):Prop:=0<=c/\jK op c=true
theorem aaR{op:List Bool}{c:Int}(h:jK op c=true):c.toNat<op.length:=by
 by_cases a:c.toNat<op.length
 ·exact a
 ·unfold jK at h;rw[qe,zf (by omega)]at h;cases h
theorem Xo{op:List Bool}{c d:Int}(f:0<=c)(e:0<=d):jK op c=true->c≠d->jK (op.set d.toNat false) c=true:=by
 intro h a;unfold jK;rw[jf,if_neg (fun b=>a (by omega))];exact h
theorem uI{op:List Bool}{d:Int}(h:jK op d=true):jK (op.set d.toNat false) d=false:=by
 unfold jK;rw[jf,if_pos ⟨rfl,aaR h⟩]
structure ahL (rows:List (List Int)) (op us:List Bool) (r:Pl):Prop where
 cF:r.steps.length+r.dead.length=op.count true
 used:r.used.count true=us.count true+r.steps.length
 keepU:∀i,us.getD i false=true->r.used.getD i false=true
 dead:∀c∈r.dead,aid op c
 deadN:r.dead.Nodup
 good:∀D U:Int->Prop,(∀c:Int,0<=c->c<op.length->(D c↔jK op c=false∨c∈r.dead))->(∀i:Nat,i<rows.length->(U i↔us.getD i false=true∨r.used.getD i false=false))->sZ rows D U r.steps
theorem ads{us:List Bool}{i:Nat}(h:us.getD i false=false)(a:i<us.length):(us.set i true).count true=us.count true+1:=by
 have e:us[i]=false:=by rw[qe,qd a]at h;exact h
 rw[List.count_set a,e];simp
theorem Tf{rows:List (List Int)}{n:Nat}(b:∀r∈rows,∀c∈r,0<=c/\c<n):∀k op us,op.length=n->us.length=rows.length->op.count true=k->ahL rows op us (cm rows k op us)
 |0,op,us,hl,hul,hc=>⟨by simp[cm,hc],by simp[cm],fun i h=>h,fun c h=>by simp[cm]at h,by simp[cm],fun _ _ _ _=>trivial⟩
 |k+1,op,us,hl,hul,hc=>by
  have u:=un hc;cases hst:mq rows op us with
  |some i=>
   obtain⟨g,q⟩:=uH hst;obtain⟨L,H,h3⟩:=Ed q;have f:rows.getD i []=rows[i]:=by rw[qe,qd g];rfl
   have x:=b _ (qg g) _ (f▸H);have G:=kp (op:=op) (j:=(eC rows op i).toNat) h3;have v:us.getD i false=false:=by
    simp only[mj,qz,wK]at q;exact q.1
   have N:=ads v (by omega);have a:=Tf b k (op.set (eC rows op i).toNat false) (us.set i true) (by simp[hl]) (by simp[hul]) (by omega);rw[oL u hst];generalize cm rows k (op.set (eC rows op i).toNat false) (us.set i true)=r at a;generalize K:eC rows op i=c at*;have E:r.used.getD i false=true:=a.keepU i (by rw[jf,if_pos ⟨rfl,by omega⟩]);have s:c∉r.dead:=fun h=>by
    have:=(a.dead c h).2;rw[uI h3]at this;cases this
   refine⟨by simp only[zb];have:=a.cF;omega,by simp only[zb];have:=a.used;omega,fun j F=>a.keepU j (by rw[jf];split;rfl;exact F),fun d p=>⟨(a.dead d p).1,(nj (a.dead d p).2).1⟩,a.deadN,fun D U w y=>?_⟩;have o:rows.getD ((i:Int)).toNat []=rows.getD i []:=by rw[qo]
   refine⟨by omega,?_,?_,by rw[o];exact H,?_,?_⟩
   ·rw[y i g,v,E];simp
   ·rw[w c x.1 (by omega),h3];simp[s]
   ·intro B t z;rw[o]at t;have A:=b _ (qg g) _ (f▸t);refine(w B A.1 (by omega)).2 (.inl ?_);cases ho:jK op B with
    |false=>rfl
    |true=>
     have:B∈cP op (rows.getD i []):=by rw[cP,qI];exact⟨t,ho⟩
     rw[L]at this;simp at this;exact absurd this z
   ·refine a.good _ _ (fun d l m=>?_) (fun j F=>?_)
    ·simp only[zH]at m;rw[w d l m];by_cases e:d=c
     ·subst e;simp[uI h3]
     ·cases ho:jK op d with
      |true=>rw[Xo l x.1 ho e];simp[e]
      |false=>
       have:jK (op.set c.toNat false) d=false:=by
        cases hh:jK (op.set c.toNat false) d with
        |false=>rfl
        |true=>rw[(nj hh).1]at ho;cases ho
       rw[this];simp
    ·rw[y j F,jf];by_cases e:i=j
     ·subst e;simp[hul,g]
     ·have M:¬((j:Int)=(i:Int)):=fun h=>e (by omega);simp[e,M]
  |none=>
   obtain⟨I,O,J⟩:=sY (rows:=rows) (us:=us) u;have G:=kp (op:=op) (j:=(gy rows op us).toNat) J;have a:=Tf b k (op.set (gy rows op us).toNat false) us (by simp[hl]) hul (by omega);rw[oM u hst];generalize cm rows k (op.set (gy rows op us).toNat false) us=r at a;generalize gy rows op us=c at*;have h3:jK op c=true:=J;have s:c∉r.dead:=fun h=>by
    have:=(a.dead c h).2;rw[uI h3]at this;cases this
   refine⟨by simp only[zb];have:=a.cF;omega,a.used,a.keepU,fun d p=>?_,by simp only[wR];exact⟨s,a.deadN⟩,fun D U w y=>?_⟩
   ·rcases za.1 p with rfl|p
    ·exact⟨I,h3⟩
    ·exact⟨(a.dead d p).1,(nj (a.dead d p).2).1⟩
   ·refine a.good D U (fun d l m=>?_) y;simp only[zH]at m;rw[w d l m];by_cases e:d=c
    ·subst e;simp[uI h3]
    ·have:jK (op.set c.toNat false) d=jK op d:=by
      cases ho:jK op d with
      |true=>exact Xo l I ho e
      |false=>
       cases hh:jK (op.set c.toNat false) d with
       |false=>rfl
       |true=>rw[(nj hh).1]at ho;cases ho
     rw[this];simp[e]
theorem Ee(us:List Bool):∀k (c:Int),c∈fd us k↔∃j:Nat,c=j/\j<k/\us.getD j false=false
 |0,c=>by simp[fd]
 |k+1,c=>by
  have e:=Ee us k c;unfold fd;cases h:us.getD k false with
  |true=>
   simp only[if_true];rw[e];constructor
   ·rintro⟨j,a,b,d⟩;exact⟨j,a,by omega,d⟩
   ·rintro⟨j,a,b,d⟩;refine⟨j,a,?_,d⟩;rcases zq.1 b with b|rfl
    ·exact b
    ·rw[h]at d;cases d
  |false=>
   simp only[ze,if_false,qB,qH];rw[e];constructor
   ·rintro(⟨j,a,b,d⟩|rfl)
    ·exact⟨j,a,by omega,d⟩
    ·exact⟨k,rfl,by omega,h⟩
   ·rintro⟨j,a,b,d⟩;rcases zq.1 b with b|rfl
    ·exact .inl ⟨j,a,b,d⟩
    ·exact .inr a
theorem Tg(us:List Bool):∀k,k<=us.length->(fd us k).length+(us.take k).count true=k
 |0,_=>by simp[fd]
 |k+1,hk=>by
  have a:=Tg us k (by omega);have e:us.getD k false=us[k]:=by rw[qe,qd (by omega)];rfl
  unfold fd;rw[zu (by omega),List.count_append,e];cases us[k]<;>simp<;>omega
theorem xI{rows:List (List Int)}{n:Nat}(a:∀r∈rows,∀c∈r,0<=c/\c<n):
  (dn n rows).steps.length+(dn n rows).dead.length=n/\(dn n rows).steps.length+(fd (dn n rows).used rows.length).length=rows.length/\(∀c∈(dn n rows).dead,0<=c/\c<n)/\(dn n rows).dead.Nodup/\
  (∀c∈fd (dn n rows).used rows.length,0<=c/\c<rows.length)/\sZ rows (·∈(dn n rows).dead) (·∈fd (dn n rows).used rows.length) (dn n rows).steps:=by
 have h:=Tf a n (qh n true) (qh rows.length false) (by simp) (by simp) (by simp);have p:(dn n rows).used.length=rows.length:=by unfold dn;rw[ud];simp
 have d:=Tg (dn n rows).used rows.length (by omega);rw[qi (by omega)]at d;refine⟨by have:=h.cF;simpa[dn]using this,?_,fun c b=>?_,h.deadN,fun c b=>?_,?_⟩
 ·have:=h.used;have m:(qh rows.length false).count true=0:=by simp[List.count_replicate]
  rw[m]at this;unfold dn at*;omega
 ·obtain⟨h0,k⟩:=h.dead c b;have:=aaR k;simp at this;omega
 ·obtain⟨j,rfl,o,_⟩:=(Ee _ _ _).1 b;omega
 ·refine h.good _ _ (fun c l e=>?_) (fun i f=>?_)
  ·have:jK (qh n true) c=true:=by
    simp at e;unfold jK;rw[qe,qd (by simp;omega)];simp
   rw[this];simp[dn]
  ·rw[GU,Ee];constructor
   ·rintro⟨j,o,_,g⟩;have:j=i:=by omega
    subst this;exact .inr g
   ·rintro(hh|hh)
    ·cases hh
    ·exact⟨i,rfl,f,hh⟩
theorem GV{rows:List (List Int)}:∀k op us i,(cm rows k op us).used.getD i false=true->us.getD i false=true∨∃c,((i:Int),c)∈(cm rows k op us).steps
 |0,_,_,_,h=>.inl h
 |k+1,op,us,i,h=>by
  by_cases a:op.contains true=true
  ·cases hst:mq rows op us with
   |some j=>
    rw[oL a hst]at h⊢;dsimp only at h⊢;rcases GV k _ _ i h with h1|⟨c,hc⟩
    ·rw[jf]at h1;by_cases b:j=i
     ·subst b;exact .inr ⟨_,qU⟩
     ·rw[if_neg (fun d=>b d.1)]at h1;exact .inl h1
    ·exact .inr ⟨c,qO _ hc⟩
   |none=>
    rw[oM a hst]at h⊢;exact GV k _ _ i h
  ·have a:op.contains true=false:=by simpa using a
   rw[Be a]at h⊢;exact .inl h
theorem GW{rows:List (List Int)}{n:Nat}(a:∀r∈rows,∀c∈r,0<=c/\c<(n:Int)):∀k op us,op.length=n->op.count true=k->∀c:Nat,op.getD c false=true->
  (c:Int)∈(cm rows k op us).dead∨∃i,(i,(c:Int))∈(cm rows k op us).steps
 |0,op,us,hl,hc,c,h=>by
  have:=Te hc;exfalso;have g:c<op.length:=by
   by_cases l:c<op.length
   ·exact l
   ·rw[qe,zf (by omega)]at h;cases h
  rw[List.count_eq_zero]at hc;rw[qe,qd g]at h;exact hc (h▸qg g)
 |k+1,op,us,hl,hc,c,h=>by
  have e:=un hc;cases hst:mq rows op us with
  |some j=>
   rw[oL e hst];obtain⟨f,m⟩:=uH hst;obtain⟨u,p,h3⟩:=Ed m;have b:rows.getD j []=rows[j]:=by rw[qe,qd f];rfl
   have s:=a _ (qg f) _ (b▸p);have o:=kp (op:=op) (j:=(eC rows op j).toNat) h3;dsimp only;by_cases d:(eC rows op j).toNat=c
   ·exact .inr ⟨j,by rw[show((c:Nat):Int)=eC rows op j by omega];exact qU⟩
   ·rcases GW a k (op.set (eC rows op j).toNat false) (us.set j true) (by simp[hl]) (by omega) c (by rw[jf,if_neg (fun l=>d l.1)];exact h)with h5|⟨i,h5⟩
    ·exact .inl h5
    ·exact .inr ⟨i,qO _ h5⟩
  |none=>
   rw[oM e hst];obtain⟨t,v,q⟩:=sY (rows:=rows) (us:=us) e;have o:=kp (op:=op) (j:=(gy rows op us).toNat) q;dsimp only;by_cases d:(gy rows op us).toNat=c
   ·exact .inl (by rw[show((c:Nat):Int)=gy rows op us by omega];exact qU)
   ·rcases GW a k (op.set (gy rows op us).toNat false) us (by simp[hl]) (by omega) c (by rw[jf,if_neg (fun l=>d l.1)];exact h)with h5|⟨i,h5⟩
    ·exact .inl (qO _ h5)
    ·exact .inr ⟨i,h5⟩
theorem Yv{rows:List (List Int)}{op us:List Bool}{c:Int}(h:xH rows op us):xH rows (op.set c.toNat false) us:=fun i a=>by
 have:=h i a;rw[cP,wF]at this⊢;exact fun d b e=>this d b (nj e).1
theorem Ef{rows:List (List Int)}{c:Int}(m:[c]∈rows):∀k op us,xH rows op us->(∀d:Int,d<0->d∉(cm rows k op us).dead)->0<=c->c∉(cm rows k op us).dead
 |0,_,_,_,_,_=>by simp[cm]
 |k+1,op,us,hu,_,h0=>by
  by_cases a:op.contains true=true
  ·cases hst:mq rows op us with
   |some j=>
    rw[oL a hst];dsimp only;obtain⟨_,l⟩:=uH hst;exact Ef m k _ _ (aaQ hu l) (fun d q b=>by
     have g:∀k op us,∀d∈(cm rows k op us).dead,0<=d:=plan_dead0;have:=g _ _ _ d b;omega) h0
   |none=>
    rw[oM a hst];obtain⟨t,u,r⟩:=sY (rows:=rows) (us:=us) a;dsimp only;intro b;rcases za.1 b with e|b
    ·obtain⟨j,s,f⟩:=agM m;have o:cP op [c]=[c]:=by rw[cP,zp,if_pos (show jK op c=true by rw[e];exact r)];rfl
     have p:mj rows op us j=true:=by
      unfold mj;rw[f,o];cases hus:us.getD j false with
      |false=>rfl
      |true=>have:=hu j hus;rw[f,o]at this;cases this
     obtain⟨i,n⟩:∃i,mq rows op us=some i:=Vt s p;rw[hst]at n;cases n
    ·exact Ef m k _ _ (Yv hu) (fun d q b=>by have:=plan_dead0 (rows:=rows) _ _ _ d b;omega) h0 b
  ·have a:op.contains true=false:=by simpa using a
   rw[Be a];simp
where
 plan_dead0 {rows:List (List Int)}:∀k op us,∀d∈(cm rows k op us).dead,0<=d
  |0,_,_,d,h=>by simp[cm]at h
  |k+1,op,us,d,h=>by
   by_cases a:op.contains true=true
   ·cases hst:mq rows op us with
    |some j=>rw[oL a hst]at h;exact plan_dead0 k _ _ d h
    |none=>
     rw[oM a hst]at h;rcases za.1 h with rfl|h
     ·exact(sY a).1
     ·exact plan_dead0 k _ _ d h
   ·have a:op.contains true=false:=by simpa using a
    rw[Be a]at h;simp at h
def ta(R:List (List Int)):(Int->Prop)->List (Int×Int)->Prop
 |_,[]=>True
 |D,(i,c)::t=>(0<=i/\i<R.length)/\¬D c/\c∈R.getD i.toNat []/\(∀a∈R.getD i.toNat [],a≠c->D a)/\ta R (fun x=>D x∨x=c) t
theorem BM{R S:List (List Int)}{K:Int->Prop}(g:∀r∈R,∀c∈r,¬K c)(s:∀r∈S,∀c∈r,K c):∀{a:List (Int×Int)} {D D' U:Int->Prop},sZ (R++S) D U a->(∀c,¬K c->(D c↔D' c))->
  ta R D' (a.filter fun p=>decide (p.1<R.length))
 |[],_,_,_,_,_=>trivial
 |(i,c)::t,D,D',U,h,hD=>by
  obtain⟨v,z,h3,k,w,x⟩:=h;rw[zp];by_cases m:i<R.length
  ·have e:(R++S).getD i.toNat []=R.getD i.toNat []:=by
    rw[qe,qn (by omega),qe]
   have j:R.getD i.toNat []∈R:=by
    rw[qe,qd (by omega)];exact qg _
   rw[e]at k w;have n:=g _ j c k;rw[if_pos (by simpa using m)];refine⟨⟨v.1,m⟩,fun u=>h3 ((hD c n).2 u),k,fun o b l=>(hD o (g _ j o b)).1 (w o b l),BM g s x fun d f=>?_⟩;rw[hD d f]
  ·rw[if_neg (by simpa using m)];have j:(R++S).getD i.toNat []∈S:=by
    have q:=v.2;rw[qw]at q;rw[qe,qj (by omega),qd (by omega)];exact qg _
   have n:=s _ j c k;refine BM g s x fun d f=>?_;rw[<-hD d f];exact⟨fun u=>u.elim id fun y=>absurd (y▸n) f,.inl⟩
def ev(t:UInt8)(k nd:Nat)(W M:aS)(y:Nat->UInt8)(c:Int):UInt8:=bE (fun i=>aN (az W c.toNat) i) y nd^^^Gf.mul t (aN (az M c.toNat) k)
theorem Ks{a b:Row}(h:a.length=b.length)(c:UInt8)(y:Nat->UInt8)(n:Nat):bE (fun j=>aN (df c a b) j) y n=bE (fun j=>aN b j) y n^^^Gf.mul c (bE (fun j=>aN a j) y n):=by
 rw[fu n (fun j _=>cH h j) fun _ _=>rfl];exact IT _ _ _ _ _
theorem Th{V:aS}{m:Nat}(y:Nat->UInt8)(n:Nat):∀{l:List Int} {a:Row},a.length=m->(∀c∈l,(az V c.toNat).length=m)->bE (fun j=>aN (cD V a l) j) y n=bE (fun j=>aN a j) y n^^^cC (fun c=>bE (fun j=>aN (az V c.toNat) j) y n) l
 |[],a,_,_=>by simp[cD,cC]
 |c::l,a,h,hv=>by
  have b:(az V c.toNat).length=a.length:=by rw[hv c (by simp),h]
  have:=Th (V:=V) y n (l:=l) (a:=df 1 (az V c.toNat) a) (by rw[ca b];exact h) fun d e=>hv d (by simp[e]);rw[cD,zD];rw[cD]at this;rw[this,Ks b,Gf.one_mul,cC];ac_rfl
theorem Ti(t:UInt8)(x:Int->UInt8):∀l,cC (fun c=>Gf.mul t (x c)) l=Gf.mul t (cC x l)
 |[]=>by simp[cC,Gf.mul_zero]
 |c::l=>by rw[cC,cC,Gf.jP,Ti t x l]
theorem Oi{W M:aS}{nd w:Nat}{l:List Int}{a m:Row}(b:a.length=nd)(e:m.length=w)(d:∀c∈l,(az W c.toNat).length=nd)(f:∀c∈l,(az M c.toNat).length=w)(t:UInt8)(k:Nat)(y:Nat->UInt8):
  bE (fun j=>aN (cD W a l) j) y nd^^^Gf.mul t (aN (cD M m l) k)=(bE (fun j=>aN a j) y nd^^^Gf.mul t (aN m k))^^^cC (ev t k nd W M y) l:=by
 rw[Th y nd b d,Kr k e f,Gf.jP];have:cC (ev t k nd W M y) l=cC (fun c=>bE (fun j=>aN (az W c.toNat) j) y nd) l^^^Gf.mul t (cC (fun c=>aN (az M c.toNat) k) l):=by
  rw[<-Ti,<-Tb];rfl
 rw[this];ac_rfl
def gz(rest:List eK)(nd:Nat)(s:aS×aS)(p:Int×Int):aS×aS:=
 let r:=rest.getD p.1.toNat ([],[])
 (s.1.set p.2.toNat (cD s.1 (aL nd) (r.1.filter fun c=>!decide (c=p.2))),s.2.set p.2.toNat (cD s.2 r.2 (r.1.filter fun c=>!decide (c=p.2))))
structure WOk (n nd w:Nat) (D:Int->Prop) (W M:aS):Prop where
 wl:W.length=n
 ml:M.length=n
 rw_:∀c:Int,D c->0<=c->c<(n:Int)->(az W c.toNat).length=nd/\(az M c.toNat).length=w
theorem Eg{W M b a:aS}{t:UInt8}{k nd:Nat}{y:Nat->UInt8}{c:Int}(e:az b c.toNat=az W c.toNat)(d:az a c.toNat=az M c.toNat):ev t k nd b a y c=ev t k nd W M y c:=by unfold ev;rw[e,d]
theorem Kt{n nd w:Nat}{rest:List eK}(B:∀e∈rest,iu n w e):∀{a:List (Int×Int)} {D:Int->Prop} {W M:aS},ta (rest.map qJ) D a->WOk n nd w D W M->
  WOk n nd w (fun c=>D c∨∃i,(i,c)∈a) (a.foldl (gz rest nd) (W,M)).1 (a.foldl (gz rest nd) (W,M)).2/\
  (∀c:Int,D c->0<=c->az (a.foldl (gz rest nd) (W,M)).1 c.toNat=az W c.toNat/\az (a.foldl (gz rest nd) (W,M)).2 c.toNat=az M c.toNat)/\
  (∀p∈a,∀t k y,k<w->Sat t k (ev t k nd (a.foldl (gz rest nd) (W,M)).1 (a.foldl (gz rest nd) (W,M)).2 y) (rest.getD p.1.toNat ([],[])))/\
  (∀t k x y,k<w->(∀c:Int,D c->0<=c->c<(n:Int)->x c=ev t k nd W M y c)->(∀p∈a,Sat t k x (rest.getD p.1.toNat ([],[])))->∀c:Int,(D c∨∃i,(i,c)∈a)->0<=c->c<(n:Int)->x c=ev t k nd (a.foldl (gz rest nd) (W,M)).1 (a.foldl (gz rest nd) (W,M)).2 y c)
 |[],D,W,M,_,hw=>⟨⟨hw.wl,hw.ml,fun c R=>hw.rw_ c (R.elim id fun⟨i,h⟩=>by cases h)⟩,fun _ _ _=>⟨rfl,rfl⟩,fun p r=>by(cases r),fun t k x y H N _ c R h0 o=>N c (R.elim id fun⟨i,h⟩=>by cases h) h0 o⟩
 |(i,c)::st,D,W,M,hg,hw=>by
  obtain⟨g1,g2,K,g4,g5⟩:=hg;have q:i.toNat<rest.length:=by have:=g1.2;rw[qx]at this;omega
  obtain⟨e,he⟩:∃e,e=rest[i.toNat]:=⟨_,rfl⟩
  have P:rest.getD i.toNat ([],[])=e:=by rw[qe,qd q,he];rfl
  have Z:(rest.map qJ).getD i.toNat []=e.1:=by rw[qe,qP,qd q,he];rfl
  rw[Z]at K g4;have l:=B e (he▸qg q);have Y:=l.cF c K;obtain⟨F,I⟩:∃F,F=e.1.filter (fun d=>!decide (d=c)):=⟨_,rfl⟩
  have u:∀d∈F,d∈e.1/\d≠c:=fun d b=>by rw[I,qI]at b;exact⟨b.1,by simpa using b.2⟩
  have f:∀d∈F,D d/\0<=d/\d<(n:Int):=fun d b=>⟨g4 d (u d b).1 (u d b).2,l.cF d (u d b).1⟩
  have l1:∀d∈F,(az W d.toNat).length=nd:=fun d b=>(hw.rw_ d (f d b).1 (f d b).2.1 (f d b).2.2).1;have l2:∀d∈F,(az M d.toNat).length=w:=fun d b=>(hw.rw_ d (f d b).1 (f d b).2.1 (f d b).2.2).2;have X:(aL nd).length=nd:=by simp[aL]
  have S:gz rest nd (W,M) (i,c)=(W.set c.toNat (cD W (aL nd) F),M.set c.toNat (cD M e.2 F)):=by
   unfold gz;dsimp only;rw[P,<-I]
  have T:=hw.wl;have ab:=hw.ml;have E:∀d:Nat,az (W.set c.toNat (cD W (aL nd) F)) d=if c.toNat=d then cD W (aL nd) F else az W d:=fun d=>kM (by omega)
  have z:∀d:Nat,az (M.set c.toNat (cD M e.2 F)) d=if c.toNat=d then cD M e.2 F else az M d:=fun d=>kM (by omega)
  have V:WOk n nd w (fun x=>D x∨x=c) (W.set c.toNat (cD W (aL nd) F)) (M.set c.toNat (cD M e.2 F)):=by
   refine⟨by simp[T],by simp[ab],fun d b h0 o=>?_⟩;rw[E,z];by_cases g:c.toNat=d.toNat
   ·rw[if_pos g,if_pos g];exact⟨jz X l1,jz l.len l2⟩
   ·rw[if_neg g,if_neg g];exact hw.rw_ d (b.elim id fun L=>absurd (by rw[L]) g) h0 o
  obtain⟨J,r2,r3,r4⟩:=Kt B g5 V;rw[zD,S];generalize st.foldl (gz rest nd) (W.set c.toNat (cD W (aL nd) F),M.set c.toNat (cD M e.2 F))=s at J r2 r3 r4;have v:∀d:Int,D d->0<=d->c.toNat≠d.toNat:=fun d b h0 L=>g2 (by rw[show c=d by omega];exact b);have keep:∀d:Int,D d->0<=d->az s.1 d.toNat=az W d.toNat/\az s.2 d.toNat=az M d.toNat:=fun d b h0=>by
   have:=r2 d (.inl b) h0;rw[E,z,if_neg (v d b h0),if_neg (v d b h0)]at this;exact this
  have U:∀t k y,ev t k nd s.1 s.2 y c=Gf.mul t (aN e.2 k)^^^cC (ev t k nd W M y) F:=fun t k y=>by
   have Q:=r2 c (.inr rfl) Y.1;rw[E,z,if_pos rfl,if_pos rfl]at Q;unfold ev;rw[Q.1,Q.2,Oi X l.len l1 l2 t k y,fl _ _ nd fun j _=>ct _ _,wg];rfl
  have G:∀t k y,cC (ev t k nd s.1 s.2 y) F=cC (ev t k nd W M y) F:=fun t k y=>jU fun d b=>Eg (keep d (f d b).1 (f d b).2.1).1 (keep d (f d b).1 (f d b).2.1).2;refine⟨⟨J.wl,J.ml,fun d b h0 o=>J.rw_ d ?_ h0 o⟩,keep,fun p r t k y H=>?_,fun t k x y H N hs d b h0 o=>?_⟩
  ·rcases b with b|⟨j,hj⟩
   ·exact .inl (.inl b)
   ·rcases za.1 hj with hj|hj
    ·injection hj with _ hj;exact .inl (.inr hj)
    ·exact .inr ⟨j,hj⟩
  ·rcases za.1 r with rfl|r
   ·dsimp only;rw[P];unfold Sat;rw[Bc _ l.nodup K,<-I,U,G,wt]
   ·exact r3 p r t k y H
  ·refine r4 t k x y H (fun d b h0 o=>?_) (fun p r=>hs p (qO _ r)) d ?_ h0 o
   ·by_cases g:d=c
    ·subst g;have A:=hs (i,d) (by simp);dsimp only at A;rw[P]at A;unfold Sat at A;rw[Bc _ l.nodup K,<-I,jU (y:=ev t k nd W M y) fun O m=>N O (f O m).1 (f O m).2.1 (f O m).2.2]at A;have h6:ev t k nd (W.set d.toNat (cD W (aL nd) F)) (M.set d.toNat (cD M e.2 F)) y d=Gf.mul t (aN e.2 k)^^^cC (ev t k nd W M y) F:=by
      unfold ev;rw[E,z,if_pos rfl,if_pos rfl,Oi X l.len l1 l2 t k y,fl _ _ nd fun j _=>ct _ _,wg];rfl
     rw[h6,<-A,wt]
    ·have m:D d:=b.elim id fun L=>absurd L g;rw[N d m h0 o];refine(Eg ?_ ?_).symm
     ·rw[E,if_neg (by omega)]
     ·rw[z,if_neg (by omega)]
   ·rcases b with b|⟨j,hj⟩
    ·exact .inl (.inl b)
    ·rcases za.1 hj with hj|hj
     ·injection hj with _ hj;exact .inl (.inr hj)
     ·exact .inr ⟨j,hj⟩
open Classical
def ms(r:Row):Nat:=r.findIdx (fun x=>x !=0)
section
variable {n:Nat} {m M A:aS}
structure ain (n:Nat) (M A:aS):Prop where
 even:bh n M
 evenA:bh n A
 span:∀v,Span n M v↔Span n A v
 len:M.length=cL A
 lead:∀x∈M,ms x<n
theorem adt(a:bh n m):Way n m n (cL m) (bF m (fM m)).2:=by
 have h:=IU a n (ql _);cases m with
 |nil=>rw[lr]at h;rw[cL,lr];exact h
 |cons x t=>
  have b:fM (x::t)=n:=by rw[fM,bu (by simp)];exact a _ (by simp)
  rw[cL,b];exact h
end
theorem PT:∀{l m:List Nat},l.Nodup->(∀x∈l,x∈m)->l.length<=m.length
 |[],_,_,_=>by simp
 |x::l,m,hd,h=>by
  rw[wR]at hd;have b:=h x (by simp);have d:=PT (l:=l) (m:=m.erase x) hd.2 fun y a=>(List.mem_erase_of_ne (fun c:y=x=>hd.1 (by rw[<-c];exact a))).2 (h y (by simp[a]));rw[List.length_erase_of_mem b]at d;have:=List.length_pos_of_mem b;simp;omega
def ot(nd i:Nat):Row:=(aL nd).set i 1
theorem adu(nd i:Nat):(ot nd i).length=nd:=by simp[ot,aL]
theorem adv{nd i:Nat}(a:i<nd)(j:Nat):aN (ot nd i) j=if j=i then 1 else 0:=by
 rw[ot,Og (by simpa[aL]using a),ct]
theorem adw{nd i:Nat}(a:i<nd)(y:Nat->UInt8):bE (fun j=>aN (ot nd i) j) y nd=y i:=
 IS _ _ i nd a fun j _=>by
  rw[adv a];by_cases h:j=i
  ·subst h;simp
  ·rw[if_neg h,if_neg (fun b=>h b.symm)]
def fw(n nd w:Nat)(dead:List Int):aS×aS:=
 (dead.zipIdx).foldl (fun s p=>(s.1.set p.1.toNat (ot nd p.2),s.2.set p.1.toNat (aL w))) (qh n [],qh n [])
theorem LQ(n nd w:Nat)(d:List Int)(c:Int):fw n nd w (d++[c])=((fw n nd w d).1.set c.toNat (ot nd d.length),(fw n nd w d).2.set c.toNat (aL w)):=by
 unfold fw;rw[List.zipIdx_append,wM];simp
theorem Oj{n nd w:Nat}{dead:List Int}(h:∀c∈dead,0<=c/\c<(n:Int))(o:dead.Nodup):∀k,k<=dead.length->
  WOk n nd w (·∈dead.take k) (fw n nd w (dead.take k)).1 (fw n nd w (dead.take k)).2/\∀i,(l:i<k)->(m:i<dead.length)->az (fw n nd w (dead.take k)).1 dead[i].toNat=ot nd i/\az (fw n nd w (dead.take k)).2 dead[i].toNat=aL w
 |0,_=>⟨⟨by simp[fw],by simp[fw],fun c b=>by simp at b⟩,fun i l=>by omega⟩
 |k+1,hk=>by
  obtain⟨j,m⟩:=Oj (nd:=nd) (w:=w) h o k (by omega);have d:k<dead.length:=by omega
  have s:=h _ (qg d);have e:dead.take (k+1)=dead.take k++[dead[k]]:=zu d;have u:(dead.take k).length=k:=by simp;omega
  rw[e,LQ,u];have q:=j.wl;have r:=j.ml;refine⟨⟨by simp[q],by simp[r],fun c b h0 h3=>?_⟩,fun i l g=>?_⟩
  ·dsimp only;rw[kM (by omega),kM (by omega)];by_cases a:dead[k].toNat=c.toNat
   ·rw[if_pos a,if_pos a];exact⟨adu _ _,by simp[aL]⟩
   ·rw[if_neg a,if_neg a];refine j.rw_ c ?_ h0 h3;rcases qB.1 b with b|b
    ·exact b
    ·rw[qH]at b;exact absurd (by rw[b]) a
  ·dsimp only;rw[kM (by omega),kM (by omega)];by_cases f:i=k
   ·subst f;rw[if_pos rfl,if_pos rfl];exact⟨rfl,rfl⟩
   ·have p:dead[k]≠dead[i]:=fun t=>f ((List.getElem_inj o).1 t).symm;have:=h _ (qg g);rw[if_neg (by omega),if_neg (by omega)];exact m i (by omega) g
def gU(nd:Nat)(known:List Bool)(vals:aS)(s:aS×aS):aS×aS:=
 (s.1.mapIdx fun c r=>if known.getD c false then aL nd else r,s.2.mapIdx fun c r=>if known.getD c false then az vals c else r)
theorem Eh{m:aS}{f:Nat->Row->Row}{c:Nat}(h:c<m.length):az (m.mapIdx f) c=f c (az m c):=by
 rw[bu (by simpa using h),bu h];simp
def gn(V:aS)(r:Row)(a:Row):Nat->Row
 |0=>a
 |c+1=>df (aN r c) (az V c) (gn V r a c)
theorem lx{V:aS}{m:Nat}(r:Row){a:Row}(b:a.length=m):∀{c:Nat},(∀i,i<c->(az V i).length=m)->(gn V r a c).length=m
 |0,_=>b
 |c+1,h=>by
  have:=lx r b (c:=c) fun i d=>h i (by omega);rw[gn,ca (by rw[h c (by omega),this])];exact this
theorem Ku{V:aS}{m:Nat}(r:Row){a:Row}(b:a.length=m)(j:Nat):∀{c:Nat},(∀i,i<c->(az V i).length=m)->aN (gn V r a c) j=aN a j^^^bE (fun i=>aN r i) (fun i=>aN (az V i) j) c
 |0,_=>by simp[gn,bE]
 |c+1,h=>by
  have e:=lx r b (c:=c) fun i d=>h i (by omega);rw[gn,cH (by rw[h c (by omega),e]),Ku r b j (c:=c) fun i d=>h i (by omega),bE];ac_rfl
theorem Tj{V:aS}{m:Nat}(r:Row){a:Row}(b:a.length=m)(y:Nat->UInt8)(n:Nat):∀{c:Nat},(∀i,i<c->(az V i).length=m)->bE (fun j=>aN (gn V r a c) j) y n=bE (fun j=>aN a j) y n^^^bE (fun i=>aN r i) (fun i=>bE (fun j=>aN (az V i) j) y n) c
 |0,_=>by simp[gn,bE]
 |c+1,h=>by
  have e:=lx r b (c:=c) fun i d=>h i (by omega);rw[gn,Ks (by rw[h c (by omega),e]),Tj r b y n (c:=c) fun i d=>h i (by omega),bE];ac_rfl
theorem Tk(f g a:Nat->UInt8):∀k,bE f (fun i=>g i^^^a i) k=bE f g k^^^bE f a k
 |0=>by simp[bE]
 |k+1=>by rw[bE,bE,bE,Tk f g a k,Gf.jP];ac_rfl
theorem Tl(t:UInt8)(f g:Nat->UInt8):∀k,bE f (fun i=>Gf.mul t (g i)) k=Gf.mul t (bE f g k)
 |0=>by simp[bE,Gf.mul_zero]
 |k+1=>by
  rw[bE,bE,Tl t f g k,Gf.jP];congr 1;rw[<-Gf.mul_assoc,<-Gf.mul_assoc,Gf.mul_comm (f k) t]
theorem Ei{n:Nat}(g:Nat->UInt8):∀{l:List Int},(∀x∈l,0<=x/\x<(n:Int))->l.Nodup->bE (fun j=>aN (fH n l) j) g n=cC (fun c=>g c.toNat) l
 |[],_,_=>by
  rw[cC];refine fl _ _ n fun j _=>?_;rw[Ea [] (fun x a=>by cases a) j];simp
 |c::l,h,hd=>by
  rw[wR]at hd;have o:=h c (by simp);have e:=Ei g (l:=l) (fun x a=>h x (by simp[a])) hd.2;have k:bE (fun j=>aN (fH n (c::l)) j) g n=bE (fun j=>if(j:Int)∈c::l then 1 else 0) g n:=fu n (fun j _=>Ea _ h j) fun _ _=>rfl;have d:bE (fun j=>aN (fH n l) j) g n=bE (fun j=>if(j:Int)∈l then 1 else 0) g n:=fu n (fun j _=>Ea _ (fun x a=>h x (by simp[a])) j) fun _ _=>rfl;rw[k,cC,<-e,d];rw[Kq (f:=fun j=>if(j:Int)∈l then 1 else 0) (f':=fun j=>if(j:Int)∈c::l then 1 else 0) (c:=c.toNat) (by rw[if_neg];rw[show((c.toNat:Nat):Int)=c by omega];exact hd.1) (fun i=>by
   by_cases b:i=c.toNat
   ·subst b;rw[if_pos rfl,if_pos];rw[show((c.toNat:Nat):Int)=c by omega];simp
   ·rw[if_neg b];have:(i:Int)≠c:=fun m=>b (by omega);simp[this]),if_pos (by omega)]
  ac_rfl
theorem kernel{nd:Nat}{a:aS}(S:bh nd a)(Q:cL a<nd):∃y:Nat->UInt8,(∃i,i<nd/\y i≠0)/\∀r∈a,bE (fun j=>aN r j) y nd=0:=by
 have w:=adt S;obtain⟨N,X,ah,M,Z,⟨p,W,Y,p3,V⟩,H⟩:=w;generalize hT:cL a=T at*;generalize (bF a (fM a)).2=rows at*;have u:∃j,j<nd/\∀i,i<T->p i≠j:=by
  have s:∀T nd:Nat,T<nd->∀p:Nat->Nat,(∀i,i<T->p i<nd)->∃j,j<nd/\∀i,i<T->p i≠j:=by
   intro T nd ab p U;by_cases f:∀j,j<nd->∃i,i<T/\p i=j
   ·exfalso;have E:∀j∈qC nd,j∈(qC T).map p:=fun j A=>by
     obtain⟨i,g,rfl⟩:=f j (qF.1 A);exact qu.2 ⟨i,qF.2 g,rfl⟩
    have:=PT yR E;simp at this;omega
   ·simp only[Classical.not_forall,not_exists,not_and]at f;obtain⟨j,A,h⟩:=f;exact⟨j,A,h⟩
  exact s T nd Q p W
 obtain⟨j,A,D⟩:=u;have G:∀i e,i<T->e<T->p i=p e->i=e:=fun i e o n h3=>by
  rcases yg i e with h|h|h
  ·have:=V i e h n;omega
  ·exact h
  ·have:=V e i h o;omega
 let y:Nat->UInt8:=fun c=>if c=j then 1 else cC (fun i=>if p i.toNat=c then aN (az rows i.toNat) j else 0) ((qC T).map fun i:Nat=>(i:Int))
 have hy:∀i,i<T->y (p i)=aN (az rows i) j:=fun i g=>by
  show(if p i=j then 1 else _)=_;rw[if_neg (D i g)];have P:((qC T).map fun i:Nat=>(i:Int)).Nodup:=by
   exact List.Pairwise.map _ (fun a b h v=>h (vT.1 v)) yR
  rw[Bc _ P (c:=(i:Int)) (qu.2 ⟨i,qF.2 g,rfl⟩),GO,zS]
  ·simp
  ·intro c q;rw[qI]at q;obtain⟨e,t,rfl⟩:=qu.1 q.1;have B:e≠i:=fun v=>by subst v;simp at q
   rw[qo,if_neg fun v=>B (G e i (qF.1 t) g v)]
 have R:∀c,c≠j->(∀i,i<T->p i≠c)->y c=0:=fun c q U=>by
  show(if c=j then 1 else _)=_;rw[if_neg q,GO];intro d hd;obtain⟨e,t,rfl⟩:=qu.1 hd;rw[qo,if_neg (U e (qF.1 t))]
 have J:y j=1:=by show(if j=j then 1 else _)=_;rw[if_pos rfl]
 refine⟨y,⟨j,A,by rw[J];decide⟩,fun r L=>?_⟩;refine Span.lin N (fun r=>bE (fun c=>aN r c) y nd) (fl _ _ nd fun c _=>ct _ _) (fun c x z o n=>Ks (by omega) c y nd) (fun r Q=>?_) ((M r).2 (Span.row S L));obtain⟨k,K,rfl⟩:=ft Q;by_cases l:k<T
 ·--the row's own beginning,and j
  have hf:∀c,c<nd->aN (az rows k) c=0∨y c=0∨c=p k∨c=j:=fun c q=>by
   by_cases o:c=j
   ·exact .inr (.inr (.inr o))
   ·by_cases n:∃i,i<T/\p i=c
    ·obtain⟨i,g,rfl⟩:=n;by_cases I:k=i
     ·subst I;exact .inr (.inr (.inl rfl))
     ·refine .inl ?_;rw[Y i g k K,if_neg I]
    ·exact .inr (.inl (R c o fun i g v=>n ⟨i,g,v⟩))
  have O:=W k l;have F:aN (az rows k) (p k)=1:=by rw[Y k l k K,if_pos rfl]
  have B:p k≠j:=D k l;have s:∀m,m<=nd->bE (fun c=>aN (az rows k) c) y m=(if p k<m then aN (az rows k) j else 0)^^^(if j<m then aN (az rows k) j else 0):=by
   intro m
   induction m with
   |zero=>intro _;simp[bE]
   |succ m ih=>
    intro hm;rw[bE,ih (by omega)];by_cases o:m=p k
    ·have ad:m≠j:=by omega
     rw[o,F,Gf.one_mul,hy k l];rw[if_neg (Nat.lt_irrefl _),if_pos (Nat.lt_succ_self _)];by_cases h3:j<p k
     ·rw[if_pos h3,if_pos (by omega)];ac_rfl
     ·rw[if_neg h3,if_neg (by omega)];ac_rfl
    ·by_cases n:m=j
     ·rw[n,J,Gf.mul_one];rw[if_neg (Nat.lt_irrefl j),if_pos (Nat.lt_succ_self j),zS];by_cases h3:p k<j
      ·rw[if_pos h3,if_pos (by omega)]
      ·rw[if_neg h3,if_neg (by omega)]
     ·have hz:Gf.mul (aN (az rows k) m) (y m)=0:=by
       rcases hf m (by omega)with h|h|h|h
       ·rw[h,Gf.zero_mul]
       ·rw[h,Gf.mul_zero]
       ·exact absurd h o
       ·exact absurd h n
      rw[hz,zS];have a1:(p k<m+1)↔(p k<m):=by omega
      have a2:(j<m+1)↔(j<m):=by omega
      simp only[a1,a2]
  rw[s nd (ql _),if_pos O,if_pos A,kY]
 ·exact fl _ _ nd fun c q=>H k (by omega) K c q
def di(n nd:Nat)(rest:List eK)(W:aS)(left:List Int)(ahead:aS):aS:=(left.map fun i=>cD W (aL nd) (rest.getD i.toNat ([],[])).1)++ahead.map fun r=>gn W r (aL nd) n
def fe(n w:Nat)(rest:List eK)(M:aS)(left:List Int)(ahead:aS):aS:=(left.map fun i=>cD M (rest.getD i.toNat ([],[])).2 (rest.getD i.toNat ([],[])).1)++ahead.map fun r=>gn M r (aL w) n
def xJ(nd:Nat)(known:List Bool)(vals:aS)(W M D:aS):aS:=vals.mapIdx fun c r=>if known.getD c false then r else gn D (az W c) (az M c) nd
def dj(n:Nat)(l:List eK)(ahead:aS):aS:=ahead++l.map fun e=>fH n e.1
def gP(w:Nat)(l:List eK)(ahead:aS):aS:=qh ahead.length (aL w)++l.map zC
def at_(X:aS)(k:Nat)(c:Int):UInt8:=aN (az X c.toNat) k
section
variable {n w:Nat} {l:List eK} {ahead:aS}
theorem Bf(b:bh n ahead):bh n (dj n l ahead):=fun r a=>by
 rcases qB.1 a with a|a
 ·exact b r a
 ·obtain⟨e,_,rfl⟩:=qu.1 a;exact rX _ _
theorem Bg(b:∀e∈l,iu n w e):bh w (gP w l ahead):=fun r a=>by
 rcases qB.1 a with a|a
 ·rw[(wT.1 a).2];simp[aL]
 ·obtain⟨e,c,rfl⟩:=qu.1 a;exact(b e c).len
theorem xn:(dj n l ahead).length=(gP w l ahead).length:=by simp[dj,gP]
theorem Ej(p:∀e∈l,iu n w e){X:aS}:fc n w (dj n l ahead) (gP w l ahead) X↔X.length=n/\bh w X/\∀k,k<w->(∀e∈l,Sat 1 k (at_ X k) e)/\∀r∈ahead,bE (fun j=>aN r j) (fun c=>aN (az X c) k) n=0:=by
 unfold fc;refine⟨fun⟨h1,h2,h3⟩=>⟨h1,h2,fun k q=>⟨fun e h=>?_,fun r t=>?_⟩⟩,fun⟨h1,h2,h3⟩=>⟨h1,h2,fun i g=>?_⟩⟩
 ·obtain⟨i,g,rfl⟩:=qG h;have:=h3 (ahead.length+i) (by simp[dj];omega);have b:az (dj n l ahead) (ahead.length+i)=fH n l[i].1:=by rw[bu (by simp[dj];omega)];simp[dj]
  have a:az (gP w l ahead) (ahead.length+i)=l[i].2:=by rw[bu (by simp[gP];omega)];simp[gP]
  rw[b,a]at this;have m:=congrArg (fun r=>aN r k) this;rw[gw h2 h1 _ k n (ql _),Ei _ (p _ h).cF (p _ h).nodup]at m;unfold Sat;rw[Gf.one_mul];exact m
 ·obtain⟨i,g,rfl⟩:=qG t;have:=h3 i (by simp[dj];omega);have b:az (dj n l ahead) i=ahead[i]:=by rw[bu (by simp[dj];omega)];simp[dj,ya g]
  have a:az (gP w l ahead) i=aL w:=by rw[bu (by simp[gP];omega)];simp[gP,g]
  rw[b,a]at this;have m:=congrArg (fun r=>aN r k) this;rw[gw h2 h1 _ k n (ql _),ct]at m;exact m
 ·have o:(az (gP w l ahead) i).length=w:=cb (Bg p) (by rw[<-xn (n:=n)];exact g);refine fq (n:=w) (hO h2 h1 _ n (ql _)) o fun k q=>?_;rw[gw h2 h1 _ k n (ql _)];simp only[dj,qw,qx]at g;by_cases f:i<ahead.length
  ·have b:az (dj n l ahead) i=ahead[i]:=by rw[bu (by simp[dj];omega)];simp[dj,ya f]
   have a:az (gP w l ahead) i=aL w:=by rw[bu (by simp[gP];omega)];simp[gP,f]
   rw[b,a,ct];exact(h3 k q).2 _ (qg f)
  ·obtain⟨d,rfl⟩:∃d,i=ahead.length+d:=⟨i-ahead.length,by omega⟩
   have s:d<l.length:=by omega
   have b:az (dj n l ahead) (ahead.length+d)=fH n l[d].1:=by rw[bu (by simp[dj];omega)];simp[dj]
   have a:az (gP w l ahead) (ahead.length+d)=l[d].2:=by rw[bu (by simp[gP];omega)];simp[gP]
   have h:=p _ (qg s);rw[b,a,Ei _ h.cF h.nodup];have:=(h3 k q).1 _ (qg s);unfold Sat at this;rw[Gf.one_mul]at this;exact this
end
structure gl (n w:Nat) (l:List eK) (ahead:aS) (known:List Bool) (vals:aS) (dead left:List Int) (W M:aS):Prop where
 eqs:∀e∈l,iu n w e
 ahd:bh n ahead
 pinv:jA n w l known vals
 calm:jV known vals l=false
 deadR:∀c∈dead,0<=c/\c<(n:Int)
 deadN:dead.Nodup
 deadK:∀c∈dead,kn known c=false
 lens:W.length=n/\M.length=n/\∀c:Nat,c<n->(az W c).length=dead.length/\(az M c).length=w
 evKnown:∀t k y,∀c:Int,0<=c->c<(n:Int)->kn known c=true->ev t k dead.length W M y c=Gf.mul t (aN (az vals c.toNat) k)
 evDead:∀t k y,∀i,(h:i<dead.length)->ev t k dead.length W M y dead[i]=y i
 evRest:∀t k y,k<w->(∀i∈left,Sat t k (ev t k dead.length W M y) ((aY known vals l).getD i.toNat ([],[])))->∀e∈aY known vals l,Sat t k (ev t k dead.length W M y) e
 leftR:∀i∈left,0<=i/\i<((aY known vals l).length:Int)
 evAll:∀t k x,k<w->(∀c:Int,0<=c->c<(n:Int)->kn known c=true->x c=Gf.mul t (aN (az vals c.toNat) k))->(∀e∈aY known vals l,Sat t k x e)->∀c:Int,0<=c->c<(n:Int)->x c=ev t k dead.length W M (fun i=>x (dead.getD i 0)) c
section
variable {n w:Nat} {l:List eK} {ahead:aS} {known:List Bool} {vals:aS} {dead left:List Int} {W M:aS}
theorem oN(h:jA n w l known vals)(c:∀e∈l,iu n w e):∀e∈aY known vals l,iu n w e:=fun e d=>by
 obtain⟨b,a,rfl⟩:=qu.1 (qI.1 d).1;exact h.CI (c b a)
theorem BN{a b:UInt8}:a^^^b=0↔a=b:=pI
theorem gl.Tm(S:gl n w l ahead known vals dead left W M){i:Int}(h:i∈left)(t:UInt8)(k:Nat)(y:Nat->UInt8):
  bE (fun j=>aN (cD W (aL dead.length) ((aY known vals l).getD i.toNat ([],[])).1) j) y dead.length=Gf.mul t (aN (cD M ((aY known vals l).getD i.toNat ([],[])).2 ((aY known vals l).getD i.toNat ([],[])).1) k)↔Sat t k (ev t k dead.length W M y) ((aY known vals l).getD i.toNat ([],[])):=by
 have m:=S.leftR i h;have b:i.toNat<(aY known vals l).length:=by omega
 have g:(aY known vals l).getD i.toNat ([],[])=(aY known vals l)[i.toNat]:=by rw[qe,qd b];rfl
 have a:=oN S.pinv S.eqs _ (qg b);rw[g];generalize (aY known vals l)[i.toNat]=e at*;have f:(aL dead.length).length=dead.length:=by simp[aL]
 have p:∀c∈e.1,(az W c.toNat).length=dead.length:=fun c d=>((S.lens.2.2 c.toNat) (by have:=a.cF c d;omega)).1;have o:∀c∈e.1,(az M c.toNat).length=w:=fun c d=>((S.lens.2.2 c.toNat) (by have:=a.cF c d;omega)).2;have:=Oi f a.len p o t k y;rw[fl _ _ dead.length fun j _=>ct _ _,wg]at this;rw[<-BN,this];unfold Sat;rw[BN];exact eq_comm
theorem gl.PU(S:gl n w l ahead known vals dead left W M)(r:Row)(t:UInt8)(k:Nat)(y:Nat->UInt8):
  bE (fun j=>aN (gn W r (aL dead.length) n) j) y dead.length=Gf.mul t (aN (gn M r (aL w) n) k)↔bE (fun j=>aN r j) (fun c=>ev t k dead.length W M y (c:Int)) n=0:=by
 have e:=Tj (V:=W) (m:=dead.length) r (a:=aL dead.length) (by simp[aL]) y dead.length (c:=n) fun i b=>(S.lens.2.2 i b).1;have d:=Ku (V:=M) (m:=w) r (a:=aL w) (by simp[aL]) k (c:=n) fun i b=>(S.lens.2.2 i b).2;rw[e,d,fl _ _ dead.length fun j _=>ct _ _,ct,wg,wg,<-BN,<-Tl,<-Tk];have:(fun c:Nat=>ev t k dead.length W M y (c:Int))=fun i=>bE (fun j=>aN (az W i) j) y dead.length^^^Gf.mul t (aN (az M i) k):=by
  funext c;unfold ev;rw[qo]
 rw[this]
theorem gl.up(S:gl n w l ahead known vals dead left W M){t:UInt8}{k:Nat}{y:Nat->UInt8}(g:k<w)
  (h:∀i,i<(di n dead.length (aY known vals l) W left ahead).length->bE (fun j=>aN (az (di n dead.length (aY known vals l) W left ahead) i) j) y dead.length=Gf.mul t (aN (az (fe n w (aY known vals l) M left ahead) i) k)):
  (∀e∈l,Sat t k (ev t k dead.length W M y) e)/\∀r∈ahead,bE (fun j=>aN r j) (fun c=>ev t k dead.length W M y (c:Int)) n=0:=by
 refine⟨(Tc S.pinv S.eqs S.calm g).2 ⟨fun c h0 o m=>S.evKnown t k y c h0 o m,S.evRest t k y g fun i f=>?_⟩,fun r p=>?_⟩
 ·obtain⟨j,d,rfl⟩:=qG f;have:=h j (by simp[di];omega);have b:az (di n dead.length (aY known vals l) W left ahead) j=cD W (aL dead.length) ((aY known vals l).getD left[j].toNat ([],[])).1:=by
   rw[bu (by simp[di];omega)];simp[di,d]
  have a:az (fe n w (aY known vals l) M left ahead) j=cD M ((aY known vals l).getD left[j].toNat ([],[])).2 ((aY known vals l).getD left[j].toNat ([],[])).1:=by
   rw[bu (by simp[fe];omega)];simp[fe,d]
  rw[b,a]at this;exact(S.Tm f t k y).1 this
 ·obtain⟨j,d,rfl⟩:=qG p;have:=h (left.length+j) (by simp[di];omega);have b:az (di n dead.length (aY known vals l) W left ahead) (left.length+j)=gn W ahead[j] (aL dead.length) n:=by
   rw[bu (by simp[di];omega)];simp[di]
  have a:az (fe n w (aY known vals l) M left ahead) (left.length+j)=gn M ahead[j] (aL w) n:=by
   rw[bu (by simp[fe];omega)];simp[fe]
  rw[b,a]at this;exact(S.PU _ t k y).1 this
theorem gl.down(S:gl n w l ahead known vals dead left W M){t:UInt8}{k:Nat}{x:Int->UInt8}(p:k<w)(D:∀e∈l,Sat t k x e)(z:∀r∈ahead,bE (fun j=>aN r j) (fun c=>x (c:Int)) n=0):
  (∀c:Int,0<=c->c<(n:Int)->x c=ev t k dead.length W M (fun i=>x (dead.getD i 0)) c)/\
  ∀i,i<(di n dead.length (aY known vals l) W left ahead).length->bE (fun j=>aN (az (di n dead.length (aY known vals l) W left ahead) i) j) (fun i=>x (dead.getD i 0)) dead.length=Gf.mul t (aN (az (fe n w (aY known vals l) M left ahead) i) k):=by
 obtain⟨B,s⟩:=(Tc S.pinv S.eqs S.calm p).1 D;have o:=S.evAll t k x p B s;refine⟨o,fun i v=>?_⟩;simp only[di,qw,qx]at v;by_cases a:i<left.length
 ·have m:az (di n dead.length (aY known vals l) W left ahead) i=cD W (aL dead.length) ((aY known vals l).getD left[i].toNat ([],[])).1:=by
   rw[bu (by simp[di];omega)];simp[di,a]
  have h:az (fe n w (aY known vals l) M left ahead) i=cD M ((aY known vals l).getD left[i].toNat ([],[])).2 ((aY known vals l).getD left[i].toNat ([],[])).1:=by
   rw[bu (by simp[fe];omega)];simp[fe,a]
  rw[m,h];refine(S.Tm (qg a) t k _).2 ?_;have A:=S.leftR _ (qg a);have b:left[i].toNat<(aY known vals l).length:=by omega
  have u:(aY known vals l).getD left[i].toNat ([],[])=(aY known vals l)[left[i].toNat]:=by rw[qe,qd b];rfl
  rw[u];have q:=s _ (qg b);have f:=oN S.pinv S.eqs _ (qg b);unfold Sat at q⊢;rw[<-q];exact jU fun c g=>(o c (f.cF c g).1 (f.cF c g).2).symm
 ·obtain⟨d,rfl⟩:∃d,i=left.length+d:=⟨i-left.length,by omega⟩
  have y:d<ahead.length:=by omega
  have m:az (di n dead.length (aY known vals l) W left ahead) (left.length+d)=gn W ahead[d] (aL dead.length) n:=by
   rw[bu (by simp[di];omega)];simp[di]
  have h:az (fe n w (aY known vals l) M left ahead) (left.length+d)=gn M ahead[d] (aL w) n:=by
   rw[bu (by simp[fe];omega)];simp[fe]
  rw[m,h];refine(S.PU _ t k _).2 ?_;rw[<-z _ (qg y)];exact fu n (fun _ _=>rfl) fun c g=>(o (c:Int) (by omega) (by omega)).symm
theorem pN(S:gl n w l ahead known vals dead left W M):bh dead.length (di n dead.length (aY known vals l) W left ahead)/\bh w (fe n w (aY known vals l) M left ahead):=by
 have d:∀i∈left,iu n w ((aY known vals l).getD i.toNat ([],[])):=fun i b=>by
  have h:=S.leftR i b;have e:i.toNat<(aY known vals l).length:=by omega
  rw[qe,qd e];exact oN S.pinv S.eqs _ (qg e)
 constructor
 ·intro r a;rcases qB.1 a with a|a
  ·obtain⟨i,b,rfl⟩:=qu.1 a;exact jz (by simp[aL]) fun c f=>((S.lens.2.2 c.toNat) (by have:=(d i b).cF c f;omega)).1
  ·obtain⟨x,g,rfl⟩:=qu.1 a;exact lx x (by simp[aL]) fun i b=>(S.lens.2.2 i b).1
 ·intro r a;rcases qB.1 a with a|a
  ·obtain⟨i,b,rfl⟩:=qu.1 a;exact jz (d i b).len fun c f=>((S.lens.2.2 c.toNat) (by have:=(d i b).cF c f;omega)).2
  ·obtain⟨x,g,rfl⟩:=qu.1 a;exact lx x (by simp[aL]) fun i b=>(S.lens.2.2 i b).2
theorem Bh:(di n dead.length (aY known vals l) W left ahead).length=(fe n w (aY known vals l) M left ahead).length:=by simp[di,fe]
theorem gl.Oh(S:gl n w l ahead known vals dead left W M)(U:1<=w)(d:cL (dj n l ahead)=n):cL (di n dead.length (aY known vals l) W left ahead)=dead.length:=by
 obtain⟨G,X⟩:=pN S;have Q:=GJ G;by_cases z:cL (di n dead.length (aY known vals l) W left ahead)<dead.length
 ·exfalso;obtain⟨y,⟨i,b,R⟩,T⟩:=kernel G z;have p:=S.up (t:=0) (k:=0) (y:=y) U fun i b=>by rw[T _ (mem_row b),Gf.zero_mul]
  have H:=Bf (l:=l) S.ahd;have u:bh 1 (qh (dj n l ahead).length (aL 1)):=fun r d=>by rw[(wT.1 d).2];simp[aL]
  have f:(dj n l ahead).length=(qh (dj n l ahead).length (aL 1)).length:=by simp
  have O:fc n 1 (dj n l ahead) (qh (dj n l ahead).length (aL 1)) (qh n (aL 1)):=by
   have a:bh 1 (qh n (aL 1)):=fun r d=>by rw[(wT.1 d).2];simp[aL]
   refine⟨by simp,a,fun i b=>?_⟩;refine fq (n:=1) (hO a (by simp) _ n (ql _)) (cb u (by simpa using b)) fun k J=>?_;rw[gw a (by simp) _ k n (ql _)];have E:az (qh (dj n l ahead).length (aL 1)) i=aL 1:=by rw[bu (by simpa using b)];simp
   rw[E,ct];have:∀g,g<=n->bE (fun j=>aN (az (dj n l ahead) i) j) (fun c=>aN (az (qh n (aL 1)) c) k) g=0:=by
    intro g
    induction g with
    |zero=>intro _;rfl
    |succ g ih=>
     intro I;have L:az (qh n (aL 1)) g=aL 1:=by rw[bu (by simp;omega)];simp
     rw[bE,ih (by omega),L,ct,Gf.mul_zero];rfl
   exact this n (ql _)
  have V:fc n 1 (dj n l ahead) (qh (dj n l ahead).length (aL 1)) ((qC n).map fun c:Nat=>[ev 0 0 dead.length W M y (c:Int)]):=by
   have a:bh 1 ((qC n).map fun c:Nat=>[ev 0 0 dead.length W M y (c:Int)]):=fun r d=>by obtain⟨c,_,rfl⟩:=qu.1 d;rfl
   have q:∀c:Nat,c<n->az ((qC n).map fun c:Nat=>[ev 0 0 dead.length W M y (c:Int)]) c=[ev 0 0 dead.length W M y (c:Int)]:=fun c o=>by rw[bu (by simpa using o)];simp
   refine⟨by simp,a,fun i b=>?_⟩;refine fq (n:=1) (hO a (by simp) _ n (ql _)) (cb u (by simpa using b)) fun k J=>?_;have A:k=0:=by omega
   subst A;rw[gw a (by simp) _ 0 n (ql _)];have E:az (qh (dj n l ahead).length (aL 1)) i=aL 1:=by rw[bu (by simpa using b)];simp
   rw[E,ct];have N:bE (fun j=>aN (az (dj n l ahead) i) j) (fun c=>aN (az ((qC n).map fun c:Nat=>[ev 0 0 dead.length W M y (c:Int)]) c) 0) n=bE (fun j=>aN (az (dj n l ahead) i) j) (fun c=>ev 0 0 dead.length W M y (c:Int)) n:=
    fu n (fun _ _=>rfl) fun c o=>by rw[q c o];rfl
   rw[N];have F:az (dj n l ahead) i∈ahead++l.map fun e=>fH n e.1:=mem_row b;obtain D|D:=qB.1 F
   ·exact p.2 _ D
   ·obtain⟨e,s,B⟩:=qu.1 D;rw[<-B,Ei _ (S.eqs e s).cF (S.eqs e s).nodup];have v:=p.1 e s;unfold Sat at v;rw[Gf.zero_mul]at v;refine Eq.trans (jU fun c o=>?_) v;have:=(S.eqs e s).cF c o;rw[show((c.toNat:Nat):Int)=c by omega]
  have u0:=(lu f H u d O).1;have P:=(lu f H u d V).1;have x:=P.trans u0.symm;have K:=S.deadR _ (qg b);have h:=congrArg (fun m=>aN (az m dead[i].toNat) 0) x;rw[bu (by simp;omega),bu (by simp;omega)]at h;simp only[wo,List.getElem_range,List.getElem_replicate,ct]at h;rw[show((dead[i].toNat:Nat):Int)=dead[i]by omega]at h;have h8:aN [ev 0 0 dead.length W M y dead[i]] 0=ev 0 0 dead.length W M y dead[i]:=rfl;rw[h8,S.evDead 0 0 y i b]at h;exact R h
 ·omega
theorem Ol(S:gl n w l ahead known vals dead left W M){D:aS}(j:D.length=dead.length)(f:bh w D){c:Nat}(d:c<n):
  (az (xJ dead.length known vals W M D) c).length=w/\∀k,aN (az (xJ dead.length known vals W M D) c) k=ev 1 k dead.length W M (fun i=>aN (az D i) k) (c:Int):=by
 have h:=S.pinv.vlen;have a:az (xJ dead.length known vals W M D) c=if known.getD c false then az vals c else gn D (az W c) (az M c) dead.length:=by
  unfold xJ;rw[Eh (by omega)]
 have e:=S.lens.2.2 c d;rw[a];cases hkn:known.getD c false with
 |true=>
  rw[if_pos rfl];refine⟨by have:=S.pinv.row c d;rw[hkn]at this;simpa using this,fun k=>?_⟩;have:=S.evKnown 1 k (fun i=>aN (az D i) k) (c:Int) (by omega) (by omega) (by unfold kn;rw[qo];exact hkn);rw[this,qo,Gf.one_mul]
 |false=>
  rw[if_neg (by simp)];have b:∀i,i<dead.length->(az D i).length=w:=fun i g=>cb f (by omega);refine⟨lx _ e.2 b,fun k=>?_⟩;rw[Ku _ e.2 k b];unfold ev;rw[qo,Gf.one_mul,vz]
theorem afB(h:vals.length=n){D:aS}:(xJ dead.length known vals W M D).length=n:=by simp[xJ,h]
theorem gl.Yw(S:gl n w l ahead known vals dead left W M){D:aS}(s:fc dead.length w (di n dead.length (aY known vals l) W left ahead) (fe n w (aY known vals l) M left ahead) D):fc n w (dj n l ahead) (gP w l ahead) (xJ dead.length known vals W M D):=by
 obtain⟨d,b,g⟩:=s;obtain⟨v,u⟩:=pN S;have f:=afB (dead:=dead) (known:=known) (W:=W) (M:=M) S.pinv.vlen (D:=D);refine(Ej S.eqs).2 ⟨f,fun r h=>?_,fun k p=>?_⟩
 ·obtain⟨c,a,rfl⟩:=ft h;exact(Ol S d b (by omega)).1
 ·have m:=S.up (t:=1) (k:=k) (y:=fun i=>aN (az D i) k) p fun i o=>by
   have:=congrArg (fun r=>aN r k) (g i o);rw[gw b d _ k dead.length (ql _)]at this;rw[this,Gf.one_mul]
  refine⟨fun e j=>?_,fun r h=>?_⟩
  ·have h3:=m.1 e j;unfold Sat at h3⊢;rw[<-h3];refine jU fun c a=>?_;have q:=(S.eqs e j).cF c a;unfold at_;rw[(Ol S d b (show c.toNat<n by omega)).2 k,show((c.toNat:Nat):Int)=c by omega]
  ·rw[<-m.2 r h];exact fu n (fun _ _=>rfl) fun c a=>(Ol S d b a).2 k
theorem gl.Vu(S:gl n w l ahead known vals dead left W M){X:aS}(q:fc n w (dj n l ahead) (gP w l ahead) X):fc dead.length w (di n dead.length (aY known vals l) W left ahead) (fe n w (aY known vals l) M left ahead) (dead.map fun c=>az X c.toNat):=by
 obtain⟨u,p,g⟩:=(Ej S.eqs).1 q;obtain⟨s,o⟩:=pN S;have d:bh w (dead.map fun c=>az X c.toNat):=fun r e=>by
  obtain⟨c,h,rfl⟩:=qu.1 e;have:=S.deadR c h;exact cb p (by omega)
 have a:(dead.map fun c=>az X c.toNat).length=dead.length:=by simp
 refine⟨a,d,fun i f=>fq (n:=w) (hO d a _ _ (ql _)) (cb o (by rw[<-Bh (n:=n) (w:=w)];exact f)) fun k b=>?_⟩;rw[gw d a _ k dead.length (ql _)];have h3:=(S.down (t:=1) (x:=at_ X k) b (g k b).1 (fun r e=>by
  have:=(g k b).2 r e;rw[<-this];exact fu n (fun _ _=>rfl) fun c h=>by unfold at_;rw[qo])).2 i f
 rw[Gf.one_mul]at h3;rw[<-h3];refine fu _ (fun _ _=>rfl) fun j m=>?_;unfold at_;rw[bu (by simpa using m),qe,qd m];simp
end
def gM(known:List Bool)(i:Nat):List (List Int):=((qC i).filter fun c=>known.getD c false).map fun c:Nat=>[(c:Int)]
theorem Om(known:List Bool)(i:Nat):gM known (i+1)=gM known i++if known.getD i false then[[(i:Int)]]else[]:=by
 unfold gM;rw[zI,zk,qS];cases h:known.getD i false<;>simp only[zp,h,yW]<;>rfl
theorem Fb(known:List Bool)(i:Nat):(gM known i).length<=i:=by
 unfold gM;rw[qx];exact q9 (qY _ _) (by simp)
def rowsOf(R:List eK)(known:List Bool)(n:Nat):List (List Int):=R.map qJ++gM known n
def gc(R:List eK)(known:List Bool)(n:Nat):Pl:=dn n (rowsOf R known n)
def nk(R:List eK)(known:List Bool)(n:Nat):List (Int×Int):=(gc R known n).steps.filter fun x=>decide (x.1<R.length)
def leftOf(R:List eK)(known:List Bool)(n:Nat):List Int:=(fd (gc R known n).used (rowsOf R known n).length).filter fun x=>decide (x<R.length)
theorem Bi{known:List Bool}{n:Nat}{r:List Int}(h:r∈gM known n):∃c:Nat,r=[(c:Int)]/\c<n/\known.getD c false=true:=by
 obtain⟨c,a,rfl⟩:=qu.1 h;rw[qI,qF]at a;exact⟨c,rfl,a.1,a.2⟩
theorem GX{rows:List (List Int)}:∀{d:List (Int×Int)} {D U:Int->Prop},sZ rows D U d->∀i c,(i,c)∈d->(0<=i/\i<rows.length)/\c∈rows.getD i.toNat []
 |[],_,_,_,_,_,h=>by cases h
 |(i',c')::t,D,U,hg,i,c,h=>by
  obtain⟨g,_,_,f,_,e⟩:=hg;rcases za.1 h with h|h
  ·injection h with a b;subst a;subst b;exact⟨g,f⟩
  ·exact GX e i c h
section
variable {n w:Nat} {l:List eK} {ahead:aS} {known:List Bool} {vals:aS}
theorem xo(f:∀e∈aY known vals l,iu n w e):∀r∈rowsOf (aY known vals l) known n,∀c∈r,0<=c/\c<(n:Int):=fun r a c b=>by
 rcases qB.1 a with a|a
 ·obtain⟨e,g,rfl⟩:=qu.1 a;exact(f e g).cF c b
 ·obtain⟨d,rfl,h,_⟩:=Bi a;rw[qH]at b;subst b;omega
theorem PW(m:∀e∈l,iu n w e)(f:jA n w l known vals):ta ((aY known vals l).map qJ) (·∈(gc (aY known vals l) known n).dead) (nk (aY known vals l) known n):=by
 have k:=oN f m;obtain⟨_,_,_,_,_,g⟩:=xI (xo k);have:=BM (R:=(aY known vals l).map qJ) (S:=gM known n) (K:=fun c=>kn known c=true) (fun r b c a=>?_) (fun r b c a=>?_) g (D':=(·∈(gc (aY known vals l) known n).dead)) fun c _=>Iff.rfl
 ·rw[qx]at this;exact this
 ·obtain⟨e,o,rfl⟩:=qu.1 b;obtain⟨h,i,rfl⟩:=qu.1 (qI.1 o).1;rw[GQ f h c a];simp
 ·obtain⟨d,rfl,_,j⟩:=Bi b;rw[qH]at a;subst a;unfold kn;rw[qo];exact j
theorem LR(o:∀e∈l,iu n w e)(m:jA n w l known vals):
  (∀c∈(gc (aY known vals l) known n).dead,0<=c/\c<(n:Int))/\(gc (aY known vals l) known n).dead.Nodup/\(∀c∈(gc (aY known vals l) known n).dead,kn known c=false)/\
  (∀i∈leftOf (aY known vals l) known n,0<=i/\i<((aY known vals l).length:Int))/\(gc (aY known vals l) known n).dead.length<=n:=by
 have k:=oN m o;obtain⟨r,p,a3,a4,a5,g⟩:=xI (xo k);refine⟨a3,a4,fun c h=>?_,fun i a=>?_,by unfold gc;omega⟩
 ·have b:=a3 c h;cases hk:kn known c with
  |false=>rfl
  |true=>
   exfalso;have f:[c]∈rowsOf (aY known vals l) known n:=qB.2 (.inr (qu.2 ⟨c.toNat,qI.2 ⟨qF.2 (by omega),hk⟩,by rw[show((c.toNat:Nat):Int)=c by omega]⟩));exact Ef f n (qh n true) (qh _ false) (fun i a=>by rw[GU]at a;cases a) (fun d q f=>by have:=a3 d f;omega) b.1 h
 ·unfold leftOf at a;rw[qI]at a;have:=a5 i a.1;have j:i<((aY known vals l).length:Int):=by simpa using a.2
  exact⟨this.1,j⟩
theorem adx(s:∀e∈l,iu n w e)(r:jA n w l known vals){c:Int}(u:0<=c)(t:c<(n:Int))(b:kn known c=false):c∈(gc (aY known vals l) known n).dead∨∃i,(i,c)∈nk (aY known vals l) known n:=by
 have h:=oN r s;obtain⟨_,_,_,_,_,g⟩:=xI (xo h);have a:=GW (xo h) n (qh n true) (qh (rowsOf (aY known vals l) known n).length false) (by simp) (by simp) c.toNat (by rw[qe,qd (by simp;omega)];simp);rw[show((c.toNat:Nat):Int)=c by omega]at a;rcases a with a|⟨i,a⟩
 ·exact .inl a
 ·refine .inr ⟨i,qI.2 ⟨a,?_⟩⟩;obtain⟨p,j⟩:=GX g i c a;by_cases k:i<((aY known vals l).length:Int)
  ·simpa using k
  ·exfalso;have o:=p.2;rw[rowsOf,qw,qx]at o;have q:(rowsOf (aY known vals l) known n).getD i.toNat []∈gM known n:=by
    rw[rowsOf,qe,qj (by rw[qx];omega),qd (by rw[qx];omega)];exact qg _
   obtain⟨d,m,_,f⟩:=Bi q;rw[m,qH]at j;subst j;unfold kn at b;rw[qo,f]at b;cases b
def RV(n w:Nat)(known:List Bool)(vals:aS)(R:List eK):aS×aS:=
 gU (gc R known n).dead.length known vals ((nk R known n).foldl (gz R (gc R known n).dead.length) (fw n (gc R known n).dead.length w (gc R known n).dead))
theorem ady{nd:Nat}{s:aS×aS}{c:Int}(d:0<=c)(b:c.toNat<s.1.length)(a:c.toNat<s.2.length):
  az (gU nd known vals s).1 c.toNat=(if kn known c then aL nd else az s.1 c.toNat)/\az (gU nd known vals s).2 c.toNat=if kn known c then az vals c.toNat else az s.2 c.toNat:=by
 unfold gU kn;exact⟨Eh b,Eh a⟩
theorem adz(I:∀e∈l,iu n w e)(hA:bh n ahead)(z:jA n w l known vals)(U:jV known vals l=false):
  gl n w l ahead known vals (gc (aY known vals l) known n).dead (leftOf (aY known vals l) known n) (RV n w known vals (aY known vals l)).1 (RV n w known vals (aY known vals l)).2:=by
 have G:=oN z I;have Q:=PW I z;have a:=fun c h0 f o=>adx (c:=c) I z h0 f o;obtain⟨K,P,M,f4,f5⟩:=LR I z;have b:∀j:Nat,j<(aY known vals l).length->(∃c,((j:Int),c)∈nk (aY known vals l) known n)∨(j:Int)∈leftOf (aY known vals l) known n:=fun j X=>by
  cases hu:(gc (aY known vals l) known n).used.getD j false with
  |true=>
   rcases GV n (qh n true) (qh _ false) j hu with h|⟨c,h⟩
   ·rw[GU]at h;cases h
   ·exact .inl ⟨c,qI.2 ⟨h,by simp;omega⟩⟩
  |false=>exact .inr (qI.2 ⟨(Ee _ _ _).2 ⟨j,rfl,by rw[rowsOf,qw,qx];omega,hu⟩,by simp;omega⟩)
 have s:∀e∈aY known vals l,∀c∈e.1,kn known c=false:=fun e A c N=>by
  obtain⟨e0,ad,rfl⟩:=qu.1 (qI.1 A).1;exact GQ z e0 c N
 unfold RV;obtain⟨R,m⟩:∃R,R=aY known vals l:=⟨_,rfl⟩
 rw[<-m]at G Q K P M f4 f5 b a s⊢;obtain⟨D,V⟩:∃D,D=(gc R known n).dead:=⟨_,rfl⟩
 obtain⟨ST,q⟩:∃ST,ST=nk R known n:=⟨_,rfl⟩
 rw[<-V,<-q]at Q a;rw[<-q]at b;rw[<-V]at K P M f5;rw[<-V,<-q];obtain⟨dk,du⟩:=Oj (nd:=D.length) (w:=w) K P D.length (ql _);rw[qR]at dk du;obtain⟨v,keep,T,F⟩:=Kt G Q dk;generalize ab:ST.foldl (gz R D.length) (fw n D.length w D)=S0 at*;have S:=v.wl;have W:=v.ml;have fr:∀c:Int,0<=c->c<(n:Int)->az (gU D.length known vals S0).1 c.toNat=(if kn known c then aL D.length else az S0.1 c.toNat)/\az (gU D.length known vals S0).2 c.toNat=if kn known c then az vals c.toNat else az S0.2 c.toNat:=fun c h0 f=>ady h0 (by omega) (by omega)
 have u:∀t k y (c:Int),0<=c->c<(n:Int)->kn known c=false->ev t k D.length (gU D.length known vals S0).1 (gU D.length known vals S0).2 y c=ev t k D.length S0.1 S0.2 y c:=fun t k y c h0 f o=>by
  have:=fr c h0 f;rw[o]at this;exact Eg this.1 this.2
 have B:∀t k y (c:Int),0<=c->c<(n:Int)->kn known c=true->ev t k D.length (gU D.length known vals S0).1 (gU D.length known vals S0).2 y c=Gf.mul t (aN (az vals c.toNat) k):=fun t k y c h0 f o=>by
  have:=fr c h0 f;rw[o,if_pos rfl,if_pos rfl]at this;unfold ev;rw[this.1,this.2,fl _ _ D.length fun j _=>ct _ _,wg]
 have J:∀t k y i,(h:i<D.length)->ev t k D.length (fw n D.length w D).1 (fw n D.length w D).2 y D[i]=y i:=fun t k y i h=>by
  have:=du i h h;unfold ev;rw[this.1,this.2,adw h,ct,Gf.mul_zero,zS]
 have H:∀i:Int,0<=i->i<(R.length:Int)->R.getD i.toNat ([],[])∈R:=fun i h0 f=>by
  rw[qe,qd (by omega)];exact qg _
 refine⟨I,hA,z,U,K,P,M,⟨by simp[gU,S],by simp[gU,W],fun c N=>?_⟩,B,fun t k y i h=>?_,fun t k y o L e A=>?_,by rw[<-m];exact f4,fun t k x o hx L c h0 f=>?_⟩
 ·have h:=fr (c:Int) (by omega) (by omega);rw[qo]at h;rw[h.1,h.2];cases o:kn known (c:Int)with
  |true=>
   rw[if_pos rfl,if_pos rfl];refine⟨by simp[aL],?_⟩;have:=z.GP (c:=(c:Int)) (by omega) (by omega) o
   rwa [qo]at this
  |false=>
   rw[if_neg (by simp),if_neg (by simp)];have:=v.rw_ (c:Int) (a _ (by omega) (by omega) o) (by omega) (by omega)
   rwa [qo]at this
 ·have O:=K _ (qg h);rw[u t k y _ O.1 O.2 (M _ (qg h)),<-J t k y i h];exact Eg (keep _ (qg h) O.1).1 (keep _ (qg h) O.1).2
 ·rw[<-m]at A L;obtain⟨j,X,rfl⟩:=qG A;have ej:R.getD ((j:Int)).toNat ([],[])=R[j]:=by rw[qo,qe,qd X];rfl
  rcases b j X with⟨c,N⟩|hlf
  ·have:=T _ N t k y o;dsimp only at this;rw[ej]at this;unfold Sat at this⊢;rw[<-this];exact jU fun d E=>u t k y d ((G _ A).cF d E).1 ((G _ A).cF d E).2 (s _ A d E)
  ·have:=L _ hlf
   rwa [ej]at this
 ·rw[<-m]at L;cases hkc:kn known c with
  |true=>rw[hx c h0 f hkc,B _ _ _ c h0 f hkc]
  |false=>
   rw[u _ _ _ c h0 f hkc];refine F t k x _ o (fun d E Z h3=>?_) (fun p hp=>?_) c (a c h0 f hkc) h0 f
   ·obtain⟨i,Y,rfl⟩:=qG E;rw[J t k _ i Y,qe,qd Y];rfl
   ·have r:p∈nk R known n:=q▸hp;unfold nk at r;rw[qI]at r;have Z:p.1<(R.length:Int):=by simpa using r.2
    have h3:0<=p.1:=by
     obtain⟨_,_,_,_,_,g⟩:=xI (rows:=rowsOf R known n) (n:=n) (by rw[m];exact xo (m▸G));exact(GX g p.1 p.2 r.1).1.1
    exact L _ (H _ h3 Z)
end
def uJ(n:Nat)(seed:Int)(l:List (Int×Row)):List eK:=l.map fun x=>(de n seed x.1,x.2)
def sg(p:Int×Int×Int)(l:List (Int×Row)):aS:=qh p.2.1.toNat (aL p.2.2.toNat)++l.map zC
structure Bj (p:Int×Int×Int) (x:Int×Row):Prop where
 id:bU x.1=true
 len:x.2.length=p.2.2.toNat
theorem afC{n:Nat}(d:1<=n)(c:n<=20)(seed id:Int):(de n seed id).Pairwise (·<·):=by
 have a:=Vp n seed id;have b:=DZ d c seed id;rw[List.Nodup]at b;exact(a.and b).imp fun⟨d,c⟩=>by omega
section
variable {p:Int×Int×Int} {seed:Int} {l:List (Int×Row)} {n w:Nat}
theorem agN(b:1<=n)(a:n<=20)(h:∀x∈l,Bj p x)(d:p.2.2.toNat=w):∀e∈uJ n seed l,iu n w e/\e.1.Pairwise (·<·):=fun e i=>by
 obtain⟨x,f,rfl⟩:=qu.1 i;exact⟨⟨fun c g=>mG b a g,DZ b a seed x.1,by rw[<-d];exact(h x f).len⟩,afC b a seed x.1⟩
theorem Yx(b:bJ p=true)(e:(bZ p).toNat=n)(d:∀x∈l,Bj p x):dj n (uJ n seed l) (bw p.1.toNat p.2.1.toNat)=dM p seed (l.map qJ):=by
 unfold dj dM uJ;rw[if_pos b,e];have:(l.map qJ).filter bU=l.map qJ:=wq.2 fun i a=>by
  obtain⟨x,c,rfl⟩:=qu.1 a;exact(d x c).id
 rw[this,wS,wS];rfl
theorem Yy(a:p.2.2.toNat=w):gP w (uJ n seed l) (bw p.1.toNat p.2.1.toNat)=sg p l:=by
 unfold gP sg uJ;rw[a,wS];simp[bw]
end
section
variable {n w:Nat} {l:List eK} {ahead:aS} {known:List Bool} {vals:aS} {dead left:List Int} {W M:aS}
theorem aaT(a:∀e∈l,iu n w e)(f:bh n ahead)(i:jA n w l known vals)(b:jV known vals l=true)(j:cL (dj n l ahead)=n):¬kE n (dj n l ahead) (gP w l ahead):=fun g=>by
 obtain⟨k,d,c⟩:=Yu i a b;have h:=pJ xn (Bf f) (Bg a) j g;exact c _ (((Ej a).1 h).2.2 k d).1
theorem gl.Xp(S:gl n w l ahead known vals dead left W M)(b:cL (dj n l ahead)=n){D:aS}(a:fc dead.length w (di n dead.length (aY known vals l) W left ahead) (fe n w (aY known vals l) M left ahead) D):
  kE n (dj n l ahead) (gP w l ahead)/\xJ dead.length known vals W M D=fD n (dj n l ahead) (gP w l ahead):=by
 have h:=lu xn (Bf S.ahd) (Bg S.eqs) b (S.Yw a);exact⟨h.2,h.1⟩
theorem gl.Xq(S:gl n w l ahead known vals dead left W M)(b:cL (dj n l ahead)=n)(a:kE n (dj n l ahead) (gP w l ahead)):fc dead.length w (di n dead.length (aY known vals l) W left ahead) (fe n w (aY known vals l) M left ahead) (dead.map fun c=>az (fD n (dj n l ahead) (gP w l ahead)) c.toNat):=
 S.Vu (pJ xn (Bf S.ahd) (Bg S.eqs) b a)
theorem gl.Yz(S:gl n w l ahead known vals dead left W M)(f:1<=w)(c:cL (dj n l ahead)=n):kE dead.length (di n dead.length (aY known vals l) W left ahead) (fe n w (aY known vals l) M left ahead)↔kE n (dj n l ahead) (gP w l ahead):=by
 obtain⟨e,d⟩:=pN S;have a:=S.Oh f c;exact⟨fun b=>(S.Xp c (pJ Bh e d a b)).1,fun b=>(lu Bh e d a (S.Xq c b)).2⟩
theorem LS{a b:aS}(h:a.length=b.length):fc 0 w a b []↔∀r∈b,r=aL w:=by
 unfold fc;constructor
 ·rintro⟨_,_,h3⟩ r c;obtain⟨i,e,rfl⟩:=ft c;exact(h3 i (by omega)).symm
 ·intro d;refine⟨rfl,fun r c=>(by cases c),fun i e=>?_⟩;have:az b i∈b:=mem_row (by omega);rw[d _ this];rfl
theorem afD(c:∀e∈l,e.1.Pairwise (·<·)):∀e∈aY known vals l,e.1.Pairwise (·<·):=fun e d=>by
 obtain⟨b,a,rfl⟩:=qu.1 (qI.1 d).1;exact(c b a).filter _
theorem aaU:(aY known vals l).length<=l.length:=by
 unfold aY;refine q9 (qY _ _) ?_;simp
theorem aaV{m:Nat}(c:∀e∈l,e.1.length<=m):∀e∈aY known vals l,e.1.length<=m:=fun e d=>by
 obtain⟨b,a,rfl⟩:=qu.1 (qI.1 d).1;exact q9 (qY _ _) (c b a)
end
end Wl
namespace Go.Vc
open Go
section
variable {B:aA} {α:Type} {C:Ctx} {h0 h:Heap} {As:List HP} {e t t2 k by_:Nat} {s:Sl} {f:α->List Value} {d:List α} {z:List Value}
theorem Own.On(y:C.Ok)(D:bN C.toCB t e k z by_)(I:∃i u,C.T.get t2=some i/\i.cG=.slice u)(m:∀x,(f x).length=k)
  (n:Own h e s k f d) (g:∀x,∀c∈f x,c.oneCell'=true) (i:Nat) (G:i<d.length) {ty:Nat} {K:Sl->Heap->Prop}
  (H:∀h',Own h' e s k f ((d.take i++d.drop (i+1))++d.drop (d.length-1))->aU (fun b=>¬s.on b) h h'->K ⟨s.ptr,d.length-1,s.cap⟩ h'):
  av C.P (qt #[t,t2] ty #[.slice s.ptr i s.cap,.slice (if s.cap=i+1 then s.ptr else s.ptr.map (·.add ((i+1)*k))) (s.len-(i+1)) (s.cap-(i+1))]) (.one (.sc .slc)) h K:=by
 obtain⟨Q,u,F,N⟩:=I;have r:C.P.underlying t2=some (.slice u):=by have:=y.cG F;rw[N]at this;exact jd this
 have B:=n.len;have j:=n.cap;have E:Seq h (fun _=>True) ⟨if s.cap=i+1 then s.ptr else s.ptr.map (·.add ((i+1)*k)),s.len-(i+1),s.cap-(i+1)⟩ k f (d.drop (i+1)):=Seq.drop (n.seq m (fun _ _=>trivial)) (i+1) j;obtain⟨v,a⟩:∃v:Sl,v=⟨if s.cap=i+1 then s.ptr else s.ptr.map (·.add ((i+1)*k)),s.len-(i+1),s.cap-(i+1)⟩:=⟨_,rfl⟩
 rw[<-a]at E;have O:(Value.slice (if s.cap=i+1 then s.ptr else s.ptr.map (·.add ((i+1)*k))) (s.len-(i+1)) (s.cap-(i+1)))=.slice v.ptr v.len v.cap:=by rw[a]
 have M:v.len=s.len-(i+1):=by rw[a]
 rw[O];unfold av qt;simp only[zG,wy,qy];refine ac.bind (ac.always (aG (D.under y)) ?_);refine ac.bind (ac.always (D.size y) ?_);refine ac.bind (ac.always (aG r) ?_);refine ac.bind (ac.pure' ?_);simp only[ze,if_false,wY,if_true];refine ac.bind (ac.pure' ?_);have l:i+v.len<=s.cap:=by omega
 rw[if_pos l];refine ac.bind (gb m E ?_);rcases n.head with⟨p1,p2,p3⟩|⟨b,rest,p1,p2,p3,p4⟩
 ·subst p3;simp at G
 ·rw[p1];refine ac.bind ?_;rw[add_eq,zR];have w:d=d.take i++((d.drop i).take (d.length-1-i)++d.drop (d.length-1)):=by
   have J:(d.drop i).drop (d.length-1-i)=d.drop (d.length-1):=by rw[zy];congr 1;omega
   rw[<-J,qE,qE]
  have p:((d.drop i).take (d.length-1-i)).length=d.length-1-i:=by simp;omega
  have o:(d.drop (i+1)).length=d.length-1-i:=by simp;omega
  refine eP (e:=e) (pre:=(d.take i).flatMap f) (old:=((d.drop i).take (d.length-1-i)).flatMap f) (post:=(d.drop (d.length-1)).flatMap f++rest) ?_ ?_ ?_ ?_ ?_
  ·have:(d.take i).flatMap f++((d.drop i).take (d.length-1-i)).flatMap f++((d.drop (d.length-1)).flatMap f++rest)=d.flatMap f++rest:=by
    conv=>rhs;rw[w]
    simp only[zc,qp]
   rw[this];exact p2
  ·rw[dg m,dg m,p,o]
  ·rw[dg m,qZ,w6 (by omega)];omega
  ·intro c L;obtain⟨x,_,q⟩:=zo.1 L;exact g x c q
  ·have A:i+v.len=d.length-1:=by omega
   rw[A];refine ac.pure' ⟨⟨some ⟨b,0,none⟩,d.length-1,s.cap⟩,rfl,?_⟩;rw[<-p1];refine H _ ⟨?_,.inr ⟨b,rest,p1,?_,p3,p4⟩⟩ ?_
   ·simp;omega
   ·rw[hJ p2,if_pos rfl];simp[zc]
   ·exact aU.iG p2 (fun A=>A ⟨0,p1⟩)
theorem aa.On(A:C.Ok)(H:aa B h0 h As)(j:Nat)(n:As[j]?=some (an e s k f d))(v:bN C.toCB t e k z by_)(r:∃i u,C.T.get t2=some i/\i.cG=.slice u)(w:∀x,(f x).length=k)
  (a:∀x,∀c∈f x,c.oneCell'=true) (i:Nat) (o:i<d.length) {ty:Nat} {K:Sl->Heap->Prop}
  (p:∀h',aa B h0 h' (As.set j (an e s k f ((d.take i++d.drop (i+1))++d.drop (d.length-1))))->K ⟨s.ptr,d.length-1,s.cap⟩ h'):
  av C.P (qt #[t,t2] ty #[.slice s.ptr i s.cap,.slice (if s.cap=i+1 then s.ptr else s.ptr.map (·.add ((i+1)*k))) (s.len-(i+1)) (s.cap-(i+1))]) (.one (.sc .slc)) h K:=
 (H.own j n).On A v r w a i o fun h' x y=>p h' (H.step j n fun q m _=>⟨y.mono fun b _ g l=>g (m.2 b l),x,fun b g=>⟨x.lt g,.inl (m.2 b g)⟩⟩)
end
section
variable {C:Ctx} {t t2 e k:Nat} {z:List Value} {by_:Nat} {α:Type} {h h0:Heap} {p q B:aA} {s v:Sl} {f:α->List Value} {l l2:List α} {As:List HP}
end
section
variable {C:Ctx} {t e k:Nat} {z:List Value} {by_:Nat} {h:Heap} {s:Sl}
theorem YA(b:C.Ok)(c:bN C.toCB t e k z by_)(n:Nat){x y:Int}(j:x=n)(d:y=n)(f:n<=s.cap){K:Sl->Heap->Prop}(l:K ⟨s.ptr,n,n⟩ h):
  av C.P (wE t (.slice s.ptr s.len s.cap) none (some (vX xh x)) (some (vX xh y))) (.one (.sc .slc)) h K:=by
 subst j;subst d;have i:aI C.P (zQ true s.len s.cap none (some (vX xh (n:Int))) (some (vX xh (n:Int)))) (0,n,n):=fun w=>by
  have g:¬((n:Int)<0):=by omega
  have x2:¬((s.cap:Int)<(n:Int)):=by omega
  have x3:(n:Int)<=(s.cap:Int):=by omega
  have m:(0:Int)<=(n:Int):=by omega
  simp[zQ,va,asIntOf,g,x2,x3,m]
 unfold av wE;refine ac.bind (ac.always (aG (c.under b)) ?_);show ac C.P (vJ t (.slice s.ptr s.len s.cap) none (some (vX xh (n:Int))) (some (vX xh (n:Int)))) h _;unfold vJ;refine ac.bind (ac.always (aG (c.under b)) ?_);refine ac.bind (ac.always i ?_);refine ac.bind (ac.always (c.size b) ?_);have o:(if n=0 then s.ptr else s.ptr.map (·.add (0*k)))=s.ptr:=by
  split
  ·rfl
  ·cases s.ptr with
   |none=>rfl
   |some a=>simp[Addr.add]
 refine ac.pure' ⟨⟨s.ptr,n,n⟩,?_,l⟩;show Value.slice (if n=0 then s.ptr else s.ptr.map (·.add (0*k))) (n-0) (n-0)=_;rw[o];rfl
end
theorem aaW(a b:ByteArray):(a==b)=decide (a=b):=by
 cases a with
 |mk a=>
  cases b with
  |mk b=>
   have h:((ByteArray.mk a)==(ByteArray.mk b))=(a==b):=rfl;rw[h,yC,beq_iff_eq,decide_eq_true_eq,ByteArray.mk.injEq]
theorem Xr(a:ByteArray):(a==a)=true:=by rw[aaW,decide_eq_true rfl]
theorem aeS{a b:ByteArray}(h:a≠b):(a==b)=false:=by rw[aaW,decide_eq_false h]
section
variable {α:Type}
def sM(x:ByteArray)(v:α):List (ByteArray×α)->List (ByteArray×α)
 |[]=>[(x,v)]
 |(k,u)::t=>if k=x then(k,v)::t else(k,u)::sM x v t
def cN(x:ByteArray):List (ByteArray×α)->Option α
 |[]=>none
 |(k,u)::t=>if k=x then some u else cN x t
def iB(x:ByteArray):List (ByteArray×α)->List (ByteArray×α)
 |[]=>[]
 |(k,u)::t=>if k=x then t else(k,u)::iB x t
theorem PX{x:ByteArray}{v:α}:∀{l:List (ByteArray×α)},cN x l=some v->(x,v)∈l
 |[],h=>by cases h
 |(k,u)::t,h=>by
  unfold cN at h;split at h
  ·rename_i a;injection h with h;subst a;subst h;exact qU
  ·exact qO _ (PX h)
theorem LU{x:ByteArray}:∀{l:List (ByteArray×α)},cN x l=none↔∀p∈l,p.1≠x
 |[]=>by simp[cN]
 |(k,u)::t=>by
  unfold cN;have a:=LU (x:=x) (l:=t);by_cases h:k=x
  ·rw[if_pos h];simp[h]
  ·rw[if_neg h,a];simp[h]
theorem GY{x:ByteArray}(v:α):∀{l:List (ByteArray×α)},cN x l=none->sM x v l=l++[(x,v)]
 |[],_=>rfl
 |(k,u)::t,h=>by
  unfold cN at h;split at h
  ·cases h
  ·rename_i a;unfold sM;rw[if_neg a,GY v h];rfl
theorem Ek{x:ByteArray}:∀{l:List (ByteArray×α)},cN x l=none->iB x l=l
 |[],_=>rfl
 |(k,u)::t,h=>by
  unfold cN at h;split at h
  ·cases h
  ·rename_i a;unfold iB;rw[if_neg a,Ek h]
structure lX (h:Heap) (r:Nat) (g:α->Value) (kvs:List (ByteArray×α)):Prop where
 ex:∃es clock,h[r]?=some (.map es clock)/\es.toList.map (fun e=>(e.key,e.val))=kvs.map (fun p=>(Value.string p.1,g p.2))
variable {P:Program} {h h':Heap} {r:Nat} {g:α->Value} {kvs:List (ByteArray×α)}
theorem lX.ai{p:aA}(b:lX h r g kvs)(c:aU p h h')(i:p r):lX h' r g kvs:=by
 obtain⟨f,a,e,d⟩:=b.ex;exact⟨f,a,c.block i e,d⟩
theorem lX.lt(b:lX h r g kvs):r<h.size:=by
 obtain⟨e,a,c,d⟩:=b.ex;exact lt_of_block c
theorem uK{x:ByteArray}:∀{L:List MapEntry} {kvs:List (ByteArray×α)} {n:Nat},L.map (fun e=>(e.key,e.val))=kvs.map (fun p=>(Value.string p.1,g p.2))->cN x kvs=none->
  vH .string (.string x) L n=some none
 |[],_,_,_,_=>rfl
 |e::L,[],_,h,_=>by simp at h
 |e::L,(k,u)::t,n,h,hg=>by
  simp only[zT,List.cons.injEq,Prod.mk.injEq]at h;obtain⟨⟨b,c⟩,h3⟩:=h;unfold cN at hg;split at hg
  ·cases hg
  ·rename_i a;have:(x==k)=false:=aeS fun e=>a e.symm;simp only[vH,Instr.sameNow,b,this];exact uK h3 hg
theorem uL{x:ByteArray}{u:α}:∀{L:List MapEntry} {kvs:List (ByteArray×α)} {n:Nat},L.map (fun e=>(e.key,e.val))=kvs.map (fun p=>(Value.string p.1,g p.2))->cN x kvs=some u->
  ∃j e,vH .string (.string x) L n=some (some (n+j,g u))/\L[j]?=some e/\e.key=.string x/\
   (∀(v:α) (f:MapEntry->MapEntry),(∀e,e.key=Value.string x->((f e).key,(f e).val)=(Value.string x,g v))->(L.modify j f).map (fun e=>(e.key,e.val))=(sM x v kvs).map (fun p=>(Value.string p.1,g p.2)))/\
   (L.eraseIdx j).map (fun e=>(e.key,e.val))=(iB x kvs).map (fun p=>(Value.string p.1,g p.2))
 |[],[],_,_,hg=>by cases hg
 |e::L,[],_,h,_=>by simp at h
 |[],_::_,_,h,_=>by simp at h
 |e::L,(k,w)::t,n,h,hg=>by
  simp only[zT,List.cons.injEq,Prod.mk.injEq]at h;obtain⟨⟨a,d⟩,h3⟩:=h;unfold cN at hg;by_cases b:k=x
  ·subst b;rw[if_pos rfl]at hg;cases hg;refine⟨0,e,?_,rfl,a,fun v f c=>?_,?_⟩
   ·simp only[vH,Instr.sameNow,a,Xr,d,w9]
   ·simp only[sM,if_true,List.modify_zero_cons,zT,h3,c e a]
   ·simp only[iB,if_true,List.eraseIdx_cons_zero,h3]
  ·rw[if_neg b]at hg;obtain⟨j,q,i,m,o,l,r⟩:=uL (n:=n+1) h3 hg;refine⟨j+1,q,?_,m,o,fun v f c=>?_,?_⟩
   ·have:(x==k)=false:=aeS fun e=>b e.symm;simp only[vH,Instr.sameNow,a,this];rw[i];congr 3;omega
   ·simp only[sM,b,if_false,List.modify_succ_cons,zT,l v f c,a,d]
   ·simp only[iB,b,if_false,List.eraseIdx_cons_succ,zT,r,a,d]
theorem xK{a:TypeId}{x:ByteArray}{b:Bool}(c:P.underlying a=some .string)(n:Nat):aI P (Instr.checkKey b (n+1) a (.string x)) ():=by
 unfold Instr.checkKey;exact(aG c).bind .pure
theorem Tn{t:Nat}{K:Option Nat->Heap->Prop}(g:α->Value)(a:∀r h',r=h.size->lX h' r g []->aU (fun _=>True) h h'->K (some r) h'):
  av P (vG t none) (.one (.sc .mp)) h K:=by
 unfold av vG;refine ac.bind (ac.oG (ac.pure' ⟨some h.size,rfl,a _ _ rfl ⟨#[],0,by simp,rfl⟩ (aU.push _ _ _)⟩))
theorem lX.To{t i k:Nat}{u0:α}{x:ByteArray}(p:lX h r g kvs)(m:P.underlying t=some (.map i k))(a:P.underlying i=some .string)(q:aI P (zeroValue k) (g u0))
  {rt:Rt} {K:rt.den->Heap->Prop} (b:∃d:rt.den,Value.tuple #[g ((cN x kvs).getD u0),.bool (cN x kvs).isSome]=rt.enc d/\K d h):
  av P (vM t (.map (some r)) (.string x) true) rt h K:=by
 obtain⟨s,c,o,f⟩:=p.ex;unfold av vM;refine ac.bind (ac.always (aG m) ?_);refine ac.bind (ac.IB o (fun _ _ _ h=>by cases h) ?_);refine ac.bind (ac.pure' ?_);refine ac.bind (ac.always (xK a 9999) ?_);unfold Instr.findKey;refine ac.bind (ac.bind (ac.always (aG a) ?_));cases hg:cN x kvs with
 |none=>
  rw[uK f hg];refine ac.pure' ?_;refine ac.bind (ac.always q ?_);refine ac.bind (ac.pure' (ac.pure' ?_));rw[hg]at b;exact b
 |some u=>
  obtain⟨j,e,l,_⟩:=uL (x:=x) (n:=0) f hg;rw[l];refine ac.pure' ?_;refine ac.bind (ac.pure' (ac.pure' ?_));rw[hg]at b;exact b
theorem lX.update{t i A:Nat}{x:ByteArray}(v:α)(y:lX h r g kvs)(m:P.underlying t=some (.map i A))(b:P.underlying i=some .string)
  {K:Unit->Heap->Prop} (f:∀h',lX h' r g (sM x v kvs)->aU (·≠r) h h'->h'.size=h.size->K () h'):
  ac P (vk t (.map (some r)) (.string x) (g v)) h K:=by
 obtain⟨p,d,a,c⟩:=y.ex;have k:=lt_of_block a;unfold vk;refine ac.bind (ac.always (aG m) ?_);refine ac.bind (ac.IB a (fun _ _ _ h=>by cases h) ?_);refine ac.bind (ac.always (xK b 9999) ?_);unfold Instr.findKey;refine ac.bind (ac.bind (ac.always (aG b) ?_));have ai:∀o,aU (·≠r) h (h.setIfInBounds r o):=fun o=>aU.iG a (fun B=>B rfl);cases hg:cN x kvs with
 |none=>
  rw[uK c hg];refine ac.pure' ?_;refine ac.IC a (fun _ _ _ h=>by cases h) ?_;refine f _ ⟨_,_,by rw[wb,if_pos rfl,if_pos k],?_⟩ (ai _) (by simp);rw[GY v hg];simp[c]
 |some u=>
  obtain⟨j,e,l,s,w,q,_⟩:=uL (x:=x) (n:=0) c hg;rw[l];refine ac.pure' ?_;have z:p[0+j]?=some e:=by rw[zR,<-yY];exact s
  dsimp only;rw[z];simp only[qN,Option.getD_some,w];refine ac.bind ?_;unfold Instr.keyThatStays;have D:Instr.sameBits 10000 (.string x) (.string x)=true:=by simp only[Instr.sameBits,Xr]
  rw[D,if_pos rfl];refine ac.pure' ?_;refine ac.IC a (fun _ _ _ h=>by cases h) ?_;refine f _ ⟨_,_,by rw[wb,if_pos rfl,if_pos k],?_⟩ (ai _) (by simp);rw[Array.toList_modify,zR];exact q v _ fun _ _=>rfl
theorem lX.delete{t k w ty:Nat}{m:Array TypeId}{x:ByteArray}(s:lX h r g kvs)(d:m[0]?=some t)(q:P.underlying t=some (.map k w))(b:P.underlying k=some .string)
  {K:Value->Heap->Prop} (i:∀h',lX h' r g (iB x kvs)->aU (·≠r) h h'->h'.size=h.size->K (.tuple #[]) h'):
  ac P (vl m ty #[.map (some r),.string x]) h K:=by
 obtain⟨z,f,a,c⟩:=s.ex;have l:=lt_of_block a;unfold vl;rw[d];simp only[zG,wy,qy];refine ac.bind (ac.always (aG q) ?_);refine ac.bind ?_;refine ac.IB a (fun _ _ _ h=>by cases h) ?_;dsimp only;refine ac.bind (ac.always (xK b 9999) ?_);unfold Instr.findKey;refine ac.bind (ac.bind (ac.always (aG b) ?_));have ai:∀o,aU (·≠r) h (h.setIfInBounds r o):=fun o=>aU.iG a (fun y=>y rfl);cases hg:cN x kvs with
 |none=>
  rw[uK c hg];refine ac.pure' ?_;refine ac.bind (ac.IC a (fun _ _ _ h=>by cases h) ?_);refine ac.pure' (i _ ⟨_,_,by rw[wb,if_pos rfl,if_pos l],?_⟩ (ai _) (by simp));rw[c,Ek hg]
 |some u=>
  obtain⟨j,e,p,A,B,_,v⟩:=uL (x:=x) (n:=0) c hg;rw[p];refine ac.pure' ?_;refine ac.bind (ac.IC a (fun _ _ _ h=>by cases h) ?_);refine ac.pure' (i _ ⟨_,_,by rw[wb,if_pos rfl,if_pos l],?_⟩ (ai _) (by simp));rw[zR,Array.toList_eraseIdxIfInBounds];exact v
end
def kq{α:Type}(r:Nat)(g:α->Value)(a:List (ByteArray×α)):HP:=
 ⟨fun h q=>lX h r g a/\q r,fun x c=>⟨x.1.ai c x.2,x.2⟩,fun x b=>⟨x.1,b _ x.2⟩⟩
section
variable {α:Type} {P:Program} {B:aA} {h0 h h':Heap} {As:List HP} {r:Nat} {g:α->Value} {kvs:List (ByteArray×α)}
theorem lX.len{t m n ty:Nat}{c:Array TypeId}(f:lX h r g kvs)(b:c[0]?=some t)(d:P.underlying t=some (.map m n))
  {K:Int->Heap->Prop} (e:K (kvs.length:Int) h):av P (vw c ty #[.map (some r)]) (.one (.sc (.int .i64))) h K:=by
 obtain⟨k,a,j,i⟩:=f.ex;unfold av vw;rw[b];simp only[zG,wy];refine ac.bind (ac.always (aG d) ?_);dsimp only;refine ac.bind (ac.IB j (fun _ _ _ h=>by cases h) ?_);have l:k.size=kvs.length:=by have:=congrArg y6 i;simpa using this
 refine ac.pure' ⟨(kvs.length:Int),?_,e⟩;rw[l];rfl
theorem aa.agO{t:Nat}(H:aa B h0 h As)(g:α->Value){K:Option Nat->Heap->Prop}(b:∀r h',aa B h0 h' (As++[kq r g []])->K (some r) h'):av P (vG t none) (.one (.sc .mp)) h K:=
 Tn g fun r h' d a c=>b r h' (H.comp (.one (any c) ⟨a,by omega,a.lt⟩))
theorem aa.map(H:aa B h0 h As)(i:Nat)(a:As[i]?=some (kq r g kvs)):lX h r g kvs:=(H.at i a).1
theorem aa.agP{t f o:Nat}{x:ByteArray}(v:α)(H:aa B h0 h As)(i:Nat)(d:As[i]?=some (kq r g kvs))(k:P.underlying t=some (.map f o))(a:P.underlying f=some .string)
  {K:Unit->Heap->Prop} (l:∀h',aa B h0 h' (As.set i (kq r g (sM x v kvs)))->K () h'):ac P (vk t (.map (some r)) (.string x) (g v)) h K:=
 (H.map i d).update v k a fun h' j m s=>l h' (H.step i d fun q c n=>⟨m.mono fun b _ p e=>p (e▸c.2),j,j.lt,.inl c.2⟩)
theorem aa.aaX{t j s ty:Nat}{l:Array TypeId}{x:ByteArray}(H:aa B h0 h As)(i:Nat)(f:As[i]?=some (kq r g kvs))(a:l[0]?=some t)(m:P.underlying t=some (.map j s))(c:P.underlying j=some .string)
  {K:Value->Heap->Prop} (n:∀h',aa B h0 h' (As.set i (kq r g (iB x kvs)))->K (.tuple #[]) h'):ac P (vl l ty #[.map (some r),.string x]) h K:=
 (H.map i f).delete a m c fun h' k o v=>n h' (H.step i f fun q d p=>⟨o.mono fun b _ u e=>u (e▸d.2),k,k.lt,.inl d.2⟩)
end
section
variable {α:Type}
theorem GZ{x:ByteArray}{p:ByteArray×α}:∀{l:List (ByteArray×α)},p∈iB x l->p∈l
 |[],h=>by cases h
 |(k,u)::t,h=>by
  unfold iB at h;split at h
  ·exact qO _ h
  ·rcases za.1 h with h|h
   ·rw[h];exact qU
   ·exact qO _ (GZ h)
theorem LV{x:ByteArray}:∀{l:List (ByteArray×α)},(l.map qJ).Nodup->((iB x l).map qJ).Nodup/\∀p∈iB x l,p.1≠x
 |[],_=>⟨List.Pairwise.nil,fun p h=>by cases h⟩
 |(k,u)::t,h=>by
  obtain⟨d,c⟩:=wR.1 h;unfold iB;split
  ·rename_i e;exact⟨c,fun p a b=>d (by rw[e,<-b];exact qu.2 ⟨p,a,rfl⟩)⟩
  ·rename_i e;obtain⟨f,i⟩:=LV (x:=x) c;refine⟨wR.2 ⟨fun g=>d ?_,f⟩,fun p a=>?_⟩
   ·obtain⟨p,a,b⟩:=qu.1 g;exact qu.2 ⟨p,GZ a,b⟩
   ·rcases za.1 a with a|a
    ·rw[a];exact e
    ·exact i p a
theorem PY{x:ByteArray}:∀{l:List (ByteArray×α)},cN x l≠none->(iB x l).length+1=l.length
 |[],h=>absurd rfl h
 |(k,u)::t,h=>by
  unfold iB;unfold cN at h;split
  ·rfl
  ·rename_i e;rw[if_neg e]at h;rw[zb,zb,PY h]
theorem LW{x y:ByteArray}(a:y≠x):∀{l:List (ByteArray×α)},cN y (iB x l)=cN y l
 |[]=>rfl
 |(k,u)::t=>by
  unfold iB;split
  ·rename_i e;show cN y t=if k=y then some u else cN y t
   rw[if_neg (fun h=>a (by rw[<-h,e]))]
  ·show(if k=y then some u else cN y (iB x t))=if k=y then some u else cN y t
   rw[LW a]
theorem PZ{x y:ByteArray}{v:α}:∀{l:List (ByteArray×α)},cN y (l++[(x,v)])=(cN y l).or (if x=y then some v else none)
 |[]=>by
  show(if x=y then some v else none)=_;rfl
 |(k,u)::t=>by
  show(if k=y then some u else cN y (t++[(x,v)]))=(if k=y then some u else cN y t).or _;split
  ·rfl
  ·exact PZ
end
end Go.Vc
