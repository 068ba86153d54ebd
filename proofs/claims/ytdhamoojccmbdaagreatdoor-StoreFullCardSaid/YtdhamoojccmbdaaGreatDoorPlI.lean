/- Part of the proofs that the laws of this seat answer true whatever the input reads, and leave it as it was; no condition. -/
import Derived.Test.YtdhamoojccmbdaaGreatDoorPlG
import Derived.Test.YtdhamoojccmbdaaGreatDoorPlD
import Derived.Test.YtdhamoojccmbdaaGreatDoorPlA
set_option linter.unusedVariables false
set_option linter.unusedSimpArgs false
open List renaming all_eq_true -> qM, any_eq_false -> zZ, any_eq_true -> wR, append_assoc -> qo, drop_drop -> zx, filter_append -> zh, filter_cons -> zm, filter_eq_nil_iff -> wA, filter_eq_self -> wg, filter_nil -> yO, find?_eq_none -> wL, find?_eq_some_iff_append -> wD, flatMap_append -> zb, foldl_append -> wE, foldl_cons -> zB, getD_eq_getElem?_getD -> qe, getElem?_append_left -> qn, getElem?_append_right -> qj, getElem?_cons_succ -> qz, getElem?_cons_zero -> yc, getElem?_eq_getElem -> qd, getElem?_eq_none -> ze, getElem?_map -> qN, getElem?_replicate -> zX, getElem?_set -> qZ, getElem?_toArray -> zM, getElem_append_left -> w5, getElem_map -> zY, getElem_mem -> qg, getElem_of_mem -> qF, length_append -> qu, length_cons -> zi, length_filter_le -> q7, length_map -> qw, length_set -> zE, length_take -> qX, map_append -> qQ, map_map -> wK, mem_append -> qE, mem_cons -> zc, mem_cons_of_mem -> qU, mem_cons_self -> q8, mem_filter -> qI, mem_flatMap -> zO, mem_map -> qx, mem_of_find?_eq_some -> y0, mem_of_getElem? -> ya, mem_or_eq_of_mem_set -> wB, mem_range -> qH, mem_replicate -> wM, mem_singleton -> qG, mem_take_iff_getElem -> wZ, nodup_cons -> yi, nodup_range -> vu, pairwise_cons -> zL, pairwise_iff_getElem -> zq, range -> qC, range_eq_range' -> yB, range_succ -> zF, replicate -> qh, take_append_drop -> qD, take_length -> qR, take_of_length_le -> qi, take_succ_eq_append_getElem -> zp
open Bool renaming and_eq_true -> qy, false_eq_true -> zd, not_eq_true' -> wV, not_false -> wU, not_true -> wS, or_eq_true -> wx
open Nat renaming add_sub_cancel -> yN, le_refl -> ql, le_trans -> zl, lt_succ_iff_lt_or_eq -> zn, lt_trichotomy -> yd, min_eq_left -> wJ, zero_add -> wk
open UInt8 renaming xor_comm -> vl, xor_zero -> zQ, zero_xor -> wc
open Int renaming ofNat_inj -> vH, toNat_natCast -> qp
open Prod renaming fst -> qK, snd -> zA
open Go.Builtin renaming append_ -> qq
open Go.Value renaming int -> vL
open Go.IntKind renaming i64 -> vR
open Go.Instr renaming slice -> vz, sliceAt -> wy, sliceBound -> yW, sliceBounds -> zP
namespace Wl
open Go Go.Vc
def cL(n:Int):Nat:=
 if n=0 then 0 else
  let m:=n.natAbs;let e:=m.log2
  (if n<0 then 2^63 else 0)+(1023+e)*2^52+(m-2^e)*2^(52-e)
structure Eo where
 ax:Nat
 ay:Nat
 sx:Nat
 sy:Nat
 left:Int
 leg:Int
 second:Bool
def pk:Nat:=4607182418800017408
def fs0:Eo:=⟨0,0,pk,0,1,1,false⟩
def od(a b:Nat):Nat:=(gm.add a b).getD 0
def agH(a b:Nat):Nat:=(gm.sub a b).getD 0
def tz(a b:Nat):Nat:=(gm.mul a b).getD 0
def tx(a b:Nat):Nat:=agH (tz a 0) (tz b pk)
def ty(a b:Nat):Nat:=od (tz a pk) (tz b 0)
def Eo.on(s:Eo):Eo:=
 if s.left-1>0 then{s with ax:=od s.ax s.sx,ay:=od s.ay s.sy,left:=s.left-1}
 else{ax:=od s.ax s.sx,ay:=od s.ay s.sy,sx:=tx s.sx s.sy,sy:=ty s.sx s.sy,leg:=if s.second then s.leg+1 else s.leg,left:=if s.second then s.leg+1 else s.leg,second:=!s.second}
def kf:Nat->Eo
 |0=>fs0
 |n+1=>(kf n).on
def Eo.ok(s:Eo):Bool:=
 (gm.add s.ax s.sx).isSome&&(gm.add s.ay s.sy).isSome&&(gm.mul s.sx 0).isSome&&(gm.mul s.sy pk).isSome&&(gm.sub (tz s.sx 0) (tz s.sy pk)).isSome&&(gm.mul s.sx pk).isSome&&(gm.mul s.sy 0).isSome&&(gm.add (tz s.sx pk) (tz s.sy 0)).isSome&&decide (1<=s.left)&&decide (s.left<=100)&&decide (1<=s.leg)&&decide (s.leg<=100)
structure ZJ where
 x:Int
 y:Int
 dx:Int
 dy:Int
 left:Int
 leg:Int
 turns:Int
def agI:ZJ:=⟨0,0,1,0,1,1,0⟩
def ZJ.on(s:ZJ):ZJ:=
 if s.left-1=0 then
  {x:=s.x+s.dx,y:=s.y+s.dy,dx:=-s.dy,dy:=s.dx,leg:=if(s.turns+1)%2=0 then s.leg+1 else s.leg,left:=if(s.turns+1)%2=0 then s.leg+1 else s.leg,turns:=s.turns+1}
 else{s with x:=s.x+s.dx,y:=s.y+s.dy,left:=s.left-1}
def fx:Nat->ZJ
 |0=>agI
 |n+1=>(fx n).on
theorem agr:∀n,n<64->(kf n).ok=true:=by decide+kernel
theorem afp:∀n,n<64->((kf n).ax==cL (fx n).x&&(kf n).ay==cL (fx n).y&&decide (-4<=(fx n).x)&&decide ((fx n).x<=4)&&decide (-4<=(fx n).y)&&decide ((fx n).y<=4))=true:=by decide+kernel
theorem afq:∀i,i<9->∀j,j<9->gm.sub (cL ((i:Nat)-4:Int)) (cL ((j:Nat)-4:Int))=some (cL ((i:Int)-(j:Int))):=by decide+kernel
theorem afr:∀i,i<17->gm.mul (cL ((i:Nat)-8:Int)) (cL ((i:Nat)-8:Int))=some (cL (((i:Nat)-8:Int)*((i:Nat)-8:Int))):=by decide+kernel
theorem afs:∀i,i<9->∀j,j<9->gm.add (cL (((i:Nat):Int)*(i:Nat))) (cL (((j:Nat):Int)*(j:Nat)))=some (cL (((i:Nat):Int)*(i:Nat)+((j:Nat):Int)*(j:Nat))):=by decide+kernel
theorem ZK:∀m,m<129->∀n,n<129->gm.order (cL (m:Nat)) (cL (n:Nat))=some (compare m n):=by decide+kernel
theorem Xv{seq a c:Int}{b:List UInt8}(d:b.length<=48):dL (jA seq a c b)=none:=by
 unfold dL jA;rw[Ao (by decide) (by decide) (by simp[ci];omega)];dsimp only;rw[if_neg (by rintro⟨h,_⟩;exact absurd h (by decide))]
theorem lE{m:aG}{c:List UInt8}(h:c∈bh m):dL c=none:=by
 unfold bh at h;obtain⟨i,_,rfl⟩:=qx.1 h;exact Xv (by simp;omega)
theorem OO{α:Type}{R:α->α->Prop}(m:∀a b c,R a b->R b c->R a c){l:List α}(h:∀i (k:i+1<l.length),R (l[i]'(by omega)) l[i+1]):l.Pairwise R:=by
 have g:∀d i (f:i+(d+1)<l.length),R (l[i]'(by omega)) l[i+(d+1)]:=by
  intro d
  induction d with
  |zero=>exact fun i f=>h i f
  |succ d ih=>exact fun i f=>m _ _ _ (ih i (by omega)) (h (i+(d+1)) (by omega))
 refine zq.2 fun i j k f n=>?_;have:=g (j-i-1) i (by omega);have e:i+(j-i-1+1)=j:=by omega
 simp only[e]at this;exact this
theorem OP{α:Type}{R:α->α->Prop}{l:List α}(h:l.Pairwise R)(i:Nat)(a:i+1<l.length):R (l[i]'(by omega)) l[i+1]:=zq.1 h i (i+1) (by omega) a (by omega)
theorem lm{α:Type}{l:List α}{i:Nat}(d:α)(h:i<l.length):l.getD i d=l[i]:=by rw[qe,qd h];rfl
theorem lF(n a b:Int):eS n a b=true↔a<=n/\n<=b:=by unfold eS;rw[qy,decide_eq_true_eq,decide_eq_true_eq]
theorem ZL(l:List Int)(e:Int):oZ l e=true↔l.Pairwise (·<·)/\∀x∈l,0<=x/\x<=e:=by
 unfold oZ;rw[qM];constructor
 ·intro h;have j:∀i (d:i<l.length),(0<=l[i]/\l[i]<=e)/\(i=0∨l.getD (i-1) 0<l[i]):=fun i d=>by
   have:=h i (qH.2 d);unfold jg at this;rw[lm 0 d,qy,lF,wx,decide_eq_true_eq,decide_eq_true_eq]at this;exact this
  refine⟨OO (R:=fun a b:Int=>a<b) (fun a b c f g=>Int.lt_trans f g) fun i d=>?_,fun x k=>?_⟩
  ·rcases(j (i+1) d).2 with h0|h0
   ·omega
   ·rw[yN,lm 0 (by omega)]at h0;exact h0
  ·obtain⟨i,d,rfl⟩:=qF k;exact(j i d).1
 ·rintro⟨f,g⟩ i d;have d:=qH.1 d;unfold jg;rw[lm 0 d,qy,lF,wx,decide_eq_true_eq,decide_eq_true_eq];refine⟨g _ (qg d),?_⟩;cases i with
  |zero=>exact .inl rfl
  |succ i=>exact .inr (by rw[yN,lm 0 (by omega)];exact OP f i d)
theorem RQ(a b c:ByteArray)(d:ez a b=true)(e:ez b c=true):ez a c=true:=Ia _ _ _ d e
theorem ce(m:aG):bS m=true↔ki m=true/\m.drives.Pairwise (·<·)/\(∀k∈m.drives,0<=k/\k<=63)/\m.objs.length<=12/\(∀e∈m.objs,gj m e=true)/\m.objs.Pairwise (fun a b=>ez a.name b.name=true)/\m.objs.Pairwise (fun a b=>a.object≠b.object):=by
 unfold bS;rw[qy,qy,qy,ZL,decide_eq_true_eq,qM];have q:(∀i∈qC m.objs.length,pc m i=true)↔(∀e∈m.objs,gj m e=true)/\m.objs.Pairwise (fun a b=>ez a.name b.name=true)/\m.objs.Pairwise (fun a b=>a.object≠b.object):=by
  constructor
  ·intro h;have o:∀i (l:i<m.objs.length),gj m m.objs[i]=true/\(i=0∨ez (oY m.objs (i-1)).name m.objs[i].name=true)/\∀y∈m.objs.take i,y.object≠m.objs[i].object:=fun i l=>by
    have:=h i (qH.2 l);unfold pc at this;rw[oc l,qy,qy,wx,decide_eq_true_eq,wV,zZ]at this;exact⟨this.1,this.2.1,fun y n=>by have:=this.2.2 y n;simpa using this⟩
   refine⟨fun e t=>?_,OO (R:=fun a b:bW=>ez a.name b.name=true) (fun a b c r p=>RQ _ _ _ r p) fun i l=>?_,zq.2 fun i j l s u=>?_⟩
   ·obtain⟨i,l,rfl⟩:=qF t;exact(o i l).1
   ·rcases(o (i+1) l).2.1 with h0|h0
    ·omega
    ·rw[yN,oc (by omega)]at h0;exact h0
   ·refine(o j s).2.2 m.objs[i] ?_;exact wZ.2 ⟨i,by omega,rfl⟩
  ·rintro⟨r,p,h3⟩ i l;have l:=qH.1 l;unfold pc;rw[oc l,qy,qy,wx,decide_eq_true_eq,wV,zZ];refine⟨r _ (qg l),?_,fun y n=>?_⟩
   ·cases i with
    |zero=>exact .inl rfl
    |succ i=>exact .inr (by rw[yN,oc (by omega)];exact OP p i l)
   ·obtain⟨j,s,rfl⟩:=wZ.1 n;have:=zq.1 h3 j i (by omega) l (by omega);simpa using this
 rw[q];constructor
 ·rintro⟨a,⟨b,c⟩,d,e,f,g⟩;exact⟨a,b,c,d,e,f,g⟩
 ·rintro⟨a,b,c,d,e,f,g⟩;exact⟨a,⟨b,c⟩,d,e,f,g⟩
theorem dK(m:aG):ki m=true↔(1<=m.seq/\m.seq<=2147483647)/\(0<=m.next/\m.next<=16777216)/\bM m.p=true/\0<=m.extra/\m.extra<=16:=by
 unfold ki;rw[qy,qy,qy,lF,lF,lF]
theorem gn(m:aG)(x:bW):gj m x=true↔jF x.name=true/\(0<=x.object/\x.object<m.next)/\(0<=x.length/\x.length<=m.p.1*m.p.2.2*8)/\(∀t∈x.tries,0<=t/\t<=15)/\(x.tries.length:Int)=countP m.p x.length:=by
 unfold gj;rw[qy,qy,qy,qy,lF,lF,qM,decide_eq_true_eq];simp only[lF];constructor
 ·rintro⟨a,b,c,d,e⟩;exact⟨a,⟨b.1,by omega⟩,c,d,e⟩
 ·rintro⟨a,b,c,d,e⟩;exact⟨a,⟨b.1,by omega⟩,c,d,e⟩
theorem Dv{m:aG}(h:bS m=true):m.drives.Nodup:=((ce m).1 h).2.1.imp fun h e=>by omega
theorem lG{m:aG}(h:bS m=true):∀k∈m.drives,0<=k/\k<64:=fun k a=>by have:=((ce m).1 h).2.2.1 k a;omega
theorem RR:∀{l:List Int} {a b:Int},l.Pairwise (·<·)->(∀k∈l,a<=k/\k<b)->a<=b->(l.length:Int)<=b-a
 |[],a,b,_,_,h=>by simp;omega
 |x::l,a,b,hp,hl,h=>by
  obtain⟨d,e⟩:=zL.1 hp;have f:=hl x q8;have:=RR (a:=x+1) (b:=b) e (fun k c=>⟨by have:=d k c;omega,(hl k (qU _ c)).2⟩) (by omega);rw[zi];omega
theorem mq{m:aG}(h:bS m=true):m.drives.length<=64:=by
 have:=RR ((ce m).1 h).2.1 (lG h) (by decide);omega
abbrev eF:=List Int×Row
def cA(x:Int->UInt8):List Int->UInt8
 |[]=>0
 |c::l=>x c^^^cA x l
theorem jH{x y:Int->UInt8}:∀{l:List Int},(∀c∈l,x c=y c)->cA x l=cA y l
 |[],_=>rfl
 |c::l,h=>by rw[cA,cA,h c (by simp),jH fun d a=>h d (by simp[a])]
theorem IJ(x:Int->UInt8)(p:Int->Bool):∀l,cA x l=cA x (l.filter p)^^^cA x (l.filter fun c=>!p c)
 |[]=>by simp[cA]
 |c::l=>by
  rw[cA,IJ x p l];cases h:p c<;>simp only[zm,h,wS,wU,if_true,zd,if_false,cA]<;>ac_rfl
theorem Ar(x:Int->UInt8){c:Int}:∀{l:List Int},l.Nodup->c∈l->cA x l=x c^^^cA x (l.filter fun d=>!decide (d=c))
 |[],_,h=>by cases h
 |d::l,hd,h=>by
  rw[yi]at hd;rcases zc.1 h with rfl|h
  ·have:l.filter (fun d=>!decide (d=c))=l:=wg.2 fun e f=>by
    have:e≠c:=fun b=>hd.1 (b▸f);simp[this]
   rw[zm];simp only[decide_true,wS,zd,if_false];rw[this,cA]
  ·have a:d≠c:=fun b=>hd.1 (b▸h);rw[zm,if_pos (by simp[a]),cA,cA,Ar x hd.2 h];ac_rfl
theorem RS(x y:Int->UInt8):∀l,cA (fun c=>x c^^^y c) l=cA x l^^^cA y l
 |[]=>by simp[cA]
 |c::l=>by rw[cA,cA,cA,RS x y l];ac_rfl
theorem Gc:∀{x:Int->UInt8} {l:List Int},(∀c∈l,x c=0)->cA x l=0
 |_,[],_=>rfl
 |x,c::l,h=>by rw[cA,h c (by simp),Gc fun d a=>h d (by simp[a])];rfl
def cB(V:aR)(a:Row)(l:List Int):Row:=l.foldl (fun a c=>cW 1 (az V c.toNat) a) a
theorem jk{V:aR}{m:Nat}:∀{l:List Int} {a:Row},a.length=m->(∀c∈l,(az V c.toNat).length=m)->(cB V a l).length=m
 |[],a,h,_=>h
 |c::l,a,h,hv=>by
  rw[cB,zB];exact jk (l:=l) (by rw[bY (by rw[hv c (by simp),h])];exact h) fun d b=>hv d (by simp[b])
theorem Jz{V:aR}{m:Nat}(j:Nat):∀{l:List Int} {a:Row},a.length=m->(∀c∈l,(az V c.toNat).length=m)->aM (cB V a l) j=aM a j^^^cA (fun c=>aM (az V c.toNat) j) l
 |[],a,_,_=>by simp[cB,cA]
 |c::l,a,h,hv=>by
  have b:(az V c.toNat).length=a.length:=by rw[hv c (by simp),h]
  rw[cB,zB];have:=Jz (V:=V) j (l:=l) (a:=cW 1 (az V c.toNat) a) (by rw[bY b];exact h) fun d e=>hv d (by simp[e]);rw[cB]at this;rw[this,cF b,Gf.one_mul,cA];ac_rfl
def Sat(t:UInt8)(k:Nat)(x:Int->UInt8)(e:eF):Prop:=cA x e.1=Gf.mul t (aM e.2 k)
structure il (n w:Nat) (e:eF):Prop where
 cD:∀c∈e.1,0<=c/\c<(n:Int)
 nodup:e.1.Nodup
 len:e.2.length=w
def kn(known:List Bool)(c:Int):Bool:=known.getD c.toNat false
def eK(known:List Bool)(vals:aR)(e:eF):eF:=(e.1.filter fun c=>!kn known c,cB vals e.2 (e.1.filter fun c=>kn known c))
structure jl (n w:Nat) (l:List eF) (known:List Bool) (vals:aR):Prop where
 klen:known.length=n
 vlen:vals.length=n
 row:∀c:Nat,c<n->(az vals c).length=if known.getD c false then w else 0
 sound:∀t k x,k<w->(∀e∈l,Sat t k x e)->∀c:Int,0<=c->c<(n:Int)->kn known c=true->x c=Gf.mul t (aM (az vals c.toNat) k)
section
variable {n w:Nat} {l:List eF} {known:List Bool} {vals:aR}
theorem Xw(n w:Nat)(l:List eF):jl n w l (qh n false) (qh n []):=by
 refine⟨by simp,by simp,fun c b=>?_,fun t k x f d c h0 e a=>?_⟩
 ·rw[bt (by simpa using b)];simp[qe,b]
 ·exfalso;rw[kn,qe,zX]at a;split at a<;>simp at a
theorem jl.Gd(h:jl n w l known vals){c:Int}(b:0<=c)(d:c<(n:Int))(a:kn known c=true):(az vals c.toNat).length=w:=by
 have:=h.row c.toNat (by omega);rw[kn]at a;rw[a]at this;simpa using this
theorem jl.BZ(h:jl n w l known vals){e:eF}(b:il n w e):il n w (eK known vals e):=
 ⟨fun c d=>b.cD c (qI.1 d).1,b.nodup.filter _,jk b.len fun c d=>by
  have a:=qI.1 d;exact h.Gd (b.cD c a.1).1 (b.cD c a.1).2 a.2⟩
theorem jl.Ii(h:jl n w l known vals){e:eF}(g:il n w e){t:UInt8}{k:Nat}{x:Int->UInt8}(o:∀c:Int,0<=c->c<(n:Int)->kn known c=true->x c=Gf.mul t (aM (az vals c.toNat) k)):
  Sat t k x (eK known vals e)↔Sat t k x e:=by
 have d:∀c∈e.1.filter (fun c=>kn known c),(az vals c.toNat).length=w:=fun c f=>by
  have b:=qI.1 f;exact h.Gd (g.cD c b.1).1 (g.cD c b.1).2 b.2
 have j:cA x (e.1.filter fun c=>kn known c)=Gf.mul t (cA (fun c=>aM (az vals c.toNat) k) (e.1.filter fun c=>kn known c)):=by
  rw[jH (y:=fun c=>Gf.mul t (aM (az vals c.toNat) k)) fun c f=>o c (g.cD c (qI.1 f).1).1 (g.cD c (qI.1 f).1).2 (qI.1 f).2];generalize e.1.filter (fun c=>kn known c)=m
  induction m with
  |nil=>simp[cA,Gf.mul_zero]
  |cons a m ih=>rw[cA,cA,Gf.jz,ih]
 unfold Sat eK;dsimp only;rw[Jz k g.len d,Gf.jz,<-j,IJ x (fun c=>kn known c) e.1];constructor
 ·intro i;rw[i];rw[vl,uK]
 ·intro i;rw[<-i];rw[vl (cA x (e.1.filter fun c=>kn known c)),uK]
theorem aft{known:List Bool}{c d:Int}(b:0<=c)(a:0<=d)(e:c<(known.length:Int)):kn (known.set c.toNat true) d=(decide (d=c)||kn known d):=by
 unfold kn;rw[qe,qZ];by_cases h:d=c
 ·subst h;rw[if_pos rfl,if_pos (by omega)];simp
 ·rw[if_neg (by omega)];simp[h]
theorem ZM(h:jl n w l known vals)(q:∀e∈l,il n w e){e:eF}(g:e∈l){c:Int}(p:(eK known vals e).1=[c]):jl n w l (known.set c.toNat true) (vals.set c.toNat (eK known vals e).2):=by
 have b:=h.BZ (q e g);have j:=b.cD c (by rw[p];simp);have u:=h.vlen;have i:=h.klen;refine⟨by simp[i],by simp[u],fun d r=>?_,fun t k x o f d h0 s m=>?_⟩
 ·rw[kt (by omega),qe,qZ];by_cases a:c.toNat=d
  ·subst a;simp[show c.toNat<known.length by omega,b.len]
  ·rw[if_neg a,if_neg a,h.row d r,qe]
 ·rw[aft j.1 h0 (by omega)]at m;rw[kt (by omega)];by_cases a:d=c
  ·subst a;rw[if_pos rfl];have:=(h.Ii (q e g) (h.sound t k x o f)).2 (f e g);unfold Sat at this;rw[p]at this;simpa[cA]using this
  ·rw[if_neg (by omega)];exact h.sound t k x o f d h0 s (by simpa[a]using m)
theorem Ge(h:jl n w l known vals)(e:eF):∀c∈(eK known vals e).1,kn known c=false:=fun c a=>by
 have:=(qI.1 a).2;simpa using this
def aW(known:List Bool)(vals:aR)(l:List eF):List eF:=(l.map (eK known vals)).filter fun e=>!e.1.isEmpty
def jI(known:List Bool)(vals:aR)(l:List eF):Bool:=(l.map (eK known vals)).any fun e=>e.1.isEmpty&&e.2.any (· !=0)
theorem RT(h:jl n w l known vals)(i:∀e∈l,il n w e)(g:jI known vals l=false){t:UInt8}{k:Nat}{x:Int->UInt8}(j:k<w):
  (∀e∈l,Sat t k x e)↔(∀c:Int,0<=c->c<(n:Int)->kn known c=true->x c=Gf.mul t (aM (az vals c.toNat) k))/\∀e∈aW known vals l,Sat t k x e:=by
 constructor
 ·intro f;refine⟨h.sound t k x j f,fun e b=>?_⟩;obtain⟨m,d,rfl⟩:=qx.1 (qI.1 b).1;exact(h.Ii (i m d) (h.sound t k x j f)).2 (f m d)
 ·rintro⟨r,p⟩ e b;refine(h.Ii (i e b) r).1 ?_;by_cases a:(eK known vals e).1=[]
  ·unfold Sat;rw[a,cA];have o:((eK known vals e).1.isEmpty&&(eK known vals e).2.any (· !=0))=false:=by
    have:=zZ.1 g _ (List.mem_map_of_mem b);simpa using this
   rw[a]at o;have q:∀y∈(eK known vals e).2,y=0:=by simpa using o
   have h3:=(h.BZ (i e b)).len;have:aM (eK known vals e).2 k=0:=by
    rw[aM,qe,qd (by omega)];exact q _ (qg _)
   rw[this,Gf.mul_zero]
  ·refine p _ (qI.2 ⟨List.mem_map_of_mem b,?_⟩);simpa using a
theorem Xx(h:jl n w l known vals)(j:∀e∈l,il n w e)(d:jI known vals l=true):∃k,k<w/\∀x:Int->UInt8,¬∀e∈l,Sat 1 k x e:=by
 obtain⟨y,o,f⟩:=wR.1 d;obtain⟨e,b,rfl⟩:=qx.1 o;rw[qy]at f;obtain⟨z,m,a⟩:=wR.1 f.2;obtain⟨k,p,rfl⟩:=qF m;have h3:=(h.BZ (j e b)).len;refine⟨k,by omega,fun x i=>?_⟩;have c:=(h.Ii (j e b) (h.sound 1 k x (by omega) i)).2 (i e b);unfold Sat at c;have g:(eK known vals e).1=[]:=by simpa using f.1
 rw[g,cA,Gf.one_mul,aM,qe,qd p]at c;simp at a;exact a c.symm
end
def ju(op:List Bool)(c:Int):Bool:=op.getD c.toNat false
def cI(op:List Bool)(r:List Int):List Int:=r.filter (ju op)
def lQ(rows:List (List Int))(op us:List Bool)(i:Nat):Bool:=!(us.getD i false)&&(cI op (rows.getD i [])).length==1
def lR(rows:List (List Int))(op us:List Bool):Option Nat:=(qC rows.length).find? (lQ rows op us)
def ee(rows:List (List Int))(op:List Bool)(i:Nat):Int:=(cI op (rows.getD i [])).getLast?.getD 0
def jJ(a:List Int)(r:List Int):List Int:=r.foldl (fun a c=>a.set c.toNat (a.getD c.toNat 0+1)) a
def ku(g:Nat->List Int->List Int)(rows:List (List Int))(us:List Bool)(a:List Int):Nat->List Int
 |0=>a
 |k+1=>if us.getD k false then ku g rows us a k else jJ (ku g rows us a k) (g k (rows.getD k []))
def ib(op:List Bool)(a:List Int):Nat->Int
 |0=>-1
 |k+1=>if op.getD k false&&(decide (ib op a k<0)||decide (a.getD k 0>a.getD (ib op a k).toNat 0))then(k:Int)else ib op a k
def go(rows:List (List Int))(op us:List Bool):Int:=ib op (ku (fun _ r=>r) rows us (qh op.length 0) rows.length) op.length
structure Pl where
 steps:List (Int×Int)
 dead:List Int
 used:List Bool
def ck(rows:List (List Int)):Nat->List Bool->List Bool->Pl
 |0,_,us=>⟨[],[],us⟩
 |k+1,op,us=>
  if op.contains true then
   match lR rows op us with
   |some i=>let r:=ck rows k (op.set (ee rows op i).toNat false) (us.set i true);⟨((i:Int),ee rows op i)::r.steps,r.dead,r.used⟩
   |none=>let r:=ck rows k (op.set (go rows op us).toNat false) us;⟨r.steps,go rows op us::r.dead,r.used⟩
  else⟨[],[],us⟩
def eZ(us:List Bool):Nat->List Int
 |0=>[]
 |k+1=>if us.getD k false then eZ us k else eZ us k++[(k:Int)]
def dh(n:Nat)(rows:List (List Int)):Pl:=ck rows n (qh n true) (qh rows.length false)
theorem ZN{P:Nat->Bool}{n:Nat}(h:∀j,j<n->P j=false):(qC n).find? P=none:=by
 rw[wL];intro x a;rw[qH]at a;simp[h x a]
theorem ZO{P:Nat->Bool}{n k:Nat}(f:k<n)(h:∀j,j<k->P j=false)(d:P k=true):(qC n).find? P=some k:=by
 rw[wD];refine⟨d,qC k,List.range' (k+1) (n-k-1),?_,fun a b=>?_⟩
 ·rw[yB,yB];have c:n=k+(n-k):=by omega
  have e:n-k=(n-k-1)+1:=by omega
  conv=>lhs;rw[c,<-List.range'_append_1 (s:=0) (m:=k) (n:=n-k)]
  rw[wk]
  conv=>lhs;rw[e,List.range'_succ]
 ·rw[qH]at b;simp[h a b]
theorem Ux(a r:List Int)(c:Int):jJ a (r++[c])=(jJ a r).set c.toNat ((jJ a r).getD c.toNat 0+1):=by
 simp[jJ]
theorem Ep(b r:List Int):(jJ b r).length=b.length:=by
 induction r generalizing b with
 |nil=>rfl
 |cons a t ih=>simp only[jJ,zB]at*;rw[ih];simp
theorem Dw(g:Nat->List Int->List Int)(rows:List (List Int))(us:List Bool)(a:List Int):∀k,(ku g rows us a k).length=a.length
 |0=>rfl
 |k+1=>by
  unfold ku;split
  ·exact Dw g rows us a k
  ·rw[Ep,Dw g rows us a k]
theorem Gg{m:Int}:∀{r b:List Int},(∀x∈b,0<=x/\x<=m)->∀x∈jJ b r,0<=x/\x<=m+r.length
 |[],b,h,x,hx=>by have:=h x hx;simp;omega
 |a::t,b,h,x,hx=>by
  have d:∀y∈b.set a.toNat (b.getD a.toNat 0+1),0<=y/\y<=m+1:=by
   intro y c;rcases wB c with c|c
   ·have:=h y c;omega
   ·subst c;rw[qe];cases hc:b[a.toNat]? with
    |none=>
     rw[List.getElem?_eq_none_iff]at hc;rw[List.set_eq_of_length_le hc]at c;have:=h _ c;rw[qe,ze hc]at this;simp at this⊢;omega
    |some z=>have:=h z (ya hc);simp;omega
  have:=Gg (r:=t) d x hx;simp only[zi];omega
theorem RU(g:Nat->List Int->List Int){rows:List (List Int)}{us:List Bool}{n:Nat}(a:∀k,(g k (rows.getD k [])).length<=64):∀k,∀x∈ku g rows us (qh n 0) k,0<=x/\x<=64*k
 |0,x,hx=>by
  have:=List.eq_of_mem_replicate hx;subst this;simp
 |k+1,x,hx=>by
  unfold ku at hx;split at hx
  ·have:=RU g a k x hx;omega
  ·have:=Gg (RU g a k) x hx;have:=a k;omega
theorem OQ(op:List Bool)(a:List Int):∀k,(ib op a k=-1/\∀j,j<k->op.getD j false=false)∨(0<=ib op a k/\ib op a k<k/\op.getD (ib op a k).toNat false=true)
 |0=>.inl ⟨rfl,fun j c=>by omega⟩
 |k+1=>by
  unfold ib;split
  ·rename_i b;simp only[qy]at b;exact .inr ⟨by omega,by omega,by rw[qp];exact b.1⟩
  ·rename_i b;rcases OQ op a k with⟨e,h⟩|⟨h1,h2,h3⟩
   ·refine .inl ⟨e,fun j c=>?_⟩;rcases zn.1 c with c|rfl
    ·exact h j c
    ·by_cases d:op.getD j false=true
     ·exact absurd (by rw[d,e];rfl) b
     ·simpa using d
   ·exact .inr ⟨h1,by omega,h3⟩
theorem Gh{op:List Bool}(h:op.contains true=true):∃j,j<op.length/\op.getD j false=true:=by
 simp only[List.contains_iff_mem]at h;obtain⟨j,a,e⟩:=qF h;exact⟨j,a,by rw[qe,qd a];exact e⟩
theorem sA{rows:List (List Int)}{op us:List Bool}(h:op.contains true=true):0<=go rows op us/\go rows op us<op.length/\op.getD (go rows op us).toNat false=true:=by
 obtain⟨j,a,e⟩:=Gh h;rcases OQ op (ku (fun _ r=>r) rows us (qh op.length 0) rows.length) op.length with⟨_,h2⟩|h2
 ·rw[h2 j a]at e;cases e
 ·exact h2
theorem ul{rows:List (List Int)}{op us:List Bool}{i:Nat}(h:lR rows op us=some i):i<rows.length/\lQ rows op us i=true:=by
 have a:=y0 h;have b:=List.find?_some h;exact⟨qH.1 a,b⟩
theorem Dx{rows:List (List Int)}{op us:List Bool}{i:Nat}(d:lQ rows op us i=true):cI op (rows.getD i [])=[ee rows op i]/\ee rows op i∈rows.getD i []/\ju op (ee rows op i)=true:=by
 simp only[lQ,qy,beq_iff_eq]at d;obtain⟨c,b⟩:=List.length_eq_one_iff.1 d.2;have e:ee rows op i=c:=by unfold ee;rw[b];rfl
 have a:c∈cI op (rows.getD i []):=by rw[b];simp
 rw[cI,qI]at a;rw[e];exact⟨b,a.1,a.2⟩
theorem jX{op:List Bool}{j:Nat}(h:op.getD j false=true):(op.set j false).count true+1=op.count true:=by
 have a:j<op.length:=by
  by_cases a:j<op.length
  ·exact a
  ·rw[qe,ze (by omega)]at h;cases h
 have e:op[j]=true:=by rw[qe,qd a]at h;exact h
 have b:0<op.count true:=List.count_pos_iff.2 (e▸qg a);rw[List.count_set a,e];simp;omega
theorem RV{op:List Bool}(h:op.count true=0):op.contains true=false:=by
 rw[List.count_eq_zero]at h;simpa using h
theorem Au{rows:List (List Int)}{op us:List Bool}(h:op.contains true=false):∀k,ck rows k op us=⟨[],[],us⟩
 |0=>rfl
 |k+1=>by unfold ck;rw[h];rfl
theorem ov{rows:List (List Int)}{op us:List Bool}{i k:Nat}(h:op.contains true=true)(a:lR rows op us=some i):
  ck rows (k+1) op us=⟨((i:Int),ee rows op i)::(ck rows k (op.set (ee rows op i).toNat false) (us.set i true)).steps,(ck rows k (op.set (ee rows op i).toNat false) (us.set i true)).dead,(ck rows k (op.set (ee rows op i).toNat false) (us.set i true)).used⟩:=by
 rw[ck,h,a];rfl
theorem ow{rows:List (List Int)}{op us:List Bool}{k:Nat}(h:op.contains true=true)(a:lR rows op us=none):
  ck rows (k+1) op us=⟨(ck rows k (op.set (go rows op us).toNat false) us).steps,go rows op us::(ck rows k (op.set (go rows op us).toNat false) us).dead,(ck rows k (op.set (go rows op us).toNat false) us).used⟩:=by
 rw[ck,h,a];rfl
theorem tC(rows:List (List Int)):∀k op us,(ck rows k op us).used.length=us.length
 |0,_,_=>rfl
 |k+1,op,us=>by
  unfold ck;split
  ·split
   ·show(ck rows k _ _).used.length=_;rw[tC];simp
   ·show(ck rows k _ _).used.length=_;rw[tC]
  ·rfl
theorem Ij(us:List Bool):∀k,(eZ us k).length<=k
 |0=>by simp[eZ]
 |k+1=>by
  have:=Ij us k;unfold eZ;split<;>simp<;>omega
theorem tU{op:List Bool}{f:Nat}(h:op.count true=f+1):op.contains true=true:=by
 have:0<op.count true:=by omega
 rw[List.count_pos_iff]at this;simpa using this
theorem Uy{P:Nat->Bool}{n j:Nat}(a:j<n)(h:P j=true):∃i,(qC n).find? P=some i:=by
 cases hf:(qC n).find? P with
 |some i=>exact⟨i,rfl⟩
 |none=>
  rw[wL]at hf;exact absurd h (hf j (qH.2 a))
theorem iT(l:List Bool)(i j:Nat)(x:Bool):(l.set i x).getD j false=if i=j/\j<l.length then x else l.getD j false:=by
 simp only[qe,qZ];by_cases h:i=j
 ·subst h;by_cases a:i<l.length<;>simp[a]
 ·simp[h]
def wn(rows:List (List Int))(op us:List Bool):Prop:=∀i,us.getD i false=true->cI op (rows.getD i [])=[]
theorem mM{op:List Bool}{c d:Int}(h:ju (op.set d.toNat false) c=true):ju op c=true/\c.toNat≠d.toNat:=by
 unfold ju at*;rw[iT]at h;by_cases e:d.toNat=c.toNat
 ·rw[if_pos]at h
  ·cases h
  ·refine⟨e,?_⟩;by_cases b:c.toNat<op.length
   ·exact b
   ·rw[if_neg (fun a=>b a.2),qe,ze (by omega)]at h;cases h
 ·rw[if_neg (fun a=>e a.1)]at h;exact⟨h,fun a=>e a.symm⟩
theorem ZP{rows:List (List Int)}{op us:List Bool}{i:Nat}(g:wn rows op us)(k:lQ rows op us i=true):wn rows (op.set (ee rows op i).toNat false) (us.set i true):=by
 obtain⟨h,n,h3⟩:=Dx k;intro j f;rw[iT]at f;rw[cI,wA];intro c l d;obtain⟨d,b⟩:=mM d;have a:c∈cI op (rows.getD j []):=by rw[cI,qI];exact⟨l,d⟩
 by_cases e:i=j
 ·subst e;rw[h]at a;simp at a;exact b (by rw[a])
 ·rw[if_neg (fun m=>e m.1)]at f;rw[g j f]at a;simp at a
theorem Gi(n j:Nat):(qh n false).getD j false=false:=by
 rw[qe];by_cases h:j<n
 ·rw[qd (by simpa using h)];simp
 ·rw[ze (by simpa using h)];rfl
theorem afu{rows:List (List Int)}{r:List Int}(h:r∈rows):∃j,j<rows.length/\rows.getD j []=r:=by
 obtain⟨j,a,e⟩:=qF h;exact⟨j,a,by rw[qe,qd a];exact e⟩
def other(m i:Nat):Nat:=if i<m then i else i+1
def sB(rows:List (List Int)):(Int->Prop)->(Int->Prop)->List (Int×Int)->Prop
 |_,_,[]=>True
 |D,U,(i,c)::t=>(0<=i/\i<rows.length)/\¬U i/\¬D c/\c∈rows.getD i.toNat []/\(∀a∈rows.getD i.toNat [],a≠c->D a)/\sB rows (fun x=>D x∨x=c) (fun x=>U x∨x=i) t
def agJ(op:List Bool)(c:Int):Prop:=0<=c/\ju op c=true
theorem ZQ{op:List Bool}{c:Int}(h:ju op c=true):c.toNat<op.length:=by
 by_cases a:c.toNat<op.length
 ·exact a
 ·unfold ju at h;rw[qe,ze (by omega)]at h;cases h
theorem Wr{op:List Bool}{c d:Int}(b:0<=c)(f:0<=d):ju op c=true->c≠d->ju (op.set d.toNat false) c=true:=by
 intro h a;unfold ju;rw[iT,if_neg (fun e=>a (by omega))];exact h
theorem um{op:List Bool}{d:Int}(h:ju op d=true):ju (op.set d.toNat false) d=false:=by
 unfold ju;rw[iT,if_pos ⟨rfl,ZQ h⟩]
structure ags (rows:List (List Int)) (op us:List Bool) (r:Pl):Prop where
 cD:r.steps.length+r.dead.length=op.count true
 used:r.used.count true=us.count true+r.steps.length
 keepU:∀i,us.getD i false=true->r.used.getD i false=true
 dead:∀c∈r.dead,agJ op c
 deadN:r.dead.Nodup
 good:∀D U:Int->Prop,(∀c:Int,0<=c->c<op.length->(D c↔ju op c=false∨c∈r.dead))->(∀i:Nat,i<rows.length->(U i↔us.getD i false=true∨r.used.getD i false=false))->sB rows D U r.steps
theorem acg{us:List Bool}{i:Nat}(h:us.getD i false=false)(a:i<us.length):(us.set i true).count true=us.count true+1:=by
 have e:us[i]=false:=by rw[qe,qd a]at h;exact h
 rw[List.count_set a,e];simp
theorem RW{rows:List (List Int)}{n:Nat}(b:∀r∈rows,∀c∈r,0<=c/\c<n):∀k op us,op.length=n->us.length=rows.length->op.count true=k->ags rows op us (ck rows k op us)
 |0,op,us,hl,hul,hc=>⟨by simp[ck,hc],by simp[ck],fun i h=>h,fun c h=>by simp[ck]at h,by simp[ck],fun _ _ _ _=>trivial⟩
 |k+1,op,us,hl,hul,hc=>by
  have t:=tU hc;cases hst:lR rows op us with
  |some i=>
   obtain⟨g,u⟩:=ul hst;obtain⟨L,I,h3⟩:=Dx u;have f:rows.getD i []=rows[i]:=by rw[qe,qd g];rfl
   have w:=b _ (qg g) _ (f▸I);have F:=jX (op:=op) (j:=(ee rows op i).toNat) h3;have x:us.getD i false=false:=by
    simp only[lQ,qy,wV]at u;exact u.1
   have M:=acg x (by omega);have a:=RW b k (op.set (ee rows op i).toNat false) (us.set i true) (by simp[hl]) (by simp[hul]) (by omega);rw[ov t hst];generalize ck rows k (op.set (ee rows op i).toNat false) (us.set i true)=r at a;generalize J:ee rows op i=c at*;have G:r.used.getD i false=true:=a.keepU i (by rw[iT,if_pos ⟨rfl,by omega⟩]);have s:c∉r.dead:=fun h=>by
    have:=(a.dead c h).2;rw[um h3]at this;cases this
   refine⟨by simp only[zi];have:=a.cD;omega,by simp only[zi];have:=a.used;omega,fun j B=>a.keepU j (by rw[iT];split;rfl;exact B),fun d q=>⟨(a.dead d q).1,(mM (a.dead d q).2).1⟩,a.deadN,fun D U v y=>?_⟩;have o:rows.getD ((i:Int)).toNat []=rows.getD i []:=by rw[qp]
   refine⟨by omega,?_,?_,by rw[o];exact I,?_,?_⟩
   ·rw[y i g,x,G];simp
   ·rw[v c w.1 (by omega),h3];simp[s]
   ·intro z p E;rw[o]at p;have A:=b _ (qg g) _ (f▸p);refine(v z A.1 (by omega)).2 (.inl ?_);cases ho:ju op z with
    |false=>rfl
    |true=>
     have:z∈cI op (rows.getD i []):=by rw[cI,qI];exact⟨p,ho⟩
     rw[L]at this;simp at this;exact absurd this E
   ·refine a.good _ _ (fun d l m=>?_) (fun j B=>?_)
    ·simp only[zE]at m;rw[v d l m];by_cases e:d=c
     ·subst e;simp[um h3]
     ·cases ho:ju op d with
      |true=>rw[Wr l w.1 ho e];simp[e]
      |false=>
       have:ju (op.set c.toNat false) d=false:=by
        cases hh:ju (op.set c.toNat false) d with
        |false=>rfl
        |true=>rw[(mM hh).1]at ho;cases ho
       rw[this];simp
    ·rw[y j B,iT];by_cases e:i=j
     ·subst e;simp[hul,g]
     ·have N:¬((j:Int)=(i:Int)):=fun h=>e (by omega);simp[e,N]
  |none=>
   obtain⟨K,O,H⟩:=sA (rows:=rows) (us:=us) t;have F:=jX (op:=op) (j:=(go rows op us).toNat) H;have a:=RW b k (op.set (go rows op us).toNat false) us (by simp[hl]) hul (by omega);rw[ow t hst];generalize ck rows k (op.set (go rows op us).toNat false) us=r at a;generalize go rows op us=c at*;have h3:ju op c=true:=H;have s:c∉r.dead:=fun h=>by
    have:=(a.dead c h).2;rw[um h3]at this;cases this
   refine⟨by simp only[zi];have:=a.cD;omega,a.used,a.keepU,fun d q=>?_,by simp only[yi];exact⟨s,a.deadN⟩,fun D U v y=>?_⟩
   ·rcases zc.1 q with rfl|q
    ·exact⟨K,h3⟩
    ·exact⟨(a.dead d q).1,(mM (a.dead d q).2).1⟩
   ·refine a.good D U (fun d l m=>?_) y;simp only[zE]at m;rw[v d l m];by_cases e:d=c
    ·subst e;simp[um h3]
    ·have:ju (op.set c.toNat false) d=ju op d:=by
      cases ho:ju op d with
      |true=>exact Wr l K ho e
      |false=>
       cases hh:ju (op.set c.toNat false) d with
       |false=>rfl
       |true=>rw[(mM hh).1]at ho;cases ho
     rw[this];simp[e]
theorem Dy(us:List Bool):∀k (c:Int),c∈eZ us k↔∃j:Nat,c=j/\j<k/\us.getD j false=false
 |0,c=>by simp[eZ]
 |k+1,c=>by
  have e:=Dy us k c;unfold eZ;cases h:us.getD k false with
  |true=>
   simp only[if_true];rw[e];constructor
   ·rintro⟨j,a,b,d⟩;exact⟨j,a,by omega,d⟩
   ·rintro⟨j,a,b,d⟩;refine⟨j,a,?_,d⟩;rcases zn.1 b with b|rfl
    ·exact b
    ·rw[h]at d;cases d
  |false=>
   simp only[zd,if_false,qE,qG];rw[e];constructor
   ·rintro(⟨j,a,b,d⟩|rfl)
    ·exact⟨j,a,by omega,d⟩
    ·exact⟨k,rfl,by omega,h⟩
   ·rintro⟨j,a,b,d⟩;rcases zn.1 b with b|rfl
    ·exact .inl ⟨j,a,b,d⟩
    ·exact .inr a
theorem RX(us:List Bool):∀k,k<=us.length->(eZ us k).length+(us.take k).count true=k
 |0,_=>by simp[eZ]
 |k+1,hk=>by
  have a:=RX us k (by omega);have e:us.getD k false=us[k]:=by rw[qe,qd (by omega)];rfl
  unfold eZ;rw[zp (by omega),List.count_append,e];cases us[k]<;>simp<;>omega
theorem ws{rows:List (List Int)}{n:Nat}(a:∀r∈rows,∀c∈r,0<=c/\c<n):
  (dh n rows).steps.length+(dh n rows).dead.length=n/\(dh n rows).steps.length+(eZ (dh n rows).used rows.length).length=rows.length/\(∀c∈(dh n rows).dead,0<=c/\c<n)/\(dh n rows).dead.Nodup/\
  (∀c∈eZ (dh n rows).used rows.length,0<=c/\c<rows.length)/\sB rows (·∈(dh n rows).dead) (·∈eZ (dh n rows).used rows.length) (dh n rows).steps:=by
 have h:=RW a n (qh n true) (qh rows.length false) (by simp) (by simp) (by simp);have p:(dh n rows).used.length=rows.length:=by unfold dh;rw[tC];simp
 have e:=RX (dh n rows).used rows.length (by omega);rw[qi (by omega)]at e;refine⟨by have:=h.cD;simpa[dh]using this,?_,fun c d=>?_,h.deadN,fun c d=>?_,?_⟩
 ·have:=h.used;have l:(qh rows.length false).count true=0:=by simp[List.count_replicate]
  rw[l]at this;unfold dh at*;omega
 ·obtain⟨h0,o⟩:=h.dead c d;have:=ZQ o;simp at this;omega
 ·obtain⟨j,rfl,m,_⟩:=(Dy _ _ _).1 d;omega
 ·refine h.good _ _ (fun c k b=>?_) (fun i g=>?_)
  ·have:ju (qh n true) c=true:=by
    simp at b;unfold ju;rw[qe,qd (by simp;omega)];simp
   rw[this];simp[dh]
  ·rw[Gi,Dy];constructor
   ·rintro⟨j,m,_,f⟩;have:j=i:=by omega
    subst this;exact .inr f
   ·rintro(hh|hh)
    ·cases hh
    ·exact⟨i,rfl,g,hh⟩
theorem Gj{rows:List (List Int)}:∀k op us i,(ck rows k op us).used.getD i false=true->us.getD i false=true∨∃c,((i:Int),c)∈(ck rows k op us).steps
 |0,_,_,_,h=>.inl h
 |k+1,op,us,i,h=>by
  by_cases a:op.contains true=true
  ·cases hst:lR rows op us with
   |some j=>
    rw[ov a hst]at h⊢;dsimp only at h⊢;rcases Gj k _ _ i h with h1|⟨c,hc⟩
    ·rw[iT]at h1;by_cases b:j=i
     ·subst b;exact .inr ⟨_,q8⟩
     ·rw[if_neg (fun d=>b d.1)]at h1;exact .inl h1
    ·exact .inr ⟨c,qU _ hc⟩
   |none=>
    rw[ow a hst]at h⊢;exact Gj k _ _ i h
  ·have a:op.contains true=false:=by simpa using a
   rw[Au a]at h⊢;exact .inl h
theorem Gk{rows:List (List Int)}{n:Nat}(a:∀r∈rows,∀c∈r,0<=c/\c<(n:Int)):∀k op us,op.length=n->op.count true=k->∀c:Nat,op.getD c false=true->
  (c:Int)∈(ck rows k op us).dead∨∃i,(i,(c:Int))∈(ck rows k op us).steps
 |0,op,us,hl,hc,c,h=>by
  have:=RV hc;exfalso;have l:c<op.length:=by
   by_cases g:c<op.length
   ·exact g
   ·rw[qe,ze (by omega)]at h;cases h
  rw[List.count_eq_zero]at hc;rw[qe,qd l]at h;exact hc (h▸qg l)
 |k+1,op,us,hl,hc,c,h=>by
  have e:=tU hc;cases hst:lR rows op us with
  |some j=>
   rw[ov e hst];obtain⟨f,m⟩:=ul hst;obtain⟨t,q,h3⟩:=Dx m;have b:rows.getD j []=rows[j]:=by rw[qe,qd f];rfl
   have s:=a _ (qg f) _ (b▸q);have o:=jX (op:=op) (j:=(ee rows op j).toNat) h3;dsimp only;by_cases d:(ee rows op j).toNat=c
   ·exact .inr ⟨j,by rw[show((c:Nat):Int)=ee rows op j by omega];exact q8⟩
   ·rcases Gk a k (op.set (ee rows op j).toNat false) (us.set j true) (by simp[hl]) (by omega) c (by rw[iT,if_neg (fun g=>d g.1)];exact h)with h5|⟨i,h5⟩
    ·exact .inl h5
    ·exact .inr ⟨i,qU _ h5⟩
  |none=>
   rw[ow e hst];obtain⟨u,v,p⟩:=sA (rows:=rows) (us:=us) e;have o:=jX (op:=op) (j:=(go rows op us).toNat) p;dsimp only;by_cases d:(go rows op us).toNat=c
   ·exact .inl (by rw[show((c:Nat):Int)=go rows op us by omega];exact q8)
   ·rcases Gk a k (op.set (go rows op us).toNat false) us (by simp[hl]) (by omega) c (by rw[iT,if_neg (fun g=>d g.1)];exact h)with h5|⟨i,h5⟩
    ·exact .inl (qU _ h5)
    ·exact .inr ⟨i,h5⟩
theorem Xy{rows:List (List Int)}{op us:List Bool}{c:Int}(h:wn rows op us):wn rows (op.set c.toNat false) us:=fun i e=>by
 have:=h i e;rw[cI,wA]at this⊢;exact fun d b a=>this d b (mM a).1
theorem Dz{rows:List (List Int)}{c:Int}(l:[c]∈rows):∀k op us,wn rows op us->(∀d:Int,d<0->d∉(ck rows k op us).dead)->0<=c->c∉(ck rows k op us).dead
 |0,_,_,_,_,_=>by simp[ck]
 |k+1,op,us,hu,_,h0=>by
  by_cases a:op.contains true=true
  ·cases hst:lR rows op us with
   |some j=>
    rw[ov a hst];dsimp only;obtain⟨_,m⟩:=ul hst;exact Dz l k _ _ (ZP hu m) (fun d p b=>by
     have g:∀k op us,∀d∈(ck rows k op us).dead,0<=d:=plan_dead0;have:=g _ _ _ d b;omega) h0
   |none=>
    rw[ow a hst];obtain⟨t,u,q⟩:=sA (rows:=rows) (us:=us) a;dsimp only;intro b;rcases zc.1 b with e|b
    ·obtain⟨j,s,f⟩:=afu l;have o:cI op [c]=[c]:=by rw[cI,zm,if_pos (show ju op c=true by rw[e];exact q)];rfl
     have r:lQ rows op us j=true:=by
      unfold lQ;rw[f,o];cases hus:us.getD j false with
      |false=>rfl
      |true=>have:=hu j hus;rw[f,o]at this;cases this
     obtain⟨i,n⟩:∃i,lR rows op us=some i:=Uy s r;rw[hst]at n;cases n
    ·exact Dz l k _ _ (Xy hu) (fun d p b=>by have:=plan_dead0 (rows:=rows) _ _ _ d b;omega) h0 b
  ·have a:op.contains true=false:=by simpa using a
   rw[Au a];simp
where
 plan_dead0 {rows:List (List Int)}:∀k op us,∀d∈(ck rows k op us).dead,0<=d
  |0,_,_,d,h=>by simp[ck]at h
  |k+1,op,us,d,h=>by
   by_cases a:op.contains true=true
   ·cases hst:lR rows op us with
    |some j=>rw[ov a hst]at h;exact plan_dead0 k _ _ d h
    |none=>
     rw[ow a hst]at h;rcases zc.1 h with rfl|h
     ·exact(sA a).1
     ·exact plan_dead0 k _ _ d h
   ·have a:op.contains true=false:=by simpa using a
    rw[Au a]at h;simp at h
def sC(R:List (List Int)):(Int->Prop)->List (Int×Int)->Prop
 |_,[]=>True
 |D,(i,c)::t=>(0<=i/\i<R.length)/\¬D c/\c∈R.getD i.toNat []/\(∀a∈R.getD i.toNat [],a≠c->D a)/\sC R (fun x=>D x∨x=c) t
theorem Bb{R S:List (List Int)}{K:Int->Prop}(k:∀r∈R,∀c∈r,¬K c)(l:∀r∈S,∀c∈r,K c):∀{a:List (Int×Int)} {D D' U:Int->Prop},sB (R++S) D U a->(∀c,¬K c->(D c↔D' c))->
  sC R D' (a.filter fun p=>decide (p.1<R.length))
 |[],_,_,_,_,_=>trivial
 |(i,c)::t,D,D',U,h,hD=>by
  obtain⟨x,z,h3,j,w,v⟩:=h;rw[zm];by_cases m:i<R.length
  ·have e:(R++S).getD i.toNat []=R.getD i.toNat []:=by
    rw[qe,qn (by omega),qe]
   have f:R.getD i.toNat []∈R:=by
    rw[qe,qd (by omega)];exact qg _
   rw[e]at j w;have o:=k _ f c j;rw[if_pos (by simpa using m)];refine⟨⟨x.1,m⟩,fun s=>h3 ((hD c o).2 s),j,fun n b q=>(hD n (k _ f n b)).1 (w n b q),Bb k l v fun d g=>?_⟩;rw[hD d g]
  ·rw[if_neg (by simpa using m)];have f:(R++S).getD i.toNat []∈S:=by
    have u:=x.2;rw[qu]at u;rw[qe,qj (by omega),qd (by omega)];exact qg _
   have o:=l _ f c j;refine Bb k l v fun d g=>?_;rw[<-hD d g];exact⟨fun s=>s.elim id fun y=>absurd (y▸o) g,.inl⟩
def ev(t:UInt8)(k nd:Nat)(W M:aR)(y:Nat->UInt8)(c:Int):UInt8:=bB (fun i=>aM (az W c.toNat) i) y nd^^^Gf.mul t (aM (az M c.toNat) k)
theorem JA{a b:Row}(h:a.length=b.length)(c:UInt8)(y:Nat->UInt8)(n:Nat):bB (fun j=>aM (cW c a b) j) y n=bB (fun j=>aM b j) y n^^^Gf.mul c (bB (fun j=>aM a j) y n):=by
 rw[fk n (fun j _=>cF h j) fun _ _=>rfl];exact Ic _ _ _ _ _
theorem RY{V:aR}{m:Nat}(y:Nat->UInt8)(n:Nat):∀{l:List Int} {a:Row},a.length=m->(∀c∈l,(az V c.toNat).length=m)->bB (fun j=>aM (cB V a l) j) y n=bB (fun j=>aM a j) y n^^^cA (fun c=>bB (fun j=>aM (az V c.toNat) j) y n) l
 |[],a,_,_=>by simp[cB,cA]
 |c::l,a,h,hv=>by
  have b:(az V c.toNat).length=a.length:=by rw[hv c (by simp),h]
  have:=RY (V:=V) y n (l:=l) (a:=cW 1 (az V c.toNat) a) (by rw[bY b];exact h) fun d e=>hv d (by simp[e]);rw[cB,zB];rw[cB]at this;rw[this,JA b,Gf.one_mul,cA];ac_rfl
theorem RZ(t:UInt8)(x:Int->UInt8):∀l,cA (fun c=>Gf.mul t (x c)) l=Gf.mul t (cA x l)
 |[]=>by simp[cA,Gf.mul_zero]
 |c::l=>by rw[cA,cA,Gf.jz,RZ t x l]
theorem Nj{W M:aR}{nd w:Nat}{l:List Int}{a m:Row}(f:a.length=nd)(b:m.length=w)(e:∀c∈l,(az W c.toNat).length=nd)(d:∀c∈l,(az M c.toNat).length=w)(t:UInt8)(k:Nat)(y:Nat->UInt8):
  bB (fun j=>aM (cB W a l) j) y nd^^^Gf.mul t (aM (cB M m l) k)=(bB (fun j=>aM a j) y nd^^^Gf.mul t (aM m k))^^^cA (ev t k nd W M y) l:=by
 rw[RY y nd f e,Jz k b d,Gf.jz];have:cA (ev t k nd W M y) l=cA (fun c=>bB (fun j=>aM (az W c.toNat) j) y nd) l^^^Gf.mul t (cA (fun c=>aM (az M c.toNat) k) l):=by
  rw[<-RZ,<-RS];rfl
 rw[this];ac_rfl
def gp(rest:List eF)(nd:Nat)(s:aR×aR)(p:Int×Int):aR×aR:=
 let r:=rest.getD p.1.toNat ([],[])
 (s.1.set p.2.toNat (cB s.1 (aK nd) (r.1.filter fun c=>!decide (c=p.2))),s.2.set p.2.toNat (cB s.2 r.2 (r.1.filter fun c=>!decide (c=p.2))))
structure ZR (n nd w:Nat) (D:Int->Prop) (W M:aR):Prop where
 wl:W.length=n
 ml:M.length=n
 rw_:∀c:Int,D c->0<=c->c<(n:Int)->(az W c.toNat).length=nd/\(az M c.toNat).length=w
theorem DA{W M a b:aR}{t:UInt8}{k nd:Nat}{y:Nat->UInt8}{c:Int}(d:az a c.toNat=az W c.toNat)(e:az b c.toNat=az M c.toNat):ev t k nd a b y c=ev t k nd W M y c:=by unfold ev;rw[d,e]
theorem JB{n nd w:Nat}{rest:List eF}(A:∀e∈rest,il n w e):∀{a:List (Int×Int)} {D:Int->Prop} {W M:aR},sC (rest.map qK) D a->ZR n nd w D W M->
  ZR n nd w (fun c=>D c∨∃i,(i,c)∈a) (a.foldl (gp rest nd) (W,M)).1 (a.foldl (gp rest nd) (W,M)).2/\
  (∀c:Int,D c->0<=c->az (a.foldl (gp rest nd) (W,M)).1 c.toNat=az W c.toNat/\az (a.foldl (gp rest nd) (W,M)).2 c.toNat=az M c.toNat)/\
  (∀p∈a,∀t k y,k<w->Sat t k (ev t k nd (a.foldl (gp rest nd) (W,M)).1 (a.foldl (gp rest nd) (W,M)).2 y) (rest.getD p.1.toNat ([],[])))/\
  (∀t k x y,k<w->(∀c:Int,D c->0<=c->c<(n:Int)->x c=ev t k nd W M y c)->(∀p∈a,Sat t k x (rest.getD p.1.toNat ([],[])))->∀c:Int,(D c∨∃i,(i,c)∈a)->0<=c->c<(n:Int)->x c=ev t k nd (a.foldl (gp rest nd) (W,M)).1 (a.foldl (gp rest nd) (W,M)).2 y c)
 |[],D,W,M,_,hw=>⟨⟨hw.wl,hw.ml,fun c hc=>hw.rw_ c (hc.elim id fun⟨i,h⟩=>by cases h)⟩,fun _ _ _=>⟨rfl,rfl⟩,fun p u=>by(cases u),fun t k x y J K _ c hc h0 o=>K c (hc.elim id fun⟨i,h⟩=>by cases h) h0 o⟩
 |(i,c)::st,D,W,M,hg,hw=>by
  obtain⟨g1,g2,N,g4,g5⟩:=hg;have r:i.toNat<rest.length:=by have:=g1.2;rw[qw]at this;omega
  obtain⟨e,S⟩:∃e,e=rest[i.toNat]:=⟨_,rfl⟩
  have R:rest.getD i.toNat ([],[])=e:=by rw[qe,qd r,S];rfl
  have Q:(rest.map qK).getD i.toNat []=e.1:=by rw[qe,qN,qd r,S];rfl
  rw[Q]at N g4;have l:=A e (S▸qg r);have ad:=l.cD c N;obtain⟨F,I⟩:∃F,F=e.1.filter (fun d=>!decide (d=c)):=⟨_,rfl⟩
  have q:∀d∈F,d∈e.1/\d≠c:=fun d b=>by rw[I,qI]at b;exact⟨b.1,by simpa using b.2⟩
  have f:∀d∈F,D d/\0<=d/\d<(n:Int):=fun d b=>⟨g4 d (q d b).1 (q d b).2,l.cD d (q d b).1⟩
  have l1:∀d∈F,(az W d.toNat).length=nd:=fun d b=>(hw.rw_ d (f d b).1 (f d b).2.1 (f d b).2.2).1;have l2:∀d∈F,(az M d.toNat).length=w:=fun d b=>(hw.rw_ d (f d b).1 (f d b).2.1 (f d b).2.2).2;have P:(aK nd).length=nd:=by simp[aK]
  have X:gp rest nd (W,M) (i,c)=(W.set c.toNat (cB W (aK nd) F),M.set c.toNat (cB M e.2 F)):=by
   unfold gp;dsimp only;rw[R,<-I]
  have V:=hw.wl;have Z:=hw.ml;have v:∀d:Nat,az (W.set c.toNat (cB W (aK nd) F)) d=if c.toNat=d then cB W (aK nd) F else az W d:=fun d=>kt (by omega)
  have G:∀d:Nat,az (M.set c.toNat (cB M e.2 F)) d=if c.toNat=d then cB M e.2 F else az M d:=fun d=>kt (by omega)
  have ab:ZR n nd w (fun x=>D x∨x=c) (W.set c.toNat (cB W (aK nd) F)) (M.set c.toNat (cB M e.2 F)):=by
   refine⟨by simp[V],by simp[Z],fun d b h0 o=>?_⟩;rw[v,G];by_cases g:c.toNat=d.toNat
   ·rw[if_pos g,if_pos g];exact⟨jk P l1,jk l.len l2⟩
   ·rw[if_neg g,if_neg g];exact hw.rw_ d (b.elim id fun L=>absurd (by rw[L]) g) h0 o
  obtain⟨H,Y,r3,r4⟩:=JB A g5 ab;rw[zB,X];generalize st.foldl (gp rest nd) (W.set c.toNat (cB W (aK nd) F),M.set c.toNat (cB M e.2 F))=s at H Y r3 r4;have B:∀d:Int,D d->0<=d->c.toNat≠d.toNat:=fun d b h0 L=>g2 (by rw[show c=d by omega];exact b);have keep:∀d:Int,D d->0<=d->az s.1 d.toNat=az W d.toNat/\az s.2 d.toNat=az M d.toNat:=fun d b h0=>by
   have:=Y d (.inl b) h0;rw[v,G,if_neg (B d b h0),if_neg (B d b h0)]at this;exact this
  have U:∀t k y,ev t k nd s.1 s.2 y c=Gf.mul t (aM e.2 k)^^^cA (ev t k nd W M y) F:=fun t k y=>by
   have T:=Y c (.inr rfl) ad.1;rw[v,G,if_pos rfl,if_pos rfl]at T;unfold ev;rw[T.1,T.2,Nj P l.len l1 l2 t k y,ff _ _ nd fun j _=>co _ _,wc];rfl
  have z:∀t k y,cA (ev t k nd s.1 s.2 y) F=cA (ev t k nd W M y) F:=fun t k y=>jH fun d b=>DA (keep d (f d b).1 (f d b).2.1).1 (keep d (f d b).1 (f d b).2.1).2;refine⟨⟨H.wl,H.ml,fun d b h0 o=>H.rw_ d ?_ h0 o⟩,keep,fun p u t k y J=>?_,fun t k x y J K hs d b h0 o=>?_⟩
  ·rcases b with b|⟨j,hj⟩
   ·exact .inl (.inl b)
   ·rcases zc.1 hj with hj|hj
    ·injection hj with _ hj;exact .inl (.inr hj)
    ·exact .inr ⟨j,hj⟩
  ·rcases zc.1 u with rfl|u
   ·dsimp only;rw[R];unfold Sat;rw[Ar _ l.nodup N,<-I,U,z,uK]
   ·exact r3 p u t k y J
  ·refine r4 t k x y J (fun d b h0 o=>?_) (fun p u=>hs p (qU _ u)) d ?_ h0 o
   ·by_cases g:d=c
    ·subst g;have E:=hs (i,d) (by simp);dsimp only at E;rw[R]at E;unfold Sat at E;rw[Ar _ l.nodup N,<-I,jH (y:=ev t k nd W M y) fun O m=>K O (f O m).1 (f O m).2.1 (f O m).2.2]at E;have h6:ev t k nd (W.set d.toNat (cB W (aK nd) F)) (M.set d.toNat (cB M e.2 F)) y d=Gf.mul t (aM e.2 k)^^^cA (ev t k nd W M y) F:=by
      unfold ev;rw[v,G,if_pos rfl,if_pos rfl,Nj P l.len l1 l2 t k y,ff _ _ nd fun j _=>co _ _,wc];rfl
     rw[h6,<-E,uK]
    ·have m:D d:=b.elim id fun L=>absurd L g;rw[K d m h0 o];refine(DA ?_ ?_).symm
     ·rw[v,if_neg (by omega)]
     ·rw[G,if_neg (by omega)]
   ·rcases b with b|⟨j,hj⟩
    ·exact .inl (.inl b)
    ·rcases zc.1 hj with hj|hj
     ·injection hj with _ hj;exact .inl (.inr hj)
     ·exact .inr ⟨j,hj⟩
open Classical
def lS(r:Row):Nat:=r.findIdx (fun x=>x !=0)
section
variable {n:Nat} {m M A:aR}
structure agV (n:Nat) (M A:aR):Prop where
 even:be n M
 evenA:be n A
 span:∀v,Span n M v↔Span n A v
 len:M.length=cG A
 lead:∀x∈M,lS x<n
theorem ach(a:be n m):Way n m n (cG m) (bC m (fG m)).2:=by
 have h:=Ie a n (ql _);cases m with
 |nil=>rw[kS]at h;rw[cG,kS];exact h
 |cons x t=>
  have b:fG (x::t)=n:=by rw[fG,bt (by simp)];exact a _ (by simp)
  rw[cG,b];exact h
end
theorem OR:∀{l m:List Nat},l.Nodup->(∀x∈l,x∈m)->l.length<=m.length
 |[],_,_,_=>by simp
 |x::l,m,hd,h=>by
  rw[yi]at hd;have a:=h x (by simp);have c:=OR (l:=l) (m:=m.erase x) hd.2 fun y b=>(List.mem_erase_of_ne (fun d:y=x=>hd.1 (by rw[<-d];exact b))).2 (h y (by simp[b]));rw[List.length_erase_of_mem a]at c;have:=List.length_pos_of_mem a;simp;omega
def nS(nd i:Nat):Row:=(aK nd).set i 1
theorem aci(nd i:Nat):(nS nd i).length=nd:=by simp[nS,aK]
theorem acj{nd i:Nat}(a:i<nd)(j:Nat):aM (nS nd i) j=if j=i then 1 else 0:=by
 rw[nS,Nh (by simpa[aK]using a),co]
theorem ack{nd i:Nat}(a:i<nd)(y:Nat->UInt8):bB (fun j=>aM (nS nd i) j) y nd=y i:=
 Ib _ _ i nd a fun j _=>by
  rw[acj a];by_cases h:j=i
  ·subst h;simp
  ·rw[if_neg h,if_neg (fun b=>h b.symm)]
def fm(n nd w:Nat)(dead:List Int):aR×aR:=
 (dead.zipIdx).foldl (fun s p=>(s.1.set p.1.toNat (nS nd p.2),s.2.set p.1.toNat (aK w))) (qh n [],qh n [])
theorem KU(n nd w:Nat)(d:List Int)(c:Int):fm n nd w (d++[c])=((fm n nd w d).1.set c.toNat (nS nd d.length),(fm n nd w d).2.set c.toNat (aK w)):=by
 unfold fm;rw[List.zipIdx_append,wE];simp
theorem Nk{n nd w:Nat}{dead:List Int}(h:∀c∈dead,0<=c/\c<(n:Int))(o:dead.Nodup):∀k,k<=dead.length->
  ZR n nd w (·∈dead.take k) (fm n nd w (dead.take k)).1 (fm n nd w (dead.take k)).2/\∀i,(l:i<k)->(m:i<dead.length)->az (fm n nd w (dead.take k)).1 dead[i].toNat=nS nd i/\az (fm n nd w (dead.take k)).2 dead[i].toNat=aK w
 |0,_=>⟨⟨by simp[fm],by simp[fm],fun c b=>by simp at b⟩,fun i l=>by omega⟩
 |k+1,hk=>by
  obtain⟨j,m⟩:=Nk (nd:=nd) (w:=w) h o k (by omega);have g:k<dead.length:=by omega
  have s:=h _ (qg g);have e:dead.take (k+1)=dead.take k++[dead[k]]:=zp g;have t:(dead.take k).length=k:=by simp;omega
  rw[e,KU,t];have u:=j.wl;have p:=j.ml;refine⟨⟨by simp[u],by simp[p],fun c b h0 h3=>?_⟩,fun i l f=>?_⟩
  ·dsimp only;rw[kt (by omega),kt (by omega)];by_cases a:dead[k].toNat=c.toNat
   ·rw[if_pos a,if_pos a];exact⟨aci _ _,by simp[aK]⟩
   ·rw[if_neg a,if_neg a];refine j.rw_ c ?_ h0 h3;rcases qE.1 b with b|b
    ·exact b
    ·rw[qG]at b;exact absurd (by rw[b]) a
  ·dsimp only;rw[kt (by omega),kt (by omega)];by_cases d:i=k
   ·subst d;rw[if_pos rfl,if_pos rfl];exact⟨rfl,rfl⟩
   ·have q:dead[k]≠dead[i]:=fun r=>d ((List.getElem_inj o).1 r).symm;have:=h _ (qg f);rw[if_neg (by omega),if_neg (by omega)];exact m i (by omega) f
def gN(nd:Nat)(known:List Bool)(vals:aR)(s:aR×aR):aR×aR:=
 (s.1.mapIdx fun c r=>if known.getD c false then aK nd else r,s.2.mapIdx fun c r=>if known.getD c false then az vals c else r)
theorem DB{m:aR}{f:Nat->Row->Row}{c:Nat}(h:c<m.length):az (m.mapIdx f) c=f c (az m c):=by
 rw[bt (by simpa using h),bt h];simp
def gd(V:aR)(r:Row)(a:Row):Nat->Row
 |0=>a
 |c+1=>cW (aM r c) (az V c) (gd V r a c)
theorem kU{V:aR}{m:Nat}(r:Row){a:Row}(b:a.length=m):∀{c:Nat},(∀i,i<c->(az V i).length=m)->(gd V r a c).length=m
 |0,_=>b
 |c+1,h=>by
  have:=kU r b (c:=c) fun i d=>h i (by omega);rw[gd,bY (by rw[h c (by omega),this])];exact this
theorem JC{V:aR}{m:Nat}(r:Row){a:Row}(b:a.length=m)(j:Nat):∀{c:Nat},(∀i,i<c->(az V i).length=m)->aM (gd V r a c) j=aM a j^^^bB (fun i=>aM r i) (fun i=>aM (az V i) j) c
 |0,_=>by simp[gd,bB]
 |c+1,h=>by
  have d:=kU r b (c:=c) fun i e=>h i (by omega);rw[gd,cF (by rw[h c (by omega),d]),JC r b j (c:=c) fun i e=>h i (by omega),bB];ac_rfl
theorem Sa{V:aR}{m:Nat}(r:Row){a:Row}(b:a.length=m)(y:Nat->UInt8)(n:Nat):∀{c:Nat},(∀i,i<c->(az V i).length=m)->bB (fun j=>aM (gd V r a c) j) y n=bB (fun j=>aM a j) y n^^^bB (fun i=>aM r i) (fun i=>bB (fun j=>aM (az V i) j) y n) c
 |0,_=>by simp[gd,bB]
 |c+1,h=>by
  have d:=kU r b (c:=c) fun i e=>h i (by omega);rw[gd,JA (by rw[h c (by omega),d]),Sa r b y n (c:=c) fun i e=>h i (by omega),bB];ac_rfl
theorem Sb(f g a:Nat->UInt8):∀k,bB f (fun i=>g i^^^a i) k=bB f g k^^^bB f a k
 |0=>by simp[bB]
 |k+1=>by rw[bB,bB,bB,Sb f g a k,Gf.jz];ac_rfl
theorem Se(t:UInt8)(f g:Nat->UInt8):∀k,bB f (fun i=>Gf.mul t (g i)) k=Gf.mul t (bB f g k)
 |0=>by simp[bB,Gf.mul_zero]
 |k+1=>by
  rw[bB,bB,Se t f g k,Gf.jz];congr 1;rw[<-Gf.mul_assoc,<-Gf.mul_assoc,Gf.mul_comm (f k) t]
theorem DC{n:Nat}(g:Nat->UInt8):∀{l:List Int},(∀x∈l,0<=x/\x<(n:Int))->l.Nodup->bB (fun j=>aM (fB n l) j) g n=cA (fun c=>g c.toNat) l
 |[],_,_=>by
  rw[cA];refine ff _ _ n fun j _=>?_;rw[Dt [] (fun x a=>by cases a) j];simp
 |c::l,h,hd=>by
  rw[yi]at hd;have m:=h c (by simp);have e:=DC g (l:=l) (fun x a=>h x (by simp[a])) hd.2;have d:bB (fun j=>aM (fB n (c::l)) j) g n=bB (fun j=>if(j:Int)∈c::l then 1 else 0) g n:=fk n (fun j _=>Dt _ h j) fun _ _=>rfl;have k:bB (fun j=>aM (fB n l) j) g n=bB (fun j=>if(j:Int)∈l then 1 else 0) g n:=fk n (fun j _=>Dt _ (fun x a=>h x (by simp[a])) j) fun _ _=>rfl;rw[d,cA,<-e,k];rw[Jy (f:=fun j=>if(j:Int)∈l then 1 else 0) (f':=fun j=>if(j:Int)∈c::l then 1 else 0) (c:=c.toNat) (by rw[if_neg];rw[show((c.toNat:Nat):Int)=c by omega];exact hd.1) (fun i=>by
   by_cases b:i=c.toNat
   ·subst b;rw[if_pos rfl,if_pos];rw[show((c.toNat:Nat):Int)=c by omega];simp
   ·rw[if_neg b];have:(i:Int)≠c:=fun o=>b (by omega);simp[this]),if_pos (by omega)]
  ac_rfl
theorem kernel{nd:Nat}{a:aR}(U:be nd a)(L:cG a<nd):∃y:Nat->UInt8,(∃i,i<nd/\y i≠0)/\∀r∈a,bB (fun j=>aM r j) y nd=0:=by
 have w:=ach U;obtain⟨K,X,ad,P,Y,⟨p,S,W,p3,Z⟩,H⟩:=w;generalize hT:cG a=T at*;generalize (bC a (fG a)).2=rows at*;have v:∃j,j<nd/\∀i,i<T->p i≠j:=by
  have s:∀T nd:Nat,T<nd->∀p:Nat->Nat,(∀i,i<T->p i<nd)->∃j,j<nd/\∀i,i<T->p i≠j:=by
   intro T nd ah p V;by_cases f:∀j,j<nd->∃i,i<T/\p i=j
   ·exfalso;have B:∀j∈qC nd,j∈(qC T).map p:=fun j A=>by
     obtain⟨i,g,rfl⟩:=f j (qH.1 A);exact qx.2 ⟨i,qH.2 g,rfl⟩
    have:=OR vu B;simp at this;omega
   ·simp only[Classical.not_forall,not_exists,not_and]at f;obtain⟨j,A,h⟩:=f;exact⟨j,A,h⟩
  exact s T nd L p S
 obtain⟨j,A,G⟩:=v;have E:∀i e,i<T->e<T->p i=p e->i=e:=fun i e o n h3=>by
  rcases yd i e with h|h|h
  ·have:=Z i e h n;omega
  ·exact h
  ·have:=Z e i h o;omega
 let y:Nat->UInt8:=fun c=>if c=j then 1 else cA (fun i=>if p i.toNat=c then aM (az rows i.toNat) j else 0) ((qC T).map fun i:Nat=>(i:Int))
 have hy:∀i,i<T->y (p i)=aM (az rows i) j:=fun i g=>by
  show(if p i=j then 1 else _)=_;rw[if_neg (G i g)];have R:((qC T).map fun i:Nat=>(i:Int)).Nodup:=by
   exact List.Pairwise.map _ (fun a b h u=>h (vH.1 u)) vu
  rw[Ar _ R (c:=(i:Int)) (qx.2 ⟨i,qH.2 g,rfl⟩),Gc,zQ]
  ·simp
  ·intro c q;rw[qI]at q;obtain⟨e,t,rfl⟩:=qx.1 q.1;have I:e≠i:=fun u=>by subst u;simp at q
   rw[qp,if_neg fun u=>I (E e i (qH.1 t) g u)]
 have M:∀c,c≠j->(∀i,i<T->p i≠c)->y c=0:=fun c q V=>by
  show(if c=j then 1 else _)=_;rw[if_neg q,Gc];intro d hd;obtain⟨e,t,rfl⟩:=qx.1 hd;rw[qp,if_neg (V e (qH.1 t))]
 have D:y j=1:=by show(if j=j then 1 else _)=_;rw[if_pos rfl]
 refine⟨y,⟨j,A,by rw[D];decide⟩,fun r O=>?_⟩;refine Span.lin K (fun r=>bB (fun c=>aM r c) y nd) (ff _ _ nd fun c _=>co _ _) (fun c x z o n=>JA (by omega) c y nd) (fun r L=>?_) ((P r).2 (Span.row U O));obtain⟨k,N,rfl⟩:=fj L;by_cases l:k<T
 ·--the row's own beginning,and j
  have hf:∀c,c<nd->aM (az rows k) c=0∨y c=0∨c=p k∨c=j:=fun c q=>by
   by_cases o:c=j
   ·exact .inr (.inr (.inr o))
   ·by_cases n:∃i,i<T/\p i=c
    ·obtain⟨i,g,rfl⟩:=n;by_cases F:k=i
     ·subst F;exact .inr (.inr (.inl rfl))
     ·refine .inl ?_;rw[W i g k N,if_neg F]
    ·exact .inr (.inl (M c o fun i g u=>n ⟨i,g,u⟩))
  have Q:=S k l;have J:aM (az rows k) (p k)=1:=by rw[W k l k N,if_pos rfl]
  have I:p k≠j:=G k l;have s:∀m,m<=nd->bB (fun c=>aM (az rows k) c) y m=(if p k<m then aM (az rows k) j else 0)^^^(if j<m then aM (az rows k) j else 0):=by
   intro m
   induction m with
   |zero=>intro _;simp[bB]
   |succ m ih=>
    intro hm;rw[bB,ih (by omega)];by_cases o:m=p k
    ·have ab:m≠j:=by omega
     rw[o,J,Gf.one_mul,hy k l];rw[if_neg (Nat.lt_irrefl _),if_pos (Nat.lt_succ_self _)];by_cases h3:j<p k
     ·rw[if_pos h3,if_pos (by omega)];ac_rfl
     ·rw[if_neg h3,if_neg (by omega)];ac_rfl
    ·by_cases n:m=j
     ·rw[n,D,Gf.mul_one];rw[if_neg (Nat.lt_irrefl j),if_pos (Nat.lt_succ_self j),zQ];by_cases h3:p k<j
      ·rw[if_pos h3,if_pos (by omega)]
      ·rw[if_neg h3,if_neg (by omega)]
     ·have hz:Gf.mul (aM (az rows k) m) (y m)=0:=by
       rcases hf m (by omega)with h|h|h|h
       ·rw[h,Gf.zero_mul]
       ·rw[h,Gf.mul_zero]
       ·exact absurd h o
       ·exact absurd h n
      rw[hz,zQ];have a1:(p k<m+1)↔(p k<m):=by omega
      have a2:(j<m+1)↔(j<m):=by omega
      simp only[a1,a2]
  rw[s nd (ql _),if_pos Q,if_pos A,kJ]
 ·exact ff _ _ nd fun c q=>H k (by omega) N c q
def dc(n nd:Nat)(rest:List eF)(W:aR)(left:List Int)(ahead:aR):aR:=(left.map fun i=>cB W (aK nd) (rest.getD i.toNat ([],[])).1)++ahead.map fun r=>gd W r (aK nd) n
def fa(n w:Nat)(rest:List eF)(M:aR)(left:List Int)(ahead:aR):aR:=(left.map fun i=>cB M (rest.getD i.toNat ([],[])).2 (rest.getD i.toNat ([],[])).1)++ahead.map fun r=>gd M r (aK w) n
def wt(nd:Nat)(known:List Bool)(vals:aR)(W M D:aR):aR:=vals.mapIdx fun c r=>if known.getD c false then r else gd D (az W c) (az M c) nd
def de(n:Nat)(l:List eF)(ahead:aR):aR:=ahead++l.map fun e=>fB n e.1
def gH(w:Nat)(l:List eF)(ahead:aR):aR:=qh ahead.length (aK w)++l.map zA
def at_(X:aR)(k:Nat)(c:Int):UInt8:=aM (az X c.toNat) k
section
variable {n w:Nat} {l:List eF} {ahead:aR}
theorem Av(b:be n ahead):be n (de n l ahead):=fun r a=>by
 rcases qE.1 a with a|a
 ·exact b r a
 ·obtain⟨e,_,rfl⟩:=qx.1 a;exact ru _ _
theorem Aw(b:∀e∈l,il n w e):be w (gH w l ahead):=fun r a=>by
 rcases qE.1 a with a|a
 ·rw[(wM.1 a).2];simp[aK]
 ·obtain⟨e,c,rfl⟩:=qx.1 a;exact(b e c).len
theorem uN:(de n l ahead).length=(gH w l ahead).length:=by simp[de,gH]
theorem DD(p:∀e∈l,il n w e){X:aR}:eW n w (de n l ahead) (gH w l ahead) X↔X.length=n/\be w X/\∀k,k<w->(∀e∈l,Sat 1 k (at_ X k) e)/\∀r∈ahead,bB (fun j=>aM r j) (fun c=>aM (az X c) k) n=0:=by
 unfold eW;refine⟨fun⟨h1,h2,h3⟩=>⟨h1,h2,fun k q=>⟨fun e h=>?_,fun r t=>?_⟩⟩,fun⟨h1,h2,h3⟩=>⟨h1,h2,fun i g=>?_⟩⟩
 ·obtain⟨i,g,rfl⟩:=qF h;have:=h3 (ahead.length+i) (by simp[de];omega);have b:az (de n l ahead) (ahead.length+i)=fB n l[i].1:=by rw[bt (by simp[de];omega)];simp[de]
  have f:az (gH w l ahead) (ahead.length+i)=l[i].2:=by rw[bt (by simp[gH];omega)];simp[gH]
  rw[b,f]at this;have o:=congrArg (fun r=>aM r k) this;rw[gl h2 h1 _ k n (ql _),DC _ (p _ h).cD (p _ h).nodup]at o;unfold Sat;rw[Gf.one_mul];exact o
 ·obtain⟨i,g,rfl⟩:=qF t;have:=h3 i (by simp[de];omega);have b:az (de n l ahead) i=ahead[i]:=by rw[bt (by simp[de];omega)];simp[de,w5 g]
  have f:az (gH w l ahead) i=aK w:=by rw[bt (by simp[gH];omega)];simp[gH,g]
  rw[b,f]at this;have o:=congrArg (fun r=>aM r k) this;rw[gl h2 h1 _ k n (ql _),co]at o;exact o
 ·have m:(az (gH w l ahead) i).length=w:=bZ (Aw p) (by rw[<-uN (n:=n)];exact g);refine fi (n:=w) (gW h2 h1 _ n (ql _)) m fun k q=>?_;rw[gl h2 h1 _ k n (ql _)];simp only[de,qu,qw]at g;by_cases a:i<ahead.length
  ·have b:az (de n l ahead) i=ahead[i]:=by rw[bt (by simp[de];omega)];simp[de,w5 a]
   have f:az (gH w l ahead) i=aK w:=by rw[bt (by simp[gH];omega)];simp[gH,a]
   rw[b,f,co];exact(h3 k q).2 _ (qg a)
  ·obtain⟨d,rfl⟩:∃d,i=ahead.length+d:=⟨i-ahead.length,by omega⟩
   have s:d<l.length:=by omega
   have b:az (de n l ahead) (ahead.length+d)=fB n l[d].1:=by rw[bt (by simp[de];omega)];simp[de]
   have f:az (gH w l ahead) (ahead.length+d)=l[d].2:=by rw[bt (by simp[gH];omega)];simp[gH]
   have h:=p _ (qg s);rw[b,f,DC _ h.cD h.nodup];have:=(h3 k q).1 _ (qg s);unfold Sat at this;rw[Gf.one_mul]at this;exact this
end
structure gb (n w:Nat) (l:List eF) (ahead:aR) (known:List Bool) (vals:aR) (dead left:List Int) (W M:aR):Prop where
 eqs:∀e∈l,il n w e
 ahd:be n ahead
 pinv:jl n w l known vals
 calm:jI known vals l=false
 deadR:∀c∈dead,0<=c/\c<(n:Int)
 deadN:dead.Nodup
 deadK:∀c∈dead,kn known c=false
 lens:W.length=n/\M.length=n/\∀c:Nat,c<n->(az W c).length=dead.length/\(az M c).length=w
 evKnown:∀t k y,∀c:Int,0<=c->c<(n:Int)->kn known c=true->ev t k dead.length W M y c=Gf.mul t (aM (az vals c.toNat) k)
 evDead:∀t k y,∀i,(h:i<dead.length)->ev t k dead.length W M y dead[i]=y i
 evRest:∀t k y,k<w->(∀i∈left,Sat t k (ev t k dead.length W M y) ((aW known vals l).getD i.toNat ([],[])))->∀e∈aW known vals l,Sat t k (ev t k dead.length W M y) e
 leftR:∀i∈left,0<=i/\i<((aW known vals l).length:Int)
 evAll:∀t k x,k<w->(∀c:Int,0<=c->c<(n:Int)->kn known c=true->x c=Gf.mul t (aM (az vals c.toNat) k))->(∀e∈aW known vals l,Sat t k x e)->∀c:Int,0<=c->c<(n:Int)->x c=ev t k dead.length W M (fun i=>x (dead.getD i 0)) c
section
variable {n w:Nat} {l:List eF} {ahead:aR} {known:List Bool} {vals:aR} {dead left:List Int} {W M:aR}
theorem ox(h:jl n w l known vals)(c:∀e∈l,il n w e):∀e∈aW known vals l,il n w e:=fun e d=>by
 obtain⟨b,a,rfl⟩:=qx.1 (qI.1 d).1;exact h.BZ (c b a)
theorem Bc{a b:UInt8}:a^^^b=0↔a=b:=pf
theorem gb.Sf(S:gb n w l ahead known vals dead left W M){i:Int}(m:i∈left)(t:UInt8)(k:Nat)(y:Nat->UInt8):
  bB (fun j=>aM (cB W (aK dead.length) ((aW known vals l).getD i.toNat ([],[])).1) j) y dead.length=Gf.mul t (aM (cB M ((aW known vals l).getD i.toNat ([],[])).2 ((aW known vals l).getD i.toNat ([],[])).1) k)↔Sat t k (ev t k dead.length W M y) ((aW known vals l).getD i.toNat ([],[])):=by
 have h:=S.leftR i m;have b:i.toNat<(aW known vals l).length:=by omega
 have p:(aW known vals l).getD i.toNat ([],[])=(aW known vals l)[i.toNat]:=by rw[qe,qd b];rfl
 have a:=ox S.pinv S.eqs _ (qg b);rw[p];generalize (aW known vals l)[i.toNat]=e at*;have o:(aK dead.length).length=dead.length:=by simp[aK]
 have f:∀c∈e.1,(az W c.toNat).length=dead.length:=fun c d=>((S.lens.2.2 c.toNat) (by have:=a.cD c d;omega)).1;have g:∀c∈e.1,(az M c.toNat).length=w:=fun c d=>((S.lens.2.2 c.toNat) (by have:=a.cD c d;omega)).2;have:=Nj o a.len f g t k y;rw[ff _ _ dead.length fun j _=>co _ _,wc]at this;rw[<-Bc,this];unfold Sat;rw[Bc];exact eq_comm
theorem gb.OS(S:gb n w l ahead known vals dead left W M)(r:Row)(t:UInt8)(k:Nat)(y:Nat->UInt8):
  bB (fun j=>aM (gd W r (aK dead.length) n) j) y dead.length=Gf.mul t (aM (gd M r (aK w) n) k)↔bB (fun j=>aM r j) (fun c=>ev t k dead.length W M y (c:Int)) n=0:=by
 have d:=Sa (V:=W) (m:=dead.length) r (a:=aK dead.length) (by simp[aK]) y dead.length (c:=n) fun i b=>(S.lens.2.2 i b).1;have e:=JC (V:=M) (m:=w) r (a:=aK w) (by simp[aK]) k (c:=n) fun i b=>(S.lens.2.2 i b).2;rw[d,e,ff _ _ dead.length fun j _=>co _ _,co,wc,wc,<-Bc,<-Se,<-Sb];have:(fun c:Nat=>ev t k dead.length W M y (c:Int))=fun i=>bB (fun j=>aM (az W i) j) y dead.length^^^Gf.mul t (aM (az M i) k):=by
  funext c;unfold ev;rw[qp]
 rw[this]
theorem gb.up(S:gb n w l ahead known vals dead left W M){t:UInt8}{k:Nat}{y:Nat->UInt8}(h:k<w)
  (f:∀i,i<(dc n dead.length (aW known vals l) W left ahead).length->bB (fun j=>aM (az (dc n dead.length (aW known vals l) W left ahead) i) j) y dead.length=Gf.mul t (aM (az (fa n w (aW known vals l) M left ahead) i) k)):
  (∀e∈l,Sat t k (ev t k dead.length W M y) e)/\∀r∈ahead,bB (fun j=>aM r j) (fun c=>ev t k dead.length W M y (c:Int)) n=0:=by
 refine⟨(RT S.pinv S.eqs S.calm h).2 ⟨fun c h0 p o=>S.evKnown t k y c h0 p o,S.evRest t k y h fun i g=>?_⟩,fun r m=>?_⟩
 ·obtain⟨j,a,rfl⟩:=qF g;have:=f j (by simp[dc];omega);have b:az (dc n dead.length (aW known vals l) W left ahead) j=cB W (aK dead.length) ((aW known vals l).getD left[j].toNat ([],[])).1:=by
   rw[bt (by simp[dc];omega)];simp[dc,a]
  have d:az (fa n w (aW known vals l) M left ahead) j=cB M ((aW known vals l).getD left[j].toNat ([],[])).2 ((aW known vals l).getD left[j].toNat ([],[])).1:=by
   rw[bt (by simp[fa];omega)];simp[fa,a]
  rw[b,d]at this;exact(S.Sf g t k y).1 this
 ·obtain⟨j,a,rfl⟩:=qF m;have:=f (left.length+j) (by simp[dc];omega);have b:az (dc n dead.length (aW known vals l) W left ahead) (left.length+j)=gd W ahead[j] (aK dead.length) n:=by
   rw[bt (by simp[dc];omega)];simp[dc]
  have d:az (fa n w (aW known vals l) M left ahead) (left.length+j)=gd M ahead[j] (aK w) n:=by
   rw[bt (by simp[fa];omega)];simp[fa]
  rw[b,d]at this;exact(S.OS _ t k y).1 this
theorem gb.down(S:gb n w l ahead known vals dead left W M){t:UInt8}{k:Nat}{x:Int->UInt8}(p:k<w)(u:∀e∈l,Sat t k x e)(D:∀r∈ahead,bB (fun j=>aM r j) (fun c=>x (c:Int)) n=0):
  (∀c:Int,0<=c->c<(n:Int)->x c=ev t k dead.length W M (fun i=>x (dead.getD i 0)) c)/\
  ∀i,i<(dc n dead.length (aW known vals l) W left ahead).length->bB (fun j=>aM (az (dc n dead.length (aW known vals l) W left ahead) i) j) (fun i=>x (dead.getD i 0)) dead.length=Gf.mul t (aM (az (fa n w (aW known vals l) M left ahead) i) k):=by
 obtain⟨B,q⟩:=(RT S.pinv S.eqs S.calm p).1 u;have g:=S.evAll t k x p B q;refine⟨g,fun i y=>?_⟩;simp only[dc,qu,qw]at y;by_cases a:i<left.length
 ·have h:az (dc n dead.length (aW known vals l) W left ahead) i=cB W (aK dead.length) ((aW known vals l).getD left[i].toNat ([],[])).1:=by
   rw[bt (by simp[dc];omega)];simp[dc,a]
  have o:az (fa n w (aW known vals l) M left ahead) i=cB M ((aW known vals l).getD left[i].toNat ([],[])).2 ((aW known vals l).getD left[i].toNat ([],[])).1:=by
   rw[bt (by simp[fa];omega)];simp[fa,a]
  rw[h,o];refine(S.Sf (qg a) t k _).2 ?_;have A:=S.leftR _ (qg a);have b:left[i].toNat<(aW known vals l).length:=by omega
  have z:(aW known vals l).getD left[i].toNat ([],[])=(aW known vals l)[left[i].toNat]:=by rw[qe,qd b];rfl
  rw[z];have s:=q _ (qg b);have f:=ox S.pinv S.eqs _ (qg b);unfold Sat at s⊢;rw[<-s];exact jH fun c m=>(g c (f.cD c m).1 (f.cD c m).2).symm
 ·obtain⟨d,rfl⟩:∃d,i=left.length+d:=⟨i-left.length,by omega⟩
  have v:d<ahead.length:=by omega
  have h:az (dc n dead.length (aW known vals l) W left ahead) (left.length+d)=gd W ahead[d] (aK dead.length) n:=by
   rw[bt (by simp[dc];omega)];simp[dc]
  have o:az (fa n w (aW known vals l) M left ahead) (left.length+d)=gd M ahead[d] (aK w) n:=by
   rw[bt (by simp[fa];omega)];simp[fa]
  rw[h,o];refine(S.OS _ t k _).2 ?_;rw[<-D _ (qg v)];exact fk n (fun _ _=>rfl) fun c m=>(g (c:Int) (by omega) (by omega)).symm
theorem pm(S:gb n w l ahead known vals dead left W M):be dead.length (dc n dead.length (aW known vals l) W left ahead)/\be w (fa n w (aW known vals l) M left ahead):=by
 have d:∀i∈left,il n w ((aW known vals l).getD i.toNat ([],[])):=fun i b=>by
  have h:=S.leftR i b;have e:i.toNat<(aW known vals l).length:=by omega
  rw[qe,qd e];exact ox S.pinv S.eqs _ (qg e)
 constructor
 ·intro r a;rcases qE.1 a with a|a
  ·obtain⟨i,b,rfl⟩:=qx.1 a;exact jk (by simp[aK]) fun c f=>((S.lens.2.2 c.toNat) (by have:=(d i b).cD c f;omega)).1
  ·obtain⟨x,g,rfl⟩:=qx.1 a;exact kU x (by simp[aK]) fun i b=>(S.lens.2.2 i b).1
 ·intro r a;rcases qE.1 a with a|a
  ·obtain⟨i,b,rfl⟩:=qx.1 a;exact jk (d i b).len fun c f=>((S.lens.2.2 c.toNat) (by have:=(d i b).cD c f;omega)).2
  ·obtain⟨x,g,rfl⟩:=qx.1 a;exact kU x (by simp[aK]) fun i b=>(S.lens.2.2 i b).2
theorem Ax:(dc n dead.length (aW known vals l) W left ahead).length=(fa n w (aW known vals l) M left ahead).length:=by simp[dc,fa]
theorem gb.Ni(S:gb n w l ahead known vals dead left W M)(T:1<=w)(d:cG (de n l ahead)=n):cG (dc n dead.length (aW known vals l) W left ahead)=dead.length:=by
 obtain⟨H,Y⟩:=pm S;have N:=FX H;by_cases F:cG (dc n dead.length (aW known vals l) W left ahead)<dead.length
 ·exfalso;obtain⟨y,⟨i,b,L⟩,J⟩:=kernel H F;have o:=S.up (t:=0) (k:=0) (y:=y) T fun i b=>by rw[J _ (mem_row b),Gf.zero_mul]
  have G:=Av (l:=l) S.ahd;have u:be 1 (qh (de n l ahead).length (aK 1)):=fun r d=>by rw[(wM.1 d).2];simp[aK]
  have f:(de n l ahead).length=(qh (de n l ahead).length (aK 1)).length:=by simp
  have O:eW n 1 (de n l ahead) (qh (de n l ahead).length (aK 1)) (qh n (aK 1)):=by
   have a:be 1 (qh n (aK 1)):=fun r d=>by rw[(wM.1 d).2];simp[aK]
   refine⟨by simp,a,fun i b=>?_⟩;refine fi (n:=1) (gW a (by simp) _ n (ql _)) (bZ u (by simpa using b)) fun k R=>?_;rw[gl a (by simp) _ k n (ql _)];have E:az (qh (de n l ahead).length (aK 1)) i=aK 1:=by rw[bt (by simpa using b)];simp
   rw[E,co];have:∀g,g<=n->bB (fun j=>aM (az (de n l ahead) i) j) (fun c=>aM (az (qh n (aK 1)) c) k) g=0:=by
    intro g
    induction g with
    |zero=>intro _;rfl
    |succ g ih=>
     intro V;have P:az (qh n (aK 1)) g=aK 1:=by rw[bt (by simp;omega)];simp
     rw[bB,ih (by omega),P,co,Gf.mul_zero];rfl
   exact this n (ql _)
  have Q:eW n 1 (de n l ahead) (qh (de n l ahead).length (aK 1)) ((qC n).map fun c:Nat=>[ev 0 0 dead.length W M y (c:Int)]):=by
   have a:be 1 ((qC n).map fun c:Nat=>[ev 0 0 dead.length W M y (c:Int)]):=fun r d=>by obtain⟨c,_,rfl⟩:=qx.1 d;rfl
   have p:∀c:Nat,c<n->az ((qC n).map fun c:Nat=>[ev 0 0 dead.length W M y (c:Int)]) c=[ev 0 0 dead.length W M y (c:Int)]:=fun c q=>by rw[bt (by simpa using q)];simp
   refine⟨by simp,a,fun i b=>?_⟩;refine fi (n:=1) (gW a (by simp) _ n (ql _)) (bZ u (by simpa using b)) fun k R=>?_;have D:k=0:=by omega
   subst D;rw[gl a (by simp) _ 0 n (ql _)];have E:az (qh (de n l ahead).length (aK 1)) i=aK 1:=by rw[bt (by simpa using b)];simp
   rw[E,co];have U:bB (fun j=>aM (az (de n l ahead) i) j) (fun c=>aM (az ((qC n).map fun c:Nat=>[ev 0 0 dead.length W M y (c:Int)]) c) 0) n=bB (fun j=>aM (az (de n l ahead) i) j) (fun c=>ev 0 0 dead.length W M y (c:Int)) n:=
    fk n (fun _ _=>rfl) fun c q=>by rw[p c q];rfl
   rw[U];have A:az (de n l ahead) i∈ahead++l.map fun e=>fB n e.1:=mem_row b;obtain v|v:=qE.1 A
   ·exact o.2 _ v
   ·obtain⟨e,s,z⟩:=qx.1 v;rw[<-z,DC _ (S.eqs e s).cD (S.eqs e s).nodup];have B:=o.1 e s;unfold Sat at B;rw[Gf.zero_mul]at B;refine Eq.trans (jH fun c q=>?_) B;have:=(S.eqs e s).cD c q;rw[show((c.toNat:Nat):Int)=c by omega]
  have X:=(kT f G u d O).1;have I:=(kT f G u d Q).1;have x:=I.trans X.symm;have K:=S.deadR _ (qg b);have h:=congrArg (fun m=>aM (az m dead[i].toNat) 0) x;rw[bt (by simp;omega),bt (by simp;omega)]at h;simp only[zY,List.getElem_range,List.getElem_replicate,co]at h;rw[show((dead[i].toNat:Nat):Int)=dead[i]by omega]at h;have h8:aM [ev 0 0 dead.length W M y dead[i]] 0=ev 0 0 dead.length W M y dead[i]:=rfl;rw[h8,S.evDead 0 0 y i b]at h;exact L h
 ·omega
theorem Nl(S:gb n w l ahead known vals dead left W M){D:aR}(g:D.length=dead.length)(f:be w D){c:Nat}(d:c<n):
  (az (wt dead.length known vals W M D) c).length=w/\∀k,aM (az (wt dead.length known vals W M D) c) k=ev 1 k dead.length W M (fun i=>aM (az D i) k) (c:Int):=by
 have j:=S.pinv.vlen;have a:az (wt dead.length known vals W M D) c=if known.getD c false then az vals c else gd D (az W c) (az M c) dead.length:=by
  unfold wt;rw[DB (by omega)]
 have e:=S.lens.2.2 c d;rw[a];cases hkn:known.getD c false with
 |true=>
  rw[if_pos rfl];refine⟨by have:=S.pinv.row c d;rw[hkn]at this;simpa using this,fun k=>?_⟩;have:=S.evKnown 1 k (fun i=>aM (az D i) k) (c:Int) (by omega) (by omega) (by unfold kn;rw[qp];exact hkn);rw[this,qp,Gf.one_mul]
 |false=>
  rw[if_neg (by simp)];have b:∀i,i<dead.length->(az D i).length=w:=fun i h=>bZ f (by omega);refine⟨kU _ e.2 b,fun k=>?_⟩;rw[JC _ e.2 k b];unfold ev;rw[qp,Gf.one_mul,vl]
theorem aeo(h:vals.length=n){D:aR}:(wt dead.length known vals W M D).length=n:=by simp[wt,h]
theorem gb.Xz(S:gb n w l ahead known vals dead left W M){D:aR}(o:eW dead.length w (dc n dead.length (aW known vals l) W left ahead) (fa n w (aW known vals l) M left ahead) D):eW n w (de n l ahead) (gH w l ahead) (wt dead.length known vals W M D):=by
 obtain⟨b,a,h⟩:=o;obtain⟨u,v⟩:=pm S;have f:=aeo (dead:=dead) (known:=known) (W:=W) (M:=M) S.pinv.vlen (D:=D);refine(DD S.eqs).2 ⟨f,fun r g=>?_,fun k q=>?_⟩
 ·obtain⟨c,d,rfl⟩:=fj g;exact(Nl S b a (by omega)).1
 ·have m:=S.up (t:=1) (k:=k) (y:=fun i=>aM (az D i) k) q fun i p=>by
   have:=congrArg (fun r=>aM r k) (h i p);rw[gl a b _ k dead.length (ql _)]at this;rw[this,Gf.one_mul]
  refine⟨fun e j=>?_,fun r g=>?_⟩
  ·have h3:=m.1 e j;unfold Sat at h3⊢;rw[<-h3];refine jH fun c d=>?_;have s:=(S.eqs e j).cD c d;unfold at_;rw[(Nl S b a (show c.toNat<n by omega)).2 k,show((c.toNat:Nat):Int)=c by omega]
  ·rw[<-m.2 r g];exact fk n (fun _ _=>rfl) fun c d=>(Nl S b a d).2 k
theorem gb.Uz(S:gb n w l ahead known vals dead left W M){X:aR}(o:eW n w (de n l ahead) (gH w l ahead) X):eW dead.length w (dc n dead.length (aW known vals l) W left ahead) (fa n w (aW known vals l) M left ahead) (dead.map fun c=>az X c.toNat):=by
 obtain⟨u,p,g⟩:=(DD S.eqs).1 o;obtain⟨s,q⟩:=pm S;have e:be w (dead.map fun c=>az X c.toNat):=fun r d=>by
  obtain⟨c,m,rfl⟩:=qx.1 d;have:=S.deadR c m;exact bZ p (by omega)
 have b:(dead.map fun c=>az X c.toNat).length=dead.length:=by simp
 refine⟨b,e,fun i f=>fi (n:=w) (gW e b _ _ (ql _)) (bZ q (by rw[<-Ax (n:=n) (w:=w)];exact f)) fun k a=>?_⟩;rw[gl e b _ k dead.length (ql _)];have h3:=(S.down (t:=1) (x:=at_ X k) a (g k a).1 (fun r d=>by
  have:=(g k a).2 r d;rw[<-this];exact fk n (fun _ _=>rfl) fun c m=>by unfold at_;rw[qp])).2 i f
 rw[Gf.one_mul]at h3;rw[<-h3];refine fk _ (fun _ _=>rfl) fun j h=>?_;unfold at_;rw[bt (by simpa using h),qe,qd h];simp
end
def gE(known:List Bool)(i:Nat):List (List Int):=((qC i).filter fun c=>known.getD c false).map fun c:Nat=>[(c:Int)]
theorem Nm(known:List Bool)(i:Nat):gE known (i+1)=gE known i++if known.getD i false then[[(i:Int)]]else[]:=by
 unfold gE;rw[zF,zh,qQ];cases h:known.getD i false<;>simp only[zm,h,yO]<;>rfl
theorem Er(known:List Bool)(i:Nat):(gE known i).length<=i:=by
 unfold gE;rw[qw];exact zl (q7 _ _) (by simp)
def rowsOf(R:List eF)(known:List Bool)(n:Nat):List (List Int):=R.map qK++gE known n
def fU(R:List eF)(known:List Bool)(n:Nat):Pl:=dh n (rowsOf R known n)
def mN(R:List eF)(known:List Bool)(n:Nat):List (Int×Int):=(fU R known n).steps.filter fun x=>decide (x.1<R.length)
def leftOf(R:List eF)(known:List Bool)(n:Nat):List Int:=(eZ (fU R known n).used (rowsOf R known n).length).filter fun x=>decide (x<R.length)
theorem Ay{known:List Bool}{n:Nat}{r:List Int}(h:r∈gE known n):∃c:Nat,r=[(c:Int)]/\c<n/\known.getD c false=true:=by
 obtain⟨c,a,rfl⟩:=qx.1 h;rw[qI,qH]at a;exact⟨c,rfl,a.1,a.2⟩
theorem Gl{rows:List (List Int)}:∀{d:List (Int×Int)} {D U:Int->Prop},sB rows D U d->∀i c,(i,c)∈d->(0<=i/\i<rows.length)/\c∈rows.getD i.toNat []
 |[],_,_,_,_,_,h=>by cases h
 |(i',c')::t,D,U,hg,i,c,h=>by
  obtain⟨e,_,_,f,_,g⟩:=hg;rcases zc.1 h with h|h
  ·injection h with a b;subst a;subst b;exact⟨e,f⟩
  ·exact Gl g i c h
section
variable {n w:Nat} {l:List eF} {ahead:aR} {known:List Bool} {vals:aR}
theorem uO(f:∀e∈aW known vals l,il n w e):∀r∈rowsOf (aW known vals l) known n,∀c∈r,0<=c/\c<(n:Int):=fun r a c b=>by
 rcases qE.1 a with a|a
 ·obtain⟨e,g,rfl⟩:=qx.1 a;exact(f e g).cD c b
 ·obtain⟨d,rfl,h,_⟩:=Ay a;rw[qG]at b;subst b;omega
theorem OT(j:∀e∈l,il n w e)(f:jl n w l known vals):sC ((aW known vals l).map qK) (·∈(fU (aW known vals l) known n).dead) (mN (aW known vals l) known n):=by
 have k:=ox f j;obtain⟨_,_,_,_,_,g⟩:=ws (uO k);have:=Bb (R:=(aW known vals l).map qK) (S:=gE known n) (K:=fun c=>kn known c=true) (fun r b c a=>?_) (fun r b c a=>?_) g (D':=(·∈(fU (aW known vals l) known n).dead)) fun c _=>Iff.rfl
 ·rw[qw]at this;exact this
 ·obtain⟨e,m,rfl⟩:=qx.1 b;obtain⟨h,i,rfl⟩:=qx.1 (qI.1 m).1;rw[Ge f h c a];simp
 ·obtain⟨d,rfl,_,o⟩:=Ay b;rw[qG]at a;subst a;unfold kn;rw[qp];exact o
theorem KV(o:∀e∈l,il n w e)(m:jl n w l known vals):
  (∀c∈(fU (aW known vals l) known n).dead,0<=c/\c<(n:Int))/\(fU (aW known vals l) known n).dead.Nodup/\(∀c∈(fU (aW known vals l) known n).dead,kn known c=false)/\
  (∀i∈leftOf (aW known vals l) known n,0<=i/\i<((aW known vals l).length:Int))/\(fU (aW known vals l) known n).dead.length<=n:=by
 have k:=ox m o;obtain⟨q,r,a3,a4,a5,g⟩:=ws (uO k);refine⟨a3,a4,fun c h=>?_,fun i a=>?_,by unfold fU;omega⟩
 ·have f:=a3 c h;cases hk:kn known c with
  |false=>rfl
  |true=>
   exfalso;have b:[c]∈rowsOf (aW known vals l) known n:=qE.2 (.inr (qx.2 ⟨c.toNat,qI.2 ⟨qH.2 (by omega),hk⟩,by rw[show((c.toNat:Nat):Int)=c by omega]⟩));exact Dz b n (qh n true) (qh _ false) (fun i a=>by rw[Gi]at a;cases a) (fun d p b=>by have:=a3 d b;omega) f.1 h
 ·unfold leftOf at a;rw[qI]at a;have:=a5 i a.1;have j:i<((aW known vals l).length:Int):=by simpa using a.2
  exact⟨this.1,j⟩
theorem acl(s:∀e∈l,il n w e)(q:jl n w l known vals){c:Int}(t:0<=c)(u:c<(n:Int))(b:kn known c=false):c∈(fU (aW known vals l) known n).dead∨∃i,(i,c)∈mN (aW known vals l) known n:=by
 have h:=ox q s;obtain⟨_,_,_,_,_,g⟩:=ws (uO h);have a:=Gk (uO h) n (qh n true) (qh (rowsOf (aW known vals l) known n).length false) (by simp) (by simp) c.toNat (by rw[qe,qd (by simp;omega)];simp);rw[show((c.toNat:Nat):Int)=c by omega]at a;rcases a with a|⟨i,a⟩
 ·exact .inl a
 ·refine .inr ⟨i,qI.2 ⟨a,?_⟩⟩;obtain⟨r,j⟩:=Gl g i c a;by_cases o:i<((aW known vals l).length:Int)
  ·simpa using o
  ·exfalso;have p:=r.2;rw[rowsOf,qu,qw]at p;have k:(rowsOf (aW known vals l) known n).getD i.toNat []∈gE known n:=by
    rw[rowsOf,qe,qj (by rw[qw];omega),qd (by rw[qw];omega)];exact qg _
   obtain⟨d,m,_,f⟩:=Ay k;rw[m,qG]at j;subst j;unfold kn at b;rw[qp,f]at b;cases b
def QP(n w:Nat)(known:List Bool)(vals:aR)(R:List eF):aR×aR:=
 gN (fU R known n).dead.length known vals ((mN R known n).foldl (gp R (fU R known n).dead.length) (fm n (fU R known n).dead.length w (fU R known n).dead))
theorem acm{nd:Nat}{s:aR×aR}{c:Int}(d:0<=c)(a:c.toNat<s.1.length)(b:c.toNat<s.2.length):
  az (gN nd known vals s).1 c.toNat=(if kn known c then aK nd else az s.1 c.toNat)/\az (gN nd known vals s).2 c.toNat=if kn known c then az vals c.toNat else az s.2 c.toNat:=by
 unfold gN kn;exact⟨DB a,DB b⟩
theorem acn(J:∀e∈l,il n w e)(hA:be n ahead)(A:jl n w l known vals)(U:jI known vals l=false):
  gb n w l ahead known vals (fU (aW known vals l) known n).dead (leftOf (aW known vals l) known n) (QP n w known vals (aW known vals l)).1 (QP n w known vals (aW known vals l)).2:=by
 have H:=ox A J;have T:=OT J A;have a:=fun c h0 m o=>acl (c:=c) J A h0 m o;obtain⟨K,P,O,Z,f5⟩:=KV J A;have b:∀j:Nat,j<(aW known vals l).length->(∃c,((j:Int),c)∈mN (aW known vals l) known n)∨(j:Int)∈leftOf (aW known vals l) known n:=fun j W=>by
  cases hu:(fU (aW known vals l) known n).used.getD j false with
  |true=>
   rcases Gj n (qh n true) (qh _ false) j hu with h|⟨c,h⟩
   ·rw[Gi]at h;cases h
   ·exact .inl ⟨c,qI.2 ⟨h,by simp;omega⟩⟩
  |false=>exact .inr (qI.2 ⟨(Dy _ _ _).2 ⟨j,rfl,by rw[rowsOf,qu,qw];omega,hu⟩,by simp;omega⟩)
 have s:∀e∈aW known vals l,∀c∈e.1,kn known c=false:=fun e v c N=>by
  obtain⟨e0,ab,rfl⟩:=qx.1 (qI.1 v).1;exact Ge A e0 c N
 unfold QP;obtain⟨R,f⟩:∃R,R=aW known vals l:=⟨_,rfl⟩
 rw[<-f]at H T K P O Z f5 b a s⊢;obtain⟨D,V⟩:∃D,D=(fU R known n).dead:=⟨_,rfl⟩
 obtain⟨ST,r⟩:∃ST,ST=mN R known n:=⟨_,rfl⟩
 rw[<-V,<-r]at T a;rw[<-r]at b;rw[<-V]at K P O f5;rw[<-V,<-r];obtain⟨Y,du⟩:=Nk (nd:=D.length) (w:=w) K P D.length (ql _);rw[qR]at Y du;obtain⟨u,keep,Q,I⟩:=JB H T Y;generalize ad:ST.foldl (gp R D.length) (fm n D.length w D)=S0 at*;have S:=u.wl;have X:=u.ml;have fr:∀c:Int,0<=c->c<(n:Int)->az (gN D.length known vals S0).1 c.toNat=(if kn known c then aK D.length else az S0.1 c.toNat)/\az (gN D.length known vals S0).2 c.toNat=if kn known c then az vals c.toNat else az S0.2 c.toNat:=fun c h0 m=>acm h0 (by omega) (by omega)
 have z:∀t k y (c:Int),0<=c->c<(n:Int)->kn known c=false->ev t k D.length (gN D.length known vals S0).1 (gN D.length known vals S0).2 y c=ev t k D.length S0.1 S0.2 y c:=fun t k y c h0 m o=>by
  have:=fr c h0 m;rw[o]at this;exact DA this.1 this.2
 have G:∀t k y (c:Int),0<=c->c<(n:Int)->kn known c=true->ev t k D.length (gN D.length known vals S0).1 (gN D.length known vals S0).2 y c=Gf.mul t (aM (az vals c.toNat) k):=fun t k y c h0 m o=>by
  have:=fr c h0 m;rw[o,if_pos rfl,if_pos rfl]at this;unfold ev;rw[this.1,this.2,ff _ _ D.length fun j _=>co _ _,wc]
 have L:∀t k y i,(h:i<D.length)->ev t k D.length (fm n D.length w D).1 (fm n D.length w D).2 y D[i]=y i:=fun t k y i h=>by
  have:=du i h h;unfold ev;rw[this.1,this.2,ack h,co,Gf.mul_zero,zQ]
 have E:∀i:Int,0<=i->i<(R.length:Int)->R.getD i.toNat ([],[])∈R:=fun i h0 m=>by
  rw[qe,qd (by omega)];exact qg _
 refine⟨J,hA,A,U,K,P,O,⟨by simp[gN,S],by simp[gN,X],fun c N=>?_⟩,G,fun t k y i h=>?_,fun t k y o B e v=>?_,by rw[<-f];exact Z,fun t k x o hx B c h0 m=>?_⟩
 ·have h:=fr (c:Int) (by omega) (by omega);rw[qp]at h;rw[h.1,h.2];cases o:kn known (c:Int)with
  |true=>
   rw[if_pos rfl,if_pos rfl];refine⟨by simp[aK],?_⟩;have:=A.Gd (c:=(c:Int)) (by omega) (by omega) o
   rwa [qp]at this
  |false=>
   rw[if_neg (by simp),if_neg (by simp)];have:=u.rw_ (c:Int) (a _ (by omega) (by omega) o) (by omega) (by omega)
   rwa [qp]at this
 ·have M:=K _ (qg h);rw[z t k y _ M.1 M.2 (O _ (qg h)),<-L t k y i h];exact DA (keep _ (qg h) M.1).1 (keep _ (qg h) M.1).2
 ·rw[<-f]at v B;obtain⟨j,W,rfl⟩:=qF v;have ej:R.getD ((j:Int)).toNat ([],[])=R[j]:=by rw[qp,qe,qd W];rfl
  rcases b j W with⟨c,N⟩|hlf
  ·have:=Q _ N t k y o;dsimp only at this;rw[ej]at this;unfold Sat at this⊢;rw[<-this];exact jH fun d F=>z t k y d ((H _ v).cD d F).1 ((H _ v).cD d F).2 (s _ v d F)
  ·have:=B _ hlf
   rwa [ej]at this
 ·rw[<-f]at B;cases hkc:kn known c with
  |true=>rw[hx c h0 m hkc,G _ _ _ c h0 m hkc]
  |false=>
   rw[z _ _ _ c h0 m hkc];refine I t k x _ o (fun d F h2 h3=>?_) (fun p hp=>?_) c (a c h0 m hkc) h0 m
   ·obtain⟨i,hi,rfl⟩:=qF F;rw[L t k _ i hi,qe,qd hi];rfl
   ·have q:p∈mN R known n:=r▸hp;unfold mN at q;rw[qI]at q;have h2:p.1<(R.length:Int):=by simpa using q.2
    have h3:0<=p.1:=by
     obtain⟨_,_,_,_,_,g⟩:=ws (rows:=rowsOf R known n) (n:=n) (by rw[f];exact uO (f▸H));exact(Gl g p.1 p.2 q.1).1.1
    exact B _ (E _ h3 h2)
end
def un(n:Nat)(seed:Int)(l:List (Int×Row)):List eF:=l.map fun x=>(cV n seed x.1,x.2)
def rC(p:Int×Int×Int)(l:List (Int×Row)):aR:=qh p.2.1.toNat (aK p.2.2.toNat)++l.map zA
structure Az (p:Int×Int×Int) (x:Int×Row):Prop where
 id:bR x.1=true
 len:x.2.length=p.2.2.toNat
theorem aep{n:Nat}(c:1<=n)(d:n<=20)(seed id:Int):(cV n seed id).Pairwise (·<·):=by
 have a:=Uu n seed id;have b:=Ds c d seed id;rw[List.Nodup]at b;exact(a.and b).imp fun⟨c,d⟩=>by omega
section
variable {p:Int×Int×Int} {seed:Int} {l:List (Int×Row)} {n w:Nat}
theorem afv(a:1<=n)(b:n<=20)(g:∀x∈l,Az p x)(i:p.2.2.toNat=w):∀e∈un n seed l,il n w e/\e.1.Pairwise (·<·):=fun e h=>by
 obtain⟨x,d,rfl⟩:=qx.1 h;exact⟨⟨fun c f=>mg a b f,Ds a b seed x.1,by rw[<-i];exact(g x d).len⟩,aep a b seed x.1⟩
theorem XA(a:bM p=true)(c:(bX p).toNat=n)(e:∀x∈l,Az p x):de n (un n seed l) (bw p.1.toNat p.2.1.toNat)=dI p seed (l.map qK):=by
 unfold de dI un;rw[if_pos a,c];have:(l.map qK).filter bR=l.map qK:=wg.2 fun i d=>by
  obtain⟨x,b,rfl⟩:=qx.1 d;exact(e x b).id
 rw[this,wK,wK];rfl
theorem XB(a:p.2.2.toNat=w):gH w (un n seed l) (bw p.1.toNat p.2.1.toNat)=rC p l:=by
 unfold gH rC un;rw[a,wK];simp[bw]
end
section
variable {n w:Nat} {l:List eF} {ahead:aR} {known:List Bool} {vals:aR} {dead left:List Int} {W M:aR}
theorem ZS(c:∀e∈l,il n w e)(i:be n ahead)(f:jl n w l known vals)(a:jI known vals l=true)(g:cG (de n l ahead)=n):¬kj n (de n l ahead) (gH w l ahead):=fun h=>by
 obtain⟨k,j,b⟩:=Xx f c a;have d:=ph uN (Av i) (Aw c) g h;exact b _ (((DD c).1 d).2.2 k j).1
theorem gb.Ws(S:gb n w l ahead known vals dead left W M)(b:cG (de n l ahead)=n){D:aR}(a:eW dead.length w (dc n dead.length (aW known vals l) W left ahead) (fa n w (aW known vals l) M left ahead) D):
  kj n (de n l ahead) (gH w l ahead)/\wt dead.length known vals W M D=fw n (de n l ahead) (gH w l ahead):=by
 have h:=kT uN (Av S.ahd) (Aw S.eqs) b (S.Xz a);exact⟨h.2,h.1⟩
theorem gb.Wt(S:gb n w l ahead known vals dead left W M)(a:cG (de n l ahead)=n)(b:kj n (de n l ahead) (gH w l ahead)):eW dead.length w (dc n dead.length (aW known vals l) W left ahead) (fa n w (aW known vals l) M left ahead) (dead.map fun c=>az (fw n (de n l ahead) (gH w l ahead)) c.toNat):=
 S.Uz (ph uN (Av S.ahd) (Aw S.eqs) a b)
theorem gb.XC(S:gb n w l ahead known vals dead left W M)(f:1<=w)(b:cG (de n l ahead)=n):kj dead.length (dc n dead.length (aW known vals l) W left ahead) (fa n w (aW known vals l) M left ahead)↔kj n (de n l ahead) (gH w l ahead):=by
 obtain⟨d,e⟩:=pm S;have a:=S.Ni f b;exact⟨fun c=>(S.Ws b (ph Ax d e a c)).1,fun c=>(kT Ax d e a (S.Wt b c)).2⟩
theorem KW{a b:aR}(h:a.length=b.length):eW 0 w a b []↔∀r∈b,r=aK w:=by
 unfold eW;constructor
 ·rintro⟨_,_,h3⟩ r c;obtain⟨i,d,rfl⟩:=fj c;exact(h3 i (by omega)).symm
 ·intro e;refine⟨rfl,fun r c=>(by cases c),fun i d=>?_⟩;have:az b i∈b:=mem_row (by omega);rw[e _ this];rfl
theorem aeq(c:∀e∈l,e.1.Pairwise (·<·)):∀e∈aW known vals l,e.1.Pairwise (·<·):=fun e d=>by
 obtain⟨b,a,rfl⟩:=qx.1 (qI.1 d).1;exact(c b a).filter _
theorem ZT:(aW known vals l).length<=l.length:=by
 unfold aW;refine zl (q7 _ _) ?_;simp
theorem ZU{m:Nat}(c:∀e∈l,e.1.length<=m):∀e∈aW known vals l,e.1.length<=m:=fun e d=>by
 obtain⟨b,a,rfl⟩:=qx.1 (qI.1 d).1;exact zl (q7 _ _) (c b a)
end
end Wl
namespace Go.Vc
open Go
section
variable {B:aA} {α:Type} {C:Ctx} {h0 h:Heap} {As:List HP} {e t t2 k by_:Nat} {s:Sl} {f:α->List Value} {d:List α} {z:List Value}
theorem Own.Nn(u:C.Ok)(B:bN C.toBR t e k z by_)(H:∃i A,C.T.get t2=some i/\i.cE=.slice A)(j:∀x,(f x).length=k)
  (n:Own h e s k f d) (l:∀x,∀c∈f x,c.oneCell'=true) (i:Nat) (F:i<d.length) {ty:Nat} {K:Sl->Heap->Prop}
  (I:∀h',Own h' e s k f ((d.take i++d.drop (i+1))++d.drop (d.length-1))->aU (fun b=>¬s.on b) h h'->K ⟨s.ptr,d.length-1,s.cap⟩ h'):
  aw C.P (qq #[t,t2] ty #[.slice s.ptr i s.cap,.slice (if s.cap=i+1 then s.ptr else s.ptr.map (·.add ((i+1)*k))) (s.len-(i+1)) (s.cap-(i+1))]) (.one (.sc .slc)) h K:=by
 obtain⟨Q,A,G,O⟩:=H;have q:C.P.underlying t2=some (.slice A):=by have:=u.cE G;rw[O]at this;exact iS this
 have E:=n.len;have g:=n.cap;have D:Seq h (fun _=>True) ⟨if s.cap=i+1 then s.ptr else s.ptr.map (·.add ((i+1)*k)),s.len-(i+1),s.cap-(i+1)⟩ k f (d.drop (i+1)):=Seq.drop (n.seq j (fun _ _=>trivial)) (i+1) g;obtain⟨v,a⟩:∃v:Sl,v=⟨if s.cap=i+1 then s.ptr else s.ptr.map (·.add ((i+1)*k)),s.len-(i+1),s.cap-(i+1)⟩:=⟨_,rfl⟩
 rw[<-a]at D;have J:(Value.slice (if s.cap=i+1 then s.ptr else s.ptr.map (·.add ((i+1)*k))) (s.len-(i+1)) (s.cap-(i+1)))=.slice v.ptr v.len v.cap:=by rw[a]
 have N:v.len=s.len-(i+1):=by rw[a]
 rw[J];unfold aw qq;simp only[zM,yc,qz];refine ag.bind (ag.always (aN (B.under u)) ?_);refine ag.bind (ag.always (B.size u) ?_);refine ag.bind (ag.always (aN q) ?_);refine ag.bind (ag.pure' ?_);simp only[zd,if_false,wU,if_true];refine ag.bind (ag.pure' ?_);have m:i+v.len<=s.cap:=by omega
 rw[if_pos m];refine ag.bind (fT j D ?_);rcases n.head with⟨p1,p2,p3⟩|⟨b,rest,p1,p2,p3,p4⟩
 ·subst p3;simp at F
 ·rw[p1];refine ag.bind ?_;rw[add_eq,wk];have y:d=d.take i++((d.drop i).take (d.length-1-i)++d.drop (d.length-1)):=by
   have L:(d.drop i).drop (d.length-1-i)=d.drop (d.length-1):=by rw[zx];congr 1;omega
   rw[<-L,qD,qD]
  have o:((d.drop i).take (d.length-1-i)).length=d.length-1-i:=by simp;omega
  have p:(d.drop (i+1)).length=d.length-1-i:=by simp;omega
  refine eN (e:=e) (pre:=(d.take i).flatMap f) (old:=((d.drop i).take (d.length-1-i)).flatMap f) (post:=(d.drop (d.length-1)).flatMap f++rest) ?_ ?_ ?_ ?_ ?_
  ·have:(d.take i).flatMap f++((d.drop i).take (d.length-1-i)).flatMap f++((d.drop (d.length-1)).flatMap f++rest)=d.flatMap f++rest:=by
    conv=>rhs;rw[y]
    simp only[zb,qo]
   rw[this];exact p2
  ·rw[cX j,cX j,o,p]
  ·rw[cX j,qX,wJ (by omega)];omega
  ·intro c M;obtain⟨x,_,r⟩:=zO.1 M;exact l x c r
  ·have w:i+v.len=d.length-1:=by omega
   rw[w];refine ag.pure' ⟨⟨some ⟨b,0,none⟩,d.length-1,s.cap⟩,rfl,?_⟩;rw[<-p1];refine I _ ⟨?_,.inr ⟨b,rest,p1,?_,p3,p4⟩⟩ ?_
   ·simp;omega
   ·rw[gV p2,if_pos rfl];simp[zb]
   ·exact aU.je p2 (fun w=>w ⟨0,p1⟩)
theorem aa.Nn(v:C.Ok)(H:aa B h0 h As)(j:Nat)(n:As[j]?=some (an e s k f d))(p:bN C.toBR t e k z by_)(r:∃i w,C.T.get t2=some i/\i.cE=.slice w)(A:∀x,(f x).length=k)
  (a:∀x,∀c∈f x,c.oneCell'=true) (i:Nat) (o:i<d.length) {ty:Nat} {K:Sl->Heap->Prop}
  (u:∀h',aa B h0 h' (As.set j (an e s k f ((d.take i++d.drop (i+1))++d.drop (d.length-1))))->K ⟨s.ptr,d.length-1,s.cap⟩ h'):
  aw C.P (qq #[t,t2] ty #[.slice s.ptr i s.cap,.slice (if s.cap=i+1 then s.ptr else s.ptr.map (·.add ((i+1)*k))) (s.len-(i+1)) (s.cap-(i+1))]) (.one (.sc .slc)) h K:=
 (H.own j n).Nn v p r A a i o fun h' x y=>u h' (H.step j n fun q m _=>⟨y.mono fun b _ g l=>g (m.2 b l),x,fun b g=>⟨x.lt g,.inl (m.2 b g)⟩⟩)
end
section
variable {C:Ctx} {t t2 e k:Nat} {z:List Value} {by_:Nat} {α:Type} {h h0:Heap} {p q B:aA} {s v:Sl} {f:α->List Value} {l l2:List α} {As:List HP}
end
section
variable {C:Ctx} {t e k:Nat} {z:List Value} {by_:Nat} {h:Heap} {s:Sl}
theorem XD(b:C.Ok)(c:bN C.toBR t e k z by_)(n:Nat){x y:Int}(f:x=n)(o:y=n)(i:n<=s.cap){K:Sl->Heap->Prop}(j:K ⟨s.ptr,n,n⟩ h):
  aw C.P (wy t (.slice s.ptr s.len s.cap) none (some (vL vR x)) (some (vL vR y))) (.one (.sc .slc)) h K:=by
 subst f;subst o;have l:aI C.P (zP true s.len s.cap none (some (vL vR (n:Int))) (some (vL vR (n:Int)))) (0,n,n):=fun w=>by
  have g:¬((n:Int)<0):=by omega
  have x2:¬((s.cap:Int)<(n:Int)):=by omega
  have x3:(n:Int)<=(s.cap:Int):=by omega
  have m:(0:Int)<=(n:Int):=by omega
  simp[zP,yW,asIntOf,g,x2,x3,m]
 unfold aw wy;refine ag.bind (ag.always (aN (c.under b)) ?_);show ag C.P (vz t (.slice s.ptr s.len s.cap) none (some (vL vR (n:Int))) (some (vL vR (n:Int)))) h _;unfold vz;refine ag.bind (ag.always (aN (c.under b)) ?_);refine ag.bind (ag.always l ?_);refine ag.bind (ag.always (c.size b) ?_);have d:(if n=0 then s.ptr else s.ptr.map (·.add (0*k)))=s.ptr:=by
  split
  ·rfl
  ·cases s.ptr with
   |none=>rfl
   |some a=>simp[Addr.add]
 refine ag.pure' ⟨⟨s.ptr,n,n⟩,?_,j⟩;show Value.slice (if n=0 then s.ptr else s.ptr.map (·.add (0*k))) (n-0) (n-0)=_;rw[d];rfl
end
end Go.Vc
