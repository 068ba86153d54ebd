/- Lemmas. -/
import Derived.Test.YtadfimdanpoafaaGreatDoorPlH
set_option linter.unusedVariables false
set_option linter.unusedSimpArgs false
open List renaming all_eq_true -> qN, any_eq_false -> wc, any_eq_true -> wV, filter_cons -> zr, filter_eq_nil_iff -> wG, filter_eq_self -> z6, find?_eq_none -> zO, foldl_cons -> zE, forIn_cons -> vQ, forIn_toArray -> vz, getD_eq_getElem?_getD -> qe, getElem?_append_right -> qj, getElem?_eq_getElem -> qd, getElem?_eq_none -> zg, getElem?_map -> qO, getElem?_set -> qX, getElem_append_left -> w9, getElem_mem -> qh, getElem_of_mem -> qH, length_append -> qx, length_cons -> q9, length_filter_le -> qP, length_map -> qu, length_set -> zA, map_map -> wR, mem_append -> qA, mem_cons -> q8, mem_cons_of_mem -> qR, mem_cons_self -> qW, mem_filter -> qB, mem_map -> qq, mem_range -> qD, mem_replicate -> wS, mem_singleton -> qG, mem_take_iff_getElem -> yG, nodup_cons -> w6, nodup_range -> yS, pairwise_iff_getElem -> zp, range -> qE, range_eq_range' -> yI, replicate -> qg, take_succ_eq_append_getElem -> zn
open Bool renaming and_eq_true -> qz, false_eq_true -> zf, not_eq_true' -> wL, not_true -> wW, or_eq_true -> wg
open Nat renaming add_sub_cancel -> yY, le_refl -> ql, le_trans -> q7, lt_succ_iff_lt_or_eq -> zk, zero_add -> wy
open Go.Value renaming int -> xl
open Go.IntKind renaming i64 -> xt
open Go.Instr renaming checkKey -> vD, findAsking -> yy, findKey -> xb, lookup -> xf, makeMap -> vZ, mapUpdate -> vO, slice -> xi, sliceAt -> w7, sliceBounds -> wx
open Option renaming map_some -> qL
open Array renaming getElem?_setIfInBounds -> yl
open UInt8 renaming xor_comm -> vF, xor_zero -> zU, zero_xor -> wi
open Int renaming toNat_natCast -> qo
open Prod renaming fst -> qJ, snd -> zt
namespace Wl
open Go Go.Vc
def cW(n:Int):Nat:=
 if n=0 then 0 else
  let m:=n.natAbs;let e:=m.log2
  (if n<0 then 2^63 else 0)+(1023+e)*2^52+(m-2^e)*2^(52-e)
structure DV where
 ax:Nat
 ay:Nat
 sx:Nat
 sy:Nat
 left:Int
 leg:Int
 second:Bool
def oW:Nat:=4607182418800017408
def fs0:DV:=⟨0,0,oW,0,1,1,false⟩
def nO(a b:Nat):Nat:=(gB.add a b).getD 0
def afO(a b:Nat):Nat:=(gB.sub a b).getD 0
def sY(a b:Nat):Nat:=(gB.mul a b).getD 0
def tx(a b:Nat):Nat:=afO (sY a 0) (sY b oW)
def ty(a b:Nat):Nat:=nO (sY a oW) (sY b 0)
def DV.on(s:DV):DV:=
 if s.left-1>0 then{s with ax:=nO s.ax s.sx,ay:=nO s.ay s.sy,left:=s.left-1}
 else{ax:=nO s.ax s.sx,ay:=nO s.ay s.sy,sx:=tx s.sx s.sy,sy:=ty s.sx s.sy,leg:=if s.second then s.leg+1 else s.leg,left:=if s.second then s.leg+1 else s.leg,second:=!s.second}
def kg:Nat->DV
 |0=>fs0
 |n+1=>(kg n).on
def DV.ok(s:DV):Bool:=
 (gB.add s.ax s.sx).isSome&&(gB.add s.ay s.sy).isSome&&(gB.mul s.sx 0).isSome&&(gB.mul s.sy oW).isSome&&(gB.sub (sY s.sx 0) (sY s.sy oW)).isSome&&(gB.mul s.sx oW).isSome&&(gB.mul s.sy 0).isSome&&(gB.add (sY s.sx oW) (sY s.sy 0)).isSome&&decide (1<=s.left)&&decide (s.left<=100)&&decide (1<=s.leg)&&decide (s.leg<=100)
structure XQ where
 x:Int
 y:Int
 dx:Int
 dy:Int
 left:Int
 leg:Int
 turns:Int
def afP:XQ:=⟨0,0,1,0,1,1,0⟩
def XQ.on(s:XQ):XQ:=
 if s.left-1=0 then
  {x:=s.x+s.dx,y:=s.y+s.dy,dx:=-s.dy,dy:=s.dx,leg:=if(s.turns+1)%2=0 then s.leg+1 else s.leg,left:=if(s.turns+1)%2=0 then s.leg+1 else s.leg,turns:=s.turns+1}
 else{s with x:=s.x+s.dx,y:=s.y+s.dy,left:=s.left-1}
def fJ:Nat->XQ
 |0=>afP
 |n+1=>(fJ n).on
theorem afv:∀n,n<64->(kg n).ok=true:=by decide+kernel
theorem aek:∀n,n<64->((kg n).ax==cW (fJ n).x&&(kg n).ay==cW (fJ n).y&&decide (-4<=(fJ n).x)&&decide ((fJ n).x<=4)&&decide (-4<=(fJ n).y)&&decide ((fJ n).y<=4))=true:=by decide+kernel
theorem ael:∀i,i<9->∀j,j<9->gB.sub (cW ((i:Nat)-4:Int)) (cW ((j:Nat)-4:Int))=some (cW ((i:Int)-(j:Int))):=by decide+kernel
theorem aem:∀i,i<17->gB.mul (cW ((i:Nat)-8:Int)) (cW ((i:Nat)-8:Int))=some (cW (((i:Nat)-8:Int)*((i:Nat)-8:Int))):=by decide+kernel
theorem aen:∀i,i<9->∀j,j<9->gB.add (cW (((i:Nat):Int)*(i:Nat))) (cW (((j:Nat):Int)*(j:Nat)))=some (cW (((i:Nat):Int)*(i:Nat)+((j:Nat):Int)*(j:Nat))):=by decide+kernel
theorem XR:∀m,m<129->∀n,n<129->gB.order (cW (m:Nat)) (cW (n:Nat))=some (compare m n):=by decide+kernel
theorem Vz{seq a c:Int}{b:aX}(d:b.length<=48):dp (jH seq a c b)=none:=by
 unfold dp jH;rw[Au (by decide) (by decide) (by simp[co];omega)];dsimp only;rw[if_neg (by rintro⟨h,_⟩;exact absurd h (by decide))]
theorem fb{m:aG}{c:aX}(h:c∈aY m):dp c=none:=by
 unfold aY at h;obtain⟨i,_,rfl⟩:=qq.1 h;exact Vz (by simp;omega)
theorem NI{α:Type}{R:α->α->Prop}(n:∀a b c,R a b->R b c->R a c){l:List α}(h:∀i (m:i+1<l.length),R (l[i]'(by omega)) l[i+1]):l.Pairwise R:=by
 have g:∀d i (f:i+(d+1)<l.length),R (l[i]'(by omega)) l[i+(d+1)]:=by
  intro d
  induction d with
  |zero=>exact fun i f=>h i f
  |succ d ih=>exact fun i f=>n _ _ _ (ih i (by omega)) (h (i+(d+1)) (by omega))
 refine zp.2 fun i j m f k=>?_;have:=g (j-i-1) i (by omega);have e:i+(j-i-1+1)=j:=by omega
 simp only[e]at this;exact this
theorem NJ{α:Type}{R:α->α->Prop}{l:List α}(h:l.Pairwise R)(i:Nat)(a:i+1<l.length):R (l[i]'(by omega)) l[i+1]:=zp.1 h i (i+1) (by omega) a (by omega)
theorem fQ{α:Type}{l:List α}{i:Nat}(d:α)(h:i<l.length:=by omega):l.getD i d=l[i]:=by rw[qe,qd h];rfl
theorem lE(n a b:Int):fd n a b=true↔a<=n/\n<=b:=by unfold fd;rw[qz,decide_eq_true_eq,decide_eq_true_eq]
theorem XS(l:aC)(e:Int):oN l e=true↔l.Pairwise (·<·)/\∀x∈l,0<=x/\x<=e:=by
 unfold oN;rw[qN];constructor
 ·intro h;have j:∀i (d:i<l.length),(0<=l[i]/\l[i]<=e)/\(i=0∨l.getD (i-1) 0<l[i]):=fun i d=>by
   have:=h i (qD.2 d);unfold jl at this;rw[fQ 0 d,qz,lE,wg,decide_eq_true_eq,decide_eq_true_eq]at this;exact this
  refine⟨NI (R:=fun a b:Int=>a<b) (fun a b c g f=>Int.lt_trans g f) fun i d=>?_,fun x k=>?_⟩
  ·rcases(j (i+1) d).2 with h0|h0
   ·omega
   ·rw[yY,fQ 0]at h0;exact h0
  ·obtain⟨i,d,rfl⟩:=qH k;exact(j i d).1
 ·rintro⟨g,f⟩ i d;have d:=qD.1 d;unfold jl;rw[fQ 0 d,qz,lE,wg,decide_eq_true_eq,decide_eq_true_eq];refine⟨f _ (qh d),?_⟩;cases i with
  |zero=>exact .inl rfl
  |succ i=>exact .inr (by rw[yY,fQ 0];exact NJ g i d)
theorem Qr(a b c:ByteArray)(e:eU a b=true)(d:eU b c=true):eU a c=true:=Hw _ _ _ e d
theorem bZ(m:aG):bO m=true↔kl m=true/\m.drives.Pairwise (·<·)/\(∀k∈m.drives,0<=k/\k<=63)/\m.objs.length<=12/\(∀e∈m.objs,gz m e=true)/\m.objs.Pairwise (fun a b=>eU a.name b.name=true)/\m.objs.Pairwise (fun a b=>a.object≠b.object):=by
 unfold bO;rw[qz,qz,qz,XS,decide_eq_true_eq,qN];have n:(∀i∈qE m.objs.length,oO m i=true)↔(∀e∈m.objs,gz m e=true)/\m.objs.Pairwise (fun a b=>eU a.name b.name=true)/\m.objs.Pairwise (fun a b=>a.object≠b.object):=by
  constructor
  ·intro h;have p:∀i (l:i<m.objs.length),gz m m.objs[i]=true/\(i=0∨eU (oM m.objs (i-1)).name m.objs[i].name=true)/\∀y∈m.objs.take i,y.object≠m.objs[i].object:=fun i l=>by
    have:=h i (qD.2 l);unfold oO at this;rw[nN l,qz,qz,wg,decide_eq_true_eq,wL,wc]at this;exact⟨this.1,this.2.1,fun y q=>by have:=this.2.2 y q;simpa using this⟩
   refine⟨fun e u=>?_,NI (R:=fun a b:bV=>eU a.name b.name=true) (fun a b c r o=>Qr _ _ _ r o) fun i l=>?_,zp.2 fun i j l s t=>?_⟩
   ·obtain⟨i,l,rfl⟩:=qH u;exact(p i l).1
   ·rcases(p (i+1) l).2.1 with h0|h0
    ·omega
    ·rw[yY,nN]at h0;exact h0
   ·refine(p j s).2.2 m.objs[i] ?_;exact yG.2 ⟨i,by omega,rfl⟩
  ·rintro⟨r,o,h3⟩ i l;have l:=qD.1 l;unfold oO;rw[nN l,qz,qz,wg,decide_eq_true_eq,wL,wc];refine⟨r _ (qh l),?_,fun y q=>?_⟩
   ·cases i with
    |zero=>exact .inl rfl
    |succ i=>exact .inr (by rw[yY,nN];exact NJ o i l)
   ·obtain⟨j,s,rfl⟩:=yG.1 q;have:=zp.1 h3 j i (by omega) l (by omega);simpa using this
 rw[n];constructor
 ·rintro⟨a,⟨b,c⟩,d,e,f,g⟩;exact⟨a,b,c,d,e,f,g⟩
 ·rintro⟨a,b,c,d,e,f,g⟩;exact⟨a,⟨b,c⟩,d,e,f,g⟩
theorem dM(m:aG):kl m=true↔(1<=m.seq/\m.seq<=2147483647)/\(0<=m.next/\m.next<=16777216)/\bL m.p=true/\0<=m.extra/\m.extra<=16:=by
 unfold kl;rw[qz,qz,qz,lE,lE,lE]
theorem gC(m:aG)(x:bV):gz m x=true↔jv x.name=true/\(0<=x.object/\x.object<m.next)/\(0<=x.length/\x.length<=m.p.1*m.p.2.2*8)/\(∀t∈x.tries,0<=t/\t<=15)/\(x.tries.length:Int)=countP m.p x.length:=by
 unfold gz;rw[qz,qz,qz,qz,lE,lE,qN,decide_eq_true_eq];simp only[lE];constructor
 ·rintro⟨a,b,c,d,e⟩;exact⟨a,⟨b.1,by omega⟩,c,d,e⟩
 ·rintro⟨a,b,c,d,e⟩;exact⟨a,⟨b.1,by omega⟩,c,d,e⟩
theorem oX{m:aG}(h:bO m=true):m.drives.Nodup:=((bZ m).1 h).2.1.imp fun h e=>by omega
theorem im{m:aG}(h:bO m=true):∀k∈m.drives,0<=k/\k<64:=fun k a=>by have:=((bZ m).1 h).2.2.1 k a;omega
theorem IZ:∀{l:aC} {a b:Int},l.Pairwise (·<·)->(∀k∈l,a<=k/\k<b)->a<=b->(l.length:Int)<=b-a
 |[],a,b,_,_,h=>by simp;omega
 |x::l,a,b,hp,hl,h=>by
  obtain⟨e,d⟩:=List.pairwise_cons.1 hp;have f:=hl x qW;have:=IZ (a:=x+1) (b:=b) d (fun k c=>⟨by have:=e k c;omega,(hl k (qR _ c)).2⟩) (by omega);rw[q9];omega
theorem kM{m:aG}(h:bO m=true):m.drives.length<=64:=by
 have:=IZ ((bZ m).1 h).2.1 (im h) (by decide);omega
end Wl
namespace Go.Vc
open Go
section
variable {P:Program}
theorem eq_int{t:TypeId}{k:IntKind}(c:P.underlying t=some (.int k))(d:Nat)(a b:Int):aF P (Op.equalIn (d+1) t (xl xt a) (xl xt b)) (a==b):=fun w=>by
 simp[Op.equalIn,underlying,c]
theorem uB{t:TypeId}(b:aF P (isAgg t) false){a:Array Value}{off:Nat}{v:Value}(c:a[off]?=some v):aF P (part t a off) v:=by
 unfold part;refine b.bind ?_;simp only[zf,if_false,c];exact .pure
structure sZ (P:Program) (t it:TypeId):Prop where
 u:∃f0 f1 f2:Field,P.underlying t=some (.struct #[f0,f1,f2])/\f0.name≠ "_" /\f1.name≠ "_" /\f2.name≠ "_" /\f0.type=it/\f1.type=it/\f2.type=it/\f0.offset=0/\f1.offset=1/\f2.offset=2
 st:P.stoodInHeld t=false
 i:P.underlying it=some (.int .i64)
 a:aF P (isAgg it) false
abbrev mU(x:Int×Int×Int):Value:=.agg #[xl xt x.1,xl xt x.2.1,xl xt x.2.2]
theorem sZ.eq{t g:TypeId}(K:sZ P t g)(d:Nat)(x y:Int×Int×Int):aF P (Op.equalIn (d+2) t (mU x) (mU y)) (decide (x=y)):=by
 obtain⟨D,M,s,A,T,n1,n2,t0,N,t2,E,O,G⟩:=K.u;have n:∀z:Int×Int×Int,aF P (part g #[xl xt z.1,xl xt z.2.1,xl xt z.2.2] 0) (xl xt z.1):=fun z=>uB K.a rfl;have o:∀z:Int×Int×Int,aF P (part g #[xl xt z.1,xl xt z.2.1,xl xt z.2.2] 1) (xl xt z.2.1):=fun z=>uB K.a rfl;have m:∀z:Int×Int×Int,aF P (part g #[xl xt z.1,xl xt z.2.1,xl xt z.2.2] 2) (xl xt z.2.2):=fun z=>uB K.a rfl;unfold Op.equalIn;refine(aM A).bind ?_;dsimp only;refine aF.bind (v:=P) (fun w=>by rfl) ?_;rw[if_neg (by rw[K.st];decide)];simp only[vz,vQ,List.forIn_nil];have B:∀(f:Field) (off:Nat) (a b:Int),f.name≠ "_" ->f.type=g->f.offset=off->aF P (part g #[Value.int .i64 x.1,xl xt x.2.1,xl xt x.2.2] off) (xl xt a)->aF P (part g #[Value.int .i64 y.1,xl xt y.2.1,xl xt y.2.2] off) (xl xt b)->
   aF P (do
    if f.name≠ "_" then
     let u<-part f.type #[Value.int .i64 x.1,xl xt x.2.1,xl xt x.2.2] f.offset;let v<-part f.type #[Value.int .i64 y.1,xl xt y.2.1,xl xt y.2.2] f.offset;let r<-Op.equalIn (d+1) f.type u v
     if(!r)=true then pure (ForInStep.done (some false,()))else pure (ForInStep.yield ((none:Option Bool),()))
    else pure (ForInStep.yield (none,()))) (if a=b then ForInStep.yield (none,())else ForInStep.done (some false,())):=fun f off a b p L q I H=>by
  rw[if_pos p,L,q];refine I.bind (H.bind ((eq_int K.i d a b).bind ?_));by_cases c:a=b
  ·subst c;simp only[beq_self_eq_true,if_true];exact .pure
  ·have:(a==b)=false:=by simpa using c
   rw[this,if_neg c];exact .pure
 have e:=B D 0 _ _ T t0 E (n x) (n y);have h:=B M 1 _ _ n1 N O (o x) (o y);have j:=B s 2 _ _ n2 t2 G (m x) (m y);obtain⟨F,J,x2⟩:=x;obtain⟨R,S,Q⟩:=y;dsimp only at e h j⊢;by_cases h0:F=R
 ·rw[if_pos h0]at e;by_cases l:J=S
  ·rw[if_pos l]at h;by_cases k:x2=Q
   ·rw[if_pos k]at j;rw[decide_eq_true (by rw[h0,l,k])];exact aF.bind (e.bind (h.bind (j.bind .pure))) .pure
   ·rw[if_neg k]at j;rw[decide_eq_false (by simp[k])];exact aF.bind (e.bind (h.bind (j.bind .pure))) .pure
  ·rw[if_neg l]at h;rw[decide_eq_false (by simp[l])];exact aF.bind (e.bind (h.bind .pure)) .pure
 ·rw[if_neg h0]at e;rw[decide_eq_false (by simp[h0])];exact aF.bind (e.bind .pure) .pure
theorem sZ.check{t c:TypeId}(K:sZ P t c)(b:Bool)(n:Nat)(x:Int×Int×Int):aF P (vD b (n+2) t (mU x)) ():=by
 obtain⟨j,q,g,h,y,n1,n2,t0,r,t2,k,s,l⟩:=K.u;unfold vD;refine(aM h).bind ?_;dsimp only;simp only[vz,vQ,List.forIn_nil];have B:∀(f:Field) (off:Nat) (a:Int),f.name≠ "_" ->f.type=c->f.offset=off->aF P (part c #[Value.int .i64 x.1,xl xt x.2.1,xl xt x.2.2] off) (xl xt a)->
   aF P (do
    if f.name≠ "_" then
     let u<-part f.type #[Value.int .i64 x.1,xl xt x.2.1,xl xt x.2.2] f.offset
     vD b (n+1) f.type u
     pure (ForInStep.yield PUnit.unit)
    else pure (ForInStep.yield PUnit.unit)) (ForInStep.yield PUnit.unit):=fun f off a d p e o=>by
  rw[if_pos d,p,e];exact o.bind ((PQ K.i n).bind .pure)
 have v:=B j 0 _ y t0 k (uB K.a rfl);have w:=B q 1 _ n1 r s (uB K.a rfl);have m:=B g 2 _ n2 t2 l (uB K.a rfl);exact aF.bind (v.bind (w.bind (m.bind .pure))) .pure
theorem sZ.ask{t q:TypeId}(K:sZ P t q)(x:Int×Int×Int):∀(L:List MapEntry) (a:List (Int×Int×Int)) (i:Nat),L.map (fun e=>(e.key,e.val))=a.map (fun k=>(mU k,Value.bool true))->
  (x∉a->aF P (yy t (mU x) L i) none)/\(x∈a->∃j,a[j]?=some x/\aF P (yy t (mU x) L i) (some (i+j,.bool true)))
 |[],[],i,_=>⟨fun _=>.pure,fun h=>by cases h⟩
 |[],_::_,_,h=>by simp at h
 |_::_,[],_,h=>by simp at h
 |e::L,k::a,i,h=>by
  simp only[List.map_cons,List.cons.injEq,Prod.mk.injEq]at h;obtain⟨⟨r,f⟩,h3⟩:=h;obtain⟨m,g⟩:=sZ.ask K x L a (i+1) h3;have c:aF P (Op.equal t (mU x) e.key) (decide (x=k)):=by rw[r];exact K.eq 9998 x k
  by_cases b:x=k
  ·rw[decide_eq_true b]at c;refine⟨fun d=>absurd (by rw[b];exact qW) d,fun _=>⟨0,by rw[b];rfl,?_⟩⟩;unfold yy;refine c.bind ?_;rw[if_pos rfl,f];exact .pure
  ·rw[decide_eq_false b]at c;refine⟨fun d=>?_,fun n=>?_⟩
   ·unfold yy;refine c.bind ?_;rw[if_neg (by decide)];exact m fun l=>d (qR _ l)
   ·obtain⟨j,p,o⟩:=g (by rcases q8.1 n with h|h;exact absurd h b;exact h);refine⟨j+1,by rw[List.getElem?_cons_succ];exact p,?_⟩;unfold yy;refine c.bind ?_;rw[if_neg (by decide),show i+(j+1)=i+1+j by omega];exact o
theorem sZ.find{t q:TypeId}(K:sZ P t q)(x:Int×Int×Int)(L:List MapEntry)(b:List (Int×Int×Int))(h:L.map (fun e=>(e.key,e.val))=b.map (fun k=>(mU k,Value.bool true))):
  (x∉b->aF P (xb t (mU x) L) none)/\(x∈b->∃j,b[j]?=some x/\aF P (xb t (mU x) L) (some (j,.bool true))):=by
 obtain⟨s,w,r,i,_⟩:=K.u;obtain⟨o,m⟩:=K.ask x L b 0 h;have a:∀v,aF P (yy t (mU x) L 0) v->aF P (xb t (mU x) L) v:=fun v d=>by
  unfold xb;refine(aM i).bind ?_;cases L with
  |nil=>
   have:v=none:=by
    have c:=d (default:World);unfold yy at c;have l:(pure none:Sem (Option (Nat×Value))).run P (default:World)=.ok none default:=rfl;rw[l]at c;injection c with c
    exact c.symm
   rw[this];exact .pure
  |cons e L=>exact d
 refine⟨fun g=>a _ (o g),fun n=>?_⟩;obtain⟨j,p,f⟩:=m n;rw[wy]at f;exact⟨j,p,a _ f⟩
structure oY (h:Heap) (r:Nat) (ks:List (Int×Int×Int)):Prop where
 ex:∃es clock,h[r]?=some (.map es clock)/\es.toList.map (fun e=>(e.key,e.val))=ks.map (fun k=>(mU k,Value.bool true))
theorem oY.ai{h h':Heap}{r:Nat}{b:List (Int×Int×Int)}{p:aB}(c:oY h r b)(d:aU p h h')(f:p r):oY h' r b:=by
 obtain⟨g,a,i,e⟩:=c.ex;exact⟨g,a,d.block f i,e⟩
theorem oY.lt{h:Heap}{r:Nat}{c:List (Int×Int×Int)}(b:oY h r c):r<h.size:=by
 obtain⟨f,a,d,e⟩:=b.ex;exact lt_of_block d
theorem Qs{t:Nat}{h:Heap}{K:Option Nat->Heap->Prop}(a:∀r h',r=h.size->oY h' r []->aU (fun _=>True) h h'->K (some r) h'):
  az P (vZ t none) (.one (.sc .mp)) h K:=by
 unfold az vZ;refine ag.bind (ag.nS (ag.pure' ⟨some h.size,rfl,a _ _ rfl ⟨#[],0,by simp,rfl⟩ (aU.push _ _ _)⟩))
theorem oY.lookup{h:Heap}{r:Nat}{c:List (Int×Int×Int)}{t e f q:Nat}{x:Int×Int×Int}(o:oY h r c)(m:P.underlying t=some (.map e f))(K:sZ P e q)(k:aF P (zeroValue f) (.bool false))
  {C:Bool->Heap->Prop} (b:C (decide (x∈c)) h):az P (xf t (.map (some r)) (mU x) false) (.one (.sc .bool)) h C:=by
 obtain⟨l,d,s,i⟩:=o.ex;unfold az xf;refine ag.bind (ag.always (aM m) ?_);refine ag.bind (ag.Uc s (fun _ _ _ h=>by cases h) ?_);refine ag.bind (ag.pure' ?_);refine ag.bind (ag.always (K.check _ 9998 x) ?_);obtain⟨n,g⟩:=K.find x l.toList c i;by_cases a:x∈c
 ·obtain⟨j,u,p⟩:=g a;refine ag.bind (ag.always p ?_);refine ag.bind (ag.pure' (ag.pure' ?_));rw[decide_eq_true a]at b;exact⟨true,rfl,b⟩
 ·refine ag.bind (ag.always (n a) ?_);refine ag.bind (ag.always k ?_);refine ag.bind (ag.pure' (ag.pure' ?_));rw[decide_eq_false a]at b;exact⟨false,rfl,b⟩
theorem oY.update{h:Heap}{r:Nat}{b:List (Int×Int×Int)}{t s D I:Nat}{x:Int×Int×Int}(E:oY h r b)(z:P.underlying t=some (.map s D))(K:sZ P s I)
  {C:Unit->Heap->Prop} (u:∀h',oY h' r (if x∈b then b else b++[x])->aU (·≠r) h h'->h'.size=h.size->C () h'):
  ag P (vO t (.map (some r)) (mU x) (.bool true)) h C:=by
 obtain⟨a,n,g,d⟩:=E.ex;have q:=lt_of_block g;unfold vO;refine ag.bind (ag.always (aM z) ?_);refine ag.bind (ag.Uc g (fun _ _ _ h=>by cases h) ?_);refine ag.bind (ag.always (K.check _ 9998 x) ?_);have ai:∀o,aU (·≠r) h (h.setIfInBounds r o):=fun o=>aU.ji g (fun B=>B rfl);obtain⟨A,w⟩:=K.find x a.toList b d;by_cases k:x∈b
 ·obtain⟨j,v,F⟩:=w k;refine ag.bind (ag.always F ?_);have y:a.toList.length=b.length:=by have:=congrArg List.length d;simpa using this
  have m:j<a.toList.length:=by rw[y];exact(List.getElem?_eq_some_iff.1 v).1
  have c:(a.toList[j]).key=mU x/\(a.toList[j]).val=.bool true:=by
   have h3:=congrArg (fun l=>l[j]?) d;simp only[qO,v,qd m,qL]at h3;injection h3 with h3
   injection h3 with h4 h5
   exact⟨h4,h5⟩
  have G:a[j]?=some a.toList[j]:=by rw[<-Array.getElem?_toList,qd m]
  dsimp only;rw[G];simp only[qL,Option.getD_some,c.1];refine ag.bind ?_;unfold Instr.keyThatStays;have H:Instr.sameBits 10000 (mU x) (mU x)=true:=by simp[Instr.sameBits]
  rw[H,if_pos rfl];refine ag.pure' ?_;refine ag.Ud g (fun _ _ _ h=>by cases h) ?_;refine u _ ⟨_,_,by rw[yl,if_pos rfl,if_pos q],?_⟩ (ai _) (by simp);rw[if_pos k,<-d,Array.toList_modify];apply List.ext_getElem?;intro i;rw[qO,qO];by_cases f:j=i
  ·subst f;have p:(a.toList.modify j fun e=>⟨mU x,.bool true,e.born⟩)[j]?=some ⟨mU x,.bool true,a.toList[j].born⟩:=by
    rw[List.getElem?_modify,qd m];simp
   show Option.map _ (List.modify a.toList j fun e=>⟨mU x,.bool true,e.born⟩)[j]?=_;rw[p,qd m];simp only[qL,c.1,c.2]
  ·rw[List.getElem?_modify];simp[f]
 ·refine ag.bind (ag.always (A k) ?_);refine ag.Ud g (fun _ _ _ h=>by cases h) ?_;refine u _ ⟨_,_,by rw[yl,if_pos rfl,if_pos q],?_⟩ (ai _) (by simp);rw[if_neg k];simp[d]
end
def ta(r:Nat)(a:List (Int×Int×Int)):HP:=⟨fun h q=>oY h r a/\q r,fun x b=>⟨x.1.ai b x.2,x.2⟩,fun x c=>⟨x.1,c _ x.2⟩⟩
end Go.Vc
namespace Wl
open Go
abbrev eZ:=aC×Row
def cL(x:Int->UInt8):aC->UInt8
 |[]=>0
 |c::l=>x c^^^cL x l
theorem jN{x y:Int->UInt8}:∀{l:aC},(∀c∈l,x c=y c)->cL x l=cL y l
 |[],_=>rfl
 |c::l,h=>by rw[cL,cL,h c (by simp),jN fun d a=>h d (by simp[a])]
theorem Ig(x:Int->UInt8)(p:Int->Bool):∀l,cL x l=cL x (l.filter p)^^^cL x (l.filter fun c=>!p c)
 |[]=>by simp[cL]
 |c::l=>by
  rw[cL,Ig x p l];cases h:p c<;>simp only[zr,h,wW,Bool.not_false,if_true,zf,if_false,cL]<;>ac_rfl
theorem Ax(x:Int->UInt8){c:Int}:∀{l:aC},l.Nodup->c∈l->cL x l=x c^^^cL x (l.filter fun d=>!decide (d=c))
 |[],_,h=>by cases h
 |d::l,hd,h=>by
  rw[w6]at hd;rcases q8.1 h with rfl|h
  ·have:l.filter (fun d=>!decide (d=c))=l:=z6.2 fun e f=>by
    have:e≠c:=fun a=>hd.1 (a▸f);simp[this]
   rw[zr];simp only[decide_true,wW,zf,if_false];rw[this,cL]
  ·have b:d≠c:=fun a=>hd.1 (a▸h);rw[zr,if_pos (by simp[b]),cL,cL,Ax x hd.2 h];ac_rfl
theorem Qt(x y:Int->UInt8):∀l,cL (fun c=>x c^^^y c) l=cL x l^^^cL y l
 |[]=>by simp[cL]
 |c::l=>by rw[cL,cL,cL,Qt x y l];ac_rfl
theorem Fy:∀{x:Int->UInt8} {l:aC},(∀c∈l,x c=0)->cL x l=0
 |_,[],_=>rfl
 |x,c::l,h=>by rw[cL,h c (by simp),Fy fun d a=>h d (by simp[a])];rfl
def cM(V:aS)(a:Row)(l:aC):Row:=l.foldl (fun a c=>dl 1 (aA V c.toNat) a) a
theorem jn{V:aS}{m:Nat}:∀{l:aC} {a:Row},a.length=m->(∀c∈l,(aA V c.toNat).length=m)->(cM V a l).length=m
 |[],a,h,_=>h
 |c::l,a,h,hv=>by
  rw[cM,zE];exact jn (l:=l) (by rw[ci (by rw[hv c (by simp),h])];exact h) fun d b=>hv d (by simp[b])
theorem Ja{V:aS}{m:Nat}(j:Nat):∀{l:aC} {a:Row},a.length=m->(∀c∈l,(aA V c.toNat).length=m)->aQ (cM V a l) j=aQ a j^^^cL (fun c=>aQ (aA V c.toNat) j) l
 |[],a,_,_=>by simp[cM,cL]
 |c::l,a,h,hv=>by
  have b:(aA V c.toNat).length=a.length:=by rw[hv c (by simp),h]
  rw[cM,zE];have:=Ja (V:=V) j (l:=l) (a:=dl 1 (aA V c.toNat) a) (by rw[ci b];exact h) fun d e=>hv d (by simp[e]);rw[cM]at this;rw[this,cQ b,Gf.one_mul,cL];ac_rfl
def Sat(t:UInt8)(k:Nat)(x:Int->UInt8)(e:eZ):Prop:=cL x e.1=Gf.mul t (aQ e.2 k)
structure iy (n w:Nat) (e:eZ):Prop where
 cP:∀c∈e.1,0<=c/\c<(n:Int)
 nodup:e.1.Nodup
 len:e.2.length=w
def kn(known:List Bool)(c:Int):Bool:=known.getD c.toNat false
def fa(known:List Bool)(vals:aS)(e:eZ):eZ:=(e.1.filter fun c=>!kn known c,cM vals e.2 (e.1.filter fun c=>kn known c))
structure jo (n w:Nat) (l:List eZ) (known:List Bool) (vals:aS):Prop where
 klen:known.length=n
 vlen:vals.length=n
 row:∀c:Nat,c<n->(aA vals c).length=if known.getD c false then w else 0
 sound:∀t k x,k<w->(∀e∈l,Sat t k x e)->∀c:Int,0<=c->c<(n:Int)->kn known c=true->x c=Gf.mul t (aQ (aA vals c.toNat) k)
section
variable {n w:Nat} {l:List eZ} {known:List Bool} {vals:aS}
theorem VA(n w:Nat)(l:List eZ):jo n w l (qg n false) (qg n []):=by
 refine⟨by simp,by simp,fun c b=>?_,fun t k x e d c h0 f a=>?_⟩
 ·rw[bv (by simpa using b)];simp[qe,b]
 ·exfalso;rw[kn,qe,List.getElem?_replicate]at a;split at a<;>simp at a
theorem jo.Fz(h:jo n w l known vals){c:Int}(h0:0<=c)(b:c<(n:Int))(a:kn known c=true):(aA vals c.toNat).length=w:=by
 have:=h.row c.toNat (by omega);rw[kn]at a;rw[a]at this;simpa using this
theorem jo.BM(h:jo n w l known vals){e:eZ}(b:iy n w e):iy n w (fa known vals e):=
 ⟨fun c d=>b.cP c (qB.1 d).1,b.nodup.filter _,jn b.len fun c d=>by
  have a:=qB.1 d;exact h.Fz (b.cP c a.1).1 (b.cP c a.1).2 a.2⟩
theorem jo.HE(h:jo n w l known vals){e:eZ}(f:iy n w e){t:UInt8}{k:Nat}{x:Int->UInt8}(o:∀c:Int,0<=c->c<(n:Int)->kn known c=true->x c=Gf.mul t (aQ (aA vals c.toNat) k)):
  Sat t k x (fa known vals e)↔Sat t k x e:=by
 have d:∀c∈e.1.filter (fun c=>kn known c),(aA vals c.toNat).length=w:=fun c g=>by
  have b:=qB.1 g;exact h.Fz (f.cP c b.1).1 (f.cP c b.1).2 b.2
 have j:cL x (e.1.filter fun c=>kn known c)=Gf.mul t (cL (fun c=>aQ (aA vals c.toNat) k) (e.1.filter fun c=>kn known c)):=by
  rw[jN (y:=fun c=>Gf.mul t (aQ (aA vals c.toNat) k)) fun c g=>o c (f.cP c (qB.1 g).1).1 (f.cP c (qB.1 g).1).2 (qB.1 g).2];generalize e.1.filter (fun c=>kn known c)=m
  induction m with
  |nil=>simp[cL,Gf.mul_zero]
  |cons a m ih=>rw[cL,cL,Gf.jG,ih]
 unfold Sat fa;dsimp only;rw[Ja k f.len d,Gf.jG,<-j,Ig x (fun c=>kn known c) e.1];constructor
 ·intro i;rw[i];rw[vF,uy]
 ·intro i;rw[<-i];rw[vF (cL x (e.1.filter fun c=>kn known c)),uy]
theorem aeo{known:List Bool}{c d:Int}(h0:0<=c)(a:0<=d)(b:c<(known.length:Int)):kn (known.set c.toNat true) d=(decide (d=c)||kn known d):=by
 unfold kn;rw[qe,qX];by_cases h:d=c
 ·subst h;rw[if_pos rfl,if_pos (by omega)];simp
 ·rw[if_neg (by omega)];simp[h]
theorem XT(h:jo n w l known vals)(p:∀e∈l,iy n w e){e:eZ}(i:e∈l){c:Int}(o:(fa known vals e).1=[c]):jo n w l (known.set c.toNat true) (vals.set c.toNat (fa known vals e).2):=by
 have b:=h.BM (p e i);have g:=b.cP c (by rw[o];simp);have s:=h.vlen;have f:=h.klen;refine⟨by simp[f],by simp[s],fun d r=>?_,fun t k x q j d h0 u m=>?_⟩
 ·rw[kz,qe,qX];by_cases a:c.toNat=d
  ·subst a;simp[show c.toNat<known.length by omega,b.len]
  ·rw[if_neg a,if_neg a,h.row d r,qe]
 ·rw[aeo g.1 h0 (by omega)]at m;rw[kz];by_cases a:d=c
  ·subst a;rw[if_pos rfl];have:=(h.HE (p e i) (h.sound t k x q j)).2 (j e i);unfold Sat at this;rw[o]at this;simpa[cL]using this
  ·rw[if_neg (by omega)];exact h.sound t k x q j d h0 u (by simpa[a]using m)
theorem FA(h:jo n w l known vals)(e:eZ):∀c∈(fa known vals e).1,kn known c=false:=fun c a=>by
 have:=(qB.1 a).2;simpa using this
def ba(known:List Bool)(vals:aS)(l:List eZ):List eZ:=(l.map (fa known vals)).filter fun e=>!e.1.isEmpty
def jO(known:List Bool)(vals:aS)(l:List eZ):Bool:=(l.map (fa known vals)).any fun e=>e.1.isEmpty&&e.2.any (· !=0)
theorem Qu(h:jo n w l known vals)(f:∀e∈l,iy n w e)(g:jO known vals l=false){t:UInt8}{k:Nat}{x:Int->UInt8}(m:k<w):
  (∀e∈l,Sat t k x e)↔(∀c:Int,0<=c->c<(n:Int)->kn known c=true->x c=Gf.mul t (aQ (aA vals c.toNat) k))/\∀e∈ba known vals l,Sat t k x e:=by
 constructor
 ·intro i;refine⟨h.sound t k x m i,fun e b=>?_⟩;obtain⟨j,d,rfl⟩:=qq.1 (qB.1 b).1;exact(h.HE (f j d) (h.sound t k x m i)).2 (i j d)
 ·rintro⟨r,p⟩ e b;refine(h.HE (f e b) r).1 ?_;by_cases a:(fa known vals e).1=[]
  ·unfold Sat;rw[a,cL];have o:((fa known vals e).1.isEmpty&&(fa known vals e).2.any (· !=0))=false:=by
    have:=wc.1 g _ (List.mem_map_of_mem b);simpa using this
   rw[a]at o;have q:∀y∈(fa known vals e).2,y=0:=by simpa using o
   have h3:=(h.BM (f e b)).len;have:aQ (fa known vals e).2 k=0:=by
    rw[aQ,qe,qd (by omega)];exact q _ (qh _)
   rw[this,Gf.mul_zero]
  ·refine p _ (qB.2 ⟨List.mem_map_of_mem b,?_⟩);simpa using a
theorem VB(h:jo n w l known vals)(i:∀e∈l,iy n w e)(c:jO known vals l=true):∃k,k<w/\∀x:Int->UInt8,¬∀e∈l,Sat 1 k x e:=by
 obtain⟨y,o,g⟩:=wV.1 c;obtain⟨e,f,rfl⟩:=qq.1 o;rw[qz]at g;obtain⟨z,m,a⟩:=wV.1 g.2;obtain⟨k,p,rfl⟩:=qH m;have h3:=(h.BM (i e f)).len;refine⟨k,by omega,fun x j=>?_⟩;have b:=(h.HE (i e f) (h.sound 1 k x (by omega) j)).2 (j e f);unfold Sat at b;have d:(fa known vals e).1=[]:=by simpa using g.1
 rw[d,cL,Gf.one_mul,aQ,qe,qd p]at b;simp at a;exact a b.symm
end
def jB(op:List Bool)(c:Int):Bool:=op.getD c.toNat false
def cT(op:List Bool)(r:aC):aC:=r.filter (jB op)
def lO(rows:dJ)(op us:List Bool)(i:Nat):Bool:=!(us.getD i false)&&(cT op (rows.getD i [])).length==1
def lP(rows:dJ)(op us:List Bool):Option Nat:=(qE rows.length).find? (lO rows op us)
def eS(rows:dJ)(op:List Bool)(i:Nat):Int:=(cT op (rows.getD i [])).getLast?.getD 0
def jP(a:aC)(r:aC):aC:=r.foldl (fun a c=>a.set c.toNat (a.getD c.toNat 0+1)) a
def kA(g:Nat->aC->aC)(rows:dJ)(us:List Bool)(a:aC):Nat->aC
 |0=>a
 |k+1=>if us.getD k false then kA g rows us a k else jP (kA g rows us a k) (g k (rows.getD k []))
def io(op:List Bool)(a:aC):Nat->Int
 |0=>-1
 |k+1=>if op.getD k false&&(decide (io op a k<0)||decide (a.getD k 0>a.getD (io op a k).toNat 0))then(k:Int)else io op a k
def gD(rows:dJ)(op us:List Bool):Int:=io op (kA (fun _ r=>r) rows us (qg op.length 0) rows.length) op.length
structure Pl where
 steps:List (Int×Int)
 dead:aC
 used:List Bool
def cw(rows:dJ):Nat->List Bool->List Bool->Pl
 |0,_,us=>⟨[],[],us⟩
 |k+1,op,us=>
  if op.contains true then
   match lP rows op us with
   |some i=>let r:=cw rows k (op.set (eS rows op i).toNat false) (us.set i true);⟨((i:Int),eS rows op i)::r.steps,r.dead,r.used⟩
   |none=>let r:=cw rows k (op.set (gD rows op us).toNat false) us;⟨r.steps,gD rows op us::r.dead,r.used⟩
  else⟨[],[],us⟩
def fi(us:List Bool):Nat->aC
 |0=>[]
 |k+1=>if us.getD k false then fi us k else fi us k++[(k:Int)]
def dw(n:Nat)(rows:dJ):Pl:=cw rows n (qg n true) (qg rows.length false)
theorem NK{P:Nat->Bool}{n:Nat}(h:∀j,j<n->P j=false):(qE n).find? P=none:=by
 rw[zO];intro x a;rw[qD]at a;simp[h x a]
theorem XU{P:Nat->Bool}{n k:Nat}(f:k<n)(h:∀j,j<k->P j=false)(d:P k=true):(qE n).find? P=some k:=by
 rw[List.find?_eq_some_iff_append];refine⟨d,qE k,List.range' (k+1) (n-k-1),?_,fun a b=>?_⟩
 ·rw[yI,yI];have e:n=k+(n-k):=by omega
  have c:n-k=(n-k-1)+1:=by omega
  conv=>lhs;rw[e,<-List.range'_append_1 (s:=0) (m:=k) (n:=n-k)]
  rw[wy]
  conv=>lhs;rw[c,List.range'_succ]
 ·rw[qD]at b;simp[h a b]
theorem SF(a r:aC)(c:Int):jP a (r++[c])=(jP a r).set c.toNat ((jP a r).getD c.toNat 0+1):=by
 simp[jP]
theorem DW(b r:aC):(jP b r).length=b.length:=by
 induction r generalizing b with
 |nil=>rfl
 |cons a t ih=>simp only[jP,zE]at*;rw[ih];simp
theorem Db(g:Nat->aC->aC)(rows:dJ)(us:List Bool)(a:aC):∀k,(kA g rows us a k).length=a.length
 |0=>rfl
 |k+1=>by
  unfold kA;split
  ·exact Db g rows us a k
  ·rw[DW,Db g rows us a k]
theorem FB{m:Int}:∀{r c:aC},(∀x∈c,0<=x/\x<=m)->∀x∈jP c r,0<=x/\x<=m+r.length
 |[],c,h,x,hx=>by have:=h x hx;simp;omega
 |a::t,c,h,x,hx=>by
  have d:∀y∈c.set a.toNat (c.getD a.toNat 0+1),0<=y/\y<=m+1:=by
   intro y b;rcases List.mem_or_eq_of_mem_set b with b|b
   ·have:=h y b;omega
   ·subst b;rw[qe];cases hc:c[a.toNat]? with
    |none=>
     rw[List.getElem?_eq_none_iff]at hc;rw[List.set_eq_of_length_le hc]at b;have:=h _ b;rw[qe,zg hc]at this;simp at this⊢;omega
    |some z=>have:=h z (List.mem_of_getElem? hc);simp;omega
  have:=FB (r:=t) d x hx;simp only[q9];omega
theorem Qv(g:Nat->aC->aC){rows:dJ}{us:List Bool}{n:Nat}(a:∀k,(g k (rows.getD k [])).length<=64):∀k,∀x∈kA g rows us (qg n 0) k,0<=x/\x<=64*k
 |0,x,hx=>by
  have:=List.eq_of_mem_replicate hx;subst this;simp
 |k+1,x,hx=>by
  unfold kA at hx;split at hx
  ·have:=Qv g a k x hx;omega
  ·have:=FB (Qv g a k) x hx;have:=a k;omega
theorem NL(op:List Bool)(a:aC):∀k,(io op a k=-1/\∀j,j<k->op.getD j false=false)∨(0<=io op a k/\io op a k<k/\op.getD (io op a k).toNat false=true)
 |0=>.inl ⟨rfl,fun j c=>by omega⟩
 |k+1=>by
  unfold io;split
  ·rename_i b;simp only[qz]at b;exact .inr ⟨by omega,by omega,by rw[qo];exact b.1⟩
  ·rename_i b;rcases NL op a k with⟨e,h⟩|⟨h1,h2,h3⟩
   ·refine .inl ⟨e,fun j c=>?_⟩;rcases zk.1 c with c|rfl
    ·exact h j c
    ·by_cases d:op.getD j false=true
     ·exact absurd (by rw[d,e];rfl) b
     ·simpa using d
   ·exact .inr ⟨h1,by omega,h3⟩
theorem FC{op:List Bool}(h:op.contains true=true):∃j,j<op.length/\op.getD j false=true:=by
 simp only[List.contains_iff_mem]at h;obtain⟨j,a,e⟩:=qH h;exact⟨j,a,by rw[qe,qd a];exact e⟩
theorem sa{rows:dJ}{op us:List Bool}(h:op.contains true=true):0<=gD rows op us/\gD rows op us<op.length/\op.getD (gD rows op us).toNat false=true:=by
 obtain⟨j,a,e⟩:=FC h;rcases NL op (kA (fun _ r=>r) rows us (qg op.length 0) rows.length) op.length with⟨_,h2⟩|h2
 ·rw[h2 j a]at e;cases e
 ·exact h2
theorem ua{rows:dJ}{op us:List Bool}{i:Nat}(h:lP rows op us=some i):i<rows.length/\lO rows op us i=true:=by
 have b:=List.mem_of_find?_eq_some h;have a:=List.find?_some h;exact⟨qD.1 b,a⟩
theorem Dc{rows:dJ}{op us:List Bool}{i:Nat}(d:lO rows op us i=true):cT op (rows.getD i [])=[eS rows op i]/\eS rows op i∈rows.getD i []/\jB op (eS rows op i)=true:=by
 simp only[lO,qz,beq_iff_eq]at d;obtain⟨c,b⟩:=List.length_eq_one_iff.1 d.2;have e:eS rows op i=c:=by unfold eS;rw[b];rfl
 have a:c∈cT op (rows.getD i []):=by rw[b];simp
 rw[cT,qB]at a;rw[e];exact⟨b,a.1,a.2⟩
theorem jZ{op:List Bool}{j:Nat}(h:op.getD j false=true):(op.set j false).count true+1=op.count true:=by
 have a:j<op.length:=by
  by_cases a:j<op.length
  ·exact a
  ·rw[qe,zg (by omega)]at h;cases h
 have e:op[j]=true:=by rw[qe,qd a]at h;exact h
 have b:0<op.count true:=List.count_pos_iff.2 (e▸qh a);rw[List.count_set a,e];simp;omega
theorem Qx{op:List Bool}(h:op.count true=0):op.contains true=false:=by
 rw[List.count_eq_zero]at h;simpa using h
theorem Ay{rows:dJ}{op us:List Bool}(h:op.contains true=false):∀k,cw rows k op us=⟨[],[],us⟩
 |0=>rfl
 |k+1=>by unfold cw;rw[h];rfl
theorem nY{rows:dJ}{op us:List Bool}{i k:Nat}(h:op.contains true=true)(a:lP rows op us=some i):
  cw rows (k+1) op us=⟨((i:Int),eS rows op i)::(cw rows k (op.set (eS rows op i).toNat false) (us.set i true)).steps,(cw rows k (op.set (eS rows op i).toNat false) (us.set i true)).dead,(cw rows k (op.set (eS rows op i).toNat false) (us.set i true)).used⟩:=by
 rw[cw,h,a];rfl
theorem nZ{rows:dJ}{op us:List Bool}{k:Nat}(h:op.contains true=true)(a:lP rows op us=none):
  cw rows (k+1) op us=⟨(cw rows k (op.set (gD rows op us).toNat false) us).steps,gD rows op us::(cw rows k (op.set (gD rows op us).toNat false) us).dead,(cw rows k (op.set (gD rows op us).toNat false) us).used⟩:=by
 rw[cw,h,a];rfl
theorem td(rows:dJ):∀k op us,(cw rows k op us).used.length=us.length
 |0,_,_=>rfl
 |k+1,op,us=>by
  unfold cw;split
  ·split
   ·show(cw rows k _ _).used.length=_;rw[td];simp
   ·show(cw rows k _ _).used.length=_;rw[td]
  ·rfl
theorem HG(us:List Bool):∀k,(fi us k).length<=k
 |0=>by simp[fi]
 |k+1=>by
  have:=HG us k;unfold fi;split<;>simp<;>omega
theorem tq{op:List Bool}{f:Nat}(h:op.count true=f+1):op.contains true=true:=by
 have:0<op.count true:=by omega
 rw[List.count_pos_iff]at this;simpa using this
theorem SG{P:Nat->Bool}{n j:Nat}(a:j<n)(h:P j=true):∃i,(qE n).find? P=some i:=by
 cases hf:(qE n).find? P with
 |some i=>exact⟨i,rfl⟩
 |none=>
  rw[zO]at hf;exact absurd h (hf j (qD.2 a))
theorem iW(l:List Bool)(i j:Nat)(x:Bool):(l.set i x).getD j false=if i=j/\j<l.length then x else l.getD j false:=by
 simp only[qe,qX];by_cases h:i=j
 ·subst h;by_cases a:i<l.length<;>simp[a]
 ·simp[h]
def uW(rows:dJ)(op us:List Bool):Prop:=∀i,us.getD i false=true->cT op (rows.getD i [])=[]
theorem mI{op:List Bool}{c d:Int}(h:jB (op.set d.toNat false) c=true):jB op c=true/\c.toNat≠d.toNat:=by
 unfold jB at*;rw[iW]at h;by_cases e:d.toNat=c.toNat
 ·rw[if_pos]at h
  ·cases h
  ·refine⟨e,?_⟩;by_cases b:c.toNat<op.length
   ·exact b
   ·rw[if_neg (fun a=>b a.2),qe,zg (by omega)]at h;cases h
 ·rw[if_neg (fun a=>e a.1)]at h;exact⟨h,fun a=>e a.symm⟩
theorem XV{rows:dJ}{op us:List Bool}{i:Nat}(h:uW rows op us)(g:lO rows op us i=true):uW rows (op.set (eS rows op i).toNat false) (us.set i true):=by
 obtain⟨m,n,h3⟩:=Dc g;intro j f;rw[iW]at f;rw[cT,wG];intro c k b;obtain⟨b,d⟩:=mI b;have a:c∈cT op (rows.getD j []):=by rw[cT,qB];exact⟨k,b⟩
 by_cases e:i=j
 ·subst e;rw[m]at a;simp at a;exact d (by rw[a])
 ·rw[if_neg (fun l=>e l.1)]at f;rw[h j f]at a;simp at a
theorem FD(n j:Nat):(qg n false).getD j false=false:=by
 rw[qe];by_cases h:j<n
 ·rw[qd (by simpa using h)];simp
 ·rw[zg (by simpa using h)];rfl
theorem aep{rows:dJ}{r:aC}(h:r∈rows):∃j,j<rows.length/\rows.getD j []=r:=by
 obtain⟨j,a,e⟩:=qH h;exact⟨j,a,by rw[qe,qd a];exact e⟩
def other(m i:Nat):Nat:=if i<m then i else i+1
def se(rows:dJ):(Int->Prop)->(Int->Prop)->List (Int×Int)->Prop
 |_,_,[]=>True
 |D,U,(i,c)::t=>(0<=i/\i<rows.length)/\¬U i/\¬D c/\c∈rows.getD i.toNat []/\(∀a∈rows.getD i.toNat [],a≠c->D a)/\se rows (fun x=>D x∨x=c) (fun x=>U x∨x=i) t
def afQ(op:List Bool)(c:Int):Prop:=0<=c/\jB op c=true
theorem XW{op:List Bool}{c:Int}(h:jB op c=true):c.toNat<op.length:=by
 by_cases a:c.toNat<op.length
 ·exact a
 ·unfold jB at h;rw[qe,zg (by omega)]at h;cases h
theorem Ur{op:List Bool}{c d:Int}(b:0<=c)(f:0<=d):jB op c=true->c≠d->jB (op.set d.toNat false) c=true:=by
 intro h a;unfold jB;rw[iW,if_neg (fun e=>a (by omega))];exact h
theorem ub{op:List Bool}{d:Int}(h:jB op d=true):jB (op.set d.toNat false) d=false:=by
 unfold jB;rw[iW,if_pos ⟨rfl,XW h⟩]
structure afw (rows:dJ) (op us:List Bool) (r:Pl):Prop where
 cP:r.steps.length+r.dead.length=op.count true
 used:r.used.count true=us.count true+r.steps.length
 keepU:∀i,us.getD i false=true->r.used.getD i false=true
 dead:∀c∈r.dead,afQ op c
 deadN:r.dead.Nodup
 good:∀D U:Int->Prop,(∀c:Int,0<=c->c<op.length->(D c↔jB op c=false∨c∈r.dead))->(∀i:Nat,i<rows.length->(U i↔us.getD i false=true∨r.used.getD i false=false))->se rows D U r.steps
theorem aav{us:List Bool}{i:Nat}(h:us.getD i false=false)(a:i<us.length):(us.set i true).count true=us.count true+1:=by
 have e:us[i]=false:=by rw[qe,qd a]at h;exact h
 rw[List.count_set a,e];simp
theorem Qy{rows:dJ}{n:Nat}(b:∀r∈rows,∀c∈r,0<=c/\c<n):∀k op us,op.length=n->us.length=rows.length->op.count true=k->afw rows op us (cw rows k op us)
 |0,op,us,hl,hul,hc=>⟨by simp[cw,hc],by simp[cw],fun i h=>h,fun c h=>by simp[cw]at h,by simp[cw],fun _ _ _ _=>trivial⟩
 |k+1,op,us,hl,hul,hc=>by
  have p:=tq hc;cases hst:lP rows op us with
  |some i=>
   obtain⟨g,u⟩:=ua hst;obtain⟨N,I,h3⟩:=Dc u;have m:rows.getD i []=rows[i]:=by rw[qe,qd g];rfl
   have v:=b _ (qh g) _ (m▸I);have E:=jZ (op:=op) (j:=(eS rows op i).toNat) h3;have x:us.getD i false=false:=by
    simp only[lO,qz,wL]at u;exact u.1
   have L:=aav x (by omega);have a:=Qy b k (op.set (eS rows op i).toNat false) (us.set i true) (by simp[hl]) (by simp[hul]) (by omega);rw[nY p hst];generalize cw rows k (op.set (eS rows op i).toNat false) (us.set i true)=r at a;generalize H:eS rows op i=c at*;have B:r.used.getD i false=true:=a.keepU i (by rw[iW,if_pos ⟨rfl,by omega⟩]);have s:c∉r.dead:=fun h=>by
    have:=(a.dead c h).2;rw[ub h3]at this;cases this
   refine⟨by simp only[q9];have:=a.cP;omega,by simp only[q9];have:=a.used;omega,fun j F=>a.keepU j (by rw[iW];split;rfl;exact F),fun d q=>⟨(a.dead d q).1,(mI (a.dead d q).2).1⟩,a.deadN,fun D U w y=>?_⟩;have o:rows.getD ((i:Int)).toNat []=rows.getD i []:=by rw[qo]
   refine⟨by omega,?_,?_,by rw[o];exact I,?_,?_⟩
   ·rw[y i g,x,B];simp
   ·rw[w c v.1 (by omega),h3];simp[s]
   ·intro A t G;rw[o]at t;have z:=b _ (qh g) _ (m▸t);refine(w A z.1 (by omega)).2 (.inl ?_);cases ho:jB op A with
    |false=>rfl
    |true=>
     have:A∈cT op (rows.getD i []):=by rw[cT,qB];exact⟨t,ho⟩
     rw[N]at this;simp at this;exact absurd this G
   ·refine a.good _ _ (fun d l f=>?_) (fun j F=>?_)
    ·simp only[zA]at f;rw[w d l f];by_cases e:d=c
     ·subst e;simp[ub h3]
     ·cases ho:jB op d with
      |true=>rw[Ur l v.1 ho e];simp[e]
      |false=>
       have:jB (op.set c.toNat false) d=false:=by
        cases hh:jB (op.set c.toNat false) d with
        |false=>rfl
        |true=>rw[(mI hh).1]at ho;cases ho
       rw[this];simp
    ·rw[y j F,iW];by_cases e:i=j
     ·subst e;simp[hul,g]
     ·have M:¬((j:Int)=(i:Int)):=fun h=>e (by omega);simp[e,M]
  |none=>
   obtain⟨J,O,K⟩:=sa (rows:=rows) (us:=us) p;have E:=jZ (op:=op) (j:=(gD rows op us).toNat) K;have a:=Qy b k (op.set (gD rows op us).toNat false) us (by simp[hl]) hul (by omega);rw[nZ p hst];generalize cw rows k (op.set (gD rows op us).toNat false) us=r at a;generalize gD rows op us=c at*;have h3:jB op c=true:=K;have s:c∉r.dead:=fun h=>by
    have:=(a.dead c h).2;rw[ub h3]at this;cases this
   refine⟨by simp only[q9];have:=a.cP;omega,a.used,a.keepU,fun d q=>?_,by simp only[w6];exact⟨s,a.deadN⟩,fun D U w y=>?_⟩
   ·rcases q8.1 q with rfl|q
    ·exact⟨J,h3⟩
    ·exact⟨(a.dead d q).1,(mI (a.dead d q).2).1⟩
   ·refine a.good D U (fun d l f=>?_) y;simp only[zA]at f;rw[w d l f];by_cases e:d=c
    ·subst e;simp[ub h3]
    ·have:jB (op.set c.toNat false) d=jB op d:=by
      cases ho:jB op d with
      |true=>exact Ur l J ho e
      |false=>
       cases hh:jB (op.set c.toNat false) d with
       |false=>rfl
       |true=>rw[(mI hh).1]at ho;cases ho
     rw[this];simp[e]
theorem Dd(us:List Bool):∀k (c:Int),c∈fi us k↔∃j:Nat,c=j/\j<k/\us.getD j false=false
 |0,c=>by simp[fi]
 |k+1,c=>by
  have e:=Dd us k c;unfold fi;cases h:us.getD k false with
  |true=>
   simp only[if_true];rw[e];constructor
   ·rintro⟨j,a,b,d⟩;exact⟨j,a,by omega,d⟩
   ·rintro⟨j,a,b,d⟩;refine⟨j,a,?_,d⟩;rcases zk.1 b with b|rfl
    ·exact b
    ·rw[h]at d;cases d
  |false=>
   simp only[zf,if_false,qA,qG];rw[e];constructor
   ·rintro(⟨j,a,b,d⟩|rfl)
    ·exact⟨j,a,by omega,d⟩
    ·exact⟨k,rfl,by omega,h⟩
   ·rintro⟨j,a,b,d⟩;rcases zk.1 b with b|rfl
    ·exact .inl ⟨j,a,b,d⟩
    ·exact .inr a
theorem Qz(us:List Bool):∀k,k<=us.length->(fi us k).length+(us.take k).count true=k
 |0,_=>by simp[fi]
 |k+1,hk=>by
  have a:=Qz us k (by omega);have e:us.getD k false=us[k]:=by rw[qe,qd (by omega)];rfl
  unfold fi;rw[zn (by omega),List.count_append,e];cases us[k]<;>simp<;>omega
theorem uX{rows:dJ}{n:Nat}(a:∀r∈rows,∀c∈r,0<=c/\c<n):
  (dw n rows).steps.length+(dw n rows).dead.length=n/\(dw n rows).steps.length+(fi (dw n rows).used rows.length).length=rows.length/\(∀c∈(dw n rows).dead,0<=c/\c<n)/\(dw n rows).dead.Nodup/\
  (∀c∈fi (dw n rows).used rows.length,0<=c/\c<rows.length)/\se rows (·∈(dw n rows).dead) (·∈fi (dw n rows).used rows.length) (dw n rows).steps:=by
 have h:=Qy a n (qg n true) (qg rows.length false) (by simp) (by simp) (by simp);have p:(dw n rows).used.length=rows.length:=by unfold dw;rw[td];simp
 have d:=Qz (dw n rows).used rows.length (by omega);rw[List.take_of_length_le (by omega)]at d;refine⟨by have:=h.cP;simpa[dw]using this,?_,fun c b=>?_,h.deadN,fun c b=>?_,?_⟩
 ·have:=h.used;have f:(qg rows.length false).count true=0:=by simp[List.count_replicate]
  rw[f]at this;unfold dw at*;omega
 ·obtain⟨h0,o⟩:=h.dead c b;have:=XW o;simp at this;omega
 ·obtain⟨j,rfl,m,_⟩:=(Dd _ _ _).1 b;omega
 ·refine h.good _ _ (fun c k e=>?_) (fun i l=>?_)
  ·have:jB (qg n true) c=true:=by
    simp at e;unfold jB;rw[qe,qd (by simp;omega)];simp
   rw[this];simp[dw]
  ·rw[FD,Dd];constructor
   ·rintro⟨j,m,_,g⟩;have:j=i:=by omega
    subst this;exact .inr g
   ·rintro(hh|hh)
    ·cases hh
    ·exact⟨i,rfl,l,hh⟩
theorem FE{rows:dJ}:∀k op us i,(cw rows k op us).used.getD i false=true->us.getD i false=true∨∃c,((i:Int),c)∈(cw rows k op us).steps
 |0,_,_,_,h=>.inl h
 |k+1,op,us,i,h=>by
  by_cases a:op.contains true=true
  ·cases hst:lP rows op us with
   |some j=>
    rw[nY a hst]at h⊢;dsimp only at h⊢;rcases FE k _ _ i h with h1|⟨c,hc⟩
    ·rw[iW]at h1;by_cases b:j=i
     ·subst b;exact .inr ⟨_,qW⟩
     ·rw[if_neg (fun d=>b d.1)]at h1;exact .inl h1
    ·exact .inr ⟨c,qR _ hc⟩
   |none=>
    rw[nZ a hst]at h⊢;exact FE k _ _ i h
  ·have a:op.contains true=false:=by simpa using a
   rw[Ay a]at h⊢;exact .inl h
theorem FF{rows:dJ}{n:Nat}(a:∀r∈rows,∀c∈r,0<=c/\c<(n:Int)):∀k op us,op.length=n->op.count true=k->∀c:Nat,op.getD c false=true->
  (c:Int)∈(cw rows k op us).dead∨∃i,(i,(c:Int))∈(cw rows k op us).steps
 |0,op,us,hl,hc,c,h=>by
  have:=Qx hc;exfalso;have l:c<op.length:=by
   by_cases g:c<op.length
   ·exact g
   ·rw[qe,zg (by omega)]at h;cases h
  rw[List.count_eq_zero]at hc;rw[qe,qd l]at h;exact hc (h▸qh l)
 |k+1,op,us,hl,hc,c,h=>by
  have b:=tq hc;cases hst:lP rows op us with
  |some j=>
   rw[nY b hst];obtain⟨f,o⟩:=ua hst;obtain⟨v,p,h3⟩:=Dc o;have e:rows.getD j []=rows[j]:=by rw[qe,qd f];rfl
   have q:=a _ (qh f) _ (e▸p);have m:=jZ (op:=op) (j:=(eS rows op j).toNat) h3;dsimp only;by_cases d:(eS rows op j).toNat=c
   ·exact .inr ⟨j,by rw[show((c:Nat):Int)=eS rows op j by omega];exact qW⟩
   ·rcases FF a k (op.set (eS rows op j).toNat false) (us.set j true) (by simp[hl]) (by omega) c (by rw[iW,if_neg (fun g=>d g.1)];exact h)with h5|⟨i,h5⟩
    ·exact .inl h5
    ·exact .inr ⟨i,qR _ h5⟩
  |none=>
   rw[nZ b hst];obtain⟨t,u,s⟩:=sa (rows:=rows) (us:=us) b;have m:=jZ (op:=op) (j:=(gD rows op us).toNat) s;dsimp only;by_cases d:(gD rows op us).toNat=c
   ·exact .inl (by rw[show((c:Nat):Int)=gD rows op us by omega];exact qW)
   ·rcases FF a k (op.set (gD rows op us).toNat false) us (by simp[hl]) (by omega) c (by rw[iW,if_neg (fun g=>d g.1)];exact h)with h5|⟨i,h5⟩
    ·exact .inl (qR _ h5)
    ·exact .inr ⟨i,h5⟩
theorem VC{rows:dJ}{op us:List Bool}{c:Int}(h:uW rows op us):uW rows (op.set c.toNat false) us:=fun i b=>by
 have:=h i b;rw[cT,wG]at this⊢;exact fun d e a=>this d e (mI a).1
theorem De{rows:dJ}{c:Int}(l:[c]∈rows):∀k op us,uW rows op us->(∀d:Int,d<0->d∉(cw rows k op us).dead)->0<=c->c∉(cw rows k op us).dead
 |0,_,_,_,_,_=>by simp[cw]
 |k+1,op,us,hu,_,h0=>by
  by_cases a:op.contains true=true
  ·cases hst:lP rows op us with
   |some j=>
    rw[nY a hst];dsimp only;obtain⟨_,m⟩:=ua hst;exact De l k _ _ (XV hu m) (fun d p b=>by
     have f:∀k op us,∀d∈(cw rows k op us).dead,0<=d:=plan_dead0;have:=f _ _ _ d b;omega) h0
   |none=>
    rw[nZ a hst];obtain⟨t,u,s⟩:=sa (rows:=rows) (us:=us) a;dsimp only;intro b;rcases q8.1 b with e|b
    ·obtain⟨j,r,g⟩:=aep l;have n:cT op [c]=[c]:=by rw[cT,zr,if_pos (show jB op c=true by rw[e];exact s)];rfl
     have q:lO rows op us j=true:=by
      unfold lO;rw[g,n];cases hus:us.getD j false with
      |false=>rfl
      |true=>have:=hu j hus;rw[g,n]at this;cases this
     obtain⟨i,o⟩:∃i,lP rows op us=some i:=SG r q;rw[hst]at o;cases o
    ·exact De l k _ _ (VC hu) (fun d p b=>by have:=plan_dead0 (rows:=rows) _ _ _ d b;omega) h0 b
  ·have a:op.contains true=false:=by simpa using a
   rw[Ay a];simp
where
 plan_dead0 {rows:dJ}:∀k op us,∀d∈(cw rows k op us).dead,0<=d
  |0,_,_,d,h=>by simp[cw]at h
  |k+1,op,us,d,h=>by
   by_cases a:op.contains true=true
   ·cases hst:lP rows op us with
    |some j=>rw[nY a hst]at h;exact plan_dead0 k _ _ d h
    |none=>
     rw[nZ a hst]at h;rcases q8.1 h with rfl|h
     ·exact(sa a).1
     ·exact plan_dead0 k _ _ d h
   ·have a:op.contains true=false:=by simpa using a
    rw[Ay a]at h;simp at h
def sf(R:dJ):(Int->Prop)->List (Int×Int)->Prop
 |_,[]=>True
 |D,(i,c)::t=>(0<=i/\i<R.length)/\¬D c/\c∈R.getD i.toNat []/\(∀a∈R.getD i.toNat [],a≠c->D a)/\sf R (fun x=>D x∨x=c) t
theorem Bc{R S:dJ}{K:Int->Prop}(k:∀r∈R,∀c∈r,¬K c)(m:∀r∈S,∀c∈r,K c):∀{a:List (Int×Int)} {D D' U:Int->Prop},se (R++S) D U a->(∀c,¬K c->(D c↔D' c))->
  sf R D' (a.filter fun p=>decide (p.1<R.length))
 |[],_,_,_,_,_=>trivial
 |(i,c)::t,D,D',U,h,hD=>by
  obtain⟨x,z,h3,f,v,w⟩:=h;rw[zr];by_cases q:i<R.length
  ·have e:(R++S).getD i.toNat []=R.getD i.toNat []:=by
    rw[qe,List.getElem?_append_left (by omega),qe]
   have j:R.getD i.toNat []∈R:=by
    rw[qe,qd (by omega)];exact qh _
   rw[e]at f v;have n:=k _ j c f;rw[if_pos (by simpa using q)];refine⟨⟨x.1,q⟩,fun o=>h3 ((hD c n).2 o),f,fun l b u=>(hD l (k _ j l b)).1 (v l b u),Bc k m w fun d g=>?_⟩;rw[hD d g]
  ·rw[if_neg (by simpa using q)];have j:(R++S).getD i.toNat []∈S:=by
    have s:=x.2;rw[qx]at s;rw[qe,qj (by omega),qd (by omega)];exact qh _
   have n:=m _ j c f;refine Bc k m w fun d g=>?_;rw[<-hD d g];exact⟨fun o=>o.elim id fun y=>absurd (y▸n) g,.inl⟩
def ev(t:UInt8)(k nd:Nat)(W M:aS)(y:Nat->UInt8)(c:Int):UInt8:=bF (fun i=>aQ (aA W c.toNat) i) y nd^^^Gf.mul t (aQ (aA M c.toNat) k)
theorem Jb{a b:Row}(h:a.length=b.length)(c:UInt8)(y:Nat->UInt8)(n:Nat):bF (fun j=>aQ (dl c a b) j) y n=bF (fun j=>aQ b j) y n^^^Gf.mul c (bF (fun j=>aQ a j) y n):=by
 rw[fD n (fun j _=>cQ h j) fun _ _=>rfl];exact Hy _ _ _ _ _
theorem QA{V:aS}{m:Nat}(y:Nat->UInt8)(n:Nat):∀{l:aC} {a:Row},a.length=m->(∀c∈l,(aA V c.toNat).length=m)->bF (fun j=>aQ (cM V a l) j) y n=bF (fun j=>aQ a j) y n^^^cL (fun c=>bF (fun j=>aQ (aA V c.toNat) j) y n) l
 |[],a,_,_=>by simp[cM,cL]
 |c::l,a,h,hv=>by
  have b:(aA V c.toNat).length=a.length:=by rw[hv c (by simp),h]
  have:=QA (V:=V) y n (l:=l) (a:=dl 1 (aA V c.toNat) a) (by rw[ci b];exact h) fun d e=>hv d (by simp[e]);rw[cM,zE];rw[cM]at this;rw[this,Jb b,Gf.one_mul,cL];ac_rfl
theorem QB(t:UInt8)(x:Int->UInt8):∀l,cL (fun c=>Gf.mul t (x c)) l=Gf.mul t (cL x l)
 |[]=>by simp[cL,Gf.mul_zero]
 |c::l=>by rw[cL,cL,Gf.jG,QB t x l]
theorem ME{W M:aS}{nd w:Nat}{l:aC}{a m:Row}(d:a.length=nd)(b:m.length=w)(e:∀c∈l,(aA W c.toNat).length=nd)(f:∀c∈l,(aA M c.toNat).length=w)(t:UInt8)(k:Nat)(y:Nat->UInt8):
  bF (fun j=>aQ (cM W a l) j) y nd^^^Gf.mul t (aQ (cM M m l) k)=(bF (fun j=>aQ a j) y nd^^^Gf.mul t (aQ m k))^^^cL (ev t k nd W M y) l:=by
 rw[QA y nd d e,Ja k b f,Gf.jG];have:cL (ev t k nd W M y) l=cL (fun c=>bF (fun j=>aQ (aA W c.toNat) j) y nd) l^^^Gf.mul t (cL (fun c=>aQ (aA M c.toNat) k) l):=by
  rw[<-QB,<-Qt];rfl
 rw[this];ac_rfl
def gE(rest:List eZ)(nd:Nat)(s:aS×aS)(p:Int×Int):aS×aS:=
 let r:=rest.getD p.1.toNat ([],[])
 (s.1.set p.2.toNat (cM s.1 (aN nd) (r.1.filter fun c=>!decide (c=p.2))),s.2.set p.2.toNat (cM s.2 r.2 (r.1.filter fun c=>!decide (c=p.2))))
structure XX (n nd w:Nat) (D:Int->Prop) (W M:aS):Prop where
 wl:W.length=n
 ml:M.length=n
 rw_:∀c:Int,D c->0<=c->c<(n:Int)->(aA W c.toNat).length=nd/\(aA M c.toNat).length=w
theorem Df{W M b a:aS}{t:UInt8}{k nd:Nat}{y:Nat->UInt8}{c:Int}(e:aA b c.toNat=aA W c.toNat)(d:aA a c.toNat=aA M c.toNat):ev t k nd b a y c=ev t k nd W M y c:=by unfold ev;rw[e,d]
theorem Jc{n nd w:Nat}{rest:List eZ}(A:∀e∈rest,iy n w e):∀{a:List (Int×Int)} {D:Int->Prop} {W M:aS},sf (rest.map qJ) D a->XX n nd w D W M->
  XX n nd w (fun c=>D c∨∃i,(i,c)∈a) (a.foldl (gE rest nd) (W,M)).1 (a.foldl (gE rest nd) (W,M)).2/\
  (∀c:Int,D c->0<=c->aA (a.foldl (gE rest nd) (W,M)).1 c.toNat=aA W c.toNat/\aA (a.foldl (gE rest nd) (W,M)).2 c.toNat=aA M c.toNat)/\
  (∀p∈a,∀t k y,k<w->Sat t k (ev t k nd (a.foldl (gE rest nd) (W,M)).1 (a.foldl (gE rest nd) (W,M)).2 y) (rest.getD p.1.toNat ([],[])))/\
  (∀t k x y,k<w->(∀c:Int,D c->0<=c->c<(n:Int)->x c=ev t k nd W M y c)->(∀p∈a,Sat t k x (rest.getD p.1.toNat ([],[])))->∀c:Int,(D c∨∃i,(i,c)∈a)->0<=c->c<(n:Int)->x c=ev t k nd (a.foldl (gE rest nd) (W,M)).1 (a.foldl (gE rest nd) (W,M)).2 y c)
 |[],D,W,M,_,hw=>⟨⟨hw.wl,hw.ml,fun c Q=>hw.rw_ c (Q.elim id fun⟨i,h⟩=>by cases h)⟩,fun _ _ _=>⟨rfl,rfl⟩,fun p r=>by(cases r),fun t k x y J I _ c Q h0 o=>I c (Q.elim id fun⟨i,h⟩=>by cases h) h0 o⟩
 |(i,c)::st,D,W,M,hg,hw=>by
  obtain⟨g1,g2,H,g4,g5⟩:=hg;have q:i.toNat<rest.length:=by have:=g1.2;rw[qu]at this;omega
  obtain⟨e,he⟩:∃e,e=rest[i.toNat]:=⟨_,rfl⟩
  have X:rest.getD i.toNat ([],[])=e:=by rw[qe,qd q,he];rfl
  have ab:(rest.map qJ).getD i.toNat []=e.1:=by rw[qe,qO,qd q,he];rfl
  rw[ab]at H g4;have l:=A e (he▸qh q);have Z:=l.cP c H;obtain⟨F,L⟩:∃F,F=e.1.filter (fun d=>!decide (d=c)):=⟨_,rfl⟩
  have u:∀d∈F,d∈e.1/\d≠c:=fun d b=>by rw[L,qB]at b;exact⟨b.1,by simpa using b.2⟩
  have f:∀d∈F,D d/\0<=d/\d<(n:Int):=fun d b=>⟨g4 d (u d b).1 (u d b).2,l.cP d (u d b).1⟩
  have l1:∀d∈F,(aA W d.toNat).length=nd:=fun d b=>(hw.rw_ d (f d b).1 (f d b).2.1 (f d b).2.2).1;have l2:∀d∈F,(aA M d.toNat).length=w:=fun d b=>(hw.rw_ d (f d b).1 (f d b).2.1 (f d b).2.2).2;have S:(aN nd).length=nd:=by simp[aN]
  have P:gE rest nd (W,M) (i,c)=(W.set c.toNat (cM W (aN nd) F),M.set c.toNat (cM M e.2 F)):=by
   unfold gE;dsimp only;rw[X,<-L]
  have ad:=hw.wl;have T:=hw.ml;have E:∀d:Nat,aA (W.set c.toNat (cM W (aN nd) F)) d=if c.toNat=d then cM W (aN nd) F else aA W d:=fun d=>kz
  have B:∀d:Nat,aA (M.set c.toNat (cM M e.2 F)) d=if c.toNat=d then cM M e.2 F else aA M d:=fun d=>kz
  have U:XX n nd w (fun x=>D x∨x=c) (W.set c.toNat (cM W (aN nd) F)) (M.set c.toNat (cM M e.2 F)):=by
   refine⟨by simp[ad],by simp[T],fun d b h0 o=>?_⟩;rw[E,B];by_cases g:c.toNat=d.toNat
   ·rw[if_pos g,if_pos g];exact⟨jn S l1,jn l.len l2⟩
   ·rw[if_neg g,if_neg g];exact hw.rw_ d (b.elim id fun K=>absurd (by rw[K]) g) h0 o
  obtain⟨N,Y,r3,r4⟩:=Jc A g5 U;rw[zE,P];generalize st.foldl (gE rest nd) (W.set c.toNat (cM W (aN nd) F),M.set c.toNat (cM M e.2 F))=s at N Y r3 r4;have v:∀d:Int,D d->0<=d->c.toNat≠d.toNat:=fun d b h0 K=>g2 (by rw[show c=d by omega];exact b);have keep:∀d:Int,D d->0<=d->aA s.1 d.toNat=aA W d.toNat/\aA s.2 d.toNat=aA M d.toNat:=fun d b h0=>by
   have:=Y d (.inl b) h0;rw[E,B,if_neg (v d b h0),if_neg (v d b h0)]at this;exact this
  have V:∀t k y,ev t k nd s.1 s.2 y c=Gf.mul t (aQ e.2 k)^^^cL (ev t k nd W M y) F:=fun t k y=>by
   have R:=Y c (.inr rfl) Z.1;rw[E,B,if_pos rfl,if_pos rfl]at R;unfold ev;rw[R.1,R.2,ME S l.len l1 l2 t k y,fv _ _ nd fun j _=>cz _ _,wi];rfl
  have z:∀t k y,cL (ev t k nd s.1 s.2 y) F=cL (ev t k nd W M y) F:=fun t k y=>jN fun d b=>Df (keep d (f d b).1 (f d b).2.1).1 (keep d (f d b).1 (f d b).2.1).2;refine⟨⟨N.wl,N.ml,fun d b h0 o=>N.rw_ d ?_ h0 o⟩,keep,fun p r t k y J=>?_,fun t k x y J I hs d b h0 o=>?_⟩
  ·rcases b with b|⟨j,hj⟩
   ·exact .inl (.inl b)
   ·rcases q8.1 hj with hj|hj
    ·injection hj with _ hj;exact .inl (.inr hj)
    ·exact .inr ⟨j,hj⟩
  ·rcases q8.1 r with rfl|r
   ·dsimp only;rw[X];unfold Sat;rw[Ax _ l.nodup H,<-L,V,z,uy]
   ·exact r3 p r t k y J
  ·refine r4 t k x y J (fun d b h0 o=>?_) (fun p r=>hs p (qR _ r)) d ?_ h0 o
   ·by_cases g:d=c
    ·subst g;have G:=hs (i,d) (by simp);dsimp only at G;rw[X]at G;unfold Sat at G;rw[Ax _ l.nodup H,<-L,jN (y:=ev t k nd W M y) fun O m=>I O (f O m).1 (f O m).2.1 (f O m).2.2]at G;have h6:ev t k nd (W.set d.toNat (cM W (aN nd) F)) (M.set d.toNat (cM M e.2 F)) y d=Gf.mul t (aQ e.2 k)^^^cL (ev t k nd W M y) F:=by
      unfold ev;rw[E,B,if_pos rfl,if_pos rfl,ME S l.len l1 l2 t k y,fv _ _ nd fun j _=>cz _ _,wi];rfl
     rw[h6,<-G,uy]
    ·have m:D d:=b.elim id fun K=>absurd K g;rw[I d m h0 o];refine(Df ?_ ?_).symm
     ·rw[E,if_neg (by omega)]
     ·rw[B,if_neg (by omega)]
   ·rcases b with b|⟨j,hj⟩
    ·exact .inl (.inl b)
    ·rcases q8.1 hj with hj|hj
     ·injection hj with _ hj;exact .inl (.inr hj)
     ·exact .inr ⟨j,hj⟩
open Classical
def lQ(r:Row):Nat:=r.findIdx (fun x=>x !=0)
section
variable {n:Nat} {m M A:aS}
structure agc (n:Nat) (M A:aS):Prop where
 even:bg n M
 evenA:bg n A
 span:∀v,Span n M v↔Span n A v
 len:M.length=cR A
 lead:∀x∈M,lQ x<n
theorem aaw(a:bg n m):Way n m n (cR m) (bG m (fP m)).2:=by
 have h:=Hz a n (ql _);cases m with
 |nil=>rw[kT]at h;rw[cR,kT];exact h
 |cons x t=>
  have b:fP (x::t)=n:=by rw[fP,bv (by simp)];exact a _ (by simp)
  rw[cR,b];exact h
end
theorem NM:∀{l m:List Nat},l.Nodup->(∀x∈l,x∈m)->l.length<=m.length
 |[],_,_,_=>by simp
 |x::l,m,hd,h=>by
  rw[w6]at hd;have b:=h x (by simp);have d:=NM (l:=l) (m:=m.erase x) hd.2 fun y a=>(List.mem_erase_of_ne (fun c:y=x=>hd.1 (by rw[<-c];exact a))).2 (h y (by simp[a]));rw[List.length_erase_of_mem b]at d;have:=List.length_pos_of_mem b;simp;omega
def nF(nd i:Nat):Row:=(aN nd).set i 1
theorem aax(nd i:Nat):(nF nd i).length=nd:=by simp[nF,aN]
theorem aay{nd i:Nat}(a:i<nd)(j:Nat):aQ (nF nd i) j=if j=i then 1 else 0:=by
 rw[nF,MC (by simpa[aN]using a),cz]
theorem aaz{nd i:Nat}(a:i<nd)(y:Nat->UInt8):bF (fun j=>aQ (nF nd i) j) y nd=y i:=
 Hx _ _ i nd a fun j _=>by
  rw[aay a];by_cases h:j=i
  ·subst h;simp
  ·rw[if_neg h,if_neg (fun b=>h b.symm)]
def fF(n nd w:Nat)(dead:aC):aS×aS:=
 (dead.zipIdx).foldl (fun s p=>(s.1.set p.1.toNat (nF nd p.2),s.2.set p.1.toNat (aN w))) (qg n [],qg n [])
theorem Ku(n nd w:Nat)(d:aC)(c:Int):fF n nd w (d++[c])=((fF n nd w d).1.set c.toNat (nF nd d.length),(fF n nd w d).2.set c.toNat (aN w)):=by
 unfold fF;rw[List.zipIdx_append,List.foldl_append];simp
theorem MF{n nd w:Nat}{dead:aC}(h:∀c∈dead,0<=c/\c<(n:Int))(l:dead.Nodup):∀k,k<=dead.length->
  XX n nd w (·∈dead.take k) (fF n nd w (dead.take k)).1 (fF n nd w (dead.take k)).2/\∀i,(o:i<k)->(m:i<dead.length)->aA (fF n nd w (dead.take k)).1 dead[i].toNat=nF nd i/\aA (fF n nd w (dead.take k)).2 dead[i].toNat=aN w
 |0,_=>⟨⟨by simp[fF],by simp[fF],fun c b=>by simp at b⟩,fun i o=>by omega⟩
 |k+1,hk=>by
  obtain⟨j,m⟩:=MF (nd:=nd) (w:=w) h l k (by omega);have d:k<dead.length:=by omega
  have p:=h _ (qh d);have e:dead.take (k+1)=dead.take k++[dead[k]]:=zn d;have q:(dead.take k).length=k:=by simp;omega
  rw[e,Ku,q];have s:=j.wl;have t:=j.ml;refine⟨⟨by simp[s],by simp[t],fun c b h0 h3=>?_⟩,fun i o g=>?_⟩
  ·dsimp only;rw[kz,kz];by_cases a:dead[k].toNat=c.toNat
   ·rw[if_pos a,if_pos a];exact⟨aax _ _,by simp[aN]⟩
   ·rw[if_neg a,if_neg a];refine j.rw_ c ?_ h0 h3;rcases qA.1 b with b|b
    ·exact b
    ·rw[qG]at b;exact absurd (by rw[b]) a
  ·dsimp only;rw[kz,kz];by_cases f:i=k
   ·subst f;rw[if_pos rfl,if_pos rfl];exact⟨rfl,rfl⟩
   ·have u:dead[k]≠dead[i]:=fun r=>f ((List.getElem_inj l).1 r).symm;have:=h _ (qh g);rw[if_neg (by omega),if_neg (by omega)];exact m i (by omega) g
def gY(nd:Nat)(known:List Bool)(vals:aS)(s:aS×aS):aS×aS:=
 (s.1.mapIdx fun c r=>if known.getD c false then aN nd else r,s.2.mapIdx fun c r=>if known.getD c false then aA vals c else r)
theorem Dg{m:aS}{f:Nat->Row->Row}{c:Nat}(h:c<m.length):aA (m.mapIdx f) c=f c (aA m c):=by
 rw[bv (by simpa using h),bv h];simp
def gu(V:aS)(r:Row)(a:Row):Nat->Row
 |0=>a
 |c+1=>dl (aQ r c) (aA V c) (gu V r a c)
theorem kV{V:aS}{m:Nat}(r:Row){a:Row}(b:a.length=m):∀{c:Nat},(∀i,i<c->(aA V i).length=m)->(gu V r a c).length=m
 |0,_=>b
 |c+1,h=>by
  have:=kV r b (c:=c) fun i d=>h i (by omega);rw[gu,ci (by rw[h c (by omega),this])];exact this
theorem Jd{V:aS}{m:Nat}(r:Row){a:Row}(b:a.length=m)(j:Nat):∀{c:Nat},(∀i,i<c->(aA V i).length=m)->aQ (gu V r a c) j=aQ a j^^^bF (fun i=>aQ r i) (fun i=>aQ (aA V i) j) c
 |0,_=>by simp[gu,bF]
 |c+1,h=>by
  have d:=kV r b (c:=c) fun i e=>h i (by omega);rw[gu,cQ (by rw[h c (by omega),d]),Jd r b j (c:=c) fun i e=>h i (by omega),bF];ac_rfl
theorem QC{V:aS}{m:Nat}(r:Row){a:Row}(b:a.length=m)(y:Nat->UInt8)(n:Nat):∀{c:Nat},(∀i,i<c->(aA V i).length=m)->bF (fun j=>aQ (gu V r a c) j) y n=bF (fun j=>aQ a j) y n^^^bF (fun i=>aQ r i) (fun i=>bF (fun j=>aQ (aA V i) j) y n) c
 |0,_=>by simp[gu,bF]
 |c+1,h=>by
  have d:=kV r b (c:=c) fun i e=>h i (by omega);rw[gu,Jb (by rw[h c (by omega),d]),QC r b y n (c:=c) fun i e=>h i (by omega),bF];ac_rfl
theorem QD(f g a:Nat->UInt8):∀k,bF f (fun i=>g i^^^a i) k=bF f g k^^^bF f a k
 |0=>by simp[bF]
 |k+1=>by rw[bF,bF,bF,QD f g a k,Gf.jG];ac_rfl
theorem QE(t:UInt8)(f g:Nat->UInt8):∀k,bF f (fun i=>Gf.mul t (g i)) k=Gf.mul t (bF f g k)
 |0=>by simp[bF,Gf.mul_zero]
 |k+1=>by
  rw[bF,bF,QE t f g k,Gf.jG];congr 1;rw[<-Gf.mul_assoc,<-Gf.mul_assoc,Gf.mul_comm (f k) t]
theorem Dh{n:Nat}(g:Nat->UInt8):∀{l:aC},(∀x∈l,0<=x/\x<(n:Int))->l.Nodup->bF (fun j=>aQ (fL n l) j) g n=cL (fun c=>g c.toNat) l
 |[],_,_=>by
  rw[cL];refine fv _ _ n fun j _=>?_;rw[CZ [] (fun x a=>by cases a) j];simp
 |c::l,h,hd=>by
  rw[w6]at hd;have m:=h c (by simp);have k:=Dh g (l:=l) (fun x a=>h x (by simp[a])) hd.2;have e:bF (fun j=>aQ (fL n (c::l)) j) g n=bF (fun j=>if(j:Int)∈c::l then 1 else 0) g n:=fD n (fun j _=>CZ _ h j) fun _ _=>rfl;have d:bF (fun j=>aQ (fL n l) j) g n=bF (fun j=>if(j:Int)∈l then 1 else 0) g n:=fD n (fun j _=>CZ _ (fun x a=>h x (by simp[a])) j) fun _ _=>rfl;rw[e,cL,<-k,d];rw[IY (f:=fun j=>if(j:Int)∈l then 1 else 0) (f':=fun j=>if(j:Int)∈c::l then 1 else 0) (c:=c.toNat) (by rw[if_neg];rw[show((c.toNat:Nat):Int)=c by omega];exact hd.1) (fun i=>by
   by_cases b:i=c.toNat
   ·subst b;rw[if_pos rfl,if_pos];rw[show((c.toNat:Nat):Int)=c by omega];simp
   ·rw[if_neg b];have:(i:Int)≠c:=fun o=>b (by omega);simp[this]),if_pos (by omega)]
  ac_rfl
theorem kernel{nd:Nat}{a:aS}(U:bg nd a)(K:cR a<nd):∃y:Nat->UInt8,(∃i,i<nd/\y i≠0)/\∀r∈a,bF (fun j=>aQ r j) y nd=0:=by
 have w:=aaw U;obtain⟨M,V,ad,Q,Y,⟨p,Z,W,p3,S⟩,D⟩:=w;generalize hT:cR a=T at*;generalize (bG a (fP a)).2=rows at*;have v:∃j,j<nd/\∀i,i<T->p i≠j:=by
  have s:∀T nd:Nat,T<nd->∀p:Nat->Nat,(∀i,i<T->p i<nd)->∃j,j<nd/\∀i,i<T->p i≠j:=by
   intro T nd ah p X;by_cases f:∀j,j<nd->∃i,i<T/\p i=j
   ·exfalso;have G:∀j∈qE nd,j∈(qE T).map p:=fun j A=>by
     obtain⟨i,g,rfl⟩:=f j (qD.1 A);exact qq.2 ⟨i,qD.2 g,rfl⟩
    have:=NM yS G;simp at this;omega
   ·simp only[Classical.not_forall,not_exists,not_and]at f;obtain⟨j,A,h⟩:=f;exact⟨j,A,h⟩
  exact s T nd K p Z
 obtain⟨j,A,F⟩:=v;have I:∀i e,i<T->e<T->p i=p e->i=e:=fun i e q n h3=>by
  rcases Nat.lt_trichotomy i e with h|h|h
  ·have:=S i e h n;omega
  ·exact h
  ·have:=S e i h q;omega
 let y:Nat->UInt8:=fun c=>if c=j then 1 else cL (fun i=>if p i.toNat=c then aQ (aA rows i.toNat) j else 0) ((qE T).map fun i:Nat=>(i:Int))
 have hy:∀i,i<T->y (p i)=aQ (aA rows i) j:=fun i g=>by
  show(if p i=j then 1 else _)=_;rw[if_neg (F i g)];have O:((qE T).map fun i:Nat=>(i:Int)).Nodup:=by
   exact List.Pairwise.map _ (fun a b h u=>h (Int.ofNat_inj.1 u)) yS
  rw[Ax _ O (c:=(i:Int)) (qq.2 ⟨i,qD.2 g,rfl⟩),Fy,zU]
  ·simp
  ·intro c o;rw[qB]at o;obtain⟨e,t,rfl⟩:=qq.1 o.1;have J:e≠i:=fun u=>by subst u;simp at o
   rw[qo,if_neg fun u=>J (I e i (qD.1 t) g u)]
 have N:∀c,c≠j->(∀i,i<T->p i≠c)->y c=0:=fun c o X=>by
  show(if c=j then 1 else _)=_;rw[if_neg o,Fy];intro d hd;obtain⟨e,t,rfl⟩:=qq.1 hd;rw[qo,if_neg (X e (qD.1 t))]
 have E:y j=1:=by show(if j=j then 1 else _)=_;rw[if_pos rfl]
 refine⟨y,⟨j,A,by rw[E];decide⟩,fun r L=>?_⟩;refine Span.lin M (fun r=>bF (fun c=>aQ r c) y nd) (fv _ _ nd fun c _=>cz _ _) (fun c x z q n=>Jb (by omega) c y nd) (fun r K=>?_) ((Q r).2 (Span.row U L));obtain⟨k,P,rfl⟩:=fC K;by_cases l:k<T
 ·--the row's own beginning,and j
  have hf:∀c,c<nd->aQ (aA rows k) c=0∨y c=0∨c=p k∨c=j:=fun c o=>by
   by_cases q:c=j
   ·exact .inr (.inr (.inr q))
   ·by_cases n:∃i,i<T/\p i=c
    ·obtain⟨i,g,rfl⟩:=n;by_cases H:k=i
     ·subst H;exact .inr (.inr (.inl rfl))
     ·refine .inl ?_;rw[W i g k P,if_neg H]
    ·exact .inr (.inl (N c q fun i g u=>n ⟨i,g,u⟩))
  have R:=Z k l;have B:aQ (aA rows k) (p k)=1:=by rw[W k l k P,if_pos rfl]
  have J:p k≠j:=F k l;have s:∀m,m<=nd->bF (fun c=>aQ (aA rows k) c) y m=(if p k<m then aQ (aA rows k) j else 0)^^^(if j<m then aQ (aA rows k) j else 0):=by
   intro m
   induction m with
   |zero=>intro _;simp[bF]
   |succ m ih=>
    intro hm;rw[bF,ih (by omega)];by_cases q:m=p k
    ·have ab:m≠j:=by omega
     rw[q,B,Gf.one_mul,hy k l];rw[if_neg (Nat.lt_irrefl _),if_pos (Nat.lt_succ_self _)];by_cases h3:j<p k
     ·rw[if_pos h3,if_pos (by omega)];ac_rfl
     ·rw[if_neg h3,if_neg (by omega)];ac_rfl
    ·by_cases n:m=j
     ·rw[n,E,Gf.mul_one];rw[if_neg (Nat.lt_irrefl j),if_pos (Nat.lt_succ_self j),zU];by_cases h3:p k<j
      ·rw[if_pos h3,if_pos (by omega)]
      ·rw[if_neg h3,if_neg (by omega)]
     ·have hz:Gf.mul (aQ (aA rows k) m) (y m)=0:=by
       rcases hf m (by omega)with h|h|h|h
       ·rw[h,Gf.zero_mul]
       ·rw[h,Gf.mul_zero]
       ·exact absurd h q
       ·exact absurd h n
      rw[hz,zU];have a1:(p k<m+1)↔(p k<m):=by omega
      have a2:(j<m+1)↔(j<m):=by omega
      simp only[a1,a2]
  rw[s nd (ql _),if_pos R,if_pos A,kL]
 ·exact fv _ _ nd fun c o=>D k (by omega) P c o
def dm(n nd:Nat)(rest:List eZ)(W:aS)(left:aC)(ahead:aS):aS:=(left.map fun i=>cM W (aN nd) (rest.getD i.toNat ([],[])).1)++ahead.map fun r=>gu W r (aN nd) n
def fj(n w:Nat)(rest:List eZ)(M:aS)(left:aC)(ahead:aS):aS:=(left.map fun i=>cM M (rest.getD i.toNat ([],[])).2 (rest.getD i.toNat ([],[])).1)++ahead.map fun r=>gu M r (aN w) n
def uY(nd:Nat)(known:List Bool)(vals:aS)(W M D:aS):aS:=vals.mapIdx fun c r=>if known.getD c false then r else gu D (aA W c) (aA M c) nd
def dn(n:Nat)(l:List eZ)(ahead:aS):aS:=ahead++l.map fun e=>fL n e.1
def gU(w:Nat)(l:List eZ)(ahead:aS):aS:=qg ahead.length (aN w)++l.map zt
def at_(X:aS)(k:Nat)(c:Int):UInt8:=aQ (aA X c.toNat) k
section
variable {n w:Nat} {l:List eZ} {ahead:aS}
theorem Az(b:bg n ahead):bg n (dn n l ahead):=fun r a=>by
 rcases qA.1 a with a|a
 ·exact b r a
 ·obtain⟨e,_,rfl⟩:=qq.1 a;exact re _ _
theorem AA(b:∀e∈l,iy n w e):bg w (gU w l ahead):=fun r a=>by
 rcases qA.1 a with a|a
 ·rw[(wS.1 a).2];simp[aN]
 ·obtain⟨e,c,rfl⟩:=qq.1 a;exact(b e c).len
theorem uC:(dn n l ahead).length=(gU w l ahead).length:=by simp[dn,gU]
theorem Di(p:∀e∈l,iy n w e){X:aS}:fh n w (dn n l ahead) (gU w l ahead) X↔X.length=n/\bg w X/\∀k,k<w->(∀e∈l,Sat 1 k (at_ X k) e)/\∀r∈ahead,bF (fun j=>aQ r j) (fun c=>aQ (aA X c) k) n=0:=by
 unfold fh;refine⟨fun⟨h1,h2,h3⟩=>⟨h1,h2,fun k q=>⟨fun e h=>?_,fun r t=>?_⟩⟩,fun⟨h1,h2,h3⟩=>⟨h1,h2,fun i g=>?_⟩⟩
 ·obtain⟨i,g,rfl⟩:=qH h;have:=h3 (ahead.length+i) (by simp[dn];omega);have a:aA (dn n l ahead) (ahead.length+i)=fL n l[i].1:=by rw[bv (by simp[dn];omega)];simp[dn]
  have b:aA (gU w l ahead) (ahead.length+i)=l[i].2:=by rw[bv (by simp[gU];omega)];simp[gU]
  rw[a,b]at this;have m:=congrArg (fun r=>aQ r k) this;rw[gA h2 h1 _ k n (ql _),Dh _ (p _ h).cP (p _ h).nodup]at m;unfold Sat;rw[Gf.one_mul];exact m
 ·obtain⟨i,g,rfl⟩:=qH t;have:=h3 i (by simp[dn];omega);have a:aA (dn n l ahead) i=ahead[i]:=by rw[bv (by simp[dn];omega)];simp[dn,w9 g]
  have b:aA (gU w l ahead) i=aN w:=by rw[bv (by simp[gU];omega)];simp[gU,g]
  rw[a,b]at this;have m:=congrArg (fun r=>aQ r k) this;rw[gA h2 h1 _ k n (ql _),cz]at m;exact m
 ·have o:(aA (gU w l ahead) i).length=w:=cj (AA p) (by rw[<-uC (n:=n)];exact g);refine fB (n:=w) (ib h2 h1 _ n (ql _)) o fun k q=>?_;rw[gA h2 h1 _ k n (ql _)];simp only[dn,qx,qu]at g;by_cases f:i<ahead.length
  ·have a:aA (dn n l ahead) i=ahead[i]:=by rw[bv (by simp[dn];omega)];simp[dn,w9 f]
   have b:aA (gU w l ahead) i=aN w:=by rw[bv (by simp[gU];omega)];simp[gU,f]
   rw[a,b,cz];exact(h3 k q).2 _ (qh f)
  ·obtain⟨d,rfl⟩:∃d,i=ahead.length+d:=⟨i-ahead.length,by omega⟩
   have s:d<l.length:=by omega
   have a:aA (dn n l ahead) (ahead.length+d)=fL n l[d].1:=by rw[bv (by simp[dn];omega)];simp[dn]
   have b:aA (gU w l ahead) (ahead.length+d)=l[d].2:=by rw[bv (by simp[gU];omega)];simp[gU]
   have h:=p _ (qh s);rw[a,b,Dh _ h.cP h.nodup];have:=(h3 k q).1 _ (qh s);unfold Sat at this;rw[Gf.one_mul]at this;exact this
end
structure gq (n w:Nat) (l:List eZ) (ahead:aS) (known:List Bool) (vals:aS) (dead left:aC) (W M:aS):Prop where
 eqs:∀e∈l,iy n w e
 ahd:bg n ahead
 pinv:jo n w l known vals
 calm:jO known vals l=false
 deadR:∀c∈dead,0<=c/\c<(n:Int)
 deadN:dead.Nodup
 deadK:∀c∈dead,kn known c=false
 lens:W.length=n/\M.length=n/\∀c:Nat,c<n->(aA W c).length=dead.length/\(aA M c).length=w
 evKnown:∀t k y,∀c:Int,0<=c->c<(n:Int)->kn known c=true->ev t k dead.length W M y c=Gf.mul t (aQ (aA vals c.toNat) k)
 evDead:∀t k y,∀i,(h:i<dead.length)->ev t k dead.length W M y dead[i]=y i
 evRest:∀t k y,k<w->(∀i∈left,Sat t k (ev t k dead.length W M y) ((ba known vals l).getD i.toNat ([],[])))->∀e∈ba known vals l,Sat t k (ev t k dead.length W M y) e
 leftR:∀i∈left,0<=i/\i<((ba known vals l).length:Int)
 evAll:∀t k x,k<w->(∀c:Int,0<=c->c<(n:Int)->kn known c=true->x c=Gf.mul t (aQ (aA vals c.toNat) k))->(∀e∈ba known vals l,Sat t k x e)->∀c:Int,0<=c->c<(n:Int)->x c=ev t k dead.length W M (fun i=>x (dead.getD i 0)) c
section
variable {n w:Nat} {l:List eZ} {ahead:aS} {known:List Bool} {vals:aS} {dead left:aC} {W M:aS}
theorem oa(h:jo n w l known vals)(b:∀e∈l,iy n w e):∀e∈ba known vals l,iy n w e:=fun e c=>by
 obtain⟨d,a,rfl⟩:=qq.1 (qB.1 c).1;exact h.BM (b d a)
theorem Bd{a b:UInt8}:a^^^b=0↔a=b:=oS
theorem gq.QF(S:gq n w l ahead known vals dead left W M){i:Int}(o:i∈left)(t:UInt8)(k:Nat)(y:Nat->UInt8):
  bF (fun j=>aQ (cM W (aN dead.length) ((ba known vals l).getD i.toNat ([],[])).1) j) y dead.length=Gf.mul t (aQ (cM M ((ba known vals l).getD i.toNat ([],[])).2 ((ba known vals l).getD i.toNat ([],[])).1) k)↔Sat t k (ev t k dead.length W M y) ((ba known vals l).getD i.toNat ([],[])):=by
 have f:=S.leftR i o;have b:i.toNat<(ba known vals l).length:=by omega
 have h:(ba known vals l).getD i.toNat ([],[])=(ba known vals l)[i.toNat]:=by rw[qe,qd b];rfl
 have a:=oa S.pinv S.eqs _ (qh b);rw[h];generalize (ba known vals l)[i.toNat]=e at*;have m:(aN dead.length).length=dead.length:=by simp[aN]
 have p:∀c∈e.1,(aA W c.toNat).length=dead.length:=fun c d=>((S.lens.2.2 c.toNat) (by have:=a.cP c d;omega)).1;have g:∀c∈e.1,(aA M c.toNat).length=w:=fun c d=>((S.lens.2.2 c.toNat) (by have:=a.cP c d;omega)).2;have:=ME m a.len p g t k y;rw[fv _ _ dead.length fun j _=>cz _ _,wi]at this;rw[<-Bd,this];unfold Sat;rw[Bd];exact eq_comm
theorem gq.NO(S:gq n w l ahead known vals dead left W M)(r:Row)(t:UInt8)(k:Nat)(y:Nat->UInt8):
  bF (fun j=>aQ (gu W r (aN dead.length) n) j) y dead.length=Gf.mul t (aQ (gu M r (aN w) n) k)↔bF (fun j=>aQ r j) (fun c=>ev t k dead.length W M y (c:Int)) n=0:=by
 have e:=QC (V:=W) (m:=dead.length) r (a:=aN dead.length) (by simp[aN]) y dead.length (c:=n) fun i b=>(S.lens.2.2 i b).1;have d:=Jd (V:=M) (m:=w) r (a:=aN w) (by simp[aN]) k (c:=n) fun i b=>(S.lens.2.2 i b).2;rw[e,d,fv _ _ dead.length fun j _=>cz _ _,cz,wi,wi,<-Bd,<-QE,<-QD];have:(fun c:Nat=>ev t k dead.length W M y (c:Int))=fun i=>bF (fun j=>aQ (aA W i) j) y dead.length^^^Gf.mul t (aQ (aA M i) k):=by
  funext c;unfold ev;rw[qo]
 rw[this]
theorem gq.up(S:gq n w l ahead known vals dead left W M){t:UInt8}{k:Nat}{y:Nat->UInt8}(g:k<w)
  (f:∀i,i<(dm n dead.length (ba known vals l) W left ahead).length->bF (fun j=>aQ (aA (dm n dead.length (ba known vals l) W left ahead) i) j) y dead.length=Gf.mul t (aQ (aA (fj n w (ba known vals l) M left ahead) i) k)):
  (∀e∈l,Sat t k (ev t k dead.length W M y) e)/\∀r∈ahead,bF (fun j=>aQ r j) (fun c=>ev t k dead.length W M y (c:Int)) n=0:=by
 refine⟨(Qu S.pinv S.eqs S.calm g).2 ⟨fun c h0 p m=>S.evKnown t k y c h0 p m,S.evRest t k y g fun i h=>?_⟩,fun r o=>?_⟩
 ·obtain⟨j,d,rfl⟩:=qH h;have:=f j (by simp[dm];omega);have a:aA (dm n dead.length (ba known vals l) W left ahead) j=cM W (aN dead.length) ((ba known vals l).getD left[j].toNat ([],[])).1:=by
   rw[bv (by simp[dm];omega)];simp[dm,d]
  have b:aA (fj n w (ba known vals l) M left ahead) j=cM M ((ba known vals l).getD left[j].toNat ([],[])).2 ((ba known vals l).getD left[j].toNat ([],[])).1:=by
   rw[bv (by simp[fj];omega)];simp[fj,d]
  rw[a,b]at this;exact(S.QF h t k y).1 this
 ·obtain⟨j,d,rfl⟩:=qH o;have:=f (left.length+j) (by simp[dm];omega);have a:aA (dm n dead.length (ba known vals l) W left ahead) (left.length+j)=gu W ahead[j] (aN dead.length) n:=by
   rw[bv (by simp[dm];omega)];simp[dm]
  have b:aA (fj n w (ba known vals l) M left ahead) (left.length+j)=gu M ahead[j] (aN w) n:=by
   rw[bv (by simp[fj];omega)];simp[fj]
  rw[a,b]at this;exact(S.NO _ t k y).1 this
theorem gq.down(S:gq n w l ahead known vals dead left W M){t:UInt8}{k:Nat}{x:Int->UInt8}(p:k<w)(D:∀e∈l,Sat t k x e)(v:∀r∈ahead,bF (fun j=>aQ r j) (fun c=>x (c:Int)) n=0):
  (∀c:Int,0<=c->c<(n:Int)->x c=ev t k dead.length W M (fun i=>x (dead.getD i 0)) c)/\
  ∀i,i<(dm n dead.length (ba known vals l) W left ahead).length->bF (fun j=>aQ (aA (dm n dead.length (ba known vals l) W left ahead) i) j) (fun i=>x (dead.getD i 0)) dead.length=Gf.mul t (aQ (aA (fj n w (ba known vals l) M left ahead) i) k):=by
 obtain⟨B,q⟩:=(Qu S.pinv S.eqs S.calm p).1 D;have h:=S.evAll t k x p B q;refine⟨h,fun i A=>?_⟩;simp only[dm,qx,qu]at A;by_cases a:i<left.length
 ·have m:aA (dm n dead.length (ba known vals l) W left ahead) i=cM W (aN dead.length) ((ba known vals l).getD left[i].toNat ([],[])).1:=by
   rw[bv (by simp[dm];omega)];simp[dm,a]
  have o:aA (fj n w (ba known vals l) M left ahead) i=cM M ((ba known vals l).getD left[i].toNat ([],[])).2 ((ba known vals l).getD left[i].toNat ([],[])).1:=by
   rw[bv (by simp[fj];omega)];simp[fj,a]
  rw[m,o];refine(S.QF (qh a) t k _).2 ?_;have z:=S.leftR _ (qh a);have b:left[i].toNat<(ba known vals l).length:=by omega
  have y:(ba known vals l).getD left[i].toNat ([],[])=(ba known vals l)[left[i].toNat]:=by rw[qe,qd b];rfl
  rw[y];have s:=q _ (qh b);have f:=oa S.pinv S.eqs _ (qh b);unfold Sat at s⊢;rw[<-s];exact jN fun c g=>(h c (f.cP c g).1 (f.cP c g).2).symm
 ·obtain⟨d,rfl⟩:∃d,i=left.length+d:=⟨i-left.length,by omega⟩
  have u:d<ahead.length:=by omega
  have m:aA (dm n dead.length (ba known vals l) W left ahead) (left.length+d)=gu W ahead[d] (aN dead.length) n:=by
   rw[bv (by simp[dm];omega)];simp[dm]
  have o:aA (fj n w (ba known vals l) M left ahead) (left.length+d)=gu M ahead[d] (aN w) n:=by
   rw[bv (by simp[fj];omega)];simp[fj]
  rw[m,o];refine(S.NO _ t k _).2 ?_;rw[<-v _ (qh u)];exact fD n (fun _ _=>rfl) fun c g=>(h (c:Int) (by omega) (by omega)).symm
theorem oZ(S:gq n w l ahead known vals dead left W M):bg dead.length (dm n dead.length (ba known vals l) W left ahead)/\bg w (fj n w (ba known vals l) M left ahead):=by
 have d:∀i∈left,iy n w ((ba known vals l).getD i.toNat ([],[])):=fun i b=>by
  have g:=S.leftR i b;have e:i.toNat<(ba known vals l).length:=by omega
  rw[qe,qd e];exact oa S.pinv S.eqs _ (qh e)
 constructor
 ·intro r a;rcases qA.1 a with a|a
  ·obtain⟨i,b,rfl⟩:=qq.1 a;exact jn (by simp[aN]) fun c f=>((S.lens.2.2 c.toNat) (by have:=(d i b).cP c f;omega)).1
  ·obtain⟨x,h,rfl⟩:=qq.1 a;exact kV x (by simp[aN]) fun i b=>(S.lens.2.2 i b).1
 ·intro r a;rcases qA.1 a with a|a
  ·obtain⟨i,b,rfl⟩:=qq.1 a;exact jn (d i b).len fun c f=>((S.lens.2.2 c.toNat) (by have:=(d i b).cP c f;omega)).2
  ·obtain⟨x,h,rfl⟩:=qq.1 a;exact kV x (by simp[aN]) fun i b=>(S.lens.2.2 i b).2
theorem AB:(dm n dead.length (ba known vals l) W left ahead).length=(fj n w (ba known vals l) M left ahead).length:=by simp[dm,fj]
theorem gq.MD(S:gq n w l ahead known vals dead left W M)(K:1<=w)(d:cR (dn n l ahead)=n):cR (dm n dead.length (ba known vals l) W left ahead)=dead.length:=by
 obtain⟨G,Y⟩:=oZ S;have Q:=Ft G;by_cases D:cR (dm n dead.length (ba known vals l) W left ahead)<dead.length
 ·exfalso;obtain⟨y,⟨i,b,P⟩,I⟩:=kernel G D;have p:=S.up (t:=0) (k:=0) (y:=y) K fun i b=>by rw[I _ (mem_row b),Gf.zero_mul]
  have H:=Az (l:=l) S.ahd;have s:bg 1 (qg (dn n l ahead).length (aN 1)):=fun r d=>by rw[(wS.1 d).2];simp[aN]
  have f:(dn n l ahead).length=(qg (dn n l ahead).length (aN 1)).length:=by simp
  have U:fh n 1 (dn n l ahead) (qg (dn n l ahead).length (aN 1)) (qg n (aN 1)):=by
   have a:bg 1 (qg n (aN 1)):=fun r d=>by rw[(wS.1 d).2];simp[aN]
   refine⟨by simp,a,fun i b=>?_⟩;refine fB (n:=1) (ib a (by simp) _ n (ql _)) (cj s (by simpa using b)) fun k T=>?_;rw[gA a (by simp) _ k n (ql _)];have A:aA (qg (dn n l ahead).length (aN 1)) i=aN 1:=by rw[bv (by simpa using b)];simp
   rw[A,cz];have:∀g,g<=n->bF (fun j=>aQ (aA (dn n l ahead) i) j) (fun c=>aQ (aA (qg n (aN 1)) c) k) g=0:=by
    intro g
    induction g with
    |zero=>intro _;rfl
    |succ g ih=>
     intro J;have V:aA (qg n (aN 1)) g=aN 1:=by rw[bv (by simp;omega)];simp
     rw[bF,ih (by omega),V,cz,Gf.mul_zero];rfl
   exact this n (ql _)
  have L:fh n 1 (dn n l ahead) (qg (dn n l ahead).length (aN 1)) ((qE n).map fun c:Nat=>[ev 0 0 dead.length W M y (c:Int)]):=by
   have a:bg 1 ((qE n).map fun c:Nat=>[ev 0 0 dead.length W M y (c:Int)]):=fun r d=>by obtain⟨c,_,rfl⟩:=qq.1 d;rfl
   have q:∀c:Nat,c<n->aA ((qE n).map fun c:Nat=>[ev 0 0 dead.length W M y (c:Int)]) c=[ev 0 0 dead.length W M y (c:Int)]:=fun c h=>by rw[bv (by simpa using h)];simp
   refine⟨by simp,a,fun i b=>?_⟩;refine fB (n:=1) (ib a (by simp) _ n (ql _)) (cj s (by simpa using b)) fun k T=>?_;have v:k=0:=by omega
   subst v;rw[gA a (by simp) _ 0 n (ql _)];have A:aA (qg (dn n l ahead).length (aN 1)) i=aN 1:=by rw[bv (by simpa using b)];simp
   rw[A,cz];have R:bF (fun j=>aQ (aA (dn n l ahead) i) j) (fun c=>aQ (aA ((qE n).map fun c:Nat=>[ev 0 0 dead.length W M y (c:Int)]) c) 0) n=bF (fun j=>aQ (aA (dn n l ahead) i) j) (fun c=>ev 0 0 dead.length W M y (c:Int)) n:=
    fD n (fun _ _=>rfl) fun c h=>by rw[q c h];rfl
   rw[R];have E:aA (dn n l ahead) i∈ahead++l.map fun e=>fL n e.1:=mem_row b;obtain B|B:=qA.1 E
   ·exact p.2 _ B
   ·obtain⟨e,u,z⟩:=qq.1 B;rw[<-z,Dh _ (S.eqs e u).cP (S.eqs e u).nodup];have F:=p.1 e u;unfold Sat at F;rw[Gf.zero_mul]at F;refine Eq.trans (jN fun c h=>?_) F;have:=(S.eqs e u).cP c h;rw[show((c.toNat:Nat):Int)=c by omega]
  have N:=(kU f H s d U).1;have X:=(kU f H s d L).1;have x:=X.trans N.symm;have O:=S.deadR _ (qh b);have o:=congrArg (fun m=>aQ (aA m dead[i].toNat) 0) x;rw[bv (by simp;omega),bv (by simp;omega)]at o;simp only[List.getElem_map,List.getElem_range,List.getElem_replicate,cz]at o;rw[show((dead[i].toNat:Nat):Int)=dead[i]by omega]at o;have h8:aQ [ev 0 0 dead.length W M y dead[i]] 0=ev 0 0 dead.length W M y dead[i]:=rfl;rw[h8,S.evDead 0 0 y i b]at o;exact P o
 ·omega
theorem MG(S:gq n w l ahead known vals dead left W M){D:aS}(g:D.length=dead.length)(f:bg w D){c:Nat}(e:c<n):
  (aA (uY dead.length known vals W M D) c).length=w/\∀k,aQ (aA (uY dead.length known vals W M D) c) k=ev 1 k dead.length W M (fun i=>aQ (aA D i) k) (c:Int):=by
 have j:=S.pinv.vlen;have b:aA (uY dead.length known vals W M D) c=if known.getD c false then aA vals c else gu D (aA W c) (aA M c) dead.length:=by
  unfold uY;rw[Dg (by omega)]
 have d:=S.lens.2.2 c e;rw[b];cases hkn:known.getD c false with
 |true=>
  rw[if_pos rfl];refine⟨by have:=S.pinv.row c e;rw[hkn]at this;simpa using this,fun k=>?_⟩;have:=S.evKnown 1 k (fun i=>aQ (aA D i) k) (c:Int) (by omega) (by omega) (by unfold kn;rw[qo];exact hkn);rw[this,qo,Gf.one_mul]
 |false=>
  rw[if_neg (by simp)];have a:∀i,i<dead.length->(aA D i).length=w:=fun i h=>cj f;refine⟨kV _ d.2 a,fun k=>?_⟩;rw[Jd _ d.2 k a];unfold ev;rw[qo,Gf.one_mul,vF]
theorem adg(h:vals.length=n){D:aS}:(uY dead.length known vals W M D).length=n:=by simp[uY,h]
theorem gq.VD(S:gq n w l ahead known vals dead left W M){D:aS}(s:fh dead.length w (dm n dead.length (ba known vals l) W left ahead) (fj n w (ba known vals l) M left ahead) D):fh n w (dn n l ahead) (gU w l ahead) (uY dead.length known vals W M D):=by
 obtain⟨d,b,h⟩:=s;obtain⟨u,v⟩:=oZ S;have g:=adg (dead:=dead) (known:=known) (W:=W) (M:=M) S.pinv.vlen (D:=D);refine(Di S.eqs).2 ⟨g,fun r f=>?_,fun k o=>?_⟩
 ·obtain⟨c,a,rfl⟩:=fC f;exact(MG S d b (by omega)).1
 ·have j:=S.up (t:=1) (k:=k) (y:=fun i=>aQ (aA D i) k) o fun i q=>by
   have:=congrArg (fun r=>aQ r k) (h i q);rw[gA b d _ k dead.length (ql _)]at this;rw[this,Gf.one_mul]
  refine⟨fun e m=>?_,fun r f=>?_⟩
  ·have h3:=j.1 e m;unfold Sat at h3⊢;rw[<-h3];refine jN fun c a=>?_;have p:=(S.eqs e m).cP c a;unfold at_;rw[(MG S d b (show c.toNat<n by omega)).2 k,show((c.toNat:Nat):Int)=c by omega]
  ·rw[<-j.2 r f];exact fD n (fun _ _=>rfl) fun c a=>(MG S d b a).2 k
theorem gq.SH(S:gq n w l ahead known vals dead left W M){X:aS}(q:fh n w (dn n l ahead) (gU w l ahead) X):fh dead.length w (dm n dead.length (ba known vals l) W left ahead) (fj n w (ba known vals l) M left ahead) (dead.map fun c=>aA X c.toNat):=by
 obtain⟨s,p,g⟩:=(Di S.eqs).1 q;obtain⟨u,o⟩:=oZ S;have e:bg w (dead.map fun c=>aA X c.toNat):=fun r d=>by
  obtain⟨c,f,rfl⟩:=qq.1 d;have:=S.deadR c f;exact cj p
 have b:(dead.map fun c=>aA X c.toNat).length=dead.length:=by simp
 refine⟨b,e,fun i h=>fB (n:=w) (ib e b _ _ (ql _)) (cj o (by rw[<-AB (n:=n) (w:=w)];exact h)) fun k a=>?_⟩;rw[gA e b _ k dead.length (ql _)];have h3:=(S.down (t:=1) (x:=at_ X k) a (g k a).1 (fun r d=>by
  have:=(g k a).2 r d;rw[<-this];exact fD n (fun _ _=>rfl) fun c f=>by unfold at_;rw[qo])).2 i h
 rw[Gf.one_mul]at h3;rw[<-h3];refine fD _ (fun _ _=>rfl) fun j m=>?_;unfold at_;rw[bv (by simpa using m),qe,qd m];simp
end
def gQ(known:List Bool)(i:Nat):dJ:=((qE i).filter fun c=>known.getD c false).map fun c:Nat=>[(c:Int)]
theorem MH(known:List Bool)(i:Nat):gQ known (i+1)=gQ known i++if known.getD i false then[[(i:Int)]]else[]:=by
 unfold gQ;rw[List.range_succ,List.filter_append,List.map_append];cases h:known.getD i false<;>simp only[zr,h,List.filter_nil]<;>rfl
theorem DX(known:List Bool)(i:Nat):(gQ known i).length<=i:=by
 unfold gQ;rw[qu];exact q7 (qP _ _) (by simp)
def rowsOf(R:List eZ)(known:List Bool)(n:Nat):dJ:=R.map qJ++gQ known n
def gi(R:List eZ)(known:List Bool)(n:Nat):Pl:=dw n (rowsOf R known n)
def mJ(R:List eZ)(known:List Bool)(n:Nat):List (Int×Int):=(gi R known n).steps.filter fun x=>decide (x.1<R.length)
def leftOf(R:List eZ)(known:List Bool)(n:Nat):aC:=(fi (gi R known n).used (rowsOf R known n).length).filter fun x=>decide (x<R.length)
theorem AC{known:List Bool}{n:Nat}{r:aC}(h:r∈gQ known n):∃c:Nat,r=[(c:Int)]/\c<n/\known.getD c false=true:=by
 obtain⟨c,a,rfl⟩:=qq.1 h;rw[qB,qD]at a;exact⟨c,rfl,a.1,a.2⟩
theorem FG{rows:dJ}:∀{d:List (Int×Int)} {D U:Int->Prop},se rows D U d->∀i c,(i,c)∈d->(0<=i/\i<rows.length)/\c∈rows.getD i.toNat []
 |[],_,_,_,_,_,h=>by cases h
 |(i',c')::t,D,U,hg,i,c,h=>by
  obtain⟨g,_,_,e,_,f⟩:=hg;rcases q8.1 h with h|h
  ·injection h with a b;subst a;subst b;exact⟨g,e⟩
  ·exact FG f i c h
section
variable {n w:Nat} {l:List eZ} {ahead:aS} {known:List Bool} {vals:aS}
theorem uD(g:∀e∈ba known vals l,iy n w e):∀r∈rowsOf (ba known vals l) known n,∀c∈r,0<=c/\c<(n:Int):=fun r a c b=>by
 rcases qA.1 a with a|a
 ·obtain⟨e,f,rfl⟩:=qq.1 a;exact(g e f).cP c b
 ·obtain⟨d,rfl,h,_⟩:=AC a;rw[qG]at b;subst b;omega
theorem NP(h:∀e∈l,iy n w e)(f:jo n w l known vals):sf ((ba known vals l).map qJ) (·∈(gi (ba known vals l) known n).dead) (mJ (ba known vals l) known n):=by
 have o:=oa f h;obtain⟨_,_,_,_,_,g⟩:=uX (uD o);have:=Bc (R:=(ba known vals l).map qJ) (S:=gQ known n) (K:=fun c=>kn known c=true) (fun r b c a=>?_) (fun r b c a=>?_) g (D':=(·∈(gi (ba known vals l) known n).dead)) fun c _=>Iff.rfl
 ·rw[qu]at this;exact this
 ·obtain⟨e,i,rfl⟩:=qq.1 b;obtain⟨j,k,rfl⟩:=qq.1 (qB.1 i).1;rw[FA f j c a];simp
 ·obtain⟨d,rfl,_,m⟩:=AC b;rw[qG]at a;subst a;unfold kn;rw[qo];exact m
theorem Kv(k:∀e∈l,iy n w e)(m:jo n w l known vals):
  (∀c∈(gi (ba known vals l) known n).dead,0<=c/\c<(n:Int))/\(gi (ba known vals l) known n).dead.Nodup/\(∀c∈(gi (ba known vals l) known n).dead,kn known c=false)/\
  (∀i∈leftOf (ba known vals l) known n,0<=i/\i<((ba known vals l).length:Int))/\(gi (ba known vals l) known n).dead.length<=n:=by
 have o:=oa m k;obtain⟨r,q,a3,a4,a5,g⟩:=uX (uD o);refine⟨a3,a4,fun c h=>?_,fun i a=>?_,by unfold gi;omega⟩
 ·have b:=a3 c h;cases hk:kn known c with
  |false=>rfl
  |true=>
   exfalso;have f:[c]∈rowsOf (ba known vals l) known n:=qA.2 (.inr (qq.2 ⟨c.toNat,qB.2 ⟨qD.2 (by omega),hk⟩,by rw[show((c.toNat:Nat):Int)=c by omega]⟩));exact De f n (qg n true) (qg _ false) (fun i a=>by rw[FD]at a;cases a) (fun d p f=>by have:=a3 d f;omega) b.1 h
 ·unfold leftOf at a;rw[qB]at a;have:=a5 i a.1;have j:i<((ba known vals l).length:Int):=by simpa using a.2
  exact⟨this.1,j⟩
theorem aaA(m:∀e∈l,iy n w e)(s:jo n w l known vals){c:Int}(h0:0<=c)(t:c<(n:Int))(b:kn known c=false):c∈(gi (ba known vals l) known n).dead∨∃i,(i,c)∈mJ (ba known vals l) known n:=by
 have j:=oa s m;obtain⟨_,_,_,_,_,g⟩:=uX (uD j);have a:=FF (uD j) n (qg n true) (qg (rowsOf (ba known vals l) known n).length false) (by simp) (by simp) c.toNat (by rw[qe,qd (by simp;omega)];simp);rw[show((c.toNat:Nat):Int)=c by omega]at a;rcases a with a|⟨i,a⟩
 ·exact .inl a
 ·refine .inr ⟨i,qB.2 ⟨a,?_⟩⟩;obtain⟨r,h⟩:=FG g i c a;by_cases p:i<((ba known vals l).length:Int)
  ·simpa using p
  ·exfalso;have o:=r.2;rw[rowsOf,qx,qu]at o;have q:(rowsOf (ba known vals l) known n).getD i.toNat []∈gQ known n:=by
    rw[rowsOf,qe,qj (by rw[qu];omega),qd (by rw[qu];omega)];exact qh _
   obtain⟨d,k,_,f⟩:=AC q;rw[k,qG]at h;subst h;unfold kn at b;rw[qo,f]at b;cases b
def Pu(n w:Nat)(known:List Bool)(vals:aS)(R:List eZ):aS×aS:=
 gY (gi R known n).dead.length known vals ((mJ R known n).foldl (gE R (gi R known n).dead.length) (fF n (gi R known n).dead.length w (gi R known n).dead))
theorem aaB{nd:Nat}{s:aS×aS}{c:Int}(h0:0<=c)(b:c.toNat<s.1.length)(a:c.toNat<s.2.length):
  aA (gY nd known vals s).1 c.toNat=(if kn known c then aN nd else aA s.1 c.toNat)/\aA (gY nd known vals s).2 c.toNat=if kn known c then aA vals c.toNat else aA s.2 c.toNat:=by
 unfold gY kn;exact⟨Dg b,Dg a⟩
theorem aaC(E:∀e∈l,iy n w e)(hA:bg n ahead)(A:jo n w l known vals)(T:jO known vals l=false):
  gq n w l ahead known vals (gi (ba known vals l) known n).dead (leftOf (ba known vals l) known n) (Pu n w known vals (ba known vals l)).1 (Pu n w known vals (ba known vals l)).2:=by
 have L:=oa A E;have S:=NP E A;have a:=fun c h0 m o=>aaA (c:=c) E A h0 m o;obtain⟨G,M,P,f4,f5⟩:=Kv E A;have b:∀j:Nat,j<(ba known vals l).length->(∃c,((j:Int),c)∈mJ (ba known vals l) known n)∨(j:Int)∈leftOf (ba known vals l) known n:=fun j V=>by
  cases hu:(gi (ba known vals l) known n).used.getD j false with
  |true=>
   rcases FE n (qg n true) (qg _ false) j hu with h|⟨c,h⟩
   ·rw[FD]at h;cases h
   ·exact .inl ⟨c,qB.2 ⟨h,by simp;omega⟩⟩
  |false=>exact .inr (qB.2 ⟨(Dd _ _ _).2 ⟨j,rfl,by rw[rowsOf,qx,qu];omega,hu⟩,by simp;omega⟩)
 have s:∀e∈ba known vals l,∀c∈e.1,kn known c=false:=fun e z c N=>by
  obtain⟨e0,ab,rfl⟩:=qq.1 (qB.1 z).1;exact FA A e0 c N
 unfold Pu;obtain⟨R,f⟩:∃R,R=ba known vals l:=⟨_,rfl⟩
 rw[<-f]at L S G M P f4 f5 b a s⊢;obtain⟨D,X⟩:∃D,D=(gi R known n).dead:=⟨_,rfl⟩
 obtain⟨ST,r⟩:∃ST,ST=mJ R known n:=⟨_,rfl⟩
 rw[<-X,<-r]at S a;rw[<-r]at b;rw[<-X]at G M P f5;rw[<-X,<-r];obtain⟨dk,du⟩:=MF (nd:=D.length) (w:=w) G M D.length (ql _);rw[List.take_length]at dk du;obtain⟨u,keep,U,H⟩:=Jc L S dk;generalize ad:ST.foldl (gE R D.length) (fF n D.length w D)=S0 at*;have W:=u.wl;have Q:=u.ml;have fr:∀c:Int,0<=c->c<(n:Int)->aA (gY D.length known vals S0).1 c.toNat=(if kn known c then aN D.length else aA S0.1 c.toNat)/\aA (gY D.length known vals S0).2 c.toNat=if kn known c then aA vals c.toNat else aA S0.2 c.toNat:=fun c h0 m=>aaB h0 (by omega) (by omega)
 have v:∀t k y (c:Int),0<=c->c<(n:Int)->kn known c=false->ev t k D.length (gY D.length known vals S0).1 (gY D.length known vals S0).2 y c=ev t k D.length S0.1 S0.2 y c:=fun t k y c h0 m o=>by
  have:=fr c h0 m;rw[o]at this;exact Df this.1 this.2
 have J:∀t k y (c:Int),0<=c->c<(n:Int)->kn known c=true->ev t k D.length (gY D.length known vals S0).1 (gY D.length known vals S0).2 y c=Gf.mul t (aQ (aA vals c.toNat) k):=fun t k y c h0 m o=>by
  have:=fr c h0 m;rw[o,if_pos rfl,if_pos rfl]at this;unfold ev;rw[this.1,this.2,fv _ _ D.length fun j _=>cz _ _,wi]
 have F:∀t k y i,(h:i<D.length)->ev t k D.length (fF n D.length w D).1 (fF n D.length w D).2 y D[i]=y i:=fun t k y i h=>by
  have:=du i h h;unfold ev;rw[this.1,this.2,aaz h,cz,Gf.mul_zero,zU]
 have I:∀i:Int,0<=i->i<(R.length:Int)->R.getD i.toNat ([],[])∈R:=fun i h0 m=>by
  rw[qe,qd (by omega)];exact qh _
 refine⟨E,hA,A,T,G,M,P,⟨by simp[gY,W],by simp[gY,Q],fun c N=>?_⟩,J,fun t k y i h=>?_,fun t k y o K e z=>?_,by rw[<-f];exact f4,fun t k x o hx K c h0 m=>?_⟩
 ·have h:=fr (c:Int) (by omega) (by omega);rw[qo]at h;rw[h.1,h.2];cases o:kn known (c:Int)with
  |true=>
   rw[if_pos rfl,if_pos rfl];refine⟨by simp[aN],?_⟩;have:=A.Fz (c:=(c:Int)) (by omega) (by omega) o
   rwa [qo]at this
  |false=>
   rw[if_neg (by simp),if_neg (by simp)];have:=u.rw_ (c:Int) (a _ (by omega) (by omega) o) (by omega) (by omega)
   rwa [qo]at this
 ·have O:=G _ (qh h);rw[v t k y _ O.1 O.2 (P _ (qh h)),<-F t k y i h];exact Df (keep _ (qh h) O.1).1 (keep _ (qh h) O.1).2
 ·rw[<-f]at z K;obtain⟨j,V,rfl⟩:=qH z;have Y:R.getD ((j:Int)).toNat ([],[])=R[j]:=by rw[qo,qe,qd V];rfl
  rcases b j V with⟨c,N⟩|hlf
  ·have:=U _ N t k y o;dsimp only at this;rw[Y]at this;unfold Sat at this⊢;rw[<-this];exact jN fun d B=>v t k y d ((L _ z).cP d B).1 ((L _ z).cP d B).2 (s _ z d B)
  ·have:=K _ hlf
   rwa [Y]at this
 ·rw[<-f]at K;cases hkc:kn known c with
  |true=>rw[hx c h0 m hkc,J _ _ _ c h0 m hkc]
  |false=>
   rw[v _ _ _ c h0 m hkc];refine H t k x _ o (fun d B Z h3=>?_) (fun p hp=>?_) c (a c h0 m hkc) h0 m
   ·obtain⟨i,hi,rfl⟩:=qH B;rw[F t k _ i hi,qe,qd hi];rfl
   ·have q:p∈mJ R known n:=r▸hp;unfold mJ at q;rw[qB]at q;have Z:p.1<(R.length:Int):=by simpa using q.2
    have h3:0<=p.1:=by
     obtain⟨_,_,_,_,_,g⟩:=uX (rows:=rowsOf R known n) (n:=n) (by rw[f];exact uD (f▸L));exact(FG g p.1 p.2 q.1).1.1
    exact K _ (I _ h3 Z)
end
def uc(n:Nat)(seed:Int)(l:List (Int×Row)):List eZ:=l.map fun x=>(dj n seed x.1,x.2)
def rk(p:Int×Int×Int)(l:List (Int×Row)):aS:=qg p.2.1.toNat (aN p.2.2.toNat)++l.map zt
structure AD (p:Int×Int×Int) (x:Int×Row):Prop where
 id:bS x.1=true
 len:x.2.length=p.2.2.toNat
theorem adh{n:Nat}(d:1<=n)(c:n<=20)(seed id:Int):(dj n seed id).Pairwise (·<·):=by
 have a:=SC n seed id;have b:=CY d c seed id;rw[List.Nodup]at b;exact(a.and b).imp fun⟨d,c⟩=>by omega
section
variable {p:Int×Int×Int} {seed:Int} {l:List (Int×Row)} {n w:Nat}
theorem aeq(b:1<=n)(a:n<=20)(d:∀x∈l,AD p x)(h:p.2.2.toNat=w):∀e∈uc n seed l,iy n w e/\e.1.Pairwise (·<·):=fun e f=>by
 obtain⟨x,i,rfl⟩:=qq.1 f;exact⟨⟨fun c g=>ma b a g,CY b a seed x.1,by rw[<-h];exact(d x i).len⟩,adh b a seed x.1⟩
theorem VE(a:bL p=true)(b:(cg p).toNat=n)(c:∀x∈l,AD p x):dn n (uc n seed l) (bz p.1.toNat p.2.1.toNat)=dW p seed (l.map qJ):=by
 unfold dn dW uc;rw[if_pos a,b];have:(l.map qJ).filter bS=l.map qJ:=z6.2 fun i e=>by
  obtain⟨x,d,rfl⟩:=qq.1 e;exact(c x d).id
 rw[this,wR,wR];rfl
theorem VF(a:p.2.2.toNat=w):gU w (uc n seed l) (bz p.1.toNat p.2.1.toNat)=rk p l:=by
 unfold gU rk uc;rw[a,wR];simp[bz]
end
section
variable {n w:Nat} {l:List eZ} {ahead:aS} {known:List Bool} {vals:aS} {dead left:aC} {W M:aS}
theorem XY(a:∀e∈l,iy n w e)(d:bg n ahead)(j:jo n w l known vals)(b:jO known vals l=true)(h:cR (dn n l ahead)=n):¬km n (dn n l ahead) (gU w l ahead):=fun g=>by
 obtain⟨k,i,c⟩:=VB j a b;have f:=oT uC (Az d) (AA a) h g;exact c _ (((Di a).1 f).2.2 k i).1
theorem gq.Us(S:gq n w l ahead known vals dead left W M)(b:cR (dn n l ahead)=n){D:aS}(a:fh dead.length w (dm n dead.length (ba known vals l) W left ahead) (fj n w (ba known vals l) M left ahead) D):
  km n (dn n l ahead) (gU w l ahead)/\uY dead.length known vals W M D=fI n (dn n l ahead) (gU w l ahead):=by
 have h:=kU uC (Az S.ahd) (AA S.eqs) b (S.VD a);exact⟨h.2,h.1⟩
theorem gq.Ut(S:gq n w l ahead known vals dead left W M)(a:cR (dn n l ahead)=n)(b:km n (dn n l ahead) (gU w l ahead)):fh dead.length w (dm n dead.length (ba known vals l) W left ahead) (fj n w (ba known vals l) M left ahead) (dead.map fun c=>aA (fI n (dn n l ahead) (gU w l ahead)) c.toNat):=
 S.SH (oT uC (Az S.ahd) (AA S.eqs) a b)
theorem gq.VG(S:gq n w l ahead known vals dead left W M)(f:1<=w)(c:cR (dn n l ahead)=n):km dead.length (dm n dead.length (ba known vals l) W left ahead) (fj n w (ba known vals l) M left ahead)↔km n (dn n l ahead) (gU w l ahead):=by
 obtain⟨e,d⟩:=oZ S;have a:=S.MD f c;exact⟨fun b=>(S.Us c (oT AB e d a b)).1,fun b=>(kU AB e d a (S.Ut c b)).2⟩
theorem Kw{a b:aS}(h:a.length=b.length):fh 0 w a b []↔∀r∈b,r=aN w:=by
 unfold fh;constructor
 ·rintro⟨_,_,h3⟩ r c;obtain⟨i,e,rfl⟩:=fC c;exact(h3 i (by omega)).symm
 ·intro d;refine⟨rfl,fun r c=>(by cases c),fun i e=>?_⟩;have:aA b i∈b:=mem_row;rw[d _ this];rfl
theorem adi(b:∀e∈l,e.1.Pairwise (·<·)):∀e∈ba known vals l,e.1.Pairwise (·<·):=fun e c=>by
 obtain⟨d,a,rfl⟩:=qq.1 (qB.1 c).1;exact(b d a).filter _
theorem XZ:(ba known vals l).length<=l.length:=by
 unfold ba;refine q7 (qP _ _) ?_;simp
theorem Ya{m:Nat}(b:∀e∈l,e.1.length<=m):∀e∈ba known vals l,e.1.length<=m:=fun e c=>by
 obtain⟨d,a,rfl⟩:=qq.1 (qB.1 c).1;exact q7 (qP _ _) (b d a)
end
end Wl
namespace Go.Vc
open Go
section
variable {B:aB} {α:Type} {C:Ctx} {h0 h:Heap} {As:List HP} {e t t2 k by_:Nat} {s:Sl} {f:α->aW} {d:List α} {z:aW}
end
section
variable {C:Ctx} {t t2 e k:Nat} {z:aW} {by_:Nat} {α:Type} {h h0:Heap} {p q B:aB} {s v:Sl} {f:α->aW} {l l2:List α} {As:List HP}
end
section
variable {C:Ctx} {t e k:Nat} {z:aW} {by_:Nat} {h:Heap} {s:Sl}
theorem VH(c:C.Ok)(b:bW C.toBE t e k z by_)(n:Nat){x y:Int}(o:x=n)(i:y=n)(l:n<=s.cap){K:Sl->Heap->Prop}(d:K ⟨s.ptr,n,n⟩ h):
  az C.P (w7 t (.slice s.ptr s.len s.cap) none (some (xl xt x)) (some (xl xt y))) (.one (.sc .slc)) h K:=by
 subst o;subst i;have g:aF C.P (wx true s.len s.cap none (some (xl xt (n:Int))) (some (xl xt (n:Int)))) (0,n,n):=fun w=>by
  have j:¬((n:Int)<0):=by omega
  have x2:¬((s.cap:Int)<(n:Int)):=by omega
  have x3:(n:Int)<=(s.cap:Int):=by omega
  have f:(0:Int)<=(n:Int):=by omega
  simp[wx,Instr.sliceBound,asIntOf,j,x2,x3,f]
 unfold az w7;refine ag.bind (ag.always (aM (b.under c)) ?_);show ag C.P (xi t (.slice s.ptr s.len s.cap) none (some (xl xt (n:Int))) (some (xl xt (n:Int)))) h _;unfold xi;refine ag.bind (ag.always (aM (b.under c)) ?_);refine ag.bind (ag.always g ?_);refine ag.bind (ag.always (b.size c) ?_);have m:(if n=0 then s.ptr else s.ptr.map (·.add (0*k)))=s.ptr:=by
  split
  ·rfl
  ·cases s.ptr with
   |none=>rfl
   |some a=>simp[Addr.add]
 refine ag.pure' ⟨⟨s.ptr,n,n⟩,?_,d⟩;show Value.slice (if n=0 then s.ptr else s.ptr.map (·.add (0*k))) (n-0) (n-0)=_;rw[m];rfl
end
section
variable {α:Type}
def aca(x:ByteArray):List (ByteArray×α)->Option α
 |[]=>none
 |(k,u)::t=>if k=x then some u else aca x t
structure agd (h:Heap) (r:Nat) (g:α->Value) (kvs:List (ByteArray×α)):Prop where
 ex:∃es clock,h[r]?=some (.map es clock)/\es.toList.map (fun e=>(e.key,e.val))=kvs.map (fun p=>(Value.string p.1,g p.2))
variable {P:Program} {h h':Heap} {r:Nat} {g:α->Value} {kvs:List (ByteArray×α)}
end
section
variable {α:Type} {P:Program} {B:aB} {h0 h h':Heap} {As:List HP} {r:Nat} {g:α->Value} {kvs:List (ByteArray×α)}
end
section
variable {α:Type}
end
end Go.Vc
