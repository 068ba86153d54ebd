/- Lemmas for the proof of the law; no condition. -/
import Derived.Test.YtdibhfbogjngkaaGreatDoorPlG
set_option linter.unusedVariables false
set_option linter.unusedSimpArgs false
open Option renaming some -> dB
open Bool renaming true -> eL, false -> eR
open List renaming length -> ii
open List renaming all_eq_true -> qL, any_eq_false -> zW, any_eq_true -> zV, append_assoc -> qp, filter_cons -> zp, filter_eq_nil_iff -> wZ, filter_eq_self -> zT, find?_eq_none -> wT, findIdx_lt_length -> w4, flatMap_append -> zg, flatMap_cons -> zl, foldl_cons -> zy, forIn_cons -> xq, forIn_toArray -> vJ, getD_eq_getElem?_getD -> qe, getElem?_append_right -> qj, getElem?_cons_succ -> qu, getElem?_eq_getElem -> qd, getElem?_eq_none -> qZ, getElem?_map -> qR, getElem?_set -> qY, getElem_append_left -> yb, getElem_mem -> qg, getElem_of_mem -> qH, length_append -> qx, length_cons -> zo, length_filter_le -> qP, length_map -> qy, length_set -> zj, length_take -> qU, map_map -> yd, mem_append -> qz, mem_append_left -> wg, mem_cons -> zd, mem_cons_of_mem -> qS, mem_cons_self -> zb, mem_filter -> qI, mem_flatMap -> zJ, mem_map -> qw, mem_of_mem_take -> zD, mem_range -> qG, mem_replicate -> ye, mem_singleton -> qC, mem_take_iff_getElem -> yu, nodup_cons -> yD, nodup_range -> xi, pairwise_cons -> zF, pairwise_iff_getElem -> zw, range -> qE, range' -> zP, range'_succ -> yw, range_eq_range' -> yX, replicate -> qh, take_append_drop -> qA, take_succ_eq_append_getElem -> zI
open Bool renaming and_eq_true -> qB, false_eq_true -> ze, not_eq_true' -> ym, not_false -> yl, not_true -> yk, or_eq_true -> wV
open Nat renaming add_sub_cancel -> vj, le_refl -> qn, le_trans -> zi, lt_succ_iff_lt_or_eq -> zn, mul_comm -> vO, succ_mul -> zK, zero_add -> zQ
open UInt8 renaming xor_comm -> vt, xor_zero -> zX, zero_xor -> wF
open Int renaming toNat_natCast -> ql
open Prod renaming fst -> qJ, snd -> zH
open Go.Builtin renaming append_ -> qt
open Go.Value renaming int -> xH
open Go.IntKind renaming i64 -> xN
open Go.Instr renaming checkKey -> vP, findAsking -> yI, findKey -> vB, lookup -> xv, mapUpdate -> vk, sameBits -> xw, slice -> xo, sliceAt -> wW, sliceBounds -> we
open Option renaming map_some -> qQ
open Array renaming getElem?_setIfInBounds -> wD
namespace Wl
open Go Go.Vc
def cZ(n:Int):Nat:=
 if n=0 then 0 else
  let m:=n.natAbs;let e:=m.log2
  (if n<0 then 2^63 else 0)+(1023+e)*2^52+(m-2^e)*2^(52-e)
structure Fh where
 ax:Nat
 ay:Nat
 sx:Nat
 sy:Nat
 left:Int
 leg:Int
 second:Bool
def pM:Nat:=4607182418800017408
def fs0:Fh:=⟨0,0,pM,0,1,1,eR⟩
def oI(a b:Nat):Nat:=(gO.add a b).getD 0
def aiH(a b:Nat):Nat:=(gO.sub a b).getD 0
def uc(a b:Nat):Nat:=(gO.mul a b).getD 0
def tx(a b:Nat):Nat:=aiH (uc a 0) (uc b pM)
def ty(a b:Nat):Nat:=oI (uc a pM) (uc b 0)
def Fh.on(s:Fh):Fh:=
 if s.left-1>0 then{s with ax:=oI s.ax s.sx,ay:=oI s.ay s.sy,left:=s.left-1}
 else{ax:=oI s.ax s.sx,ay:=oI s.ay s.sy,sx:=tx s.sx s.sy,sy:=ty s.sx s.sy,leg:=if s.second then s.leg+1 else s.leg,left:=if s.second then s.leg+1 else s.leg,second:=!s.second}
def kN:Nat->Fh
 |0=>fs0
 |n+1=>(kN n).on
def Fh.ok(s:Fh):Bool:=
 (gO.add s.ax s.sx).isSome&&(gO.add s.ay s.sy).isSome&&(gO.mul s.sx 0).isSome&&(gO.mul s.sy pM).isSome&&(gO.sub (uc s.sx 0) (uc s.sy pM)).isSome&&(gO.mul s.sx pM).isSome&&(gO.mul s.sy 0).isSome&&(gO.add (uc s.sx pM) (uc s.sy 0)).isSome&&decide (1<=s.left)&&decide (s.left<=100)&&decide (1<=s.leg)&&decide (s.leg<=100)
structure SO where
 x:Int
 y:Int
 dx:Int
 dy:Int
 left:Int
 leg:Int
 turns:Int
def aiI:SO:=⟨0,0,1,0,1,1,0⟩
def SO.on(s:SO):SO:=
 if s.left-1=0 then
  {x:=s.x+s.dx,y:=s.y+s.dy,dx:=-s.dy,dy:=s.dx,leg:=if(s.turns+1)%2=0 then s.leg+1 else s.leg,left:=if(s.turns+1)%2=0 then s.leg+1 else s.leg,turns:=s.turns+1}
 else{s with x:=s.x+s.dx,y:=s.y+s.dy,left:=s.left-1}
def fY:Nat->SO
 |0=>aiI
 |n+1=>(fY n).on
def SO.ok(s:SO):Bool:=decide (-10<=s.x)&&decide (s.x<=10)&&decide (-10<=s.y)&&decide (s.y<=10)&&decide (-1<=s.dx)&&decide (s.dx<=1)&&decide (-1<=s.dy)&&decide (s.dy<=1)&&decide (1<=s.left)&&decide (s.left<=100)&&decide (1<=s.leg)&&decide (s.leg<=100)&&decide (0<=s.turns)&&decide (s.turns<=100)
theorem aio:∀n,n<64->(kN n).ok=eL:=j4
theorem agV:∀n,n<64->((kN n).ax==cZ (fY n).x&&(kN n).ay==cZ (fY n).y&&decide (-4<=(fY n).x)&&decide ((fY n).x<=4)&&decide (-4<=(fY n).y)&&decide ((fY n).y<=4))=eL:=j4
theorem agW:∀i,i<9->∀j,j<9->gO.sub (cZ ((i:Nat)-4:Int)) (cZ ((j:Nat)-4:Int))=dB (cZ ((i:Int)-(j:Int))):=j4
theorem agX:∀i,i<17->gO.mul (cZ ((i:Nat)-8:Int)) (cZ ((i:Nat)-8:Int))=dB (cZ (((i:Nat)-8:Int)*((i:Nat)-8:Int))):=j4
theorem agY:∀i,i<9->∀j,j<9->gO.add (cZ (((i:Nat):Int)*(i:Nat))) (cZ (((j:Nat):Int)*(j:Nat)))=dB (cZ (((i:Nat):Int)*(i:Nat)+((j:Nat):Int)*(j:Nat))):=j4
theorem aan:∀m,m<129->∀n,n<129->gO.order (cZ (m:Nat)) (cZ (n:Nat))=dB (compare m n):=j4
theorem Yb{seq a c:Int}{b:bc}(d:ii b<=48):dL (jW seq a c b)=none:=by unfold dL jW;rw[Bx i5 i5 l9];dsimp only;rw[g0 (by rintro⟨h,_⟩;exact absurd h i5)]
theorem mu{m:aI}{c:bc}(h:c∈bo m):dL c=none:=by unfold bo at h;obtain⟨i,_,rfl⟩:=qw.1 h;exact Yb i7
theorem PJ{α:Type}{R:α->α->Prop}(n:∀a b c,R a b->R b c->R a c){l:List α}(h:∀i (k:i+1<ii l),R (l[i]'(by omega)) l[i+1]):l.Pairwise R:=by
 have g:∀d i (f:i+(d+1)<ii l),R (l[i]'(by omega)) l[i+(d+1)]:=by
  intro d
  induction d with
  |zero=>exactλi f=>h i f
  |succ d ih=>exactλi f=>n _ _ _ (ih i i4) (h (i+(d+1)) i4)
 refine zw.2 λi j k f m=>?_;have:=g (j-i-1) i i4;have e:i+(j-i-1+1)=j:=i4
 simp only[e]at this;exact this
theorem PK{α:Type}{R:α->α->Prop}{l:List α}(h:l.Pairwise R)(i:Nat)(a:i+1<ii l):R (l[i]'(by omega)) l[i+1]:=zw.1 h i (i+1) i4 a i4
theorem fR{α:Type}{l:List α}{i:Nat}(d:α)(h:i<ii l:=by omega):l.getD i d=l[i]:=by rw[qe,qd h];rfl
theorem jX(n a b:Int):eW n a b=eL↔a<=n/\n<=b:=by unfold eW;rw[qB,decide_eq_true_eq,decide_eq_true_eq]
theorem aao(l:aF)(e:Int):pE l e=eL↔l.Pairwise (·<·)/\∀x∈l,0<=x/\x<=e:=by
 unfold pE;rw[qL];constructor
 ·intro h;have j:∀i (d:i<ii l),(0<=l[i]/\l[i]<=e)/\(i=0∨l.getD (i-1) 0<l[i]):=λi d=>by
   have:=h i (qG.2 d);unfold jE at this;rw[fR 0 d,qB,jX,wV,decide_eq_true_eq,decide_eq_true_eq]at this;exact this
  refine⟨PJ (R:=λa b:Int=>a<b) (λa b c g f=>Int.lt_trans g f) λi d=>?_,λx k=>?_⟩
  ·rcases(j (i+1) d).2 with h0|h0
   ·omega
   ·rw[vj,fR 0]at h0;exact h0
  ·obtain⟨i,d,rfl⟩:=qH k;exact(j i d).1
 ·rintro⟨g,f⟩ i d;have d:=qG.1 d;unfold jE;rw[fR 0 d,qB,jX,wV,decide_eq_true_eq,decide_eq_true_eq];refine⟨f _ (qg d),?_⟩;cases i with
  |zero=>exact .inl i0
  |succ i=>exact .inr (by rw[vj,fR 0];exact PK g i d)
theorem SP(a b c:ByteArray)(e:fb a b=eL)(d:fb b c=eL):fb a c=eL:=IW _ _ _ e d
theorem bU(m:aI):bO m=eL↔kR m=eL/\m.drives.Pairwise (·<·)/\(∀k∈m.drives,0<=k/\k<=63)/\m.aG.length<=12/\(∀e∈m.aG,gM m e=eL)/\m.aG.Pairwise (λa b=>fb a.name b.name=eL)/\m.aG.Pairwise (λa b=>a.object≠b.object):=by
 unfold bO;rw[qB,qB,qB,aao,decide_eq_true_eq,qL];have o:(∀i∈qE m.aG.length,pF m i=eL)↔(∀e∈m.aG,gM m e=eL)/\m.aG.Pairwise (λa b=>fb a.name b.name=eL)/\m.aG.Pairwise (λa b=>a.object≠b.object):=by
  constructor
  ·intro h;have q:∀i (l:i<m.aG.length),gM m m.aG[i]=eL/\(i=0∨fb (pD m.aG (i-1)).name m.aG[i].name=eL)/\∀y∈m.aG.take i,y.object≠m.aG[i].object:=λi l=>by
    have:=h i (qG.2 l);unfold pF at this;rw[oG l,qB,qB,wV,decide_eq_true_eq,ym,zW]at this;exact⟨this.1,this.2.1,λy p=>by have:=this.2.2 y p;simpa using this⟩
   refine⟨λe u=>?_,PJ (R:=λa b:cb=>fb a.name b.name=eL) (λa b c r n=>SP _ _ _ r n) λi l=>?_,zw.2 λi j l s t=>?_⟩
   ·obtain⟨i,l,rfl⟩:=qH u;exact(q i l).1
   ·rcases(q (i+1) l).2.1 with h0|h0
    ·omega
    ·rw[vj,oG]at h0;exact h0
   ·refine(q j s).2.2 m.aG[i] ?_;exact yu.2 ⟨i,i4,i0⟩
  ·rintro⟨r,n,h3⟩ i l;have l:=qG.1 l;unfold pF;rw[oG l,qB,qB,wV,decide_eq_true_eq,ym,zW];refine⟨r _ (qg l),?_,λy p=>?_⟩
   ·cases i with
    |zero=>exact .inl i0
    |succ i=>exact .inr (by rw[vj,oG];exact PK n i l)
   ·obtain⟨j,s,rfl⟩:=yu.1 p;have:=zw.1 h3 j i i4 l i4;simpa using this
 rw[o];constructor
 ·rintro⟨a,⟨b,c⟩,d,e,f,g⟩;exact⟨a,b,c,d,e,f,g⟩
 ·rintro⟨a,b,c,d,e,f,g⟩;exact⟨a,⟨b,c⟩,d,e,f,g⟩
theorem dE(m:aI):kR m=eL↔(1<=m.seq/\m.seq<=2147483647)/\(0<=m.next/\m.next<=16777216)/\bI m.p=eL/\0<=m.extra/\m.extra<=16:=by unfold kR;rw[qB,qB,qB,jX,jX,jX]
theorem gP(m:aI)(x:cb):gM m x=eL↔lP x.name=eL/\(0<=x.object/\x.object<m.next)/\(0<=x.length/\x.length<=m.p.1*m.p.2.2*8)/\(∀t∈x.tries,0<=t/\t<=15)/\(x.tries.length:Int)=countP m.p x.length:=by
 unfold gM;rw[qB,qB,qB,qB,jX,jX,qL,decide_eq_true_eq];simp only[jX];constructor
 ·rintro⟨a,b,c,d,e⟩;exact⟨a,⟨b.1,i4⟩,c,d,e⟩
 ·rintro⟨a,b,c,d,e⟩;exact⟨a,⟨b.1,i4⟩,c,d,e⟩
theorem nt{m:aI}(h:bO m=eL):m.drives.Nodup:=((bU m).1 h).2.1.imp λh e=>i4
theorem kE{m:aI}(h:bO m=eL):∀k∈m.drives,0<=k/\k<64:=λk a=>by have:=((bU m).1 h).2.2.1 k a;omega
theorem KC:∀{l:aF} {a b:Int},l.Pairwise (·<·)->(∀k∈l,a<=k/\k<b)->a<=b->(ii l:Int)<=b-a
 |[],a,b,_,_,h=>i7
 |x::l,a,b,hp,hl,h=>by
  obtain⟨e,d⟩:=zF.1 hp;have f:=hl x zb;have:=KC (a:=x+1) (b:=b) d (λk c=>⟨by have:=e k c;omega,(hl k (qS _ c)).2⟩) i4;rw[zo];omega
theorem gv{m:aI}(h:bO m=eL):ii m.drives<=64:=by have:=KC ((bU m).1 h).2.1 (kE h) i5;omega
theorem Vr(b:ByteArray):∀n i r,b.size-i=n->ByteArray.toList.loop b i r=r.reverse++b.data.toList.drop i:=by
 have c:ii b.data.toList=b.size:=rfl;intro n
 induction n with
 |zero=>
  intro i r h;rw[ByteArray.toList.loop,g0 i4,List.drop_eq_nil_of_le (by rw[c];omega),List.append_nil]
 |succ n ih=>
  intro i r h;have a:i<b.size:=i4
  rw[ByteArray.toList.loop,f9 a,ih (i+1) _ i4];have d:b.data.toList.drop i=b.get! i::b.data.toList.drop (i+1):=by rw[List.drop_eq_getElem_cons (by rw[c];exact a)];congr 1;show _=b.data[i]!;rw[getElem!_pos b.data i a,Array.getElem_toList]
  rw[d,List.reverse_cons,qp];rfl
theorem toList_eq(x:ByteArray):x.toList=x.data.toList:=by unfold ByteArray.toList;rw[Vr x _ 0 [] rfl];rfl
theorem Ej{a b:ByteArray}(h:a.toList=b.toList):a=b:=by rw[toList_eq,toList_eq]at h;cases a;cases b;congr;exact Array.toList_inj.1 h
abbrev fe:=aF×Row
def cN(x:Int->UInt8):aF->UInt8
 |[]=>0
 |c::l=>x c^^^cN x l
theorem kh{x y:Int->UInt8}:∀{l:aF},(∀c∈l,x c=y c)->cN x l=cN y l
 |[],_=>rfl
 |c::l,h=>by rw[cN,cN,h c i9,kh λd a=>h d l7]
theorem JF(x:Int->UInt8)(p:Int->Bool):∀l,cN x l=cN x (l.filter p)^^^cN x (l.filter λc=>!p c)
 |[]=>by simp[cN]
 |c::l=>by
  rw[cN,JF x p l];cases h:p c<;>simp only[zp,h,yk,yl,if_true,ze,if_false,cN]<;>ac_rfl
theorem BA(x:Int->UInt8){c:Int}:∀{l:aF},l.Nodup->c∈l->cN x l=x c^^^cN x (l.filter λd=>!decide (d=c))
 |[],_,h=>j6
 |d::l,hd,h=>by
  rw[yD]at hd;rcases zd.1 h with rfl|h
  ·have:l.filter (λd=>!decide (d=c))=l:=zT.2 λe f=>by
    have:e≠c:=λb=>hd.1 (b▸f);simp[this]
   rw[zp];simp only[decide_true,yk,ze,if_false];rw[this,cN]
  ·have a:d≠c:=λb=>hd.1 (b▸h);rw[zp,f9 l7,cN,cN,BA x hd.2 h];ac_rfl
theorem SQ(x y:Int->UInt8):∀l,cN (λc=>x c^^^y c) l=cN x l^^^cN y l
 |[]=>by simp[cN]
 |c::l=>by rw[cN,cN,cN,SQ x y l];ac_rfl
theorem GP:∀{x:Int->UInt8} {l:aF},(∀c∈l,x c=0)->cN x l=0
 |_,[],_=>rfl
 |x,c::l,h=>by rw[cN,h c i9,GP λd a=>h d l7];rfl
def cO(V:aQ)(a:Row)(l:aF):Row:=l.foldl (λa c=>cR 1 (aD V c.toNat) a) a
theorem jG{V:aQ}{m:Nat}:∀{l:aF} {a:Row},ii a=m->(∀c∈l,ii (aD V c.toNat)=m)->ii (cO V a l)=m
 |[],a,h,_=>h
 |c::l,a,h,hv=>by
  rw[cO,zy];exact jG (l:=l) (by rw[bT (by rw[hv c i9,h])];exact h) λd b=>hv d ns
theorem KD{V:aQ}{m:Nat}(j:Nat):∀{l:aF} {a:Row},ii a=m->(∀c∈l,ii (aD V c.toNat)=m)->aP (cO V a l) j=aP a j^^^cN (λc=>aP (aD V c.toNat) j) l
 |[],a,_,_=>by simp[cO,cN]
 |c::l,a,h,hv=>by
  have b:ii (aD V c.toNat)=ii a:=by rw[hv c i9,h]
  rw[cO,zy];have:=KD (V:=V) j (l:=l) (a:=cR 1 (aD V c.toNat) a) (by rw[bT b];exact h) λd e=>hv d o0;rw[cO]at this;rw[this,cG b,Gf.one_mul,cN];ac_rfl
def Sat(t:UInt8)(k:Nat)(x:Int->UInt8)(e:fe):Prop:=cN x e.1=Gf.mul t (aP e.2 k)
structure iF (n w:Nat) (e:fe):Prop where
 cS:∀c∈e.1,0<=c/\c<(n:Int)
 nodup:e.1.Nodup
 len:ii e.2=w
def kn(known:List Bool)(c:Int):Bool:=known.getD c.toNat eR
def fi(known:List Bool)(vals:aQ)(e:fe):fe:=(e.1.filter λc=>!kn known c,cO vals e.2 (e.1.filter λc=>kn known c))
structure jH (n w:Nat) (l:List fe) (known:List Bool) (vals:aQ):Prop where
 klen:ii known=n
 vlen:ii vals=n
 row:∀c:Nat,c<n->ii (aD vals c)=if known.getD c eR then w else 0
 sound:∀t k x,k<w->(∀e∈l,Sat t k x e)->∀c:Int,0<=c->c<(n:Int)->kn known c=eL->x c=Gf.mul t (aP (aD vals c.toNat) k)
section
variable {n w:Nat} {l:List fe} {known:List Bool} {vals:aQ}
theorem Yc(n w:Nat)(l:List fe):jH n w l (qh n eR) (qh n []):=by
 refine⟨i9,i9,λc b=>?_,λt k x e f c h0 d a=>?_⟩
 ·rw[bA k7];simp[qe,b]
 ·exfalso;rw[kn,qe,List.getElem?_replicate]at a;split at a<;>simp at a
theorem jH.GQ(h:jH n w l known vals){c:Int}(d:0<=c)(b:c<(n:Int))(a:kn known c=eL):ii (aD vals c.toNat)=w:=by have:=h.row c.toNat i4;rw[kn]at a;rw[a]at this;simpa using this
theorem jH.CQ(h:jH n w l known vals){e:fe}(b:iF n w e):iF n w (fi known vals e):=
 ⟨λc d=>b.cS c (qI.1 d).1,b.nodup.filter _,jG b.len λc d=>by
  have a:=qI.1 d;exact h.GQ (b.cS c a.1).1 (b.cS c a.1).2 a.2⟩
theorem jH.Jd(h:jH n w l known vals){e:fe}(d:iF n w e){t:UInt8}{k:Nat}{x:Int->UInt8}(o:∀c:Int,0<=c->c<(n:Int)->kn known c=eL->x c=Gf.mul t (aP (aD vals c.toNat) k)):
  Sat t k x (fi known vals e)↔Sat t k x e:=by
 have f:∀c∈e.1.filter λc=>kn known c,ii (aD vals c.toNat)=w:=λc g=>by
  have b:=qI.1 g;exact h.GQ (d.cS c b.1).1 (d.cS c b.1).2 b.2
 have j:cN x (e.1.filter λc=>kn known c)=Gf.mul t (cN (λc=>aP (aD vals c.toNat) k) (e.1.filter λc=>kn known c)):=by
  rw[kh (y:=λc=>Gf.mul t (aP (aD vals c.toNat) k)) λc g=>o c (d.cS c (qI.1 g).1).1 (d.cS c (qI.1 g).1).2 (qI.1 g).2];generalize e.1.filter (λc=>kn known c)=m
  induction m with
  |nil=>simp[cN,Gf.mul_zero]
  |cons a m ih=>rw[cN,cN,Gf.jV,ih]
 unfold Sat fi;dsimp only;rw[KD k d.len f,Gf.jV,<-j,JF x (λc=>kn known c) e.1];constructor
 ·intro i;rw[i];rw[vt,rZ]
 ·intro i;rw[<-i];rw[vt (cN x (e.1.filter λc=>kn known c)),rZ]
theorem agZ{known:List Bool}{c d:Int}(e:0<=c)(a:0<=d)(b:c<(ii known:Int)):kn (known.set c.toNat eL) d=(decide (d=c)||kn known d):=by
 unfold kn;rw[qe,qY];by_cases h:d=c
 ·subst h;rw[f9 i0,f9 i4];simp
 ·rw[g0 i4];simp[h]
theorem aap(h:jH n w l known vals)(o:∀e∈l,iF n w e){e:fe}(j:e∈l){c:Int}(p:(fi known vals e).1=[c]):jH n w l (known.set c.toNat eL) (vals.set c.toNat (fi known vals e).2):=by
 have b:=h.CQ (o e j);have g:=b.cS c (by rw[p];simp);have r:=h.vlen;have f:=h.klen;refine⟨nq,by simp[r],λd u=>?_,λt k x q i d h0 s m=>?_⟩
 ·rw[lh,qe,qY];by_cases a:c.toNat=d
  ·subst a;simp[show c.toNat<ii known by omega,b.len]
  ·rw[g0 a,g0 a,h.row d u,qe]
 ·rw[agZ g.1 h0 i4]at m;rw[lh];by_cases a:d=c
  ·subst a;rw[f9 rfl];have:=(h.Jd (o e j) (h.sound t k x q i)).2 (i e j);unfold Sat at this;rw[p]at this;simpa[cN]using this
  ·rw[g0 i4];exact h.sound t k x q i d h0 s (by simpa[a]using m)
theorem GR(h:jH n w l known vals)(e:fe):∀c∈(fi known vals e).1,kn known c=eR:=λc a=>by
 have:=(qI.1 a).2;simpa using this
def bh(known:List Bool)(vals:aQ)(l:List fe):List fe:=(l.map (fi known vals)).filter λe=>!e.1.isEmpty
def ki(known:List Bool)(vals:aQ)(l:List fe):Bool:=(l.map (fi known vals)).any λe=>e.1.isEmpty&&e.2.any (· !=0)
theorem SS(h:jH n w l known vals)(f:∀e∈l,iF n w e)(g:ki known vals l=eR){t:UInt8}{k:Nat}{x:Int->UInt8}(o:k<w):
  (∀e∈l,Sat t k x e)↔(∀c:Int,0<=c->c<(n:Int)->kn known c=eL->x c=Gf.mul t (aP (aD vals c.toNat) k))/\∀e∈bh known vals l,Sat t k x e:=by
 constructor
 ·intro i;refine⟨h.sound t k x o i,λe b=>?_⟩;obtain⟨m,d,rfl⟩:=qw.1 (qI.1 b).1;exact(h.Jd (f m d) (h.sound t k x o i)).2 (i m d)
 ·rintro⟨q,r⟩ e b;refine(h.Jd (f e b) q).1 ?_;by_cases a:(fi known vals e).1=[]
  ·unfold Sat;rw[a,cN];have j:((fi known vals e).1.isEmpty&&(fi known vals e).2.any (· !=0))=eR:=by have:=zW.1 g _ (List.mem_map_of_mem b);simpa using this
   rw[a]at j;have p:∀y∈(fi known vals e).2,y=0:=sb
   have h3:=(h.CQ (f e b)).len;have:aP (fi known vals e).2 k=0:=by rw[aP,qe,qd i4];exact p _ (qg _)
   rw[this,Gf.mul_zero]
  ·refine r _ (qI.2 ⟨List.mem_map_of_mem b,?_⟩);simpa using a
theorem Yd(h:jH n w l known vals)(i:∀e∈l,iF n w e)(d:ki known vals l=eL):∃k,k<w/\∀x:Int->UInt8,¬∀e∈l,Sat 1 k x e:=by
 obtain⟨y,o,f⟩:=zV.1 d;obtain⟨e,g,rfl⟩:=qw.1 o;rw[qB]at f;obtain⟨z,m,a⟩:=zV.1 f.2;obtain⟨k,p,rfl⟩:=qH m;have h3:=(h.CQ (i e g)).len;refine⟨k,i4,λx j=>?_⟩;have c:=(h.Jd (i e g) (h.sound 1 k x i4 j)).2 (j e g);unfold Sat at c;have b:(fi known vals e).1=[]:=by simpa using f.1
 rw[b,cN,Gf.one_mul,aP,qe,qd p]at c;simp at a;exact a c.symm
end
def jR(op:List Bool)(c:Int):Bool:=op.getD c.toNat eR
def cX(op:List Bool)(r:aF):aF:=r.filter (jR op)
def mD(rows:cV)(op us:List Bool)(i:Nat):Bool:=!(us.getD i eR)&&ii (cX op (rows.getD i []))==1
def mE(rows:cV)(op us:List Bool):Option Nat:=(qE rows.length).find? (mD rows op us)
def eT(rows:cV)(op:List Bool)(i:Nat):Int:=(cX op (rows.getD i [])).getLast?.getD 0
def kj(a:aF)(r:aF):aF:=r.foldl (λa c=>a.set c.toNat (a.getD c.toNat 0+1)) a
def li(g:Nat->aF->aF)(rows:cV)(us:List Bool)(a:aF):Nat->aF
 |0=>a
 |k+1=>if us.getD k eR then li g rows us a k else kj (li g rows us a k) (g k (rows.getD k []))
def iB(op:List Bool)(a:aF):Nat->Int
 |0=>-1
 |k+1=>if op.getD k eR&&(decide (iB op a k<0)||decide (a.getD k 0>a.getD (iB op a k).toNat 0))then(k:Int)else iB op a k
def gQ(rows:cV)(op us:List Bool):Int:=iB op (li (λ_ r=>r) rows us (qh op.length 0) rows.length) op.length
structure Pl where
 steps:List (Int×Int)
 dead:aF
 used:List Bool
def cB(rows:cV):Nat->List Bool->List Bool->Pl
 |0,_,us=>⟨[],[],us⟩
 |k+1,op,us=>
  if op.contains eL then
   match mE rows op us with
   |some i=>let r:=cB rows k (op.set (eT rows op i).toNat eR) (us.set i eL);⟨((i:Int),eT rows op i)::r.steps,r.dead,r.used⟩
   |none=>let r:=cB rows k (op.set (gQ rows op us).toNat eR) us;⟨r.steps,gQ rows op us::r.dead,r.used⟩
  else⟨[],[],us⟩
def fu(us:List Bool):Nat->aF
 |0=>[]
 |k+1=>if us.getD k eR then fu us k else fu us k++[(k:Int)]
def dz(n:Nat)(rows:cV):Pl:=cB rows n (qh n eL) (qh rows.length eR)
theorem aaq{P:Nat->Bool}{n:Nat}(h:∀j,j<n->P j=eR):(qE n).find? P=none:=by rw[wT];intro x a;rw[qG]at a;simp[h x a]
theorem aar{P:Nat->Bool}{n k:Nat}(f:k<n)(h:∀j,j<k->P j=eR)(d:P k=eL):(qE n).find? P=dB k:=by
 rw[List.find?_eq_some_iff_append];refine⟨d,qE k,zP (k+1) (n-k-1),?_,λa b=>?_⟩
 ·rw[yX,yX];have c:n=k+(n-k):=i4
  have e:n-k=(n-k-1)+1:=i4
  conv=>lhs;rw[c,<-List.range'_append_1 (s:=0) (m:=k) (n:=n-k)]
  rw[zQ]
  conv=>lhs;rw[e,yw]
 ·rw[qG]at b;simp[h a b]
theorem Vs(a r:aF)(c:Int):kj a (r++[c])=(kj a r).set c.toNat ((kj a r).getD c.toNat 0+1):=by simp[kj]
theorem Fi(b r:aF):ii (kj b r)=ii b:=by
 induction r generalizing b with
 |nil=>rfl
 |cons a t ih=>simp only[kj,zy]at*;rw[ih];simp
theorem Ek(g:Nat->aF->aF)(rows:cV)(us:List Bool)(a:aF):∀k,ii (li g rows us a k)=ii a
 |0=>rfl
 |k+1=>by
  unfold li;split
  ·exact Ek g rows us a k
  ·rw[Fi,Ek g rows us a k]
theorem GS{m:Int}:∀{r c:aF},(∀x∈c,0<=x/\x<=m)->∀x∈kj c r,0<=x/\x<=m+ii r
 |[],c,h,x,hx=>by have:=h x hx;simp;omega
 |a::t,c,h,x,hx=>by
  have d:∀y∈c.set a.toNat (c.getD a.toNat 0+1),0<=y/\y<=m+1:=by
   intro y b;rcases List.mem_or_eq_of_mem_set b with b|b
   ·have:=h y b;omega
   ·subst b;rw[qe];cases hc:c[a.toNat]? with
    |none=>
     rw[List.getElem?_eq_none_iff]at hc;rw[List.set_eq_of_length_le hc]at b;have:=h _ b;rw[qe,qZ hc]at this;simp at this⊢;omega
    |some z=>have:=h z (List.mem_of_getElem? hc);simp;omega
  have:=GS (r:=t) d x hx;simp only[zo];omega
theorem SU(g:Nat->aF->aF){rows:cV}{us:List Bool}{n:Nat}(a:∀k,ii (g k (rows.getD k []))<=64):∀k,∀x∈li g rows us (qh n 0) k,0<=x/\x<=64*k
 |0,x,hx=>by
  have:=List.eq_of_mem_replicate hx;subst this;simp
 |k+1,x,hx=>by
  unfold li at hx;split at hx
  ·have:=SU g a k x hx;omega
  ·have:=GS (SU g a k) x hx;have:=a k;omega
theorem PL(op:List Bool)(a:aF):∀k,(iB op a k=-1/\∀j,j<k->op.getD j eR=eR)∨(0<=iB op a k/\iB op a k<k/\op.getD (iB op a k).toNat eR=eL)
 |0=>.inl ⟨i0,λj c=>i4⟩
 |k+1=>by
  unfold iB;split
  ·rename_i b;simp only[qB]at b;exact .inr ⟨i4,i4,by rw[ql];exact b.1⟩
  ·rename_i b;rcases PL op a k with⟨e,h⟩|⟨h1,h2,h3⟩
   ·refine .inl ⟨e,λj c=>?_⟩;rcases zn.1 c with c|rfl
    ·exact h j c
    ·by_cases d:op.getD j eR=eL
     ·exact absurd (by rw[d,e];rfl) b
     ·simpa using d
   ·exact .inr ⟨h1,i4,h3⟩
theorem GU{op:List Bool}(h:op.contains eL=eL):∃j,j<ii op/\op.getD j eR=eL:=by simp only[List.contains_iff_mem]at h;obtain⟨j,a,e⟩:=qH h;exact⟨j,a,by rw[qe,qd a];exact e⟩
theorem sY{rows:cV}{op us:List Bool}(h:op.contains eL=eL):0<=gQ rows op us/\gQ rows op us<ii op/\op.getD (gQ rows op us).toNat eR=eL:=by
 obtain⟨j,a,e⟩:=GU h;rcases PL op (li (λ_ r=>r) rows us (qh op.length 0) rows.length) op.length with⟨_,h2⟩|h2
 ·rw[h2 j a]at e;cases e
 ·exact h2
theorem uJ{rows:cV}{op us:List Bool}{i:Nat}(h:mE rows op us=dB i):i<ii rows/\mD rows op us i=eL:=by have b:=List.mem_of_find?_eq_some h;have a:=List.find?_some h;exact⟨qG.1 b,a⟩
theorem El{rows:cV}{op us:List Bool}{i:Nat}(d:mD rows op us i=eL):cX op (rows.getD i [])=[eT rows op i]/\eT rows op i∈rows.getD i []/\jR op (eT rows op i)=eL:=by
 simp only[mD,qB,beq_iff_eq]at d;obtain⟨c,a⟩:=List.length_eq_one_iff.1 d.2;have e:eT rows op i=c:=by unfold eT;rw[a];rfl
 have b:c∈cX op (rows.getD i []):=by rw[a];simp
 rw[cX,qI]at b;rw[e];exact⟨a,b.1,b.2⟩
theorem kF{op:List Bool}{j:Nat}(h:op.getD j eR=eL):(op.set j eR).count eL+1=op.count eL:=by
 have a:j<ii op:=by
  by_cases a:j<ii op
  ·exact a
  ·rw[qe,qZ i4]at h;cases h
 have e:op[j]=eL:=by rw[qe,qd a]at h;exact h
 have b:0<op.count eL:=List.count_pos_iff.2 (e▸qg a);rw[List.count_set a,e];simp;omega
theorem SV{op:List Bool}(h:op.count eL=0):op.contains eL=eR:=by rw[List.count_eq_zero]at h;simpa using h
theorem BB{rows:cV}{op us:List Bool}(h:op.contains eL=eR):∀k,cB rows k op us=⟨[],[],us⟩
 |0=>rfl
 |k+1=>by unfold cB;rw[h];rfl
theorem oS{rows:cV}{op us:List Bool}{i k:Nat}(h:op.contains eL=eL)(a:mE rows op us=dB i):
  cB rows (k+1) op us=⟨((i:Int),eT rows op i)::(cB rows k (op.set (eT rows op i).toNat eR) (us.set i eL)).steps,(cB rows k (op.set (eT rows op i).toNat eR) (us.set i eL)).dead,(cB rows k (op.set (eT rows op i).toNat eR) (us.set i eL)).used⟩:=by
 rw[cB,h,a];rfl
theorem oT{rows:cV}{op us:List Bool}{k:Nat}(h:op.contains eL=eL)(a:mE rows op us=none):
  cB rows (k+1) op us=⟨(cB rows k (op.set (gQ rows op us).toNat eR) us).steps,gQ rows op us::(cB rows k (op.set (gQ rows op us).toNat eR) us).dead,(cB rows k (op.set (gQ rows op us).toNat eR) us).used⟩:=by
 rw[cB,h,a];rfl
theorem ud(rows:cV):∀k op us,(cB rows k op us).used.length=ii us
 |0,_,_=>rfl
 |k+1,op,us=>by
  unfold cB;split
  ·split
   ·show(cB rows k _ _).used.length=_;rw[ud];simp
   ·show(cB rows k _ _).used.length=_;rw[ud]
  ·rfl
theorem Je(us:List Bool):∀k,ii (fu us k)<=k
 |0=>by simp[fu]
 |k+1=>by
  have:=Je us k;unfold fu;split<;>simp<;>omega
theorem uq{op:List Bool}{f:Nat}(h:op.count eL=f+1):op.contains eL=eL:=by
 have:0<op.count eL:=i4
 rw[List.count_pos_iff]at this;simpa using this
theorem Vt{P:Nat->Bool}{n j:Nat}(a:j<n)(h:P j=eL):∃i,(qE n).find? P=dB i:=by
 cases hf:(qE n).find? P with
 |some i=>exact⟨i,i0⟩
 |none=>
  rw[wT]at hf;exact absurd h (hf j (qG.2 a))
theorem jm(l:List Bool)(i j:Nat)(x:Bool):(l.set i x).getD j eR=if i=j/\j<ii l then x else l.getD j eR:=by
 simp only[qe,qY];by_cases h:i=j
 ·subst h;by_cases a:i<ii l<;>simp[a]
 ·simp[h]
def Ag(rows:cV)(op us:List Bool):Prop:=∀i,us.getD i eR=eL->cX op (rows.getD i [])=[]
theorem nu{op:List Bool}{c d:Int}(h:jR (op.set d.toNat eR) c=eL):jR op c=eL/\c.toNat≠d.toNat:=by
 unfold jR at*;rw[jm]at h;by_cases e:d.toNat=c.toNat
 ·rw[f9]at h
  ·cases h
  ·refine⟨e,?_⟩;by_cases b:c.toNat<ii op
   ·exact b
   ·rw[g0 λa=>b a.2,qe,qZ i4]at h;cases h
 ·rw[g0 λa=>e a.1]at h;exact⟨h,λa=>e a.symm⟩
theorem aas{rows:cV}{op us:List Bool}{i:Nat}(g:Ag rows op us)(h:mD rows op us i=eL):Ag rows (op.set (eT rows op i).toNat eR) (us.set i eL):=by
 obtain⟨k,n,h3⟩:=El h;intro j f;rw[jm]at f;rw[cX,wZ];intro c l d;obtain⟨d,b⟩:=nu d;have a:c∈cX op (rows.getD j []):=by rw[cX,qI];exact⟨l,d⟩
 by_cases e:i=j
 ·subst e;rw[k]at a;simp at a;exact b (by rw[a])
 ·rw[g0 λm=>e m.1]at f;rw[g j f]at a;simp at a
theorem GV(n j:Nat):(qh n eR).getD j eR=eR:=by
 rw[qe];by_cases h:j<n
 ·rw[qd j5];simp
 ·rw[qZ j5];rfl
theorem aha{rows:cV}{r:aF}(h:r∈rows):∃j,j<ii rows/\rows.getD j []=r:=by obtain⟨j,a,e⟩:=qH h;exact⟨j,a,by rw[qe,qd a];exact e⟩
def other(m i:Nat):Nat:=if i<m then i else i+1
def sZ(rows:cV):(Int->Prop)->(Int->Prop)->List (Int×Int)->Prop
 |_,_,[]=>True
 |D,U,(i,c)::t=>(0<=i/\i<ii rows)/\¬U i/\¬D c/\c∈rows.getD i.toNat []/\(∀a∈rows.getD i.toNat [],a≠c->D a)/\sZ rows (λx=>D x∨x=c) (λx=>U x∨x=i) t
def aiJ(op:List Bool)(c:Int):Prop:=0<=c/\jR op c=eL
theorem aat{op:List Bool}{c:Int}(h:jR op c=eL):c.toNat<ii op:=by
 by_cases a:c.toNat<ii op
 ·exact a
 ·unfold jR at h;rw[qe,qZ i4]at h;cases h
theorem WZ{op:List Bool}{c d:Int}(e:0<=c)(b:0<=d):jR op c=eL->c≠d->jR (op.set d.toNat eR) c=eL:=by intro h a;unfold jR;rw[jm,g0 λf=>a i4];exact h
theorem uK{op:List Bool}{d:Int}(h:jR op d=eL):jR (op.set d.toNat eR) d=eR:=by unfold jR;rw[jm,f9 ⟨i0,aat h⟩]
structure aip (rows:cV) (op us:List Bool) (r:Pl):Prop where
 cS:ii r.steps+ii r.dead=op.count eL
 used:r.used.count eL=us.count eL+ii r.steps
 keepU:∀i,us.getD i eR=eL->r.used.getD i eR=eL
 dead:∀c∈r.dead,aiJ op c
 deadN:r.dead.Nodup
 good:∀D U:Int->Prop,(∀c:Int,0<=c->c<ii op->(D c↔jR op c=eR∨c∈r.dead))->(∀i:Nat,i<ii rows->(U i↔us.getD i eR=eL∨r.used.getD i eR=eR))->sZ rows D U r.steps
theorem acZ{us:List Bool}{i:Nat}(h:us.getD i eR=eR)(a:i<ii us):(us.set i eL).count eL=us.count eL+1:=by
 have e:us[i]=eR:=by rw[qe,qd a]at h;exact h
 rw[List.count_set a,e];simp
theorem SX{rows:cV}{n:Nat}(b:∀r∈rows,∀c∈r,0<=c/\c<n):∀k op us,ii op=n->ii us=ii rows->op.count eL=k->aip rows op us (cB rows k op us)
 |0,op,us,hl,hul,hc=>⟨by simp[cB,hc],by simp[cB],λi h=>h,λc h=>by simp[cB]at h,by simp[cB],λ_ _ _ _=>trivial⟩
 |k+1,op,us,hl,hul,hc=>by
  have q:=uq hc;cases hst:mE rows op us with
  |some i=>
   obtain⟨g,s⟩:=uJ hst;obtain⟨L,H,h3⟩:=El s;have f:rows.getD i []=rows[i]:=by rw[qe,qd g];rfl
   have x:=b _ (qg g) _ (f▸H);have F:=kF (op:=op) (j:=(eT rows op i).toNat) h3;have w:us.getD i eR=eR:=by simp only[mD,qB,ym]at s;exact s.1
   have N:=acZ w i4;have a:=SX b k (op.set (eT rows op i).toNat eR) (us.set i eL) (by simp[hl]) (by simp[hul]) i4;rw[oS q hst];generalize cB rows k (op.set (eT rows op i).toNat eR) (us.set i eL)=r at a;generalize J:eT rows op i=c at*;have G:r.used.getD i eR=eL:=a.keepU i (by rw[jm,f9 ⟨i0,i4⟩]);have p:c∉r.dead:=λh=>by
    have:=(a.dead c h).2;rw[uK h3]at this;cases this
   refine⟨by simp only[zo];have:=a.cS;omega,by simp only[zo];have:=a.used;omega,λj B=>a.keepU j (by rw[jm];split;rfl;exact B),λd t=>⟨(a.dead d t).1,(nu (a.dead d t).2).1⟩,a.deadN,λD U v y=>?_⟩;have o:rows.getD ((i:Int)).toNat []=rows.getD i []:=by rw[ql]
   refine⟨i4,?_,?_,by rw[o];exact H,?_,?_⟩
   ·rw[y i g,w,G];simp
   ·rw[v c x.1 i4,h3];simp[p]
   ·intro A u z;rw[o]at u;have E:=b _ (qg g) _ (f▸u);refine(v A E.1 i4).2 (.inl ?_);cases ho:jR op A with
    |false=>rfl
    |true=>
     have:A∈cX op (rows.getD i []):=by rw[cX,qI];exact⟨u,ho⟩
     rw[L]at this;simp at this;exact absurd this z
   ·refine a.good _ _ (λd l m=>?_) (λj B=>?_)
    ·simp only[zj]at m;rw[v d l m];by_cases e:d=c
     ·subst e;simp[uK h3]
     ·cases ho:jR op d with
      |true=>rw[WZ l x.1 ho e];simp[e]
      |false=>
       have:jR (op.set c.toNat eR) d=eR:=by
        cases hh:jR (op.set c.toNat eR) d with
        |false=>rfl
        |true=>rw[(nu hh).1]at ho;cases ho
       rw[this];simp
    ·rw[y j B,jm];by_cases e:i=j
     ·subst e;simp[hul,g]
     ·have M:¬((j:Int)=(i:Int)):=λh=>e i4;simp[e,M]
  |none=>
   obtain⟨K,O,I⟩:=sY (rows:=rows) (us:=us) q;have F:=kF (op:=op) (j:=(gQ rows op us).toNat) I;have a:=SX b k (op.set (gQ rows op us).toNat eR) us (by simp[hl]) hul i4;rw[oT q hst];generalize cB rows k (op.set (gQ rows op us).toNat eR) us=r at a;generalize gQ rows op us=c at*;have h3:jR op c=eL:=I;have p:c∉r.dead:=λh=>by
    have:=(a.dead c h).2;rw[uK h3]at this;cases this
   refine⟨by simp only[zo];have:=a.cS;omega,a.used,a.keepU,λd t=>?_,by simp only[yD];exact⟨p,a.deadN⟩,λD U v y=>?_⟩
   ·rcases zd.1 t with rfl|t
    ·exact⟨K,h3⟩
    ·exact⟨(a.dead d t).1,(nu (a.dead d t).2).1⟩
   ·refine a.good D U (λd l m=>?_) y;simp only[zj]at m;rw[v d l m];by_cases e:d=c
    ·subst e;simp[uK h3]
    ·have:jR (op.set c.toNat eR) d=jR op d:=by
      cases ho:jR op d with
      |true=>exact WZ l K ho e
      |false=>
       cases hh:jR (op.set c.toNat eR) d with
       |false=>rfl
       |true=>rw[(nu hh).1]at ho;cases ho
     rw[this];simp[e]
theorem Em(us:List Bool):∀k (c:Int),c∈fu us k↔∃j:Nat,c=j/\j<k/\us.getD j eR=eR
 |0,c=>by simp[fu]
 |k+1,c=>by
  have e:=Em us k c;unfold fu;cases h:us.getD k eR with
  |true=>
   simp only[if_true];rw[e];constructor
   ·rintro⟨j,a,b,d⟩;exact⟨j,a,i4,d⟩
   ·rintro⟨j,a,b,d⟩;refine⟨j,a,?_,d⟩;rcases zn.1 b with b|rfl
    ·exact b
    ·rw[h]at d;cases d
  |false=>
   simp only[ze,if_false,qz,qC];rw[e];constructor
   ·rintro(⟨j,a,b,d⟩|rfl)
    ·exact⟨j,a,i4,d⟩
    ·exact⟨k,i0,i4,h⟩
   ·rintro⟨j,a,b,d⟩;rcases zn.1 b with b|rfl
    ·exact .inl ⟨j,a,b,d⟩
    ·exact .inr a
theorem SY(us:List Bool):∀k,k<=ii us->ii (fu us k)+(us.take k).count eL=k
 |0,_=>by simp[fu]
 |k+1,hk=>by
  have a:=SY us k i4;have e:us.getD k eR=us[k]:=by rw[qe,qd i4];rfl
  unfold fu;rw[zI i4,List.count_append,e];cases us[k]<;>simp<;>omega
theorem Ah{rows:cV}{n:Nat}(a:∀r∈rows,∀c∈r,0<=c/\c<n):
  (dz n rows).steps.length+(dz n rows).dead.length=n/\(dz n rows).steps.length+ii (fu (dz n rows).used rows.length)=ii rows/\(∀c∈(dz n rows).dead,0<=c/\c<n)/\(dz n rows).dead.Nodup/\
  (∀c∈fu (dz n rows).used rows.length,0<=c/\c<ii rows)/\sZ rows (·∈(dz n rows).dead) (·∈fu (dz n rows).used rows.length) (dz n rows).steps:=by
 have h:=SX a n (qh n eL) (qh rows.length eR) i9 i9 i9;have p:(dz n rows).used.length=ii rows:=by unfold dz;rw[ud];simp
 have d:=SY (dz n rows).used rows.length i4;rw[List.take_of_length_le i4]at d;refine⟨by have:=h.cS;simpa[dz]using this,?_,λc b=>?_,h.deadN,λc b=>?_,?_⟩
 ·have:=h.used;have k:(qh rows.length eR).count eL=0:=by simp[List.count_replicate]
  rw[k]at this;unfold dz at*;omega
 ·obtain⟨h0,g⟩:=h.dead c b;have:=aat g;simp at this;omega
 ·obtain⟨j,rfl,f,_⟩:=(Em _ _ _).1 b;omega
 ·refine h.good _ _ (λc l e=>?_) (λi m=>?_)
  ·have:jR (qh n eL) c=eL:=by simp at e;unfold jR;rw[qe,qd i7];simp
   rw[this];simp[dz]
  ·rw[GV,Em];constructor
   ·rintro⟨j,f,_,o⟩;have:j=i:=i4
    subst this;exact .inr o
   ·rintro(hh|hh)
    ·cases hh
    ·exact⟨i,i0,m,hh⟩
theorem GW{rows:cV}:∀k op us i,(cB rows k op us).used.getD i eR=eL->us.getD i eR=eL∨∃c,((i:Int),c)∈(cB rows k op us).steps
 |0,_,_,_,h=>.inl h
 |k+1,op,us,i,h=>by
  by_cases a:op.contains eL=eL
  ·cases hst:mE rows op us with
   |some j=>
    rw[oS a hst]at h⊢;dsimp only at h⊢;rcases GW k _ _ i h with h1|⟨c,hc⟩
    ·rw[jm]at h1;by_cases b:j=i
     ·subst b;exact .inr ⟨_,zb⟩
     ·rw[g0 λd=>b d.1]at h1;exact .inl h1
    ·exact .inr ⟨c,qS _ hc⟩
   |none=>
    rw[oT a hst]at h⊢;exact GW k _ _ i h
  ·have a:op.contains eL=eR:=j7
   rw[BB a]at h⊢;exact .inl h
theorem GX{rows:cV}{n:Nat}(a:∀r∈rows,∀c∈r,0<=c/\c<(n:Int)):∀k op us,ii op=n->op.count eL=k->∀c:Nat,op.getD c eR=eL->
  (c:Int)∈(cB rows k op us).dead∨∃i,(i,(c:Int))∈(cB rows k op us).steps
 |0,op,us,hl,hc,c,h=>by
  have:=SV hc;exfalso;have l:c<ii op:=by
   by_cases f:c<ii op
   ·exact f
   ·rw[qe,qZ i4]at h;cases h
  rw[List.count_eq_zero]at hc;rw[qe,qd l]at h;exact hc (h▸qg l)
 |k+1,op,us,hl,hc,c,h=>by
  have d:=uq hc;cases hst:mE rows op us with
  |some j=>
   rw[oS d hst];obtain⟨g,m⟩:=uJ hst;obtain⟨u,p,h3⟩:=El m;have e:rows.getD j []=rows[j]:=by rw[qe,qd g];rfl
   have s:=a _ (qg g) _ (e▸p);have o:=kF (op:=op) (j:=(eT rows op j).toNat) h3;dsimp only;by_cases b:(eT rows op j).toNat=c
   ·exact .inr ⟨j,by rw[show((c:Nat):Int)=eT rows op j by omega];exact zb⟩
   ·rcases GX a k (op.set (eT rows op j).toNat eR) (us.set j eL) (by simp[hl]) i4 c (by rw[jm,g0 λf=>b f.1];exact h)with h5|⟨i,h5⟩
    ·exact .inl h5
    ·exact .inr ⟨i,qS _ h5⟩
  |none=>
   rw[oT d hst];obtain⟨v,t,q⟩:=sY (rows:=rows) (us:=us) d;have o:=kF (op:=op) (j:=(gQ rows op us).toNat) q;dsimp only;by_cases b:(gQ rows op us).toNat=c
   ·exact .inl (by rw[show((c:Nat):Int)=gQ rows op us by omega];exact zb)
   ·rcases GX a k (op.set (gQ rows op us).toNat eR) us (by simp[hl]) i4 c (by rw[jm,g0 λf=>b f.1];exact h)with h5|⟨i,h5⟩
    ·exact .inl (qS _ h5)
    ·exact .inr ⟨i,h5⟩
theorem Ye{rows:cV}{op us:List Bool}{c:Int}(h:Ag rows op us):Ag rows (op.set c.toNat eR) us:=λi a=>by
 have:=h i a;rw[cX,wZ]at this⊢;exactλd b e=>this d b (nu e).1
theorem En{rows:cV}{c:Int}(m:[c]∈rows):∀k op us,Ag rows op us->(∀d:Int,d<0->d∉(cB rows k op us).dead)->0<=c->c∉(cB rows k op us).dead
 |0,_,_,_,_,_=>by simp[cB]
 |k+1,op,us,hu,_,h0=>by
  by_cases a:op.contains eL=eL
  ·cases hst:mE rows op us with
   |some j=>
    rw[oS a hst];dsimp only;obtain⟨_,l⟩:=uJ hst;exact En m k _ _ (aas hu l) (λd s b=>by
     have g:∀k op us,∀d∈(cB rows k op us).dead,0<=d:=plan_dead0;have:=g _ _ _ d b;omega) h0
   |none=>
    rw[oT a hst];obtain⟨u,t,p⟩:=sY (rows:=rows) (us:=us) a;dsimp only;intro b;rcases zd.1 b with e|b
    ·obtain⟨j,q,f⟩:=aha m;have n:cX op [c]=[c]:=by rw[cX,zp,f9 (show jR op c=eL by rw[e];exact p)];rfl
     have r:mD rows op us j=eL:=by
      unfold mD;rw[f,n];cases hus:us.getD j eR with
      |false=>rfl
      |true=>have:=hu j hus;rw[f,n]at this;cases this
     obtain⟨i,o⟩:∃i,mE rows op us=dB i:=Vt q r;rw[hst]at o;cases o
    ·exact En m k _ _ (Ye hu) (λd s b=>by have:=plan_dead0 (rows:=rows) _ _ _ d b;omega) h0 b
  ·have a:op.contains eL=eR:=j7
   rw[BB a];simp
where
 plan_dead0 {rows:cV}:∀k op us,∀d∈(cB rows k op us).dead,0<=d
  |0,_,_,d,h=>by simp[cB]at h
  |k+1,op,us,d,h=>by
   by_cases a:op.contains eL=eL
   ·cases hst:mE rows op us with
    |some j=>rw[oS a hst]at h;exact plan_dead0 k _ _ d h
    |none=>
     rw[oT a hst]at h;rcases zd.1 h with rfl|h
     ·exact(sY a).1
     ·exact plan_dead0 k _ _ d h
   ·have a:op.contains eL=eR:=j7
    rw[BB a]at h;simp at h
def ta(R:cV):(Int->Prop)->List (Int×Int)->Prop
 |_,[]=>True
 |D,(i,c)::t=>(0<=i/\i<ii R)/\¬D c/\c∈R.getD i.toNat []/\(∀a∈R.getD i.toNat [],a≠c->D a)/\ta R (λx=>D x∨x=c) t
theorem Ck{R S:cV}{K:Int->Prop}(g:∀r∈R,∀c∈r,¬K c)(n:∀r∈S,∀c∈r,K c):∀{a:List (Int×Int)} {D D' U:Int->Prop},sZ (R++S) D U a->(∀c,¬K c->(D c↔D' c))->
  ta R D' (a.filter λp=>decide (p.1<ii R))
 |[],_,_,_,_,_=>trivial
 |(i,c)::t,D,D',U,h,hD=>by
  obtain⟨w,z,h3,f,x,v⟩:=h;rw[zp];by_cases q:i<ii R
  ·have e:(R++S).getD i.toNat []=R.getD i.toNat []:=by rw[qe,List.getElem?_append_left i4,qe]
   have k:R.getD i.toNat []∈R:=by rw[qe,qd i4];exact qg _
   rw[e]at f x;have u:=g _ k c f;rw[f9 p9];refine⟨⟨w.1,q⟩,λo=>h3 ((hD c u).2 o),f,λm b l=>(hD m (g _ k m b)).1 (x m b l),Ck g n v λd j=>?_⟩;rw[hD d j]
  ·rw[g0 p9];have k:(R++S).getD i.toNat []∈S:=by have s:=w.2;rw[qx]at s;rw[qe,qj i4,qd i4];exact qg _
   have u:=n _ k c f;refine Ck g n v λd j=>?_;rw[<-hD d j];exact⟨λo=>o.elim id λy=>absurd (y▸u) j,.inl⟩
def ev(t:UInt8)(k nd:Nat)(W M:aQ)(y:Nat->UInt8)(c:Int):UInt8:=bP (λi=>aP (aD W c.toNat) i) y nd^^^Gf.mul t (aP (aD M c.toNat) k)
theorem KE{a b:Row}(h:ii a=ii b)(c:UInt8)(y:Nat->UInt8)(n:Nat):bP (λj=>aP (cR c a b) j) y n=bP (λj=>aP b j) y n^^^Gf.mul c (bP (λj=>aP a j) y n):=by rw[fK n (λj _=>cG h j) λ_ _=>rfl];exact IY _ _ _ _ _
theorem SZ{V:aQ}{m:Nat}(y:Nat->UInt8)(n:Nat):∀{l:aF} {a:Row},ii a=m->(∀c∈l,ii (aD V c.toNat)=m)->bP (λj=>aP (cO V a l) j) y n=bP (λj=>aP a j) y n^^^cN (λc=>bP (λj=>aP (aD V c.toNat) j) y n) l
 |[],a,_,_=>by simp[cO,cN]
 |c::l,a,h,hv=>by
  have b:ii (aD V c.toNat)=ii a:=by rw[hv c i9,h]
  have:=SZ (V:=V) y n (l:=l) (a:=cR 1 (aD V c.toNat) a) (by rw[bT b];exact h) λd e=>hv d o0;rw[cO,zy];rw[cO]at this;rw[this,KE b,Gf.one_mul,cN];ac_rfl
theorem Ta(t:UInt8)(x:Int->UInt8):∀l,cN (λc=>Gf.mul t (x c)) l=Gf.mul t (cN x l)
 |[]=>by simp[cN,Gf.mul_zero]
 |c::l=>by rw[cN,cN,Gf.jV,Ta t x l]
theorem Om{W M:aQ}{nd w:Nat}{l:aF}{a m:Row}(e:ii a=nd)(f:ii m=w)(b:∀c∈l,ii (aD W c.toNat)=nd)(d:∀c∈l,ii (aD M c.toNat)=w)(t:UInt8)(k:Nat)(y:Nat->UInt8):
  bP (λj=>aP (cO W a l) j) y nd^^^Gf.mul t (aP (cO M m l) k)=(bP (λj=>aP a j) y nd^^^Gf.mul t (aP m k))^^^cN (ev t k nd W M y) l:=by
 rw[SZ y nd e b,KD k f d,Gf.jV];have:cN (ev t k nd W M y) l=cN (λc=>bP (λj=>aP (aD W c.toNat) j) y nd) l^^^Gf.mul t (cN (λc=>aP (aD M c.toNat) k) l):=by rw[<-Ta,<-SQ];rfl
 rw[this];ac_rfl
def gS(rest:List fe)(nd:Nat)(s:aQ×aQ)(p:Int×Int):aQ×aQ:=
 let r:=rest.getD p.1.toNat ([],[])
 (s.1.set p.2.toNat (cO s.1 (aO nd) (r.1.filter λc=>!decide (c=p.2))),s.2.set p.2.toNat (cO s.2 r.2 (r.1.filter λc=>!decide (c=p.2))))
structure WOk (n nd w:Nat) (D:Int->Prop) (W M:aQ):Prop where
 wl:ii W=n
 ml:ii M=n
 rw_:∀c:Int,D c->0<=c->c<(n:Int)->ii (aD W c.toNat)=nd/\(aD M c.toNat).length=w
theorem Eo{W M a b:aQ}{t:UInt8}{k nd:Nat}{y:Nat->UInt8}{c:Int}(e:aD a c.toNat=aD W c.toNat)(d:aD b c.toNat=aD M c.toNat):ev t k nd a b y c=ev t k nd W M y c:=by unfold ev;rw[e,d]
theorem KF{n nd w:Nat}{rest:List fe}(B:∀e∈rest,iF n w e):∀{a:List (Int×Int)} {D:Int->Prop} {W M:aQ},ta (rest.map qJ) D a->WOk n nd w D W M->
  WOk n nd w (λc=>D c∨∃i,(i,c)∈a) (a.foldl (gS rest nd) (W,M)).1 (a.foldl (gS rest nd) (W,M)).2/\
  (∀c:Int,D c->0<=c->aD (a.foldl (gS rest nd) (W,M)).1 c.toNat=aD W c.toNat/\aD (a.foldl (gS rest nd) (W,M)).2 c.toNat=aD M c.toNat)/\
  (∀p∈a,∀t k y,k<w->Sat t k (ev t k nd (a.foldl (gS rest nd) (W,M)).1 (a.foldl (gS rest nd) (W,M)).2 y) (rest.getD p.1.toNat ([],[])))/\
  (∀t k x y,k<w->(∀c:Int,D c->0<=c->c<(n:Int)->x c=ev t k nd W M y c)->(∀p∈a,Sat t k x (rest.getD p.1.toNat ([],[])))->∀c:Int,(D c∨∃i,(i,c)∈a)->0<=c->c<(n:Int)->x c=ev t k nd (a.foldl (gS rest nd) (W,M)).1 (a.foldl (gS rest nd) (W,M)).2 y c)
 |[],D,W,M,_,hw=>⟨⟨hw.wl,hw.ml,λc T=>hw.rw_ c (T.elim id λ⟨i,h⟩=>j6)⟩,λ_ _ _=>⟨i0,i0⟩,λp u=>by(cases u),λt k x y N H _ c T h0 o=>H c (T.elim id λ⟨i,h⟩=>j6) h0 o⟩
 |(i,c)::st,D,W,M,hg,hw=>by
  obtain⟨g1,g2,I,g4,g5⟩:=hg;have q:i.toNat<ii rest:=by have:=g1.2;rw[qy]at this;omega
  obtain⟨e,he⟩:∃e,e=rest[i.toNat]:=⟨_,rfl⟩
  have R:rest.getD i.toNat ([],[])=e:=by rw[qe,qd q,he];rfl
  have U:(rest.map qJ).getD i.toNat []=e.1:=by rw[qe,qR,qd q,he];rfl
  rw[U]at I g4;have l:=B e (he▸qg q);have ab:=l.cS c I;obtain⟨F,O⟩:∃F,F=e.1.filter (λd=>!decide (d=c)):=⟨_,rfl⟩
  have r:∀d∈F,d∈e.1/\d≠c:=λd b=>by rw[O,qI]at b;exact⟨b.1,by simpa using b.2⟩
  have f:∀d∈F,D d/\0<=d/\d<(n:Int):=λd b=>⟨g4 d (r d b).1 (r d b).2,l.cS d (r d b).1⟩
  have l1:∀d∈F,ii (aD W d.toNat)=nd:=λd b=>(hw.rw_ d (f d b).1 (f d b).2.1 (f d b).2.2).1;have l2:∀d∈F,ii (aD M d.toNat)=w:=λd b=>(hw.rw_ d (f d b).1 (f d b).2.1 (f d b).2.2).2;have V:ii (aO nd)=nd:=k8
  have ad:gS rest nd (W,M) (i,c)=(W.set c.toNat (cO W (aO nd) F),M.set c.toNat (cO M e.2 F)):=by unfold gS;dsimp only;rw[R,<-O]
  have X:=hw.wl;have Z:=hw.ml;have A:∀d:Nat,aD (W.set c.toNat (cO W (aO nd) F)) d=if c.toNat=d then cO W (aO nd) F else aD W d:=λd=>lh
  have v:∀d:Nat,aD (M.set c.toNat (cO M e.2 F)) d=if c.toNat=d then cO M e.2 F else aD M d:=λd=>lh
  have S:WOk n nd w (λx=>D x∨x=c) (W.set c.toNat (cO W (aO nd) F)) (M.set c.toNat (cO M e.2 F)):=by
   refine⟨by simp[X],by simp[Z],λd b h0 o=>?_⟩;rw[A,v];by_cases g:c.toNat=d.toNat
   ·rw[f9 g,f9 g];exact⟨jG V l1,jG l.len l2⟩
   ·rw[g0 g,g0 g];exact hw.rw_ d (b.elim id λJ=>absurd (by rw[J]) g) h0 o
  obtain⟨K,Q,r3,r4⟩:=KF B g5 S;rw[zy,ad];generalize st.foldl (gS rest nd) (W.set c.toNat (cO W (aO nd) F),M.set c.toNat (cO M e.2 F))=s at K Q r3 r4;have E:∀d:Int,D d->0<=d->c.toNat≠d.toNat:=λd b h0 J=>g2 (by rw[show c=d by omega];exact b);have keep:∀d:Int,D d->0<=d->aD s.1 d.toNat=aD W d.toNat/\aD s.2 d.toNat=aD M d.toNat:=λd b h0=>by
   have:=Q d (.inl b) h0;rw[A,v,g0 (E d b h0),g0 (E d b h0)]at this;exact this
  have Y:∀t k y,ev t k nd s.1 s.2 y c=Gf.mul t (aP e.2 k)^^^cN (ev t k nd W M y) F:=λt k y=>by
   have P:=Q c (.inr i0) ab.1;rw[A,v,f9 rfl,f9 rfl]at P;unfold ev;rw[P.1,P.2,Om V l.len l1 l2 t k y,fE _ _ nd λj _=>cm _ _,wF];rfl
  have z:∀t k y,cN (ev t k nd s.1 s.2 y) F=cN (ev t k nd W M y) F:=λt k y=>kh λd b=>Eo (keep d (f d b).1 (f d b).2.1).1 (keep d (f d b).1 (f d b).2.1).2;refine⟨⟨K.wl,K.ml,λd b h0 o=>K.rw_ d ?_ h0 o⟩,keep,λp u t k y N=>?_,λt k x y N H hs d b h0 o=>?_⟩
  ·rcases b with b|⟨j,hj⟩
   ·exact .inl (.inl b)
   ·rcases zd.1 hj with hj|hj
    ·injection hj with _ hj;exact .inl (.inr hj)
    ·exact .inr ⟨j,hj⟩
  ·rcases zd.1 u with rfl|u
   ·dsimp only;rw[R];unfold Sat;rw[BA _ l.nodup I,<-O,Y,z,rZ]
   ·exact r3 p u t k y N
  ·refine r4 t k x y N (λd b h0 o=>?_) (λp u=>hs p (qS _ u)) d ?_ h0 o
   ·by_cases g:d=c
    ·subst g;have G:=hs (i,d) i9;dsimp only at G;rw[R]at G;unfold Sat at G;rw[BA _ l.nodup I,<-O,kh (y:=ev t k nd W M y) λL m=>H L (f L m).1 (f L m).2.1 (f L m).2.2]at G;have h6:ev t k nd (W.set d.toNat (cO W (aO nd) F)) (M.set d.toNat (cO M e.2 F)) y d=Gf.mul t (aP e.2 k)^^^cN (ev t k nd W M y) F:=by unfold ev;rw[A,v,f9 i0,f9 i0,Om V l.len l1 l2 t k y,fE _ _ nd λj _=>cm _ _,wF];rfl
     rw[h6,<-G,rZ]
    ·have m:D d:=b.elim id λJ=>absurd J g;rw[H d m h0 o];refine(Eo ?_ ?_).symm
     ·rw[A,g0 i4]
     ·rw[v,g0 i4]
   ·rcases b with b|⟨j,hj⟩
    ·exact .inl (.inl b)
    ·rcases zd.1 hj with hj|hj
     ·injection hj with _ hj;exact .inl (.inr hj)
     ·exact .inr ⟨j,hj⟩
open Classical
def eU(r:Row):Nat:=r.findIdx (λx=>x !=0)
def dZ(M:aQ)(r:Row):Row:=M.foldl (λout x=>cR (aP out (eU x)) x out) r
def mS(m:aQ):aQ:=(bG m (eu m)).2.take (bW m)
def Tb(M:aQ)(r:Row):aQ:=if eU (dZ M r)<ii (dZ M r) then mS (M++[dZ M r])else M
theorem On{r:Row}{c:Nat}(h:c<ii r):aP r c=r[c]:=by rw[aP,qe,qd h];rfl
theorem afJ{r:Row}{j:Nat}(h:aP r j≠0):eU r<ii r:=by have a:j<ii r:=Nat.lt_of_not_le λb=>h (by simp[aP,qe,qZ b]);rw[eU,w4];exact⟨r[j],qg a,by rw[<-On a];simpa using h⟩
theorem aav{r:Row}(h:¬eU r<ii r):r=aO r.length:=by rw[eU,w4]at h;refine ez i0 k8 λj a=>?_;rw[cm,On a];have b:¬((r[j] !=0)=eL):=λc=>h ⟨r[j],qg a,c⟩;simpa using b
section
variable {n:Nat} {m M A:aQ}
theorem KG(b:aZ n M){r:Row}(a:ii r=n):ii (dZ M r)=n:=by
 unfold dZ
 induction M generalizing r with
 |nil=>exact a
 |cons x M ih=>
  rw[zy];exact ih (λy c=>b y (qS _ c)) (by rw[bT (by rw[b x i9,a])];exact a)
theorem aaw{c:UInt8}{a t:Row}(h:ii a=ii t):cR c a (cR c a t)=t:=
 ez (n:=ii t) (by rw[bT (by rw[bT h];exact h),bT h]) i0 λj _=>by
  rw[cG (by rw[bT h];exact h),cG h,rZ]
theorem PM(b:aZ n m)(c:∀x∈M,Span n m x){r:Row}(d:ii r=n):Span n m (dZ M r)↔Span n m r:=by
 unfold dZ
 induction M generalizing r with
 |nil=>exact Iff.rfl
 |cons x M ih=>
  have a:=c x i9;have e:ii x=ii r:=by rw[a.len b,d]
  rw[zy,ih (λy f=>c y (qS _ f)) (by rw[bT e];exact d)];refine⟨λh=>?_,λh=>a.comb b h _⟩;have:=a.comb b h (aP r (eU x));rw[aaw e]at this;exact this
structure Ep (n:Nat) (M A:aQ):Prop where
 even:aZ n M
 evenA:aZ n A
 span:∀v,Span n M v↔Span n A v
 len:ii M=bW A
 lead:∀x∈M,eU x<n
theorem ahb(n:Nat):Ep n [] []:=⟨λ_ h=>j6,λ_ h=>j6,λ_=>Iff.rfl,by simp[bW,kg],λ_ h=>j6⟩
theorem PN(b:aZ n m)(a:aZ n A)(h:∀v,Span n m v↔Span n A v):bW m=bW A:=by rw[lQ b,lQ a];congr 1;funext v;exact propext (h v)
theorem Tc(a:aZ n m):Way n m n (bW m) (bG m (eu m)).2:=by
 have h:=IZ a n (qn _);cases m with
 |nil=>rw[kg]at h;rw[bW,kg];exact h
 |cons x t=>
  have b:eu (x::t)=n:=by rw[eu,bA i9];exact a _ i9
  rw[bW,b];exact h
theorem ahc(B:aZ n m):aZ n (mS m)/\(∀v,Span n (mS m) v↔Span n m v)/\(mS m).length=bW m/\∀x∈mS m,eU x<n:=by
 have w:=Tc B;obtain⟨c,q,u,l,t,⟨p,D,z,E,F⟩,b⟩:=w;have a:aZ n (mS m):=λx g=>c x (zD g);refine⟨a,λv=>?_,by rw[mS,qU];omega,λx g=>?_⟩
 ·rw[<-l v];refine⟨Span.mono λr h=>zD h,Span.sub a λr h=>?_⟩;obtain⟨k,f,rfl⟩:=eS h;by_cases A:k<bW m
  ·refine Span.row a ?_;have:aD (bG m (eu m)).2 k=aD (mS m) k:=by rw[bA f,bA (by rw[mS,qU];omega)];simp[mS]
   rw[this];exact mem_row (by rw[mS,qU];omega)
  ·have:aD (bG m (eu m)).2 k=aO n:=ez (c _ h) k8 λj y=>by rw[cm];exact b k i4 f j y
   rw[this];exact .zero
 ·obtain⟨k,f,rfl⟩:=eS g;have i:k<bW m:=by rw[mS,qU]at f;omega
  have d:k<(bG m (eu m)).2.length:=i4
  have e:aD (mS m) k=aD (bG m (eu m)).2 k:=by rw[bA d,bA f];simp[mS]
  have s:=z k i k d;rw[f9 rfl]at s;have o:=afJ (r:=aD (mS m) k) (j:=p k) (by rw[e,s];decide);rw[a _ g]at o;exact o
theorem ada(h:∀v,Span n M v↔Span n A v)(i:aZ n M)(f:aZ n A){r:Row}(l:ii r=n){rest:Row}(k:ii rest=n)
  (g:∀m,aZ n m->(∀x∈M,Span n m x)->(Span n m rest↔Span n m r)):∀v,Span n (M++[rest]) v↔Span n (A++[r]) v:=λv=>by
 have b:=mP i k;have d:=mP f l;have o:∀x∈M,Span n (M++[rest]) x:=λx c=>Span.row b (wg _ c);have e:∀x∈M,Span n (A++[r]) x:=λx c=>Span.mono (λy a=>wg _ a) ((h x).1 (Span.row i c));constructor
 ·refine Span.sub d λy a=>?_;rcases qz.1 a with a|a
  ·exact e y a
  ·rw[qC]at a;subst a;exact(g _ d e).2 (Span.row d i9)
 ·refine Span.sub b λy a=>?_;rcases qz.1 a with a|a
  ·exact Span.mono (λz j=>wg _ j) ((h y).2 (Span.row f a))
  ·rw[qC]at a;subst a;exact(g _ b o).1 (Span.row b i9)
theorem aax(h:Ep n M A){r:Row}(b:ii r=n):Ep n (Tb M r) (A++[r]):=by
 have e:=KG h.even b;have j:=ada h.span h.even h.evenA b e λm l k=>PM l k b;have d:=mP h.evenA b;unfold Tb;split
 ·have t:=ahc (mP h.even e);refine⟨t.1,d,λv=>(t.2.1 v).trans (j v),?_,t.2.2.2⟩;rw[t.2.2.1];exact PN (mP h.even e) d j
 ·rename_i i;have i:=aav i;have f:Span n M r:=(PM h.even (λx g=>Span.row h.even g) b).1 (by rw[i,e];exact .zero);have c:∀v,Span n M v↔Span n (A++[r]) v:=λv=>by
   rw[h.span v];refine⟨Span.mono λx g=>wg _ g,Span.sub h.evenA λy a=>?_⟩;rcases qz.1 a with a|a
   ·exact Span.row h.evenA a
   ·rw[qC]at a;subst a;exact(h.span _).1 f
  refine⟨h.even,d,c,?_,h.lead⟩;rw[h.len];exact PN h.evenA d λv=>(h.span v).symm.trans (c v)
end
theorem PO:∀{l m:List Nat},l.Nodup->(∀x∈l,x∈m)->ii l<=ii m
 |[],_,_,_=>i9
 |x::l,m,hd,h=>by
  rw[yD]at hd;have b:=h x i9;have c:=PO (l:=l) (m:=m.erase x) hd.2 λy a=>(List.mem_erase_of_ne λd:y=x=>hd.1 (by rw[<-d];exact a)).2 (h y l7);rw[List.length_erase_of_mem b]at c;have:=List.length_pos_of_mem b;simp;omega
def ow(nd i:Nat):Row:=(aO nd).set i 1
theorem adb(nd i:Nat):ii (ow nd i)=nd:=by simp[ow,aO]
theorem adc{nd i:Nat}(a:i<nd)(j:Nat):aP (ow nd i) j=if j=i then 1 else 0:=by rw[ow,Oj (by simpa[aO]using a),cm]
theorem ade{nd i:Nat}(a:i<nd)(y:Nat->UInt8):bP (λj=>aP (ow nd i) j) y nd=y i:=
 IX _ _ i nd a λj _=>by
  rw[adc a];by_cases h:j=i
  ·subst h;simp
  ·rw[g0 h,g0 λb=>h b.symm]
def fM(n nd w:Nat)(dead:aF):aQ×aQ:=
 (dead.zipIdx).foldl (λs p=>(s.1.set p.1.toNat (ow nd p.2),s.2.set p.1.toNat (aO w))) (qh n [],qh n [])
theorem LU(n nd w:Nat)(d:aF)(c:Int):fM n nd w (d++[c])=((fM n nd w d).1.set c.toNat (ow nd d.length),(fM n nd w d).2.set c.toNat (aO w)):=by unfold fM;rw[List.zipIdx_append,List.foldl_append];simp
theorem Oo{n nd w:Nat}{dead:aF}(j:∀c∈dead,0<=c/\c<(n:Int))(m:dead.Nodup):∀k,k<=ii dead->
  WOk n nd w (·∈dead.take k) (fM n nd w (dead.take k)).1 (fM n nd w (dead.take k)).2/\∀i,(o:i<k)->(l:i<ii dead)->aD (fM n nd w (dead.take k)).1 dead[i].toNat=ow nd i/\aD (fM n nd w (dead.take k)).2 dead[i].toNat=aO w
 |0,_=>⟨⟨by simp[fM],by simp[fM],λc b=>by simp at b⟩,λi o=>i4⟩
 |k+1,hk=>by
  obtain⟨h,l⟩:=Oo (nd:=nd) (w:=w) j m k i4;have f:k<ii dead:=i4
  have u:=j _ (qg f);have e:dead.take (k+1)=dead.take k++[dead[k]]:=zI f;have r:ii (dead.take k)=k:=i7
  rw[e,LU,r];have q:=h.wl;have s:=h.ml;refine⟨⟨by simp[q],by simp[s],λc b h0 h3=>?_⟩,λi o d=>?_⟩
  ·dsimp only;rw[lh,lh];by_cases a:dead[k].toNat=c.toNat
   ·rw[f9 a,f9 a];exact⟨adb _ _,k8⟩
   ·rw[g0 a,g0 a];refine h.rw_ c ?_ h0 h3;rcases qz.1 b with b|b
    ·exact b
    ·rw[qC]at b;exact absurd (by rw[b]) a
  ·dsimp only;rw[lh,lh];by_cases g:i=k
   ·subst g;rw[f9 i0,f9 rfl];exact⟨i0,i0⟩
   ·have p:dead[k]≠dead[i]:=λt=>g ((List.getElem_inj m).1 t).symm;have:=j _ (qg d);rw[g0 i4,g0 i4];exact l i i4 d
def ik(nd:Nat)(known:List Bool)(vals:aQ)(s:aQ×aQ):aQ×aQ:=
 (s.1.mapIdx λc r=>if known.getD c eR then aO nd else r,s.2.mapIdx λc r=>if known.getD c eR then aD vals c else r)
theorem Er{m:aQ}{f:Nat->Row->Row}{c:Nat}(h:c<ii m):aD (m.mapIdx f) c=f c (aD m c):=by rw[bA j5,bA h];simp
def gD(V:aQ)(r:Row)(a:Row):Nat->Row
 |0=>a
 |c+1=>cR (aP r c) (aD V c) (gD V r a c)
theorem lS{V:aQ}{m:Nat}(r:Row){a:Row}(b:ii a=m):∀{c:Nat},(∀i,i<c->ii (aD V i)=m)->ii (gD V r a c)=m
 |0,_=>b
 |c+1,h=>by
  have:=lS r b (c:=c) λi d=>h i i4;rw[gD,bT (by rw[h c i4,this])];exact this
theorem KH{V:aQ}{m:Nat}(r:Row){a:Row}(b:ii a=m)(j:Nat):∀{c:Nat},(∀i,i<c->ii (aD V i)=m)->aP (gD V r a c) j=aP a j^^^bP (λi=>aP r i) (λi=>aP (aD V i) j) c
 |0,_=>by simp[gD,bP]
 |c+1,h=>by
  have e:=lS r b (c:=c) λi d=>h i i4;rw[gD,cG (by rw[h c i4,e]),KH r b j (c:=c) λi d=>h i i4,bP];ac_rfl
theorem Td{V:aQ}{m:Nat}(r:Row){a:Row}(b:ii a=m)(y:Nat->UInt8)(n:Nat):∀{c:Nat},(∀i,i<c->ii (aD V i)=m)->bP (λj=>aP (gD V r a c) j) y n=bP (λj=>aP a j) y n^^^bP (λi=>aP r i) (λi=>bP (λj=>aP (aD V i) j) y n) c
 |0,_=>by simp[gD,bP]
 |c+1,h=>by
  have e:=lS r b (c:=c) λi d=>h i i4;rw[gD,KE (by rw[h c i4,e]),Td r b y n (c:=c) λi d=>h i i4,bP];ac_rfl
theorem Te(f g a:Nat->UInt8):∀k,bP f (λi=>g i^^^a i) k=bP f g k^^^bP f a k
 |0=>by simp[bP]
 |k+1=>by rw[bP,bP,bP,Te f g a k,Gf.jV];ac_rfl
theorem Tf(t:UInt8)(f g:Nat->UInt8):∀k,bP f (λi=>Gf.mul t (g i)) k=Gf.mul t (bP f g k)
 |0=>by simp[bP,Gf.mul_zero]
 |k+1=>by
  rw[bP,bP,Tf t f g k,Gf.jV];congr 1;rw[<-Gf.mul_assoc,<-Gf.mul_assoc,Gf.mul_comm (f k) t]
theorem Es{n:Nat}(g:Nat->UInt8):∀{l:aF},(∀x∈l,0<=x/\x<(n:Int))->l.Nodup->bP (λj=>aP (ga n l) j) g n=cN (λc=>g c.toNat) l
 |[],_,_=>by
  rw[cN];refine fE _ _ n λj _=>?_;rw[Eh [] (λx a=>by cases a) j];simp
 |c::l,h,hd=>by
  rw[yD]at hd;have m:=h c i9;have k:=Es g (l:=l) (λx a=>h x l7) hd.2;have e:bP (λj=>aP (ga n (c::l)) j) g n=bP (λj=>if(j:Int)∈c::l then 1 else 0) g n:=fK n (λj _=>Eh _ h j) λ_ _=>rfl;have d:bP (λj=>aP (ga n l) j) g n=bP (λj=>if(j:Int)∈l then 1 else 0) g n:=fK n (λj _=>Eh _ (λx a=>h x l7) j) λ_ _=>rfl;rw[e,cN,<-k,d];rw[KB (f:=λj=>if(j:Int)∈l then 1 else 0) (f':=λj=>if(j:Int)∈c::l then 1 else 0) (c:=c.toNat) (by rw[g0];rw[show((c.toNat:Nat):Int)=c by omega];exact hd.1) (λi=>by
   by_cases b:i=c.toNat
   ·subst b;rw[f9 i0,f9];rw[show((c.toNat:Nat):Int)=c by omega];simp
   ·rw[g0 b];have:(i:Int)≠c:=λo=>b i4;simp[this]),f9 i4]
  ac_rfl
theorem kernel{nd:Nat}{a:aQ}(X:aZ nd a)(O:bW a<nd):∃y:Nat->UInt8,(∃i,i<nd/\y i≠0)/\∀r∈a,bP (λj=>aP r j) y nd=0:=by
 have w:=Tc X;obtain⟨L,S,ab,P,Y,⟨p,U,V,p3,Z⟩,D⟩:=w;generalize hT:bW a=T at*;generalize (bG a (eu a)).2=rows at*;have v:∃j,j<nd/\∀i,i<T->p i≠j:=by
  have s:∀T nd:Nat,T<nd->∀p:Nat->Nat,(∀i,i<T->p i<nd)->∃j,j<nd/\∀i,i<T->p i≠j:=by
   intro T nd ah p W;by_cases f:∀j,j<nd->∃i,i<T/\p i=j
   ·exfalso;have H:∀j∈qE nd,j∈(qE T).map p:=λj A=>by
     obtain⟨i,l,rfl⟩:=f j (qG.1 A);exact qw.2 ⟨i,qG.2 l,i0⟩
    have:=PO xi H;simp at this;omega
   ·simp only[Classical.not_forall,not_exists,not_and]at f;obtain⟨j,A,h⟩:=f;exact⟨j,A,h⟩
  exact s T nd O p U
 obtain⟨j,A,G⟩:=v;have F:∀i e,i<T->e<T->p i=p e->i=e:=λi e q n h3=>by
  rcases Nat.lt_trichotomy i e with h|h|h
  ·have:=Z i e h n;omega
  ·exact h
  ·have:=Z e i h q;omega
 let y:Nat->UInt8:=λc=>if c=j then 1 else cN (λi=>if p i.toNat=c then aP (aD rows i.toNat) j else 0) ((qE T).map λi:Nat=>(i:Int))
 have hy:∀i,i<T->y (p i)=aP (aD rows i) j:=λi l=>by
  show(if p i=j then 1 else _)=_;rw[g0 (G i l)];have K:((qE T).map λi:Nat=>(i:Int)).Nodup:=by exact List.Pairwise.map _ (λa b h t=>h (Int.ofNat_inj.1 t)) xi
  rw[BA _ K (c:=(i:Int)) (qw.2 ⟨i,qG.2 l,i0⟩),GP,zX]
  ·simp
  ·intro c o;rw[qI]at o;obtain⟨e,u,rfl⟩:=qw.1 o.1;have B:e≠i:=λt=>by subst t;simp at o
   rw[ql,g0 λt=>B (F e i (qG.1 u) l t)]
 have Q:∀c,c≠j->(∀i,i<T->p i≠c)->y c=0:=λc o W=>by
  show(if c=j then 1 else _)=_;rw[g0 o,GP];intro d hd;obtain⟨e,u,rfl⟩:=qw.1 hd;rw[ql,g0 (W e (qG.1 u))]
 have J:y j=1:=by show(if j=j then 1 else _)=_;rw[f9 rfl]
 refine⟨y,⟨j,A,by rw[J];decide⟩,λr N=>?_⟩;refine Span.lin L (λr=>bP (λc=>aP r c) y nd) (fE _ _ nd λc _=>cm _ _) (λc x z q n=>KE i4 c y nd) (λr O=>?_) ((P r).2 (Span.row X N));obtain⟨k,R,rfl⟩:=eS O;by_cases g:k<T
 ·--the row's own beginning,and j
  have hf:∀c,c<nd->aP (aD rows k) c=0∨y c=0∨c=p k∨c=j:=λc o=>by
   by_cases q:c=j
   ·exact .inr (.inr (.inr q))
   ·by_cases n:∃i,i<T/\p i=c
    ·obtain⟨i,l,rfl⟩:=n;by_cases I:k=i
     ·subst I;exact .inr (.inr (.inl i0))
     ·refine .inl ?_;rw[V i l k R,g0 I]
    ·exact .inr (.inl (Q c q λi l t=>n ⟨i,l,t⟩))
  have M:=U k g;have E:aP (aD rows k) (p k)=1:=by rw[V k g k R,f9 rfl]
  have B:p k≠j:=G k g;have s:∀m,m<=nd->bP (λc=>aP (aD rows k) c) y m=(if p k<m then aP (aD rows k) j else 0)^^^(if j<m then aP (aD rows k) j else 0):=by
   intro m
   induction m with
   |zero=>intro _;simp[bP]
   |succ m ih=>
    intro hm;rw[bP,ih i4];by_cases q:m=p k
    ·have ad:m≠j:=i4
     rw[q,E,Gf.one_mul,hy k g];rw[g0 (Nat.lt_irrefl _),f9 (Nat.lt_succ_self _)];by_cases h3:j<p k
     ·rw[f9 h3,f9 i4];ac_rfl
     ·rw[g0 h3,g0 i4];ac_rfl
    ·by_cases n:m=j
     ·rw[n,J,Gf.mul_one];rw[g0 (Nat.lt_irrefl j),f9 (Nat.lt_succ_self j),zX];by_cases h3:p k<j
      ·rw[f9 h3,f9 i4]
      ·rw[g0 h3,g0 i4]
     ·have hz:Gf.mul (aP (aD rows k) m) (y m)=0:=by
       rcases hf m i4 with h|h|h|h
       ·rw[h,Gf.zero_mul]
       ·rw[h,Gf.mul_zero]
       ·exact absurd h q
       ·exact absurd h n
      rw[hz,zX];have a1:(p k<m+1)↔(p k<m):=i4
      have a2:(j<m+1)↔(j<m):=i4
      simp only[a1,a2]
  rw[s nd (qn _),f9 M,f9 A,lH]
 ·exact fE _ _ nd λc o=>D k i4 R c o
def dn(n nd:Nat)(rest:List fe)(W:aQ)(left:aF)(ahead:aQ):aQ:=(left.map λi=>cO W (aO nd) (rest.getD i.toNat ([],[])).1)++ahead.map λr=>gD W r (aO nd) n
def fv(n w:Nat)(rest:List fe)(M:aQ)(left:aF)(ahead:aQ):aQ:=(left.map λi=>cO M (rest.getD i.toNat ([],[])).2 (rest.getD i.toNat ([],[])).1)++ahead.map λr=>gD M r (aO w) n
def Ai(nd:Nat)(known:List Bool)(vals:aQ)(W M D:aQ):aQ:=vals.mapIdx λc r=>if known.getD c eR then r else gD D (aD W c) (aD M c) nd
def dq(n:Nat)(l:List fe)(ahead:aQ):aQ:=ahead++l.map λe=>ga n e.1
def ib(w:Nat)(l:List fe)(ahead:aQ):aQ:=qh ahead.length (aO w)++l.map zH
def at_(X:aQ)(k:Nat)(c:Int):UInt8:=aP (aD X c.toNat) k
section
variable {n w:Nat} {l:List fe} {ahead:aQ}
theorem BC(b:aZ n ahead):aZ n (dq n l ahead):=λr a=>by
 rcases qz.1 a with a|a
 ·exact b r a
 ·obtain⟨e,_,rfl⟩:=qw.1 a;exact rX _ _
theorem BD(c:∀e∈l,iF n w e):aZ w (ib w l ahead):=λr a=>by
 rcases qz.1 a with a|a
 ·rw[(ye.1 a).2];simp[aO]
 ·obtain⟨e,b,rfl⟩:=qw.1 a;exact(c e b).len
theorem vE:ii (dq n l ahead)=ii (ib w l ahead):=by simp[dq,ib]
theorem Et(p:∀e∈l,iF n w e){X:aQ}:ft n w (dq n l ahead) (ib w l ahead) X↔X.length=n/\aZ w X/\∀k,k<w->(∀e∈l,Sat 1 k (at_ X k) e)/\∀r∈ahead,bP (λj=>aP r j) (λc=>aP (aD X c) k) n=0:=by
 unfold ft;refine⟨λ⟨h1,h2,h3⟩=>⟨h1,h2,λk q=>⟨λe h=>?_,λr t=>?_⟩⟩,λ⟨h1,h2,h3⟩=>⟨h1,h2,λi g=>?_⟩⟩
 ·obtain⟨i,g,rfl⟩:=qH h;have:=h3 (ii ahead+i) m4;have b:aD (dq n l ahead) (ii ahead+i)=ga n l[i].1:=by rw[bA m4];simp[dq]
  have f:aD (ib w l ahead) (ii ahead+i)=l[i].2:=by rw[bA p0];simp[ib]
  rw[b,f]at this;have o:=congrArg (λr=>aP r k) this;rw[gN h2 h1 _ k n (qn _),Es _ (p _ h).cS (p _ h).nodup]at o;unfold Sat;rw[Gf.one_mul];exact o
 ·obtain⟨i,g,rfl⟩:=qH t;have:=h3 i m4;have b:aD (dq n l ahead) i=ahead[i]:=by rw[bA m4];simp[dq,yb g]
  have f:aD (ib w l ahead) i=aO w:=by rw[bA p0];simp[ib,g]
  rw[b,f]at this;have o:=congrArg (λr=>aP r k) this;rw[gN h2 h1 _ k n (qn _),cm]at o;exact o
 ·have m:ii (aD (ib w l ahead) i)=w:=cl (BD p) (by rw[<-vE (n:=n)];exact g);refine ez (n:=w) (iu h2 h1 _ n (qn _)) m λk q=>?_;rw[gN h2 h1 _ k n (qn _)];simp only[dq,qx,qy]at g;by_cases a:i<ii ahead
  ·have b:aD (dq n l ahead) i=ahead[i]:=by rw[bA m4];simp[dq,yb a]
   have f:aD (ib w l ahead) i=aO w:=by rw[bA p0];simp[ib,a]
   rw[b,f,cm];exact(h3 k q).2 _ (qg a)
  ·obtain⟨d,rfl⟩:∃d,i=ii ahead+d:=⟨i-ii ahead,i4⟩
   have s:d<ii l:=i4
   have b:aD (dq n l ahead) (ii ahead+d)=ga n l[d].1:=by rw[bA m4];simp[dq]
   have f:aD (ib w l ahead) (ii ahead+d)=l[d].2:=by rw[bA p0];simp[ib]
   have h:=p _ (qg s);rw[b,f,Es _ h.cS h.nodup];have:=(h3 k q).1 _ (qg s);unfold Sat at this;rw[Gf.one_mul]at this;exact this
end
structure gA (n w:Nat) (l:List fe) (ahead:aQ) (known:List Bool) (vals:aQ) (dead left:aF) (W M:aQ):Prop where
 eqs:∀e∈l,iF n w e
 ahd:aZ n ahead
 pinv:jH n w l known vals
 calm:ki known vals l=eR
 deadR:∀c∈dead,0<=c/\c<(n:Int)
 deadN:dead.Nodup
 deadK:∀c∈dead,kn known c=eR
 lens:ii W=n/\M.length=n/\∀c:Nat,c<n->ii (aD W c)=ii dead/\(aD M c).length=w
 evKnown:∀t k y,∀c:Int,0<=c->c<(n:Int)->kn known c=eL->ev t k dead.length W M y c=Gf.mul t (aP (aD vals c.toNat) k)
 evDead:∀t k y,∀i,(h:i<ii dead)->ev t k dead.length W M y dead[i]=y i
 evRest:∀t k y,k<w->(∀i∈left,Sat t k (ev t k dead.length W M y) ((bh known vals l).getD i.toNat ([],[])))->∀e∈bh known vals l,Sat t k (ev t k dead.length W M y) e
 leftR:∀i∈left,0<=i/\i<(ii (bh known vals l):Int)
 evAll:∀t k x,k<w->(∀c:Int,0<=c->c<(n:Int)->kn known c=eL->x c=Gf.mul t (aP (aD vals c.toNat) k))->(∀e∈bh known vals l,Sat t k x e)->∀c:Int,0<=c->c<(n:Int)->x c=ev t k dead.length W M (λi=>x (dead.getD i 0)) c
section
variable {n w:Nat} {l:List fe} {ahead:aQ} {known:List Bool} {vals:aQ} {dead left:aF} {W M:aQ}
theorem oU(h:jH n w l known vals)(d:∀e∈l,iF n w e):∀e∈bh known vals l,iF n w e:=λe b=>by
 obtain⟨c,a,rfl⟩:=qw.1 (qI.1 b).1;exact h.CQ (d c a)
theorem Cl{a b:UInt8}:a^^^b=0↔a=b:=pI
theorem gA.Tg(S:gA n w l ahead known vals dead left W M){i:Int}(h:i∈left)(t:UInt8)(k:Nat)(y:Nat->UInt8):
  bP (λj=>aP (cO W (aO dead.length) ((bh known vals l).getD i.toNat ([],[])).1) j) y dead.length=Gf.mul t (aP (cO M ((bh known vals l).getD i.toNat ([],[])).2 ((bh known vals l).getD i.toNat ([],[])).1) k)↔Sat t k (ev t k dead.length W M y) ((bh known vals l).getD i.toNat ([],[])):=by
 have g:=S.leftR i h;have b:i.toNat<ii (bh known vals l):=i4
 have o:(bh known vals l).getD i.toNat ([],[])=(bh known vals l)[i.toNat]:=by rw[qe,qd b];rfl
 have a:=oU S.pinv S.eqs _ (qg b);rw[o];generalize (bh known vals l)[i.toNat]=e at*;have m:ii (aO dead.length)=ii dead:=k8
 have p:∀c∈e.1,ii (aD W c.toNat)=ii dead:=λc d=>((S.lens.2.2 c.toNat) (by have:=a.cS c d;omega)).1;have f:∀c∈e.1,ii (aD M c.toNat)=w:=λc d=>((S.lens.2.2 c.toNat) (by have:=a.cS c d;omega)).2;have:=Om m a.len p f t k y;rw[fE _ _ dead.length λj _=>cm _ _,wF]at this;rw[<-Cl,this];unfold Sat;rw[Cl];exact eq_comm
theorem gA.PP(S:gA n w l ahead known vals dead left W M)(r:Row)(t:UInt8)(k:Nat)(y:Nat->UInt8):
  bP (λj=>aP (gD W r (aO dead.length) n) j) y dead.length=Gf.mul t (aP (gD M r (aO w) n) k)↔bP (λj=>aP r j) (λc=>ev t k dead.length W M y (c:Int)) n=0:=by
 have e:=Td (V:=W) (m:=ii dead) r (a:=aO dead.length) k8 y dead.length (c:=n) λi b=>(S.lens.2.2 i b).1;have d:=KH (V:=M) (m:=w) r (a:=aO w) k8 k (c:=n) λi b=>(S.lens.2.2 i b).2;rw[e,d,fE _ _ dead.length λj _=>cm _ _,cm,wF,wF,<-Cl,<-Tf,<-Te];have:(λc:Nat=>ev t k dead.length W M y (c:Int))=λi=>bP (λj=>aP (aD W i) j) y dead.length^^^Gf.mul t (aP (aD M i) k):=by funext c;unfold ev;rw[ql]
 rw[this]
theorem gA.up(S:gA n w l ahead known vals dead left W M){t:UInt8}{k:Nat}{y:Nat->UInt8}(h:k<w)
  (g:∀i,i<ii (dn n dead.length (bh known vals l) W left ahead)->bP (λj=>aP (aD (dn n dead.length (bh known vals l) W left ahead) i) j) y dead.length=Gf.mul t (aP (aD (fv n w (bh known vals l) M left ahead) i) k)):
  (∀e∈l,Sat t k (ev t k dead.length W M y) e)/\∀r∈ahead,bP (λj=>aP r j) (λc=>ev t k dead.length W M y (c:Int)) n=0:=by
 refine⟨(SS S.pinv S.eqs S.calm h).2 ⟨λc h0 p m=>S.evKnown t k y c h0 p m,S.evRest t k y h λi f=>?_⟩,λr o=>?_⟩
 ·obtain⟨j,a,rfl⟩:=qH f;have:=g j m5;have b:aD (dn n dead.length (bh known vals l) W left ahead) j=cO W (aO dead.length) ((bh known vals l).getD left[j].toNat ([],[])).1:=by rw[bA m5];simp[dn,a]
  have d:aD (fv n w (bh known vals l) M left ahead) j=cO M ((bh known vals l).getD left[j].toNat ([],[])).2 ((bh known vals l).getD left[j].toNat ([],[])).1:=by rw[bA p5];simp[fv,a]
  rw[b,d]at this;exact(S.Tg f t k y).1 this
 ·obtain⟨j,a,rfl⟩:=qH o;have:=g (ii left+j) m5;have b:aD (dn n dead.length (bh known vals l) W left ahead) (ii left+j)=gD W ahead[j] (aO dead.length) n:=by rw[bA m5];simp[dn]
  have d:aD (fv n w (bh known vals l) M left ahead) (ii left+j)=gD M ahead[j] (aO w) n:=by rw[bA p5];simp[fv]
  rw[b,d]at this;exact(S.PP _ t k y).1 this
theorem gA.down(S:gA n w l ahead known vals dead left W M){t:UInt8}{k:Nat}{x:Int->UInt8}(s:k<w)(z:∀e∈l,Sat t k x e)(A:∀r∈ahead,bP (λj=>aP r j) (λc=>x (c:Int)) n=0):
  (∀c:Int,0<=c->c<(n:Int)->x c=ev t k dead.length W M (λi=>x (dead.getD i 0)) c)/\
  ∀i,i<ii (dn n dead.length (bh known vals l) W left ahead)->bP (λj=>aP (aD (dn n dead.length (bh known vals l) W left ahead) i) j) (λi=>x (dead.getD i 0)) dead.length=Gf.mul t (aP (aD (fv n w (bh known vals l) M left ahead) i) k):=by
 obtain⟨v,p⟩:=(SS S.pinv S.eqs S.calm s).1 z;have h:=S.evAll t k x s v p;refine⟨h,λi B=>?_⟩;simp only[dn,qx,qy]at B;by_cases a:i<ii left
 ·have g:aD (dn n dead.length (bh known vals l) W left ahead) i=cO W (aO dead.length) ((bh known vals l).getD left[i].toNat ([],[])).1:=by rw[bA m5];simp[dn,a]
  have o:aD (fv n w (bh known vals l) M left ahead) i=cO M ((bh known vals l).getD left[i].toNat ([],[])).2 ((bh known vals l).getD left[i].toNat ([],[])).1:=by rw[bA p5];simp[fv,a]
  rw[g,o];refine(S.Tg (qg a) t k _).2 ?_;have y:=S.leftR _ (qg a);have b:left[i].toNat<ii (bh known vals l):=i4
  have u:(bh known vals l).getD left[i].toNat ([],[])=(bh known vals l)[left[i].toNat]:=by rw[qe,qd b];rfl
  rw[u];have q:=p _ (qg b);have f:=oU S.pinv S.eqs _ (qg b);unfold Sat at q⊢;rw[<-q];exact kh λc m=>(h c (f.cS c m).1 (f.cS c m).2).symm
 ·obtain⟨d,rfl⟩:∃d,i=ii left+d:=⟨i-ii left,i4⟩
  have D:d<ii ahead:=i4
  have g:aD (dn n dead.length (bh known vals l) W left ahead) (ii left+d)=gD W ahead[d] (aO dead.length) n:=by rw[bA m5];simp[dn]
  have o:aD (fv n w (bh known vals l) M left ahead) (ii left+d)=gD M ahead[d] (aO w) n:=by rw[bA p5];simp[fv]
  rw[g,o];refine(S.PP _ t k _).2 ?_;rw[<-A _ (qg D)];exact fK n (λ_ _=>rfl) λc m=>(h (c:Int) i4 i4).symm
theorem pN(S:gA n w l ahead known vals dead left W M):aZ dead.length (dn n dead.length (bh known vals l) W left ahead)/\aZ w (fv n w (bh known vals l) M left ahead):=by
 have d:∀i∈left,iF n w ((bh known vals l).getD i.toNat ([],[])):=λi b=>by
  have h:=S.leftR i b;have e:i.toNat<ii (bh known vals l):=i4
  rw[qe,qd e];exact oU S.pinv S.eqs _ (qg e)
 constructor
 ·intro r a;rcases qz.1 a with a|a
  ·obtain⟨i,b,rfl⟩:=qw.1 a;exact jG k8 λc f=>((S.lens.2.2 c.toNat) (by have:=(d i b).cS c f;omega)).1
  ·obtain⟨x,g,rfl⟩:=qw.1 a;exact lS x k8 λi b=>(S.lens.2.2 i b).1
 ·intro r a;rcases qz.1 a with a|a
  ·obtain⟨i,b,rfl⟩:=qw.1 a;exact jG (d i b).len λc f=>((S.lens.2.2 c.toNat) (by have:=(d i b).cS c f;omega)).2
  ·obtain⟨x,g,rfl⟩:=qw.1 a;exact lS x k8 λi b=>(S.lens.2.2 i b).2
theorem BE:ii (dn n dead.length (bh known vals l) W left ahead)=ii (fv n w (bh known vals l) M left ahead):=by simp[dn,fv]
theorem gA.Ol(S:gA n w l ahead known vals dead left W M)(I:1<=w)(f:bW (dq n l ahead)=n):bW (dn n dead.length (bh known vals l) W left ahead)=ii dead:=by
 obtain⟨G,Y⟩:=pN S;have O:=mO G;by_cases B:bW (dn n dead.length (bh known vals l) W left ahead)<ii dead
 ·exfalso;obtain⟨y,⟨i,b,T⟩,K⟩:=kernel G B;have q:=S.up (t:=0) (k:=0) (y:=y) I λi b=>by rw[K _ (mem_row b),Gf.zero_mul]
  have H:=BC (l:=l) S.ahd;have s:aZ 1 (qh (dq n l ahead).length (aO 1)):=λr f=>by rw[(ye.1 f).2];simp[aO]
  have d:ii (dq n l ahead)=ii (qh (dq n l ahead).length (aO 1)):=i9
  have P:ft n 1 (dq n l ahead) (qh (dq n l ahead).length (aO 1)) (qh n (aO 1)):=by
   have a:aZ 1 (qh n (aO 1)):=λr f=>by rw[(ye.1 f).2];simp[aO]
   refine⟨i9,a,λi b=>?_⟩;refine ez (n:=1) (iu a i9 _ n (qn _)) (cl s k7) λk X=>?_;rw[gN a i9 _ k n (qn _)];have v:aD (qh (dq n l ahead).length (aO 1)) i=aO 1:=by rw[bA k7];simp
   rw[v,cm];have:∀g,g<=n->bP (λj=>aP (aD (dq n l ahead) i) j) (λc=>aP (aD (qh n (aO 1)) c) k) g=0:=by
    intro g
    induction g with
    |zero=>intro _;rfl
    |succ g ih=>
     intro Q;have N:aD (qh n (aO 1)) g=aO 1:=by rw[bA i7];simp
     rw[bP,ih i4,N,cm,Gf.mul_zero];rfl
   exact this n (qn _)
  have L:ft n 1 (dq n l ahead) (qh (dq n l ahead).length (aO 1)) ((qE n).map λc:Nat=>[ev 0 0 dead.length W M y (c:Int)]):=by
   have a:aZ 1 ((qE n).map λc:Nat=>[ev 0 0 dead.length W M y (c:Int)]):=λr f=>by obtain⟨c,_,rfl⟩:=qw.1 f;rfl
   have p:∀c:Nat,c<n->aD ((qE n).map λc:Nat=>[ev 0 0 dead.length W M y (c:Int)]) c=[ev 0 0 dead.length W M y (c:Int)]:=λc h=>by rw[bA j5];simp
   refine⟨i9,a,λi b=>?_⟩;refine ez (n:=1) (iu a i9 _ n (qn _)) (cl s k7) λk X=>?_;have E:k=0:=i4
   subst E;rw[gN a i9 _ 0 n (qn _)];have v:aD (qh (dq n l ahead).length (aO 1)) i=aO 1:=by rw[bA k7];simp
   rw[v,cm];have V:bP (λj=>aP (aD (dq n l ahead) i) j) (λc=>aP (aD ((qE n).map λc:Nat=>[ev 0 0 dead.length W M y (c:Int)]) c) 0) n=bP (λj=>aP (aD (dq n l ahead) i) j) (λc=>ev 0 0 dead.length W M y (c:Int)) n:=
    fK n (λ_ _=>rfl) λc h=>by rw[p c h];rfl
   rw[V];have x:aD (dq n l ahead) i∈ahead++l.map λe=>ga n e.1:=mem_row b;obtain F|F:=qz.1 x
   ·exact q.2 _ F
   ·obtain⟨e,u,D⟩:=qw.1 F;rw[<-D,Es _ (S.eqs e u).cS (S.eqs e u).nodup];have A:=q.1 e u;unfold Sat at A;rw[Gf.zero_mul]at A;refine Eq.trans (kh λc h=>?_) A;have:=(S.eqs e u).cS c h;rw[show((c.toNat:Nat):Int)=c by omega]
  have R:=(lR d H s f P).1;have U:=(lR d H s f L).1;have z:=U.trans R.symm;have J:=S.deadR _ (qg b);have o:=congrArg (λm=>aP (aD m dead[i].toNat) 0) z;rw[bA i7,bA i7]at o;simp only[List.getElem_map,List.getElem_range,List.getElem_replicate,cm]at o;rw[show((dead[i].toNat:Nat):Int)=dead[i]by omega]at o;have h8:aP [ev 0 0 dead.length W M y dead[i]] 0=ev 0 0 dead.length W M y dead[i]:=rfl;rw[h8,S.evDead 0 0 y i b]at o;exact T o
 ·omega
theorem Oq(S:gA n w l ahead known vals dead left W M){D:aQ}(g:ii D=ii dead)(f:aZ w D){c:Nat}(d:c<n):
  (aD (Ai dead.length known vals W M D) c).length=w/\∀k,aP (aD (Ai dead.length known vals W M D) c) k=ev 1 k dead.length W M (λi=>aP (aD D i) k) (c:Int):=by
 have j:=S.pinv.vlen;have a:aD (Ai dead.length known vals W M D) c=if known.getD c eR then aD vals c else gD D (aD W c) (aD M c) dead.length:=by unfold Ai;rw[Er i4]
 have e:=S.lens.2.2 c d;rw[a];cases hkn:known.getD c eR with
 |true=>
  rw[f9 rfl];refine⟨by have:=S.pinv.row c d;rw[hkn]at this;simpa using this,λk=>?_⟩;have:=S.evKnown 1 k (λi=>aP (aD D i) k) (c:Int) i4 i4 (by unfold kn;rw[ql];exact hkn);rw[this,ql,Gf.one_mul]
 |false=>
  rw[g0 i9];have b:∀i,i<ii dead->ii (aD D i)=w:=λi h=>cl f;refine⟨lS _ e.2 b,λk=>?_⟩;rw[KH _ e.2 k b];unfold ev;rw[ql,Gf.one_mul,vt]
theorem afK(h:ii vals=n){D:aQ}:ii (Ai dead.length known vals W M D)=n:=by simp[Ai,h]
theorem gA.Yf(S:gA n w l ahead known vals dead left W M){D:aQ}(p:ft dead.length w (dn n dead.length (bh known vals l) W left ahead) (fv n w (bh known vals l) M left ahead) D):ft n w (dq n l ahead) (ib w l ahead) (Ai dead.length known vals W M D):=by
 obtain⟨a,b,g⟩:=p;obtain⟨u,v⟩:=pN S;have h:=afK (dead:=dead) (known:=known) (W:=W) (M:=M) S.pinv.vlen (D:=D);refine(Et S.eqs).2 ⟨h,λr f=>?_,λk s=>?_⟩
 ·obtain⟨c,d,rfl⟩:=eS f;exact(Oq S a b i4).1
 ·have m:=S.up (t:=1) (k:=k) (y:=λi=>aP (aD D i) k) s λi q=>by
   have:=congrArg (λr=>aP r k) (g i q);rw[gN b a _ k dead.length (qn _)]at this;rw[this,Gf.one_mul]
  refine⟨λe j=>?_,λr f=>?_⟩
  ·have h3:=m.1 e j;unfold Sat at h3⊢;rw[<-h3];refine kh λc d=>?_;have o:=(S.eqs e j).cS c d;unfold at_;rw[(Oq S a b (show c.toNat<n by omega)).2 k,show((c.toNat:Nat):Int)=c by omega]
  ·rw[<-m.2 r f];exact fK n (λ_ _=>rfl) λc d=>(Oq S a b d).2 k
theorem gA.Vu(S:gA n w l ahead known vals dead left W M){X:aQ}(p:ft n w (dq n l ahead) (ib w l ahead) X):ft dead.length w (dn n dead.length (bh known vals l) W left ahead) (fv n w (bh known vals l) M left ahead) (dead.map λc=>aD X c.toNat):=by
 obtain⟨u,o,m⟩:=(Et S.eqs).1 p;obtain⟨s,q⟩:=pN S;have d:aZ w (dead.map λc=>aD X c.toNat):=λr e=>by
  obtain⟨c,g,rfl⟩:=qw.1 e;have:=S.deadR c g;exact cl o
 have b:ii (dead.map λc=>aD X c.toNat)=ii dead:=i9
 refine⟨b,d,λi h=>ez (n:=w) (iu d b _ _ (qn _)) (cl q (by rw[<-BE (n:=n) (w:=w)];exact h)) λk a=>?_⟩;rw[gN d b _ k dead.length (qn _)];have h3:=(S.down (t:=1) (x:=at_ X k) a (m k a).1 (λr e=>by
  have:=(m k a).2 r e;rw[<-this];exact fK n (λ_ _=>rfl) λc g=>by unfold at_;rw[ql])).2 i h
 rw[Gf.one_mul]at h3;rw[<-h3];refine fK _ (λ_ _=>rfl) λj f=>?_;unfold at_;rw[bA n5,qe,qd f];simp
end
def gZ(known:List Bool)(i:Nat):cV:=((qE i).filter λc=>known.getD c eR).map λc:Nat=>[(c:Int)]
theorem Ot(known:List Bool)(i:Nat):gZ known (i+1)=gZ known i++if known.getD i eR then[[(i:Int)]]else[]:=by unfold gZ;rw[List.range_succ,List.filter_append,List.map_append];cases h:known.getD i eR<;>simp only[zp,h,List.filter_nil]<;>rfl
theorem Fj(known:List Bool)(i:Nat):ii (gZ known i)<=i:=by unfold gZ;rw[qy];exact zi (qP _ _) i9
def rowsOf(R:List fe)(known:List Bool)(n:Nat):cV:=R.map qJ++gZ known n
def gw(R:List fe)(known:List Bool)(n:Nat):Pl:=dz n (rowsOf R known n)
def nv(R:List fe)(known:List Bool)(n:Nat):List (Int×Int):=(gw R known n).steps.filter λx=>decide (x.1<ii R)
def leftOf(R:List fe)(known:List Bool)(n:Nat):aF:=(fu (gw R known n).used (rowsOf R known n).length).filter λx=>decide (x<ii R)
theorem BF{known:List Bool}{n:Nat}{r:aF}(h:r∈gZ known n):∃c:Nat,r=[(c:Int)]/\c<n/\known.getD c eR=eL:=by obtain⟨c,a,rfl⟩:=qw.1 h;rw[qI,qG]at a;exact⟨c,i0,a.1,a.2⟩
theorem GY{rows:cV}:∀{d:List (Int×Int)} {D U:Int->Prop},sZ rows D U d->∀i c,(i,c)∈d->(0<=i/\i<ii rows)/\c∈rows.getD i.toNat []
 |[],_,_,_,_,_,h=>j6
 |(i',c')::t,D,U,hg,i,c,h=>by
  obtain⟨g,_,_,f,_,e⟩:=hg;rcases zd.1 h with h|h
  ·injection h with a b;subst a;subst b;exact⟨g,f⟩
  ·exact GY e i c h
section
variable {n w:Nat} {l:List fe} {ahead:aQ} {known:List Bool} {vals:aQ}
theorem vK(g:∀e∈bh known vals l,iF n w e):∀r∈rowsOf (bh known vals l) known n,∀c∈r,0<=c/\c<(n:Int):=λr a c b=>by
 rcases qz.1 a with a|a
 ·obtain⟨e,f,rfl⟩:=qw.1 a;exact(g e f).cS c b
 ·obtain⟨d,rfl,h,_⟩:=BF a;rw[qC]at b;subst b;omega
theorem PQ(h:∀e∈l,iF n w e)(f:jH n w l known vals):ta ((bh known vals l).map qJ) (·∈(gw (bh known vals l) known n).dead) (nv (bh known vals l) known n):=by
 have o:=oU f h;obtain⟨_,_,_,_,_,g⟩:=Ah (vK o);have:=Ck (R:=(bh known vals l).map qJ) (S:=gZ known n) (K:=λc=>kn known c=eL) (λr b c a=>?_) (λr b c a=>?_) g (D':=(·∈(gw (bh known vals l) known n).dead)) λc _=>Iff.rfl
 ·rw[qy]at this;exact this
 ·obtain⟨e,j,rfl⟩:=qw.1 b;obtain⟨k,m,rfl⟩:=qw.1 (qI.1 j).1;rw[GR f k c a];simp
 ·obtain⟨d,rfl,_,i⟩:=BF b;rw[qC]at a;subst a;unfold kn;rw[ql];exact i
theorem LV(m:∀e∈l,iF n w e)(o:jH n w l known vals):
  (∀c∈(gw (bh known vals l) known n).dead,0<=c/\c<(n:Int))/\(gw (bh known vals l) known n).dead.Nodup/\(∀c∈(gw (bh known vals l) known n).dead,kn known c=eR)/\
  (∀i∈leftOf (bh known vals l) known n,0<=i/\i<(ii (bh known vals l):Int))/\(gw (bh known vals l) known n).dead.length<=n:=by
 have k:=oU o m;obtain⟨p,r,a3,a4,a5,g⟩:=Ah (vK k);refine⟨a3,a4,λc h=>?_,λi a=>?_,by unfold gw;omega⟩
 ·have b:=a3 c h;cases hk:kn known c with
  |false=>rfl
  |true=>
   exfalso;have f:[c]∈rowsOf (bh known vals l) known n:=qz.2 (.inr (qw.2 ⟨c.toNat,qI.2 ⟨qG.2 i4,hk⟩,by rw[show((c.toNat:Nat):Int)=c by omega]⟩));exact En f n (qh n eL) (qh _ eR) (λi a=>by rw[GV]at a;cases a) (λd q f=>by have:=a3 d f;omega) b.1 h
 ·unfold leftOf at a;rw[qI]at a;have:=a5 i a.1;have j:i<(ii (bh known vals l):Int):=by simpa using a.2
  exact⟨this.1,j⟩
theorem adf(m:∀e∈l,iF n w e)(q:jH n w l known vals){c:Int}(t:0<=c)(u:c<(n:Int))(b:kn known c=eR):c∈(gw (bh known vals l) known n).dead∨∃i,(i,c)∈nv (bh known vals l) known n:=by
 have h:=oU q m;obtain⟨_,_,_,_,_,g⟩:=Ah (vK h);have a:=GX (vK h) n (qh n eL) (qh (rowsOf (bh known vals l) known n).length eR) i9 i9 c.toNat (by rw[qe,qd i7];simp);rw[show((c.toNat:Nat):Int)=c by omega]at a;rcases a with a|⟨i,a⟩
 ·exact .inl a
 ·refine .inr ⟨i,qI.2 ⟨a,?_⟩⟩;obtain⟨k,j⟩:=GY g i c a;by_cases o:i<(ii (bh known vals l):Int)
  ·simpa using o
  ·exfalso;have r:=k.2;rw[rowsOf,qx,qy]at r;have s:(rowsOf (bh known vals l) known n).getD i.toNat []∈gZ known n:=by rw[rowsOf,qe,qj m0,qd m0];exact qg _
   obtain⟨d,p,_,f⟩:=BF s;rw[p,qC]at j;subst j;unfold kn at b;rw[ql,f]at b;cases b
def RM(n w:Nat)(known:List Bool)(vals:aQ)(R:List fe):aQ×aQ:=
 ik (gw R known n).dead.length known vals ((nv R known n).foldl (gS R (gw R known n).dead.length) (fM n (gw R known n).dead.length w (gw R known n).dead))
theorem adg{nd:Nat}{s:aQ×aQ}{c:Int}(d:0<=c)(b:c.toNat<ii s.1)(a:c.toNat<ii s.2):
  aD (ik nd known vals s).1 c.toNat=(if kn known c then aO nd else aD s.1 c.toNat)/\aD (ik nd known vals s).2 c.toNat=if kn known c then aD vals c.toNat else aD s.2 c.toNat:=by
 unfold ik kn;exact⟨Er b,Er a⟩
theorem adh(F:∀e∈l,iF n w e)(hA:aZ n ahead)(z:jH n w l known vals)(U:ki known vals l=eR):
  gA n w l ahead known vals (gw (bh known vals l) known n).dead (leftOf (bh known vals l) known n) (RM n w known vals (bh known vals l)).1 (RM n w known vals (bh known vals l)).2:=by
 have B:=oU z F;have X:=PQ F z;have a:=λc h0 m o=>adf (c:=c) F z h0 m o;obtain⟨G,P,N,Z,f5⟩:=LV F z;have b:∀j:Nat,j<ii (bh known vals l)->(∃c,((j:Int),c)∈nv (bh known vals l) known n)∨(j:Int)∈leftOf (bh known vals l) known n:=λj S=>by
  cases hu:(gw (bh known vals l) known n).used.getD j eR with
  |true=>
   rcases GW n (qh n eL) (qh _ eR) j hu with h|⟨c,h⟩
   ·rw[GV]at h;cases h
   ·exact .inl ⟨c,qI.2 ⟨h,i7⟩⟩
  |false=>exact .inr (qI.2 ⟨(Em _ _ _).2 ⟨j,i0,by rw[rowsOf,qx,qy];omega,hu⟩,i7⟩)
 have s:∀e∈bh known vals l,∀c∈e.1,kn known c=eR:=λe A c M=>by
  obtain⟨e0,ab,rfl⟩:=qw.1 (qI.1 A).1;exact GR z e0 c M
 unfold RM;obtain⟨R,f⟩:∃R,R=bh known vals l:=⟨_,rfl⟩
 rw[<-f]at B X G P N Z f5 b a s⊢;obtain⟨D,Q⟩:∃D,D=(gw R known n).dead:=⟨_,rfl⟩
 obtain⟨ST,r⟩:∃ST,ST=nv R known n:=⟨_,rfl⟩
 rw[<-Q,<-r]at X a;rw[<-r]at b;rw[<-Q]at G P N f5;rw[<-Q,<-r];obtain⟨dk,du⟩:=Oo (nd:=ii D) (w:=w) G P D.length (qn _);rw[List.take_length]at dk du;obtain⟨v,keep,W,K⟩:=KF B X dk;generalize ad:ST.foldl (gS R D.length) (fM n D.length w D)=S0 at*;have T:=v.wl;have V:=v.ml;have fr:∀c:Int,0<=c->c<(n:Int)->aD (ik D.length known vals S0).1 c.toNat=(if kn known c then aO D.length else aD S0.1 c.toNat)/\aD (ik D.length known vals S0).2 c.toNat=if kn known c then aD vals c.toNat else aD S0.2 c.toNat:=λc h0 m=>adg h0 i4 i4
 have u:∀t k y (c:Int),0<=c->c<(n:Int)->kn known c=eR->ev t k D.length (ik D.length known vals S0).1 (ik D.length known vals S0).2 y c=ev t k D.length S0.1 S0.2 y c:=λt k y c h0 m o=>by
  have:=fr c h0 m;rw[o]at this;exact Eo this.1 this.2
 have E:∀t k y (c:Int),0<=c->c<(n:Int)->kn known c=eL->ev t k D.length (ik D.length known vals S0).1 (ik D.length known vals S0).2 y c=Gf.mul t (aP (aD vals c.toNat) k):=λt k y c h0 m o=>by
  have:=fr c h0 m;rw[o,f9 rfl,f9 rfl]at this;unfold ev;rw[this.1,this.2,fE _ _ D.length λj _=>cm _ _,wF]
 have L:∀t k y i,(h:i<ii D)->ev t k D.length (fM n D.length w D).1 (fM n D.length w D).2 y D[i]=y i:=λt k y i h=>by
  have:=du i h h;unfold ev;rw[this.1,this.2,ade h,cm,Gf.mul_zero,zX]
 have H:∀i:Int,0<=i->i<(ii R:Int)->R.getD i.toNat ([],[])∈R:=λi h0 m=>by
  rw[qe,qd i4];exact qg _
 refine⟨F,hA,z,U,G,P,N,⟨by simp[ik,T],by simp[ik,V],λc M=>?_⟩,E,λt k y i h=>?_,λt k y o I e A=>?_,by rw[<-f];exact Z,λt k x o hx I c h0 m=>?_⟩
 ·have h:=fr (c:Int) i4 i4;rw[ql]at h;rw[h.1,h.2];cases o:kn known (c:Int)with
  |true=>
   rw[f9 i0,f9 rfl];refine⟨k8,?_⟩;have:=z.GQ (c:=(c:Int)) i4 i4 o
   rwa [ql]at this
  |false=>
   rw[g0 i9,g0 i9];have:=v.rw_ (c:Int) (a _ i4 i4 o) i4 i4
   rwa [ql]at this
 ·have O:=G _ (qg h);rw[u t k y _ O.1 O.2 (N _ (qg h)),<-L t k y i h];exact Eo (keep _ (qg h) O.1).1 (keep _ (qg h) O.1).2
 ·rw[<-f]at A I;obtain⟨j,S,rfl⟩:=qH A;have ej:R.getD ((j:Int)).toNat ([],[])=R[j]:=by rw[ql,qe,qd S];rfl
  rcases b j S with⟨c,M⟩|hlf
  ·have:=W _ M t k y o;dsimp only at this;rw[ej]at this;unfold Sat at this⊢;rw[<-this];exact kh λd J=>u t k y d ((B _ A).cS d J).1 ((B _ A).cS d J).2 (s _ A d J)
  ·have:=I _ hlf
   rwa [ej]at this
 ·rw[<-f]at I;cases hkc:kn known c with
  |true=>rw[hx c h0 m hkc,E _ _ _ c h0 m hkc]
  |false=>
   rw[u _ _ _ c h0 m hkc];refine K t k x _ o (λd J Y h3=>?_) (λp hp=>?_) c (a c h0 m hkc) h0 m
   ·obtain⟨i,hi,rfl⟩:=qH J;rw[L t k _ i hi,qe,qd hi];rfl
   ·have q:p∈nv R known n:=r▸hp;unfold nv at q;rw[qI]at q;have Y:p.1<(ii R:Int):=by simpa using q.2
    have h3:0<=p.1:=by obtain⟨_,_,_,_,_,g⟩:=Ah (rows:=rowsOf R known n) (n:=n) (by rw[f];exact vK (f▸B));exact(GY g p.1 p.2 q.1).1.1
    exact I _ (H _ h3 Y)
end
def uL(n:Nat)(seed:Int)(l:List (Int×Row)):List fe:=l.map λx=>(dj n seed x.1,x.2)
def se(p:Int×Int×Int)(l:List (Int×Row)):aQ:=qh p.2.1.toNat (aO p.2.2.toNat)++l.map zH
structure BG (p:Int×Int×Int) (x:Int×Row):Prop where
 id:bV x.1=eL
 len:ii x.2=p.2.2.toNat
theorem afL{n:Nat}(d:1<=n)(c:n<=20)(seed id:Int):(dj n seed id).Pairwise (·<·):=by have a:=Vo n seed id;have b:=Eg d c seed id;rw[List.Nodup]at b;exact(a.and b).imp λ⟨d,c⟩=>i4
section
variable {p:Int×Int×Int} {seed:Int} {l:List (Int×Row)} {n w:Nat}
theorem ahe(b:1<=n)(a:n<=20)(i:∀x∈l,BG p x)(d:p.2.2.toNat=w):∀e∈uL n seed l,iF n w e/\e.1.Pairwise (·<·):=λe g=>by
 obtain⟨x,f,rfl⟩:=qw.1 g;exact⟨⟨λc h=>mM b a h,Eg b a seed x.1,by rw[<-d];exact(i x f).len⟩,afL b a seed x.1⟩
theorem Yg(e:bI p=eL)(c:(bS p).toNat=n)(d:∀x∈l,BG p x):dq n (uL n seed l) (bD p.1.toNat p.2.1.toNat)=dH p seed (l.map qJ):=by
 unfold dq dH uL;rw[f9 e,c];have:(l.map qJ).filter bV=l.map qJ:=zT.2 λi a=>by
  obtain⟨x,b,rfl⟩:=qw.1 a;exact(d x b).id
 rw[this,yd,yd];rfl
theorem Yh(a:p.2.2.toNat=w):ib w (uL n seed l) (bD p.1.toNat p.2.1.toNat)=se p l:=by unfold ib se uL;rw[a,yd];simp[bD]
end
section
variable {n w:Nat} {l:List fe} {ahead:aQ} {known:List Bool} {vals:aQ} {dead left:aF} {W M:aQ}
theorem aay(c:∀e∈l,iF n w e)(f:aZ n ahead)(g:jH n w l known vals)(a:ki known vals l=eL)(d:bW (dq n l ahead)=n):¬kT n (dq n l ahead) (ib w l ahead):=λh=>by
 obtain⟨k,i,b⟩:=Yd g c a;have j:=pJ vE (BC f) (BD c) d h;exact b _ (((Et c).1 j).2.2 k i).1
theorem gA.Xa(S:gA n w l ahead known vals dead left W M)(a:bW (dq n l ahead)=n){D:aQ}(b:ft dead.length w (dn n dead.length (bh known vals l) W left ahead) (fv n w (bh known vals l) M left ahead) D):
  kT n (dq n l ahead) (ib w l ahead)/\Ai dead.length known vals W M D=fX n (dq n l ahead) (ib w l ahead):=by
 have h:=lR vE (BC S.ahd) (BD S.eqs) a (S.Yf b);exact⟨h.2,h.1⟩
theorem gA.Xb(S:gA n w l ahead known vals dead left W M)(a:bW (dq n l ahead)=n)(b:kT n (dq n l ahead) (ib w l ahead)):ft dead.length w (dn n dead.length (bh known vals l) W left ahead) (fv n w (bh known vals l) M left ahead) (dead.map λc=>aD (fX n (dq n l ahead) (ib w l ahead)) c.toNat):=
 S.Vu (pJ vE (BC S.ahd) (BD S.eqs) a b)
theorem gA.Yi(S:gA n w l ahead known vals dead left W M)(f:1<=w)(b:bW (dq n l ahead)=n):kT dead.length (dn n dead.length (bh known vals l) W left ahead) (fv n w (bh known vals l) M left ahead)↔kT n (dq n l ahead) (ib w l ahead):=by obtain⟨d,e⟩:=pN S;have a:=S.Ol f b;exact⟨λc=>(S.Xa b (pJ BE d e a c)).1,λc=>(lR BE d e a (S.Xb b c)).2⟩
theorem LW{a b:aQ}(h:ii a=ii b):ft 0 w a b []↔∀r∈b,r=aO w:=by
 unfold ft;constructor
 ·rintro⟨_,_,h3⟩ r c;obtain⟨i,d,rfl⟩:=eS c;exact(h3 i i4).symm
 ·intro e;refine⟨i0,λr c=>(by cases c),λi d=>?_⟩;have:aD b i∈b:=mem_row;rw[e _ this];rfl
theorem afM(d:∀e∈l,e.1.Pairwise (·<·)):∀e∈bh known vals l,e.1.Pairwise (·<·):=λe b=>by
 obtain⟨c,a,rfl⟩:=qw.1 (qI.1 b).1;exact(d c a).filter _
theorem aaz:ii (bh known vals l)<=ii l:=by unfold bh;refine zi (qP _ _) ?_;simp
theorem aaA{m:Nat}(d:∀e∈l,ii e.1<=m):∀e∈bh known vals l,ii e.1<=m:=λe b=>by
 obtain⟨c,a,rfl⟩:=qw.1 (qI.1 b).1;exact zi (qP _ _) (d c a)
end
end Wl
namespace Go.Vc
open Go
section
variable {B:aB} {α:Type} {C:Ctx} {h0 h:Heap} {As:List HP} {e t t2 k by_:Nat} {s:Sl} {f:α->be} {d:List α} {z:be}
theorem Own.Ou(p:C.Ok)(E:bL C.toCM t e k z by_)(F:∃i y,C.T.get t2=dB i/\i.cT=.slice y)(g:∀x,ii (f x)=k)
  (n:Own h e s k f d) (j:∀x,∀c∈f x,c.oneCell'=eL) (i:Nat) (M:i<ii d) {ty:Nat} {K:Sl->Heap->Prop}
  (N:∀h',Own h' e s k f ((d.take i++d.drop (i+1))++d.drop (ii d-1))->aV (λb=>¬s.on b) h h'->K ⟨s.ptr,ii d-1,s.cap⟩ h'):
  az C.P (qt #[t,t2] ty #[.slice s.ptr i s.cap,.slice (if s.cap=i+1 then s.ptr else s.ptr.map (·.add ((i+1)*k))) (s.len-(i+1)) (s.cap-(i+1))]) (.one (.sc .slc)) h K:=by
 obtain⟨Q,y,J,O⟩:=F;have o:C.P.underlying t2=dB (.slice y):=by have:=p.cT J;rw[O]at this;exact jk this
 have D:=n.len;have m:=n.cap;have B:Seq h (λ_=>True) ⟨if s.cap=i+1 then s.ptr else s.ptr.map (·.add ((i+1)*k)),s.len-(i+1),s.cap-(i+1)⟩ k f (d.drop (i+1)):=Seq.drop (n.seq g λ_ _=>trivial) (i+1) m;obtain⟨v,a⟩:∃v:Sl,v=⟨if s.cap=i+1 then s.ptr else s.ptr.map (·.add ((i+1)*k)),s.len-(i+1),s.cap-(i+1)⟩:=⟨_,rfl⟩
 rw[<-a]at B;have L:(Value.slice (if s.cap=i+1 then s.ptr else s.ptr.map (·.add ((i+1)*k))) (s.len-(i+1)) (s.cap-(i+1)))=.slice v.ptr v.len v.cap:=by rw[a]
 have G:v.len=s.len-(i+1):=by rw[a]
 rw[L];unfold az qt;simp only[List.getElem?_toArray,List.getElem?_cons_zero,qu];refine ag.bind (ag.always (aJ (E.under p)) ?_);refine ag.bind (ag.always (E.size p) ?_);refine ag.bind (ag.always (aJ o) ?_);refine ag.bind (ag.pure' ?_);simp only[ze,if_false,yl,if_true];refine ag.bind (ag.pure' ?_);have l:i+v.len<=s.cap:=i4
 rw[f9 l];refine ag.bind (fH g B ?_);rcases n.head with⟨p1,p2,p3⟩|⟨b,rest,p1,p2,p3,p4⟩
 ·subst p3;simp at M
 ·rw[p1];refine ag.bind ?_;rw[add_eq,zQ];have w:d=d.take i++((d.drop i).take (ii d-1-i)++d.drop (ii d-1)):=by
   have I:(d.drop i).drop (ii d-1-i)=d.drop (ii d-1):=by rw[List.drop_drop];congr 1;omega
   rw[<-I,qA,qA]
  have q:((d.drop i).take (ii d-1-i)).length=ii d-1-i:=i7
  have A:ii (d.drop (i+1))=ii d-1-i:=i7
  refine dp (e:=e) (pre:=(d.take i).flatMap f) (old:=((d.drop i).take (ii d-1-i)).flatMap f) (post:=(d.drop (ii d-1)).flatMap f++rest) ?_ ?_ ?_ ?_ ?_
  ·have:(d.take i).flatMap f++((d.drop i).take (ii d-1-i)).flatMap f++((d.drop (ii d-1)).flatMap f++rest)=d.flatMap f++rest:=by
    conv=>rhs;rw[w]
    simp only[zg,qp]
   rw[this];exact p2
  ·rw[cQ g,cQ g,q,A]
  ·rw[cQ g,qU,Nat.min_eq_left i4];omega
  ·intro c H;obtain⟨x,_,r⟩:=zJ.1 H;exact j x c r
  ·have u:i+v.len=ii d-1:=i4
   rw[u];refine ag.pure' ⟨⟨dB ⟨b,0,none⟩,ii d-1,s.cap⟩,i0,?_⟩;rw[<-p1];refine N _ ⟨?_,.inr ⟨b,rest,p1,?_,p3,p4⟩⟩ ?_
   ·simp;omega
   ·rw[fW p2,f9 rfl];simp[zg]
   ·exact aV.gC p2 (λu=>u ⟨0,p1⟩)
theorem aa.Ou(r:C.Ok)(H:aa B h0 h As)(j:Nat)(m:As[j]?=dB (aq e s k f d))(w:bL C.toCM t e k z by_)(o:∃i u,C.T.get t2=dB i/\i.cT=.slice u)(p:∀x,ii (f x)=k)
  (a:∀x,∀c∈f x,c.oneCell'=eL) (i:Nat) (v:i<ii d) {ty:Nat} {K:Sl->Heap->Prop}
  (A:∀h',aa B h0 h' (As.set j (aq e s k f ((d.take i++d.drop (i+1))++d.drop (ii d-1))))->K ⟨s.ptr,ii d-1,s.cap⟩ h'):
  az C.P (qt #[t,t2] ty #[.slice s.ptr i s.cap,.slice (if s.cap=i+1 then s.ptr else s.ptr.map (·.add ((i+1)*k))) (s.len-(i+1)) (s.cap-(i+1))]) (.one (.sc .slc)) h K:=
 (H.own j m).Ou r w o p a i v λh' x y=>A h' (H.step j m λq n _=>⟨y.mono λb _ g l=>g (n.2 b l),x,λb g=>⟨x.lt g,.inl (n.2 b g)⟩⟩)
end
section
variable {P:Program}
theorem eq_int{t:TypeId}{k:IntKind}(c:P.underlying t=dB (.int k))(d:Nat)(a b:Int):aH P (Op.equalIn (d+1) t (xH xN a) (xH xN b)) (a==b):=λw=>by
 simp[Op.equalIn,underlying,c]
theorem vS{t:TypeId}(c:aH P (isAgg t) eR){a:Array Value}{off:Nat}{v:Value}(b:a[off]?=dB v):aH P (part t a off) v:=by unfold part;refine c.bind ?_;simp only[ze,if_false,b];exact .pure
structure Aj (P:Program) (t it:TypeId):Prop where
 u:∃f0 f1 f2:Field,P.underlying t=dB (.struct #[f0,f1,f2])/\f0.name≠ "_" /\f1.name≠ "_" /\f2.name≠ "_" /\f0.type=it/\f1.type=it/\f2.type=it/\f0.offset=0/\f1.offset=1/\f2.offset=2
 st:P.stoodInHeld t=eR
 i:P.underlying it=dB (.int .i64)
 a:aH P (isAgg it) eR
abbrev nW(x:Int×Int×Int):Value:=.agg #[xH xN x.1,xH xN x.2.1,xH xN x.2.2]
theorem Aj.eq{t g:TypeId}(K:Aj P t g)(d:Nat)(x y:Int×Int×Int):aH P (Op.equalIn (d+2) t (nW x) (nW y)) (decide (x=y)):=by
 obtain⟨D,T,M,S,J,n1,n2,t0,E,t2,G,s,Q⟩:=K.u;have o:∀z:Int×Int×Int,aH P (part g #[xH xN z.1,xH xN z.2.1,xH xN z.2.2] 0) (xH xN z.1):=λz=>vS K.a i0;have m:∀z:Int×Int×Int,aH P (part g #[xH xN z.1,xH xN z.2.1,xH xN z.2.2] 1) (xH xN z.2.1):=λz=>vS K.a i0;have n:∀z:Int×Int×Int,aH P (part g #[xH xN z.1,xH xN z.2.1,xH xN z.2.2] 2) (xH xN z.2.2):=λz=>vS K.a i0;unfold Op.equalIn;refine(aJ S).bind ?_;dsimp only;refine aH.bind (v:=P) (λw=>k9) ?_;rw[g0 (by rw[K.st];decide)];simp only[vJ,xq,List.forIn_nil];have B:∀(f:Field) (off:Nat) (a b:Int),f.name≠ "_" ->f.type=g->f.offset=off->aH P (part g #[Value.int .i64 x.1,xH xN x.2.1,xH xN x.2.2] off) (xH xN a)->aH P (part g #[Value.int .i64 y.1,xH xN y.2.1,xH xN y.2.2] off) (xH xN b)->
   aH P (do
    if f.name≠ "_" then
     let u<-part f.type #[Value.int .i64 x.1,xH xN x.2.1,xH xN x.2.2] f.offset;let v<-part f.type #[Value.int .i64 y.1,xH xN y.2.1,xH xN y.2.2] f.offset;let r<-Op.equalIn (d+1) f.type u v
     if(!r)=eL then pure (ForInStep.done (dB eR,()))else pure (ForInStep.yield ((none:Option Bool),()))
    else pure (ForInStep.yield (none,()))) (if a=b then ForInStep.yield (none,())else ForInStep.done (dB eR,())):=λf off a b L H q N p=>by
  rw[f9 L,H,q];refine N.bind (p.bind ((eq_int K.i d a b).bind ?_));by_cases e:a=b
  ·subst e;simp only[beq_self_eq_true,if_true];exact .pure
  ·have:(a==b)=eR:=ln
   rw[this,g0 e];exact .pure
 have c:=B D 0 _ _ J t0 G (o x) (o y);have h:=B T 1 _ _ n1 E s (m x) (m y);have j:=B M 2 _ _ n2 t2 Q (n x) (n y);obtain⟨A,R,x2⟩:=x;obtain⟨F,O,I⟩:=y;dsimp only at c h j⊢;by_cases h0:A=F
 ·rw[f9 h0]at c;by_cases l:R=O
  ·rw[f9 l]at h;by_cases k:x2=I
   ·rw[f9 k]at j;rw[g9 (by rw[h0,l,k])];exact aH.bind (c.bind (h.bind (j.bind .pure))) .pure
   ·rw[g0 k]at j;rw[hU (by simp[k])];exact aH.bind (c.bind (h.bind (j.bind .pure))) .pure
  ·rw[g0 l]at h;rw[hU (by simp[l])];exact aH.bind (c.bind (h.bind .pure)) .pure
 ·rw[g0 h0]at c;rw[hU (by simp[h0])];exact aH.bind (c.bind .pure) .pure
theorem Aj.check{t c:TypeId}(K:Aj P t c)(b:Bool)(n:Nat)(x:Int×Int×Int):aH P (vP b (n+2) t (nW x)) ():=by
 obtain⟨j,y,r,w,p,n1,n2,t0,k,t2,m,g,v⟩:=K.u;unfold vP;refine(aJ w).bind ?_;dsimp only;simp only[vJ,xq,List.forIn_nil];have B:∀(f:Field) (off:Nat) (a:Int),f.name≠ "_" ->f.type=c->f.offset=off->aH P (part c #[Value.int .i64 x.1,xH xN x.2.1,xH xN x.2.2] off) (xH xN a)->
   aH P (do
    if f.name≠ "_" then
     let u<-part f.type #[Value.int .i64 x.1,xH xN x.2.1,xH xN x.2.2] f.offset
     vP b (n+1) f.type u
     pure (ForInStep.yield PUnit.unit)
    else pure (ForInStep.yield PUnit.unit)) (ForInStep.yield PUnit.unit):=λf off a q o e s=>by
  rw[f9 q,o,e];exact s.bind ((xp K.i n).bind .pure)
 have d:=B j 0 _ p t0 m (vS K.a i0);have h:=B y 1 _ n1 k g (vS K.a i0);have l:=B r 2 _ n2 t2 v (vS K.a i0);exact aH.bind (d.bind (h.bind (l.bind .pure))) .pure
theorem Aj.ask{t p:TypeId}(K:Aj P t p)(x:Int×Int×Int):∀(L:List MapEntry) (a:List (Int×Int×Int)) (i:Nat),L.map (λe=>(e.key,e.val))=a.map (λk=>(nW k,Value.bool eL))->
  (x∉a->aH P (yI t (nW x) L i) none)/\(x∈a->∃j,a[j]?=dB x/\aH P (yI t (nW x) L i) (dB (i+j,.bool eL)))
 |[],[],i,_=>⟨λ_=>.pure,λh=>j6⟩
 |[],_::_,_,h=>ld
 |_::_,[],_,h=>ld
 |e::L,k::a,i,h=>by
  simp only[List.map_cons,List.cons.injEq,Prod.mk.injEq]at h;obtain⟨⟨o,f⟩,h3⟩:=h;obtain⟨q,n⟩:=Aj.ask K x L a (i+1) h3;have b:aH P (Op.equal t (nW x) e.key) (decide (x=k)):=by rw[o];exact K.eq 9998 x k
  by_cases c:x=k
  ·rw[g9 c]at b;refine⟨λd=>absurd (by rw[c];exact zb) d,λ_=>⟨0,by rw[c];rfl,?_⟩⟩;unfold yI;refine b.bind ?_;rw[f9 i0,f];exact .pure
  ·rw[hU c]at b;refine⟨λd=>?_,λr=>?_⟩
   ·unfold yI;refine b.bind ?_;rw[g0 i5];exact q λm=>d (qS _ m)
   ·obtain⟨j,g,l⟩:=n (by rcases zd.1 r with h|h;exact absurd h c;exact h);refine⟨j+1,by rw[qu];exact g,?_⟩;unfold yI;refine b.bind ?_;rw[g0 i5,show i+(j+1)=i+1+j by omega];exact l
theorem Aj.find{t o:TypeId}(K:Aj P t o)(x:Int×Int×Int)(L:List MapEntry)(c:List (Int×Int×Int))(h:L.map (λe=>(e.key,e.val))=c.map λk=>(nW k,Value.bool eL)):
  (x∉c->aH P (vB t (nW x) L) none)/\(x∈c->∃j,c[j]?=dB x/\aH P (vB t (nW x) L) (dB (j,.bool eL))):=by
 obtain⟨r,w,s,q,_⟩:=K.u;obtain⟨m,p⟩:=K.ask x L c 0 h;have a:∀v,aH P (yI t (nW x) L 0) v->aH P (vB t (nW x) L) v:=λv d=>by
  unfold vB;refine(aJ q).bind ?_;cases L with
  |nil=>
   have:v=none:=by
    have b:=d (default:World);unfold yI at b;have g:(pure none:Sem (Option (Nat×Value))).run P (default:World)=.ok none default:=rfl;rw[g]at b;injection b with b
    exact b.symm
   rw[this];exact .pure
  |cons e L=>exact d
 refine⟨λn=>a _ (m n),λi=>?_⟩;obtain⟨j,l,f⟩:=p i;rw[zQ]at f;exact⟨j,l,a _ f⟩
structure Cm (h:Heap) (r:Nat) (ks:List (Int×Int×Int)):Prop where
 ex:∃es clock,h[r]?=dB (.map es clock)/\es.toList.map (λe=>(e.key,e.val))=ks.map (λk=>(nW k,Value.bool eL))
theorem Cm.ai{h h':Heap}{r:Nat}{b:List (Int×Int×Int)}{p:aB}(i:Cm h r b)(d:aV p h h')(e:p r):Cm h' r b:=by obtain⟨f,a,g,c⟩:=i.ex;exact⟨f,a,d.block e g,c⟩
theorem Cm.lt{h:Heap}{r:Nat}{c:List (Int×Int×Int)}(d:Cm h r c):r<h.size:=by obtain⟨f,a,b,e⟩:=d.ex;exact lt_of_block b
theorem Cm.lookup{h:Heap}{r:Nat}{b:List (Int×Int×Int)}{t e f o:Nat}{x:Int×Int×Int}(q:Cm h r b)(m:P.underlying t=dB (.map e f))(K:Aj P e o)(i:aH P (zeroValue f) (.bool eR))
  {C:Bool->Heap->Prop} (c:C (decide (x∈b)) h):az P (xv t (.map (dB r)) (nW x) eR) (.one (.sc .bool)) h C:=by
 obtain⟨k,d,n,g⟩:=q.ex;unfold az xv;refine ag.bind (ag.always (aJ m) ?_);refine ag.bind (ag.II n (λ_ _ _ h=>j6) ?_);refine ag.bind (ag.pure' ?_);refine ag.bind (ag.always (K.check _ 9998 x) ?_);obtain⟨s,p⟩:=K.find x k.toList b g;by_cases a:x∈b
 ·obtain⟨j,u,l⟩:=p a;refine ag.bind (ag.always l ?_);refine ag.bind (ag.pure' (ag.pure' ?_));rw[g9 a]at c;exact⟨eL,i0,c⟩
 ·refine ag.bind (ag.always (s a) ?_);refine ag.bind (ag.always i ?_);refine ag.bind (ag.pure' (ag.pure' ?_));rw[hU a]at c;exact⟨eR,i0,c⟩
theorem Cm.update{h:Heap}{r:Nat}{c:List (Int×Int×Int)}{t u F B:Nat}{x:Int×Int×Int}(H:Cm h r c)(A:P.underlying t=dB (.map u F))(K:Aj P u B)
  {C:Unit->Heap->Prop} (v:∀h',Cm h' r (if x∈c then c else c++[x])->aV (·≠r) h h'->h'.size=h.size->C () h'):
  ag P (vk t (.map (dB r)) (nW x) (.bool eL)) h C:=by
 obtain⟨a,n,g,d⟩:=H.ex;have s:=lt_of_block g;unfold vk;refine ag.bind (ag.always (aJ A) ?_);refine ag.bind (ag.II g (λ_ _ _ h=>j6) ?_);refine ag.bind (ag.always (K.check _ 9998 x) ?_);have ai:∀o,aV (·≠r) h (h.setIfInBounds r o):=λo=>aV.gC g λz=>z i0;obtain⟨I,E⟩:=K.find x a.toList c d;by_cases m:x∈c
 ·obtain⟨j,q,y⟩:=E m;refine ag.bind (ag.always y ?_);have w:ii a.toList=ii c:=by have:=congrArg List.length d;simpa using this
  have k:j<ii a.toList:=by rw[w];exact(List.getElem?_eq_some_iff.1 q).1
  have b:(a.toList[j]).key=nW x/\(a.toList[j]).val=.bool eL:=by
   have h3:=congrArg (λl=>l[j]?) d;simp only[qR,q,qd k,qQ]at h3;injection h3 with h3
   injection h3 with h4 h5
   exact⟨h4,h5⟩
  have G:a[j]?=dB a.toList[j]:=by rw[<-Array.getElem?_toList,qd k]
  dsimp only;rw[G];simp only[qQ,Option.getD_some,b.1];refine ag.bind ?_;unfold Instr.keyThatStays;have D:xw 10000 (nW x) (nW x)=eL:=by simp[xw]
  rw[D,f9 rfl];refine ag.pure' ?_;refine ag.IJ g (λ_ _ _ h=>j6) ?_;refine v _ ⟨_,_,by rw[wD,f9 i0,f9 s],?_⟩ (ai _) i9;rw[f9 m,<-d,Array.toList_modify];apply List.ext_getElem?;intro i;rw[qR,qR];by_cases f:j=i
  ·subst f;have p:(a.toList.modify j λe=>⟨nW x,.bool eL,e.born⟩)[j]?=dB ⟨nW x,.bool eL,a.toList[j].born⟩:=by rw[List.getElem?_modify,qd k];simp
   show Option.map _ (List.modify a.toList j λe=>⟨nW x,.bool eL,e.born⟩)[j]?=_;rw[p,qd k];simp only[qQ,b.1,b.2]
  ·rw[List.getElem?_modify];simp[f]
 ·refine ag.bind (ag.always (I m) ?_);refine ag.IJ g (λ_ _ _ h=>j6) ?_;refine v _ ⟨_,_,by rw[wD,f9 i0,f9 s],?_⟩ (ai _) i9;rw[g0 m];simp[d]
end
end Go.Vc
namespace Go.Qw
open Go Go.Vc
def kl:Nat->Nat->Nat->List (List Nat)
 |0,_,_=>[[]]
 |t+1,a,n=>(zP a (n-t-a)).flatMap λi=>(kl t (i+1) n).map (i::·)
def jO(n:Nat):List Nat->Option (List Nat)
 |[]=>none
 |x::l=>match jO n l with
  |some l'=>dB (x::l')
  |none=>if x+ii l+1<n then dB (zP (x+1) (ii l+1))else none
inductive pO (n:Nat):List Nat->List (List Nat)->Prop
 |last {l:List Nat}:jO n l=none->pO n l [l]
 |more {l l':List Nat} {L:List (List Nat)}:jO n l=dB l'->pO n l' L->pO n l (l::L)
theorem GZ{n:Nat}:∀{l a:List Nat},jO n l=dB a->ii a=ii l
 |[],_,h=>j6
 |x::l,a,h=>by
  unfold jO at h;cases hs:jO n l with
  |some m=>rw[hs]at h;injection h with h;subst h;simp[GZ hs]
  |none=>
   rw[hs]at h;dsimp only at h;split at h
   ·injection h with h;subst h;simp
   ·cases h
theorem pO.cons{n x t:Nat}{l:List Nat}{L R:List (List Nat)}(h:pO n l L)(a:ii l=t)(c:x+t+1<n)(b:pO n (zP (x+1) (t+1)) R):pO n (x::l) (L.map (x::·)++R):=by
 induction h with
 |last hs=>exact .more (by unfold jO;rw[hs];dsimp only;rw[f9 i4,a]) b
 |more hs _ ih=>exact .more (by unfold jO;rw[hs]) (ih (by rw[GZ hs,a]))
theorem pO.aiq{n x t:Nat}{l:List Nat}{L:List (List Nat)}(h:pO n l L)(a:ii l=t)(b:¬x+t+1<n):pO n (x::l) (L.map (x::·)):=by
 induction h with
 |last hs=>exact .last (by unfold jO;rw[hs];dsimp only;rw[g0 i4])
 |more hs _ ih=>exact .more (by unfold jO;rw[hs]) (ih (by rw[GZ hs,a]))
theorem Ha(n:Nat):∀t a,a+t<=n->pO n (zP a t) (kl t a n)
 |0,a,_=>.last i0
 |t+1,a,h=>by
  have b:∀m a,a+(t+1)<=n->m+1=n-t-a->pO n (zP a (t+1)) ((zP a (m+1)).flatMap λi=>(kl t (i+1) n).map (i::·)):=by
   intro m
   induction m with
   |zero=>
    intro a h c;have:=(Ha n t (a+1) i4).aiq (x:=a) (t:=t) i9 i4;simpa[yw]using this
   |succ m ih=>
    intro a h c;have:=(Ha n t (a+1) i4).cons (x:=a) (t:=t) i9 i4 (ih (a+1) i4 i4);rw[yw,yw (n:=m+1),zl];exact this
  have:=b (n-t-a-1) a h i4;rw[show n-t-a-1+1=n-t-a by omega]at this;exact this
theorem Th{n:Nat}:∀(i:Nat) (l m:List Nat),i<=ii l->jO n (l.drop i)=dB m->jO n l=dB (l.take i++m)
 |0,l,m,_,h=>j5
 |i+1,[],m,h,_=>ld
 |i+1,x::l,m,h,hs=>by
  have:=Th i l m j5 (by simpa using hs);unfold jO;rw[this];simp
theorem KI{n:Nat}:∀{t a:Nat} {s:List Nat},s∈kl t a n->ii s=t/\(∀x∈s,a<=x/\x<n)/\s.Pairwise (·<·)
 |0,a,s,h=>by simp[kl]at h;subst h;simp
 |t+1,a,s,h=>by
  simp only[kl,zJ,qw,List.mem_range'_1]at h;obtain⟨i,f,l,e,rfl⟩:=h;obtain⟨d,c,h3⟩:=KI e;refine⟨pa,?_,zF.2 ⟨λx b=>(c x b).1,h3⟩⟩;intro x b;rcases zd.1 b with rfl|b
  ·omega
  ·have:=c x b;omega
theorem Ti{n:Nat}:∀{t a:Nat} {s:List Nat},ii s=t->(∀x∈s,a<=x/\x<n)->s.Pairwise (·<·)->s∈kl t a n
 |0,a,s,h,_,_=>by simp[kl];simpa using h
 |t+1,a,[],h,_,_=>ld
 |t+1,a,x::l,h,hb,c=>by
  rw[zF]at c;have g:ii l=t:=j5
  simp only[kl,zJ,qw,List.mem_range'_1];have e:=hb x i9;refine⟨x,⟨e.1,?_⟩,l,Ti g (λy b=>⟨c.1 y b,(hb y ns).2⟩) c.2,i0⟩;have d:∀(l:List Nat) (x:Nat),(x::l).Pairwise (·<·)->(∀y∈x::l,y<n)->x+ii l<n:=by
   intro l
   induction l with
   |nil=>intro x _ b;exact b x i9
   |cons y l ih=>
    intro x c b;rw[zF]at c;have j:=ih y c.2 λz f=>b z (qS _ f);have i:=c.1 y i9;simp;omega
  have:=d l x (zF.2 c) λy b=>(hb y b).2;omega
def ch:Nat->Nat->Nat
 |_,0=>1
 |0,_+1=>0
 |n+1,k+1=>ch n k+ch n (k+1)
theorem nw(n:Nat):ch n 0=1:=by cases n<;>rfl
theorem Jf:∀(n k:Nat),n<k->ch n k=0
 |_,0,h=>i4
 |0,k+1,_=>rfl
 |n+1,k+1,h=>by rw[ch,Jf n k i4,Jf n (k+1) i4]
theorem Ov:∀n,ch n n=1
 |0=>rfl
 |n+1=>by rw[ch,Ov n,Jf n (n+1) i4]
theorem Hb:∀(n k:Nat),(k+1)*ch (n+1) (k+1)=(n+1)*ch n k
 |0,0=>rfl
 |0,k+1=>by rw[Jf 0 (k+1) i4,Jf (0+1) (k+1+1) i4];simp
 |n+1,0=>by
  have:=Hb n 0;rw[nw]at this⊢;rw[ch,nw,Nat.mul_add,this];omega
 |n+1,k+1=>by
  have c:=Hb n k;have a:=Hb n (k+1);rw[ch];have e:(k+1+1)*(ch (n+1) (k+1)+ch (n+1) (k+1+1))=((k+1)*ch (n+1) (k+1)+ch (n+1) (k+1))+(k+1+1)*ch (n+1) (k+1+1):=by rw[Nat.mul_add,zK (k+1)]
  rw[e,c,a];have b:ch (n+1) (k+1)=ch n k+ch n (k+1):=rfl;rw[b,zK (n+1),Nat.mul_add (n+1)];omega
theorem Xc{n k:Nat}(h:k<=n):ch n (k+1)*(k+1)=ch n k*(n-k):=by
 cases n with
 |zero=>
  have:k=0:=i4
  subst this;rfl
 |succ n=>
  have c:=Hb n k;have a:(n+1)*ch n k=(n+1-k)*ch (n+1) k:=by
   cases k with
   |zero=>rw[nw,nw];simp
   |succ k=>
    have h3:=Hb n k;have b:ch (n+1) (k+1)=ch n k+ch n (k+1):=rfl;have e:(n+1)*ch (n+1) (k+1)=(n+1)*ch n k+(n+1)*ch n (k+1):=by rw[b,Nat.mul_add]
    have d:(n+1-(k+1))*ch (n+1) (k+1)=(n+1)*ch (n+1) (k+1)-(k+1)*ch (n+1) (k+1):=Nat.sub_mul _ _ _;rw[d,h3,e];omega
  rw[vO,c,a,vO]
theorem air{n k:Nat}(h:2*(k+1)<=n+1):ch n k<=ch n (k+1):=by
 have b:=Xc (n:=n) (k:=k) i4;by_cases h0:ch n k=0
 ·omega
 ·have a:ch n k*(k+1)<=ch n (k+1)*(k+1):=by rw[b];exact Nat.mul_le_mul_left _ i4
  exact Nat.le_of_mul_le_mul_right a i4
theorem Tj:∀(n k:Nat),k<=n->ch n k=ch n (n-k)
 |0,0,_=>rfl
 |n+1,0,_=>by rw[nw,Nat.sub_zero,Ov]
 |n+1,k+1,h=>by
  by_cases c:k=n
  ·subst c;rw[Ov,Nat.sub_self,nw]
  ·have b:=Tj n k i4;have a:=Tj n (k+1) i4;rw[show n+1-(k+1)=(n-(k+1))+1 by omega,ch,ch,b,a,show n-k=n-(k+1)+1 by omega];omega
theorem KJ(n:Nat):∀t a,a<=n->ii (kl t a n)=ch (n-a) t
 |0,a,_=>by rw[nw];rfl
 |t+1,a,h=>by
  have b:∀m a,m=n-t-a->a<=n->ii ((zP a m).flatMap λi=>(kl t (i+1) n).map (i::·))=ch (n-a) (t+1):=by
   intro m
   induction m with
   |zero=>intro a d c;rw[Jf _ _ i4];rfl
   |succ m ih=>
    intro a d c;rw[yw,zl,qx,qy,KJ n t (a+1) i4,ih (a+1) i4 i4];rw[show n-a=n-(a+1)+1 by omega];rfl
  exact b _ a i0 h
def iV(n t:Int):Int:=if 0<=n/\n<=64/\0<=t/\t<=n then(min (ch n.toNat t.toNat) 4097:Nat)else 0
end Go.Qw
namespace Go.Vc
open Go
section
variable {C:Ctx} {t t2 e k:Nat} {z:be} {by_:Nat} {α:Type} {h h0:Heap} {p q B:aB} {s v:Sl} {f:α->be} {l l2:List α} {As:List HP}
end
section
variable {C:Ctx} {t e k:Nat} {z:be} {by_:Nat} {h:Heap} {s:Sl}
theorem Yj(b:C.Ok)(c:bL C.toCM t e k z by_)(n:Nat){x y:Int}(g:x=n)(i:y=n)(j:n<=s.cap){K:Sl->Heap->Prop}(m:K ⟨s.ptr,n,n⟩ h):
  az C.P (wW t (.slice s.ptr s.len s.cap) none (dB (xH xN x)) (dB (xH xN y))) (.one (.sc .slc)) h K:=by
 subst g;subst i;have d:aH C.P (we eL s.len s.cap none (dB (xH xN (n:Int))) (dB (xH xN (n:Int)))) (0,n,n):=λw=>by
  have o:¬((n:Int)<0):=i4
  have x2:¬((s.cap:Int)<(n:Int)):=i4
  have x3:(n:Int)<=(s.cap:Int):=i4
  have l:(0:Int)<=(n:Int):=i4
  simp[we,Instr.sliceBound,asIntOf,o,x2,x3,l]
 unfold az wW;refine ag.bind (ag.always (aJ (c.under b)) ?_);show ag C.P (xo t (.slice s.ptr s.len s.cap) none (dB (xH xN (n:Int))) (dB (xH xN (n:Int)))) h _;unfold xo;refine ag.bind (ag.always (aJ (c.under b)) ?_);refine ag.bind (ag.always d ?_);refine ag.bind (ag.always (c.size b) ?_);have f:(if n=0 then s.ptr else s.ptr.map (·.add (0*k)))=s.ptr:=by
  split
  ·rfl
  ·cases s.ptr with
   |none=>rfl
   |some a=>simp[Addr.add]
 refine ag.pure' ⟨⟨s.ptr,n,n⟩,?_,m⟩;show Value.slice (if n=0 then s.ptr else s.ptr.map (·.add (0*k))) (n-0) (n-0)=_;rw[f];rfl
end
end Go.Vc
