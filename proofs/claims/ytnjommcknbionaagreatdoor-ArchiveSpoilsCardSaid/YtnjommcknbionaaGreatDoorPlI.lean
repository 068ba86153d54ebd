/- Lemmas for the proof of the law; no condition. -/
import Derived.Test.YtnjommcknbionaaGreatDoorPlG
set_option linter.unusedVariables false
set_option linter.unusedSimpArgs false
open List renaming all_eq_true -> qT, any_eq_false -> wA, filter_cons -> zu, filter_eq_self -> wy, foldl_cons -> zw, getD_eq_getElem?_getD -> qg, getElem?_eq_getElem -> qd, getElem?_eq_none -> qX, getElem_mem -> qn, getElem_of_mem -> qQ, map_map -> wJ, mem_append -> qE, mem_filter -> q6, mem_map -> qH, mem_range -> qF, mem_replicate -> yX, mem_take_iff_getElem -> yM, nodup_cons -> yx, nodup_range -> vj, pairwise_iff_getElem -> zb, range -> qz, range' -> vB, replicate -> qi
open Bool renaming and_eq_true -> qA, false_eq_true -> q0, not_eq_true' -> yj, not_false -> we, not_true -> zY, or_eq_true -> zV
open Nat renaming add_sub_cancel -> yY, le_refl -> qt
open UInt8 renaming xor_comm -> vz, xor_zero -> zR, zero_xor -> wG
open Int renaming toNat_natCast -> qo
open Prod renaming fst -> qP, snd -> zF
set_option maxRecDepth 100000
namespace Wl
open Go Go.Vc
def cl(n:Int):Nat:=
 if n=0 then 0 else
  let m:=n.natAbs;let e:=m.log2
  (if n<0 then 2^63 else 0)+(1023+e)*2^52+(m-2^e)*2^(52-e)
structure ur where
 ax:Nat
 ay:Nat
 sx:Nat
 sy:Nat
 left:Int
 leg:Int
 second:Bool
def lF:Nat:=4607182418800017408
def Wy:ur:=⟨0,0,lF,0,1,1,false⟩
def kP(a b:Nat):Nat:=(fh.add a b).getD 0
def WH(a b:Nat):Nat:=(fh.sub a b).getD 0
def nM(a b:Nat):Nat:=(fh.mul a b).getD 0
def tx(a b:Nat):Nat:=WH (nM a 0) (nM b lF)
def ty(a b:Nat):Nat:=kP (nM a lF) (nM b 0)
def ur.on(s:ur):ur:=
 if s.left-1>0 then{s with ax:=kP s.ax s.sx,ay:=kP s.ay s.sy,left:=s.left-1}
 else{ax:=kP s.ax s.sx,ay:=kP s.ay s.sy,sx:=tx s.sx s.sy,sy:=ty s.sx s.sy,leg:=if s.second then s.leg+1 else s.leg,left:=if s.second then s.leg+1 else s.leg,second:=!s.second}
def ig:Nat->ur
 |0=>Wy
 |n+1=>(ig n).on
def ur.ok(s:ur):Bool:=
 (fh.add s.ax s.sx).isSome&&(fh.add s.ay s.sy).isSome&&(fh.mul s.sx 0).isSome&&(fh.mul s.sy lF).isSome&&(fh.sub (nM s.sx 0) (nM s.sy lF)).isSome&&(fh.mul s.sx lF).isSome&&(fh.mul s.sy 0).isSome&&(fh.add (nM s.sx lF) (nM s.sy 0)).isSome&&decide (1<=s.left)&&decide (s.left<=100)&&decide (1<=s.leg)&&decide (s.leg<=100)
structure IP where
 x:Int
 y:Int
 dx:Int
 dy:Int
 left:Int
 leg:Int
 turns:Int
def WI:IP:=⟨0,0,1,0,1,1,0⟩
def IP.on(s:IP):IP:=
 if s.left-1=0 then
  {x:=s.x+s.dx,y:=s.y+s.dy,dx:=-s.dy,dy:=s.dx,leg:=if(s.turns+1)%2=0 then s.leg+1 else s.leg,left:=if(s.turns+1)%2=0 then s.leg+1 else s.leg,turns:=s.turns+1}
 else{s with x:=s.x+s.dx,y:=s.y+s.dy,left:=s.left-1}
def dZ:Nat->IP
 |0=>WI
 |n+1=>(dZ n).on
def IP.ok(s:IP):Bool:=decide (-10<=s.x)&&decide (s.x<=10)&&decide (-10<=s.y)&&decide (s.y<=10)&&decide (-1<=s.dx)&&decide (s.dx<=1)&&decide (-1<=s.dy)&&decide (s.dy<=1)&&decide (1<=s.left)&&decide (s.left<=100)&&decide (1<=s.leg)&&decide (s.leg<=100)&&decide (0<=s.turns)&&decide (s.turns<=100)
theorem Wj:∀n,n<64->(ig n).ok=true:=by decide+kernel
theorem Vg:∀n,n<64->((ig n).ax==cl (dZ n).x&&(ig n).ay==cl (dZ n).y&&decide (-4<=(dZ n).x)&&decide ((dZ n).x<=4)&&decide (-4<=(dZ n).y)&&decide ((dZ n).y<=4))=true:=by decide+kernel
theorem Vh:∀i,i<9->∀j,j<9->fh.sub (cl ((i:Nat)-4:Int)) (cl ((j:Nat)-4:Int))=some (cl ((i:Int)-(j:Int))):=by decide+kernel
theorem Vi:∀i,i<17->fh.mul (cl ((i:Nat)-8:Int)) (cl ((i:Nat)-8:Int))=some (cl (((i:Nat)-8:Int)*((i:Nat)-8:Int))):=by decide+kernel
theorem Vj:∀i,i<9->∀j,j<9->fh.add (cl (((i:Nat):Int)*(i:Nat))) (cl (((j:Nat):Int)*(j:Nat)))=some (cl (((i:Nat):Int)*(i:Nat)+((j:Nat):Int)*(j:Nat))):=by decide+kernel
theorem Pa:∀m,m<129->∀n,n<129->fh.order (cl (m:Nat)) (cl (n:Nat))=some (compare m n):=by decide+kernel
theorem MV{seq a c:Int}{b:aQ}(d:b.length<=48):bR (gP seq a c b)=none:=by
 unfold bR gP;rw[xk (by decide) (by decide) (by simp[bq];omega)];dsimp only;rw[if_neg (by rintro⟨h,_⟩;exact absurd h (by decide))]
theorem rA{m:aC}{c:aQ}(h:c∈bc m):bR c=none:=by
 unfold bc at h;obtain⟨i,_,rfl⟩:=qH.1 h;exact MV (by simp;omega)
theorem Dy(m n:aC):(bc n).filterMap (cM m)=[]:=by
 rw[List.filterMap_eq_nil_iff];intro c a;unfold cM;rw[rA a]
def Dz(a b:cJ):Prop:=kw a b=true/\jt a b=false
theorem KH{l:List cJ}(h:l.Pairwise Dz):rx (l.mergeSort kw)=l:=by
 have m:l.mergeSort kw=l:=(MJ Rl (h.imp fun h=>h.1) (bJ.refl _)).symm;rw[m];unfold rx;have d:(qz l.length).filter (tj l)=qz l.length:=by
  refine wy.2 fun k d=>?_;have d:=qF.1 d;unfold tj;by_cases h0:k=0
  ·rw[decide_eq_true h0];rfl
  ·have:=(zb.1 h (k-1) k (by omega) d (by omega)).2;have j:l.getD k pS=l[k]:=by rw[qg,qd d];rfl
   have g:l.getD (k-1) pS=l[k-1]'(by omega):=by rw[qg,qd (by omega)];rfl
   rw[j,g];have e:jt l[k] (l[k-1]'(by omega))=false:=by
    unfold jt at this⊢;rw[decide_eq_false_iff_not]at this⊢;rintro⟨a,b,c⟩;exact this ⟨a.symm,b.symm,c.symm⟩
   rw[e,we,Bool.or_true]
 rw[d];apply List.ext_getElem?;intro i;rw[List.getElem?_map];by_cases f:i<l.length
 ·rw[List.getElem?_range f,qd f];show some (l.getD i pS)=_;rw[qg,qd f];rfl
 ·rw[qX (by simp;omega),qX (by omega)];rfl
theorem Gm{α:Type}{R:α->α->Prop}(m:∀a b c,R a b->R b c->R a c){l:List α}(h:∀i (k:i+1<l.length),R (l[i]'(by omega)) l[i+1]):l.Pairwise R:=by
 have g:∀d i (f:i+(d+1)<l.length),R (l[i]'(by omega)) l[i+(d+1)]:=by
  intro d
  induction d with
  |zero=>exact fun i f=>h i f
  |succ d ih=>exact fun i f=>m _ _ _ (ih i (by omega)) (h (i+(d+1)) (by omega))
 refine zb.2 fun i j k f n=>?_;have:=g (j-i-1) i (by omega);have e:i+(j-i-1+1)=j:=by omega
 simp only[e]at this;exact this
theorem Gn{α:Type}{R:α->α->Prop}{l:List α}(h:l.Pairwise R)(i:Nat)(a:i+1<l.length):R (l[i]'(by omega)) l[i+1]:=zb.1 h i (i+1) (by omega) a (by omega)
theorem gV{α:Type}{l:List α}{i:Nat}(d:α)(h:i<l.length:=by omega):l.getD i d=l[i]:=by rw[qg,qd h];rfl
theorem jl(n a b:Int):dE n a b=true↔a<=n/\n<=b:=by unfold dE;rw[qA,decide_eq_true_eq,decide_eq_true_eq]
theorem Pb(l:aB)(e:Int):ly l e=true↔l.Pairwise (·<·)/\∀x∈l,0<=x/\x<=e:=by
 unfold ly;rw[qT];constructor
 ·intro h;have j:∀i (d:i<l.length),(0<=l[i]/\l[i]<=e)/\(i=0∨l.getD (i-1) 0<l[i]):=fun i d=>by
   have:=h i (qF.2 d);unfold gz at this;rw[gV 0 d,qA,jl,zV,decide_eq_true_eq,decide_eq_true_eq]at this;exact this
  refine⟨Gm (R:=fun a b:Int=>a<b) (fun a b c g f=>Int.lt_trans g f) fun i d=>?_,fun x k=>?_⟩
  ·rcases(j (i+1) d).2 with h0|h0
   ·omega
   ·rw[yY,gV 0]at h0;exact h0
  ·obtain⟨i,d,rfl⟩:=qQ k;exact(j i d).1
 ·rintro⟨g,f⟩ i d;have d:=qF.1 d;unfold gz;rw[gV 0 d,qA,jl,zV,decide_eq_true_eq,decide_eq_true_eq];refine⟨f _ (qn d),?_⟩;cases i with
  |zero=>exact .inl rfl
  |succ i=>exact .inr (by rw[yY,gV 0];exact Gn g i d)
theorem IQ(a b c:ByteArray)(e:dw a b=true)(d:dw b c=true):dw a c=true:=AP _ _ _ e d
theorem dp(m:aC):bN m=true↔ir m=true/\m.drives.Pairwise (·<·)/\(∀k∈m.drives,0<=k/\k<=63)/\m.aF.length<=12/\(∀e∈m.aF,fE m e=true)/\m.aF.Pairwise (fun a b=>dw a.name b.name=true)/\m.aF.Pairwise (fun a b=>a.object≠b.object):=by
 unfold bN;rw[qA,qA,qA,Pb,decide_eq_true_eq,qT];have n:(∀i∈qz m.aF.length,lz m i=true)↔(∀e∈m.aF,fE m e=true)/\m.aF.Pairwise (fun a b=>dw a.name b.name=true)/\m.aF.Pairwise (fun a b=>a.object≠b.object):=by
  constructor
  ·intro h;have o:∀i (l:i<m.aF.length),fE m m.aF[i]=true/\(i=0∨dw (lx m.aF (i-1)).name m.aF[i].name=true)/\∀y∈m.aF.take i,y.object≠m.aF[i].object:=fun i l=>by
    have:=h i (qF.2 l);unfold lz at this;rw[kN l,qA,qA,zV,decide_eq_true_eq,yj,wA]at this;exact⟨this.1,this.2.1,fun y r=>by have:=this.2.2 y r;simpa using this⟩
   refine⟨fun e t=>?_,Gm (R:=fun a b:ca=>dw a.name b.name=true) (fun a b c q p=>IQ _ _ _ q p) fun i l=>?_,zb.2 fun i j l s u=>?_⟩
   ·obtain⟨i,l,rfl⟩:=qQ t;exact(o i l).1
   ·rcases(o (i+1) l).2.1 with h0|h0
    ·omega
    ·rw[yY,kN]at h0;exact h0
   ·refine(o j s).2.2 m.aF[i] ?_;exact yM.2 ⟨i,by omega,rfl⟩
  ·rintro⟨q,p,h3⟩ i l;have l:=qF.1 l;unfold lz;rw[kN l,qA,qA,zV,decide_eq_true_eq,yj,wA];refine⟨q _ (qn l),?_,fun y r=>?_⟩
   ·cases i with
    |zero=>exact .inl rfl
    |succ i=>exact .inr (by rw[yY,kN];exact Gn p i l)
   ·obtain⟨j,s,rfl⟩:=yM.1 r;have:=zb.1 h3 j i (by omega) l (by omega);simpa using this
 rw[n];constructor
 ·rintro⟨a,⟨b,c⟩,d,e,f,g⟩;exact⟨a,b,c,d,e,f,g⟩
 ·rintro⟨a,b,c,d,e,f,g⟩;exact⟨a,⟨b,c⟩,d,e,f,g⟩
theorem gW(m:aC):ir m=true↔(1<=m.seq/\m.seq<=2147483647)/\(0<=m.next/\m.next<=16777216)/\bC m.p=true/\0<=m.extra/\m.extra<=16:=by
 unfold ir;rw[qA,qA,qA,jl,jl,jl]
theorem jB(m:aC)(x:ca):fE m x=true↔gH x.name=true/\(0<=x.object/\x.object<m.next)/\(0<=x.length/\x.length<=m.p.1*m.p.2.2*8)/\(∀t∈x.tries,0<=t/\t<=15)/\(x.tries.length:Int)=countP m.p x.length:=by
 unfold fE;rw[qA,qA,qA,qA,jl,jl,qT,decide_eq_true_eq];simp only[jl];constructor
 ·rintro⟨a,b,c,d,e⟩;exact⟨a,⟨b.1,by omega⟩,c,d,e⟩
 ·rintro⟨a,b,c,d,e⟩;exact⟨a,⟨b.1,by omega⟩,c,d,e⟩
theorem MW{m:aC}(h:bN m=true):m.drives.Nodup:=((dp m).1 h).2.1.imp fun h e=>by omega
theorem mT{m:aC}(h:bN m=true):∀k∈m.drives,0<=k/\k<64:=fun k a=>by have:=((dp m).1 h).2.2.1 k a;omega
theorem IR:∀{l:aB} {a b:Int},l.Pairwise (·<·)->(∀k∈l,a<=k/\k<b)->a<=b->(l.length:Int)<=b-a
 |[],a,b,_,_,h=>by simp;omega
 |x::l,a,b,hp,hl,h=>by
  obtain⟨e,d⟩:=List.pairwise_cons.1 hp;have f:=hl x List.mem_cons_self;have:=IR (a:=x+1) (b:=b) d (fun k c=>⟨by have:=e k c;omega,(hl k (List.mem_cons_of_mem _ c)).2⟩) (by omega);rw[List.length_cons];omega
theorem nh{m:aC}(h:bN m=true):m.drives.length<=64:=by
 have:=IR ((dp m).1 h).2.1 (mT h) (by decide);omega
end Wl
namespace Go.Qw
open Go Go.Vc
def pV(n:Nat):List Nat->Option (List Nat)
 |[]=>none
 |x::l=>match pV n l with
  |some l'=>some (x::l')
  |none=>if x+l.length+1<n then some (vB (x+1) (l.length+1))else none
inductive Cp (n:Nat):List Nat->List (List Nat)->Prop
 |last {l:List Nat}:pV n l=none->Cp n l [l]
 |more {l l':List Nat} {L:List (List Nat)}:pV n l=some l'->Cp n l' L->Cp n l (l::L)
theorem Gp{n:Nat}:∀{l a:List Nat},pV n l=some a->a.length=l.length
 |[],_,h=>by cases h
 |x::l,a,h=>by
  unfold pV at h;cases hs:pV n l with
  |some m=>rw[hs]at h;injection h with h;subst h;simp[Gp hs]
  |none=>
   rw[hs]at h;dsimp only at h;split at h
   ·injection h with h;subst h;simp
   ·cases h
theorem Cp.cons{n x t:Nat}{l:List Nat}{L R:List (List Nat)}(h:Cp n l L)(a:l.length=t)(c:x+t+1<n)(b:Cp n (vB (x+1) (t+1)) R):Cp n (x::l) (L.map (x::·)++R):=by
 induction h with
 |last hs=>exact .more (by unfold pV;rw[hs];dsimp only;rw[if_pos (by omega),a]) b
 |more hs _ ih=>exact .more (by unfold pV;rw[hs]) (ih (by rw[Gp hs,a]))
def ch:Nat->Nat->Nat
 |_,0=>1
 |0,_+1=>0
 |n+1,k+1=>ch n k+ch n (k+1)
end Go.Qw
namespace Wl
open Classical
def Wk(r:Row):Nat:=r.findIdx (fun x=>x !=0)
section
variable {n:Nat} {m M A:aT}
structure WQ (n:Nat) (M A:aT):Prop where
 even:aW n M
 evenA:aW n A
 span:∀v,Span n M v↔Span n A v
 len:M.length=cR A
 lead:∀x∈M,Wk x<n
theorem Rz(a:aW n m):Way n m n (cR m) (bu m (fe m)).2:=by
 have h:=AS a n (qt _);cases m with
 |nil=>rw[iM]at h;rw[cR,iM];exact h
 |cons x t=>
  have b:fe (x::t)=n:=by rw[fe,bE (by simp)];exact a _ (by simp)
  rw[cR,b];exact h
end
open Go
abbrev ij:=aB×Row
def cv(x:Int->UInt8):aB->UInt8
 |[]=>0
 |c::l=>x c^^^cv x l
theorem oa{x y:Int->UInt8}:∀{l:aB},(∀c∈l,x c=y c)->cv x l=cv y l
 |[],_=>rfl
 |c::l,h=>by rw[cv,cv,h c (by simp),oa fun d a=>h d (by simp[a])]
theorem Bo(x:Int->UInt8)(p:Int->Bool):∀l,cv x l=cv x (l.filter p)^^^cv x (l.filter fun c=>!p c)
 |[]=>by simp[cv]
 |c::l=>by
  rw[cv,Bo x p l];cases h:p c<;>simp only[zu,h,zY,we,if_true,q0,if_false,cv]<;>ac_rfl
theorem Gq(x:Int->UInt8){c:Int}:∀{l:aB},l.Nodup->c∈l->cv x l=x c^^^cv x (l.filter fun d=>!decide (d=c))
 |[],_,h=>by cases h
 |d::l,hd,h=>by
  rw[yx]at hd;rcases List.mem_cons.1 h with rfl|h
  ·have:l.filter (fun d=>!decide (d=c))=l:=wy.2 fun e f=>by
    have:e≠c:=fun a=>hd.1 (a▸f);simp[this]
   rw[zu];simp only[decide_true,zY,q0,if_false];rw[this,cv]
  ·have b:d≠c:=fun a=>hd.1 (a▸h);rw[zu,if_pos (by simp[b]),cv,cv,Gq x hd.2 h];ac_rfl
theorem IS(x y:Int->UInt8):∀l,cv (fun c=>x c^^^y c) l=cv x l^^^cv y l
 |[]=>by simp[cv]
 |c::l=>by rw[cv,cv,cv,IS x y l];ac_rfl
theorem xy:∀{x:Int->UInt8} {l:aB},(∀c∈l,x c=0)->cv x l=0
 |_,[],_=>rfl
 |x,c::l,h=>by rw[cv,h c (by simp),xy fun d a=>h d (by simp[a])];rfl
def ib(V:aT)(a:Row)(l:aB):Row:=l.foldl (fun a c=>cV 1 (az V c.toNat) a) a
theorem tq{V:aT}{m:Nat}:∀{l:aB} {a:Row},a.length=m->(∀c∈l,(az V c.toNat).length=m)->(ib V a l).length=m
 |[],a,h,_=>h
 |c::l,a,h,hv=>by
  rw[ib,zw];exact tq (l:=l) (by rw[bG (by rw[hv c (by simp),h])];exact h) fun d b=>hv d (by simp[b])
theorem Cq{V:aT}{m:Nat}(j:Nat):∀{l:aB} {a:Row},a.length=m->(∀c∈l,(az V c.toNat).length=m)->aJ (ib V a l) j=aJ a j^^^cv (fun c=>aJ (az V c.toNat) j) l
 |[],a,_,_=>by simp[ib,cv]
 |c::l,a,h,hv=>by
  have b:(az V c.toNat).length=a.length:=by rw[hv c (by simp),h]
  rw[ib,zw];have:=Cq (V:=V) j (l:=l) (a:=cV 1 (az V c.toNat) a) (by rw[bG b];exact h) fun d e=>hv d (by simp[e]);rw[ib]at this;rw[this,ce b,Gf.one_mul,cv];ac_rfl
def Sat(t:UInt8)(k:Nat)(x:Int->UInt8)(e:ij):Prop:=cv x e.1=Gf.mul t (aJ e.2 k)
structure xz (n w:Nat) (e:ij):Prop where
 eZ:∀c∈e.1,0<=c/\c<(n:Int)
 nodup:e.1.Nodup
 len:e.2.length=w
def kn(known:List Bool)(c:Int):Bool:=known.getD c.toNat false
def mU(known:List Bool)(aU:aT)(e:ij):ij:=(e.1.filter fun c=>!kn known c,ib aU e.2 (e.1.filter fun c=>kn known c))
structure tu (n w:Nat) (l:List ij) (known:List Bool) (aU:aT):Prop where
 klen:known.length=n
 vlen:aU.length=n
 row:∀c:Nat,c<n->(az aU c).length=if known.getD c false then w else 0
 sound:∀t k x,k<w->(∀e∈l,Sat t k x e)->∀c:Int,0<=c->c<(n:Int)->kn known c=true->x c=Gf.mul t (aJ (az aU c.toNat) k)
section
variable {n w:Nat} {l:List ij} {known:List Bool} {aU:aT}
theorem tu.Pc(h:tu n w l known aU){c:Int}(b:0<=c)(d:c<(n:Int))(a:kn known c=true):(az aU c.toNat).length=w:=by
 have:=h.row c.toNat (by omega);rw[kn]at a;rw[a]at this;simpa using this
theorem tu.Pd(h:tu n w l known aU){e:ij}(b:xz n w e):xz n w (mU known aU e):=
 ⟨fun c d=>b.eZ c (q6.1 d).1,b.nodup.filter _,tq b.len fun c d=>by
  have a:=q6.1 d;exact h.Pc (b.eZ c a.1).1 (b.eZ c a.1).2 a.2⟩
theorem tu.LW(h:tu n w l known aU){e:ij}(f:xz n w e){t:UInt8}{k:Nat}{x:Int->UInt8}(o:∀c:Int,0<=c->c<(n:Int)->kn known c=true->x c=Gf.mul t (aJ (az aU c.toNat) k)):
  Sat t k x (mU known aU e)↔Sat t k x e:=by
 have d:∀c∈e.1.filter (fun c=>kn known c),(az aU c.toNat).length=w:=fun c g=>by
  have b:=q6.1 g;exact h.Pc (f.eZ c b.1).1 (f.eZ c b.1).2 b.2
 have j:cv x (e.1.filter fun c=>kn known c)=Gf.mul t (cv (fun c=>aJ (az aU c.toNat) k) (e.1.filter fun c=>kn known c)):=by
  rw[oa (y:=fun c=>Gf.mul t (aJ (az aU c.toNat) k)) fun c g=>o c (f.eZ c (q6.1 g).1).1 (f.eZ c (q6.1 g).1).2 (q6.1 g).2];generalize e.1.filter (fun c=>kn known c)=m
  induction m with
  |nil=>simp[cv,Gf.mul_zero]
  |cons a m ih=>rw[cv,cv,Gf.gO,ih]
 unfold Sat mU;dsimp only;rw[Cq k f.len d,Gf.gO,<-j,Bo x (fun c=>kn known c) e.1];constructor
 ·intro i;rw[i];rw[vz,AQ]
 ·intro i;rw[<-i];rw[vz (cv x (e.1.filter fun c=>kn known c)),AQ]
def bM(known:List Bool)(aU:aT)(l:List ij):List ij:=(l.map (mU known aU)).filter fun e=>!e.1.isEmpty
def Pe(known:List Bool)(aU:aT)(l:List ij):Bool:=(l.map (mU known aU)).any fun e=>e.1.isEmpty&&e.2.any (· !=0)
theorem IT(h:tu n w l known aU)(f:∀e∈l,xz n w e)(g:Pe known aU l=false){t:UInt8}{k:Nat}{x:Int->UInt8}(m:k<w):
  (∀e∈l,Sat t k x e)↔(∀c:Int,0<=c->c<(n:Int)->kn known c=true->x c=Gf.mul t (aJ (az aU c.toNat) k))/\∀e∈bM known aU l,Sat t k x e:=by
 constructor
 ·intro i;refine⟨h.sound t k x m i,fun e b=>?_⟩;obtain⟨j,d,rfl⟩:=qH.1 (q6.1 b).1;exact(h.LW (f j d) (h.sound t k x m i)).2 (i j d)
 ·rintro⟨r,p⟩ e b;refine(h.LW (f e b) r).1 ?_;by_cases a:(mU known aU e).1=[]
  ·unfold Sat;rw[a,cv];have o:((mU known aU e).1.isEmpty&&(mU known aU e).2.any (· !=0))=false:=by
    have:=wA.1 g _ (List.mem_map_of_mem b);simpa using this
   rw[a]at o;have q:∀y∈(mU known aU e).2,y=0:=by simpa using o
   have h3:=(h.Pd (f e b)).len;have:aJ (mU known aU e).2 k=0:=by
    rw[aJ,qg,qd (by omega)];exact q _ (qn _)
   rw[this,Gf.mul_zero]
  ·refine p _ (q6.2 ⟨List.mem_map_of_mem b,?_⟩);simpa using a
end
def Wz(a:List Bool)(c:Int):Bool:=a.getD c.toNat false
structure Pl where
 steps:List (Int×Int)
 dead:aB
 used:List Bool
def other(m i:Nat):Nat:=if i<m then i else i+1
def Gr(rows:Fc):(Int->Prop)->(Int->Prop)->List (Int×Int)->Prop
 |_,_,[]=>True
 |D,U,(i,c)::t=>(0<=i/\i<rows.length)/\¬U i/\¬D c/\c∈rows.getD i.toNat []/\(∀a∈rows.getD i.toNat [],a≠c->D a)/\Gr rows (fun x=>D x∨x=c) (fun x=>U x∨x=i) t
def WJ(a:List Bool)(c:Int):Prop:=0<=c/\Wz a c=true
structure WO (rows:Fc) (op us:List Bool) (r:Pl):Prop where
 eZ:r.steps.length+r.dead.length=op.count true
 used:r.used.count true=us.count true+r.steps.length
 keepU:∀i,us.getD i false=true->r.used.getD i false=true
 dead:∀c∈r.dead,WJ op c
 deadN:r.dead.Nodup
 lX:∀D U:Int->Prop,(∀c:Int,0<=c->c<op.length->(D c↔Wz op c=false∨c∈r.dead))->(∀i:Nat,i<rows.length->(U i↔us.getD i false=true∨r.used.getD i false=false))->Gr rows D U r.steps
def ev(t:UInt8)(k a:Nat)(W M:aT)(y:Nat->UInt8)(c:Int):UInt8:=bw (fun i=>aJ (az W c.toNat) i) y a^^^Gf.mul t (aJ (az M c.toNat) k)
theorem Cr{a b:Row}(h:a.length=b.length)(c:UInt8)(y:Nat->UInt8)(n:Nat):bw (fun j=>aJ (cV c a b) j) y n=bw (fun j=>aJ b j) y n^^^Gf.mul c (bw (fun j=>aJ a j) y n):=by
 rw[gh n (fun j _=>ce h j) fun _ _=>rfl];exact AR _ _ _ _ _
theorem IU{V:aT}{m:Nat}(y:Nat->UInt8)(n:Nat):∀{l:aB} {a:Row},a.length=m->(∀c∈l,(az V c.toNat).length=m)->bw (fun j=>aJ (ib V a l) j) y n=bw (fun j=>aJ a j) y n^^^cv (fun c=>bw (fun j=>aJ (az V c.toNat) j) y n) l
 |[],a,_,_=>by simp[ib,cv]
 |c::l,a,h,hv=>by
  have b:(az V c.toNat).length=a.length:=by rw[hv c (by simp),h]
  have:=IU (V:=V) y n (l:=l) (a:=cV 1 (az V c.toNat) a) (by rw[bG b];exact h) fun d e=>hv d (by simp[e]);rw[ib,zw];rw[ib]at this;rw[this,Cr b,Gf.one_mul,cv];ac_rfl
theorem IV(t:UInt8)(x:Int->UInt8):∀l,cv (fun c=>Gf.mul t (x c)) l=Gf.mul t (cv x l)
 |[]=>by simp[cv,Gf.mul_zero]
 |c::l=>by rw[cv,cv,Gf.gO,IV t x l]
theorem Ui{W M:aT}{b w:Nat}{l:aB}{a m:Row}(e:a.length=b)(f:m.length=w)(d:∀c∈l,(az W c.toNat).length=b)(g:∀c∈l,(az M c.toNat).length=w)(t:UInt8)(k:Nat)(y:Nat->UInt8):
  bw (fun j=>aJ (ib W a l) j) y b^^^Gf.mul t (aJ (ib M m l) k)=(bw (fun j=>aJ a j) y b^^^Gf.mul t (aJ m k))^^^cv (ev t k b W M y) l:=by
 rw[IU y b e d,Cq k f g,Gf.gO];have:cv (ev t k b W M y) l=cv (fun c=>bw (fun j=>aJ (az W c.toNat) j) y b) l^^^Gf.mul t (cv (fun c=>aJ (az M c.toNat) k) l):=by
  rw[<-IV,<-IS];rfl
 rw[this];ac_rfl
structure WR (n nd w:Nat) (D:Int->Prop) (W M:aT):Prop where
 wl:W.length=n
 ml:M.length=n
 rw_:∀c:Int,D c->0<=c->c<(n:Int)->(az W c.toNat).length=nd/\(az M c.toNat).length=w
theorem Gs:∀{l m:List Nat},l.Nodup->(∀x∈l,x∈m)->l.length<=m.length
 |[],_,_,_=>by simp
 |x::l,m,hd,h=>by
  rw[yx]at hd;have b:=h x (by simp);have d:=Gs (l:=l) (m:=m.erase x) hd.2 fun y a=>(List.mem_erase_of_ne (fun c:y=x=>hd.1 (by rw[<-c];exact a))).2 (h y (by simp[a]));rw[List.length_erase_of_mem b]at d;have:=List.length_pos_of_mem b;simp;omega
def jC(V:aT)(r:Row)(a:Row):Nat->Row
 |0=>a
 |c+1=>cV (aJ r c) (az V c) (jC V r a c)
theorem oU{V:aT}{m:Nat}(r:Row){a:Row}(b:a.length=m):∀{c:Nat},(∀i,i<c->(az V i).length=m)->(jC V r a c).length=m
 |0,_=>b
 |c+1,h=>by
  have:=oU r b (c:=c) fun i d=>h i (by omega);rw[jC,bG (by rw[h c (by omega),this])];exact this
theorem IW{V:aT}{m:Nat}(r:Row){a:Row}(b:a.length=m)(j:Nat):∀{c:Nat},(∀i,i<c->(az V i).length=m)->aJ (jC V r a c) j=aJ a j^^^bw (fun i=>aJ r i) (fun i=>aJ (az V i) j) c
 |0,_=>by simp[jC,bw]
 |c+1,h=>by
  have e:=oU r b (c:=c) fun i d=>h i (by omega);rw[jC,ce (by rw[h c (by omega),e]),IW r b j (c:=c) fun i d=>h i (by omega),bw];ac_rfl
theorem IX{V:aT}{m:Nat}(r:Row){a:Row}(b:a.length=m)(y:Nat->UInt8)(n:Nat):∀{c:Nat},(∀i,i<c->(az V i).length=m)->bw (fun j=>aJ (jC V r a c) j) y n=bw (fun j=>aJ a j) y n^^^bw (fun i=>aJ r i) (fun i=>bw (fun j=>aJ (az V i) j) y n) c
 |0,_=>by simp[jC,bw]
 |c+1,h=>by
  have e:=oU r b (c:=c) fun i d=>h i (by omega);rw[jC,Cr (by rw[h c (by omega),e]),IX r b y n (c:=c) fun i d=>h i (by omega),bw];ac_rfl
theorem IY(f g a:Nat->UInt8):∀k,bw f (fun i=>g i^^^a i) k=bw f g k^^^bw f a k
 |0=>by simp[bw]
 |k+1=>by rw[bw,bw,bw,IY f g a k,Gf.gO];ac_rfl
theorem IZ(t:UInt8)(f g:Nat->UInt8):∀k,bw f (fun i=>Gf.mul t (g i)) k=Gf.mul t (bw f g k)
 |0=>by simp[bw,Gf.mul_zero]
 |k+1=>by
  rw[bw,bw,IZ t f g k,Gf.gO];congr 1;rw[<-Gf.mul_assoc,<-Gf.mul_assoc,Gf.mul_comm (f k) t]
theorem Ja{n:Nat}(g:Nat->UInt8):∀{l:aB},(∀x∈l,0<=x/\x<(n:Int))->l.Nodup->bw (fun j=>aJ (eS n l) j) g n=cv (fun c=>g c.toNat) l
 |[],_,_=>by
  rw[cv];refine fg _ _ n fun j _=>?_;rw[tm [] (fun x a=>by cases a) j];simp
 |c::l,h,hd=>by
  rw[yx]at hd;have o:=h c (by simp);have k:=Ja g (l:=l) (fun x a=>h x (by simp[a])) hd.2;have e:bw (fun j=>aJ (eS n (c::l)) j) g n=bw (fun j=>if(j:Int)∈c::l then 1 else 0) g n:=gh n (fun j _=>tm _ h j) fun _ _=>rfl;have d:bw (fun j=>aJ (eS n l) j) g n=bw (fun j=>if(j:Int)∈l then 1 else 0) g n:=gh n (fun j _=>tm _ (fun x a=>h x (by simp[a])) j) fun _ _=>rfl;rw[e,cv,<-k,d];rw[Cn (f:=fun j=>if(j:Int)∈l then 1 else 0) (f':=fun j=>if(j:Int)∈c::l then 1 else 0) (c:=c.toNat) (by rw[if_neg];rw[show((c.toNat:Nat):Int)=c by omega];exact hd.1) (fun i=>by
   by_cases b:i=c.toNat
   ·subst b;rw[if_pos rfl,if_pos];rw[show((c.toNat:Nat):Int)=c by omega];simp
   ·rw[if_neg b];have:(i:Int)≠c:=fun m=>b (by omega);simp[this]),if_pos (by omega)]
  ac_rfl
theorem kernel{e:Nat}{a:aT}(U:aW e a)(O:cR a<e):∃y:Nat->UInt8,(∃i,i<e/\y i≠0)/\∀r∈a,bw (fun j=>aJ r j) y e=0:=by
 have w:=Rz U;obtain⟨M,W,am,N,V,⟨p,p1,Z,p3,Y⟩,F⟩:=w;generalize hT:cR a=T at*;generalize (bu a (fe a)).2=rows at*;have u:∃j,j<e/\∀i,i<T->p i≠j:=by
  have t:∀T e:Nat,T<e->∀p:Nat->Nat,(∀i,i<T->p i<e)->∃j,j<e/\∀i,i<T->p i≠j:=by
   intro T e al p X;by_cases g:∀j,j<e->∃i,i<T/\p i=j
   ·exfalso;have J:∀j∈qz e,j∈(qz T).map p:=fun j B=>by
     obtain⟨i,n,rfl⟩:=g j (qF.1 B);exact qH.2 ⟨i,qF.2 n,rfl⟩
    have:=Gs vj J;simp at this;omega
   ·simp only[Classical.not_forall,not_exists,not_and]at g;obtain⟨j,B,h⟩:=g;exact⟨j,B,h⟩
  exact t T e O p p1
 obtain⟨j,B,G⟩:=u;have I:∀i f,i<T->f<T->p i=p f->i=f:=fun i f q o h3=>by
  rcases Nat.lt_trichotomy i f with h|h|h
  ·have:=Y i f h o;omega
  ·exact h
  ·have:=Y f i h q;omega
 let y:Nat->UInt8:=fun c=>if c=j then 1 else cv (fun i=>if p i.toNat=c then aJ (az rows i.toNat) j else 0) ((qz T).map fun i:Nat=>(i:Int))
 have hy:∀i,i<T->y (p i)=aJ (az rows i) j:=fun i n=>by
  show(if p i=j then 1 else _)=_;rw[if_neg (G i n)];have Q:((qz T).map fun i:Nat=>(i:Int)).Nodup:=by
   exact List.Pairwise.map _ (fun a b h v=>h (Int.ofNat_inj.1 v)) vj
  rw[Gq _ Q (c:=(i:Int)) (qH.2 ⟨i,qF.2 n,rfl⟩),xy,zR]
  ·simp
  ·intro c s;rw[q6]at s;obtain⟨f,A,rfl⟩:=qH.1 s.1;have D:f≠i:=fun v=>by subst v;simp at s
   rw[qo,if_neg fun v=>D (I f i (qF.1 A) n v)]
 have S:∀c,c≠j->(∀i,i<T->p i≠c)->y c=0:=fun c s X=>by
  show(if c=j then 1 else _)=_;rw[if_neg s,xy];intro d hd;obtain⟨f,A,rfl⟩:=qH.1 hd;rw[qo,if_neg (X f (qF.1 A))]
 have K:y j=1:=by show(if j=j then 1 else _)=_;rw[if_pos rfl]
 refine⟨y,⟨j,B,by rw[K];decide⟩,fun r P=>?_⟩;refine Span.SQ M (fun r=>bw (fun c=>aJ r c) y e) (fg _ _ e fun c _=>cE _ _) (fun c x z q o=>Cr (by omega) c y e) (fun r O=>?_) ((N r).2 (Span.row U P));obtain⟨k,R,rfl⟩:=ff O;by_cases l:k<T
 ·--the row's own beginning,and j
  have hf:∀c,c<e->aJ (az rows k) c=0∨y c=0∨c=p k∨c=j:=fun c s=>by
   by_cases q:c=j
   ·exact .inr (.inr (.inr q))
   ·by_cases o:∃i,i<T/\p i=c
    ·obtain⟨i,n,rfl⟩:=o;by_cases E:k=i
     ·subst E;exact .inr (.inr (.inl rfl))
     ·refine .inl ?_;rw[Z i n k R,if_neg E]
    ·exact .inr (.inl (S c q fun i n v=>o ⟨i,n,v⟩))
  have L:=p1 k l;have H:aJ (az rows k) (p k)=1:=by rw[Z k l k R,if_pos rfl]
  have D:p k≠j:=G k l;have t:∀m,m<=e->bw (fun c=>aJ (az rows k) c) y m=(if p k<m then aJ (az rows k) j else 0)^^^(if j<m then aJ (az rows k) j else 0):=by
   intro m
   induction m with
   |zero=>intro _;simp[bw]
   |succ m ih=>
    intro hm;rw[bw,ih (by omega)];by_cases q:m=p k
    ·have ad:m≠j:=by omega
     rw[q,H,Gf.one_mul,hy k l];rw[if_neg (Nat.lt_irrefl _),if_pos (Nat.lt_succ_self _)];by_cases h3:j<p k
     ·rw[if_pos h3,if_pos (by omega)];ac_rfl
     ·rw[if_neg h3,if_neg (by omega)];ac_rfl
    ·by_cases o:m=j
     ·rw[o,K,Gf.mul_one];rw[if_neg (Nat.lt_irrefl j),if_pos (Nat.lt_succ_self j),zR];by_cases h3:p k<j
      ·rw[if_pos h3,if_pos (by omega)]
      ·rw[if_neg h3,if_neg (by omega)]
     ·have hz:Gf.mul (aJ (az rows k) m) (y m)=0:=by
       rcases hf m (by omega)with h|h|h|h
       ·rw[h,Gf.zero_mul]
       ·rw[h,Gf.mul_zero]
       ·exact absurd h q
       ·exact absurd h o
      rw[hz,zR];have a1:(p k<m+1)↔(p k<m):=by omega
      have a2:(j<m+1)↔(j<m):=by omega
      simp only[a1,a2]
  rw[t e (qt _),if_pos L,if_pos B,iF]
 ·exact fg _ _ e fun c s=>F k (by omega) R c s
def dV(n a:Nat)(rest:List ij)(W:aT)(left:aB)(ahead:aT):aT:=(left.map fun i=>ib W (aZ a) (rest.getD i.toNat ([],[])).1)++ahead.map fun r=>jC W r (aZ a) n
def gC(n w:Nat)(rest:List ij)(M:aT)(left:aB)(ahead:aT):aT:=(left.map fun i=>ib M (rest.getD i.toNat ([],[])).2 (rest.getD i.toNat ([],[])).1)++ahead.map fun r=>jC M r (aZ w) n
def iO(n:Nat)(l:List ij)(ahead:aT):aT:=ahead++l.map fun e=>eS n e.1
def MX(w:Nat)(l:List ij)(ahead:aT):aT:=qi ahead.length (aZ w)++l.map zF
def at_(X:aT)(k:Nat)(c:Int):UInt8:=aJ (az X c.toNat) k
section
variable {n w:Nat} {l:List ij} {ahead:aT}
theorem Pf(b:aW n ahead):aW n (iO n l ahead):=fun r a=>by
 rcases qE.1 a with a|a
 ·exact b r a
 ·obtain⟨e,_,rfl⟩:=qH.1 a;exact mz _ _
theorem Uj:(iO n l ahead).length=(MX w l ahead).length:=by simp[iO,MX]
end
structure lG (n w:Nat) (l:List ij) (ahead:aT) (known:List Bool) (aU:aT) (dead left:aB) (W M:aT):Prop where
 eqs:∀e∈l,xz n w e
 ahd:aW n ahead
 pinv:tu n w l known aU
 calm:Pe known aU l=false
 deadR:∀c∈dead,0<=c/\c<(n:Int)
 deadN:dead.Nodup
 deadK:∀c∈dead,kn known c=false
 lens:W.length=n/\M.length=n/\∀c:Nat,c<n->(az W c).length=dead.length/\(az M c).length=w
 evKnown:∀t k y,∀c:Int,0<=c->c<(n:Int)->kn known c=true->ev t k dead.length W M y c=Gf.mul t (aJ (az aU c.toNat) k)
 evDead:∀t k y,∀i,(h:i<dead.length)->ev t k dead.length W M y dead[i]=y i
 evRest:∀t k y,k<w->(∀i∈left,Sat t k (ev t k dead.length W M y) ((bM known aU l).getD i.toNat ([],[])))->∀e∈bM known aU l,Sat t k (ev t k dead.length W M y) e
 leftR:∀i∈left,0<=i/\i<((bM known aU l).length:Int)
 evAll:∀t k x,k<w->(∀c:Int,0<=c->c<(n:Int)->kn known c=true->x c=Gf.mul t (aJ (az aU c.toNat) k))->(∀e∈bM known aU l,Sat t k x e)->∀c:Int,0<=c->c<(n:Int)->x c=ev t k dead.length W M (fun i=>x (dead.getD i 0)) c
section
variable {n w:Nat} {l:List ij} {ahead:aT} {known:List Bool} {aU:aT} {dead left:aB} {W M:aT}
theorem Fq(h:tu n w l known aU)(d:∀e∈l,xz n w e):∀e∈bM known aU l,xz n w e:=fun e b=>by
 obtain⟨c,a,rfl⟩:=qH.1 (q6.1 b).1;exact h.Pd (d c a)
theorem rB{a b:UInt8}:a^^^b=0↔a=b:=lD
theorem lG.Jb(S:lG n w l ahead known aU dead left W M){i:Int}(o:i∈left)(t:UInt8)(k:Nat)(y:Nat->UInt8):
  bw (fun j=>aJ (ib W (aZ dead.length) ((bM known aU l).getD i.toNat ([],[])).1) j) y dead.length=Gf.mul t (aJ (ib M ((bM known aU l).getD i.toNat ([],[])).2 ((bM known aU l).getD i.toNat ([],[])).1) k)↔Sat t k (ev t k dead.length W M y) ((bM known aU l).getD i.toNat ([],[])):=by
 have m:=S.leftR i o;have b:i.toNat<(bM known aU l).length:=by omega
 have g:(bM known aU l).getD i.toNat ([],[])=(bM known aU l)[i.toNat]:=by rw[qg,qd b];rfl
 have a:=Fq S.pinv S.eqs _ (qn b);rw[g];generalize (bM known aU l)[i.toNat]=e at*;have h:(aZ dead.length).length=dead.length:=by simp[aZ]
 have p:∀c∈e.1,(az W c.toNat).length=dead.length:=fun c d=>((S.lens.2.2 c.toNat) (by have:=a.eZ c d;omega)).1;have f:∀c∈e.1,(az M c.toNat).length=w:=fun c d=>((S.lens.2.2 c.toNat) (by have:=a.eZ c d;omega)).2;have:=Ui h a.len p f t k y;rw[fg _ _ dead.length fun j _=>cE _ _,wG]at this;rw[<-rB,this];unfold Sat;rw[rB];exact eq_comm
theorem lG.Gt(S:lG n w l ahead known aU dead left W M)(r:Row)(t:UInt8)(k:Nat)(y:Nat->UInt8):
  bw (fun j=>aJ (jC W r (aZ dead.length) n) j) y dead.length=Gf.mul t (aJ (jC M r (aZ w) n) k)↔bw (fun j=>aJ r j) (fun c=>ev t k dead.length W M y (c:Int)) n=0:=by
 have e:=IX (V:=W) (m:=dead.length) r (a:=aZ dead.length) (by simp[aZ]) y dead.length (c:=n) fun i b=>(S.lens.2.2 i b).1;have d:=IW (V:=M) (m:=w) r (a:=aZ w) (by simp[aZ]) k (c:=n) fun i b=>(S.lens.2.2 i b).2;rw[e,d,fg _ _ dead.length fun j _=>cE _ _,cE,wG,wG,<-rB,<-IZ,<-IY];have:(fun c:Nat=>ev t k dead.length W M y (c:Int))=fun i=>bw (fun j=>aJ (az W i) j) y dead.length^^^Gf.mul t (aJ (az M i) k):=by
  funext c;unfold ev;rw[qo]
 rw[this]
theorem lG.up(S:lG n w l ahead known aU dead left W M){t:UInt8}{k:Nat}{y:Nat->UInt8}(g:k<w)
  (f:∀i,i<(dV n dead.length (bM known aU l) W left ahead).length->bw (fun j=>aJ (az (dV n dead.length (bM known aU l) W left ahead) i) j) y dead.length=Gf.mul t (aJ (az (gC n w (bM known aU l) M left ahead) i) k)):
  (∀e∈l,Sat t k (ev t k dead.length W M y) e)/\∀r∈ahead,bw (fun j=>aJ r j) (fun c=>ev t k dead.length W M y (c:Int)) n=0:=by
 refine⟨(IT S.pinv S.eqs S.calm g).2 ⟨fun c h0 p o=>S.evKnown t k y c h0 p o,S.evRest t k y g fun i h=>?_⟩,fun r m=>?_⟩
 ·obtain⟨j,a,rfl⟩:=qQ h;have:=f j (by simp[dV];omega);have d:az (dV n dead.length (bM known aU l) W left ahead) j=ib W (aZ dead.length) ((bM known aU l).getD left[j].toNat ([],[])).1:=by
   rw[bE (by simp[dV];omega)];simp[dV,a]
  have b:az (gC n w (bM known aU l) M left ahead) j=ib M ((bM known aU l).getD left[j].toNat ([],[])).2 ((bM known aU l).getD left[j].toNat ([],[])).1:=by
   rw[bE (by simp[gC];omega)];simp[gC,a]
  rw[d,b]at this;exact(S.Jb h t k y).1 this
 ·obtain⟨j,a,rfl⟩:=qQ m;have:=f (left.length+j) (by simp[dV];omega);have d:az (dV n dead.length (bM known aU l) W left ahead) (left.length+j)=jC W ahead[j] (aZ dead.length) n:=by
   rw[bE (by simp[dV];omega)];simp[dV]
  have b:az (gC n w (bM known aU l) M left ahead) (left.length+j)=jC M ahead[j] (aZ w) n:=by
   rw[bE (by simp[gC];omega)];simp[gC]
  rw[d,b]at this;exact(S.Gt _ t k y).1 this
theorem lG.down(S:lG n w l ahead known aU dead left W M){t:UInt8}{k:Nat}{x:Int->UInt8}(s:k<w)(B:∀e∈l,Sat t k x e)(u:∀r∈ahead,bw (fun j=>aJ r j) (fun c=>x (c:Int)) n=0):
  (∀c:Int,0<=c->c<(n:Int)->x c=ev t k dead.length W M (fun i=>x (dead.getD i 0)) c)/\
  ∀i,i<(dV n dead.length (bM known aU l) W left ahead).length->bw (fun j=>aJ (az (dV n dead.length (bM known aU l) W left ahead) i) j) (fun i=>x (dead.getD i 0)) dead.length=Gf.mul t (aJ (az (gC n w (bM known aU l) M left ahead) i) k):=by
 obtain⟨A,p⟩:=(IT S.pinv S.eqs S.calm s).1 B;have o:=S.evAll t k x s A p;refine⟨o,fun i D=>?_⟩;simp only[dV,List.length_append,List.length_map]at D;by_cases a:i<left.length
 ·have h:az (dV n dead.length (bM known aU l) W left ahead) i=ib W (aZ dead.length) ((bM known aU l).getD left[i].toNat ([],[])).1:=by
   rw[bE (by simp[dV];omega)];simp[dV,a]
  have g:az (gC n w (bM known aU l) M left ahead) i=ib M ((bM known aU l).getD left[i].toNat ([],[])).2 ((bM known aU l).getD left[i].toNat ([],[])).1:=by
   rw[bE (by simp[gC];omega)];simp[gC,a]
  rw[h,g];refine(S.Jb (qn a) t k _).2 ?_;have v:=S.leftR _ (qn a);have b:left[i].toNat<(bM known aU l).length:=by omega
  have z:(bM known aU l).getD left[i].toNat ([],[])=(bM known aU l)[left[i].toNat]:=by rw[qg,qd b];rfl
  rw[z];have q:=p _ (qn b);have f:=Fq S.pinv S.eqs _ (qn b);unfold Sat at q⊢;rw[<-q];exact oa fun c m=>(o c (f.eZ c m).1 (f.eZ c m).2).symm
 ·obtain⟨d,rfl⟩:∃d,i=left.length+d:=⟨i-left.length,by omega⟩
  have y:d<ahead.length:=by omega
  have h:az (dV n dead.length (bM known aU l) W left ahead) (left.length+d)=jC W ahead[d] (aZ dead.length) n:=by
   rw[bE (by simp[dV];omega)];simp[dV]
  have g:az (gC n w (bM known aU l) M left ahead) (left.length+d)=jC M ahead[d] (aZ w) n:=by
   rw[bE (by simp[gC];omega)];simp[gC]
  rw[h,g];refine(S.Gt _ t k _).2 ?_;rw[<-u _ (qn y)];exact gh n (fun _ _=>rfl) fun c m=>(o (c:Int) (by omega) (by omega)).symm
theorem MY(S:lG n w l ahead known aU dead left W M):aW dead.length (dV n dead.length (bM known aU l) W left ahead)/\aW w (gC n w (bM known aU l) M left ahead):=by
 have d:∀i∈left,xz n w ((bM known aU l).getD i.toNat ([],[])):=fun i b=>by
  have g:=S.leftR i b;have e:i.toNat<(bM known aU l).length:=by omega
  rw[qg,qd e];exact Fq S.pinv S.eqs _ (qn e)
 constructor
 ·intro r a;rcases qE.1 a with a|a
  ·obtain⟨i,b,rfl⟩:=qH.1 a;exact tq (by simp[aZ]) fun c f=>((S.lens.2.2 c.toNat) (by have:=(d i b).eZ c f;omega)).1
  ·obtain⟨x,h,rfl⟩:=qH.1 a;exact oU x (by simp[aZ]) fun i b=>(S.lens.2.2 i b).1
 ·intro r a;rcases qE.1 a with a|a
  ·obtain⟨i,b,rfl⟩:=qH.1 a;exact tq (d i b).len fun c f=>((S.lens.2.2 c.toNat) (by have:=(d i b).eZ c f;omega)).2
  ·obtain⟨x,h,rfl⟩:=qH.1 a;exact oU x (by simp[aZ]) fun i b=>(S.lens.2.2 i b).2
theorem lG.MS(S:lG n w l ahead known aU dead left W M)(U:1<=w)(d:cR (iO n l ahead)=n):cR (dV n dead.length (bM known aU l) W left ahead)=dead.length:=by
 obtain⟨H,Y⟩:=MY S;have I:=IG H;by_cases A:cR (dV n dead.length (bM known aU l) W left ahead)<dead.length
 ·exfalso;obtain⟨y,⟨i,b,X⟩,O⟩:=kernel H A;have o:=S.up (t:=0) (k:=0) (y:=y) U fun i b=>by rw[O _ (mem_row b),Gf.zero_mul]
  have G:=Pf (l:=l) S.ahd;have u:aW 1 (qi (iO n l ahead).length (aZ 1)):=fun r d=>by rw[(yX.1 d).2];simp[aZ]
  have f:(iO n l ahead).length=(qi (iO n l ahead).length (aZ 1)).length:=by simp
  have J:ky n 1 (iO n l ahead) (qi (iO n l ahead).length (aZ 1)) (qi n (aZ 1)):=by
   have a:aW 1 (qi n (aZ 1)):=fun r d=>by rw[(yX.1 d).2];simp[aZ]
   refine⟨by simp,a,fun i b=>?_⟩;refine fq (n:=1) (ia a (by simp) _ n (qt _)) (bW u (by simpa using b)) fun k P=>?_;rw[jA a (by simp) _ k n (qt _)];have D:az (qi (iO n l ahead).length (aZ 1)) i=aZ 1:=by rw[bE (by simpa using b)];simp
   rw[D,cE];have:∀g,g<=n->bw (fun j=>aJ (az (iO n l ahead) i) j) (fun c=>aJ (az (qi n (aZ 1)) c) k) g=0:=by
    intro g
    induction g with
    |zero=>intro _;rfl
    |succ g ih=>
     intro V;have T:az (qi n (aZ 1)) g=aZ 1:=by rw[bE (by simp;omega)];simp
     rw[bw,ih (by omega),T,cE,Gf.mul_zero];rfl
   exact this n (qt _)
  have N:ky n 1 (iO n l ahead) (qi (iO n l ahead).length (aZ 1)) ((qz n).map fun c:Nat=>[ev 0 0 dead.length W M y (c:Int)]):=by
   have a:aW 1 ((qz n).map fun c:Nat=>[ev 0 0 dead.length W M y (c:Int)]):=fun r d=>by obtain⟨c,_,rfl⟩:=qH.1 d;rfl
   have h:∀c:Nat,c<n->az ((qz n).map fun c:Nat=>[ev 0 0 dead.length W M y (c:Int)]) c=[ev 0 0 dead.length W M y (c:Int)]:=fun c q=>by rw[bE (by simpa using q)];simp
   refine⟨by simp,a,fun i b=>?_⟩;refine fq (n:=1) (ia a (by simp) _ n (qt _)) (bW u (by simpa using b)) fun k P=>?_;have B:k=0:=by omega
   subst B;rw[jA a (by simp) _ 0 n (qt _)];have D:az (qi (iO n l ahead).length (aZ 1)) i=aZ 1:=by rw[bE (by simpa using b)];simp
   rw[D,cE];have K:bw (fun j=>aJ (az (iO n l ahead) i) j) (fun c=>aJ (az ((qz n).map fun c:Nat=>[ev 0 0 dead.length W M y (c:Int)]) c) 0) n=bw (fun j=>aJ (az (iO n l ahead) i) j) (fun c=>ev 0 0 dead.length W M y (c:Int)) n:=
    gh n (fun _ _=>rfl) fun c q=>by rw[h c q];rfl
   rw[K];have F:az (iO n l ahead) i∈ahead++l.map fun e=>eS n e.1:=mem_row b;obtain E|E:=qE.1 F
   ·exact o.2 _ E
   ·obtain⟨e,s,z⟩:=qH.1 E;rw[<-z,Ja _ (S.eqs e s).eZ (S.eqs e s).nodup];have v:=o.1 e s;unfold Sat at v;rw[Gf.zero_mul]at v;refine Eq.trans (oa fun c q=>?_) v;have:=(S.eqs e s).eZ c q;rw[show((c.toNat:Nat):Int)=c by omega]
  have R:=(tl f G u d J).1;have L:=(tl f G u d N).1;have x:=L.trans R.symm;have Q:=S.deadR _ (qn b);have p:=congrArg (fun m=>aJ (az m dead[i].toNat) 0) x;rw[bE (by simp;omega),bE (by simp;omega)]at p;simp only[List.getElem_map,List.getElem_range,List.getElem_replicate,cE]at p;rw[show((dead[i].toNat:Nat):Int)=dead[i]by omega]at p;have h8:aJ [ev 0 0 dead.length W M y dead[i]] 0=ev 0 0 dead.length W M y dead[i]:=rfl;rw[h8,S.evDead 0 0 y i b]at p;exact X p
 ·omega
end
def Ph(known:List Bool)(i:Nat):Fc:=((qz i).filter fun c=>known.getD c false).map fun c:Nat=>[(c:Int)]
def rowsOf(R:List ij)(known:List Bool)(n:Nat):Fc:=R.map qP++Ph known n
section
variable {n w:Nat} {l:List ij} {ahead:aT} {known:List Bool} {aU:aT}
end
def HS(n:Nat)(seed:Int)(l:List (Int×Row)):List ij:=l.map fun x=>(dM n seed x.1,x.2)
def tv(p:Int×Int×Int)(l:List (Int×Row)):aT:=qi p.2.1.toNat (aZ p.2.2.toNat)++l.map zF
structure DA (p:Int×Int×Int) (x:Int×Row):Prop where
 id:bD x.1=true
 len:x.2.length=p.2.2.toNat
section
variable {p:Int×Int×Int} {seed:Int} {l:List (Int×Row)} {n w:Nat}
theorem Wm(c:bC p=true)(b:(ck p).toNat=n)(d:∀x∈l,DA p x):iO n (HS n seed l) (bK p.1.toNat p.2.1.toNat)=dY p seed (l.map qP):=by
 unfold iO dY HS;rw[if_pos c,b];have:(l.map qP).filter bD=l.map qP:=wy.2 fun i a=>by
  obtain⟨x,e,rfl⟩:=qH.1 a;exact(d x e).id
 rw[this,wJ,wJ];rfl
theorem Wn(a:p.2.2.toNat=w):MX w (HS n seed l) (bK p.1.toNat p.2.1.toNat)=tv p l:=by
 unfold MX tv HS;rw[a,wJ];simp[bK]
end
section
variable {n w:Nat} {l:List ij} {ahead:aT} {known:List Bool} {aU:aT} {dead left:aB} {W M:aT}
end
end Wl
namespace Go.Vc
open Go
section
variable {C:Ctx} {t t2 e k:Nat} {z:aM} {by_:Nat} {α:Type} {h h0:Heap} {p q B:ap} {s v:Sl} {f:α->aM} {l l2:List α} {As:List HP}
end
section
variable {C:Ctx} {t e k:Nat} {z:aM} {by_:Nat} {h:Heap} {s:Sl}
end
end Go.Vc
namespace Gf
def pl(a b:Nat):Nat->Nat
 |0=>0
 |i+1=>if b/2^i%2=1 then pl a b i^^^(a*2^i)else pl a b i
def rd(p:Nat):Nat->Nat
 |0=>p
 |i+1=>if rd p i/2^(15-i)%2=1 then rd p i^^^(283*2^(7-i))else rd p i
end Gf
