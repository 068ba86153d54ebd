/- Part of the proofs that the laws of this seat answer true whatever the input reads, and leave it as it was; no condition. -/
import Derived.Test.YtdhamoojccmbdaaGreatDoorPlG
set_option linter.unusedVariables false
set_option linter.unusedSimpArgs false
namespace Wl
open Go Go.Vc
structure xE where
 ax:Nat
 ay:Nat
 sx:Nat
 sy:Nat
 left:Int
 leg:Int
 second:Bool
def nS:Nat:=4607182418800017408
def tR (a b:Nat):Nat:=(mY.add a b).getD 0
def BX (a b:Nat):Nat:=(mY.sub a b).getD 0
def mZ (a b:Nat):Nat:=(mY.mul a b).getD 0
def tx (a b:Nat):Nat:=BX (mZ a 0) (mZ b nS)
def ty (a b:Nat):Nat:=tR (mZ a nS) (mZ b 0)
def xE.on (s:xE):xE:=
 if s.left-1>0 then{s with ax:=tR s.ax s.sx,ay:=tR s.ay s.sy,left:=s.left-1}
 else{ax:=tR s.ax s.sx,ay:=tR s.ay s.sy,sx:=tx s.sx s.sy,sy:=ty s.sx s.sy,leg:=if s.second then s.leg+1 else s.leg,left:=if s.second then s.leg+1 else s.leg,second:=!s.second}
def xE.ok (s:xE):Bool:=
 (mY.add s.ax s.sx).isSome&&(mY.add s.ay s.sy).isSome&&(mY.mul s.sx 0).isSome&&(mY.mul s.sy nS).isSome&&(mY.sub (mZ s.sx 0) (mZ s.sy nS)).isSome&&(mY.mul s.sx nS).isSome&&(mY.mul s.sy 0).isSome&&(mY.add (mZ s.sx nS) (mZ s.sy 0)).isSome&&decide (1≤s.left)&&decide (s.left≤100)&&decide (1≤s.leg)&&decide (s.leg≤100)
structure xF where
 x:Int
 y:Int
 dx:Int
 dy:Int
 left:Int
 leg:Int
 turns:Int
def xF.on (s:xF):xF:=
 if s.left-1=0 then
  {x:=s.x+s.dx,y:=s.y+s.dy,dx:=-s.dy,dy:=s.dx,leg:=if(s.turns+1)%2=0 then s.leg+1 else s.leg,left:=if(s.turns+1)%2=0 then s.leg+1 else s.leg,turns:=s.turns+1}
 else{s with x:=s.x+s.dx,y:=s.y+s.dy,left:=s.left-1}
def xF.ok (s:xF):Bool:=decide (-10≤s.x)&&decide (s.x≤10)&&decide (-10≤s.y)&&decide (s.y≤10)&&decide (-1≤s.dx)&&decide (s.dx≤1)&&decide (-1≤s.dy)&&decide (s.dy≤1)&&decide (1≤s.left)&&decide (s.left≤100)&&decide (1≤s.leg)&&decide (s.leg≤100)&&decide (0≤s.turns)&&decide (s.turns≤100)
end Wl
namespace Wl
open Go
theorem wv {seq number many:Int} {b:List UInt8} (hb:b.length≤48):dv (iu seq number many b)=none:=by
 unfold dv iu
 rw[xp (by decide) (by decide) (by simp[bh];omega)]
 dsimp only
 rw[if_neg (by rintro⟨h,_⟩;exact absurd h (by decide))]
theorem uQ {m:aP} {c:List UInt8} (h:c∈aS m):dv c=none:=by
 unfold aS at h
 obtain⟨i,_,rfl⟩:=List.mem_map.1 h
 exact wv (by simp;omega)
theorem wx (m n:aP):(aS n).filterMap (eK m)=[]:=by
 rw[List.filterMap_eq_nil_iff]
 intro c hc
 unfold eK
 rw[uQ hc]
end Wl
namespace Wl
open Go
end Wl
namespace Wl
open Go
theorem rI {α:Type} {R:α→α→Prop} (tr:∀a b c,R a b→R b c→R a c) {l:List α} (h:∀i (hi:i+1<l.length),R (l[i]'(by omega)) l[i+1]):l.Pairwise R:=by
 have key:∀d i (hj:i+(d+1)<l.length),R (l[i]'(by omega)) l[i+(d+1)]:=by
  intro d
  induction d with
  |zero=>exact fun i hj=>h i hj
  |succ d ih=>exact fun i hj=>tr _ _ _ (ih i (by omega)) (h (i+(d+1)) (by omega))
 refine List.pairwise_iff_getElem.2 fun i j hi hj hij=>?_
 have:=key (j-i-1) i (by omega)
 have e:i+(j-i-1+1)=j:=by omega
 simp only[e]at this
 exact this
theorem rJ {α:Type} {R:α→α→Prop} {l:List α} (h:l.Pairwise R) (i:Nat) (hi:i+1<l.length):R (l[i]'(by omega)) l[i+1]:=List.pairwise_iff_getElem.1 h i (i+1) (by omega) hi (by omega)
theorem k6 {α:Type} {l:List α} {i:Nat} (d:α) (h:i<l.length):l.getD i d=l[i]:=by rw[List.getD_eq_getElem?_getD,List.getElem?_eq_getElem h];rfl
theorem fQ (n a b:Int):bZ n a b=true↔a≤n∧n≤b:=by unfold bZ;rw[Bool.and_eq_true,decide_eq_true_eq,decide_eq_true_eq]
theorem xG (l:List Int) (most:Int):gM l most=true↔l.Pairwise (·<·)∧∀x∈l,0≤x∧x≤most:=by
 unfold gM
 rw[List.all_eq_true]
 constructor
 ·intro h
  have hr:∀i (hi:i<l.length),(0≤l[i]∧l[i]≤most)∧(i=0∨l.getD (i-1) 0<l[i]):=fun i hi=>by
   have:=h i (List.mem_range.2 hi)
   unfold dL at this
   rw[k6 0 hi,Bool.and_eq_true,fQ,Bool.or_eq_true,decide_eq_true_eq,decide_eq_true_eq]at this
   exact this
  refine⟨rI (R:=fun a b:Int=>a<b) (fun a b c h1 h2=>Int.lt_trans h1 h2) fun i hi=>?_,fun x hx=>?_⟩
  ·rcases(hr (i+1) hi).2 with h0|h0
   ·omega
   ·rw[Nat.add_sub_cancel,k6 0 (by omega)]at h0;exact h0
  ·obtain⟨i,hi,rfl⟩:=List.getElem_of_mem hx
   exact(hr i hi).1
 ·rintro⟨h1,h2⟩ i hi
  have hi:=List.mem_range.1 hi
  unfold dL
  rw[k6 0 hi,Bool.and_eq_true,fQ,Bool.or_eq_true,decide_eq_true_eq,decide_eq_true_eq]
  refine⟨h2 _ (List.getElem_mem hi),?_⟩
  cases i with
  |zero=>exact .inl rfl
  |succ i=>exact .inr (by rw[Nat.add_sub_cancel,k6 0 (by omega)];exact rJ h1 i hi)
theorem tT (a b c:ByteArray) (h1:fE a b=true) (h2:fE b c=true):fE a c=true:=vG _ _ _ h1 h2
theorem oU (m:aP):cj m=true↔fx m=true∧m.drives.Pairwise (·<·)∧(∀k∈m.drives,0≤k∧k≤63)∧m.aB.length≤12∧(∀e∈m.aB,dc m e=true)∧m.aB.Pairwise (fun a b=>fE a.name b.name=true)∧m.aB.Pairwise (fun a b=>a.object≠b.object):=by
 unfold cj
 rw[Bool.and_eq_true,Bool.and_eq_true,Bool.and_eq_true,xG,decide_eq_true_eq,List.all_eq_true]
 have key:(∀i∈List.range m.aB.length,gN m i=true)↔(∀e∈m.aB,dc m e=true)∧m.aB.Pairwise (fun a b=>fE a.name b.name=true)∧m.aB.Pairwise (fun a b=>a.object≠b.object):=by
  constructor
  ·intro h
   have hr:∀i (hi:i<m.aB.length),dc m m.aB[i]=true∧(i=0∨fE (gK m.aB (i-1)).name m.aB[i].name=true)∧∀y∈m.aB.take i,y.object≠m.aB[i].object:=fun i hi=>by
    have:=h i (List.mem_range.2 hi)
    unfold gN at this
    rw[gw hi,Bool.and_eq_true,Bool.and_eq_true,Bool.or_eq_true,decide_eq_true_eq,Bool.not_eq_true',List.any_eq_false]at this
    exact⟨this.1,this.2.1,fun y hy=>by have:=this.2.2 y hy;simpa using this⟩
   refine⟨fun e he=>?_,rI (R:=fun a b:cJ=>fE a.name b.name=true) (fun a b c h1 h2=>tT _ _ _ h1 h2) fun i hi=>?_,List.pairwise_iff_getElem.2 fun i j hi hj hij=>?_⟩
   ·obtain⟨i,hi,rfl⟩:=List.getElem_of_mem he;exact(hr i hi).1
   ·rcases(hr (i+1) hi).2.1 with h0|h0
    ·omega
    ·rw[Nat.add_sub_cancel,gw (by omega)]at h0;exact h0
   ·refine(hr j hj).2.2 m.aB[i] ?_
    exact List.mem_take_iff_getElem.2 ⟨i,by omega,rfl⟩
  ·rintro⟨h1,h2,h3⟩ i hi
   have hi:=List.mem_range.1 hi
   unfold gN
   rw[gw hi,Bool.and_eq_true,Bool.and_eq_true,Bool.or_eq_true,decide_eq_true_eq,Bool.not_eq_true',List.any_eq_false]
   refine⟨h1 _ (List.getElem_mem hi),?_,fun y hy=>?_⟩
   ·cases i with
    |zero=>exact .inl rfl
    |succ i=>exact .inr (by rw[Nat.add_sub_cancel,gw (by omega)];exact rJ h2 i hi)
   ·obtain⟨j,hj,rfl⟩:=List.mem_take_iff_getElem.1 hy
    have:=List.pairwise_iff_getElem.1 h3 j i (by omega) hi (by omega)
    simpa using this
 rw[key]
 constructor
 ·rintro⟨a,⟨b,c⟩,d,e,f,g⟩;exact⟨a,b,c,d,e,f,g⟩
 ·rintro⟨a,b,c,d,e,f,g⟩;exact⟨a,⟨b,c⟩,d,e,f,g⟩
theorem yQ (m:aP) (x:cJ):dc m x=true↔ju x.name=true∧(0≤x.object∧x.object<m.next)∧(0≤x.length∧x.length≤m.p.1*m.p.2.2*8)∧(∀t∈x.tries,0≤t∧t≤15)∧(x.tries.length:Int)=countP m.p x.length:=by
 unfold dc
 rw[Bool.and_eq_true,Bool.and_eq_true,Bool.and_eq_true,Bool.and_eq_true,fQ,fQ,List.all_eq_true,decide_eq_true_eq]
 simp only[fQ]
 constructor
 ·rintro⟨a,b,c,d,e⟩;exact⟨a,⟨b.1,by omega⟩,c,d,e⟩
 ·rintro⟨a,b,c,d,e⟩;exact⟨a,⟨b.1,by omega⟩,c,d,e⟩
theorem uR {m:aP} (h:cj m=true):∀k∈m.drives,0≤k∧k<64:=fun k hk=>by have:=((oU m).1 h).2.2.1 k hk;omega
theorem tU:∀{l:List Int} {a b:Int},l.Pairwise (·<·)→(∀k∈l,a≤k∧k<b)→a≤b→(l.length:Int)≤b-a
 |[],a,b,_,_,h=>by simp;omega
 |x::l,a,b,hp,hl,h=>by
  obtain⟨h1,h2⟩:=List.pairwise_cons.1 hp
  have hx:=hl x List.mem_cons_self
  have:=tU (a:=x+1) (b:=b) h2 (fun k hk=>⟨by have:=h1 k hk;omega,(hl k (List.mem_cons_of_mem _ hk)).2⟩) (by omega)
  rw[List.length_cons];omega
theorem rK {m:aP} (h:cj m=true):m.drives.length≤64:=by
 have:=tU ((oU m).1 h).2.1 (uR h) (by decide);omega
end Wl
namespace Wl
end Wl
namespace Go.Proofs.YtdhamoojccmbdaaGreatDoor
open Go Go.Vc
def ku (n:Nat):List Nat→Option (List Nat)
 |[]=>none
 |x::l=>match ku n l with
  |some l'=>some (x::l')
  |none=>if x+l.length+1<n then some (List.range' (x+1) (l.length+1))else none
inductive oV (n:Nat):List Nat→List (List Nat)→Prop
 |last {l:List Nat}:ku n l=none→oV n l [l]
 |more {l l':List Nat} {L:List (List Nat)}:ku n l=some l'→oV n l' L→oV n l (l::L)
theorem rL {n:Nat}:∀{l l':List Nat},ku n l=some l'→l'.length=l.length
 |[],_,h=>by cases h
 |x::l,l',h=>by
  unfold ku at h
  cases hs:ku n l with
  |some m=>rw[hs]at h;injection h with h;subst h;simp[rL hs]
  |none=>
   rw[hs]at h
   dsimp only at h
   split at h
   ·injection h with h;subst h;simp
   ·cases h
theorem oV.cons {n x t:Nat} {l:List Nat} {L R:List (List Nat)} (h:oV n l L) (hl:l.length=t) (hx:x+t+1<n) (hR:oV n (List.range' (x+1) (t+1)) R):oV n (x::l) (L.map (x::·)++R):=by
 induction h with
 |last hs=>exact .more (by unfold ku;rw[hs];dsimp only;rw[if_pos (by omega),hl]) hR
 |more hs _ ih=>exact .more (by unfold ku;rw[hs]) (ih (by rw[rL hs,hl]))
def ch:Nat→Nat→Nat
 |_,0=>1
 |0,_+1=>0
 |n+1,k+1=>ch n k+ch n (k+1)
theorem fm (n:Nat):ch n 0=1:=by cases n<;>rfl
theorem pM:∀(n k:Nat),n<k→ch n k=0
 |_,0,h=>by omega
 |0,k+1,_=>rfl
 |n+1,k+1,h=>by rw[ch,pM n k (by omega),pM n (k+1) (by omega)]
theorem qL:∀n,ch n n=1
 |0=>rfl
 |n+1=>by rw[ch,qL n,pM n (n+1) (by omega)]
theorem na:∀(n k:Nat),(k+1)*ch (n+1) (k+1)=(n+1)*ch n k
 |0,0=>rfl
 |0,k+1=>by rw[pM 0 (k+1) (by omega),pM (0+1) (k+1+1) (by omega)];simp
 |n+1,0=>by
  have:=na n 0
  rw[fm]at this⊢
  rw[ch,fm,Nat.mul_add,this];omega
 |n+1,k+1=>by
  have h1:=na n k
  have h2:=na n (k+1)
  rw[ch]
  have e:(k+1+1)*(ch (n+1) (k+1)+ch (n+1) (k+1+1))=((k+1)*ch (n+1) (k+1)+ch (n+1) (k+1))+(k+1+1)*ch (n+1) (k+1+1):=by
   rw[Nat.mul_add,Nat.succ_mul (k+1)]
  rw[e,h1,h2]
  have e3:ch (n+1) (k+1)=ch n k+ch n (k+1):=rfl
  rw[e3,Nat.succ_mul (n+1),Nat.mul_add (n+1)]
  omega
theorem vL {n k:Nat} (h:k≤n):ch n (k+1)*(k+1)=ch n k*(n-k):=by
 cases n with
 |zero=>
  have:k=0:=by omega
  subst this;rfl
 |succ n=>
  have h1:=na n k
  have h2:(n+1)*ch n k=(n+1-k)*ch (n+1) k:=by
   cases k with
   |zero=>rw[fm,fm];simp
   |succ k=>
    have h3:=na n k
    have e3:ch (n+1) (k+1)=ch n k+ch n (k+1):=rfl
    have e:(n+1)*ch (n+1) (k+1)=(n+1)*ch n k+(n+1)*ch n (k+1):=by rw[e3,Nat.mul_add]
    have e2:(n+1-(k+1))*ch (n+1) (k+1)=(n+1)*ch (n+1) (k+1)-(k+1)*ch (n+1) (k+1):=Nat.sub_mul _ _ _
    rw[e2,h3,e];omega
  rw[Nat.mul_comm,h1,h2,Nat.mul_comm]
theorem zK {n k:Nat} (h:2*(k+1)≤n+1):ch n k≤ch n (k+1):=by
 have h1:=vL (n:=n) (k:=k) (by omega)
 by_cases h0:ch n k=0
 ·omega
 ·have h2:ch n k*(k+1)≤ch n (k+1)*(k+1):=by rw[h1];exact Nat.mul_le_mul_left _ (by omega)
  exact Nat.le_of_mul_le_mul_right h2 (by omega)
theorem pN:∀(n k:Nat),k≤n→ch n k=ch n (n-k)
 |0,0,_=>rfl
 |n+1,0,_=>by rw[fm,Nat.sub_zero,qL]
 |n+1,k+1,h=>by
  by_cases hk:k=n
  ·subst hk;rw[qL,Nat.sub_self,fm]
  ·have h1:=pN n k (by omega)
   have h2:=pN n (k+1) (by omega)
   rw[show n+1-(k+1)=(n-(k+1))+1 by omega,ch,ch,h1,h2,show n-k=n-(k+1)+1 by omega];omega
def fH (n t:Int):Int:=if 0≤n∧n≤64∧0≤t∧t≤n then(min (ch n.toNat t.toNat) 4097:Nat)else 0
end Go.Proofs.YtdhamoojccmbdaaGreatDoor
namespace Wl
open Classical
def BG (r:Row):Nat:=r.findIdx (fun x=>x !=0)
section
variable {n:Nat} {m M A:aZ}
structure B0 (n:Nat) (M A:aZ):Prop where
 even:aM n M
 evenA:aM n A
 span:∀v,Span n M v↔Span n A v
 len:M.length=cY A
 lead:∀x∈M,BG x<n
end
end Wl
namespace Wl
end Wl
