/- Part of the proofs that the laws of this seat answer true whatever the input reads, and leave it as it was; no condition. -/
import Derived.Test.YtkciobclldnoiaaGreatDoorPlH
set_option linter.unusedVariables false
set_option linter.unusedSimpArgs false
namespace Wl
open Go Go.Vc
structure D4 where
 ax:Nat
 ay:Nat
 sx:Nat
 sy:Nat
 left:Int
 leg:Int
 second:Bool
def rn:Nat:=4607182418800017408
def zu (a b:Nat):Nat:=(qd.add a b).getD 0
def Iv (a b:Nat):Nat:=(qd.sub a b).getD 0
def qe (a b:Nat):Nat:=(qd.mul a b).getD 0
def tx (a b:Nat):Nat:=Iv (qe a 0) (qe b rn)
def ty (a b:Nat):Nat:=zu (qe a rn) (qe b 0)
def D4.on (s:D4):D4:=
 if s.left-1>0 then{s with ax:=zu s.ax s.sx,ay:=zu s.ay s.sy,left:=s.left-1}
 else{ax:=zu s.ax s.sx,ay:=zu s.ay s.sy,sx:=tx s.sx s.sy,sy:=ty s.sx s.sy,leg:=if s.second then s.leg+1 else s.leg,left:=if s.second then s.leg+1 else s.leg,second:=!s.second}
def D4.ok (s:D4):Bool:=
 (qd.add s.ax s.sx).isSome&&(qd.add s.ay s.sy).isSome&&(qd.mul s.sx 0).isSome&&(qd.mul s.sy rn).isSome&&(qd.sub (qe s.sx 0) (qe s.sy rn)).isSome&&(qd.mul s.sx rn).isSome&&(qd.mul s.sy 0).isSome&&(qd.add (qe s.sx rn) (qe s.sy 0)).isSome&&decide (1≤s.left)&&decide (s.left≤100)&&decide (1≤s.leg)&&decide (s.leg≤100)
structure D5 where
 x:Int
 y:Int
 dx:Int
 dy:Int
 left:Int
 leg:Int
 turns:Int
def D5.on (s:D5):D5:=
 if s.left-1=0 then
  {x:=s.x+s.dx,y:=s.y+s.dy,dx:=-s.dy,dy:=s.dx,leg:=if(s.turns+1)%2=0 then s.leg+1 else s.leg,left:=if(s.turns+1)%2=0 then s.leg+1 else s.leg,turns:=s.turns+1}
 else{s with x:=s.x+s.dx,y:=s.y+s.dy,left:=s.left-1}
def D5.ok (s:D5):Bool:=decide (-10≤s.x)&&decide (s.x≤10)&&decide (-10≤s.y)&&decide (s.y≤10)&&decide (-1≤s.dx)&&decide (s.dx≤1)&&decide (-1≤s.dy)&&decide (s.dy≤1)&&decide (1≤s.left)&&decide (s.left≤100)&&decide (1≤s.leg)&&decide (s.leg≤100)&&decide (0≤s.turns)&&decide (s.turns≤100)
end Wl
namespace Wl
open Go
end Wl
namespace Wl
open Go
end Wl
namespace Wl
open Go
theorem xf {α:Type} {R:α→α→Prop} (tr:∀a b c,R a b→R b c→R a c) {l:List α} (h:∀i (hi:i+1<l.length),R (l[i]'(by omega)) l[i+1]):l.Pairwise R:=by
 have key:∀d i (hj:i+(d+1)<l.length),R (l[i]'(by omega)) l[i+(d+1)]:=by
  intro d
  induction d with
  |zero=>exact fun i hj=>h i hj
  |succ d ih=>exact fun i hj=>tr _ _ _ (ih i (by omega)) (h (i+(d+1)) (by omega))
 refine List.pairwise_iff_getElem.2 fun i j hi hj hij=>?_
 have:=key (j-i-1) i (by omega)
 have e:i+(j-i-1+1)=j:=by omega
 simp only[e]at this
 exact this
theorem xg {α:Type} {R:α→α→Prop} {l:List α} (h:l.Pairwise R) (i:Nat) (hi:i+1<l.length):R (l[i]'(by omega)) l[i+1]:=List.pairwise_iff_getElem.1 h i (i+1) (by omega) hi (by omega)
theorem jo {α:Type} {l:List α} {i:Nat} (d:α) (h:i<l.length):l.getD i d=l[i]:=by rw[List.getD_eq_getElem?_getD,List.getElem?_eq_getElem h];rfl
theorem jT (n a b:Int):cF n a b=true↔a≤n∧n≤b:=by unfold cF;rw[Bool.and_eq_true,decide_eq_true_eq,decide_eq_true_eq]
theorem D6 (l:List Int) (most:Int):jk l most=true↔l.Pairwise (·<·)∧∀x∈l,0≤x∧x≤most:=by
 unfold jk
 rw[List.all_eq_true]
 constructor
 ·intro h
  have hr:∀i (hi:i<l.length),(0≤l[i]∧l[i]≤most)∧(i=0∨l.getD (i-1) 0<l[i]):=fun i hi=>by
   have:=h i (List.mem_range.2 hi)
   unfold fb at this
   rw[jo 0 hi,Bool.and_eq_true,jT,Bool.or_eq_true,decide_eq_true_eq,decide_eq_true_eq]at this
   exact this
  refine⟨xf (R:=fun a b:Int=>a<b) (fun a b c h1 h2=>Int.lt_trans h1 h2) fun i hi=>?_,fun x hx=>?_⟩
  ·rcases(hr (i+1) hi).2 with h0|h0
   ·omega
   ·rw[Nat.add_sub_cancel,jo 0 (by omega)]at h0;exact h0
  ·obtain⟨i,hi,rfl⟩:=List.getElem_of_mem hx
   exact(hr i hi).1
 ·rintro⟨h1,h2⟩ i hi
  have hi:=List.mem_range.1 hi
  unfold fb
  rw[jo 0 hi,Bool.and_eq_true,jT,Bool.or_eq_true,decide_eq_true_eq,decide_eq_true_eq]
  refine⟨h2 _ (List.getElem_mem hi),?_⟩
  cases i with
  |zero=>exact .inl rfl
  |succ i=>exact .inr (by rw[Nat.add_sub_cancel,jo 0 (by omega)];exact xg h1 i hi)
theorem zw (a b c:ByteArray) (h1:gU a b=true) (h2:gU b c=true):gU a c=true:=Ce _ _ _ h1 h2
theorem lF (m:aZ):cx m=true↔gD m=true∧m.drives.Pairwise (·<·)∧(∀k∈m.drives,0≤k∧k≤63)∧m.aJ.length≤12∧(∀e∈m.aJ,dN m e=true)∧m.aJ.Pairwise (fun a b=>gU a.name b.name=true)∧m.aJ.Pairwise (fun a b=>a.object≠b.object):=by
 unfold cx
 rw[Bool.and_eq_true,Bool.and_eq_true,Bool.and_eq_true,D6,decide_eq_true_eq,List.all_eq_true]
 have key:(∀i∈List.range m.aJ.length,jl m i=true)↔(∀e∈m.aJ,dN m e=true)∧m.aJ.Pairwise (fun a b=>gU a.name b.name=true)∧m.aJ.Pairwise (fun a b=>a.object≠b.object):=by
  constructor
  ·intro h
   have hr:∀i (hi:i<m.aJ.length),dN m m.aJ[i]=true∧(i=0∨gU (ji m.aJ (i-1)).name m.aJ[i].name=true)∧∀y∈m.aJ.take i,y.object≠m.aJ[i].object:=fun i hi=>by
    have:=h i (List.mem_range.2 hi)
    unfold jl at this
    rw[iU hi,Bool.and_eq_true,Bool.and_eq_true,Bool.or_eq_true,decide_eq_true_eq,Bool.not_eq_true',List.any_eq_false]at this
    exact⟨this.1,this.2.1,fun y hy=>by have:=this.2.2 y hy;simpa using this⟩
   refine⟨fun e he=>?_,xf (R:=fun a b:dc=>gU a.name b.name=true) (fun a b c h1 h2=>zw _ _ _ h1 h2) fun i hi=>?_,List.pairwise_iff_getElem.2 fun i j hi hj hij=>?_⟩
   ·obtain⟨i,hi,rfl⟩:=List.getElem_of_mem he;exact(hr i hi).1
   ·rcases(hr (i+1) hi).2.1 with h0|h0
    ·omega
    ·rw[Nat.add_sub_cancel,iU (by omega)]at h0;exact h0
   ·refine(hr j hj).2.2 m.aJ[i] ?_
    exact List.mem_take_iff_getElem.2 ⟨i,by omega,rfl⟩
  ·rintro⟨h1,h2,h3⟩ i hi
   have hi:=List.mem_range.1 hi
   unfold jl
   rw[iU hi,Bool.and_eq_true,Bool.and_eq_true,Bool.or_eq_true,decide_eq_true_eq,Bool.not_eq_true',List.any_eq_false]
   refine⟨h1 _ (List.getElem_mem hi),?_,fun y hy=>?_⟩
   ·cases i with
    |zero=>exact .inl rfl
    |succ i=>exact .inr (by rw[Nat.add_sub_cancel,iU (by omega)];exact xg h2 i hi)
   ·obtain⟨j,hj,rfl⟩:=List.mem_take_iff_getElem.1 hy
    have:=List.pairwise_iff_getElem.1 h3 j i (by omega) hi (by omega)
    simpa using this
 rw[key]
 constructor
 ·rintro⟨a,⟨b,c⟩,d,e,f,g⟩;exact⟨a,b,c,d,e,f,g⟩
 ·rintro⟨a,b,c,d,e,f,g⟩;exact⟨a,⟨b,c⟩,d,e,f,g⟩
theorem zx (m:aZ) (x:dc):dN m x=true↔kT x.name=true∧(0≤x.object∧x.object<m.next)∧(0≤x.length∧x.length≤m.p.1*m.p.2.2*8)∧(∀t∈x.tries,0≤t∧t≤15)∧(x.tries.length:Int)=countP m.p x.length:=by
 unfold dN
 rw[Bool.and_eq_true,Bool.and_eq_true,Bool.and_eq_true,Bool.and_eq_true,jT,jT,List.all_eq_true,decide_eq_true_eq]
 simp only[jT]
 constructor
 ·rintro⟨a,b,c,d,e⟩;exact⟨a,⟨b.1,by omega⟩,c,d,e⟩
 ·rintro⟨a,b,c,d,e⟩;exact⟨a,⟨b.1,by omega⟩,c,d,e⟩
theorem AU {m:aZ} (h:cx m=true):∀k∈m.drives,0≤k∧k<64:=fun k hk=>by have:=((lF m).1 h).2.2.1 k hk;omega
theorem zy:∀{l:List Int} {a b:Int},l.Pairwise (·<·)→(∀k∈l,a≤k∧k<b)→a≤b→(l.length:Int)≤b-a
 |[],a,b,_,_,h=>by simp;omega
 |x::l,a,b,hp,hl,h=>by
  obtain⟨h1,h2⟩:=List.pairwise_cons.1 hp
  have hx:=hl x List.mem_cons_self
  have:=zy (a:=x+1) (b:=b) h2 (fun k hk=>⟨by have:=h1 k hk;omega,(hl k (List.mem_cons_of_mem _ hk)).2⟩) (by omega)
  rw[List.length_cons];omega
theorem kj {m:aZ} (h:cx m=true):m.drives.length≤64:=by
 have:=zy ((lF m).1 h).2.1 (AU h) (by decide);omega
end Wl
namespace Wl
end Wl
