/- Part of the proofs that the laws of this seat answer true whatever the input reads, and leave it as it was; no condition. -/
import Derived.Lib.Split
import Derived.Lib.Atoi
set_option linter.unusedVariables false
set_option linter.unusedSimpArgs false
namespace Wl
open Go.Lib
def cP (c:UInt8):List UInt8→List UInt8→List (List UInt8)
 |w,[]=>[w]
 |w,x::r=>if x=c then w::cP c [] r else cP c (w++[x]) r
def ua (l:List UInt8):List (List UInt8):=cP 32 [] l
theorem nE (c:UInt8):∀(r a w:List UInt8),c∉a→cP c w (a++r)=cP c (w++a) r
 |r,[],w,_=>by simp
 |r,x::a,w,h=>by
  simp only[List.mem_cons,not_or]at h
  rw[List.cons_append,cP,if_neg (fun e=>h.1 e.symm),nE c r a _ h.2];simp
theorem xz (c:UInt8):∀(l w:List UInt8),cP c w l≠[]
 |[],w=>by simp[cP]
 |x::r,w=>by unfold cP;split<;>simp[xz c r]
theorem kN (c:UInt8):∀(l w:List UInt8),(cP c w l).length=l.count c+1
 |[],w=>by simp[cP]
 |x::r,w=>by
  unfold cP
  by_cases h:x=c
  ·rw[if_pos h,List.length_cons,kN c r,h,List.count_cons_self]
  ·rw[if_neg h,kN c r,List.count_cons_of_ne h]
theorem pO (l:List UInt8) (c:UInt8):(index l [c]=-1∧c∉l)∨∃i:Nat,index l [c]=i∧l=l.take i++c::l.drop (i+1)∧c∉l.take i∧i<l.length:=by
 by_cases hi:index l [c]<0
 ·have h1:index l [c]=-1:=by have:=index_ge l [c];omega
  refine .inl ⟨h1,fun hm=>?_⟩
  obtain⟨i,hi',e⟩:=List.mem_iff_getElem.1 hm
  rw[index_one]at h1
  exact indexByte_none h1 i (by rw[List.getElem?_eq_getElem hi',e])
 ·obtain⟨i,h1⟩:∃i:Nat,index l [c]=i:=⟨(index l [c]).toNat,by omega⟩
  have h2:=h1
  rw[index_one]at h2
  obtain⟨ha,hb⟩:=indexByte_some h2
  have hil:i<l.length:=(List.getElem?_eq_some_iff.1 ha).1
  have e:l[i]=c:=(List.getElem?_eq_some_iff.1 ha).2
  refine .inr ⟨i,h1,?_,fun hm=>?_,hil⟩
  ·rw[←e,←List.drop_eq_getElem_cons hil,List.take_append_drop]
  ·obtain⟨j,hj,e⟩:=List.mem_iff_getElem.1 hm
   rw[List.length_take]at hj
   exact hb j (by omega) (by rw[List.getElem_take]at e;rw[List.getElem?_eq_getElem (by omega),e])
theorem ot (c:UInt8):∀(k:Nat) (l:List UInt8),l.count c=k→splitK [c] 0 k l=cP c [] l
 |k,l,hk=>by
  rcases pO l c with⟨h1,hn⟩|⟨i,h1,hl,hn,hil⟩
  ·have:cP c [] l=[l]:=by have:=nE c [] l [] hn;simpa[cP]using this
   rw[this]
   cases k with
   |zero=>rfl
   |succ k=>unfold splitK;rw[if_pos (by rw[h1];rfl)]
  ·have hc:l.count c=(l.drop (i+1)).count c+1:=by
    conv=>lhs;rw[hl]
    rw[List.count_append,List.count_cons_self,List.count_eq_zero.2 hn];omega
   cases k with
   |zero=>omega
   |succ k=>
    unfold splitK
    rw[if_neg (by rw[h1,beq_iff_eq];omega),h1]
    simp only[Int.toNat_natCast,Nat.add_zero,List.length_singleton]
    rw[ot c k (l.drop (i+1)) (by omega)]
    conv=>rhs;rw[hl]
    rw[nE c _ _ _ hn]
    simp[cP]
theorem kO (c:UInt8):∀(n:Nat) (l:List UInt8),l.length≤n→Go.Lib.count l [c]=l.count c
 |n,l,hl'=>by
  rcases pO l c with⟨h1,hn⟩|⟨i,h1,hl,hn,hil⟩
  ·rw[count_miss h1,List.count_eq_zero.2 hn]
  ·cases n with
   |zero=>omega
   |succ n=>
    rw[count_hit (by simp) h1,List.length_singleton,kO c n _ (by simp;omega)]
    conv=>rhs;rw[hl]
    rw[List.count_append,List.count_cons_self,List.count_eq_zero.2 hn];omega
def rj (l:List UInt8):Option (List (List UInt8)):=if(ua l).any List.isEmpty then none else some (ua l)
def gF (b:UInt8):Bool:=decide (48≤b.toNat∧b.toNat≤57)
def dg (b:UInt8):Nat:=b.toNat-48
def kP (n:Nat) (l:List UInt8):Nat:=l.foldl (fun n b=>n*10+dg b) n
theorem rk (n:Nat):kP n []=n:=rfl
theorem pP (n:Nat) (b:UInt8) (r:List UInt8):kP n (b::r)=kP (n*10+dg b) r:=by unfold kP;rw[List.foldl_cons]
def gn (l:List UInt8):Bool:=decide (1≤l.length∧l.length≤9)&&!(decide (1<l.length)&&l.headD 0==48)&&l.all gF
def cj (l:List UInt8):Option Nat:=if gn l then some (kP 0 l)else none
def ck:List (List UInt8)→Option (List Nat)
 |[]=>some []
 |w::r=>match cj w with
  |none=>none
  |some n=>(ck r).map (n::·)
theorem ph {b:UInt8} (h:gF b=true):48≤b.toNat∧b.toNat≤57:=of_decide_eq_true h
theorem rl (n:Nat) (b:UInt8) (r:List UInt8) (h:gF b=true):decFrom n (b::r)=decFrom (n*10+dg b) r:=by
 have hd:digitVal b=some (dg b):=if_pos (ph h)
 rw[decFrom,hd]
theorem nh:∀(l:List UInt8) (n:Nat),l.all gF=true→decFrom n l=some (kP n l)
 |[],n,_=>by rw[decFrom,rk]
 |b::r,n,h=>by
  rw[List.all_cons,Bool.and_eq_true]at h
  rw[rl n b r h.1,nh r _ h.2,pP]
theorem vf (b:UInt8) (r:List UInt8) (h1:(b==45)=false) (h2:(b==43)=false):atoi (b::r)=(decFrom 0 (b::r)).map fun(m:Nat)=>(m:Int):=by
 simp only[atoi,h1,h2,decNat,Bool.false_eq_true,if_false,List.isEmpty_cons]
theorem ws {l:List UInt8} (hl:l≠[]) (h:l.all gF=true):atoi l=some ((kP 0 l:Nat):Int):=by
 cases l with
 |nil=>exact absurd rfl hl
 |cons b r=>
  have hb:=h
  rw[List.all_cons,Bool.and_eq_true]at hb
  have hd:=ph hb.1
  rw[vf b r (by rw[beq_eq_false_iff_ne];rintro rfl;exact absurd hd.1 (by decide)) (by rw[beq_eq_false_iff_ne];rintro rfl;exact absurd hd.1 (by decide)),nh _ _ h];rfl
theorem tx:∀(l:List UInt8) (n k:Nat),l.all gF=true→n<10^k→kP n l<10^(k+l.length)
 |[],n,k,_,h=>by simpa[rk]using h
 |b::r,n,k,ha,h=>by
  rw[List.all_cons,Bool.and_eq_true]at ha
  have hd:=ph ha.1
  have:=tx r (n*10+dg b) (k+1) ha.2 (by rw[Nat.pow_succ];unfold dg;omega)
  rw[pP,List.length_cons,←Nat.add_assoc,Nat.add_right_comm];exact this
theorem xA {l:List UInt8} {n:Nat} (h:cj l=some n):n<10^9:=by
 unfold cj at h
 split at h
 ·rename_i hm
  cases h
  unfold gn at hm
  simp only[Bool.and_eq_true,decide_eq_true_eq]at hm
  have:=tx l 0 0 hm.2 (by decide)
  exact Nat.lt_of_lt_of_le this (Nat.pow_le_pow_right (by decide) (by omega))
 ·cases h
def dX (b:UInt8):Option Nat:=if 48≤b.toNat∧b.toNat≤57 then some (b.toNat-48)else if 97≤b.toNat∧b.toNat≤102 then some (b.toNat-87)else none
def fh (b:UInt8):Bool:=(dX b).isSome
def eG:List UInt8→List UInt8
 |a::b::r=>UInt8.ofNat (16*(dX a).getD 0+(dX b).getD 0)::eG r
 |_=>[]
def hF (l:List UInt8):Option (List UInt8):=if l=[45]then some []else if l.length%2=0∧l.all fh then some (eG l)else none
structure eI where
 kind:Int:=0
 name:List UInt8:=[]
 data:List UInt8:=[]
 slot:Int:=0
 n:Int:=0
 m:Int:=0
 mask:Int:=0
 keeps:List Int:=[]
 torns:List Int:=[]
deriving DecidableEq
def bs (s:String):List UInt8:=s.toUTF8.data.toList
def dm:List Int→List Int
 |a::_::r=>a::dm r
 |_=>[]
def eS:List Int→List Int
 |_::b::r=>b::eS r
 |_=>[]
def nF (w:List UInt8) (l:List Int):Option eI:=
 if w=[97,100,100]∧l.length=2 then some {kind:=6,slot:=l.getD 0 0,n:=l.getD 1 0}
 else if w=[114,101,116,105,114,101]∧l.length=1 then some {kind:=7,slot:=l.getD 0 0}
 else if w=[114,101,112,108,97,99,101]∧l.length=2 then some {kind:=8,slot:=l.getD 0 0,n:=l.getD 1 0}
 else if w=[108,111,115,101]∧l.length=1 then some {kind:=9,slot:=l.getD 0 0}
 else if w=[115,99,114,117,98]∧l.length=2 then some {kind:=10,n:=l.getD 0 0,m:=l.getD 1 0}
 else if w=[115,112,111,105,108]∧l.length=4 then some {kind:=11,slot:=l.getD 0 0,n:=l.getD 1 0,m:=l.getD 2 0,mask:=l.getD 3 0}
 else if w=[97,114,109]∧l.length=1 then some {kind:=12,n:=l.getD 0 0}
 else if w=[102,97,108,108]∧l.length%2=1 then some {kind:=13,n:=l.getD 0 0,keeps:=dm l.tail,torns:=eS l.tail}
 else none
def gN (w:List UInt8):Option Int:=if w=[103,101,116]then some 2 else if w=[100,101,108]then some 3 else if w=[115,116,97,116]then some 5 else none
def ub (l:List (List UInt8)):Option eI:=
 let w:=l.headD []
 if w=[112,117,116]then(if l.length=3 then(hF (l.getD 2 [])).map fun d=>{kind:=1,name:=l.getD 1 [],data:=d}else none)
 else match gN w with
  |some k=>if l.length=2 then some {kind:=k,name:=l.getD 1 []}else none
  |none=>if w=[108,105,115,116]then(if l.length=1 then some {kind:=4}else none)
   else match ck l.tail with
    |none=>none
    |some ns=>nF w (ns.map (fun(n:Nat)=>(n:Int)))
def iL (l:List UInt8):Option eI:=(rj l).bind ub
end Wl
