/- Part of the proofs that the laws of this seat answer true whatever the input reads, and leave it as it was; no condition. -/
import Derived.Lib.Split
import Derived.Lib.Atoi
set_option linter.unusedVariables false
set_option linter.unusedSimpArgs false
namespace Wl
open Go.Lib
def ce (c:UInt8):List UInt8→List UInt8→List (List UInt8)
 |w,[]=>[w]
 |w,x::r=>if x=c then w::ce c [] r else ce c (w++[x]) r
def jl (l:List UInt8):List (List UInt8):=ce 32 [] l
theorem ic (c:UInt8):∀(r a w:List UInt8),c∉a→ce c w (a++r)=ce c (w++a) r
 |r,[],w,_=>by simp
 |r,x::a,w,h=>by
  simp only[List.mem_cons,not_or]at h
  rw[List.cons_append,ce,if_neg (fun e=>h.1 e.symm),ic c r a _ h.2];simp
theorem xF (c:UInt8):∀(l w:List UInt8),ce c w l≠[]
 |[],w=>by simp[ce]
 |x::r,w=>by unfold ce;split<;>simp[xF c r]
theorem kn (c:UInt8):∀(l w:List UInt8),(ce c w l).length=l.count c+1
 |[],w=>by simp[ce]
 |x::r,w=>by
  unfold ce
  by_cases h:x=c
  ·rw[if_pos h,List.length_cons,kn c r,h,List.count_cons_self]
  ·rw[if_neg h,kn c r,List.count_cons_of_ne h]
theorem pI (l:List UInt8) (c:UInt8):(index l [c]=-1∧c∉l)∨∃i:Nat,index l [c]=i∧l=l.take i++c::l.drop (i+1)∧c∉l.take i∧i<l.length:=by
 by_cases hi:index l [c]<0
 ·have h1:index l [c]=-1:=by have:=index_ge l [c];omega
  refine .inl ⟨h1,fun hm=>?_⟩
  obtain⟨i,hi',e⟩:=List.mem_iff_getElem.1 hm
  rw[index_one]at h1
  exact indexByte_none h1 i (by rw[List.getElem?_eq_getElem hi',e])
 ·obtain⟨i,h1⟩:∃i:Nat,index l [c]=i:=⟨(index l [c]).toNat,by omega⟩
  have h2:=h1
  rw[index_one]at h2
  obtain⟨ha,hb⟩:=indexByte_some h2
  have hil:i<l.length:=(List.getElem?_eq_some_iff.1 ha).1
  have e:l[i]=c:=(List.getElem?_eq_some_iff.1 ha).2
  refine .inr ⟨i,h1,?_,fun hm=>?_,hil⟩
  ·rw[←e,←List.drop_eq_getElem_cons hil,List.take_append_drop]
  ·obtain⟨j,hj,e⟩:=List.mem_iff_getElem.1 hm
   rw[List.length_take]at hj
   exact hb j (by omega) (by rw[List.getElem_take]at e;rw[List.getElem?_eq_getElem (by omega),e])
theorem nZ (c:UInt8):∀(k:Nat) (l:List UInt8),l.count c=k→splitK [c] 0 k l=ce c [] l
 |k,l,hk=>by
  rcases pI l c with⟨h1,hn⟩|⟨i,h1,hl,hn,hil⟩
  ·have:ce c [] l=[l]:=by have:=ic c [] l [] hn;simpa[ce]using this
   rw[this]
   cases k with
   |zero=>rfl
   |succ k=>unfold splitK;rw[if_pos (by rw[h1];rfl)]
  ·have hc:l.count c=(l.drop (i+1)).count c+1:=by
    conv=>lhs;rw[hl]
    rw[List.count_append,List.count_cons_self,List.count_eq_zero.2 hn];omega
   cases k with
   |zero=>omega
   |succ k=>
    unfold splitK
    rw[if_neg (by rw[h1,beq_iff_eq];omega),h1]
    simp only[Int.toNat_natCast,Nat.add_zero,List.length_singleton]
    rw[nZ c k (l.drop (i+1)) (by omega)]
    conv=>rhs;rw[hl]
    rw[ic c _ _ _ hn]
    simp[ce]
theorem ko (c:UInt8):∀(n:Nat) (l:List UInt8),l.length≤n→Go.Lib.count l [c]=l.count c
 |n,l,hl'=>by
  rcases pI l c with⟨h1,hn⟩|⟨i,h1,hl,hn,hil⟩
  ·rw[count_miss h1,List.count_eq_zero.2 hn]
  ·cases n with
   |zero=>omega
   |succ n=>
    rw[count_hit (by simp) h1,List.length_singleton,ko c n _ (by simp;omega)]
    conv=>rhs;rw[hl]
    rw[List.count_append,List.count_cons_self,List.count_eq_zero.2 hn];omega
def ie (l:List UInt8):Option (List (List UInt8)):=if(jl l).any List.isEmpty then none else some (jl l)
def dU (b:UInt8):Bool:=decide (48≤b.toNat∧b.toNat≤57)
def dg (b:UInt8):Nat:=b.toNat-48
def fp (n:Nat) (l:List UInt8):Nat:=l.foldl (fun n b=>n*10+dg b) n
theorem ri (n:Nat):fp n []=n:=rfl
theorem pJ (n:Nat) (b:UInt8) (r:List UInt8):fp n (b::r)=fp (n*10+dg b) r:=by unfold fp;rw[List.foldl_cons]
def eT (l:List UInt8):Bool:=decide (1≤l.length∧l.length≤9)&&!(decide (1<l.length)&&l.headD 0==48)&&l.all dU
def cB (l:List UInt8):Option Nat:=if eT l then some (fp 0 l)else none
def bD:List (List UInt8)→Option (List Nat)
 |[]=>some []
 |w::r=>match cB w with
  |none=>none
  |some n=>(bD r).map (n::·)
theorem oX {b:UInt8} (h:dU b=true):48≤b.toNat∧b.toNat≤57:=of_decide_eq_true h
theorem rj (n:Nat) (b:UInt8) (r:List UInt8) (h:dU b=true):decFrom n (b::r)=decFrom (n*10+dg b) r:=by
 have hd:digitVal b=some (dg b):=if_pos (oX h)
 rw[decFrom,hd]
theorem mZ:∀(l:List UInt8) (n:Nat),l.all dU=true→decFrom n l=some (fp n l)
 |[],n,_=>by rw[decFrom,ri]
 |b::r,n,h=>by
  rw[List.all_cons,Bool.and_eq_true]at h
  rw[rj n b r h.1,mZ r _ h.2,pJ]
theorem vj (b:UInt8) (r:List UInt8) (h1:(b==45)=false) (h2:(b==43)=false):atoi (b::r)=(decFrom 0 (b::r)).map fun(m:Nat)=>(m:Int):=by
 simp only[atoi,h1,h2,decNat,Bool.false_eq_true,if_false,List.isEmpty_cons]
theorem wu {l:List UInt8} (hl:l≠[]) (h:l.all dU=true):atoi l=some ((fp 0 l:Nat):Int):=by
 cases l with
 |nil=>exact absurd rfl hl
 |cons b r=>
  have hb:=h
  rw[List.all_cons,Bool.and_eq_true]at hb
  have hd:=oX hb.1
  rw[vj b r (by rw[beq_eq_false_iff_ne];rintro rfl;exact absurd hd.1 (by decide)) (by rw[beq_eq_false_iff_ne];rintro rfl;exact absurd hd.1 (by decide)),mZ _ _ h];rfl
theorem tt:∀(l:List UInt8) (n k:Nat),l.all dU=true→n<10^k→fp n l<10^(k+l.length)
 |[],n,k,_,h=>by simpa[ri]using h
 |b::r,n,k,ha,h=>by
  rw[List.all_cons,Bool.and_eq_true]at ha
  have hd:=oX ha.1
  have:=tt r (n*10+dg b) (k+1) ha.2 (by rw[Nat.pow_succ];unfold dg;omega)
  rw[pJ,List.length_cons,←Nat.add_assoc,Nat.add_right_comm];exact this
theorem xG {l:List UInt8} {n:Nat} (h:cB l=some n):n<10^9:=by
 unfold cB at h
 split at h
 ·rename_i hm
  cases h
  unfold eT at hm
  simp only[Bool.and_eq_true,decide_eq_true_eq]at hm
  have:=tt l 0 0 hm.2 (by decide)
  exact Nat.lt_of_lt_of_le this (Nat.pow_le_pow_right (by decide) (by omega))
 ·cases h
def dc (b:UInt8):Option Nat:=if 48≤b.toNat∧b.toNat≤57 then some (b.toNat-48)else if 97≤b.toNat∧b.toNat≤102 then some (b.toNat-87)else none
def di (b:UInt8):Bool:=(dc b).isSome
def dj:List UInt8→List UInt8
 |a::b::r=>UInt8.ofNat (16*(dc a).getD 0+(dc b).getD 0)::dj r
 |_=>[]
def eU (l:List UInt8):Option (List UInt8):=if l=[45]then some []else if l.length%2=0∧l.all di then some (dj l)else none
structure aW where
 kind:Int:=0
 name:List UInt8:=[]
 data:List UInt8:=[]
 slot:Int:=0
 n:Int:=0
 m:Int:=0
 mask:Int:=0
 keeps:List Int:=[]
 torns:List Int:=[]
deriving DecidableEq
def bs (s:String):List UInt8:=s.toUTF8.data.toList
def cT:List Int→List Int
 |a::_::r=>a::cT r
 |_=>[]
def dT:List Int→List Int
 |_::b::r=>b::dT r
 |_=>[]
def ig (w:List UInt8) (l:List Int):Option aW:=
 if w=[97,100,100]∧l.length=2 then some {kind:=6,slot:=l.getD 0 0,n:=l.getD 1 0}
 else if w=[114,101,116,105,114,101]∧l.length=1 then some {kind:=7,slot:=l.getD 0 0}
 else if w=[114,101,112,108,97,99,101]∧l.length=2 then some {kind:=8,slot:=l.getD 0 0,n:=l.getD 1 0}
 else if w=[108,111,115,101]∧l.length=1 then some {kind:=9,slot:=l.getD 0 0}
 else if w=[115,99,114,117,98]∧l.length=2 then some {kind:=10,n:=l.getD 0 0,m:=l.getD 1 0}
 else if w=[115,112,111,105,108]∧l.length=4 then some {kind:=11,slot:=l.getD 0 0,n:=l.getD 1 0,m:=l.getD 2 0,mask:=l.getD 3 0}
 else if w=[97,114,109]∧l.length=1 then some {kind:=12,n:=l.getD 0 0}
 else if w=[102,97,108,108]∧l.length%2=1 then some {kind:=13,n:=l.getD 0 0,keeps:=cT l.tail,torns:=dT l.tail}
 else none
def fq (w:List UInt8):Option Int:=if w=[103,101,116]then some 2 else if w=[100,101,108]then some 3 else if w=[115,116,97,116]then some 5 else none
def mH (l:List (List UInt8)):Option aW:=
 let w:=l.headD []
 if w=[112,117,116]then(if l.length=3 then(eU (l.getD 2 [])).map fun d=>{kind:=1,name:=l.getD 1 [],data:=d}else none)
 else match fq w with
  |some k=>if l.length=2 then some {kind:=k,name:=l.getD 1 []}else none
  |none=>if w=[108,105,115,116]then(if l.length=1 then some {kind:=4}else none)
   else match bD l.tail with
    |none=>none
    |some ns=>ig w (ns.map (fun(n:Nat)=>(n:Int)))
def cM (l:List UInt8):Option aW:=(ie l).bind mH
end Wl
