/- Part of the proofs that the laws of this seat answer true whatever the input reads, and leave it as it was; no condition. -/
import Derived.Test.YtdhamoojccmbdaaGreatDoorPlB
import Derived.Lib.SlicesCompact
import Derived.Test.YtdhamoojccmbdaaGreatDoorPlD
set_option linter.unusedVariables false
set_option linter.unusedSimpArgs false
open List renaming append_nil -> qP, getElem?_eq_getElem -> qd, getElem?_eq_some_iff -> qm, mem_append -> qE, mem_filter -> qI, mem_iff_getElem? -> yw, mem_map -> qx, mem_range -> qH, mem_singleton -> qG, pairwise_append -> wQ, pairwise_iff_getElem -> zq, pairwise_map -> vk, pairwise_mergeSort -> vh
open Int renaming le_refl -> vE
open Nat renaming le_refl -> ql
namespace Wl
open Go
theorem vY(a:List Int)(o:a.Pairwise (·<=·)):∀m,m<=a.length->(Lib.compactUpTo a.toArray m).Pairwise (·<·)/\(∀x,x∈Lib.compactUpTo a.toArray m↔∃j,j<m/\a[j]?=some x)
 |0,_=>⟨by simp[Lib.compactUpTo],fun x=>by simp[Lib.compactUpTo]⟩
 |m+1,hm=>by
  obtain⟨w,t⟩:=vY a o m (by omega);have c:m<a.length:=by omega
  have r:a.toArray[m]! =a[m]:=by simp[c]
  rw[Lib.compactUpTo_succ,r];have s:∀j (h:j<m),a[j]'(by omega)<=a[m]:=fun j h=>zq.1 o j m (by omega) c h;by_cases i:Lib.keeps a.toArray m=true
  ·rw[if_pos i];have u:m=0∨a[m-1]'(by omega)<a[m]:=by
    by_cases l:m=0
    ·exact .inl l
    ·right;have g:a.toArray[m-1]! =a[m-1]'(by omega):=by simp[show m-1<a.length by omega]
     have A:a[m]≠a[m-1]'(by omega):=fun n=>by
      have:=Lib.keeps_neg (d:=a.toArray) (m:=m) (by omega) (by rw[r,g];exact n);rw[this]at i;cases i
     have:=s (m-1) (by omega);omega
   have k:∀x∈Lib.compactUpTo a.toArray m,x<a[m]:=fun x v=>by
    obtain⟨j,h,f⟩:=(t x).1 v;rw[qd (by omega)]at f;injection f with f
    rcases u with p|p
    ·omega
    ·have h3:a[j]'(by omega)<=a[m-1]'(by omega):=by
      by_cases b:j=m-1
      ·subst b;exact vE _
      ·exact zq.1 o j (m-1) (by omega) (by omega) (by omega)
     omega
   refine⟨wQ.2 ⟨w,by simp,fun x v y z=>?_⟩,fun x=>?_⟩
   ·rw[qG.1 z];exact k x v
   ·rw[qE,t,qG];constructor
    ·rintro(⟨j,h,e⟩|rfl)
     ·exact⟨j,by omega,e⟩
     ·exact⟨m,by omega,qd c⟩
    ·rintro⟨j,h,e⟩;by_cases b:j=m
     ·subst b;rw[qd c]at e;injection e with e;exact .inr e.symm
     ·exact .inl ⟨j,by omega,e⟩
  ·rw[if_neg i,qP];have l:m≠0:=fun p=>i (by subst p;exact Lib.keeps_lt_one _ 0 (by omega));have q:a[m]=a[m-1]'(by omega):=by
    by_cases n:a[m]=a[m-1]'(by omega)
    ·exact n
    ·have g:a.toArray[m-1]! =a[m-1]'(by omega):=by simp[show m-1<a.length by omega]
     exact absurd (Lib.keeps_pos (d:=a.toArray) (m:=m) (by rw[r,g];exact n)) i
   refine⟨w,fun x=>?_⟩;rw[t];constructor
   ·rintro⟨j,h,e⟩;exact⟨j,by omega,e⟩
   ·rintro⟨j,h,e⟩;by_cases b:j=m
    ·subst b;refine⟨j-1,by omega,?_⟩;rw[qd c]at e;rw[qd (by omega),<-q];exact e
    ·exact⟨j,by omega,e⟩
theorem RJ(l:List Int):(mL l).Pairwise (·<=·):=by
 have:=vh (le:=fun x y:Int=>decide (x<=y)) (by intro a b c d e;simp at d e⊢;omega) (by intro a b;simp;omega) l;exact this.imp fun h=>by simpa using h
theorem Xn(l:List Int)(h:∀x∈l,0<=x/\x<64):Lib.compact (mL l)=fE l:=by
 obtain⟨d,c⟩:=vY (mL l) (RJ l) (mL l).length (ql _);have k:∀x,x∈Lib.compact (mL l)↔x∈l:=fun x=>by
  unfold Lib.compact;rw[c,<-OH l x,yw];constructor
  ·rintro⟨j,_,e⟩;exact⟨j,e⟩
  ·rintro⟨j,e⟩;exact⟨j,(qm.1 e).1,e⟩
 have i:(fE l).Pairwise (·<·):=by
  unfold fE;refine List.Pairwise.filter _ ?_;rw[vk];exact List.pairwise_lt_range.imp fun h=>by omega
 have f:∀x,x∈fE l↔x∈l:=fun x=>by
  unfold fE;rw[qI,qx];constructor
  ·rintro⟨_,c⟩;simpa using c
  ·intro g;obtain⟨a,b⟩:=h x g;exact⟨⟨x.toNat,qH.2 (by omega),by omega⟩,by simpa using g⟩
 have m:(Lib.compact (mL l)).Perm (fE l):=(List.perm_ext_iff_of_nodup (d.imp fun h=>by omega) (i.imp fun h=>by omega)).2 fun x=>(k x).trans (f x).symm;exact m.eq_of_pairwise (le:=(·<·)) (fun a b _ _ d c=>by omega) d i
end Wl
