/- Part of the proofs that the laws of this seat answer true whatever the input reads, and leave it as it was; no condition. -/
import Derived.Test.YtdhamoojccmbdaaGreatDoorPlB
import Derived.Lib.SlicesCompact
import Derived.Test.YtdhamoojccmbdaaGreatDoorPlD
set_option linter.unusedVariables false
set_option linter.unusedSimpArgs false
open List renaming append_nil -> qQ, getElem?_eq_getElem -> qd, getElem?_eq_some_iff -> qm, mem_append -> qB, mem_filter -> qI, mem_iff_getElem? -> yy, mem_map -> qu, mem_range -> qF, mem_singleton -> qH, pairwise_append -> wV, pairwise_iff_getElem -> zd, pairwise_lt_range -> vy, pairwise_map -> w4, pairwise_mergeSort -> yQ
open Int renaming le_refl -> vQ
open Nat renaming le_refl -> ql
namespace Wl
open Go
theorem xE(a:List Int)(v:a.Pairwise (·<=·)):∀m,m<=a.length->(Lib.compactUpTo a.toArray m).Pairwise (·<·)/\(∀x,x∈Lib.compactUpTo a.toArray m↔∃j,j<m/\a[j]?=some x)
 |0,_=>⟨by simp[Lib.compactUpTo],fun x=>by simp[Lib.compactUpTo]⟩
 |m+1,hm=>by
  obtain⟨w,o⟩:=xE a v m (by omega);have b:m<a.length:=by omega
  have t:a.toArray[m]! =a[m]:=by simp[b]
  rw[Lib.compactUpTo_succ,t];have s:∀j (g:j<m),a[j]'(by omega)<=a[m]:=fun j g=>zd.1 v j m (by omega) b g;by_cases i:Lib.keeps a.toArray m=true
  ·rw[if_pos i];have r:m=0∨a[m-1]'(by omega)<a[m]:=by
    by_cases k:m=0
    ·exact .inl k
    ·right;have f:a.toArray[m-1]! =a[m-1]'(by omega):=by simp[show m-1<a.length by omega]
     have z:a[m]≠a[m-1]'(by omega):=fun n=>by
      have:=Lib.keeps_neg (d:=a.toArray) (m:=m) (by omega) (by rw[t,f];exact n);rw[this]at i;cases i
     have:=s (m-1) (by omega);omega
   have l:∀x∈Lib.compactUpTo a.toArray m,x<a[m]:=fun x u=>by
    obtain⟨j,g,h⟩:=(o x).1 u;rw[qd (by omega)]at h;injection h with h
    rcases r with q|q
    ·omega
    ·have h3:a[j]'(by omega)<=a[m-1]'(by omega):=by
      by_cases c:j=m-1
      ·subst c;exact vQ _
      ·exact zd.1 v j (m-1) (by omega) (by omega) (by omega)
     omega
   refine⟨wV.2 ⟨w,by simp,fun x u y A=>?_⟩,fun x=>?_⟩
   ·rw[qH.1 A];exact l x u
   ·rw[qB,o,qH];constructor
    ·rintro(⟨j,g,e⟩|rfl)
     ·exact⟨j,by omega,e⟩
     ·exact⟨m,by omega,qd b⟩
    ·rintro⟨j,g,e⟩;by_cases c:j=m
     ·subst c;rw[qd b]at e;injection e with e;exact .inr e.symm
     ·exact .inl ⟨j,by omega,e⟩
  ·rw[if_neg i,qQ];have k:m≠0:=fun q=>i (by subst q;exact Lib.keeps_lt_one _ 0 (by omega));have p:a[m]=a[m-1]'(by omega):=by
    by_cases n:a[m]=a[m-1]'(by omega)
    ·exact n
    ·have f:a.toArray[m-1]! =a[m-1]'(by omega):=by simp[show m-1<a.length by omega]
     exact absurd (Lib.keeps_pos (d:=a.toArray) (m:=m) (by rw[t,f];exact n)) i
   refine⟨w,fun x=>?_⟩;rw[o];constructor
   ·rintro⟨j,g,e⟩;exact⟨j,by omega,e⟩
   ·rintro⟨j,g,e⟩;by_cases c:j=m
    ·subst c;refine⟨j-1,by omega,?_⟩;rw[qd b]at e;rw[qd (by omega),<-p];exact e
    ·exact⟨j,by omega,e⟩
theorem SP(l:List Int):(ni l).Pairwise (·<=·):=by
 have:=yQ (le:=fun x y:Int=>decide (x<=y)) (by intro a b c d e;simp at d e⊢;omega) (by intro a b;simp;omega) l;exact this.imp fun h=>by simpa using h
theorem Yk(l:List Int)(h:∀x∈l,0<=x/\x<64):Lib.compact (ni l)=fK l:=by
 obtain⟨f,c⟩:=xE (ni l) (SP l) (ni l).length (ql _);have k:∀x,x∈Lib.compact (ni l)↔x∈l:=fun x=>by
  unfold Lib.compact;rw[c,<-PJ l x,yy];constructor
  ·rintro⟨j,_,e⟩;exact⟨j,e⟩
  ·rintro⟨j,e⟩;exact⟨j,(qm.1 e).1,e⟩
 have g:(fK l).Pairwise (·<·):=by
  unfold fK;refine List.Pairwise.filter _ ?_;rw[w4];exact vy.imp fun h=>by omega
 have d:∀x,x∈fK l↔x∈l:=fun x=>by
  unfold fK;rw[qI,qu];constructor
  ·rintro⟨_,c⟩;simpa using c
  ·intro i;obtain⟨a,b⟩:=h x i;exact⟨⟨x.toNat,qF.2 (by omega),by omega⟩,by simpa using i⟩
 have m:(Lib.compact (ni l)).Perm (fK l):=(List.perm_ext_iff_of_nodup (f.imp fun h=>by omega) (g.imp fun h=>by omega)).2 fun x=>(k x).trans (d x).symm;exact m.eq_of_pairwise (le:=(·<·)) (fun a b _ _ f c=>by omega) f g
end Wl
