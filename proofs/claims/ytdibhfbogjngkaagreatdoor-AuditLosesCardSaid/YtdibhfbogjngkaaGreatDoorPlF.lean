/- Lemmas for the proof of the law; no condition. -/
import Derived.Lib.SlicesCompact
import Derived.Test.YtdibhfbogjngkaaGreatDoorPlD
set_option linter.unusedVariables false
set_option linter.unusedSimpArgs false
open List renaming getElem?_eq_getElem -> qd, mem_singleton -> qC, pairwise_iff_getElem -> zw
namespace Wl
open Go
theorem Ab(a:aF)(v:a.Pairwise (·<=·)):∀m,m<=a.length->(Lib.compactUpTo a.toArray m).Pairwise (·<·)/\(∀x,x∈Lib.compactUpTo a.toArray m↔∃j,j<m/\a[j]?=some x)
 |0,_=>⟨by simp[Lib.compactUpTo],λx=>by simp[Lib.compactUpTo]⟩
 |m+1,hm=>by
  obtain⟨w,p⟩:=Ab a v m i4;have b:m<a.length:=i4
  have q:a.toArray[m]! =a[m]:=ns
  rw[Lib.compactUpTo_succ,q];have t:∀j (f:j<m),a[j]'(by omega)<=a[m]:=λj f=>zw.1 v j m i4 b f;by_cases i:Lib.keeps a.toArray m=true
  ·rw[f9 i];have o:m=0∨a[m-1]'(by omega)<a[m]:=by
    by_cases l:m=0
    ·exact .inl l
    ·right;have h:a.toArray[m-1]! =a[m-1]'(by omega):=by simp[show m-1<a.length by omega]
     have z:a[m]≠a[m-1]'(by omega):=λn=>by
      have:=Lib.keeps_neg (d:=a.toArray) (m:=m) i4 (by rw[q,h];exact n);rw[this]at i;cases i
     have:=t (m-1) i4;omega
   have k:∀x∈Lib.compactUpTo a.toArray m,x<a[m]:=λx s=>by
    obtain⟨j,f,g⟩:=(p x).1 s;rw[qd i4]at g;injection g with g
    rcases o with r|r
    ·omega
    ·have h3:a[j]'(by omega)<=a[m-1]'(by omega):=by
      by_cases c:j=m-1
      ·subst c;exact Int.le_refl _
      ·exact zw.1 v j (m-1) i4 i4 i4
     omega
   refine⟨List.pairwise_append.2 ⟨w,i9,λx s y A=>?_⟩,λx=>?_⟩
   ·rw[qC.1 A];exact k x s
   ·rw[List.mem_append,p,qC];constructor
    ·rintro(⟨j,f,e⟩|rfl)
     ·exact⟨j,i4,e⟩
     ·exact⟨m,i4,qd b⟩
    ·rintro⟨j,f,e⟩;by_cases c:j=m
     ·subst c;rw[qd b]at e;injection e with e;exact .inr e.symm
     ·exact .inl ⟨j,i4,e⟩
  ·rw[g0 i,List.append_nil];have l:m≠0:=λr=>i (by subst r;exact Lib.keeps_lt_one _ 0 i4);have u:a[m]=a[m-1]'(by omega):=by
    by_cases n:a[m]=a[m-1]'(by omega)
    ·exact n
    ·have h:a.toArray[m-1]! =a[m-1]'(by omega):=by simp[show m-1<a.length by omega]
     exact absurd (Lib.keeps_pos (d:=a.toArray) (m:=m) (by rw[q,h];exact n)) i
   refine⟨w,λx=>?_⟩;rw[p];constructor
   ·rintro⟨j,f,e⟩;exact⟨j,i4,e⟩
   ·rintro⟨j,f,e⟩;by_cases c:j=m
    ·subst c;refine⟨j-1,i4,?_⟩;rw[qd b]at e;rw[qd i4,<-u];exact e
    ·exact⟨j,i4,e⟩
theorem Ac(l:aF):(gK l).Pairwise (·<=·):=by have:=List.pairwise_mergeSort (le:=λx y:Int=>decide (x<=y)) (by intro a b c e d;simp at e d⊢;omega) (by intro a b;simp;omega) l;exact this.imp λh=>j5
theorem XT(l:aF)(h:∀x∈l,0<=x/\x<64):Lib.compact (gK l)=ge l:=by
 obtain⟨f,c⟩:=Ab (gK l) (Ac l) (gK l).length (Nat.le_refl _);have m:∀x,x∈Lib.compact (gK l)↔x∈l:=λx=>by
  unfold Lib.compact;rw[c,<-Bt l x,List.mem_iff_getElem?];constructor
  ·rintro⟨j,_,e⟩;exact⟨j,e⟩
  ·rintro⟨j,e⟩;exact⟨j,(List.getElem?_eq_some_iff.1 e).1,e⟩
 have g:(ge l).Pairwise (·<·):=by unfold ge;refine List.Pairwise.filter _ ?_;rw[List.pairwise_map];exact List.pairwise_lt_range.imp λh=>i4
 have d:∀x,x∈ge l↔x∈l:=λx=>by
  unfold ge;rw[List.mem_filter,List.mem_map];constructor
  ·rintro⟨_,c⟩;simpa using c
  ·intro i;obtain⟨a,b⟩:=h x i;exact⟨⟨x.toNat,List.mem_range.2 i4,i4⟩,by simpa using i⟩
 have k:(Lib.compact (gK l)).Perm (ge l):=(List.perm_ext_iff_of_nodup (f.imp λh=>i4) (g.imp λh=>i4)).2 λx=>(m x).trans (d x).symm;exact k.eq_of_pairwise (le:=(·<·)) (λa b _ _ f c=>i4) f g
end Wl
