/- Lemmas for the proof of the law; no condition. -/
import Derived.Lib.SlicesCompact
import Derived.Test.YtnjommcknbionaaGreatDoorPlD
set_option linter.unusedVariables false
set_option linter.unusedSimpArgs false
open List renaming getElem?_eq_getElem -> qd, mem_singleton -> qB, pairwise_iff_getElem -> zb
namespace Wl
open Go
theorem oP(a:aB)(u:a.Pairwise (·<=·)):∀m,m<=a.length->(Lib.compactUpTo a.toArray m).Pairwise (·<·)/\(∀x,x∈Lib.compactUpTo a.toArray m↔∃j,j<m/\a[j]?=some x)
 |0,_=>⟨by simp[Lib.compactUpTo],fun x=>by simp[Lib.compactUpTo]⟩
 |m+1,hm=>by
  obtain⟨w,t⟩:=oP a u m (by omega);have c:m<a.length:=by omega
  have s:a.toArray[m]! =a[m]:=by simp[c]
  rw[Lib.compactUpTo_succ,s];have o:∀j (f:j<m),a[j]'(by omega)<=a[m]:=fun j f=>zb.1 u j m (by omega) c f;by_cases i:Lib.keeps a.toArray m=true
  ·rw[if_pos i];have q:m=0∨a[m-1]'(by omega)<a[m]:=by
    by_cases k:m=0
    ·exact .inl k
    ·right;have g:a.toArray[m-1]! =a[m-1]'(by omega):=by simp[show m-1<a.length by omega]
     have z:a[m]≠a[m-1]'(by omega):=fun n=>by
      have:=Lib.keeps_neg (d:=a.toArray) (m:=m) (by omega) (by rw[s,g];exact n);rw[this]at i;cases i
     have:=o (m-1) (by omega);omega
   have l:∀x∈Lib.compactUpTo a.toArray m,x<a[m]:=fun x v=>by
    obtain⟨j,f,h⟩:=(t x).1 v;rw[qd (by omega)]at h;injection h with h
    rcases q with r|r
    ·omega
    ·have h3:a[j]'(by omega)<=a[m-1]'(by omega):=by
      by_cases b:j=m-1
      ·subst b;exact Int.le_refl _
      ·exact zb.1 u j (m-1) (by omega) (by omega) (by omega)
     omega
   refine⟨List.pairwise_append.2 ⟨w,by simp,fun x v y A=>?_⟩,fun x=>?_⟩
   ·rw[qB.1 A];exact l x v
   ·rw[List.mem_append,t,qB];constructor
    ·rintro(⟨j,f,e⟩|rfl)
     ·exact⟨j,by omega,e⟩
     ·exact⟨m,by omega,qd c⟩
    ·rintro⟨j,f,e⟩;by_cases b:j=m
     ·subst b;rw[qd c]at e;injection e with e;exact .inr e.symm
     ·exact .inl ⟨j,by omega,e⟩
  ·rw[if_neg i,List.append_nil];have k:m≠0:=fun r=>i (by subst r;exact Lib.keeps_lt_one _ 0 (by omega));have p:a[m]=a[m-1]'(by omega):=by
    by_cases n:a[m]=a[m-1]'(by omega)
    ·exact n
    ·have g:a.toArray[m-1]! =a[m-1]'(by omega):=by simp[show m-1<a.length by omega]
     exact absurd (Lib.keeps_pos (d:=a.toArray) (m:=m) (by rw[s,g];exact n)) i
   refine⟨w,fun x=>?_⟩;rw[t];constructor
   ·rintro⟨j,f,e⟩;exact⟨j,by omega,e⟩
   ·rintro⟨j,f,e⟩;by_cases b:j=m
    ·subst b;refine⟨j-1,by omega,?_⟩;rw[qd c]at e;rw[qd (by omega),<-p];exact e
    ·exact⟨j,by omega,e⟩
theorem xo(l:aB):(iq l).Pairwise (·<=·):=by
 have:=List.pairwise_mergeSort (le:=fun x y:Int=>decide (x<=y)) (by intro a b c e d;simp at e d⊢;omega) (by intro a b;simp;omega) l;exact this.imp fun h=>by simpa using h
theorem MK(l:aB)(h:∀x∈l,0<=x/\x<64):Lib.compact (iq l)=ey l:=by
 obtain⟨d,c⟩:=oP (iq l) (xo l) (iq l).length (Nat.le_refl _);have m:∀x,x∈Lib.compact (iq l)↔x∈l:=fun x=>by
  unfold Lib.compact;rw[c,<-Gd l x,List.mem_iff_getElem?];constructor
  ·rintro⟨j,_,e⟩;exact⟨j,e⟩
  ·rintro⟨j,e⟩;exact⟨j,(List.getElem?_eq_some_iff.1 e).1,e⟩
 have g:(ey l).Pairwise (·<·):=by
  unfold ey;refine List.Pairwise.filter _ ?_;rw[List.pairwise_map];exact List.pairwise_lt_range.imp fun h=>by omega
 have f:∀x,x∈ey l↔x∈l:=fun x=>by
  unfold ey;rw[List.mem_filter,List.mem_map];constructor
  ·rintro⟨_,c⟩;simpa using c
  ·intro i;obtain⟨a,b⟩:=h x i;exact⟨⟨x.toNat,List.mem_range.2 (by omega),by omega⟩,by simpa using i⟩
 have k:(Lib.compact (iq l)).Perm (ey l):=(List.perm_ext_iff_of_nodup (d.imp fun h=>by omega) (g.imp fun h=>by omega)).2 fun x=>(m x).trans (f x).symm;exact k.eq_of_pairwise (le:=(·<·)) (fun a b _ _ d c=>by omega) d g
end Wl
