/- Part of the proofs that the laws of this seat answer true whatever the input reads, and leave it as it was; no condition. -/
import Derived.Test.YtcamechmadjclaaGreatDoorPlB
import Derived.Lib.SlicesCompact
import Derived.Test.YtcamechmadjclaaGreatDoorPlD
set_option linter.unusedVariables false
set_option linter.unusedSimpArgs false
open List renaming append_nil -> qU, getElem?_eq_getElem -> qc, getElem?_eq_some_iff -> qn, mem_append -> qZ, mem_map -> zx, mem_range -> q5, mem_singleton -> qz, pairwise_iff_getElem -> z7
open Nat renaming le_refl -> qM
namespace Wl
open Go
theorem iX(a:List Int)(p:a.Pairwise (·<=·)):∀m,m<=a.length->(Lib.compactUpTo a.toArray m).Pairwise (·<·)/\(∀x,x∈Lib.compactUpTo a.toArray m↔∃j,j<m/\a[j]?=some x)
 |0,_=>⟨by simp[Lib.compactUpTo],fun x=>by simp[Lib.compactUpTo]⟩
 |m+1,hm=>by
  obtain⟨w,v⟩:=iX a p m (by omega);have b:m<a.length:=by omega
  have u:a.toArray[m]! =a[m]:=by simp[b]
  rw[Lib.compactUpTo_succ,u];have r:∀j (h:j<m),a[j]'(by omega)<=a[m]:=fun j h=>z7.1 p j m (by omega) b h;by_cases i:Lib.keeps a.toArray m=true
  ·rw[if_pos i];have t:m=0∨a[m-1]'(by omega)<a[m]:=by
    by_cases k:m=0
    ·exact .inl k
    ·right;have f:a.toArray[m-1]! =a[m-1]'(by omega):=by simp[show m-1<a.length by omega]
     have z:a[m]≠a[m-1]'(by omega):=fun n=>by
      have:=Lib.keeps_neg (d:=a.toArray) (m:=m) (by omega) (by rw[u,f];exact n);rw[this]at i;cases i
     have:=r (m-1) (by omega);omega
   have l:∀x∈Lib.compactUpTo a.toArray m,x<a[m]:=fun x q=>by
    obtain⟨j,h,g⟩:=(v x).1 q;rw[qc (by omega)]at g;injection g with g
    rcases t with s|s
    ·omega
    ·have B:a[j]'(by omega)<=a[m-1]'(by omega):=by
      by_cases c:j=m-1
      ·subst c;exact Int.le_refl _
      ·exact z7.1 p j (m-1) (by omega) (by omega) (by omega)
     omega
   refine⟨List.pairwise_append.2 ⟨w,by simp,fun x q y A=>?_⟩,fun x=>?_⟩
   ·rw[qz.1 A];exact l x q
   ·rw[qZ,v,qz];constructor
    ·rintro(⟨j,h,e⟩|rfl)
     ·exact⟨j,by omega,e⟩
     ·exact⟨m,by omega,qc b⟩
    ·rintro⟨j,h,e⟩;by_cases c:j=m
     ·subst c;rw[qc b]at e;injection e with e;exact .inr e.symm
     ·exact .inl ⟨j,by omega,e⟩
  ·rw[if_neg i,qU];have k:m≠0:=fun s=>i (by subst s;exact Lib.keeps_lt_one _ 0 (by omega));have o:a[m]=a[m-1]'(by omega):=by
    by_cases n:a[m]=a[m-1]'(by omega)
    ·exact n
    ·have f:a.toArray[m-1]! =a[m-1]'(by omega):=by simp[show m-1<a.length by omega]
     exact absurd (Lib.keeps_pos (d:=a.toArray) (m:=m) (by rw[u,f];exact n)) i
   refine⟨w,fun x=>?_⟩;rw[v];constructor
   ·rintro⟨j,h,e⟩;exact⟨j,by omega,e⟩
   ·rintro⟨j,h,e⟩;by_cases c:j=m
    ·subst c;refine⟨j-1,by omega,?_⟩;rw[qc b]at e;rw[qc (by omega),<-o];exact e
    ·exact⟨j,by omega,e⟩
theorem rY(l:List Int):(fh l).Pairwise (·<=·):=by
 have:=List.pairwise_mergeSort (le:=fun x y:Int=>decide (x<=y)) (by intro a b c e d;simp at e d⊢;omega) (by intro a b;simp;omega) l;exact this.imp fun h=>by simpa using h
theorem tV(l:List Int)(h:∀x∈l,0<=x/\x<64):Lib.compact (fh l)=cv l:=by
 obtain⟨d,c⟩:=iX (fh l) (rY l) (fh l).length (qM _);have m:∀x,x∈Lib.compact (fh l)↔x∈l:=fun x=>by
  unfold Lib.compact;rw[c,<-uL l x,List.mem_iff_getElem?];constructor
  ·rintro⟨j,_,e⟩;exact⟨j,e⟩
  ·rintro⟨j,e⟩;exact⟨j,(qn.1 e).1,e⟩
 have g:(cv l).Pairwise (·<·):=by
  unfold cv;refine List.Pairwise.filter _ ?_;rw[List.pairwise_map];exact List.pairwise_lt_range.imp fun h=>by omega
 have f:∀x,x∈cv l↔x∈l:=fun x=>by
  unfold cv;rw[List.mem_filter,zx];constructor
  ·rintro⟨_,c⟩;simpa using c
  ·intro i;obtain⟨a,b⟩:=h x i;exact⟨⟨x.toNat,q5.2 (by omega),by omega⟩,by simpa using i⟩
 have k:(Lib.compact (fh l)).Perm (cv l):=(List.perm_ext_iff_of_nodup (d.imp fun h=>by omega) (g.imp fun h=>by omega)).2 fun x=>(m x).trans (f x).symm;exact k.eq_of_pairwise (le:=(·<·)) (fun a b _ _ d c=>by omega) d g
end Wl
