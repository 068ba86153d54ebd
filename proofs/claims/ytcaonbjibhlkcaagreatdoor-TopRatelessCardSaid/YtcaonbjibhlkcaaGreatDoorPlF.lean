/- Lemmas for the proof of the law; no condition. -/
import Derived.Lib.SlicesCompact
import Derived.Test.YtcaonbjibhlkcaaGreatDoorPlD
set_option linter.unusedVariables false
set_option linter.unusedSimpArgs false
open List renaming getElem?_eq_getElem -> qd, mem_singleton -> qG, pairwise_iff_getElem -> zj
namespace Wl
open Go
theorem uH(a:aB)(r:a.Pairwise (·<=·)):∀m,m<=a.length->(Lib.compactUpTo a.toArray m).Pairwise (·<·)/\(∀x,x∈Lib.compactUpTo a.toArray m↔∃j,j<m/\a[j]?=some x)
 |0,_=>⟨by simp[Lib.compactUpTo],fun x=>by simp[Lib.compactUpTo]⟩
 |m+1,hm=>by
  obtain⟨w,s⟩:=uH a r m (by omega);have b:m<a.length:=by omega
  have u:a.toArray[m]! =a[m]:=by simp[b]
  rw[Lib.compactUpTo_succ,u];have o:∀j (f:j<m),a[j]'(by omega)<=a[m]:=fun j f=>zj.1 r j m (by omega) b f;by_cases i:Lib.keeps a.toArray m=true
  ·rw[if_pos i];have v:m=0∨a[m-1]'(by omega)<a[m]:=by
    by_cases l:m=0
    ·exact .inl l
    ·right;have g:a.toArray[m-1]! =a[m-1]'(by omega):=by simp[show m-1<a.length by omega]
     have z:a[m]≠a[m-1]'(by omega):=fun n=>by
      have:=Lib.keeps_neg (d:=a.toArray) (m:=m) (by omega) (by rw[u,g];exact n);rw[this]at i;cases i
     have:=o (m-1) (by omega);omega
   have k:∀x∈Lib.compactUpTo a.toArray m,x<a[m]:=fun x q=>by
    obtain⟨j,f,h⟩:=(s x).1 q;rw[qd (by omega)]at h;injection h with h
    rcases v with p|p
    ·omega
    ·have h3:a[j]'(by omega)<=a[m-1]'(by omega):=by
      by_cases c:j=m-1
      ·subst c;exact Int.le_refl _
      ·exact zj.1 r j (m-1) (by omega) (by omega) (by omega)
     omega
   refine⟨List.pairwise_append.2 ⟨w,by simp,fun x q y A=>?_⟩,fun x=>?_⟩
   ·rw[qG.1 A];exact k x q
   ·rw[List.mem_append,s,qG];constructor
    ·rintro(⟨j,f,e⟩|rfl)
     ·exact⟨j,by omega,e⟩
     ·exact⟨m,by omega,qd b⟩
    ·rintro⟨j,f,e⟩;by_cases c:j=m
     ·subst c;rw[qd b]at e;injection e with e;exact .inr e.symm
     ·exact .inl ⟨j,by omega,e⟩
  ·rw[if_neg i,List.append_nil];have l:m≠0:=fun p=>i (by subst p;exact Lib.keeps_lt_one _ 0 (by omega));have t:a[m]=a[m-1]'(by omega):=by
    by_cases n:a[m]=a[m-1]'(by omega)
    ·exact n
    ·have g:a.toArray[m-1]! =a[m-1]'(by omega):=by simp[show m-1<a.length by omega]
     exact absurd (Lib.keeps_pos (d:=a.toArray) (m:=m) (by rw[u,g];exact n)) i
   refine⟨w,fun x=>?_⟩;rw[s];constructor
   ·rintro⟨j,f,e⟩;exact⟨j,by omega,e⟩
   ·rintro⟨j,f,e⟩;by_cases c:j=m
    ·subst c;refine⟨j-1,by omega,?_⟩;rw[qd b]at e;rw[qd (by omega),<-t];exact e
    ·exact⟨j,by omega,e⟩
theorem Fe(l:aB):(jl l).Pairwise (·<=·):=by
 have:=List.pairwise_mergeSort (le:=fun x y:Int=>decide (x<=y)) (by intro a b c e d;simp at e d⊢;omega) (by intro a b;simp;omega) l;exact this.imp fun h=>by simpa using h
theorem Vq(l:aB)(h:∀x∈l,0<=x/\x<64):Lib.compact (jl l)=fJ l:=by
 obtain⟨f,c⟩:=uH (jl l) (Fe l) (jl l).length (Nat.le_refl _);have k:∀x,x∈Lib.compact (jl l)↔x∈l:=fun x=>by
  unfold Lib.compact;rw[c,<-MX l x,List.mem_iff_getElem?];constructor
  ·rintro⟨j,_,e⟩;exact⟨j,e⟩
  ·rintro⟨j,e⟩;exact⟨j,(List.getElem?_eq_some_iff.1 e).1,e⟩
 have i:(fJ l).Pairwise (·<·):=by
  unfold fJ;refine List.Pairwise.filter _ ?_;rw[List.pairwise_map];exact List.pairwise_lt_range.imp fun h=>by omega
 have d:∀x,x∈fJ l↔x∈l:=fun x=>by
  unfold fJ;rw[List.mem_filter,List.mem_map];constructor
  ·rintro⟨_,c⟩;simpa using c
  ·intro g;obtain⟨a,b⟩:=h x g;exact⟨⟨x.toNat,List.mem_range.2 (by omega),by omega⟩,by simpa using g⟩
 have m:(Lib.compact (jl l)).Perm (fJ l):=(List.perm_ext_iff_of_nodup (f.imp fun h=>by omega) (i.imp fun h=>by omega)).2 fun x=>(k x).trans (d x).symm;exact m.eq_of_pairwise (le:=(·<·)) (fun a b _ _ f c=>by omega) f i
end Wl
