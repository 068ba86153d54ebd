/- Lemmas. -/
import Derived.Test.YtadfimdanpoafaaGreatDoorPlD
import Derived.Lib.SlicesCompact
set_option linter.unusedVariables false
set_option linter.unusedSimpArgs false
open List renaming getElem?_eq_getElem -> qd, mem_singleton -> qG, pairwise_iff_getElem -> zp
namespace Wl
open Go
theorem uT(a:aC)(u:a.Pairwise (·<=·)):∀m,m<=a.length->(Lib.compactUpTo a.toArray m).Pairwise (·<·)/\(∀x,x∈Lib.compactUpTo a.toArray m↔∃j,j<m/\a[j]?=some x)
 |0,_=>⟨by simp[Lib.compactUpTo],fun x=>by simp[Lib.compactUpTo]⟩
 |m+1,hm=>by
  obtain⟨v,o⟩:=uT a u m (by omega);have c:m<a.length:=by omega
  have p:a.toArray[m]! =a[m]:=by simp[c]
  rw[Lib.compactUpTo_succ,p];have s:∀j (h:j<m),a[j]'(by omega)<=a[m]:=fun j h=>zp.1 u j m (by omega) c h;by_cases i:Lib.keeps a.toArray m=true
  ·rw[if_pos i];have t:m=0∨a[m-1]'(by omega)<a[m]:=by
    by_cases l:m=0
    ·exact .inl l
    ·right;have f:a.toArray[m-1]! =a[m-1]'(by omega):=by simp[show m-1<a.length by omega]
     have z:a[m]≠a[m-1]'(by omega):=fun n=>by
      have:=Lib.keeps_neg (d:=a.toArray) (m:=m) (by omega) (by rw[p,f];exact n);rw[this]at i;cases i
     have:=s (m-1) (by omega);omega
   have k:∀x∈Lib.compactUpTo a.toArray m,x<a[m]:=fun x q=>by
    obtain⟨j,h,g⟩:=(o x).1 q;rw[qd (by omega)]at g;injection g with g
    rcases t with h0|h0
    ·omega
    ·have h3:a[j]'(by omega)<=a[m-1]'(by omega):=by
      by_cases b:j=m-1
      ·subst b;exact Int.le_refl _
      ·exact zp.1 u j (m-1) (by omega) (by omega) (by omega)
     omega
   refine⟨List.pairwise_append.2 ⟨v,by simp,fun x q y w=>?_⟩,fun x=>?_⟩
   ·rw[qG.1 w];exact k x q
   ·rw[List.mem_append,o,qG];constructor
    ·rintro(⟨j,h,e⟩|rfl)
     ·exact⟨j,by omega,e⟩
     ·exact⟨m,by omega,qd c⟩
    ·rintro⟨j,h,e⟩;by_cases b:j=m
     ·subst b;rw[qd c]at e;injection e with e;exact .inr e.symm
     ·exact .inl ⟨j,by omega,e⟩
  ·rw[if_neg i,List.append_nil];have l:m≠0:=fun h0=>i (by subst h0;exact Lib.keeps_lt_one _ 0 (by omega));have r:a[m]=a[m-1]'(by omega):=by
    by_cases n:a[m]=a[m-1]'(by omega)
    ·exact n
    ·have f:a.toArray[m-1]! =a[m-1]'(by omega):=by simp[show m-1<a.length by omega]
     exact absurd (Lib.keeps_pos (d:=a.toArray) (m:=m) (by rw[p,f];exact n)) i
   refine⟨v,fun x=>?_⟩;rw[o];constructor
   ·rintro⟨j,h,e⟩;exact⟨j,by omega,e⟩
   ·rintro⟨j,h,e⟩;by_cases b:j=m
    ·subst b;refine⟨j-1,by omega,?_⟩;rw[qd c]at e;rw[qd (by omega),<-r];exact e
    ·exact⟨j,by omega,e⟩
theorem Qj(l:aC):(jt l).Pairwise (·<=·):=by
 have:=List.pairwise_mergeSort (le:=fun x y:Int=>decide (x<=y)) (by intro a b c e d;simp at e d⊢;omega) (by intro a b;simp;omega) l;exact this.imp fun h=>by simpa using h
theorem Vr(l:aC)(h:∀x∈l,0<=x/\x<64):Lib.compact (jt l)=fN l:=by
 obtain⟨f,c⟩:=uT (jt l) (Qj l) (jt l).length (Nat.le_refl _);have k:∀x,x∈Lib.compact (jt l)↔x∈l:=fun x=>by
  unfold Lib.compact;rw[c,<-Nz l x,List.mem_iff_getElem?];constructor
  ·rintro⟨j,_,e⟩;exact⟨j,e⟩
  ·rintro⟨j,e⟩;exact⟨j,(List.getElem?_eq_some_iff.1 e).1,e⟩
 have g:(fN l).Pairwise (·<·):=by
  unfold fN;refine List.Pairwise.filter _ ?_;rw[List.pairwise_map];exact List.pairwise_lt_range.imp fun h=>by omega
 have d:∀x,x∈fN l↔x∈l:=fun x=>by
  unfold fN;rw[List.mem_filter,List.mem_map];constructor
  ·rintro⟨_,c⟩;simpa using c
  ·intro i;obtain⟨a,b⟩:=h x i;exact⟨⟨x.toNat,List.mem_range.2 (by omega),by omega⟩,by simpa using i⟩
 have m:(Lib.compact (jt l)).Perm (fN l):=(List.perm_ext_iff_of_nodup (f.imp fun h=>by omega) (g.imp fun h=>by omega)).2 fun x=>(k x).trans (d x).symm;exact m.eq_of_pairwise (le:=(·<·)) (fun a b _ _ f c=>by omega) f g
end Wl
