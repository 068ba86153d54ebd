/- Part of the proofs that the laws of this seat answer true whatever the input reads, and leave it as it was; no condition. -/
import Derived.Test.YteieadfggboeeaaGreatDoorPlG
import Derived.Lib.SlicesCompact
import Derived.Test.YteieadfggboeeaaGreatDoorPlC
set_option linter.unusedVariables false
set_option linter.unusedSimpArgs false
namespace Wl
open Go
theorem iN (zs:List Int) (hs:zs.Pairwise (·≤·)):∀m,m≤zs.length→(Lib.compactUpTo zs.toArray m).Pairwise (·<·)∧(∀x,x∈Lib.compactUpTo zs.toArray m↔∃j,j<m∧zs[j]?=some x)
 |0,_=>⟨by simp[Lib.compactUpTo],fun x=>by simp[Lib.compactUpTo]⟩
 |m+1,hm=>by
  obtain⟨h1,h2⟩:=iN zs hs m (by omega)
  have hlt:m<zs.length:=by omega
  have hz:zs.toArray[m]! =zs[m]:=by simp[hlt]
  rw[Lib.compactUpTo_succ,hz]
  have hle:∀j (hj:j<m),zs[j]'(by omega)≤zs[m]:=fun j hj=>List.pairwise_iff_getElem.1 hs j m (by omega) hlt hj
  by_cases hk:Lib.keeps zs.toArray m=true
  ·rw[if_pos hk]
   have hpm:m=0∨zs[m-1]'(by omega)<zs[m]:=by
    by_cases hm0:m=0
    ·exact .inl hm0
    ·right
     have hz1:zs.toArray[m-1]! =zs[m-1]'(by omega):=by simp[show m-1<zs.length by omega]
     have hne:zs[m]≠zs[m-1]'(by omega):=fun he=>by
      have:=Lib.keeps_neg (d:=zs.toArray) (m:=m) (by omega) (by rw[hz,hz1];exact he)
      rw[this]at hk;cases hk
     have:=hle (m-1) (by omega)
     omega
   have hall:∀x∈Lib.compactUpTo zs.toArray m,x<zs[m]:=fun x hx=>by
    obtain⟨j,hj,hjx⟩:=(h2 x).1 hx
    rw[List.getElem?_eq_getElem (by omega)]at hjx
    injection hjx with hjx
    rcases hpm with h0|h0
    ·omega
    ·have h3:zs[j]'(by omega)≤zs[m-1]'(by omega):=by
      by_cases hjm:j=m-1
      ·subst hjm;exact Int.le_refl _
      ·exact List.pairwise_iff_getElem.1 hs j (m-1) (by omega) (by omega) (by omega)
     omega
   refine⟨List.pairwise_append.2 ⟨h1,by simp,fun x hx y hy=>?_⟩,fun x=>?_⟩
   ·rw[List.mem_singleton.1 hy];exact hall x hx
   ·rw[List.mem_append,h2,List.mem_singleton]
    constructor
    ·rintro(⟨j,hj,e⟩|rfl)
     ·exact⟨j,by omega,e⟩
     ·exact⟨m,by omega,List.getElem?_eq_getElem hlt⟩
    ·rintro⟨j,hj,e⟩
     by_cases hjm:j=m
     ·subst hjm;rw[List.getElem?_eq_getElem hlt]at e;injection e with e;exact .inr e.symm
     ·exact .inl ⟨j,by omega,e⟩
  ·rw[if_neg hk,List.append_nil]
   have hm0:m≠0:=fun h0=>hk (by subst h0;exact Lib.keeps_lt_one _ 0 (by omega))
   have heq:zs[m]=zs[m-1]'(by omega):=by
    by_cases he:zs[m]=zs[m-1]'(by omega)
    ·exact he
    ·have hz1:zs.toArray[m-1]! =zs[m-1]'(by omega):=by simp[show m-1<zs.length by omega]
     exact absurd (Lib.keeps_pos (d:=zs.toArray) (m:=m) (by rw[hz,hz1];exact he)) hk
   refine⟨h1,fun x=>?_⟩
   rw[h2]
   constructor
   ·rintro⟨j,hj,e⟩;exact⟨j,by omega,e⟩
   ·rintro⟨j,hj,e⟩
    by_cases hjm:j=m
    ·subst hjm
     refine⟨j-1,by omega,?_⟩
     rw[List.getElem?_eq_getElem hlt]at e
     rw[List.getElem?_eq_getElem (by omega),←heq];exact e
    ·exact⟨j,by omega,e⟩
theorem rB (l:List Int):(fg l).Pairwise (·≤·):=by
 have:=List.pairwise_mergeSort (le:=fun x y:Int=>decide (x≤y)) (by intro a b c h1 h2;simp at h1 h2⊢;omega) (by intro a b;simp;omega) l
 exact this.imp fun h=>by simpa using h
theorem uj (l:List Int) (h:∀x∈l,0≤x∧x<64):Lib.compact (fg l)=cI l:=by
 obtain⟨h1,h2⟩:=iN (fg l) (rB l) (fg l).length (Nat.le_refl _)
 have hm:∀x,x∈Lib.compact (fg l)↔x∈l:=fun x=>by
  unfold Lib.compact
  rw[h2,←ve l x,List.mem_iff_getElem?]
  constructor
  ·rintro⟨j,_,e⟩;exact⟨j,e⟩
  ·rintro⟨j,e⟩;exact⟨j,(List.getElem?_eq_some_iff.1 e).1,e⟩
 have hu:(cI l).Pairwise (·<·):=by
  unfold cI
  refine List.Pairwise.filter _ ?_
  rw[List.pairwise_map]
  exact List.pairwise_lt_range.imp fun h=>by omega
 have hum:∀x,x∈cI l↔x∈l:=fun x=>by
  unfold cI
  rw[List.mem_filter,List.mem_map]
  constructor
  ·rintro⟨_,h2⟩;simpa using h2
  ·intro hx
   obtain⟨a,b⟩:=h x hx
   exact⟨⟨x.toNat,List.mem_range.2 (by omega),by omega⟩,by simpa using hx⟩
 have hp:(Lib.compact (fg l)).Perm (cI l):=(List.perm_ext_iff_of_nodup (h1.imp fun h=>by omega) (hu.imp fun h=>by omega)).2 fun x=>(hm x).trans (hum x).symm
 exact hp.eq_of_pairwise (le:=(·<·)) (fun a b _ _ h1 h2=>by omega) h1 hu
end Wl
