/- Part of the proofs that the laws of this seat answer true whatever the input reads, and leave it as it was; no condition. -/
import Derived.Test.YteieadfggboeeaaGreatDoorKA
import Derived.Test.YteieadfggboeeaaGreatDoorPlK
set_option linter.unusedVariables false
set_option linter.unusedSimpArgs false
namespace Wl
end Wl
namespace Wl
def tK (n:Int):Prop:=0≤n∧n<1000000000
structure zS (p:eI):Prop where
 kind:1≤p.kind∧p.kind≤13
 name:(p.kind=1∨p.kind=2∨p.kind=3∨p.kind=5)→p.name≠[]∧(32:UInt8)∉p.name
 slot:tK p.slot
 n:tK p.n
 m:tK p.m
 mask:tK p.mask
 rows:p.keeps.length=p.torns.length
 keeps:∀x∈p.keeps,tK x
 torns:∀x∈p.torns,tK x
 rest:p=eI.mk p.kind (if p.kind=1∨p.kind=2∨p.kind=3∨p.kind=5 then p.name else[]) (if p.kind=1 then p.data else[])
  (if p.kind=6∨p.kind=7∨p.kind=8∨p.kind=9∨p.kind=11 then p.slot else 0) (if p.kind=6∨p.kind=8∨p.kind=10∨p.kind=11∨p.kind=12∨p.kind=13 then p.n else 0)
  (if p.kind=10∨p.kind=11 then p.m else 0) (if p.kind=11 then p.mask else 0) (if p.kind=13 then p.keeps else[]) (if p.kind=13 then p.torns else[])
end Wl
namespace Wl
end Wl
namespace Wl
end Wl
namespace Go.Qw
open Go Go.Vc Go.Proofs Wl
set_option maxRecDepth 100000
theorem zM (S:ByteArray) (hS:S=⟨#[48,49,50,51,52,53,54,55,56,57,97,98,99,100,101,102]⟩) (i j:Nat) (hi:i<16) (hj:j<16) (s:ByteArray):
  dl (s++S.extract i (i+1)++S.extract j (j+1))=dl s++[jf.getD i 0,jf.getD j 0]:=by
 rw[bT,bT,kB S hS i hi,kB S hS j hj,List.append_assoc];rfl
theorem yx (S:ByteArray) (hS:S=⟨#[48,49,50,51,52,53,54,55,56,57,97,98,99,100,101,102]⟩) (i j:Nat) (hi:i<16) (hj:j<16) (s:ByteArray) (hs:s.size≤2^40):
  ((s.size+(S.extract i (i+1)).size:Nat):Int)≤IntKind.max .i64∧(((s++S.extract i (i+1)).size+(S.extract j (j+1)).size:Nat):Int)≤IntKind.max .i64:=by
 have h1:(S.extract i (i+1)).size=1:=congrArg List.length (kB S hS i hi)
 have h2:(S.extract j (j+1)).size=1:=congrArg List.length (kB S hS j hj)
 rw[ByteArray.size_append,h1,h2]
 exact⟨by show((s.size+1:Nat):Int)≤9223372036854775807;omega,by show((s.size+1+1:Nat):Int)≤9223372036854775807;omega⟩
theorem vQ (b:Sl) (l:List UInt8) (h:Heap) (hb:Rd h b 1 aB l) (hl:l.length≤2^20):
  ae Tryz.prog ka #[.slice b.ptr b.len b.cap] h fun v h'=>∃t:ByteArray,v=.string t∧dl t=lk l∧h'=h:=by
 refine jq b ?_
 unfold fz
 have hlen:=hb.len
 refine bn (fun e=>?_) fun e=>?_
 ·have:l=[]:=List.length_eq_zero_iff.1 (by omega)
  exact⟨_,rfl,by unfold lk;rw[if_pos this];rfl,rfl⟩
 have hne:l≠[]:=fun h=>by subst h;simp at hlen;omega
 refine aE (fun t:ByteArray×Nat=>(t.1,(t.2:Int))) (fun t h'=>h'=h∧t.2≤l.length∧dl t.1=(l.take t.2).flatMap ia∧t.1.size≤2*t.2) (fun t=>l.length-t.2) (⟨#[]⟩,0) rfl ⟨rfl,by simp,by simp,Nat.le_refl _⟩ ?_
 rintro⟨s,i⟩ h1 ⟨rfl,hi,he,hz⟩
 dsimp only at hi he hz⊢
 refine an (fun hlt=>?_) fun hge=>?_
 ·have hi':i<l.length:=by omega
  refine hb.bd (g:=fun n:Int=>.int .u8 n) i rfl hi' ((l[i].toNat:Nat):Int) rfl ?_
  have hlt:=l[i].toNat_lt
  have u8:∀x:Int,IntKind.wrap .u8 x=x%256:=fun _=>rfl
  have hd:IntKind.wrap .u8 (Int.tdiv ((l[i].toNat:Nat):Int) 16)=((l[i].toNat/16:Nat):Int):=by
   rw[Int.tdiv_eq_ediv_of_nonneg (by omega),u8];omega
  have hm:Int.tmod ((l[i].toNat:Nat):Int) 16=((l[i].toNat%16:Nat):Int):=by rw[Int.tmod_eq_emod_of_nonneg (by omega)];rfl
  have hd1:IntKind.wrap .u8 (((l[i].toNat/16:Nat):Int)+1)=((l[i].toNat/16+1:Nat):Int):=by rw[u8];omega
  have hm1:IntKind.wrap .u8 (((l[i].toNat%16:Nat):Int)+1)=((l[i].toNat%16+1:Nat):Int):=by rw[u8];omega
  rw[hd,hm,hd1,hm1]
  simp only[Int.toNat_natCast]
  refine⟨by decide,by decide,⟨by omega,by omega,?_⟩,?_,by decide,by decide,⟨by omega,by omega,?_⟩,?_,?_⟩
  ·show((l[i].toNat/16+1:Nat):Int)≤16;omega
  ·exact(yx _ rfl (l[i].toNat/16) (l[i].toNat%16) (by omega) (by omega) s (by omega)).1
  ·show((l[i].toNat%16+1:Nat):Int)≤16;omega
  ·exact(yx _ rfl (l[i].toNat/16) (l[i].toNat%16) (by omega) (by omega) s (by omega)).2
  ·rw[Go.Vc.wrap_small _ (by omega) (by omega)]
   have ha:=zM _ rfl (l[i].toNat/16) (l[i].toNat%16) (by omega) (by omega) s
   refine⟨(_,i+1),rfl,⟨trivial,by dsimp only;omega,?_,?_⟩,by dsimp only;omega⟩
   ·refine Eq.trans ha ?_
    rw[aF _ _ hi',List.flatMap_append,he];simp[ia]
   ·have hh:=congrArg List.length ha
    rw[List.length_append]at hh
    have h4:(dl s).length=s.size:=rfl
    refine Nat.le_trans (Nat.le_of_eq hh) ?_
    show(dl s).length+2≤2*(i+1)
    omega
 ·rw[List.take_of_length_le (by omega)]at he
  exact⟨s,rfl,by unfold lk;rw[if_neg hne];exact he,rfl⟩
end Go.Qw
namespace Wl
abbrev cO (n:Int):Prop:=-9223372036854775808≤n∧n≤9223372036854775807
theorem sg {n:Int} (h:cO n):(dL n).length≤21:=by
 unfold dL
 have:=lj 19 n.natAbs (by have:=h.1;have:=h.2;omega)
 split<;>simp<;>omega
theorem sh (l:List UInt8):(lk l).length≤2*l.length+1:=by
 unfold lk
 split
 ·simp
 ·have:∀l:List UInt8,(l.flatMap ia).length=2*l.length:=by
   intro l
   induction l with
   |nil=>rfl
   |cons a r ih=>rw[List.flatMap_cons,List.length_append,ih,List.length_cons];show 2+_=_;omega
  rw[this];omega
structure Ab (p:eI):Prop where
 slot:cO p.slot
 n:cO p.n
 m:cO p.m
 mask:0≤p.mask∧p.mask<4294967296
 name:p.name.length≤1024
 data:p.data.length≤65536
 rows:p.keeps.length=p.torns.length∧p.keeps.length≤1024
 keeps:∀x∈p.keeps,cO x
 torns:∀x∈p.torns,cO x
end Wl
namespace Go.Qw
open Go Go.Vc Go.Proofs Wl
set_option maxRecDepth 100000
theorem ff {n:Nat} (h:n≤2^40):(n:Int)≤IntKind.max .i64:=by show(n:Int)≤9223372036854775807;omega
theorem uK (t:ByteArray):t.size=(dl t).length:=rfl
theorem jg {t:ByteArray} {n:Int} (h:cO n) (e:dl t=dL n):t.size≤21:=by rw[uK,e];exact sg h
theorem cG:aV.size=1:=rfl
end Go.Qw
namespace Wl
end Wl
namespace Go.Qw
open Go Go.Vc Go.Proofs Wl
set_option maxRecDepth 100000
end Go.Qw
namespace Wl
end Wl
namespace Go.Qw
open Go Go.Vc Go.Proofs Wl
set_option maxRecDepth 100000
end Go.Qw
