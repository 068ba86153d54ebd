/- Part of the proofs that the laws of this seat answer true whatever the input reads, and leave it as it was; no condition. -/
import Derived.Test.YteieadfggboeeaaGreatDoorKA
import Derived.Test.YteieadfggboeeaaGreatDoorPlK
set_option linter.unusedVariables false
set_option linter.unusedSimpArgs false
namespace Wl
def du:List (List UInt8)→List UInt8
 |[]=>[]
 |[w]=>w
 |w::v::r=>w++32::du (v::r)
def lv:List Int→List Int→List (List UInt8)
 |a::r,b::s=>cg a::cg b::lv r s
 |_,_=>[]
def ef (p:bx):List (List UInt8):=
 if p.kind=1 then[[112,117,116],p.name,pW p.data]
 else if p.kind=2 then[[103,101,116],p.name]
 else if p.kind=3 then[[100,101,108],p.name]
 else if p.kind=4 then[[108,105,115,116]]
 else if p.kind=5 then[[115,116,97,116],p.name]
 else if p.kind=6 then[[97,100,100],cg p.slot,cg p.n]
 else if p.kind=7 then[[114,101,116,105,114,101],cg p.slot]
 else if p.kind=8 then[[114,101,112,108,97,99,101],cg p.slot,cg p.n]
 else if p.kind=9 then[[108,111,115,101],cg p.slot]
 else if p.kind=10 then[[115,99,114,117,98],cg p.n,cg p.m]
 else if p.kind=11 then[[115,112,111,105,108],cg p.slot,cg p.n,cg p.m,cg p.mask]
 else if p.kind=12 then[[97,114,109],cg p.n]
 else[102,97,108,108]::cg p.n::lv p.keeps p.torns
def df (p:bx):List UInt8:=du (ef p)
end Wl
namespace Wl
def pj (n:Int):Prop:=0≤n∧n<1000000000
structure wg (p:bx):Prop where
 kind:1≤p.kind∧p.kind≤13
 name:(p.kind=1∨p.kind=2∨p.kind=3∨p.kind=5)→p.name≠[]∧(32:UInt8)∉p.name
 slot:pj p.slot
 n:pj p.n
 m:pj p.m
 mask:pj p.mask
 rows:p.keeps.length=p.torns.length
 keeps:∀x∈p.keeps,pj x
 torns:∀x∈p.torns,pj x
 rest:p=bx.mk p.kind (if p.kind=1∨p.kind=2∨p.kind=3∨p.kind=5 then p.name else[]) (if p.kind=1 then p.data else[])
  (if p.kind=6∨p.kind=7∨p.kind=8∨p.kind=9∨p.kind=11 then p.slot else 0) (if p.kind=6∨p.kind=8∨p.kind=10∨p.kind=11∨p.kind=12∨p.kind=13 then p.n else 0)
  (if p.kind=10∨p.kind=11 then p.m else 0) (if p.kind=11 then p.mask else 0) (if p.kind=13 then p.keeps else[]) (if p.kind=13 then p.torns else[])
end Wl
namespace Wl
end Wl
namespace Wl
end Wl
namespace Go.Qw
open Go Go.Vc Go.Proofs Wl
set_option maxRecDepth 100000
theorem Ax (S:ByteArray) (hS:S=⟨#[48,49,50,51,52,53,54,55,56,57,97,98,99,100,101,102]⟩) (i j:Nat) (hi:i<16) (hj:j<16) (s:ByteArray):
  dl (s++S.extract i (i+1)++S.extract j (j+1))=dl s++[fZ.getD i 0,fZ.getD j 0]:=by
 rw[cm,cm,kD S hS i hi,kD S hS j hj,List.append_assoc];rfl
theorem zo (S:ByteArray) (hS:S=⟨#[48,49,50,51,52,53,54,55,56,57,97,98,99,100,101,102]⟩) (i j:Nat) (hi:i<16) (hj:j<16) (s:ByteArray) (hs:s.size≤2^40):
  ((s.size+(S.extract i (i+1)).size:Nat):Int)≤IntKind.max .i64∧(((s++S.extract i (i+1)).size+(S.extract j (j+1)).size:Nat):Int)≤IntKind.max .i64:=by
 have h1:(S.extract i (i+1)).size=1:=congrArg List.length (kD S hS i hi)
 have h2:(S.extract j (j+1)).size=1:=congrArg List.length (kD S hS j hj)
 rw[ByteArray.size_append,h1,h2]
 exact⟨by show((s.size+1:Nat):Int)≤9223372036854775807;omega,by show((s.size+1+1:Nat):Int)≤9223372036854775807;omega⟩
theorem wh (b:Sl) (l:List UInt8) (h:Heap) (hb:Rd h b 1 aE l) (hl:l.length≤2^20):
  ah Tryz.prog jW #[.slice b.ptr b.len b.cap] h fun v h'=>∃t:ByteArray,v=.string t∧dl t=pW l∧h'=h:=by
 refine jd b ?_
 unfold fp
 have hlen:=hb.len
 refine aT (fun e=>?_) fun e=>?_
 ·have:l=[]:=List.length_eq_zero_iff.1 (by omega)
  exact⟨_,rfl,by unfold pW;rw[if_pos this];rfl,rfl⟩
 have hne:l≠[]:=fun h=>by subst h;simp at hlen;omega
 refine aF (fun t:ByteArray×Nat=>(t.1,(t.2:Int))) (fun t h'=>h'=h∧t.2≤l.length∧dl t.1=(l.take t.2).flatMap va∧t.1.size≤2*t.2) (fun t=>l.length-t.2) (⟨#[]⟩,0) rfl ⟨rfl,by simp,by simp,Nat.le_refl _⟩ ?_
 rintro⟨s,i⟩ h1 ⟨rfl,hi,he,hz⟩
 dsimp only at hi he hz⊢
 refine ak (fun hlt=>?_) fun hge=>?_
 ·have hi':i<l.length:=by omega
  refine hb.aO (g:=fun n:Int=>.int .u8 n) i rfl hi' ((l[i].toNat:Nat):Int) rfl ?_
  have hlt:=l[i].toNat_lt
  have u8:∀x:Int,IntKind.wrap .u8 x=x%256:=fun _=>rfl
  have hd:IntKind.wrap .u8 (Int.tdiv ((l[i].toNat:Nat):Int) 16)=((l[i].toNat/16:Nat):Int):=by
   rw[Int.tdiv_eq_ediv_of_nonneg (by omega),u8];omega
  have hm:Int.tmod ((l[i].toNat:Nat):Int) 16=((l[i].toNat%16:Nat):Int):=by rw[Int.tmod_eq_emod_of_nonneg (by omega)];rfl
  have hd1:IntKind.wrap .u8 (((l[i].toNat/16:Nat):Int)+1)=((l[i].toNat/16+1:Nat):Int):=by rw[u8];omega
  have hm1:IntKind.wrap .u8 (((l[i].toNat%16:Nat):Int)+1)=((l[i].toNat%16+1:Nat):Int):=by rw[u8];omega
  rw[hd,hm,hd1,hm1]
  simp only[Int.toNat_natCast]
  refine⟨by decide,by decide,⟨by omega,by omega,?_⟩,?_,by decide,by decide,⟨by omega,by omega,?_⟩,?_,?_⟩
  ·show((l[i].toNat/16+1:Nat):Int)≤16;omega
  ·exact(zo _ rfl (l[i].toNat/16) (l[i].toNat%16) (by omega) (by omega) s (by omega)).1
  ·show((l[i].toNat%16+1:Nat):Int)≤16;omega
  ·exact(zo _ rfl (l[i].toNat/16) (l[i].toNat%16) (by omega) (by omega) s (by omega)).2
  ·rw[Go.Vc.wrap_small _ (by omega) (by omega)]
   have ha:=Ax _ rfl (l[i].toNat/16) (l[i].toNat%16) (by omega) (by omega) s
   refine⟨(_,i+1),rfl,⟨trivial,by dsimp only;omega,?_,?_⟩,by dsimp only;omega⟩
   ·refine Eq.trans ha ?_
    rw[aD _ _ hi',List.flatMap_append,he];simp[va]
   ·have hh:=congrArg List.length ha
    rw[List.length_append]at hh
    have h4:(dl s).length=s.size:=rfl
    refine Nat.le_trans (Nat.le_of_eq hh) ?_
    show(dl s).length+2≤2*(i+1)
    omega
 ·rw[List.take_of_length_le (by omega)]at he
  exact⟨s,rfl,by unfold pW;rw[if_neg hne];exact he,rfl⟩
end Go.Qw
namespace Wl
theorem pk (w:List UInt8):∀ws,du (w::ws)=w++ws.flatMap (32::·)
 |[]=>by simp[du]
 |v::r=>by rw[du,pk v r];simp
abbrev kE (n:Int):Prop:=-9223372036854775808≤n∧n≤9223372036854775807
theorem xh {n:Int} (h:kE n):(cg n).length≤21:=by
 unfold cg
 have:=ou 19 n.natAbs (by have:=h.1;have:=h.2;omega)
 split<;>simp<;>omega
theorem xi (l:List UInt8):(pW l).length≤2*l.length+1:=by
 unfold pW
 split
 ·simp
 ·have:∀l:List UInt8,(l.flatMap va).length=2*l.length:=by
   intro l
   induction l with
   |nil=>rfl
   |cons a r ih=>rw[List.flatMap_cons,List.length_append,ih,List.length_cons];show 2+_=_;omega
  rw[this];omega
theorem pl:∀(k t:List Int) (a b:Int),k.length=t.length→lv (k++[a]) (t++[b])=lv k t++[cg a,cg b]
 |[],[],_,_,_=>rfl
 |x::r,y::s,a,b,h=>by
  rw[List.cons_append,List.cons_append,lv,pl r s a b (by simpa using h)];rfl
 |[],_::_,_,_,h=>by simp at h
 |_::_,[],_,_,h=>by simp at h
structure xj (p:bx):Prop where
 slot:kE p.slot
 n:kE p.n
 m:kE p.m
 mask:0≤p.mask∧p.mask<4294967296
 name:p.name.length≤1024
 data:p.data.length≤65536
 rows:p.keeps.length=p.torns.length∧p.keeps.length≤1024
 keeps:∀x∈p.keeps,kE x
 torns:∀x∈p.torns,kE x
def lx (k t:List Int):List UInt8:=(lv k t).flatMap (32::·)
theorem vb (k t:List Int) (a b:Int) (h:k.length=t.length):lx (k++[a]) (t++[b])=lx k t++32::cg a++32::cg b:=by
 unfold lx;rw[pl _ _ _ _ h];simp
end Wl
namespace Go.Qw
open Go Go.Vc Go.Proofs Wl
set_option maxRecDepth 100000
theorem sK {h:Heap} {q:al} {s:Sl} {l:List Int} (hs:Vc.Seq h q s 1 ao l) (i:Nat) (hi:i<l.length):∃a:Addr,s.ptr=some a∧cellOf h (a.add ((i:Int).toNat*1))=some (.int .i64 l[i]):=by
 obtain⟨b,o,u1,_,u3⟩:=hs.elem i l[i] (List.getElem?_eq_getElem hi)
 refine⟨⟨b,o,none⟩,u1,?_⟩
 rw[Int.toNat_natCast,add_eq]
 have h4:=u3.1
 rw[add_eq,Nat.add_zero]at h4
 exact h4
theorem ct {n:Nat} (h:n≤2^40):(n:Int)≤IntKind.max .i64:=by show(n:Int)≤9223372036854775807;omega
theorem vd (t:ByteArray):t.size=(dl t).length:=rfl
theorem eQ {t:ByteArray} {n:Int} (h:kE n) (e:dl t=cg n):t.size≤21:=by rw[vd,e];exact xh h
theorem pm:fI.size=4:=rfl
theorem wi:kY.size=4:=rfl
theorem wj:kZ.size=4:=rfl
theorem ua:jP.size=5:=rfl
theorem pn:fJ.size=4:=rfl
theorem qG:gQ.size=7:=rfl
theorem iv:dz.size=8:=rfl
theorem ub:jN.size=5:=rfl
theorem ly:eu.size=6:=rfl
theorem eE:bW.size=6:=rfl
theorem wk:ld.size=4:=rfl
theorem uc:jO.size=5:=rfl
theorem bP:aJ.size=1:=rfl
theorem po (y:cr) (p:bx) (h:Heap) (F:mP y p) (R:mT h y p) (z:xj p):
  ah Tryz.prog ja #[dG y] h fun v h'=>∃t:ByteArray,v=.string t∧dl t=df p∧t.size≤2^18∧Sp h h' []:=by
 refine iG y ?_
 unfold eU
 refine(Sp.refl h).boxed fun a1 h1 H1=>?_
 have H1:Sp h h1 [aj a1 af (aQ y)]:=H1
 have b1:=H1.box 0 rfl
 have fin:∀(t:ByteArray),dl t=df p→t.size≤2^18→∃t':ByteArray,Value.string t=.string t'∧dl t'=df p∧t'.size≤2^18∧Sp h h1 []:=fun t e hz=>⟨t,rfl,e,hz,.zip H1.au⟩
 have znm:y.2.1.size≤1024:=by rw[vd,F.name];exact z.name
 have zs:kE y.2.2.2.1:=by rw[F.slot];exact z.slot
 have zn:kE y.2.2.2.2.1:=by rw[F.n];exact z.n
 have zm:kE y.2.2.2.2.2.1:=by rw[F.m];exact z.m
 have zk:0≤y.2.2.2.2.2.2.1∧y.2.2.2.2.2.2.1<4294967296:=by rw[F.mask];exact z.mask
 have hkk:=F.kind
 refine⟨y.1,b1.cell0 rfl,?_⟩
 refine aT (fun e=>?_) fun n1=>?_
 ·have hk:p.kind=1:=hkk.symm.trans e
  refine⟨y.2.1,b1.cell rfl,ct (by simp only[ByteArray.size_append,pm];omega),ct (by simp only[ByteArray.size_append,pm,bP];omega),y.2.2.1,b1.cell rfl,?_⟩
  refine(wh _ _ h1 (Seq.up R.data H1.au) (by have:=z.data;omega)).mono ?_
  rintro _ h1 ⟨t1,rfl,d1,rfl⟩
  have z1:t1.size≤2*65536+1:=by rw[vd,d1];have:=xi p.data;have:=z.data;omega
  refine⟨t1,rfl,⟨b1.cell rfl,trivial⟩,ct (by simp only[ByteArray.size_append,pm,bP];omega),?_⟩
  refine fin _ ?_ (by simp only[ByteArray.size_append,pm,bP];omega)
  simp only[df,ef,hk,cm,d1,F.name];simp[du];try rfl
 refine aT (fun e=>?_) fun n2=>?_
 ·have hk:p.kind=2:=hkk.symm.trans e
  refine⟨y.2.1,b1.cell rfl,ct (by simp only[ByteArray.size_append,wi];omega),?_⟩
  refine fin _ ?_ (by simp only[ByteArray.size_append,wi];omega)
  simp only[df,ef,hk,cm,F.name];simp[du];try rfl
 refine aT (fun e=>?_) fun n3=>?_
 ·have hk:p.kind=3:=hkk.symm.trans e
  refine⟨y.2.1,b1.cell rfl,ct (by simp only[ByteArray.size_append,wj];omega),?_⟩
  refine fin _ ?_ (by simp only[ByteArray.size_append,wj];omega)
  simp only[df,ef,hk,cm,F.name];simp[du];try rfl
 refine aT (fun e=>?_) fun n4=>?_
 ·have hk:p.kind=4:=hkk.symm.trans e
  refine fin _ ?_ (by decide)
  simp only[df,ef,hk];rfl
 refine aT (fun e=>?_) fun n5=>?_
 ·have hk:p.kind=5:=hkk.symm.trans e
  refine⟨y.2.1,b1.cell rfl,ct (by simp only[ByteArray.size_append,ua];omega),?_⟩
  refine fin _ ?_ (by simp only[ByteArray.size_append,ua];omega)
  simp only[df,ef,hk,cm,F.name];simp[du];try rfl
 refine aT (fun e=>?_) fun n6=>?_
 ·have hk:p.kind=6:=hkk.symm.trans e
  refine⟨y.2.2.2.1,b1.cell rfl,y.2.2.2.2.1,b1.cell rfl,(cf _ zs.1 zs.2 h1).mono ?_⟩
  rintro _ h1 ⟨t1,rfl,d1,rfl⟩
  have z1:=eQ zs d1
  refine⟨t1,rfl,⟨b1.cell rfl,trivial⟩,ct (by simp only[ByteArray.size_append,pn];omega),ct (by simp only[ByteArray.size_append,pn,bP];omega),(cf _ zn.1 zn.2 h1).mono ?_⟩
  rintro _ h1 ⟨t2,rfl,d2,rfl⟩
  have z2:=eQ zn d2
  refine⟨t2,rfl,trivial,ct (by simp only[ByteArray.size_append,pn,bP];omega),?_⟩
  refine fin _ ?_ (by simp only[ByteArray.size_append,pn,bP];omega)
  simp only[df,ef,hk,cm,d1,d2,F.slot,F.n];simp[du];try rfl
 refine aT (fun e=>?_) fun n7=>?_
 ·have hk:p.kind=7:=hkk.symm.trans e
  refine⟨y.2.2.2.1,b1.cell rfl,(cf _ zs.1 zs.2 h1).mono ?_⟩
  rintro _ h1 ⟨t1,rfl,d1,rfl⟩
  have z1:=eQ zs d1
  refine⟨t1,rfl,ct (by simp only[ByteArray.size_append,qG];omega),?_⟩
  refine fin _ ?_ (by simp only[ByteArray.size_append,qG];omega)
  simp only[df,ef,hk,cm,d1,F.slot];simp[du];try rfl
 refine aT (fun e=>?_) fun n8=>?_
 ·have hk:p.kind=8:=hkk.symm.trans e
  refine⟨y.2.2.2.1,b1.cell rfl,y.2.2.2.2.1,b1.cell rfl,(cf _ zs.1 zs.2 h1).mono ?_⟩
  rintro _ h1 ⟨t1,rfl,d1,rfl⟩
  have z1:=eQ zs d1
  refine⟨t1,rfl,⟨b1.cell rfl,trivial⟩,ct (by simp only[ByteArray.size_append,iv];omega),ct (by simp only[ByteArray.size_append,iv,bP];omega),(cf _ zn.1 zn.2 h1).mono ?_⟩
  rintro _ h1 ⟨t2,rfl,d2,rfl⟩
  have z2:=eQ zn d2
  refine⟨t2,rfl,trivial,ct (by simp only[ByteArray.size_append,iv,bP];omega),?_⟩
  refine fin _ ?_ (by simp only[ByteArray.size_append,iv,bP];omega)
  simp only[df,ef,hk,cm,d1,d2,F.slot,F.n];simp[du];try rfl
 refine aT (fun e=>?_) fun n9=>?_
 ·have hk:p.kind=9:=hkk.symm.trans e
  refine⟨y.2.2.2.1,b1.cell rfl,(cf _ zs.1 zs.2 h1).mono ?_⟩
  rintro _ h1 ⟨t1,rfl,d1,rfl⟩
  have z1:=eQ zs d1
  refine⟨t1,rfl,ct (by simp only[ByteArray.size_append,ub];omega),?_⟩
  refine fin _ ?_ (by simp only[ByteArray.size_append,ub];omega)
  simp only[df,ef,hk,cm,d1,F.slot];simp[du];try rfl
 refine aT (fun e=>?_) fun n10=>?_
 ·have hk:p.kind=10:=hkk.symm.trans e
  refine⟨y.2.2.2.2.1,b1.cell rfl,y.2.2.2.2.2.1,b1.cell rfl,(cf _ zn.1 zn.2 h1).mono ?_⟩
  rintro _ h1 ⟨t1,rfl,d1,rfl⟩
  have z1:=eQ zn d1
  refine⟨t1,rfl,⟨b1.cell rfl,trivial⟩,ct (by simp only[ByteArray.size_append,ly];omega),ct (by simp only[ByteArray.size_append,ly,bP];omega),(cf _ zm.1 zm.2 h1).mono ?_⟩
  rintro _ h1 ⟨t2,rfl,d2,rfl⟩
  have z2:=eQ zm d2
  refine⟨t2,rfl,trivial,ct (by simp only[ByteArray.size_append,ly,bP];omega),?_⟩
  refine fin _ ?_ (by simp only[ByteArray.size_append,ly,bP];omega)
  simp only[df,ef,hk,cm,d1,d2,F.n,F.m];simp[du];try rfl
 refine aT (fun e=>?_) fun n11=>?_
 ·have hk:p.kind=11:=hkk.symm.trans e
  refine⟨y.2.2.2.1,b1.cell rfl,y.2.2.2.2.1,b1.cell rfl,y.2.2.2.2.2.1,b1.cell rfl,y.2.2.2.2.2.2.1,b1.cell rfl,(cf _ zs.1 zs.2 h1).mono ?_⟩
  rintro _ h1 ⟨t1,rfl,d1,rfl⟩
  have z1:=eQ zs d1
  refine⟨t1,rfl,⟨b1.cell rfl,b1.cell rfl,b1.cell rfl,trivial⟩,ct (by simp only[ByteArray.size_append,eE];omega),ct (by simp only[ByteArray.size_append,eE,bP];omega),(cf _ zn.1 zn.2 h1).mono ?_⟩
  rintro _ h1 ⟨t2,rfl,d2,rfl⟩
  have z2:=eQ zn d2
  refine⟨t2,rfl,⟨b1.cell rfl,b1.cell rfl,trivial⟩,ct (by simp only[ByteArray.size_append,eE,bP];omega),ct (by simp only[ByteArray.size_append,eE,bP];omega),(cf _ zm.1 zm.2 h1).mono ?_⟩
  rintro _ h1 ⟨t3,rfl,d3,rfl⟩
  have z3:=eQ zm d3
  have zw:IntKind.wrap .i64 y.2.2.2.2.2.2.1=y.2.2.2.2.2.2.1:=Go.Vc.wrap_small _ (by omega) (by omega)
  rw[zw]
  have zq:kE y.2.2.2.2.2.2.1:=⟨by omega,by omega⟩
  refine⟨t3,rfl,⟨b1.cell rfl,trivial⟩,ct (by simp only[ByteArray.size_append,eE,bP];omega),ct (by simp only[ByteArray.size_append,eE,bP];omega),(cf _ zq.1 zq.2 h1).mono ?_⟩
  rintro _ h1 ⟨t4,rfl,d4,rfl⟩
  have z4:=eQ zq d4
  refine⟨t4,rfl,⟨b1.cell rfl,trivial⟩,ct (by simp only[ByteArray.size_append,eE,bP];omega),?_⟩
  refine fin _ ?_ (by simp only[ByteArray.size_append,eE,bP];omega)
  simp only[df,ef,hk,cm,d1,d2,d3,d4,F.slot,F.n,F.m,F.mask];simp[du];try rfl
 refine aT (fun e=>?_) fun n12=>?_
 ·have hk:p.kind=12:=hkk.symm.trans e
  refine⟨y.2.2.2.2.1,b1.cell rfl,(cf _ zn.1 zn.2 h1).mono ?_⟩
  rintro _ h1 ⟨t1,rfl,d1,rfl⟩
  have z1:=eQ zn d1
  refine⟨t1,rfl,ct (by simp only[ByteArray.size_append,wk];omega),?_⟩
  refine fin _ ?_ (by simp only[ByteArray.size_append,wk];omega)
  simp only[df,ef,hk,cm,d1,F.n];simp[du];try rfl
 have lw:df p=[102,97,108,108]++32::cg p.n++lx p.keeps p.torns:=by
  unfold df ef
  rw[hkk]at n1 n2 n3 n4 n5 n6 n7 n8 n9 n10 n11 n12
  rw[if_neg n1,if_neg n2,if_neg n3,if_neg n4,if_neg n5,if_neg n6,if_neg n7,if_neg n8,if_neg n9,if_neg n10,if_neg n11,if_neg n12,pk]
  simp[lx]
 refine⟨y.2.2.2.2.1,b1.cell rfl,(cf _ zn.1 zn.2 h1).mono ?_⟩
 rintro _ h1 ⟨t1,rfl,d1,rfl⟩
 have z1:=eQ zn d1
 refine⟨t1,rfl,ct (by simp only[ByteArray.size_append,uc];omega),?_⟩
 have hK:=Seq.up R.keeps H1.au
 have hT:=Seq.up R.torns H1.au
 have hKl:=hK.len
 have hTl:=hT.len
 obtain⟨r1,r2⟩:=z.rows
 refine⟨y.2.2.2.2.2.2.2.1,b1.cell rfl,?_⟩
 refine aF (fun t:ByteArray×Nat=>(t.1,(t.2:Int))) (fun t h'=>h'=h1∧t.2≤p.keeps.length∧dl t.1=[102,97,108,108]++32::cg p.n++lx (p.keeps.take t.2) (p.torns.take t.2)∧t.1.size≤26+44*t.2) (fun t=>p.keeps.length-t.2) (_,0) rfl ⟨rfl,Nat.zero_le _,?_,?_⟩ ?_
 ·simp only[cm,d1,F.n];simp[lx,lv];rfl
 ·simp only[ByteArray.size_append,uc];omega
 rintro⟨s,i⟩ h2 ⟨rfl,hi,he,hz⟩
 dsimp only at hi he hz⊢
 refine ak (fun hlt=>?_) fun hge=>?_
 ·have hi':i<p.keeps.length:=by omega
  have hj':i<p.torns.length:=by omega
  obtain⟨a,qa,ca⟩:=sK hK i hi'
  obtain⟨b,qb,cb⟩:=sK hT i hj'
  have ya:=z.keeps _ (List.getElem_mem hi')
  have yb:=z.torns _ (List.getElem_mem hj')
  refine⟨ct (by simp only[ByteArray.size_append,bP];omega),y.2.2.2.2.2.2.2.1,b1.cell rfl,a,⟨qa,by omega,by omega⟩,p.keeps[i],ca,y.2.2.2.2.2.2.2.2,b1.cell rfl,b,⟨qb,by omega,by omega⟩,p.torns[i],cb,(cf _ ya.1 ya.2 h2).mono ?_⟩
  rintro _ h2 ⟨t2,rfl,d2,rfl⟩
  have z2:=eQ ya d2
  refine⟨t2,rfl,⟨cb,b1.cell rfl,b1.cell rfl,trivial⟩,ct (by simp only[ByteArray.size_append,bP];omega),ct (by simp only[ByteArray.size_append,bP];omega),(cf _ yb.1 yb.2 h2).mono ?_⟩
  rintro _ h2 ⟨t3,rfl,d3,rfl⟩
  have z3:=eQ yb d3
  refine⟨t3,rfl,⟨b1.cell rfl,b1.cell rfl,trivial⟩,ct (by simp only[ByteArray.size_append,bP];omega),?_⟩
  rw[Go.Vc.wrap_small _ (by omega) (by omega)]
  refine⟨(_,i+1),rfl,⟨rfl,by dsimp only;omega,?_,?_⟩,by dsimp only;omega⟩
  ·dsimp only
   rw[aD _ _ hi',aD _ _ hj',vb _ _ _ _ (by simp;omega)]
   simp only[cm,d2,d3,he];simp;rfl
  ·simp only[ByteArray.size_append,bP];omega
 ·rw[List.take_of_length_le (by omega),List.take_of_length_le (by omega)]at he
  refine fin s ?_ (by omega)
  rw[he,lw]
end Go.Qw
namespace Wl
def sL (p:bx):Prop:=(∃n:Int,0≤n∧n<60∧p={kind:=12,n:=n})∨∃(n:Int) (ks ts:List Int),0≤n∧n<12∧p={kind:=13,n:=n,keeps:=ks,torns:=ts}∧ks.length=9∧ts.length=9∧(∀x∈ks,-1≤x∧x≤7)∧∀x∈ts,-1≤x∧x≤65
end Wl
namespace Go.Qw
open Go Go.Vc Go.Proofs Wl
set_option maxRecDepth 100000
theorem sM {P:Int→Prop} {l:List Int} {x:Int} (h:∀y∈l,P y) (hx:P x):∀y∈l++[x],P y:=fun y hy=>by
 rcases List.mem_append.1 hy with hy|hy
 ·exact h y hy
 ·rw[List.mem_singleton.1 hy];exact hx
theorem ve (k a b:Int) (h:Heap):ah Tryz.prog jS #[.int .i64 k,.int .i64 a,.int .i64 b] h fun v h'=>∃(y:cr) (p:bx),v=dG y∧mP y p∧sL p∧Sp h h' (it y p):=by
 refine iZ k a b ?_
 unfold fl
 refine(Sp.refl h).alloc ag rfl fun a1 h1 H1=>?_
 have H1:Sp h h1 [aj a1 af (aQ aY)]:=H1
 refine(aH k 3 h1 (by decide) (by decide)).mono ?_
 rintro _ h2 ⟨rfl,rfl⟩
 refine⟨_,rfl,ak (fun _=>?_) fun _=>?_⟩
 ·refine(aH a 60 h2 (by decide) (by decide)).mono ?_
  rintro _ h3 ⟨rfl,rfl⟩
  refine⟨_,rfl,?_⟩
  have w1:0≤a%60∧a%60<60:=by omega
  exact aW H1 rfl (12,⟨#[]⟩,aw,0,a%60,0,0,aw,aw) fun h' H'=>⟨_,{kind:=12,n:=a%60},rfl,⟨rfl,rfl,rfl,rfl,rfl,rfl⟩,.inl ⟨_,w1.1,w1.2,rfl⟩,oo H' _ _ rfl rfl rfl rfl rfl rfl⟩
 refine H1.alloc ag rfl fun a5 h3 H3=>?_
 have H3:Sp h h3 [aj a1 af (aQ aY),aj a5 af (aQ aY)]:=H3
 refine H3.storeAll ag 1 rfl rfl (aQ (fY 0 aw aw)) rfl rfl rfl rfl fun h4 H4=>?_
 have H4:Sp h h4 [aj a1 af (aQ aY),aj a5 af (aQ (fY 0 aw aw))]:=H4
 refine bA (fun _ h'=>∃n:Int,0≤n∧n<12∧Sp h h' [aj a1 af (aQ aY),aj a5 af (aQ (fY n aw aw)),ap ax aw 1 ao [],ap ax aw 1 ao []]) ?_ ?_
 ·refine(aH a 5 h4 (by decide) (by decide)).mono ?_
  rintro _ h5 ⟨rfl,rfl⟩
  refine⟨_,rfl,aT (fun _=>?_) fun _=>⟨0,by omega,by omega,(H4.nil ax 1 ao).nil ax 1 ao⟩⟩
  refine(aH b 12 h5 (by decide) (by decide)).mono ?_
  rintro _ h6 ⟨rfl,rfl⟩
  have w1:0≤b%12∧b%12<12:=by omega
  refine⟨_,rfl,?_⟩
  exact H4.storeAt ag 1 rfl rfl rfl rfl rfl (show 4<9 by decide) fun h7 H7=>⟨b%12,w1.1,w1.2,(H7.nil ax 1 ao).nil ax 1 ao⟩
 rintro _ h5 ⟨n,n0,n1,H5⟩
 refine aF (fun t:Sl×Sl×List Int×List Int=>((t.2.2.1.length:Nat):Int)) (fun t h'=>t.2.2.1.length≤9∧t.2.2.2.length=t.2.2.1.length∧(∀x∈t.2.2.1,-1≤x∧x≤7)∧(∀x∈t.2.2.2,-1≤x∧x≤65)∧Sp h h' [aj a1 af (aQ aY),aj a5 af (aQ (fY n t.1 t.2.1)),ap ax t.1 1 ao t.2.2.1,ap ax t.2.1 1 ao t.2.2.2]) (fun t=>9-t.2.2.1.length) (aw,aw,[],[]) rfl ⟨by simp,rfl,by simp,by simp,H5⟩ ?_
 rintro⟨ka,tq,ks,ts⟩ h6 ⟨hl,hlt,hk,ht,H6⟩
 dsimp only at hl hlt hk ht H6⊢
 refine ak (fun e=>?_) fun e=>?_
 ·refine aM ⟨ka,(H6.box 1 rfl).cell rfl,by omega,?_⟩
  refine(aH _ 9 h6 (by decide) (by decide)).mono ?_
  rintro _ _ ⟨rfl,rfl⟩
  obtain⟨q,hq⟩:∃q,q=(Int.fdiv a (2^min ((ks.length:Nat):Int).toNat (IntKind.bits .i64)))%9:=⟨_,rfl⟩
  rw[←hq]
  have q0:0≤q∧q<9:=by omega
  refine⟨q,rfl,⟨(H6.box 1 rfl).cell rfl,trivial⟩,?_⟩
  rw[Go.Vc.wrap_small (q-1) (by omega) (by omega)]
  refine H6.lit ag ao bF rfl [q-1] rfl (show 1≤2^20 by decide) rfl fun v h7 H7=>⟨⟨(H7.box 1 rfl).cell rfl,trivial⟩,?_⟩
  refine H7.append ag 2 rfl bF ⟨_,_,rfl,rfl⟩ rfl (by decide) (fun _=>rfl) (H7.seq 4 rfl fun _=>rfl) bC (by simp;omega) fun ka' h8 H8=>⟨trivial,?_⟩
  refine H8.storeAt ag 1 rfl rfl rfl rfl rfl (show 7<9 by decide) fun h9 H9=>⟨trivial,?_⟩
  have H9:Sp h h9 [aj a1 af (aQ aY),aj a5 af (aQ (fY n ka' tq)),ap ax ka' 1 ao (ks++[q-1]),ap ax tq 1 ao ts]:=ab.cB H9 [0,1,2,3]
  refine⟨tq,(H9.box 1 rfl).cell rfl,by omega,?_⟩
  refine(aH _ 67 h9 (by decide) (by decide)).mono ?_
  rintro _ _ ⟨rfl,rfl⟩
  obtain⟨r,hr⟩:∃r,r=(Int.fdiv b (2^min ((ks.length:Nat):Int).toNat (IntKind.bits .i64)))%67:=⟨_,rfl⟩
  rw[←hr]
  have r0:0≤r∧r<67:=by omega
  refine⟨r,rfl,⟨(H9.box 1 rfl).cell rfl,trivial⟩,?_⟩
  rw[Go.Vc.wrap_small (r-1) (by omega) (by omega)]
  refine H9.lit ag ao bF rfl [r-1] rfl (show 1≤2^20 by decide) rfl fun v h10 H10=>⟨⟨(H10.box 1 rfl).cell rfl,trivial⟩,?_⟩
  refine H10.append ag 3 rfl bF ⟨_,_,rfl,rfl⟩ rfl (by decide) (fun _=>rfl) (H10.seq 4 rfl fun _=>rfl) bC (by simp;omega) fun t' h11 H11=>⟨trivial,?_⟩
  refine H11.storeAt ag 1 rfl rfl rfl rfl rfl (show 8<9 by decide) fun h12 H12=>⟨trivial,?_⟩
  rw[Go.Vc.wrap_small (((ks.length:Nat):Int)+1) (by omega) (by omega)]
  refine⟨(ka',t',ks++[q-1],ts++[r-1]),by simp,⟨by simp;omega,by simp;omega,sM hk ⟨by omega,by omega⟩,sM ht ⟨by omega,by omega⟩,ab.cB H12 [0,1,2,3]⟩,by simp;omega⟩
 ·refine⟨_,(H6.box 1 rfl).bh _ rfl,?_⟩
  exact aW H6 rfl (fY n ka tq) fun h' H'=>⟨_,{kind:=13,n:=n,keeps:=ks,torns:=ts},rfl,⟨rfl,rfl,rfl,rfl,rfl,rfl⟩,.inr ⟨n,ks,ts,n0,n1,rfl,by omega,by omega,hk,ht⟩,ab.cB ((ab.del H' 0).nil aA 1 aE) [2,0,1]⟩
end Go.Qw
namespace Wl
def pX (b:Mv):bx:={kind:=b.kind,name:=b.name.data.toList,data:=b.data,slot:=b.slot,n:=b.n,m:=b.m,mask:=b.mask,keeps:=b.keeps,torns:=b.torns}
def xQ:List (List UInt8):=qE.map fun b=>b.data.toList
theorem qH {b:ByteArray} (h:b∈qE):b.data.toList∈xQ:=List.mem_map_of_mem h
theorem sN:∀w∈xQ,w.length≤12∧w≠[]∧(32:UInt8)∉w:=by decide+kernel
def xk (p:bx):bx:={p with mask:=p.mask%1000000000,n:=max p.n 0,m:=max p.m 0,keeps:=p.keeps.map (max · 0),torns:=p.torns.map (max · 0)}
theorem sO (l:List Int) {c:Int} (hc:c<1000000000) (h:∀x∈l,-1≤x∧x≤c):∀x∈l.map (max · 0),pj x:=fun x hx=>by
 obtain⟨y,hy,rfl⟩:=List.mem_map.1 hx
 have:=h y hy
 exact⟨by omega,by omega⟩
theorem pU.line {b:Mv} (h:pU (2,1,3) b) (r:mO b):xj (pX b)∧wg (xk (pX b))∧(1≤b.kind∧b.kind≤11):=by
 obtain⟨kind,name,data,slot,n,m,mask,keeps,torns⟩:=b
 unfold mO at r
 dsimp only at r
 rw[Mv.mk.injEq]at r
 obtain⟨-,e1,e2,e3,e4,e5,e6,rfl,rfl⟩:=r
 have nil8:([]:List UInt8).length≤12:=Nat.zero_le _
 have h0:kE 0:=⟨by decide,by decide⟩
 have o0:pj 0:=⟨by decide,by decide⟩
 have key:(1≤kind∧kind≤11)∧(name.data.toList.length≤12∧((kind=1∨kind=2∨kind=3∨kind=5)→name.data.toList≠[]∧(32:UInt8)∉name.data.toList))∧data.length≤65536∧(0≤slot∧slot<9)∧(-1≤n∧n<66)∧(-1≤m∧m<69)∧0≤mask∧mask<4294967296:=by
  unfold pU at h
  dsimp only at h
  rcases h with⟨rfl,hn,hd⟩|⟨hk,hn⟩|rfl|⟨rfl,hs,h1,h2⟩|⟨rfl,hs⟩|⟨rfl,hs,h1,h2⟩|⟨rfl,hs⟩|⟨rfl,h1,h2⟩|⟨rfl,hs,h1,h2,h3⟩
  ·have:=sN _ (qH hn)
   rw[if_neg (by decide)]at e3 e4 e5 e6
   exact⟨by omega,⟨this.1,fun _=>this.2⟩,by omega,by omega,by omega,by omega,by omega⟩
  ·have:=sN _ (qH hn)
   rw[if_neg (by omega)]at e2 e3 e4 e5 e6
   exact⟨by omega,⟨this.1,fun _=>this.2⟩,by rw[e2];exact Nat.zero_le _,by omega,by omega,by omega,by omega⟩
  all_goals rw[if_neg (by decide)]at e1 e2
  all_goals subst e1 e2
  all_goals refine⟨by omega,⟨Nat.zero_le _,fun h=>absurd h (by decide)⟩,Nat.zero_le _,?_⟩
  ·rw[if_neg (by decide)]at e3 e4 e5 e6
   omega
  ·rw[if_neg (by decide)]at e5 e6
   omega
  ·rw[if_neg (by decide)]at e4 e5 e6
   omega
  ·rw[if_neg (by decide)]at e5 e6
   omega
  ·rw[if_neg (by decide)]at e4 e5 e6
   omega
  ·rw[if_neg (by decide)]at e3 e6
   omega
  ·omega
 obtain⟨k1,⟨k2,k3⟩,k4,k5,k6,k7,k8⟩:=key
 refine⟨⟨⟨by show _≤slot;omega,by show slot≤_;omega⟩,⟨by show _≤n;omega,by show n≤_;omega⟩,⟨by show _≤m;omega,by show m≤_;omega⟩,k8,by show name.data.toList.length≤_;omega,k4,⟨rfl,Nat.zero_le _⟩,fun _ h=>absurd h List.not_mem_nil,fun _ h=>absurd h List.not_mem_nil⟩,?_,k1⟩
 refine⟨⟨by show 1≤kind;omega,by show kind≤13;omega⟩,k3,⟨by show 0≤slot;omega,by show slot<_;omega⟩,⟨by show 0≤max n 0;omega,by show max n 0<_;omega⟩,⟨by show 0≤max m 0;omega,by show max m 0<_;omega⟩,⟨by show 0≤mask%1000000000;omega,by show mask%1000000000<_;omega⟩,rfl,fun _ h=>absurd h List.not_mem_nil,fun _ h=>absurd h List.not_mem_nil,?_⟩
 unfold xk pX
 dsimp only
 rw[bx.mk.injEq]
 refine⟨rfl,?_,?_,?_,?_,?_,?_,?_,?_⟩
 ·split
  ·rfl
  ·rename_i hh;rw[if_neg hh]at e1;rw[e1]
 ·exact e2
 ·exact e3
 ·by_cases hh:kind=6∨kind=8∨kind=10∨kind=11
  ·rw[if_pos (by omega)]
  ·rw[if_neg hh]at e4;rw[if_neg (by omega),e4];rfl
 ·split
  ·rfl
  ·rename_i hh;rw[if_neg hh]at e5;rw[e5];rfl
 ·split
  ·rfl
  ·rename_i hh;rw[if_neg hh]at e6;rw[e6];rfl
 ·rw[if_neg (by omega)];rfl
 ·rw[if_neg (by omega)];rfl
theorem sL.line {p:bx} (h:sL p):xj p∧wg (xk p):=by
 have h0:kE 0:=⟨by decide,by decide⟩
 have o0:pj 0:=⟨by decide,by decide⟩
 have nm:∀{P:Prop} {k:Int},(k=12∨k=13)→(k=1∨k=2∨k=3∨k=5)→P:=fun h1 h2=>by omega
 rcases h with⟨n,n0,n1,rfl⟩|⟨n,ks,ts,n0,n1,rfl,k9,t9,hk,ht⟩
 ·refine⟨⟨h0,⟨by show _≤n;omega,by show n≤_;omega⟩,h0,⟨by show(0:Int)≤0;decide,by show(0:Int)<4294967296;decide⟩,Nat.zero_le _,Nat.zero_le _,⟨rfl,Nat.zero_le _⟩,fun _ h=>absurd h List.not_mem_nil,fun _ h=>absurd h List.not_mem_nil⟩,?_⟩
  refine⟨⟨by show(1:Int)≤12;decide,by show(12:Int)≤13;decide⟩,nm (.inl rfl),o0,⟨by show 0≤max n 0;omega,by show max n 0<_;omega⟩,o0,o0,rfl,fun _ h=>absurd h List.not_mem_nil,fun _ h=>absurd h List.not_mem_nil,rfl⟩
 ·refine⟨⟨h0,⟨by show _≤n;omega,by show n≤_;omega⟩,h0,⟨by show(0:Int)≤0;decide,by show(0:Int)<4294967296;decide⟩,Nat.zero_le _,Nat.zero_le _,⟨by show ks.length=ts.length;omega,by show ks.length≤_;omega⟩,fun x hx=>?_,fun x hx=>?_⟩,?_⟩
  ·have:=hk x hx;exact⟨by omega,by omega⟩
  ·have:=ht x hx;exact⟨by omega,by omega⟩
  refine⟨⟨by show(1:Int)≤13;decide,by show(13:Int)≤13;decide⟩,nm (.inr rfl),o0,⟨by show 0≤max n 0;omega,by show max n 0<_;omega⟩,o0,o0,?_,sO ks (by decide) hk,sO ts (by decide) ht,rfl⟩
  show(ks.map _).length=(ts.map _).length
  rw[List.length_map,List.length_map];omega
end Wl
namespace Go.Qw
open Go Go.Vc Go.Proofs Wl
set_option maxRecDepth 100000
theorem zp {h:Heap} {x:sG} {m:Mv} (e:xy uS h x m):mP x (pX m)∧mT h x (pX m):=by
 obtain⟨⟨e1,e2,e3,e4,e5,e6,_⟩,s1,s2,s3⟩:=e
 exact⟨⟨e1,by rw[e2];rfl,e3,e4,e5,e6⟩,⟨s1,s2,s3⟩⟩
theorem zr (t:ByteArray) (i j:Nat):(t.extract i j).size≤t.size:=by rw[ByteArray.size_extract];omega
theorem sP (k:Int) (hk:k=0∨k=4∨k=8) (s:Sl) (l:List Int) (h:Heap) (hs:Rd h s 1 ao l):
  ah Tryz.prog eJ #[.slice s.ptr s.len s.cap,.int .i64 k] h fun v h'=>∃t:ByteArray,v=.string t∧t.size≤2^19∧Sp h h' []:=by
 refine iE s k ?_
 unfold eT
 obtain⟨K,hK,rfl⟩:∃K:Nat,K≤8∧k=K:=⟨k.toNat,by omega,by omega⟩
 rw[Go.Vc.wrap_small ((K:Int)+1) (by omega) (by omega),Go.Vc.wrap_small ((K:Int)+2) (by omega) (by omega),Go.Vc.wrap_small ((K:Int)+3) (by omega) (by omega)]
 refine(iU s l (K+1) h hs).mono ?_
 rintro _ _ ⟨rfl,rfl⟩
 refine⟨_,rfl,(iU s l (K+2) _ hs).mono ?_⟩
 rintro _ _ ⟨rfl,rfl⟩
 refine⟨_,rfl,(iU s l (K+3) _ hs).mono ?_⟩
 rintro _ _ ⟨rfl,rfl⟩
 refine⟨_,rfl,(iU s l K _ hs).mono ?_⟩
 rintro _ h4 ⟨rfl,rfl⟩
 obtain⟨a,ha⟩:∃a,a=sF l (K+1):=⟨_,rfl⟩
 obtain⟨b,hb⟩:∃a,a=sF l (K+2):=⟨_,rfl⟩
 obtain⟨c,hc⟩:∃a,a=sF l (K+3):=⟨_,rfl⟩
 rw[←ha,←hb,←hc]
 refine⟨_,rfl,by decide,(uT (2,1,3) _ a b h4 (by decide)).mono ?_⟩
 rintro _ h5 ⟨x,m,rfl,hok,hr,R5⟩
 have ex:=zp (R5.AA 0 rfl)
 refine⟨x,rfl,(po x (pX m) h5 ex.1 ex.2 (hok.line hr).1).mono ?_⟩
 rintro _ h6 ⟨t1,rfl,_,z1,R6⟩
 refine⟨t1,rfl,?_⟩
 have R6:Sp h4 h6 []:=.zip (R5.comp R6).au
 refine bA (fun t h'=>t.size≤2^18∧Sp h4 h' []) ?_ ?_
 ·refine(iU s l K _ (Seq.up hs R6.au)).mono ?_
  rintro _ h6 ⟨rfl,rfl⟩
  refine⟨_,rfl,(aH _ 5 h6 (by decide) (by decide)).mono ?_⟩
  rintro _ h6 ⟨rfl,rfl⟩
  refine⟨_,rfl,aT (fun _=>?_) fun _=>⟨z1,R6⟩⟩
  refine(ve a b c h6).mono ?_
  rintro _ h9 ⟨y,p,rfl,Fy,ok,R9⟩
  refine⟨y,rfl,(po y p h9 Fy (zl (As:=[]) R9) ok.line.1).mono ?_⟩
  rintro _ h10 ⟨t2,rfl,_,z2,R10⟩
  exact⟨t2,rfl,z2,.zip ((R6.comp R9).comp R10).au⟩
 rintro t h11 ⟨zt,R11⟩
 refine⟨by decide,?_⟩
 rw[Go.Vc.wrap_small ((t.size:Int)+1) (by omega) (by omega)]
 refine(aH _ ((t.size:Int)+1) h11 (by omega) (by omega)).mono ?_
 rintro _ h11 ⟨rfl,rfl⟩
 obtain⟨q,hq⟩:∃q,q=IntKind.wrap .i64 (Int.tdiv c 9)%((t.size:Int)+1):=⟨_,rfl⟩
 rw[←hq]
 have q0:0≤q∧q≤t.size:=by
  have h0:=Int.emod_nonneg (IntKind.wrap .i64 (Int.tdiv c 9)) (show((t.size:Int)+1)≠0 by omega)
  have h1:=Int.emod_lt_of_pos (IntKind.wrap .i64 (Int.tdiv c 9)) (show(0:Int)<(t.size:Int)+1 by omega)
  omega
 refine⟨q,rfl,bA (fun u h'=>u.size≤2^19∧Sp h4 h' []) ?_ fun u h' x=>⟨u,rfl,x.1,x.2⟩⟩
 refine(aH c 9 h11 (by decide) (by decide)).mono ?_
 rintro _ h11 ⟨rfl,rfl⟩
 have x1:=zr t 0 q.toNat
 have x2:=zr t q.toNat t.size
 have x4:(t.extract 0 q.toNat).size+(t.extract q.toNat t.size).size≤t.size:=by rw[ByteArray.size_extract,ByteArray.size_extract];omega
 have xs:aJ.size=1:=rfl
 refine⟨_,rfl,aT (fun _=>?_) fun _=>aT (fun _=>?_) fun _=>aT (fun _=>?_) fun _=>aT (fun _=>?_) fun _=>⟨by omega,R11⟩⟩
 ·refine⟨q0,q0,?_⟩
  obtain⟨e,he⟩:∃e:UInt8,IntKind.wrap .u8 b=((e.toNat:Nat):Int):=⟨UInt8.ofNat (IntKind.wrap .u8 b).toNat,by
   have:IntKind.wrap .u8 b=b%256:=rfl
   rw[UInt8.toNat_ofNat'];omega⟩
  rw[he]
  refine R11.lit ag aE eZ rfl [e] rfl (show 1≤2^20 by decide) rfl fun v h14 H14=>⟨trivial,yh ag ⟨_,rfl,rfl⟩ ⟨_,rfl,rfl⟩ ⟨_,rfl,rfl⟩ (H14.seq 0 rfl fun _=>rfl) ⟨trivial,?_⟩⟩
  have x3:(⟨[e].toArray⟩:ByteArray).size=1:=rfl
  refine⟨ct (by omega),ct (by rw[ByteArray.size_append];omega),?_,.zip H14.au⟩
  rw[ByteArray.size_append,ByteArray.size_append];omega
 ·refine⟨q0,ct (by omega),q0,ct (by rw[ByteArray.size_append];omega),?_,R11⟩
  rw[ByteArray.size_append,ByteArray.size_append];omega
 ·rw[Go.Vc.wrap_small (q+1) (by omega) (by omega)]
  obtain⟨r,hr⟩:∃r,r=(if(t.size:Int)<q+1 then(t.size:Int)else q+1):=⟨_,rfl⟩
  rw[←hr]
  have r0:0≤r∧r≤t.size:=by rw[hr];split<;>omega
  have x3:=zr t r.toNat t.size
  refine⟨q0,r0,ct (by omega),?_,R11⟩
  rw[ByteArray.size_append];omega
 ·have x3:pE.size=2:=rfl
  refine⟨ct (by omega),?_,R11⟩
  rw[ByteArray.size_append];omega
end Go.Qw
