/- Part of the proofs that the laws of this seat answer true whatever the input reads, and leave it as it was; no condition. -/
import Derived.Test.YteieadfggboeeaaGreatDoorTabS
import Derived.Test.YteieadfggboeeaaGreatDoorPlA
import Derived.Test.YteieadfggboeeaaGreatDoorShelfA
import Derived.Test.YteieadfggboeeaaGreatDoorPlB
import Derived.Test.YteieadfggboeeaaGreatDoorPlC
import Derived.Test.YteieadfggboeeaaGreatDoorPlD
import Derived.Test.YteieadfggboeeaaGreatDoorPlE
import Derived.Test.YteieadfggboeeaaGreatDoorPlF
import Derived.Test.YteieadfggboeeaaGreatDoorPlH
import Derived.Test.YteieadfggboeeaaGreatDoorPlG
import Derived.Test.YteieadfggboeeaaGreatDoorPlI
import Derived.Test.YteieadfggboeeaaGreatDoorPlJ
import Derived.Test.YteieadfggboeeaaGreatDoorPlK
set_option linter.unusedVariables false
set_option linter.unusedSimpArgs false
namespace Go.Qw
open Go Go.Vc Go.Proofs Wl
set_option maxRecDepth 100000
abbrev Pm:=Int×Int×Int
abbrev jy (p:Pm):Value:=.agg #[.int .i64 p.1,.int .i64 p.2.1,.int .i64 p.2.2]
theorem iQ (p:Pm) (h:Heap):ah Tryz.prog uC #[jy p] h fun v h'=>v=.bool (gN p)∧Sp h h' []:=by
 refine tj p ?_
 unfold qt
 refine(Sp.refl h).boxed fun a h1 H1=>?_
 have hb:=H1.box 0 rfl
 have hz:Sp h h1 []:=.zip H1.au
 have c0:cellOf h1 a=some (.int .i64 p.1):=hb.cell0 rfl
 have c1:cellOf h1 (a.add 1)=some (.int .i64 p.2.1):=hb.cell rfl
 have c2:cellOf h1 (a.add 2)=some (.int .i64 p.2.2):=hb.cell rfl
 unfold gN
 refine⟨_,c0,ak (fun e1=>?_) (fun e1=>⟨by rw[decide_eq_false e1];rfl,hz⟩)⟩
 rw[decide_eq_true e1]
 refine⟨_,c0,ak (fun e1=>?_) (fun e1=>⟨by rw[decide_eq_false e1];rfl,hz⟩)⟩
 rw[decide_eq_true e1]
 refine⟨_,c1,ak (fun e1=>?_) (fun e1=>⟨by rw[decide_eq_false e1];rfl,hz⟩)⟩
 rw[decide_eq_true e1]
 refine⟨_,c1,ak (fun e1=>?_) (fun e1=>⟨by rw[decide_eq_false e1];rfl,hz⟩)⟩
 rw[decide_eq_true e1]
 refine⟨_,c2,ak (fun e1=>?_) (fun e1=>⟨by rw[decide_eq_false e1];rfl,hz⟩)⟩
 rw[decide_eq_true e1]
 exact⟨_,c2,rfl,hz⟩
abbrev bF:bl C.tokh nV ax 1 [.int .i64 0] 8:=⟨_,_,rfl,rfl,rfl,rfl,rfl,rfl⟩
abbrev eZ:bl C.tokh bX aA 1 [.int .u8 0] 1:=⟨_,_,rfl,rfl,rfl,rfl,rfl,rfl⟩
abbrev rk:bl C.tokh qN bX 1 [.slice none 0 0] 24:=⟨_,_,rfl,rfl,rfl,rfl,rfl,rfl⟩
theorem pP (s:Sl) (l:List Int) (h:Heap) (hs:Rd h s 1 ao l) (hsz:l.length≤2^30):ah Tryz.prog jk #[.slice s.ptr s.len s.cap] h fun v h'=>∃r:Sl,v=.slice r.ptr r.len r.cap∧Sp h h' [ap ax r 1 ao l]:=by
 refine iP s ?_
 unfold eY
 refine bT (fun e=>?_) (fun e=>?_)
 ·have:=hs.isNil e
  subst this
  exact⟨⟨none,0,0⟩,rfl,(Sp.refl h).nil ax 1 ao⟩
 ·refine(Sp.refl h).lit ag ao bF rfl [] rfl (by decide) rfl fun s1 h1 H1=>?_
  refine H1.append ag 0 rfl bF ⟨_,_,rfl,rfl⟩ rfl (by decide) (fun _=>rfl) (hs.up H1.au) bC (by simp;omega) fun s2 h2 H2=>⟨s2,rfl,H2⟩
theorem tt (s:Sl) (l:List UInt8) (h:Heap) (hs:Rd h s 1 aE l) (hsz:l.length≤2^30):ah Tryz.prog pJ #[.slice s.ptr s.len s.cap] h fun v h'=>∃r:Sl,v=.slice r.ptr r.len r.cap∧Sp h h' [ap aA r 1 aE l]:=by
 refine oY s ?_
 unfold lJ
 refine bT (fun e=>?_) (fun e=>?_)
 ·have:=hs.isNil e
  subst this
  exact⟨⟨none,0,0⟩,rfl,(Sp.refl h).nil aA 1 aE⟩
 ·refine(Sp.refl h).lit ag aE eZ rfl [] rfl (by decide) rfl fun s1 h1 H1=>?_
  refine H1.append ag 0 rfl eZ ⟨_,_,rfl,rfl⟩ rfl (by decide) (fun _=>rfl) (hs.up H1.au) dw (by simp;omega) fun s2 h2 H2=>⟨s2,rfl,H2⟩
theorem vK {e:TypeId} (s:Sl) (l:List Int) (h:Heap) (ho:Own h e s 1 ao l) (hsz:l.length<2^40):ah Tryz.prog kb #[.slice s.ptr s.len s.cap] h fun v h'=>v=.tuple #[]∧Own h' e s 1 ao (fa l)∧az (fun b=>¬s.on b) h h':=
 rN Tryz.slices_Sort_int Tryz.slices_Sort_int_none ho hsz
theorem aH (x n:Int) (h:Heap) (hn:0<n) (hb:n≤2^62):ah Tryz.prog iF #[.int .i64 x,.int .i64 n] h fun v h'=>v=.int .i64 (x%n)∧h'=h:=by
 refine ie x n ?_
 unfold eL
 have h1:=Int.tmod_lt_of_pos x hn
 have h2:-n<x.tmod n:=Int.lt_tmod_of_pos x hn
 have he:=wD x n hn
 refine⟨by omega,aM ?_⟩
 refine ak (fun hlt=>?_) (fun hge=>?_)
 ·rw[wrap_small _ (by omega) (by omega)]
  exact⟨by rw[he,if_pos hlt],rfl⟩
 ·exact⟨by rw[he,if_neg hge],rfl⟩
end Go.Qw
namespace Go.Qw
open Go Go.Vc Go.Proofs Wl
set_option maxRecDepth 100000
abbrev kc (b:Bool):Value:=.bool b
section
variable {B:al} {h0 h:Heap} {As:List HP}
theorem pd (a:Addr) (c:Int) (x:List Bool) (hb:bL h a bN (x.map kc)) (hl:x.length=256) (hc:0≤c∧c<256):
  ah Tryz.prog gn #[.pointer (some a),.int .u8 c] h fun v h'=>v=.bool (x.getD c.toNat false)∧h'=h:=by
 refine fT (some a) c ?_
 unfold dF
 refine⟨a,rfl,hc,x.getD c.toNat false,?_,rfl,rfl⟩
 rw[Nat.mul_one]
 refine hb.cell ?_
 rw[List.getElem?_map,List.getD_eq_getElem?_getD,List.getElem?_eq_getElem (by omega)];rfl
def ee (x:List Bool) (b:UInt8):Bool:=x.getD b.toNat false
theorem uF (a:Addr) (s:ByteArray) (x:List Bool) (hb:bL h a bN (x.map kc)) (hl:x.length=256) (hs:s.size≤2^40):
  ah Tryz.prog iO #[.string s,.pointer (some a)] h fun v h'=>h'=h∧∃t:ByteArray,v=.string t∧(t.size=0↔s.data.toList.all (ee x)=true):=by
 refine il s (some a) ?_
 unfold eO
 refine aM ?_
 refine aF (fun s:ByteArray=>s) (fun t h'=>h'=h∧t.size≤2^40∧(t.data.toList.all (ee x)=true↔s.data.toList.all (ee x)=true)) (fun t=>t.size) s rfl ⟨rfl,hs,Iff.rfl⟩ ?_
 rintro t h1 ⟨rfl,ht,ha⟩
 refine ak (fun hlt=>?_) (fun hge=>?_)
 ·have h0:0<t.data.toList.length:=by have:t.data.toList.length=t.size:=rfl;omega
  obtain⟨c,r,e⟩:∃c r,t.data.toList=c::r:=by cases h:t.data.toList with
   |nil=>rw[h]at h0;cases h0
   |cons c r=>exact⟨c,r,rfl⟩
  refine⟨c,⟨by decide,?_⟩,?_⟩
  ·show t.data[0]?=some c
   rw[←Array.getElem?_toList,e];rfl
  refine(pd a _ x hb hl ⟨by omega,by have:=c.toNat_lt;omega⟩).mono ?_
  rintro _ h2 ⟨rfl,rfl⟩
  refine⟨_,rfl,?_⟩
  have hc:x.getD ((c.toNat:Nat):Int).toNat false=ee x c:=rfl
  rw[hc]
  have e2:(t.extract (1:Int).toNat t.size).data.toList=r:=by
   rw[ByteArray.data_extract,Array.toList_extract]
   have hz:t.size=t.data.toList.length:=rfl
   have hr:t.size-1=r.length:=by rw[hz,e];rfl
   simp[e,List.extract,hr]
  refine bv (fun hf=>⟨rfl,t,rfl,?_⟩) (fun hf=>⟨⟨by decide,by omega⟩,?_⟩)
  ·rw[←ha,e,List.all_cons,hf]
   constructor
   ·intro h;omega
   ·intro h;cases h
  ·refine⟨t.extract (1:Int).toNat t.size,rfl,⟨rfl,?_,?_⟩,?_⟩
   ·rw[ByteArray.size_extract];omega
   ·rw[e2,←ha,e,List.all_cons,hf,Bool.true_and]
   ·rw[ByteArray.size_extract];simp;omega
 ·refine⟨rfl,t,rfl,?_⟩
  have:t.data.toList=[]:=List.length_eq_zero_iff.1 (by have:t.data.toList.length=t.size:=rfl;omega)
  rw[←ha,this]
  exact⟨fun _=>rfl,fun _=>by omega⟩
theorem uG (a:Addr) (s:ByteArray) (x:List Bool) (hb:bL h a bN (x.map kc)) (hl:x.length=256) (hs:s.size≤2^40):
  ah Tryz.prog im #[.string s,.pointer (some a)] h fun v h'=>h'=h∧∃t:ByteArray,v=.string t∧t.size≤2^40∧(t.data.toList.all (ee x)=true↔s.data.toList.all (ee x)=true):=by
 refine gU s (some a) ?_
 unfold eB
 refine aM ?_
 refine aF (fun s:ByteArray=>s) (fun t h'=>h'=h∧t.size≤2^40∧(t.data.toList.all (ee x)=true↔s.data.toList.all (ee x)=true)) (fun t=>t.size) s rfl ⟨rfl,hs,Iff.rfl⟩ ?_
 rintro t h1 ⟨rfl,ht,ha⟩
 refine ak (fun hlt=>?_) (fun hge=>?_)
 ·have h0:0<t.size:=by omega
  have hz:t.data.toList.length=t.size:=rfl
  have hw:IntKind.wrap .i64 ((t.size:Int)-1)=((t.size-1:Nat):Int):=by rw[wrap_small _ (by omega) (by omega)];omega
  rw[hw]
  obtain⟨c,e⟩:∃c,t.data.toList[t.size-1]?=some c:=⟨t.data.toList[t.size-1]'(by omega),List.getElem?_eq_getElem _⟩
  refine⟨c,⟨by omega,?_⟩,?_⟩
  ·rw[Int.toNat_natCast,←Array.getElem?_toList,e]
  refine(pd a _ x hb hl ⟨by omega,by have:=c.toNat_lt;omega⟩).mono ?_
  rintro _ h2 ⟨rfl,rfl⟩
  refine⟨_,rfl,?_⟩
  have hc:x.getD ((c.toNat:Nat):Int).toNat false=ee x c:=rfl
  rw[hc]
  have e2:(t.extract 0 ((t.size-1:Nat):Int).toNat).data.toList=t.data.toList.take (t.size-1):=by
   rw[ByteArray.data_extract,Array.toList_extract];simp[List.extract]
  refine bv (fun hf=>⟨rfl,t,rfl,ht,ha⟩) (fun hf=>⟨⟨by omega,by omega⟩,?_⟩)
  refine⟨t.extract 0 ((t.size-1:Nat):Int).toNat,rfl,⟨rfl,?_,?_⟩,?_⟩
  ·rw[ByteArray.size_extract];omega
  ·rw[e2,←ha]
   have hsp:t.data.toList=t.data.toList.take (t.size-1)++[c]:=by
    have hi:t.size-1<t.data.toList.length:=by omega
    have e3:t.data.toList[t.size-1]=c:=by rw[List.getElem?_eq_getElem hi]at e;exact Option.some.inj e
    rw[←e3,←aD _ _ hi,List.take_of_length_le (by omega)]
   conv=>rhs;rw[hsp]
   rw[List.all_append,List.all_cons,hf];simp
  ·rw[ByteArray.size_extract];simp;omega
 ·exact⟨rfl,t,rfl,ht,ha⟩
theorem tY (x:List Bool):(x.map kc).all (·.oneCell')=true:=by
 rw[List.all_map,List.all_eq_true];exact fun _ _=>rfl
theorem uH (cs:ByteArray) (hc:∀b∈cs.data.toList,b.toNat<128) (hs:cs.size≤2^40) (h:Heap):
  ah Tryz.prog ji #[.string cs] h fun v h'=>Sp h h' []∧∃x:List Bool,x.length=256∧(∀b:UInt8,ee x b=cs.data.toList.contains b)∧v=.tuple #[.agg (x.map kc).toArray,.bool true]:=by
 refine iN cs ?_
 unfold eW
 refine(Sp.refl h).alloc ag rfl fun a h1 H1=>?_
 have H1:Sp h h1 [aj a bN ((List.replicate 256 false).map kc)]:=H1
 refine aF (fun t:Nat×List Bool=>(t.1:Int)) (fun t h'=>t.1≤cs.size∧t.2.length=256∧(∀b:UInt8,ee t.2 b=(cs.data.toList.take t.1).contains b)∧Sp h h' [aj a bN (t.2.map kc)]) (fun t=>cs.size-t.1) (0,List.replicate 256 false) rfl ⟨by omega,by simp,?_,H1⟩ ?_
 ·intro b
  have:b.toNat<256:=b.toNat_lt
  unfold ee
  rw[List.getD_eq_getElem?_getD,List.getElem?_replicate,if_pos this];rfl
 rintro⟨k,x⟩ h2 ⟨hk,hl,hx,H2⟩
 dsimp only at hk hl hx H2⊢
 have hz:cs.data.toList.length=cs.size:=rfl
 refine ak (fun hlt=>?_) (fun hge=>?_)
 ·have hk':k<cs.data.toList.length:=by omega
  refine⟨cs.data.toList[k],⟨by omega,by rw[Int.toNat_natCast,←Array.getElem?_toList,List.getElem?_eq_getElem hk']⟩,?_⟩
  have h128:=hc _ (List.getElem_mem hk')
  refine ak (fun hb=>by omega) (fun _=>⟨⟨by omega,by omega⟩,?_⟩)
  rw[Nat.mul_one,Int.toNat_natCast]
  refine H2.storeAt ag 0 rfl rfl rfl rfl rfl (by rw[List.length_map,hl];omega) fun h3 H3=>?_
  rw[wrap_small _ (by omega) (by omega)]
  refine⟨(k+1,x.set cs.data.toList[k].toNat true),by simp,⟨by omega,by simp[hl],?_,?_⟩,by simp;omega⟩
  ·intro b
   rw[aD _ _ hk',List.contains_append,←hx b]
   unfold ee
   rw[List.getD_eq_getElem?_getD,List.getD_eq_getElem?_getD,List.getElem?_set]
   by_cases hb:cs.data.toList[k]=b
   ·rw[←hb,if_pos rfl,if_pos (by omega)];simp
   ·have:cs.data.toList[k].toNat≠b.toNat:=fun e=>hb (UInt8.toNat_inj.1 e)
    rw[if_neg this]
    have h3:[cs.data.toList[k]].contains b=false:=by rw[List.contains_cons,List.contains_nil,Bool.or_false,beq_eq_false_iff_ne];exact fun e=>hb e.symm
    rw[h3,Bool.or_false]
  ·rw[List.map_set];exact H3
 ·have hk2:k=cs.data.toList.length:=by omega
  have hbx:=H2.box 0 rfl
  refine⟨x,⟨hl,hbx.bh _ (by rw[List.take_of_length_le (by simp)])⟩,?_⟩
  refine H2.storeAll ag 0 rfl rfl (x.map kc) rfl (by simp[hl]) (tY x) rfl fun h3 H3=>?_
  have hb3:=H3.box 0 rfl
  refine⟨x,⟨hl,hb3.bh _ (by rw[List.take_of_length_le (by simp)])⟩,.zip H3.au,x,hl,fun b=>?_,rfl⟩
  rw[hx b,hk2,List.take_length]
theorem qw (s cs:ByteArray) (hc:∀b∈cs.data.toList,b.toNat<128) (hc2:2≤cs.size) (hcs:cs.size≤2^40) (hs:s.size≤2^40) (h:Heap):
  ah Tryz.prog jx #[.string s,.string cs] h fun v h'=>Sp h h' []∧∃t:ByteArray,v=.string t∧(t.size=0↔s.data.toList.all cs.data.toList.contains=true):=by
 refine oc s cs ?_
 unfold kx
 refine aM ?_
 refine bT (fun e=>⟨Sp.refl h,s,rfl,?_⟩) fun e1=>bT (fun e=>?_) fun e2=>?_
 ·have e:s=(⟨#[]⟩:ByteArray):=cL (eq_of_beq e)
  subst e;exact⟨fun _=>rfl,fun _=>rfl⟩
 ·have e:cs=(⟨#[]⟩:ByteArray):=cL (eq_of_beq e)
  subst e;exact absurd hc2 (by decide)
 refine aM ?_
 refine aT (fun e=>by omega) fun _=>?_
 refine(uH cs hc hcs h).mono ?_
 rintro _ h1 ⟨H1,x,hl,hx,rfl⟩
 refine⟨(x,true),rfl,?_⟩
 refine H1.alloc ag rfl fun a h2 H2=>?_
 have H2:Sp h h2 [aj a bN ((List.replicate 256 false).map kc)]:=H2
 refine H2.storeAll ag 0 rfl rfl (x.map kc) rfl (by simp[hl]) (tY x) (by simp[hl]) fun h3 H3=>?_
 have hb:=H3.box 0 rfl
 refine cU rfl ?_
 refine(uG a s x hb hl hs).mono ?_
 rintro _ h4 ⟨rfl,u,rfl,hu,ha⟩
 refine⟨_,rfl,?_⟩
 refine(uF a u x hb hl hu).mono ?_
 rintro _ h5 ⟨rfl,t,rfl,ht⟩
 refine⟨_,rfl,.zip H3.au,t,rfl,?_⟩
 rw[ht,ha]
 have:(ee x)=cs.data.toList.contains:=funext hx
 rw[this]
end
end Go.Qw
namespace Go.Vc
open Go
theorem yq {P:Program} {t:TypeId} {x:Operand} (hu:(match P.underlying t with|some (.interface _)=>true|_=>false)=true):fA P .eql t x (.const .nilIface) .nilIface .nilIface (.bool true):=by
 unfold fA
 have hg:aq P (eqGuard .eql t x (.const .nilIface) .nilIface .nilIface) ():=by
  intro w
  cases x<;>rfl
 refine hg.bind ?_
 have he:∀d,aq P (Op.equalIn (d+1) t .nilIface .nilIface) true:=by
  intro d
  cases hd:P.underlying t with
  |none=>rw[hd]at hu;cases hu
  |some k=>
   rw[hd]at hu
   cases k with
   |interface ms=>intro w;simp[Op.equalIn,underlying,hd]
   |_=>cases hu
 simp only[binOp,kG]
 exact(he _).bind .pure
end Go.Vc
namespace Wl
theorem lm (p:UInt8→Bool) (h:(List.range 256).all (fun n=>p (UInt8.ofNat n))=true) (b:UInt8):p b=true:=by
 have:=List.all_eq_true.1 h b.toNat (List.mem_range.2 b.toNat_lt)
 simpa using this
theorem zQ (b:UInt8):([48,49,50,51,52,53,54,55,56,57]:List UInt8).contains b=dX b:=
 eq_of_beq (lm (fun b=>([48,49,50,51,52,53,54,55,56,57]:List UInt8).contains b==dX b) (by decide+kernel) b)
theorem xL (b:UInt8):([48,49,50,51,52,53,54,55,56,57,97,98,99,100,101,102]:List UInt8).contains b=cM b:=
 eq_of_beq (lm (fun b=>([48,49,50,51,52,53,54,55,56,57,97,98,99,100,101,102]:List UInt8).contains b==cM b) (by decide+kernel) b)
theorem Au (b:UInt8) (h:cM b=true):Go.Lib.indexByte [48,49,50,51,52,53,54,55,56,57,97,98,99,100,101,102] b=(((cE b).getD 0:Nat):Int):=by
 have:=lm (fun b=>!cM b||(Go.Lib.indexByte [48,49,50,51,52,53,54,55,56,57,97,98,99,100,101,102] b==(((cE b).getD 0:Nat):Int))) (by decide+kernel) b
 rw[h]at this
 exact eq_of_beq (by simpa using this)
end Wl
namespace Go.Qw
open Go Go.Vc Go.Proofs Wl
set_option maxRecDepth 100000
theorem yr {x:Operand}:fA Tryz.prog .eql yo x (.const .nilIface) .nilIface .nilIface (.bool true):=yq (by kernel_rfl)
theorem qx {l:List UInt8} (h:dk l=true):bJ l=some (eP 0 l):=if_pos h
theorem qy {l:List UInt8} (h:dk l=false):bJ l=none:=if_neg (by rw[h];decide)
theorem ss (w:ByteArray) (hs:w.size≤2^40) (h:Heap):ah Tryz.prog nr #[.string w] h fun v h'=>Sp h h' []∧v=.tuple #[.int .i64 (((bJ w.data.toList).getD 0:Nat):Int),.bool (bJ w.data.toList).isSome]:=by
 refine mE w ?_
 unfold iJ
 have hz:w.data.toList.length=w.size:=rfl
 have no:∀{h1:Heap},Sp h h1 []→dk w.data.toList=false→Sp h h1 []∧Value.tuple #[(.int .i64 (0:Int)),.bool false]=.tuple #[.int .i64 (((bJ w.data.toList).getD 0:Nat):Int),.bool (bJ w.data.toList).isSome]:=fun H e=>⟨H,by rw[qy e];rfl⟩
 refine bA (fun _ h3=>Sp h h3 []∧dk w.data.toList=true) ?_ ?_
 ·refine ak (fun e=>no (Sp.refl h) ?_) fun e1=>ak (fun e=>no (Sp.refl h) ?_) fun e2=>?_
  ·unfold dk;rw[decide_eq_false (by omega)];rfl
  ·unfold dk;rw[decide_eq_false (by omega)];rfl
  obtain⟨c,r,e⟩:∃c r,w.data.toList=c::r:=by cases h:w.data.toList with
   |nil=>rw[h]at hz;simp at hz;omega
   |cons c r=>exact⟨c,r,rfl⟩
  refine⟨c,⟨by decide,by rw[←Array.getElem?_toList,e];rfl⟩,?_⟩
  have main:(w.size>1→c≠48)→∀(cs:ByteArray),cs.data.toList=[48,49,50,51,52,53,54,55,56,57]→
    ac Tryz.prog 66 #[.string w,.string cs] (.one bn) h fun r2 h1=>Br (decide ((r2.size:Int)>0)) (Sp h h1 []∧Value.tuple #[(.int .i64 (0:Int)),.bool false]=.tuple #[.int .i64 (((bJ w.data.toList).getD 0:Nat):Int),.bool (bJ w.data.toList).isSome]) (Sp h h1 []∧dk w.data.toList=true):=by
   intro hc cs hcs
   have hcz:cs.size=10:=by have:cs.data.toList.length=cs.size:=rfl;rw[hcs]at this;exact this.symm
   refine(qw w cs (by rw[hcs];decide) (by omega) (by omega) hs h).mono ?_
   rintro _ h1 ⟨H1,t,rfl,ht⟩
   refine⟨_,rfl,?_⟩
   have hall:w.data.toList.all cs.data.toList.contains=w.data.toList.all dX:=by rw[hcs];congr 1;exact funext zQ
   rw[hall]at ht
   refine ak (fun hgt=>no H1 ?_) (fun hle=>⟨H1,?_⟩)
   ·have:w.data.toList.all dX=false:=Bool.eq_false_iff.2 fun hh=>by have:=ht.2 hh;omega
    unfold dk;rw[this,Bool.and_false]
   ·have hd:=ht.1 (by omega)
    unfold dk
    rw[hd,decide_eq_true ⟨by omega,by omega⟩,Bool.true_and,Bool.and_true,e]
    by_cases h1:w.size>1
    ·have:=hc h1
     simp[this]
    ·have:¬1<(c::r).length:=by rw[←e];omega
     rw[decide_eq_false this];rfl
  have hcs:∀s:ByteArray,s=⟨#[48,49,50,51,52,53,54,55,56,57,97,98,99,100,101,102]⟩→(s.extract 0 ((10:Int).toNat)).data.toList=[48,49,50,51,52,53,54,55,56,57]:=by
   rintro _ rfl
   rw[ByteArray.data_extract,Array.toList_extract];rfl
  refine aT (fun e48=>?_) fun n48=>?_
  ·refine ak (fun hgt=>no (Sp.refl h) ?_) fun hle=>⟨⟨by decide,by decide⟩,main (fun hgt=>by omega) _ ?_⟩
   rotate_left
   ·exact hcs _ rfl
   unfold dk
   have hc:c=48:=UInt8.toNat_inj.1 (by rw[show c.toNat=48 by omega];rfl)
   have:1<(c::r).length:=by rw[←e];omega
   rw[e,decide_eq_true this,hc];simp
  ·refine⟨⟨by decide,by decide⟩,main (fun _ hc=>n48 (by rw[hc];rfl)) _ ?_⟩
   exact hcs _ rfl
 ·rintro _ h3 ⟨H3,hm⟩
  have hm':=hm
  unfold dk at hm'
  simp only[Bool.and_eq_true,decide_eq_true_eq]at hm'
  have hne:w.data.toList≠[]:=fun e=>by rw[e]at hm';exact absurd hm'.1.1.1 (by decide)
  refine(ye Tryz.strconv_Atoi w _ (by omega) (wF hne hm'.2) h3).mono ?_
  rintro _ h4 ⟨rfl,H4⟩
  refine⟨(_,.nilIface),rfl,true,yr,⟨H3.comp H4,?_⟩⟩
  rw[qx hm];rfl
end Go.Qw
namespace Wl
theorem lp (w:List UInt8):∀(a:List (List UInt8)),bk (a++[w])=(bk a).bind fun ns=>(bJ w).map fun n=>ns++[n]
 |[]=>by
  simp only[List.nil_append,bk,Option.bind_some]
  cases bJ w<;>rfl
 |x::r=>by
  simp only[List.cons_append,bk,lp w r]
  cases bJ x with
  |none=>rfl
  |some n=>cases bk r with
   |none=>rfl
   |some ns=>cases bJ w<;>rfl
theorem lq {w:List UInt8} (h:bJ w=none):∀{l:List (List UInt8)},w∈l→bk l=none
 |x::r,hm=>by
  rcases List.mem_cons.1 hm with rfl|hm
  ·simp only[bk,h]
  ·simp only[bk]
   cases bJ x with
   |none=>rfl
   |some n=>simp only[lq h hm];rfl
theorem fx:∀{l:List (List UInt8)} {ns:List Nat},bk l=some ns→ns.length=l.length
 |[],ns,h=>by cases h;rfl
 |x::r,ns,h=>by
  simp only[bk]at h
  cases hx:bJ x with
  |none=>rw[hx]at h;cases h
  |some n=>
   rw[hx]at h
   cases hr:bk r with
   |none=>rw[hr]at h;cases h
   |some ms=>rw[hr]at h;cases h;simp[fx hr]
theorem ng (b:UInt8):(cE b).getD 0<16:=by
 have:=lm (fun b=>decide ((cE b).getD 0<16)) (by decide+kernel) b
 exact of_decide_eq_true this
theorem jz:∀(l:List UInt8),(cN l).length=l.length/2
 |[]=>rfl
 |[_]=>by simp[cN]
 |a::b::r=>by simp only[cN,List.length_cons,jz r];omega
theorem mK:∀(l:List UInt8) (j:Nat) (a b:UInt8),l[2*j]?=some a→l[2*j+1]?=some b→(cN l)[j]?=some (UInt8.ofNat (16*(cE a).getD 0+(cE b).getD 0))
 |[],j,a,b,ha,_=>by simp at ha
 |[_],j,a,b,_,hb=>by simp at hb
 |x::y::r,0,a,b,ha,hb=>by
  simp at ha hb
  subst ha;subst hb;rfl
 |x::y::r,j+1,a,b,ha,hb=>by
  have e1:2*(j+1)=2*j+2:=by omega
  have e2:2*(j+1)+1=2*j+1+2:=by omega
  rw[e1]at ha;rw[e2]at hb
  simpa[cN]using mK r j a b (by simpa using ha) (by simpa using hb)
end Wl
namespace Go.Qw
open Go Go.Vc Go.Proofs Wl
set_option maxRecDepth 100000
abbrev dl (b:ByteArray):List UInt8:=b.data.toList
abbrev fX (l:List Nat):List Int:=l.map fun(n:Nat)=>(n:Int)
theorem qW (s:Sl) (l:List ByteArray) (h:Heap) (hs:Rd h s 1 ej l) (hl:l.length≤2^20) (hb:∀b∈l,b.size≤2^40):
  ah Tryz.prog mC #[.slice s.ptr s.len s.cap] h fun v h'=>∃r:Sl,v=.tuple #[.slice r.ptr r.len r.cap,.bool (bk (l.map dl)).isSome]∧Sp h h' [ap ax r 1 ao (fX ((bk (l.map dl)).getD []))]:=by
 refine lO s ?_
 unfold gZ
 refine aF (fun t:Sl×Nat=>(t.1,(t.2:Int))) (fun t h'=>t.2≤l.length∧∃ns,bk ((l.map dl).take t.2)=some ns∧Sp h h' [ap ax t.1 1 ao (fX ns)]) (fun t=>l.length-t.2) (⟨none,0,0⟩,0) rfl ⟨by simp,[],rfl,by simpa using(Sp.refl h).nil ax 1 ao⟩ ?_
 rintro⟨o,i⟩ h1 ⟨hi,ns,hn,H1⟩
 dsimp only at hi hn H1⊢
 have hlen:=hs.len
 refine ak (fun e=>?_) (fun e=>?_)
 ·have hi':i<l.length:=by omega
  have hm:l[i]∈l:=List.getElem_mem hi'
  refine(Seq.up hs H1.au).aO (g:=Value.string) i rfl hi' l[i] rfl ?_
  refine(ss l[i] (hb _ hm) h1).mono ?_
  rintro _ h2 ⟨H2,rfl⟩
  refine⟨(_,_),rfl,?_⟩
  cases hc:bJ l[i].data.toList with
  |none=>
   have hz:bk (l.map dl)=none:=lq hc (List.mem_map_of_mem hm)
   rw[hz]
   exact cU rfl ⟨⟨none,0,0⟩,rfl,by simpa using(Sp.zip (H1.up H2.au).au).nil ax 1 ao⟩
  |some n=>
   refine ge rfl ?_
   have hnl:ns.length≤2^20:=by rw[fx hn];simp;omega
   refine(H1.up H2.au).push ag 0 rfl bF rfl (by decide) (fun _=>rfl) bC (n:Int) rfl (by decide) (by simp;omega) fun o' h4 H4=>?_
   refine⟨(o',i+1),by dsimp only;rw[wrap_small _ (by omega) (by omega)];rfl,⟨by dsimp only;omega,ns++[n],?_,?_⟩,by dsimp only;omega⟩
   ·dsimp only
    rw[aD _ _ (show i<(l.map dl).length by simpa using hi'),List.getElem_map,lp,hn]
    show Option.map _ (bJ l[i].data.toList)=_
    rw[hc];rfl
   ·dsimp only
    rw[show fX (ns++[n])=fX ns++[(n:Int)]by simp[fX]]
    exact H4
 ·have hi2:i=l.length:=by omega
  rw[List.take_of_length_le (by simp;omega)]at hn
  rw[hn]
  exact⟨o,rfl,H1⟩
theorem zR (w cs:ByteArray) (hcs:cs=⟨#[48,49,50,51,52,53,54,55,56,57,97,98,99,100,101,102]⟩) (hs:w.size≤2^40) (h:Heap):
  ah Tryz.prog jx #[.string w,.string cs] h fun v h'=>Sp h h' []∧∃t:ByteArray,v=.string t∧(t.size=0↔(dl w).all cM=true):=by
 subst hcs
 refine(qw w _ (by decide) (by decide) (by decide) hs h).mono ?_
 rintro _ h1 ⟨H1,t,rfl,ht⟩
 rw[show(⟨#[48,49,50,51,52,53,54,55,56,57,97,98,99,100,101,102]⟩:ByteArray).data.toList.contains=cM from funext xL]at ht
 exact⟨H1,t,rfl,ht⟩
theorem Ak (s:ByteArray) (hs:s=⟨#[48,49,50,51,52,53,54,55,56,57,97,98,99,100,101,102]⟩) (c:UInt8) (hc:cM c=true) (h:Heap):
  ah Tryz.prog fO #[.string s,.int .u8 ((c.toNat:Nat):Int)] h fun v h'=>v=.int .i64 (((cE c).getD 0:Nat):Int)∧h'=h:=by
 refine(qj Tryz.strings_IndexByte _ _ h).mono ?_
 rintro _ h1 ⟨rfl,rfl⟩
 have ex:(((c.toNat:Nat):Int).toNat.toUInt8)=c:=by simp
 rw[ex,hs]
 exact⟨congrArg (Value.int .i64) (Au c hc),rfl⟩
theorem uI (w:ByteArray) (hs:w.size≤2^20) (h1s:1≤w.size) (h:Heap):
  ah Tryz.prog oR #[.string w] h fun v h'=>∃r:Sl,v=.tuple #[.slice r.ptr r.len r.cap,.bool (cF (dl w)).isSome]∧Sp h h' [ap aA r 1 aE ((cF (dl w)).getD [])]:=by
 refine nZ w ?_
 unfold kv
 have hz:(dl w).length=w.size:=rfl
 refine bT (fun e=>?_) fun e1=>?_
 ·have e:w=⟨#[45]⟩:=cL (eq_of_beq e)
  subst e
  exact⟨⟨none,0,0⟩,rfl,by simpa[cF]using(Sp.refl h).nil aA 1 aE⟩
 have e1:dl w≠[45]:=fun hh=>by
  have hw:w=⟨#[45]⟩:=by cases w;congr;exact Array.toList_inj.1 hh
  rw[hw]at e1
  have e2:((⟨#[45]⟩:ByteArray).toList==(⟨#[45]⟩:ByteArray).toList)=false:=e1
  rw[beq_self_eq_true]at e2;cases e2
 have no:∀{h1:Heap},Sp h h1 []→¬((dl w).length%2=0∧(dl w).all cM=true)→∃r:Sl,Value.tuple #[.slice none 0 0,.bool false]=.tuple #[.slice r.ptr r.len r.cap,.bool (cF (dl w)).isSome]∧Sp h h1 [ap aA r 1 aE ((cF (dl w)).getD [])]:=fun H e=>by
  have:cF (dl w)=none:=by unfold cF;rw[if_neg e1,if_neg e]
  rw[this]
  exact⟨⟨none,0,0⟩,rfl,by simpa using H.nil aA 1 aE⟩
 refine bA (fun _ h2=>Sp h h2 []∧(dl w).length%2=0∧(dl w).all cM=true) ?_ ?_
 ·have htm:Int.tmod (w.size:Int) 2=((w.size%2:Nat):Int):=by rw[Int.tmod_eq_emod_of_nonneg (by omega)];rfl
  refine⟨by decide,aT (fun e=>no (Sp.refl h) (fun hh=>by omega)) fun ne=>?_⟩
  refine(zR w _ rfl (by omega) h).mono ?_
  rintro _ h1 ⟨H1,t,rfl,ht⟩
  refine⟨_,rfl,?_⟩
  refine ak (fun hgt=>no H1 fun hh=>?_) fun hle=>⟨H1,by omega,ht.1 (by omega)⟩
  have:=ht.2 hh.2;omega
 ·rintro _ h2 ⟨H2,hev,hall⟩
  have hx:cF (dl w)=some (cN (dl w)):=by unfold cF;rw[if_neg e1,if_pos ⟨hev,hall⟩]
  rw[hx]
  have hpl:=jz (dl w)
  refine aF (fun t:Sl×Nat=>(t.1,((2*t.2:Nat):Int))) (fun t h'=>t.2≤(cN (dl w)).length∧Sp h h' [ap aA t.1 1 aE ((cN (dl w)).take t.2)]) (fun t=>(cN (dl w)).length-t.2) (⟨none,0,0⟩,0) rfl ⟨by simp,by simpa using H2.nil aA 1 aE⟩ ?_
  rintro⟨o,j⟩ h3 ⟨hj,H3⟩
  dsimp only at hj H3⊢
  refine ak (fun e=>?_) (fun e=>?_)
  ·have hj':j<(cN (dl w)).length:=by omega
   have g1:2*j<(dl w).length:=by omega
   have g2:2*j+1<(dl w).length:=by omega
   have hw1:IntKind.wrap .i64 (((2*j:Nat):Int)+1)=((2*j+1:Nat):Int):=by rw[wrap_small _ (by omega) (by omega)];rfl
   have hA:cM (dl w)[2*j]=true:=List.all_eq_true.1 hall _ (List.getElem_mem g1)
   have hB:cM (dl w)[2*j+1]=true:=List.all_eq_true.1 hall _ (List.getElem_mem g2)
   obtain⟨a,ha⟩:∃a,a=(dl w)[2*j]:=⟨_,rfl⟩
   obtain⟨b,hb⟩:∃b,b=(dl w)[2*j+1]:=⟨_,rfl⟩
   rw[←ha]at hA;rw[←hb]at hB
   have pg:=mK (dl w) j a b (by rw[List.getElem?_eq_getElem g1,ha]) (by rw[List.getElem?_eq_getElem g2,hb])
   refine aM ?_
   rw[hw1]
   refine⟨a,⟨by omega,by rw[Int.toNat_natCast,←Array.getElem?_toList,List.getElem?_eq_getElem g1,ha]⟩,b,⟨by omega,by rw[Int.toNat_natCast,←Array.getElem?_toList,List.getElem?_eq_getElem g2,hb]⟩,?_⟩
   refine(Ak _ rfl a hA h3).mono ?_
   rintro _ h4 ⟨rfl,rfl⟩
   refine⟨_,rfl,trivial,?_⟩
   refine(Ak _ rfl b hB h4).mono ?_
   rintro _ h5 ⟨rfl,rfl⟩
   refine⟨_,rfl,trivial,?_⟩
   have la:=ng a
   have lb:=ng b
   refine H3.push ag 0 rfl eZ rfl (by decide) (fun _=>rfl) dw (UInt8.ofNat (16*(cE a).getD 0+(cE b).getD 0)) ?_ (by decide) (by simp;omega) fun o' h6 H6=>?_
   ·dsimp only
    have:IntKind.wrap .u8 (IntKind.wrap .i64 (IntKind.wrap .i64 ((((cE a).getD 0:Nat):Int)*16)+(((cE b).getD 0:Nat):Int)))=(((UInt8.ofNat (16*(cE a).getD 0+(cE b).getD 0)).toNat:Nat):Int):=by
     rw[wrap_small (_*16) (by omega) (by omega),wrap_small _ (by omega) (by omega),UInt8.toNat_ofNat']
     show _%(256:Int)=_
     omega
    rw[this];rfl
   refine⟨(o',j+1),by dsimp only;rw[wrap_small _ (by omega) (by omega)];congr 1,⟨by dsimp only;omega,?_⟩,by dsimp only;omega⟩
   dsimp only
   have:(cN (dl w))[j]=UInt8.ofNat (16*(cE a).getD 0+(cE b).getD 0):=by
    rw[List.getElem?_eq_getElem hj']at pg;exact Option.some.inj pg
   rw[aD _ _ hj',this]
   exact H6
  ·rw[List.take_of_length_le (by omega)]at H3
   exact⟨o,rfl,H3⟩
end Go.Qw
namespace Go.Qw
open Go Go.Vc Go.Proofs Wl
set_option maxRecDepth 100000
theorem uJ (n:Nat) (x:Int) (h:Heap) (hn:n≤2^30):ah Tryz.prog jY #[.int .i64 n,.int .i64 x] h fun v h'=>∃(r:Sl) (l:List UInt8),v=.slice r.ptr r.len r.cap∧l.length=n∧Sp h h' [ap aA r 1 aE l]:=by
 refine jg n x ?_
 unfold ft
 refine aF (fun t:Sl×Nat×List UInt8=>(t.1,(t.2.1:Int))) (fun t h'=>t.2.1≤n∧t.2.2.length=t.2.1∧Sp h h' [ap aA t.1 1 aE t.2.2]) (fun t=>n-t.2.1) (⟨none,0,0⟩,0,[]) rfl ⟨by simp,rfl,(Sp.refl h).nil aA 1 aE⟩ ?_
 rintro⟨o,i,l⟩ h1 ⟨hi,hl,H1⟩
 dsimp only at*
 refine ak (fun e=>?_) fun e=>?_
 ·have hi':i<n:=by omega
  refine⟨by decide,Int.tmod_nonneg _ (by omega),?_⟩
  rw[bD]
  generalize b8 (IntKind.wrap .i64 _)=c
  refine H1.push ag 0 rfl eZ rfl (by decide) (fun _=>rfl) dw c rfl (by decide) (by omega) fun o' h2 H2=>?_
  refine⟨(o',i+1,l++[c]),by dsimp only;rw[Go.Vc.wrap_small _ (by omega) (by omega)];rfl,⟨by dsimp only;omega,?_,H2⟩,by dsimp only;omega⟩
  simp[hl]
 ·exact⟨o,l,rfl,by omega,H1⟩
end Go.Qw
namespace Go.Vc
open Go Wl
abbrev Cells:=List (List UInt8)
abbrev powC (w:Pow) (l:Int):List Value:=[.bool w.off,.bool w.fuse.isSome,.int .i64 l,.int .i64 w.offs]
def pe (w:Pow) (l:Int):Prop:=∀k,w.fuse=some k→l=k∧k<2^62
def bG (t:Nat) (a:Addr) (w:Pow):HP:=HP.ex fun l:Int=>(aj a t (powC w l)).and (pe w l)
section
variable {B:al} {h0 h h':Heap} {As:List HP} {t:Nat} {a:Addr} {w:Pow}
theorem ab.nh (H:ab B h0 h (bG t a w::As)):∃l,pe w l∧ab B h0 h (aj a t (powC w l)::As):=by
 obtain⟨l,H⟩:=H.ri
 obtain⟨H,hl⟩:=H.pD
 exact⟨l,hl,H⟩
theorem ab.of {l:Int} (hl:pe w l) (H:ab B h0 h (aj a t (powC w l)::As)):ab B h0 h (bG t a w::As):=
 (H.topD hl).rS (F:=fun l:Int=>(aj a t (powC w l)).and (pe w l)) l
end
end Go.Vc
namespace Go.Qw
open Go Go.Vc Go.Proofs Wl
set_option maxRecDepth 100000
section
variable {B:al} {h0 h h':Heap} {As:List HP} {t:Nat} {a:Addr} {w:Pow}
theorem pQ (l:Int) (hb:bL h a aS (powC w l)):ah Tryz.prog nt #[.pointer (some a)] h fun v h'=>v=.bool (!w.off)∧h'=h:=by
 refine mG (some a) ?_
 unfold iM
 exact bT (fun _=>⟨a,rfl,w.off,hb.cell0 rfl,rfl,rfl⟩) fun e=>by cases e
theorem qz (l:Int) (hb:bL h a aS (powC w l)):ah Tryz.prog lQ #[.pointer (some a)] h fun v h'=>v=.int .i64 w.offs∧h'=h:=by
 refine lf (some a) ?_
 unfold gF
 exact bT (fun e=>by cases e) fun _=>⟨a,rfl,w.offs,hb.cell rfl,rfl,rfl⟩
theorem vL (h:Heap):ah Tryz.prog sg #[] h fun v h'=>∃a,v=.pointer (some a)∧Sp h h' [bG aS a Pow.new]:=by
 refine qO ?_
 unfold nG
 refine(Sp.refl h).boxed fun a h1 H1=>⟨a,rfl,ab.of (l:=0) (w:=Pow.new) (fun k e=>by cases e) H1⟩
theorem qA (H:ab B h0 h (bG aS a w::As)):ah Tryz.prog lU #[.pointer (some a)] h fun v h'=>v=.bool w.step.1∧ab B h0 h' (bG aS a w.step.2::As):=by
 obtain⟨l,hl,H1⟩:=H.nh
 refine lj (some a) ?_
 unfold gI
 refine(pQ l (H1.box 0 rfl)).mono ?_
 rintro _ h1 ⟨rfl,rfl⟩
 refine⟨_,rfl,bv (fun e=>?_) (fun e=>?_)⟩
 ·have:w.step=(false,w):=by unfold Pow.step;rw[if_pos (by simpa using e)]
  rw[this];exact⟨rfl,H⟩
 have ho:w.off=false:=by simpa using e
 refine⟨a,rfl,_,(H1.box 0 rfl).cell rfl,bv (fun e2=>?_) (fun e2=>?_)⟩
 ·have:w.step=(true,w):=by
   unfold Pow.step;rw[if_neg (by simp[ho])]
   cases hf:w.fuse with
   |none=>rfl
   |some k=>rw[hf]at e2;cases e2
  rw[this];exact⟨rfl,H⟩
 obtain⟨k,hf⟩:∃k,w.fuse=some k:=Option.isSome_iff_exists.1 e2
 obtain⟨rfl,hk⟩:=hl k hf
 have ec:powC w (k:Int)=[.bool false,.bool true,.int .i64 k,.int .i64 w.offs]:=by simp[powC,ho,hf]
 rw[ec]at H1
 refine⟨a,rfl,_,(H1.box 0 rfl).cell rfl,aT (fun e3=>?_) (fun e3=>?_)⟩
 ·have hk0:k=0:=by omega
  subst hk0
  have hs:w.step=(false,⟨true,some 0,IntKind.wrap .i64 (w.offs+1)⟩):=by unfold Pow.step;rw[if_neg (by simp[ho]),hf]
  rw[hs]
  refine⟨a,rfl,H1.vq ag 0 rfl rfl [.bool true] rfl rfl rfl (by simp) fun h2 H2=>?_⟩
  refine⟨a,rfl,w.offs,(H2.box 0 rfl).cell rfl,a,rfl,H2.store ag 0 rfl rfl 3 [.int .i64 (IntKind.wrap .i64 (w.offs+1))] rfl rfl rfl (by simp[powC]) fun h3 H3=>⟨rfl,?_⟩⟩
  refine ab.of (l:=((0:Nat):Int)) (fun k' hk'=>by cases hk';exact⟨rfl,by decide⟩) ?_
  exact H3
 ·obtain⟨j,rfl⟩:∃j,k=j+1:=⟨k-1,by omega⟩
  have hs:w.step=(true,⟨false,some j,w.offs⟩):=by unfold Pow.step;rw[if_neg (by simp[ho]),hf]
  rw[hs]
  refine⟨a,rfl,_,(H1.box 0 rfl).cell rfl,a,rfl,H1.store ag 0 rfl rfl 2 [.int .i64 (IntKind.wrap .i64 (((j+1:Nat):Int)-1))] rfl rfl rfl (by simp[powC]) fun h3 H3=>⟨rfl,?_⟩⟩
  refine ab.of (l:=(j:Int)) (fun k' hk'=>by cases hk';exact⟨rfl,by omega⟩) ?_
  rw[Go.Vc.wrap_small _ (by omega) (by omega)]at H3
  have e4:((j+1:Nat):Int)-1=(j:Int):=by omega
  rw[e4]at H3
  exact H3
end
end Go.Qw
namespace Wl
structure jA (d:bz):Prop where
 wait:d.wait≤d.l.length
 len:d.l.length≤d.room
 room:d.room≤512
 cell:∀c∈d.l,c.length=64
 laid:d.laid.length≤d.room
 cellL:∀c∈d.laid,c.length=64
section
variable {d:bz} {w:Pow} {b:List UInt8}
theorem jA.new {n:Nat} (h:n≤512):jA (bz.new n):=⟨Nat.le_refl _,Nat.zero_le _,h,by simp[bz.new],Nat.zero_le _,by simp[bz.new]⟩
end
end Wl
namespace Go.Vc
open Go Wl Go.Qw
abbrev dK (s:Sl) (l:Cells):HP:=jp bX s aA 1 aE l
def dL (t:Nat) (f:bz→Sl→Sl→List Value) (a:Addr) (d:bz):HP:=
 (HP.ex fun sb:Sl×Sl=>(aj a t (f d sb.1 sb.2)).sep ((dK sb.1 d.l).sep (dK sb.2 d.laid))).and (jA d)
section
variable {B:al} {h0 h h':Heap} {As:List HP} {t:Nat} {f:bz→Sl→Sl→List Value} {a:Addr} {d:bz}
theorem ab.xM (H:ab B h0 h (dL t f a d::As)):jA d∧∃s b:Sl,ab B h0 h (aj a t (f d s b)::dK s d.l::dK b d.laid::As):=by
 obtain⟨H,ok⟩:=H.pD
 obtain⟨sb,H⟩:=H.ri
 exact⟨ok,sb.1,sb.2,H.rT.rT.bQ 3 [2,1,0]⟩
theorem ab.pf {s b:Sl} (ok:jA d) (H:ab B h0 h (aj a t (f d s b)::dK s d.l::dK b d.laid::As)):ab B h0 h (dL t f a d::As):=
 ((((H.bQ 3 [2,1,0]).rj).rj).rS (F:=fun sb:Sl×Sl=>(aj a t (f d sb.1 sb.2)).sep ((dK sb.1 d.l).sep (dK sb.2 d.laid))) (s,b)).topD ok
end
end Go.Vc
namespace Go.Qw
open Go Go.Vc Go.Proofs Wl
set_option maxRecDepth 100000
abbrev iR (pw:Addr) (d:bz) (s b:Sl):List Value:=[.pointer (some pw),.int .i64 d.room,.slice s.ptr s.len s.cap,.int .i64 d.wait,.slice b.ptr b.len b.cap,.bool d.has,.bool d.lost]
abbrev mL (pw a:Addr) (d:bz):HP:=dL fc (iR pw) a d
section
variable {B:al} {h0 h h':Heap} {As:List HP} {a pw:Addr} {d:bz} {w:Pow}
theorem uK (n:Int) (pw:Addr) (h:Heap):ah Tryz.prog sh #[.int .i64 n,.pointer (some pw)] h fun v h'=>
  (1≤n∧n≤512→∃a,v=.pointer (some a)∧Sp h h' [mL pw a (bz.new n.toNat)])∧(¬(1≤n∧n≤512)→v=.pointer none∧Sp h h' []):=by
 refine qQ n (some pw) ?_
 unfold nH
 refine aM (ak (fun e=>⟨fun hh=>absurd hh (by omega),fun _=>⟨rfl,Sp.refl h⟩⟩) fun e1=>ak (fun e=>⟨fun hh=>absurd hh (by omega),fun _=>⟨rfl,Sp.refl h⟩⟩) fun e2=>bT (fun e=>by cases e) fun _=>?_)
 refine(Sp.refl h).boxed fun a h1 H1=>⟨fun _=>⟨a,rfl,?_⟩,fun hh=>absurd (by omega) hh⟩
 refine ab.pf (s:=⟨none,0,0⟩) (b:=⟨none,0,0⟩) (jA.new (by omega)) ?_
 have e:((n.toNat:Nat):Int)=n:=by omega
 have H2:=((H1.uv bX aA 1 aE).uv bX aA 1 aE).bQ 3 [2,1,0]
 have e2:iR pw (bz.new n.toNat) ⟨none,0,0⟩ ⟨none,0,0⟩=[.pointer (some pw),.int .i64 n,.slice none 0 0,.int .i64 0,.slice none 0 0,.bool false,.bool false]:=by
  simp only[iR,bz.new,e];rfl
 rw[e2];exact H2
theorem qB (s b:Sl) (d':bz) (H:ab B h0 h (aj a fc (iR pw d s b)::dK s d.l::dK b d.laid::bG aS pw w::As)) (ok:jA d) (hd:d'={d with laid:=[],has:=false}):
  ah Tryz.prog lV #[.pointer (some a)] h fun v h'=>v=.int .i64 0∧ab B h0 h' (mL pw a d'::bG aS pw w::As):=by
 refine lk (some a) ?_
 unfold gJ
 refine⟨a,rfl,H.store ag 0 rfl rfl 4 [.slice none 0 0] rfl rfl rfl (by simp[iR]) fun h2 H2=>?_⟩
 refine⟨a,rfl,H2.store ag 0 rfl rfl 5 [.bool false] rfl rfl rfl (by simp[iR]) fun h3 H3=>⟨rfl,?_⟩⟩
 subst hd
 refine ab.pf (s:=s) (b:=⟨none,0,0⟩) ⟨ok.wait,ok.len,ok.room,ok.cell,Nat.zero_le _,by simp⟩ ?_
 exact((H3.uv bX aA 1 aE).bQ 5 [1,2,0,4])
theorem tu (x:Sl) (row:List UInt8) (H:ab B h0 h (mL pw a d::bG aS pw w::As)) (hx:Rd h x 1 aE row) (hr:row.length≤2^20):
  ah Tryz.prog fw #[.pointer (some a),.slice x.ptr x.len x.cap] h fun v h'=>v=.int .i64 (d.append w row).1∧ab B h0 h' (mL pw a (d.append w row).2.2::bG aS pw (d.append w row).2.1::As):=by
 refine eX (some a) x ?_
 unfold dI
 have hxl:=hx.len
 obtain⟨ok,s,b,H1⟩:=H.xM
 have hb:=H1.box 0 rfl
 obtain⟨hsl,_⟩:=ab.yW (H1.bQ 4 [1])
 have hroom:=ok.room
 have hlen:=ok.len
 have hwait:=ok.wait
 have same:∀(e:Int),d.append w row=(e,w,d)→(Value.int .i64 e=.int .i64 (d.append w row).1∧ab B h0 h (mL pw a (d.append w row).2.2::bG aS pw (d.append w row).2.1::As)):=fun e he=>by
  rw[he];exact⟨rfl,H⟩
 refine aM (cA (fun e=>same 1 (by unfold bz.append;rw[if_pos (by omega)])) fun e64=>?_)
 have e64':row.length=64:=by omega
 refine aM (bT (fun e=>by cases e) fun _=>⟨a,rfl,d.lost,hb.cell rfl,bT (fun e=>same 5 ?_) fun elost=>?_⟩)
 ·unfold bz.append;rw[if_neg (by omega),if_pos e]
 refine⟨a,rfl,s,hb.cell rfl,a,rfl,(d.room:Int),hb.cell rfl,ak (fun e=>same 7 ?_) fun eroom=>?_⟩
 ·unfold bz.append;rw[if_neg (by omega),if_neg (by simp[elost]),if_pos (by omega)]
 obtain⟨l,hl,H1p⟩:=(H1.bQ 4 [3,0,1,2]).nh
 refine⟨a,rfl,some pw,hb.cell0 rfl,(pQ l (H1p.box 0 rfl)).mono ?_⟩
 rintro _ h2 ⟨rfl,rfl⟩
 refine⟨_,rfl,bv (fun e=>same 14 ?_) fun eoff=>?_⟩
 ·unfold bz.append;rw[if_neg (by omega),if_neg (by simp[elost]),if_neg (by omega),if_pos (by simpa using e)]
 have eoff':w.off=false:=by simpa using eoff
 refine aM ⟨a,rfl,s,hb.cell rfl,(tt x row h2 hx (by omega)).mono ?_⟩
 rintro _ h4 ⟨r,rfl,R4⟩
 have H4:=(H1.hJ R4).bQ 5 [2,0,1,3,4]
 have hb4:=H4.box 2 rfl
 refine⟨r,rfl,⟨hb4.cell rfl,trivial⟩,?_⟩
 have H4b:=H4
 refine H4.pB ag fD rk rfl [r] rfl (show 1*1≤2^20 by decide) rfl ⟨hb4.cell rfl,trivial⟩ ?_
 refine H4.xC ag rk (by omega) fun s' h6 H6=>⟨trivial,?_⟩
 have H6:=H6.bQ 4 [1,0,2,3]
 refine⟨a,rfl,H6.store ag 0 rfl rfl 2 [.slice s'.ptr s'.len s'.cap] rfl rfl rfl (by simp[iR]) fun h7 H7=>⟨trivial,?_⟩⟩
 have hb7:=H7.box 0 rfl
 refine⟨a,rfl,(d.wait:Int),hb7.cell rfl,a,rfl,?_⟩
 rw[Go.Vc.wrap_small ((d.wait:Int)+1) (by omega) (by omega)]
 refine H7.store ag 0 rfl rfl 3 [.int .i64 ((d.wait:Int)+1)] rfl rfl rfl (by simp[iR]) fun h8 H8=>?_
 obtain⟨d1,hd1⟩:∃d1:bz,d1={d with l:=d.l++[row],wait:=d.wait+1}:=⟨_,rfl⟩
 have ok1:jA d1:=by
  subst hd1
  refine⟨by simp;omega,by simp;omega,ok.room,fun c hc=>?_,ok.laid,ok.cellL⟩
  rcases List.mem_append.1 hc with hc|hc
  ·exact ok.cell c hc
  ·rw[List.mem_singleton.1 hc];exact e64'
 have H8':ab B h0 h8 (aj a fc (iR pw d1 s' b)::dK s' d1.l::dK b d1.laid::bG aS pw w::As):=by rw[hd1];exact H8
 refine⟨a,rfl,some pw,(H8'.box 0 rfl).cell0 rfl,(qA (H8'.bQ 4 [3,0,1,2])).mono ?_⟩
 rintro _ h9 ⟨rfl,H9⟩
 have H9:=H9.bQ 4 [1,2,3,0]
 have eres:d.append w row=if w.step.1 then(0,w.step.2,{d1 with laid:=[],has:=false})else(14,w.step.2,d1):=by
  rw[hd1];unfold bz.append;rw[if_neg (by omega),if_neg (by simp[elost]),if_neg (by omega),if_neg (by simp[eoff'])]
 rw[eres]
 refine⟨_,rfl,bv (fun e=>?_) (fun e=>?_)⟩
 ·rw[e];exact⟨rfl,H9.pf ok1⟩
 ·rw[e]
  refine(qB s' b _ H9 ok1 rfl).mono ?_
  rintro _ h10 ⟨rfl,H10⟩
  exact⟨0,rfl,rfl,H10⟩
theorem pR (x:Sl) (row:List UInt8) (h:Heap) (hx:Rd h x 1 aE row):ah Tryz.prog fw #[.pointer none,.slice x.ptr x.len x.cap] h fun v h'=>v=.int .i64 (if row.length≠64 then 1 else 5)∧h'=h:=by
 refine eX none x ?_
 unfold dI
 have hxl:=hx.len
 refine aM (cA (fun e=>⟨by rw[if_pos (by omega)],rfl⟩) fun e=>?_)
 exact aM (bT (fun _=>⟨by rw[if_neg (by omega)],rfl⟩) fun e=>by cases e)
theorem vM (H:ab B h0 h (mL pw a d::bG aS pw w::As)):
  ah Tryz.prog fW #[.pointer (some a)] h fun v h'=>v=.int .i64 (d.sync w).1∧ab B h0 h' (mL pw a (d.sync w).2.2::bG aS pw (d.sync w).2.1::As):=by
 refine fQ (some a) ?_
 unfold eC
 obtain⟨ok,s,b,H1⟩:=H.xM
 have hb:=H1.box 0 rfl
 refine aM (bT (fun e=>by cases e) fun _=>⟨a,rfl,d.lost,hb.cell rfl,bT (fun e=>?_) fun elost=>?_⟩)
 ·have:d.sync w=(5,w,d):=by unfold bz.sync;rw[if_pos e]
  rw[this];exact⟨rfl,H⟩
 refine⟨a,rfl,some pw,hb.cell0 rfl,(qA (H1.bQ 4 [3,0,1,2])).mono ?_⟩
 rintro _ h2 ⟨rfl,H2⟩
 have H2:=H2.bQ 4 [1,2,3,0]
 have eres:d.sync w=if w.step.1 then(0,w.step.2,{{d with wait:=0}with laid:=[],has:=false})else(14,w.step.2,d):=by
  unfold bz.sync;rw[if_neg (by simp[elost])]
 rw[eres]
 refine⟨_,rfl,bv (fun e=>?_) (fun e=>?_)⟩
 ·rw[e];exact⟨rfl,H2.pf ok⟩
 ·rw[e]
  refine⟨a,rfl,H2.store ag 0 rfl rfl 3 [.int .i64 0] rfl rfl rfl (by simp[iR]) fun h3 H3=>?_⟩
  refine(qB (d:={d with wait:=0}) s b _ H3 ⟨Nat.zero_le _,ok.len,ok.room,ok.cell,ok.laid,ok.cellL⟩ rfl).mono ?_
  rintro _ h4 ⟨rfl,H4⟩
  exact⟨0,rfl,rfl,H4⟩
theorem su (h:Heap):ah Tryz.prog fW #[.pointer none] h fun v h'=>v=.int .i64 5∧h'=h:=by
 refine fQ none ?_
 unfold eC
 exact aM (bT (fun _=>⟨rfl,rfl⟩) fun e=>by cases e)
end
end Go.Qw
namespace Go.Qw
open Go Go.Vc Go.Proofs Wl
set_option maxRecDepth 100000
theorem wU (b:Sl) (l:List UInt8) (h:Heap) (hb:Rd h b 1 aE l) (hs:l.length≤2^40):ah Tryz.prog uE #[.slice b.ptr b.len b.cap] h fun v h'=>v=.int .u32 (rW l).toNat∧h'=h:=by
 refine tr b ?_
 unfold qv
 have hl:=hb.len
 refine aF (fun t:Nat=>(((hO (l.take t)).toNat:Int),(t:Int))) (fun t h'=>t≤l.length∧h'=h) (fun t=>l.length-t) 0 rfl ⟨by omega,rfl⟩ ?_
 rintro i h1 ⟨hi,rfl⟩
 refine ak (fun e=>?_) (fun e=>?_)
 ·have hi':i<l.length:=by
   have e':(i:Int)<(b.len:Int):=e
   omega
  refine hb.aO i rfl hi' (l[i].toNat:Int) rfl ?_
  have e1:IntKind.wrap .u32 (l[i].toNat:Int)=((BitVec.ofNat 32 l[i].toNat).toNat:Int):=by rw[qn,BitVec.ofInt_natCast]
  rw[e1,uu]
  refine aF (fun k:Nat=>(((kl k (hO (l.take i)^^^BitVec.ofNat 32 l[i].toNat)).toNat:Int),(k:Int))) (fun k h'=>k≤8∧h'=h1) (fun k=>8-k) 0 rfl ⟨by omega,rfl⟩ ?_
  rintro k h2 ⟨hk,rfl⟩
  obtain⟨c,hc⟩:∃c,c=kl k (hO (l.take i)^^^BitVec.ofNat 32 l[i].toNat):=⟨_,rfl⟩
  dsimp only
  rw[←hc]
  refine ak (fun e2=>⟨by decide,?_⟩) (fun e2=>?_)
  ·have hstep:∀n:gA,n=oJ c→∃t':Nat,(((n.toNat:Nat):Int),IntKind.wrap .i64 ((k:Int)+1))=(((kl t' (hO (l.take i)^^^BitVec.ofNat 32 l[i].toNat)).toNat:Int),(t':Int))∧(t'≤8∧h2=h2)∧8-t'<8-k:=fun n hn=>
    ⟨k+1,by rw[Go.Vc.wrap_small _ (by omega) (by omega),hn,hc];rfl,⟨by omega,rfl⟩,by omega⟩
   have e3:IntKind.wrap .u32 ((BitVec.ofInt (IntKind.bits .u32) (c.toNat:Int)&&&BitVec.ofInt (IntKind.bits .u32) (1:Int)).toNat:Nat)=((c&&&1#32).toNat:Int):=zL c 1#32
   have e4:IntKind.wrap .u32 ((BitVec.ofInt (IntKind.bits .u32) ((c>>>1).toNat:Int)^^^BitVec.ofInt (IntKind.bits .u32) (3988292384:Int)).toNat:Nat)=(((c>>>1)^^^3988292384#32).toNat:Int):=uu (c>>>1) 3988292384#32
   rw[e3,yf,e4]
   refine aT (fun e5=>hstep _ ?_) (fun e5=>hstep _ ?_)
   ·unfold oJ;rw[if_pos ((tW c).1 e5)]
   ·unfold oJ;rw[if_neg (fun hh=>e5 ((tW c).2 hh))]
  ·have hk8:k=8:=by omega
   subst hk8
   refine⟨i+1,?_,⟨by omega,rfl⟩,by omega⟩
   rw[Go.Vc.wrap_small _ (by omega) (by omega),aD _ _ hi',ut,hc];rfl
 ·have hie:i=l.length:=by
   have e':¬(i:Int)<(b.len:Int):=e
   omega
  subst hie
  refine⟨?_,rfl⟩
  rw[List.take_length]
  exact congrArg (Value.int .u32) (uu 4294967295#32 (hO l))
theorem vN (kind:Int) (body:Sl) (l:List UInt8) (h:Heap) (hb:Rd h body 1 aE l) (hs:l.length≤2^40):ah Tryz.prog tp #[.int .i64 kind,.slice body.ptr body.len body.cap] h fun v h'=>∃r:Sl,v=.slice r.ptr r.len r.cap∧Sp h h' [ap aA r 1 aE (eG kind l)]:=by
 refine sp kind body ?_
 unfold oZ
 have hl:=hb.len
 have bad:¬(1≤kind∧kind≤255∧l.length≤55)→∃r:Sl,Value.slice none 0 0=.slice r.ptr r.len r.cap∧Sp h h [ap aA r 1 aE (eG kind l)]:=fun e=>by
  unfold eG;rw[if_neg e];exact⟨⟨none,0,0⟩,rfl,(Sp.refl h).nil aA 1 aE⟩
 refine aM (ak (fun e=>bad (by omega)) fun e1=>ak (fun e=>bad (by omega)) fun e2=>ak (fun e=>bad (by omega)) fun e3=>?_)
 refine(Sp.refl h).make ag aE eZ (by decide) 0 rfl rfl 64 64 rfl rfl (Nat.le_refl _) (by decide) fun o h2 hol hoc H2=>?_
 rw[bD]
 refine H2.lit ag aE eZ rfl [87,115,1,b8 kind] rfl (show 4*1≤2^20 by decide) rfl fun v3 h3 H3=>?_
 refine H3.rL ag 0 rfl eZ (fun _=>rfl) (H3.seq 1 rfl fun _=>rfl) dw fun _ h4 H4=>⟨⟨by decide,by rw[hol];decide⟩,?_⟩
 have H4:Sp h h4 [ap aA o 1 aE ([87,115,1,b8 kind]++List.replicate 60 0)]:=by
  have:=H4.cB [0]
  simpa using this
 refine H4.rZ ag 0 rfl eZ (fun _=>rfl) (Seq.up hb H4.au) dw 4 (by simp) rfl rfl fun _ h5 H5=>⟨⟨by decide,by rw[hoc];decide⟩,?_⟩
 have eH:([87,115,1,b8 kind]++List.replicate 60 0).take 4++(l.take (([87,115,1,b8 kind]++List.replicate 60 (0:UInt8)).length-4)++([87,115,1,b8 kind]++List.replicate 60 0).drop (4+l.length))=bV kind l++List.replicate 5 0:=by
  have h1:([87,115,1,b8 kind]++List.replicate 60 (0:UInt8)).length=64:=by simp
  rw[h1,List.take_of_length_le (l:=l) (by omega),←List.drop_drop]
  have h2:([87,115,1,b8 kind]++List.replicate 60 (0:UInt8)).drop 4=List.replicate 60 0:=rfl
  have h3:([87,115,1,b8 kind]++List.replicate 60 (0:UInt8)).take 4=[87,115,1,b8 kind]:=rfl
  rw[h2,h3,List.drop_replicate]
  unfold bV
  have h4:List.replicate (60-l.length) (0:UInt8)=List.replicate (55-l.length) 0++List.replicate 5 0:=by rw[List.replicate_append_replicate];congr 1;omega
  rw[h4];simp[List.append_assoc]
 rw[eH]at H5
 have hcl:(bV kind l).length=59:=mu (by omega)
 have hr:Rd h5 ⟨o.ptr,59,o.cap⟩ 1 aE (bV kind l):=by
  have:=(H5.seq 0 rfl fun _=>rfl).take 59 (by simp[hcl])
  rw[List.take_append_of_le_length (by omega),List.take_of_length_le (by omega)]at this
  exact this
 refine(wU ⟨o.ptr,59,o.cap⟩ (bV kind l) h5 hr (by omega)).mono ?_
 rintro _ h6 ⟨rfl,rfl⟩
 obtain⟨c,hc⟩:∃c,c=rW (bV kind l):=⟨_,rfl⟩
 rw[←hc]
 refine⟨_,rfl,?_⟩
 refine aF (fun i:Nat=>(i:Int)) (fun i h'=>i≤4∧Sp h h' [ap aA o 1 aE (bV kind l++((gP c).take i++List.replicate (5-i) 0))]) (fun i=>4-i) 0 rfl ⟨by omega,by simpa using H5⟩ ?_
 rintro i h7 ⟨hi,H7⟩
 have hl4:=rY c
 refine ak (fun e=>?_) (fun e=>?_)
 ·have hi':i<4:=by
   have e':(i:Int)<4:=e
   omega
  rw[Go.Vc.wrap_small ((8:Int)*i) (by omega) (by omega),Go.Vc.wrap_small ((59:Int)+i) (by omega) (by omega)]
  refine⟨by omega,?_⟩
  have e8:((8:Int)*(i:Int)).toNat=8*i:=by omega
  have e9:min (8*i) (IntKind.bits .u32)=8*i:=by
   have:IntKind.bits .u32=32:=rfl
   omega
  rw[e8,e9,bD]
  have hg:b8 (Int.fdiv (c.toNat:Int) (2^(8*i)))=(gP c)[i]'(by omega):=by simp[gP]
  rw[hg]
  refine H7.set ag 0 rfl (fun _=>rfl) rfl (59+i) (by omega) (by simp[hcl];omega) ((gP c)[i]'(by omega)) rfl rfl rfl fun h8 H8=>?_
  refine⟨i+1,by rw[Go.Vc.wrap_small _ (by omega) (by omega)];rfl,⟨by omega,?_⟩,by omega⟩
  have e10:(bV kind l++((gP c).take i++List.replicate (5-i) 0)).set (59+i) ((gP c)[i]'(by omega))=bV kind l++((gP c).take (i+1)++List.replicate (5-(i+1)) 0):=by
   rw[List.set_append_right _ _ (by omega),hcl,Nat.add_sub_cancel_left,List.set_append_right _ _ (by simp;omega),aD _ _ (by omega)]
   have:5-i=(5-(i+1))+1:=by omega
   rw[this,List.replicate_succ]
   simp[hl4,Nat.min_eq_left (show i≤4 by omega)]
   rw[aD _ _ (show i<(gP c).length by omega),List.append_assoc];rfl
  rw[e10]at H8
  exact H8
 ·have hie:i=4:=by
   have e':¬(i:Int)<4:=e
   omega
  subst hie
  refine H7.set ag 0 rfl (fun _=>rfl) rfl 63 rfl (by simp[hcl,hl4]) 165 rfl rfl rfl fun h8 H8=>⟨o,rfl,?_⟩
  have e11:(bV kind l++((gP c).take 4++List.replicate (5-4) 0)).set 63 165=eG kind l:=by
   unfold eG
   rw[if_pos ⟨by omega,by omega,by omega⟩,←hc,List.take_of_length_le (by omega),List.set_append_right _ _ (by omega),hcl,List.set_append_right _ _ (by simp[hl4])]
   simp[hl4]
  rw[e11]at H8
  exact H8
end Go.Qw
namespace Go.Vc
open Go Wl
abbrev uL:=ByteArray×Int×Int×Sl
abbrev cy:=Int×Int×Int×Int×Int×Int×Sl×Sl
abbrev iS (x:uL):List Value:=[.string x.1,.int .i64 x.2.1,.int .i64 x.2.2.1,.slice x.2.2.2.ptr x.2.2.2.len x.2.2.2.cap]
abbrev bI (x:cy):List Value:=[.int .i64 x.1,.int .i64 x.2.1,.int .i64 x.2.2.1,.int .i64 x.2.2.2.1,.int .i64 x.2.2.2.2.1,.int .i64 x.2.2.2.2.2.1,.slice x.2.2.2.2.2.2.1.ptr x.2.2.2.2.2.2.1.len x.2.2.2.2.2.2.1.cap,.slice x.2.2.2.2.2.2.2.ptr x.2.2.2.2.2.2.2.len x.2.2.2.2.2.2.2.cap]
abbrev og (x:cy):Value:=.agg #[.int .i64 x.1,.int .i64 x.2.1,.int .i64 x.2.2.1,.int .i64 x.2.2.2.1,.int .i64 x.2.2.2.2.1,.int .i64 x.2.2.2.2.2.1,.slice x.2.2.2.2.2.2.1.ptr x.2.2.2.2.2.2.1.len x.2.2.2.2.2.2.1.cap,.slice x.2.2.2.2.2.2.2.ptr x.2.2.2.2.2.2.2.len x.2.2.2.2.2.2.2.cap]
def vO:gz uL Wl.dM:=⟨fun h q a b=>(a.1=b.name∧a.2.1=b.object∧a.2.2.1=b.length)∧Seq h q a.2.2.2 1 ao b.tries,fun a hp=>⟨a.1,a.2.au hp⟩,fun a hq=>⟨a.1,a.2.mono hq⟩⟩
abbrev ni:gz Sl (List Wl.dM):=cW vO 4 iS
structure ip (h:Heap) (q:al) (x:cy) (m:bw):Prop where
 seq:x.1=m.seq
 next:x.2.1=m.next
 p:(x.2.2.1,x.2.2.2.1,x.2.2.2.2.1)=m.p
 extra:x.2.2.2.2.2.1=m.extra
 drives:Seq h q x.2.2.2.2.2.2.1 1 ao m.drives
 objs:ni.p h q x.2.2.2.2.2.2.2 m.objs
 dcap:x.2.2.2.2.2.2.1.len≤x.2.2.2.2.2.2.1.cap
 ocap:x.2.2.2.2.2.2.2.len≤x.2.2.2.2.2.2.2.cap
abbrev jB (h:Heap) (x:cy) (m:bw):Prop:=ip h (fun b=>b<h.size) x m
theorem ip.au {h h':Heap} {q:al} {x:cy} {m:bw} (a:ip h q x m) (hp:az q h h'):ip h' q x m:=⟨a.seq,a.next,a.p,a.extra,a.drives.au hp,ni.loc a.objs hp,a.dcap,a.ocap⟩
theorem ip.mono {h:Heap} {q q':al} {x:cy} {m:bw} (a:ip h q x m) (hq:∀b,q b→q' b):ip h q' x m:=⟨a.seq,a.next,a.p,a.extra,a.drives.mono hq,ni.mono a.objs hq,a.dcap,a.ocap⟩
theorem jB.up {h h':Heap} {x:cy} {m:bw} (a:jB h x m) (hp:az (fun b=>b<h.size) h h'):jB h' x m:=(ip.au a hp).mono fun _ hb=>Nat.lt_of_lt_of_le hb hp.1
def gW (x:cy) (m:bw):HP:=⟨fun h q=>ip h q x m,fun a hp=>a.au hp,fun a hq=>a.mono hq⟩
end Go.Vc
namespace Go.Qw
open Go Go.Vc Go.Proofs Wl
set_option maxRecDepth 100000
theorem go (n a b:Int) (h:Heap):ah Tryz.prog pM #[.int .i64 n,.int .i64 a,.int .i64 b] h fun v h'=>v=.bool (cj n a b)∧h'=h:=by
 refine pb n a b ?_
 unfold lL cj
 refine ak (fun e=>⟨?_,rfl⟩) (fun e=>⟨?_,rfl⟩)
 ·rw[decide_eq_true (show a≤n from e)];rfl
 ·rw[decide_eq_false (show¬a≤n from e)];rfl
theorem vP (s:ByteArray) (h:Heap) (hs:s.size≤2^40):ah Tryz.prog sq #[.string s] h fun v h'=>v=.bool (kU s)∧Sp h h' []:=by
 refine qT s ?_
 unfold nK
 refine yg ag ⟨_,rfl,rfl⟩ ⟨_,rfl,rfl⟩ ⟨_,rfl,rfl⟩ s fun r h1 H1=>?_
 have hr:=H1.rd 0 rfl
 have hrl:=hr.len
 have hsl:=kT s
 refine aF (fun i:Nat=>(i:Int)) (fun i h'=>i≤s.size∧h'=h1∧∀c∈(cG s).take i,eo c=true) (fun i=>s.size-i) 0 rfl ⟨by omega,rfl,by simp⟩ ?_
 rintro i h2 ⟨hi,rfl,hall⟩
 refine ak (fun e=>?_) (fun e=>?_)
 ·have hi':i<(cG s).length:=by
   have e':(i:Int)<(r.len:Int):=e
   omega
  refine hr.aO i rfl hi' ((cG s)[i].toNat:Int) rfl ?_
  obtain⟨c,hc⟩:∃c,c=(cG s)[i]:=⟨_,rfl⟩
  rw[←hc]
  have good:eo c=true→∃t':Nat,IntKind.wrap .i64 ((i:Int)+1)=(t':Int)∧(t'≤s.size∧h2=h2∧∀c∈(cG s).take t',eo c=true)∧s.size-t'<s.size-i:=fun hg=>
   ⟨i+1,by rw[Go.Vc.wrap_small _ (by omega) (by omega)];rfl,⟨by omega,rfl,fun x hx=>by
    rw[aD _ _ hi']at hx
    rcases List.mem_append.1 hx with hx|hx
    ·exact hall x hx
    ·rw[List.mem_singleton.1 hx,←hc];exact hg⟩,by omega⟩
  have bad:eo c=false→Value.bool false=.bool (kU s)∧Sp h h2 []:=fun hg=>by
   refine⟨?_,H1.cB []⟩
   unfold kU
   have:s.data.toList.all eo=false:=List.all_eq_false.2 ⟨c,by rw[hc];exact List.getElem_mem hi',by rw[hg];simp⟩
   rw[this];rfl
  have hch:eo c=true↔((97≤(c.toNat:Int)∧(c.toNat:Int)≤122)∨(48≤(c.toNat:Int)∧(c.toNat:Int)≤57)∨(c.toNat:Int)=45):=by
   unfold eo;simp[or_assoc];omega
  have hno:eo c=false↔¬((97≤(c.toNat:Int)∧(c.toNat:Int)≤122)∨(48≤(c.toNat:Int)∧(c.toNat:Int)≤57)∨(c.toNat:Int)=45):=by
   rw[←hch];cases eo c<;>simp
  refine ak (fun e1=>ak (fun e2=>cA (fun e3=>bad (hno.2 (by omega))) fun e3=>good (hch.2 (by omega))) fun e2=>ak (fun e3=>cA (fun e4=>bad (hno.2 (by omega))) fun e4=>good (hch.2 (by omega))) fun e3=>good (hch.2 (by omega))) fun e1=>ak (fun e2=>ak (fun e3=>cA (fun e4=>bad (hno.2 (by omega))) fun e4=>good (hch.2 (by omega))) fun e3=>ak (fun e4=>cA (fun e5=>bad (hno.2 (by omega))) fun e5=>good (hch.2 (by omega))) fun e4=>good (hch.2 (by omega))) fun e2=>good (hch.2 (by omega))
 ·have e':¬(i:Int)<(r.len:Int):=e
  rw[List.take_of_length_le (by omega)]at hall
  have hA:s.data.toList.all eo=true:=List.all_eq_true.2 hall
  refine ak (fun e1=>⟨?_,H1.cB []⟩) (fun e1=>⟨?_,H1.cB []⟩)
  ·unfold kU
   rw[hA,decide_eq_true (show 1≤s.size by omega)]
   congr 1;simp;omega
  ·unfold kU
   rw[hA,decide_eq_false (show¬1≤s.size by omega)];rfl
theorem vQ (s:Sl) (l:List Int) (most:Int) (h:Heap) (hs:Rd h s 1 ao l) (hl:l.length≤2^40):ah Tryz.prog sr #[.slice s.ptr s.len s.cap,.int .i64 most] h fun v h'=>v=.bool (nf l most)∧h'=h:=by
 refine qU s most ?_
 unfold nL
 have hsl:=hs.len
 refine aF (fun i:Nat=>(i:Int)) (fun i h'=>i≤l.length∧h'=h∧∀j,j<i→dO l most j=true) (fun i=>l.length-i) 0 rfl ⟨by omega,rfl,by omega⟩ ?_
 rintro i h1 ⟨hi,rfl,hall⟩
 refine ak (fun e=>?_) (fun e=>?_)
 ·have hi':i<l.length:=by
   have e':(i:Int)<(s.len:Int):=e
   omega
  refine hs.aO i rfl hi' l[i] rfl ?_
  have hg:l.getD i 0=l[i]:=getD_lt hi'
  have bad:dO l most i=false→Value.bool false=.bool (nf l most)∧h1=h1:=fun hb=>⟨by unfold nf;rw[mw hi' hb],rfl⟩
  have good:dO l most i=true→∃t':Nat,IntKind.wrap .i64 ((i:Int)+1)=(t':Int)∧(t'≤l.length∧h1=h1∧∀j,j<t'→dO l most j=true)∧l.length-t'<l.length-i:=fun hb=>
   ⟨i+1,by rw[Go.Vc.wrap_small _ (by omega) (by omega)];rfl,⟨by omega,rfl,fun j hj=>by
    by_cases hji:j=i
    ·rw[hji];exact hb
    ·exact hall j (by omega)⟩,by omega⟩
  refine(go l[i] 0 most h1).mono ?_
  rintro _ _ ⟨rfl,rfl⟩
  refine⟨_,rfl,bv (fun e1=>bad (by unfold dO;rw[hg,e1];rfl)) fun e1=>ak (fun e2=>?_) fun e2=>good (by unfold dO;rw[hg,e1,decide_eq_true (show i=0 by omega)];rfl)⟩
  rw[Go.Vc.wrap_small ((i:Int)-1) (by omega) (by omega)]
  refine hs.aO (i-1) (by omega) (by omega) (l[i-1]'(by omega)) rfl ?_
  have hg1:l.getD (i-1) 0=l[i-1]'(by omega):=getD_lt (by omega)
  refine ak (fun e3=>bad ?_) (fun e3=>good ?_)
  ·unfold dO;rw[hg,hg1,e1,decide_eq_false (show¬i=0 by omega),decide_eq_false (by omega)];rfl
  ·unfold dO;rw[hg,hg1,e1,decide_eq_true (show l[i-1]'(by omega)<l[i]by omega)];simp
 ·have e':¬(i:Int)<(s.len:Int):=e
  exact⟨by unfold nf;rw[lC fun j hj=>hall j (by omega)],rfl⟩
theorem uM (p:Pm) (n:Int) (h:Heap) (hn:n≤2^40):ah Tryz.prog pI #[jy p,.int .i64 n] h fun v h'=>v=.int .i64 (countP p n)∧Sp h h' []:=by
 refine oW p n ?_
 unfold lI
 refine(Sp.refl h).boxed fun a1 h1 H1=>?_
 refine aM ⟨p,(H1.box 0 rfl).bh _ rfl,(iQ p h1).mono ?_⟩
 rintro _ h2 ⟨rfl,R2⟩
 have H2:=H1.up R2.au
 refine⟨_,rfl,bv (fun e=>⟨?_,H2.cB []⟩) fun hm=>ak (fun e=>⟨?_,H2.cB []⟩) fun e=>?_⟩
 ·unfold countP;rw[e];rfl
 ·unfold countP;rw[decide_eq_false (show¬0<n by omega),Bool.and_false];rfl
 ·have hmp:=(kP p).1 hm
  refine⟨p,(H2.box 0 rfl).bh _ rfl,?_⟩
  refine(pL p (R:=fun v h'=>v=.int .i64 (p.1*p.2.2)∧Sp h h' []) ?_).mono ?_
  ·unfold mH
   refine H2.boxed fun a2 h3 H3=>⟨p.1,(H3.box 1 rfl).cell0 rfl,p.2.2,(H3.box 1 rfl).cell rfl,?_,H3.cB []⟩
   have hk:p.1*p.2.2≤16*24:=Int.mul_le_mul (by omega) (by omega) (by omega) (by omega)
   have hk0:0≤p.1*p.2.2:=Int.mul_nonneg (by omega) (by omega)
   rw[Go.Vc.wrap_small _ (by omega) (by omega)]
  ·rintro _ h3 ⟨rfl,R3⟩
   have hk0:0<p.1*p.2.2:=Int.mul_pos (by omega) (by omega)
   refine⟨_,rfl,Int.ne_of_gt hk0,?_,R3⟩
   have h1:(n-1)/(p.1*p.2.2)≤n-1:=Int.ediv_le_self _ (by omega)
   have h2:0≤(n-1)/(p.1*p.2.2):=Int.ediv_nonneg (by omega) (by omega)
   rw[Go.Vc.wrap_small (n-1) (by omega) (by omega),Int.tdiv_eq_ediv_of_nonneg (by omega),Go.Vc.wrap_small ((n-1)/(p.1*p.2.2)) (by omega) (by omega),Go.Vc.wrap_small _ (by omega) (by omega)]
   unfold countP
   rw[hm,decide_eq_true (show 0<n by omega)];rfl
theorem tv (s:Sl) (l:List Int) (h:Heap) (hs:Rd h s 1 ao l) (hl:l.length≤2^40):ah Tryz.prog fP #[.slice s.ptr s.len s.cap,.func (.func fR) #[] #[]] h fun v h'=>v=.bool (!l.all (cj · 0 15))∧h'=h:=by
 refine fz s (fR,#[],#[]) ?_
 unfold dp
 have hsl:=hs.len
 refine(gm s (fR,#[],#[]) (R:=fun v h'=>(∃i:Int,v=.int .i64 i∧(decide (i≥0)=!l.all (cj · 0 15)))∧h'=h) ?_).mono ?_
 ·unfold dT
  refine aF (fun i:Nat=>(i:Int)) (fun i h'=>i≤l.length∧(l.take i).all (cj · 0 15)=true∧h'=h) (fun i=>l.length-i) 0 rfl ⟨by omega,by simp,rfl⟩ ?_
  rintro i h1 ⟨hi,hall,rfl⟩
  refine ak (fun e=>?_) (fun e=>?_)
  ·have hi':i<l.length:=by
    have e':(i:Int)<(s.len:Int):=e
    omega
   refine hs.aO i rfl hi' l[i] rfl (oE (by rfl) ?_)
   refine(oe l[i] (R:=fun v h'=>v=.bool (!cj l[i] 0 15)∧h'=h1) ?_).mono ?_
   ·unfold kA
    refine(go l[i] 0 15 h1).mono ?_
    rintro _ _ ⟨rfl,rfl⟩
    exact⟨_,rfl,rfl,rfl⟩
   ·rintro _ _ ⟨rfl,rfl⟩
    refine⟨_,rfl,bv (fun e2=>?_) (fun e2=>?_)⟩
    ·refine⟨⟨i,rfl,?_⟩,rfl⟩
     rw[decide_eq_true (show(i:Int)≥0 by omega)]
     have:l.all (cj · 0 15)=false:=List.all_eq_false.2 ⟨_,List.getElem_mem hi',by rw[e2];simp⟩
     rw[this];rfl
    ·refine⟨i+1,by rw[Go.Vc.wrap_small _ (by omega) (by omega)];rfl,⟨by omega,?_,rfl⟩,by omega⟩
     rw[aD _ _ hi',List.all_append,hall];simp[e2]
  ·have e':¬(i:Int)<(s.len:Int):=e
   refine⟨⟨-1,rfl,?_⟩,rfl⟩
   rw[List.take_of_length_le (by omega)]at hall
   rw[hall];rfl
 ·rintro _ h1 ⟨⟨i,rfl,hi⟩,rfl⟩
  exact⟨i,rfl,by rw[hi],rfl⟩
end Go.Qw
namespace Wl
structure jC (m:bw):Prop where
 dr:m.drives.length≤2^30
 ob:m.objs.length≤2^30
 nm:∀e∈m.objs,e.name.size≤2^30∧e.tries.length≤2^30
end Wl
namespace Go.Vc
open Go
theorem addr_add (a:Addr) (i j:Nat):(a.add i).add j=a.add (i+j):=by
 unfold Addr.add
 by_cases hi:i=0<;>by_cases hj:j=0<;>simp[hi,hj,Nat.add_assoc]
theorem bL.sv {h:Heap} {a:Addr} {e:TypeId} {cs:List Value} {v:Value} (hb:bL h a e cs) (i j:Nat) (hv:cs[i+j]?=some v):cellOf h ((a.add i).add j)=some v:=by
 rw[addr_add];exact hb.cell hv
theorem bL.xN {h:Heap} {a:Addr} {e:TypeId} {cs:List Value} {u v w:Value} (hb:bL h a e cs) (i:Nat) (h0:cs[i]?=some u) (h1:cs[i+1]?=some v) (h2:cs[i+2]?=some w):ai h (a.add i) 0 [u,v,w]:=
 ⟨hb.sv i 0 h0,hb.sv i 1 h1,hb.sv i 2 h2,trivial⟩
end Go.Vc
namespace Go.Qw
open Go Go.Vc Go.Proofs Wl
set_option maxRecDepth 100000
theorem uN (x:cy) (m:bw) (e:uL) (E:Wl.dM) (h:Heap) (hx:jB h x m) (he:xy vO h e E) (hh:fF m=true) (hn:E.name.size≤2^30) (ht:E.tries.length≤2^30):
  ah Tryz.prog qV #[og x,.agg #[.string e.1,.int .i64 e.2.1,.int .i64 e.2.2.1,.slice e.2.2.2.ptr e.2.2.2.len e.2.2.2.cap]] h fun v h'=>v=.bool (dP m E)∧Sp h h' []:=by
 refine pN x e ?_
 unfold mI
 obtain⟨_,hnx,hmay,_⟩:=sa hh
 have hmp:=(kP m.p).1 hmay
 obtain⟨⟨e1,e2,e3⟩,e4⟩:=he
 have hp1:x.2.2.1=m.p.1:=congrArg (·.1) hx.p
 have hp2:x.2.2.2.1=m.p.2.1:=congrArg (·.2.1) hx.p
 have hp3:x.2.2.2.2.1=m.p.2.2:=congrArg (·.2.2) hx.p
 have hk:m.p.1*m.p.2.2≤16*24:=Int.mul_le_mul (by omega) (by omega) (by omega) (by omega)
 have hk0:0≤m.p.1*m.p.2.2:=Int.mul_nonneg (by omega) (by omega)
 refine(Sp.refl h).boxed fun a1 h1 H1=>?_
 refine H1.boxed fun a2 h2 H2=>?_
 have no:∀{h':Heap} {As:List HP},Sp h h' As→dP m E=false→Value.bool false=.bool (dP m E)∧Sp h h' []:=fun{h' As} H' hb=>⟨by rw[hb],.zip H'.au⟩
 refine aM ⟨E.name,by rw[←e1];exact(H2.box 1 rfl).cell0 rfl,(vP E.name h2 (by omega)).mono ?_⟩
 rintro _ h3 ⟨rfl,R3⟩
 have H3:=H2.up R3.au
 refine⟨_,rfl,bv (fun b=>no H3 (by unfold dP;rw[b];rfl)) fun b1=>?_⟩
 refine⟨E.object,by rw[←e2];exact(H3.box 1 rfl).cell rfl,m.next,by rw[←hx.next];exact(H3.box 0 rfl).cell rfl,?_⟩
 rw[Go.Vc.wrap_small (m.next-1) (by omega) (by omega)]
 refine(go E.object 0 (m.next-1) h3).mono ?_
 rintro _ _ ⟨rfl,rfl⟩
 refine⟨_,rfl,bv (fun b=>no H3 (by unfold dP;rw[b1,b];rfl)) fun b2=>?_⟩
 have hb:=H3.box 0 rfl
 refine⟨E.length,by rw[←e3];exact(H3.box 1 rfl).cell rfl,m.p.1,by rw[←hp1];exact hb.cell rfl,m.p.2.2,by rw[←hp3];exact hb.sv 2 2 rfl,?_⟩
 rw[Go.Vc.wrap_small (m.p.1*m.p.2.2) (by omega) (by omega),Go.Vc.wrap_small (m.p.1*m.p.2.2*8) (by omega) (by omega)]
 refine(go E.length 0 (m.p.1*m.p.2.2*8) _).mono ?_
 rintro _ _ ⟨rfl,rfl⟩
 refine⟨_,rfl,bv (fun b=>no H3 (by unfold dP;rw[b1,b2,b];rfl)) fun b3=>?_⟩
 have hlen:0≤E.length∧E.length≤m.p.1*m.p.2.2*8:=by unfold cj at b3;simpa using b3
 refine⟨e.2.2.2,(H3.box 1 rfl).cell rfl,?_⟩
 refine(tv e.2.2.2 E.tries _ (Seq.up e4 H3.au) (by omega)).mono ?_
 rintro _ _ ⟨rfl,rfl⟩
 refine⟨_,rfl,bv (fun b=>?_) (fun b=>⟨trivial,no H3 ?_⟩)⟩
 ·have b4:E.tries.all (cj · 0 15)=true:=by simpa using b
  refine⟨e.2.2.2,(H3.box 1 rfl).cell rfl,m.p,?_,E.length,by rw[←e3];exact(H3.box 1 rfl).cell rfl,?_⟩
  ·rw[←hp1,←hp2,←hp3]
   exact hb.xN 2 rfl rfl rfl
  ·refine(uM m.p E.length _ (by omega)).mono ?_
   rintro _ h4 ⟨rfl,R4⟩
   have H4:=H3.up R4.au
   refine⟨_,rfl,⟨(H4.box 1 rfl).cell rfl,trivial⟩,?_,.zip H4.au⟩
   unfold dP
   have el:=e4.len
   rw[b1,b2,b3,b4,el]
   simp
   rfl
 ·have b4:E.tries.all (cj · 0 15)=false:=by simpa using b
  unfold dP;rw[b1,b2,b3,b4];rfl
theorem tw (a:Addr) (e:uL) (l:Sl) (ents:List Wl.dM) (h:Heap) (hb:bL h a gu (iS e)) (hl:xy ni h l ents) (hs:ents.length≤2^30):
  ah Tryz.prog dC #[.slice l.ptr l.len l.cap,.func (.func gV) #[] #[.pointer (some a)]] h fun v h'=>v=.bool (ents.any fun y=>decide (y.object=e.2.1))∧Sp h h' []:=by
 refine dq l (gV,#[],#[.pointer (some a)]) ?_
 unfold bS
 refine(dJ l (gV,#[],#[.pointer (some a)]) (R:=fun v h'=>(∃i:Int,v=.int .i64 i∧(decide (i≥0)=ents.any fun y=>decide (y.object=e.2.1)))∧Sp h h' []) ?_).mono ?_
 ·unfold ck
  obtain⟨ys,q1,q2,q3⟩:=cW.zK hl
  have hll:=cW.len hl
  refine aF (fun i:Nat=>(i:Int)) (fun i h'=>i≤ents.length∧(ents.take i).any (fun y=>decide (y.object=e.2.1))=false∧Sp h h' []) (fun i=>ents.length-i) 0 rfl ⟨by omega,by simp,Sp.refl h⟩ ?_
  rintro i h1 ⟨hi,hall,H1⟩
  refine ak (fun e1=>?_) (fun e1=>?_)
  ·have hi':i<ents.length:=by
    have e':(i:Int)<(l.len:Int):=e1
    omega
   obtain⟨⟨_,y2,_⟩,_⟩:=q3 i (by omega) hi'
   refine(Seq.up q1 H1.au).rF (g:=iS) i rfl (by omega) (ys[i]'(by omega)) rfl (oE (by rfl) ?_)
   refine(pO (ys[i]'(by omega)) a (R:=fun v h'=>v=.bool (ents[i].object==e.2.1)∧Sp h1 h' []) ?_).mono ?_
   ·unfold mJ
    refine(Sp.refl h1).boxed fun a2 h2 H2=>?_
    have hb2:=hb.au (up H1.au H2.au) hb.lt
    exact⟨ents[i].object,by rw[←y2];exact(H2.box 0 rfl).cell rfl,e.2.1,hb2.cell rfl,rfl,.zip H2.au⟩
   ·rintro _ h2 ⟨rfl,R2⟩
    have H2:=H1.up R2.au
    refine⟨_,rfl,aT (fun e2=>?_) (fun e2=>?_)⟩
    ·refine⟨⟨i,rfl,?_⟩,H2⟩
     rw[decide_eq_true (show(i:Int)≥0 by omega)]
     exact(List.any_eq_true.2 ⟨_,List.getElem_mem hi',by simpa using e2⟩).symm
    ·refine⟨i+1,by rw[Go.Vc.wrap_small _ (by omega) (by omega)];rfl,⟨by omega,?_,H2⟩,by omega⟩
     rw[aD _ _ hi',List.any_append,hall];simpa using e2
  ·have e':¬(i:Int)<(l.len:Int):=e1
   refine⟨⟨-1,rfl,?_⟩,H1⟩
   rw[List.take_of_length_le (by omega)]at hall
   rw[hall];rfl
 ·rintro _ h1 ⟨⟨i,rfl,hi⟩,R1⟩
  exact⟨i,rfl,by rw[hi],R1⟩
theorem wV (x:cy) (m:bw) (h:Heap) (hx:jB h x m) (hz:jC m):ah Tryz.prog tn #[og x] h fun v h'=>v=.bool (cX m)∧Sp h h' []:=by
 refine so x ?_
 unfold oX
 refine(Sp.refl h).boxed fun a1 h1 H1=>?_
 have hb:=H1.box 0 rfl
 have hp1:x.2.2.1=m.p.1:=congrArg (·.1) hx.p
 have hp2:x.2.2.2.1=m.p.2.1:=congrArg (·.2.1) hx.p
 have hp3:x.2.2.2.2.1=m.p.2.2:=congrArg (·.2.2) hx.p
 have no:∀{h':Heap} {As:List HP},Sp h h' As→cX m=false→Value.bool false=.bool (cX m)∧Sp h h' []:=fun{h' As} H' hb=>⟨by rw[hb],.zip H'.au⟩
 refine aM ⟨m.seq,by rw[←hx.seq];exact hb.cell0 rfl,(go m.seq 1 2147483647 h1).mono ?_⟩
 rintro _ _ ⟨rfl,rfl⟩
 refine⟨_,rfl,bv (fun b=>no H1 (by unfold cX fF;rw[b];rfl)) fun b1=>?_⟩
 refine⟨m.next,by rw[←hx.next];exact hb.cell rfl,(go m.next 0 16777216 _).mono ?_⟩
 rintro _ _ ⟨rfl,rfl⟩
 refine⟨_,rfl,bv (fun b=>no H1 (by unfold cX fF;rw[b1,b];rfl)) fun b2=>?_⟩
 refine⟨m.p,by rw[←hp1,←hp2,←hp3];exact hb.xN 2 rfl rfl rfl,(iQ m.p _).mono ?_⟩
 rintro _ h2 ⟨rfl,R2⟩
 have H2:=H1.up R2.au
 refine⟨_,rfl,bv (fun b=>no H2 (by unfold cX fF;rw[b1,b2,b];rfl)) fun b3=>?_⟩
 refine⟨m.extra,by rw[←hx.extra];exact(H2.box 0 rfl).cell rfl,(go m.extra 0 16 _).mono ?_⟩
 rintro _ _ ⟨rfl,rfl⟩
 refine⟨_,rfl,bv (fun b=>no H2 (by unfold cX fF;rw[b1,b2,b3,b];rfl)) fun b4=>?_⟩
 have hh:fF m=true:=by unfold fF;rw[b1,b2,b3,b4];rfl
 have hx2:=hx.up H2.au
 have hb2:=H2.box 0 rfl
 have hdl:=hz.dr
 have hol:=hz.ob
 refine aM ⟨_,hb2.cell rfl,(vQ _ m.drives 63 _ hx2.drives (by omega)).mono ?_⟩
 rintro _ _ ⟨rfl,rfl⟩
 refine⟨_,rfl,bv (fun b=>no H2 (by unfold cX;rw[hh,b];rfl)) fun b5=>?_⟩
 have hlen:=cW.len hx.objs
 refine⟨x.2.2.2.2.2.2.2,hb2.cell rfl,ak (fun e=>no H2 ?_) fun e12=>?_⟩
 ·unfold cX;rw[hh,b5,decide_eq_false (by omega)];rfl
 have h12:m.objs.length≤12:=by omega
 refine⟨x.2.2.2.2.2.2.2,hb2.cell rfl,?_⟩
 obtain⟨ys,F0⟩:=cW.fix hx.objs
 have hyl:=F0.2.1
 refine aF (fun i:Nat=>(i:Int)) (fun i h'=>i≤m.objs.length∧(∀j,j<i→jq m j=true)∧Sp h h' [aj a1 bM (bI x)]) (fun i=>m.objs.length-i) 0 rfl ⟨by omega,by omega,H2⟩ ?_
 rintro i h3 ⟨hi,hall,H3⟩
 refine ak (fun e=>?_) (fun e=>?_)
 ·have hi':i<m.objs.length:=by
   have e':(i:Int)<(x.2.2.2.2.2.2.2.len:Int):=e
   omega
  have hz1:=hz.nm _ (List.getElem_mem hi')
  have hat:gr m.objs i=m.objs[i]:=nU hi'
  have bad:∀{h':Heap} {As:List HP},Sp h h' As→jq m i=false→Value.bool false=.bool (cX m)∧Sp h h' []:=fun{h' As} H' hb=>no H' (by unfold cX;rw[mw hi' hb];simp)
  have F3:=lB.up F0 H3.au
  refine F3.1.rF (g:=iS) i rfl (by omega) (ys[i]'(by omega)) rfl ?_
  refine H3.alloc ag rfl fun a19 h4 H4=>?_
  refine H4.storeAll ag 1 rfl rfl (iS (ys[i]'(by omega))) rfl rfl rfl rfl fun h5 H5=>?_
  have H5:Sp h h5 [aj a1 bM (bI x),aj a19 gu (iS (ys[i]'(by omega)))]:=H5
  have F5:=lB.up F0 H5.au
  obtain⟨⟨y1,y2,y3⟩,y4⟩:=Fix.row F5 hi'
  obtain⟨b6,hb6⟩:∃b,b=(decide (i=0)||oK (gr m.objs (i-1)).name (gr m.objs i).name):=⟨_,rfl⟩
  refine bA (fun _ h'=>dP m m.objs[i]=true∧b6=true∧Sp h h' [aj a1 bM (bI x),aj a19 gu (iS (ys[i]'(by omega)))]) ?_ ?_
  ·refine⟨x,(H5.box 0 rfl).bh _ rfl,ys[i]'(by omega),(H5.box 1 rfl).bh _ rfl,?_⟩
   refine(uN x m (ys[i]'(by omega)) m.objs[i] h5 (hx.up H5.au) (Fix.row F5 hi') hh hz1.1 hz1.2).mono ?_
   rintro _ h6 ⟨rfl,R6⟩
   have H6:=H5.up R6.au
   have F6:=lB.up F0 H6.au
   refine⟨_,rfl,trivial,bv (fun b=>bad H6 (by unfold jq;rw[hat,b];rfl)) fun b=>ak (fun e2=>?_) fun e2=>⟨b,by rw[hb6,decide_eq_true (show i=0 by omega)];rfl,H6⟩⟩
   rw[Go.Vc.wrap_small ((i:Int)-1) (by omega) (by omega)]
   obtain⟨a24,ha,zz,hc,rfl⟩:=F6.1.rF (g:=iS) (i:=(i:Int)-1) (i-1) (by omega) (by omega) (ys[i-1]'(by omega)) rfl (K:=fun t=>t=ys[i-1]'(by omega)) rfl
   refine⟨x.2.2.2.2.2.2.2,(H6.box 0 rfl).cell rfl,a24,ha,m.objs[i-1].name,?_,m.objs[i].name,?_,?_⟩
   ·rw[←(Fix.row F6 (show i-1<m.objs.length by omega)).1.1];exact hc.1
   ·rw[←y1];exact(H6.box 1 rfl).cell0 rfl
   ·have hat1:gr m.objs (i-1)=m.objs[i-1]:=nU (by omega)
    rw[hat,hat1]at hb6
    refine bv (fun e3=>bad H6 ?_) (fun e3=>⟨b,?_,H6⟩)
    ·unfold jq
     rw[hat,hat1,b,decide_eq_false (show¬i=0 by omega)]
     unfold oK;rw[e3];rfl
    ·rw[hb6];unfold oK;rw[e3];simp
  ·rintro _ h6 ⟨b,b6t,H6⟩
   have F6:=lB.up F0 H6.au
   refine⟨x.2.2.2.2.2.2.2,(H6.box 0 rfl).cell rfl,⟨by omega,by have:=hx.ocap;omega⟩,?_⟩
   rw[Int.toNat_natCast]
   refine(tw a19 (ys[i]'(by omega)) ⟨x.2.2.2.2.2.2.2.ptr,i,x.2.2.2.2.2.2.2.cap⟩ (m.objs.take i) h6 (H6.box 1 rfl) (cW.take F6.AB i (by omega)) (by simp;omega)).mono ?_
   rintro _ h7 ⟨rfl,R7⟩
   have H7:=H6.up R7.au
   rw[y2]
   refine⟨_,rfl,bT (fun e3=>bad H7 ?_) fun e3=>?_⟩
   ·unfold jq;rw[hat,e3];simp
   ·refine⟨i+1,by rw[Go.Vc.wrap_small _ (by omega) (by omega)];rfl,⟨by omega,fun j hj=>?_,H7.cB [0]⟩,by omega⟩
    by_cases hji:j=i
    ·subst hji
     rw[b6t]at hb6
     unfold jq;rw[←hb6,hat,b,e3];rfl
    ·exact hall j (by omega)
 ·have e':¬(i:Int)<(x.2.2.2.2.2.2.2.len:Int):=e
  refine⟨?_,.zip H3.au⟩
  unfold cX
  rw[hh,b5,decide_eq_true h12,lC fun j hj=>hall j (by omega)];rfl
end Go.Qw
namespace Go.Qw
open Go Go.Vc Go.Proofs Wl
set_option maxRecDepth 100000
section
variable {B:al} {h0 h:Heap} {As:List HP}
theorem gv (s:Sl) (l:List UInt8) (n:Int) (k:Nat) (hk:k≤4) (hl:l.length≤2^20) (H:ab B h0 h (ap aA s 1 aE l::As)):
  ah Tryz.prog pK #[.slice s.ptr s.len s.cap,.int .i64 n,.int .i64 k] h fun v h'=>∃s':Sl,v=.slice s'.ptr s'.len s'.cap∧ab B h0 h' (ap aA s' 1 aE (l++cC n k)::As):=by
 refine pa s n k ?_
 unfold lK
 have hbl:=cw n k
 refine aF (fun t:Sl×Nat=>(t.1,(k:Int)-1-t.2)) (fun t h'=>t.2≤k∧ab B h0 h' (ap aA t.1 1 aE (l++(cC n k).take t.2)::As)) (fun t=>k-t.2) (s,0) (by rw[Go.Vc.wrap_small _ (by omega) (by omega)];simp) ⟨by simp,by simpa using H⟩ ?_
 rintro⟨o,j⟩ h1 ⟨hj,H1⟩
 dsimp only at*
 refine ak (fun e=>?_) (fun e=>?_)
 ·have hj':j<k:=by omega
  rw[Go.Vc.wrap_small ((8:Int)*((k:Int)-1-j)) (by omega) (by omega)]
  refine⟨by omega,?_⟩
  have e8:((8:Int)*((k:Int)-1-j)).toNat=8*(k-1-j):=by omega
  have e9:min (8*(k-1-j)) (IntKind.bits .i64)=8*(k-1-j):=by
   have:IntKind.bits .i64=64:=rfl
   omega
  rw[e8,e9,bD]
  have hg:b8 (Int.fdiv n (2^(8*(k-1-j))))=(cC n k)[j]'(by omega):=by simp[cC]
  rw[hg]
  refine H1.push ag 0 rfl eZ rfl (by decide) (fun _=>rfl) dw ((cC n k)[j]'(by omega)) rfl (by decide) (by simp;omega) fun o' h2 H2=>?_
  refine⟨(o',j+1),by dsimp only;rw[Go.Vc.wrap_small _ (by omega) (by omega)];congr 1;omega,⟨by dsimp only;omega,?_⟩,by dsimp only;omega⟩
  dsimp only
  rw[aD _ _ (show j<(cC n k).length by omega),←List.append_assoc]
  exact H2
 ·rw[List.take_of_length_le (by omega)]at H1
  exact⟨o,rfl,H1⟩
theorem ph (src:Sl) (l:List Int) (o:Sl) (acc:List UInt8) (H:ab B h0 h (ap aA o 1 aE acc::As)) (hS:St B h0 As fun h=>Rd h src 1 ao l) (ha:acc.length≤2^30) (hl:l.length≤2^30) {K:Sl×Int→Heap→Prop}
  (hk:∀o' h',ab B h0 h' (ap aA o' 1 aE (acc++l.map b8)::As)→K (o',(l.length:Int)) h'):
  aR (σ:=Sl×Int) (fun s17 K2 h8=>
 Br (decide (s17.2<((src.len:Nat):Int)))
 (∃a18:Addr,(src.ptr=some a18∧0≤s17.2∧s17.2<((src.len:Nat):Int))∧
 ∃x19:Int,cellOf h8 (a18.add (s17.2.toNat*1))=some (.int .i64 x19)∧
 an Tryz.prog (Instr.buildSlice bX 1 #[(0,(.int .u8 (IntKind.wrap .u8 x19)))]) (.one (.sc .slc)) h8 fun v20 h9=>
 an Tryz.prog (Builtin.append_ #[bX,bX] bX #[(.slice s17.1.ptr s17.1.len s17.1.cap),(.slice v20.ptr v20.len v20.cap)]) (.one (.sc .slc)) h9 fun v21 h10=>
 K2 ((⟨v21.ptr,v21.len,v21.cap⟩:Sl),IntKind.wrap .i64 (s17.2+(1:Int))) h10)
 (K s17 h8)) (o,(0:Int)) h:=by
 have hsl:src.len=l.length:=(hS.at [_] H).len
 refine aF (fun t:Sl×Nat=>(t.1,(t.2:Int))) (fun t h'=>t.2≤l.length∧ab B h0 h' (ap aA t.1 1 aE (acc++(l.take t.2).map b8)::As)) (fun t=>l.length-t.2) (o,0) rfl ⟨by simp,by simpa using H⟩ ?_
 rintro⟨u,i⟩ h1 ⟨hi,H1⟩
 dsimp only at*
 refine ak (fun e=>?_) (fun e=>?_)
 ·have hi':i<l.length:=by omega
  refine(hS.at [_] H1).aO i rfl hi' l[i] rfl ?_
  rw[bD]
  refine H1.push ag 0 rfl eZ rfl (by decide) (fun _=>rfl) dw (b8 l[i]) rfl (by decide) (by simp;omega) fun u' h2 H2=>?_
  refine⟨(u',i+1),by dsimp only;rw[Go.Vc.wrap_small _ (by omega) (by omega)];rfl,⟨by dsimp only;omega,?_⟩,by dsimp only;omega⟩
  dsimp only
  rw[aD _ _ hi',List.map_append,←List.append_assoc]
  exact H2
 ·have hie:i=l.length:=by omega
  subst hie
  rw[List.take_length]at H1
  exact hk u h1 H1
end
theorem yt {m:bw} (hm:cX m=true) {i:Nat} (hi:i<m.objs.length):dP m m.objs[i]=true:=by
 unfold cX at hm
 simp only[Bool.and_eq_true]at hm
 have:=List.all_eq_true.1 hm.2.2.2 i (List.mem_range.2 hi)
 unfold jq at this
 simp only[Bool.and_eq_true]at this
 have h1:=this.1
 rwa [nU hi]at h1
theorem vR {m:bw} (hm:cX m=true) {i:Nat} (hi:i<m.objs.length):m.objs[i].name.size≤12∧m.objs[i].tries.length≤3073:=by
 have h1:=yt hm hi
 unfold dP kU at h1
 simp only[Bool.and_eq_true,decide_eq_true_eq]at h1
 obtain⟨⟨_,_,h2⟩,_,h3,_,h4⟩:=h1
 refine⟨h2,?_⟩
 obtain⟨_,_,hmay,_⟩:=sa (vB hm)
 have hmp:=(kP m.p).1 hmay
 unfold cj at h3
 simp only[Bool.and_eq_true,decide_eq_true_eq]at h3
 have hk:m.p.1*m.p.2.2≤16*24:=Int.mul_le_mul (by omega) (by omega) (by omega) (by omega)
 unfold countP at h4
 split at h4
 ·have:(m.objs[i].length-1)/(m.p.1*m.p.2.2)≤m.objs[i].length-1:=Int.ediv_le_self _ (by rename_i hc;simp at hc;omega)
  omega
 ·omega
theorem vS {m:bw} (hm:cX m=true) {i:Nat} (hi:i<m.objs.length):(dY m.objs[i]).length≤4000:=by
 have:=vR hm hi
 unfold dY
 simp[cw]
 have:m.objs[i].name.data.size=m.objs[i].name.size:=rfl
 omega
theorem mM {m:bw} (hm:cX m=true):∀n,n≤m.objs.length→((m.objs.take n).flatMap dY).length≤n*4000
 |0,_=>by simp
 |n+1,hn=>by
  rw[aD _ _ (show n<m.objs.length by omega),List.flatMap_append,List.length_append]
  have h1:=mM hm n (by omega)
  have h2:=vS hm (show n<m.objs.length by omega)
  have h3:([m.objs[n]].flatMap dY).length=(dY m.objs[n]).length:=by rw[List.flatMap_cons,List.flatMap_nil,List.append_nil]
  omega
theorem oh {m:bw} (hm:cX m=true):m.objs.length≤12:=by
 unfold cX at hm
 simp only[Bool.and_eq_true,decide_eq_true_eq]at hm
 exact hm.2.2.1
theorem ol (m:bw) (hz:jC m):(fG m).length≤100000:=by
 unfold fG
 split
 ·rename_i hm
  have h1:=hm
  unfold cX at h1
  simp only[Bool.and_eq_true,decide_eq_true_eq]at h1
  have hd:m.drives.length≤64:=by
   have h2:=h1.2.1
   unfold nf at h2
   rw[List.all_eq_true]at h2
   by_cases hn:m.drives.length≤64
   ·exact hn
   ·exfalso
    have key:∀i,i<m.drives.length→(i:Int)≤m.drives.getD i 0:=fun i=>by
     induction i with
     |zero=>
      intro hi
      have:=h2 0 (List.mem_range.2 hi)
      unfold dO cj at this
      simp at this;simpa using this.1
     |succ i ih=>
      intro hi
      have:=h2 (i+1) (List.mem_range.2 hi)
      have h3:=ih (by omega)
      unfold dO cj at this
      simp at this
      have h4:=this.2
      simp only[List.getD_eq_getElem?_getD]at h3⊢
      omega
    have h3:=key 64 (by omega)
    have h4:=h2 64 (List.mem_range.2 (by omega))
    unfold dO cj at h4
    simp at h4
    simp only[List.getD_eq_getElem?_getD]at h3
    omega
  have ho:(m.objs.flatMap dY).length≤12*4000:=by
   have h2:=mM hm m.objs.length (Nat.le_refl _)
   rw[List.take_length]at h2
   have:=Nat.mul_le_mul_right 4000 (oh hm)
   omega
  simp only[List.length_append,List.length_cons,List.length_nil,List.length_map,cw]
  omega
 ·simp
theorem vT (x:cy) (m:bw) (h:Heap) (hx:jB h x m) (hz:jC m):ah Tryz.prog sj #[og x] h fun v h'=>∃r:Sl,v=.slice r.ptr r.len r.cap∧Sp h h' [ap aA r 1 aE (fG m)]:=by
 refine qS x ?_
 unfold nJ
 refine(Sp.refl h).boxed fun a1 h1 H1=>?_
 refine⟨x,(H1.box 0 rfl).bh _ rfl,(wV x m h1 (hx.up H1.au) hz).mono ?_⟩
 rintro _ h2 ⟨rfl,R2⟩
 have H2:=H1.up R2.au
 refine⟨_,rfl,bv (fun e=>?_) fun hm=>?_⟩
 ·unfold fG;rw[e];exact⟨⟨none,0,0⟩,rfl,((H2.nil aA 1 aE).cB [1])⟩
 have hp1:x.2.2.1=m.p.1:=congrArg (·.1) hx.p
 have hp2:x.2.2.2.1=m.p.2.1:=congrArg (·.2.1) hx.p
 have hp3:x.2.2.2.2.1=m.p.2.2:=congrArg (·.2.2) hx.p
 have hb2:=H2.box 0 rfl
 have hplen:=ol m hz
 unfold fG at hplen
 rw[hm,if_pos rfl]at hplen
 have hM:∀{h':Heap} {As:List HP},Sp h h' As→jB h' x m:=fun{h' As} H'=>hx.up H'.au
 refine aM ⟨m.seq,by rw[←hx.seq];exact hb2.cell0 rfl,m.next,by rw[←hx.next];exact hb2.cell rfl,?_⟩
 have H3:=(H2.nil aA 1 aE).cI
 refine(gv ⟨none,0,0⟩ [] m.seq 4 (by decide) (by simp) H3).mono ?_
 rintro _ h4 ⟨s4,rfl,H4⟩
 refine⟨s4,rfl,⟨by rw[←hx.next];exact(H4.box 1 rfl).cell rfl,trivial⟩,?_⟩
 refine(gv s4 _ m.next 4 (by decide) (by simp[cw]) H4).mono ?_
 rintro _ h5 ⟨s5,rfl,H5⟩
 refine⟨s5,rfl,trivial,?_⟩
 have hb5:=H5.box 1 rfl
 refine⟨m.p.1,by rw[←hp1];exact hb5.cell rfl,m.p.2.1,by rw[←hp2];exact hb5.sv 2 1 rfl,m.p.2.2,by rw[←hp3];exact hb5.sv 2 2 rfl,m.extra,by rw[←hx.extra];exact hb5.cell rfl,x.2.2.2.2.2.2.1,hb5.cell rfl,?_⟩
 have hdl:=hx.drives.len
 have hol:=cW.len hx.objs
 rw[bD,bD,bD,bD,bD,hdl]
 refine H5.lit ag aE eZ rfl [b8 m.p.1,b8 m.p.2.1,b8 m.p.2.2,b8 m.extra,b8 (m.drives.length:Nat)] rfl (show 5*1≤2^20 by decide) rfl fun v14 h6 H6=>?_
 refine H6.append ag 0 rfl eZ ⟨_,_,rfl,rfl⟩ rfl (by decide) (fun _=>rfl) (H6.seq 2 rfl fun _=>rfl) dw (by simp[cw]) fun s7 h7 H7=>?_
 have H7:=H7.cB [0,1]
 refine⟨x.2.2.2.2.2.2.1,(H7.box 1 rfl).cell rfl,?_⟩
 have hacc:(([]++cC m.seq 4)++cC m.next 4++[b8 m.p.1,b8 m.p.2.1,b8 m.p.2.2,b8 m.extra,b8 (m.drives.length:Nat)]).length=13:=by simp[cw]
 have hdr:=hz.dr
 refine ph x.2.2.2.2.2.2.1 m.drives s7 _ H7 (St.mk' fun h' H'=>(hM H').drives) (by omega) (by omega) fun s8 h8 H8=>?_
 dsimp only
 refine⟨x.2.2.2.2.2.2.2,(H8.box 1 rfl).cell rfl,?_⟩
 rw[bD,hol]
 obtain⟨acc,hacc2⟩:∃acc,acc=([]++cC m.seq 4)++cC m.next 4++[b8 m.p.1,b8 m.p.2.1,b8 m.p.2.2,b8 m.extra,b8 (m.drives.length:Nat)]++m.drives.map b8:=⟨_,rfl⟩
 rw[←hacc2]at H8
 have hal:acc.length=13+m.drives.length:=by rw[hacc2];simp[cw];omega
 simp only[List.length_append,List.length_cons,List.length_nil,List.length_map,cw]at hplen
 refine H8.push ag 0 rfl eZ rfl (by decide) (fun _=>rfl) dw (b8 (m.objs.length:Nat)) rfl (by decide) (by omega) fun s9 h9 H9=>?_
 have H9:Sp h h9 [ap aA s9 1 aE (acc++[b8 (m.objs.length:Nat)]),aj a1 bM (bI x)]:=H9
 refine⟨x.2.2.2.2.2.2.2,(H9.box 1 rfl).cell rfl,?_⟩
 obtain⟨ys,F0⟩:=cW.fix hx.objs
 have hyl:=F0.2.1
 refine aF (fun t:Sl×Nat=>(t.1,(t.2:Int))) (fun t h'=>t.2≤m.objs.length∧Sp h h' [ap aA t.1 1 aE (acc++[b8 (m.objs.length:Nat)]++(m.objs.take t.2).flatMap dY),aj a1 bM (bI x)]) (fun t=>m.objs.length-t.2) (s9,0) rfl ⟨by simp,by simpa using H9⟩ ?_
 rintro⟨o,i⟩ h10 ⟨hi,H10⟩
 dsimp only at*
 refine ak (fun e=>?_) (fun e=>?_)
 ·have hi':i<m.objs.length:=by omega
  have F10:=lB.up F0 H10.au
  have hes:=vR hm hi'
  have hsofar:((m.objs.take i).flatMap dY).length≤50000:=by
   have h1:=mM hm i hi
   have:=oh hm
   have:i*4000≤12*4000:=Nat.mul_le_mul_right _ (by omega)
   omega
  refine F10.1.rF (g:=iS) i rfl (by omega) (ys[i]'(by omega)) rfl ?_
  refine H10.alloc ag rfl fun a29 h11 H11=>?_
  refine H11.storeAll ag 2 rfl rfl (iS (ys[i]'(by omega))) rfl rfl rfl rfl fun h12 H12=>?_
  have F12:=lB.up F0 H12.au
  obtain⟨⟨y1,y2,y3⟩,y4⟩:=Fix.row F12 hi'
  obtain⟨E,hE⟩:∃E,E=m.objs[i]:=⟨_,rfl⟩
  rw[←hE]at y1 y2 y3 y4 hes
  have b12:=H12.box 2 rfl
  refine aM ⟨E.name,by rw[←y1];exact b12.cell0 rfl,E.name,by rw[←y1];exact b12.cell0 rfl,?_⟩
  rw[bD]
  refine H12.pB ag aE eZ rfl [b8 (E.name.size:Nat)] rfl (show 1*1≤2^20 by decide) rfl ⟨by rw[←y1];exact b12.cell0 rfl,by rw[←y1];exact b12.cell0 rfl,trivial⟩ ?_
  have hcur:(acc++[b8 (m.objs.length:Nat)]++(m.objs.take i).flatMap dY).length≤160000:=by rw[List.length_append,List.length_append,hal];simp;simp at hsofar;omega
  obtain⟨cur,hcr⟩:∃cur,cur=acc++[b8 (m.objs.length:Nat)]++(m.objs.take i).flatMap dY:=⟨_,rfl⟩
  rw[←hcr]at H12 hcur
  refine H12.push ag 0 rfl eZ rfl (by decide) (fun _=>rfl) dw (b8 (E.name.size:Nat)) rfl (by decide) (by omega) fun s13 h13 H13=>?_
  have b13:=H13.box 2 rfl
  refine⟨⟨by rw[←y1];exact b13.cell0 rfl,by rw[←y1];exact b13.cell0 rfl,trivial⟩,?_⟩
  refine H13.qo ag 0 rfl eZ ⟨_,rfl,rfl⟩ rfl (by decide) E.name (by simp;omega) fun s14 h14 H14=>?_
  have b14:=H14.box 2 rfl
  refine⟨⟨by rw[←y1];exact b14.cell0 rfl,trivial⟩,?_⟩
  have H14:Sp h h14 [ap aA s14 1 aE (cur++[b8 (E.name.size:Nat)]++cG E.name),aj a1 bM (bI x),aj a29 gu (iS (ys[i]'(by omega)))]:=H14
  refine aM ⟨E.object,by rw[←y2];exact b14.cell rfl,E.length,by rw[←y3];exact b14.cell rfl,?_⟩
  have hsb:=kT E.name
  refine(gv s14 _ E.object 3 (by decide) (by simp;omega) H14).mono ?_
  rintro _ h15 ⟨s15,rfl,H15⟩
  have b15:=H15.box 2 rfl
  refine⟨s15,rfl,⟨by rw[←y3];exact b15.cell rfl,trivial⟩,?_⟩
  refine(gv s15 _ E.length 2 (by decide) (by simp[cw];omega) H15).mono ?_
  rintro _ h16 ⟨s16,rfl,fZ⟩
  have b16:=fZ.box 2 rfl
  refine⟨s16,rfl,trivial,(ys[i]'(by omega)).2.2.2,b16.cell rfl,?_⟩
  refine ph (ys[i]'(by omega)).2.2.2 E.tries s16 _ fZ (St.mk' fun h' H'=>by rw[hE];exact(Fix.row (lB.up F0 H'.au) hi').2) (by simp[cw];omega) (by omega) fun s17 h17 H17=>?_
  dsimp only
  have h12:=oh hm
  refine⟨(s17,i+1),by dsimp only;rw[Go.Vc.wrap_small _ (by omega) (by omega)];rfl,⟨by dsimp only;omega,?_⟩,by dsimp only;omega⟩
  dsimp only
  rw[aD _ _ hi',List.flatMap_append,←List.append_assoc,←hcr,List.flatMap_cons,List.flatMap_nil,List.append_nil,←hE]
  have e3:cur++[b8 (E.name.size:Nat)]++cG E.name++cC E.object 3++cC E.length 2++E.tries.map b8=cur++dY E:=by
   unfold dY cG;simp[List.append_assoc]
  rw[e3]at H17
  exact H17.cB [0,1]
 ·rw[List.take_of_length_le (by omega)]at H10
  refine⟨o,rfl,?_⟩
  have e2:acc++[b8 (m.objs.length:Nat)]++m.objs.flatMap dY=fG m:=by
   rw[hacc2];unfold fG;rw[hm,if_pos rfl];simp[List.append_assoc]
  rw[e2]at H10
  exact H10.cB [0]
end Go.Qw
namespace Go.Vc
open Go Wl
section
variable {α:Type} {B:al} {h0 h:Heap} {As:List HP} {k:Nat} {f:α→List Value} {L:List (Sl×List α)} {s:Sl} {l:List α}
end
end Go.Vc
namespace Go.Qw
open Go Go.Vc Go.Proofs Wl
set_option maxRecDepth 100000
theorem zc (n:Int):cC n 4=[b8 (Int.fdiv n (2^24)),b8 (Int.fdiv n (2^16)),b8 (Int.fdiv n (2^8)),b8 n]:=by
 have e:Int.fdiv n (2^0)=n:=by simp
 show[b8 (Int.fdiv n (2^24)),b8 (Int.fdiv n (2^16)),b8 (Int.fdiv n (2^8)),b8 (Int.fdiv n (2^0))]=_
 rw[e]
theorem vU (seq number many:Int) (b:Sl) (l:List UInt8) (h:Heap) (hb:Rd h b 1 aE l) (hl:l.length≤2^20):ah Tryz.prog tl #[.int .i64 seq,.int .i64 number,.int .i64 many,.slice b.ptr b.len b.cap] h fun v h'=>∃r:Sl,v=.slice r.ptr r.len r.cap∧Sp h h' [ap aA r 1 aE (kn seq number many l)]:=by
 refine sk seq number many b ?_
 unfold oU
 refine⟨by decide,by decide,by decide,?_⟩
 have e24:min (24:Int).toNat (IntKind.bits .i64)=24:=rfl
 have e16:min (16:Int).toNat (IntKind.bits .i64)=16:=rfl
 have e8:min (8:Int).toNat (IntKind.bits .i64)=8:=rfl
 rw[e24,e16,e8,bD,bD,bD,bD,bD,bD,bD]
 have hh4:=zc seq
 generalize b8 (Int.fdiv seq (2^24))=c1 at hh4⊢
 generalize b8 (Int.fdiv seq (2^16))=c2 at hh4⊢
 generalize b8 (Int.fdiv seq (2^8))=c3 at hh4⊢
 generalize b8 seq=c4 at hh4⊢
 have hpp:kn seq number many l=eG 2 ([c1,c2,c3,c4]++([b8 number,b8 many,b8 (b.len:Nat)]++l)):=by unfold kn;rw[hh4,hb.len]
 generalize b8 number=c5 at hpp⊢
 generalize b8 many=c6 at hpp⊢
 generalize b8 (b.len:Nat)=c7 at hpp⊢
 refine(Sp.refl h).lit ag aE eZ rfl [c1,c2,c3,c4,c5,c6,c7] rfl (show 7*1≤2^20 by decide) (by kernel_rfl) fun v1 h1 H1=>?_
 refine H1.append ag 0 rfl eZ ⟨_,_,rfl,rfl⟩ rfl (by decide) (fun _=>rfl) (Seq.up hb H1.au) dw (by simp;omega) fun v2 h2 H2=>?_
 have hq:Rd h2 v2 1 aE ([c1,c2,c3,c4,c5,c6,c7]++l):=H2.seq 0 rfl fun _=>rfl
 have hql:([c1,c2,c3,c4,c5,c6,c7]++l).length≤2^40:=by simp;omega
 rw[hpp]
 have hee:[c1,c2,c3,c4,c5,c6,c7]++l=[c1,c2,c3,c4]++([c5,c6,c7]++l):=rfl
 rw[←hee]
 generalize [c1,c2,c3,c4,c5,c6,c7]++l=ll at hq hql⊢
 refine(vN 2 v2 ll h2 hq hql).mono ?_
 rintro _ h3 ⟨r,rfl,R3⟩
 exact⟨r,rfl,r,rfl,(ab.comp (Sp.zip H2.au) R3)⟩
theorem pi (x:cy) (m:bw) (h:Heap) (hx:jB h x m) (hz:jC m):ah Tryz.prog qP #[og x] h fun v h'=>∃r:Sl,v=.slice r.ptr r.len r.cap∧Sp h h' [dK r (cJ m)]:=by
 refine pH x ?_
 unfold mF
 refine(Sp.refl h).boxed fun a1 h1 H1=>?_
 refine⟨x,(H1.box 0 rfl).bh _ rfl,(vT x m h1 (hx.up H1.au) hz).mono ?_⟩
 rintro _ h2 ⟨b,rfl,R2⟩
 have H2:=H1.comp R2
 have hpl:=ol m hz
 obtain⟨l,hl⟩:∃l,l=fG m:=⟨_,rfl⟩
 rw[←hl]at H2 hpl
 have hbl:=(H2.own 1 rfl).len
 have hbc:=(H2.own 1 rfl).cap
 refine⟨b,rfl,by decide,?_⟩
 have hmany:IntKind.wrap .i64 (Int.tdiv (IntKind.wrap .i64 ((IntKind.wrap .i64 (((b.len:Nat):Int)+(48:Int)))-(1:Int))) (48:Int))=(dZ l:Int):=by
  rw[Go.Vc.wrap_small ((b.len:Int)+48) (by omega) (by omega),Go.Vc.wrap_small ((b.len:Int)+48-1) (by omega) (by omega),Int.tdiv_eq_ediv_of_nonneg (by omega)]
  unfold dZ
  rw[Go.Vc.wrap_small (((b.len:Int)+48-1)/48) (by omega) (by omega)]
  omega
 have hmn:dZ l≤3000:=by unfold dZ;omega
 rw[hmany]
 obtain⟨pg,hpg⟩:∃pg:List (List UInt8),pg=cJ m:=⟨_,rfl⟩
 have hpgl:pg.length=dZ l:=by rw[hpg,hl];simp[cJ]
 have H3:Sp h h2 [dK ⟨none,0,0⟩ (pg.take 0),aj a1 bM (bI x),ap aA b 1 aE l]:=H2.uv bX aA 1 aE
 refine aF (fun t:Sl×Nat=>(t.1,(t.2:Int))) (fun t h'=>t.2≤dZ l∧Sp h h' [dK t.1 (pg.take t.2),aj a1 bM (bI x),ap aA b 1 aE l]) (fun t=>dZ l-t.2) (⟨none,0,0⟩,0) rfl ⟨by simp,H3⟩ ?_
 rintro⟨o,i⟩ h3 ⟨hi,H3⟩
 dsimp only at*
 refine ak (fun e=>?_) (fun e=>?_)
 ·have hi':i<dZ l:=by omega
  have hi48:48*i<l.length:=by unfold dZ at hi';omega
  rw[Go.Vc.wrap_small ((i:Int)*48) (by omega) (by omega),Go.Vc.wrap_small ((i:Int)+1) (by omega) (by omega),Go.Vc.wrap_small (((i:Int)+1)*48) (by omega) (by omega)]
  obtain⟨en,hen⟩:∃en:Nat,en=min (48*i+48) l.length:=⟨_,rfl⟩
  have hif:(if((i:Int)+1)*48<((b.len:Nat):Int)then((i:Int)+1)*48 else((b.len:Nat):Int))=(en:Int):=by
   split<;>omega
  rw[hif]
  refine⟨m.seq,by rw[←hx.seq];exact(H3.box 1 rfl).cell0 rfl,⟨by omega,by omega,by omega⟩,?_⟩
  have e1:((i:Int)*48).toNat=48*i:=by omega
  rw[e1,Int.toNat_natCast]
  have hd:=((H3.seq 2 rfl fun _=>rfl).drop (48*i) hbc).take (en-48*i) (by rw[List.length_drop];omega)
  have e2:(l.drop (48*i)).take (en-48*i)=(l.drop (48*i)).take 48:=by
   by_cases hh:48*i+48≤l.length
   ·rw[show en-48*i=48 by omega]
   ·rw[List.take_of_length_le (by rw[List.length_drop];omega),List.take_of_length_le (by rw[List.length_drop];omega)]
  rw[e2,Nat.mul_one]at hd
  refine(vU m.seq i (dZ l) ⟨_,en-48*i,b.cap-48*i⟩ _ h3 (by rw[Nat.mul_one];exact hd) (by simp;omega)).mono ?_
  rintro _ h4 ⟨r,rfl,R4⟩
  have H4:=(H3.hJ R4).bQ 4 [1,0,2,3]
  refine⟨r,rfl,trivial,?_⟩
  refine H4.pB ag fD rk rfl [r] rfl (show 1*1≤2^20 by decide) rfl trivial ?_
  refine H4.xC ag rk (by simp;omega) fun o' h5 H5=>⟨trivial,?_⟩
  refine⟨(o',i+1),rfl,⟨by dsimp only;omega,?_⟩,by dsimp only;omega⟩
  dsimp only
  rw[aD _ _ (show i<pg.length by omega)]
  have e3:pg[i]'(by omega)=kn m.seq i (dZ l) ((l.drop (48*i)).take 48):=by
   subst hpg;subst hl;simp[cJ]
  rw[e3]
  exact H5
 ·rw[List.take_of_length_le (by omega),hpg]at H3
  exact⟨o,rfl,H3.cB [0]⟩
end Go.Qw
namespace Go.Vc
open Go Wl Go.Qw
section
variable {B:al} {h0 h h':Heap} {As L:List HP} {X Y Z:HP}
theorem ab.zS (H:ab B h0 h (X::Y::(L++As))):ab B h0 h (L++(X::Y::As)):=
 H.pick (fun i=>if i<L.length then i+2 else if i=L.length then 0 else if i=L.length+1 then 1 else i) (fun a b hab=>by(try dsimp only at hab);split at hab<;>split at hab<;>(try split at hab)<;>(try split at hab)<;>(try split at hab)<;>(try split at hab)<;>omega) fun i A hi=>by
  try dsimp only
  by_cases hl:i<L.length
  ·rw[List.getElem?_append_left hl]at hi
   rw[if_pos hl,List.getElem?_cons_succ,List.getElem?_cons_succ,List.getElem?_append_left hl];exact hi
  ·rw[List.getElem?_append_right (by omega)]at hi
   rw[if_neg hl]
   by_cases h0':i=L.length
   ·subst h0';rw[if_pos rfl];rw[Nat.sub_self]at hi;exact hi
   ·rw[if_neg h0']
    by_cases h1':i=L.length+1
    ·subst h1';rw[if_pos rfl];rw[show L.length+1-L.length=1 by omega]at hi;exact hi
    ·rw[if_neg h1']
     obtain⟨j,rfl⟩:∃j,i=L.length+(j+2):=⟨i-L.length-2,by omega⟩
     rw[Nat.add_sub_cancel_left,List.getElem?_cons_succ,List.getElem?_cons_succ]at hi
     rw[show L.length+(j+2)=(L.length+j)+1+1 by omega,List.getElem?_cons_succ,List.getElem?_cons_succ,List.getElem?_append_right (by omega),Nat.add_sub_cancel_left];exact hi
theorem ab.yu (n:Nat) (hn:L[n]?=some X) (H:ab B h0 h (Y::Z::(L++As))):ab B h0 h (X::Z::Y::(L.set n emp++As)):=by
 have hlt:=(List.getElem?_eq_some_iff.1 hn).1
 have H1:=H.cons (n+2) (A:=X) (by rw[List.getElem?_cons_succ,List.getElem?_cons_succ,List.getElem?_append_left hlt];exact hn)
 have e:(Y::Z::(L++As)).set (n+2) emp=Y::Z::(L.set n emp++As):=by
  rw[List.set_cons_succ,List.set_cons_succ,List.set_append_left _ _ hlt]
 rw[e]at H1
 exact H1.bQ 3 [0,2,1]
theorem ab.tZ (n:Nat) (hn:n<L.length) (H:ab B h0 h (X::Z::Y::(L.set n emp++As))):ab B h0 h (Y::Z::(L.set n X++As)):=
 H.pick (fun i=>if i=0 then 2 else if i=1 then 1 else if i=n+2 then 0 else i+1) (fun a b hab=>by(try dsimp only at hab);split at hab<;>split at hab<;>(try split at hab)<;>(try split at hab)<;>(try split at hab)<;>(try split at hab)<;>omega) fun i A hi=>by
  try dsimp only
  match i,hi with
  |0,hi=>exact hi
  |1,hi=>exact hi
  |i+2,hi=>
   rw[if_neg (by omega),if_neg (by omega)]
   rw[List.getElem?_cons_succ,List.getElem?_cons_succ]at hi
   by_cases hin:i=n
   ·subst hin
    rw[List.getElem?_append_left (by simpa using hn),List.getElem?_set_self hn]at hi
    rw[if_pos rfl];exact hi
   ·rw[if_neg (by omega),List.getElem?_cons_succ,List.getElem?_cons_succ,List.getElem?_cons_succ]
    by_cases hl:i<L.length
    ·rw[List.getElem?_append_left (by simpa using hl),List.getElem?_set_ne (by omega)]at hi
     rw[List.getElem?_append_left (by simpa using hl),List.getElem?_set_ne (by omega)];exact hi
    ·rw[List.getElem?_append_right (by simp;omega),List.length_set]at hi
     rw[List.getElem?_append_right (by simp;omega),List.length_set];exact hi
end
structure Kit where
 tS:Nat
 tP:Nat
 tD:Nat
 f:Addr→bz→Sl→Sl→List Value
def zd (k:Kit) (pw:Addr) (a:Option Addr) (d:Option bz):HP:=match a,d with
 |some a,some d=>dL k.tD (k.f pw) a d
 |_,_=>emp
abbrev bt (mc:List Value) (pw:Addr) (offs:Int) (da:List (Option Addr)):List Value:=mc++(.pointer (some pw)::.int .i64 offs::da.map .pointer)
structure cl (mc:List Value) (da:List (Option Addr)) (ds:bo):Prop where
 l8:mc.length=8
 la:da.length=64
 ls:ds.length=64
 same:∀i:Nat,(da.getD i none).isSome=(ds.getD i none).isSome
abbrev cP (k:Kit) (pw:Addr) (da:List (Option Addr)) (ds:bo):List HP:=List.zipWith (zd k pw) da ds
def bf (k:Kit) (a pw:Addr) (mc:List Value) (offs:Int) (da:List (Option Addr)) (w:Pow) (ds:bo):HP:=
 (HP.all (aj a k.tS (bt mc pw offs da)::bG k.tP pw w::cP k pw da ds)).and (cl mc da ds)
section
variable {k:Kit} {B:al} {h0 h h':Heap} {As:List HP} {a pw:Addr} {mc:List Value} {offs:Int} {da:List (Option Addr)} {w w':Pow} {ds:bo} {d d':bz} {n:Nat}
theorem sw (ok:cl mc da ds):(cP k pw da ds).length=64:=by simp[cP,ok.la,ok.ls]
theorem ab.lr (H:ab B h0 h (bf k a pw mc offs da w ds::As)):cl mc da ds∧ab B h0 h (aj a k.tS (bt mc pw offs da)::bG k.tP pw w::(cP k pw da ds++As)):=by
 obtain⟨H,ok⟩:=H.pD
 exact⟨ok,H.km⟩
theorem ab.mN (ok:cl mc da ds) (H:ab B h0 h (aj a k.tS (bt mc pw offs da)::bG k.tP pw w::(cP k pw da ds++As))):ab B h0 h (bf k a pw mc offs da w ds::As):=
 (ab.closeAll (aj a k.tS (bt mc pw offs da)::bG k.tP pw w::cP k pw da ds) H).topD ok
theorem cl.addr (ok:cl mc da ds) (hd:ds[n]?=some (some d)):∃b,da[n]?=some (some b):=by
 have hn:n<64:=by have:=(List.getElem?_eq_some_iff.1 hd).1;rw[ok.ls]at this;exact this
 have h1:=ok.same n
 rw[List.getD_eq_getElem?_getD,List.getD_eq_getElem?_getD,hd]at h1
 have h2:n<da.length:=by rw[ok.la];exact hn
 rw[List.getElem?_eq_getElem h2]at h1⊢
 simp at h1
 obtain⟨b,hb⟩:=Option.isSome_iff_exists.1 h1
 exact⟨b,by rw[hb]⟩
theorem cl.vV (ok:cl mc da ds) (hn:n<64) (hd:ds[n]?=some none):da[n]?=some none:=by
 have h1:=ok.same n
 rw[List.getD_eq_getElem?_getD,List.getD_eq_getElem?_getD,hd]at h1
 have h2:n<da.length:=by rw[ok.la];exact hn
 rw[List.getElem?_eq_getElem h2]at h1⊢
 simp at h1
 rw[h1]
theorem cl.set (ok:cl mc da ds) {b:Addr} (hb:da[n]?=some (some b)):cl mc da (ds.set n (some d')):=by
 refine⟨ok.l8,ok.la,by rw[List.length_set];exact ok.ls,fun i=>?_⟩
 by_cases hin:n=i
 ·subst hin
  have hn:n<ds.length:=by have:=(List.getElem?_eq_some_iff.1 hb).1;rw[ok.la]at this;rw[ok.ls];exact this
  rw[List.getD_eq_getElem?_getD,hb,List.getD_eq_getElem?_getD,List.getElem?_set_self hn];rfl
 ·rw[List.getD_eq_getElem?_getD (l:=ds.set n _),List.getElem?_set_ne hin,←List.getD_eq_getElem?_getD];exact ok.same i
theorem wW {b:Addr} (hb:da[n]?=some (some b)) (hn:n<ds.length):(cP k pw da ds).set n (dL k.tD (k.f pw) b d')=cP k pw da (ds.set n (some d')):=by
 apply List.ext_getElem?
 intro j
 have hna:n<da.length:=(List.getElem?_eq_some_iff.1 hb).1
 simp only[cP,List.getElem?_set,List.getElem?_zipWith,List.length_zipWith]
 by_cases hij:n=j
 ·subst hij
  rw[if_pos rfl,if_pos (by omega),if_pos rfl,if_pos hn,hb];rfl
 ·simp[hij]
def rl (k:Kit) (a pw:Addr) (mc:List Value) (offs:Int) (da:List (Option Addr)) (ds:bo) (n:Nat):HP:=
 (HP.all (aj a k.tS (bt mc pw offs da)::(cP k pw da ds).set n emp)).and (cl mc da ds)
theorem ab.qC (H:ab B h0 h (bf k a pw mc offs da w ds::As)) (hd:ds[n]?=some (some d)):∃b,da[n]?=some (some b)∧ab B h0 h (dL k.tD (k.f pw) b d::bG k.tP pw w::rl k a pw mc offs da ds n::As):=by
 obtain⟨ok,H1⟩:=H.lr
 obtain⟨b,hb⟩:=ok.addr hd
 refine⟨b,hb,?_⟩
 have hX:(cP k pw da ds)[n]?=some (dL k.tD (k.f pw) b d):=by
  simp only[cP,List.getElem?_zipWith,hb,hd];rfl
 have H2:=H1.yu n hX
 have H3:ab B h0 h (dL k.tD (k.f pw) b d::bG k.tP pw w::((aj a k.tS (bt mc pw offs da)::(cP k pw da ds).set n emp)++As)):=H2
 exact(((ab.closeAll _ H3.zS).topD ok).bQ 3 [1,2,0]:ab B h0 h (dL k.tD (k.f pw) b d::bG k.tP pw w::rl k a pw mc offs da ds n::As))
theorem ab.sx {b:Addr} (hb:da[n]?=some (some b)) (H:ab B h0 h (dL k.tD (k.f pw) b d'::bG k.tP pw w'::rl k a pw mc offs da ds n::As)):ab B h0 h (bf k a pw mc offs da w' (ds.set n (some d'))::As):=by
 have H1:ab B h0 h (rl k a pw mc offs da ds n::bG k.tP pw w'::dL k.tD (k.f pw) b d'::As):=H.bQ 3 [2,1,0]
 obtain⟨H1,ok⟩:=H1.pD
 have H2:=H1.km
 have hn:n<ds.length:=by have:=(List.getElem?_eq_some_iff.1 hb).1;rw[ok.la]at this;rw[ok.ls];exact this
 have hl:=sw (k:=k) (pw:=pw) ok
 have hln:n<(cP k pw da ds).length:=by rw[hl,←ok.ls];exact hn
 obtain⟨L,hL⟩:∃L,L=cP k pw da ds:=⟨_,rfl⟩
 rw[←hL]at H2 hln
 have H3:ab B h0 h (dL k.tD (k.f pw) b d'::bG k.tP pw w'::aj a k.tS (bt mc pw offs da)::(L.set n emp++As)):=by
  refine H2.pick (fun i=>if i=0 then 1+L.length+1 else if i=1 then 1+L.length else if i=2 then 0 else if i<3+L.length then i-2 else i) (fun x y hab=>by(try dsimp only at hab);split at hab<;>split at hab<;>(try split at hab)<;>(try split at hab)<;>(try split at hab)<;>(try split at hab)<;>(try split at hab)<;>(try split at hab)<;>omega) fun i A hi=>?_
  try dsimp only
  have hlen:(aj a k.tS (bt mc pw offs da)::L.set n emp).length=1+L.length:=by simp;omega
  match i,hi with
  |0,hi=>rw[if_pos rfl,List.getElem?_append_right (by omega),hlen,show 1+L.length+1-(1+L.length)=1 by omega];exact hi
  |1,hi=>rw[if_neg (by omega),if_pos rfl,List.getElem?_append_right (by omega),hlen,Nat.sub_self];exact hi
  |2,hi=>rw[if_neg (by omega),if_neg (by omega),if_pos rfl];exact hi
  |i+3,hi=>
   rw[if_neg (by omega),if_neg (by omega),if_neg (by omega)]
   rw[List.getElem?_cons_succ,List.getElem?_cons_succ,List.getElem?_cons_succ]at hi
   by_cases hil:i<L.length
   ·rw[if_pos (by omega),show i+3-2=i+1 by omega,List.getElem?_append_left (by rw[hlen];omega),List.getElem?_cons_succ]
    rw[List.getElem?_append_left (by simpa using hil)]at hi;exact hi
   ·rw[if_neg (by omega),List.getElem?_append_right (by rw[hlen];omega),hlen,show i+3-(1+L.length)=(i-L.length)+2 by omega,List.getElem?_cons_succ,List.getElem?_cons_succ]
    rw[List.getElem?_append_right (by simp;omega),List.length_set]at hi;exact hi
 have H4:=ab.tZ n hln H3
 rw[hL,wW hb hn]at H4
 exact H4.mN (ok.set hb)
end
end Go.Vc
namespace Go.Vc
open Go Wl Go.Qw
def ze:gz (Int×Sl) (Int×List UInt8):=⟨fun h q a b=>a.1=b.1∧Seq h q a.2 1 aE b.2,fun a hp=>⟨a.1,a.2.au hp⟩,fun a hq=>⟨a.1,a.2.mono hq⟩⟩
def piv (x:Int×Sl):List Value:=[.int .i64 x.1,.slice x.2.ptr x.2.len x.2.cap]
theorem yv:∀x,∀c∈piv x,c.oneCell'=true:=by intro x c hc;simp[piv]at hc;rcases hc with rfl|rfl<;>rfl
def om (da:List (Option Addr)) (slot:Int):Option Addr:=if 0≤slot∧slot<64 then(da[slot.toNat]?).join else none
theorem sy {mc:List Value} {da:List (Option Addr)} {ds:bo} (ok:cl mc da ds) (slot:Int):
  (tU ds slot=none∧om da slot=none)∨∃(n:Nat) (d:bz) (b:Addr),slot=n∧n<64∧ds[n]?=some (some d)∧tU ds slot=some d∧da[n]?=some (some b)∧om da slot=some b:=by
 unfold tU om
 by_cases h:0≤slot∧slot<64
 ·rw[if_pos h,if_pos h]
  have hn:slot.toNat<ds.length:=by rw[ok.ls];omega
  cases hd:ds[slot.toNat]with
  |none=>
   have h1:ds[slot.toNat]?=some none:=by rw[List.getElem?_eq_getElem hn,hd]
   exact .inl ⟨by rw[h1];rfl,by rw[ok.vV (by omega) h1];rfl⟩
  |some d=>
   have h1:ds[slot.toNat]?=some (some d):=by rw[List.getElem?_eq_getElem hn,hd]
   obtain⟨b,hb⟩:=ok.addr h1
   exact .inr ⟨slot.toNat,d,b,by omega,by omega,h1,by rw[h1];rfl,hb,by rw[hb];rfl⟩
 ·rw[if_neg h,if_neg h];exact .inl ⟨rfl,rfl⟩
theorem vW {mc:List Value} {pw:Addr} {offs:Int} {da:List (Option Addr)} (h8:mc.length=8) (n:Nat):(bt mc pw offs da)[10+n]?=(da[n]?).map .pointer:=by
 unfold bt
 rw[List.getElem?_append_right (by omega),h8,show 10+n-8=n+1+1 by omega,List.getElem?_cons_succ,List.getElem?_cons_succ,List.getElem?_map]
theorem wX {mc:List Value} {pw:Addr} {offs:Int} {da:List (Option Addr)} (h8:mc.length=8):(bt mc pw offs da)[8]?=some (.pointer (some pw)):=by
 unfold bt;rw[List.getElem?_append_right (by omega),h8];rfl
theorem uO {mc:List Value} {pw:Addr} {offs:Int} {da:List (Option Addr)} (h8:mc.length=8):(bt mc pw offs da)[9]?=some (.int .i64 offs):=by
 unfold bt;rw[List.getElem?_append_right (by omega),h8];rfl
end Go.Vc
namespace Go.Qw
open Go Go.Vc Go.Proofs Wl
set_option maxRecDepth 100000
abbrev bB:Go.Vc.Kit:=⟨dQ,aS,fc,fun pw=>iR pw⟩
theorem sA {e:TypeId} (s:Sl) (l:List Int) (h:Heap) (ho:Own h e s 1 ao l) (hsz:l.length<2^40):ah Tryz.prog io #[.slice s.ptr s.len s.cap] h fun v h'=>v=.slice s.ptr (Lib.compact l).length s.cap∧Own h' e ⟨s.ptr,(Lib.compact l).length,s.cap⟩ 1 ao (Lib.compact l)∧az (fun b=>¬s.on b) h h':=
 oL Tryz.slices_Compact_int Tryz.slices_Compact_int_empty ho hsz
section
variable {B:al} {h0 h h':Heap} {As:List HP} {a pw:Addr} {mc:List Value} {offs:Int} {da:List (Option Addr)} {w:Pow} {ds:bo}
theorem nM (slot:Int) (ok:cl mc da ds) (hb:bL h a dQ (bt mc pw offs da)):ah Tryz.prog bZ #[.pointer (some a),.int .i64 slot] h fun v h'=>v=.pointer (om da slot)∧h'=h:=by
 refine kz (some a) slot ?_
 unfold fV
 have no:¬(0≤slot∧slot<64)→Value.pointer none=.pointer (om da slot)∧h=h:=fun e=>by unfold om;rw[if_neg e];exact⟨rfl,rfl⟩
 refine aM (bT (fun e=>by cases e) fun _=>ak (fun e=>no (by omega)) fun e1=>ak (fun e=>no (by omega)) fun e2=>?_)
 have hn:slot.toNat<da.length:=by rw[ok.la];omega
 refine⟨a,rfl,⟨by omega,by omega⟩,da[slot.toNat],?_,?_,rfl⟩
 ·rw[Nat.mul_one]
  refine hb.sv 10 slot.toNat ?_
  rw[vW ok.l8,List.getElem?_eq_getElem hn];rfl
 ·unfold om;rw[if_pos (by omega),List.getElem?_eq_getElem hn];rfl
theorem ab.iA (H:ab B h0 h (bf bB a pw mc offs da w ds::As)):cl mc da ds∧bL h a dQ (bt mc pw offs da):=by
 obtain⟨ok,H1⟩:=Go.Vc.ab.lr H
 exact⟨ok,H1.box 0 rfl⟩
theorem uP (s:Sl) (l:List Int) (hS:St B h0 As fun h=>Rd h s 1 ao l) (hl:l.length≤2^30) (hin:∀x∈l,0≤x∧x<64) (H:ab B h0 h (bf bB a pw mc offs da w ds::As)):
  ah Tryz.prog tm #[.func (.func bZ) #[.pointer (some a)] #[],.slice s.ptr s.len s.cap] h fun v h'=>v=.int .i64 (fb (cR l) w ds).1∧ab B h0 h' (bf bB a pw mc offs da (fb (cR l) w ds).2.1 (fb (cR l) w ds).2.2::As):=by
 refine sn (bZ,#[.pointer (some a)],#[]) s ?_
 unfold oV
 refine(pP s l h (hS.at [_] H) (by omega)).mono ?_
 rintro _ h1 ⟨r,rfl,R1⟩
 have H1:=H.hJ R1
 refine⟨r,rfl,(vK r l h1 (H1.own 0 rfl) (by omega)).mono ?_⟩
 rintro _ h2 ⟨rfl,O2,P2⟩
 have H2:=H1.nb 0 rfl P2 O2
 refine⟨(),rfl,(sA r (fa l) h2 O2 (by rw[vv];omega)).mono ?_⟩
 rintro _ h3 ⟨rfl,O3,P3⟩
 have H3:=H2.step (D:=ap ax ⟨r.ptr,(Lib.compact (fa l)).length,r.cap⟩ 1 ao (Lib.compact (fa l))) 0 rfl fun q hq hlt=>⟨P3.mono fun b _ hb hon=>hb (hq.2 b hon),O3,fun b hb=>⟨Nat.lt_of_lt_of_le (hlt b (hq.2 b hb)) P3.1,.inl (hq.2 b hb)⟩⟩
 rw[ux l hin]at H3⊢
 obtain⟨u,hu⟩:∃u,u=cR l:=⟨_,rfl⟩
 rw[←hu]at H3⊢
 have H3:ab B h0 h3 (ap ax ⟨r.ptr,u.length,r.cap⟩ 1 ao u::bf bB a pw mc offs da w ds::As):=H3
 have hul:u.length≤64:=by
  have:=List.length_filter_le (fun i=>decide (i∈l)) ((List.range 64).map fun i:Nat=>(i:Int))
  rw[hu];unfold cR;simpa using this
 refine⟨⟨r.ptr,u.length,r.cap⟩,rfl,?_⟩
 refine aF (fun t:Nat×Pow×bo=>(t.1:Int)) (fun t h'=>t.1≤u.length∧fb u w ds=fb (u.drop t.1) t.2.1 t.2.2∧ab B h0 h' (ap ax ⟨r.ptr,u.length,r.cap⟩ 1 ao u::bf bB a pw mc offs da t.2.1 t.2.2::As)) (fun t=>u.length-t.1) (0,w,ds) rfl ⟨by simp,rfl,H3⟩ ?_
 rintro⟨i,w1,ds1⟩ h4 ⟨hi,hsy,H4⟩
 dsimp only at*
 refine ak (fun e=>?_) (fun e=>?_)
 ·have hi':i<u.length:=by omega
  obtain⟨ok,hb⟩:=ab.iA H4.rest
  rw[List.drop_eq_getElem_cons hi',ur]at hsy
  refine(H4.seq 0 rfl fun _=>rfl).aO i rfl hi' u[i] rfl (oE (by rfl) ?_)
  refine(nM u[i] ok hb).mono ?_
  rintro _ h5 ⟨rfl,rfl⟩
  refine⟨_,rfl,?_⟩
  rcases sy ok u[i]with⟨c1,c2⟩|⟨n,d,b,c0,c1,c2,c3,c4,c5⟩
  ·rw[c2]
   refine(su h5).mono ?_
   rintro _ h6 ⟨rfl,rfl⟩
   have es:fE w1 ds1 u[i]=(5,w1,ds1):=by unfold fE;rw[c1]
   rw[es]at hsy
   refine⟨5,rfl,cA (fun _=>?_) fun e=>absurd e (by decide)⟩
   have:fb u w ds=(5,w1,ds1):=hsy
   rw[this]
   exact⟨rfl,H4.rest⟩
  ·rw[c5]
   obtain⟨b',hb',H5⟩:=Go.Vc.ab.qC (H4.bQ 2 [1,0]) c2
   rw[c4]at hb'
   injection hb' with hb'
   injection hb' with hb'
   subst hb'
   refine(vM H5).mono ?_
   rintro _ h6 ⟨rfl,H6⟩
   have H7:=Go.Vc.ab.sx (k:=bB) (n:=n) c4 H6
   have es:fE w1 ds1 u[i]=((d.sync w1).1,(d.sync w1).2.1,ds1.set n (some (d.sync w1).2.2)):=by
    unfold fE;rw[c3];simp only[uq,c0,Int.toNat_natCast]
   rw[es]at hsy
   refine⟨_,rfl,cA (fun e2=>?_) fun e2=>?_⟩
   ·have:fb u w ds=((d.sync w1).1,(d.sync w1).2.1,ds1.set n (some (d.sync w1).2.2)):=by rw[hsy];exact if_neg e2
    rw[this]
    exact⟨rfl,H7.nd⟩
   ·refine⟨(i+1,(d.sync w1).2.1,ds1.set n (some (d.sync w1).2.2)),by dsimp only;rw[Go.Vc.wrap_small _ (by omega) (by omega)];rfl,⟨by dsimp only;omega,?_,H7.bQ 2 [1,0]⟩,by dsimp only;omega⟩
    rw[hsy];exact if_pos e2
 ·rw[List.drop_of_length_le (by omega)]at hsy
  rw[hsy]
  exact⟨rfl,H4.rest⟩
end
end Go.Qw
namespace Go.Vc
open Go Wl
theorem HP.pS {h:Heap}:∀{L:List HP} {q:al} {i:Nat} {A:HP},(HP.all L).p h q→L[i]?=some A→A.p h q
 |A::L,q,0,A',⟨q1,q2,_,b,_,d,_⟩,hi=>by simp at hi;subst hi;exact A.mono d b
 |A::L,q,i+1,A',⟨q1,q2,_,_,c,_,e⟩,hi=>A'.mono (HP.pS e (by simpa using hi)) c
 |[],_,i,_,_,hi=>by simp at hi
section
variable {α β:Type} {B:al} {h0 h:Heap} {As:List HP} {e e2 k:Nat} {s:Sl} {f:α→List Value} {ll:List (List α)}
theorem ab.Av (H:ab B h0 h (jp e s e2 k f ll::As)) (hw:∀x,(f x).length=k):∃rs,ab B h0 h (pC (uo k f) 1 fD s rs ll::As):=by
 obtain⟨rs,H⟩:=H.ri
 obtain⟨H,hl⟩:=H.pD
 refine⟨rs,H.mm 0 rfl fun q hq=>⟨?_,hl,fun i r l h1 h2=>?_⟩⟩
 ·have:=HP.pS (i:=0) hq rfl
  exact this.1.seq (fun _=>rfl) this.2
 ·have hi:i<ll.length:=(List.getElem?_eq_some_iff.1 h2).1
  have hg:=sU (e:=e2) (k:=k) (f:=f) hl i hi
  have:=HP.pS (i:=i+1) hq (by simpa using hg)
  have e1:rs[i]'(by omega)=r:=by rw[List.getElem?_eq_getElem (by omega)]at h1;simpa using h1
  have e2:ll[i]=l:=by rw[List.getElem?_eq_getElem hi]at h2;simpa using h2
  rw[e1,e2]at this
  exact this.1.seq hw this.2
end
end Go.Vc
namespace Wl
def cS (m:bw) (slots:List Int):List (Int×List UInt8):=slots.flatMap fun n=>(cJ m).map fun c=>(n,c)
theorem tx {m:bw} {slots:List Int} {x:Int×List UInt8} (h:x∈cS m slots):x.1∈slots∧x.2.length=64:=by
 unfold cS at h
 obtain⟨n,hn,hx⟩:=List.mem_flatMap.1 h
 obtain⟨c,hc,rfl⟩:=List.mem_map.1 hx
 exact⟨hn,uw hc⟩
end Wl
namespace Go.Qw
open Go Go.Vc Go.Proofs Wl
set_option maxRecDepth 100000
theorem qD (m:bw) (hz:jC m):(cJ m).length≤3000:=by
 have:=ol m hz
 unfold cJ dZ;simp;omega
abbrev zf:bl C.tokh pF cQ 2 [.int .i64 0,.slice none 0 0] 32:=⟨_,_,rfl,rfl,rfl,rfl,rfl,rfl⟩
section
variable {B:al} {h0 h h':Heap} {As:List HP} {a pw:Addr} {mc:List Value} {offs:Int} {da:List (Option Addr)} {w:Pow} {ds:bo}
theorem vX (s:Sl) (ys:List (Int×Sl)) (P:List (Int×List UInt8)) (hS:St B h0 As fun h=>lB ze 2 piv h s ys P) (hl:P.length≤2^30) (hin:∀x∈P,(0≤x.1∧x.1<64)∧x.2.length≤2^20) (H:ab B h0 h (bf bB a pw mc offs da w ds::As)):
  ah Tryz.prog uD #[.func (.func bZ) #[.pointer (some a)] #[],.slice s.ptr s.len s.cap] h fun v h'=>v=.int .i64 (layAll P w ds).1∧ab B h0 h' (bf bB a pw mc offs da (layAll P w ds).2.1 (layAll P w ds).2.2::As):=by
 refine tk (bZ,#[.pointer (some a)],#[]) s ?_
 unfold qu
 have hsl:=(hS.at [_] H).1.len
 have hyl:=(hS.at [_] H).2.1
 have H0:=(H.nil ax 1 ao).cI
 refine aF (fun t:Sl×Nat×Pow×bo=>(t.1,(t.2.1:Int))) (fun t h'=>t.2.1≤P.length∧iz P w ds=iz (P.drop t.2.1) t.2.2.1 t.2.2.2∧ab B h0 h' (ap ax t.1 1 ao ((P.take t.2.1).map Prod.fst)::bf bB a pw mc offs da t.2.2.1 t.2.2.2::As)) (fun t=>P.length-t.2.1) (⟨none,0,0⟩,0,w,ds) rfl ⟨by simp,rfl,by simpa using H0⟩ ?_
 rintro⟨o,i,w1,ds1⟩ h1 ⟨hi,hap,H1⟩
 dsimp only at*
 refine ak (fun e=>?_) (fun e=>?_)
 ·have hi':i<P.length:=by omega
  rw[List.drop_eq_getElem_cons hi',rV]at hap
  have F1:=hS.at [_,_] H1
  have hPi:=hin _ (List.getElem_mem hi')
  refine F1.1.rF (g:=piv) i rfl (by omega) (ys[i]'(by omega)) rfl ?_
  refine H1.alloc ag rfl fun a4 h2 H2=>?_
  have H2:=H2.cI
  refine H2.storeAll ag 0 rfl rfl (piv (ys[i]'(by omega))) rfl rfl rfl rfl fun h3 H3=>?_
  obtain⟨y1,y2⟩:=Fix.row (hS.at [_,_,_] H3) hi'
  have H3:ab B h0 h3 (aj a4 cQ (piv (ys[i]'(by omega)))::ap ax o 1 ao ((P.take i).map Prod.fst)::bf bB a pw mc offs da w1 ds1::As):=H3
  have H3:=H3.bQ 3 [2,0,1]
  obtain⟨ok,hb⟩:=ab.iA H3
  obtain⟨res,hres⟩:∃res,res=ek w1 ds1 P[i].1 P[i].2:=⟨_,rfl⟩
  rw[←hres]at hap
  refine bA (fun _ h'=>res.1=0∧ab B h0 h' (bf bB a pw mc offs da res.2.1 res.2.2::aj a4 cQ (piv (ys[i]'(by omega)))::ap ax o 1 ao ((P.take i).map Prod.fst)::As)) ?_ ?_
  ·refine bA (fun e h'=>e=res.1∧ab B h0 h' (bf bB a pw mc offs da res.2.1 res.2.2::aj a4 cQ (piv (ys[i]'(by omega)))::ap ax o 1 ao ((P.take i).map Prod.fst)::As)) ?_ ?_
   ·refine⟨P[i].1,by rw[←y1];exact(H3.box 1 rfl).cell0 rfl,(ys[i]'(by omega)).2,(H3.box 1 rfl).cell rfl,oE (by rfl) ?_⟩
    refine(nM P[i].1 ok hb).mono ?_
    rintro _ h4 ⟨rfl,rfl⟩
    refine⟨_,rfl,⟨(H3.box 1 rfl).cell rfl,trivial⟩,?_⟩
    rcases sy ok P[i].1 with⟨c1,c2⟩|⟨n,d,b,c0,c1,c2,c3,c4,c5⟩
    ·rw[c2]
     refine(pR (ys[i]'(by omega)).2 P[i].2 h4 y2).mono ?_
     rintro _ h5 ⟨rfl,rfl⟩
     have es:res=(if P[i].2.length≠64 then 1 else 5,w1,ds1):=by rw[hres];unfold ek;rw[c1]
     refine⟨_,rfl,trivial,by rw[es],?_⟩
     rw[es];exact H3
    ·rw[c5]
     obtain⟨b',hb',H5⟩:=Go.Vc.ab.qC H3 c2
     rw[c4]at hb'
     injection hb' with hb'
     injection hb' with hb'
     subst hb'
     refine(tu (ys[i]'(by omega)).2 P[i].2 H5 y2 hPi.2).mono ?_
     rintro _ h6 ⟨rfl,H6⟩
     have H7:=Go.Vc.ab.sx (k:=bB) (n:=n) c4 H6
     have es:res=((d.append w1 P[i].2).1,(d.append w1 P[i].2).2.1,ds1.set n (some (d.append w1 P[i].2).2.2)):=by
      rw[hres];unfold ek;rw[c3];simp only[uq,c0,Int.toNat_natCast]
     refine⟨_,rfl,trivial,by rw[es],?_⟩
     rw[es];exact H7
   ·rintro e4 h4 ⟨rfl,H4⟩
    refine cA (fun e2=>?_) fun e2=>⟨e2,H4⟩
    rw[if_neg e2]at hap
    have:layAll P w ds=res:=by unfold layAll;rw[hap];exact if_neg e2
    rw[this]
    exact⟨rfl,H4.nd.nd⟩
  ·rintro _ h4 ⟨e2,H4⟩
   rw[if_pos e2]at hap
   refine⟨P[i].1,by rw[←y1];exact(H4.box 1 rfl).cell0 rfl,?_⟩
   refine H4.push ag 2 rfl bF rfl (by decide) (fun _=>rfl) bC P[i].1 rfl (by decide) (by simp;omega) fun o' h5 H5=>?_
   refine⟨(o',i+1,res.2.1,res.2.2),by dsimp only;rw[Go.Vc.wrap_small _ (by omega) (by omega)];rfl,⟨by dsimp only;omega,hap,?_⟩,by dsimp only;omega⟩
   dsimp only
   rw[aD _ _ hi',List.map_append]
   exact H5.bQ 3 [2,0]
 ·have hie:i=P.length:=by omega
  subst hie
  rw[List.drop_length]at hap
  rw[List.take_length]at H1
  have H2:=(H1.freeze 0 rfl fun _=>rfl).bQ 2 [1,0]
  have hla:layAll P w ds=fb (cR (P.map Prod.fst)) w1 ds1:=by unfold layAll;rw[hap];rfl
  refine(uP o (P.map Prod.fst) (St.xz 0 rfl fun h' hh=>hh) (by simp;omega) (fun x hx=>?_) H2).mono ?_
  ·obtain⟨y,hy,rfl⟩:=List.mem_map.1 hx;exact(hin y hy).1
  ·rintro _ h2 ⟨rfl,H3⟩
   refine⟨_,rfl,by rw[hla],?_⟩
   rw[hla];exact H3.nd
theorem tz (x:cy) (m:bw) (s:Sl) (slots:List Int) (h:Heap) (hx:jB h x m) (hz:jC m) (hs:Rd h s 1 ao slots) (hsl:slots.length≤2^10):
  ah Tryz.prog si #[og x,.slice s.ptr s.len s.cap] h fun v h'=>∃(r:Sl) (ys:List (Int×Sl)),v=.slice r.ptr r.len r.cap∧Sp h h' [pC ze 2 piv r ys (cS m slots)]:=by
 refine qR x s ?_
 unfold nI
 refine(Sp.refl h).boxed fun a1 h1 H1=>?_
 refine⟨x,(H1.box 0 rfl).bh _ rfl,(pi x m h1 (hx.up H1.au) hz).mono ?_⟩
 rintro _ h2 ⟨r,rfl,R2⟩
 have H2:=H1.hJ R2
 refine⟨r,rfl,?_⟩
 obtain⟨rs,H2⟩:=H2.Av fun _=>rfl
 have hpl:=qD m hz
 obtain⟨pg,hpg⟩:∃pg,pg=cJ m:=⟨_,rfl⟩
 rw[←hpg]at H2 hpl
 have F2:=H2.xA 0 rfl
 have hrl:=F2.1.len
 have hrs:=F2.2.1
 have hsn:=hs.len
 obtain⟨T,hT⟩:∃T:Int→List ((Int×Sl)×(Int×List UInt8)),T=fun n=>(rs.zip pg).map fun z=>((n,z.1),(n,z.2)):=⟨_,rfl⟩
 have hTl:∀n,(T n).length=pg.length:=fun n=>by rw[hT];simp;omega
 have hTs:∀n,(T n).map Prod.snd=pg.map fun c=>(n,c):=fun n=>by
  have hz:=List.map_snd_zip (l₁:=rs) (l₂:=pg) (by omega)
  conv=>rhs;rw[←hz]
  rw[hT];simp[List.map_map,Function.comp_def]
 have hTg:∀n j (hj:j<pg.length),(T n)[j]'(by rw[hTl];exact hj)=((n,rs[j]'(by omega)),(n,pg[j])):=fun n j hj=>by subst hT;simp
 have H3:Sp h h2 [ap cQ ⟨none,0,0⟩ 2 piv (((slots.take 0).flatMap T).map Prod.fst),pC (uo 1 aE) 1 fD r rs pg]:=(H2.nil cQ 2 piv).cB [2,0]
 have htot:∀i,i≤slots.length→((slots.take i).flatMap T).length≤i*3000:=fun i=>by
  induction i with
  |zero=>simp
  |succ i ih=>
   intro hi
   rw[aD _ _ (show i<slots.length by omega),List.flatMap_append,List.length_append]
   have h1:=ih (by omega)
   have h2:([slots[i]].flatMap T).length=pg.length:=by rw[List.flatMap_cons,List.flatMap_nil,List.append_nil,hTl]
   omega
 refine aF (fun t:Sl×Nat=>(t.1,(t.2:Int))) (fun t h'=>t.2≤slots.length∧Sp h h' [ap cQ t.1 2 piv (((slots.take t.2).flatMap T).map Prod.fst),pC (uo 1 aE) 1 fD r rs pg]) (fun t=>slots.length-t.2) (⟨none,0,0⟩,0) rfl ⟨by simp,H3⟩ ?_
 rintro⟨o,i⟩ h3 ⟨hi,H3⟩
 dsimp only at*
 refine ak (fun e=>?_) (fun e=>?_)
 ·have hi':i<slots.length:=by omega
  have ht:=htot i hi
  have hb:i*3000≤2^10*3000:=Nat.mul_le_mul_right _ (by omega)
  refine(Seq.up hs H3.au).aO i rfl hi' slots[i] rfl ?_
  refine aF (fun t:Sl×Nat=>(t.1,(t.2:Int))) (fun t h'=>t.2≤pg.length∧Sp h h' [ap cQ t.1 2 piv (((slots.take i).flatMap T).map Prod.fst++((T slots[i]).take t.2).map Prod.fst),pC (uo 1 aE) 1 fD r rs pg]) (fun t=>pg.length-t.2) (o,0) rfl ⟨by simp,by simpa using H3⟩ ?_
  rintro⟨u,j⟩ h4 ⟨hj,H4⟩
  dsimp only at*
  refine ak (fun e2=>?_) (fun e2=>?_)
  ·have hj':j<pg.length:=by omega
   refine(H4.xA 1 rfl).1.Aq j rfl (by omega) ?_
   refine H4.push ag 0 rfl zf rfl (by decide) (fun _=>rfl) yv (slots[i],rs[j]'(by omega)) rfl (by decide) (by simp only[List.length_append,List.length_map,List.length_take,hTl];omega) fun u' h5 H5=>?_
   refine⟨(u',j+1),by dsimp only;rw[Go.Vc.wrap_small _ (by omega) (by omega)];rfl,⟨by dsimp only;omega,?_⟩,by dsimp only;omega⟩
   dsimp only
   rw[aD (T slots[i]) j (by rw[hTl];exact hj'),List.map_append,hTg _ _ hj',←List.append_assoc]
   exact H5
  ·have hje:j=pg.length:=by omega
   subst hje
   rw[List.take_of_length_le (l:=T slots[i]) (by rw[hTl];exact Nat.le_refl _)]at H4
   refine⟨(u,i+1),by dsimp only;rw[Go.Vc.wrap_small _ (by omega) (by omega)];rfl,⟨by dsimp only;omega,?_⟩,by dsimp only;omega⟩
   dsimp only
   rw[aD _ _ hi',List.flatMap_append,List.map_append,List.flatMap_cons,List.flatMap_nil,List.append_nil]
   exact H4
 ·have hie:i=slots.length:=by omega
  subst hie
  rw[List.take_length]at H3
  refine⟨o,(slots.flatMap T).map Prod.fst,rfl,?_⟩
  have H4:=(H3.freeze 0 rfl fun _=>rfl).rj
  refine H4.mm 0 rfl fun q ⟨q1,q2,_,b,c,z1,z2⟩=>?_
  have hsnd:(slots.flatMap T).map Prod.snd=cS m slots:=by
   unfold cS
   rw[List.map_flatMap,←hpg]
   congr 1;funext n;exact hTs n
  rw[←hsnd]
  refine⟨z2.mono c,by simp,fun j r' l' g1 g2=>?_⟩
  rw[List.getElem?_map]at g1 g2
  cases g3:(slots.flatMap T)[j]? with
  |none=>rw[g3]at g1;cases g1
  |some t=>
   rw[g3]at g1 g2;simp at g1 g2;subst g1;subst g2
   obtain⟨n,_,hn⟩:=List.mem_flatMap.1 (List.mem_of_getElem? g3)
   rw[hT]at hn
   obtain⟨z,hz2,rfl⟩:=List.mem_map.1 hn
   obtain⟨k,hk,rfl⟩:=List.mem_iff_getElem.1 hz2
   rw[List.getElem_zip]
   exact⟨rfl,(z1.2.2 k _ _ (List.getElem?_eq_getElem _) (List.getElem?_eq_getElem _)).mono b⟩
end
end Go.Qw
namespace Go.Qw
open Go Go.Vc Go.Proofs Wl
set_option maxRecDepth 100000
section
variable {B:al} {h0 h h':Heap} {As:List HP} {a:Addr} {w:Pow}
end
section
variable {B:al} {h0 h h':Heap} {As:List HP} {a pw:Addr} {d:bz} {w:Pow}
end
end Go.Qw
namespace Go.Qw
open Go Go.Vc Go.Proofs Wl
set_option maxRecDepth 100000
section
variable {B:al} {h0 h h':Heap} {As:List HP}
end
end Go.Qw
namespace Go.Qw
open Go Go.Vc Go.Proofs Wl
set_option maxRecDepth 100000
end Go.Qw
namespace Wl
open Go
end Wl
namespace Go.Qw
open Go Go.Vc Go.Proofs Wl
set_option maxRecDepth 100000
end Go.Qw
namespace Wl
open Go
end Wl
namespace Go.Qw
open Go Go.Vc Go.Proofs Wl
set_option maxRecDepth 100000
end Go.Qw
namespace Go.Qw
open Go Go.Vc Go.Proofs Wl
set_option maxRecDepth 100000
end Go.Qw
namespace Go.Vc
open Go Wl
def aN (l:List Int) (k:Nat):List Int:=((List.range k).map fun i:Nat=>(i:Int)).filter fun i=>decide (0<l.getD i.toNat 0)
def cq (l:List Int):List Int×Bool:=
 if l.all (cj · 0 512)then(aN l l.length,decide (l.length≤64)&&decide (0<(aN l l.length).length))else([],false)
theorem lM (l:List Int) (k:Nat) (hk:k<l.length):aN l (k+1)=aN l k++if 0<l[k]then[(k:Int)]else[]:=by
 unfold aN
 rw[List.range_succ,List.map_append,List.filter_append]
 congr 1
 simp only[List.map_cons,List.map_nil,List.filter_cons,List.filter_nil,Int.toNat_natCast,List.getD_eq_getElem?_getD,List.getElem?_eq_getElem hk,Option.getD_some]
 by_cases h:0<l[k]<;>simp[h]
theorem iT (l:List Int) (k:Nat):(aN l k).length≤k:=by
 unfold aN
 exact Nat.le_trans (List.length_filter_le _ _) (by simp)
end Go.Vc
namespace Go.Qw
open Go Go.Vc Go.Proofs Wl
section
set_option maxRecDepth 20000
theorem eR (s:Sl) (l:List Int) (h:Heap) (hs:Rd h s 1 ao l) (hl:l.length≤2^20):
  ah Tryz.prog oT #[.slice s.ptr s.len s.cap] h fun v h'=>∃r:Sl,v=.tuple #[.slice r.ptr r.len r.cap,.bool (cq l).2]∧Sp h h' [ap ax r 1 ao (cq l).1]:=by
 refine od s ?_
 unfold ky
 have hsl:=hs.len
 have H0:Sp h h [ap ax ⟨none,0,0⟩ 1 ao (aN l 0)]:=(Sp.refl h).nil ax 1 ao
 refine aF (fun t:Sl×Nat=>(t.1,(t.2:Int))) (fun t h'=>t.2≤l.length∧(l.take t.2).all (cj · 0 512)=true∧Sp h h' [ap ax t.1 1 ao (aN l t.2)]) (fun t=>l.length-t.2) (⟨none,0,0⟩,0) rfl ⟨by simp,by simp,H0⟩ ?_
 rintro⟨o,i⟩ h1 ⟨hi,hall,H1⟩
 dsimp only at*
 have hbad:∀(hi':i<l.length),cj l[i] 0 512=false→cq l=([],false):=fun hi' hb=>by
  unfold cq
  rw[if_neg]
  intro hc
  have:=List.all_eq_true.1 hc _ (List.getElem_mem hi')
  rw[hb]at this;cases this
 refine ak (fun e=>?_) (fun e=>?_)
 ·have hi':i<l.length:=by omega
  have hpl:=iT l i
  refine(Seq.up hs H1.au).aO i rfl hi' l[i] rfl ?_
  refine aM (ak (fun e1=>?_) (fun e1=>ak (fun e2=>?_) (fun e2=>?_)))
  ·have hb:=hbad hi' (by unfold cj;simp;omega)
   rw[hb]
   exact⟨⟨none,0,0⟩,rfl,(H1.cB []).nil ax 1 ao⟩
  ·have hb:=hbad hi' (by unfold cj;simp;omega)
   rw[hb]
   exact⟨⟨none,0,0⟩,rfl,(H1.cB []).nil ax 1 ao⟩
  ·have hall':(l.take (i+1)).all (cj · 0 512)=true:=by
    rw[aD l i hi',List.all_append,hall,Bool.true_and,List.all_cons,List.all_nil,Bool.and_true]
    unfold cj;simp;omega
   refine ak (fun e3=>?_) (fun e3=>?_)
   ·refine H1.push ag 0 rfl bF rfl (by decide) (fun _=>rfl) bC (i:Int) rfl (by decide) (by omega) fun o' h4 H4=>?_
    refine⟨(o',i+1),by dsimp only;rw[Go.Vc.wrap_small _ (by omega) (by omega)];rfl,⟨by dsimp only;omega,hall',?_⟩,by dsimp only;omega⟩
    dsimp only
    rw[lM l i hi',if_pos (by omega)]
    exact H4
   ·refine⟨(o,i+1),by dsimp only;rw[Go.Vc.wrap_small _ (by omega) (by omega)];rfl,⟨by dsimp only;omega,hall',?_⟩,by dsimp only;omega⟩
    dsimp only
    rw[lM l i hi',if_neg (by omega),List.append_nil]
    exact H1
 ·have hie:i=l.length:=by omega
  subst hie
  rw[List.take_length]at hall
  have hol:=(H1.own 0 rfl).len
  have hp:cq l=(aN l l.length,decide (l.length≤64)&&decide (0<(aN l l.length).length)):=by unfold cq;rw[if_pos hall]
  rw[hp]
  refine ak (fun e1=>⟨o,?_,H1⟩) (fun e1=>⟨o,?_,H1⟩)
  ·dsimp only
   rw[decide_eq_true (show l.length≤64 by omega),Bool.true_and]
   congr 4
   refine congrArg Value.bool ?_
   rw[decide_eq_decide];omega
  ·dsimp only
   rw[decide_eq_false (show¬l.length≤64 by omega),Bool.false_and]
end
end Go.Qw
namespace Go.Qw
open Go Go.Vc Go.Proofs Wl
section
set_option maxRecDepth 20000
variable {B:al} {h0 h:Heap} {As:List HP} {a pw:Addr} {offs:Int} {da:List (Option Addr)} {w:Pow} {ds:bo}
end
end Go.Qw
namespace Go.Vc
open Go Wl
def iq (w:Pow) (offs:Int):Bool:=w.off||w.offs !=offs
end Go.Vc
namespace Go.Qw
open Go Go.Vc Go.Proofs Wl
section
set_option maxRecDepth 20000
variable {B:al} {h0 h:Heap} {As:List HP} {a pw:Addr} {mc:List Value} {offs:Int} {da:List (Option Addr)} {w:Pow} {ds:bo}
theorem ab.yw (H:ab B h0 h (bf bB a pw mc offs da w ds::As)):∃l,pe w l∧bL h pw aS (powC w l):=by
 obtain⟨ok,H1⟩:=Go.Vc.ab.lr H
 have H2:=H1.rest
 obtain⟨l,hl,H3⟩:=ab.nh H2
 exact⟨l,hl,H3.box 0 rfl⟩
theorem kB (H:ab B h0 h (bf bB a pw mc offs da w ds::As)):
  ah Tryz.prog lS #[.pointer (some a)] h fun v h'=>v=.bool (iq w offs)∧h'=h:=by
 refine li (some a) ?_
 unfold gH
 obtain⟨ok,hb⟩:=ab.iA H
 obtain⟨l,hl,hp⟩:=ab.yw H
 have c8:cellOf h (a.add 8)=some (.pointer (some pw)):=hb.cell (wX ok.l8)
 have c9:cellOf h (a.add 9)=some (.int .i64 offs):=hb.cell (uO ok.l8)
 refine bT (fun _=>?_) (fun e=>by cases e)
 refine⟨a,rfl,some pw,c8,(pQ l hp).mono ?_⟩
 rintro _ _ ⟨rfl,rfl⟩
 refine⟨_,rfl,trivial,bv (fun e=>⟨trivial,?_⟩) fun e=>?_⟩
 ·have e':w.off=true:=by simpa using e
  exact⟨by unfold iq;rw[e'];rfl,rfl⟩
 ·have e':w.off=false:=by simpa using e
  refine⟨a,rfl,some pw,c8,a,rfl,offs,c9,(qz l hp).mono ?_⟩
  rintro _ _ ⟨rfl,rfl⟩
  exact⟨_,rfl,⟨c9,trivial⟩,by unfold iq;rw[e'];rfl,rfl⟩
end
end Go.Qw
namespace Go.Vc
open Go Wl
section
variable {k:Kit} {B:al} {h0 h:Heap} {As:List HP} {a pw:Addr} {mc:List Value} {offs:Int} {w:Pow}
theorem ab.zg (H:ab B h0 h As):∀n,ab B h0 h (List.replicate n emp++As)
 |0=>H
 |n+1=>(((ab.zg H n).comp (.one (A:=emp) (az.refl _ _) trivial)).cI:ab B h0 h (emp::(List.replicate n emp++As)))
theorem ab.vY (h8:mc.length=8) (H:ab B h0 h (aj a k.tS (bt mc pw offs (List.replicate 64 none))::bG k.tP pw w::As)):ab B h0 h (bf k a pw mc offs (List.replicate 64 none) w (List.replicate 64 none)::As):=by
 have ok:cl mc (List.replicate 64 none) (List.replicate 64 (none:Option bz)):=⟨h8,by simp,by simp,fun i=>by
  simp only[List.getD_eq_getElem?_getD,List.getElem?_replicate];split<;>rfl⟩
 have hd:cP k pw (List.replicate 64 none) (List.replicate 64 (none:Option bz))=List.replicate 64 emp:=by
  simp[cP,zd]
 refine ab.mN ok ?_
 rw[hd]
 have H2:=ab.zg H 64
 refine H2.pick (fun i=>if i=0 then 64 else if i=1 then 65 else if i<66 then i-2 else i) (fun x y hab=>by(try dsimp only at hab);split at hab<;>split at hab<;>(try split at hab)<;>(try split at hab)<;>(try split at hab)<;>(try split at hab)<;>omega) fun i A hi=>?_
 rcases i with _|_|i
 ·simpa using hi
 ·simpa using hi
 ·by_cases hc:i<64
  ·have e1:(List.replicate 64 emp++As)[i]?=some A:=hi
   rw[List.getElem?_append_left (by simpa using hc)]at e1
   try dsimp only
   rw[if_neg (by omega),if_neg (by omega),if_pos (by omega),List.getElem?_append_left (by simp;omega)]
   simpa using e1
  ·have e1:(List.replicate 64 emp++As)[i]?=some A:=hi
   rw[List.getElem?_append_right (by simp;omega)]at e1
   try dsimp only
   rw[if_neg (by omega),if_neg (by omega),if_neg (by omega),List.getElem?_append_right (by simp;omega)]
   simp only[List.length_replicate]at e1⊢
   obtain⟨j,rfl⟩:∃j,i=j+64:=⟨i-64,by omega⟩
   have e2:j+64+1+1-64=j+1+1:=by omega
   rw[e2]
   simpa using e1
end
end Go.Vc
namespace Go.Qw
open Go Go.Vc Go.Proofs Wl
section
set_option maxRecDepth 20000
theorem vZ (x:cy) (pw:Addr) (offs:Int):aq Tryz.prog (Instr.build dQ #[(0,og x),(1,.pointer (some pw)),(2,.int .i64 offs)]) (.agg (bt (bI x) pw offs (List.replicate 64 none)).toArray):=
 mo ag (i:=_) rfl rfl rfl (vs:=[(0,og x),(1,.pointer (some pw)),(2,.int .i64 offs)]) (cells:=(bt (bI x) pw offs (List.replicate 64 none)).toArray) (by kernel_rfl)
end
end Go.Qw
namespace Go.Vc
open Go Wl
section
variable {k:Kit} {B:al} {h0 h:Heap} {As:List HP} {a pw b:Addr} {mc:List Value} {offs:Int} {da:List (Option Addr)} {w:Pow} {ds:bo} {d:bz} {n:Nat}
theorem wa (h8:mc.length=8):(bt mc pw offs da).set (10+n) (.pointer (some b))=bt mc pw offs (da.set n (some b)):=by
 unfold bt
 rw[List.set_append_right _ _ (by omega),h8,show 10+n-8=n+1+1 by omega,List.set_cons_succ,List.set_cons_succ,List.map_set]
theorem ab.yx (ok:cl mc da ds) (hn:n<64) (hd:ds[n]?=some none) (H:ab B h0 h (aj a k.tS (bt mc pw offs (da.set n (some b)))::bG k.tP pw w::(cP k pw da ds++(dL k.tD (k.f pw) b d::As)))):ab B h0 h (bf k a pw mc offs (da.set n (some b)) w (ds.set n (some d))::As):=by
 have hda:=ok.vV hn hd
 have hla:=ok.la
 have hls:=ok.ls
 have ok':cl mc (da.set n (some b)) (ds.set n (some d)):=⟨ok.l8,by simp[hla],by simp[hls],fun i=>by
  by_cases hin:n=i
  ·subst hin
   rw[List.getD_eq_getElem?_getD,List.getD_eq_getElem?_getD,List.getElem?_set_self (by omega),List.getElem?_set_self (by omega)];rfl
  ·have:=ok.same i
   rw[List.getD_eq_getElem?_getD,List.getD_eq_getElem?_getD]at this⊢
   rw[List.getElem?_set_ne hin,List.getElem?_set_ne hin];exact this⟩
 have hll:=sw (k:=k) (pw:=pw) ok
 have hL:(cP k pw da ds)[n]?=some emp:=by
  simp only[cP,List.getElem?_zipWith,hda,hd];rfl
 have hset:cP k pw (da.set n (some b)) (ds.set n (some d))=(cP k pw da ds).set n (dL k.tD (k.f pw) b d):=by
  apply List.ext_getElem?
  intro j
  simp only[cP,List.getElem?_set,List.getElem?_zipWith,List.length_zipWith]
  by_cases hij:n=j
  ·subst hij
   rw[if_pos rfl,if_pos (by omega),if_pos rfl,if_pos (by omega),if_pos rfl,if_pos (by omega)];rfl
  ·simp[hij]
 refine ab.mN ok' ?_
 rw[hset]
 obtain⟨L,hLe⟩:∃L,L=cP k pw da ds:=⟨_,rfl⟩
 rw[←hLe]at H hL hll⊢
 have H1:=H.cons (L.length+2) (A:=dL k.tD (k.f pw) b d) (by
  rw[List.getElem?_cons_succ,List.getElem?_cons_succ,List.getElem?_append_right (Nat.le_refl _),Nat.sub_self];rfl)
 have e:(aj a k.tS (bt mc pw offs (da.set n (some b)))::bG k.tP pw w::(L++(dL k.tD (k.f pw) b d::As))).set (L.length+2) emp=aj a k.tS (bt mc pw offs (da.set n (some b)))::bG k.tP pw w::(L++(emp::As)):=by
  rw[List.set_cons_succ,List.set_cons_succ,List.set_append_right _ _ (Nat.le_refl _),Nat.sub_self];rfl
 rw[e]at H1
 have H2:=H1.bQ 3 [0,2,1]
 have hLs:L.set n emp=L:=by
  obtain⟨h1,h2⟩:=List.getElem?_eq_some_iff.1 hL
  conv=>lhs;rw[←h2]
  exact List.set_getElem_self h1
 have H3:ab B h0 h (dL k.tD (k.f pw) b d::bG k.tP pw w::aj a k.tS (bt mc pw offs (da.set n (some b)))::(L.set n emp++(emp::As))):=by rw[hLs];exact H2
 have H4:=ab.tZ n (by omega) H3
 have H5:=ab.closeAll (aj a k.tS (bt mc pw offs (da.set n (some b)))::bG k.tP pw w::L.set n (dL k.tD (k.f pw) b d)) H4
 exact ab.km (L:=aj a k.tS (bt mc pw offs (da.set n (some b)))::bG k.tP pw w::L.set n (dL k.tD (k.f pw) b d)) H5.nd
end
end Go.Vc
namespace Go.Vc
open Go Wl Go.Qw
def cD (p:Pm) (extra:Int) (l:List Int):bw:=⟨1,0,p,extra,aN l l.length,[]⟩
def dV (l:List Int) (k:Nat):bo:=(List.range 64).map fun i:Nat=>if(i:Int)∈(aN l l.length).take k then some (bz.new (l.getD i 0).toNat)else none
def aV (p:Pm) (extra:Int) (w:Pow) (l:List Int):Int×Pow×bo:=
 if(cq l).2&&(gN p&&cj extra 0 16)then
  if(aN l l.length).any fun i=>decide (l.getD i.toNat 0<((cJ (cD p extra l)).length:Int))then(7,w,[])
  else layAll (cS (cD p extra l) (aN l l.length)) w (dV l (aN l l.length).length)
 else(1,w,[])
end Go.Vc
namespace Go.Vc
open Go Wl Go.Qw
theorem sB (l:List Int):dV l 0=List.replicate 64 none:=by
 unfold dV
 rw[List.take_zero]
 apply List.ext_getElem?
 intro j
 simp only[List.getElem?_map,List.getElem?_replicate,List.getElem?_range,List.not_mem_nil,if_false]
 by_cases h:j<64
 ·simp[h,List.getElem?_range]
 ·simp[h]
theorem sC (l:List Int) (k n:Nat) (hk:k<(aN l l.length).length) (hn:(aN l l.length)[k]=(n:Int)) (h64:n<64):(dV l k).set n (some (bz.new (l.getD n 0).toNat))=dV l (k+1):=by
 apply List.ext_getElem?
 intro j
 unfold dV
 rw[aD _ _ hk,hn,List.getElem?_set,List.length_map,List.length_range]
 by_cases hj:j<64
 ·simp only[List.getElem?_map,List.getElem?_range hj,Option.map_some,List.mem_append,List.mem_singleton]
  by_cases hnj:n=j
  ·subst hnj
   rw[if_pos rfl,if_pos h64,if_pos (Or.inr rfl)]
  ·rw[if_neg hnj]
   have:¬(j:Int)=(n:Int):=by omega
   simp only[this,or_false]
 ·rw[if_neg (by omega)]
  rw[List.getElem?_eq_none (by simp;omega),List.getElem?_eq_none (by simp;omega)]
theorem sD (l:List Int) (k:Nat) (x:Int):x∈aN l k↔∃n:Nat,n<k∧x=(n:Int)∧0<l.getD n 0:=by
 unfold aN
 rw[List.mem_filter,List.mem_map]
 constructor
 ·rintro⟨⟨n,h1,rfl⟩,h2⟩
  exact⟨n,List.mem_range.1 h1,rfl,by simpa using h2⟩
 ·rintro⟨n,h1,rfl,h2⟩
  exact⟨⟨n,List.mem_range.2 h1,rfl⟩,by simpa using h2⟩
theorem tA (l:List Int) (k i:Nat) (hi:i<(aN l k).length):∃n:Nat,n<k∧(aN l k)[i]=(n:Int)∧0<l.getD n 0:=(sD l k _).1 (List.getElem_mem hi)
end Go.Vc
namespace Wl
open Go
structure Fit (ds:bo) (S Q:List Int):Prop where
 len:ds.length=64
 at_:∀s∈S,∃d,tU ds s=some d∧d.lost=false∧d.l.length+Q.count s≤d.room
end Wl
namespace Go.Vc
open Go Wl Go.Qw
theorem pT (l:List Int) (k:Nat):(aN l k).Nodup:=by
 unfold aN
 refine List.Pairwise.filter _ (List.pairwise_map.2 ?_)
 exact(List.nodup_range (n:=k)).imp fun h=>by omega
end Go.Vc
namespace Wl
open Go
end Wl
namespace Go.Vc
open Go Wl
end Go.Vc
namespace Go.Qw
open Go Go.Vc Go.Proofs Wl
set_option maxRecDepth 100000
section
variable {B:al} {h0 h h':Heap} {As:List HP} {a pw:Addr} {mc:List Value} {offs:Int} {da:List (Option Addr)} {w:Pow} {ds:bo}
end
end Go.Qw
namespace Go.Qw
open Go Go.Vc Go.Proofs Wl
set_option maxRecDepth 100000
section
variable {B:al} {h0 h h':Heap} {As:List HP} {a pw:Addr} {mc:List Value} {offs:Int} {da:List (Option Addr)} {w:Pow} {ds:bo}
end
end Go.Qw
namespace Go.Qw
open Go Go.Vc Go.Proofs Wl
set_option maxRecDepth 100000
end Go.Qw
namespace Go.Qw
open Go Go.Vc Go.Proofs
set_option maxRecDepth 100000
end Go.Qw
namespace Go.Qw
open Go Go.Vc Go.Proofs Wl
set_option maxRecDepth 100000
end Go.Qw
namespace Go.Qw
open Go Go.Vc Go.Proofs Wl
set_option maxRecDepth 100000
end Go.Qw
namespace Go.Qw
open Go Go.Vc Go.Proofs Wl
set_option maxRecDepth 100000
section
variable {B B':al} {h0 h0' h h':Heap} {As As':List HP} {a b pw pw2:Addr} {d:bz}
end
end Go.Qw
namespace Go.Qw
open Go Go.Vc Go.Proofs Wl
section
set_option maxRecDepth 20000
variable {B:al} {h0 h:Heap} {As:List HP} {a a2 pw pw2:Addr} {mc:List Value} {offs:Int} {da da2:List (Option Addr)} {w:Pow} {ds:bo}
end
end Go.Qw
namespace Go.Qw
open Go Go.Vc Go.Proofs Wl
section
set_option maxRecDepth 20000
variable {B:al} {h0 h:Heap} {As:List HP} {a pw b:Addr} {x:cy} {offs:Int} {da:List (Option Addr)} {w:Pow} {ds:bo} {d:bz}
theorem ab.wY (n:Nat) (hn:n<64) (hd:ds[n]?=some none) (H:ab B h0 h (bf bB a pw (bI x) offs da w ds::mL pw b d::As)) {K:Unit→Heap→Prop}
  (hk:∀h',ab B h0 h' (bf bB a pw (bI x) offs (da.set n (some b)) w (ds.set n (some d))::As)→K () h'):
  aa Tryz.prog (Instr.storeAt nk (.pointer (some ((a.add 10).add n))) (.pointer (some b))) h K:=by
 obtain⟨ok,H1⟩:=Go.Vc.ab.lr H
 have he:(a.add 10).add n=a.add (10+n):=by unfold Addr.add;simp[Nat.add_assoc]
 rw[he]
 refine H1.storeAt ag 0 rfl rfl rfl rfl rfl (by simp[ok.la];omega) fun h' H2=>hk h' ?_
 rw[List.set_cons_zero,wa ok.l8]at H2
 exact ab.yx ok hn hd H2
end
end Go.Qw
namespace Go.Vc
open Go Wl Go.Qw
theorem uQ {l:List Int} (h:(cq l).2=true):(cq l).1=aN l l.length∧l.length≤64∧∀n:Nat,l.getD n 0≤512:=by
 unfold cq at h⊢
 by_cases ha:l.all (cj · 0 512)=true
 ·rw[if_pos ha]at h⊢
  refine⟨rfl,by simp at h;exact h.1,fun n=>?_⟩
  rw[List.getD_eq_getElem?_getD]
  by_cases hn:n<l.length
  ·rw[List.getElem?_eq_getElem hn]
   have:=List.all_eq_true.1 ha _ (List.getElem_mem hn)
   unfold cj at this;simp at this⊢;omega
  ·rw[List.getElem?_eq_none (by omega)];simp
 ·rw[if_neg ha]at h;cases h
theorem sE (l:List Int) (i n:Nat) (hi:i<(aN l l.length).length) (hn:(aN l l.length)[i]=(n:Int)) (h64:n<64):(dV l i)[n]?=some none:=by
 unfold dV
 rw[List.getElem?_map,List.getElem?_range h64,Option.map_some,if_neg]
 intro hc
 obtain⟨j,hj,hj2⟩:=List.mem_take_iff_getElem.1 hc
 have:=mr (pT l l.length) (a:=j) (b:=i) (by omega) hi (by rw[hj2,hn])
 omega
theorem nN (m:bw):∀S:List Int,(cS m S).length=S.length*(cJ m).length
 |[]=>by simp[cS]
 |n::S=>by
  have e:cS m (n::S)=(cJ m).map (fun c=>(n,c))++cS m S:=by unfold cS;rw[List.flatMap_cons]
  rw[e,List.length_append,List.length_map,nN m S,List.length_cons,Nat.succ_mul,Nat.add_comm]
theorem uR (p:Pm) (extra:Int) (l:List Int) (hl:l.length≤64):jC (cD p extra l):=⟨by have:=iT l l.length;simp[cD];omega,by simp[cD],by simp[cD]⟩
end Go.Vc
namespace Go.Qw
open Go Go.Vc Go.Proofs Wl
section
set_option maxRecDepth 20000
variable {B:al} {h0 h:Heap} {As:List HP} {pw:Addr} {w:Pow}
theorem tB (p:Pm) (extra:Int) (s:Sl) (l:List Int) (hS:St B h0 As fun h=>Rd h s 1 ao l) (hl:l.length≤2^20) (H:ab B h0 h (bG aS pw w::As)):
  ah Tryz.prog oS #[jy p,.int .i64 extra,.pointer (some pw),.slice s.ptr s.len s.cap] h fun v h'=>
   ((aV p extra w l).1≠0→v=.tuple #[.pointer none,.int .i64 (aV p extra w l).1]∧ab B h0 h' As)∧
   ((aV p extra w l).1=0→∃(a:Addr) (x:cy) (da:List (Option Addr)),v=.tuple #[.pointer (some a),.int .i64 0]∧ab B h0 h' (bf bB a pw (bI x) w.offs da (aV p extra w l).2.1 (aV p extra w l).2.2::gW x (cD p extra l)::As)):=by
 refine oa p extra (some pw) s ?_
 unfold kw
 refine H.boxed fun a1 h1 H1=>?_
 have H1:=H1.cI
 refine(eR s l h1 (hS.at [_,_] H1) hl).mono ?_
 rintro _ h2 ⟨r,rfl,R2⟩
 have H2:=H1.hJ R2
 refine⟨(r,(cq l).2),rfl,?_⟩
 have bad:∀{h':Heap},ab B h0 h' As→((cq l).2&&(gN p&&cj extra 0 16))=false→
   ((aV p extra w l).1≠0→Value.tuple #[.pointer none,.int .i64 1]=.tuple #[.pointer none,.int .i64 (aV p extra w l).1]∧ab B h0 h' As)∧
   ((aV p extra w l).1=0→∃(a:Addr) (x:cy) (da:List (Option Addr)),Value.tuple #[.pointer none,.int .i64 1]=.tuple #[.pointer (some a),.int .i64 0]∧ab B h0 h' (bf bB a pw (bI x) w.offs da (aV p extra w l).2.1 (aV p extra w l).2.2::gW x (cD p extra l)::As)):=fun{h'} H' hc=>by
  have e:aV p extra w l=(1,w,[]):=by unfold aV;rw[hc];rfl
  rw[e]
  exact⟨fun _=>⟨rfl,H'⟩,fun h=>absurd h (show¬(1:Int)=0 by decide)⟩
 refine aM (bv (fun e=>bad H2.rest.rest.rest (by rw[e];rfl)) fun e=>?_)
 have ep:(cq l).2=true:=by simpa using e
 obtain⟨ep1,el64,el512⟩:=uQ ep
 refine⟨p,(H2.box 1 rfl).bh _ rfl,(iQ p h2).mono ?_⟩
 rintro _ h3 ⟨rfl,R3⟩
 have H3:ab B h0 h3 (ap ax r 1 ao (cq l).1::aj a1 cY [.int .i64 p.1,.int .i64 p.2.1,.int .i64 p.2.2]::bG aS pw w::As):=by
  have:=H2.comp R3
  rw[List.append_nil]at this;exact this
 refine⟨_,rfl,bv (fun e2=>bad H3.rest.rest.rest (by rw[e2];simp)) fun e2=>?_⟩
 have em:gN p=true:=by simpa using e2
 refine ak (fun e3=>bad H3.rest.rest.rest (by unfold cj;simp;omega)) fun e3=>ak (fun e4=>bad H3.rest.rest.rest (by unfold cj;simp;omega)) fun e4=>bT (fun e5=>by cases e5) fun _=>?_
 rw[ep1]at H3
 refine aM ⟨p,(H3.box 1 rfl).bh _ rfl,?_⟩
 obtain⟨lw,hlw,H3p⟩:=(H3.bQ 3 [2,1,0]).nh
 refine(qz lw (H3p.box 0 rfl)).mono ?_
 rintro _ h4 ⟨rfl,rfl⟩
 have hb3:=H3.box 1 rfl
 refine⟨_,rfl,⟨hb3.cell0 rfl,hb3.cell rfl,hb3.cell rfl,trivial⟩,?_⟩
 obtain⟨m,hm⟩:∃m,m=cD p extra l:=⟨_,rfl⟩
 refine⟨_,vZ (1,0,p.1,p.2.1,p.2.2,extra,r,⟨none,0,0⟩) pw w.offs,?_⟩
 refine H3.boxed fun a9 h6 H6=>?_
 obtain⟨x,hx⟩:∃x:cy,x=(1,0,p.1,p.2.1,p.2.2,extra,r,⟨none,0,0⟩):=⟨_,rfl⟩
 rw[←hx]at H6
 have ecell:(Value.agg (bt (bI x) pw w.offs (List.replicate 64 none)).toArray).cells.toList=bt (bI x) pw w.offs (List.replicate 64 none):=by simp[Value.cells]
 rw[ecell]at H6
 have H6:=H6.cI
 have hb6:=H6.box 2 rfl
 refine⟨⟨hb6.cell0 rfl,hb6.cell rfl,hb6.cell rfl,trivial⟩,?_⟩
 have H6:ab B h0 h6 (aj a9 dQ (bt (bI x) pw w.offs (List.replicate 64 none))::bG aS pw w::ap ax r 1 ao (aN l l.length)::As):=H6.bQ 4 [0,3,1]
 have H6:=ab.vY (k:=bB) (h8:=by simp) H6
 obtain⟨P,hP⟩:∃P,P=aN l l.length:=⟨_,rfl⟩
 rw[←hP]at H6
 have hz:jC m:=hm▸uR p extra l el64
 have hPl:P.length≤64:=by rw[hP];exact Nat.le_trans (iT _ _) el64
 have hmx:∀{h':Heap} {Bs:List HP} {X:HP},ab B h0 h' (X::ap ax r 1 ao P::Bs)→jB h' x m:=fun{h' Bs X} H'=>by
  have hs:=H'.seq 1 rfl fun _=>rfl
  have hc:=(H'.own 1 rfl).cap
  subst hx;subst hm
  exact⟨rfl,rfl,rfl,rfl,by show Seq _ _ r 1 ao (aN l l.length);rw[←hP];exact hs,cW.nil _ _ _ _,hc,Nat.le_refl _⟩
 have hok:((cq l).2&&(gN p&&cj extra 0 16))=true:=by
  rw[ep,em];unfold cj;simp;omega
 have fokP:(P.any fun i=>decide (l.getD i.toNat 0<((cJ m).length:Int)))=true→aV p extra w l=(7,w,[]):=fun hh=>by
  unfold aV;rw[if_pos hok,←hP,←hm,if_pos hh]
 have fokN:(P.any fun i=>decide (l.getD i.toNat 0<((cJ m).length:Int)))=false→aV p extra w l=layAll (cS m P) w (dV l P.length):=fun hh=>by
  unfold aV;rw[if_pos hok,←hP,←hm,hh,if_neg (by decide)]
 have hat:∀i (hi:i<P.length),∃n:Nat,n<l.length∧P[i]=(n:Int)∧0<l.getD n 0:=by
  subst hP;exact fun i hi=>tA l l.length i hi
 refine aF (fun i:Nat=>(i:Int)) (fun i h'=>i≤P.length∧((P.take i).any fun i=>decide (l.getD i.toNat 0<((cJ m).length:Int)))=false∧ab B h0 h' (bf bB a9 pw (bI x) w.offs (List.replicate 64 none) w (List.replicate 64 none)::ap ax r 1 ao P::As)) (fun i=>P.length-i) 0 rfl ⟨by omega,by simp,H6⟩ ?_
 rintro i h7 ⟨hi,hall,H7⟩
 dsimp only at*
 obtain⟨okc,hb7⟩:=ab.iA H7
 have hrl:r.len=P.length:=(H7.own 1 rfl).len
 refine ak (fun e5=>?_) (fun e5=>?_)
 ·have hi':i<P.length:=by omega
  obtain⟨n,hn,en,hpos⟩:=hat i hi'
  refine(H7.seq 1 rfl fun _=>rfl).aO i rfl hi' (n:Int) (by rw[en];rfl) ?_
  refine(hS.at [_,_] H7).kO n rfl hn (l.getD n 0) (by rw[getD_lt hn];rfl) fun a14 hc14=>?_
  refine⟨a9,rfl,x,hb7.bh _ (by rfl),(pi x m h7 (hmx H7) hz).mono ?_⟩
  rintro _ h9 ⟨u,rfl,R9⟩
  have H9:=H7.hJ R9
  have hul:=(ab.yW H9).1
  refine⟨u,rfl,qm R9.au ⟨hc14,trivial⟩,?_⟩
  refine ak (fun e6=>?_) (fun e6=>?_)
  ·rw[fokP (List.any_eq_true.2 ⟨P[i],List.getElem_mem hi',by rw[en,Int.toNat_natCast];exact decide_eq_true (by omega)⟩)]
   exact⟨fun _=>⟨rfl,H9.rest.rest.rest⟩,fun h=>absurd h (show¬(7:Int)=0 by decide)⟩
  ·refine⟨i+1,by rw[Go.Vc.wrap_small _ (by omega) (by omega)];rfl,⟨by omega,?_,H9.rest⟩,by omega⟩
   rw[aD _ _ hi',List.any_append,hall,Bool.false_or,List.any_cons,List.any_nil,Bool.or_false,en,Int.toNat_natCast]
   exact decide_eq_false (by omega)
 ·have hPi:i=P.length:=by omega
  subst hPi
  rw[List.take_length]at hall
  have fok:=fokN hall
  rw[←sB l]at H7
  refine aF (fun t:Nat×List (Option Addr)=>(t.1:Int)) (fun t h'=>t.1≤P.length∧ab B h0 h' (bf bB a9 pw (bI x) w.offs t.2 w (dV l t.1)::ap ax r 1 ao P::As)) (fun t=>P.length-t.1) (0,List.replicate 64 none) rfl ⟨by simp,H7⟩ ?_
  rintro⟨i,da⟩ h10 ⟨hi,H10⟩
  dsimp only at*
  obtain⟨okd,hb10⟩:=ab.iA H10
  refine ak (fun e6=>?_) (fun e6=>?_)
  ·have hi':i<P.length:=by omega
   obtain⟨n,hn,en,hpos⟩:=hat i hi'
   have h512:=el512 n
   refine(H10.seq 1 rfl fun _=>rfl).aO i rfl hi' (n:Int) (by rw[en];rfl) ?_
   refine(hS.at [_,_] H10).aO n rfl hn (l.getD n 0) (by rw[getD_lt hn];rfl) ?_
   refine⟨a9,rfl,(uK (l.getD n 0) pw h10).mono ?_⟩
   rintro _ h11 ⟨Q1,_⟩
   obtain⟨b,rfl,R11⟩:=Q1 (by omega)
   have H11:=(H10.hJ R11).bQ 2 [1,0]
   refine⟨_,rfl,trivial,⟨by omega,by omega⟩,?_⟩
   rw[Int.toNat_natCast,Nat.mul_one]
   have hiQ:i<(aN l l.length).length:=by rw[←hP];exact hi'
   have enQ:(aN l l.length)[i]=(n:Int):=by rw[←en];simp only[hP]
   refine Go.Qw.ab.wY n (by omega) (sE l i n hiQ enQ (by omega)) H11 fun h12 H12=>?_
   refine⟨trivial,(i+1,da.set n (some b)),by dsimp only;rw[Go.Vc.wrap_small _ (by omega) (by omega)];rfl,⟨by dsimp only;omega,?_⟩,by dsimp only;omega⟩
   dsimp only
   rw[←sC l i n hiQ enQ (by omega)]
   exact H12
  ·have hPi:i=P.length:=by omega
   subst hPi
   refine⟨a9,rfl,x,hb10.bh _ (by rfl),(tz x m r P h10 (hmx H10) hz (H10.seq 1 rfl fun _=>rfl) (by omega)).mono ?_⟩
   rintro _ h13 ⟨u,ys,rfl,R13⟩
   have H13:=(H10.hJ R13).bQ 2 [1,0]
   refine⟨u,rfl,?_⟩
   have hspl:=qD m hz
   refine(vX u ys (cS m P) (St.xz 0 rfl fun _ hq=>hq) ?_ ?_ H13).mono ?_
   ·rw[nN]
    have:=Nat.mul_le_mul hPl hspl
    omega
   ·intro y hy
    obtain⟨hy1,hy2⟩:=tx hy
    obtain⟨i,hi,e⟩:=List.getElem_of_mem hy1
    obtain⟨n,hn,en,_⟩:=hat i hi
    rw[←e,en,hy2]
    exact⟨⟨by omega,by omega⟩,by decide⟩
   rintro _ h14 ⟨rfl,H14⟩
   rw[fok]
   refine⟨_,rfl,cA (fun e7=>⟨fun _=>⟨rfl,H14.rest.rest.rest⟩,fun h=>absurd h e7⟩) fun e7=>⟨fun h=>absurd e7 h,fun _=>⟨a9,x,da,rfl,?_⟩⟩⟩
   rw[←hm]
   exact H14.nd.mm 1 rfl fun q hq=>by
    subst hx;subst hm
    exact⟨rfl,rfl,rfl,rfl,by show Seq _ _ r 1 ao (aN l l.length);rw[←hP];exact hq.1.seq (fun _=>rfl) hq.2,cW.nil _ _ _ _,hq.1.cap,Nat.le_refl _⟩
end
end Go.Qw
namespace Go.Vc
open Go Wl Go.Qw
end Go.Vc
namespace Go.Qw
open Go Go.Vc Go.Proofs Wl
set_option maxRecDepth 20000
end Go.Qw
namespace Go.Qw
open Go Go.Vc Go.Proofs Wl
section
set_option maxRecDepth 20000
variable {B:al} {h0 h:Heap} {As:List HP} {a pw b:Addr} {x:cy} {offs:Int} {da:List (Option Addr)} {w:Pow} {ds:bo} {d:bz}
end
end Go.Qw
namespace Go.Qw
open Go Go.Vc Go.Proofs Wl
set_option maxRecDepth 100000
end Go.Qw
namespace Go.Vc
open Go Wl Go.Qw
def sF (l:List Int) (k:Nat):Int:=l.getD k 0
end Go.Vc
namespace Go.Qw
open Go Go.Vc Go.Proofs Wl
section
set_option maxRecDepth 20000
variable {B:al} {h0 h:Heap} {As:List HP} {a pw:Addr} {offs:Int} {da:List (Option Addr)} {w:Pow} {ds:bo}
theorem iU (s:Sl) (l:List Int) (k:Nat) (h:Heap) (hs:Rd h s 1 ao l):ah Tryz.prog kr #[.slice s.ptr s.len s.cap,.int .i64 k] h fun v h'=>v=.int .i64 (sF l k)∧h'=h:=by
 refine jT s k ?_
 unfold fM sF
 have hl:=hs.len
 refine ak (fun e=>?_) (fun e=>⟨?_,rfl⟩)
 ·have hk:k<l.length:=by omega
  refine hs.aO k rfl hk (l.getD k 0) (by rw[getD_lt hk];rfl) ⟨rfl,rfl⟩
 ·rw[List.getD_eq_getElem?_getD,List.getElem?_eq_none (by omega)];rfl
theorem wZ:(aV (1,1,1) 0 Pow.new [5]).1=0:=by decide+kernel
end
end Go.Qw
namespace Wl
structure Mv where
 kind:Int
 name:ByteArray
 data:List UInt8
 slot:Int
 n:Int
 m:Int
 mask:Int
 keeps:List Int
 torns:List Int
def qE:List ByteArray:=[⟨#[97]⟩,⟨#[98]⟩,⟨#[99,97,116,45,55]⟩,⟨#[100]⟩,⟨#[101,49,50,51,52,53,54,55,56,57,48,49]⟩]
def pU (p:Int×Int×Int) (b:Mv):Prop:=
 (b.kind=1∧b.name∈qE∧(b.data.length:Int)≤3*(p.1*p.2.2)+1)∨((b.kind=2∨b.kind=3∨b.kind=5)∧b.name∈qE)∨b.kind=4∨
 (b.kind=6∧(0≤b.slot∧b.slot<9)∧6≤b.n∧b.n<66)∨(b.kind=7∧0≤b.slot∧b.slot<8)∨(b.kind=8∧(0≤b.slot∧b.slot<8)∧6≤b.n∧b.n<66)∨(b.kind=9∧0≤b.slot∧b.slot<8)∨
 (b.kind=10∧(-1≤b.n∧b.n≤7)∧-1≤b.m∧b.m≤68)∨(b.kind=11∧(0≤b.slot∧b.slot<7)∧(0≤b.n∧b.n<40)∧(0≤b.m∧b.m<61)∧0≤b.mask∧b.mask<4294967296)
def mO (b:Mv):Prop:=b=⟨b.kind,if b.kind=1∨b.kind=2∨b.kind=3∨b.kind=5 then b.name else⟨#[]⟩,if b.kind=1 then b.data else[],if b.kind=6∨b.kind=7∨b.kind=8∨b.kind=9∨b.kind=11 then b.slot else 0,
 if b.kind=6∨b.kind=8∨b.kind=10∨b.kind=11 then b.n else 0,if b.kind=10∨b.kind=11 then b.m else 0,if b.kind=11 then b.mask else 0,[],[]⟩
end Wl
namespace Go.Vc
open Go Wl
abbrev xa (s:ByteArray):List Value:=[.string s]
abbrev sG:=Int×ByteArray×Sl×Int×Int×Int×Int×Sl×Sl
abbrev zh (x:sG):List Value:=[.int .i64 x.1,.string x.2.1,.slice x.2.2.1.ptr x.2.2.1.len x.2.2.1.cap,.int .i64 x.2.2.2.1,.int .i64 x.2.2.2.2.1,.int .i64 x.2.2.2.2.2.1,.int .u32 x.2.2.2.2.2.2.1,.slice x.2.2.2.2.2.2.2.1.ptr x.2.2.2.2.2.2.2.1.len x.2.2.2.2.2.2.2.1.cap,.slice x.2.2.2.2.2.2.2.2.ptr x.2.2.2.2.2.2.2.2.len x.2.2.2.2.2.2.2.2.cap]
abbrev zi (x:sG):Value:=.agg #[.int .i64 x.1,.string x.2.1,.slice x.2.2.1.ptr x.2.2.1.len x.2.2.1.cap,.int .i64 x.2.2.2.1,.int .i64 x.2.2.2.2.1,.int .i64 x.2.2.2.2.2.1,.int .u32 x.2.2.2.2.2.2.1,.slice x.2.2.2.2.2.2.2.1.ptr x.2.2.2.2.2.2.2.1.len x.2.2.2.2.2.2.2.1.cap,.slice x.2.2.2.2.2.2.2.2.ptr x.2.2.2.2.2.2.2.2.len x.2.2.2.2.2.2.2.2.cap]
def uS:gz sG Mv:=⟨fun h q a b=>(a.1=b.kind∧a.2.1=b.name∧a.2.2.2.1=b.slot∧a.2.2.2.2.1=b.n∧a.2.2.2.2.2.1=b.m∧a.2.2.2.2.2.2.1=b.mask∧a.2.2.1.len≤a.2.2.1.cap)∧Seq h q a.2.2.1 1 aE b.data∧Seq h q a.2.2.2.2.2.2.2.1 1 ao b.keeps∧Seq h q a.2.2.2.2.2.2.2.2 1 ao b.torns,
 fun a hp=>⟨a.1,a.2.1.au hp,a.2.2.1.au hp,a.2.2.2.au hp⟩,fun a hq=>⟨a.1,a.2.1.mono hq,a.2.2.1.mono hq,a.2.2.2.mono hq⟩⟩
theorem yy:∀x,∀c∈xa x,c.oneCell'=true:=by intro x c hc;simp[xa]at hc;subst hc;rfl
end Go.Vc
namespace Go.Qw
open Go Go.Vc Go.Proofs Wl
set_option maxRecDepth 100000
abbrev xb:bl C.tokh th bc 1 [.string ⟨#[]⟩] 16:=⟨_,_,rfl,rfl,rfl,rfl,rfl,rfl⟩
abbrev Al:List Value:=[.int .i64 0,.string ⟨#[]⟩,.slice none 0 0,.int .i64 0,.int .i64 0,.int .i64 0,.int .u32 0,.slice none 0 0,.slice none 0 0]
theorem ir (n:Int) (h:Heap):ah Tryz.prog jX #[.int .i64 n] h fun v h'=>∃s∈qE,v=.string s∧Sp h h' []:=by
 refine jf n ?_
 unfold fq
 refine(Sp.refl h).lit ag xa xb rfl qE rfl (by decide) (by kernel_rfl) fun v1 h1 H1=>?_
 refine(aH n 5 h1 (by decide) (by decide)).mono ?_
 rintro _ h2 ⟨rfl,rfl⟩
 have q0:=Int.emod_nonneg n (show(5:Int)≠0 by decide)
 have q1:=Int.emod_lt_of_pos n (show(0:Int)<5 by decide)
 have hl:qE.length=5:=rfl
 refine⟨_,rfl,(H1.seq 0 rfl fun _=>rfl).aO (n%5).toNat (by omega) (by omega) (qE[(n%5).toNat]'(by omega)) rfl ⟨_,List.getElem_mem _,rfl,.zip H1.au⟩⟩
theorem uT (p:Pm) (k a b:Int) (h:Heap) (hp:gN p=true):ah Tryz.prog jR #[jy p,.int .i64 k,.int .i64 a,.int .i64 b] h fun v h'=>∃(x:sG) (m:Mv),v=zi x∧pU p m∧mO m∧Sp h h' [EA uS x m]:=by
 refine iY p k a b ?_
 unfold fk
 obtain⟨⟨p1,p2⟩,_,z1,z2⟩:=(kP p).1 hp
 have hpp:1≤p.1*p.2.2∧p.1*p.2.2≤16*24:=⟨Int.mul_le_mul p1 z1 (by omega) (by omega),Int.mul_le_mul p2 z2 (by omega) (by omega)⟩
 refine(Sp.refl h).boxed fun a1 h1 H1=>H1.alloc ag rfl fun a2 h2 H2=>?_
 have H2:Sp h h2 [aj a1 cY [.int .i64 p.1,.int .i64 p.2.1,.int .i64 p.2.2],aj a2 af Al]:=H2
 have fin:∀(kind slot n m mask:Int) (name:ByteArray) {h':Heap},Sp h h' [aj a1 cY [.int .i64 p.1,.int .i64 p.2.1,.int .i64 p.2.2],aj a2 af Al]→pU p ⟨kind,name,[],slot,n,m,mask,[],[]⟩→mO ⟨kind,name,[],slot,n,m,mask,[],[]⟩→
   aa Tryz.prog (Instr.storeAt af (.pointer (some a2)) (.agg #[.int .i64 kind,.string name,.slice none 0 0,.int .i64 slot,.int .i64 n,.int .i64 m,.int .u32 mask,.slice none 0 0,.slice none 0 0])) h' fun _ h''=>
    ∃r:sG,ai h'' a2 0 (zh r)∧∃(x:sG) (m:Mv),zi r=zi x∧pU p m∧mO m∧Sp h h'' [EA uS x m]:=by
  intro kind slot n m mask name h' H' hok hr
  refine H'.storeAll ag 1 rfl rfl (zh (kind,name,⟨none,0,0⟩,slot,n,m,mask,⟨none,0,0⟩,⟨none,0,0⟩)) rfl rfl rfl rfl fun h'' H''=>?_
  refine⟨(kind,name,⟨none,0,0⟩,slot,n,m,mask,⟨none,0,0⟩,⟨none,0,0⟩),(H''.box 1 rfl).bh _ rfl,_,_,rfl,hok,hr,?_⟩
  have H3:Sp h h'' []:=.zip H''.au
  exact H3.comp (.one (az.refl _ _) ⟨⟨rfl,rfl,rfl,rfl,rfl,rfl,Nat.le_refl _⟩,Seq.nil _ _ _ _ _ _,Seq.nil _ _ _ _ _ _,Seq.nil _ _ _ _ _ _⟩)
 refine(aH k 26 h2 (by decide) (by decide)).mono ?_
 rintro _ h3 ⟨rfl,rfl⟩
 have k0:=Int.emod_nonneg k (show(26:Int)≠0 by decide)
 have k1:=Int.emod_lt_of_pos k (show(0:Int)<26 by decide)
 have W:∀(x n:Int),0<n→0≤x%n∧x%n<n:=fun x n hn=>⟨Int.emod_nonneg x (by omega),Int.emod_lt_of_pos x hn⟩
 refine⟨_,rfl,ak (fun _=>?_) fun _=>?_⟩
 ·refine⟨by decide,p.1,(H2.box 0 rfl).cell0 rfl,p.2.2,(H2.box 0 rfl).cell rfl,(ir a h3).mono ?_⟩
  rintro _ h4 ⟨s,hs,rfl,R4⟩
  have H4:=H2.up R4.au
  have e1:IntKind.wrap .i64 ((IntKind.wrap .i64 ((IntKind.wrap .i64 ((3:Int)*p.1))*p.2.2))+(2:Int))=3*(p.1*p.2.2)+2:=by
   rw[Go.Vc.wrap_small (3*p.1) (by omega) (by omega),Int.mul_assoc,Go.Vc.wrap_small (3*(p.1*p.2.2)) (by omega) (by omega),Go.Vc.wrap_small _ (by omega) (by omega)]
  refine⟨s,rfl,⟨(H4.box 0 rfl).cell rfl,(H4.box 0 rfl).cell0 rfl,trivial⟩,?_⟩
  rw[e1]
  refine(aH _ (3*(p.1*p.2.2)+2) h4 (by omega) (by omega)).mono ?_
  rintro _ h5 ⟨rfl,rfl⟩
  obtain⟨q,hq⟩:∃q,q=IntKind.wrap .i64 (Int.tdiv a 5)%(3*(p.1*p.2.2)+2):=⟨_,rfl⟩
  have hq0:=W (IntKind.wrap .i64 (Int.tdiv a 5)) (3*(p.1*p.2.2)+2) (by omega)
  rw[←hq]at hq0⊢
  obtain⟨N,hN⟩:∃N:Nat,q=N:=⟨q.toNat,by omega⟩
  subst hN
  refine⟨_,rfl,⟨(H4.box 0 rfl).cell rfl,(H4.box 0 rfl).cell0 rfl,trivial⟩,(uJ N b h5 (by omega)).mono ?_⟩
  rintro _ h6 ⟨r,l,rfl,hl,R6⟩
  have H6:=H4.comp R6
  have hcap:=(R6.own 0 rfl).cap
  refine⟨r,rfl,⟨(H6.box 0 rfl).cell rfl,(H6.box 0 rfl).cell0 rfl,trivial⟩,?_⟩
  refine H6.storeAll ag 1 rfl rfl (zh (1,s,r,0,0,0,0,⟨none,0,0⟩,⟨none,0,0⟩)) rfl rfl rfl rfl fun h7 H7=>?_
  refine⟨trivial,(1,s,r,0,0,0,0,⟨none,0,0⟩,⟨none,0,0⟩),(H7.box 1 rfl).bh _ rfl,_,(⟨1,s,l,0,0,0,0,[],[]⟩:Mv),rfl,.inl ⟨rfl,hs,by dsimp only;omega⟩,rfl,?_⟩
  have H8:=H7.cB [2]
  exact H8.mm 0 rfl fun q hq=>⟨⟨rfl,rfl,rfl,rfl,rfl,rfl,hcap⟩,hq.1.seq (fun _=>rfl) hq.2,Seq.nil _ _ _ _ _ _,Seq.nil _ _ _ _ _ _⟩
 refine ak (fun _=>(ir a h3).mono ?_) fun _=>ak (fun _=>(ir a h3).mono ?_) fun _=>aT (fun _=>?_) fun _=>aT (fun _=>(ir a h3).mono ?_) fun _=>aT (fun _=>?_) fun _=>aT (fun _=>?_) fun _=>aT (fun _=>?_) fun _=>aT (fun _=>?_) fun _=>ak (fun _=>?_) fun _=>aT (fun _=>?_) fun _=>?_
 ·rintro _ h4 ⟨s,hs,rfl,R4⟩
  exact⟨s,rfl,fin 2 0 0 0 0 s (H2.up R4.au) (.inr (.inl ⟨.inl rfl,hs⟩)) rfl⟩
 ·rintro _ h4 ⟨s,hs,rfl,R4⟩
  exact⟨s,rfl,fin 3 0 0 0 0 s (H2.up R4.au) (.inr (.inl ⟨.inr (.inl rfl),hs⟩)) rfl⟩
 ·exact fin 4 0 0 0 0 _ H2 (.inr (.inr (.inl rfl))) rfl
 ·rintro _ h4 ⟨s,hs,rfl,R4⟩
  exact⟨s,rfl,fin 5 0 0 0 0 s (H2.up R4.au) (.inr (.inl ⟨.inr (.inr rfl),hs⟩)) rfl⟩
 ·refine(aH a 9 h3 (by decide) (by decide)).mono ?_
  rintro _ h4 ⟨rfl,rfl⟩
  refine⟨_,rfl,(aH b 60 h4 (by decide) (by decide)).mono ?_⟩
  rintro _ h5 ⟨rfl,rfl⟩
  have w1:=W a 9 (by decide)
  have w2:=W b 60 (by decide)
  refine⟨_,rfl,?_⟩
  dsimp only
  rw[Go.Vc.wrap_small (6+b%60) (by omega) (by omega)]
  exact fin 6 _ _ 0 0 _ H2 (.inr (.inr (.inr (.inl ⟨rfl,w1,by dsimp only;omega,by dsimp only;omega⟩)))) rfl
 ·refine(aH a 8 h3 (by decide) (by decide)).mono ?_
  rintro _ _ ⟨rfl,rfl⟩
  exact⟨_,rfl,fin 7 _ 0 0 0 _ H2 (.inr (.inr (.inr (.inr (.inl ⟨rfl,W a 8 (by decide)⟩))))) rfl⟩
 ·refine(aH a 8 h3 (by decide) (by decide)).mono ?_
  rintro _ h4 ⟨rfl,rfl⟩
  refine⟨_,rfl,(aH b 60 h4 (by decide) (by decide)).mono ?_⟩
  rintro _ h5 ⟨rfl,rfl⟩
  have w1:=W a 8 (by decide)
  have w2:=W b 60 (by decide)
  refine⟨_,rfl,?_⟩
  dsimp only
  rw[Go.Vc.wrap_small (6+b%60) (by omega) (by omega)]
  exact fin 8 _ _ 0 0 _ H2 (.inr (.inr (.inr (.inr (.inr (.inl ⟨rfl,w1,by dsimp only;omega,by dsimp only;omega⟩)))))) rfl
 ·refine(aH a 8 h3 (by decide) (by decide)).mono ?_
  rintro _ _ ⟨rfl,rfl⟩
  exact⟨_,rfl,fin 9 _ 0 0 0 _ H2 (.inr (.inr (.inr (.inr (.inr (.inr (.inl ⟨rfl,W a 8 (by decide)⟩))))))) rfl⟩
 ·refine(aH a 3 h3 (by decide) (by decide)).mono ?_
  rintro _ h4 ⟨rfl,rfl⟩
  refine⟨_,rfl,(aH b 20 h4 (by decide) (by decide)).mono ?_⟩
  rintro _ h5 ⟨rfl,rfl⟩
  have w1:=W a 3 (by decide)
  have w2:=W b 20 (by decide)
  exact⟨_,rfl,fin 10 0 _ _ 0 _ H2 (.inr (.inr (.inr (.inr (.inr (.inr (.inr (.inl ⟨rfl,by dsimp only;omega,by dsimp only;omega,by dsimp only;omega⟩)))))))) rfl⟩
 ·refine(aH a 9 h3 (by decide) (by decide)).mono ?_
  rintro _ h4 ⟨rfl,rfl⟩
  refine⟨_,rfl,(aH b 70 h4 (by decide) (by decide)).mono ?_⟩
  rintro _ h5 ⟨rfl,rfl⟩
  have w1:=W a 9 (by decide)
  have w2:=W b 70 (by decide)
  refine⟨_,rfl,?_⟩
  dsimp only
  rw[Go.Vc.wrap_small (a%9-1) (by omega) (by omega),Go.Vc.wrap_small (b%70-1) (by omega) (by omega)]
  exact fin 10 0 _ _ 0 _ H2 (.inr (.inr (.inr (.inr (.inr (.inr (.inr (.inl ⟨rfl,by dsimp only;omega,by dsimp only;omega,by dsimp only;omega⟩)))))))) rfl
 ·refine(aH a 7 h3 (by decide) (by decide)).mono ?_
  rintro _ h4 ⟨rfl,rfl⟩
  refine⟨_,rfl,by decide,(aH _ 40 h4 (by decide) (by decide)).mono ?_⟩
  rintro _ h5 ⟨rfl,rfl⟩
  refine⟨_,rfl,(aH b 61 h5 (by decide) (by decide)).mono ?_⟩
  rintro _ h6 ⟨rfl,rfl⟩
  have hw:∀z:Int,0≤IntKind.wrap .u32 z∧IntKind.wrap .u32 z<4294967296:=fun z=>by rw[qn];have:=(BitVec.ofInt 32 z).isLt;omega
  exact⟨_,rfl,fin 11 _ _ _ _ _ H2 (.inr (.inr (.inr (.inr (.inr (.inr (.inr (.inr ⟨rfl,W a 7 (by decide),W _ 40 (by decide),W b 61 (by decide),hw _⟩)))))))) rfl⟩
end Go.Qw
namespace Go.Qw
open Go Go.Vc Go.Proofs Wl
set_option maxRecDepth 100000
abbrev cr:=Int×ByteArray×Sl×Int×Int×Int×Int×Sl×Sl
abbrev aQ (y:cr):List Value:=[.int .i64 y.1,.string y.2.1,.slice y.2.2.1.ptr y.2.2.1.len y.2.2.1.cap,.int .i64 y.2.2.2.1,.int .i64 y.2.2.2.2.1,.int .i64 y.2.2.2.2.2.1,.int .u32 y.2.2.2.2.2.2.1,.slice y.2.2.2.2.2.2.2.1.ptr y.2.2.2.2.2.2.2.1.len y.2.2.2.2.2.2.2.1.cap,.slice y.2.2.2.2.2.2.2.2.ptr y.2.2.2.2.2.2.2.2.len y.2.2.2.2.2.2.2.2.cap]
abbrev dG (y:cr):Value:=.agg (aQ y).toArray
structure mP (y:cr) (p:bx):Prop where
 kind:y.1=p.kind
 name:dl y.2.1=p.name
 slot:y.2.2.2.1=p.slot
 n:y.2.2.2.2.1=p.n
 m:y.2.2.2.2.2.1=p.m
 mask:y.2.2.2.2.2.2.1=p.mask
abbrev it (y:cr) (p:bx):List HP:=[ap aA y.2.2.1 1 aE p.data,ap ax y.2.2.2.2.2.2.2.1 1 ao p.keeps,ap ax y.2.2.2.2.2.2.2.2 1 ao p.torns]
abbrev kd (h:Heap) (o:Option bx) (v:Value) (h':Heap):Prop:=∃y:cr,v=.tuple #[dG y,.bool o.isSome]∧mP y (o.getD {})∧Sp h h' (it y (o.getD {}))
section
variable {B:al} {h0 h:Heap} {As:List HP}
theorem aW {a:Addr} {cs:List Value} (H:ab B h0 h (aj a af cs::As)) (hcs:cs.length=9) (y:cr) {K:cr→Heap→Prop} (hK:∀h',ab B h0 h' As→K y h'):
  aa Tryz.prog (Instr.storeAt af (.pointer (some a)) (dG y)) h fun _ h'=>∃res:cr,ai h' a 0 (aQ res)∧K res h':=by
 refine H.storeAll ag 0 rfl rfl (aQ y) rfl rfl rfl (by rw[hcs];rfl) fun h1 H1=>?_
 refine⟨y,(H1.box 0 rfl).bh _ rfl,hK h1 (ab.del H1 0)⟩
theorem oo (H:Sp h0 h []) (y:cr) (p:bx) (h1:y.2.2.1=aw) (h2:y.2.2.2.2.2.2.2.1=aw) (h3:y.2.2.2.2.2.2.2.2=aw) (e1:p.data=[]) (e2:p.keeps=[]) (e3:p.torns=[]):Sp h0 h (it y p):=by
 unfold it
 rw[h1,h2,h3,e1,e2,e3]
 exact((H.nil aA 1 aE).nil ax 1 ao).nil ax 1 ao
end
def aY:cr:=(0,⟨#[]⟩,aw,0,0,0,0,aw,aw)
theorem mQ {h h':Heap} (H:Sp h h' []):kd h none (.tuple #[dG aY,.bool false]) h':=⟨aY,rfl,⟨rfl,rfl,rfl,rfl,rfl,rfl⟩,oo H aY {} rfl rfl rfl rfl rfl rfl⟩
theorem uU:Tryz.prog.underlying nW=some (.map bc ax):=by kernel_rfl
theorem uV:Tryz.prog.underlying bc=some .string:=by kernel_rfl
theorem zT:aq Tryz.prog (zeroValue ax) (.int .i64 0):=fun w=>Tryz.zeroValue3 w
def kinds:List (ByteArray×Int):=[(⟨#[103,101,116]⟩,2),(⟨#[100,101,108]⟩,3),(⟨#[115,116,97,116]⟩,5)]
theorem xO {b:ByteArray} {a:Array UInt8}:b=⟨a⟩↔dl b=a.toList:=by
 constructor
 ·rintro rfl;rfl
 ·intro h;cases b;congr;exact Array.toList_inj.1 h
theorem wb (x:ByteArray):dH x kinds=cV (dl x):=by
 unfold kinds cV
 simp only[dH,eq_comm (b:=x),xO]
theorem sH {a b:Array UInt8} (h:a≠b):(⟨a⟩:ByteArray)≠⟨b⟩:=fun e=>h (by cases e;rfl)
theorem sI (s:Sl) (l:List ByteArray) (h:Heap) (hs:Rd h s 1 ej l) (hne:0<l.length):
  ah Tryz.prog nY #[.slice s.ptr s.len s.cap] h (kd h (match cV (dl l[0])with|some k=>if l.length=2 then some {kind:=k,name:=(l.map dl).getD 1 []}else none|none=>none)):=by
 refine np s ?_
 unfold jv
 have hlen:=hs.len
 refine(Sp.refl h).alloc ag rfl fun a h1 H1=>?_
 have H1:Sp h h1 [aj a af (aQ aY)]:=H1
 refine H1.yV (Value.int .i64) fun r h2 H2=>?_
 refine H2.rU (2:Int) 1 rfl uU uV fun h3 H3=>?_
 refine H3.rU (3:Int) 1 rfl uU uV fun h4 H4=>?_
 refine H4.rU (5:Int) 1 rfl uU uV fun h5 H5=>?_
 have H5:Sp h h5 [aj a af (aQ aY),rR r (Value.int .i64) kinds]:=by
  have e:∀x y z:ByteArray,x=⟨#[103,101,116]⟩→y=⟨#[100,101,108]⟩→z=⟨#[115,116,97,116]⟩→eF z (5:Int) (eF y 3 (eF x 2 []))=kinds:=by
   rintro _ _ _ rfl rfl rfl
   simp only[eF]
   rw[if_neg (sH (by decide))]
   simp only[eF]
   rw[if_neg (sH (by decide)),if_neg (sH (by decide))];rfl
  have:=e _ _ _ rfl rfl rfl
  rw[←this];exact H5
 refine(Seq.up hs H5.au).aO (g:=Value.string) 0 rfl hne l[0] rfl ?_
 refine(H5.map 1 rfl).wH uU uV zT ⟨((dH l[0] kinds).getD 0,(dH l[0] kinds).isSome),rfl,?_⟩
 rw[wb]
 have H6:Sp h h5 [aj a af (aQ aY)]:=ab.del H5 1
 refine aM ?_
 cases hk:cV (dl l[0])with
 |none=>exact cU rfl (aW H6 rfl aY fun h' H'=>mQ H')
 |some k=>
  refine ge rfl ?_
  refine cA (fun hn=>?_) fun he=>?_
  ·dsimp only
   rw[if_neg (by omega)]
   exact aW H6 rfl aY fun h' H'=>mQ H'
  ·dsimp only
   rw[if_pos (by omega)]
   have h1l:1<l.length:=by omega
   refine(Seq.up hs H6.au).aO (g:=Value.string) 1 rfl h1l l[1] rfl ?_
   refine aW H6 rfl (k,l[1],aw,0,0,0,0,aw,aw) fun h' H'=>⟨_,rfl,⟨rfl,?_,rfl,rfl,rfl,rfl⟩,oo H' _ _ rfl rfl rfl rfl rfl rfl⟩
   simp[List.getD_eq_getElem?_getD,List.getElem?_eq_getElem h1l]
theorem uW (s:Sl) (l:List ByteArray) (h:Heap) (hs:Rd h s 1 ej l) (hsz:∀b∈l,1≤b.size∧b.size≤2^20):
  ah Tryz.prog pG #[.slice s.ptr s.len s.cap] h (kd h (if l.length=3 then(cF ((l.map dl).getD 2 [])).map fun d=>{kind:=1,name:=(l.map dl).getD 1 [],data:=d}else none)):=by
 refine oP s ?_
 unfold lG
 have hlen:=hs.len
 refine(Sp.refl h).alloc ag rfl fun a h1 H1=>?_
 have H1:Sp h h1 [aj a af (aQ aY)]:=H1
 refine cA (fun hn=>?_) fun he=>?_
 ·rw[if_neg (by omega)]
  exact aW H1 rfl aY fun h' H'=>mQ H'
 rw[if_pos (by omega)]
 have h2l:2<l.length:=by omega
 have h1l:1<l.length:=by omega
 have e2:(l.map dl).getD 2 []=dl l[2]:=by simp[List.getD_eq_getElem?_getD,List.getElem?_eq_getElem h2l]
 have e1:(l.map dl).getD 1 []=dl l[1]:=by simp[List.getD_eq_getElem?_getD,List.getElem?_eq_getElem h1l]
 rw[e1,e2]
 refine(Seq.up hs H1.au).aO (g:=Value.string) 2 rfl h2l l[2] rfl ?_
 have hb:=hsz _ (List.getElem_mem h2l)
 refine(uI l[2] hb.2 hb.1 h1).mono ?_
 rintro _ h3 ⟨r,rfl,R3⟩
 have H3:=H1.comp R3
 refine⟨(_,_),rfl,?_⟩
 cases hx:cF (dl l[2])with
 |none=>exact cU rfl (aW (ab.del H3 1) rfl aY fun h' H'=>mQ H')
 |some d=>
  rw[hx]at H3
  refine ge rfl ?_
  refine(Seq.up hs H3.au).aO (g:=Value.string) 1 rfl h1l l[1] rfl ?_
  refine aW H3 rfl (1,l[1],r,0,0,0,0,aw,aw) fun h' H'=>⟨_,rfl,⟨rfl,rfl,rfl,rfl,rfl,rfl⟩,?_⟩
  exact(H'.nil ax 1 ao).nil ax 1 ao
end Go.Qw
namespace Wl
theorem mR:∀(l:List Int) (j:Nat) (a b:Int),l[2*j]?=some a→l[2*j+1]?=some b→(bO l)[j]?=some a∧(cO l)[j]?=some b
 |[],j,a,b,ha,_=>by simp at ha
 |[_],j,a,b,_,hb=>by simp at hb
 |x::y::r,0,a,b,ha,hb=>by
  simp at ha hb
  subst ha;subst hb;exact⟨rfl,rfl⟩
 |x::y::r,j+1,a,b,ha,hb=>by
  have e1:2*(j+1)=2*j+2:=by omega
  have e2:2*(j+1)+1=2*j+1+2:=by omega
  rw[e1]at ha;rw[e2]at hb
  simpa[bO,cO]using mR r j a b (by simpa using ha) (by simpa using hb)
theorem gK:∀(l:List Int),(bO l).length=l.length/2∧(cO l).length=l.length/2
 |[]=>⟨rfl,rfl⟩
 |[_]=>by simp[bO,cO]
 |a::b::r=>by simp only[bO,cO,List.length_cons,(gK r).1,(gK r).2];omega
end Wl
namespace Go.Qw
open Go Go.Vc Go.Proofs Wl
set_option maxRecDepth 100000
theorem xP {w lit:ByteArray} {len:Nat} {n:Int} {h:Heap} {K:Bool→Heap→Prop} (hK:K (decide (dl w=dl lit∧(len:Int)=n)) h):Br (w.toList==lit.toList) (K ((len:Int)==n) h) (K false h):=by
 refine bT (fun e=>?_) fun e=>?_
 ·have e:=cL (eq_of_beq e)
  subst e
  have:decide (dl w=dl w∧(len:Int)=n)=((len:Int)==n):=by by_cases hn:(len:Int)=n<;>simp[hn]
  rw[this]at hK;exact hK
 ·have hne:¬(dl w=dl lit∧(len:Int)=n):=fun hh=>by
   have:w=lit:=by cases w;cases lit;congr;exact Array.toList_inj.1 hh.1
   rw[this,beq_self_eq_true]at e;cases e
  rw[decide_eq_false hne]at hK;exact hK
theorem eD {w lit:ByteArray} {len:Nat} {n:Int} {h:Heap} {rest:Bool→Heap→Prop} (hr:rest (decide (dl w=dl lit∧(len:Int)=n)) h):aC rest (fun K=>Br (w.toList==lit.toList) (K ((len:Int)==n) h) (K false h)):=aM (xP hr)
section
variable {B:al} {h0 h:Heap} {As:List HP}
theorem jD {a:Addr} {cs:List Value} (H:ab B h0 h (aj a af cs::As)) (hcs:cs.length=9) (y:cr) {K:cr→Heap→Prop} (hK:∀h',ab B h0 h' As→K y h'):
  aa Tryz.prog (Instr.storeAt af (.pointer (some a)) (dG y)) h fun _ h'=>ar.ok [] h'∧∃res:cr,ai h' a 0 (aQ res)∧K res h':=
 (aW H hcs y hK).mono fun _ _ x=>⟨trivial,x⟩
end
theorem lu {h h':Heap} (H:Sp h h' []) (k sl n m ms:Int):kd h (some {kind:=k,slot:=sl,n:=n,m:=m,mask:=ms}) (.tuple #[dG (k,⟨#[]⟩,aw,sl,n,m,ms,aw,aw),.bool true]) h':=
 ⟨_,rfl,⟨rfl,rfl,rfl,rfl,rfl,rfl⟩,oo H _ _ rfl rfl rfl rfl rfl rfl⟩
section
variable {B:al} {h0 h:Heap} {As:List HP}
abbrev fY (l0:Int) (k t:Sl):cr:=(13,⟨#[]⟩,aw,0,l0,0,0,k,t)
theorem gp {a1 a:Addr} {l0:Int} {k t k' t':Sl} {ks ts:List Int} (H:ab B h0 h (aj a1 af (aQ aY)::aj a af (aQ (fY l0 k t))::ap ax k' 1 ao ks::ap ax t' 1 ao ts::As)) {K:Heap→Prop}
  (hK:∀h',ab B h0 h' (aj a1 af (aQ aY)::aj a af (aQ (fY l0 k' t'))::ap ax k' 1 ao ks::ap ax t' 1 ao ts::As)→K h'):
  aa Tryz.prog (Instr.storeAt nV (.pointer (some (a.add 7))) (.slice k'.ptr k'.len k'.cap)) h fun _ h1=>ar.ok [] h1∧aa Tryz.prog (Instr.storeAt nV (.pointer (some (a.add 8))) (.slice t'.ptr t'.len t'.cap)) h1 fun _ h2=>ar.ok [] h2∧K h2:=by
 refine H.storeAt ag 1 rfl rfl rfl rfl rfl (show 7<9 by decide) fun h1 H1=>⟨trivial,?_⟩
 exact H1.storeAt ag 1 rfl rfl rfl rfl rfl (show 8<9 by decide) fun h2 H2=>⟨trivial,hK h2 H2⟩
end
theorem pV (w:ByteArray) (s:Sl) (l:List Int) (h:Heap) (hs:Rd h s 1 ao l) (hl:l.length≤2^20) (hb:∀x∈l,0≤x∧x<2^32):
  ah Tryz.prog mD #[.string w,.slice s.ptr s.len s.cap] h (kd h (bK (dl w) l)):=by
 refine lP w s ?_
 unfold hF
 have hlen:=hs.len
 refine(Sp.refl h).alloc ag rfl fun a1 h1 H1=>?_
 have H1:Sp h h1 [aj a1 af (aQ aY)]:=H1
 have hs1:=Seq.up hs H1.au
 have g:∀(i:Nat) (hi:i<l.length),l.getD i 0=l[i]:=fun i hi=>getD_lt hi
 refine aM ?_
 refine eD ?_
 unfold bK
 refine ak (fun e=>?_) fun n1=>?_
 ·rw[if_pos ⟨e.1,by omega⟩,g 0 (by omega),g 1 (by omega)]
  refine hs1.aO (g:=Value.int .i64) 0 rfl (by omega) _ rfl ?_
  refine hs1.aO (g:=Value.int .i64) 1 rfl (by omega) _ rfl ?_
  exact jD H1 rfl (6,⟨#[]⟩,aw,l[0],l[1],0,0,aw,aw) fun h' H'=>lu H' _ _ _ _ _
 rw[if_neg (fun hh=>n1 ⟨hh.1,by omega⟩)]
 refine eD ?_
 refine ak (fun e=>?_) fun n2=>?_
 ·rw[if_pos ⟨e.1,by omega⟩,g 0 (by omega)]
  refine hs1.aO (g:=Value.int .i64) 0 rfl (by omega) _ rfl ?_
  exact aW H1 rfl (7,⟨#[]⟩,aw,l[0],0,0,0,aw,aw) fun h' H'=>lu H' _ _ _ _ _
 rw[if_neg (fun hh=>n2 ⟨hh.1,by omega⟩)]
 refine eD ?_
 refine ak (fun e=>?_) fun n3=>?_
 ·rw[if_pos ⟨e.1,by omega⟩,g 0 (by omega),g 1 (by omega)]
  refine hs1.aO (g:=Value.int .i64) 0 rfl (by omega) _ rfl ?_
  refine hs1.aO (g:=Value.int .i64) 1 rfl (by omega) _ rfl ?_
  exact jD H1 rfl (8,⟨#[]⟩,aw,l[0],l[1],0,0,aw,aw) fun h' H'=>lu H' _ _ _ _ _
 rw[if_neg (fun hh=>n3 ⟨hh.1,by omega⟩)]
 refine eD ?_
 refine ak (fun e=>?_) fun n4=>?_
 ·rw[if_pos ⟨e.1,by omega⟩,g 0 (by omega)]
  refine hs1.aO (g:=Value.int .i64) 0 rfl (by omega) _ rfl ?_
  exact aW H1 rfl (9,⟨#[]⟩,aw,l[0],0,0,0,aw,aw) fun h' H'=>lu H' _ _ _ _ _
 rw[if_neg (fun hh=>n4 ⟨hh.1,by omega⟩)]
 refine eD ?_
 refine ak (fun e=>?_) fun n5=>?_
 ·rw[if_pos ⟨e.1,by omega⟩,g 0 (by omega),g 1 (by omega)]
  refine hs1.aO (g:=Value.int .i64) 0 rfl (by omega) _ rfl ?_
  refine hs1.aO (g:=Value.int .i64) 1 rfl (by omega) _ rfl ?_
  exact jD H1 rfl (10,⟨#[]⟩,aw,0,l[0],l[1],0,aw,aw) fun h' H'=>lu H' _ _ _ _ _
 rw[if_neg (fun hh=>n5 ⟨hh.1,by omega⟩)]
 refine eD ?_
 refine ak (fun e=>?_) fun n6=>?_
 ·rw[if_pos ⟨e.1,by omega⟩,g 0 (by omega),g 1 (by omega),g 2 (by omega),g 3 (by omega)]
  refine hs1.aO (g:=Value.int .i64) 0 rfl (by omega) _ rfl ?_
  refine hs1.aO (g:=Value.int .i64) 1 rfl (by omega) _ rfl ?_
  refine hs1.aO (g:=Value.int .i64) 2 rfl (by omega) _ rfl ?_
  refine hs1.aO (g:=Value.int .i64) 3 rfl (by omega) _ rfl ?_
  have h3:=hb l[3] (List.getElem_mem (by omega))
  have hw:IntKind.wrap .u32 l[3]=l[3]:=by show _%(4294967296:Int)=_;omega
  rw[hw]
  exact jD H1 rfl (11,⟨#[]⟩,aw,l[0],l[1],l[2],l[3],aw,aw) fun h' H'=>lu H' _ _ _ _ _
 rw[if_neg (fun hh=>n6 ⟨hh.1,by omega⟩)]
 refine eD ?_
 refine ak (fun e=>?_) fun n7=>?_
 ·rw[if_pos ⟨e.1,by omega⟩,g 0 (by omega)]
  refine hs1.aO (g:=Value.int .i64) 0 rfl (by omega) _ rfl ?_
  exact aW H1 rfl (12,⟨#[]⟩,aw,0,l[0],0,0,aw,aw) fun h' H'=>lu H' _ _ _ _ _
 rw[if_neg (fun hh=>n7 ⟨hh.1,by omega⟩)]
 have htm:Int.tmod (s.len:Int) 2=((l.length%2:Nat):Int):=by rw[Int.tmod_eq_emod_of_nonneg (by omega),hlen];rfl
 have end0:¬(dl w=[102,97,108,108]∧l.length%2=1)→aa Tryz.prog (Instr.storeAt af (.pointer (some a1)) (dG aY)) h1 fun _ h'=>∃res:cr,ai h' a1 0 (aQ res)∧kd h (if dl w=[102,97,108,108]∧l.length%2=1 then some {kind:=13,n:=l.getD 0 0,keeps:=bO l.tail,torns:=cO l.tail}else none) (.tuple #[dG res,.bool false]) h':=fun hn=>by
  rw[if_neg hn]
  exact aW H1 rfl aY fun h' H'=>mQ H'
 refine bA (fun b h'=>h'=h1∧b=decide (dl w=[102,97,108,108]∧l.length%2=1)) ?_ ?_
 ·refine bT (fun e=>?_) fun e=>?_
  ·have e:w=⟨#[102,97,108,108]⟩:=cL (eq_of_beq e)
   subst e
   refine⟨by decide,rfl,?_⟩
   rw[htm]
   by_cases h1:l.length%2=1
   ·rw[decide_eq_true ⟨rfl,h1⟩,h1];rfl
   ·have:l.length%2=0:=by omega
    rw[decide_eq_false (fun hh=>h1 hh.2),this];rfl
  ·refine⟨rfl,?_⟩
   rw[decide_eq_false]
   rintro⟨hh,_⟩
   have hw:w=⟨#[102,97,108,108]⟩:=xO.2 hh
   rw[hw]at e
   have e2:((⟨#[102,97,108,108]⟩:ByteArray).toList==(⟨#[102,97,108,108]⟩:ByteArray).toList)=false:=e
   rw[beq_self_eq_true]at e2;cases e2
 rintro _ _ ⟨rfl,rfl⟩
 refine ak (fun e=>?_) fun n8=>end0 n8
 rw[if_pos e,g 0 (by omega)]
 refine hs1.aO (g:=Value.int .i64) 0 rfl (by omega) _ rfl ?_
 obtain⟨l0,hl0⟩:∃l0,l0=l[0]'(by omega):=⟨_,rfl⟩
 rw[←hl0]
 refine H1.alloc ag rfl fun a h2 H2=>?_
 have H2:Sp h h2 [aj a1 af (aQ aY),aj a af (aQ aY)]:=H2
 refine H2.storeAll ag 1 rfl rfl (aQ (fY l0 aw aw)) rfl rfl rfl rfl fun h3 H3=>?_
 have H3:Sp h h3 [aj a1 af (aQ aY),aj a af (aQ (fY l0 aw aw)),ap ax aw 1 ao [],ap ax aw 1 ao []]:=(H3.nil ax 1 ao).nil ax 1 ao
 have hel:=gK l.tail
 have htl:l.tail.length=l.length-1:=List.length_tail
 refine aF (fun t:Sl×Sl×Nat=>((2*t.2.2+1:Nat):Int)) (fun t h'=>2*t.2.2≤l.length-1∧Sp h h' [aj a1 af (aQ aY),aj a af (aQ (fY l0 t.1 t.2.1)),ap ax t.1 1 ao ((bO l.tail).take t.2.2),ap ax t.2.1 1 ao ((cO l.tail).take t.2.2)]) (fun t=>l.length-t.2.2) (aw,aw,0) rfl ⟨by simp,by simpa using H3⟩ ?_
 rintro⟨k,t,j⟩ h4 ⟨hj,H4⟩
 dsimp only at hj H4⊢
 refine ak (fun hlt=>?_) fun hge=>?_
 ·have g1:2*j+1<l.length:=by omega
  have g2:2*j+1+1<l.length:=by omega
  have hw1:IntKind.wrap .i64 (((2*j+1:Nat):Int)+1)=((2*j+1+1:Nat):Int):=by rw[wrap_small _ (by omega) (by omega)];rfl
  have hw2:IntKind.wrap .i64 (((2*j+1:Nat):Int)+2)=((2*(j+1)+1:Nat):Int):=by rw[wrap_small _ (by omega) (by omega)];omega
  rw[hw1,hw2]
  obtain⟨x,hx⟩:∃x,x=l[2*j+1]:=⟨_,rfl⟩
  obtain⟨y,hy⟩:∃y,y=l[2*j+1+1]:=⟨_,rfl⟩
  have eg:=mR l.tail j x y (by rw[List.getElem?_tail,List.getElem?_eq_getElem g1,hx]) (by rw[List.getElem?_tail,List.getElem?_eq_getElem g2,hy])
  have je:j<(bO l.tail).length:=by omega
  have jo:j<(cO l.tail).length:=by omega
  have ex:(bO l.tail).take (j+1)=(bO l.tail).take j++[x]:=by
   rw[aD _ _ je];have:=eg.1;rw[List.getElem?_eq_getElem je]at this;rw[Option.some.inj this]
  have ey:(cO l.tail).take (j+1)=(cO l.tail).take j++[y]:=by
   rw[aD _ _ jo];have:=eg.2;rw[List.getElem?_eq_getElem jo]at this;rw[Option.some.inj this]
  have hb4:=H4.box 1 rfl
  have hs4:=Seq.up hs H4.au
  have hK:∀{k' t':Sl} {As:List HP} {h':Heap},Sp h h' (aj a1 af (aQ aY)::aj a af (aQ (fY l0 k' t'))::ap ax k' 1 ao ((bO l.tail).take j++[x])::ap ax t' 1 ao ((cO l.tail).take j++[y])::As)→
    ∃q:Sl×Sl×Nat,((2*(j+1)+1:Nat):Int)=((2*q.2.2+1:Nat):Int)∧(2*q.2.2≤l.length-1∧Sp h h' [aj a1 af (aQ aY),aj a af (aQ (fY l0 q.1 q.2.1)),ap ax q.1 1 ao ((bO l.tail).take q.2.2),ap ax q.2.1 1 ao ((cO l.tail).take q.2.2)])∧l.length-q.2.2<l.length-j:=fun{k' t' As h'} H=>by
   refine⟨(k',t',j+1),rfl,⟨by dsimp only;omega,?_⟩,by dsimp only;omega⟩
   dsimp only
   rw[ex,ey]
   exact ab.cB H [0,1,2,3]
  obtain⟨b1,p1,x',c1,e1⟩:=hs.kO (g:=Value.int .i64) (i:=((2*j+1:Nat):Int)) (2*j+1) rfl g1 x (by rw[hx];rfl) (K:=fun _ z=>z=x) (fun _ _=>rfl)
  obtain⟨b2,p2,y',c2,e2⟩:=hs.kO (g:=Value.int .i64) (i:=((2*j+1+1:Nat):Int)) (2*j+1+1) rfl g2 y (by rw[hy];rfl) (K:=fun _ z=>z=y) (fun _ _=>rfl)
  rw[e1]at c1;rw[e2]at c2
  have q1:∀{h'},az (fun b=>b<h.size) h h'→cellOf h' (b1.add (((2*j+1:Nat):Int).toNat*1))=some (.int .i64 x):=fun P=>P.cell (cu c1) c1
  have q2:∀{h'},az (fun b=>b<h.size) h h'→cellOf h' (b2.add (((2*j+1+1:Nat):Int).toNat*1))=some (.int .i64 y):=fun P=>P.cell (cu c2) c2
  have z1:((bO l.tail).take j).length≤2^20:=by simp;omega
  have z2:((cO l.tail).take j).length≤2^20:=by simp;omega
  refine⟨k,hb4.cell rfl,b1,p1,x,q1 H4.au,t,hb4.cell rfl,b2,p2,y,q2 H4.au,?_,?_⟩
  ·refine H4.lit ag ao bF rfl [x] rfl (show 1≤2^20 by decide) rfl fun v h5 H5=>⟨⟨q2 H5.au,(H5.box 1 rfl).cell rfl,(H5.box 1 rfl).cell rfl,trivial⟩,?_,?_⟩
   ·refine H5.append ag 2 rfl bF ⟨_,_,rfl,rfl⟩ rfl (by decide) (fun _=>rfl) (H5.seq 4 rfl fun _=>rfl) bC (by simp;omega) fun k' h6 H6=>⟨⟨q2 H6.au,(H6.box 1 rfl).cell rfl,trivial⟩,?_⟩
    refine H6.lit ag ao bF rfl [y] rfl (show 1≤2^20 by decide) rfl fun v2 h7 H7=>⟨⟨(H7.box 1 rfl).cell rfl,trivial⟩,?_⟩
    refine H7.append ag 3 rfl bF ⟨_,_,rfl,rfl⟩ rfl (by decide) (fun _=>rfl) (H7.seq 5 rfl fun _=>rfl) bC (by simp;omega) fun t' h8 H8=>⟨trivial,?_⟩
    exact gp (As:=[ap ax v 1 ao [x],ap ax v2 1 ao [y]]) H8 fun h' H'=>hK H'
   ·refine H5.lit ag ao bF rfl [y] rfl (show 1≤2^20 by decide) rfl fun v2 h6 H6=>⟨⟨(H6.box 1 rfl).cell rfl,(H6.box 1 rfl).cell rfl,trivial⟩,?_⟩
    refine H6.append ag 2 rfl bF ⟨_,_,rfl,rfl⟩ rfl (by decide) (fun _=>rfl) (H6.seq 4 rfl fun _=>rfl) bC (by simp;omega) fun k' h7 H7=>⟨⟨(H7.box 1 rfl).cell rfl,trivial⟩,?_⟩
    refine H7.append ag 3 rfl bF ⟨_,_,rfl,rfl⟩ rfl (by decide) (fun _=>rfl) (H7.seq 5 rfl fun _=>rfl) bC (by simp;omega) fun t' h8 H8=>⟨trivial,?_⟩
    exact gp (As:=[ap ax v 1 ao [x],ap ax v2 1 ao [y]]) H8 fun h' H'=>hK H'
  ·refine H4.lit ag ao bF rfl [y] rfl (show 1≤2^20 by decide) rfl fun v h5 H5=>⟨⟨(H5.box 1 rfl).cell rfl,q1 H5.au,(H5.box 1 rfl).cell rfl,trivial⟩,?_⟩
   refine H5.lit ag ao bF rfl [x] rfl (show 1≤2^20 by decide) rfl fun v2 h6 H6=>⟨⟨(H6.box 1 rfl).cell rfl,(H6.box 1 rfl).cell rfl,trivial⟩,?_⟩
   refine H6.append ag 2 rfl bF ⟨_,_,rfl,rfl⟩ rfl (by decide) (fun _=>rfl) (H6.seq 5 rfl fun _=>rfl) bC (by simp;omega) fun k' h7 H7=>⟨⟨(H7.box 1 rfl).cell rfl,trivial⟩,?_⟩
   refine H7.append ag 3 rfl bF ⟨_,_,rfl,rfl⟩ rfl (by decide) (fun _=>rfl) (H7.seq 4 rfl fun _=>rfl) bC (by simp;omega) fun t' h8 H8=>⟨trivial,?_⟩
   exact gp (As:=[ap ax v 1 ao [y],ap ax v2 1 ao [x]]) H8 fun h' H'=>hK H'
 ·have e0:j=(bO l.tail).length:=by omega
  have e1:j=(cO l.tail).length:=by omega
  rw[List.take_of_length_le (by omega),List.take_of_length_le (by omega)]at H4
  refine⟨_,(H4.box 1 rfl).bh _ rfl,?_⟩
  refine aW H4 rfl (fY l0 k t) fun h' H'=>⟨_,rfl,⟨rfl,rfl,rfl,rfl,rfl,rfl⟩,?_⟩
  have:=ab.del H' 0
  have H9:=this.nil aA 1 aE
  exact ab.cB H9 [2,0,1]
end Go.Qw
namespace Wl
theorem iV (c:UInt8):∀(l w:List UInt8),∀x∈cv c w l,x.length≤w.length+l.length
 |[],w,x,hx=>by simp[cv]at hx;subst hx;omega
 |y::r,w,x,hx=>by
  unfold cv at hx
  split at hx
  ·rcases List.mem_cons.1 hx with rfl|hx
   ·omega
   ·have:=iV c r [] x hx;simp at this⊢;omega
  ·have:=iV c r _ x hx;simp at this⊢;omega
theorem oq:∀{l:List (List UInt8)} {ns:List Nat},bk l=some ns→∀n∈ns,n<10^9
 |[],ns,h,n,hn=>by cases h;cases hn
 |x::r,ns,h,n,hn=>by
  simp only[bk]at h
  cases hx:bJ x with
  |none=>rw[hx]at h;cases h
  |some k=>
   rw[hx]at h
   cases hr:bk r with
   |none=>rw[hr]at h;cases h
   |some ms=>
    rw[hr]at h;cases h
    rcases List.mem_cons.1 hn with rfl|hn
    ·exact yd hx
    ·exact oq hr n hn
end Wl
namespace Go.Qw
open Go Go.Vc Go.Proofs Wl
set_option maxRecDepth 100000
theorem mS {h h2 h3:Heap} {a:Addr} {cs:List Value} {A:HP} {o:Option bx} {v:Value} (H:Sp h h2 [aj a af cs,A]) (hcs:cs.length=9) (G:kd h2 o v h3):
  ∃d:cr×Bool,v=.tuple #[dG d.1,.bool d.2]∧d.2=o.isSome∧aa Tryz.prog (Instr.storeAt af (.pointer (some a)) (dG d.1)) h3 fun _ h'=>∃res:cr,ai h' a 0 (aQ res)∧kd h o (.tuple #[dG res,.bool d.2]) h':=by
 obtain⟨y,rfl,F,R⟩:=G
 have H3:=H.comp R
 refine⟨(y,o.isSome),rfl,rfl,aW H3 hcs y fun h' H'=>⟨y,rfl,F,ab.cB H' [1,2,3]⟩⟩
theorem dW {x lit:ByteArray}:(x.toList==lit.toList)=decide (dl x=dl lit):=by
 by_cases h:dl x=dl lit
 ·have:x=lit:=by cases x;cases lit;congr;exact Array.toList_inj.1 h
  subst this;rw[beq_self_eq_true];exact(decide_eq_true rfl).symm
 ·rw[decide_eq_false h,beq_eq_false_iff_ne]
  intro e
  have:=cL e
  subst this;exact h rfl
theorem iW (line:ByteArray) (m:Int) (h:Heap) (hm:cellOf h ⟨0,0,none⟩=some (.int .i64 m)) (hsz:line.size≤2^19):
  ah Tryz.prog ff #[.string line] h (kd h (ci (dl line))):=by
 refine nl line ?_
 unfold jt
 refine(Sp.refl h).alloc ag rfl fun a h1 H1=>?_
 have H1:Sp h h1 [aj a af (aQ aY)]:=H1
 refine(wG Tryz.strings_Split line m h1 (H1.au.cell (cu hm) hm) (by omega) 32).mono ?_
 rintro _ h2 ⟨r,l,rfl,hcut,R2⟩
 refine⟨r,rfl,?_⟩
 have H2:Sp h h2 [aj a af (aQ aY),ap bc r 1 ej l]:=H1.comp R2
 have hs:=H2.seq 1 rfl fun _=>rfl
 have hlen:=hs.len
 have hz:(dl line).length=line.size:=rfl
 have hcl:l.length=(dl line).count 32+1:=by
  have:=congrArg List.length hcut
  rw[List.length_map,gf]at this;exact this
 have hcc:(dl line).count 32≤(dl line).length:=List.count_le_length
 have hpos:0<l.length:=by omega
 have hwl:∀b∈l,b.size≤2^19:=fun b hb=>by
  have h1:dl b∈cv 32 [] (dl line):=by rw[←hcut];exact List.mem_map_of_mem hb
  have:=iV 32 _ _ _ h1
  have h2:(dl b).length=b.size:=rfl
  simp only[List.length_nil]at this;omega
 refine aF (fun i:Nat=>(i:Int)) (fun i h'=>h'=h2∧i≤l.length∧∀b∈l.take i,1≤b.size) (fun i=>l.length-i) 0 rfl ⟨rfl,by omega,by simp⟩ ?_
 rintro i h3 ⟨rfl,hi,hne⟩
 refine ak (fun e=>?_) fun e=>?_
 ·have hi':i<l.length:=by omega
  refine hs.aO (g:=Value.string) i rfl hi' l[i] rfl ?_
  refine bT (fun e=>?_) fun e=>?_
  ·have e:l[i]=⟨#[]⟩:=cL (eq_of_beq e)
   have:ci (dl line)=none:=by
    unfold ci dx gO
    rw[←hcut,if_pos];rfl
    rw[List.any_map]
    exact List.any_eq_true.2 ⟨l[i],List.getElem_mem hi',by rw[e];rfl⟩
   rw[this]
   exact aW H2 rfl aY fun h' H'=>mQ (ab.del H' 0)
  ·rw[wrap_small _ (by omega) (by omega)]
   refine⟨i+1,by simp,⟨rfl,by omega,?_⟩,by omega⟩
   rw[aD _ _ hi']
   intro b hb
   rcases List.mem_append.1 hb with hb|hb
   ·exact hne b hb
   ·rw[List.mem_singleton]at hb
    subst hb
    rcases Nat.eq_zero_or_pos l[i].size with h0|h0
    ·exfalso
     have hd:dl l[i]=[]:=List.length_eq_zero_iff.1 h0
     rw[dW,decide_eq_true (by rw[hd];rfl)]at e;cases e
    ·exact h0
 ·rw[List.take_of_length_le (by omega)]at hne
  have hw:ci (dl line)=dt (l.map dl):=by
   unfold ci dx gO
   rw[←hcut,if_neg];rfl
   intro hh
   rw[List.any_map]at hh
   obtain⟨b,hb,hb2⟩:=List.any_eq_true.1 hh
   have h0:=hne b hb
   have h1:(dl b).length=b.size:=rfl
   have:dl b=[]:=by simpa using hb2
   rw[this]at h1;simp at h1;omega
  rw[hw]
  unfold dt
  have hhd:(l.map dl).headD []=dl l[0]:=by cases l with
   |nil=>simp at hpos
   |cons x t=>rfl
  simp only[hhd,List.length_map]
  refine aM ?_
  refine hs.aO (g:=Value.string) 0 rfl hpos l[0] rfl ?_
  rw[dW,dW,dW,dW,dW]
  refine ak (fun e=>?_) fun n1=>?_
  ·rw[if_pos (show dl l[0]=[112,117,116]from e)]
   refine(uW r l h3 hs fun b hb=>⟨hne b hb,by have:=hwl b hb;omega⟩).mono ?_
   intro v h4 G
   obtain⟨d,rfl,_,hd⟩:=mS H2 rfl G
   exact⟨d,rfl,hd⟩
  rw[if_neg (show¬dl l[0]=[112,117,116]from n1)]
  refine bA (fun b h'=>h'=h3∧b=(cV (dl l[0])).isSome) ?_ ?_
  ·unfold cV
   refine ak (fun e=>?_) fun n2=>ak (fun e=>?_) fun n3=>?_
   ·exact⟨rfl,by rw[decide_eq_true e,if_pos (show dl l[0]=[103,101,116]from e)];rfl⟩
   ·exact⟨rfl,by rw[decide_eq_true e,if_neg (show¬dl l[0]=[103,101,116]from n2),if_pos (show dl l[0]=[100,101,108]from e)];rfl⟩
   ·refine⟨rfl,?_⟩
    rw[if_neg (show¬dl l[0]=[103,101,116]from n2),if_neg (show¬dl l[0]=[100,101,108]from n3)]
    show decide (dl l[0]=[115,116,97,116])=_
    by_cases e:dl l[0]=[115,116,97,116]
    ·rw[if_pos e,decide_eq_true e];rfl
    ·rw[if_neg e,decide_eq_false e];rfl
  rintro _ h3 ⟨rfl,rfl⟩
  cases hk:cV (dl l[0])with
  |some k=>
   refine cU rfl ?_
   refine(sI r l h3 hs hpos).mono ?_
   rw[hk]
   intro v h4 G
   obtain⟨d,rfl,_,hd⟩:=mS H2 rfl G
   exact⟨d,rfl,hd⟩
  |none=>
   refine ge rfl ?_
   dsimp only
   refine ak (fun e=>?_) fun n4=>?_
   ·rw[if_pos (show dl l[0]=[108,105,115,116]from e)]
    refine aT (fun e=>?_) fun e=>?_
    ·rw[if_pos (by omega)]
     exact aW H2 rfl (4,⟨#[]⟩,aw,0,0,0,0,aw,aw) fun h' H'=>lu (ab.del H' 0) 4 0 0 0 0
    ·rw[if_neg (by omega)]
     exact aW H2 rfl aY fun h' H'=>mQ (ab.del H' 0)
   rw[if_neg (show¬dl l[0]=[108,105,115,116]from n4)]
   have hcap:r.len≤r.cap:=(H2.own 1 rfl).cap
   refine⟨⟨by decide,by omega⟩,?_⟩
   refine(qW _ _ h3 (Seq.drop hs 1 hcap) (by simp;omega) (fun b hb=>by have:=hwl b (List.mem_of_mem_drop hb);omega)).mono ?_
   rintro _ h4 ⟨q,rfl,R4⟩
   refine⟨(q,_),rfl,?_⟩
   have hmt:(l.drop 1).map dl=(l.map dl).tail:=by rw[List.map_drop,List.drop_one]
   rw[hmt]at R4⊢
   cases hn:bk (l.map dl).tail with
   |none=>exact cU rfl (aW (H2.comp R4) rfl aY fun h' H'=>mQ (ab.del (ab.del H' 0) 0))
   |some ns=>
    rw[hn]at R4
    have H4:=H2.comp R4
    refine ge rfl ?_
    refine(Seq.up hs R4.au).aO (g:=Value.string) 0 rfl hpos l[0] rfl ?_
    refine(pV l[0] q (fX ns) h4 (H4.seq 2 rfl fun _=>rfl) ?_ ?_).mono ?_
    ·have:=fx hn
     simp at this⊢;omega
    ·intro x hx
     obtain⟨n,hn2,rfl⟩:=List.mem_map.1 hx
     have:=oq hn n hn2
     omega
    intro v h5 G
    obtain⟨d,rfl,_,hd⟩:=mS (ab.cB H4 [0,1]) rfl G
    exact⟨d,rfl,hd⟩
end Go.Qw
namespace Wl
def iX (L:List UInt8) (i:Nat) (w:List UInt8):List (List UInt8):=if i≤L.length then cv 32 w (L.drop i)else[]
theorem yz {L:List UInt8} {i:Nat} {w:List UInt8} (h:i<L.length) (hc:L[i]≠32):iX L i w=iX L (i+1) (w++[L[i]]):=by
 unfold iX
 rw[if_pos (by omega),if_pos (by omega),List.drop_eq_getElem_cons h,cv,if_neg hc]
theorem yA {L:List UInt8} {i:Nat} {w:List UInt8} (h:i<L.length) (hc:L[i]=32):iX L i w=w::iX L (i+1) []:=by
 unfold iX
 rw[if_pos (by omega),if_pos (by omega),List.drop_eq_getElem_cons h,cv,if_pos hc]
theorem yB {L:List UInt8} {w:List UInt8}:iX L L.length w=w::iX L (L.length+1) []:=by
 unfold iX
 rw[if_pos (by omega),if_neg (by omega),List.drop_length];rfl
theorem wc (l:List UInt8) (b:UInt8):eP 0 (l++[b])=eP 0 l*10+dg b:=by
 unfold eP;rw[List.foldl_append];rfl
end Wl
namespace Go.Qw
open Go Go.Vc Go.Proofs Wl
set_option maxRecDepth 100000
theorem cm (a b:ByteArray):dl (a++b)=dl a++dl b:=by simp[dl]
theorem sJ (s:ByteArray) (i:Nat) (h:i<(dl s).length):dl (s.extract i (i+1))=[(dl s)[i]]:=by
 unfold dl
 rw[ByteArray.data_extract,Array.toList_extract,List.extract,List.drop_eq_getElem_cons h,show i+1-i=1 by omega];rfl
theorem wd (s:ByteArray) (hsz:s.size≤2^20) (h:Heap):
  ah Tryz.prog iH #[.string s] h fun v h'=>∃(o:Sl) (l:List ByteArray),v=.tuple #[.slice o.ptr o.len o.cap,.bool (dx (dl s)).isSome]∧Sp h h' [ap bc o 1 ej l]∧((dx (dl s)).isSome=true→l.map dl=gO (dl s)):=by
 refine ig s ?_
 unfold eM
 have hz:(dl s).length=s.size:=rfl
 refine aF (fun t:Sl×ByteArray×Nat=>(t.1,t.2.1,(t.2.2:Int))) (fun t h'=>t.2.2≤s.size+1∧t.2.1.size≤t.2.2∧∃done:List ByteArray,done.length≤t.2.2∧(∀b∈done,dl b≠[])∧done.map dl++iX (dl s) t.2.2 (dl t.2.1)=gO (dl s)∧Sp h h' [ap bc t.1 1 ej done]) (fun t=>s.size+1-t.2.2) (aw,⟨#[]⟩,0) rfl ⟨by simp,Nat.le_refl _,[],by simp,by simp,?_,by simpa using(Sp.refl h).nil bc 1 ej⟩ ?_
 ·unfold iX;rw[if_pos (by simp)];rfl
 rintro⟨o,w,i⟩ h1 ⟨hi,hwi,done,hdl,hdn,he,H1⟩
 dsimp only at hi hwi hdl he H1⊢
 refine ak (fun hle=>?_) fun hgt=>?_
 ·have hi':i≤s.size:=by omega
  have hw1:IntKind.wrap .i64 ((i:Int)+1)=((i+1:Nat):Int):=by rw[wrap_small _ (by omega) (by omega)];rfl
  rw[hw1]
  refine bA (fun w' h'=>h'=h1∧w'=w∧iX (dl s) i (dl w)=dl w::iX (dl s) (i+1) []) ?_ ?_
  ·refine ak (fun hlt=>?_) fun hge=>?_
   ·have hl:i<(dl s).length:=by omega
    refine⟨(dl s)[i],⟨by omega,by rw[Int.toNat_natCast,←Array.getElem?_toList,List.getElem?_eq_getElem hl]⟩,?_⟩
    refine cA (fun hc=>?_) fun hc=>?_
    ·have hx:(s.extract (i:Int).toNat ((i+1:Nat):Int).toNat).size=1:=by
      have:=congrArg List.length (sJ s i hl)
      exact this
     refine⟨⟨by omega,by omega,by omega⟩,?_,?_⟩
     ·rw[hx];show((w.size+1:Nat):Int)≤9223372036854775807;omega
     ·refine⟨(o,w++s.extract i (i+1),i+1),rfl,⟨by dsimp only;omega,?_,done,by dsimp only;omega,hdn,?_,H1⟩,by dsimp only;omega⟩
      ·dsimp only
       have h2:(s.extract i (i+1)).size=1:=hx
       rw[ByteArray.size_append,h2];omega
      ·dsimp only
       rw[cm,sJ s i hl,←yz hl (fun e=>hc (by rw[e];rfl))];exact he
    ·exact⟨rfl,rfl,yA hl (UInt8.toNat_inj.1 (by rw[show(dl s)[i].toNat=32 by omega];rfl))⟩
   ·have:i=(dl s).length:=by omega
    subst this
    exact⟨rfl,rfl,yB⟩
  rintro w h2 ⟨rfl,rfl,ht⟩
  rw[ht]at he
  refine bT (fun e=>?_) fun e=>?_
  ·have e:w=⟨#[]⟩:=cL (eq_of_beq e)
   have:dx (dl s)=none:=by
    unfold dx
    rw[←he,if_pos]
    rw[List.any_append,e,List.any_cons,show List.isEmpty (dl (⟨#[]⟩:ByteArray))=true from rfl,Bool.true_or,Bool.or_true]
   rw[this]
   exact⟨aw,[],rfl,(ab.del H1 0).nil bc 1 ej,fun h=>by cases h⟩
  ·refine H1.push ag 0 rfl xb rfl (by decide) (fun _=>rfl) yy w rfl (by decide) (by omega) fun o' h4 H4=>?_
   refine⟨(o',⟨#[]⟩,i+1),rfl,⟨by dsimp only;omega,Nat.zero_le _,done++[w],by simp;omega,?_,?_,H4⟩,by dsimp only;omega⟩
   ·intro b hb
    rcases List.mem_append.1 hb with hb|hb
    ·exact hdn b hb
    ·rw[List.mem_singleton]at hb
     subst hb
     intro h0
     rw[dW,decide_eq_true (by rw[h0];rfl)]at e;cases e
   ·dsimp only
    rw[List.map_append,List.append_assoc];exact he
 ·have:i=(dl s).length+1:=by omega
  have ht:iX (dl s) i (dl w)=[]:=by unfold iX;rw[if_neg (by omega)]
  rw[ht,List.append_nil]at he
  have hw:dx (dl s)=some (gO (dl s)):=by
   unfold dx
   rw[if_neg]
   rw[←he,List.any_map]
   intro hh
   obtain⟨b,hb,hb2⟩:=List.any_eq_true.1 hh
   exact hdn b hb (by simpa using hb2)
  rw[hw]
  exact⟨o,done,rfl,H1,fun _=>he⟩
theorem uX (s:ByteArray) (hsz:s.size≤2^20) (h:Heap):
  ah Tryz.prog ik #[.string s] h fun v h'=>v=.int .i64 (match bJ (dl s)with|some n=>(n:Int)|none=>-1)∧h'=h:=by
 refine gT s ?_
 unfold eA
 have hz:(dl s).length=s.size:=rfl
 have no:dk (dl s)=false→Value.int .i64 (-1:Int)=.int .i64 (match bJ (dl s)with|some n=>(n:Int)|none=>-1)∧h=h:=fun e=>⟨by rw[qy e],rfl⟩
 refine bA (fun _ h1=>h1=h∧(1≤s.size∧s.size≤9)∧(decide (1<(dl s).length)&&(dl s).headD 0==48)=false) ?_ ?_
 ·refine ak (fun e=>no ?_) fun e1=>ak (fun e=>no ?_) fun e2=>ak (fun e3=>?_) fun e3=>⟨rfl,⟨by omega,by omega⟩,?_⟩
  ·unfold dk;rw[decide_eq_false (by omega)];rfl
  ·unfold dk;rw[decide_eq_false (by omega)];rfl
  ·have h0:0<(dl s).length:=by omega
   have hh:(dl s).headD 0=(dl s)[0]:=by rw[List.headD_eq_head?_getD,List.head?_eq_getElem?,List.getElem?_eq_getElem h0];rfl
   refine⟨(dl s)[0],⟨by decide,by show s.data[0]?=_;rw[←Array.getElem?_toList,List.getElem?_eq_getElem h0]⟩,?_⟩
   refine aT (fun e=>no ?_) fun e=>⟨rfl,⟨by omega,by omega⟩,?_⟩
   ·unfold dk
    have:(dl s)[0]=48:=UInt8.toNat_inj.1 (by rw[show(dl s)[0].toNat=48 by omega];rfl)
    rw[hh,this,decide_eq_true (show 1<(dl s).length by omega)];simp
   ·rw[hh,beq_eq_false_iff_ne.2 (fun hc=>e (by rw[hc];rfl)),Bool.and_false]
  ·rw[decide_eq_false (by omega)];rfl
 rintro _ h1 ⟨rfl,hl,hh⟩
 refine aF (fun t:Nat=>(((eP 0 ((dl s).take t):Nat):Int),(t:Int))) (fun t h'=>h'=h1∧t≤s.size∧((dl s).take t).all dX=true) (fun t=>s.size-t) 0 rfl ⟨rfl,by omega,rfl⟩ ?_
 rintro i h2 ⟨rfl,hi,hall⟩
 refine ak (fun hlt=>?_) fun hge=>?_
 ·have hi':i<(dl s).length:=by omega
  have hc:s.data[(i:Int).toNat]?=some (dl s)[i]:=by rw[Int.toNat_natCast,←Array.getElem?_toList,List.getElem?_eq_getElem hi']
  have bad:dX (dl s)[i]=false→dk (dl s)=false:=fun e=>by
   have:(dl s).all dX=false:=Bool.eq_false_iff.2 fun ha=>by
    have:=List.all_eq_true.1 ha _ (List.getElem_mem hi')
    rw[e]at this;cases this
   unfold dk;rw[this,Bool.and_false]
  refine bA (fun _ h'=>h'=h2∧dX (dl s)[i]=true) ?_ ?_
  ·refine⟨_,⟨by omega,hc⟩,ak (fun e=>no (bad (decide_eq_false (by omega)))) fun e1=>⟨_,⟨by omega,hc⟩,ak (fun e=>no (bad (decide_eq_false (by omega)))) fun e2=>⟨rfl,decide_eq_true (by omega)⟩⟩⟩
  rintro _ h3 ⟨rfl,hd⟩
  refine⟨_,⟨by omega,hc⟩,?_⟩
  have hdd:=nc hd
  have hv:=pA ((dl s).take i) 0 0 hall (by decide)
  have hv2:eP 0 ((dl s).take i)<10^9:=Nat.lt_of_lt_of_le hv (Nat.pow_le_pow_right (by decide) (by simp;omega))
  have e8:IntKind.wrap .u8 ((((dl s)[i].toNat:Nat):Int)-48)=((dg (dl s)[i]:Nat):Int):=by
   show _%(256:Int)=_
   unfold dg;omega
  have hdg:dg (dl s)[i]≤9:=by unfold dg;omega
  rw[e8,wrap_small ((dg _:Nat):Int) (by omega) (by omega),wrap_small (10*_) (by omega) (by omega),wrap_small (10*_+_) (by omega) (by omega),wrap_small ((i:Int)+1) (by omega) (by omega)]
  refine⟨i+1,?_,⟨rfl,by omega,?_⟩,by omega⟩
  ·rw[aD _ _ hi',wc]
   have:(10*((eP 0 ((dl s).take i):Nat):Int)+((dg (dl s)[i]:Nat):Int))=((eP 0 ((dl s).take i)*10+dg (dl s)[i]:Nat):Int):=by omega
   rw[this];rfl
  ·rw[aD _ _ hi',List.all_append,hall,List.all_cons,hd];rfl
 ·rw[List.take_of_length_le (by omega)]at hall⊢
  have hm:dk (dl s)=true:=by unfold dk;rw[decide_eq_true ⟨by omega,by omega⟩,hh,hall];rfl
  exact⟨by rw[qx hm],rfl⟩
end Go.Qw
namespace Wl
def fZ:List UInt8:=[48,49,50,51,52,53,54,55,56,57,97,98,99,100,101,102]
theorem yC:∀i,i<16→cE (fZ.getD i 0)=some i:=by decide+kernel
theorem yD {b:UInt8} (h:∀i,i<16→fZ.getD i 0≠b):cE b=none:=by
 have h2:cM b=false:=by
  rw[←xL,Bool.eq_false_iff]
  intro hc
  have hm:b∈fZ:=List.contains_iff_mem.1 hc
  obtain⟨i,hi,e⟩:=List.mem_iff_getElem.1 hm
  exact h i hi (by rw[List.getD_eq_getElem?_getD,List.getElem?_eq_getElem hi];exact e)
 unfold cM at h2
 cases hd:cE b with
 |none=>rfl
 |some d=>rw[hd]at h2;cases h2
end Wl
namespace Go.Qw
open Go Go.Vc Go.Proofs Wl
set_option maxRecDepth 100000
abbrev Aw (o:Option Nat):Int:=match o with|some n=>(n:Int)|none=>-1
theorem qF (c:UInt8) (h:Heap):ah Tryz.prog iK #[.int .u8 ((c.toNat:Nat):Int)] h fun v h'=>v=.int .i64 (Aw (cE c))∧h'=h:=by
 refine ij _ ?_
 unfold eN
 refine aF (fun i:Nat=>(i:Int)) (fun i h'=>h'=h∧i≤16∧∀k,k<i→fZ.getD k 0≠c) (fun i=>16-i) 0 rfl ⟨rfl,by omega,fun k hk=>by omega⟩ ?_
 rintro i h1 ⟨rfl,hi,hn⟩
 refine ak (fun hlt=>?_) fun hge=>?_
 ·have hi':i<16:=by omega
  refine⟨fZ.getD i 0,⟨by omega,?_⟩,?_⟩
  ·rw[Int.toNat_natCast]
   have:∀i,i<16→(fZ.toArray)[i]?=some (fZ.getD i 0):=by decide+kernel
   exact this i hi'
  refine aT (fun e=>?_) fun e=>?_
  ·have:fZ.getD i 0=c:=UInt8.toNat_inj.1 (by omega)
   rw[←this,yC i hi']
   exact⟨rfl,rfl⟩
  ·rw[wrap_small _ (by omega) (by omega)]
   refine⟨i+1,by simp,⟨rfl,by omega,fun k hk=>?_⟩,by omega⟩
   rcases Nat.lt_or_ge k i with h1|h1
   ·exact hn k h1
   ·have:k=i:=by omega
    subst this
    exact fun hc=>e (by rw[hc])
 ·rw[yD fun k hk=>hn k (by omega)]
  exact⟨rfl,rfl⟩
theorem tC (s:Sl) (l:List ByteArray) (h:Heap) (hs:Rd h s 1 ej l) (hl:l.length≤2^20) (hb:∀b∈l,b.size≤2^20):
  ah Tryz.prog gR #[.slice s.ptr s.len s.cap] h fun v h'=>∃r:Sl,v=.tuple #[.slice r.ptr r.len r.cap,.bool (bk (l.map dl)).isSome]∧Sp h h' [ap ax r 1 ao (fX ((bk (l.map dl)).getD []))]:=by
 refine gC s ?_
 unfold eb
 refine aF (fun t:Sl×Nat=>(t.1,(t.2:Int))) (fun t h'=>t.2≤l.length∧∃ns,bk ((l.map dl).take t.2)=some ns∧Sp h h' [ap ax t.1 1 ao (fX ns)]) (fun t=>l.length-t.2) (⟨none,0,0⟩,0) rfl ⟨by simp,[],rfl,by simpa using(Sp.refl h).nil ax 1 ao⟩ ?_
 rintro⟨o,i⟩ h1 ⟨hi,ns,hn,H1⟩
 dsimp only at hi hn H1⊢
 have hlen:=hs.len
 refine ak (fun e=>?_) (fun e=>?_)
 ·have hi':i<l.length:=by omega
  have hm:l[i]∈l:=List.getElem_mem hi'
  refine(Seq.up hs H1.au).aO (g:=Value.string) i rfl hi' l[i] rfl ?_
  refine(uX l[i] (hb _ hm) h1).mono ?_
  rintro _ h2 ⟨rfl,rfl⟩
  refine⟨_,rfl,?_⟩
  cases hc:bJ (dl l[i])with
  |none=>
   have hz:bk (l.map dl)=none:=lq hc (List.mem_map_of_mem hm)
   rw[hz]
   exact cU (decide_eq_true (show(-1:Int)<0 by decide)) ⟨aw,rfl,(ab.del H1 0).nil ax 1 ao⟩
  |some n=>
   refine ge (decide_eq_false (show¬((n:Int)<0)by omega)) ?_
   have hnl:ns.length≤2^20:=by rw[fx hn];simp;omega
   refine H1.push ag 0 rfl bF rfl (by decide) (fun _=>rfl) bC (n:Int) rfl (by decide) (by simp;omega) fun o' h4 H4=>?_
   refine⟨(o',i+1),by dsimp only;rw[wrap_small _ (by omega) (by omega)];rfl,⟨by dsimp only;omega,ns++[n],?_,?_⟩,by dsimp only;omega⟩
   ·dsimp only
    rw[aD _ _ (show i<(l.map dl).length by simpa using hi'),List.getElem_map,lp,hn]
    show Option.map _ (bJ (dl l[i]))=_
    rw[hc];rfl
   ·dsimp only
    rw[show fX (ns++[n])=fX ns++[(n:Int)]by simp[fX]]
    exact H4
 ·have hi2:i=l.length:=by omega
  rw[List.take_of_length_le (by simp;omega)]at hn
  rw[hn]
  exact⟨o,rfl,H1⟩
theorem yE (w:ByteArray) (hs:w.size≤2^20) (h1s:1≤w.size) (h:Heap):
  ah Tryz.prog jU #[.string w] h fun v h'=>∃(r:Sl) (d:List UInt8),v=.tuple #[.slice r.ptr r.len r.cap,.bool (cF (dl w)).isSome]∧Sp h h' [ap aA r 1 aE d]∧∀x,cF (dl w)=some x→d=x:=by
 refine jb w ?_
 unfold fm
 have hz:(dl w).length=w.size:=rfl
 refine bT (fun e=>?_) fun e1=>?_
 ·have e:w=⟨#[45]⟩:=cL (eq_of_beq e)
  subst e
  exact⟨aw,[],rfl,(Sp.refl h).nil aA 1 aE,fun x hx=>by cases hx;rfl⟩
 have e1:dl w≠[45]:=fun hh=>by
  rw[dW]at e1
  exact of_decide_eq_false e1 hh
 have no:∀{h1:Heap} {r:Sl} {d:List UInt8},Sp h h1 [ap aA r 1 aE d]→¬((dl w).length%2=0∧(dl w).all cM=true)→∃(r':Sl) (d:List UInt8),Value.tuple #[.slice r.ptr r.len r.cap,.bool false]=.tuple #[.slice r'.ptr r'.len r'.cap,.bool (cF (dl w)).isSome]∧Sp h h1 [ap aA r' 1 aE d]∧∀x,cF (dl w)=some x→d=x:=fun{h1 r d} H e=>by
  have:cF (dl w)=none:=by unfold cF;rw[if_neg e1,if_neg e]
  rw[this]
  exact⟨r,d,rfl,H,fun x hx=>by cases hx⟩
 have hpl:=jz (dl w)
 refine aF (fun t:Sl×Nat=>(t.1,((2*t.2:Nat):Int))) (fun t h'=>t.2≤(cN (dl w)).length∧((dl w).take (2*t.2)).all cM=true∧Sp h h' [ap aA t.1 1 aE ((cN (dl w)).take t.2)]) (fun t=>(cN (dl w)).length-t.2) (aw,0) rfl ⟨by simp,rfl,by simpa using(Sp.refl h).nil aA 1 aE⟩ ?_
 rintro⟨o,j⟩ h3 ⟨hj,hall,H3⟩
 dsimp only at hj hall H3⊢
 have hw1:IntKind.wrap .i64 (((2*j:Nat):Int)+1)=((2*j+1:Nat):Int):=by rw[wrap_small _ (by omega) (by omega)];rfl
 rw[hw1]
 refine ak (fun e=>?_) (fun e=>?_)
 ·have hj':j<(cN (dl w)).length:=by omega
  have g1:2*j<(dl w).length:=by omega
  have g2:2*j+1<(dl w).length:=by omega
  obtain⟨a,ha⟩:∃a,a=(dl w)[2*j]:=⟨_,rfl⟩
  obtain⟨b,hb⟩:∃b,b=(dl w)[2*j+1]:=⟨_,rfl⟩
  have pg:=mK (dl w) j a b (by rw[List.getElem?_eq_getElem g1,ha]) (by rw[List.getElem?_eq_getElem g2,hb])
  have bad:∀c∈dl w,cE c=none→¬((dl w).length%2=0∧(dl w).all cM=true):=fun c hc hd hh=>by
   have:=List.all_eq_true.1 hh.2 c hc
   unfold cM at this;rw[hd]at this;cases this
  refine aM ?_
  refine⟨a,⟨by omega,by rw[Int.toNat_natCast,←Array.getElem?_toList,List.getElem?_eq_getElem g1,ha]⟩,b,⟨by omega,by rw[Int.toNat_natCast,←Array.getElem?_toList,List.getElem?_eq_getElem g2,hb]⟩,?_⟩
  refine(qF a h3).mono ?_
  rintro _ h4 ⟨rfl,rfl⟩
  refine⟨_,rfl,trivial,?_⟩
  refine(qF b h4).mono ?_
  rintro _ h5 ⟨rfl,rfl⟩
  refine⟨_,rfl,trivial,?_⟩
  dsimp only
  refine aM ?_
  cases hda:cE a with
  |none=>exact cU (decide_eq_true (show(-1:Int)<0 by decide)) (no ((ab.del H3 0).nil aA 1 aE) (bad a (by rw[ha];exact List.getElem_mem g1) hda))
  |some x=>
   refine ge (decide_eq_false (show¬((x:Int)<0)by omega)) ?_
   cases hdb:cE b with
   |none=>exact cU (decide_eq_true (show(-1:Int)<0 by decide)) (no ((ab.del H3 0).nil aA 1 aE) (bad b (by rw[hb];exact List.getElem_mem g2) hdb))
   |some y=>
    refine ge (decide_eq_false (show¬((y:Int)<0)by omega)) ?_
    have la:=ng a
    have lb:=ng b
    rw[hda]at la pg;rw[hdb]at lb pg
    simp only[Option.getD_some]at la lb pg
    refine H3.push ag 0 rfl eZ rfl (by decide) (fun _=>rfl) dw (UInt8.ofNat (16*x+y)) ?_ (by decide) (by simp;omega) fun o' h6 H6=>?_
    ·have:IntKind.wrap .u8 (IntKind.wrap .i64 (IntKind.wrap .i64 (16*(x:Int))+(y:Int)))=(((UInt8.ofNat (16*x+y)).toNat:Nat):Int):=by
      rw[wrap_small (16*_) (by omega) (by omega),wrap_small _ (by omega) (by omega),UInt8.toNat_ofNat']
      show _%(256:Int)=_
      omega
     dsimp only
     rw[this];rfl
    refine⟨(o',j+1),by dsimp only;rw[wrap_small _ (by omega) (by omega)];congr 1,⟨by dsimp only;omega,?_,?_⟩,by dsimp only;omega⟩
    ·dsimp only
     rw[show 2*(j+1)=2*j+1+1 by omega,aD _ _ g2,aD _ _ g1,List.all_append,List.all_append,hall,←ha,←hb,List.all_cons,List.all_cons]
     unfold cM
     rw[hda,hdb];rfl
    ·dsimp only
     have:(cN (dl w))[j]=UInt8.ofNat (16*x+y):=by
      rw[List.getElem?_eq_getElem hj']at pg;exact Option.some.inj pg
     rw[aD _ _ hj',this]
     exact H6
 ·have htm:Int.tmod (w.size:Int) 2=((w.size%2:Nat):Int):=by rw[Int.tmod_eq_emod_of_nonneg (by omega)];rfl
  refine⟨by decide,aT (fun e=>?_) fun e=>no H3 (fun hh=>by omega)⟩
  have hev:(dl w).length%2=0:=by omega
  have hjl:2*j=(dl w).length:=by omega
  rw[hjl,List.take_length]at hall
  rw[List.take_of_length_le (by omega)]at H3
  have hx:cF (dl w)=some (cN (dl w)):=by unfold cF;rw[if_neg e1,if_pos ⟨hev,hall⟩]
  rw[hx,decide_eq_true (show(w.size:Int)>0 by omega)]
  exact⟨o,_,rfl,H3,fun x hx=>by cases hx;rfl⟩
end Go.Qw
namespace Wl
theorem uY {ws:List (List UInt8)} (h1:¬(ws.headD []=[112,117,116]∧ws.length=3)) (h2:¬(ws.headD []=[103,101,116]∧ws.length=2)) (h3:¬(ws.headD []=[100,101,108]∧ws.length=2)) (h4:¬(ws.headD []=[115,116,97,116]∧ws.length=2)) (h5:¬(ws.headD []=[108,105,115,116]∧ws.length=1)):
  dt ws=match bk ws.tail with
   |none=>none
   |some ns=>bK (ws.headD []) (ns.map (fun(n:Nat)=>(n:Int))):=by
 unfold dt
 dsimp only
 generalize ws.headD []=w at*
 by_cases e1:w=[112,117,116]
 ·rw[if_pos e1,if_neg (fun hh=>h1 ⟨e1,hh⟩),e1]
  cases bk ws.tail with
  |none=>rfl
  |some ns=>simp[bK]
 rw[if_neg e1]
 by_cases e2:w=[103,101,116]
 ·rw[e2,show cV [103,101,116]=some 2 from rfl];dsimp only;rw[if_neg (fun hh=>h2 ⟨e2,hh⟩)]
  cases bk ws.tail with
  |none=>rfl
  |some ns=>simp[bK]
 by_cases e3:w=[100,101,108]
 ·rw[e3,show cV [100,101,108]=some 3 from rfl];dsimp only;rw[if_neg (fun hh=>h3 ⟨e3,hh⟩)]
  cases bk ws.tail with
  |none=>rfl
  |some ns=>simp[bK]
 by_cases e4:w=[115,116,97,116]
 ·rw[e4,show cV [115,116,97,116]=some 5 from rfl];dsimp only;rw[if_neg (fun hh=>h4 ⟨e4,hh⟩)]
  cases bk ws.tail with
  |none=>rfl
  |some ns=>simp[bK]
 have hn:cV w=none:=by unfold cV;rw[if_neg e2,if_neg e3,if_neg e4]
 rw[hn];dsimp only
 by_cases e5:w=[108,105,115,116]
 ·rw[if_pos e5,if_neg (fun hh=>h5 ⟨e5,hh⟩),e5]
  cases bk ws.tail with
  |none=>rfl
  |some ns=>simp[bK]
 rw[if_neg e5];rfl
end Wl
namespace Go.Qw
open Go Go.Vc Go.Proofs Wl
set_option maxRecDepth 100000
theorem cd {lit:ByteArray} {n:Int} {h:Heap} {s:Sl} {l:List ByteArray} {p:al} {rest:Bool→Heap→Prop} (hs:Vc.Seq h p s 1 ej l) (h0:0<l.length) {len:Nat} (hr:rest (decide (dl l[0]=dl lit∧(len:Int)=n)) h):
  aC rest (fun K=>∃a:Addr,(s.ptr=some a∧0≤(0:Int)∧(0:Int)<(s.len:Int))∧∃x:ByteArray,cellOf h (a.add ((0:Int).toNat*1))=some (.string x)∧Br (x.toList==lit.toList) (K ((len:Int)==n) h) (K false h)):=
 aM (hs.aO (g:=Value.string) 0 rfl h0 l[0] rfl (xP hr))
theorem uZ {h h1:Heap} {a1 a4:Addr} {c1 c4:List Value} (H:Sp h h1 [aj a1 af c1,aj a4 af c4]) (hc:c4.length=9) (k sl n m ms:Int) {K:Heap→Prop}
  (hK:∀h',Sp h h' (aj a1 af c1::aj a4 af (aQ (k,⟨#[]⟩,aw,sl,n,m,ms,aw,aw))::it (k,⟨#[]⟩,aw,sl,n,m,ms,aw,aw) {kind:=k,slot:=sl,n:=n,m:=m,mask:=ms})→K h'):
  aa Tryz.prog (Instr.storeAt af (.pointer (some a4)) (dG (k,⟨#[]⟩,aw,sl,n,m,ms,aw,aw))) h1 fun _ h'=>K h':=by
 refine H.storeAll ag 1 rfl rfl (aQ (k,⟨#[]⟩,aw,sl,n,m,ms,aw,aw)) rfl rfl rfl (by rw[hc];rfl) fun h' H'=>hK h' ?_
 exact((H'.nil aA 1 aE).nil ax 1 ao).nil ax 1 ao
theorem rm {h h1:Heap} {a1 a4:Addr} {c1 c4:List Value} (H:Sp h h1 [aj a1 af c1,aj a4 af c4]) (hc:c4.length=9) (k sl n m ms:Int) {K:Heap→Prop}
  (hK:∀h',Sp h h' (aj a1 af c1::aj a4 af (aQ (k,⟨#[]⟩,aw,sl,n,m,ms,aw,aw))::it (k,⟨#[]⟩,aw,sl,n,m,ms,aw,aw) {kind:=k,slot:=sl,n:=n,m:=m,mask:=ms})→K h'):
  aa Tryz.prog (Instr.storeAt af (.pointer (some a4)) (dG (k,⟨#[]⟩,aw,sl,n,m,ms,aw,aw))) h1 fun _ h'=>ar.ok [] h'∧K h':=(uZ H hc k sl n m ms hK).mono fun _ _ x=>⟨trivial,x⟩
theorem we (line:ByteArray) (h:Heap) (hsz:line.size≤2^19):
  ah Tryz.prog ez #[.string line] h (kd h (ci (dl line))):=by
 refine ic line ?_
 unfold eK
 refine(Sp.refl h).alloc ag rfl fun a h1 H1=>?_
 have H1:Sp h h1 [aj a af (aQ aY)]:=H1
 refine(wd line (by omega) h1).mono ?_
 rintro _ h2 ⟨r,l,rfl,R2,hws⟩
 refine⟨(r,(dx (dl line)).isSome),rfl,?_⟩
 dsimp only
 have H2:Sp h h2 [aj a af (aQ aY),ap bc r 1 ej l]:=H1.comp R2
 cases hw:dx (dl line)with
 |none=>
  have hp:ci (dl line)=none:=by unfold ci;rw[hw];rfl
  rw[hp]
  exact cU rfl (aW H2 rfl aY fun h' H'=>mQ (ab.del H' 0))
 |some ws=>
  have hmap:=hws (by rw[hw];rfl)
  have hwc:ws=gO (dl line)∧(gO (dl line)).any List.isEmpty=false:=by
   unfold dx at hw
   split at hw
   ·cases hw
   ·rename_i hh;cases hw;exact⟨rfl,Bool.eq_false_iff.2 hh⟩
  have hp:ci (dl line)=dt (l.map dl):=by unfold ci;rw[hw,hmap,hwc.1];rfl
  rw[hp]
  refine ge rfl ?_
  refine H2.alloc ag rfl fun a4 h3 H3=>?_
  have H3:Sp h h3 [aj a af (aQ aY),ap bc r 1 ej l,aj a4 af (aQ aY)]:=H3
  have hs:=H3.seq 1 rfl fun _=>rfl
  have hlen:=hs.len
  have hz:(dl line).length=line.size:=rfl
  have hcl:l.length=(dl line).count 32+1:=by
   have:=congrArg List.length hmap
   unfold gO at this
   rw[List.length_map,gf]at this;exact this
  have hcc:(dl line).count 32≤(dl line).length:=List.count_le_length
  have hpos:0<l.length:=by omega
  have hwl:∀b∈l,1≤b.size∧b.size≤2^19:=fun b hb=>by
   have hm:dl b∈cv 32 [] (dl line):=by
    have:dl b∈l.map dl:=List.mem_map_of_mem hb
    rw[hmap]at this;exact this
   have:=iV 32 _ _ _ hm
   have h2:(dl b).length=b.size:=rfl
   simp only[List.length_nil]at this
   refine⟨?_,by omega⟩
   rcases Nat.eq_zero_or_pos b.size with h0|h0
   ·have hd:dl b=[]:=List.length_eq_zero_iff.1 h0
    have:=List.any_eq_false.1 hwc.2 _ hm
    rw[hd]at this;exact absurd rfl this
   ·exact h0
  have hhd:(l.map dl).headD []=dl l[0]:=by cases l with
   |nil=>simp at hpos
   |cons x t=>rfl
  refine bA (fun _ h'=>h'=h3∧dt (l.map dl)=match bk (l.map dl).tail with|none=>none|some ns=>bK (dl l[0]) (fX ns)) ?_ ?_
  ·refine cd hs hpos ?_
   refine ak (fun e=>?_) fun n1=>?_
   ·have e3:l.length=3:=by omega
    have hm:dt (l.map dl)=(cF (dl (l[2]'(by omega)))).map fun d=>{kind:=1,name:=dl (l[1]'(by omega)),data:=d}:=by
     unfold dt
     simp only[hhd,List.length_map]
     rw[if_pos (show dl l[0]=[112,117,116]from e.1),if_pos e3]
     simp[List.getD_eq_getElem?_getD,e3]
    rw[hm]
    refine hs.aO (g:=Value.string) 2 rfl (by omega) _ rfl ?_
    have hb:=hwl _ (List.getElem_mem (show 2<l.length by omega))
    refine(yE (l[2]'(by omega)) (by omega) hb.1 h3).mono ?_
    rintro _ h4 ⟨q,d,rfl,R4,hd⟩
    have H4:=H3.comp R4
    refine⟨(_,_),rfl,?_⟩
    cases hx:cF (dl (l[2]'(by omega)))with
    |none=>exact cU rfl (aW H4 rfl aY fun h' H'=>mQ (ab.del (ab.del (ab.del H' 0) 0) 0))
    |some dd=>
     have:=hd dd hx
     subst this
     refine ge rfl ?_
     refine(Seq.up hs R4.au).aO (g:=Value.string) 1 rfl (by omega) _ rfl ?_
     refine aW H4 rfl (1,l[1]'(by omega),q,0,0,0,0,aw,aw) fun h' H'=>⟨_,rfl,⟨rfl,rfl,rfl,rfl,rfl,rfl⟩,?_⟩
     exact((ab.del (ab.del H' 0) 0).nil ax 1 ao).nil ax 1 ao
   have named:∀(k:Int) (w:List UInt8),cV w=some k→w≠[112,117,116]→dl l[0]=w→(hl:l.length=2)→dt (l.map dl)=some {kind:=k,name:=dl (l[1]'(by omega))}:=fun k w hk hne e hl=>by
    unfold dt
    simp only[hhd,List.length_map]
    rw[e,if_neg hne,hk]
    simp[List.getD_eq_getElem?_getD,hl]
   refine cd hs hpos ?_
   refine ak (fun e=>?_) fun n2=>?_
   ·rw[named 2 [103,101,116] rfl (by decide) e.1 (by omega)]
    refine hs.aO (g:=Value.string) 1 rfl (by omega) _ rfl ?_
    exact aW H3 rfl (2,l[1]'(by omega),aw,0,0,0,0,aw,aw) fun h' H'=>⟨_,rfl,⟨rfl,rfl,rfl,rfl,rfl,rfl⟩,oo (ab.del (ab.del H' 0) 0) _ _ rfl rfl rfl rfl rfl rfl⟩
   refine cd hs hpos ?_
   refine ak (fun e=>?_) fun n3=>?_
   ·rw[named 3 [100,101,108] rfl (by decide) e.1 (by omega)]
    refine hs.aO (g:=Value.string) 1 rfl (by omega) _ rfl ?_
    exact aW H3 rfl (3,l[1]'(by omega),aw,0,0,0,0,aw,aw) fun h' H'=>⟨_,rfl,⟨rfl,rfl,rfl,rfl,rfl,rfl⟩,oo (ab.del (ab.del H' 0) 0) _ _ rfl rfl rfl rfl rfl rfl⟩
   refine cd hs hpos ?_
   refine ak (fun e=>?_) fun n4=>?_
   ·rw[named 5 [115,116,97,116] rfl (by decide) e.1 (by omega)]
    refine hs.aO (g:=Value.string) 1 rfl (by omega) _ rfl ?_
    exact aW H3 rfl (5,l[1]'(by omega),aw,0,0,0,0,aw,aw) fun h' H'=>⟨_,rfl,⟨rfl,rfl,rfl,rfl,rfl,rfl⟩,oo (ab.del (ab.del H' 0) 0) _ _ rfl rfl rfl rfl rfl rfl⟩
   refine hs.aO (g:=Value.string) 0 rfl hpos l[0] rfl ?_
   have rest:¬(dl l[0]=[108,105,115,116]∧l.length=1)→h3=h3∧dt (l.map dl)=match bk (l.map dl).tail with|none=>none|some ns=>bK (dl l[0]) (fX ns):=fun n5=>by
    have:=uY (ws:=l.map dl) (by rw[hhd,List.length_map];exact fun hh=>n1 ⟨hh.1,by omega⟩) (by rw[hhd,List.length_map];exact fun hh=>n2 ⟨hh.1,by omega⟩) (by rw[hhd,List.length_map];exact fun hh=>n3 ⟨hh.1,by omega⟩) (by rw[hhd,List.length_map];exact fun hh=>n4 ⟨hh.1,by omega⟩) (by rw[hhd,List.length_map];exact n5)
    rw[hhd]at this
    exact⟨rfl,this⟩
   rw[dW]
   refine ak (fun e=>aT (fun e1=>?_) fun e1=>rest fun hh=>e1 (by omega)) fun n5=>rest fun hh=>n5 hh.1
   have hm:dt (l.map dl)=some {kind:=4}:=by
    unfold dt
    simp only[hhd,List.length_map]
    rw[show dl l[0]=[108,105,115,116]from e,if_neg (by decide),show cV [108,105,115,116]=none from rfl]
    dsimp only
    rw[if_pos rfl,if_pos (by omega)]
   rw[hm]
   exact aW H3 rfl (4,⟨#[]⟩,aw,0,0,0,0,aw,aw) fun h' H'=>lu (ab.del (ab.del H' 0) 0) 4 0 0 0 0
  rintro _ h3 ⟨rfl,hmv⟩
  rw[hmv]
  have hcap:r.len≤r.cap:=(H3.own 1 rfl).cap
  refine⟨⟨by decide,by omega⟩,?_⟩
  refine(tC _ _ h3 (Seq.drop hs 1 hcap) (by simp;omega) (fun b hb=>by have:=hwl b (List.mem_of_mem_drop hb);omega)).mono ?_
  rintro _ h4 ⟨q,rfl,R4⟩
  refine⟨(q,(bk ((l.drop 1).map dl)).isSome),rfl,?_⟩
  dsimp only
  have hmt:(l.drop 1).map dl=(l.map dl).tail:=by rw[List.map_drop,List.drop_one]
  rw[hmt]at R4⊢
  cases hn:bk (l.map dl).tail with
  |none=>exact cU rfl (aW (H3.comp R4) rfl aY fun h' H'=>mQ (ab.del (ab.del (ab.del H' 0) 0) 0))
  |some ns=>
   rw[hn]at R4
   have H4:=H3.comp R4
   refine ge rfl ?_
   have H5:Sp h h4 [aj a af (aQ aY),aj a4 af (aQ aY),ap ax q 1 ao (fX ns)]:=ab.cB H4 [0,2,3]
   have hq:=H5.seq 2 rfl fun _=>rfl
   have hql:=hq.len
   have hsl:=Seq.up hs R4.au
   have H6:Sp h h4 [aj a af (aQ aY),aj a4 af (aQ aY)]:=ab.cB H5 [0,1]
   have hnl:ns.length≤2^20:=by
    have:=fx hn
    simp at this;omega
   have hofl:(fX ns).length≤2^20:=by simpa[fX]using hnl
   have hmem:∀x∈fX ns,0≤x∧x<2^32:=by
    intro x hx
    obtain⟨n,hn2,rfl⟩:=List.mem_map.1 hx
    have:=oq hn n hn2
    omega
   dsimp only
   clear hmv
   obtain⟨L,hL⟩:∃L,L=fX ns:=⟨_,rfl⟩
   rw[←hL]at hq hql hofl hmem H5⊢
   have g:∀(i:Nat) (hi:i<L.length),L.getD i 0=L[i]:=fun i hi=>getD_lt hi
   obtain⟨o,ho⟩:∃o,o=bK (dl l[0]) L:=⟨_,rfl⟩
   rw[←ho]
   refine bA (fun _ h'=>∃y:cr,mP y (o.getD {})∧decide (y.1>0)=o.isSome∧Sp h h' (aj a af (aQ aY)::aj a4 af (aQ y)::it y (o.getD {}))) ?_ ?_
   rotate_left
   ·rintro _ h5 ⟨y,F,hd,H⟩
    refine⟨y,(H.box 1 rfl).bh _ rfl,y.1,(H.box 1 rfl).cell0 rfl,?_⟩
    refine H.storeAll ag 0 rfl rfl (aQ y) rfl rfl rfl rfl fun h6 H6=>⟨⟨(H6.box 1 rfl).cell0 rfl,trivial⟩,y,(H6.box 0 rfl).bh _ rfl,?_⟩
    rw[hd];exact⟨y,rfl,F,ab.cB H6 [2,3,4]⟩
   unfold bK at ho
   refine cd hsl hpos ?_
   refine ak (fun e=>?_) fun n11=>?_
   ·rw[if_pos ⟨e.1,by omega⟩,g 0 (by omega),g 1 (by omega)]at ho
    subst ho
    refine hq.aO (g:=Value.int .i64) 0 rfl (by omega) _ rfl ?_
    refine hq.aO (g:=Value.int .i64) 1 rfl (by omega) _ rfl ?_
    exact rm H6 rfl 6 (L[0]'(by omega)) (L[1]'(by omega)) 0 0 fun h' H'=>⟨_,⟨rfl,rfl,rfl,rfl,rfl,rfl⟩,rfl,H'⟩
   rw[if_neg (fun hh=>n11 ⟨hh.1,by omega⟩)]at ho
   refine cd hsl hpos ?_
   refine ak (fun e=>?_) fun n12=>?_
   ·rw[if_pos ⟨e.1,by omega⟩,g 0 (by omega)]at ho
    subst ho
    refine hq.aO (g:=Value.int .i64) 0 rfl (by omega) _ rfl ?_
    exact uZ H6 rfl 7 (L[0]'(by omega)) 0 0 0 fun h' H'=>⟨_,⟨rfl,rfl,rfl,rfl,rfl,rfl⟩,rfl,H'⟩
   rw[if_neg (fun hh=>n12 ⟨hh.1,by omega⟩)]at ho
   refine cd hsl hpos ?_
   refine ak (fun e=>?_) fun n13=>?_
   ·rw[if_pos ⟨e.1,by omega⟩,g 0 (by omega),g 1 (by omega)]at ho
    subst ho
    refine hq.aO (g:=Value.int .i64) 0 rfl (by omega) _ rfl ?_
    refine hq.aO (g:=Value.int .i64) 1 rfl (by omega) _ rfl ?_
    exact rm H6 rfl 8 (L[0]'(by omega)) (L[1]'(by omega)) 0 0 fun h' H'=>⟨_,⟨rfl,rfl,rfl,rfl,rfl,rfl⟩,rfl,H'⟩
   rw[if_neg (fun hh=>n13 ⟨hh.1,by omega⟩)]at ho
   refine cd hsl hpos ?_
   refine ak (fun e=>?_) fun n14=>?_
   ·rw[if_pos ⟨e.1,by omega⟩,g 0 (by omega)]at ho
    subst ho
    refine hq.aO (g:=Value.int .i64) 0 rfl (by omega) _ rfl ?_
    exact uZ H6 rfl 9 (L[0]'(by omega)) 0 0 0 fun h' H'=>⟨_,⟨rfl,rfl,rfl,rfl,rfl,rfl⟩,rfl,H'⟩
   rw[if_neg (fun hh=>n14 ⟨hh.1,by omega⟩)]at ho
   refine cd hsl hpos ?_
   refine ak (fun e=>?_) fun n15=>?_
   ·rw[if_pos ⟨e.1,by omega⟩,g 0 (by omega),g 1 (by omega)]at ho
    subst ho
    refine hq.aO (g:=Value.int .i64) 0 rfl (by omega) _ rfl ?_
    refine hq.aO (g:=Value.int .i64) 1 rfl (by omega) _ rfl ?_
    exact rm H6 rfl 10 0 (L[0]'(by omega)) (L[1]'(by omega)) 0 fun h' H'=>⟨_,⟨rfl,rfl,rfl,rfl,rfl,rfl⟩,rfl,H'⟩
   rw[if_neg (fun hh=>n15 ⟨hh.1,by omega⟩)]at ho
   refine cd hsl hpos ?_
   refine ak (fun e=>?_) fun n16=>?_
   ·rw[if_pos ⟨e.1,by omega⟩,g 0 (by omega),g 1 (by omega),g 2 (by omega),g 3 (by omega)]at ho
    subst ho
    refine hq.aO (g:=Value.int .i64) 0 rfl (by omega) _ rfl ?_
    refine hq.aO (g:=Value.int .i64) 1 rfl (by omega) _ rfl ?_
    refine hq.aO (g:=Value.int .i64) 2 rfl (by omega) _ rfl ?_
    refine hq.aO (g:=Value.int .i64) 3 rfl (by omega) _ rfl ?_
    have h3:=hmem (L[3]'(by omega)) (List.getElem_mem (by omega))
    have hw:IntKind.wrap .u32 (L[3]'(by omega))=L[3]'(by omega):=by show _%(4294967296:Int)=_;omega
    rw[hw]
    exact rm H6 rfl 11 (L[0]'(by omega)) (L[1]'(by omega)) (L[2]'(by omega)) (L[3]'(by omega)) fun h' H'=>⟨_,⟨rfl,rfl,rfl,rfl,rfl,rfl⟩,rfl,H'⟩
   rw[if_neg (fun hh=>n16 ⟨hh.1,by omega⟩)]at ho
   refine cd hsl hpos ?_
   refine ak (fun e=>?_) fun n17=>?_
   ·rw[if_pos ⟨e.1,by omega⟩,g 0 (by omega)]at ho
    subst ho
    refine hq.aO (g:=Value.int .i64) 0 rfl (by omega) _ rfl ?_
    exact uZ H6 rfl 12 0 (L[0]'(by omega)) 0 0 fun h' H'=>⟨_,⟨rfl,rfl,rfl,rfl,rfl,rfl⟩,rfl,H'⟩
   rw[if_neg (fun hh=>n17 ⟨hh.1,by omega⟩)]at ho
   have htm:Int.tmod (q.len:Int) 2=((L.length%2:Nat):Int):=by rw[Int.tmod_eq_emod_of_nonneg (by omega),hql];rfl
   have end0:¬(dl l[0]=[102,97,108,108]∧L.length%2=1)→∃y:cr,mP y (o.getD {})∧decide (y.1>0)=o.isSome∧Sp h h4 (aj a af (aQ aY)::aj a4 af (aQ y)::it y (o.getD {})):=fun hn=>by
    rw[if_neg hn]at ho
    subst ho
    exact⟨aY,⟨rfl,rfl,rfl,rfl,rfl,rfl⟩,rfl,((H6.nil aA 1 aE).nil ax 1 ao).nil ax 1 ao⟩
   refine bA (fun b h'=>h'=h4∧b=decide (dl l[0]=[102,97,108,108]∧L.length%2=1)) ?_ ?_
   ·refine hsl.aO (g:=Value.string) 0 rfl hpos l[0] rfl ?_
    rw[dW]
    refine ak (fun e=>⟨by decide,rfl,?_⟩) fun e=>⟨rfl,(decide_eq_false fun hh=>e hh.1).symm⟩
    rw[htm]
    by_cases h1:L.length%2=1
    ·rw[decide_eq_true ⟨show dl l[0]=[102,97,108,108]from e,h1⟩,h1];rfl
    ·have:L.length%2=0:=by omega
     rw[decide_eq_false (fun hh=>h1 hh.2),this];rfl
   rintro _ h4 ⟨rfl,rfl⟩
   refine ak (fun e=>?_) fun n18=>end0 n18
   rw[if_pos e,g 0 (by omega)]at ho
   subst ho
   refine hq.aO (g:=Value.int .i64) 0 rfl (by omega) _ rfl ?_
   obtain⟨l0,hl0⟩:∃l0,l0=L[0]'(by omega):=⟨_,rfl⟩
   rw[←hl0]
   refine H5.storeAll ag 1 rfl rfl (aQ (fY l0 aw aw)) rfl rfl rfl rfl fun h5 H7=>?_
   have H8:=(H7.nil ax 1 ao).nil ax 1 ao
   have H3:Sp h h5 [aj a af (aQ aY),aj a4 af (aQ (fY l0 aw aw)),ap ax aw 1 ao [],ap ax aw 1 ao [],ap ax q 1 ao L]:=ab.cB H8 [0,1,3,4,2]
   have hel:=gK L.tail
   have htl:L.tail.length=L.length-1:=List.length_tail
   refine aF (fun t:Sl×Sl×Nat=>((2*t.2.2+1:Nat):Int)) (fun t h'=>2*t.2.2≤L.length-1∧Sp h h' [aj a af (aQ aY),aj a4 af (aQ (fY l0 t.1 t.2.1)),ap ax t.1 1 ao ((bO L.tail).take t.2.2),ap ax t.2.1 1 ao ((cO L.tail).take t.2.2),ap ax q 1 ao L]) (fun t=>L.length-t.2.2) (aw,aw,0) rfl ⟨by simp,by simpa using H3⟩ ?_
   rintro⟨k,t,j⟩ h6 ⟨hj,H4⟩
   dsimp only at hj H4⊢
   have hb4:=H4.box 1 rfl
   refine ak (fun hlt=>?_) fun hge=>?_
   ·have g1:2*j+1<L.length:=by omega
    have g2:2*j+1+1<L.length:=by omega
    have hw1:IntKind.wrap .i64 (((2*j+1:Nat):Int)+1)=((2*j+1+1:Nat):Int):=by rw[wrap_small _ (by omega) (by omega)];rfl
    have hw2:IntKind.wrap .i64 (((2*j+1:Nat):Int)+2)=((2*(j+1)+1:Nat):Int):=by rw[wrap_small _ (by omega) (by omega)];omega
    rw[hw1,hw2]
    obtain⟨x,hx⟩:∃x,x=L[2*j+1]:=⟨_,rfl⟩
    obtain⟨y,hy⟩:∃y,y=L[2*j+1+1]:=⟨_,rfl⟩
    have eg:=mR L.tail j x y (by rw[List.getElem?_tail,List.getElem?_eq_getElem g1,hx]) (by rw[List.getElem?_tail,List.getElem?_eq_getElem g2,hy])
    have je:j<(bO L.tail).length:=by omega
    have jo:j<(cO L.tail).length:=by omega
    have ex:(bO L.tail).take (j+1)=(bO L.tail).take j++[x]:=by
     rw[aD _ _ je];have:=eg.1;rw[List.getElem?_eq_getElem je]at this;rw[Option.some.inj this]
    have ey:(cO L.tail).take (j+1)=(cO L.tail).take j++[y]:=by
     rw[aD _ _ jo];have:=eg.2;rw[List.getElem?_eq_getElem jo]at this;rw[Option.some.inj this]
    have hK:∀{k' t':Sl} {As:List HP} {h':Heap},Sp h h' (aj a af (aQ aY)::aj a4 af (aQ (fY l0 k' t'))::ap ax k' 1 ao ((bO L.tail).take j++[x])::ap ax t' 1 ao ((cO L.tail).take j++[y])::ap ax q 1 ao L::As)→
      ∃q':Sl×Sl×Nat,((2*(j+1)+1:Nat):Int)=((2*q'.2.2+1:Nat):Int)∧(2*q'.2.2≤L.length-1∧Sp h h' [aj a af (aQ aY),aj a4 af (aQ (fY l0 q'.1 q'.2.1)),ap ax q'.1 1 ao ((bO L.tail).take q'.2.2),ap ax q'.2.1 1 ao ((cO L.tail).take q'.2.2),ap ax q 1 ao L])∧L.length-q'.2.2<L.length-j:=fun{k' t' As h'} H=>by
     refine⟨(k',t',j+1),rfl,⟨by dsimp only;omega,?_⟩,by dsimp only;omega⟩
     dsimp only
     rw[ex,ey]
     exact ab.cB H [0,1,2,3,4]
    have hq4:=H4.seq 4 rfl fun _=>rfl
    obtain⟨b1,p1,x',c1,e1⟩:=hq4.kO (g:=Value.int .i64) (i:=((2*j+1:Nat):Int)) (2*j+1) rfl g1 x (by rw[hx];rfl) (K:=fun _ z=>z=x) (fun _ _=>rfl)
    obtain⟨b2,p2,y',c2,e2⟩:=hq4.kO (g:=Value.int .i64) (i:=((2*j+1+1:Nat):Int)) (2*j+1+1) rfl g2 y (by rw[hy];rfl) (K:=fun _ z=>z=y) (fun _ _=>rfl)
    have q1:∀{h':Heap} {p:al},Vc.Seq h' p q 1 ao L→cellOf h' (b1.add (((2*j+1:Nat):Int).toNat*1))=some (.int .i64 x):=fun hs'=>by
     obtain⟨b,hb,z,c,e⟩:=hs'.kO (g:=Value.int .i64) (i:=((2*j+1:Nat):Int)) (2*j+1) rfl g1 x (by rw[hx];rfl) (K:=fun _ z=>z=x) (fun _ _=>rfl)
     have:b=b1:=Option.some.inj (hb.1.symm.trans p1.1)
     rw[←this,←e];exact c
    have q2:∀{h':Heap} {p:al},Vc.Seq h' p q 1 ao L→cellOf h' (b2.add (((2*j+1+1:Nat):Int).toNat*1))=some (.int .i64 y):=fun hs'=>by
     obtain⟨b,hb,z,c,e⟩:=hs'.kO (g:=Value.int .i64) (i:=((2*j+1+1:Nat):Int)) (2*j+1+1) rfl g2 y (by rw[hy];rfl) (K:=fun _ z=>z=y) (fun _ _=>rfl)
     have:b=b2:=Option.some.inj (hb.1.symm.trans p2.1)
     rw[←this,←e];exact c
    have z1:((bO L.tail).take j).length≤2^20:=by simp;omega
    have z2:((cO L.tail).take j).length≤2^20:=by simp;omega
    refine⟨k,hb4.cell rfl,b1,p1,x,q1 (H4.seq 4 rfl fun _=>rfl),t,hb4.cell rfl,b2,p2,y,q2 (H4.seq 4 rfl fun _=>rfl),?_,?_⟩
    ·refine H4.lit ag ao bF rfl [x] rfl (show 1≤2^20 by decide) rfl fun v h5 H5=>⟨⟨q2 (H5.seq 4 rfl fun _=>rfl),(H5.box 1 rfl).cell rfl,(H5.box 1 rfl).cell rfl,trivial⟩,?_,?_⟩
     ·refine H5.append ag 2 rfl bF ⟨_,_,rfl,rfl⟩ rfl (by decide) (fun _=>rfl) (H5.seq 5 rfl fun _=>rfl) bC (by simp;omega) fun k' h6 H6=>⟨⟨q2 (H6.seq 4 rfl fun _=>rfl),(H6.box 1 rfl).cell rfl,trivial⟩,?_⟩
      refine H6.lit ag ao bF rfl [y] rfl (show 1≤2^20 by decide) rfl fun v2 h7 H7=>⟨⟨(H7.box 1 rfl).cell rfl,trivial⟩,?_⟩
      refine H7.append ag 3 rfl bF ⟨_,_,rfl,rfl⟩ rfl (by decide) (fun _=>rfl) (H7.seq 6 rfl fun _=>rfl) bC (by simp;omega) fun t' h8 H8=>⟨trivial,?_⟩
      exact gp (As:=[ap ax q 1 ao L,ap ax v 1 ao [x],ap ax v2 1 ao [y]]) H8 fun h' H'=>hK H'
     ·refine H5.lit ag ao bF rfl [y] rfl (show 1≤2^20 by decide) rfl fun v2 h6 H6=>⟨⟨(H6.box 1 rfl).cell rfl,(H6.box 1 rfl).cell rfl,trivial⟩,?_⟩
      refine H6.append ag 2 rfl bF ⟨_,_,rfl,rfl⟩ rfl (by decide) (fun _=>rfl) (H6.seq 5 rfl fun _=>rfl) bC (by simp;omega) fun k' h7 H7=>⟨⟨(H7.box 1 rfl).cell rfl,trivial⟩,?_⟩
      refine H7.append ag 3 rfl bF ⟨_,_,rfl,rfl⟩ rfl (by decide) (fun _=>rfl) (H7.seq 6 rfl fun _=>rfl) bC (by simp;omega) fun t' h8 H8=>⟨trivial,?_⟩
      exact gp (As:=[ap ax q 1 ao L,ap ax v 1 ao [x],ap ax v2 1 ao [y]]) H8 fun h' H'=>hK H'
    ·refine H4.lit ag ao bF rfl [y] rfl (show 1≤2^20 by decide) rfl fun v h5 H5=>⟨⟨(H5.box 1 rfl).cell rfl,q1 (H5.seq 4 rfl fun _=>rfl),(H5.box 1 rfl).cell rfl,trivial⟩,?_⟩
     refine H5.lit ag ao bF rfl [x] rfl (show 1≤2^20 by decide) rfl fun v2 h6 H6=>⟨⟨(H6.box 1 rfl).cell rfl,(H6.box 1 rfl).cell rfl,trivial⟩,?_⟩
     refine H6.append ag 2 rfl bF ⟨_,_,rfl,rfl⟩ rfl (by decide) (fun _=>rfl) (H6.seq 6 rfl fun _=>rfl) bC (by simp;omega) fun k' h7 H7=>⟨⟨(H7.box 1 rfl).cell rfl,trivial⟩,?_⟩
     refine H7.append ag 3 rfl bF ⟨_,_,rfl,rfl⟩ rfl (by decide) (fun _=>rfl) (H7.seq 5 rfl fun _=>rfl) bC (by simp;omega) fun t' h8 H8=>⟨trivial,?_⟩
     exact gp (As:=[ap ax q 1 ao L,ap ax v 1 ao [y],ap ax v2 1 ao [x]]) H8 fun h' H'=>hK H'
   ·have e0:j=(bO L.tail).length:=by omega
    have e1:j=(cO L.tail).length:=by omega
    rw[List.take_of_length_le (by omega),List.take_of_length_le (by omega)]at H4
    refine⟨fY l0 k t,⟨rfl,rfl,rfl,rfl,rfl,rfl⟩,rfl,?_⟩
    have H9:=H4.nil aA 1 aE
    exact ab.cB H9 [0,1,5,2,3]
end Go.Qw
namespace Go.Qw
open Go Go.Vc Go.Proofs Wl
set_option maxRecDepth 100000
theorem kC {p q:al} (a b:Sl) (la lb:List Int) (h:Heap) (ha:Seq h p a 1 ao la) (hb:Seq h q b 1 ao lb) (hs:la.length≤2^40):
  ah Tryz.prog gS #[.slice a.ptr a.len a.cap,.slice b.ptr b.len b.cap] h fun v h'=>v=.bool (decide (la=lb))∧h'=h:=by
 refine gE a b ?_
 unfold ed
 have hal:=ha.len;have hbl:=hb.len
 refine cA (fun hne=>⟨?_,rfl⟩) (fun heq=>?_)
 ·rw[decide_eq_false (fun e=>hne (by rw[hal,hbl,e]))]
 ·refine aF (fun k:Nat=>(k:Int)) (fun k h'=>h'=h∧k≤la.length∧la.take k=lb.take k) (fun k=>la.length-k) 0 rfl ⟨rfl,by omega,by simp⟩ ?_
  rintro k h' ⟨rfl,hk,ht⟩
  refine ak (fun hlt=>?_) (fun hge=>?_)
  ·have hk':k<la.length:=by omega
   have hk2:k<lb.length:=by omega
   refine ha.aO k rfl hk' _ rfl ?_
   refine hb.aO k rfl hk2 _ rfl ?_
   refine cA (fun hne=>⟨?_,rfl⟩) (fun heq=>?_)
   ·rw[decide_eq_false]
    intro e;subst e;exact hne rfl
   ·rw[wrap_small _ (by omega) (by omega)]
    exact⟨k+1,by simp,⟨rfl,by omega,by rw[aD _ _ hk',aD _ _ hk2,ht,heq]⟩,by omega⟩
  ·have:k=la.length:=by omega
   subst this
   rw[List.take_of_length_le (by omega),List.take_of_length_le (by omega)]at ht
   exact⟨by rw[decide_eq_true ht],rfl⟩
end Go.Qw
namespace Go.Qw
open Go Go.Vc Go.Proofs Wl
set_option maxRecDepth 100000
theorem yF {p q:al} (a b:Sl) (la lb:List UInt8) (h:Heap) (ha:Vc.Seq h p a 1 aE la) (hb:Vc.Seq h q b 1 aE lb) (hs:la.length≤2^40):
  ah Tryz.prog gD #[.slice a.ptr a.len a.cap,.slice b.ptr b.len b.cap] h fun v h'=>v=.bool (decide (la=lb))∧h'=h:=by
 refine gl a b ?_
 unfold dS
 have hal:=ha.len;have hbl:=hb.len
 refine cA (fun hne=>⟨?_,rfl⟩) (fun heq=>?_)
 ·rw[decide_eq_false (fun e=>hne (by rw[hal,hbl,e]))]
 ·refine aF (fun k:Nat=>(k:Int)) (fun k h'=>h'=h∧k≤la.length∧la.take k=lb.take k) (fun k=>la.length-k) 0 rfl ⟨rfl,by omega,by simp⟩ ?_
  rintro k h' ⟨rfl,hk,ht⟩
  refine ak (fun hlt=>?_) (fun hge=>?_)
  ·have hk':k<la.length:=by omega
   have hk2:k<lb.length:=by omega
   refine ha.aO k rfl hk' _ rfl ?_
   refine hb.aO k rfl hk2 _ rfl ?_
   refine cA (fun hne=>⟨?_,rfl⟩) (fun heq=>?_)
   ·rw[decide_eq_false]
    intro e;subst e;exact hne rfl
   ·rw[wrap_small _ (by omega) (by omega)]
    have he:la[k]=lb[k]:=UInt8.toNat_inj.1 (by omega)
    exact⟨k+1,by simp,⟨rfl,by omega,by rw[aD _ _ hk',aD _ _ hk2,ht,he]⟩,by omega⟩
  ·have:k=la.length:=by omega
   subst this
   rw[List.take_of_length_le (by omega),List.take_of_length_le (by omega)]at ht
   exact⟨by rw[decide_eq_true ht],rfl⟩
structure mT (h:Heap) (y:cr) (p:bx):Prop where
 data:Rd h y.2.2.1 1 aE p.data
 keeps:Rd h y.2.2.2.2.2.2.2.1 1 ao p.keeps
 torns:Rd h y.2.2.2.2.2.2.2.2 1 ao p.torns
theorem mT.up {h h':Heap} {y:cr} {p:bx} (r:mT h y p) (hp:az (fun b=>b<h.size) h h'):mT h' y p:=⟨Seq.up r.data hp,Seq.up r.keeps hp,Seq.up r.torns hp⟩
structure zj (p:bx):Prop where
 data:p.data.length≤2^40
 keeps:p.keeps.length≤2^40
 torns:p.torns.length≤2^40
theorem tE (y z:cr) (p:bx) (h:Heap) (Fy:mP y p) (Fz:mP z p) (Ry:mT h y p) (Rz:mT h z p) (sz:zj p):
  ah Tryz.prog dE #[dG y,dG z] h fun v h'=>v=.bool true∧Sp h h' []:=by
 refine gk y z ?_
 unfold dR
 refine(Sp.refl h).boxed fun a1 h1 H1=>?_
 refine H1.boxed fun a2 h2 H2=>?_
 have H2:Sp h h2 [aj a1 af (aQ y),aj a2 af (aQ z)]:=H2
 have b1:=H2.box 0 rfl
 have b2:=H2.box 1 rfl
 have Ry2:=Ry.up H2.au
 have Rz2:=Rz.up H2.au
 refine⟨y.1,b1.cell0 rfl,z.1,b2.cell0 rfl,cU (by rw[Fy.kind,Fz.kind];exact beq_self_eq_true _) ?_⟩
 have hn:y.2.1=z.2.1:=by
  have:=Fy.name.trans Fz.name.symm
  cases hy:y.2.1;cases hz:z.2.1
  rw[hy,hz]at this
  congr;exact Array.toList_inj.1 this
 refine⟨y.2.1,b1.cell rfl,z.2.1,b2.cell rfl,cU (by rw[hn];exact beq_self_eq_true _) ?_⟩
 refine⟨y.2.2.1,b1.cell rfl,z.2.2.1,b2.cell rfl,?_⟩
 refine(yF _ _ _ _ h2 Ry2.data Rz2.data sz.data).mono ?_
 rintro _ h3 ⟨rfl,rfl⟩
 refine⟨_,rfl,cU (decide_eq_true rfl) ?_⟩
 refine⟨y.2.2.2.1,b1.cell rfl,z.2.2.2.1,b2.cell rfl,cU (by rw[Fy.slot,Fz.slot];exact beq_self_eq_true _) ?_⟩
 refine⟨y.2.2.2.2.1,b1.cell rfl,z.2.2.2.2.1,b2.cell rfl,cU (by rw[Fy.n,Fz.n];exact beq_self_eq_true _) ?_⟩
 refine⟨y.2.2.2.2.2.1,b1.cell rfl,z.2.2.2.2.2.1,b2.cell rfl,cU (by rw[Fy.m,Fz.m];exact beq_self_eq_true _) ?_⟩
 refine⟨y.2.2.2.2.2.2.1,b1.cell rfl,z.2.2.2.2.2.2.1,b2.cell rfl,cU (by rw[Fy.mask,Fz.mask];exact beq_self_eq_true _) ?_⟩
 refine⟨y.2.2.2.2.2.2.2.1,b1.cell rfl,z.2.2.2.2.2.2.2.1,b2.cell rfl,?_⟩
 refine(kC _ _ _ _ h3 Ry2.keeps Rz2.keeps sz.keeps).mono ?_
 rintro _ h4 ⟨rfl,rfl⟩
 refine⟨_,rfl,cU (decide_eq_true rfl) ?_⟩
 refine⟨y.2.2.2.2.2.2.2.2,b1.cell rfl,z.2.2.2.2.2.2.2.2,b2.cell rfl,?_⟩
 refine(kC _ _ _ _ h4 Ry2.torns Rz2.torns sz.torns).mono ?_
 rintro _ h5 ⟨rfl,rfl⟩
 exact⟨_,rfl,by rw[decide_eq_true rfl],.zip H2.au⟩
end Go.Qw
namespace Wl
theorem xc {l d:List UInt8} (h:cF l=some d):d.length≤l.length:=by
 unfold cF at h
 split at h
 ·cases h;simp
 ·split at h
  ·cases h;rw[jz];omega
  ·cases h
theorem tF {w:List UInt8} {l:List Int} {p:bx} (h:bK w l=some p):p.data.length≤l.length∧p.keeps.length≤l.length∧p.torns.length≤l.length:=by
 unfold bK at h
 have he:=gK l.tail
 have ht:l.tail.length=l.length-1:=List.length_tail
 repeat' (split at h)
 all_goals first
  |(cases h;simp only[List.length_nil];omega)
  |cases h
theorem xd {ws:List (List UInt8)} {p:bx} {N:Nat} (hw:∀w∈ws,w.length≤N) (hl:ws.length≤N) (h:dt ws=some p):p.data.length≤N∧p.keeps.length≤N∧p.torns.length≤N:=by
 unfold dt at h
 dsimp only at h
 split at h
 ·split at h
  ·rename_i h3
   cases hx:cF (ws.getD 2 [])with
   |none=>rw[hx]at h;cases h
   |some d=>
    rw[hx]at h
    cases h
    have h1:=xc hx
    have h2:(ws.getD 2 []).length≤N:=by
     rw[List.getD_eq_getElem?_getD,List.getElem?_eq_getElem (by omega)]
     exact hw _ (List.getElem_mem _)
    exact⟨by dsimp only;omega,Nat.zero_le _,Nat.zero_le _⟩
  ·cases h
 ·split at h
  ·split at h
   ·cases h;exact⟨Nat.zero_le _,Nat.zero_le _,Nat.zero_le _⟩
   ·cases h
  ·split at h
   ·split at h
    ·cases h;exact⟨Nat.zero_le _,Nat.zero_le _,Nat.zero_le _⟩
    ·cases h
   ·split at h
    ·cases h
    ·rename_i ns hns
     have h1:=tF h
     have h2:=fx hns
     have h3:ws.tail.length=ws.length-1:=List.length_tail
     rw[List.length_map]at h1
     omega
theorem wf {L:List UInt8} {p:bx} (h:ci L=some p):p.data.length≤L.length+1∧p.keeps.length≤L.length+1∧p.torns.length≤L.length+1:=by
 unfold ci dx at h
 split at h
 ·cases h
 ·refine xd (ws:=gO L) (fun w hw=>?_) ?_ h
  ·have:=iV 32 L [] w hw
   simp at this;omega
  ·unfold gO
   rw[gf]
   have:L.count 32≤L.length:=List.count_le_length
   omega
end Wl
namespace Go.Qw
open Go Go.Vc Go.Proofs Wl
set_option maxRecDepth 100000
theorem xe (L:List UInt8) (hL:L.length≤2^19):zj ((ci L).getD {}):=by
 cases h:ci L with
 |none=>exact⟨Nat.zero_le _,Nat.zero_le _,Nat.zero_le _⟩
 |some p=>
  have:=wf h
  exact⟨by show p.data.length≤_;omega,by show p.keeps.length≤_;omega,by show p.torns.length≤_;omega⟩
theorem zl {h0 h:Heap} {As:List HP} {y:cr} {p:bx} (H:Sp h0 h (it y p++As)):mT h y p:=
 ⟨H.seq 0 rfl fun _=>rfl,H.seq 1 rfl fun _=>rfl,H.seq 2 rfl fun _=>rfl⟩
theorem tG (x:ByteArray) (m:Int) (h:Heap) (hm:cellOf h ⟨0,0,none⟩=some (.int .i64 m)) (hx:x.size≤2^19) {F K:Heap→Prop} (hK:∀h',Sp h h' []→K h'):
  ac Tryz.prog ff #[.string x] (.many [(.agg [(.int .i64),.str,.slc,(.int .i64),(.int .i64),(.int .i64),(.int .u32),.slc,.slc]),bR]) h fun(r9:cr×Bool) h7=>
   aI Tryz.prog (Instr.alloc af true (.tuple #[])) h7 fun a10 h8=>
   aa Tryz.prog (Instr.storeAt af (.pointer (some a10)) (dG r9.1)) h8 fun _ h9=>
   ac Tryz.prog ez #[.string x] (.many [(.agg [(.int .i64),.str,.slc,(.int .i64),(.int .i64),(.int .i64),(.int .u32),.slc,.slc]),bR]) h9 fun(r11:cr×Bool) h10=>
   aI Tryz.prog (Instr.alloc af true (.tuple #[])) h10 fun a12 h11=>
   aa Tryz.prog (Instr.storeAt af (.pointer (some a12)) (dG r11.1)) h11 fun _ h12=>
   Br (!(r9.2==r11.2)) (F h12) (∃x13:cr,ai h12 a10 0 (aQ x13)∧∃x14:cr,ai h12 a12 0 (aQ x14)∧
    ac Tryz.prog dE #[dG x13,dG x14] cx h12 fun r15 h13=>Br (!r15) (F h13) (K h13)):=by
 refine(iW x m h hm hx).mono ?_
 rintro _ h1 ⟨y,rfl,Fy,R1⟩
 refine⟨(y,(ci (dl x)).isSome),rfl,?_⟩
 refine R1.alloc ag rfl fun a h2 H2=>?_
 refine H2.storeAll ag 3 rfl rfl (aQ y) rfl rfl rfl rfl fun h3 H3=>?_
 refine(we x h3 hx).mono ?_
 rintro _ h4 ⟨z,rfl,Fz,R4⟩
 refine⟨(z,(ci (dl x)).isSome),rfl,?_⟩
 have H4:=H3.comp R4
 refine H4.alloc ag rfl fun b h5 H5=>?_
 refine H5.storeAll ag 7 rfl rfl (aQ z) rfl rfl rfl rfl fun h6 H6=>?_
 refine ge (by simp) ?_
 refine⟨y,(H6.box 3 rfl).bh _ rfl,z,(H6.box 7 rfl).bh _ rfl,?_⟩
 refine(tE y z _ h6 Fy Fz ⟨H6.seq 0 rfl fun _=>rfl,H6.seq 1 rfl fun _=>rfl,H6.seq 2 rfl fun _=>rfl⟩ ⟨H6.seq 4 rfl fun _=>rfl,H6.seq 5 rfl fun _=>rfl,H6.seq 6 rfl fun _=>rfl⟩ (xe _ hx)).mono ?_
 rintro _ h7 ⟨rfl,R7⟩
 exact⟨true,rfl,ge rfl (hK h7 (.zip (H6.comp R7).au))⟩
end Go.Qw
namespace Go.Qw
open Go Go.Vc Go.Proofs Wl
set_option maxRecDepth 100000
theorem qX (s0:ByteArray) (s:Sl) (l:List Int) (m:Int) (h:Heap) (hm:cellOf h ⟨0,0,none⟩=some (.int .i64 m)) (hs:Rd h s 1 ao l)
  (hL:∀(k:Int) (h:Heap),(k=0∨k=4∨k=8)→Rd h s 1 ao l→ah Tryz.prog eJ #[.slice s.ptr s.len s.cap,.int .i64 k] h fun v h'=>∃t:ByteArray,v=.string t∧t.size≤2^19∧Sp h h' [])
  (hW:∀h:Heap,cellOf h ⟨0,0,none⟩=some (.int .i64 m)→ah Tryz.prog ew #[] h fun v h'=>v=.bool true∧Sp h h' []):
  ah Tryz.prog dm #[.string s0,.slice s.ptr s.len s.cap] h fun v h'=>v=.bool true∧Sp h h' []:=by
 refine fL s0 s ?_
 unfold dB
 refine ak (fun _=>?_) fun hle=>?_
 ·refine(hW h hm).mono ?_
  rintro _ h1 ⟨rfl,R⟩
  exact⟨true,rfl,rfl,R⟩
 refine(hL 0 h (.inl rfl) hs).mono ?_
 rintro _ h1 ⟨t1,rfl,z1,R1⟩
 refine⟨t1,rfl,?_⟩
 refine(hL 4 h1 (.inr (.inl rfl)) (Seq.up hs R1.au)).mono ?_
 rintro _ h2 ⟨t2,rfl,z2,R2⟩
 have R2:=R1.comp R2
 refine⟨t2,rfl,?_⟩
 refine(hL 8 h2 (.inr (.inr rfl)) (Seq.up hs R2.au)).mono ?_
 rintro _ h3 ⟨t3,rfl,z3,R3⟩
 have R3:=R2.comp R3
 refine⟨t3,rfl,?_⟩
 refine R3.lit ag ej xb rfl [s0,t1,t2,t3] rfl (show 4*1≤2^20 by decide) rfl fun v h4 H4=>?_
 have H4:Sp h h4 [ap bc v 1 ej [s0,t1,t2,t3]]:=H4
 have hall:∀x∈[s0,t1,t2,t3],x.size≤2^19:=by
  intro x hx
  simp only[List.mem_cons,List.not_mem_nil,or_false]at hx
  rcases hx with rfl|rfl|rfl|rfl<;>omega
 have hvl:v.len=4:=(H4.own 0 rfl).len
 refine aF (fun i:Nat=>(i:Int)) (fun i h'=>i≤4∧Sp h h' [ap bc v 1 ej [s0,t1,t2,t3]]) (fun i=>4-i) 0 rfl ⟨by omega,H4⟩ ?_
 rintro i h5 ⟨hi,H5⟩
 refine ak (fun hlt=>?_) fun hge=>?_
 ·have hi':i<[s0,t1,t2,t3].length:=by simp;omega
  refine(H5.seq 0 rfl fun _=>rfl).aO (g:=Value.string) i rfl hi' _ rfl ?_
  refine tG _ m h5 (H5.au.cell (cu hm) hm) (hall _ (List.getElem_mem hi')) (F:=_) fun h6 H6=>?_
  rw[wrap_small _ (by omega) (by omega)]
  exact⟨i+1,by simp,⟨by omega,H5.up H6.au⟩,by omega⟩
 ·refine(hW h5 (H5.au.cell (cu hm) hm)).mono ?_
  rintro _ h6 ⟨rfl,R6⟩
  exact⟨true,rfl,rfl,.zip (ab.up H5 R6.au).au⟩
end Go.Qw
namespace Wl
def fg (n:Nat):List UInt8:=if n≤9 then[UInt8.ofNat (48+n)]else fg (n/10)++[UInt8.ofNat (48+n%10)]
termination_by n
decreasing_by omega
theorem iu {n:Nat} (h:n≤9):fg n=[UInt8.ofNat (48+n)]:=by rw[fg,if_pos h]
theorem ot {n:Nat} (h:¬n≤9):fg n=fg (n/10)++[UInt8.ofNat (48+n%10)]:=by rw[fg,if_neg h]
theorem ou:∀(k n:Nat),n<10^(k+1)→(fg n).length≤k+1
 |0,n,h=>by rw[iu (by omega)];simp
 |k+1,n,h=>by
  by_cases h9:n≤9
  ·rw[iu h9];simp
  ·rw[ot h9,List.length_append,List.length_singleton]
   have:=ou k (n/10) (by rw[Nat.pow_succ]at h;omega)
   omega
def cg (n:Int):List UInt8:=if n<0 then 45::fg n.natAbs else fg n.natAbs
end Wl
namespace Go.Qw
open Go Go.Vc Go.Proofs Wl
set_option maxRecDepth 100000
theorem kD (s:ByteArray) (hs:s=⟨#[48,49,50,51,52,53,54,55,56,57,97,98,99,100,101,102]⟩) (i:Nat) (hi:i<16):dl (s.extract i (i+1))=[fZ.getD i 0]:=by
 have hd:dl s=fZ:=by rw[hs];rfl
 have hl:i<(dl s).length:=by rw[hd];exact hi
 rw[sJ s i hl,←getD_lt (d:=0) hl,hd]
theorem xf (S:ByteArray) (hS:S=⟨#[48,49,50,51,52,53,54,55,56,57,97,98,99,100,101,102]⟩) (i:Nat) (hi:i<16) (s:ByteArray) (hs:s.size+1≤20):(((S.extract i (i+1)).size+s.size:Nat):Int)≤IntKind.max .i64∧(S.extract i (i+1)++s).size≤20:=by
 have h1:(S.extract i (i+1)).size=1:=congrArg List.length (kD S hS i hi)
 rw[ByteArray.size_append,h1]
 exact⟨by show((1+s.size:Nat):Int)≤9223372036854775807;omega,by omega⟩
theorem yG:∀i,i≤9→fZ.getD i 0=UInt8.ofNat (48+i):=by decide+kernel
theorem xg (S:ByteArray) (hS:S=⟨#[48,49,50,51,52,53,54,55,56,57,97,98,99,100,101,102]⟩) (i:Nat) (hi:i≤9) (s:ByteArray):dl (S.extract i (i+1)++s)=UInt8.ofNat (48+i)::dl s:=by
 rw[cm,kD S hS i (by omega),yG _ hi];rfl
theorem cf (n:Int) (h1n:-9223372036854775808≤n) (h2n:n≤9223372036854775807) (h:Heap):
  ah Tryz.prog jV #[.int .i64 n] h fun v h'=>∃t:ByteArray,v=.string t∧dl t=cg n∧h'=h:=by
 refine jc n ?_
 unfold fo
 have hu:∀x:Int,IntKind.wrap .u64 x=x%18446744073709551616:=fun _=>rfl
 refine bA (fun v h'=>h'=h∧v=(n.natAbs:Int)) ?_ ?_
 ·refine ak (fun hlt=>⟨rfl,?_⟩) fun hge=>⟨rfl,?_⟩
  ·have e1:IntKind.wrap .i64 (n+1)=n+1:=Go.Vc.wrap_small _ (by omega) (by omega)
   have e2:IntKind.wrap .i64 (0-(n+1))=0-(n+1):=Go.Vc.wrap_small _ (by omega) (by omega)
   have e3:IntKind.wrap .u64 (0-(n+1))=0-(n+1):=by rw[hu];omega
   have e4:(n.natAbs:Int)=-n:=Int.ofNat_natAbs_of_nonpos (by omega)
   rw[e1,e2,e3,hu,e4];omega
  ·rw[hu];omega
 rintro _ h1 ⟨rfl,rfl⟩
 have h20:(fg n.natAbs).length≤20:=ou 19 _ (by omega)
 refine aF (fun t:ByteArray×Nat=>(t.1,(t.2:Int))) (fun t h'=>h'=h1∧t.2≤2^63∧fg n.natAbs=fg t.2++dl t.1) (fun t=>t.2) (⟨#[]⟩,n.natAbs) rfl ⟨rfl,by dsimp only;omega,by simp⟩ ?_
 rintro⟨s,v⟩ h2 ⟨rfl,hv,he⟩
 dsimp only at hv he⊢
 have hsz:s.size+1≤20:=by
  have h3:=congrArg List.length he
  rw[List.length_append]at h3
  have h4:(dl s).length=s.size:=rfl
  have h5:1≤(fg v).length:=by
   by_cases h9:v≤9
   ·rw[iu h9];simp
   ·rw[ot h9];simp
  omega
 have hmod:Int.tmod (v:Int) 10=((v%10:Nat):Int):=by rw[Int.tmod_eq_emod_of_nonneg (by omega)];rfl
 have hdiv:Int.tdiv (v:Int) 10=((v/10:Nat):Int):=by rw[Int.tdiv_eq_ediv_of_nonneg (by omega)];rfl
 refine ak (fun hgt=>?_) fun hle=>?_
 ·have h9:¬v≤9:=by omega
  have hw:IntKind.wrap .u64 (((v%10:Nat):Int)+1)=((v%10+1:Nat):Int):=by rw[hu];omega
  have hw2:IntKind.wrap .u64 ((v/10:Nat):Int)=((v/10:Nat):Int):=by rw[hu];omega
  rw[hmod,hw,hdiv,hw2]
  simp only[Int.toNat_natCast]
  refine⟨by decide,by decide,⟨by omega,by omega,?_⟩,?_,by decide,?_⟩
  ·show((v%10+1:Nat):Int)≤16;omega
  ·exact(xf _ rfl (v%10) (by omega) s hsz).1
  ·refine⟨(_,v/10),rfl,⟨trivial,by dsimp only;omega,?_⟩,by dsimp only;omega⟩
   refine Eq.trans ?_ (congrArg (fg (v/10)++·) (xg _ rfl (v%10) (by omega) s).symm)
   rw[he,ot h9,List.append_assoc];rfl
 ·have h9:v≤9:=by omega
  have hw:IntKind.wrap .u64 ((v:Int)+1)=((v+1:Nat):Int):=by rw[hu];omega
  rw[hw]
  simp only[Int.toNat_natCast]
  have hd:fg n.natAbs=UInt8.ofNat (48+v)::dl s:=by rw[he,iu h9];rfl
  refine⟨⟨by omega,by omega,?_⟩,?_,ak (fun hlt=>⟨?_,?_⟩) fun hge=>?_⟩
  ·show((v+1:Nat):Int)≤16;omega
  ·exact(xf _ rfl v (by omega) s hsz).1
  ·have:=(xf _ rfl v (by omega) s hsz).2
   show((1+_:Nat):Int)≤9223372036854775807
   exact Int.le_trans (Int.ofNat_le.2 (Nat.add_le_add_left this 1)) (by decide)
  ·refine⟨_,rfl,?_,trivial⟩
   rw[cm]
   unfold cg;rw[if_pos hlt,hd]
   exact congrArg ([45]++·) (xg _ rfl v h9 s)
  ·refine⟨_,rfl,?_,trivial⟩
   unfold cg;rw[if_neg hge,hd]
   exact xg _ rfl v h9 s
end Go.Qw
namespace Wl
def va (b:UInt8):List UInt8:=[fZ.getD (b.toNat/16) 0,fZ.getD (b.toNat%16) 0]
def pW (l:List UInt8):List UInt8:=if l=[]then[45]else l.flatMap va
end Wl
