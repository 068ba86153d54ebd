/- Part of the proofs that the laws of this seat answer true whatever the input reads, and leave it as it was; no condition. -/
import Derived.Test.YteieadfggboeeaaGreatDoorTabS
import Derived.Test.YteieadfggboeeaaGreatDoorPlA
import Derived.Test.YteieadfggboeeaaGreatDoorShelfA
import Derived.Test.YteieadfggboeeaaGreatDoorPlB
import Derived.Test.YteieadfggboeeaaGreatDoorPlC
import Derived.Test.YteieadfggboeeaaGreatDoorPlD
import Derived.Test.YteieadfggboeeaaGreatDoorPlE
import Derived.Test.YteieadfggboeeaaGreatDoorPlF
import Derived.Test.YteieadfggboeeaaGreatDoorPlH
import Derived.Test.YteieadfggboeeaaGreatDoorPlG
import Derived.Test.YteieadfggboeeaaGreatDoorPlI
import Derived.Test.YteieadfggboeeaaGreatDoorPlJ
import Derived.Test.YteieadfggboeeaaGreatDoorPlK
set_option linter.unusedVariables false
set_option linter.unusedSimpArgs false
namespace Go.Qw
open Go Go.Vc Go.Proofs Wl
set_option maxRecDepth 100000
abbrev Pm:=Int×Int×Int
abbrev kz (p:Pm):Value:=.agg #[.int .i64 p.1,.int .i64 p.2.1,.int .i64 p.2.2]
theorem ja (p:Pm) (h:Heap):ae Tryz.prog uq #[kz p] h fun v h'=>v=.bool (iK p)∧Sp h h' []:=by
 refine sN p ?_
 unfold pX
 refine(Sp.refl h).boxed fun a h1 H1=>?_
 have hb:=H1.box 0 rfl
 have hz:Sp h h1 []:=.zip H1.aq
 have c0:cellOf h1 a=some (.int .i64 p.1):=hb.cell0 rfl
 have c1:cellOf h1 (a.add 1)=some (.int .i64 p.2.1):=hb.cell rfl
 have c2:cellOf h1 (a.add 2)=some (.int .i64 p.2.2):=hb.cell rfl
 unfold iK
 refine⟨_,c0,an (fun e1=>?_) (fun e1=>⟨by rw[decide_eq_false e1];rfl,hz⟩)⟩
 rw[decide_eq_true e1]
 refine⟨_,c0,an (fun e1=>?_) (fun e1=>⟨by rw[decide_eq_false e1];rfl,hz⟩)⟩
 rw[decide_eq_true e1]
 refine⟨_,c1,an (fun e1=>?_) (fun e1=>⟨by rw[decide_eq_false e1];rfl,hz⟩)⟩
 rw[decide_eq_true e1]
 refine⟨_,c1,an (fun e1=>?_) (fun e1=>⟨by rw[decide_eq_false e1];rfl,hz⟩)⟩
 rw[decide_eq_true e1]
 refine⟨_,c2,an (fun e1=>?_) (fun e1=>⟨by rw[decide_eq_false e1];rfl,hz⟩)⟩
 rw[decide_eq_true e1]
 exact⟨_,c2,rfl,hz⟩
abbrev dI:bf C.tokh nH aH 1 [.int .i64 0] 8:=⟨_,_,rfl,rfl,rfl,rfl,rfl,rfl⟩
abbrev fW:bf C.tokh bQ ay 1 [.int .u8 0] 1:=⟨_,_,rfl,rfl,rfl,rfl,rfl,rfl⟩
abbrev qJ:bf C.tokh qt bQ 1 [.slice none 0 0] 24:=⟨_,_,rfl,rfl,rfl,rfl,rfl,rfl⟩
theorem pB (s:Sl) (l:List Int) (h:Heap) (hs:Rd h s 1 aA l) (hsz:l.length≤2^30):ae Tryz.prog jt #[.slice s.ptr s.len s.cap] h fun v h'=>∃r:Sl,v=.slice r.ptr r.len r.cap∧Sp h h' [aw aH r 1 aA l]:=by
 refine iZ s ?_
 unfold fe
 refine bV (fun e=>?_) (fun e=>?_)
 ·have:=hs.isNil e
  subst this
  exact⟨⟨none,0,0⟩,rfl,(Sp.refl h).nil aH 1 aA⟩
 ·refine(Sp.refl h).lit ag aA dI rfl [] rfl (by decide) rfl fun s1 h1 H1=>?_
  refine H1.append ag 0 rfl dI ⟨_,_,rfl,rfl⟩ rfl (by decide) (fun _=>rfl) (hs.up H1.aq) dq (by simp;omega) fun s2 h2 H2=>⟨s2,rfl,H2⟩
theorem sU (s:Sl) (l:List UInt8) (h:Heap) (hs:Rd h s 1 aB l) (hsz:l.length≤2^30):ae Tryz.prog pu #[.slice s.ptr s.len s.cap] h fun v h'=>∃r:Sl,v=.slice r.ptr r.len r.cap∧Sp h h' [aw ay r 1 aB l]:=by
 refine oK s ?_
 unfold lB
 refine bV (fun e=>?_) (fun e=>?_)
 ·have:=hs.isNil e
  subst this
  exact⟨⟨none,0,0⟩,rfl,(Sp.refl h).nil ay 1 aB⟩
 ·refine(Sp.refl h).lit ag aB fW rfl [] rfl (by decide) rfl fun s1 h1 H1=>?_
  refine H1.append ag 0 rfl fW ⟨_,_,rfl,rfl⟩ rfl (by decide) (fun _=>rfl) (hs.up H1.aq) dP (by simp;omega) fun s2 h2 H2=>⟨s2,rfl,H2⟩
theorem vw {e:TypeId} (s:Sl) (l:List Int) (h:Heap) (ho:Own h e s 1 aA l) (hsz:l.length<2^40):ae Tryz.prog kc #[.slice s.ptr s.len s.cap] h fun v h'=>v=.tuple #[]∧Own h' e s 1 aA (fg l)∧ax (fun b=>¬s.on b) h h':=
 ri Tryz.slices_Sort_int Tryz.slices_Sort_int_none ho hsz
theorem eT (x n:Int) (h:Heap) (hn:0<n) (hb:n≤2^62):ae Tryz.prog iP #[.int .i64 x,.int .i64 n] h fun v h'=>v=.int .i64 (x%n)∧h'=h:=by
 refine it x n ?_
 unfold eN
 have h1:=Int.tmod_lt_of_pos x hn
 have h2:-n<x.tmod n:=Int.lt_tmod_of_pos x hn
 have he:=wq x n hn
 refine⟨by omega,aJ ?_⟩
 refine an (fun hlt=>?_) (fun hge=>?_)
 ·rw[wrap_small _ (by omega) (by omega)]
  exact⟨by rw[he,if_pos hlt],rfl⟩
 ·exact⟨by rw[he,if_neg hge],rfl⟩
end Go.Qw
namespace Go.Qw
open Go Go.Vc Go.Proofs Wl
set_option maxRecDepth 100000
abbrev kd (b:Bool):Value:=.bool b
section
variable {B:aj} {h0 h:Heap} {As:List HP}
theorem oO (a:Addr) (c:Int) (x:List Bool) (hb:bH h a bK (x.map kd)) (hl:x.length=256) (hc:0≤c∧c<256):
  ae Tryz.prog gy #[.pointer (some a),.int .u8 c] h fun v h'=>v=.bool (x.getD c.toNat false)∧h'=h:=by
 refine gd (some a) c ?_
 unfold dD
 refine⟨a,rfl,hc,x.getD c.toNat false,?_,rfl,rfl⟩
 rw[Nat.mul_one]
 refine hb.cell ?_
 rw[List.getElem?_map,List.getD_eq_getElem?_getD,List.getElem?_eq_getElem (by omega)];rfl
def ed (x:List Bool) (b:UInt8):Bool:=x.getD b.toNat false
theorem uu (a:Addr) (s:ByteArray) (x:List Bool) (hb:bH h a bK (x.map kd)) (hl:x.length=256) (hs:s.size≤2^40):
  ae Tryz.prog iY #[.string s,.pointer (some a)] h fun v h'=>h'=h∧∃t:ByteArray,v=.string t∧(t.size=0↔s.data.toList.all (ed x)=true):=by
 refine iv s (some a) ?_
 unfold eQ
 refine aJ ?_
 refine aE (fun s:ByteArray=>s) (fun t h'=>h'=h∧t.size≤2^40∧(t.data.toList.all (ed x)=true↔s.data.toList.all (ed x)=true)) (fun t=>t.size) s rfl ⟨rfl,hs,Iff.rfl⟩ ?_
 rintro t h1 ⟨rfl,ht,ha⟩
 refine an (fun hlt=>?_) (fun hge=>?_)
 ·have h0:0<t.data.toList.length:=by have:t.data.toList.length=t.size:=rfl;omega
  obtain⟨c,r,e⟩:∃c r,t.data.toList=c::r:=by cases h:t.data.toList with
   |nil=>rw[h]at h0;cases h0
   |cons c r=>exact⟨c,r,rfl⟩
  refine⟨c,⟨by decide,?_⟩,?_⟩
  ·show t.data[0]?=some c
   rw[←Array.getElem?_toList,e];rfl
  refine(oO a _ x hb hl ⟨by omega,by have:=c.toNat_lt;omega⟩).mono ?_
  rintro _ h2 ⟨rfl,rfl⟩
  refine⟨_,rfl,?_⟩
  have hc:x.getD ((c.toNat:Nat):Int).toNat false=ed x c:=rfl
  rw[hc]
  have e2:(t.extract (1:Int).toNat t.size).data.toList=r:=by
   rw[ByteArray.data_extract,Array.toList_extract]
   have hz:t.size=t.data.toList.length:=rfl
   have hr:t.size-1=r.length:=by rw[hz,e];rfl
   simp[e,List.extract,hr]
  refine bm (fun hf=>⟨rfl,t,rfl,?_⟩) (fun hf=>⟨⟨by decide,by omega⟩,?_⟩)
  ·rw[←ha,e,List.all_cons,hf]
   constructor
   ·intro h;omega
   ·intro h;cases h
  ·refine⟨t.extract (1:Int).toNat t.size,rfl,⟨rfl,?_,?_⟩,?_⟩
   ·rw[ByteArray.size_extract];omega
   ·rw[e2,←ha,e,List.all_cons,hf,Bool.true_and]
   ·rw[ByteArray.size_extract];simp;omega
 ·refine⟨rfl,t,rfl,?_⟩
  have:t.data.toList=[]:=List.length_eq_zero_iff.1 (by have:t.data.toList.length=t.size:=rfl;omega)
  rw[←ha,this]
  exact⟨fun _=>rfl,fun _=>by omega⟩
theorem uv (a:Addr) (s:ByteArray) (x:List Bool) (hb:bH h a bK (x.map kd)) (hl:x.length=256) (hs:s.size≤2^40):
  ae Tryz.prog iw #[.string s,.pointer (some a)] h fun v h'=>h'=h∧∃t:ByteArray,v=.string t∧t.size≤2^40∧(t.data.toList.all (ed x)=true↔s.data.toList.all (ed x)=true):=by
 refine hJ s (some a) ?_
 unfold eA
 refine aJ ?_
 refine aE (fun s:ByteArray=>s) (fun t h'=>h'=h∧t.size≤2^40∧(t.data.toList.all (ed x)=true↔s.data.toList.all (ed x)=true)) (fun t=>t.size) s rfl ⟨rfl,hs,Iff.rfl⟩ ?_
 rintro t h1 ⟨rfl,ht,ha⟩
 refine an (fun hlt=>?_) (fun hge=>?_)
 ·have h0:0<t.size:=by omega
  have hz:t.data.toList.length=t.size:=rfl
  have hw:IntKind.wrap .i64 ((t.size:Int)-1)=((t.size-1:Nat):Int):=by rw[wrap_small _ (by omega) (by omega)];omega
  rw[hw]
  obtain⟨c,e⟩:∃c,t.data.toList[t.size-1]?=some c:=⟨t.data.toList[t.size-1]'(by omega),List.getElem?_eq_getElem _⟩
  refine⟨c,⟨by omega,?_⟩,?_⟩
  ·rw[Int.toNat_natCast,←Array.getElem?_toList,e]
  refine(oO a _ x hb hl ⟨by omega,by have:=c.toNat_lt;omega⟩).mono ?_
  rintro _ h2 ⟨rfl,rfl⟩
  refine⟨_,rfl,?_⟩
  have hc:x.getD ((c.toNat:Nat):Int).toNat false=ed x c:=rfl
  rw[hc]
  have e2:(t.extract 0 ((t.size-1:Nat):Int).toNat).data.toList=t.data.toList.take (t.size-1):=by
   rw[ByteArray.data_extract,Array.toList_extract];simp[List.extract]
  refine bm (fun hf=>⟨rfl,t,rfl,ht,ha⟩) (fun hf=>⟨⟨by omega,by omega⟩,?_⟩)
  refine⟨t.extract 0 ((t.size-1:Nat):Int).toNat,rfl,⟨rfl,?_,?_⟩,?_⟩
  ·rw[ByteArray.size_extract];omega
  ·rw[e2,←ha]
   have hsp:t.data.toList=t.data.toList.take (t.size-1)++[c]:=by
    have hi:t.size-1<t.data.toList.length:=by omega
    have e3:t.data.toList[t.size-1]=c:=by rw[List.getElem?_eq_getElem hi]at e;exact Option.some.inj e
    rw[←e3,←aF _ _ hi,List.take_of_length_le (by omega)]
   conv=>rhs;rw[hsp]
   rw[List.all_append,List.all_cons,hf];simp
  ·rw[ByteArray.size_extract];simp;omega
 ·exact⟨rfl,t,rfl,ht,ha⟩
theorem tG (x:List Bool):(x.map kd).all (·.oneCell')=true:=by
 rw[List.all_map,List.all_eq_true];exact fun _ _=>rfl
theorem uw (cs:ByteArray) (hc:∀b∈cs.data.toList,b.toNat<128) (hs:cs.size≤2^40) (h:Heap):
  ae Tryz.prog js #[.string cs] h fun v h'=>Sp h h' []∧∃x:List Bool,x.length=256∧(∀b:UInt8,ed x b=cs.data.toList.contains b)∧v=.tuple #[.agg (x.map kd).toArray,.bool true]:=by
 refine iX cs ?_
 unfold eZ
 refine(Sp.refl h).alloc ag rfl fun a h1 H1=>?_
 have H1:Sp h h1 [af a bK ((List.replicate 256 false).map kd)]:=H1
 refine aE (fun t:Nat×List Bool=>(t.1:Int)) (fun t h'=>t.1≤cs.size∧t.2.length=256∧(∀b:UInt8,ed t.2 b=(cs.data.toList.take t.1).contains b)∧Sp h h' [af a bK (t.2.map kd)]) (fun t=>cs.size-t.1) (0,List.replicate 256 false) rfl ⟨by omega,by simp,?_,H1⟩ ?_
 ·intro b
  have:b.toNat<256:=b.toNat_lt
  unfold ed
  rw[List.getD_eq_getElem?_getD,List.getElem?_replicate,if_pos this];rfl
 rintro⟨k,x⟩ h2 ⟨hk,hl,hx,H2⟩
 dsimp only at hk hl hx H2⊢
 have hz:cs.data.toList.length=cs.size:=rfl
 refine an (fun hlt=>?_) (fun hge=>?_)
 ·have hk':k<cs.data.toList.length:=by omega
  refine⟨cs.data.toList[k],⟨by omega,by rw[Int.toNat_natCast,←Array.getElem?_toList,List.getElem?_eq_getElem hk']⟩,?_⟩
  have h128:=hc _ (List.getElem_mem hk')
  refine an (fun hb=>by omega) (fun _=>⟨⟨by omega,by omega⟩,?_⟩)
  rw[Nat.mul_one,Int.toNat_natCast]
  refine H2.storeAt ag 0 rfl rfl rfl rfl rfl (by rw[List.length_map,hl];omega) fun h3 H3=>?_
  rw[wrap_small _ (by omega) (by omega)]
  refine⟨(k+1,x.set cs.data.toList[k].toNat true),by simp,⟨by omega,by simp[hl],?_,?_⟩,by simp;omega⟩
  ·intro b
   rw[aF _ _ hk',List.contains_append,←hx b]
   unfold ed
   rw[List.getD_eq_getElem?_getD,List.getD_eq_getElem?_getD,List.getElem?_set]
   by_cases hb:cs.data.toList[k]=b
   ·rw[←hb,if_pos rfl,if_pos (by omega)];simp
   ·have:cs.data.toList[k].toNat≠b.toNat:=fun e=>hb (UInt8.toNat_inj.1 e)
    rw[if_neg this]
    have h3:[cs.data.toList[k]].contains b=false:=by rw[List.contains_cons,List.contains_nil,Bool.or_false,beq_eq_false_iff_ne];exact fun e=>hb e.symm
    rw[h3,Bool.or_false]
  ·rw[List.map_set];exact H3
 ·have hk2:k=cs.data.toList.length:=by omega
  have hbx:=H2.box 0 rfl
  refine⟨x,⟨hl,hbx.bc _ (by rw[List.take_of_length_le (by simp)])⟩,?_⟩
  refine H2.storeAll ag 0 rfl rfl (x.map kd) rfl (by simp[hl]) (tG x) rfl fun h3 H3=>?_
  have hb3:=H3.box 0 rfl
  refine⟨x,⟨hl,hb3.bc _ (by rw[List.take_of_length_le (by simp)])⟩,.zip H3.aq,x,hl,fun b=>?_,rfl⟩
  rw[hx b,hk2,List.take_length]
theorem qa (s cs:ByteArray) (hc:∀b∈cs.data.toList,b.toNat<128) (hc2:2≤cs.size) (hcs:cs.size≤2^40) (hs:s.size≤2^40) (h:Heap):
  ae Tryz.prog jC #[.string s,.string cs] h fun v h'=>Sp h h' []∧∃t:ByteArray,v=.string t∧(t.size=0↔s.data.toList.all cs.data.toList.contains=true):=by
 refine nN s cs ?_
 unfold kv
 refine aJ ?_
 refine bV (fun e=>⟨Sp.refl h,s,rfl,?_⟩) fun e1=>bV (fun e=>?_) fun e2=>?_
 ·have e:s=(⟨#[]⟩:ByteArray):=dE (eq_of_beq e)
  subst e;exact⟨fun _=>rfl,fun _=>rfl⟩
 ·have e:cs=(⟨#[]⟩:ByteArray):=dE (eq_of_beq e)
  subst e;exact absurd hc2 (by decide)
 refine aJ ?_
 refine bn (fun e=>by omega) fun _=>?_
 refine(uw cs hc hcs h).mono ?_
 rintro _ h1 ⟨H1,x,hl,hx,rfl⟩
 refine⟨(x,true),rfl,?_⟩
 refine H1.alloc ag rfl fun a h2 H2=>?_
 have H2:Sp h h2 [af a bK ((List.replicate 256 false).map kd)]:=H2
 refine H2.storeAll ag 0 rfl rfl (x.map kd) rfl (by simp[hl]) (tG x) (by simp[hl]) fun h3 H3=>?_
 have hb:=H3.box 0 rfl
 refine jV rfl ?_
 refine(uv a s x hb hl hs).mono ?_
 rintro _ h4 ⟨rfl,u,rfl,hu,ha⟩
 refine⟨_,rfl,?_⟩
 refine(uu a u x hb hl hu).mono ?_
 rintro _ h5 ⟨rfl,t,rfl,ht⟩
 refine⟨_,rfl,.zip H3.aq,t,rfl,?_⟩
 rw[ht,ha]
 have:(ed x)=cs.data.toList.contains:=funext hx
 rw[this]
end
end Go.Qw
namespace Go.Vc
open Go
theorem xN {P:Program} {t:TypeId} {x:Operand} (hu:(match P.underlying t with|some (.interface _)=>true|_=>false)=true):fF P .eql t x (.const .nilIface) .nilIface .nilIface (.bool true):=by
 unfold fF
 have hg:ao P (eqGuard .eql t x (.const .nilIface) .nilIface .nilIface) ():=by
  intro w
  cases x<;>rfl
 refine hg.bind ?_
 have he:∀d,ao P (Op.equalIn (d+1) t .nilIface .nilIface) true:=by
  intro d
  cases hd:P.underlying t with
  |none=>rw[hd]at hu;cases hu
  |some k=>
   rw[hd]at hu
   cases k with
   |interface ms=>intro w;simp[Op.equalIn,underlying,hd]
   |_=>cases hu
 simp only[binOp,kG]
 exact(he _).bind .pure
end Go.Vc
namespace Wl
theorem lf (p:UInt8→Bool) (h:(List.range 256).all (fun n=>p (UInt8.ofNat n))=true) (b:UInt8):p b=true:=by
 have:=List.all_eq_true.1 h b.toNat (List.mem_range.2 b.toNat_lt)
 simpa using this
theorem yZ (b:UInt8):([48,49,50,51,52,53,54,55,56,57]:List UInt8).contains b=gF b:=
 eq_of_beq (lf (fun b=>([48,49,50,51,52,53,54,55,56,57]:List UInt8).contains b==gF b) (by decide+kernel) b)
theorem za (b:UInt8):([48,49,50,51,52,53,54,55,56,57,97,98,99,100,101,102]:List UInt8).contains b=fh b:=
 eq_of_beq (lf (fun b=>([48,49,50,51,52,53,54,55,56,57,97,98,99,100,101,102]:List UInt8).contains b==fh b) (by decide+kernel) b)
theorem zJ (b:UInt8) (h:fh b=true):Go.Lib.indexByte [48,49,50,51,52,53,54,55,56,57,97,98,99,100,101,102] b=(((dX b).getD 0:Nat):Int):=by
 have:=lf (fun b=>!fh b||(Go.Lib.indexByte [48,49,50,51,52,53,54,55,56,57,97,98,99,100,101,102] b==(((dX b).getD 0:Nat):Int))) (by decide+kernel) b
 rw[h]at this
 exact eq_of_beq (by simpa using this)
end Wl
namespace Go.Qw
open Go Go.Vc Go.Proofs Wl
set_option maxRecDepth 100000
theorem xO {x:Operand}:fF Tryz.prog .eql xL x (.const .nilIface) .nilIface .nilIface (.bool true):=xN (by kernel_rfl)
theorem vx {l:List UInt8} (h:gn l=true):cj l=some (kP 0 l):=if_pos h
theorem vy {l:List UInt8} (h:gn l=false):cj l=none:=if_neg (by rw[h];decide)
theorem rQ (w:ByteArray) (hs:w.size≤2^40) (h:Heap):ae Tryz.prog mY #[.string w] h fun v h'=>Sp h h' []∧v=.tuple #[.int .i64 (((cj w.data.toList).getD 0:Nat):Int),.bool (cj w.data.toList).isSome]:=by
 refine mo w ?_
 unfold iT
 have hz:w.data.toList.length=w.size:=rfl
 have no:∀{h1:Heap},Sp h h1 []→gn w.data.toList=false→Sp h h1 []∧Value.tuple #[(.int .i64 (0:Int)),.bool false]=.tuple #[.int .i64 (((cj w.data.toList).getD 0:Nat):Int),.bool (cj w.data.toList).isSome]:=fun H e=>⟨H,by rw[vy e];rfl⟩
 refine bu (fun _ h3=>Sp h h3 []∧gn w.data.toList=true) ?_ ?_
 ·refine an (fun e=>no (Sp.refl h) ?_) fun e1=>an (fun e=>no (Sp.refl h) ?_) fun e2=>?_
  ·unfold gn;rw[decide_eq_false (by omega)];rfl
  ·unfold gn;rw[decide_eq_false (by omega)];rfl
  obtain⟨c,r,e⟩:∃c r,w.data.toList=c::r:=by cases h:w.data.toList with
   |nil=>rw[h]at hz;simp at hz;omega
   |cons c r=>exact⟨c,r,rfl⟩
  refine⟨c,⟨by decide,by rw[←Array.getElem?_toList,e];rfl⟩,?_⟩
  have main:(w.size>1→c≠48)→∀(cs:ByteArray),cs.data.toList=[48,49,50,51,52,53,54,55,56,57]→
    ah Tryz.prog 66 #[.string w,.string cs] (.one bo) h fun r2 h1=>Br (decide ((r2.size:Int)>0)) (Sp h h1 []∧Value.tuple #[(.int .i64 (0:Int)),.bool false]=.tuple #[.int .i64 (((cj w.data.toList).getD 0:Nat):Int),.bool (cj w.data.toList).isSome]) (Sp h h1 []∧gn w.data.toList=true):=by
   intro hc cs hcs
   have hcz:cs.size=10:=by have:cs.data.toList.length=cs.size:=rfl;rw[hcs]at this;exact this.symm
   refine(qa w cs (by rw[hcs];decide) (by omega) (by omega) hs h).mono ?_
   rintro _ h1 ⟨H1,t,rfl,ht⟩
   refine⟨_,rfl,?_⟩
   have hall:w.data.toList.all cs.data.toList.contains=w.data.toList.all gF:=by rw[hcs];congr 1;exact funext yZ
   rw[hall]at ht
   refine an (fun hgt=>no H1 ?_) (fun hle=>⟨H1,?_⟩)
   ·have:w.data.toList.all gF=false:=Bool.eq_false_iff.2 fun hh=>by have:=ht.2 hh;omega
    unfold gn;rw[this,Bool.and_false]
   ·have hd:=ht.1 (by omega)
    unfold gn
    rw[hd,decide_eq_true ⟨by omega,by omega⟩,Bool.true_and,Bool.and_true,e]
    by_cases h1:w.size>1
    ·have:=hc h1
     simp[this]
    ·have:¬1<(c::r).length:=by rw[←e];omega
     rw[decide_eq_false this];rfl
  have hcs:∀s:ByteArray,s=⟨#[48,49,50,51,52,53,54,55,56,57,97,98,99,100,101,102]⟩→(s.extract 0 ((10:Int).toNat)).data.toList=[48,49,50,51,52,53,54,55,56,57]:=by
   rintro _ rfl
   rw[ByteArray.data_extract,Array.toList_extract];rfl
  refine bn (fun e48=>?_) fun n48=>?_
  ·refine an (fun hgt=>no (Sp.refl h) ?_) fun hle=>⟨⟨by decide,by decide⟩,main (fun hgt=>by omega) _ ?_⟩
   rotate_left
   ·exact hcs _ rfl
   unfold gn
   have hc:c=48:=UInt8.toNat_inj.1 (by rw[show c.toNat=48 by omega];rfl)
   have:1<(c::r).length:=by rw[←e];omega
   rw[e,decide_eq_true this,hc];simp
  ·refine⟨⟨by decide,by decide⟩,main (fun _ hc=>n48 (by rw[hc];rfl)) _ ?_⟩
   exact hcs _ rfl
 ·rintro _ h3 ⟨H3,hm⟩
  have hm':=hm
  unfold gn at hm'
  simp only[Bool.and_eq_true,decide_eq_true_eq]at hm'
  have hne:w.data.toList≠[]:=fun e=>by rw[e]at hm';exact absurd hm'.1.1.1 (by decide)
  refine(xB Tryz.strconv_Atoi w _ (by omega) (ws hne hm'.2) h3).mono ?_
  rintro _ h4 ⟨rfl,H4⟩
  refine⟨(_,.nilIface),rfl,true,xO,⟨H3.comp H4,?_⟩⟩
  rw[vx hm];rfl
end Go.Qw
namespace Wl
theorem oP (w:List UInt8):∀(a:List (List UInt8)),ck (a++[w])=(ck a).bind fun ns=>(cj w).map fun n=>ns++[n]
 |[]=>by
  simp only[List.nil_append,ck,Option.bind_some]
  cases cj w<;>rfl
 |x::r=>by
  simp only[List.cons_append,ck,oP w r]
  cases cj x with
  |none=>rfl
  |some n=>cases ck r with
   |none=>rfl
   |some ns=>cases cj w<;>rfl
theorem oQ {w:List UInt8} (h:cj w=none):∀{l:List (List UInt8)},w∈l→ck l=none
 |x::r,hm=>by
  rcases List.mem_cons.1 hm with rfl|hm
  ·simp only[ck,h]
  ·simp only[ck]
   cases cj x with
   |none=>rfl
   |some n=>simp only[oQ h hm];rfl
theorem my:∀{l:List (List UInt8)} {ns:List Nat},ck l=some ns→ns.length=l.length
 |[],ns,h=>by cases h;rfl
 |x::r,ns,h=>by
  simp only[ck]at h
  cases hx:cj x with
  |none=>rw[hx]at h;cases h
  |some n=>
   rw[hx]at h
   cases hr:ck r with
   |none=>rw[hr]at h;cases h
   |some ms=>rw[hr]at h;cases h;simp[my hr]
theorem tH (b:UInt8):(dX b).getD 0<16:=by
 have:=lf (fun b=>decide ((dX b).getD 0<16)) (by decide+kernel) b
 exact of_decide_eq_true this
theorem qb:∀(l:List UInt8),(eG l).length=l.length/2
 |[]=>rfl
 |[_]=>by simp[eG]
 |a::b::r=>by simp only[eG,List.length_cons,qb r];omega
theorem qc:∀(l:List UInt8) (j:Nat) (a b:UInt8),l[2*j]?=some a→l[2*j+1]?=some b→(eG l)[j]?=some (UInt8.ofNat (16*(dX a).getD 0+(dX b).getD 0))
 |[],j,a,b,ha,_=>by simp at ha
 |[_],j,a,b,_,hb=>by simp at hb
 |x::y::r,0,a,b,ha,hb=>by
  simp at ha hb
  subst ha;subst hb;rfl
 |x::y::r,j+1,a,b,ha,hb=>by
  have e1:2*(j+1)=2*j+2:=by omega
  have e2:2*(j+1)+1=2*j+1+2:=by omega
  rw[e1]at ha;rw[e2]at hb
  simpa[eG]using qc r j a b (by simpa using ha) (by simpa using hb)
end Wl
namespace Go.Qw
open Go Go.Vc Go.Proofs Wl
set_option maxRecDepth 100000
abbrev dl (b:ByteArray):List UInt8:=b.data.toList
abbrev tI (l:List Nat):List Int:=l.map fun(n:Nat)=>(n:Int)
theorem qC (s:Sl) (l:List ByteArray) (h:Heap) (hs:Rd h s 1 ma l) (hl:l.length≤2^20) (hb:∀b∈l,b.size≤2^40):
  ae Tryz.prog ml #[.slice s.ptr s.len s.cap] h fun v h'=>∃r:Sl,v=.tuple #[.slice r.ptr r.len r.cap,.bool (ck (l.map dl)).isSome]∧Sp h h' [aw aH r 1 aA (tI ((ck (l.map dl)).getD []))]:=by
 refine lF s ?_
 unfold ie
 refine aE (fun t:Sl×Nat=>(t.1,(t.2:Int))) (fun t h'=>t.2≤l.length∧∃ns,ck ((l.map dl).take t.2)=some ns∧Sp h h' [aw aH t.1 1 aA (tI ns)]) (fun t=>l.length-t.2) (⟨none,0,0⟩,0) rfl ⟨by simp,[],rfl,by simpa using(Sp.refl h).nil aH 1 aA⟩ ?_
 rintro⟨o,i⟩ h1 ⟨hi,ns,hn,H1⟩
 dsimp only at hi hn H1⊢
 have hlen:=hs.len
 refine an (fun e=>?_) (fun e=>?_)
 ·have hi':i<l.length:=by omega
  have hm:l[i]∈l:=List.getElem_mem hi'
  refine(Seq.up hs H1.aq).bd (g:=Value.string) i rfl hi' l[i] rfl ?_
  refine(rQ l[i] (hb _ hm) h1).mono ?_
  rintro _ h2 ⟨H2,rfl⟩
  refine⟨(_,_),rfl,?_⟩
  cases hc:cj l[i].data.toList with
  |none=>
   have hz:ck (l.map dl)=none:=oQ hc (List.mem_map_of_mem hm)
   rw[hz]
   exact jV rfl ⟨⟨none,0,0⟩,rfl,by simpa using(Sp.zip (H1.up H2.aq).aq).nil aH 1 aA⟩
  |some n=>
   refine qY rfl ?_
   have hnl:ns.length≤2^20:=by rw[my hn];simp;omega
   refine(H1.up H2.aq).push ag 0 rfl dI rfl (by decide) (fun _=>rfl) dq (n:Int) rfl (by decide) (by simp;omega) fun o' h4 H4=>?_
   refine⟨(o',i+1),by dsimp only;rw[wrap_small _ (by omega) (by omega)];rfl,⟨by dsimp only;omega,ns++[n],?_,?_⟩,by dsimp only;omega⟩
   ·dsimp only
    rw[aF _ _ (show i<(l.map dl).length by simpa using hi'),List.getElem_map,oP,hn]
    show Option.map _ (cj l[i].data.toList)=_
    rw[hc];rfl
   ·dsimp only
    rw[show tI (ns++[n])=tI ns++[(n:Int)]by simp[tI]]
    exact H4
 ·have hi2:i=l.length:=by omega
  rw[List.take_of_length_le (by simp;omega)]at hn
  rw[hn]
  exact⟨o,rfl,H1⟩
theorem zb (w cs:ByteArray) (hcs:cs=⟨#[48,49,50,51,52,53,54,55,56,57,97,98,99,100,101,102]⟩) (hs:w.size≤2^40) (h:Heap):
  ae Tryz.prog jC #[.string w,.string cs] h fun v h'=>Sp h h' []∧∃t:ByteArray,v=.string t∧(t.size=0↔(dl w).all fh=true):=by
 subst hcs
 refine(qa w _ (by decide) (by decide) (by decide) hs h).mono ?_
 rintro _ h1 ⟨H1,t,rfl,ht⟩
 rw[show(⟨#[48,49,50,51,52,53,54,55,56,57,97,98,99,100,101,102]⟩:ByteArray).data.toList.contains=fh from funext za]at ht
 exact⟨H1,t,rfl,ht⟩
theorem zD (s:ByteArray) (hs:s=⟨#[48,49,50,51,52,53,54,55,56,57,97,98,99,100,101,102]⟩) (c:UInt8) (hc:fh c=true) (h:Heap):
  ae Tryz.prog fP #[.string s,.int .u8 ((c.toNat:Nat):Int)] h fun v h'=>v=.int .i64 (((dX c).getD 0:Nat):Int)∧h'=h:=by
 refine(pQ Tryz.strings_IndexByte _ _ h).mono ?_
 rintro _ h1 ⟨rfl,rfl⟩
 have ex:(((c.toNat:Nat):Int).toNat.toUInt8)=c:=by simp
 rw[ex,hs]
 exact⟨congrArg (Value.int .i64) (zJ c hc),rfl⟩
theorem ux (w:ByteArray) (hs:w.size≤2^20) (h1s:1≤w.size) (h:Heap):
  ae Tryz.prog oD #[.string w] h fun v h'=>∃r:Sl,v=.tuple #[.slice r.ptr r.len r.cap,.bool (hF (dl w)).isSome]∧Sp h h' [aw ay r 1 aB ((hF (dl w)).getD [])]:=by
 refine nL w ?_
 unfold kr
 have hz:(dl w).length=w.size:=rfl
 refine bV (fun e=>?_) fun e1=>?_
 ·have e:w=⟨#[45]⟩:=dE (eq_of_beq e)
  subst e
  exact⟨⟨none,0,0⟩,rfl,by simpa[hF]using(Sp.refl h).nil ay 1 aB⟩
 have e1:dl w≠[45]:=fun hh=>by
  have hw:w=⟨#[45]⟩:=by cases w;congr;exact Array.toList_inj.1 hh
  rw[hw]at e1
  have e2:((⟨#[45]⟩:ByteArray).toList==(⟨#[45]⟩:ByteArray).toList)=false:=e1
  rw[beq_self_eq_true]at e2;cases e2
 have no:∀{h1:Heap},Sp h h1 []→¬((dl w).length%2=0∧(dl w).all fh=true)→∃r:Sl,Value.tuple #[.slice none 0 0,.bool false]=.tuple #[.slice r.ptr r.len r.cap,.bool (hF (dl w)).isSome]∧Sp h h1 [aw ay r 1 aB ((hF (dl w)).getD [])]:=fun H e=>by
  have:hF (dl w)=none:=by unfold hF;rw[if_neg e1,if_neg e]
  rw[this]
  exact⟨⟨none,0,0⟩,rfl,by simpa using H.nil ay 1 aB⟩
 refine bu (fun _ h2=>Sp h h2 []∧(dl w).length%2=0∧(dl w).all fh=true) ?_ ?_
 ·have htm:Int.tmod (w.size:Int) 2=((w.size%2:Nat):Int):=by rw[Int.tmod_eq_emod_of_nonneg (by omega)];rfl
  refine⟨by decide,bn (fun e=>no (Sp.refl h) (fun hh=>by omega)) fun ne=>?_⟩
  refine(zb w _ rfl (by omega) h).mono ?_
  rintro _ h1 ⟨H1,t,rfl,ht⟩
  refine⟨_,rfl,?_⟩
  refine an (fun hgt=>no H1 fun hh=>?_) fun hle=>⟨H1,by omega,ht.1 (by omega)⟩
  have:=ht.2 hh.2;omega
 ·rintro _ h2 ⟨H2,hev,hall⟩
  have hx:hF (dl w)=some (eG (dl w)):=by unfold hF;rw[if_neg e1,if_pos ⟨hev,hall⟩]
  rw[hx]
  have hpl:=qb (dl w)
  refine aE (fun t:Sl×Nat=>(t.1,((2*t.2:Nat):Int))) (fun t h'=>t.2≤(eG (dl w)).length∧Sp h h' [aw ay t.1 1 aB ((eG (dl w)).take t.2)]) (fun t=>(eG (dl w)).length-t.2) (⟨none,0,0⟩,0) rfl ⟨by simp,by simpa using H2.nil ay 1 aB⟩ ?_
  rintro⟨o,j⟩ h3 ⟨hj,H3⟩
  dsimp only at hj H3⊢
  refine an (fun e=>?_) (fun e=>?_)
  ·have hj':j<(eG (dl w)).length:=by omega
   have g1:2*j<(dl w).length:=by omega
   have g2:2*j+1<(dl w).length:=by omega
   have hw1:IntKind.wrap .i64 (((2*j:Nat):Int)+1)=((2*j+1:Nat):Int):=by rw[wrap_small _ (by omega) (by omega)];rfl
   have hA:fh (dl w)[2*j]=true:=List.all_eq_true.1 hall _ (List.getElem_mem g1)
   have hB:fh (dl w)[2*j+1]=true:=List.all_eq_true.1 hall _ (List.getElem_mem g2)
   obtain⟨a,ha⟩:∃a,a=(dl w)[2*j]:=⟨_,rfl⟩
   obtain⟨b,hb⟩:∃b,b=(dl w)[2*j+1]:=⟨_,rfl⟩
   rw[←ha]at hA;rw[←hb]at hB
   have pg:=qc (dl w) j a b (by rw[List.getElem?_eq_getElem g1,ha]) (by rw[List.getElem?_eq_getElem g2,hb])
   refine aJ ?_
   rw[hw1]
   refine⟨a,⟨by omega,by rw[Int.toNat_natCast,←Array.getElem?_toList,List.getElem?_eq_getElem g1,ha]⟩,b,⟨by omega,by rw[Int.toNat_natCast,←Array.getElem?_toList,List.getElem?_eq_getElem g2,hb]⟩,?_⟩
   refine(zD _ rfl a hA h3).mono ?_
   rintro _ h4 ⟨rfl,rfl⟩
   refine⟨_,rfl,trivial,?_⟩
   refine(zD _ rfl b hB h4).mono ?_
   rintro _ h5 ⟨rfl,rfl⟩
   refine⟨_,rfl,trivial,?_⟩
   have la:=tH a
   have lb:=tH b
   refine H3.push ag 0 rfl fW rfl (by decide) (fun _=>rfl) dP (UInt8.ofNat (16*(dX a).getD 0+(dX b).getD 0)) ?_ (by decide) (by simp;omega) fun o' h6 H6=>?_
   ·dsimp only
    have:IntKind.wrap .u8 (IntKind.wrap .i64 (IntKind.wrap .i64 ((((dX a).getD 0:Nat):Int)*16)+(((dX b).getD 0:Nat):Int)))=(((UInt8.ofNat (16*(dX a).getD 0+(dX b).getD 0)).toNat:Nat):Int):=by
     rw[wrap_small (_*16) (by omega) (by omega),wrap_small _ (by omega) (by omega),UInt8.toNat_ofNat']
     show _%(256:Int)=_
     omega
    rw[this];rfl
   refine⟨(o',j+1),by dsimp only;rw[wrap_small _ (by omega) (by omega)];congr 1,⟨by dsimp only;omega,?_⟩,by dsimp only;omega⟩
   dsimp only
   have:(eG (dl w))[j]=UInt8.ofNat (16*(dX a).getD 0+(dX b).getD 0):=by
    rw[List.getElem?_eq_getElem hj']at pg;exact Option.some.inj pg
   rw[aF _ _ hj',this]
   exact H6
  ·rw[List.take_of_length_le (by omega)]at H3
   exact⟨o,rfl,H3⟩
end Go.Qw
namespace Go.Qw
open Go Go.Vc Go.Proofs Wl
set_option maxRecDepth 100000
end Go.Qw
namespace Go.Vc
open Go Wl
abbrev Cells:=List (List UInt8)
abbrev powC (w:Pow) (l:Int):List Value:=[.bool w.off,.bool w.fuse.isSome,.int .i64 l,.int .i64 w.offs]
def oR (w:Pow) (l:Int):Prop:=∀k,w.fuse=some k→l=k∧k<2^62
def bB (t:Nat) (a:Addr) (w:Pow):HP:=HP.ex fun l:Int=>(af a t (powC w l)).and (oR w l)
section
variable {B:aj} {h0 h h':Heap} {As:List HP} {t:Nat} {a:Addr} {w:Pow}
theorem ab.mR (H:ab B h0 h (bB t a w::As)):∃l,oR w l∧ab B h0 h (af a t (powC w l)::As):=by
 obtain⟨l,H⟩:=H.qH
 obtain⟨H,hl⟩:=H.pk
 exact⟨l,hl,H⟩
theorem ab.nQ {l:Int} (hl:oR w l) (H:ab B h0 h (af a t (powC w l)::As)):ab B h0 h (bB t a w::As):=
 (H.topk hl).rp (F:=fun l:Int=>(af a t (powC w l)).and (oR w l)) l
end
end Go.Vc
namespace Go.Qw
open Go Go.Vc Go.Proofs Wl
set_option maxRecDepth 100000
section
variable {B:aj} {h0 h h':Heap} {As:List HP} {t:Nat} {a:Addr} {w:Pow}
theorem pC (l:Int) (hb:bH h a aM (powC w l)):ae Tryz.prog mZ #[.pointer (some a)] h fun v h'=>v=.bool (!w.off)∧h'=h:=by
 refine mr (some a) ?_
 unfold iW
 exact bV (fun _=>⟨a,rfl,w.off,hb.cell0 rfl,rfl,rfl⟩) fun e=>by cases e
theorem qd (l:Int) (hb:bH h a aM (powC w l)):ae Tryz.prog lH #[.pointer (some a)] h fun v h'=>v=.int .i64 w.offs∧h'=h:=by
 refine kV (some a) ?_
 unfold gR
 exact bV (fun e=>by cases e) fun _=>⟨a,rfl,w.offs,hb.cell rfl,rfl,rfl⟩
theorem vz (h:Heap):ae Tryz.prog rG #[] h fun v h'=>∃a,v=.pointer (some a)∧Sp h h' [bB aM a Pow.new]:=by
 refine qu ?_
 unfold nj
 refine(Sp.refl h).boxed fun a h1 H1=>⟨a,rfl,ab.nQ (l:=0) (w:=Pow.new) (fun k e=>by cases e) H1⟩
theorem qe (H:ab B h0 h (bB aM a w::As)):ae Tryz.prog lL #[.pointer (some a)] h fun v h'=>v=.bool w.step.1∧ab B h0 h' (bB aM a w.step.2::As):=by
 obtain⟨l,hl,H1⟩:=H.mR
 refine kZ (some a) ?_
 unfold gV
 refine(pC l (H1.box 0 rfl)).mono ?_
 rintro _ h1 ⟨rfl,rfl⟩
 refine⟨_,rfl,bm (fun e=>?_) (fun e=>?_)⟩
 ·have:w.step=(false,w):=by unfold Pow.step;rw[if_pos (by simpa using e)]
  rw[this];exact⟨rfl,H⟩
 have ho:w.off=false:=by simpa using e
 refine⟨a,rfl,_,(H1.box 0 rfl).cell rfl,bm (fun e2=>?_) (fun e2=>?_)⟩
 ·have:w.step=(true,w):=by
   unfold Pow.step;rw[if_neg (by simp[ho])]
   cases hf:w.fuse with
   |none=>rfl
   |some k=>rw[hf]at e2;cases e2
  rw[this];exact⟨rfl,H⟩
 obtain⟨k,hf⟩:∃k,w.fuse=some k:=Option.isSome_iff_exists.1 e2
 obtain⟨rfl,hk⟩:=hl k hf
 have ec:powC w (k:Int)=[.bool false,.bool true,.int .i64 k,.int .i64 w.offs]:=by simp[powC,ho,hf]
 rw[ec]at H1
 refine⟨a,rfl,_,(H1.box 0 rfl).cell rfl,bn (fun e3=>?_) (fun e3=>?_)⟩
 ·have hk0:k=0:=by omega
  subst hk0
  have hs:w.step=(false,⟨true,some 0,IntKind.wrap .i64 (w.offs+1)⟩):=by unfold Pow.step;rw[if_neg (by simp[ho]),hf]
  rw[hs]
  refine⟨a,rfl,H1.uY ag 0 rfl rfl [.bool true] rfl rfl rfl (by simp) fun h2 H2=>?_⟩
  refine⟨a,rfl,w.offs,(H2.box 0 rfl).cell rfl,a,rfl,H2.store ag 0 rfl rfl 3 [.int .i64 (IntKind.wrap .i64 (w.offs+1))] rfl rfl rfl (by simp[powC]) fun h3 H3=>⟨rfl,?_⟩⟩
  refine ab.nQ (l:=((0:Nat):Int)) (fun k' hk'=>by cases hk';exact⟨rfl,by decide⟩) ?_
  exact H3
 ·obtain⟨j,rfl⟩:∃j,k=j+1:=⟨k-1,by omega⟩
  have hs:w.step=(true,⟨false,some j,w.offs⟩):=by unfold Pow.step;rw[if_neg (by simp[ho]),hf]
  rw[hs]
  refine⟨a,rfl,_,(H1.box 0 rfl).cell rfl,a,rfl,H1.store ag 0 rfl rfl 2 [.int .i64 (IntKind.wrap .i64 (((j+1:Nat):Int)-1))] rfl rfl rfl (by simp[powC]) fun h3 H3=>⟨rfl,?_⟩⟩
  refine ab.nQ (l:=(j:Int)) (fun k' hk'=>by cases hk';exact⟨rfl,by omega⟩) ?_
  rw[Go.Vc.wrap_small _ (by omega) (by omega)]at H3
  have e4:((j+1:Nat):Int)-1=(j:Int):=by omega
  rw[e4]at H3
  exact H3
end
end Go.Qw
namespace Wl
structure jD (d:bt):Prop where
 wait:d.wait≤d.l.length
 len:d.l.length≤d.room
 room:d.room≤512
 cell:∀c∈d.l,c.length=64
 laid:d.laid.length≤d.room
 cellL:∀c∈d.laid,c.length=64
section
variable {d:bt} {w:Pow} {b:List UInt8}
theorem jD.new {n:Nat} (h:n≤512):jD (bt.new n):=⟨Nat.le_refl _,Nat.zero_le _,h,by simp[bt.new],Nat.zero_le _,by simp[bt.new]⟩
end
end Wl
namespace Go.Vc
open Go Wl Go.Qw
abbrev dJ (s:Sl) (l:Cells):HP:=jx bQ s ay 1 aB l
def dK (t:Nat) (f:bt→Sl→Sl→List Value) (a:Addr) (d:bt):HP:=
 (HP.ex fun sb:Sl×Sl=>(af a t (f d sb.1 sb.2)).sep ((dJ sb.1 d.l).sep (dJ sb.2 d.laid))).and (jD d)
section
variable {B:aj} {h0 h h':Heap} {As:List HP} {t:Nat} {f:bt→Sl→Sl→List Value} {a:Addr} {d:bt}
theorem ab.xl (H:ab B h0 h (dK t f a d::As)):jD d∧∃s b:Sl,ab B h0 h (af a t (f d s b)::dJ s d.l::dJ b d.laid::As):=by
 obtain⟨H,ok⟩:=H.pk
 obtain⟨sb,H⟩:=H.qH
 exact⟨ok,sb.1,sb.2,H.rq.rq.bL 3 [2,1,0]⟩
theorem ab.oS {s b:Sl} (ok:jD d) (H:ab B h0 h (af a t (f d s b)::dJ s d.l::dJ b d.laid::As)):ab B h0 h (dK t f a d::As):=
 ((((H.bL 3 [2,1,0]).qI).qI).rp (F:=fun sb:Sl×Sl=>(af a t (f d sb.1 sb.2)).sep ((dJ sb.1 d.l).sep (dJ sb.2 d.laid))) (s,b)).topk ok
end
end Go.Vc
namespace Go.Qw
open Go Go.Vc Go.Proofs Wl
set_option maxRecDepth 100000
abbrev jb (pw:Addr) (d:bt) (s b:Sl):List Value:=[.pointer (some pw),.int .i64 d.room,.slice s.ptr s.len s.cap,.int .i64 d.wait,.slice b.ptr b.len b.cap,.bool d.has,.bool d.lost]
abbrev mz (pw a:Addr) (d:bt):HP:=dK fk (jb pw) a d
section
variable {B:aj} {h0 h h':Heap} {As:List HP} {a pw:Addr} {d:bt} {w:Pow}
theorem uy (n:Int) (pw:Addr) (h:Heap):ae Tryz.prog rH #[.int .i64 n,.pointer (some pw)] h fun v h'=>
  (1≤n∧n≤512→∃a,v=.pointer (some a)∧Sp h h' [mz pw a (bt.new n.toNat)])∧(¬(1≤n∧n≤512)→v=.pointer none∧Sp h h' []):=by
 refine qw n (some pw) ?_
 unfold nk
 refine aJ (an (fun e=>⟨fun hh=>absurd hh (by omega),fun _=>⟨rfl,Sp.refl h⟩⟩) fun e1=>an (fun e=>⟨fun hh=>absurd hh (by omega),fun _=>⟨rfl,Sp.refl h⟩⟩) fun e2=>bV (fun e=>by cases e) fun _=>?_)
 refine(Sp.refl h).boxed fun a h1 H1=>⟨fun _=>⟨a,rfl,?_⟩,fun hh=>absurd (by omega) hh⟩
 refine ab.oS (s:=⟨none,0,0⟩) (b:=⟨none,0,0⟩) (jD.new (by omega)) ?_
 have e:((n.toNat:Nat):Int)=n:=by omega
 have H2:=((H1.uh bQ ay 1 aB).uh bQ ay 1 aB).bL 3 [2,1,0]
 have e2:jb pw (bt.new n.toNat) ⟨none,0,0⟩ ⟨none,0,0⟩=[.pointer (some pw),.int .i64 n,.slice none 0 0,.int .i64 0,.slice none 0 0,.bool false,.bool false]:=by
  simp only[jb,bt.new,e];rfl
 rw[e2];exact H2
theorem qf (s b:Sl) (d':bt) (H:ab B h0 h (af a fk (jb pw d s b)::dJ s d.l::dJ b d.laid::bB aM pw w::As)) (ok:jD d) (hd:d'={d with laid:=[],has:=false}):
  ae Tryz.prog lM #[.pointer (some a)] h fun v h'=>v=.int .i64 0∧ab B h0 h' (mz pw a d'::bB aM pw w::As):=by
 refine ld (some a) ?_
 unfold gW
 refine⟨a,rfl,H.store ag 0 rfl rfl 4 [.slice none 0 0] rfl rfl rfl (by simp[jb]) fun h2 H2=>?_⟩
 refine⟨a,rfl,H2.store ag 0 rfl rfl 5 [.bool false] rfl rfl rfl (by simp[jb]) fun h3 H3=>⟨rfl,?_⟩⟩
 subst hd
 refine ab.oS (s:=s) (b:=⟨none,0,0⟩) ⟨ok.wait,ok.len,ok.room,ok.cell,Nat.zero_le _,by simp⟩ ?_
 exact((H3.uh bQ ay 1 aB).bL 5 [1,2,0,4])
theorem sV (x:Sl) (row:List UInt8) (H:ab B h0 h (mz pw a d::bB aM pw w::As)) (hx:Rd h x 1 aB row) (hr:row.length≤2^20):
  ae Tryz.prog fC #[.pointer (some a),.slice x.ptr x.len x.cap] h fun v h'=>v=.int .i64 (d.append w row).1∧ab B h0 h' (mz pw a (d.append w row).2.2::bB aM pw (d.append w row).2.1::As):=by
 refine fd (some a) x ?_
 unfold dG
 have hxl:=hx.len
 obtain⟨ok,s,b,H1⟩:=H.xl
 have hb:=H1.box 0 rfl
 obtain⟨hsl,_⟩:=ab.ym (H1.bL 4 [1])
 have hroom:=ok.room
 have hlen:=ok.len
 have hwait:=ok.wait
 have same:∀(e:Int),d.append w row=(e,w,d)→(Value.int .i64 e=.int .i64 (d.append w row).1∧ab B h0 h (mz pw a (d.append w row).2.2::bB aM pw (d.append w row).2.1::As)):=fun e he=>by
  rw[he];exact⟨rfl,H⟩
 refine aJ (cT (fun e=>same 1 (by unfold bt.append;rw[if_pos (by omega)])) fun e64=>?_)
 have e64':row.length=64:=by omega
 refine aJ (bV (fun e=>by cases e) fun _=>⟨a,rfl,d.lost,hb.cell rfl,bV (fun e=>same 5 ?_) fun elost=>?_⟩)
 ·unfold bt.append;rw[if_neg (by omega),if_pos e]
 refine⟨a,rfl,s,hb.cell rfl,a,rfl,(d.room:Int),hb.cell rfl,an (fun e=>same 7 ?_) fun eroom=>?_⟩
 ·unfold bt.append;rw[if_neg (by omega),if_neg (by simp[elost]),if_pos (by omega)]
 obtain⟨l,hl,H1p⟩:=(H1.bL 4 [3,0,1,2]).mR
 refine⟨a,rfl,some pw,hb.cell0 rfl,(pC l (H1p.box 0 rfl)).mono ?_⟩
 rintro _ h2 ⟨rfl,rfl⟩
 refine⟨_,rfl,bm (fun e=>same 14 ?_) fun eoff=>?_⟩
 ·unfold bt.append;rw[if_neg (by omega),if_neg (by simp[elost]),if_neg (by omega),if_pos (by simpa using e)]
 have eoff':w.off=false:=by simpa using eoff
 refine aJ ⟨a,rfl,s,hb.cell rfl,(sU x row h2 hx (by omega)).mono ?_⟩
 rintro _ h4 ⟨r,rfl,R4⟩
 have H4:=(H1.im R4).bL 5 [2,0,1,3,4]
 have hb4:=H4.box 2 rfl
 refine⟨r,rfl,⟨hb4.cell rfl,trivial⟩,?_⟩
 have H4b:=H4
 refine H4.pi ag fI qJ rfl [r] rfl (show 1*1≤2^20 by decide) rfl ⟨hb4.cell rfl,trivial⟩ ?_
 refine H4.xc ag qJ (by omega) fun s' h6 H6=>⟨trivial,?_⟩
 have H6:=H6.bL 4 [1,0,2,3]
 refine⟨a,rfl,H6.store ag 0 rfl rfl 2 [.slice s'.ptr s'.len s'.cap] rfl rfl rfl (by simp[jb]) fun h7 H7=>⟨trivial,?_⟩⟩
 have hb7:=H7.box 0 rfl
 refine⟨a,rfl,(d.wait:Int),hb7.cell rfl,a,rfl,?_⟩
 rw[Go.Vc.wrap_small ((d.wait:Int)+1) (by omega) (by omega)]
 refine H7.store ag 0 rfl rfl 3 [.int .i64 ((d.wait:Int)+1)] rfl rfl rfl (by simp[jb]) fun h8 H8=>?_
 obtain⟨d1,hd1⟩:∃d1:bt,d1={d with l:=d.l++[row],wait:=d.wait+1}:=⟨_,rfl⟩
 have ok1:jD d1:=by
  subst hd1
  refine⟨by simp;omega,by simp;omega,ok.room,fun c hc=>?_,ok.laid,ok.cellL⟩
  rcases List.mem_append.1 hc with hc|hc
  ·exact ok.cell c hc
  ·rw[List.mem_singleton.1 hc];exact e64'
 have H8':ab B h0 h8 (af a fk (jb pw d1 s' b)::dJ s' d1.l::dJ b d1.laid::bB aM pw w::As):=by rw[hd1];exact H8
 refine⟨a,rfl,some pw,(H8'.box 0 rfl).cell0 rfl,(qe (H8'.bL 4 [3,0,1,2])).mono ?_⟩
 rintro _ h9 ⟨rfl,H9⟩
 have H9:=H9.bL 4 [1,2,3,0]
 have eres:d.append w row=if w.step.1 then(0,w.step.2,{d1 with laid:=[],has:=false})else(14,w.step.2,d1):=by
  rw[hd1];unfold bt.append;rw[if_neg (by omega),if_neg (by simp[elost]),if_neg (by omega),if_neg (by simp[eoff'])]
 rw[eres]
 refine⟨_,rfl,bm (fun e=>?_) (fun e=>?_)⟩
 ·rw[e];exact⟨rfl,H9.oS ok1⟩
 ·rw[e]
  refine(qf s' b _ H9 ok1 rfl).mono ?_
  rintro _ h10 ⟨rfl,H10⟩
  exact⟨0,rfl,rfl,H10⟩
theorem pD (x:Sl) (row:List UInt8) (h:Heap) (hx:Rd h x 1 aB row):ae Tryz.prog fC #[.pointer none,.slice x.ptr x.len x.cap] h fun v h'=>v=.int .i64 (if row.length≠64 then 1 else 5)∧h'=h:=by
 refine fd none x ?_
 unfold dG
 have hxl:=hx.len
 refine aJ (cT (fun e=>⟨by rw[if_pos (by omega)],rfl⟩) fun e=>?_)
 exact aJ (bV (fun _=>⟨by rw[if_neg (by omega)],rfl⟩) fun e=>by cases e)
theorem vA (H:ab B h0 h (mz pw a d::bB aM pw w::As)):
  ae Tryz.prog gh #[.pointer (some a)] h fun v h'=>v=.int .i64 (d.sync w).1∧ab B h0 h' (mz pw a (d.sync w).2.2::bB aM pw (d.sync w).2.1::As):=by
 refine fU (some a) ?_
 unfold eC
 obtain⟨ok,s,b,H1⟩:=H.xl
 have hb:=H1.box 0 rfl
 refine aJ (bV (fun e=>by cases e) fun _=>⟨a,rfl,d.lost,hb.cell rfl,bV (fun e=>?_) fun elost=>?_⟩)
 ·have:d.sync w=(5,w,d):=by unfold bt.sync;rw[if_pos e]
  rw[this];exact⟨rfl,H⟩
 refine⟨a,rfl,some pw,hb.cell0 rfl,(qe (H1.bL 4 [3,0,1,2])).mono ?_⟩
 rintro _ h2 ⟨rfl,H2⟩
 have H2:=H2.bL 4 [1,2,3,0]
 have eres:d.sync w=if w.step.1 then(0,w.step.2,{{d with wait:=0}with laid:=[],has:=false})else(14,w.step.2,d):=by
  unfold bt.sync;rw[if_neg (by simp[elost])]
 rw[eres]
 refine⟨_,rfl,bm (fun e=>?_) (fun e=>?_)⟩
 ·rw[e];exact⟨rfl,H2.oS ok⟩
 ·rw[e]
  refine⟨a,rfl,H2.store ag 0 rfl rfl 3 [.int .i64 0] rfl rfl rfl (by simp[jb]) fun h3 H3=>?_⟩
  refine(qf (d:={d with wait:=0}) s b _ H3 ⟨Nat.zero_le _,ok.len,ok.room,ok.cell,ok.laid,ok.cellL⟩ rfl).mono ?_
  rintro _ h4 ⟨rfl,H4⟩
  exact⟨0,rfl,rfl,H4⟩
theorem rR (h:Heap):ae Tryz.prog gh #[.pointer none] h fun v h'=>v=.int .i64 5∧h'=h:=by
 refine fU none ?_
 unfold eC
 exact aJ (bV (fun _=>⟨rfl,rfl⟩) fun e=>by cases e)
end
end Go.Qw
namespace Go.Qw
open Go Go.Vc Go.Proofs Wl
set_option maxRecDepth 100000
theorem wD (b:Sl) (l:List UInt8) (h:Heap) (hb:Rd h b 1 aB l) (hs:l.length≤2^40):ae Tryz.prog ut #[.slice b.ptr b.len b.cap] h fun v h'=>v=.int .u32 (rv l).toNat∧h'=h:=by
 refine sT b ?_
 unfold pZ
 have hl:=hb.len
 refine aE (fun t:Nat=>(((io (l.take t)).toNat:Int),(t:Int))) (fun t h'=>t≤l.length∧h'=h) (fun t=>l.length-t) 0 rfl ⟨by omega,rfl⟩ ?_
 rintro i h1 ⟨hi,rfl⟩
 refine an (fun e=>?_) (fun e=>?_)
 ·have hi':i<l.length:=by
   have e':(i:Int)<(b.len:Int):=e
   omega
  refine hb.bd i rfl hi' (l[i].toNat:Int) rfl ?_
  have e1:IntKind.wrap .u32 (l[i].toNat:Int)=((BitVec.ofNat 32 l[i].toNat).toNat:Int):=by rw[vh,BitVec.ofInt_natCast]
  rw[e1,ug]
  refine aE (fun k:Nat=>(((kl k (io (l.take i)^^^BitVec.ofNat 32 l[i].toNat)).toNat:Int),(k:Int))) (fun k h'=>k≤8∧h'=h1) (fun k=>8-k) 0 rfl ⟨by omega,rfl⟩ ?_
  rintro k h2 ⟨hk,rfl⟩
  obtain⟨c,hc⟩:∃c,c=kl k (io (l.take i)^^^BitVec.ofNat 32 l[i].toNat):=⟨_,rfl⟩
  dsimp only
  rw[←hc]
  refine an (fun e2=>⟨by decide,?_⟩) (fun e2=>?_)
  ·have hstep:∀n:gO,n=ov c→∃t':Nat,(((n.toNat:Nat):Int),IntKind.wrap .i64 ((k:Int)+1))=(((kl t' (io (l.take i)^^^BitVec.ofNat 32 l[i].toNat)).toNat:Int),(t':Int))∧(t'≤8∧h2=h2)∧8-t'<8-k:=fun n hn=>
    ⟨k+1,by rw[Go.Vc.wrap_small _ (by omega) (by omega),hn,hc];rfl,⟨by omega,rfl⟩,by omega⟩
   have e3:IntKind.wrap .u32 ((BitVec.ofInt (IntKind.bits .u32) (c.toNat:Int)&&&BitVec.ofInt (IntKind.bits .u32) (1:Int)).toNat:Nat)=((c&&&1#32).toNat:Int):=yU c 1#32
   have e4:IntKind.wrap .u32 ((BitVec.ofInt (IntKind.bits .u32) ((c>>>1).toNat:Int)^^^BitVec.ofInt (IntKind.bits .u32) (3988292384:Int)).toNat:Nat)=(((c>>>1)^^^3988292384#32).toNat:Int):=ug (c>>>1) 3988292384#32
   rw[e3,xC,e4]
   refine bn (fun e5=>hstep _ ?_) (fun e5=>hstep _ ?_)
   ·unfold ov;rw[if_pos ((tC c).1 e5)]
   ·unfold ov;rw[if_neg (fun hh=>e5 ((tC c).2 hh))]
  ·have hk8:k=8:=by omega
   subst hk8
   refine⟨i+1,?_,⟨by omega,rfl⟩,by omega⟩
   rw[Go.Vc.wrap_small _ (by omega) (by omega),aF _ _ hi',uf,hc];rfl
 ·have hie:i=l.length:=by
   have e':¬(i:Int)<(b.len:Int):=e
   omega
  subst hie
  refine⟨?_,rfl⟩
  rw[List.take_length]
  exact congrArg (Value.int .u32) (ug 4294967295#32 (io l))
theorem vB (kind:Int) (body:Sl) (l:List UInt8) (h:Heap) (hb:Rd h body 1 aB l) (hs:l.length≤2^40):ae Tryz.prog sS #[.int .i64 kind,.slice body.ptr body.len body.cap] h fun v h'=>∃r:Sl,v=.slice r.ptr r.len r.cap∧Sp h h' [aw ay r 1 aB (eK kind l)]:=by
 refine rN kind body ?_
 unfold oL
 have hl:=hb.len
 have bad:¬(1≤kind∧kind≤255∧l.length≤55)→∃r:Sl,Value.slice none 0 0=.slice r.ptr r.len r.cap∧Sp h h [aw ay r 1 aB (eK kind l)]:=fun e=>by
  unfold eK;rw[if_neg e];exact⟨⟨none,0,0⟩,rfl,(Sp.refl h).nil ay 1 aB⟩
 refine aJ (an (fun e=>bad (by omega)) fun e1=>an (fun e=>bad (by omega)) fun e2=>an (fun e=>bad (by omega)) fun e3=>?_)
 refine(Sp.refl h).make ag aB fW (by decide) 0 rfl rfl 64 64 rfl rfl (Nat.le_refl _) (by decide) fun o h2 hol hoc H2=>?_
 rw[bD]
 refine H2.lit ag aB fW rfl [87,115,1,b8 kind] rfl (show 4*1≤2^20 by decide) rfl fun v3 h3 H3=>?_
 refine H3.rg ag 0 rfl fW (fun _=>rfl) (H3.seq 1 rfl fun _=>rfl) dP fun _ h4 H4=>⟨⟨by decide,by rw[hol];decide⟩,?_⟩
 have H4:Sp h h4 [aw ay o 1 aB ([87,115,1,b8 kind]++List.replicate 60 0)]:=by
  have:=H4.de [0]
  simpa using this
 refine H4.rz ag 0 rfl fW (fun _=>rfl) (Seq.up hb H4.aq) dP 4 (by simp) rfl rfl fun _ h5 H5=>⟨⟨by decide,by rw[hoc];decide⟩,?_⟩
 have eH:([87,115,1,b8 kind]++List.replicate 60 0).take 4++(l.take (([87,115,1,b8 kind]++List.replicate 60 (0:UInt8)).length-4)++([87,115,1,b8 kind]++List.replicate 60 0).drop (4+l.length))=bP kind l++List.replicate 5 0:=by
  have h1:([87,115,1,b8 kind]++List.replicate 60 (0:UInt8)).length=64:=by simp
  rw[h1,List.take_of_length_le (l:=l) (by omega),←List.drop_drop]
  have h2:([87,115,1,b8 kind]++List.replicate 60 (0:UInt8)).drop 4=List.replicate 60 0:=rfl
  have h3:([87,115,1,b8 kind]++List.replicate 60 (0:UInt8)).take 4=[87,115,1,b8 kind]:=rfl
  rw[h2,h3,List.drop_replicate]
  unfold bP
  have h4:List.replicate (60-l.length) (0:UInt8)=List.replicate (55-l.length) 0++List.replicate 5 0:=by rw[List.replicate_append_replicate];congr 1;omega
  rw[h4];simp[List.append_assoc]
 rw[eH]at H5
 have hcl:(bP kind l).length=59:=mf (by omega)
 have hr:Rd h5 ⟨o.ptr,59,o.cap⟩ 1 aB (bP kind l):=by
  have:=(H5.seq 0 rfl fun _=>rfl).take 59 (by simp[hcl])
  rw[List.take_append_of_le_length (by omega),List.take_of_length_le (by omega)]at this
  exact this
 refine(wD ⟨o.ptr,59,o.cap⟩ (bP kind l) h5 hr (by omega)).mono ?_
 rintro _ h6 ⟨rfl,rfl⟩
 obtain⟨c,hc⟩:∃c,c=rv (bP kind l):=⟨_,rfl⟩
 rw[←hc]
 refine⟨_,rfl,?_⟩
 refine aE (fun i:Nat=>(i:Int)) (fun i h'=>i≤4∧Sp h h' [aw ay o 1 aB (bP kind l++((hG c).take i++List.replicate (5-i) 0))]) (fun i=>4-i) 0 rfl ⟨by omega,by simpa using H5⟩ ?_
 rintro i h7 ⟨hi,H7⟩
 have hl4:=ry c
 refine an (fun e=>?_) (fun e=>?_)
 ·have hi':i<4:=by
   have e':(i:Int)<4:=e
   omega
  rw[Go.Vc.wrap_small ((8:Int)*i) (by omega) (by omega),Go.Vc.wrap_small ((59:Int)+i) (by omega) (by omega)]
  refine⟨by omega,?_⟩
  have e8:((8:Int)*(i:Int)).toNat=8*i:=by omega
  have e9:min (8*i) (IntKind.bits .u32)=8*i:=by
   have:IntKind.bits .u32=32:=rfl
   omega
  rw[e8,e9,bD]
  have hg:b8 (Int.fdiv (c.toNat:Int) (2^(8*i)))=(hG c)[i]'(by omega):=by simp[hG]
  rw[hg]
  refine H7.set ag 0 rfl (fun _=>rfl) rfl (59+i) (by omega) (by simp[hcl];omega) ((hG c)[i]'(by omega)) rfl rfl rfl fun h8 H8=>?_
  refine⟨i+1,by rw[Go.Vc.wrap_small _ (by omega) (by omega)];rfl,⟨by omega,?_⟩,by omega⟩
  have e10:(bP kind l++((hG c).take i++List.replicate (5-i) 0)).set (59+i) ((hG c)[i]'(by omega))=bP kind l++((hG c).take (i+1)++List.replicate (5-(i+1)) 0):=by
   rw[List.set_append_right _ _ (by omega),hcl,Nat.add_sub_cancel_left,List.set_append_right _ _ (by simp;omega),aF _ _ (by omega)]
   have:5-i=(5-(i+1))+1:=by omega
   rw[this,List.replicate_succ]
   simp[hl4,Nat.min_eq_left (show i≤4 by omega)]
   rw[aF _ _ (show i<(hG c).length by omega),List.append_assoc];rfl
  rw[e10]at H8
  exact H8
 ·have hie:i=4:=by
   have e':¬(i:Int)<4:=e
   omega
  subst hie
  refine H7.set ag 0 rfl (fun _=>rfl) rfl 63 rfl (by simp[hcl,hl4]) 165 rfl rfl rfl fun h8 H8=>⟨o,rfl,?_⟩
  have e11:(bP kind l++((hG c).take 4++List.replicate (5-4) 0)).set 63 165=eK kind l:=by
   unfold eK
   rw[if_pos ⟨by omega,by omega,by omega⟩,←hc,List.take_of_length_le (by omega),List.set_append_right _ _ (by omega),hcl,List.set_append_right _ _ (by simp[hl4])]
   simp[hl4]
  rw[e11]at H8
  exact H8
end Go.Qw
namespace Go.Vc
open Go Wl
abbrev uz:=ByteArray×Int×Int×Sl
abbrev cm:=Int×Int×Int×Int×Int×Int×Sl×Sl
abbrev jc (x:uz):List Value:=[.string x.1,.int .i64 x.2.1,.int .i64 x.2.2.1,.slice x.2.2.2.ptr x.2.2.2.len x.2.2.2.cap]
abbrev bG (x:cm):List Value:=[.int .i64 x.1,.int .i64 x.2.1,.int .i64 x.2.2.1,.int .i64 x.2.2.2.1,.int .i64 x.2.2.2.2.1,.int .i64 x.2.2.2.2.2.1,.slice x.2.2.2.2.2.2.1.ptr x.2.2.2.2.2.2.1.len x.2.2.2.2.2.2.1.cap,.slice x.2.2.2.2.2.2.2.ptr x.2.2.2.2.2.2.2.len x.2.2.2.2.2.2.2.cap]
abbrev nR (x:cm):Value:=.agg #[.int .i64 x.1,.int .i64 x.2.1,.int .i64 x.2.2.1,.int .i64 x.2.2.2.1,.int .i64 x.2.2.2.2.1,.int .i64 x.2.2.2.2.2.1,.slice x.2.2.2.2.2.2.1.ptr x.2.2.2.2.2.2.1.len x.2.2.2.2.2.2.1.cap,.slice x.2.2.2.2.2.2.2.ptr x.2.2.2.2.2.2.2.len x.2.2.2.2.2.2.2.cap]
def vC:iM uz Wl.dN:=⟨fun h q a b=>(a.1=b.name∧a.2.1=b.object∧a.2.2.1=b.length)∧Seq h q a.2.2.2 1 aA b.tries,fun a hp=>⟨a.1,a.2.aq hp⟩,fun a hq=>⟨a.1,a.2.mono hq⟩⟩
abbrev mS:iM Sl (List Wl.dN):=cL vC 4 jc
structure iA (h:Heap) (q:aj) (x:cm) (m:bp):Prop where
 seq:x.1=m.seq
 next:x.2.1=m.next
 p:(x.2.2.1,x.2.2.2.1,x.2.2.2.2.1)=m.p
 extra:x.2.2.2.2.2.1=m.extra
 drives:Seq h q x.2.2.2.2.2.2.1 1 aA m.drives
 objs:mS.p h q x.2.2.2.2.2.2.2 m.objs
 dcap:x.2.2.2.2.2.2.1.len≤x.2.2.2.2.2.2.1.cap
 ocap:x.2.2.2.2.2.2.2.len≤x.2.2.2.2.2.2.2.cap
abbrev jE (h:Heap) (x:cm) (m:bp):Prop:=iA h (fun b=>b<h.size) x m
theorem iA.aq {h h':Heap} {q:aj} {x:cm} {m:bp} (a:iA h q x m) (hp:ax q h h'):iA h' q x m:=⟨a.seq,a.next,a.p,a.extra,a.drives.aq hp,mS.loc a.objs hp,a.dcap,a.ocap⟩
theorem iA.mono {h:Heap} {q q':aj} {x:cm} {m:bp} (a:iA h q x m) (hq:∀b,q b→q' b):iA h q' x m:=⟨a.seq,a.next,a.p,a.extra,a.drives.mono hq,mS.mono a.objs hq,a.dcap,a.ocap⟩
theorem jE.up {h h':Heap} {x:cm} {m:bp} (a:jE h x m) (hp:ax (fun b=>b<h.size) h h'):jE h' x m:=(iA.aq a hp).mono fun _ hb=>Nat.lt_of_lt_of_le hb hp.1
def hZ (x:cm) (m:bp):HP:=⟨fun h q=>iA h q x m,fun a hp=>a.aq hp,fun a hq=>a.mono hq⟩
end Go.Vc
namespace Go.Qw
open Go Go.Vc Go.Proofs Wl
set_option maxRecDepth 100000
theorem gA (n a b:Int) (h:Heap):ae Tryz.prog py #[.int .i64 n,.int .i64 a,.int .i64 b] h fun v h'=>v=.bool (bX n a b)∧h'=h:=by
 refine oN n a b ?_
 unfold lD bX
 refine an (fun e=>⟨?_,rfl⟩) (fun e=>⟨?_,rfl⟩)
 ·rw[decide_eq_true (show a≤n from e)];rfl
 ·rw[decide_eq_false (show¬a≤n from e)];rfl
theorem vD (s:ByteArray) (h:Heap) (hs:s.size≤2^40):ae Tryz.prog rO #[.string s] h fun v h'=>v=.bool (kT s)∧Sp h h' []:=by
 refine qz s ?_
 unfold nq
 refine xD ag ⟨_,rfl,rfl⟩ ⟨_,rfl,rfl⟩ ⟨_,rfl,rfl⟩ s fun r h1 H1=>?_
 have hr:=H1.rd 0 rfl
 have hrl:=hr.len
 have hsl:=kS s
 refine aE (fun i:Nat=>(i:Int)) (fun i h'=>i≤s.size∧h'=h1∧∀c∈(cw s).take i,ei c=true) (fun i=>s.size-i) 0 rfl ⟨by omega,rfl,by simp⟩ ?_
 rintro i h2 ⟨hi,rfl,hall⟩
 refine an (fun e=>?_) (fun e=>?_)
 ·have hi':i<(cw s).length:=by
   have e':(i:Int)<(r.len:Int):=e
   omega
  refine hr.bd i rfl hi' ((cw s)[i].toNat:Int) rfl ?_
  obtain⟨c,hc⟩:∃c,c=(cw s)[i]:=⟨_,rfl⟩
  rw[←hc]
  have good:ei c=true→∃t':Nat,IntKind.wrap .i64 ((i:Int)+1)=(t':Int)∧(t'≤s.size∧h2=h2∧∀c∈(cw s).take t',ei c=true)∧s.size-t'<s.size-i:=fun hg=>
   ⟨i+1,by rw[Go.Vc.wrap_small _ (by omega) (by omega)];rfl,⟨by omega,rfl,fun x hx=>by
    rw[aF _ _ hi']at hx
    rcases List.mem_append.1 hx with hx|hx
    ·exact hall x hx
    ·rw[List.mem_singleton.1 hx,←hc];exact hg⟩,by omega⟩
  have bad:ei c=false→Value.bool false=.bool (kT s)∧Sp h h2 []:=fun hg=>by
   refine⟨?_,H1.de []⟩
   unfold kT
   have:s.data.toList.all ei=false:=List.all_eq_false.2 ⟨c,by rw[hc];exact List.getElem_mem hi',by rw[hg];simp⟩
   rw[this];rfl
  have hch:ei c=true↔((97≤(c.toNat:Int)∧(c.toNat:Int)≤122)∨(48≤(c.toNat:Int)∧(c.toNat:Int)≤57)∨(c.toNat:Int)=45):=by
   unfold ei;simp[or_assoc];omega
  have hno:ei c=false↔¬((97≤(c.toNat:Int)∧(c.toNat:Int)≤122)∨(48≤(c.toNat:Int)∧(c.toNat:Int)≤57)∨(c.toNat:Int)=45):=by
   rw[←hch];cases ei c<;>simp
  refine an (fun e1=>an (fun e2=>cT (fun e3=>bad (hno.2 (by omega))) fun e3=>good (hch.2 (by omega))) fun e2=>an (fun e3=>cT (fun e4=>bad (hno.2 (by omega))) fun e4=>good (hch.2 (by omega))) fun e3=>good (hch.2 (by omega))) fun e1=>an (fun e2=>an (fun e3=>cT (fun e4=>bad (hno.2 (by omega))) fun e4=>good (hch.2 (by omega))) fun e3=>an (fun e4=>cT (fun e5=>bad (hno.2 (by omega))) fun e5=>good (hch.2 (by omega))) fun e4=>good (hch.2 (by omega))) fun e2=>good (hch.2 (by omega))
 ·have e':¬(i:Int)<(r.len:Int):=e
  rw[List.take_of_length_le (by omega)]at hall
  have hA:s.data.toList.all ei=true:=List.all_eq_true.2 hall
  refine an (fun e1=>⟨?_,H1.de []⟩) (fun e1=>⟨?_,H1.de []⟩)
  ·unfold kT
   rw[hA,decide_eq_true (show 1≤s.size by omega)]
   congr 1;simp;omega
  ·unfold kT
   rw[hA,decide_eq_false (show¬1≤s.size by omega)];rfl
theorem vE (s:Sl) (l:List Int) (most:Int) (h:Heap) (hs:Rd h s 1 aA l) (hl:l.length≤2^40):ae Tryz.prog rP #[.slice s.ptr s.len s.cap,.int .i64 most] h fun v h'=>v=.bool (mQ l most)∧h'=h:=by
 refine qA s most ?_
 unfold nr
 have hsl:=hs.len
 refine aE (fun i:Nat=>(i:Int)) (fun i h'=>i≤l.length∧h'=h∧∀j,j<i→dQ l most j=true) (fun i=>l.length-i) 0 rfl ⟨by omega,rfl,by omega⟩ ?_
 rintro i h1 ⟨hi,rfl,hall⟩
 refine an (fun e=>?_) (fun e=>?_)
 ·have hi':i<l.length:=by
   have e':(i:Int)<(s.len:Int):=e
   omega
  refine hs.bd i rfl hi' l[i] rfl ?_
  have hg:l.getD i 0=l[i]:=getD_lt hi'
  have bad:dQ l most i=false→Value.bool false=.bool (mQ l most)∧h1=h1:=fun hb=>⟨by unfold mQ;rw[mh hi' hb],rfl⟩
  have good:dQ l most i=true→∃t':Nat,IntKind.wrap .i64 ((i:Int)+1)=(t':Int)∧(t'≤l.length∧h1=h1∧∀j,j<t'→dQ l most j=true)∧l.length-t'<l.length-i:=fun hb=>
   ⟨i+1,by rw[Go.Vc.wrap_small _ (by omega) (by omega)];rfl,⟨by omega,rfl,fun j hj=>by
    by_cases hji:j=i
    ·rw[hji];exact hb
    ·exact hall j (by omega)⟩,by omega⟩
  refine(gA l[i] 0 most h1).mono ?_
  rintro _ _ ⟨rfl,rfl⟩
  refine⟨_,rfl,bm (fun e1=>bad (by unfold dQ;rw[hg,e1];rfl)) fun e1=>an (fun e2=>?_) fun e2=>good (by unfold dQ;rw[hg,e1,decide_eq_true (show i=0 by omega)];rfl)⟩
  rw[Go.Vc.wrap_small ((i:Int)-1) (by omega) (by omega)]
  refine hs.bd (i-1) (by omega) (by omega) (l[i-1]'(by omega)) rfl ?_
  have hg1:l.getD (i-1) 0=l[i-1]'(by omega):=getD_lt (by omega)
  refine an (fun e3=>bad ?_) (fun e3=>good ?_)
  ·unfold dQ;rw[hg,hg1,e1,decide_eq_false (show¬i=0 by omega),decide_eq_false (by omega)];rfl
  ·unfold dQ;rw[hg,hg1,e1,decide_eq_true (show l[i-1]'(by omega)<l[i]by omega)];simp
 ·have e':¬(i:Int)<(s.len:Int):=e
  exact⟨by unfold mQ;rw[lu fun j hj=>hall j (by omega)],rfl⟩
theorem uA (p:Pm) (n:Int) (h:Heap) (hn:n≤2^40):ae Tryz.prog pr #[kz p,.int .i64 n] h fun v h'=>v=.int .i64 (countP p n)∧Sp h h' []:=by
 refine oI p n ?_
 unfold lA
 refine(Sp.refl h).boxed fun a1 h1 H1=>?_
 refine aJ ⟨p,(H1.box 0 rfl).bc _ rfl,(ja p h1).mono ?_⟩
 rintro _ h2 ⟨rfl,R2⟩
 have H2:=H1.up R2.aq
 refine⟨_,rfl,bm (fun e=>⟨?_,H2.de []⟩) fun hm=>an (fun e=>⟨?_,H2.de []⟩) fun e=>?_⟩
 ·unfold countP;rw[e];rfl
 ·unfold countP;rw[decide_eq_false (show¬0<n by omega),Bool.and_false];rfl
 ·have hmp:=(nD p).1 hm
  refine⟨p,(H2.box 0 rfl).bc _ rfl,?_⟩
  refine(px p (R:=fun v h'=>v=.int .i64 (p.1*p.2.2)∧Sp h h' []) ?_).mono ?_
  ·unfold mu
   refine H2.boxed fun a2 h3 H3=>⟨p.1,(H3.box 1 rfl).cell0 rfl,p.2.2,(H3.box 1 rfl).cell rfl,?_,H3.de []⟩
   have hk:p.1*p.2.2≤16*24:=Int.mul_le_mul (by omega) (by omega) (by omega) (by omega)
   have hk0:0≤p.1*p.2.2:=Int.mul_nonneg (by omega) (by omega)
   rw[Go.Vc.wrap_small _ (by omega) (by omega)]
  ·rintro _ h3 ⟨rfl,R3⟩
   have hk0:0<p.1*p.2.2:=Int.mul_pos (by omega) (by omega)
   refine⟨_,rfl,Int.ne_of_gt hk0,?_,R3⟩
   have h1:(n-1)/(p.1*p.2.2)≤n-1:=Int.ediv_le_self _ (by omega)
   have h2:0≤(n-1)/(p.1*p.2.2):=Int.ediv_nonneg (by omega) (by omega)
   rw[Go.Vc.wrap_small (n-1) (by omega) (by omega),Int.tdiv_eq_ediv_of_nonneg (by omega),Go.Vc.wrap_small ((n-1)/(p.1*p.2.2)) (by omega) (by omega),Go.Vc.wrap_small _ (by omega) (by omega)]
   unfold countP
   rw[hm,decide_eq_true (show 0<n by omega)];rfl
theorem sW (s:Sl) (l:List Int) (h:Heap) (hs:Rd h s 1 aA l) (hl:l.length≤2^40):ae Tryz.prog fR #[.slice s.ptr s.len s.cap,.func (.func fV) #[] #[]] h fun v h'=>v=.bool (!l.all (bX · 0 15))∧h'=h:=by
 refine fE s (fV,#[],#[]) ?_
 unfold dh
 have hsl:=hs.len
 refine(gx s (fV,#[],#[]) (R:=fun v h'=>(∃i:Int,v=.int .i64 i∧(decide (i≥0)=!l.all (bX · 0 15)))∧h'=h) ?_).mono ?_
 ·unfold dU
  refine aE (fun i:Nat=>(i:Int)) (fun i h'=>i≤l.length∧(l.take i).all (bX · 0 15)=true∧h'=h) (fun i=>l.length-i) 0 rfl ⟨by omega,by simp,rfl⟩ ?_
  rintro i h1 ⟨hi,hall,rfl⟩
  refine an (fun e=>?_) (fun e=>?_)
  ·have hi':i<l.length:=by
    have e':(i:Int)<(s.len:Int):=e
    omega
   refine hs.bd i rfl hi' l[i] rfl (om (by rfl) ?_)
   refine(nP l[i] (R:=fun v h'=>v=.bool (!bX l[i] 0 15)∧h'=h1) ?_).mono ?_
   ·unfold ky
    refine(gA l[i] 0 15 h1).mono ?_
    rintro _ _ ⟨rfl,rfl⟩
    exact⟨_,rfl,rfl,rfl⟩
   ·rintro _ _ ⟨rfl,rfl⟩
    refine⟨_,rfl,bm (fun e2=>?_) (fun e2=>?_)⟩
    ·refine⟨⟨i,rfl,?_⟩,rfl⟩
     rw[decide_eq_true (show(i:Int)≥0 by omega)]
     have:l.all (bX · 0 15)=false:=List.all_eq_false.2 ⟨_,List.getElem_mem hi',by rw[e2];simp⟩
     rw[this];rfl
    ·refine⟨i+1,by rw[Go.Vc.wrap_small _ (by omega) (by omega)];rfl,⟨by omega,?_,rfl⟩,by omega⟩
     rw[aF _ _ hi',List.all_append,hall];simp[e2]
  ·have e':¬(i:Int)<(s.len:Int):=e
   refine⟨⟨-1,rfl,?_⟩,rfl⟩
   rw[List.take_of_length_le (by omega)]at hall
   rw[hall];rfl
 ·rintro _ h1 ⟨⟨i,rfl,hi⟩,rfl⟩
  exact⟨i,rfl,by rw[hi],rfl⟩
end Go.Qw
namespace Wl
structure jF (m:bp):Prop where
 dr:m.drives.length≤2^30
 ob:m.objs.length≤2^30
 nm:∀e∈m.objs,e.name.size≤2^30∧e.tries.length≤2^30
end Wl
namespace Go.Vc
open Go
theorem addr_add (a:Addr) (i j:Nat):(a.add i).add j=a.add (i+j):=by
 unfold Addr.add
 by_cases hi:i=0<;>by_cases hj:j=0<;>simp[hi,hj,Nat.add_assoc]
theorem bH.rS {h:Heap} {a:Addr} {e:TypeId} {cs:List Value} {v:Value} (hb:bH h a e cs) (i j:Nat) (hv:cs[i+j]?=some v):cellOf h ((a.add i).add j)=some v:=by
 rw[addr_add];exact hb.cell hv
theorem bH.xm {h:Heap} {a:Addr} {e:TypeId} {cs:List Value} {u v w:Value} (hb:bH h a e cs) (i:Nat) (h0:cs[i]?=some u) (h1:cs[i+1]?=some v) (h2:cs[i+2]?=some w):ai h (a.add i) 0 [u,v,w]:=
 ⟨hb.rS i 0 h0,hb.rS i 1 h1,hb.rS i 2 h2,trivial⟩
end Go.Vc
namespace Go.Qw
open Go Go.Vc Go.Proofs Wl
set_option maxRecDepth 100000
theorem uB (x:cm) (m:bp) (e:uz) (E:Wl.dN) (h:Heap) (hx:jE h x m) (he:zB vC h e E) (hh:fK m=true) (hn:E.name.size≤2^30) (ht:E.tries.length≤2^30):
  ae Tryz.prog qB #[nR x,.agg #[.string e.1,.int .i64 e.2.1,.int .i64 e.2.2.1,.slice e.2.2.2.ptr e.2.2.2.len e.2.2.2.cap]] h fun v h'=>v=.bool (dR m E)∧Sp h h' []:=by
 refine pz x e ?_
 unfold mv
 obtain⟨_,hnx,hmay,_⟩:=rA hh
 have hmp:=(nD m.p).1 hmay
 obtain⟨⟨e1,e2,e3⟩,e4⟩:=he
 have hp1:x.2.2.1=m.p.1:=congrArg (·.1) hx.p
 have hp2:x.2.2.2.1=m.p.2.1:=congrArg (·.2.1) hx.p
 have hp3:x.2.2.2.2.1=m.p.2.2:=congrArg (·.2.2) hx.p
 have hk:m.p.1*m.p.2.2≤16*24:=Int.mul_le_mul (by omega) (by omega) (by omega) (by omega)
 have hk0:0≤m.p.1*m.p.2.2:=Int.mul_nonneg (by omega) (by omega)
 refine(Sp.refl h).boxed fun a1 h1 H1=>?_
 refine H1.boxed fun a2 h2 H2=>?_
 have no:∀{h':Heap} {As:List HP},Sp h h' As→dR m E=false→Value.bool false=.bool (dR m E)∧Sp h h' []:=fun{h' As} H' hb=>⟨by rw[hb],.zip H'.aq⟩
 refine aJ ⟨E.name,by rw[←e1];exact(H2.box 1 rfl).cell0 rfl,(vD E.name h2 (by omega)).mono ?_⟩
 rintro _ h3 ⟨rfl,R3⟩
 have H3:=H2.up R3.aq
 refine⟨_,rfl,bm (fun b=>no H3 (by unfold dR;rw[b];rfl)) fun b1=>?_⟩
 refine⟨E.object,by rw[←e2];exact(H3.box 1 rfl).cell rfl,m.next,by rw[←hx.next];exact(H3.box 0 rfl).cell rfl,?_⟩
 rw[Go.Vc.wrap_small (m.next-1) (by omega) (by omega)]
 refine(gA E.object 0 (m.next-1) h3).mono ?_
 rintro _ _ ⟨rfl,rfl⟩
 refine⟨_,rfl,bm (fun b=>no H3 (by unfold dR;rw[b1,b];rfl)) fun b2=>?_⟩
 have hb:=H3.box 0 rfl
 refine⟨E.length,by rw[←e3];exact(H3.box 1 rfl).cell rfl,m.p.1,by rw[←hp1];exact hb.cell rfl,m.p.2.2,by rw[←hp3];exact hb.rS 2 2 rfl,?_⟩
 rw[Go.Vc.wrap_small (m.p.1*m.p.2.2) (by omega) (by omega),Go.Vc.wrap_small (m.p.1*m.p.2.2*8) (by omega) (by omega)]
 refine(gA E.length 0 (m.p.1*m.p.2.2*8) _).mono ?_
 rintro _ _ ⟨rfl,rfl⟩
 refine⟨_,rfl,bm (fun b=>no H3 (by unfold dR;rw[b1,b2,b];rfl)) fun b3=>?_⟩
 have hlen:0≤E.length∧E.length≤m.p.1*m.p.2.2*8:=by unfold bX at b3;simpa using b3
 refine⟨e.2.2.2,(H3.box 1 rfl).cell rfl,?_⟩
 refine(sW e.2.2.2 E.tries _ (Seq.up e4 H3.aq) (by omega)).mono ?_
 rintro _ _ ⟨rfl,rfl⟩
 refine⟨_,rfl,bm (fun b=>?_) (fun b=>⟨trivial,no H3 ?_⟩)⟩
 ·have b4:E.tries.all (bX · 0 15)=true:=by simpa using b
  refine⟨e.2.2.2,(H3.box 1 rfl).cell rfl,m.p,?_,E.length,by rw[←e3];exact(H3.box 1 rfl).cell rfl,?_⟩
  ·rw[←hp1,←hp2,←hp3]
   exact hb.xm 2 rfl rfl rfl
  ·refine(uA m.p E.length _ (by omega)).mono ?_
   rintro _ h4 ⟨rfl,R4⟩
   have H4:=H3.up R4.aq
   refine⟨_,rfl,⟨(H4.box 1 rfl).cell rfl,trivial⟩,?_,.zip H4.aq⟩
   unfold dR
   have el:=e4.len
   rw[b1,b2,b3,b4,el]
   simp
   rfl
 ·have b4:E.tries.all (bX · 0 15)=false:=by simpa using b
  unfold dR;rw[b1,b2,b3,b4];rfl
theorem sX (a:Addr) (e:uz) (l:Sl) (ents:List Wl.dN) (h:Heap) (hb:bH h a gI (jc e)) (hl:zB mS h l ents) (hs:ents.length≤2^30):
  ae Tryz.prog dy #[.slice l.ptr l.len l.cap,.func (.func hU) #[] #[.pointer (some a)]] h fun v h'=>v=.bool (ents.any fun y=>decide (y.object=e.2.1))∧Sp h h' []:=by
 refine dk l (hU,#[],#[.pointer (some a)]) ?_
 unfold bN
 refine(dH l (hU,#[],#[.pointer (some a)]) (R:=fun v h'=>(∃i:Int,v=.int .i64 i∧(decide (i≥0)=ents.any fun y=>decide (y.object=e.2.1)))∧Sp h h' []) ?_).mono ?_
 ·unfold bY
  obtain⟨ys,q1,q2,q3⟩:=cL.yT hl
  have hll:=cL.len hl
  refine aE (fun i:Nat=>(i:Int)) (fun i h'=>i≤ents.length∧(ents.take i).any (fun y=>decide (y.object=e.2.1))=false∧Sp h h' []) (fun i=>ents.length-i) 0 rfl ⟨by omega,by simp,Sp.refl h⟩ ?_
  rintro i h1 ⟨hi,hall,H1⟩
  refine an (fun e1=>?_) (fun e1=>?_)
  ·have hi':i<ents.length:=by
    have e':(i:Int)<(l.len:Int):=e1
    omega
   obtain⟨⟨_,y2,_⟩,_⟩:=q3 i (by omega) hi'
   refine(Seq.up q1 H1.aq).qZ (g:=jc) i rfl (by omega) (ys[i]'(by omega)) rfl (om (by rfl) ?_)
   refine(pA (ys[i]'(by omega)) a (R:=fun v h'=>v=.bool (ents[i].object==e.2.1)∧Sp h1 h' []) ?_).mono ?_
   ·unfold mw
    refine(Sp.refl h1).boxed fun a2 h2 H2=>?_
    have hb2:=hb.aq (up H1.aq H2.aq) hb.lt
    exact⟨ents[i].object,by rw[←y2];exact(H2.box 0 rfl).cell rfl,e.2.1,hb2.cell rfl,rfl,.zip H2.aq⟩
   ·rintro _ h2 ⟨rfl,R2⟩
    have H2:=H1.up R2.aq
    refine⟨_,rfl,bn (fun e2=>?_) (fun e2=>?_)⟩
    ·refine⟨⟨i,rfl,?_⟩,H2⟩
     rw[decide_eq_true (show(i:Int)≥0 by omega)]
     exact(List.any_eq_true.2 ⟨_,List.getElem_mem hi',by simpa using e2⟩).symm
    ·refine⟨i+1,by rw[Go.Vc.wrap_small _ (by omega) (by omega)];rfl,⟨by omega,?_,H2⟩,by omega⟩
     rw[aF _ _ hi',List.any_append,hall];simpa using e2
  ·have e':¬(i:Int)<(l.len:Int):=e1
   refine⟨⟨-1,rfl,?_⟩,H1⟩
   rw[List.take_of_length_le (by omega)]at hall
   rw[hall];rfl
 ·rintro _ h1 ⟨⟨i,rfl,hi⟩,R1⟩
  exact⟨i,rfl,by rw[hi],R1⟩
theorem wE (x:cm) (m:bp) (h:Heap) (hx:jE h x m) (hz:jF m):ae Tryz.prog sR #[nR x] h fun v h'=>v=.bool (cM m)∧Sp h h' []:=by
 refine rM x ?_
 unfold oJ
 refine(Sp.refl h).boxed fun a1 h1 H1=>?_
 have hb:=H1.box 0 rfl
 have hp1:x.2.2.1=m.p.1:=congrArg (·.1) hx.p
 have hp2:x.2.2.2.1=m.p.2.1:=congrArg (·.2.1) hx.p
 have hp3:x.2.2.2.2.1=m.p.2.2:=congrArg (·.2.2) hx.p
 have no:∀{h':Heap} {As:List HP},Sp h h' As→cM m=false→Value.bool false=.bool (cM m)∧Sp h h' []:=fun{h' As} H' hb=>⟨by rw[hb],.zip H'.aq⟩
 refine aJ ⟨m.seq,by rw[←hx.seq];exact hb.cell0 rfl,(gA m.seq 1 2147483647 h1).mono ?_⟩
 rintro _ _ ⟨rfl,rfl⟩
 refine⟨_,rfl,bm (fun b=>no H1 (by unfold cM fK;rw[b];rfl)) fun b1=>?_⟩
 refine⟨m.next,by rw[←hx.next];exact hb.cell rfl,(gA m.next 0 16777216 _).mono ?_⟩
 rintro _ _ ⟨rfl,rfl⟩
 refine⟨_,rfl,bm (fun b=>no H1 (by unfold cM fK;rw[b1,b];rfl)) fun b2=>?_⟩
 refine⟨m.p,by rw[←hp1,←hp2,←hp3];exact hb.xm 2 rfl rfl rfl,(ja m.p _).mono ?_⟩
 rintro _ h2 ⟨rfl,R2⟩
 have H2:=H1.up R2.aq
 refine⟨_,rfl,bm (fun b=>no H2 (by unfold cM fK;rw[b1,b2,b];rfl)) fun b3=>?_⟩
 refine⟨m.extra,by rw[←hx.extra];exact(H2.box 0 rfl).cell rfl,(gA m.extra 0 16 _).mono ?_⟩
 rintro _ _ ⟨rfl,rfl⟩
 refine⟨_,rfl,bm (fun b=>no H2 (by unfold cM fK;rw[b1,b2,b3,b];rfl)) fun b4=>?_⟩
 have hh:fK m=true:=by unfold fK;rw[b1,b2,b3,b4];rfl
 have hx2:=hx.up H2.aq
 have hb2:=H2.box 0 rfl
 have hdl:=hz.dr
 have hol:=hz.ob
 refine aJ ⟨_,hb2.cell rfl,(vE _ m.drives 63 _ hx2.drives (by omega)).mono ?_⟩
 rintro _ _ ⟨rfl,rfl⟩
 refine⟨_,rfl,bm (fun b=>no H2 (by unfold cM;rw[hh,b];rfl)) fun b5=>?_⟩
 have hlen:=cL.len hx.objs
 refine⟨x.2.2.2.2.2.2.2,hb2.cell rfl,an (fun e=>no H2 ?_) fun e12=>?_⟩
 ·unfold cM;rw[hh,b5,decide_eq_false (by omega)];rfl
 have h12:m.objs.length≤12:=by omega
 refine⟨x.2.2.2.2.2.2.2,hb2.cell rfl,?_⟩
 obtain⟨ys,F0⟩:=cL.fix hx.objs
 have hyl:=F0.2.1
 refine aE (fun i:Nat=>(i:Int)) (fun i h'=>i≤m.objs.length∧(∀j,j<i→jy m j=true)∧Sp h h' [af a1 bJ (bG x)]) (fun i=>m.objs.length-i) 0 rfl ⟨by omega,by omega,H2⟩ ?_
 rintro i h3 ⟨hi,hall,H3⟩
 refine an (fun e=>?_) (fun e=>?_)
 ·have hi':i<m.objs.length:=by
   have e':(i:Int)<(x.2.2.2.2.2.2.2.len:Int):=e
   omega
  have hz1:=hz.nm _ (List.getElem_mem hi')
  have hat:gG m.objs i=m.objs[i]:=nG hi'
  have bad:∀{h':Heap} {As:List HP},Sp h h' As→jy m i=false→Value.bool false=.bool (cM m)∧Sp h h' []:=fun{h' As} H' hb=>no H' (by unfold cM;rw[mh hi' hb];simp)
  have F3:=lr.up F0 H3.aq
  refine F3.1.qZ (g:=jc) i rfl (by omega) (ys[i]'(by omega)) rfl ?_
  refine H3.alloc ag rfl fun a19 h4 H4=>?_
  refine H4.storeAll ag 1 rfl rfl (jc (ys[i]'(by omega))) rfl rfl rfl rfl fun h5 H5=>?_
  have H5:Sp h h5 [af a1 bJ (bG x),af a19 gI (jc (ys[i]'(by omega)))]:=H5
  have F5:=lr.up F0 H5.aq
  obtain⟨⟨y1,y2,y3⟩,y4⟩:=Fix.row F5 hi'
  obtain⟨b6,hb6⟩:∃b,b=(decide (i=0)||ow (gG m.objs (i-1)).name (gG m.objs i).name):=⟨_,rfl⟩
  refine bu (fun _ h'=>dR m m.objs[i]=true∧b6=true∧Sp h h' [af a1 bJ (bG x),af a19 gI (jc (ys[i]'(by omega)))]) ?_ ?_
  ·refine⟨x,(H5.box 0 rfl).bc _ rfl,ys[i]'(by omega),(H5.box 1 rfl).bc _ rfl,?_⟩
   refine(uB x m (ys[i]'(by omega)) m.objs[i] h5 (hx.up H5.aq) (Fix.row F5 hi') hh hz1.1 hz1.2).mono ?_
   rintro _ h6 ⟨rfl,R6⟩
   have H6:=H5.up R6.aq
   have F6:=lr.up F0 H6.aq
   refine⟨_,rfl,trivial,bm (fun b=>bad H6 (by unfold jy;rw[hat,b];rfl)) fun b=>an (fun e2=>?_) fun e2=>⟨b,by rw[hb6,decide_eq_true (show i=0 by omega)];rfl,H6⟩⟩
   rw[Go.Vc.wrap_small ((i:Int)-1) (by omega) (by omega)]
   obtain⟨a24,ha,zz,hc,rfl⟩:=F6.1.qZ (g:=jc) (i:=(i:Int)-1) (i-1) (by omega) (by omega) (ys[i-1]'(by omega)) rfl (K:=fun t=>t=ys[i-1]'(by omega)) rfl
   refine⟨x.2.2.2.2.2.2.2,(H6.box 0 rfl).cell rfl,a24,ha,m.objs[i-1].name,?_,m.objs[i].name,?_,?_⟩
   ·rw[←(Fix.row F6 (show i-1<m.objs.length by omega)).1.1];exact hc.1
   ·rw[←y1];exact(H6.box 1 rfl).cell0 rfl
   ·have hat1:gG m.objs (i-1)=m.objs[i-1]:=nG (by omega)
    rw[hat,hat1]at hb6
    refine bm (fun e3=>bad H6 ?_) (fun e3=>⟨b,?_,H6⟩)
    ·unfold jy
     rw[hat,hat1,b,decide_eq_false (show¬i=0 by omega)]
     unfold ow;rw[e3];rfl
    ·rw[hb6];unfold ow;rw[e3];simp
  ·rintro _ h6 ⟨b,b6t,H6⟩
   have F6:=lr.up F0 H6.aq
   refine⟨x.2.2.2.2.2.2.2,(H6.box 0 rfl).cell rfl,⟨by omega,by have:=hx.ocap;omega⟩,?_⟩
   rw[Int.toNat_natCast]
   refine(sX a19 (ys[i]'(by omega)) ⟨x.2.2.2.2.2.2.2.ptr,i,x.2.2.2.2.2.2.2.cap⟩ (m.objs.take i) h6 (H6.box 1 rfl) (cL.take F6.zR i (by omega)) (by simp;omega)).mono ?_
   rintro _ h7 ⟨rfl,R7⟩
   have H7:=H6.up R7.aq
   rw[y2]
   refine⟨_,rfl,bV (fun e3=>bad H7 ?_) fun e3=>?_⟩
   ·unfold jy;rw[hat,e3];simp
   ·refine⟨i+1,by rw[Go.Vc.wrap_small _ (by omega) (by omega)];rfl,⟨by omega,fun j hj=>?_,H7.de [0]⟩,by omega⟩
    by_cases hji:j=i
    ·subst hji
     rw[b6t]at hb6
     unfold jy;rw[←hb6,hat,b,e3];rfl
    ·exact hall j (by omega)
 ·have e':¬(i:Int)<(x.2.2.2.2.2.2.2.len:Int):=e
  refine⟨?_,.zip H3.aq⟩
  unfold cM
  rw[hh,b5,decide_eq_true h12,lu fun j hj=>hall j (by omega)];rfl
end Go.Qw
namespace Go.Qw
open Go Go.Vc Go.Proofs Wl
set_option maxRecDepth 100000
section
variable {B:aj} {h0 h:Heap} {As:List HP}
theorem gJ (s:Sl) (l:List UInt8) (n:Int) (k:Nat) (hk:k≤4) (hl:l.length≤2^20) (H:ab B h0 h (aw ay s 1 aB l::As)):
  ae Tryz.prog pv #[.slice s.ptr s.len s.cap,.int .i64 n,.int .i64 k] h fun v h'=>∃s':Sl,v=.slice s'.ptr s'.len s'.cap∧ab B h0 h' (aw ay s' 1 aB (l++ct n k)::As):=by
 refine oM s n k ?_
 unfold lC
 have hbl:=cl n k
 refine aE (fun t:Sl×Nat=>(t.1,(k:Int)-1-t.2)) (fun t h'=>t.2≤k∧ab B h0 h' (aw ay t.1 1 aB (l++(ct n k).take t.2)::As)) (fun t=>k-t.2) (s,0) (by rw[Go.Vc.wrap_small _ (by omega) (by omega)];simp) ⟨by simp,by simpa using H⟩ ?_
 rintro⟨o,j⟩ h1 ⟨hj,H1⟩
 dsimp only at*
 refine an (fun e=>?_) (fun e=>?_)
 ·have hj':j<k:=by omega
  rw[Go.Vc.wrap_small ((8:Int)*((k:Int)-1-j)) (by omega) (by omega)]
  refine⟨by omega,?_⟩
  have e8:((8:Int)*((k:Int)-1-j)).toNat=8*(k-1-j):=by omega
  have e9:min (8*(k-1-j)) (IntKind.bits .i64)=8*(k-1-j):=by
   have:IntKind.bits .i64=64:=rfl
   omega
  rw[e8,e9,bD]
  have hg:b8 (Int.fdiv n (2^(8*(k-1-j))))=(ct n k)[j]'(by omega):=by simp[ct]
  rw[hg]
  refine H1.push ag 0 rfl fW rfl (by decide) (fun _=>rfl) dP ((ct n k)[j]'(by omega)) rfl (by decide) (by simp;omega) fun o' h2 H2=>?_
  refine⟨(o',j+1),by dsimp only;rw[Go.Vc.wrap_small _ (by omega) (by omega)];congr 1;omega,⟨by dsimp only;omega,?_⟩,by dsimp only;omega⟩
  dsimp only
  rw[aF _ _ (show j<(ct n k).length by omega),←List.append_assoc]
  exact H2
 ·rw[List.take_of_length_le (by omega)]at H1
  exact⟨o,rfl,H1⟩
theorem oT (src:Sl) (l:List Int) (o:Sl) (acc:List UInt8) (H:ab B h0 h (aw ay o 1 aB acc::As)) (hS:St B h0 As fun h=>Rd h src 1 aA l) (ha:acc.length≤2^30) (hl:l.length≤2^30) {K:Sl×Int→Heap→Prop}
  (hk:∀o' h',ab B h0 h' (aw ay o' 1 aB (acc++l.map b8)::As)→K (o',(l.length:Int)) h'):
  aS (σ:=Sl×Int) (fun s17 K2 h8=>
 Br (decide (s17.2<((src.len:Nat):Int)))
 (∃a18:Addr,(src.ptr=some a18∧0≤s17.2∧s17.2<((src.len:Nat):Int))∧
 ∃x19:Int,cellOf h8 (a18.add (s17.2.toNat*1))=some (.int .i64 x19)∧
 au Tryz.prog (Instr.buildSlice bQ 1 #[(0,(.int .u8 (IntKind.wrap .u8 x19)))]) (.one (.sc .slc)) h8 fun v20 h9=>
 au Tryz.prog (Builtin.append_ #[bQ,bQ] bQ #[(.slice s17.1.ptr s17.1.len s17.1.cap),(.slice v20.ptr v20.len v20.cap)]) (.one (.sc .slc)) h9 fun v21 h10=>
 K2 ((⟨v21.ptr,v21.len,v21.cap⟩:Sl),IntKind.wrap .i64 (s17.2+(1:Int))) h10)
 (K s17 h8)) (o,(0:Int)) h:=by
 have hsl:src.len=l.length:=(hS.at [_] H).len
 refine aE (fun t:Sl×Nat=>(t.1,(t.2:Int))) (fun t h'=>t.2≤l.length∧ab B h0 h' (aw ay t.1 1 aB (acc++(l.take t.2).map b8)::As)) (fun t=>l.length-t.2) (o,0) rfl ⟨by simp,by simpa using H⟩ ?_
 rintro⟨u,i⟩ h1 ⟨hi,H1⟩
 dsimp only at*
 refine an (fun e=>?_) (fun e=>?_)
 ·have hi':i<l.length:=by omega
  refine(hS.at [_] H1).bd i rfl hi' l[i] rfl ?_
  rw[bD]
  refine H1.push ag 0 rfl fW rfl (by decide) (fun _=>rfl) dP (b8 l[i]) rfl (by decide) (by simp;omega) fun u' h2 H2=>?_
  refine⟨(u',i+1),by dsimp only;rw[Go.Vc.wrap_small _ (by omega) (by omega)];rfl,⟨by dsimp only;omega,?_⟩,by dsimp only;omega⟩
  dsimp only
  rw[aF _ _ hi',List.map_append,←List.append_assoc]
  exact H2
 ·have hie:i=l.length:=by omega
  subst hie
  rw[List.take_length]at H1
  exact hk u h1 H1
end
theorem xP {m:bp} (hm:cM m=true) {i:Nat} (hi:i<m.objs.length):dR m m.objs[i]=true:=by
 unfold cM at hm
 simp only[Bool.and_eq_true]at hm
 have:=List.all_eq_true.1 hm.2.2.2 i (List.mem_range.2 hi)
 unfold jy at this
 simp only[Bool.and_eq_true]at this
 have h1:=this.1
 rwa [nG hi]at h1
theorem vF {m:bp} (hm:cM m=true) {i:Nat} (hi:i<m.objs.length):m.objs[i].name.size≤12∧m.objs[i].tries.length≤3073:=by
 have h1:=xP hm hi
 unfold dR kT at h1
 simp only[Bool.and_eq_true,decide_eq_true_eq]at h1
 obtain⟨⟨_,_,h2⟩,_,h3,_,h4⟩:=h1
 refine⟨h2,?_⟩
 obtain⟨_,_,hmay,_⟩:=rA (vk hm)
 have hmp:=(nD m.p).1 hmay
 unfold bX at h3
 simp only[Bool.and_eq_true,decide_eq_true_eq]at h3
 have hk:m.p.1*m.p.2.2≤16*24:=Int.mul_le_mul (by omega) (by omega) (by omega) (by omega)
 unfold countP at h4
 split at h4
 ·have:(m.objs[i].length-1)/(m.p.1*m.p.2.2)≤m.objs[i].length-1:=Int.ediv_le_self _ (by rename_i hc;simp at hc;omega)
  omega
 ·omega
theorem vG {m:bp} (hm:cM m=true) {i:Nat} (hi:i<m.objs.length):(dY m.objs[i]).length≤4000:=by
 have:=vF hm hi
 unfold dY
 simp[cl]
 have:m.objs[i].name.data.size=m.objs[i].name.size:=rfl
 omega
theorem mA {m:bp} (hm:cM m=true):∀n,n≤m.objs.length→((m.objs.take n).flatMap dY).length≤n*4000
 |0,_=>by simp
 |n+1,hn=>by
  rw[aF _ _ (show n<m.objs.length by omega),List.flatMap_append,List.length_append]
  have h1:=mA hm n (by omega)
  have h2:=vG hm (show n<m.objs.length by omega)
  have h3:([m.objs[n]].flatMap dY).length=(dY m.objs[n]).length:=by rw[List.flatMap_cons,List.flatMap_nil,List.append_nil]
  omega
theorem nS {m:bp} (hm:cM m=true):m.objs.length≤12:=by
 unfold cM at hm
 simp only[Bool.and_eq_true,decide_eq_true_eq]at hm
 exact hm.2.2.1
theorem nT (m:bp) (hz:jF m):(fL m).length≤100000:=by
 unfold fL
 split
 ·rename_i hm
  have h1:=hm
  unfold cM at h1
  simp only[Bool.and_eq_true,decide_eq_true_eq]at h1
  have hd:m.drives.length≤64:=by
   have h2:=h1.2.1
   unfold mQ at h2
   rw[List.all_eq_true]at h2
   by_cases hn:m.drives.length≤64
   ·exact hn
   ·exfalso
    have key:∀i,i<m.drives.length→(i:Int)≤m.drives.getD i 0:=fun i=>by
     induction i with
     |zero=>
      intro hi
      have:=h2 0 (List.mem_range.2 hi)
      unfold dQ bX at this
      simp at this;simpa using this.1
     |succ i ih=>
      intro hi
      have:=h2 (i+1) (List.mem_range.2 hi)
      have h3:=ih (by omega)
      unfold dQ bX at this
      simp at this
      have h4:=this.2
      simp only[List.getD_eq_getElem?_getD]at h3⊢
      omega
    have h3:=key 64 (by omega)
    have h4:=h2 64 (List.mem_range.2 (by omega))
    unfold dQ bX at h4
    simp at h4
    simp only[List.getD_eq_getElem?_getD]at h3
    omega
  have ho:(m.objs.flatMap dY).length≤12*4000:=by
   have h2:=mA hm m.objs.length (Nat.le_refl _)
   rw[List.take_length]at h2
   have:=Nat.mul_le_mul_right 4000 (nS hm)
   omega
  simp only[List.length_append,List.length_cons,List.length_nil,List.length_map,cl]
  omega
 ·simp
theorem vH (x:cm) (m:bp) (h:Heap) (hx:jE h x m) (hz:jF m):ae Tryz.prog rJ #[nR x] h fun v h'=>∃r:Sl,v=.slice r.ptr r.len r.cap∧Sp h h' [aw ay r 1 aB (fL m)]:=by
 refine qy x ?_
 unfold np
 refine(Sp.refl h).boxed fun a1 h1 H1=>?_
 refine⟨x,(H1.box 0 rfl).bc _ rfl,(wE x m h1 (hx.up H1.aq) hz).mono ?_⟩
 rintro _ h2 ⟨rfl,R2⟩
 have H2:=H1.up R2.aq
 refine⟨_,rfl,bm (fun e=>?_) fun hm=>?_⟩
 ·unfold fL;rw[e];exact⟨⟨none,0,0⟩,rfl,((H2.nil ay 1 aB).de [1])⟩
 have hp1:x.2.2.1=m.p.1:=congrArg (·.1) hx.p
 have hp2:x.2.2.2.1=m.p.2.1:=congrArg (·.2.1) hx.p
 have hp3:x.2.2.2.2.1=m.p.2.2:=congrArg (·.2.2) hx.p
 have hb2:=H2.box 0 rfl
 have hplen:=nT m hz
 unfold fL at hplen
 rw[hm,if_pos rfl]at hplen
 have hM:∀{h':Heap} {As:List HP},Sp h h' As→jE h' x m:=fun{h' As} H'=>hx.up H'.aq
 refine aJ ⟨m.seq,by rw[←hx.seq];exact hb2.cell0 rfl,m.next,by rw[←hx.next];exact hb2.cell rfl,?_⟩
 have H3:=(H2.nil ay 1 aB).cz
 refine(gJ ⟨none,0,0⟩ [] m.seq 4 (by decide) (by simp) H3).mono ?_
 rintro _ h4 ⟨s4,rfl,H4⟩
 refine⟨s4,rfl,⟨by rw[←hx.next];exact(H4.box 1 rfl).cell rfl,trivial⟩,?_⟩
 refine(gJ s4 _ m.next 4 (by decide) (by simp[cl]) H4).mono ?_
 rintro _ h5 ⟨s5,rfl,H5⟩
 refine⟨s5,rfl,trivial,?_⟩
 have hb5:=H5.box 1 rfl
 refine⟨m.p.1,by rw[←hp1];exact hb5.cell rfl,m.p.2.1,by rw[←hp2];exact hb5.rS 2 1 rfl,m.p.2.2,by rw[←hp3];exact hb5.rS 2 2 rfl,m.extra,by rw[←hx.extra];exact hb5.cell rfl,x.2.2.2.2.2.2.1,hb5.cell rfl,?_⟩
 have hdl:=hx.drives.len
 have hol:=cL.len hx.objs
 rw[bD,bD,bD,bD,bD,hdl]
 refine H5.lit ag aB fW rfl [b8 m.p.1,b8 m.p.2.1,b8 m.p.2.2,b8 m.extra,b8 (m.drives.length:Nat)] rfl (show 5*1≤2^20 by decide) rfl fun v14 h6 H6=>?_
 refine H6.append ag 0 rfl fW ⟨_,_,rfl,rfl⟩ rfl (by decide) (fun _=>rfl) (H6.seq 2 rfl fun _=>rfl) dP (by simp[cl]) fun s7 h7 H7=>?_
 have H7:=H7.de [0,1]
 refine⟨x.2.2.2.2.2.2.1,(H7.box 1 rfl).cell rfl,?_⟩
 have hacc:(([]++ct m.seq 4)++ct m.next 4++[b8 m.p.1,b8 m.p.2.1,b8 m.p.2.2,b8 m.extra,b8 (m.drives.length:Nat)]).length=13:=by simp[cl]
 have hdr:=hz.dr
 refine oT x.2.2.2.2.2.2.1 m.drives s7 _ H7 (St.mk' fun h' H'=>(hM H').drives) (by omega) (by omega) fun s8 h8 H8=>?_
 dsimp only
 refine⟨x.2.2.2.2.2.2.2,(H8.box 1 rfl).cell rfl,?_⟩
 rw[bD,hol]
 obtain⟨acc,hacc2⟩:∃acc,acc=([]++ct m.seq 4)++ct m.next 4++[b8 m.p.1,b8 m.p.2.1,b8 m.p.2.2,b8 m.extra,b8 (m.drives.length:Nat)]++m.drives.map b8:=⟨_,rfl⟩
 rw[←hacc2]at H8
 have hal:acc.length=13+m.drives.length:=by rw[hacc2];simp[cl];omega
 simp only[List.length_append,List.length_cons,List.length_nil,List.length_map,cl]at hplen
 refine H8.push ag 0 rfl fW rfl (by decide) (fun _=>rfl) dP (b8 (m.objs.length:Nat)) rfl (by decide) (by omega) fun s9 h9 H9=>?_
 have H9:Sp h h9 [aw ay s9 1 aB (acc++[b8 (m.objs.length:Nat)]),af a1 bJ (bG x)]:=H9
 refine⟨x.2.2.2.2.2.2.2,(H9.box 1 rfl).cell rfl,?_⟩
 obtain⟨ys,F0⟩:=cL.fix hx.objs
 have hyl:=F0.2.1
 refine aE (fun t:Sl×Nat=>(t.1,(t.2:Int))) (fun t h'=>t.2≤m.objs.length∧Sp h h' [aw ay t.1 1 aB (acc++[b8 (m.objs.length:Nat)]++(m.objs.take t.2).flatMap dY),af a1 bJ (bG x)]) (fun t=>m.objs.length-t.2) (s9,0) rfl ⟨by simp,by simpa using H9⟩ ?_
 rintro⟨o,i⟩ h10 ⟨hi,H10⟩
 dsimp only at*
 refine an (fun e=>?_) (fun e=>?_)
 ·have hi':i<m.objs.length:=by omega
  have F10:=lr.up F0 H10.aq
  have hes:=vF hm hi'
  have hsofar:((m.objs.take i).flatMap dY).length≤50000:=by
   have h1:=mA hm i hi
   have:=nS hm
   have:i*4000≤12*4000:=Nat.mul_le_mul_right _ (by omega)
   omega
  refine F10.1.qZ (g:=jc) i rfl (by omega) (ys[i]'(by omega)) rfl ?_
  refine H10.alloc ag rfl fun a29 h11 H11=>?_
  refine H11.storeAll ag 2 rfl rfl (jc (ys[i]'(by omega))) rfl rfl rfl rfl fun h12 H12=>?_
  have F12:=lr.up F0 H12.aq
  obtain⟨⟨y1,y2,y3⟩,y4⟩:=Fix.row F12 hi'
  obtain⟨E,hE⟩:∃E,E=m.objs[i]:=⟨_,rfl⟩
  rw[←hE]at y1 y2 y3 y4 hes
  have b12:=H12.box 2 rfl
  refine aJ ⟨E.name,by rw[←y1];exact b12.cell0 rfl,E.name,by rw[←y1];exact b12.cell0 rfl,?_⟩
  rw[bD]
  refine H12.pi ag aB fW rfl [b8 (E.name.size:Nat)] rfl (show 1*1≤2^20 by decide) rfl ⟨by rw[←y1];exact b12.cell0 rfl,by rw[←y1];exact b12.cell0 rfl,trivial⟩ ?_
  have hcur:(acc++[b8 (m.objs.length:Nat)]++(m.objs.take i).flatMap dY).length≤160000:=by rw[List.length_append,List.length_append,hal];simp;simp at hsofar;omega
  obtain⟨cur,hcr⟩:∃cur,cur=acc++[b8 (m.objs.length:Nat)]++(m.objs.take i).flatMap dY:=⟨_,rfl⟩
  rw[←hcr]at H12 hcur
  refine H12.push ag 0 rfl fW rfl (by decide) (fun _=>rfl) dP (b8 (E.name.size:Nat)) rfl (by decide) (by omega) fun s13 h13 H13=>?_
  have b13:=H13.box 2 rfl
  refine⟨⟨by rw[←y1];exact b13.cell0 rfl,by rw[←y1];exact b13.cell0 rfl,trivial⟩,?_⟩
  refine H13.pU ag 0 rfl fW ⟨_,rfl,rfl⟩ rfl (by decide) E.name (by simp;omega) fun s14 h14 H14=>?_
  have b14:=H14.box 2 rfl
  refine⟨⟨by rw[←y1];exact b14.cell0 rfl,trivial⟩,?_⟩
  have H14:Sp h h14 [aw ay s14 1 aB (cur++[b8 (E.name.size:Nat)]++cw E.name),af a1 bJ (bG x),af a29 gI (jc (ys[i]'(by omega)))]:=H14
  refine aJ ⟨E.object,by rw[←y2];exact b14.cell rfl,E.length,by rw[←y3];exact b14.cell rfl,?_⟩
  have hsb:=kS E.name
  refine(gJ s14 _ E.object 3 (by decide) (by simp;omega) H14).mono ?_
  rintro _ h15 ⟨s15,rfl,H15⟩
  have b15:=H15.box 2 rfl
  refine⟨s15,rfl,⟨by rw[←y3];exact b15.cell rfl,trivial⟩,?_⟩
  refine(gJ s15 _ E.length 2 (by decide) (by simp[cl];omega) H15).mono ?_
  rintro _ h16 ⟨s16,rfl,jf⟩
  have b16:=jf.box 2 rfl
  refine⟨s16,rfl,trivial,(ys[i]'(by omega)).2.2.2,b16.cell rfl,?_⟩
  refine oT (ys[i]'(by omega)).2.2.2 E.tries s16 _ jf (St.mk' fun h' H'=>by rw[hE];exact(Fix.row (lr.up F0 H'.aq) hi').2) (by simp[cl];omega) (by omega) fun s17 h17 H17=>?_
  dsimp only
  have h12:=nS hm
  refine⟨(s17,i+1),by dsimp only;rw[Go.Vc.wrap_small _ (by omega) (by omega)];rfl,⟨by dsimp only;omega,?_⟩,by dsimp only;omega⟩
  dsimp only
  rw[aF _ _ hi',List.flatMap_append,←List.append_assoc,←hcr,List.flatMap_cons,List.flatMap_nil,List.append_nil,←hE]
  have e3:cur++[b8 (E.name.size:Nat)]++cw E.name++ct E.object 3++ct E.length 2++E.tries.map b8=cur++dY E:=by
   unfold dY cw;simp[List.append_assoc]
  rw[e3]at H17
  exact H17.de [0,1]
 ·rw[List.take_of_length_le (by omega)]at H10
  refine⟨o,rfl,?_⟩
  have e2:acc++[b8 (m.objs.length:Nat)]++m.objs.flatMap dY=fL m:=by
   rw[hacc2];unfold fL;rw[hm,if_pos rfl];simp[List.append_assoc]
  rw[e2]at H10
  exact H10.de [0]
end Go.Qw
namespace Go.Vc
open Go Wl
section
variable {α:Type} {B:aj} {h0 h:Heap} {As:List HP} {k:Nat} {f:α→List Value} {L:List (Sl×List α)} {s:Sl} {l:List α}
end
end Go.Vc
namespace Go.Qw
open Go Go.Vc Go.Proofs Wl
set_option maxRecDepth 100000
theorem yq (n:Int):ct n 4=[b8 (Int.fdiv n (2^24)),b8 (Int.fdiv n (2^16)),b8 (Int.fdiv n (2^8)),b8 n]:=by
 have e:Int.fdiv n (2^0)=n:=by simp
 show[b8 (Int.fdiv n (2^24)),b8 (Int.fdiv n (2^16)),b8 (Int.fdiv n (2^8)),b8 (Int.fdiv n (2^0))]=_
 rw[e]
theorem vI (seq number many:Int) (b:Sl) (l:List UInt8) (h:Heap) (hb:Rd h b 1 aB l) (hl:l.length≤2^20):ae Tryz.prog sP #[.int .i64 seq,.int .i64 number,.int .i64 many,.slice b.ptr b.len b.cap] h fun v h'=>∃r:Sl,v=.slice r.ptr r.len r.cap∧Sp h h' [aw ay r 1 aB (kn seq number many l)]:=by
 refine rK seq number many b ?_
 unfold oG
 refine⟨by decide,by decide,by decide,?_⟩
 have e24:min (24:Int).toNat (IntKind.bits .i64)=24:=rfl
 have e16:min (16:Int).toNat (IntKind.bits .i64)=16:=rfl
 have e8:min (8:Int).toNat (IntKind.bits .i64)=8:=rfl
 rw[e24,e16,e8,bD,bD,bD,bD,bD,bD,bD]
 have hh4:=yq seq
 generalize b8 (Int.fdiv seq (2^24))=c1 at hh4⊢
 generalize b8 (Int.fdiv seq (2^16))=c2 at hh4⊢
 generalize b8 (Int.fdiv seq (2^8))=c3 at hh4⊢
 generalize b8 seq=c4 at hh4⊢
 have hpp:kn seq number many l=eK 2 ([c1,c2,c3,c4]++([b8 number,b8 many,b8 (b.len:Nat)]++l)):=by unfold kn;rw[hh4,hb.len]
 generalize b8 number=c5 at hpp⊢
 generalize b8 many=c6 at hpp⊢
 generalize b8 (b.len:Nat)=c7 at hpp⊢
 refine(Sp.refl h).lit ag aB fW rfl [c1,c2,c3,c4,c5,c6,c7] rfl (show 7*1≤2^20 by decide) (by kernel_rfl) fun v1 h1 H1=>?_
 refine H1.append ag 0 rfl fW ⟨_,_,rfl,rfl⟩ rfl (by decide) (fun _=>rfl) (Seq.up hb H1.aq) dP (by simp;omega) fun v2 h2 H2=>?_
 have hq:Rd h2 v2 1 aB ([c1,c2,c3,c4,c5,c6,c7]++l):=H2.seq 0 rfl fun _=>rfl
 have hql:([c1,c2,c3,c4,c5,c6,c7]++l).length≤2^40:=by simp;omega
 rw[hpp]
 have hee:[c1,c2,c3,c4,c5,c6,c7]++l=[c1,c2,c3,c4]++([c5,c6,c7]++l):=rfl
 rw[←hee]
 generalize [c1,c2,c3,c4,c5,c6,c7]++l=ll at hq hql⊢
 refine(vB 2 v2 ll h2 hq hql).mono ?_
 rintro _ h3 ⟨r,rfl,R3⟩
 exact⟨r,rfl,r,rfl,(ab.comp (Sp.zip H2.aq) R3)⟩
theorem oU (x:cm) (m:bp) (h:Heap) (hx:jE h x m) (hz:jF m):ae Tryz.prog qv #[nR x] h fun v h'=>∃r:Sl,v=.slice r.ptr r.len r.cap∧Sp h h' [dJ r (cA m)]:=by
 refine pq x ?_
 unfold mq
 refine(Sp.refl h).boxed fun a1 h1 H1=>?_
 refine⟨x,(H1.box 0 rfl).bc _ rfl,(vH x m h1 (hx.up H1.aq) hz).mono ?_⟩
 rintro _ h2 ⟨b,rfl,R2⟩
 have H2:=H1.comp R2
 have hpl:=nT m hz
 obtain⟨l,hl⟩:∃l,l=fL m:=⟨_,rfl⟩
 rw[←hl]at H2 hpl
 have hbl:=(H2.own 1 rfl).len
 have hbc:=(H2.own 1 rfl).cap
 refine⟨b,rfl,by decide,?_⟩
 have hmany:IntKind.wrap .i64 (Int.tdiv (IntKind.wrap .i64 ((IntKind.wrap .i64 (((b.len:Nat):Int)+(48:Int)))-(1:Int))) (48:Int))=(dZ l:Int):=by
  rw[Go.Vc.wrap_small ((b.len:Int)+48) (by omega) (by omega),Go.Vc.wrap_small ((b.len:Int)+48-1) (by omega) (by omega),Int.tdiv_eq_ediv_of_nonneg (by omega)]
  unfold dZ
  rw[Go.Vc.wrap_small (((b.len:Int)+48-1)/48) (by omega) (by omega)]
  omega
 have hmn:dZ l≤3000:=by unfold dZ;omega
 rw[hmany]
 obtain⟨pg,hpg⟩:∃pg:List (List UInt8),pg=cA m:=⟨_,rfl⟩
 have hpgl:pg.length=dZ l:=by rw[hpg,hl];simp[cA]
 have H3:Sp h h2 [dJ ⟨none,0,0⟩ (pg.take 0),af a1 bJ (bG x),aw ay b 1 aB l]:=H2.uh bQ ay 1 aB
 refine aE (fun t:Sl×Nat=>(t.1,(t.2:Int))) (fun t h'=>t.2≤dZ l∧Sp h h' [dJ t.1 (pg.take t.2),af a1 bJ (bG x),aw ay b 1 aB l]) (fun t=>dZ l-t.2) (⟨none,0,0⟩,0) rfl ⟨by simp,H3⟩ ?_
 rintro⟨o,i⟩ h3 ⟨hi,H3⟩
 dsimp only at*
 refine an (fun e=>?_) (fun e=>?_)
 ·have hi':i<dZ l:=by omega
  have hi48:48*i<l.length:=by unfold dZ at hi';omega
  rw[Go.Vc.wrap_small ((i:Int)*48) (by omega) (by omega),Go.Vc.wrap_small ((i:Int)+1) (by omega) (by omega),Go.Vc.wrap_small (((i:Int)+1)*48) (by omega) (by omega)]
  obtain⟨en,hen⟩:∃en:Nat,en=min (48*i+48) l.length:=⟨_,rfl⟩
  have hif:(if((i:Int)+1)*48<((b.len:Nat):Int)then((i:Int)+1)*48 else((b.len:Nat):Int))=(en:Int):=by
   split<;>omega
  rw[hif]
  refine⟨m.seq,by rw[←hx.seq];exact(H3.box 1 rfl).cell0 rfl,⟨by omega,by omega,by omega⟩,?_⟩
  have e1:((i:Int)*48).toNat=48*i:=by omega
  rw[e1,Int.toNat_natCast]
  have hd:=((H3.seq 2 rfl fun _=>rfl).drop (48*i) hbc).take (en-48*i) (by rw[List.length_drop];omega)
  have e2:(l.drop (48*i)).take (en-48*i)=(l.drop (48*i)).take 48:=by
   by_cases hh:48*i+48≤l.length
   ·rw[show en-48*i=48 by omega]
   ·rw[List.take_of_length_le (by rw[List.length_drop];omega),List.take_of_length_le (by rw[List.length_drop];omega)]
  rw[e2,Nat.mul_one]at hd
  refine(vI m.seq i (dZ l) ⟨_,en-48*i,b.cap-48*i⟩ _ h3 (by rw[Nat.mul_one];exact hd) (by simp;omega)).mono ?_
  rintro _ h4 ⟨r,rfl,R4⟩
  have H4:=(H3.im R4).bL 4 [1,0,2,3]
  refine⟨r,rfl,trivial,?_⟩
  refine H4.pi ag fI qJ rfl [r] rfl (show 1*1≤2^20 by decide) rfl trivial ?_
  refine H4.xc ag qJ (by simp;omega) fun o' h5 H5=>⟨trivial,?_⟩
  refine⟨(o',i+1),rfl,⟨by dsimp only;omega,?_⟩,by dsimp only;omega⟩
  dsimp only
  rw[aF _ _ (show i<pg.length by omega)]
  have e3:pg[i]'(by omega)=kn m.seq i (dZ l) ((l.drop (48*i)).take 48):=by
   subst hpg;subst hl;simp[cA]
  rw[e3]
  exact H5
 ·rw[List.take_of_length_le (by omega),hpg]at H3
  exact⟨o,rfl,H3.de [0]⟩
end Go.Qw
namespace Go.Vc
open Go Wl Go.Qw
section
variable {B:aj} {h0 h h':Heap} {As L:List HP} {X Y Z:HP}
theorem ab.zc (H:ab B h0 h (X::Y::(L++As))):ab B h0 h (L++(X::Y::As)):=
 H.pick (fun i=>if i<L.length then i+2 else if i=L.length then 0 else if i=L.length+1 then 1 else i) (fun a b hab=>by(try dsimp only at hab);split at hab<;>split at hab<;>(try split at hab)<;>(try split at hab)<;>(try split at hab)<;>(try split at hab)<;>omega) fun i A hi=>by
  try dsimp only
  by_cases hl:i<L.length
  ·rw[List.getElem?_append_left hl]at hi
   rw[if_pos hl,List.getElem?_cons_succ,List.getElem?_cons_succ,List.getElem?_append_left hl];exact hi
  ·rw[List.getElem?_append_right (by omega)]at hi
   rw[if_neg hl]
   by_cases h0':i=L.length
   ·subst h0';rw[if_pos rfl];rw[Nat.sub_self]at hi;exact hi
   ·rw[if_neg h0']
    by_cases h1':i=L.length+1
    ·subst h1';rw[if_pos rfl];rw[show L.length+1-L.length=1 by omega]at hi;exact hi
    ·rw[if_neg h1']
     obtain⟨j,rfl⟩:∃j,i=L.length+(j+2):=⟨i-L.length-2,by omega⟩
     rw[Nat.add_sub_cancel_left,List.getElem?_cons_succ,List.getElem?_cons_succ]at hi
     rw[show L.length+(j+2)=(L.length+j)+1+1 by omega,List.getElem?_cons_succ,List.getElem?_cons_succ,List.getElem?_append_right (by omega),Nat.add_sub_cancel_left];exact hi
theorem ab.xQ (n:Nat) (hn:L[n]?=some X) (H:ab B h0 h (Y::Z::(L++As))):ab B h0 h (X::Z::Y::(L.set n emp++As)):=by
 have hlt:=(List.getElem?_eq_some_iff.1 hn).1
 have H1:=H.cons (n+2) (A:=X) (by rw[List.getElem?_cons_succ,List.getElem?_cons_succ,List.getElem?_append_left hlt];exact hn)
 have e:(Y::Z::(L++As)).set (n+2) emp=Y::Z::(L.set n emp++As):=by
  rw[List.set_cons_succ,List.set_cons_succ,List.set_append_left _ _ hlt]
 rw[e]at H1
 exact H1.bL 3 [0,2,1]
theorem ab.tJ (n:Nat) (hn:n<L.length) (H:ab B h0 h (X::Z::Y::(L.set n emp++As))):ab B h0 h (Y::Z::(L.set n X++As)):=
 H.pick (fun i=>if i=0 then 2 else if i=1 then 1 else if i=n+2 then 0 else i+1) (fun a b hab=>by(try dsimp only at hab);split at hab<;>split at hab<;>(try split at hab)<;>(try split at hab)<;>(try split at hab)<;>(try split at hab)<;>omega) fun i A hi=>by
  try dsimp only
  match i,hi with
  |0,hi=>exact hi
  |1,hi=>exact hi
  |i+2,hi=>
   rw[if_neg (by omega),if_neg (by omega)]
   rw[List.getElem?_cons_succ,List.getElem?_cons_succ]at hi
   by_cases hin:i=n
   ·subst hin
    rw[List.getElem?_append_left (by simpa using hn),List.getElem?_set_self hn]at hi
    rw[if_pos rfl];exact hi
   ·rw[if_neg (by omega),List.getElem?_cons_succ,List.getElem?_cons_succ,List.getElem?_cons_succ]
    by_cases hl:i<L.length
    ·rw[List.getElem?_append_left (by simpa using hl),List.getElem?_set_ne (by omega)]at hi
     rw[List.getElem?_append_left (by simpa using hl),List.getElem?_set_ne (by omega)];exact hi
    ·rw[List.getElem?_append_right (by simp;omega),List.length_set]at hi
     rw[List.getElem?_append_right (by simp;omega),List.length_set];exact hi
end
structure Kit where
 tS:Nat
 tP:Nat
 tD:Nat
 f:Addr→bt→Sl→Sl→List Value
def yr (k:Kit) (pw:Addr) (a:Option Addr) (d:Option bt):HP:=match a,d with
 |some a,some d=>dK k.tD (k.f pw) a d
 |_,_=>emp
abbrev bj (mc:List Value) (pw:Addr) (offs:Int) (da:List (Option Addr)):List Value:=mc++(.pointer (some pw)::.int .i64 offs::da.map .pointer)
structure bZ (mc:List Value) (da:List (Option Addr)) (ds:be):Prop where
 l8:mc.length=8
 la:da.length=64
 ls:ds.length=64
 same:∀i:Nat,(da.getD i none).isSome=(ds.getD i none).isSome
abbrev cF (k:Kit) (pw:Addr) (da:List (Option Addr)) (ds:be):List HP:=List.zipWith (yr k pw) da ds
def aX (k:Kit) (a pw:Addr) (mc:List Value) (offs:Int) (da:List (Option Addr)) (w:Pow) (ds:be):HP:=
 (HP.all (af a k.tS (bj mc pw offs da)::bB k.tP pw w::cF k pw da ds)).and (bZ mc da ds)
section
variable {k:Kit} {B:aj} {h0 h h':Heap} {As:List HP} {a pw:Addr} {mc:List Value} {offs:Int} {da:List (Option Addr)} {w w':Pow} {ds:be} {d d':bt} {n:Nat}
theorem rT (ok:bZ mc da ds):(cF k pw da ds).length=64:=by simp[cF,ok.la,ok.ls]
theorem ab.lh (H:ab B h0 h (aX k a pw mc offs da w ds::As)):bZ mc da ds∧ab B h0 h (af a k.tS (bj mc pw offs da)::bB k.tP pw w::(cF k pw da ds++As)):=by
 obtain⟨H,ok⟩:=H.pk
 exact⟨ok,H.km⟩
theorem ab.mB (ok:bZ mc da ds) (H:ab B h0 h (af a k.tS (bj mc pw offs da)::bB k.tP pw w::(cF k pw da ds++As))):ab B h0 h (aX k a pw mc offs da w ds::As):=
 (ab.closeAll (af a k.tS (bj mc pw offs da)::bB k.tP pw w::cF k pw da ds) H).topk ok
theorem bZ.addr (ok:bZ mc da ds) (hd:ds[n]?=some (some d)):∃b,da[n]?=some (some b):=by
 have hn:n<64:=by have:=(List.getElem?_eq_some_iff.1 hd).1;rw[ok.ls]at this;exact this
 have h1:=ok.same n
 rw[List.getD_eq_getElem?_getD,List.getD_eq_getElem?_getD,hd]at h1
 have h2:n<da.length:=by rw[ok.la];exact hn
 rw[List.getElem?_eq_getElem h2]at h1⊢
 simp at h1
 obtain⟨b,hb⟩:=Option.isSome_iff_exists.1 h1
 exact⟨b,by rw[hb]⟩
theorem bZ.vJ (ok:bZ mc da ds) (hn:n<64) (hd:ds[n]?=some none):da[n]?=some none:=by
 have h1:=ok.same n
 rw[List.getD_eq_getElem?_getD,List.getD_eq_getElem?_getD,hd]at h1
 have h2:n<da.length:=by rw[ok.la];exact hn
 rw[List.getElem?_eq_getElem h2]at h1⊢
 simp at h1
 rw[h1]
theorem bZ.set (ok:bZ mc da ds) {b:Addr} (hb:da[n]?=some (some b)):bZ mc da (ds.set n (some d')):=by
 refine⟨ok.l8,ok.la,by rw[List.length_set];exact ok.ls,fun i=>?_⟩
 by_cases hin:n=i
 ·subst hin
  have hn:n<ds.length:=by have:=(List.getElem?_eq_some_iff.1 hb).1;rw[ok.la]at this;rw[ok.ls];exact this
  rw[List.getD_eq_getElem?_getD,hb,List.getD_eq_getElem?_getD,List.getElem?_set_self hn];rfl
 ·rw[List.getD_eq_getElem?_getD (l:=ds.set n _),List.getElem?_set_ne hin,←List.getD_eq_getElem?_getD];exact ok.same i
theorem wF {b:Addr} (hb:da[n]?=some (some b)) (hn:n<ds.length):(cF k pw da ds).set n (dK k.tD (k.f pw) b d')=cF k pw da (ds.set n (some d')):=by
 apply List.ext_getElem?
 intro j
 have hna:n<da.length:=(List.getElem?_eq_some_iff.1 hb).1
 simp only[cF,List.getElem?_set,List.getElem?_zipWith,List.length_zipWith]
 by_cases hij:n=j
 ·subst hij
  rw[if_pos rfl,if_pos (by omega),if_pos rfl,if_pos hn,hb];rfl
 ·simp[hij]
def qK (k:Kit) (a pw:Addr) (mc:List Value) (offs:Int) (da:List (Option Addr)) (ds:be) (n:Nat):HP:=
 (HP.all (af a k.tS (bj mc pw offs da)::(cF k pw da ds).set n emp)).and (bZ mc da ds)
theorem ab.qg (H:ab B h0 h (aX k a pw mc offs da w ds::As)) (hd:ds[n]?=some (some d)):∃b,da[n]?=some (some b)∧ab B h0 h (dK k.tD (k.f pw) b d::bB k.tP pw w::qK k a pw mc offs da ds n::As):=by
 obtain⟨ok,H1⟩:=H.lh
 obtain⟨b,hb⟩:=ok.addr hd
 refine⟨b,hb,?_⟩
 have hX:(cF k pw da ds)[n]?=some (dK k.tD (k.f pw) b d):=by
  simp only[cF,List.getElem?_zipWith,hb,hd];rfl
 have H2:=H1.xQ n hX
 have H3:ab B h0 h (dK k.tD (k.f pw) b d::bB k.tP pw w::((af a k.tS (bj mc pw offs da)::(cF k pw da ds).set n emp)++As)):=H2
 exact(((ab.closeAll _ H3.zc).topk ok).bL 3 [1,2,0]:ab B h0 h (dK k.tD (k.f pw) b d::bB k.tP pw w::qK k a pw mc offs da ds n::As))
theorem ab.rU {b:Addr} (hb:da[n]?=some (some b)) (H:ab B h0 h (dK k.tD (k.f pw) b d'::bB k.tP pw w'::qK k a pw mc offs da ds n::As)):ab B h0 h (aX k a pw mc offs da w' (ds.set n (some d'))::As):=by
 have H1:ab B h0 h (qK k a pw mc offs da ds n::bB k.tP pw w'::dK k.tD (k.f pw) b d'::As):=H.bL 3 [2,1,0]
 obtain⟨H1,ok⟩:=H1.pk
 have H2:=H1.km
 have hn:n<ds.length:=by have:=(List.getElem?_eq_some_iff.1 hb).1;rw[ok.la]at this;rw[ok.ls];exact this
 have hl:=rT (k:=k) (pw:=pw) ok
 have hln:n<(cF k pw da ds).length:=by rw[hl,←ok.ls];exact hn
 obtain⟨L,hL⟩:∃L,L=cF k pw da ds:=⟨_,rfl⟩
 rw[←hL]at H2 hln
 have H3:ab B h0 h (dK k.tD (k.f pw) b d'::bB k.tP pw w'::af a k.tS (bj mc pw offs da)::(L.set n emp++As)):=by
  refine H2.pick (fun i=>if i=0 then 1+L.length+1 else if i=1 then 1+L.length else if i=2 then 0 else if i<3+L.length then i-2 else i) (fun x y hab=>by(try dsimp only at hab);split at hab<;>split at hab<;>(try split at hab)<;>(try split at hab)<;>(try split at hab)<;>(try split at hab)<;>(try split at hab)<;>(try split at hab)<;>omega) fun i A hi=>?_
  try dsimp only
  have hlen:(af a k.tS (bj mc pw offs da)::L.set n emp).length=1+L.length:=by simp;omega
  match i,hi with
  |0,hi=>rw[if_pos rfl,List.getElem?_append_right (by omega),hlen,show 1+L.length+1-(1+L.length)=1 by omega];exact hi
  |1,hi=>rw[if_neg (by omega),if_pos rfl,List.getElem?_append_right (by omega),hlen,Nat.sub_self];exact hi
  |2,hi=>rw[if_neg (by omega),if_neg (by omega),if_pos rfl];exact hi
  |i+3,hi=>
   rw[if_neg (by omega),if_neg (by omega),if_neg (by omega)]
   rw[List.getElem?_cons_succ,List.getElem?_cons_succ,List.getElem?_cons_succ]at hi
   by_cases hil:i<L.length
   ·rw[if_pos (by omega),show i+3-2=i+1 by omega,List.getElem?_append_left (by rw[hlen];omega),List.getElem?_cons_succ]
    rw[List.getElem?_append_left (by simpa using hil)]at hi;exact hi
   ·rw[if_neg (by omega),List.getElem?_append_right (by rw[hlen];omega),hlen,show i+3-(1+L.length)=(i-L.length)+2 by omega,List.getElem?_cons_succ,List.getElem?_cons_succ]
    rw[List.getElem?_append_right (by simp;omega),List.length_set]at hi;exact hi
 have H4:=ab.tJ n hln H3
 rw[hL,wF hb hn]at H4
 exact H4.mB (ok.set hb)
end
end Go.Vc
namespace Go.Vc
open Go Wl Go.Qw
def yt:iM (Int×Sl) (Int×List UInt8):=⟨fun h q a b=>a.1=b.1∧Seq h q a.2 1 aB b.2,fun a hp=>⟨a.1,a.2.aq hp⟩,fun a hq=>⟨a.1,a.2.mono hq⟩⟩
def piv (x:Int×Sl):List Value:=[.int .i64 x.1,.slice x.2.ptr x.2.len x.2.cap]
theorem xR:∀x,∀c∈piv x,c.oneCell'=true:=by intro x c hc;simp[piv]at hc;rcases hc with rfl|rfl<;>rfl
def nU (da:List (Option Addr)) (slot:Int):Option Addr:=if 0≤slot∧slot<64 then(da[slot.toNat]?).join else none
theorem rV {mc:List Value} {da:List (Option Addr)} {ds:be} (ok:bZ mc da ds) (slot:Int):
  (tA ds slot=none∧nU da slot=none)∨∃(n:Nat) (d:bt) (b:Addr),slot=n∧n<64∧ds[n]?=some (some d)∧tA ds slot=some d∧da[n]?=some (some b)∧nU da slot=some b:=by
 unfold tA nU
 by_cases h:0≤slot∧slot<64
 ·rw[if_pos h,if_pos h]
  have hn:slot.toNat<ds.length:=by rw[ok.ls];omega
  cases hd:ds[slot.toNat]with
  |none=>
   have h1:ds[slot.toNat]?=some none:=by rw[List.getElem?_eq_getElem hn,hd]
   exact .inl ⟨by rw[h1];rfl,by rw[ok.vJ (by omega) h1];rfl⟩
  |some d=>
   have h1:ds[slot.toNat]?=some (some d):=by rw[List.getElem?_eq_getElem hn,hd]
   obtain⟨b,hb⟩:=ok.addr h1
   exact .inr ⟨slot.toNat,d,b,by omega,by omega,h1,by rw[h1];rfl,hb,by rw[hb];rfl⟩
 ·rw[if_neg h,if_neg h];exact .inl ⟨rfl,rfl⟩
theorem vK {mc:List Value} {pw:Addr} {offs:Int} {da:List (Option Addr)} (h8:mc.length=8) (n:Nat):(bj mc pw offs da)[10+n]?=(da[n]?).map .pointer:=by
 unfold bj
 rw[List.getElem?_append_right (by omega),h8,show 10+n-8=n+1+1 by omega,List.getElem?_cons_succ,List.getElem?_cons_succ,List.getElem?_map]
theorem wG {mc:List Value} {pw:Addr} {offs:Int} {da:List (Option Addr)} (h8:mc.length=8):(bj mc pw offs da)[8]?=some (.pointer (some pw)):=by
 unfold bj;rw[List.getElem?_append_right (by omega),h8];rfl
theorem uC {mc:List Value} {pw:Addr} {offs:Int} {da:List (Option Addr)} (h8:mc.length=8):(bj mc pw offs da)[9]?=some (.int .i64 offs):=by
 unfold bj;rw[List.getElem?_append_right (by omega),h8];rfl
end Go.Vc
namespace Go.Qw
open Go Go.Vc Go.Proofs Wl
set_option maxRecDepth 100000
abbrev bv:Go.Vc.Kit:=⟨dT,aM,fk,fun pw=>jb pw⟩
theorem rW {e:TypeId} (s:Sl) (l:List Int) (h:Heap) (ho:Own h e s 1 aA l) (hsz:l.length<2^40):ae Tryz.prog iz #[.slice s.ptr s.len s.cap] h fun v h'=>v=.slice s.ptr (Lib.compact l).length s.cap∧Own h' e ⟨s.ptr,(Lib.compact l).length,s.cap⟩ 1 aA (Lib.compact l)∧ax (fun b=>¬s.on b) h h':=
 ox Tryz.slices_Compact_int Tryz.slices_Compact_int_empty ho hsz
section
variable {B:aj} {h0 h h':Heap} {As:List HP} {a pw:Addr} {mc:List Value} {offs:Int} {da:List (Option Addr)} {w:Pow} {ds:be}
theorem nt (slot:Int) (ok:bZ mc da ds) (hb:bH h a dT (bj mc pw offs da)):ae Tryz.prog bS #[.pointer (some a),.int .i64 slot] h fun v h'=>v=.pointer (nU da slot)∧h'=h:=by
 refine kx (some a) slot ?_
 unfold gg
 have no:¬(0≤slot∧slot<64)→Value.pointer none=.pointer (nU da slot)∧h=h:=fun e=>by unfold nU;rw[if_neg e];exact⟨rfl,rfl⟩
 refine aJ (bV (fun e=>by cases e) fun _=>an (fun e=>no (by omega)) fun e1=>an (fun e=>no (by omega)) fun e2=>?_)
 have hn:slot.toNat<da.length:=by rw[ok.la];omega
 refine⟨a,rfl,⟨by omega,by omega⟩,da[slot.toNat],?_,?_,rfl⟩
 ·rw[Nat.mul_one]
  refine hb.rS 10 slot.toNat ?_
  rw[vK ok.l8,List.getElem?_eq_getElem hn];rfl
 ·unfold nU;rw[if_pos (by omega),List.getElem?_eq_getElem hn];rfl
theorem ab.iF (H:ab B h0 h (aX bv a pw mc offs da w ds::As)):bZ mc da ds∧bH h a dT (bj mc pw offs da):=by
 obtain⟨ok,H1⟩:=Go.Vc.ab.lh H
 exact⟨ok,H1.box 0 rfl⟩
theorem uD (s:Sl) (l:List Int) (hS:St B h0 As fun h=>Rd h s 1 aA l) (hl:l.length≤2^30) (hin:∀x∈l,0≤x∧x<64) (H:ab B h0 h (aX bv a pw mc offs da w ds::As)):
  ae Tryz.prog sQ #[.func (.func bS) #[.pointer (some a)] #[],.slice s.ptr s.len s.cap] h fun v h'=>v=.int .i64 (fj (cI l) w ds).1∧ab B h0 h' (aX bv a pw mc offs da (fj (cI l) w ds).2.1 (fj (cI l) w ds).2.2::As):=by
 refine rL (bS,#[.pointer (some a)],#[]) s ?_
 unfold oH
 refine(pB s l h (hS.at [_] H) (by omega)).mono ?_
 rintro _ h1 ⟨r,rfl,R1⟩
 have H1:=H.im R1
 refine⟨r,rfl,(vw r l h1 (H1.own 0 rfl) (by omega)).mono ?_⟩
 rintro _ h2 ⟨rfl,O2,P2⟩
 have H2:=H1.mO 0 rfl P2 O2
 refine⟨(),rfl,(rW r (fg l) h2 O2 (by rw[vd];omega)).mono ?_⟩
 rintro _ h3 ⟨rfl,O3,P3⟩
 have H3:=H2.step (D:=aw aH ⟨r.ptr,(Lib.compact (fg l)).length,r.cap⟩ 1 aA (Lib.compact (fg l))) 0 rfl fun q hq hlt=>⟨P3.mono fun b _ hb hon=>hb (hq.2 b hon),O3,fun b hb=>⟨Nat.lt_of_lt_of_le (hlt b (hq.2 b hb)) P3.1,.inl (hq.2 b hb)⟩⟩
 rw[uj l hin]at H3⊢
 obtain⟨u,hu⟩:∃u,u=cI l:=⟨_,rfl⟩
 rw[←hu]at H3⊢
 have H3:ab B h0 h3 (aw aH ⟨r.ptr,u.length,r.cap⟩ 1 aA u::aX bv a pw mc offs da w ds::As):=H3
 have hul:u.length≤64:=by
  have:=List.length_filter_le (fun i=>decide (i∈l)) ((List.range 64).map fun i:Nat=>(i:Int))
  rw[hu];unfold cI;simpa using this
 refine⟨⟨r.ptr,u.length,r.cap⟩,rfl,?_⟩
 refine aE (fun t:Nat×Pow×be=>(t.1:Int)) (fun t h'=>t.1≤u.length∧fj u w ds=fj (u.drop t.1) t.2.1 t.2.2∧ab B h0 h' (aw aH ⟨r.ptr,u.length,r.cap⟩ 1 aA u::aX bv a pw mc offs da t.2.1 t.2.2::As)) (fun t=>u.length-t.1) (0,w,ds) rfl ⟨by simp,rfl,H3⟩ ?_
 rintro⟨i,w1,ds1⟩ h4 ⟨hi,hsy,H4⟩
 dsimp only at*
 refine an (fun e=>?_) (fun e=>?_)
 ·have hi':i<u.length:=by omega
  obtain⟨ok,hb⟩:=ab.iF H4.rest
  rw[List.drop_eq_getElem_cons hi',ue]at hsy
  refine(H4.seq 0 rfl fun _=>rfl).bd i rfl hi' u[i] rfl (om (by rfl) ?_)
  refine(nt u[i] ok hb).mono ?_
  rintro _ h5 ⟨rfl,rfl⟩
  refine⟨_,rfl,?_⟩
  rcases rV ok u[i]with⟨c1,c2⟩|⟨n,d,b,c0,c1,c2,c3,c4,c5⟩
  ·rw[c2]
   refine(rR h5).mono ?_
   rintro _ h6 ⟨rfl,rfl⟩
   have es:fJ w1 ds1 u[i]=(5,w1,ds1):=by unfold fJ;rw[c1]
   rw[es]at hsy
   refine⟨5,rfl,cT (fun _=>?_) fun e=>absurd e (by decide)⟩
   have:fj u w ds=(5,w1,ds1):=hsy
   rw[this]
   exact⟨rfl,H4.rest⟩
  ·rw[c5]
   obtain⟨b',hb',H5⟩:=Go.Vc.ab.qg (H4.bL 2 [1,0]) c2
   rw[c4]at hb'
   injection hb' with hb'
   injection hb' with hb'
   subst hb'
   refine(vA H5).mono ?_
   rintro _ h6 ⟨rfl,H6⟩
   have H7:=Go.Vc.ab.rU (k:=bv) (n:=n) c4 H6
   have es:fJ w1 ds1 u[i]=((d.sync w1).1,(d.sync w1).2.1,ds1.set n (some (d.sync w1).2.2)):=by
    unfold fJ;rw[c3];simp only[ud,c0,Int.toNat_natCast]
   rw[es]at hsy
   refine⟨_,rfl,cT (fun e2=>?_) fun e2=>?_⟩
   ·have:fj u w ds=((d.sync w1).1,(d.sync w1).2.1,ds1.set n (some (d.sync w1).2.2)):=by rw[hsy];exact if_neg e2
    rw[this]
    exact⟨rfl,H7.mP⟩
   ·refine⟨(i+1,(d.sync w1).2.1,ds1.set n (some (d.sync w1).2.2)),by dsimp only;rw[Go.Vc.wrap_small _ (by omega) (by omega)];rfl,⟨by dsimp only;omega,?_,H7.bL 2 [1,0]⟩,by dsimp only;omega⟩
    rw[hsy];exact if_pos e2
 ·rw[List.drop_of_length_le (by omega)]at hsy
  rw[hsy]
  exact⟨rfl,H4.rest⟩
end
end Go.Qw
namespace Go.Vc
open Go Wl
theorem HP.pE {h:Heap}:∀{L:List HP} {q:aj} {i:Nat} {A:HP},(HP.all L).p h q→L[i]?=some A→A.p h q
 |A::L,q,0,A',⟨q1,q2,_,b,_,d,_⟩,hi=>by simp at hi;subst hi;exact A.mono d b
 |A::L,q,i+1,A',⟨q1,q2,_,_,c,_,e⟩,hi=>A'.mono (HP.pE e (by simpa using hi)) c
 |[],_,i,_,_,hi=>by simp at hi
section
variable {α β:Type} {B:aj} {h0 h:Heap} {As:List HP} {e e2 k:Nat} {s:Sl} {f:α→List Value} {ll:List (List α)}
theorem ab.zK (H:ab B h0 h (jx e s e2 k f ll::As)) (hw:∀x,(f x).length=k):∃rs,ab B h0 h (pj (uc k f) 1 fI s rs ll::As):=by
 obtain⟨rs,H⟩:=H.qH
 obtain⟨H,hl⟩:=H.pk
 refine⟨rs,H.nB 0 rfl fun q hq=>⟨?_,hl,fun i r l h1 h2=>?_⟩⟩
 ·have:=HP.pE (i:=0) hq rfl
  exact this.1.seq (fun _=>rfl) this.2
 ·have hi:i<ll.length:=(List.getElem?_eq_some_iff.1 h2).1
  have hg:=sy (e:=e2) (k:=k) (f:=f) hl i hi
  have:=HP.pE (i:=i+1) hq (by simpa using hg)
  have e1:rs[i]'(by omega)=r:=by rw[List.getElem?_eq_getElem (by omega)]at h1;simpa using h1
  have e2:ll[i]=l:=by rw[List.getElem?_eq_getElem hi]at h2;simpa using h2
  rw[e1,e2]at this
  exact this.1.seq hw this.2
end
end Go.Vc
namespace Wl
def cJ (m:bp) (slots:List Int):List (Int×List UInt8):=slots.flatMap fun n=>(cA m).map fun c=>(n,c)
theorem sY {m:bp} {slots:List Int} {x:Int×List UInt8} (h:x∈cJ m slots):x.1∈slots∧x.2.length=64:=by
 unfold cJ at h
 obtain⟨n,hn,hx⟩:=List.mem_flatMap.1 h
 obtain⟨c,hc,rfl⟩:=List.mem_map.1 hx
 exact⟨hn,ui hc⟩
end Wl
namespace Go.Qw
open Go Go.Vc Go.Proofs Wl
set_option maxRecDepth 100000
theorem qh (m:bp) (hz:jF m):(cA m).length≤3000:=by
 have:=nT m hz
 unfold cA dZ;simp;omega
abbrev yu:bf C.tokh pm cH 2 [.int .i64 0,.slice none 0 0] 32:=⟨_,_,rfl,rfl,rfl,rfl,rfl,rfl⟩
section
variable {B:aj} {h0 h h':Heap} {As:List HP} {a pw:Addr} {mc:List Value} {offs:Int} {da:List (Option Addr)} {w:Pow} {ds:be}
theorem vL (s:Sl) (ys:List (Int×Sl)) (P:List (Int×List UInt8)) (hS:St B h0 As fun h=>lr yt 2 piv h s ys P) (hl:P.length≤2^30) (hin:∀x∈P,(0≤x.1∧x.1<64)∧x.2.length≤2^20) (H:ab B h0 h (aX bv a pw mc offs da w ds::As)):
  ae Tryz.prog ur #[.func (.func bS) #[.pointer (some a)] #[],.slice s.ptr s.len s.cap] h fun v h'=>v=.int .i64 (layAll P w ds).1∧ab B h0 h' (aX bv a pw mc offs da (layAll P w ds).2.1 (layAll P w ds).2.2::As):=by
 refine sO (bS,#[.pointer (some a)],#[]) s ?_
 unfold pY
 have hsl:=(hS.at [_] H).1.len
 have hyl:=(hS.at [_] H).2.1
 have H0:=(H.nil aH 1 aA).cz
 refine aE (fun t:Sl×Nat×Pow×be=>(t.1,(t.2.1:Int))) (fun t h'=>t.2.1≤P.length∧iE P w ds=iE (P.drop t.2.1) t.2.2.1 t.2.2.2∧ab B h0 h' (aw aH t.1 1 aA ((P.take t.2.1).map Prod.fst)::aX bv a pw mc offs da t.2.2.1 t.2.2.2::As)) (fun t=>P.length-t.2.1) (⟨none,0,0⟩,0,w,ds) rfl ⟨by simp,rfl,by simpa using H0⟩ ?_
 rintro⟨o,i,w1,ds1⟩ h1 ⟨hi,hap,H1⟩
 dsimp only at*
 refine an (fun e=>?_) (fun e=>?_)
 ·have hi':i<P.length:=by omega
  rw[List.drop_eq_getElem_cons hi',ru]at hap
  have F1:=hS.at [_,_] H1
  have hPi:=hin _ (List.getElem_mem hi')
  refine F1.1.qZ (g:=piv) i rfl (by omega) (ys[i]'(by omega)) rfl ?_
  refine H1.alloc ag rfl fun a4 h2 H2=>?_
  have H2:=H2.cz
  refine H2.storeAll ag 0 rfl rfl (piv (ys[i]'(by omega))) rfl rfl rfl rfl fun h3 H3=>?_
  obtain⟨y1,y2⟩:=Fix.row (hS.at [_,_,_] H3) hi'
  have H3:ab B h0 h3 (af a4 cH (piv (ys[i]'(by omega)))::aw aH o 1 aA ((P.take i).map Prod.fst)::aX bv a pw mc offs da w1 ds1::As):=H3
  have H3:=H3.bL 3 [2,0,1]
  obtain⟨ok,hb⟩:=ab.iF H3
  obtain⟨res,hres⟩:∃res,res=eh w1 ds1 P[i].1 P[i].2:=⟨_,rfl⟩
  rw[←hres]at hap
  refine bu (fun _ h'=>res.1=0∧ab B h0 h' (aX bv a pw mc offs da res.2.1 res.2.2::af a4 cH (piv (ys[i]'(by omega)))::aw aH o 1 aA ((P.take i).map Prod.fst)::As)) ?_ ?_
  ·refine bu (fun e h'=>e=res.1∧ab B h0 h' (aX bv a pw mc offs da res.2.1 res.2.2::af a4 cH (piv (ys[i]'(by omega)))::aw aH o 1 aA ((P.take i).map Prod.fst)::As)) ?_ ?_
   ·refine⟨P[i].1,by rw[←y1];exact(H3.box 1 rfl).cell0 rfl,(ys[i]'(by omega)).2,(H3.box 1 rfl).cell rfl,om (by rfl) ?_⟩
    refine(nt P[i].1 ok hb).mono ?_
    rintro _ h4 ⟨rfl,rfl⟩
    refine⟨_,rfl,⟨(H3.box 1 rfl).cell rfl,trivial⟩,?_⟩
    rcases rV ok P[i].1 with⟨c1,c2⟩|⟨n,d,b,c0,c1,c2,c3,c4,c5⟩
    ·rw[c2]
     refine(pD (ys[i]'(by omega)).2 P[i].2 h4 y2).mono ?_
     rintro _ h5 ⟨rfl,rfl⟩
     have es:res=(if P[i].2.length≠64 then 1 else 5,w1,ds1):=by rw[hres];unfold eh;rw[c1]
     refine⟨_,rfl,trivial,by rw[es],?_⟩
     rw[es];exact H3
    ·rw[c5]
     obtain⟨b',hb',H5⟩:=Go.Vc.ab.qg H3 c2
     rw[c4]at hb'
     injection hb' with hb'
     injection hb' with hb'
     subst hb'
     refine(sV (ys[i]'(by omega)).2 P[i].2 H5 y2 hPi.2).mono ?_
     rintro _ h6 ⟨rfl,H6⟩
     have H7:=Go.Vc.ab.rU (k:=bv) (n:=n) c4 H6
     have es:res=((d.append w1 P[i].2).1,(d.append w1 P[i].2).2.1,ds1.set n (some (d.append w1 P[i].2).2.2)):=by
      rw[hres];unfold eh;rw[c3];simp only[ud,c0,Int.toNat_natCast]
     refine⟨_,rfl,trivial,by rw[es],?_⟩
     rw[es];exact H7
   ·rintro e4 h4 ⟨rfl,H4⟩
    refine cT (fun e2=>?_) fun e2=>⟨e2,H4⟩
    rw[if_neg e2]at hap
    have:layAll P w ds=res:=by unfold layAll;rw[hap];exact if_neg e2
    rw[this]
    exact⟨rfl,H4.mP.mP⟩
  ·rintro _ h4 ⟨e2,H4⟩
   rw[if_pos e2]at hap
   refine⟨P[i].1,by rw[←y1];exact(H4.box 1 rfl).cell0 rfl,?_⟩
   refine H4.push ag 2 rfl dI rfl (by decide) (fun _=>rfl) dq P[i].1 rfl (by decide) (by simp;omega) fun o' h5 H5=>?_
   refine⟨(o',i+1,res.2.1,res.2.2),by dsimp only;rw[Go.Vc.wrap_small _ (by omega) (by omega)];rfl,⟨by dsimp only;omega,hap,?_⟩,by dsimp only;omega⟩
   dsimp only
   rw[aF _ _ hi',List.map_append]
   exact H5.bL 3 [2,0]
 ·have hie:i=P.length:=by omega
  subst hie
  rw[List.drop_length]at hap
  rw[List.take_length]at H1
  have H2:=(H1.freeze 0 rfl fun _=>rfl).bL 2 [1,0]
  have hla:layAll P w ds=fj (cI (P.map Prod.fst)) w1 ds1:=by unfold layAll;rw[hap];rfl
  refine(uD o (P.map Prod.fst) (St.wZ 0 rfl fun h' hh=>hh) (by simp;omega) (fun x hx=>?_) H2).mono ?_
  ·obtain⟨y,hy,rfl⟩:=List.mem_map.1 hx;exact(hin y hy).1
  ·rintro _ h2 ⟨rfl,H3⟩
   refine⟨_,rfl,by rw[hla],?_⟩
   rw[hla];exact H3.mP
theorem sZ (x:cm) (m:bp) (s:Sl) (slots:List Int) (h:Heap) (hx:jE h x m) (hz:jF m) (hs:Rd h s 1 aA slots) (hsl:slots.length≤2^10):
  ae Tryz.prog rI #[nR x,.slice s.ptr s.len s.cap] h fun v h'=>∃(r:Sl) (ys:List (Int×Sl)),v=.slice r.ptr r.len r.cap∧Sp h h' [pj yt 2 piv r ys (cJ m slots)]:=by
 refine qx x s ?_
 unfold nl
 refine(Sp.refl h).boxed fun a1 h1 H1=>?_
 refine⟨x,(H1.box 0 rfl).bc _ rfl,(oU x m h1 (hx.up H1.aq) hz).mono ?_⟩
 rintro _ h2 ⟨r,rfl,R2⟩
 have H2:=H1.im R2
 refine⟨r,rfl,?_⟩
 obtain⟨rs,H2⟩:=H2.zK fun _=>rfl
 have hpl:=qh m hz
 obtain⟨pg,hpg⟩:∃pg,pg=cA m:=⟨_,rfl⟩
 rw[←hpg]at H2 hpl
 have F2:=H2.xa 0 rfl
 have hrl:=F2.1.len
 have hrs:=F2.2.1
 have hsn:=hs.len
 obtain⟨T,hT⟩:∃T:Int→List ((Int×Sl)×(Int×List UInt8)),T=fun n=>(rs.zip pg).map fun z=>((n,z.1),(n,z.2)):=⟨_,rfl⟩
 have hTl:∀n,(T n).length=pg.length:=fun n=>by rw[hT];simp;omega
 have hTs:∀n,(T n).map Prod.snd=pg.map fun c=>(n,c):=fun n=>by
  have hz:=List.map_snd_zip (l₁:=rs) (l₂:=pg) (by omega)
  conv=>rhs;rw[←hz]
  rw[hT];simp[List.map_map,Function.comp_def]
 have hTg:∀n j (hj:j<pg.length),(T n)[j]'(by rw[hTl];exact hj)=((n,rs[j]'(by omega)),(n,pg[j])):=fun n j hj=>by subst hT;simp
 have H3:Sp h h2 [aw cH ⟨none,0,0⟩ 2 piv (((slots.take 0).flatMap T).map Prod.fst),pj (uc 1 aB) 1 fI r rs pg]:=(H2.nil cH 2 piv).de [2,0]
 have htot:∀i,i≤slots.length→((slots.take i).flatMap T).length≤i*3000:=fun i=>by
  induction i with
  |zero=>simp
  |succ i ih=>
   intro hi
   rw[aF _ _ (show i<slots.length by omega),List.flatMap_append,List.length_append]
   have h1:=ih (by omega)
   have h2:([slots[i]].flatMap T).length=pg.length:=by rw[List.flatMap_cons,List.flatMap_nil,List.append_nil,hTl]
   omega
 refine aE (fun t:Sl×Nat=>(t.1,(t.2:Int))) (fun t h'=>t.2≤slots.length∧Sp h h' [aw cH t.1 2 piv (((slots.take t.2).flatMap T).map Prod.fst),pj (uc 1 aB) 1 fI r rs pg]) (fun t=>slots.length-t.2) (⟨none,0,0⟩,0) rfl ⟨by simp,H3⟩ ?_
 rintro⟨o,i⟩ h3 ⟨hi,H3⟩
 dsimp only at*
 refine an (fun e=>?_) (fun e=>?_)
 ·have hi':i<slots.length:=by omega
  have ht:=htot i hi
  have hb:i*3000≤2^10*3000:=Nat.mul_le_mul_right _ (by omega)
  refine(Seq.up hs H3.aq).bd i rfl hi' slots[i] rfl ?_
  refine aE (fun t:Sl×Nat=>(t.1,(t.2:Int))) (fun t h'=>t.2≤pg.length∧Sp h h' [aw cH t.1 2 piv (((slots.take i).flatMap T).map Prod.fst++((T slots[i]).take t.2).map Prod.fst),pj (uc 1 aB) 1 fI r rs pg]) (fun t=>pg.length-t.2) (o,0) rfl ⟨by simp,by simpa using H3⟩ ?_
  rintro⟨u,j⟩ h4 ⟨hj,H4⟩
  dsimp only at*
  refine an (fun e2=>?_) (fun e2=>?_)
  ·have hj':j<pg.length:=by omega
   refine(H4.xa 1 rfl).1.zH j rfl (by omega) ?_
   refine H4.push ag 0 rfl yu rfl (by decide) (fun _=>rfl) xR (slots[i],rs[j]'(by omega)) rfl (by decide) (by simp only[List.length_append,List.length_map,List.length_take,hTl];omega) fun u' h5 H5=>?_
   refine⟨(u',j+1),by dsimp only;rw[Go.Vc.wrap_small _ (by omega) (by omega)];rfl,⟨by dsimp only;omega,?_⟩,by dsimp only;omega⟩
   dsimp only
   rw[aF (T slots[i]) j (by rw[hTl];exact hj'),List.map_append,hTg _ _ hj',←List.append_assoc]
   exact H5
  ·have hje:j=pg.length:=by omega
   subst hje
   rw[List.take_of_length_le (l:=T slots[i]) (by rw[hTl];exact Nat.le_refl _)]at H4
   refine⟨(u,i+1),by dsimp only;rw[Go.Vc.wrap_small _ (by omega) (by omega)];rfl,⟨by dsimp only;omega,?_⟩,by dsimp only;omega⟩
   dsimp only
   rw[aF _ _ hi',List.flatMap_append,List.map_append,List.flatMap_cons,List.flatMap_nil,List.append_nil]
   exact H4
 ·have hie:i=slots.length:=by omega
  subst hie
  rw[List.take_length]at H3
  refine⟨o,(slots.flatMap T).map Prod.fst,rfl,?_⟩
  have H4:=(H3.freeze 0 rfl fun _=>rfl).qI
  refine H4.nB 0 rfl fun q ⟨q1,q2,_,b,c,z1,z2⟩=>?_
  have hsnd:(slots.flatMap T).map Prod.snd=cJ m slots:=by
   unfold cJ
   rw[List.map_flatMap,←hpg]
   congr 1;funext n;exact hTs n
  rw[←hsnd]
  refine⟨z2.mono c,by simp,fun j r' l' g1 g2=>?_⟩
  rw[List.getElem?_map]at g1 g2
  cases g3:(slots.flatMap T)[j]? with
  |none=>rw[g3]at g1;cases g1
  |some t=>
   rw[g3]at g1 g2;simp at g1 g2;subst g1;subst g2
   obtain⟨n,_,hn⟩:=List.mem_flatMap.1 (List.mem_of_getElem? g3)
   rw[hT]at hn
   obtain⟨z,hz2,rfl⟩:=List.mem_map.1 hn
   obtain⟨k,hk,rfl⟩:=List.mem_iff_getElem.1 hz2
   rw[List.getElem_zip]
   exact⟨rfl,(z1.2.2 k _ _ (List.getElem?_eq_getElem _) (List.getElem?_eq_getElem _)).mono b⟩
end
end Go.Qw
namespace Go.Qw
open Go Go.Vc Go.Proofs Wl
set_option maxRecDepth 100000
section
variable {B:aj} {h0 h h':Heap} {As:List HP} {a:Addr} {w:Pow}
end
section
variable {B:aj} {h0 h h':Heap} {As:List HP} {a pw:Addr} {d:bt} {w:Pow}
end
end Go.Qw
namespace Go.Qw
open Go Go.Vc Go.Proofs Wl
set_option maxRecDepth 100000
section
variable {B:aj} {h0 h h':Heap} {As:List HP}
end
end Go.Qw
namespace Go.Qw
open Go Go.Vc Go.Proofs Wl
set_option maxRecDepth 100000
end Go.Qw
namespace Wl
open Go
end Wl
namespace Go.Qw
open Go Go.Vc Go.Proofs Wl
set_option maxRecDepth 100000
end Go.Qw
namespace Wl
open Go
end Wl
namespace Go.Qw
open Go Go.Vc Go.Proofs Wl
set_option maxRecDepth 100000
end Go.Qw
namespace Go.Qw
open Go Go.Vc Go.Proofs Wl
set_option maxRecDepth 100000
end Go.Qw
namespace Go.Vc
open Go Wl
def aK (l:List Int) (k:Nat):List Int:=((List.range k).map fun i:Nat=>(i:Int)).filter fun i=>decide (0<l.getD i.toNat 0)
def cf (l:List Int):List Int×Bool:=
 if l.all (bX · 0 512)then(aK l l.length,decide (l.length≤64)&&decide (0<(aK l l.length).length))else([],false)
theorem lE (l:List Int) (k:Nat) (hk:k<l.length):aK l (k+1)=aK l k++if 0<l[k]then[(k:Int)]else[]:=by
 unfold aK
 rw[List.range_succ,List.map_append,List.filter_append]
 congr 1
 simp only[List.map_cons,List.map_nil,List.filter_cons,List.filter_nil,Int.toNat_natCast,List.getD_eq_getElem?_getD,List.getElem?_eq_getElem hk,Option.getD_some]
 by_cases h:0<l[k]<;>simp[h]
theorem jd (l:List Int) (k:Nat):(aK l k).length≤k:=by
 unfold aK
 exact Nat.le_trans (List.length_filter_le _ _) (by simp)
end Go.Vc
namespace Go.Qw
open Go Go.Vc Go.Proofs Wl
section
set_option maxRecDepth 20000
theorem eU (s:Sl) (l:List Int) (h:Heap) (hs:Rd h s 1 aA l) (hl:l.length≤2^20):
  ae Tryz.prog oF #[.slice s.ptr s.len s.cap] h fun v h'=>∃r:Sl,v=.tuple #[.slice r.ptr r.len r.cap,.bool (cf l).2]∧Sp h h' [aw aH r 1 aA (cf l).1]:=by
 refine nO s ?_
 unfold kw
 have hsl:=hs.len
 have H0:Sp h h [aw aH ⟨none,0,0⟩ 1 aA (aK l 0)]:=(Sp.refl h).nil aH 1 aA
 refine aE (fun t:Sl×Nat=>(t.1,(t.2:Int))) (fun t h'=>t.2≤l.length∧(l.take t.2).all (bX · 0 512)=true∧Sp h h' [aw aH t.1 1 aA (aK l t.2)]) (fun t=>l.length-t.2) (⟨none,0,0⟩,0) rfl ⟨by simp,by simp,H0⟩ ?_
 rintro⟨o,i⟩ h1 ⟨hi,hall,H1⟩
 dsimp only at*
 have hbad:∀(hi':i<l.length),bX l[i] 0 512=false→cf l=([],false):=fun hi' hb=>by
  unfold cf
  rw[if_neg]
  intro hc
  have:=List.all_eq_true.1 hc _ (List.getElem_mem hi')
  rw[hb]at this;cases this
 refine an (fun e=>?_) (fun e=>?_)
 ·have hi':i<l.length:=by omega
  have hpl:=jd l i
  refine(Seq.up hs H1.aq).bd i rfl hi' l[i] rfl ?_
  refine aJ (an (fun e1=>?_) (fun e1=>an (fun e2=>?_) (fun e2=>?_)))
  ·have hb:=hbad hi' (by unfold bX;simp;omega)
   rw[hb]
   exact⟨⟨none,0,0⟩,rfl,(H1.de []).nil aH 1 aA⟩
  ·have hb:=hbad hi' (by unfold bX;simp;omega)
   rw[hb]
   exact⟨⟨none,0,0⟩,rfl,(H1.de []).nil aH 1 aA⟩
  ·have hall':(l.take (i+1)).all (bX · 0 512)=true:=by
    rw[aF l i hi',List.all_append,hall,Bool.true_and,List.all_cons,List.all_nil,Bool.and_true]
    unfold bX;simp;omega
   refine an (fun e3=>?_) (fun e3=>?_)
   ·refine H1.push ag 0 rfl dI rfl (by decide) (fun _=>rfl) dq (i:Int) rfl (by decide) (by omega) fun o' h4 H4=>?_
    refine⟨(o',i+1),by dsimp only;rw[Go.Vc.wrap_small _ (by omega) (by omega)];rfl,⟨by dsimp only;omega,hall',?_⟩,by dsimp only;omega⟩
    dsimp only
    rw[lE l i hi',if_pos (by omega)]
    exact H4
   ·refine⟨(o,i+1),by dsimp only;rw[Go.Vc.wrap_small _ (by omega) (by omega)];rfl,⟨by dsimp only;omega,hall',?_⟩,by dsimp only;omega⟩
    dsimp only
    rw[lE l i hi',if_neg (by omega),List.append_nil]
    exact H1
 ·have hie:i=l.length:=by omega
  subst hie
  rw[List.take_length]at hall
  have hol:=(H1.own 0 rfl).len
  have hp:cf l=(aK l l.length,decide (l.length≤64)&&decide (0<(aK l l.length).length)):=by unfold cf;rw[if_pos hall]
  rw[hp]
  refine an (fun e1=>⟨o,?_,H1⟩) (fun e1=>⟨o,?_,H1⟩)
  ·dsimp only
   rw[decide_eq_true (show l.length≤64 by omega),Bool.true_and]
   congr 4
   refine congrArg Value.bool ?_
   rw[decide_eq_decide];omega
  ·dsimp only
   rw[decide_eq_false (show¬l.length≤64 by omega),Bool.false_and]
end
end Go.Qw
namespace Go.Qw
open Go Go.Vc Go.Proofs Wl
section
set_option maxRecDepth 20000
variable {B:aj} {h0 h:Heap} {As:List HP} {a pw:Addr} {offs:Int} {da:List (Option Addr)} {w:Pow} {ds:be}
end
end Go.Qw
namespace Go.Vc
open Go Wl
def iB (w:Pow) (offs:Int):Bool:=w.off||w.offs !=offs
end Go.Vc
namespace Go.Qw
open Go Go.Vc Go.Proofs Wl
section
set_option maxRecDepth 20000
variable {B:aj} {h0 h:Heap} {As:List HP} {a pw:Addr} {mc:List Value} {offs:Int} {da:List (Option Addr)} {w:Pow} {ds:be}
theorem ab.xS (H:ab B h0 h (aX bv a pw mc offs da w ds::As)):∃l,oR w l∧bH h pw aM (powC w l):=by
 obtain⟨ok,H1⟩:=Go.Vc.ab.lh H
 have H2:=H1.rest
 obtain⟨l,hl,H3⟩:=ab.mR H2
 exact⟨l,hl,H3.box 0 rfl⟩
theorem kA (H:ab B h0 h (aX bv a pw mc offs da w ds::As)):
  ae Tryz.prog lJ #[.pointer (some a)] h fun v h'=>v=.bool (iB w offs)∧h'=h:=by
 refine kY (some a) ?_
 unfold gT
 obtain⟨ok,hb⟩:=ab.iF H
 obtain⟨l,hl,hp⟩:=ab.xS H
 have c8:cellOf h (a.add 8)=some (.pointer (some pw)):=hb.cell (wG ok.l8)
 have c9:cellOf h (a.add 9)=some (.int .i64 offs):=hb.cell (uC ok.l8)
 refine bV (fun _=>?_) (fun e=>by cases e)
 refine⟨a,rfl,some pw,c8,(pC l hp).mono ?_⟩
 rintro _ _ ⟨rfl,rfl⟩
 refine⟨_,rfl,trivial,bm (fun e=>⟨trivial,?_⟩) fun e=>?_⟩
 ·have e':w.off=true:=by simpa using e
  exact⟨by unfold iB;rw[e'];rfl,rfl⟩
 ·have e':w.off=false:=by simpa using e
  refine⟨a,rfl,some pw,c8,a,rfl,offs,c9,(qd l hp).mono ?_⟩
  rintro _ _ ⟨rfl,rfl⟩
  exact⟨_,rfl,⟨c9,trivial⟩,by unfold iB;rw[e'];rfl,rfl⟩
end
end Go.Qw
namespace Go.Vc
open Go Wl
section
variable {k:Kit} {B:aj} {h0 h:Heap} {As:List HP} {a pw:Addr} {mc:List Value} {offs:Int} {w:Pow}
theorem ab.yv (H:ab B h0 h As):∀n,ab B h0 h (List.replicate n emp++As)
 |0=>H
 |n+1=>(((ab.yv H n).comp (.one (A:=emp) (ax.refl _ _) trivial)).cz:ab B h0 h (emp::(List.replicate n emp++As)))
theorem ab.vM (h8:mc.length=8) (H:ab B h0 h (af a k.tS (bj mc pw offs (List.replicate 64 none))::bB k.tP pw w::As)):ab B h0 h (aX k a pw mc offs (List.replicate 64 none) w (List.replicate 64 none)::As):=by
 have ok:bZ mc (List.replicate 64 none) (List.replicate 64 (none:Option bt)):=⟨h8,by simp,by simp,fun i=>by
  simp only[List.getD_eq_getElem?_getD,List.getElem?_replicate];split<;>rfl⟩
 have hd:cF k pw (List.replicate 64 none) (List.replicate 64 (none:Option bt))=List.replicate 64 emp:=by
  simp[cF,yr]
 refine ab.mB ok ?_
 rw[hd]
 have H2:=ab.yv H 64
 refine H2.pick (fun i=>if i=0 then 64 else if i=1 then 65 else if i<66 then i-2 else i) (fun x y hab=>by(try dsimp only at hab);split at hab<;>split at hab<;>(try split at hab)<;>(try split at hab)<;>(try split at hab)<;>(try split at hab)<;>omega) fun i A hi=>?_
 rcases i with _|_|i
 ·simpa using hi
 ·simpa using hi
 ·by_cases hc:i<64
  ·have e1:(List.replicate 64 emp++As)[i]?=some A:=hi
   rw[List.getElem?_append_left (by simpa using hc)]at e1
   try dsimp only
   rw[if_neg (by omega),if_neg (by omega),if_pos (by omega),List.getElem?_append_left (by simp;omega)]
   simpa using e1
  ·have e1:(List.replicate 64 emp++As)[i]?=some A:=hi
   rw[List.getElem?_append_right (by simp;omega)]at e1
   try dsimp only
   rw[if_neg (by omega),if_neg (by omega),if_neg (by omega),List.getElem?_append_right (by simp;omega)]
   simp only[List.length_replicate]at e1⊢
   obtain⟨j,rfl⟩:∃j,i=j+64:=⟨i-64,by omega⟩
   have e2:j+64+1+1-64=j+1+1:=by omega
   rw[e2]
   simpa using e1
end
end Go.Vc
namespace Go.Qw
open Go Go.Vc Go.Proofs Wl
section
set_option maxRecDepth 20000
theorem vN (x:cm) (pw:Addr) (offs:Int):ao Tryz.prog (Instr.build dT #[(0,nR x),(1,.pointer (some pw)),(2,.int .i64 offs)]) (.agg (bj (bG x) pw offs (List.replicate 64 none)).toArray):=
 lZ ag (i:=_) rfl rfl rfl (vs:=[(0,nR x),(1,.pointer (some pw)),(2,.int .i64 offs)]) (cells:=(bj (bG x) pw offs (List.replicate 64 none)).toArray) (by kernel_rfl)
end
end Go.Qw
namespace Go.Vc
open Go Wl
section
variable {k:Kit} {B:aj} {h0 h:Heap} {As:List HP} {a pw b:Addr} {mc:List Value} {offs:Int} {da:List (Option Addr)} {w:Pow} {ds:be} {d:bt} {n:Nat}
theorem vO (h8:mc.length=8):(bj mc pw offs da).set (10+n) (.pointer (some b))=bj mc pw offs (da.set n (some b)):=by
 unfold bj
 rw[List.set_append_right _ _ (by omega),h8,show 10+n-8=n+1+1 by omega,List.set_cons_succ,List.set_cons_succ,List.map_set]
theorem ab.xT (ok:bZ mc da ds) (hn:n<64) (hd:ds[n]?=some none) (H:ab B h0 h (af a k.tS (bj mc pw offs (da.set n (some b)))::bB k.tP pw w::(cF k pw da ds++(dK k.tD (k.f pw) b d::As)))):ab B h0 h (aX k a pw mc offs (da.set n (some b)) w (ds.set n (some d))::As):=by
 have hda:=ok.vJ hn hd
 have hla:=ok.la
 have hls:=ok.ls
 have ok':bZ mc (da.set n (some b)) (ds.set n (some d)):=⟨ok.l8,by simp[hla],by simp[hls],fun i=>by
  by_cases hin:n=i
  ·subst hin
   rw[List.getD_eq_getElem?_getD,List.getD_eq_getElem?_getD,List.getElem?_set_self (by omega),List.getElem?_set_self (by omega)];rfl
  ·have:=ok.same i
   rw[List.getD_eq_getElem?_getD,List.getD_eq_getElem?_getD]at this⊢
   rw[List.getElem?_set_ne hin,List.getElem?_set_ne hin];exact this⟩
 have hll:=rT (k:=k) (pw:=pw) ok
 have hL:(cF k pw da ds)[n]?=some emp:=by
  simp only[cF,List.getElem?_zipWith,hda,hd];rfl
 have hset:cF k pw (da.set n (some b)) (ds.set n (some d))=(cF k pw da ds).set n (dK k.tD (k.f pw) b d):=by
  apply List.ext_getElem?
  intro j
  simp only[cF,List.getElem?_set,List.getElem?_zipWith,List.length_zipWith]
  by_cases hij:n=j
  ·subst hij
   rw[if_pos rfl,if_pos (by omega),if_pos rfl,if_pos (by omega),if_pos rfl,if_pos (by omega)];rfl
  ·simp[hij]
 refine ab.mB ok' ?_
 rw[hset]
 obtain⟨L,hLe⟩:∃L,L=cF k pw da ds:=⟨_,rfl⟩
 rw[←hLe]at H hL hll⊢
 have H1:=H.cons (L.length+2) (A:=dK k.tD (k.f pw) b d) (by
  rw[List.getElem?_cons_succ,List.getElem?_cons_succ,List.getElem?_append_right (Nat.le_refl _),Nat.sub_self];rfl)
 have e:(af a k.tS (bj mc pw offs (da.set n (some b)))::bB k.tP pw w::(L++(dK k.tD (k.f pw) b d::As))).set (L.length+2) emp=af a k.tS (bj mc pw offs (da.set n (some b)))::bB k.tP pw w::(L++(emp::As)):=by
  rw[List.set_cons_succ,List.set_cons_succ,List.set_append_right _ _ (Nat.le_refl _),Nat.sub_self];rfl
 rw[e]at H1
 have H2:=H1.bL 3 [0,2,1]
 have hLs:L.set n emp=L:=by
  obtain⟨h1,h2⟩:=List.getElem?_eq_some_iff.1 hL
  conv=>lhs;rw[←h2]
  exact List.set_getElem_self h1
 have H3:ab B h0 h (dK k.tD (k.f pw) b d::bB k.tP pw w::af a k.tS (bj mc pw offs (da.set n (some b)))::(L.set n emp++(emp::As))):=by rw[hLs];exact H2
 have H4:=ab.tJ n (by omega) H3
 have H5:=ab.closeAll (af a k.tS (bj mc pw offs (da.set n (some b)))::bB k.tP pw w::L.set n (dK k.tD (k.f pw) b d)) H4
 exact ab.km (L:=af a k.tS (bj mc pw offs (da.set n (some b)))::bB k.tP pw w::L.set n (dK k.tD (k.f pw) b d)) H5.mP
end
end Go.Vc
namespace Go.Vc
open Go Wl Go.Qw
def cv (p:Pm) (extra:Int) (l:List Int):bp:=⟨1,0,p,extra,aK l l.length,[]⟩
def dW (l:List Int) (k:Nat):be:=(List.range 64).map fun i:Nat=>if(i:Int)∈(aK l l.length).take k then some (bt.new (l.getD i 0).toNat)else none
def aO (p:Pm) (extra:Int) (w:Pow) (l:List Int):Int×Pow×be:=
 if(cf l).2&&(iK p&&bX extra 0 16)then
  if(aK l l.length).any fun i=>decide (l.getD i.toNat 0<((cA (cv p extra l)).length:Int))then(7,w,[])
  else layAll (cJ (cv p extra l) (aK l l.length)) w (dW l (aK l l.length).length)
 else(1,w,[])
end Go.Vc
namespace Go.Vc
open Go Wl Go.Qw
theorem rX (l:List Int):dW l 0=List.replicate 64 none:=by
 unfold dW
 rw[List.take_zero]
 apply List.ext_getElem?
 intro j
 simp only[List.getElem?_map,List.getElem?_replicate,List.getElem?_range,List.not_mem_nil,if_false]
 by_cases h:j<64
 ·simp[h,List.getElem?_range]
 ·simp[h]
theorem rY (l:List Int) (k n:Nat) (hk:k<(aK l l.length).length) (hn:(aK l l.length)[k]=(n:Int)) (h64:n<64):(dW l k).set n (some (bt.new (l.getD n 0).toNat))=dW l (k+1):=by
 apply List.ext_getElem?
 intro j
 unfold dW
 rw[aF _ _ hk,hn,List.getElem?_set,List.length_map,List.length_range]
 by_cases hj:j<64
 ·simp only[List.getElem?_map,List.getElem?_range hj,Option.map_some,List.mem_append,List.mem_singleton]
  by_cases hnj:n=j
  ·subst hnj
   rw[if_pos rfl,if_pos h64,if_pos (Or.inr rfl)]
  ·rw[if_neg hnj]
   have:¬(j:Int)=(n:Int):=by omega
   simp only[this,or_false]
 ·rw[if_neg (by omega)]
  rw[List.getElem?_eq_none (by simp;omega),List.getElem?_eq_none (by simp;omega)]
theorem rZ (l:List Int) (k:Nat) (x:Int):x∈aK l k↔∃n:Nat,n<k∧x=(n:Int)∧0<l.getD n 0:=by
 unfold aK
 rw[List.mem_filter,List.mem_map]
 constructor
 ·rintro⟨⟨n,h1,rfl⟩,h2⟩
  exact⟨n,List.mem_range.1 h1,rfl,by simpa using h2⟩
 ·rintro⟨n,h1,rfl,h2⟩
  exact⟨⟨n,List.mem_range.2 h1,rfl⟩,by simpa using h2⟩
theorem ta (l:List Int) (k i:Nat) (hi:i<(aK l k).length):∃n:Nat,n<k∧(aK l k)[i]=(n:Int)∧0<l.getD n 0:=(rZ l k _).1 (List.getElem_mem hi)
end Go.Vc
namespace Wl
open Go
structure Fit (ds:be) (S Q:List Int):Prop where
 len:ds.length=64
 at_:∀s∈S,∃d,tA ds s=some d∧d.lost=false∧d.l.length+Q.count s≤d.room
end Wl
namespace Go.Vc
open Go Wl Go.Qw
theorem pF (l:List Int) (k:Nat):(aK l k).Nodup:=by
 unfold aK
 refine List.Pairwise.filter _ (List.pairwise_map.2 ?_)
 exact(List.nodup_range (n:=k)).imp fun h=>by omega
end Go.Vc
namespace Wl
open Go
end Wl
namespace Go.Vc
open Go Wl
end Go.Vc
namespace Go.Qw
open Go Go.Vc Go.Proofs Wl
set_option maxRecDepth 100000
section
variable {B:aj} {h0 h h':Heap} {As:List HP} {a pw:Addr} {mc:List Value} {offs:Int} {da:List (Option Addr)} {w:Pow} {ds:be}
end
end Go.Qw
namespace Go.Qw
open Go Go.Vc Go.Proofs Wl
set_option maxRecDepth 100000
section
variable {B:aj} {h0 h h':Heap} {As:List HP} {a pw:Addr} {mc:List Value} {offs:Int} {da:List (Option Addr)} {w:Pow} {ds:be}
end
end Go.Qw
namespace Go.Qw
open Go Go.Vc Go.Proofs Wl
set_option maxRecDepth 100000
end Go.Qw
namespace Go.Qw
open Go Go.Vc Go.Proofs
set_option maxRecDepth 100000
end Go.Qw
namespace Go.Qw
open Go Go.Vc Go.Proofs Wl
set_option maxRecDepth 100000
end Go.Qw
namespace Go.Qw
open Go Go.Vc Go.Proofs Wl
set_option maxRecDepth 100000
end Go.Qw
namespace Go.Qw
open Go Go.Vc Go.Proofs Wl
set_option maxRecDepth 100000
section
variable {B B':aj} {h0 h0' h h':Heap} {As As':List HP} {a b pw pw2:Addr} {d:bt}
end
end Go.Qw
namespace Go.Qw
open Go Go.Vc Go.Proofs Wl
section
set_option maxRecDepth 20000
variable {B:aj} {h0 h:Heap} {As:List HP} {a a2 pw pw2:Addr} {mc:List Value} {offs:Int} {da da2:List (Option Addr)} {w:Pow} {ds:be}
end
end Go.Qw
namespace Go.Qw
open Go Go.Vc Go.Proofs Wl
section
set_option maxRecDepth 20000
variable {B:aj} {h0 h:Heap} {As:List HP} {a pw b:Addr} {x:cm} {offs:Int} {da:List (Option Addr)} {w:Pow} {ds:be} {d:bt}
theorem ab.wH (n:Nat) (hn:n<64) (hd:ds[n]?=some none) (H:ab B h0 h (aX bv a pw (bG x) offs da w ds::mz pw b d::As)) {K:Unit→Heap→Prop}
  (hk:∀h',ab B h0 h' (aX bv a pw (bG x) offs (da.set n (some b)) w (ds.set n (some d))::As)→K () h'):
  aa Tryz.prog (Instr.storeAt mU (.pointer (some ((a.add 10).add n))) (.pointer (some b))) h K:=by
 obtain⟨ok,H1⟩:=Go.Vc.ab.lh H
 have he:(a.add 10).add n=a.add (10+n):=by unfold Addr.add;simp[Nat.add_assoc]
 rw[he]
 refine H1.storeAt ag 0 rfl rfl rfl rfl rfl (by simp[ok.la];omega) fun h' H2=>hk h' ?_
 rw[List.set_cons_zero,vO ok.l8]at H2
 exact ab.xT ok hn hd H2
end
end Go.Qw
namespace Go.Vc
open Go Wl Go.Qw
theorem uE {l:List Int} (h:(cf l).2=true):(cf l).1=aK l l.length∧l.length≤64∧∀n:Nat,l.getD n 0≤512:=by
 unfold cf at h⊢
 by_cases ha:l.all (bX · 0 512)=true
 ·rw[if_pos ha]at h⊢
  refine⟨rfl,by simp at h;exact h.1,fun n=>?_⟩
  rw[List.getD_eq_getElem?_getD]
  by_cases hn:n<l.length
  ·rw[List.getElem?_eq_getElem hn]
   have:=List.all_eq_true.1 ha _ (List.getElem_mem hn)
   unfold bX at this;simp at this⊢;omega
  ·rw[List.getElem?_eq_none (by omega)];simp
 ·rw[if_neg ha]at h;cases h
theorem sa (l:List Int) (i n:Nat) (hi:i<(aK l l.length).length) (hn:(aK l l.length)[i]=(n:Int)) (h64:n<64):(dW l i)[n]?=some none:=by
 unfold dW
 rw[List.getElem?_map,List.getElem?_range h64,Option.map_some,if_neg]
 intro hc
 obtain⟨j,hj,hj2⟩:=List.mem_take_iff_getElem.1 hc
 have:=me (pF l l.length) (a:=j) (b:=i) (by omega) hi (by rw[hj2,hn])
 omega
theorem nu (m:bp):∀S:List Int,(cJ m S).length=S.length*(cA m).length
 |[]=>by simp[cJ]
 |n::S=>by
  have e:cJ m (n::S)=(cA m).map (fun c=>(n,c))++cJ m S:=by unfold cJ;rw[List.flatMap_cons]
  rw[e,List.length_append,List.length_map,nu m S,List.length_cons,Nat.succ_mul,Nat.add_comm]
theorem uF (p:Pm) (extra:Int) (l:List Int) (hl:l.length≤64):jF (cv p extra l):=⟨by have:=jd l l.length;simp[cv];omega,by simp[cv],by simp[cv]⟩
end Go.Vc
namespace Go.Qw
open Go Go.Vc Go.Proofs Wl
section
set_option maxRecDepth 20000
variable {B:aj} {h0 h:Heap} {As:List HP} {pw:Addr} {w:Pow}
theorem tb (p:Pm) (extra:Int) (s:Sl) (l:List Int) (hS:St B h0 As fun h=>Rd h s 1 aA l) (hl:l.length≤2^20) (H:ab B h0 h (bB aM pw w::As)):
  ae Tryz.prog oE #[kz p,.int .i64 extra,.pointer (some pw),.slice s.ptr s.len s.cap] h fun v h'=>
   ((aO p extra w l).1≠0→v=.tuple #[.pointer none,.int .i64 (aO p extra w l).1]∧ab B h0 h' As)∧
   ((aO p extra w l).1=0→∃(a:Addr) (x:cm) (da:List (Option Addr)),v=.tuple #[.pointer (some a),.int .i64 0]∧ab B h0 h' (aX bv a pw (bG x) w.offs da (aO p extra w l).2.1 (aO p extra w l).2.2::hZ x (cv p extra l)::As)):=by
 refine nM p extra (some pw) s ?_
 unfold ku
 refine H.boxed fun a1 h1 H1=>?_
 have H1:=H1.cz
 refine(eU s l h1 (hS.at [_,_] H1) hl).mono ?_
 rintro _ h2 ⟨r,rfl,R2⟩
 have H2:=H1.im R2
 refine⟨(r,(cf l).2),rfl,?_⟩
 have bad:∀{h':Heap},ab B h0 h' As→((cf l).2&&(iK p&&bX extra 0 16))=false→
   ((aO p extra w l).1≠0→Value.tuple #[.pointer none,.int .i64 1]=.tuple #[.pointer none,.int .i64 (aO p extra w l).1]∧ab B h0 h' As)∧
   ((aO p extra w l).1=0→∃(a:Addr) (x:cm) (da:List (Option Addr)),Value.tuple #[.pointer none,.int .i64 1]=.tuple #[.pointer (some a),.int .i64 0]∧ab B h0 h' (aX bv a pw (bG x) w.offs da (aO p extra w l).2.1 (aO p extra w l).2.2::hZ x (cv p extra l)::As)):=fun{h'} H' hc=>by
  have e:aO p extra w l=(1,w,[]):=by unfold aO;rw[hc];rfl
  rw[e]
  exact⟨fun _=>⟨rfl,H'⟩,fun h=>absurd h (show¬(1:Int)=0 by decide)⟩
 refine aJ (bm (fun e=>bad H2.rest.rest.rest (by rw[e];rfl)) fun e=>?_)
 have ep:(cf l).2=true:=by simpa using e
 obtain⟨ep1,el64,el512⟩:=uE ep
 refine⟨p,(H2.box 1 rfl).bc _ rfl,(ja p h2).mono ?_⟩
 rintro _ h3 ⟨rfl,R3⟩
 have H3:ab B h0 h3 (aw aH r 1 aA (cf l).1::af a1 ew [.int .i64 p.1,.int .i64 p.2.1,.int .i64 p.2.2]::bB aM pw w::As):=by
  have:=H2.comp R3
  rw[List.append_nil]at this;exact this
 refine⟨_,rfl,bm (fun e2=>bad H3.rest.rest.rest (by rw[e2];simp)) fun e2=>?_⟩
 have em:iK p=true:=by simpa using e2
 refine an (fun e3=>bad H3.rest.rest.rest (by unfold bX;simp;omega)) fun e3=>an (fun e4=>bad H3.rest.rest.rest (by unfold bX;simp;omega)) fun e4=>bV (fun e5=>by cases e5) fun _=>?_
 rw[ep1]at H3
 refine aJ ⟨p,(H3.box 1 rfl).bc _ rfl,?_⟩
 obtain⟨lw,hlw,H3p⟩:=(H3.bL 3 [2,1,0]).mR
 refine(qd lw (H3p.box 0 rfl)).mono ?_
 rintro _ h4 ⟨rfl,rfl⟩
 have hb3:=H3.box 1 rfl
 refine⟨_,rfl,⟨hb3.cell0 rfl,hb3.cell rfl,hb3.cell rfl,trivial⟩,?_⟩
 obtain⟨m,hm⟩:∃m,m=cv p extra l:=⟨_,rfl⟩
 refine⟨_,vN (1,0,p.1,p.2.1,p.2.2,extra,r,⟨none,0,0⟩) pw w.offs,?_⟩
 refine H3.boxed fun a9 h6 H6=>?_
 obtain⟨x,hx⟩:∃x:cm,x=(1,0,p.1,p.2.1,p.2.2,extra,r,⟨none,0,0⟩):=⟨_,rfl⟩
 rw[←hx]at H6
 have ecell:(Value.agg (bj (bG x) pw w.offs (List.replicate 64 none)).toArray).cells.toList=bj (bG x) pw w.offs (List.replicate 64 none):=by simp[Value.cells]
 rw[ecell]at H6
 have H6:=H6.cz
 have hb6:=H6.box 2 rfl
 refine⟨⟨hb6.cell0 rfl,hb6.cell rfl,hb6.cell rfl,trivial⟩,?_⟩
 have H6:ab B h0 h6 (af a9 dT (bj (bG x) pw w.offs (List.replicate 64 none))::bB aM pw w::aw aH r 1 aA (aK l l.length)::As):=H6.bL 4 [0,3,1]
 have H6:=ab.vM (k:=bv) (h8:=by simp) H6
 obtain⟨P,hP⟩:∃P,P=aK l l.length:=⟨_,rfl⟩
 rw[←hP]at H6
 have hz:jF m:=hm▸uF p extra l el64
 have hPl:P.length≤64:=by rw[hP];exact Nat.le_trans (jd _ _) el64
 have hmx:∀{h':Heap} {Bs:List HP} {X:HP},ab B h0 h' (X::aw aH r 1 aA P::Bs)→jE h' x m:=fun{h' Bs X} H'=>by
  have hs:=H'.seq 1 rfl fun _=>rfl
  have hc:=(H'.own 1 rfl).cap
  subst hx;subst hm
  exact⟨rfl,rfl,rfl,rfl,by show Seq _ _ r 1 aA (aK l l.length);rw[←hP];exact hs,cL.nil _ _ _ _,hc,Nat.le_refl _⟩
 have hok:((cf l).2&&(iK p&&bX extra 0 16))=true:=by
  rw[ep,em];unfold bX;simp;omega
 have fokP:(P.any fun i=>decide (l.getD i.toNat 0<((cA m).length:Int)))=true→aO p extra w l=(7,w,[]):=fun hh=>by
  unfold aO;rw[if_pos hok,←hP,←hm,if_pos hh]
 have fokN:(P.any fun i=>decide (l.getD i.toNat 0<((cA m).length:Int)))=false→aO p extra w l=layAll (cJ m P) w (dW l P.length):=fun hh=>by
  unfold aO;rw[if_pos hok,←hP,←hm,hh,if_neg (by decide)]
 have hat:∀i (hi:i<P.length),∃n:Nat,n<l.length∧P[i]=(n:Int)∧0<l.getD n 0:=by
  subst hP;exact fun i hi=>ta l l.length i hi
 refine aE (fun i:Nat=>(i:Int)) (fun i h'=>i≤P.length∧((P.take i).any fun i=>decide (l.getD i.toNat 0<((cA m).length:Int)))=false∧ab B h0 h' (aX bv a9 pw (bG x) w.offs (List.replicate 64 none) w (List.replicate 64 none)::aw aH r 1 aA P::As)) (fun i=>P.length-i) 0 rfl ⟨by omega,by simp,H6⟩ ?_
 rintro i h7 ⟨hi,hall,H7⟩
 dsimp only at*
 obtain⟨okc,hb7⟩:=ab.iF H7
 have hrl:r.len=P.length:=(H7.own 1 rfl).len
 refine an (fun e5=>?_) (fun e5=>?_)
 ·have hi':i<P.length:=by omega
  obtain⟨n,hn,en,hpos⟩:=hat i hi'
  refine(H7.seq 1 rfl fun _=>rfl).bd i rfl hi' (n:Int) (by rw[en];rfl) ?_
  refine(hS.at [_,_] H7).tZ n rfl hn (l.getD n 0) (by rw[getD_lt hn];rfl) fun a14 hc14=>?_
  refine⟨a9,rfl,x,hb7.bc _ (by rfl),(oU x m h7 (hmx H7) hz).mono ?_⟩
  rintro _ h9 ⟨u,rfl,R9⟩
  have H9:=H7.im R9
  have hul:=(ab.ym H9).1
  refine⟨u,rfl,pT R9.aq ⟨hc14,trivial⟩,?_⟩
  refine an (fun e6=>?_) (fun e6=>?_)
  ·rw[fokP (List.any_eq_true.2 ⟨P[i],List.getElem_mem hi',by rw[en,Int.toNat_natCast];exact decide_eq_true (by omega)⟩)]
   exact⟨fun _=>⟨rfl,H9.rest.rest.rest⟩,fun h=>absurd h (show¬(7:Int)=0 by decide)⟩
  ·refine⟨i+1,by rw[Go.Vc.wrap_small _ (by omega) (by omega)];rfl,⟨by omega,?_,H9.rest⟩,by omega⟩
   rw[aF _ _ hi',List.any_append,hall,Bool.false_or,List.any_cons,List.any_nil,Bool.or_false,en,Int.toNat_natCast]
   exact decide_eq_false (by omega)
 ·have hPi:i=P.length:=by omega
  subst hPi
  rw[List.take_length]at hall
  have fok:=fokN hall
  rw[←rX l]at H7
  refine aE (fun t:Nat×List (Option Addr)=>(t.1:Int)) (fun t h'=>t.1≤P.length∧ab B h0 h' (aX bv a9 pw (bG x) w.offs t.2 w (dW l t.1)::aw aH r 1 aA P::As)) (fun t=>P.length-t.1) (0,List.replicate 64 none) rfl ⟨by simp,H7⟩ ?_
  rintro⟨i,da⟩ h10 ⟨hi,H10⟩
  dsimp only at*
  obtain⟨okd,hb10⟩:=ab.iF H10
  refine an (fun e6=>?_) (fun e6=>?_)
  ·have hi':i<P.length:=by omega
   obtain⟨n,hn,en,hpos⟩:=hat i hi'
   have h512:=el512 n
   refine(H10.seq 1 rfl fun _=>rfl).bd i rfl hi' (n:Int) (by rw[en];rfl) ?_
   refine(hS.at [_,_] H10).bd n rfl hn (l.getD n 0) (by rw[getD_lt hn];rfl) ?_
   refine⟨a9,rfl,(uy (l.getD n 0) pw h10).mono ?_⟩
   rintro _ h11 ⟨Q1,_⟩
   obtain⟨b,rfl,R11⟩:=Q1 (by omega)
   have H11:=(H10.im R11).bL 2 [1,0]
   refine⟨_,rfl,trivial,⟨by omega,by omega⟩,?_⟩
   rw[Int.toNat_natCast,Nat.mul_one]
   have hiQ:i<(aK l l.length).length:=by rw[←hP];exact hi'
   have enQ:(aK l l.length)[i]=(n:Int):=by rw[←en];simp only[hP]
   refine Go.Qw.ab.wH n (by omega) (sa l i n hiQ enQ (by omega)) H11 fun h12 H12=>?_
   refine⟨trivial,(i+1,da.set n (some b)),by dsimp only;rw[Go.Vc.wrap_small _ (by omega) (by omega)];rfl,⟨by dsimp only;omega,?_⟩,by dsimp only;omega⟩
   dsimp only
   rw[←rY l i n hiQ enQ (by omega)]
   exact H12
  ·have hPi:i=P.length:=by omega
   subst hPi
   refine⟨a9,rfl,x,hb10.bc _ (by rfl),(sZ x m r P h10 (hmx H10) hz (H10.seq 1 rfl fun _=>rfl) (by omega)).mono ?_⟩
   rintro _ h13 ⟨u,ys,rfl,R13⟩
   have H13:=(H10.im R13).bL 2 [1,0]
   refine⟨u,rfl,?_⟩
   have hspl:=qh m hz
   refine(vL u ys (cJ m P) (St.wZ 0 rfl fun _ hq=>hq) ?_ ?_ H13).mono ?_
   ·rw[nu]
    have:=Nat.mul_le_mul hPl hspl
    omega
   ·intro y hy
    obtain⟨hy1,hy2⟩:=sY hy
    obtain⟨i,hi,e⟩:=List.getElem_of_mem hy1
    obtain⟨n,hn,en,_⟩:=hat i hi
    rw[←e,en,hy2]
    exact⟨⟨by omega,by omega⟩,by decide⟩
   rintro _ h14 ⟨rfl,H14⟩
   rw[fok]
   refine⟨_,rfl,cT (fun e7=>⟨fun _=>⟨rfl,H14.rest.rest.rest⟩,fun h=>absurd h e7⟩) fun e7=>⟨fun h=>absurd e7 h,fun _=>⟨a9,x,da,rfl,?_⟩⟩⟩
   rw[←hm]
   exact H14.mP.nB 1 rfl fun q hq=>by
    subst hx;subst hm
    exact⟨rfl,rfl,rfl,rfl,by show Seq _ _ r 1 aA (aK l l.length);rw[←hP];exact hq.1.seq (fun _=>rfl) hq.2,cL.nil _ _ _ _,hq.1.cap,Nat.le_refl _⟩
end
end Go.Qw
namespace Go.Vc
open Go Wl Go.Qw
end Go.Vc
namespace Go.Qw
open Go Go.Vc Go.Proofs Wl
set_option maxRecDepth 20000
end Go.Qw
namespace Go.Qw
open Go Go.Vc Go.Proofs Wl
section
set_option maxRecDepth 20000
variable {B:aj} {h0 h:Heap} {As:List HP} {a pw b:Addr} {x:cm} {offs:Int} {da:List (Option Addr)} {w:Pow} {ds:be} {d:bt}
end
end Go.Qw
namespace Go.Qw
open Go Go.Vc Go.Proofs Wl
set_option maxRecDepth 100000
end Go.Qw
namespace Go.Vc
open Go Wl Go.Qw
end Go.Vc
namespace Go.Qw
open Go Go.Vc Go.Proofs Wl
section
set_option maxRecDepth 20000
variable {B:aj} {h0 h:Heap} {As:List HP} {a pw:Addr} {offs:Int} {da:List (Option Addr)} {w:Pow} {ds:be}
theorem wI:(aO (1,1,1) 0 Pow.new [5]).1=0:=by decide+kernel
end
end Go.Qw
namespace Wl
structure Mv where
 kind:Int
 name:ByteArray
 data:List UInt8
 slot:Int
 n:Int
 m:Int
 mask:Int
 keeps:List Int
 torns:List Int
end Wl
namespace Go.Vc
open Go Wl
end Go.Vc
namespace Go.Qw
open Go Go.Vc Go.Proofs Wl
set_option maxRecDepth 100000
end Go.Qw
namespace Go.Qw
open Go Go.Vc Go.Proofs Wl
set_option maxRecDepth 100000
abbrev cC:=Int×ByteArray×Sl×Int×Int×Int×Int×Sl×Sl
abbrev bg (y:cC):List Value:=[.int .i64 y.1,.string y.2.1,.slice y.2.2.1.ptr y.2.2.1.len y.2.2.1.cap,.int .i64 y.2.2.2.1,.int .i64 y.2.2.2.2.1,.int .i64 y.2.2.2.2.2.1,.int .u32 y.2.2.2.2.2.2.1,.slice y.2.2.2.2.2.2.2.1.ptr y.2.2.2.2.2.2.2.1.len y.2.2.2.2.2.2.2.1.cap,.slice y.2.2.2.2.2.2.2.2.ptr y.2.2.2.2.2.2.2.2.len y.2.2.2.2.2.2.2.2.cap]
abbrev eR (y:cC):Value:=.agg (bg y).toArray
structure zL (y:cC) (p:eI):Prop where
 kind:y.1=p.kind
 name:dl y.2.1=p.name
 slot:y.2.2.2.1=p.slot
 n:y.2.2.2.2.1=p.n
 m:y.2.2.2.2.2.1=p.m
 mask:y.2.2.2.2.2.2.1=p.mask
abbrev uG (y:cC) (p:eI):List HP:=[aw ay y.2.2.1 1 aB p.data,aw aH y.2.2.2.2.2.2.2.1 1 aA p.keeps,aw aH y.2.2.2.2.2.2.2.2 1 aA p.torns]
abbrev li (h:Heap) (o:Option eI) (v:Value) (h':Heap):Prop:=∃y:cC,v=.tuple #[eR y,.bool o.isSome]∧zL y (o.getD {})∧Sp h h' (uG y (o.getD {}))
section
variable {B:aj} {h0 h:Heap} {As:List HP}
theorem bw {a:Addr} {cs:List Value} (H:ab B h0 h (af a av cs::As)) (hcs:cs.length=9) (y:cC) {K:cC→Heap→Prop} (hK:∀h',ab B h0 h' As→K y h'):
  aa Tryz.prog (Instr.storeAt av (.pointer (some a)) (eR y)) h fun _ h'=>∃res:cC,ai h' a 0 (bg res)∧K res h':=by
 refine H.storeAll ag 0 rfl rfl (bg y) rfl rfl rfl (by rw[hcs];rfl) fun h1 H1=>?_
 refine⟨y,(H1.box 0 rfl).bc _ rfl,hK h1 (ab.del H1 0)⟩
theorem wJ (H:Sp h0 h []) (y:cC) (p:eI) (h1:y.2.2.1=aG) (h2:y.2.2.2.2.2.2.2.1=aG) (h3:y.2.2.2.2.2.2.2.2=aG) (e1:p.data=[]) (e2:p.keeps=[]) (e3:p.torns=[]):Sp h0 h (uG y p):=by
 unfold uG
 rw[h1,h2,h3,e1,e2,e3]
 exact((H.nil ay 1 aB).nil aH 1 aA).nil aH 1 aA
end
def bW:cC:=(0,⟨#[]⟩,aG,0,0,0,0,aG,aG)
theorem qi {h h':Heap} (H:Sp h h' []):li h none (.tuple #[eR bW,.bool false]) h':=⟨bW,rfl,⟨rfl,rfl,rfl,rfl,rfl,rfl⟩,wJ H bW {} rfl rfl rfl rfl rfl rfl⟩
theorem uH:Tryz.prog.underlying nI=some (.map bA aH):=by kernel_rfl
theorem uI:Tryz.prog.underlying bA=some .string:=by kernel_rfl
theorem zd:ao Tryz.prog (zeroValue aH) (.int .i64 0):=fun w=>Tryz.zeroValue3 w
def kinds:List (ByteArray×Int):=[(⟨#[103,101,116]⟩,2),(⟨#[100,101,108]⟩,3),(⟨#[115,116,97,116]⟩,5)]
theorem xn {b:ByteArray} {a:Array UInt8}:b=⟨a⟩↔dl b=a.toList:=by
 constructor
 ·rintro rfl;rfl
 ·intro h;cases b;congr;exact Array.toList_inj.1 h
theorem vP (x:ByteArray):dF x kinds=gN (dl x):=by
 unfold kinds gN
 simp only[dF,eq_comm (b:=x),xn]
theorem sd {a b:Array UInt8} (h:a≠b):(⟨a⟩:ByteArray)≠⟨b⟩:=fun e=>h (by cases e;rfl)
theorem se (s:Sl) (l:List ByteArray) (h:Heap) (hs:Rd h s 1 ma l) (hne:0<l.length):
  ae Tryz.prog nJ #[.slice s.ptr s.len s.cap] h (li h (match gN (dl l[0])with|some k=>if l.length=2 then some {kind:=k,name:=(l.map dl).getD 1 []}else none|none=>none)):=by
 refine mW s ?_
 unfold jA
 have hlen:=hs.len
 refine(Sp.refl h).alloc ag rfl fun a h1 H1=>?_
 have H1:Sp h h1 [af a av (bg bW)]:=H1
 refine H1.yl (Value.int .i64) fun r h2 H2=>?_
 refine H2.rr (2:Int) 1 rfl uH uI fun h3 H3=>?_
 refine H3.rr (3:Int) 1 rfl uH uI fun h4 H4=>?_
 refine H4.rr (5:Int) 1 rfl uH uI fun h5 H5=>?_
 have H5:Sp h h5 [af a av (bg bW),rn r (Value.int .i64) kinds]:=by
  have e:∀x y z:ByteArray,x=⟨#[103,101,116]⟩→y=⟨#[100,101,108]⟩→z=⟨#[115,116,97,116]⟩→eJ z (5:Int) (eJ y 3 (eJ x 2 []))=kinds:=by
   rintro _ _ _ rfl rfl rfl
   simp only[eJ]
   rw[if_neg (sd (by decide))]
   simp only[eJ]
   rw[if_neg (sd (by decide)),if_neg (sd (by decide))];rfl
  have:=e _ _ _ rfl rfl rfl
  rw[←this];exact H5
 refine(Seq.up hs H5.aq).bd (g:=Value.string) 0 rfl hne l[0] rfl ?_
 refine(H5.map 1 rfl).wu uH uI zd ⟨((dF l[0] kinds).getD 0,(dF l[0] kinds).isSome),rfl,?_⟩
 rw[vP]
 have H6:Sp h h5 [af a av (bg bW)]:=ab.del H5 1
 refine aJ ?_
 cases hk:gN (dl l[0])with
 |none=>exact jV rfl (bw H6 rfl bW fun h' H'=>qi H')
 |some k=>
  refine qY rfl ?_
  refine cT (fun hn=>?_) fun he=>?_
  ·dsimp only
   rw[if_neg (by omega)]
   exact bw H6 rfl bW fun h' H'=>qi H'
  ·dsimp only
   rw[if_pos (by omega)]
   have h1l:1<l.length:=by omega
   refine(Seq.up hs H6.aq).bd (g:=Value.string) 1 rfl h1l l[1] rfl ?_
   refine bw H6 rfl (k,l[1],aG,0,0,0,0,aG,aG) fun h' H'=>⟨_,rfl,⟨rfl,?_,rfl,rfl,rfl,rfl⟩,wJ H' _ _ rfl rfl rfl rfl rfl rfl⟩
   simp[List.getD_eq_getElem?_getD,List.getElem?_eq_getElem h1l]
theorem uJ (s:Sl) (l:List ByteArray) (h:Heap) (hs:Rd h s 1 ma l) (hsz:∀b∈l,1≤b.size∧b.size≤2^20):
  ae Tryz.prog pn #[.slice s.ptr s.len s.cap] h (li h (if l.length=3 then(hF ((l.map dl).getD 2 [])).map fun d=>{kind:=1,name:=(l.map dl).getD 1 [],data:=d}else none)):=by
 refine oz s ?_
 unfold lx
 have hlen:=hs.len
 refine(Sp.refl h).alloc ag rfl fun a h1 H1=>?_
 have H1:Sp h h1 [af a av (bg bW)]:=H1
 refine cT (fun hn=>?_) fun he=>?_
 ·rw[if_neg (by omega)]
  exact bw H1 rfl bW fun h' H'=>qi H'
 rw[if_pos (by omega)]
 have h2l:2<l.length:=by omega
 have h1l:1<l.length:=by omega
 have e2:(l.map dl).getD 2 []=dl l[2]:=by simp[List.getD_eq_getElem?_getD,List.getElem?_eq_getElem h2l]
 have e1:(l.map dl).getD 1 []=dl l[1]:=by simp[List.getD_eq_getElem?_getD,List.getElem?_eq_getElem h1l]
 rw[e1,e2]
 refine(Seq.up hs H1.aq).bd (g:=Value.string) 2 rfl h2l l[2] rfl ?_
 have hb:=hsz _ (List.getElem_mem h2l)
 refine(ux l[2] hb.2 hb.1 h1).mono ?_
 rintro _ h3 ⟨r,rfl,R3⟩
 have H3:=H1.comp R3
 refine⟨(_,_),rfl,?_⟩
 cases hx:hF (dl l[2])with
 |none=>exact jV rfl (bw (ab.del H3 1) rfl bW fun h' H'=>qi H')
 |some d=>
  rw[hx]at H3
  refine qY rfl ?_
  refine(Seq.up hs H3.aq).bd (g:=Value.string) 1 rfl h1l l[1] rfl ?_
  refine bw H3 rfl (1,l[1],r,0,0,0,0,aG,aG) fun h' H'=>⟨_,rfl,⟨rfl,rfl,rfl,rfl,rfl,rfl⟩,?_⟩
  exact(H'.nil aH 1 aA).nil aH 1 aA
end Go.Qw
namespace Wl
theorem qj:∀(l:List Int) (j:Nat) (a b:Int),l[2*j]?=some a→l[2*j+1]?=some b→(dm l)[j]?=some a∧(eS l)[j]?=some b
 |[],j,a,b,ha,_=>by simp at ha
 |[_],j,a,b,_,hb=>by simp at hb
 |x::y::r,0,a,b,ha,hb=>by
  simp at ha hb
  subst ha;subst hb;exact⟨rfl,rfl⟩
 |x::y::r,j+1,a,b,ha,hb=>by
  have e1:2*(j+1)=2*j+2:=by omega
  have e2:2*(j+1)+1=2*j+1+2:=by omega
  rw[e1]at ha;rw[e2]at hb
  simpa[dm,eS]using qj r j a b (by simpa using ha) (by simpa using hb)
theorem mC:∀(l:List Int),(dm l).length=l.length/2∧(eS l).length=l.length/2
 |[]=>⟨rfl,rfl⟩
 |[_]=>by simp[dm,eS]
 |a::b::r=>by simp only[dm,eS,List.length_cons,(mC r).1,(mC r).2];omega
end Wl
namespace Go.Qw
open Go Go.Vc Go.Proofs Wl
set_option maxRecDepth 100000
theorem ze {w lit:ByteArray} {len:Nat} {n:Int} {h:Heap} {K:Bool→Heap→Prop} (hK:K (decide (dl w=dl lit∧(len:Int)=n)) h):Br (w.toList==lit.toList) (K ((len:Int)==n) h) (K false h):=by
 refine bV (fun e=>?_) fun e=>?_
 ·have e:=dE (eq_of_beq e)
  subst e
  have:decide (dl w=dl w∧(len:Int)=n)=((len:Int)==n):=by by_cases hn:(len:Int)=n<;>simp[hn]
  rw[this]at hK;exact hK
 ·have hne:¬(dl w=dl lit∧(len:Int)=n):=fun hh=>by
   have:w=lit:=by cases w;cases lit;congr;exact Array.toList_inj.1 hh.1
   rw[this,beq_self_eq_true]at e;cases e
  rw[decide_eq_false hne]at hK;exact hK
theorem eD {w lit:ByteArray} {len:Nat} {n:Int} {h:Heap} {rest:Bool→Heap→Prop} (hr:rest (decide (dl w=dl lit∧(len:Int)=n)) h):aD rest (fun K=>Br (w.toList==lit.toList) (K ((len:Int)==n) h) (K false h)):=aJ (ze hr)
section
variable {B:aj} {h0 h:Heap} {As:List HP}
theorem jG {a:Addr} {cs:List Value} (H:ab B h0 h (af a av cs::As)) (hcs:cs.length=9) (y:cC) {K:cC→Heap→Prop} (hK:∀h',ab B h0 h' As→K y h'):
  aa Tryz.prog (Instr.storeAt av (.pointer (some a)) (eR y)) h fun _ h'=>ar.ok [] h'∧∃res:cC,ai h' a 0 (bg res)∧K res h':=
 (bw H hcs y hK).mono fun _ _ x=>⟨trivial,x⟩
end
theorem mD {h h':Heap} (H:Sp h h' []) (k sl n m ms:Int):li h (some {kind:=k,slot:=sl,n:=n,m:=m,mask:=ms}) (.tuple #[eR (k,⟨#[]⟩,aG,sl,n,m,ms,aG,aG),.bool true]) h':=
 ⟨_,rfl,⟨rfl,rfl,rfl,rfl,rfl,rfl⟩,wJ H _ _ rfl rfl rfl rfl rfl rfl⟩
section
variable {B:aj} {h0 h:Heap} {As:List HP}
abbrev fY (l0:Int) (k t:Sl):cC:=(13,⟨#[]⟩,aG,0,l0,0,0,k,t)
theorem nV {a1 a:Addr} {l0:Int} {k t k' t':Sl} {ks ts:List Int} (H:ab B h0 h (af a1 av (bg bW)::af a av (bg (fY l0 k t))::aw aH k' 1 aA ks::aw aH t' 1 aA ts::As)) {K:Heap→Prop}
  (hK:∀h',ab B h0 h' (af a1 av (bg bW)::af a av (bg (fY l0 k' t'))::aw aH k' 1 aA ks::aw aH t' 1 aA ts::As)→K h'):
  aa Tryz.prog (Instr.storeAt nH (.pointer (some (a.add 7))) (.slice k'.ptr k'.len k'.cap)) h fun _ h1=>ar.ok [] h1∧aa Tryz.prog (Instr.storeAt nH (.pointer (some (a.add 8))) (.slice t'.ptr t'.len t'.cap)) h1 fun _ h2=>ar.ok [] h2∧K h2:=by
 refine H.storeAt ag 1 rfl rfl rfl rfl rfl (show 7<9 by decide) fun h1 H1=>⟨trivial,?_⟩
 exact H1.storeAt ag 1 rfl rfl rfl rfl rfl (show 8<9 by decide) fun h2 H2=>⟨trivial,hK h2 H2⟩
end
theorem pG (w:ByteArray) (s:Sl) (l:List Int) (h:Heap) (hs:Rd h s 1 aA l) (hl:l.length≤2^20) (hb:∀x∈l,0≤x∧x<2^32):
  ae Tryz.prog mm #[.string w,.slice s.ptr s.len s.cap] h (li h (nF (dl w) l)):=by
 refine lG w s ?_
 unfold ig
 have hlen:=hs.len
 refine(Sp.refl h).alloc ag rfl fun a1 h1 H1=>?_
 have H1:Sp h h1 [af a1 av (bg bW)]:=H1
 have hs1:=Seq.up hs H1.aq
 have g:∀(i:Nat) (hi:i<l.length),l.getD i 0=l[i]:=fun i hi=>getD_lt hi
 refine aJ ?_
 refine eD ?_
 unfold nF
 refine an (fun e=>?_) fun n1=>?_
 ·rw[if_pos ⟨e.1,by omega⟩,g 0 (by omega),g 1 (by omega)]
  refine hs1.bd (g:=Value.int .i64) 0 rfl (by omega) _ rfl ?_
  refine hs1.bd (g:=Value.int .i64) 1 rfl (by omega) _ rfl ?_
  exact jG H1 rfl (6,⟨#[]⟩,aG,l[0],l[1],0,0,aG,aG) fun h' H'=>mD H' _ _ _ _ _
 rw[if_neg (fun hh=>n1 ⟨hh.1,by omega⟩)]
 refine eD ?_
 refine an (fun e=>?_) fun n2=>?_
 ·rw[if_pos ⟨e.1,by omega⟩,g 0 (by omega)]
  refine hs1.bd (g:=Value.int .i64) 0 rfl (by omega) _ rfl ?_
  exact bw H1 rfl (7,⟨#[]⟩,aG,l[0],0,0,0,aG,aG) fun h' H'=>mD H' _ _ _ _ _
 rw[if_neg (fun hh=>n2 ⟨hh.1,by omega⟩)]
 refine eD ?_
 refine an (fun e=>?_) fun n3=>?_
 ·rw[if_pos ⟨e.1,by omega⟩,g 0 (by omega),g 1 (by omega)]
  refine hs1.bd (g:=Value.int .i64) 0 rfl (by omega) _ rfl ?_
  refine hs1.bd (g:=Value.int .i64) 1 rfl (by omega) _ rfl ?_
  exact jG H1 rfl (8,⟨#[]⟩,aG,l[0],l[1],0,0,aG,aG) fun h' H'=>mD H' _ _ _ _ _
 rw[if_neg (fun hh=>n3 ⟨hh.1,by omega⟩)]
 refine eD ?_
 refine an (fun e=>?_) fun n4=>?_
 ·rw[if_pos ⟨e.1,by omega⟩,g 0 (by omega)]
  refine hs1.bd (g:=Value.int .i64) 0 rfl (by omega) _ rfl ?_
  exact bw H1 rfl (9,⟨#[]⟩,aG,l[0],0,0,0,aG,aG) fun h' H'=>mD H' _ _ _ _ _
 rw[if_neg (fun hh=>n4 ⟨hh.1,by omega⟩)]
 refine eD ?_
 refine an (fun e=>?_) fun n5=>?_
 ·rw[if_pos ⟨e.1,by omega⟩,g 0 (by omega),g 1 (by omega)]
  refine hs1.bd (g:=Value.int .i64) 0 rfl (by omega) _ rfl ?_
  refine hs1.bd (g:=Value.int .i64) 1 rfl (by omega) _ rfl ?_
  exact jG H1 rfl (10,⟨#[]⟩,aG,0,l[0],l[1],0,aG,aG) fun h' H'=>mD H' _ _ _ _ _
 rw[if_neg (fun hh=>n5 ⟨hh.1,by omega⟩)]
 refine eD ?_
 refine an (fun e=>?_) fun n6=>?_
 ·rw[if_pos ⟨e.1,by omega⟩,g 0 (by omega),g 1 (by omega),g 2 (by omega),g 3 (by omega)]
  refine hs1.bd (g:=Value.int .i64) 0 rfl (by omega) _ rfl ?_
  refine hs1.bd (g:=Value.int .i64) 1 rfl (by omega) _ rfl ?_
  refine hs1.bd (g:=Value.int .i64) 2 rfl (by omega) _ rfl ?_
  refine hs1.bd (g:=Value.int .i64) 3 rfl (by omega) _ rfl ?_
  have h3:=hb l[3] (List.getElem_mem (by omega))
  have hw:IntKind.wrap .u32 l[3]=l[3]:=by show _%(4294967296:Int)=_;omega
  rw[hw]
  exact jG H1 rfl (11,⟨#[]⟩,aG,l[0],l[1],l[2],l[3],aG,aG) fun h' H'=>mD H' _ _ _ _ _
 rw[if_neg (fun hh=>n6 ⟨hh.1,by omega⟩)]
 refine eD ?_
 refine an (fun e=>?_) fun n7=>?_
 ·rw[if_pos ⟨e.1,by omega⟩,g 0 (by omega)]
  refine hs1.bd (g:=Value.int .i64) 0 rfl (by omega) _ rfl ?_
  exact bw H1 rfl (12,⟨#[]⟩,aG,0,l[0],0,0,aG,aG) fun h' H'=>mD H' _ _ _ _ _
 rw[if_neg (fun hh=>n7 ⟨hh.1,by omega⟩)]
 have htm:Int.tmod (s.len:Int) 2=((l.length%2:Nat):Int):=by rw[Int.tmod_eq_emod_of_nonneg (by omega),hlen];rfl
 have end0:¬(dl w=[102,97,108,108]∧l.length%2=1)→aa Tryz.prog (Instr.storeAt av (.pointer (some a1)) (eR bW)) h1 fun _ h'=>∃res:cC,ai h' a1 0 (bg res)∧li h (if dl w=[102,97,108,108]∧l.length%2=1 then some {kind:=13,n:=l.getD 0 0,keeps:=dm l.tail,torns:=eS l.tail}else none) (.tuple #[eR res,.bool false]) h':=fun hn=>by
  rw[if_neg hn]
  exact bw H1 rfl bW fun h' H'=>qi H'
 refine bu (fun b h'=>h'=h1∧b=decide (dl w=[102,97,108,108]∧l.length%2=1)) ?_ ?_
 ·refine bV (fun e=>?_) fun e=>?_
  ·have e:w=⟨#[102,97,108,108]⟩:=dE (eq_of_beq e)
   subst e
   refine⟨by decide,rfl,?_⟩
   rw[htm]
   by_cases h1:l.length%2=1
   ·rw[decide_eq_true ⟨rfl,h1⟩,h1];rfl
   ·have:l.length%2=0:=by omega
    rw[decide_eq_false (fun hh=>h1 hh.2),this];rfl
  ·refine⟨rfl,?_⟩
   rw[decide_eq_false]
   rintro⟨hh,_⟩
   have hw:w=⟨#[102,97,108,108]⟩:=xn.2 hh
   rw[hw]at e
   have e2:((⟨#[102,97,108,108]⟩:ByteArray).toList==(⟨#[102,97,108,108]⟩:ByteArray).toList)=false:=e
   rw[beq_self_eq_true]at e2;cases e2
 rintro _ _ ⟨rfl,rfl⟩
 refine an (fun e=>?_) fun n8=>end0 n8
 rw[if_pos e,g 0 (by omega)]
 refine hs1.bd (g:=Value.int .i64) 0 rfl (by omega) _ rfl ?_
 obtain⟨l0,hl0⟩:∃l0,l0=l[0]'(by omega):=⟨_,rfl⟩
 rw[←hl0]
 refine H1.alloc ag rfl fun a h2 H2=>?_
 have H2:Sp h h2 [af a1 av (bg bW),af a av (bg bW)]:=H2
 refine H2.storeAll ag 1 rfl rfl (bg (fY l0 aG aG)) rfl rfl rfl rfl fun h3 H3=>?_
 have H3:Sp h h3 [af a1 av (bg bW),af a av (bg (fY l0 aG aG)),aw aH aG 1 aA [],aw aH aG 1 aA []]:=(H3.nil aH 1 aA).nil aH 1 aA
 have hel:=mC l.tail
 have htl:l.tail.length=l.length-1:=List.length_tail
 refine aE (fun t:Sl×Sl×Nat=>((2*t.2.2+1:Nat):Int)) (fun t h'=>2*t.2.2≤l.length-1∧Sp h h' [af a1 av (bg bW),af a av (bg (fY l0 t.1 t.2.1)),aw aH t.1 1 aA ((dm l.tail).take t.2.2),aw aH t.2.1 1 aA ((eS l.tail).take t.2.2)]) (fun t=>l.length-t.2.2) (aG,aG,0) rfl ⟨by simp,by simpa using H3⟩ ?_
 rintro⟨k,t,j⟩ h4 ⟨hj,H4⟩
 dsimp only at hj H4⊢
 refine an (fun hlt=>?_) fun hge=>?_
 ·have g1:2*j+1<l.length:=by omega
  have g2:2*j+1+1<l.length:=by omega
  have hw1:IntKind.wrap .i64 (((2*j+1:Nat):Int)+1)=((2*j+1+1:Nat):Int):=by rw[wrap_small _ (by omega) (by omega)];rfl
  have hw2:IntKind.wrap .i64 (((2*j+1:Nat):Int)+2)=((2*(j+1)+1:Nat):Int):=by rw[wrap_small _ (by omega) (by omega)];omega
  rw[hw1,hw2]
  obtain⟨x,hx⟩:∃x,x=l[2*j+1]:=⟨_,rfl⟩
  obtain⟨y,hy⟩:∃y,y=l[2*j+1+1]:=⟨_,rfl⟩
  have eg:=qj l.tail j x y (by rw[List.getElem?_tail,List.getElem?_eq_getElem g1,hx]) (by rw[List.getElem?_tail,List.getElem?_eq_getElem g2,hy])
  have je:j<(dm l.tail).length:=by omega
  have jo:j<(eS l.tail).length:=by omega
  have ex:(dm l.tail).take (j+1)=(dm l.tail).take j++[x]:=by
   rw[aF _ _ je];have:=eg.1;rw[List.getElem?_eq_getElem je]at this;rw[Option.some.inj this]
  have ey:(eS l.tail).take (j+1)=(eS l.tail).take j++[y]:=by
   rw[aF _ _ jo];have:=eg.2;rw[List.getElem?_eq_getElem jo]at this;rw[Option.some.inj this]
  have hb4:=H4.box 1 rfl
  have hs4:=Seq.up hs H4.aq
  have hK:∀{k' t':Sl} {As:List HP} {h':Heap},Sp h h' (af a1 av (bg bW)::af a av (bg (fY l0 k' t'))::aw aH k' 1 aA ((dm l.tail).take j++[x])::aw aH t' 1 aA ((eS l.tail).take j++[y])::As)→
    ∃q:Sl×Sl×Nat,((2*(j+1)+1:Nat):Int)=((2*q.2.2+1:Nat):Int)∧(2*q.2.2≤l.length-1∧Sp h h' [af a1 av (bg bW),af a av (bg (fY l0 q.1 q.2.1)),aw aH q.1 1 aA ((dm l.tail).take q.2.2),aw aH q.2.1 1 aA ((eS l.tail).take q.2.2)])∧l.length-q.2.2<l.length-j:=fun{k' t' As h'} H=>by
   refine⟨(k',t',j+1),rfl,⟨by dsimp only;omega,?_⟩,by dsimp only;omega⟩
   dsimp only
   rw[ex,ey]
   exact ab.de H [0,1,2,3]
  obtain⟨b1,p1,x',c1,e1⟩:=hs.tZ (g:=Value.int .i64) (i:=((2*j+1:Nat):Int)) (2*j+1) rfl g1 x (by rw[hx];rfl) (K:=fun _ z=>z=x) (fun _ _=>rfl)
  obtain⟨b2,p2,y',c2,e2⟩:=hs.tZ (g:=Value.int .i64) (i:=((2*j+1+1:Nat):Int)) (2*j+1+1) rfl g2 y (by rw[hy];rfl) (K:=fun _ z=>z=y) (fun _ _=>rfl)
  rw[e1]at c1;rw[e2]at c2
  have q1:∀{h'},ax (fun b=>b<h.size) h h'→cellOf h' (b1.add (((2*j+1:Nat):Int).toNat*1))=some (.int .i64 x):=fun P=>P.cell (cg c1) c1
  have q2:∀{h'},ax (fun b=>b<h.size) h h'→cellOf h' (b2.add (((2*j+1+1:Nat):Int).toNat*1))=some (.int .i64 y):=fun P=>P.cell (cg c2) c2
  have z1:((dm l.tail).take j).length≤2^20:=by simp;omega
  have z2:((eS l.tail).take j).length≤2^20:=by simp;omega
  refine⟨k,hb4.cell rfl,b1,p1,x,q1 H4.aq,t,hb4.cell rfl,b2,p2,y,q2 H4.aq,?_,?_⟩
  ·refine H4.lit ag aA dI rfl [x] rfl (show 1≤2^20 by decide) rfl fun v h5 H5=>⟨⟨q2 H5.aq,(H5.box 1 rfl).cell rfl,(H5.box 1 rfl).cell rfl,trivial⟩,?_,?_⟩
   ·refine H5.append ag 2 rfl dI ⟨_,_,rfl,rfl⟩ rfl (by decide) (fun _=>rfl) (H5.seq 4 rfl fun _=>rfl) dq (by simp;omega) fun k' h6 H6=>⟨⟨q2 H6.aq,(H6.box 1 rfl).cell rfl,trivial⟩,?_⟩
    refine H6.lit ag aA dI rfl [y] rfl (show 1≤2^20 by decide) rfl fun v2 h7 H7=>⟨⟨(H7.box 1 rfl).cell rfl,trivial⟩,?_⟩
    refine H7.append ag 3 rfl dI ⟨_,_,rfl,rfl⟩ rfl (by decide) (fun _=>rfl) (H7.seq 5 rfl fun _=>rfl) dq (by simp;omega) fun t' h8 H8=>⟨trivial,?_⟩
    exact nV (As:=[aw aH v 1 aA [x],aw aH v2 1 aA [y]]) H8 fun h' H'=>hK H'
   ·refine H5.lit ag aA dI rfl [y] rfl (show 1≤2^20 by decide) rfl fun v2 h6 H6=>⟨⟨(H6.box 1 rfl).cell rfl,(H6.box 1 rfl).cell rfl,trivial⟩,?_⟩
    refine H6.append ag 2 rfl dI ⟨_,_,rfl,rfl⟩ rfl (by decide) (fun _=>rfl) (H6.seq 4 rfl fun _=>rfl) dq (by simp;omega) fun k' h7 H7=>⟨⟨(H7.box 1 rfl).cell rfl,trivial⟩,?_⟩
    refine H7.append ag 3 rfl dI ⟨_,_,rfl,rfl⟩ rfl (by decide) (fun _=>rfl) (H7.seq 5 rfl fun _=>rfl) dq (by simp;omega) fun t' h8 H8=>⟨trivial,?_⟩
    exact nV (As:=[aw aH v 1 aA [x],aw aH v2 1 aA [y]]) H8 fun h' H'=>hK H'
  ·refine H4.lit ag aA dI rfl [y] rfl (show 1≤2^20 by decide) rfl fun v h5 H5=>⟨⟨(H5.box 1 rfl).cell rfl,q1 H5.aq,(H5.box 1 rfl).cell rfl,trivial⟩,?_⟩
   refine H5.lit ag aA dI rfl [x] rfl (show 1≤2^20 by decide) rfl fun v2 h6 H6=>⟨⟨(H6.box 1 rfl).cell rfl,(H6.box 1 rfl).cell rfl,trivial⟩,?_⟩
   refine H6.append ag 2 rfl dI ⟨_,_,rfl,rfl⟩ rfl (by decide) (fun _=>rfl) (H6.seq 5 rfl fun _=>rfl) dq (by simp;omega) fun k' h7 H7=>⟨⟨(H7.box 1 rfl).cell rfl,trivial⟩,?_⟩
   refine H7.append ag 3 rfl dI ⟨_,_,rfl,rfl⟩ rfl (by decide) (fun _=>rfl) (H7.seq 4 rfl fun _=>rfl) dq (by simp;omega) fun t' h8 H8=>⟨trivial,?_⟩
   exact nV (As:=[aw aH v 1 aA [y],aw aH v2 1 aA [x]]) H8 fun h' H'=>hK H'
 ·have e0:j=(dm l.tail).length:=by omega
  have e1:j=(eS l.tail).length:=by omega
  rw[List.take_of_length_le (by omega),List.take_of_length_le (by omega)]at H4
  refine⟨_,(H4.box 1 rfl).bc _ rfl,?_⟩
  refine bw H4 rfl (fY l0 k t) fun h' H'=>⟨_,rfl,⟨rfl,rfl,rfl,rfl,rfl,rfl⟩,?_⟩
  have:=ab.del H' 0
  have H9:=this.nil ay 1 aB
  exact ab.de H9 [2,0,1]
end Go.Qw
namespace Wl
theorem nW (c:UInt8):∀(l w:List UInt8),∀x∈cP c w l,x.length≤w.length+l.length
 |[],w,x,hx=>by simp[cP]at hx;subst hx;omega
 |y::r,w,x,hx=>by
  unfold cP at hx
  split at hx
  ·rcases List.mem_cons.1 hx with rfl|hx
   ·omega
   ·have:=nW c r [] x hx;simp at this⊢;omega
  ·have:=nW c r _ x hx;simp at this⊢;omega
theorem sf:∀{l:List (List UInt8)} {ns:List Nat},ck l=some ns→∀n∈ns,n<10^9
 |[],ns,h,n,hn=>by cases h;cases hn
 |x::r,ns,h,n,hn=>by
  simp only[ck]at h
  cases hx:cj x with
  |none=>rw[hx]at h;cases h
  |some k=>
   rw[hx]at h
   cases hr:ck r with
   |none=>rw[hr]at h;cases h
   |some ms=>
    rw[hr]at h;cases h
    rcases List.mem_cons.1 hn with rfl|hn
    ·exact xA hx
    ·exact sf hr n hn
end Wl
namespace Go.Qw
open Go Go.Vc Go.Proofs Wl
set_option maxRecDepth 100000
theorem mE {h h2 h3:Heap} {a:Addr} {cs:List Value} {A:HP} {o:Option eI} {v:Value} (H:Sp h h2 [af a av cs,A]) (hcs:cs.length=9) (G:li h2 o v h3):
  ∃d:cC×Bool,v=.tuple #[eR d.1,.bool d.2]∧d.2=o.isSome∧aa Tryz.prog (Instr.storeAt av (.pointer (some a)) (eR d.1)) h3 fun _ h'=>∃res:cC,ai h' a 0 (bg res)∧li h o (.tuple #[eR res,.bool d.2]) h':=by
 obtain⟨y,rfl,F,R⟩:=G
 have H3:=H.comp R
 refine⟨(y,o.isSome),rfl,rfl,bw H3 hcs y fun h' H'=>⟨y,rfl,F,ab.de H' [1,2,3]⟩⟩
theorem iG {x lit:ByteArray}:(x.toList==lit.toList)=decide (dl x=dl lit):=by
 by_cases h:dl x=dl lit
 ·have:x=lit:=by cases x;cases lit;congr;exact Array.toList_inj.1 h
  subst this;rw[beq_self_eq_true];exact(decide_eq_true rfl).symm
 ·rw[decide_eq_false h,beq_eq_false_iff_ne]
  intro e
  have:=dE e
  subst this;exact h rfl
theorem mF (line:ByteArray) (m:Int) (h:Heap) (hm:cellOf h ⟨0,0,none⟩=some (.int .i64 m)) (hsz:line.size≤2^19):
  ae Tryz.prog iO #[.string line] h (li h (iL (dl line))):=by
 refine mV line ?_
 unfold jz
 refine(Sp.refl h).alloc ag rfl fun a h1 H1=>?_
 have H1:Sp h h1 [af a av (bg bW)]:=H1
 refine(wt Tryz.strings_Split line m h1 (H1.aq.cell (cg hm) hm) (by omega) 32).mono ?_
 rintro _ h2 ⟨r,l,rfl,hcut,R2⟩
 refine⟨r,rfl,?_⟩
 have H2:Sp h h2 [af a av (bg bW),aw bA r 1 ma l]:=H1.comp R2
 have hs:=H2.seq 1 rfl fun _=>rfl
 have hlen:=hs.len
 have hz:(dl line).length=line.size:=rfl
 have hcl:l.length=(dl line).count 32+1:=by
  have:=congrArg List.length hcut
  rw[List.length_map,kN]at this;exact this
 have hcc:(dl line).count 32≤(dl line).length:=List.count_le_length
 have hpos:0<l.length:=by omega
 have hwl:∀b∈l,b.size≤2^19:=fun b hb=>by
  have h1:dl b∈cP 32 [] (dl line):=by rw[←hcut];exact List.mem_map_of_mem hb
  have:=nW 32 _ _ _ h1
  have h2:(dl b).length=b.size:=rfl
  simp only[List.length_nil]at this;omega
 refine aE (fun i:Nat=>(i:Int)) (fun i h'=>h'=h2∧i≤l.length∧∀b∈l.take i,1≤b.size) (fun i=>l.length-i) 0 rfl ⟨rfl,by omega,by simp⟩ ?_
 rintro i h3 ⟨rfl,hi,hne⟩
 refine an (fun e=>?_) fun e=>?_
 ·have hi':i<l.length:=by omega
  refine hs.bd (g:=Value.string) i rfl hi' l[i] rfl ?_
  refine bV (fun e=>?_) fun e=>?_
  ·have e:l[i]=⟨#[]⟩:=dE (eq_of_beq e)
   have:iL (dl line)=none:=by
    unfold iL rj ua
    rw[←hcut,if_pos];rfl
    rw[List.any_map]
    exact List.any_eq_true.2 ⟨l[i],List.getElem_mem hi',by rw[e];rfl⟩
   rw[this]
   exact bw H2 rfl bW fun h' H'=>qi (ab.del H' 0)
  ·rw[wrap_small _ (by omega) (by omega)]
   refine⟨i+1,by simp,⟨rfl,by omega,?_⟩,by omega⟩
   rw[aF _ _ hi']
   intro b hb
   rcases List.mem_append.1 hb with hb|hb
   ·exact hne b hb
   ·rw[List.mem_singleton]at hb
    subst hb
    rcases Nat.eq_zero_or_pos l[i].size with h0|h0
    ·exfalso
     have hd:dl l[i]=[]:=List.length_eq_zero_iff.1 h0
     rw[iG,decide_eq_true (by rw[hd];rfl)]at e;cases e
    ·exact h0
 ·rw[List.take_of_length_le (by omega)]at hne
  have hw:iL (dl line)=ub (l.map dl):=by
   unfold iL rj ua
   rw[←hcut,if_neg];rfl
   intro hh
   rw[List.any_map]at hh
   obtain⟨b,hb,hb2⟩:=List.any_eq_true.1 hh
   have h0:=hne b hb
   have h1:(dl b).length=b.size:=rfl
   have:dl b=[]:=by simpa using hb2
   rw[this]at h1;simp at h1;omega
  rw[hw]
  unfold ub
  have hhd:(l.map dl).headD []=dl l[0]:=by cases l with
   |nil=>simp at hpos
   |cons x t=>rfl
  simp only[hhd,List.length_map]
  refine aJ ?_
  refine hs.bd (g:=Value.string) 0 rfl hpos l[0] rfl ?_
  rw[iG,iG,iG,iG,iG]
  refine an (fun e=>?_) fun n1=>?_
  ·rw[if_pos (show dl l[0]=[112,117,116]from e)]
   refine(uJ r l h3 hs fun b hb=>⟨hne b hb,by have:=hwl b hb;omega⟩).mono ?_
   intro v h4 G
   obtain⟨d,rfl,_,hd⟩:=mE H2 rfl G
   exact⟨d,rfl,hd⟩
  rw[if_neg (show¬dl l[0]=[112,117,116]from n1)]
  refine bu (fun b h'=>h'=h3∧b=(gN (dl l[0])).isSome) ?_ ?_
  ·unfold gN
   refine an (fun e=>?_) fun n2=>an (fun e=>?_) fun n3=>?_
   ·exact⟨rfl,by rw[decide_eq_true e,if_pos (show dl l[0]=[103,101,116]from e)];rfl⟩
   ·exact⟨rfl,by rw[decide_eq_true e,if_neg (show¬dl l[0]=[103,101,116]from n2),if_pos (show dl l[0]=[100,101,108]from e)];rfl⟩
   ·refine⟨rfl,?_⟩
    rw[if_neg (show¬dl l[0]=[103,101,116]from n2),if_neg (show¬dl l[0]=[100,101,108]from n3)]
    show decide (dl l[0]=[115,116,97,116])=_
    by_cases e:dl l[0]=[115,116,97,116]
    ·rw[if_pos e,decide_eq_true e];rfl
    ·rw[if_neg e,decide_eq_false e];rfl
  rintro _ h3 ⟨rfl,rfl⟩
  cases hk:gN (dl l[0])with
  |some k=>
   refine jV rfl ?_
   refine(se r l h3 hs hpos).mono ?_
   rw[hk]
   intro v h4 G
   obtain⟨d,rfl,_,hd⟩:=mE H2 rfl G
   exact⟨d,rfl,hd⟩
  |none=>
   refine qY rfl ?_
   dsimp only
   refine an (fun e=>?_) fun n4=>?_
   ·rw[if_pos (show dl l[0]=[108,105,115,116]from e)]
    refine bn (fun e=>?_) fun e=>?_
    ·rw[if_pos (by omega)]
     exact bw H2 rfl (4,⟨#[]⟩,aG,0,0,0,0,aG,aG) fun h' H'=>mD (ab.del H' 0) 4 0 0 0 0
    ·rw[if_neg (by omega)]
     exact bw H2 rfl bW fun h' H'=>qi (ab.del H' 0)
   rw[if_neg (show¬dl l[0]=[108,105,115,116]from n4)]
   have hcap:r.len≤r.cap:=(H2.own 1 rfl).cap
   refine⟨⟨by decide,by omega⟩,?_⟩
   refine(qC _ _ h3 (Seq.drop hs 1 hcap) (by simp;omega) (fun b hb=>by have:=hwl b (List.mem_of_mem_drop hb);omega)).mono ?_
   rintro _ h4 ⟨q,rfl,R4⟩
   refine⟨(q,_),rfl,?_⟩
   have hmt:(l.drop 1).map dl=(l.map dl).tail:=by rw[List.map_drop,List.drop_one]
   rw[hmt]at R4⊢
   cases hn:ck (l.map dl).tail with
   |none=>exact jV rfl (bw (H2.comp R4) rfl bW fun h' H'=>qi (ab.del (ab.del H' 0) 0))
   |some ns=>
    rw[hn]at R4
    have H4:=H2.comp R4
    refine qY rfl ?_
    refine(Seq.up hs R4.aq).bd (g:=Value.string) 0 rfl hpos l[0] rfl ?_
    refine(pG l[0] q (tI ns) h4 (H4.seq 2 rfl fun _=>rfl) ?_ ?_).mono ?_
    ·have:=my hn
     simp at this⊢;omega
    ·intro x hx
     obtain⟨n,hn2,rfl⟩:=List.mem_map.1 hx
     have:=sf hn n hn2
     omega
    intro v h5 G
    obtain⟨d,rfl,_,hd⟩:=mE (ab.de H4 [0,1]) rfl G
    exact⟨d,rfl,hd⟩
end Go.Qw
namespace Wl
end Wl
namespace Go.Qw
open Go Go.Vc Go.Proofs Wl
set_option maxRecDepth 100000
theorem bT (a b:ByteArray):dl (a++b)=dl a++dl b:=by simp[dl]
theorem yw (s:ByteArray) (i:Nat) (h:i<(dl s).length):dl (s.extract i (i+1))=[(dl s)[i]]:=by
 unfold dl
 rw[ByteArray.data_extract,Array.toList_extract,List.extract,List.drop_eq_getElem_cons h,show i+1-i=1 by omega];rfl
end Go.Qw
namespace Wl
def jf:List UInt8:=[48,49,50,51,52,53,54,55,56,57,97,98,99,100,101,102]
end Wl
namespace Go.Qw
open Go Go.Vc Go.Proofs Wl
set_option maxRecDepth 100000
end Go.Qw
namespace Wl
end Wl
namespace Go.Qw
open Go Go.Vc Go.Proofs Wl
set_option maxRecDepth 100000
end Go.Qw
namespace Go.Qw
open Go Go.Vc Go.Proofs Wl
set_option maxRecDepth 100000
end Go.Qw
namespace Go.Qw
open Go Go.Vc Go.Proofs Wl
set_option maxRecDepth 100000
structure zZ (h:Heap) (y:cC) (p:eI):Prop where
 data:Rd h y.2.2.1 1 aB p.data
 keeps:Rd h y.2.2.2.2.2.2.2.1 1 aA p.keeps
 torns:Rd h y.2.2.2.2.2.2.2.2 1 aA p.torns
structure Aa (p:eI):Prop where
 data:p.data.length≤2^40
 keeps:p.keeps.length≤2^40
 torns:p.torns.length≤2^40
end Go.Qw
namespace Wl
end Wl
namespace Go.Qw
open Go Go.Vc Go.Proofs Wl
set_option maxRecDepth 100000
end Go.Qw
namespace Go.Qw
open Go Go.Vc Go.Proofs Wl
set_option maxRecDepth 100000
end Go.Qw
namespace Wl
def co (n:Nat):List UInt8:=if n≤9 then[UInt8.ofNat (48+n)]else co (n/10)++[UInt8.ofNat (48+n%10)]
termination_by n
decreasing_by omega
theorem cV {n:Nat} (h:n≤9):co n=[UInt8.ofNat (48+n)]:=by rw[co,if_pos h]
theorem gB {n:Nat} (h:¬n≤9):co n=co (n/10)++[UInt8.ofNat (48+n%10)]:=by rw[co,if_neg h]
theorem lj:∀(k n:Nat),n<10^(k+1)→(co n).length≤k+1
 |0,n,h=>by rw[cV (by omega)];simp
 |k+1,n,h=>by
  by_cases h9:n≤9
  ·rw[cV h9];simp
  ·rw[gB h9,List.length_append,List.length_singleton]
   have:=lj k (n/10) (by rw[Nat.pow_succ]at h;omega)
   omega
def dL (n:Int):List UInt8:=if n<0 then 45::co n.natAbs else co n.natAbs
end Wl
namespace Go.Qw
open Go Go.Vc Go.Proofs Wl
set_option maxRecDepth 100000
theorem kB (s:ByteArray) (hs:s=⟨#[48,49,50,51,52,53,54,55,56,57,97,98,99,100,101,102]⟩) (i:Nat) (hi:i<16):dl (s.extract i (i+1))=[jf.getD i 0]:=by
 have hd:dl s=jf:=by rw[hs];rfl
 have hl:i<(dl s).length:=by rw[hd];exact hi
 rw[yw s i hl,←getD_lt (d:=0) hl,hd]
theorem wK (S:ByteArray) (hS:S=⟨#[48,49,50,51,52,53,54,55,56,57,97,98,99,100,101,102]⟩) (i:Nat) (hi:i<16) (s:ByteArray) (hs:s.size+1≤20):(((S.extract i (i+1)).size+s.size:Nat):Int)≤IntKind.max .i64∧(S.extract i (i+1)++s).size≤20:=by
 have h1:(S.extract i (i+1)).size=1:=congrArg List.length (kB S hS i hi)
 rw[ByteArray.size_append,h1]
 exact⟨by show((1+s.size:Nat):Int)≤9223372036854775807;omega,by omega⟩
theorem xU:∀i,i≤9→jf.getD i 0=UInt8.ofNat (48+i):=by decide+kernel
theorem wL (S:ByteArray) (hS:S=⟨#[48,49,50,51,52,53,54,55,56,57,97,98,99,100,101,102]⟩) (i:Nat) (hi:i≤9) (s:ByteArray):dl (S.extract i (i+1)++s)=UInt8.ofNat (48+i)::dl s:=by
 rw[bT,kB S hS i (by omega),xU _ hi];rfl
theorem gC (n:Int) (h1n:-9223372036854775808≤n) (h2n:n≤9223372036854775807) (h:Heap):
  ae Tryz.prog jZ #[.int .i64 n] h fun v h'=>∃t:ByteArray,v=.string t∧dl t=dL n∧h'=h:=by
 refine jp n ?_
 unfold fx
 have hu:∀x:Int,IntKind.wrap .u64 x=x%18446744073709551616:=fun _=>rfl
 refine bu (fun v h'=>h'=h∧v=(n.natAbs:Int)) ?_ ?_
 ·refine an (fun hlt=>⟨rfl,?_⟩) fun hge=>⟨rfl,?_⟩
  ·have e1:IntKind.wrap .i64 (n+1)=n+1:=Go.Vc.wrap_small _ (by omega) (by omega)
   have e2:IntKind.wrap .i64 (0-(n+1))=0-(n+1):=Go.Vc.wrap_small _ (by omega) (by omega)
   have e3:IntKind.wrap .u64 (0-(n+1))=0-(n+1):=by rw[hu];omega
   have e4:(n.natAbs:Int)=-n:=Int.ofNat_natAbs_of_nonpos (by omega)
   rw[e1,e2,e3,hu,e4];omega
  ·rw[hu];omega
 rintro _ h1 ⟨rfl,rfl⟩
 have h20:(co n.natAbs).length≤20:=lj 19 _ (by omega)
 refine aE (fun t:ByteArray×Nat=>(t.1,(t.2:Int))) (fun t h'=>h'=h1∧t.2≤2^63∧co n.natAbs=co t.2++dl t.1) (fun t=>t.2) (⟨#[]⟩,n.natAbs) rfl ⟨rfl,by dsimp only;omega,by simp⟩ ?_
 rintro⟨s,v⟩ h2 ⟨rfl,hv,he⟩
 dsimp only at hv he⊢
 have hsz:s.size+1≤20:=by
  have h3:=congrArg List.length he
  rw[List.length_append]at h3
  have h4:(dl s).length=s.size:=rfl
  have h5:1≤(co v).length:=by
   by_cases h9:v≤9
   ·rw[cV h9];simp
   ·rw[gB h9];simp
  omega
 have hmod:Int.tmod (v:Int) 10=((v%10:Nat):Int):=by rw[Int.tmod_eq_emod_of_nonneg (by omega)];rfl
 have hdiv:Int.tdiv (v:Int) 10=((v/10:Nat):Int):=by rw[Int.tdiv_eq_ediv_of_nonneg (by omega)];rfl
 refine an (fun hgt=>?_) fun hle=>?_
 ·have h9:¬v≤9:=by omega
  have hw:IntKind.wrap .u64 (((v%10:Nat):Int)+1)=((v%10+1:Nat):Int):=by rw[hu];omega
  have hw2:IntKind.wrap .u64 ((v/10:Nat):Int)=((v/10:Nat):Int):=by rw[hu];omega
  rw[hmod,hw,hdiv,hw2]
  simp only[Int.toNat_natCast]
  refine⟨by decide,by decide,⟨by omega,by omega,?_⟩,?_,by decide,?_⟩
  ·show((v%10+1:Nat):Int)≤16;omega
  ·exact(wK _ rfl (v%10) (by omega) s hsz).1
  ·refine⟨(_,v/10),rfl,⟨trivial,by dsimp only;omega,?_⟩,by dsimp only;omega⟩
   refine Eq.trans ?_ (congrArg (co (v/10)++·) (wL _ rfl (v%10) (by omega) s).symm)
   rw[he,gB h9,List.append_assoc];rfl
 ·have h9:v≤9:=by omega
  have hw:IntKind.wrap .u64 ((v:Int)+1)=((v+1:Nat):Int):=by rw[hu];omega
  rw[hw]
  simp only[Int.toNat_natCast]
  have hd:co n.natAbs=UInt8.ofNat (48+v)::dl s:=by rw[he,cV h9];rfl
  refine⟨⟨by omega,by omega,?_⟩,?_,an (fun hlt=>⟨?_,?_⟩) fun hge=>?_⟩
  ·show((v+1:Nat):Int)≤16;omega
  ·exact(wK _ rfl v (by omega) s hsz).1
  ·have:=(wK _ rfl v (by omega) s hsz).2
   show((1+_:Nat):Int)≤9223372036854775807
   exact Int.le_trans (Int.ofNat_le.2 (Nat.add_le_add_left this 1)) (by decide)
  ·refine⟨_,rfl,?_,trivial⟩
   rw[bT]
   unfold dL;rw[if_pos hlt,hd]
   exact congrArg ([45]++·) (wL _ rfl v h9 s)
  ·refine⟨_,rfl,?_,trivial⟩
   unfold dL;rw[if_neg hge,hd]
   exact wL _ rfl v h9 s
end Go.Qw
namespace Wl
def ia (b:UInt8):List UInt8:=[jf.getD (b.toNat/16) 0,jf.getD (b.toNat%16) 0]
def lk (l:List UInt8):List UInt8:=if l=[]then[45]else l.flatMap ia
end Wl
