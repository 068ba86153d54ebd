/- Part of the proofs that the laws of this seat answer true whatever the input reads, and leave it as it was; no condition. -/
import Derived.Test.YteieadfggboeeaaGreatDoorTabS
import Derived.Test.YteieadfggboeeaaGreatDoorPlA
import Derived.Test.YteieadfggboeeaaGreatDoorShelfA
import Derived.Test.YteieadfggboeeaaGreatDoorPlB
import Derived.Test.YteieadfggboeeaaGreatDoorPlC
import Derived.Test.YteieadfggboeeaaGreatDoorPlD
import Derived.Test.YteieadfggboeeaaGreatDoorPlE
import Derived.Test.YteieadfggboeeaaGreatDoorPlF
import Derived.Test.YteieadfggboeeaaGreatDoorPlH
import Derived.Test.YteieadfggboeeaaGreatDoorPlG
import Derived.Test.YteieadfggboeeaaGreatDoorPlI
import Derived.Test.YteieadfggboeeaaGreatDoorPlJ
import Derived.Test.YteieadfggboeeaaGreatDoorPlK
set_option linter.unusedVariables false
set_option linter.unusedSimpArgs false
namespace Go.Qw
open Go Go.Vc Go.Proofs Wl
set_option maxRecDepth 100000
abbrev Pm:=Int×Int×Int
abbrev iU (p:Pm):Value:=.agg #[.int .i64 p.1,.int .i64 p.2.1,.int .i64 p.2.2]
theorem iv (p:Pm) (h:Heap):ag Tryz.prog uo #[iU p] h fun v h'=>v=.bool (gC p)∧Sp h h' []:=by
 refine sO p ?_
 unfold pS
 refine(Sp.refl h).boxed fun a h1 H1=>?_
 have hb:=H1.box 0 rfl
 have hz:Sp h h1 []:=.zip H1.ap
 have c0:cellOf h1 a=some (.int .i64 p.1):=hb.cell0 rfl
 have c1:cellOf h1 (a.add 1)=some (.int .i64 p.2.1):=hb.cell rfl
 have c2:cellOf h1 (a.add 2)=some (.int .i64 p.2.2):=hb.cell rfl
 unfold gC
 refine⟨_,c0,an (fun e1=>?_) (fun e1=>⟨by rw[decide_eq_false e1];rfl,hz⟩)⟩
 rw[decide_eq_true e1]
 refine⟨_,c0,an (fun e1=>?_) (fun e1=>⟨by rw[decide_eq_false e1];rfl,hz⟩)⟩
 rw[decide_eq_true e1]
 refine⟨_,c1,an (fun e1=>?_) (fun e1=>⟨by rw[decide_eq_false e1];rfl,hz⟩)⟩
 rw[decide_eq_true e1]
 refine⟨_,c1,an (fun e1=>?_) (fun e1=>⟨by rw[decide_eq_false e1];rfl,hz⟩)⟩
 rw[decide_eq_true e1]
 refine⟨_,c2,an (fun e1=>?_) (fun e1=>⟨by rw[decide_eq_false e1];rfl,hz⟩)⟩
 rw[decide_eq_true e1]
 exact⟨_,c2,rfl,hz⟩
abbrev dd:bf C.tojG nv aA 1 [.int .i64 0] 8:=⟨_,_,rfl,rfl,rfl,rfl,rfl,rfl⟩
abbrev fG:bf C.tojG bT az 1 [.int .u8 0] 1:=⟨_,_,rfl,rfl,rfl,rfl,rfl,rfl⟩
abbrev qJ:bf C.tojG qt bT 1 [.slice none 0 0] 24:=⟨_,_,rfl,rfl,rfl,rfl,rfl,rfl⟩
theorem pq (s:Sl) (l:List Int) (h:Heap) (hs:Rd h s 1 av l) (hsz:l.length≤2^30):ag Tryz.prog iJ #[.slice s.ptr s.len s.cap] h fun v h'=>∃r:Sl,v=.slice r.ptr r.len r.cap∧Sp h h' [ao aA r 1 av l]:=by
 refine iu s ?_
 unfold eN
 refine cj (fun e=>?_) (fun e=>?_)
 ·have:=hs.isNil e
  subst this
  exact⟨⟨none,0,0⟩,rfl,(Sp.refl h).nil aA 1 av⟩
 ·refine(Sp.refl h).lit af av dd rfl [] rfl (by decide) rfl fun s1 h1 H1=>?_
  refine H1.append af 0 rfl dd ⟨_,_,rfl,rfl⟩ rfl (by decide) (fun _=>rfl) (hs.up H1.ap) cU (by simp;omega) fun s2 h2 H2=>⟨s2,rfl,H2⟩
theorem sV (s:Sl) (l:List UInt8) (h:Heap) (hs:Rd h s 1 aF l) (hsz:l.length≤2^30):ag Tryz.prog pj #[.slice s.ptr s.len s.cap] h fun v h'=>∃r:Sl,v=.slice r.ptr r.len r.cap∧Sp h h' [ao az r 1 aF l]:=by
 refine ow s ?_
 unfold lh
 refine cj (fun e=>?_) (fun e=>?_)
 ·have:=hs.isNil e
  subst this
  exact⟨⟨none,0,0⟩,rfl,(Sp.refl h).nil az 1 aF⟩
 ·refine(Sp.refl h).lit af aF fG rfl [] rfl (by decide) rfl fun s1 h1 H1=>?_
  refine H1.append af 0 rfl fG ⟨_,_,rfl,rfl⟩ rfl (by decide) (fun _=>rfl) (hs.up H1.ap) dJ (by simp;omega) fun s2 h2 H2=>⟨s2,rfl,H2⟩
theorem vx {e:TypeId} (s:Sl) (l:List Int) (h:Heap) (ho:Own h e s 1 av l) (hsz:l.length<2^40):ag Tryz.prog jx #[.slice s.ptr s.len s.cap] h fun v h'=>v=.tuple #[]∧Own h' e s 1 av (eO l)∧aw (fun b=>¬s.on b) h h':=
 rh Tryz.slices_Sort_int Tryz.slices_Sort_int_none ho hsz
theorem aH (x n:Int) (h:Heap) (hn:0<n) (hb:n≤2^62):ag Tryz.prog ik #[.int .i64 x,.int .i64 n] h fun v h'=>v=.int .i64 (x%n)∧h'=h:=by
 refine gT x n ?_
 unfold eC
 have h1:=Int.tmod_lt_of_pos x hn
 have h2:-n<x.tmod n:=Int.lt_tmod_of_pos x hn
 have he:=wr x n hn
 refine⟨by omega,aM ?_⟩
 refine an (fun hlt=>?_) (fun hge=>?_)
 ·rw[wrap_small _ (by omega) (by omega)]
  exact⟨by rw[he,if_pos hlt],rfl⟩
 ·exact⟨by rw[he,if_neg hge],rfl⟩
end Go.Qw
namespace Go.Qw
open Go Go.Vc Go.Proofs Wl
set_option maxRecDepth 100000
abbrev jy (b:Bool):Value:=.bool b
section
variable {B:ak} {h0 h:Heap} {As:List HP}
theorem oA (a:Addr) (c:Int) (x:List Bool) (hb:bK h a bM (x.map jy)) (hl:x.length=256) (hc:0≤c∧c<256):
  ag Tryz.prog ga #[.pointer (some a),.int .u8 c] h fun v h'=>v=.bool (x.getD c.toNat false)∧h'=h:=by
 refine fK (some a) c ?_
 unfold dx
 refine⟨a,rfl,hc,x.getD c.toNat false,?_,rfl,rfl⟩
 rw[Nat.mul_one]
 refine hb.cell ?_
 rw[List.getElem?_map,List.getD_eq_getElem?_getD,List.getElem?_eq_getElem (by omega)];rfl
def dY (x:List Bool) (b:UInt8):Bool:=x.getD b.toNat false
theorem ut (a:Addr) (s:ByteArray) (x:List Bool) (hb:bK h a bM (x.map jy)) (hl:x.length=256) (hs:s.size≤2^40):
  ag Tryz.prog it #[.string s,.pointer (some a)] h fun v h'=>h'=h∧∃t:ByteArray,v=.string t∧(t.size=0↔s.data.toList.all (dY x)=true):=by
 refine gU s (some a) ?_
 unfold eE
 refine aM ?_
 refine aE (fun s:ByteArray=>s) (fun t h'=>h'=h∧t.size≤2^40∧(t.data.toList.all (dY x)=true↔s.data.toList.all (dY x)=true)) (fun t=>t.size) s rfl ⟨rfl,hs,Iff.rfl⟩ ?_
 rintro t h1 ⟨rfl,ht,ha⟩
 refine an (fun hlt=>?_) (fun hge=>?_)
 ·have h0:0<t.data.toList.length:=by have:t.data.toList.length=t.size:=rfl;omega
  obtain⟨c,r,e⟩:∃c r,t.data.toList=c::r:=by cases h:t.data.toList with
   |nil=>rw[h]at h0;cases h0
   |cons c r=>exact⟨c,r,rfl⟩
  refine⟨c,⟨by decide,?_⟩,?_⟩
  ·show t.data[0]?=some c
   rw[←Array.getElem?_toList,e];rfl
  refine(oA a _ x hb hl ⟨by omega,by have:=c.toNat_lt;omega⟩).mono ?_
  rintro _ h2 ⟨rfl,rfl⟩
  refine⟨_,rfl,?_⟩
  have hc:x.getD ((c.toNat:Nat):Int).toNat false=dY x c:=rfl
  rw[hc]
  have e2:(t.extract (1:Int).toNat t.size).data.toList=r:=by
   rw[ByteArray.data_extract,Array.toList_extract]
   have hz:t.size=t.data.toList.length:=rfl
   have hr:t.size-1=r.length:=by rw[hz,e];rfl
   simp[e,List.extract,hr]
  refine bt (fun hf=>⟨rfl,t,rfl,?_⟩) (fun hf=>⟨⟨by decide,by omega⟩,?_⟩)
  ·rw[←ha,e,List.all_cons,hf]
   constructor
   ·intro h;omega
   ·intro h;cases h
  ·refine⟨t.extract (1:Int).toNat t.size,rfl,⟨rfl,?_,?_⟩,?_⟩
   ·rw[ByteArray.size_extract];omega
   ·rw[e2,←ha,e,List.all_cons,hf,Bool.true_and]
   ·rw[ByteArray.size_extract];simp;omega
 ·refine⟨rfl,t,rfl,?_⟩
  have:t.data.toList=[]:=List.length_eq_zero_iff.1 (by have:t.data.toList.length=t.size:=rfl;omega)
  rw[←ha,this]
  exact⟨fun _=>rfl,fun _=>by omega⟩
theorem uu (a:Addr) (s:ByteArray) (x:List Bool) (hb:bK h a bM (x.map jy)) (hl:x.length=256) (hs:s.size≤2^40):
  ag Tryz.prog gV #[.string s,.pointer (some a)] h fun v h'=>h'=h∧∃t:ByteArray,v=.string t∧t.size≤2^40∧(t.data.toList.all (dY x)=true↔s.data.toList.all (dY x)=true):=by
 refine gG s (some a) ?_
 unfold ek
 refine aM ?_
 refine aE (fun s:ByteArray=>s) (fun t h'=>h'=h∧t.size≤2^40∧(t.data.toList.all (dY x)=true↔s.data.toList.all (dY x)=true)) (fun t=>t.size) s rfl ⟨rfl,hs,Iff.rfl⟩ ?_
 rintro t h1 ⟨rfl,ht,ha⟩
 refine an (fun hlt=>?_) (fun hge=>?_)
 ·have h0:0<t.size:=by omega
  have hz:t.data.toList.length=t.size:=rfl
  have hw:IntKind.wrap .i64 ((t.size:Int)-1)=((t.size-1:Nat):Int):=by rw[wrap_small _ (by omega) (by omega)];omega
  rw[hw]
  obtain⟨c,e⟩:∃c,t.data.toList[t.size-1]?=some c:=⟨t.data.toList[t.size-1]'(by omega),List.getElem?_eq_getElem _⟩
  refine⟨c,⟨by omega,?_⟩,?_⟩
  ·rw[Int.toNat_natCast,←Array.getElem?_toList,e]
  refine(oA a _ x hb hl ⟨by omega,by have:=c.toNat_lt;omega⟩).mono ?_
  rintro _ h2 ⟨rfl,rfl⟩
  refine⟨_,rfl,?_⟩
  have hc:x.getD ((c.toNat:Nat):Int).toNat false=dY x c:=rfl
  rw[hc]
  have e2:(t.extract 0 ((t.size-1:Nat):Int).toNat).data.toList=t.data.toList.take (t.size-1):=by
   rw[ByteArray.data_extract,Array.toList_extract];simp[List.extract]
  refine bt (fun hf=>⟨rfl,t,rfl,ht,ha⟩) (fun hf=>⟨⟨by omega,by omega⟩,?_⟩)
  refine⟨t.extract 0 ((t.size-1:Nat):Int).toNat,rfl,⟨rfl,?_,?_⟩,?_⟩
  ·rw[ByteArray.size_extract];omega
  ·rw[e2,←ha]
   have hsp:t.data.toList=t.data.toList.take (t.size-1)++[c]:=by
    have hi:t.size-1<t.data.toList.length:=by omega
    have e3:t.data.toList[t.size-1]=c:=by rw[List.getElem?_eq_getElem hi]at e;exact Option.some.inj e
    rw[←e3,←aI _ _ hi,List.take_of_length_le (by omega)]
   conv=>rhs;rw[hsp]
   rw[List.all_append,List.all_cons,hf];simp
  ·rw[ByteArray.size_extract];simp;omega
 ·exact⟨rfl,t,rfl,ht,ha⟩
theorem tA (x:List Bool):(x.map jy).all (·.oneCell')=true:=by
 rw[List.all_map,List.all_eq_true];exact fun _ _=>rfl
theorem uv (cs:ByteArray) (hc:∀b∈cs.data.toList,b.toNat<128) (hs:cs.size≤2^40) (h:Heap):
  ag Tryz.prog iI #[.string cs] h fun v h'=>Sp h h' []∧∃x:List Bool,x.length=256∧(∀b:UInt8,dY x b=cs.data.toList.contains b)∧v=.tuple #[.agg (x.map jy).toArray,.bool true]:=by
 refine ir cs ?_
 unfold eL
 refine(Sp.refl h).alloc af rfl fun a h1 H1=>?_
 have H1:Sp h h1 [aj a bM ((List.replicate 256 false).map jy)]:=H1
 refine aE (fun t:Nat×List Bool=>(t.1:Int)) (fun t h'=>t.1≤cs.size∧t.2.length=256∧(∀b:UInt8,dY t.2 b=(cs.data.toList.take t.1).contains b)∧Sp h h' [aj a bM (t.2.map jy)]) (fun t=>cs.size-t.1) (0,List.replicate 256 false) rfl ⟨by omega,by simp,?_,H1⟩ ?_
 ·intro b
  have:b.toNat<256:=b.toNat_lt
  unfold dY
  rw[List.getD_eq_getElem?_getD,List.getElem?_replicate,if_pos this];rfl
 rintro⟨k,x⟩ h2 ⟨hk,hl,hx,H2⟩
 dsimp only at hk hl hx H2⊢
 have hz:cs.data.toList.length=cs.size:=rfl
 refine an (fun hlt=>?_) (fun hge=>?_)
 ·have hk':k<cs.data.toList.length:=by omega
  refine⟨cs.data.toList[k],⟨by omega,by rw[Int.toNat_natCast,←Array.getElem?_toList,List.getElem?_eq_getElem hk']⟩,?_⟩
  have h128:=hc _ (List.getElem_mem hk')
  refine an (fun hb=>by omega) (fun _=>⟨⟨by omega,by omega⟩,?_⟩)
  rw[Nat.mul_one,Int.toNat_natCast]
  refine H2.storeAt af 0 rfl rfl rfl rfl rfl (by rw[List.length_map,hl];omega) fun h3 H3=>?_
  rw[wrap_small _ (by omega) (by omega)]
  refine⟨(k+1,x.set cs.data.toList[k].toNat true),by simp,⟨by omega,by simp[hl],?_,?_⟩,by simp;omega⟩
  ·intro b
   rw[aI _ _ hk',List.contains_append,←hx b]
   unfold dY
   rw[List.getD_eq_getElem?_getD,List.getD_eq_getElem?_getD,List.getElem?_set]
   by_cases hb:cs.data.toList[k]=b
   ·rw[←hb,if_pos rfl,if_pos (by omega)];simp
   ·have:cs.data.toList[k].toNat≠b.toNat:=fun e=>hb (UInt8.toNat_inj.1 e)
    rw[if_neg this]
    have h3:[cs.data.toList[k]].contains b=false:=by rw[List.contains_cons,List.contains_nil,Bool.or_false,beq_eq_false_iff_ne];exact fun e=>hb e.symm
    rw[h3,Bool.or_false]
  ·rw[List.map_set];exact H3
 ·have hk2:k=cs.data.toList.length:=by omega
  have hbx:=H2.box 0 rfl
  refine⟨x,⟨hl,hbx.bg _ (by rw[List.take_of_length_le (by simp)])⟩,?_⟩
  refine H2.storeAll af 0 rfl rfl (x.map jy) rfl (by simp[hl]) (tA x) rfl fun h3 H3=>?_
  have hb3:=H3.box 0 rfl
  refine⟨x,⟨hl,hb3.bg _ (by rw[List.take_of_length_le (by simp)])⟩,.zip H3.ap,x,hl,fun b=>?_,rfl⟩
  rw[hx b,hk2,List.take_length]
theorem pV (s cs:ByteArray) (hc:∀b∈cs.data.toList,b.toNat<128) (hc2:2≤cs.size) (hcs:cs.size≤2^40) (hs:s.size≤2^40) (h:Heap):
  ag Tryz.prog iT #[.string s,.string cs] h fun v h'=>Sp h h' []∧∃t:ByteArray,v=.string t∧(t.size=0↔s.data.toList.all cs.data.toList.contains=true):=by
 refine nC s cs ?_
 unfold jR
 refine aM ?_
 refine cj (fun e=>⟨Sp.refl h,s,rfl,?_⟩) fun e1=>cj (fun e=>?_) fun e2=>?_
 ·have e:s=(⟨#[]⟩:ByteArray):=dA (eq_of_beq e)
  subst e;exact⟨fun _=>rfl,fun _=>rfl⟩
 ·have e:cs=(⟨#[]⟩:ByteArray):=dA (eq_of_beq e)
  subst e;exact absurd hc2 (by decide)
 refine aM ?_
 refine ba (fun e=>by omega) fun _=>?_
 refine(uv cs hc hcs h).mono ?_
 rintro _ h1 ⟨H1,x,hl,hx,rfl⟩
 refine⟨(x,true),rfl,?_⟩
 refine H1.alloc af rfl fun a h2 H2=>?_
 have H2:Sp h h2 [aj a bM ((List.replicate 256 false).map jy)]:=H2
 refine H2.storeAll af 0 rfl rfl (x.map jy) rfl (by simp[hl]) (tA x) (by simp[hl]) fun h3 H3=>?_
 have hb:=H3.box 0 rfl
 refine eb rfl ?_
 refine(uu a s x hb hl hs).mono ?_
 rintro _ h4 ⟨rfl,u,rfl,hu,ha⟩
 refine⟨_,rfl,?_⟩
 refine(ut a u x hb hl hu).mono ?_
 rintro _ h5 ⟨rfl,t,rfl,ht⟩
 refine⟨_,rfl,.zip H3.ap,t,rfl,?_⟩
 rw[ht,ha]
 have:(dY x)=cs.data.toList.contains:=funext hx
 rw[this]
end
end Go.Qw
namespace Go.Vc
open Go
theorem xS {P:Program} {t:TypeId} {x:Operand} (hu:(match P.underlying t with|some (.interface _)=>true|_=>false)=true):fk P .eql t x (.const .nilIface) .nilIface .nilIface (.bool true):=by
 unfold fk
 have hg:am P (eqGuard .eql t x (.const .nilIface) .nilIface .nilIface) ():=by
  intro w
  cases x<;>rfl
 refine hg.bind ?_
 have he:∀d,am P (Op.equalIn (d+1) t .nilIface .nilIface) true:=by
  intro d
  cases hd:P.underlying t with
  |none=>rw[hd]at hu;cases hu
  |some k=>
   rw[hd]at hu
   cases k with
   |interface ms=>intro w;simp[Op.equalIn,underlying,hd]
   |_=>cases hu
 simp only[binOp,kc]
 exact(he _).bind .pure
end Go.Vc
namespace Wl
theorem kH (p:UInt8→Bool) (h:(List.range 256).all (fun n=>p (UInt8.ofNat n))=true) (b:UInt8):p b=true:=by
 have:=List.all_eq_true.1 h b.toNat (List.mem_range.2 b.toNat_lt)
 simpa using this
theorem zh (b:UInt8):([48,49,50,51,52,53,54,55,56,57]:List UInt8).contains b=dU b:=
 eq_of_beq (kH (fun b=>([48,49,50,51,52,53,54,55,56,57]:List UInt8).contains b==dU b) (by decide+kernel) b)
theorem zi (b:UInt8):([48,49,50,51,52,53,54,55,56,57,97,98,99,100,101,102]:List UInt8).contains b=di b:=
 eq_of_beq (kH (fun b=>([48,49,50,51,52,53,54,55,56,57,97,98,99,100,101,102]:List UInt8).contains b==di b) (by decide+kernel) b)
theorem zS (b:UInt8) (h:di b=true):Go.Lib.indexByte [48,49,50,51,52,53,54,55,56,57,97,98,99,100,101,102] b=(((dc b).getD 0:Nat):Int):=by
 have:=kH (fun b=>!di b||(Go.Lib.indexByte [48,49,50,51,52,53,54,55,56,57,97,98,99,100,101,102] b==(((dc b).getD 0:Nat):Int))) (by decide+kernel) b
 rw[h]at this
 exact eq_of_beq (by simpa using this)
end Wl
namespace Go.Qw
open Go Go.Vc Go.Proofs Wl
set_option maxRecDepth 100000
theorem xT {x:Operand}:fk Tryz.prog .eql xQ x (.const .nilIface) .nilIface .nilIface (.bool true):=xS (by kernel_rfl)
theorem vy {l:List UInt8} (h:eT l=true):cB l=some (fp 0 l):=if_pos h
theorem vz {l:List UInt8} (h:eT l=false):cB l=none:=if_neg (by rw[h];decide)
theorem rO (w:ByteArray) (hs:w.size≤2^40) (h:Heap):ag Tryz.prog mS #[.string w] h fun v h'=>Sp h h' []∧v=.tuple #[.int .i64 (((cB w.data.toList).getD 0:Nat):Int),.bool (cB w.data.toList).isSome]:=by
 refine ma w ?_
 unfold io
 have hz:w.data.toList.length=w.size:=rfl
 have no:∀{h1:Heap},Sp h h1 []→eT w.data.toList=false→Sp h h1 []∧Value.tuple #[(.int .i64 (0:Int)),.bool false]=.tuple #[.int .i64 (((cB w.data.toList).getD 0:Nat):Int),.bool (cB w.data.toList).isSome]:=fun H e=>⟨H,by rw[vz e];rfl⟩
 refine dz (fun _ h3=>Sp h h3 []∧eT w.data.toList=true) ?_ ?_
 ·refine an (fun e=>no (Sp.refl h) ?_) fun e1=>an (fun e=>no (Sp.refl h) ?_) fun e2=>?_
  ·unfold eT;rw[decide_eq_false (by omega)];rfl
  ·unfold eT;rw[decide_eq_false (by omega)];rfl
  obtain⟨c,r,e⟩:∃c r,w.data.toList=c::r:=by cases h:w.data.toList with
   |nil=>rw[h]at hz;simp at hz;omega
   |cons c r=>exact⟨c,r,rfl⟩
  refine⟨c,⟨by decide,by rw[←Array.getElem?_toList,e];rfl⟩,?_⟩
  have main:(w.size>1→c≠48)→∀(cs:ByteArray),cs.data.toList=[48,49,50,51,52,53,54,55,56,57]→
    ae Tryz.prog 66 #[.string w,.string cs] (.one bw) h fun r2 h1=>Br (decide ((r2.size:Int)>0)) (Sp h h1 []∧Value.tuple #[(.int .i64 (0:Int)),.bool false]=.tuple #[.int .i64 (((cB w.data.toList).getD 0:Nat):Int),.bool (cB w.data.toList).isSome]) (Sp h h1 []∧eT w.data.toList=true):=by
   intro hc cs hcs
   have hcz:cs.size=10:=by have:cs.data.toList.length=cs.size:=rfl;rw[hcs]at this;exact this.symm
   refine(pV w cs (by rw[hcs];decide) (by omega) (by omega) hs h).mono ?_
   rintro _ h1 ⟨H1,t,rfl,ht⟩
   refine⟨_,rfl,?_⟩
   have hall:w.data.toList.all cs.data.toList.contains=w.data.toList.all dU:=by rw[hcs];congr 1;exact funext zh
   rw[hall]at ht
   refine an (fun hgt=>no H1 ?_) (fun hle=>⟨H1,?_⟩)
   ·have:w.data.toList.all dU=false:=Bool.eq_false_iff.2 fun hh=>by have:=ht.2 hh;omega
    unfold eT;rw[this,Bool.and_false]
   ·have hd:=ht.1 (by omega)
    unfold eT
    rw[hd,decide_eq_true ⟨by omega,by omega⟩,Bool.true_and,Bool.and_true,e]
    by_cases h1:w.size>1
    ·have:=hc h1
     simp[this]
    ·have:¬1<(c::r).length:=by rw[←e];omega
     rw[decide_eq_false this];rfl
  have hcs:∀s:ByteArray,s=⟨#[48,49,50,51,52,53,54,55,56,57,97,98,99,100,101,102]⟩→(s.extract 0 ((10:Int).toNat)).data.toList=[48,49,50,51,52,53,54,55,56,57]:=by
   rintro _ rfl
   rw[ByteArray.data_extract,Array.toList_extract];rfl
  refine ba (fun e48=>?_) fun n48=>?_
  ·refine an (fun hgt=>no (Sp.refl h) ?_) fun hle=>⟨⟨by decide,by decide⟩,main (fun hgt=>by omega) _ ?_⟩
   rotate_left
   ·exact hcs _ rfl
   unfold eT
   have hc:c=48:=UInt8.toNat_inj.1 (by rw[show c.toNat=48 by omega];rfl)
   have:1<(c::r).length:=by rw[←e];omega
   rw[e,decide_eq_true this,hc];simp
  ·refine⟨⟨by decide,by decide⟩,main (fun _ hc=>n48 (by rw[hc];rfl)) _ ?_⟩
   exact hcs _ rfl
 ·rintro _ h3 ⟨H3,hm⟩
  have hm':=hm
  unfold eT at hm'
  simp only[Bool.and_eq_true,decide_eq_true_eq]at hm'
  have hne:w.data.toList≠[]:=fun e=>by rw[e]at hm';exact absurd hm'.1.1.1 (by decide)
  refine(xH Tryz.strconv_Atoi w _ (by omega) (wu hne hm'.2) h3).mono ?_
  rintro _ h4 ⟨rfl,H4⟩
  refine⟨(_,.nilIface),rfl,true,xT,⟨H3.comp H4,?_⟩⟩
  rw[vy hm];rfl
end Go.Qw
namespace Wl
theorem oB (w:List UInt8):∀(a:List (List UInt8)),bD (a++[w])=(bD a).bind fun ns=>(cB w).map fun n=>ns++[n]
 |[]=>by
  simp only[List.nil_append,bD,Option.bind_some]
  cases cB w<;>rfl
 |x::r=>by
  simp only[List.cons_append,bD,oB w r]
  cases cB x with
  |none=>rfl
  |some n=>cases bD r with
   |none=>rfl
   |some ns=>cases cB w<;>rfl
theorem oC {w:List UInt8} (h:cB w=none):∀{l:List (List UInt8)},w∈l→bD l=none
 |x::r,hm=>by
  rcases List.mem_cons.1 hm with rfl|hm
  ·simp only[bD,h]
  ·simp only[bD]
   cases cB x with
   |none=>rfl
   |some n=>simp only[oC h hm];rfl
theorem mi:∀{l:List (List UInt8)} {ns:List Nat},bD l=some ns→ns.length=l.length
 |[],ns,h=>by cases h;rfl
 |x::r,ns,h=>by
  simp only[bD]at h
  cases hx:cB x with
  |none=>rw[hx]at h;cases h
  |some n=>
   rw[hx]at h
   cases hr:bD r with
   |none=>rw[hr]at h;cases h
   |some ms=>rw[hr]at h;cases h;simp[mi hr]
theorem tB (b:UInt8):(dc b).getD 0<16:=by
 have:=kH (fun b=>decide ((dc b).getD 0<16)) (by decide+kernel) b
 exact of_decide_eq_true this
theorem pW:∀(l:List UInt8),(dj l).length=l.length/2
 |[]=>rfl
 |[_]=>by simp[dj]
 |a::b::r=>by simp only[dj,List.length_cons,pW r];omega
theorem pX:∀(l:List UInt8) (j:Nat) (a b:UInt8),l[2*j]?=some a→l[2*j+1]?=some b→(dj l)[j]?=some (UInt8.ofNat (16*(dc a).getD 0+(dc b).getD 0))
 |[],j,a,b,ha,_=>by simp at ha
 |[_],j,a,b,_,hb=>by simp at hb
 |x::y::r,0,a,b,ha,hb=>by
  simp at ha hb
  subst ha;subst hb;rfl
 |x::y::r,j+1,a,b,ha,hb=>by
  have e1:2*(j+1)=2*j+2:=by omega
  have e2:2*(j+1)+1=2*j+1+2:=by omega
  rw[e1]at ha;rw[e2]at hb
  simpa[dj]using pX r j a b (by simpa using ha) (by simpa using hb)
end Wl
namespace Go.Qw
open Go Go.Vc Go.Proofs Wl
set_option maxRecDepth 100000
abbrev dl (b:ByteArray):List UInt8:=b.data.toList
abbrev tC (l:List Nat):List Int:=l.map fun(n:Nat)=>(n:Int)
theorem qC (s:Sl) (l:List ByteArray) (h:Heap) (hs:Rd h s 1 oY l) (hl:l.length≤2^20) (hb:∀b∈l,b.size≤2^40):
  ag Tryz.prog lY #[.slice s.ptr s.len s.cap] h fun v h'=>∃r:Sl,v=.tuple #[.slice r.ptr r.len r.cap,.bool (bD (l.map dl)).isSome]∧Sp h h' [ao aA r 1 av (tC ((bD (l.map dl)).getD []))]:=by
 refine lq s ?_
 unfold gL
 refine aE (fun t:Sl×Nat=>(t.1,(t.2:Int))) (fun t h'=>t.2≤l.length∧∃ns,bD ((l.map dl).take t.2)=some ns∧Sp h h' [ao aA t.1 1 av (tC ns)]) (fun t=>l.length-t.2) (⟨none,0,0⟩,0) rfl ⟨by simp,[],rfl,by simpa using(Sp.refl h).nil aA 1 av⟩ ?_
 rintro⟨o,i⟩ h1 ⟨hi,ns,hn,H1⟩
 dsimp only at hi hn H1⊢
 have hlen:=hs.len
 refine an (fun e=>?_) (fun e=>?_)
 ·have hi':i<l.length:=by omega
  have hm:l[i]∈l:=List.getElem_mem hi'
  refine(Seq.up hs H1.ap).bk (g:=Value.string) i rfl hi' l[i] rfl ?_
  refine(rO l[i] (hb _ hm) h1).mono ?_
  rintro _ h2 ⟨H2,rfl⟩
  refine⟨(_,_),rfl,?_⟩
  cases hc:cB l[i].data.toList with
  |none=>
   have hz:bD (l.map dl)=none:=oC hc (List.mem_map_of_mem hm)
   rw[hz]
   exact eb rfl ⟨⟨none,0,0⟩,rfl,by simpa using(Sp.zip (H1.up H2.ap).ap).nil aA 1 av⟩
  |some n=>
   refine kj rfl ?_
   have hnl:ns.length≤2^20:=by rw[mi hn];simp;omega
   refine(H1.up H2.ap).push af 0 rfl dd rfl (by decide) (fun _=>rfl) cU (n:Int) rfl (by decide) (by simp;omega) fun o' h4 H4=>?_
   refine⟨(o',i+1),by dsimp only;rw[wrap_small _ (by omega) (by omega)];rfl,⟨by dsimp only;omega,ns++[n],?_,?_⟩,by dsimp only;omega⟩
   ·dsimp only
    rw[aI _ _ (show i<(l.map dl).length by simpa using hi'),List.getElem_map,oB,hn]
    show Option.map _ (cB l[i].data.toList)=_
    rw[hc];rfl
   ·dsimp only
    rw[show tC (ns++[n])=tC ns++[(n:Int)]by simp[tC]]
    exact H4
 ·have hi2:i=l.length:=by omega
  rw[List.take_of_length_le (by simp;omega)]at hn
  rw[hn]
  exact⟨o,rfl,H1⟩
theorem zj (w cs:ByteArray) (hcs:cs=⟨#[48,49,50,51,52,53,54,55,56,57,97,98,99,100,101,102]⟩) (hs:w.size≤2^40) (h:Heap):
  ag Tryz.prog iT #[.string w,.string cs] h fun v h'=>Sp h h' []∧∃t:ByteArray,v=.string t∧(t.size=0↔(dl w).all di=true):=by
 subst hcs
 refine(pV w _ (by decide) (by decide) (by decide) hs h).mono ?_
 rintro _ h1 ⟨H1,t,rfl,ht⟩
 rw[show(⟨#[48,49,50,51,52,53,54,55,56,57,97,98,99,100,101,102]⟩:ByteArray).data.toList.contains=di from funext zi]at ht
 exact⟨H1,t,rfl,ht⟩
theorem zM (s:ByteArray) (hs:s=⟨#[48,49,50,51,52,53,54,55,56,57,97,98,99,100,101,102]⟩) (c:UInt8) (hc:di c=true) (h:Heap):
  ag Tryz.prog fC #[.string s,.int .u8 ((c.toNat:Nat):Int)] h fun v h'=>v=.int .i64 (((dc c).getD 0:Nat):Int)∧h'=h:=by
 refine(pK Tryz.strings_IndexByte _ _ h).mono ?_
 rintro _ h1 ⟨rfl,rfl⟩
 have ex:(((c.toNat:Nat):Int).toNat.toUInt8)=c:=by simp
 rw[ex,hs]
 exact⟨congrArg (Value.int .i64) (zS c hc),rfl⟩
theorem uw (w:ByteArray) (hs:w.size≤2^20) (h1s:1≤w.size) (h:Heap):
  ag Tryz.prog ol #[.string w] h fun v h'=>∃r:Sl,v=.tuple #[.slice r.ptr r.len r.cap,.bool (eU (dl w)).isSome]∧Sp h h' [ao az r 1 aF ((eU (dl w)).getD [])]:=by
 refine nA w ?_
 unfold jP
 have hz:(dl w).length=w.size:=rfl
 refine cj (fun e=>?_) fun e1=>?_
 ·have e:w=⟨#[45]⟩:=dA (eq_of_beq e)
  subst e
  exact⟨⟨none,0,0⟩,rfl,by simpa[eU]using(Sp.refl h).nil az 1 aF⟩
 have e1:dl w≠[45]:=fun hh=>by
  have hw:w=⟨#[45]⟩:=by cases w;congr;exact Array.toList_inj.1 hh
  rw[hw]at e1
  have e2:((⟨#[45]⟩:ByteArray).toList==(⟨#[45]⟩:ByteArray).toList)=false:=e1
  rw[beq_self_eq_true]at e2;cases e2
 have no:∀{h1:Heap},Sp h h1 []→¬((dl w).length%2=0∧(dl w).all di=true)→∃r:Sl,Value.tuple #[.slice none 0 0,.bool false]=.tuple #[.slice r.ptr r.len r.cap,.bool (eU (dl w)).isSome]∧Sp h h1 [ao az r 1 aF ((eU (dl w)).getD [])]:=fun H e=>by
  have:eU (dl w)=none:=by unfold eU;rw[if_neg e1,if_neg e]
  rw[this]
  exact⟨⟨none,0,0⟩,rfl,by simpa using H.nil az 1 aF⟩
 refine dz (fun _ h2=>Sp h h2 []∧(dl w).length%2=0∧(dl w).all di=true) ?_ ?_
 ·have htm:Int.tmod (w.size:Int) 2=((w.size%2:Nat):Int):=by rw[Int.tmod_eq_emod_of_nonneg (by omega)];rfl
  refine⟨by decide,ba (fun e=>no (Sp.refl h) (fun hh=>by omega)) fun ne=>?_⟩
  refine(zj w _ rfl (by omega) h).mono ?_
  rintro _ h1 ⟨H1,t,rfl,ht⟩
  refine⟨_,rfl,?_⟩
  refine an (fun hgt=>no H1 fun hh=>?_) fun hle=>⟨H1,by omega,ht.1 (by omega)⟩
  have:=ht.2 hh.2;omega
 ·rintro _ h2 ⟨H2,hev,hall⟩
  have hx:eU (dl w)=some (dj (dl w)):=by unfold eU;rw[if_neg e1,if_pos ⟨hev,hall⟩]
  rw[hx]
  have hpl:=pW (dl w)
  refine aE (fun t:Sl×Nat=>(t.1,((2*t.2:Nat):Int))) (fun t h'=>t.2≤(dj (dl w)).length∧Sp h h' [ao az t.1 1 aF ((dj (dl w)).take t.2)]) (fun t=>(dj (dl w)).length-t.2) (⟨none,0,0⟩,0) rfl ⟨by simp,by simpa using H2.nil az 1 aF⟩ ?_
  rintro⟨o,j⟩ h3 ⟨hj,H3⟩
  dsimp only at hj H3⊢
  refine an (fun e=>?_) (fun e=>?_)
  ·have hj':j<(dj (dl w)).length:=by omega
   have g1:2*j<(dl w).length:=by omega
   have g2:2*j+1<(dl w).length:=by omega
   have hw1:IntKind.wrap .i64 (((2*j:Nat):Int)+1)=((2*j+1:Nat):Int):=by rw[wrap_small _ (by omega) (by omega)];rfl
   have hA:di (dl w)[2*j]=true:=List.all_eq_true.1 hall _ (List.getElem_mem g1)
   have hB:di (dl w)[2*j+1]=true:=List.all_eq_true.1 hall _ (List.getElem_mem g2)
   obtain⟨a,ha⟩:∃a,a=(dl w)[2*j]:=⟨_,rfl⟩
   obtain⟨b,hb⟩:∃b,b=(dl w)[2*j+1]:=⟨_,rfl⟩
   rw[←ha]at hA;rw[←hb]at hB
   have pg:=pX (dl w) j a b (by rw[List.getElem?_eq_getElem g1,ha]) (by rw[List.getElem?_eq_getElem g2,hb])
   refine aM ?_
   rw[hw1]
   refine⟨a,⟨by omega,by rw[Int.toNat_natCast,←Array.getElem?_toList,List.getElem?_eq_getElem g1,ha]⟩,b,⟨by omega,by rw[Int.toNat_natCast,←Array.getElem?_toList,List.getElem?_eq_getElem g2,hb]⟩,?_⟩
   refine(zM _ rfl a hA h3).mono ?_
   rintro _ h4 ⟨rfl,rfl⟩
   refine⟨_,rfl,trivial,?_⟩
   refine(zM _ rfl b hB h4).mono ?_
   rintro _ h5 ⟨rfl,rfl⟩
   refine⟨_,rfl,trivial,?_⟩
   have la:=tB a
   have lb:=tB b
   refine H3.push af 0 rfl fG rfl (by decide) (fun _=>rfl) dJ (UInt8.ofNat (16*(dc a).getD 0+(dc b).getD 0)) ?_ (by decide) (by simp;omega) fun o' h6 H6=>?_
   ·dsimp only
    have:IntKind.wrap .u8 (IntKind.wrap .i64 (IntKind.wrap .i64 ((((dc a).getD 0:Nat):Int)*16)+(((dc b).getD 0:Nat):Int)))=(((UInt8.ofNat (16*(dc a).getD 0+(dc b).getD 0)).toNat:Nat):Int):=by
     rw[wrap_small (_*16) (by omega) (by omega),wrap_small _ (by omega) (by omega),UInt8.toNat_ofNat']
     show _%(256:Int)=_
     omega
    rw[this];rfl
   refine⟨(o',j+1),by dsimp only;rw[wrap_small _ (by omega) (by omega)];congr 1,⟨by dsimp only;omega,?_⟩,by dsimp only;omega⟩
   dsimp only
   have:(dj (dl w))[j]=UInt8.ofNat (16*(dc a).getD 0+(dc b).getD 0):=by
    rw[List.getElem?_eq_getElem hj']at pg;exact Option.some.inj pg
   rw[aI _ _ hj',this]
   exact H6
  ·rw[List.take_of_length_le (by omega)]at H3
   exact⟨o,rfl,H3⟩
end Go.Qw
namespace Go.Qw
open Go Go.Vc Go.Proofs Wl
set_option maxRecDepth 100000
theorem ux (n:Nat) (x:Int) (h:Heap) (hn:n≤2^30):ag Tryz.prog jv #[.int .i64 n,.int .i64 x] h fun v h'=>∃(r:Sl) (l:List UInt8),v=.slice r.ptr r.len r.cap∧l.length=n∧Sp h h' [ao az r 1 aF l]:=by
 refine iG n x ?_
 unfold fe
 refine aE (fun t:Sl×Nat×List UInt8=>(t.1,(t.2.1:Int))) (fun t h'=>t.2.1≤n∧t.2.2.length=t.2.1∧Sp h h' [ao az t.1 1 aF t.2.2]) (fun t=>n-t.2.1) (⟨none,0,0⟩,0,[]) rfl ⟨by simp,rfl,(Sp.refl h).nil az 1 aF⟩ ?_
 rintro⟨o,i,l⟩ h1 ⟨hi,hl,H1⟩
 dsimp only at*
 refine an (fun e=>?_) fun e=>?_
 ·have hi':i<n:=by omega
  refine⟨by decide,Int.tmod_nonneg _ (by omega),?_⟩
  rw[bE]
  generalize b8 (IntKind.wrap .i64 _)=c
  refine H1.push af 0 rfl fG rfl (by decide) (fun _=>rfl) dJ c rfl (by decide) (by omega) fun o' h2 H2=>?_
  refine⟨(o',i+1,l++[c]),by dsimp only;rw[Go.Vc.wrap_small _ (by omega) (by omega)];rfl,⟨by dsimp only;omega,?_,H2⟩,by dsimp only;omega⟩
  simp[hl]
 ·exact⟨o,l,rfl,by omega,H1⟩
end Go.Qw
namespace Go.Vc
open Go Wl
abbrev Cells:=List (List UInt8)
abbrev powC (w:Pow) (l:Int):List Value:=[.bool w.off,.bool w.fuse.isSome,.int .i64 l,.int .i64 w.offs]
def oD (w:Pow) (l:Int):Prop:=∀k,w.fuse=some k→l=k∧k<2^62
def bG (t:Nat) (a:Addr) (w:Pow):HP:=HP.ex fun l:Int=>(aj a t (powC w l)).and (oD w l)
section
variable {B:ak} {h0 h h':Heap} {As:List HP} {t:Nat} {a:Addr} {w:Pow}
theorem ab.mL (H:ab B h0 h (bG t a w::As)):∃l,oD w l∧ab B h0 h (aj a t (powC w l)::As):=by
 obtain⟨l,H⟩:=H.qH
 obtain⟨H,hl⟩:=H.pb
 exact⟨l,hl,H⟩
theorem ab.nF {l:Int} (hl:oD w l) (H:ab B h0 h (aj a t (powC w l)::As)):ab B h0 h (bG t a w::As):=
 (H.topb hl).rm (F:=fun l:Int=>(aj a t (powC w l)).and (oD w l)) l
end
end Go.Vc
namespace Go.Qw
open Go Go.Vc Go.Proofs Wl
set_option maxRecDepth 100000
section
variable {B:ak} {h0 h h':Heap} {As:List HP} {t:Nat} {a:Addr} {w:Pow}
theorem pr (l:Int) (hb:bK h a aO (powC w l)):ag Tryz.prog mT #[.pointer (some a)] h fun v h'=>v=.bool (!w.off)∧h'=h:=by
 refine me (some a) ?_
 unfold iq
 exact cj (fun _=>⟨a,rfl,w.off,hb.cell0 rfl,rfl,rfl⟩) fun e=>by cases e
theorem pY (l:Int) (hb:bK h a aO (powC w l)):ag Tryz.prog lu #[.pointer (some a)] h fun v h'=>v=.int .i64 w.offs∧h'=h:=by
 refine kC (some a) ?_
 unfold gr
 exact cj (fun e=>by cases e) fun _=>⟨a,rfl,w.offs,hb.cell rfl,rfl,rfl⟩
theorem vA (h:Heap):ag Tryz.prog rE #[] h fun v h'=>∃a,v=.pointer (some a)∧Sp h h' [bG aO a Pow.new]:=by
 refine qu ?_
 unfold nb
 refine(Sp.refl h).boxed fun a h1 H1=>⟨a,rfl,ab.nF (l:=0) (w:=Pow.new) (fun k e=>by cases e) H1⟩
theorem pZ (H:ab B h0 h (bG aO a w::As)):ag Tryz.prog lz #[.pointer (some a)] h fun v h'=>v=.bool w.step.1∧ab B h0 h' (bG aO a w.step.2::As):=by
 obtain⟨l,hl,H1⟩:=H.mL
 refine kF (some a) ?_
 unfold gw
 refine(pr l (H1.box 0 rfl)).mono ?_
 rintro _ h1 ⟨rfl,rfl⟩
 refine⟨_,rfl,bt (fun e=>?_) (fun e=>?_)⟩
 ·have:w.step=(false,w):=by unfold Pow.step;rw[if_pos (by simpa using e)]
  rw[this];exact⟨rfl,H⟩
 have ho:w.off=false:=by simpa using e
 refine⟨a,rfl,_,(H1.box 0 rfl).cell rfl,bt (fun e2=>?_) (fun e2=>?_)⟩
 ·have:w.step=(true,w):=by
   unfold Pow.step;rw[if_neg (by simp[ho])]
   cases hf:w.fuse with
   |none=>rfl
   |some k=>rw[hf]at e2;cases e2
  rw[this];exact⟨rfl,H⟩
 obtain⟨k,hf⟩:∃k,w.fuse=some k:=Option.isSome_iff_exists.1 e2
 obtain⟨rfl,hk⟩:=hl k hf
 have ec:powC w (k:Int)=[.bool false,.bool true,.int .i64 k,.int .i64 w.offs]:=by simp[powC,ho,hf]
 rw[ec]at H1
 refine⟨a,rfl,_,(H1.box 0 rfl).cell rfl,ba (fun e3=>?_) (fun e3=>?_)⟩
 ·have hk0:k=0:=by omega
  subst hk0
  have hs:w.step=(false,⟨true,some 0,IntKind.wrap .i64 (w.offs+1)⟩):=by unfold Pow.step;rw[if_neg (by simp[ho]),hf]
  rw[hs]
  refine⟨a,rfl,H1.vd af 0 rfl rfl [.bool true] rfl rfl rfl (by simp) fun h2 H2=>?_⟩
  refine⟨a,rfl,w.offs,(H2.box 0 rfl).cell rfl,a,rfl,H2.store af 0 rfl rfl 3 [.int .i64 (IntKind.wrap .i64 (w.offs+1))] rfl rfl rfl (by simp[powC]) fun h3 H3=>⟨rfl,?_⟩⟩
  refine ab.nF (l:=((0:Nat):Int)) (fun k' hk'=>by cases hk';exact⟨rfl,by decide⟩) ?_
  exact H3
 ·obtain⟨j,rfl⟩:∃j,k=j+1:=⟨k-1,by omega⟩
  have hs:w.step=(true,⟨false,some j,w.offs⟩):=by unfold Pow.step;rw[if_neg (by simp[ho]),hf]
  rw[hs]
  refine⟨a,rfl,_,(H1.box 0 rfl).cell rfl,a,rfl,H1.store af 0 rfl rfl 2 [.int .i64 (IntKind.wrap .i64 (((j+1:Nat):Int)-1))] rfl rfl rfl (by simp[powC]) fun h3 H3=>⟨rfl,?_⟩⟩
  refine ab.nF (l:=(j:Int)) (fun k' hk'=>by cases hk';exact⟨rfl,by omega⟩) ?_
  rw[Go.Vc.wrap_small _ (by omega) (by omega)]at H3
  have e4:((j+1:Nat):Int)-1=(j:Int):=by omega
  rw[e4]at H3
  exact H3
end
end Go.Qw
namespace Wl
structure iV (d:bv):Prop where
 wait:d.wait≤d.l.length
 len:d.l.length≤d.room
 room:d.room≤512
 cell:∀c∈d.l,c.length=64
 laid:d.laid.length≤d.room
 cellL:∀c∈d.laid,c.length=64
section
variable {d:bv} {w:Pow} {b:List UInt8}
theorem iV.new {n:Nat} (h:n≤512):iV (bv.new n):=⟨Nat.le_refl _,Nat.zero_le _,h,by simp[bv.new],Nat.zero_le _,by simp[bv.new]⟩
end
end Wl
namespace Go.Vc
open Go Wl Go.Qw
abbrev dE (s:Sl) (l:Cells):HP:=iN bT s az 1 aF l
def dF (t:Nat) (f:bv→Sl→Sl→List Value) (a:Addr) (d:bv):HP:=
 (HP.ex fun sb:Sl×Sl=>(aj a t (f d sb.1 sb.2)).sep ((dE sb.1 d.l).sep (dE sb.2 d.laid))).and (iV d)
section
variable {B:ak} {h0 h h':Heap} {As:List HP} {t:Nat} {f:bv→Sl→Sl→List Value} {a:Addr} {d:bv}
theorem ab.xr (H:ab B h0 h (dF t f a d::As)):iV d∧∃s b:Sl,ab B h0 h (aj a t (f d s b)::dE s d.l::dE b d.laid::As):=by
 obtain⟨H,ok⟩:=H.pb
 obtain⟨sb,H⟩:=H.qH
 exact⟨ok,sb.1,sb.2,H.rn.rn.bO 3 [2,1,0]⟩
theorem ab.oE {s b:Sl} (ok:iV d) (H:ab B h0 h (aj a t (f d s b)::dE s d.l::dE b d.laid::As)):ab B h0 h (dF t f a d::As):=
 ((((H.bO 3 [2,1,0]).qI).qI).rm (F:=fun sb:Sl×Sl=>(aj a t (f d sb.1 sb.2)).sep ((dE sb.1 d.l).sep (dE sb.2 d.laid))) (s,b)).topb ok
end
end Go.Vc
namespace Go.Qw
open Go Go.Vc Go.Proofs Wl
set_option maxRecDepth 100000
abbrev iw (pw:Addr) (d:bv) (s b:Sl):List Value:=[.pointer (some pw),.int .i64 d.room,.slice s.ptr s.len s.cap,.int .i64 d.wait,.slice b.ptr b.len b.cap,.bool d.has,.bool d.lost]
abbrev mj (pw a:Addr) (d:bv):HP:=dF eQ (iw pw) a d
section
variable {B:ak} {h0 h h':Heap} {As:List HP} {a pw:Addr} {d:bv} {w:Pow}
theorem uy (n:Int) (pw:Addr) (h:Heap):ag Tryz.prog rF #[.int .i64 n,.pointer (some pw)] h fun v h'=>
  (1≤n∧n≤512→∃a,v=.pointer (some a)∧Sp h h' [mj pw a (bv.new n.toNat)])∧(¬(1≤n∧n≤512)→v=.pointer none∧Sp h h' []):=by
 refine qw n (some pw) ?_
 unfold nc
 refine aM (an (fun e=>⟨fun hh=>absurd hh (by omega),fun _=>⟨rfl,Sp.refl h⟩⟩) fun e1=>an (fun e=>⟨fun hh=>absurd hh (by omega),fun _=>⟨rfl,Sp.refl h⟩⟩) fun e2=>cj (fun e=>by cases e) fun _=>?_)
 refine(Sp.refl h).boxed fun a h1 H1=>⟨fun _=>⟨a,rfl,?_⟩,fun hh=>absurd (by omega) hh⟩
 refine ab.oE (s:=⟨none,0,0⟩) (b:=⟨none,0,0⟩) (iV.new (by omega)) ?_
 have e:((n.toNat:Nat):Int)=n:=by omega
 have H2:=((H1.uf bT az 1 aF).uf bT az 1 aF).bO 3 [2,1,0]
 have e2:iw pw (bv.new n.toNat) ⟨none,0,0⟩ ⟨none,0,0⟩=[.pointer (some pw),.int .i64 n,.slice none 0 0,.int .i64 0,.slice none 0 0,.bool false,.bool false]:=by
  simp only[iw,bv.new,e];rfl
 rw[e2];exact H2
theorem qc (s b:Sl) (d':bv) (H:ab B h0 h (aj a eQ (iw pw d s b)::dE s d.l::dE b d.laid::bG aO pw w::As)) (ok:iV d) (hd:d'={d with laid:=[],has:=false}):
  ag Tryz.prog lA #[.pointer (some a)] h fun v h'=>v=.int .i64 0∧ab B h0 h' (mj pw a d'::bG aO pw w::As):=by
 refine kG (some a) ?_
 unfold gx
 refine⟨a,rfl,H.store af 0 rfl rfl 4 [.slice none 0 0] rfl rfl rfl (by simp[iw]) fun h2 H2=>?_⟩
 refine⟨a,rfl,H2.store af 0 rfl rfl 5 [.bool false] rfl rfl rfl (by simp[iw]) fun h3 H3=>⟨rfl,?_⟩⟩
 subst hd
 refine ab.oE (s:=s) (b:=⟨none,0,0⟩) ⟨ok.wait,ok.len,ok.room,ok.cell,Nat.zero_le _,by simp⟩ ?_
 exact((H3.uf bT az 1 aF).bO 5 [1,2,0,4])
theorem sW (x:Sl) (row:List UInt8) (H:ab B h0 h (mj pw a d::bG aO pw w::As)) (hx:Rd h x 1 aF row) (hr:row.length≤2^20):
  ag Tryz.prog fh #[.pointer (some a),.slice x.ptr x.len x.cap] h fun v h'=>v=.int .i64 (d.append w row).1∧ab B h0 h' (mj pw a (d.append w row).2.2::bG aO pw (d.append w row).2.1::As):=by
 refine eM (some a) x ?_
 unfold dC
 have hxl:=hx.len
 obtain⟨ok,s,b,H1⟩:=H.xr
 have hb:=H1.box 0 rfl
 obtain⟨hsl,_⟩:=ab.yw (H1.bO 4 [1])
 have hroom:=ok.room
 have hlen:=ok.len
 have hwait:=ok.wait
 have same:∀(e:Int),d.append w row=(e,w,d)→(Value.int .i64 e=.int .i64 (d.append w row).1∧ab B h0 h (mj pw a (d.append w row).2.2::bG aO pw (d.append w row).2.1::As)):=fun e he=>by
  rw[he];exact⟨rfl,H⟩
 refine aM (cz (fun e=>same 1 (by unfold bv.append;rw[if_pos (by omega)])) fun e64=>?_)
 have e64':row.length=64:=by omega
 refine aM (cj (fun e=>by cases e) fun _=>⟨a,rfl,d.lost,hb.cell rfl,cj (fun e=>same 5 ?_) fun elost=>?_⟩)
 ·unfold bv.append;rw[if_neg (by omega),if_pos e]
 refine⟨a,rfl,s,hb.cell rfl,a,rfl,(d.room:Int),hb.cell rfl,an (fun e=>same 7 ?_) fun eroom=>?_⟩
 ·unfold bv.append;rw[if_neg (by omega),if_neg (by simp[elost]),if_pos (by omega)]
 obtain⟨l,hl,H1p⟩:=(H1.bO 4 [3,0,1,2]).mL
 refine⟨a,rfl,some pw,hb.cell0 rfl,(pr l (H1p.box 0 rfl)).mono ?_⟩
 rintro _ h2 ⟨rfl,rfl⟩
 refine⟨_,rfl,bt (fun e=>same 14 ?_) fun eoff=>?_⟩
 ·unfold bv.append;rw[if_neg (by omega),if_neg (by simp[elost]),if_neg (by omega),if_pos (by simpa using e)]
 have eoff':w.off=false:=by simpa using eoff
 refine aM ⟨a,rfl,s,hb.cell rfl,(sV x row h2 hx (by omega)).mono ?_⟩
 rintro _ h4 ⟨r,rfl,R4⟩
 have H4:=(H1.gO R4).bO 5 [2,0,1,3,4]
 have hb4:=H4.box 2 rfl
 refine⟨r,rfl,⟨hb4.cell rfl,trivial⟩,?_⟩
 have H4b:=H4
 refine H4.oZ af fo qJ rfl [r] rfl (show 1*1≤2^20 by decide) rfl ⟨hb4.cell rfl,trivial⟩ ?_
 refine H4.xi af qJ (by omega) fun s' h6 H6=>⟨trivial,?_⟩
 have H6:=H6.bO 4 [1,0,2,3]
 refine⟨a,rfl,H6.store af 0 rfl rfl 2 [.slice s'.ptr s'.len s'.cap] rfl rfl rfl (by simp[iw]) fun h7 H7=>⟨trivial,?_⟩⟩
 have hb7:=H7.box 0 rfl
 refine⟨a,rfl,(d.wait:Int),hb7.cell rfl,a,rfl,?_⟩
 rw[Go.Vc.wrap_small ((d.wait:Int)+1) (by omega) (by omega)]
 refine H7.store af 0 rfl rfl 3 [.int .i64 ((d.wait:Int)+1)] rfl rfl rfl (by simp[iw]) fun h8 H8=>?_
 obtain⟨d1,hd1⟩:∃d1:bv,d1={d with l:=d.l++[row],wait:=d.wait+1}:=⟨_,rfl⟩
 have ok1:iV d1:=by
  subst hd1
  refine⟨by simp;omega,by simp;omega,ok.room,fun c hc=>?_,ok.laid,ok.cellL⟩
  rcases List.mem_append.1 hc with hc|hc
  ·exact ok.cell c hc
  ·rw[List.mem_singleton.1 hc];exact e64'
 have H8':ab B h0 h8 (aj a eQ (iw pw d1 s' b)::dE s' d1.l::dE b d1.laid::bG aO pw w::As):=by rw[hd1];exact H8
 refine⟨a,rfl,some pw,(H8'.box 0 rfl).cell0 rfl,(pZ (H8'.bO 4 [3,0,1,2])).mono ?_⟩
 rintro _ h9 ⟨rfl,H9⟩
 have H9:=H9.bO 4 [1,2,3,0]
 have eres:d.append w row=if w.step.1 then(0,w.step.2,{d1 with laid:=[],has:=false})else(14,w.step.2,d1):=by
  rw[hd1];unfold bv.append;rw[if_neg (by omega),if_neg (by simp[elost]),if_neg (by omega),if_neg (by simp[eoff'])]
 rw[eres]
 refine⟨_,rfl,bt (fun e=>?_) (fun e=>?_)⟩
 ·rw[e];exact⟨rfl,H9.oE ok1⟩
 ·rw[e]
  refine(qc s' b _ H9 ok1 rfl).mono ?_
  rintro _ h10 ⟨rfl,H10⟩
  exact⟨0,rfl,rfl,H10⟩
theorem pu (x:Sl) (row:List UInt8) (h:Heap) (hx:Rd h x 1 aF row):ag Tryz.prog fh #[.pointer none,.slice x.ptr x.len x.cap] h fun v h'=>v=.int .i64 (if row.length≠64 then 1 else 5)∧h'=h:=by
 refine eM none x ?_
 unfold dC
 have hxl:=hx.len
 refine aM (cz (fun e=>⟨by rw[if_pos (by omega)],rfl⟩) fun e=>?_)
 exact aM (cj (fun _=>⟨by rw[if_neg (by omega)],rfl⟩) fun e=>by cases e)
theorem vB (H:ab B h0 h (mj pw a d::bG aO pw w::As)):
  ag Tryz.prog fN #[.pointer (some a)] h fun v h'=>v=.int .i64 (d.sync w).1∧ab B h0 h' (mj pw a (d.sync w).2.2::bG aO pw (d.sync w).2.1::As):=by
 refine fE (some a) ?_
 unfold eo
 obtain⟨ok,s,b,H1⟩:=H.xr
 have hb:=H1.box 0 rfl
 refine aM (cj (fun e=>by cases e) fun _=>⟨a,rfl,d.lost,hb.cell rfl,cj (fun e=>?_) fun elost=>?_⟩)
 ·have:d.sync w=(5,w,d):=by unfold bv.sync;rw[if_pos e]
  rw[this];exact⟨rfl,H⟩
 refine⟨a,rfl,some pw,hb.cell0 rfl,(pZ (H1.bO 4 [3,0,1,2])).mono ?_⟩
 rintro _ h2 ⟨rfl,H2⟩
 have H2:=H2.bO 4 [1,2,3,0]
 have eres:d.sync w=if w.step.1 then(0,w.step.2,{{d with wait:=0}with laid:=[],has:=false})else(14,w.step.2,d):=by
  unfold bv.sync;rw[if_neg (by simp[elost])]
 rw[eres]
 refine⟨_,rfl,bt (fun e=>?_) (fun e=>?_)⟩
 ·rw[e];exact⟨rfl,H2.oE ok⟩
 ·rw[e]
  refine⟨a,rfl,H2.store af 0 rfl rfl 3 [.int .i64 0] rfl rfl rfl (by simp[iw]) fun h3 H3=>?_⟩
  refine(qc (d:={d with wait:=0}) s b _ H3 ⟨Nat.zero_le _,ok.len,ok.room,ok.cell,ok.laid,ok.cellL⟩ rfl).mono ?_
  rintro _ h4 ⟨rfl,H4⟩
  exact⟨0,rfl,rfl,H4⟩
theorem rP (h:Heap):ag Tryz.prog fN #[.pointer none] h fun v h'=>v=.int .i64 5∧h'=h:=by
 refine fE none ?_
 unfold eo
 exact aM (cj (fun _=>⟨rfl,rfl⟩) fun e=>by cases e)
end
end Go.Qw
namespace Go.Qw
open Go Go.Vc Go.Proofs Wl
set_option maxRecDepth 100000
theorem wI (b:Sl) (l:List UInt8) (h:Heap) (hb:Rd h b 1 aF l) (hs:l.length≤2^40):ag Tryz.prog ur #[.slice b.ptr b.len b.cap] h fun v h'=>v=.int .u32 (rr l).toNat∧h'=h:=by
 refine sU b ?_
 unfold pU
 have hl:=hb.len
 refine aE (fun t:Nat=>(((gP (l.take t)).toNat:Int),(t:Int))) (fun t h'=>t≤l.length∧h'=h) (fun t=>l.length-t) 0 rfl ⟨by omega,rfl⟩ ?_
 rintro i h1 ⟨hi,rfl⟩
 refine an (fun e=>?_) (fun e=>?_)
 ·have hi':i<l.length:=by
   have e':(i:Int)<(b.len:Int):=e
   omega
  refine hb.bk i rfl hi' (l[i].toNat:Int) rfl ?_
  have e1:IntKind.wrap .u32 (l[i].toNat:Int)=((BitVec.ofNat 32 l[i].toNat).toNat:Int):=by rw[pO,BitVec.ofInt_natCast]
  rw[e1,ue]
  refine aE (fun k:Nat=>(((jK k (gP (l.take i)^^^BitVec.ofNat 32 l[i].toNat)).toNat:Int),(k:Int))) (fun k h'=>k≤8∧h'=h1) (fun k=>8-k) 0 rfl ⟨by omega,rfl⟩ ?_
  rintro k h2 ⟨hk,rfl⟩
  obtain⟨c,hc⟩:∃c,c=jK k (gP (l.take i)^^^BitVec.ofNat 32 l[i].toNat):=⟨_,rfl⟩
  dsimp only
  rw[←hc]
  refine an (fun e2=>⟨by decide,?_⟩) (fun e2=>?_)
  ·have hstep:∀n:gn,n=oc c→∃t':Nat,(((n.toNat:Nat):Int),IntKind.wrap .i64 ((k:Int)+1))=(((jK t' (gP (l.take i)^^^BitVec.ofNat 32 l[i].toNat)).toNat:Int),(t':Int))∧(t'≤8∧h2=h2)∧8-t'<8-k:=fun n hn=>
    ⟨k+1,by rw[Go.Vc.wrap_small _ (by omega) (by omega),hn,hc];rfl,⟨by omega,rfl⟩,by omega⟩
   have e3:IntKind.wrap .u32 ((BitVec.ofInt (IntKind.bits .u32) (c.toNat:Int)&&&BitVec.ofInt (IntKind.bits .u32) (1:Int)).toNat:Nat)=((c&&&1#32).toNat:Int):=zc c 1#32
   have e4:IntKind.wrap .u32 ((BitVec.ofInt (IntKind.bits .u32) ((c>>>1).toNat:Int)^^^BitVec.ofInt (IntKind.bits .u32) (3988292384:Int)).toNat:Nat)=(((c>>>1)^^^3988292384#32).toNat:Int):=ue (c>>>1) 3988292384#32
   rw[e3,xI,e4]
   refine ba (fun e5=>hstep _ ?_) (fun e5=>hstep _ ?_)
   ·unfold oc;rw[if_pos ((tx c).1 e5)]
   ·unfold oc;rw[if_neg (fun hh=>e5 ((tx c).2 hh))]
  ·have hk8:k=8:=by omega
   subst hk8
   refine⟨i+1,?_,⟨by omega,rfl⟩,by omega⟩
   rw[Go.Vc.wrap_small _ (by omega) (by omega),aI _ _ hi',ud,hc];rfl
 ·have hie:i=l.length:=by
   have e':¬(i:Int)<(b.len:Int):=e
   omega
  subst hie
  refine⟨?_,rfl⟩
  rw[List.take_length]
  exact congrArg (Value.int .u32) (ue 4294967295#32 (gP l))
theorem vC (kind:Int) (body:Sl) (l:List UInt8) (h:Heap) (hb:Rd h body 1 aF l) (hs:l.length≤2^40):ag Tryz.prog sT #[.int .i64 kind,.slice body.ptr body.len body.cap] h fun v h'=>∃r:Sl,v=.slice r.ptr r.len r.cap∧Sp h h' [ao az r 1 aF (eA kind l)]:=by
 refine rL kind body ?_
 unfold ox
 have hl:=hb.len
 have bad:¬(1≤kind∧kind≤255∧l.length≤55)→∃r:Sl,Value.slice none 0 0=.slice r.ptr r.len r.cap∧Sp h h [ao az r 1 aF (eA kind l)]:=fun e=>by
  unfold eA;rw[if_neg e];exact⟨⟨none,0,0⟩,rfl,(Sp.refl h).nil az 1 aF⟩
 refine aM (an (fun e=>bad (by omega)) fun e1=>an (fun e=>bad (by omega)) fun e2=>an (fun e=>bad (by omega)) fun e3=>?_)
 refine(Sp.refl h).make af aF fG (by decide) 0 rfl rfl 64 64 rfl rfl (Nat.le_refl _) (by decide) fun o h2 hol hoc H2=>?_
 rw[bE]
 refine H2.lit af aF fG rfl [87,115,1,b8 kind] rfl (show 4*1≤2^20 by decide) rfl fun v3 h3 H3=>?_
 refine H3.rf af 0 rfl fG (fun _=>rfl) (H3.seq 1 rfl fun _=>rfl) dJ fun _ h4 H4=>⟨⟨by decide,by rw[hol];decide⟩,?_⟩
 have H4:Sp h h4 [ao az o 1 aF ([87,115,1,b8 kind]++List.replicate 60 0)]:=by
  have:=H4.cO [0]
  simpa using this
 refine H4.rx af 0 rfl fG (fun _=>rfl) (Seq.up hb H4.ap) dJ 4 (by simp) rfl rfl fun _ h5 H5=>⟨⟨by decide,by rw[hoc];decide⟩,?_⟩
 have eH:([87,115,1,b8 kind]++List.replicate 60 0).take 4++(l.take (([87,115,1,b8 kind]++List.replicate 60 (0:UInt8)).length-4)++([87,115,1,b8 kind]++List.replicate 60 0).drop (4+l.length))=bR kind l++List.replicate 5 0:=by
  have h1:([87,115,1,b8 kind]++List.replicate 60 (0:UInt8)).length=64:=by simp
  rw[h1,List.take_of_length_le (l:=l) (by omega),←List.drop_drop]
  have h2:([87,115,1,b8 kind]++List.replicate 60 (0:UInt8)).drop 4=List.replicate 60 0:=rfl
  have h3:([87,115,1,b8 kind]++List.replicate 60 (0:UInt8)).take 4=[87,115,1,b8 kind]:=rfl
  rw[h2,h3,List.drop_replicate]
  unfold bR
  have h4:List.replicate (60-l.length) (0:UInt8)=List.replicate (55-l.length) 0++List.replicate 5 0:=by rw[List.replicate_append_replicate];congr 1;omega
  rw[h4];simp[List.append_assoc]
 rw[eH]at H5
 have hcl:(bR kind l).length=59:=lR (by omega)
 have hr:Rd h5 ⟨o.ptr,59,o.cap⟩ 1 aF (bR kind l):=by
  have:=(H5.seq 0 rfl fun _=>rfl).take 59 (by simp[hcl])
  rw[List.take_append_of_le_length (by omega),List.take_of_length_le (by omega)]at this
  exact this
 refine(wI ⟨o.ptr,59,o.cap⟩ (bR kind l) h5 hr (by omega)).mono ?_
 rintro _ h6 ⟨rfl,rfl⟩
 obtain⟨c,hc⟩:∃c,c=rr (bR kind l):=⟨_,rfl⟩
 rw[←hc]
 refine⟨_,rfl,?_⟩
 refine aE (fun i:Nat=>(i:Int)) (fun i h'=>i≤4∧Sp h h' [ao az o 1 aF (bR kind l++((gD c).take i++List.replicate (5-i) 0))]) (fun i=>4-i) 0 rfl ⟨by omega,by simpa using H5⟩ ?_
 rintro i h7 ⟨hi,H7⟩
 have hl4:=rv c
 refine an (fun e=>?_) (fun e=>?_)
 ·have hi':i<4:=by
   have e':(i:Int)<4:=e
   omega
  rw[Go.Vc.wrap_small ((8:Int)*i) (by omega) (by omega),Go.Vc.wrap_small ((59:Int)+i) (by omega) (by omega)]
  refine⟨by omega,?_⟩
  have e8:((8:Int)*(i:Int)).toNat=8*i:=by omega
  have e9:min (8*i) (IntKind.bits .u32)=8*i:=by
   have:IntKind.bits .u32=32:=rfl
   omega
  rw[e8,e9,bE]
  have hg:b8 (Int.fdiv (c.toNat:Int) (2^(8*i)))=(gD c)[i]'(by omega):=by simp[gD]
  rw[hg]
  refine H7.set af 0 rfl (fun _=>rfl) rfl (59+i) (by omega) (by simp[hcl];omega) ((gD c)[i]'(by omega)) rfl rfl rfl fun h8 H8=>?_
  refine⟨i+1,by rw[Go.Vc.wrap_small _ (by omega) (by omega)];rfl,⟨by omega,?_⟩,by omega⟩
  have e10:(bR kind l++((gD c).take i++List.replicate (5-i) 0)).set (59+i) ((gD c)[i]'(by omega))=bR kind l++((gD c).take (i+1)++List.replicate (5-(i+1)) 0):=by
   rw[List.set_append_right _ _ (by omega),hcl,Nat.add_sub_cancel_left,List.set_append_right _ _ (by simp;omega),aI _ _ (by omega)]
   have:5-i=(5-(i+1))+1:=by omega
   rw[this,List.replicate_succ]
   simp[hl4,Nat.min_eq_left (show i≤4 by omega)]
   rw[aI _ _ (show i<(gD c).length by omega),List.append_assoc];rfl
  rw[e10]at H8
  exact H8
 ·have hie:i=4:=by
   have e':¬(i:Int)<4:=e
   omega
  subst hie
  refine H7.set af 0 rfl (fun _=>rfl) rfl 63 rfl (by simp[hcl,hl4]) 165 rfl rfl rfl fun h8 H8=>⟨o,rfl,?_⟩
  have e11:(bR kind l++((gD c).take 4++List.replicate (5-4) 0)).set 63 165=eA kind l:=by
   unfold eA
   rw[if_pos ⟨by omega,by omega,by omega⟩,←hc,List.take_of_length_le (by omega),List.set_append_right _ _ (by omega),hcl,List.set_append_right _ _ (by simp[hl4])]
   simp[hl4]
  rw[e11]at H8
  exact H8
end Go.Qw
namespace Go.Vc
open Go Wl
abbrev uz:=ByteArray×Int×Int×Sl
abbrev cn:=Int×Int×Int×Int×Int×Int×Sl×Sl
abbrev iy (x:uz):List Value:=[.string x.1,.int .i64 x.2.1,.int .i64 x.2.2.1,.slice x.2.2.2.ptr x.2.2.2.len x.2.2.2.cap]
abbrev bI (x:cn):List Value:=[.int .i64 x.1,.int .i64 x.2.1,.int .i64 x.2.2.1,.int .i64 x.2.2.2.1,.int .i64 x.2.2.2.2.1,.int .i64 x.2.2.2.2.2.1,.slice x.2.2.2.2.2.2.1.ptr x.2.2.2.2.2.2.1.len x.2.2.2.2.2.2.1.cap,.slice x.2.2.2.2.2.2.2.ptr x.2.2.2.2.2.2.2.len x.2.2.2.2.2.2.2.cap]
abbrev nG (x:cn):Value:=.agg #[.int .i64 x.1,.int .i64 x.2.1,.int .i64 x.2.2.1,.int .i64 x.2.2.2.1,.int .i64 x.2.2.2.2.1,.int .i64 x.2.2.2.2.2.1,.slice x.2.2.2.2.2.2.1.ptr x.2.2.2.2.2.2.1.len x.2.2.2.2.2.2.1.cap,.slice x.2.2.2.2.2.2.2.ptr x.2.2.2.2.2.2.2.len x.2.2.2.2.2.2.2.cap]
def vD:gm uz Wl.dH:=⟨fun h q a b=>(a.1=b.name∧a.2.1=b.object∧a.2.2.1=b.length)∧Seq h q a.2.2.2 1 av b.tries,fun a hp=>⟨a.1,a.2.ap hp⟩,fun a hq=>⟨a.1,a.2.mono hq⟩⟩
abbrev mM:gm Sl (List Wl.dH):=cN vD 4 iy
structure gX (h:Heap) (q:ak) (x:cn) (m:bu):Prop where
 seq:x.1=m.seq
 next:x.2.1=m.next
 p:(x.2.2.1,x.2.2.2.1,x.2.2.2.2.1)=m.p
 extra:x.2.2.2.2.2.1=m.extra
 drives:Seq h q x.2.2.2.2.2.2.1 1 av m.drives
 objs:mM.p h q x.2.2.2.2.2.2.2 m.objs
 dcap:x.2.2.2.2.2.2.1.len≤x.2.2.2.2.2.2.1.cap
 ocap:x.2.2.2.2.2.2.2.len≤x.2.2.2.2.2.2.2.cap
abbrev iW (h:Heap) (x:cn) (m:bu):Prop:=gX h (fun b=>b<h.size) x m
theorem gX.ap {h h':Heap} {q:ak} {x:cn} {m:bu} (a:gX h q x m) (hp:aw q h h'):gX h' q x m:=⟨a.seq,a.next,a.p,a.extra,a.drives.ap hp,mM.loc a.objs hp,a.dcap,a.ocap⟩
theorem gX.mono {h:Heap} {q q':ak} {x:cn} {m:bu} (a:gX h q x m) (hq:∀b,q b→q' b):gX h q' x m:=⟨a.seq,a.next,a.p,a.extra,a.drives.mono hq,mM.mono a.objs hq,a.dcap,a.ocap⟩
theorem iW.up {h h':Heap} {x:cn} {m:bu} (a:iW h x m) (hp:aw (fun b=>b<h.size) h h'):iW h' x m:=(gX.ap a hp).mono fun _ hb=>Nat.lt_of_lt_of_le hb hp.1
def gI (x:cn) (m:bu):HP:=⟨fun h q=>gX h q x m,fun a hp=>a.ap hp,fun a hq=>a.mono hq⟩
end Go.Vc
namespace Go.Qw
open Go Go.Vc Go.Proofs Wl
set_option maxRecDepth 100000
theorem gb (n a b:Int) (h:Heap):ag Tryz.prog pm #[.int .i64 n,.int .i64 a,.int .i64 b] h fun v h'=>v=.bool (cf n a b)∧h'=h:=by
 refine oz n a b ?_
 unfold lj cf
 refine an (fun e=>⟨?_,rfl⟩) (fun e=>⟨?_,rfl⟩)
 ·rw[decide_eq_true (show a≤n from e)];rfl
 ·rw[decide_eq_false (show¬a≤n from e)];rfl
theorem vE (s:ByteArray) (h:Heap) (hs:s.size≤2^40):ag Tryz.prog rM #[.string s] h fun v h'=>v=.bool (ku s)∧Sp h h' []:=by
 refine qz s ?_
 unfold ng
 refine xJ af ⟨_,rfl,rfl⟩ ⟨_,rfl,rfl⟩ ⟨_,rfl,rfl⟩ s fun r h1 H1=>?_
 have hr:=H1.rd 0 rfl
 have hrl:=hr.len
 have hsl:=kr s
 refine aE (fun i:Nat=>(i:Int)) (fun i h'=>i≤s.size∧h'=h1∧∀c∈(cv s).take i,ef c=true) (fun i=>s.size-i) 0 rfl ⟨by omega,rfl,by simp⟩ ?_
 rintro i h2 ⟨hi,rfl,hall⟩
 refine an (fun e=>?_) (fun e=>?_)
 ·have hi':i<(cv s).length:=by
   have e':(i:Int)<(r.len:Int):=e
   omega
  refine hr.bk i rfl hi' ((cv s)[i].toNat:Int) rfl ?_
  obtain⟨c,hc⟩:∃c,c=(cv s)[i]:=⟨_,rfl⟩
  rw[←hc]
  have good:ef c=true→∃t':Nat,IntKind.wrap .i64 ((i:Int)+1)=(t':Int)∧(t'≤s.size∧h2=h2∧∀c∈(cv s).take t',ef c=true)∧s.size-t'<s.size-i:=fun hg=>
   ⟨i+1,by rw[Go.Vc.wrap_small _ (by omega) (by omega)];rfl,⟨by omega,rfl,fun x hx=>by
    rw[aI _ _ hi']at hx
    rcases List.mem_append.1 hx with hx|hx
    ·exact hall x hx
    ·rw[List.mem_singleton.1 hx,←hc];exact hg⟩,by omega⟩
  have bad:ef c=false→Value.bool false=.bool (ku s)∧Sp h h2 []:=fun hg=>by
   refine⟨?_,H1.cO []⟩
   unfold ku
   have:s.data.toList.all ef=false:=List.all_eq_false.2 ⟨c,by rw[hc];exact List.getElem_mem hi',by rw[hg];simp⟩
   rw[this];rfl
  have hch:ef c=true↔((97≤(c.toNat:Int)∧(c.toNat:Int)≤122)∨(48≤(c.toNat:Int)∧(c.toNat:Int)≤57)∨(c.toNat:Int)=45):=by
   unfold ef;simp[or_assoc];omega
  have hno:ef c=false↔¬((97≤(c.toNat:Int)∧(c.toNat:Int)≤122)∨(48≤(c.toNat:Int)∧(c.toNat:Int)≤57)∨(c.toNat:Int)=45):=by
   rw[←hch];cases ef c<;>simp
  refine an (fun e1=>an (fun e2=>cz (fun e3=>bad (hno.2 (by omega))) fun e3=>good (hch.2 (by omega))) fun e2=>an (fun e3=>cz (fun e4=>bad (hno.2 (by omega))) fun e4=>good (hch.2 (by omega))) fun e3=>good (hch.2 (by omega))) fun e1=>an (fun e2=>an (fun e3=>cz (fun e4=>bad (hno.2 (by omega))) fun e4=>good (hch.2 (by omega))) fun e3=>an (fun e4=>cz (fun e5=>bad (hno.2 (by omega))) fun e5=>good (hch.2 (by omega))) fun e4=>good (hch.2 (by omega))) fun e2=>good (hch.2 (by omega))
 ·have e':¬(i:Int)<(r.len:Int):=e
  rw[List.take_of_length_le (by omega)]at hall
  have hA:s.data.toList.all ef=true:=List.all_eq_true.2 hall
  refine an (fun e1=>⟨?_,H1.cO []⟩) (fun e1=>⟨?_,H1.cO []⟩)
  ·unfold ku
   rw[hA,decide_eq_true (show 1≤s.size by omega)]
   congr 1;simp;omega
  ·unfold ku
   rw[hA,decide_eq_false (show¬1≤s.size by omega)];rfl
theorem vF (s:Sl) (l:List Int) (most:Int) (h:Heap) (hs:Rd h s 1 av l) (hl:l.length≤2^40):ag Tryz.prog rN #[.slice s.ptr s.len s.cap,.int .i64 most] h fun v h'=>v=.bool (mJ l most)∧h'=h:=by
 refine qA s most ?_
 unfold nh
 have hsl:=hs.len
 refine aE (fun i:Nat=>(i:Int)) (fun i h'=>i≤l.length∧h'=h∧∀j,j<i→dK l most j=true) (fun i=>l.length-i) 0 rfl ⟨by omega,rfl,by omega⟩ ?_
 rintro i h1 ⟨hi,rfl,hall⟩
 refine an (fun e=>?_) (fun e=>?_)
 ·have hi':i<l.length:=by
   have e':(i:Int)<(s.len:Int):=e
   omega
  refine hs.bk i rfl hi' l[i] rfl ?_
  have hg:l.getD i 0=l[i]:=getD_lt hi'
  have bad:dK l most i=false→Value.bool false=.bool (mJ l most)∧h1=h1:=fun hb=>⟨by unfold mJ;rw[lT hi' hb],rfl⟩
  have good:dK l most i=true→∃t':Nat,IntKind.wrap .i64 ((i:Int)+1)=(t':Int)∧(t'≤l.length∧h1=h1∧∀j,j<t'→dK l most j=true)∧l.length-t'<l.length-i:=fun hb=>
   ⟨i+1,by rw[Go.Vc.wrap_small _ (by omega) (by omega)];rfl,⟨by omega,rfl,fun j hj=>by
    by_cases hji:j=i
    ·rw[hji];exact hb
    ·exact hall j (by omega)⟩,by omega⟩
  refine(gb l[i] 0 most h1).mono ?_
  rintro _ _ ⟨rfl,rfl⟩
  refine⟨_,rfl,bt (fun e1=>bad (by unfold dK;rw[hg,e1];rfl)) fun e1=>an (fun e2=>?_) fun e2=>good (by unfold dK;rw[hg,e1,decide_eq_true (show i=0 by omega)];rfl)⟩
  rw[Go.Vc.wrap_small ((i:Int)-1) (by omega) (by omega)]
  refine hs.bk (i-1) (by omega) (by omega) (l[i-1]'(by omega)) rfl ?_
  have hg1:l.getD (i-1) 0=l[i-1]'(by omega):=getD_lt (by omega)
  refine an (fun e3=>bad ?_) (fun e3=>good ?_)
  ·unfold dK;rw[hg,hg1,e1,decide_eq_false (show¬i=0 by omega),decide_eq_false (by omega)];rfl
  ·unfold dK;rw[hg,hg1,e1,decide_eq_true (show l[i-1]'(by omega)<l[i]by omega)];simp
 ·have e':¬(i:Int)<(s.len:Int):=e
  exact⟨by unfold mJ;rw[kV fun j hj=>hall j (by omega)],rfl⟩
theorem uA (p:Pm) (n:Int) (h:Heap) (hn:n≤2^40):ag Tryz.prog pi #[iU p,.int .i64 n] h fun v h'=>v=.int .i64 (countP p n)∧Sp h h' []:=by
 refine ou p n ?_
 unfold lf
 refine(Sp.refl h).boxed fun a1 h1 H1=>?_
 refine aM ⟨p,(H1.box 0 rfl).bg _ rfl,(iv p h1).mono ?_⟩
 rintro _ h2 ⟨rfl,R2⟩
 have H2:=H1.up R2.ap
 refine⟨_,rfl,bt (fun e=>⟨?_,H2.cO []⟩) fun hm=>an (fun e=>⟨?_,H2.cO []⟩) fun e=>?_⟩
 ·unfold countP;rw[e];rfl
 ·unfold countP;rw[decide_eq_false (show¬0<n by omega),Bool.and_false];rfl
 ·have hmp:=(km p).1 hm
  refine⟨p,(H2.box 0 rfl).bg _ rfl,?_⟩
  refine(pl p (R:=fun v h'=>v=.int .i64 (p.1*p.2.2)∧Sp h h' []) ?_).mono ?_
  ·unfold mf
   refine H2.boxed fun a2 h3 H3=>⟨p.1,(H3.box 1 rfl).cell0 rfl,p.2.2,(H3.box 1 rfl).cell rfl,?_,H3.cO []⟩
   have hk:p.1*p.2.2≤16*24:=Int.mul_le_mul (by omega) (by omega) (by omega) (by omega)
   have hk0:0≤p.1*p.2.2:=Int.mul_nonneg (by omega) (by omega)
   rw[Go.Vc.wrap_small _ (by omega) (by omega)]
  ·rintro _ h3 ⟨rfl,R3⟩
   have hk0:0<p.1*p.2.2:=Int.mul_pos (by omega) (by omega)
   refine⟨_,rfl,Int.ne_of_gt hk0,?_,R3⟩
   have h1:(n-1)/(p.1*p.2.2)≤n-1:=Int.ediv_le_self _ (by omega)
   have h2:0≤(n-1)/(p.1*p.2.2):=Int.ediv_nonneg (by omega) (by omega)
   rw[Go.Vc.wrap_small (n-1) (by omega) (by omega),Int.tdiv_eq_ediv_of_nonneg (by omega),Go.Vc.wrap_small ((n-1)/(p.1*p.2.2)) (by omega) (by omega),Go.Vc.wrap_small _ (by omega) (by omega)]
   unfold countP
   rw[hm,decide_eq_true (show 0<n by omega)];rfl
theorem sX (s:Sl) (l:List Int) (h:Heap) (hs:Rd h s 1 av l) (hl:l.length≤2^40):ag Tryz.prog fD #[.slice s.ptr s.len s.cap,.func (.func fF) #[] #[]] h fun v h'=>v=.bool (!l.all (cf · 0 15))∧h'=h:=by
 refine fj s (fF,#[],#[]) ?_
 unfold df
 have hsl:=hs.len
 refine(fZ s (fF,#[],#[]) (R:=fun v h'=>(∃i:Int,v=.int .i64 i∧(decide (i≥0)=!l.all (cf · 0 15)))∧h'=h) ?_).mono ?_
 ·unfold dQ
  refine aE (fun i:Nat=>(i:Int)) (fun i h'=>i≤l.length∧(l.take i).all (cf · 0 15)=true∧h'=h) (fun i=>l.length-i) 0 rfl ⟨by omega,by simp,rfl⟩ ?_
  rintro i h1 ⟨hi,hall,rfl⟩
  refine an (fun e=>?_) (fun e=>?_)
  ·have hi':i<l.length:=by
    have e':(i:Int)<(s.len:Int):=e
    omega
   refine hs.bk i rfl hi' l[i] rfl (nW (by rfl) ?_)
   refine(nE l[i] (R:=fun v h'=>v=.bool (!cf l[i] 0 15)∧h'=h1) ?_).mono ?_
   ·unfold jU
    refine(gb l[i] 0 15 h1).mono ?_
    rintro _ _ ⟨rfl,rfl⟩
    exact⟨_,rfl,rfl,rfl⟩
   ·rintro _ _ ⟨rfl,rfl⟩
    refine⟨_,rfl,bt (fun e2=>?_) (fun e2=>?_)⟩
    ·refine⟨⟨i,rfl,?_⟩,rfl⟩
     rw[decide_eq_true (show(i:Int)≥0 by omega)]
     have:l.all (cf · 0 15)=false:=List.all_eq_false.2 ⟨_,List.getElem_mem hi',by rw[e2];simp⟩
     rw[this];rfl
    ·refine⟨i+1,by rw[Go.Vc.wrap_small _ (by omega) (by omega)];rfl,⟨by omega,?_,rfl⟩,by omega⟩
     rw[aI _ _ hi',List.all_append,hall];simp[e2]
  ·have e':¬(i:Int)<(s.len:Int):=e
   refine⟨⟨-1,rfl,?_⟩,rfl⟩
   rw[List.take_of_length_le (by omega)]at hall
   rw[hall];rfl
 ·rintro _ h1 ⟨⟨i,rfl,hi⟩,rfl⟩
  exact⟨i,rfl,by rw[hi],rfl⟩
end Go.Qw
namespace Wl
structure iX (m:bu):Prop where
 dr:m.drives.length≤2^30
 ob:m.objs.length≤2^30
 nm:∀e∈m.objs,e.name.size≤2^30∧e.tries.length≤2^30
end Wl
namespace Go.Vc
open Go
theorem addr_add (a:Addr) (i j:Nat):(a.add i).add j=a.add (i+j):=by
 unfold Addr.add
 by_cases hi:i=0<;>by_cases hj:j=0<;>simp[hi,hj,Nat.add_assoc]
theorem bK.rQ {h:Heap} {a:Addr} {e:TypeId} {cs:List Value} {v:Value} (hb:bK h a e cs) (i j:Nat) (hv:cs[i+j]?=some v):cellOf h ((a.add i).add j)=some v:=by
 rw[addr_add];exact hb.cell hv
theorem bK.xt {h:Heap} {a:Addr} {e:TypeId} {cs:List Value} {u v w:Value} (hb:bK h a e cs) (i:Nat) (h0:cs[i]?=some u) (h1:cs[i+1]?=some v) (h2:cs[i+2]?=some w):ah h (a.add i) 0 [u,v,w]:=
 ⟨hb.rQ i 0 h0,hb.rQ i 1 h1,hb.rQ i 2 h2,trivial⟩
end Go.Vc
namespace Go.Qw
open Go Go.Vc Go.Proofs Wl
set_option maxRecDepth 100000
theorem uB (x:cn) (m:bu) (e:uz) (E:Wl.dH) (h:Heap) (hx:iW h x m) (he:xe vD h e E) (hh:fu m=true) (hn:E.name.size≤2^30) (ht:E.tries.length≤2^30):
  ag Tryz.prog qB #[nG x,.agg #[.string e.1,.int .i64 e.2.1,.int .i64 e.2.2.1,.slice e.2.2.2.ptr e.2.2.2.len e.2.2.2.cap]] h fun v h'=>v=.bool (dL m E)∧Sp h h' []:=by
 refine pn x e ?_
 unfold mg
 obtain⟨_,hnx,hmay,_⟩:=ry hh
 have hmp:=(km m.p).1 hmay
 obtain⟨⟨e1,e2,e3⟩,e4⟩:=he
 have hp1:x.2.2.1=m.p.1:=congrArg (·.1) hx.p
 have hp2:x.2.2.2.1=m.p.2.1:=congrArg (·.2.1) hx.p
 have hp3:x.2.2.2.2.1=m.p.2.2:=congrArg (·.2.2) hx.p
 have hk:m.p.1*m.p.2.2≤16*24:=Int.mul_le_mul (by omega) (by omega) (by omega) (by omega)
 have hk0:0≤m.p.1*m.p.2.2:=Int.mul_nonneg (by omega) (by omega)
 refine(Sp.refl h).boxed fun a1 h1 H1=>?_
 refine H1.boxed fun a2 h2 H2=>?_
 have no:∀{h':Heap} {As:List HP},Sp h h' As→dL m E=false→Value.bool false=.bool (dL m E)∧Sp h h' []:=fun{h' As} H' hb=>⟨by rw[hb],.zip H'.ap⟩
 refine aM ⟨E.name,by rw[←e1];exact(H2.box 1 rfl).cell0 rfl,(vE E.name h2 (by omega)).mono ?_⟩
 rintro _ h3 ⟨rfl,R3⟩
 have H3:=H2.up R3.ap
 refine⟨_,rfl,bt (fun b=>no H3 (by unfold dL;rw[b];rfl)) fun b1=>?_⟩
 refine⟨E.object,by rw[←e2];exact(H3.box 1 rfl).cell rfl,m.next,by rw[←hx.next];exact(H3.box 0 rfl).cell rfl,?_⟩
 rw[Go.Vc.wrap_small (m.next-1) (by omega) (by omega)]
 refine(gb E.object 0 (m.next-1) h3).mono ?_
 rintro _ _ ⟨rfl,rfl⟩
 refine⟨_,rfl,bt (fun b=>no H3 (by unfold dL;rw[b1,b];rfl)) fun b2=>?_⟩
 have hb:=H3.box 0 rfl
 refine⟨E.length,by rw[←e3];exact(H3.box 1 rfl).cell rfl,m.p.1,by rw[←hp1];exact hb.cell rfl,m.p.2.2,by rw[←hp3];exact hb.rQ 2 2 rfl,?_⟩
 rw[Go.Vc.wrap_small (m.p.1*m.p.2.2) (by omega) (by omega),Go.Vc.wrap_small (m.p.1*m.p.2.2*8) (by omega) (by omega)]
 refine(gb E.length 0 (m.p.1*m.p.2.2*8) _).mono ?_
 rintro _ _ ⟨rfl,rfl⟩
 refine⟨_,rfl,bt (fun b=>no H3 (by unfold dL;rw[b1,b2,b];rfl)) fun b3=>?_⟩
 have hlen:0≤E.length∧E.length≤m.p.1*m.p.2.2*8:=by unfold cf at b3;simpa using b3
 refine⟨e.2.2.2,(H3.box 1 rfl).cell rfl,?_⟩
 refine(sX e.2.2.2 E.tries _ (Seq.up e4 H3.ap) (by omega)).mono ?_
 rintro _ _ ⟨rfl,rfl⟩
 refine⟨_,rfl,bt (fun b=>?_) (fun b=>⟨trivial,no H3 ?_⟩)⟩
 ·have b4:E.tries.all (cf · 0 15)=true:=by simpa using b
  refine⟨e.2.2.2,(H3.box 1 rfl).cell rfl,m.p,?_,E.length,by rw[←e3];exact(H3.box 1 rfl).cell rfl,?_⟩
  ·rw[←hp1,←hp2,←hp3]
   exact hb.xt 2 rfl rfl rfl
  ·refine(uA m.p E.length _ (by omega)).mono ?_
   rintro _ h4 ⟨rfl,R4⟩
   have H4:=H3.up R4.ap
   refine⟨_,rfl,⟨(H4.box 1 rfl).cell rfl,trivial⟩,?_,.zip H4.ap⟩
   unfold dL
   have el:=e4.len
   rw[b1,b2,b3,b4,el]
   simp
   rfl
 ·have b4:E.tries.all (cf · 0 15)=false:=by simpa using b
  unfold dL;rw[b1,b2,b3,b4];rfl
theorem sY (a:Addr) (e:uz) (l:Sl) (ents:List Wl.dH) (h:Heap) (hb:bK h a gh (iy e)) (hl:xe mM h l ents) (hs:ents.length≤2^30):
  ag Tryz.prog dt #[.slice l.ptr l.len l.cap,.func (.func gH) #[] #[.pointer (some a)]] h fun v h'=>v=.bool (ents.any fun y=>decide (y.object=e.2.1))∧Sp h h' []:=by
 refine dh l (gH,#[],#[.pointer (some a)]) ?_
 unfold bP
 refine(dD l (gH,#[],#[.pointer (some a)]) (R:=fun v h'=>(∃i:Int,v=.int .i64 i∧(decide (i≥0)=ents.any fun y=>decide (y.object=e.2.1)))∧Sp h h' []) ?_).mono ?_
 ·unfold cg
  obtain⟨ys,q1,q2,q3⟩:=cN.zb hl
  have hll:=cN.len hl
  refine aE (fun i:Nat=>(i:Int)) (fun i h'=>i≤ents.length∧(ents.take i).any (fun y=>decide (y.object=e.2.1))=false∧Sp h h' []) (fun i=>ents.length-i) 0 rfl ⟨by omega,by simp,Sp.refl h⟩ ?_
  rintro i h1 ⟨hi,hall,H1⟩
  refine an (fun e1=>?_) (fun e1=>?_)
  ·have hi':i<ents.length:=by
    have e':(i:Int)<(l.len:Int):=e1
    omega
   obtain⟨⟨_,y2,_⟩,_⟩:=q3 i (by omega) hi'
   refine(Seq.up q1 H1.ap).nr (g:=iy) i rfl (by omega) (ys[i]'(by omega)) rfl (nW (by rfl) ?_)
   refine(po (ys[i]'(by omega)) a (R:=fun v h'=>v=.bool (ents[i].object==e.2.1)∧Sp h1 h' []) ?_).mono ?_
   ·unfold mh
    refine(Sp.refl h1).boxed fun a2 h2 H2=>?_
    have hb2:=hb.ap (up H1.ap H2.ap) hb.lt
    exact⟨ents[i].object,by rw[←y2];exact(H2.box 0 rfl).cell rfl,e.2.1,hb2.cell rfl,rfl,.zip H2.ap⟩
   ·rintro _ h2 ⟨rfl,R2⟩
    have H2:=H1.up R2.ap
    refine⟨_,rfl,ba (fun e2=>?_) (fun e2=>?_)⟩
    ·refine⟨⟨i,rfl,?_⟩,H2⟩
     rw[decide_eq_true (show(i:Int)≥0 by omega)]
     exact(List.any_eq_true.2 ⟨_,List.getElem_mem hi',by simpa using e2⟩).symm
    ·refine⟨i+1,by rw[Go.Vc.wrap_small _ (by omega) (by omega)];rfl,⟨by omega,?_,H2⟩,by omega⟩
     rw[aI _ _ hi',List.any_append,hall];simpa using e2
  ·have e':¬(i:Int)<(l.len:Int):=e1
   refine⟨⟨-1,rfl,?_⟩,H1⟩
   rw[List.take_of_length_le (by omega)]at hall
   rw[hall];rfl
 ·rintro _ h1 ⟨⟨i,rfl,hi⟩,R1⟩
  exact⟨i,rfl,by rw[hi],R1⟩
theorem wJ (x:cn) (m:bu) (h:Heap) (hx:iW h x m) (hz:iX m):ag Tryz.prog sS #[nG x] h fun v h'=>v=.bool (cP m)∧Sp h h' []:=by
 refine rK x ?_
 unfold ov
 refine(Sp.refl h).boxed fun a1 h1 H1=>?_
 have hb:=H1.box 0 rfl
 have hp1:x.2.2.1=m.p.1:=congrArg (·.1) hx.p
 have hp2:x.2.2.2.1=m.p.2.1:=congrArg (·.2.1) hx.p
 have hp3:x.2.2.2.2.1=m.p.2.2:=congrArg (·.2.2) hx.p
 have no:∀{h':Heap} {As:List HP},Sp h h' As→cP m=false→Value.bool false=.bool (cP m)∧Sp h h' []:=fun{h' As} H' hb=>⟨by rw[hb],.zip H'.ap⟩
 refine aM ⟨m.seq,by rw[←hx.seq];exact hb.cell0 rfl,(gb m.seq 1 2147483647 h1).mono ?_⟩
 rintro _ _ ⟨rfl,rfl⟩
 refine⟨_,rfl,bt (fun b=>no H1 (by unfold cP fu;rw[b];rfl)) fun b1=>?_⟩
 refine⟨m.next,by rw[←hx.next];exact hb.cell rfl,(gb m.next 0 16777216 _).mono ?_⟩
 rintro _ _ ⟨rfl,rfl⟩
 refine⟨_,rfl,bt (fun b=>no H1 (by unfold cP fu;rw[b1,b];rfl)) fun b2=>?_⟩
 refine⟨m.p,by rw[←hp1,←hp2,←hp3];exact hb.xt 2 rfl rfl rfl,(iv m.p _).mono ?_⟩
 rintro _ h2 ⟨rfl,R2⟩
 have H2:=H1.up R2.ap
 refine⟨_,rfl,bt (fun b=>no H2 (by unfold cP fu;rw[b1,b2,b];rfl)) fun b3=>?_⟩
 refine⟨m.extra,by rw[←hx.extra];exact(H2.box 0 rfl).cell rfl,(gb m.extra 0 16 _).mono ?_⟩
 rintro _ _ ⟨rfl,rfl⟩
 refine⟨_,rfl,bt (fun b=>no H2 (by unfold cP fu;rw[b1,b2,b3,b];rfl)) fun b4=>?_⟩
 have hh:fu m=true:=by unfold fu;rw[b1,b2,b3,b4];rfl
 have hx2:=hx.up H2.ap
 have hb2:=H2.box 0 rfl
 have hdl:=hz.dr
 have hol:=hz.ob
 refine aM ⟨_,hb2.cell rfl,(vF _ m.drives 63 _ hx2.drives (by omega)).mono ?_⟩
 rintro _ _ ⟨rfl,rfl⟩
 refine⟨_,rfl,bt (fun b=>no H2 (by unfold cP;rw[hh,b];rfl)) fun b5=>?_⟩
 have hlen:=cN.len hx.objs
 refine⟨x.2.2.2.2.2.2.2,hb2.cell rfl,an (fun e=>no H2 ?_) fun e12=>?_⟩
 ·unfold cP;rw[hh,b5,decide_eq_false (by omega)];rfl
 have h12:m.objs.length≤12:=by omega
 refine⟨x.2.2.2.2.2.2.2,hb2.cell rfl,?_⟩
 obtain⟨ys,F0⟩:=cN.fix hx.objs
 have hyl:=F0.2.1
 refine aE (fun i:Nat=>(i:Int)) (fun i h'=>i≤m.objs.length∧(∀j,j<i→iO m j=true)∧Sp h h' [aj a1 bL (bI x)]) (fun i=>m.objs.length-i) 0 rfl ⟨by omega,by omega,H2⟩ ?_
 rintro i h3 ⟨hi,hall,H3⟩
 refine an (fun e=>?_) (fun e=>?_)
 ·have hi':i<m.objs.length:=by
   have e':(i:Int)<(x.2.2.2.2.2.2.2.len:Int):=e
   omega
  have hz1:=hz.nm _ (List.getElem_mem hi')
  have hat:gg m.objs i=m.objs[i]:=nu hi'
  have bad:∀{h':Heap} {As:List HP},Sp h h' As→iO m i=false→Value.bool false=.bool (cP m)∧Sp h h' []:=fun{h' As} H' hb=>no H' (by unfold cP;rw[lT hi' hb];simp)
  have F3:=kU.up F0 H3.ap
  refine F3.1.nr (g:=iy) i rfl (by omega) (ys[i]'(by omega)) rfl ?_
  refine H3.alloc af rfl fun a19 h4 H4=>?_
  refine H4.storeAll af 1 rfl rfl (iy (ys[i]'(by omega))) rfl rfl rfl rfl fun h5 H5=>?_
  have H5:Sp h h5 [aj a1 bL (bI x),aj a19 gh (iy (ys[i]'(by omega)))]:=H5
  have F5:=kU.up F0 H5.ap
  obtain⟨⟨y1,y2,y3⟩,y4⟩:=Fix.row F5 hi'
  obtain⟨b6,hb6⟩:∃b,b=(decide (i=0)||od (gg m.objs (i-1)).name (gg m.objs i).name):=⟨_,rfl⟩
  refine dz (fun _ h'=>dL m m.objs[i]=true∧b6=true∧Sp h h' [aj a1 bL (bI x),aj a19 gh (iy (ys[i]'(by omega)))]) ?_ ?_
  ·refine⟨x,(H5.box 0 rfl).bg _ rfl,ys[i]'(by omega),(H5.box 1 rfl).bg _ rfl,?_⟩
   refine(uB x m (ys[i]'(by omega)) m.objs[i] h5 (hx.up H5.ap) (Fix.row F5 hi') hh hz1.1 hz1.2).mono ?_
   rintro _ h6 ⟨rfl,R6⟩
   have H6:=H5.up R6.ap
   have F6:=kU.up F0 H6.ap
   refine⟨_,rfl,trivial,bt (fun b=>bad H6 (by unfold iO;rw[hat,b];rfl)) fun b=>an (fun e2=>?_) fun e2=>⟨b,by rw[hb6,decide_eq_true (show i=0 by omega)];rfl,H6⟩⟩
   rw[Go.Vc.wrap_small ((i:Int)-1) (by omega) (by omega)]
   obtain⟨a24,ha,zz,hc,rfl⟩:=F6.1.nr (g:=iy) (i:=(i:Int)-1) (i-1) (by omega) (by omega) (ys[i-1]'(by omega)) rfl (K:=fun t=>t=ys[i-1]'(by omega)) rfl
   refine⟨x.2.2.2.2.2.2.2,(H6.box 0 rfl).cell rfl,a24,ha,m.objs[i-1].name,?_,m.objs[i].name,?_,?_⟩
   ·rw[←(Fix.row F6 (show i-1<m.objs.length by omega)).1.1];exact hc.1
   ·rw[←y1];exact(H6.box 1 rfl).cell0 rfl
   ·have hat1:gg m.objs (i-1)=m.objs[i-1]:=nu (by omega)
    rw[hat,hat1]at hb6
    refine bt (fun e3=>bad H6 ?_) (fun e3=>⟨b,?_,H6⟩)
    ·unfold iO
     rw[hat,hat1,b,decide_eq_false (show¬i=0 by omega)]
     unfold od;rw[e3];rfl
    ·rw[hb6];unfold od;rw[e3];simp
  ·rintro _ h6 ⟨b,b6t,H6⟩
   have F6:=kU.up F0 H6.ap
   refine⟨x.2.2.2.2.2.2.2,(H6.box 0 rfl).cell rfl,⟨by omega,by have:=hx.ocap;omega⟩,?_⟩
   rw[Int.toNat_natCast]
   refine(sY a19 (ys[i]'(by omega)) ⟨x.2.2.2.2.2.2.2.ptr,i,x.2.2.2.2.2.2.2.cap⟩ (m.objs.take i) h6 (H6.box 1 rfl) (cN.take F6.Ab i (by omega)) (by simp;omega)).mono ?_
   rintro _ h7 ⟨rfl,R7⟩
   have H7:=H6.up R7.ap
   rw[y2]
   refine⟨_,rfl,cj (fun e3=>bad H7 ?_) fun e3=>?_⟩
   ·unfold iO;rw[hat,e3];simp
   ·refine⟨i+1,by rw[Go.Vc.wrap_small _ (by omega) (by omega)];rfl,⟨by omega,fun j hj=>?_,H7.cO [0]⟩,by omega⟩
    by_cases hji:j=i
    ·subst hji
     rw[b6t]at hb6
     unfold iO;rw[←hb6,hat,b,e3];rfl
    ·exact hall j (by omega)
 ·have e':¬(i:Int)<(x.2.2.2.2.2.2.2.len:Int):=e
  refine⟨?_,.zip H3.ap⟩
  unfold cP
  rw[hh,b5,decide_eq_true h12,kV fun j hj=>hall j (by omega)];rfl
end Go.Qw
namespace Go.Qw
open Go Go.Vc Go.Proofs Wl
set_option maxRecDepth 100000
section
variable {B:ak} {h0 h:Heap} {As:List HP}
theorem gi (s:Sl) (l:List UInt8) (n:Int) (k:Nat) (hk:k≤4) (hl:l.length≤2^20) (H:ab B h0 h (ao az s 1 aF l::As)):
  ag Tryz.prog pk #[.slice s.ptr s.len s.cap,.int .i64 n,.int .i64 k] h fun v h'=>∃s':Sl,v=.slice s'.ptr s'.len s'.cap∧ab B h0 h' (ao az s' 1 aF (l++cq n k)::As):=by
 refine oy s n k ?_
 unfold li
 have hbl:=cm n k
 refine aE (fun t:Sl×Nat=>(t.1,(k:Int)-1-t.2)) (fun t h'=>t.2≤k∧ab B h0 h' (ao az t.1 1 aF (l++(cq n k).take t.2)::As)) (fun t=>k-t.2) (s,0) (by rw[Go.Vc.wrap_small _ (by omega) (by omega)];simp) ⟨by simp,by simpa using H⟩ ?_
 rintro⟨o,j⟩ h1 ⟨hj,H1⟩
 dsimp only at*
 refine an (fun e=>?_) (fun e=>?_)
 ·have hj':j<k:=by omega
  rw[Go.Vc.wrap_small ((8:Int)*((k:Int)-1-j)) (by omega) (by omega)]
  refine⟨by omega,?_⟩
  have e8:((8:Int)*((k:Int)-1-j)).toNat=8*(k-1-j):=by omega
  have e9:min (8*(k-1-j)) (IntKind.bits .i64)=8*(k-1-j):=by
   have:IntKind.bits .i64=64:=rfl
   omega
  rw[e8,e9,bE]
  have hg:b8 (Int.fdiv n (2^(8*(k-1-j))))=(cq n k)[j]'(by omega):=by simp[cq]
  rw[hg]
  refine H1.push af 0 rfl fG rfl (by decide) (fun _=>rfl) dJ ((cq n k)[j]'(by omega)) rfl (by decide) (by simp;omega) fun o' h2 H2=>?_
  refine⟨(o',j+1),by dsimp only;rw[Go.Vc.wrap_small _ (by omega) (by omega)];congr 1;omega,⟨by dsimp only;omega,?_⟩,by dsimp only;omega⟩
  dsimp only
  rw[aI _ _ (show j<(cq n k).length by omega),←List.append_assoc]
  exact H2
 ·rw[List.take_of_length_le (by omega)]at H1
  exact⟨o,rfl,H1⟩
theorem oF (src:Sl) (l:List Int) (o:Sl) (acc:List UInt8) (H:ab B h0 h (ao az o 1 aF acc::As)) (hS:St B h0 As fun h=>Rd h src 1 av l) (ha:acc.length≤2^30) (hl:l.length≤2^30) {K:Sl×Int→Heap→Prop}
  (hk:∀o' h',ab B h0 h' (ao az o' 1 aF (acc++l.map b8)::As)→K (o',(l.length:Int)) h'):
  aS (σ:=Sl×Int) (fun s17 K2 h8=>
 Br (decide (s17.2<((src.len:Nat):Int)))
 (∃a18:Addr,(src.ptr=some a18∧0≤s17.2∧s17.2<((src.len:Nat):Int))∧
 ∃x19:Int,cellOf h8 (a18.add (s17.2.toNat*1))=some (.int .i64 x19)∧
 aq Tryz.prog (Instr.buildSlice bT 1 #[(0,(.int .u8 (IntKind.wrap .u8 x19)))]) (.one (.sc .slc)) h8 fun v20 h9=>
 aq Tryz.prog (Builtin.append_ #[bT,bT] bT #[(.slice s17.1.ptr s17.1.len s17.1.cap),(.slice v20.ptr v20.len v20.cap)]) (.one (.sc .slc)) h9 fun v21 h10=>
 K2 ((⟨v21.ptr,v21.len,v21.cap⟩:Sl),IntKind.wrap .i64 (s17.2+(1:Int))) h10)
 (K s17 h8)) (o,(0:Int)) h:=by
 have hsl:src.len=l.length:=(hS.at [_] H).len
 refine aE (fun t:Sl×Nat=>(t.1,(t.2:Int))) (fun t h'=>t.2≤l.length∧ab B h0 h' (ao az t.1 1 aF (acc++(l.take t.2).map b8)::As)) (fun t=>l.length-t.2) (o,0) rfl ⟨by simp,by simpa using H⟩ ?_
 rintro⟨u,i⟩ h1 ⟨hi,H1⟩
 dsimp only at*
 refine an (fun e=>?_) (fun e=>?_)
 ·have hi':i<l.length:=by omega
  refine(hS.at [_] H1).bk i rfl hi' l[i] rfl ?_
  rw[bE]
  refine H1.push af 0 rfl fG rfl (by decide) (fun _=>rfl) dJ (b8 l[i]) rfl (by decide) (by simp;omega) fun u' h2 H2=>?_
  refine⟨(u',i+1),by dsimp only;rw[Go.Vc.wrap_small _ (by omega) (by omega)];rfl,⟨by dsimp only;omega,?_⟩,by dsimp only;omega⟩
  dsimp only
  rw[aI _ _ hi',List.map_append,←List.append_assoc]
  exact H2
 ·have hie:i=l.length:=by omega
  subst hie
  rw[List.take_length]at H1
  exact hk u h1 H1
end
theorem xU {m:bu} (hm:cP m=true) {i:Nat} (hi:i<m.objs.length):dL m m.objs[i]=true:=by
 unfold cP at hm
 simp only[Bool.and_eq_true]at hm
 have:=List.all_eq_true.1 hm.2.2.2 i (List.mem_range.2 hi)
 unfold iO at this
 simp only[Bool.and_eq_true]at this
 have h1:=this.1
 rwa [nu hi]at h1
theorem vG {m:bu} (hm:cP m=true) {i:Nat} (hi:i<m.objs.length):m.objs[i].name.size≤12∧m.objs[i].tries.length≤3073:=by
 have h1:=xU hm hi
 unfold dL ku at h1
 simp only[Bool.and_eq_true,decide_eq_true_eq]at h1
 obtain⟨⟨_,_,h2⟩,_,h3,_,h4⟩:=h1
 refine⟨h2,?_⟩
 obtain⟨_,_,hmay,_⟩:=ry (vn hm)
 have hmp:=(km m.p).1 hmay
 unfold cf at h3
 simp only[Bool.and_eq_true,decide_eq_true_eq]at h3
 have hk:m.p.1*m.p.2.2≤16*24:=Int.mul_le_mul (by omega) (by omega) (by omega) (by omega)
 unfold countP at h4
 split at h4
 ·have:(m.objs[i].length-1)/(m.p.1*m.p.2.2)≤m.objs[i].length-1:=Int.ediv_le_self _ (by rename_i hc;simp at hc;omega)
  omega
 ·omega
theorem vH {m:bu} (hm:cP m=true) {i:Nat} (hi:i<m.objs.length):(dV m.objs[i]).length≤4000:=by
 have:=vG hm hi
 unfold dV
 simp[cm]
 have:m.objs[i].name.data.size=m.objs[i].name.size:=rfl
 omega
theorem ml {m:bu} (hm:cP m=true):∀n,n≤m.objs.length→((m.objs.take n).flatMap dV).length≤n*4000
 |0,_=>by simp
 |n+1,hn=>by
  rw[aI _ _ (show n<m.objs.length by omega),List.flatMap_append,List.length_append]
  have h1:=ml hm n (by omega)
  have h2:=vH hm (show n<m.objs.length by omega)
  have h3:([m.objs[n]].flatMap dV).length=(dV m.objs[n]).length:=by rw[List.flatMap_cons,List.flatMap_nil,List.append_nil]
  omega
theorem nH {m:bu} (hm:cP m=true):m.objs.length≤12:=by
 unfold cP at hm
 simp only[Bool.and_eq_true,decide_eq_true_eq]at hm
 exact hm.2.2.1
theorem nI (m:bu) (hz:iX m):(fv m).length≤100000:=by
 unfold fv
 split
 ·rename_i hm
  have h1:=hm
  unfold cP at h1
  simp only[Bool.and_eq_true,decide_eq_true_eq]at h1
  have hd:m.drives.length≤64:=by
   have h2:=h1.2.1
   unfold mJ at h2
   rw[List.all_eq_true]at h2
   by_cases hn:m.drives.length≤64
   ·exact hn
   ·exfalso
    have key:∀i,i<m.drives.length→(i:Int)≤m.drives.getD i 0:=fun i=>by
     induction i with
     |zero=>
      intro hi
      have:=h2 0 (List.mem_range.2 hi)
      unfold dK cf at this
      simp at this;simpa using this.1
     |succ i ih=>
      intro hi
      have:=h2 (i+1) (List.mem_range.2 hi)
      have h3:=ih (by omega)
      unfold dK cf at this
      simp at this
      have h4:=this.2
      simp only[List.getD_eq_getElem?_getD]at h3⊢
      omega
    have h3:=key 64 (by omega)
    have h4:=h2 64 (List.mem_range.2 (by omega))
    unfold dK cf at h4
    simp at h4
    simp only[List.getD_eq_getElem?_getD]at h3
    omega
  have ho:(m.objs.flatMap dV).length≤12*4000:=by
   have h2:=ml hm m.objs.length (Nat.le_refl _)
   rw[List.take_length]at h2
   have:=Nat.mul_le_mul_right 4000 (nH hm)
   omega
  simp only[List.length_append,List.length_cons,List.length_nil,List.length_map,cm]
  omega
 ·simp
theorem vI (x:cn) (m:bu) (h:Heap) (hx:iW h x m) (hz:iX m):ag Tryz.prog rH #[nG x] h fun v h'=>∃r:Sl,v=.slice r.ptr r.len r.cap∧Sp h h' [ao az r 1 aF (fv m)]:=by
 refine qy x ?_
 unfold nf
 refine(Sp.refl h).boxed fun a1 h1 H1=>?_
 refine⟨x,(H1.box 0 rfl).bg _ rfl,(wJ x m h1 (hx.up H1.ap) hz).mono ?_⟩
 rintro _ h2 ⟨rfl,R2⟩
 have H2:=H1.up R2.ap
 refine⟨_,rfl,bt (fun e=>?_) fun hm=>?_⟩
 ·unfold fv;rw[e];exact⟨⟨none,0,0⟩,rfl,((H2.nil az 1 aF).cO [1])⟩
 have hp1:x.2.2.1=m.p.1:=congrArg (·.1) hx.p
 have hp2:x.2.2.2.1=m.p.2.1:=congrArg (·.2.1) hx.p
 have hp3:x.2.2.2.2.1=m.p.2.2:=congrArg (·.2.2) hx.p
 have hb2:=H2.box 0 rfl
 have hplen:=nI m hz
 unfold fv at hplen
 rw[hm,if_pos rfl]at hplen
 have hM:∀{h':Heap} {As:List HP},Sp h h' As→iW h' x m:=fun{h' As} H'=>hx.up H'.ap
 refine aM ⟨m.seq,by rw[←hx.seq];exact hb2.cell0 rfl,m.next,by rw[←hx.next];exact hb2.cell rfl,?_⟩
 have H3:=(H2.nil az 1 aF).cx
 refine(gi ⟨none,0,0⟩ [] m.seq 4 (by decide) (by simp) H3).mono ?_
 rintro _ h4 ⟨s4,rfl,H4⟩
 refine⟨s4,rfl,⟨by rw[←hx.next];exact(H4.box 1 rfl).cell rfl,trivial⟩,?_⟩
 refine(gi s4 _ m.next 4 (by decide) (by simp[cm]) H4).mono ?_
 rintro _ h5 ⟨s5,rfl,H5⟩
 refine⟨s5,rfl,trivial,?_⟩
 have hb5:=H5.box 1 rfl
 refine⟨m.p.1,by rw[←hp1];exact hb5.cell rfl,m.p.2.1,by rw[←hp2];exact hb5.rQ 2 1 rfl,m.p.2.2,by rw[←hp3];exact hb5.rQ 2 2 rfl,m.extra,by rw[←hx.extra];exact hb5.cell rfl,x.2.2.2.2.2.2.1,hb5.cell rfl,?_⟩
 have hdl:=hx.drives.len
 have hol:=cN.len hx.objs
 rw[bE,bE,bE,bE,bE,hdl]
 refine H5.lit af aF fG rfl [b8 m.p.1,b8 m.p.2.1,b8 m.p.2.2,b8 m.extra,b8 (m.drives.length:Nat)] rfl (show 5*1≤2^20 by decide) rfl fun v14 h6 H6=>?_
 refine H6.append af 0 rfl fG ⟨_,_,rfl,rfl⟩ rfl (by decide) (fun _=>rfl) (H6.seq 2 rfl fun _=>rfl) dJ (by simp[cm]) fun s7 h7 H7=>?_
 have H7:=H7.cO [0,1]
 refine⟨x.2.2.2.2.2.2.1,(H7.box 1 rfl).cell rfl,?_⟩
 have hacc:(([]++cq m.seq 4)++cq m.next 4++[b8 m.p.1,b8 m.p.2.1,b8 m.p.2.2,b8 m.extra,b8 (m.drives.length:Nat)]).length=13:=by simp[cm]
 have hdr:=hz.dr
 refine oF x.2.2.2.2.2.2.1 m.drives s7 _ H7 (St.mk' fun h' H'=>(hM H').drives) (by omega) (by omega) fun s8 h8 H8=>?_
 dsimp only
 refine⟨x.2.2.2.2.2.2.2,(H8.box 1 rfl).cell rfl,?_⟩
 rw[bE,hol]
 obtain⟨acc,hacc2⟩:∃acc,acc=([]++cq m.seq 4)++cq m.next 4++[b8 m.p.1,b8 m.p.2.1,b8 m.p.2.2,b8 m.extra,b8 (m.drives.length:Nat)]++m.drives.map b8:=⟨_,rfl⟩
 rw[←hacc2]at H8
 have hal:acc.length=13+m.drives.length:=by rw[hacc2];simp[cm];omega
 simp only[List.length_append,List.length_cons,List.length_nil,List.length_map,cm]at hplen
 refine H8.push af 0 rfl fG rfl (by decide) (fun _=>rfl) dJ (b8 (m.objs.length:Nat)) rfl (by decide) (by omega) fun s9 h9 H9=>?_
 have H9:Sp h h9 [ao az s9 1 aF (acc++[b8 (m.objs.length:Nat)]),aj a1 bL (bI x)]:=H9
 refine⟨x.2.2.2.2.2.2.2,(H9.box 1 rfl).cell rfl,?_⟩
 obtain⟨ys,F0⟩:=cN.fix hx.objs
 have hyl:=F0.2.1
 refine aE (fun t:Sl×Nat=>(t.1,(t.2:Int))) (fun t h'=>t.2≤m.objs.length∧Sp h h' [ao az t.1 1 aF (acc++[b8 (m.objs.length:Nat)]++(m.objs.take t.2).flatMap dV),aj a1 bL (bI x)]) (fun t=>m.objs.length-t.2) (s9,0) rfl ⟨by simp,by simpa using H9⟩ ?_
 rintro⟨o,i⟩ h10 ⟨hi,H10⟩
 dsimp only at*
 refine an (fun e=>?_) (fun e=>?_)
 ·have hi':i<m.objs.length:=by omega
  have F10:=kU.up F0 H10.ap
  have hes:=vG hm hi'
  have hsofar:((m.objs.take i).flatMap dV).length≤50000:=by
   have h1:=ml hm i hi
   have:=nH hm
   have:i*4000≤12*4000:=Nat.mul_le_mul_right _ (by omega)
   omega
  refine F10.1.nr (g:=iy) i rfl (by omega) (ys[i]'(by omega)) rfl ?_
  refine H10.alloc af rfl fun a29 h11 H11=>?_
  refine H11.storeAll af 2 rfl rfl (iy (ys[i]'(by omega))) rfl rfl rfl rfl fun h12 H12=>?_
  have F12:=kU.up F0 H12.ap
  obtain⟨⟨y1,y2,y3⟩,y4⟩:=Fix.row F12 hi'
  obtain⟨E,hE⟩:∃E,E=m.objs[i]:=⟨_,rfl⟩
  rw[←hE]at y1 y2 y3 y4 hes
  have b12:=H12.box 2 rfl
  refine aM ⟨E.name,by rw[←y1];exact b12.cell0 rfl,E.name,by rw[←y1];exact b12.cell0 rfl,?_⟩
  rw[bE]
  refine H12.oZ af aF fG rfl [b8 (E.name.size:Nat)] rfl (show 1*1≤2^20 by decide) rfl ⟨by rw[←y1];exact b12.cell0 rfl,by rw[←y1];exact b12.cell0 rfl,trivial⟩ ?_
  have hcur:(acc++[b8 (m.objs.length:Nat)]++(m.objs.take i).flatMap dV).length≤160000:=by rw[List.length_append,List.length_append,hal];simp;simp at hsofar;omega
  obtain⟨cur,hcr⟩:∃cur,cur=acc++[b8 (m.objs.length:Nat)]++(m.objs.take i).flatMap dV:=⟨_,rfl⟩
  rw[←hcr]at H12 hcur
  refine H12.push af 0 rfl fG rfl (by decide) (fun _=>rfl) dJ (b8 (E.name.size:Nat)) rfl (by decide) (by omega) fun s13 h13 H13=>?_
  have b13:=H13.box 2 rfl
  refine⟨⟨by rw[←y1];exact b13.cell0 rfl,by rw[←y1];exact b13.cell0 rfl,trivial⟩,?_⟩
  refine H13.pP af 0 rfl fG ⟨_,rfl,rfl⟩ rfl (by decide) E.name (by simp;omega) fun s14 h14 H14=>?_
  have b14:=H14.box 2 rfl
  refine⟨⟨by rw[←y1];exact b14.cell0 rfl,trivial⟩,?_⟩
  have H14:Sp h h14 [ao az s14 1 aF (cur++[b8 (E.name.size:Nat)]++cv E.name),aj a1 bL (bI x),aj a29 gh (iy (ys[i]'(by omega)))]:=H14
  refine aM ⟨E.object,by rw[←y2];exact b14.cell rfl,E.length,by rw[←y3];exact b14.cell rfl,?_⟩
  have hsb:=kr E.name
  refine(gi s14 _ E.object 3 (by decide) (by simp;omega) H14).mono ?_
  rintro _ h15 ⟨s15,rfl,H15⟩
  have b15:=H15.box 2 rfl
  refine⟨s15,rfl,⟨by rw[←y3];exact b15.cell rfl,trivial⟩,?_⟩
  refine(gi s15 _ E.length 2 (by decide) (by simp[cm];omega) H15).mono ?_
  rintro _ h16 ⟨s16,rfl,gy⟩
  have b16:=gy.box 2 rfl
  refine⟨s16,rfl,trivial,(ys[i]'(by omega)).2.2.2,b16.cell rfl,?_⟩
  refine oF (ys[i]'(by omega)).2.2.2 E.tries s16 _ gy (St.mk' fun h' H'=>by rw[hE];exact(Fix.row (kU.up F0 H'.ap) hi').2) (by simp[cm];omega) (by omega) fun s17 h17 H17=>?_
  dsimp only
  have h12:=nH hm
  refine⟨(s17,i+1),by dsimp only;rw[Go.Vc.wrap_small _ (by omega) (by omega)];rfl,⟨by dsimp only;omega,?_⟩,by dsimp only;omega⟩
  dsimp only
  rw[aI _ _ hi',List.flatMap_append,←List.append_assoc,←hcr,List.flatMap_cons,List.flatMap_nil,List.append_nil,←hE]
  have e3:cur++[b8 (E.name.size:Nat)]++cv E.name++cq E.object 3++cq E.length 2++E.tries.map b8=cur++dV E:=by
   unfold dV cv;simp[List.append_assoc]
  rw[e3]at H17
  exact H17.cO [0,1]
 ·rw[List.take_of_length_le (by omega)]at H10
  refine⟨o,rfl,?_⟩
  have e2:acc++[b8 (m.objs.length:Nat)]++m.objs.flatMap dV=fv m:=by
   rw[hacc2];unfold fv;rw[hm,if_pos rfl];simp[List.append_assoc]
  rw[e2]at H10
  exact H10.cO [0]
end Go.Qw
namespace Go.Vc
open Go Wl
section
variable {α:Type} {B:ak} {h0 h:Heap} {As:List HP} {k:Nat} {f:α→List Value} {L:List (Sl×List α)} {s:Sl} {l:List α}
end
end Go.Vc
namespace Go.Qw
open Go Go.Vc Go.Proofs Wl
set_option maxRecDepth 100000
theorem yB (n:Int):cq n 4=[b8 (Int.fdiv n (2^24)),b8 (Int.fdiv n (2^16)),b8 (Int.fdiv n (2^8)),b8 n]:=by
 have e:Int.fdiv n (2^0)=n:=by simp
 show[b8 (Int.fdiv n (2^24)),b8 (Int.fdiv n (2^16)),b8 (Int.fdiv n (2^8)),b8 (Int.fdiv n (2^0))]=_
 rw[e]
theorem vJ (seq number many:Int) (b:Sl) (l:List UInt8) (h:Heap) (hb:Rd h b 1 aF l) (hl:l.length≤2^20):ag Tryz.prog sQ #[.int .i64 seq,.int .i64 number,.int .i64 many,.slice b.ptr b.len b.cap] h fun v h'=>∃r:Sl,v=.slice r.ptr r.len r.cap∧Sp h h' [ao az r 1 aF (jM seq number many l)]:=by
 refine rI seq number many b ?_
 unfold oq
 refine⟨by decide,by decide,by decide,?_⟩
 have e24:min (24:Int).toNat (IntKind.bits .i64)=24:=rfl
 have e16:min (16:Int).toNat (IntKind.bits .i64)=16:=rfl
 have e8:min (8:Int).toNat (IntKind.bits .i64)=8:=rfl
 rw[e24,e16,e8,bE,bE,bE,bE,bE,bE,bE]
 have hh4:=yB seq
 generalize b8 (Int.fdiv seq (2^24))=c1 at hh4⊢
 generalize b8 (Int.fdiv seq (2^16))=c2 at hh4⊢
 generalize b8 (Int.fdiv seq (2^8))=c3 at hh4⊢
 generalize b8 seq=c4 at hh4⊢
 have hpp:jM seq number many l=eA 2 ([c1,c2,c3,c4]++([b8 number,b8 many,b8 (b.len:Nat)]++l)):=by unfold jM;rw[hh4,hb.len]
 generalize b8 number=c5 at hpp⊢
 generalize b8 many=c6 at hpp⊢
 generalize b8 (b.len:Nat)=c7 at hpp⊢
 refine(Sp.refl h).lit af aF fG rfl [c1,c2,c3,c4,c5,c6,c7] rfl (show 7*1≤2^20 by decide) (by kernel_rfl) fun v1 h1 H1=>?_
 refine H1.append af 0 rfl fG ⟨_,_,rfl,rfl⟩ rfl (by decide) (fun _=>rfl) (Seq.up hb H1.ap) dJ (by simp;omega) fun v2 h2 H2=>?_
 have hq:Rd h2 v2 1 aF ([c1,c2,c3,c4,c5,c6,c7]++l):=H2.seq 0 rfl fun _=>rfl
 have hql:([c1,c2,c3,c4,c5,c6,c7]++l).length≤2^40:=by simp;omega
 rw[hpp]
 have hee:[c1,c2,c3,c4,c5,c6,c7]++l=[c1,c2,c3,c4]++([c5,c6,c7]++l):=rfl
 rw[←hee]
 generalize [c1,c2,c3,c4,c5,c6,c7]++l=ll at hq hql⊢
 refine(vC 2 v2 ll h2 hq hql).mono ?_
 rintro _ h3 ⟨r,rfl,R3⟩
 exact⟨r,rfl,r,rfl,(ab.comp (Sp.zip H2.ap) R3)⟩
theorem oG (x:cn) (m:bu) (h:Heap) (hx:iW h x m) (hz:iX m):ag Tryz.prog qv #[nG x] h fun v h'=>∃r:Sl,v=.slice r.ptr r.len r.cap∧Sp h h' [dE r (cy m)]:=by
 refine ph x ?_
 unfold mb
 refine(Sp.refl h).boxed fun a1 h1 H1=>?_
 refine⟨x,(H1.box 0 rfl).bg _ rfl,(vI x m h1 (hx.up H1.ap) hz).mono ?_⟩
 rintro _ h2 ⟨b,rfl,R2⟩
 have H2:=H1.comp R2
 have hpl:=nI m hz
 obtain⟨l,hl⟩:∃l,l=fv m:=⟨_,rfl⟩
 rw[←hl]at H2 hpl
 have hbl:=(H2.own 1 rfl).len
 have hbc:=(H2.own 1 rfl).cap
 refine⟨b,rfl,by decide,?_⟩
 have hmany:IntKind.wrap .i64 (Int.tdiv (IntKind.wrap .i64 ((IntKind.wrap .i64 (((b.len:Nat):Int)+(48:Int)))-(1:Int))) (48:Int))=(dW l:Int):=by
  rw[Go.Vc.wrap_small ((b.len:Int)+48) (by omega) (by omega),Go.Vc.wrap_small ((b.len:Int)+48-1) (by omega) (by omega),Int.tdiv_eq_ediv_of_nonneg (by omega)]
  unfold dW
  rw[Go.Vc.wrap_small (((b.len:Int)+48-1)/48) (by omega) (by omega)]
  omega
 have hmn:dW l≤3000:=by unfold dW;omega
 rw[hmany]
 obtain⟨pg,hpg⟩:∃pg:List (List UInt8),pg=cy m:=⟨_,rfl⟩
 have hpgl:pg.length=dW l:=by rw[hpg,hl];simp[cy]
 have H3:Sp h h2 [dE ⟨none,0,0⟩ (pg.take 0),aj a1 bL (bI x),ao az b 1 aF l]:=H2.uf bT az 1 aF
 refine aE (fun t:Sl×Nat=>(t.1,(t.2:Int))) (fun t h'=>t.2≤dW l∧Sp h h' [dE t.1 (pg.take t.2),aj a1 bL (bI x),ao az b 1 aF l]) (fun t=>dW l-t.2) (⟨none,0,0⟩,0) rfl ⟨by simp,H3⟩ ?_
 rintro⟨o,i⟩ h3 ⟨hi,H3⟩
 dsimp only at*
 refine an (fun e=>?_) (fun e=>?_)
 ·have hi':i<dW l:=by omega
  have hi48:48*i<l.length:=by unfold dW at hi';omega
  rw[Go.Vc.wrap_small ((i:Int)*48) (by omega) (by omega),Go.Vc.wrap_small ((i:Int)+1) (by omega) (by omega),Go.Vc.wrap_small (((i:Int)+1)*48) (by omega) (by omega)]
  obtain⟨en,hen⟩:∃en:Nat,en=min (48*i+48) l.length:=⟨_,rfl⟩
  have hif:(if((i:Int)+1)*48<((b.len:Nat):Int)then((i:Int)+1)*48 else((b.len:Nat):Int))=(en:Int):=by
   split<;>omega
  rw[hif]
  refine⟨m.seq,by rw[←hx.seq];exact(H3.box 1 rfl).cell0 rfl,⟨by omega,by omega,by omega⟩,?_⟩
  have e1:((i:Int)*48).toNat=48*i:=by omega
  rw[e1,Int.toNat_natCast]
  have hd:=((H3.seq 2 rfl fun _=>rfl).drop (48*i) hbc).take (en-48*i) (by rw[List.length_drop];omega)
  have e2:(l.drop (48*i)).take (en-48*i)=(l.drop (48*i)).take 48:=by
   by_cases hh:48*i+48≤l.length
   ·rw[show en-48*i=48 by omega]
   ·rw[List.take_of_length_le (by rw[List.length_drop];omega),List.take_of_length_le (by rw[List.length_drop];omega)]
  rw[e2,Nat.mul_one]at hd
  refine(vJ m.seq i (dW l) ⟨_,en-48*i,b.cap-48*i⟩ _ h3 (by rw[Nat.mul_one];exact hd) (by simp;omega)).mono ?_
  rintro _ h4 ⟨r,rfl,R4⟩
  have H4:=(H3.gO R4).bO 4 [1,0,2,3]
  refine⟨r,rfl,trivial,?_⟩
  refine H4.oZ af fo qJ rfl [r] rfl (show 1*1≤2^20 by decide) rfl trivial ?_
  refine H4.xi af qJ (by simp;omega) fun o' h5 H5=>⟨trivial,?_⟩
  refine⟨(o',i+1),rfl,⟨by dsimp only;omega,?_⟩,by dsimp only;omega⟩
  dsimp only
  rw[aI _ _ (show i<pg.length by omega)]
  have e3:pg[i]'(by omega)=jM m.seq i (dW l) ((l.drop (48*i)).take 48):=by
   subst hpg;subst hl;simp[cy]
  rw[e3]
  exact H5
 ·rw[List.take_of_length_le (by omega),hpg]at H3
  exact⟨o,rfl,H3.cO [0]⟩
end Go.Qw
namespace Go.Vc
open Go Wl Go.Qw
section
variable {B:ak} {h0 h h':Heap} {As L:List HP} {X Y Z:HP}
theorem ab.zl (H:ab B h0 h (X::Y::(L++As))):ab B h0 h (L++(X::Y::As)):=
 H.pick (fun i=>if i<L.length then i+2 else if i=L.length then 0 else if i=L.length+1 then 1 else i) (fun a b hab=>by(try dsimp only at hab);split at hab<;>split at hab<;>(try split at hab)<;>(try split at hab)<;>(try split at hab)<;>(try split at hab)<;>omega) fun i A hi=>by
  try dsimp only
  by_cases hl:i<L.length
  ·rw[List.getElem?_append_left hl]at hi
   rw[if_pos hl,List.getElem?_cons_succ,List.getElem?_cons_succ,List.getElem?_append_left hl];exact hi
  ·rw[List.getElem?_append_right (by omega)]at hi
   rw[if_neg hl]
   by_cases h0':i=L.length
   ·subst h0';rw[if_pos rfl];rw[Nat.sub_self]at hi;exact hi
   ·rw[if_neg h0']
    by_cases h1':i=L.length+1
    ·subst h1';rw[if_pos rfl];rw[show L.length+1-L.length=1 by omega]at hi;exact hi
    ·rw[if_neg h1']
     obtain⟨j,rfl⟩:∃j,i=L.length+(j+2):=⟨i-L.length-2,by omega⟩
     rw[Nat.add_sub_cancel_left,List.getElem?_cons_succ,List.getElem?_cons_succ]at hi
     rw[show L.length+(j+2)=(L.length+j)+1+1 by omega,List.getElem?_cons_succ,List.getElem?_cons_succ,List.getElem?_append_right (by omega),Nat.add_sub_cancel_left];exact hi
theorem ab.xV (n:Nat) (hn:L[n]?=some X) (H:ab B h0 h (Y::Z::(L++As))):ab B h0 h (X::Z::Y::(L.set n emp++As)):=by
 have hlt:=(List.getElem?_eq_some_iff.1 hn).1
 have H1:=H.cons (n+2) (A:=X) (by rw[List.getElem?_cons_succ,List.getElem?_cons_succ,List.getElem?_append_left hlt];exact hn)
 have e:(Y::Z::(L++As)).set (n+2) emp=Y::Z::(L.set n emp++As):=by
  rw[List.set_cons_succ,List.set_cons_succ,List.set_append_left _ _ hlt]
 rw[e]at H1
 exact H1.bO 3 [0,2,1]
theorem ab.tE (n:Nat) (hn:n<L.length) (H:ab B h0 h (X::Z::Y::(L.set n emp++As))):ab B h0 h (Y::Z::(L.set n X++As)):=
 H.pick (fun i=>if i=0 then 2 else if i=1 then 1 else if i=n+2 then 0 else i+1) (fun a b hab=>by(try dsimp only at hab);split at hab<;>split at hab<;>(try split at hab)<;>(try split at hab)<;>(try split at hab)<;>(try split at hab)<;>omega) fun i A hi=>by
  try dsimp only
  match i,hi with
  |0,hi=>exact hi
  |1,hi=>exact hi
  |i+2,hi=>
   rw[if_neg (by omega),if_neg (by omega)]
   rw[List.getElem?_cons_succ,List.getElem?_cons_succ]at hi
   by_cases hin:i=n
   ·subst hin
    rw[List.getElem?_append_left (by simpa using hn),List.getElem?_set_self hn]at hi
    rw[if_pos rfl];exact hi
   ·rw[if_neg (by omega),List.getElem?_cons_succ,List.getElem?_cons_succ,List.getElem?_cons_succ]
    by_cases hl:i<L.length
    ·rw[List.getElem?_append_left (by simpa using hl),List.getElem?_set_ne (by omega)]at hi
     rw[List.getElem?_append_left (by simpa using hl),List.getElem?_set_ne (by omega)];exact hi
    ·rw[List.getElem?_append_right (by simp;omega),List.length_set]at hi
     rw[List.getElem?_append_right (by simp;omega),List.length_set];exact hi
end
structure Kit where
 tS:Nat
 tP:Nat
 tD:Nat
 f:Addr→bv→Sl→Sl→List Value
def yC (k:Kit) (pw:Addr) (a:Option Addr) (d:Option bv):HP:=match a,d with
 |some a,some d=>dF k.tD (k.f pw) a d
 |_,_=>emp
abbrev bn (mc:List Value) (pw:Addr) (offs:Int) (da:List (Option Addr)):List Value:=mc++(.pointer (some pw)::.int .i64 offs::da.map .pointer)
structure ci (mc:List Value) (da:List (Option Addr)) (ds:bi):Prop where
 l8:mc.length=8
 la:da.length=64
 ls:ds.length=64
 same:∀i:Nat,(da.getD i none).isSome=(ds.getD i none).isSome
abbrev cC (k:Kit) (pw:Addr) (da:List (Option Addr)) (ds:bi):List HP:=List.zipWith (yC k pw) da ds
def bc (k:Kit) (a pw:Addr) (mc:List Value) (offs:Int) (da:List (Option Addr)) (w:Pow) (ds:bi):HP:=
 (HP.all (aj a k.tS (bn mc pw offs da)::bG k.tP pw w::cC k pw da ds)).and (ci mc da ds)
section
variable {k:Kit} {B:ak} {h0 h h':Heap} {As:List HP} {a pw:Addr} {mc:List Value} {offs:Int} {da:List (Option Addr)} {w w':Pow} {ds:bi} {d d':bv} {n:Nat}
theorem rR (ok:ci mc da ds):(cC k pw da ds).length=64:=by simp[cC,ok.la,ok.ls]
theorem ab.kI (H:ab B h0 h (bc k a pw mc offs da w ds::As)):ci mc da ds∧ab B h0 h (aj a k.tS (bn mc pw offs da)::bG k.tP pw w::(cC k pw da ds++As)):=by
 obtain⟨H,ok⟩:=H.pb
 exact⟨ok,H.jL⟩
theorem ab.mm (ok:ci mc da ds) (H:ab B h0 h (aj a k.tS (bn mc pw offs da)::bG k.tP pw w::(cC k pw da ds++As))):ab B h0 h (bc k a pw mc offs da w ds::As):=
 (ab.closeAll (aj a k.tS (bn mc pw offs da)::bG k.tP pw w::cC k pw da ds) H).topb ok
theorem ci.addr (ok:ci mc da ds) (hd:ds[n]?=some (some d)):∃b,da[n]?=some (some b):=by
 have hn:n<64:=by have:=(List.getElem?_eq_some_iff.1 hd).1;rw[ok.ls]at this;exact this
 have h1:=ok.same n
 rw[List.getD_eq_getElem?_getD,List.getD_eq_getElem?_getD,hd]at h1
 have h2:n<da.length:=by rw[ok.la];exact hn
 rw[List.getElem?_eq_getElem h2]at h1⊢
 simp at h1
 obtain⟨b,hb⟩:=Option.isSome_iff_exists.1 h1
 exact⟨b,by rw[hb]⟩
theorem ci.vK (ok:ci mc da ds) (hn:n<64) (hd:ds[n]?=some none):da[n]?=some none:=by
 have h1:=ok.same n
 rw[List.getD_eq_getElem?_getD,List.getD_eq_getElem?_getD,hd]at h1
 have h2:n<da.length:=by rw[ok.la];exact hn
 rw[List.getElem?_eq_getElem h2]at h1⊢
 simp at h1
 rw[h1]
theorem ci.set (ok:ci mc da ds) {b:Addr} (hb:da[n]?=some (some b)):ci mc da (ds.set n (some d')):=by
 refine⟨ok.l8,ok.la,by rw[List.length_set];exact ok.ls,fun i=>?_⟩
 by_cases hin:n=i
 ·subst hin
  have hn:n<ds.length:=by have:=(List.getElem?_eq_some_iff.1 hb).1;rw[ok.la]at this;rw[ok.ls];exact this
  rw[List.getD_eq_getElem?_getD,hb,List.getD_eq_getElem?_getD,List.getElem?_set_self hn];rfl
 ·rw[List.getD_eq_getElem?_getD (l:=ds.set n _),List.getElem?_set_ne hin,←List.getD_eq_getElem?_getD];exact ok.same i
theorem wK {b:Addr} (hb:da[n]?=some (some b)) (hn:n<ds.length):(cC k pw da ds).set n (dF k.tD (k.f pw) b d')=cC k pw da (ds.set n (some d')):=by
 apply List.ext_getElem?
 intro j
 have hna:n<da.length:=(List.getElem?_eq_some_iff.1 hb).1
 simp only[cC,List.getElem?_set,List.getElem?_zipWith,List.length_zipWith]
 by_cases hij:n=j
 ·subst hij
  rw[if_pos rfl,if_pos (by omega),if_pos rfl,if_pos hn,hb];rfl
 ·simp[hij]
def qK (k:Kit) (a pw:Addr) (mc:List Value) (offs:Int) (da:List (Option Addr)) (ds:bi) (n:Nat):HP:=
 (HP.all (aj a k.tS (bn mc pw offs da)::(cC k pw da ds).set n emp)).and (ci mc da ds)
theorem ab.qd (H:ab B h0 h (bc k a pw mc offs da w ds::As)) (hd:ds[n]?=some (some d)):∃b,da[n]?=some (some b)∧ab B h0 h (dF k.tD (k.f pw) b d::bG k.tP pw w::qK k a pw mc offs da ds n::As):=by
 obtain⟨ok,H1⟩:=H.kI
 obtain⟨b,hb⟩:=ok.addr hd
 refine⟨b,hb,?_⟩
 have hX:(cC k pw da ds)[n]?=some (dF k.tD (k.f pw) b d):=by
  simp only[cC,List.getElem?_zipWith,hb,hd];rfl
 have H2:=H1.xV n hX
 have H3:ab B h0 h (dF k.tD (k.f pw) b d::bG k.tP pw w::((aj a k.tS (bn mc pw offs da)::(cC k pw da ds).set n emp)++As)):=H2
 exact(((ab.closeAll _ H3.zl).topb ok).bO 3 [1,2,0]:ab B h0 h (dF k.tD (k.f pw) b d::bG k.tP pw w::qK k a pw mc offs da ds n::As))
theorem ab.rS {b:Addr} (hb:da[n]?=some (some b)) (H:ab B h0 h (dF k.tD (k.f pw) b d'::bG k.tP pw w'::qK k a pw mc offs da ds n::As)):ab B h0 h (bc k a pw mc offs da w' (ds.set n (some d'))::As):=by
 have H1:ab B h0 h (qK k a pw mc offs da ds n::bG k.tP pw w'::dF k.tD (k.f pw) b d'::As):=H.bO 3 [2,1,0]
 obtain⟨H1,ok⟩:=H1.pb
 have H2:=H1.jL
 have hn:n<ds.length:=by have:=(List.getElem?_eq_some_iff.1 hb).1;rw[ok.la]at this;rw[ok.ls];exact this
 have hl:=rR (k:=k) (pw:=pw) ok
 have hln:n<(cC k pw da ds).length:=by rw[hl,←ok.ls];exact hn
 obtain⟨L,hL⟩:∃L,L=cC k pw da ds:=⟨_,rfl⟩
 rw[←hL]at H2 hln
 have H3:ab B h0 h (dF k.tD (k.f pw) b d'::bG k.tP pw w'::aj a k.tS (bn mc pw offs da)::(L.set n emp++As)):=by
  refine H2.pick (fun i=>if i=0 then 1+L.length+1 else if i=1 then 1+L.length else if i=2 then 0 else if i<3+L.length then i-2 else i) (fun x y hab=>by(try dsimp only at hab);split at hab<;>split at hab<;>(try split at hab)<;>(try split at hab)<;>(try split at hab)<;>(try split at hab)<;>(try split at hab)<;>(try split at hab)<;>omega) fun i A hi=>?_
  try dsimp only
  have hlen:(aj a k.tS (bn mc pw offs da)::L.set n emp).length=1+L.length:=by simp;omega
  match i,hi with
  |0,hi=>rw[if_pos rfl,List.getElem?_append_right (by omega),hlen,show 1+L.length+1-(1+L.length)=1 by omega];exact hi
  |1,hi=>rw[if_neg (by omega),if_pos rfl,List.getElem?_append_right (by omega),hlen,Nat.sub_self];exact hi
  |2,hi=>rw[if_neg (by omega),if_neg (by omega),if_pos rfl];exact hi
  |i+3,hi=>
   rw[if_neg (by omega),if_neg (by omega),if_neg (by omega)]
   rw[List.getElem?_cons_succ,List.getElem?_cons_succ,List.getElem?_cons_succ]at hi
   by_cases hil:i<L.length
   ·rw[if_pos (by omega),show i+3-2=i+1 by omega,List.getElem?_append_left (by rw[hlen];omega),List.getElem?_cons_succ]
    rw[List.getElem?_append_left (by simpa using hil)]at hi;exact hi
   ·rw[if_neg (by omega),List.getElem?_append_right (by rw[hlen];omega),hlen,show i+3-(1+L.length)=(i-L.length)+2 by omega,List.getElem?_cons_succ,List.getElem?_cons_succ]
    rw[List.getElem?_append_right (by simp;omega),List.length_set]at hi;exact hi
 have H4:=ab.tE n hln H3
 rw[hL,wK hb hn]at H4
 exact H4.mm (ok.set hb)
end
end Go.Vc
namespace Go.Vc
open Go Wl Go.Qw
def yD:gm (Int×Sl) (Int×List UInt8):=⟨fun h q a b=>a.1=b.1∧Seq h q a.2 1 aF b.2,fun a hp=>⟨a.1,a.2.ap hp⟩,fun a hq=>⟨a.1,a.2.mono hq⟩⟩
def piv (x:Int×Sl):List Value:=[.int .i64 x.1,.slice x.2.ptr x.2.len x.2.cap]
theorem xW:∀x,∀c∈piv x,c.oneCell'=true:=by intro x c hc;simp[piv]at hc;rcases hc with rfl|rfl<;>rfl
def nJ (da:List (Option Addr)) (slot:Int):Option Addr:=if 0≤slot∧slot<64 then(da[slot.toNat]?).join else none
theorem rT {mc:List Value} {da:List (Option Addr)} {ds:bi} (ok:ci mc da ds) (slot:Int):
  (tv ds slot=none∧nJ da slot=none)∨∃(n:Nat) (d:bv) (b:Addr),slot=n∧n<64∧ds[n]?=some (some d)∧tv ds slot=some d∧da[n]?=some (some b)∧nJ da slot=some b:=by
 unfold tv nJ
 by_cases h:0≤slot∧slot<64
 ·rw[if_pos h,if_pos h]
  have hn:slot.toNat<ds.length:=by rw[ok.ls];omega
  cases hd:ds[slot.toNat]with
  |none=>
   have h1:ds[slot.toNat]?=some none:=by rw[List.getElem?_eq_getElem hn,hd]
   exact .inl ⟨by rw[h1];rfl,by rw[ok.vK (by omega) h1];rfl⟩
  |some d=>
   have h1:ds[slot.toNat]?=some (some d):=by rw[List.getElem?_eq_getElem hn,hd]
   obtain⟨b,hb⟩:=ok.addr h1
   exact .inr ⟨slot.toNat,d,b,by omega,by omega,h1,by rw[h1];rfl,hb,by rw[hb];rfl⟩
 ·rw[if_neg h,if_neg h];exact .inl ⟨rfl,rfl⟩
theorem vL {mc:List Value} {pw:Addr} {offs:Int} {da:List (Option Addr)} (h8:mc.length=8) (n:Nat):(bn mc pw offs da)[10+n]?=(da[n]?).map .pointer:=by
 unfold bn
 rw[List.getElem?_append_right (by omega),h8,show 10+n-8=n+1+1 by omega,List.getElem?_cons_succ,List.getElem?_cons_succ,List.getElem?_map]
theorem wL {mc:List Value} {pw:Addr} {offs:Int} {da:List (Option Addr)} (h8:mc.length=8):(bn mc pw offs da)[8]?=some (.pointer (some pw)):=by
 unfold bn;rw[List.getElem?_append_right (by omega),h8];rfl
theorem uC {mc:List Value} {pw:Addr} {offs:Int} {da:List (Option Addr)} (h8:mc.length=8):(bn mc pw offs da)[9]?=some (.int .i64 offs):=by
 unfold bn;rw[List.getElem?_append_right (by omega),h8];rfl
end Go.Vc
namespace Go.Qw
open Go Go.Vc Go.Proofs Wl
set_option maxRecDepth 100000
abbrev bz:Go.Vc.Kit:=⟨dN,aO,eQ,fun pw=>iw pw⟩
theorem rU {e:TypeId} (s:Sl) (l:List Int) (h:Heap) (ho:Own h e s 1 av l) (hsz:l.length<2^40):ag Tryz.prog gW #[.slice s.ptr s.len s.cap] h fun v h'=>v=.slice s.ptr (Lib.compact l).length s.cap∧Own h' e ⟨s.ptr,(Lib.compact l).length,s.cap⟩ 1 av (Lib.compact l)∧aw (fun b=>¬s.on b) h h':=
 oe Tryz.slices_Compact_int Tryz.slices_Compact_int_empty ho hsz
section
variable {B:ak} {h0 h h':Heap} {As:List HP} {a pw:Addr} {mc:List Value} {offs:Int} {da:List (Option Addr)} {w:Pow} {ds:bi}
theorem ni (slot:Int) (ok:ci mc da ds) (hb:bK h a dN (bn mc pw offs da)):ag Tryz.prog bV #[.pointer (some a),.int .i64 slot] h fun v h'=>v=.pointer (nJ da slot)∧h'=h:=by
 refine jT (some a) slot ?_
 unfold fM
 have no:¬(0≤slot∧slot<64)→Value.pointer none=.pointer (nJ da slot)∧h=h:=fun e=>by unfold nJ;rw[if_neg e];exact⟨rfl,rfl⟩
 refine aM (cj (fun e=>by cases e) fun _=>an (fun e=>no (by omega)) fun e1=>an (fun e=>no (by omega)) fun e2=>?_)
 have hn:slot.toNat<da.length:=by rw[ok.la];omega
 refine⟨a,rfl,⟨by omega,by omega⟩,da[slot.toNat],?_,?_,rfl⟩
 ·rw[Nat.mul_one]
  refine hb.rQ 10 slot.toNat ?_
  rw[vL ok.l8,List.getElem?_eq_getElem hn];rfl
 ·unfold nJ;rw[if_pos (by omega),List.getElem?_eq_getElem hn];rfl
theorem ab.hU (H:ab B h0 h (bc bz a pw mc offs da w ds::As)):ci mc da ds∧bK h a dN (bn mc pw offs da):=by
 obtain⟨ok,H1⟩:=Go.Vc.ab.kI H
 exact⟨ok,H1.box 0 rfl⟩
theorem uD (s:Sl) (l:List Int) (hS:St B h0 As fun h=>Rd h s 1 av l) (hl:l.length≤2^30) (hin:∀x∈l,0≤x∧x<64) (H:ab B h0 h (bc bz a pw mc offs da w ds::As)):
  ag Tryz.prog sR #[.func (.func bV) #[.pointer (some a)] #[],.slice s.ptr s.len s.cap] h fun v h'=>v=.int .i64 (eP (cJ l) w ds).1∧ab B h0 h' (bc bz a pw mc offs da (eP (cJ l) w ds).2.1 (eP (cJ l) w ds).2.2::As):=by
 refine rJ (bV,#[.pointer (some a)],#[]) s ?_
 unfold ot
 refine(pq s l h (hS.at [_] H) (by omega)).mono ?_
 rintro _ h1 ⟨r,rfl,R1⟩
 have H1:=H.gO R1
 refine⟨r,rfl,(vx r l h1 (H1.own 0 rfl) (by omega)).mono ?_⟩
 rintro _ h2 ⟨rfl,O2,P2⟩
 have H2:=H1.mG 0 rfl P2 O2
 refine⟨(),rfl,(rU r (eO l) h2 O2 (by rw[vh];omega)).mono ?_⟩
 rintro _ h3 ⟨rfl,O3,P3⟩
 have H3:=H2.step (D:=ao aA ⟨r.ptr,(Lib.compact (eO l)).length,r.cap⟩ 1 av (Lib.compact (eO l))) 0 rfl fun q hq hlt=>⟨P3.mono fun b _ hb hon=>hb (hq.2 b hon),O3,fun b hb=>⟨Nat.lt_of_lt_of_le (hlt b (hq.2 b hb)) P3.1,.inl (hq.2 b hb)⟩⟩
 rw[uh l hin]at H3⊢
 obtain⟨u,hu⟩:∃u,u=cJ l:=⟨_,rfl⟩
 rw[←hu]at H3⊢
 have H3:ab B h0 h3 (ao aA ⟨r.ptr,u.length,r.cap⟩ 1 av u::bc bz a pw mc offs da w ds::As):=H3
 have hul:u.length≤64:=by
  have:=List.length_filter_le (fun i=>decide (i∈l)) ((List.range 64).map fun i:Nat=>(i:Int))
  rw[hu];unfold cJ;simpa using this
 refine⟨⟨r.ptr,u.length,r.cap⟩,rfl,?_⟩
 refine aE (fun t:Nat×Pow×bi=>(t.1:Int)) (fun t h'=>t.1≤u.length∧eP u w ds=eP (u.drop t.1) t.2.1 t.2.2∧ab B h0 h' (ao aA ⟨r.ptr,u.length,r.cap⟩ 1 av u::bc bz a pw mc offs da t.2.1 t.2.2::As)) (fun t=>u.length-t.1) (0,w,ds) rfl ⟨by simp,rfl,H3⟩ ?_
 rintro⟨i,w1,ds1⟩ h4 ⟨hi,hsy,H4⟩
 dsimp only at*
 refine an (fun e=>?_) (fun e=>?_)
 ·have hi':i<u.length:=by omega
  obtain⟨ok,hb⟩:=ab.hU H4.rest
  rw[List.drop_eq_getElem_cons hi',uc]at hsy
  refine(H4.seq 0 rfl fun _=>rfl).bk i rfl hi' u[i] rfl (nW (by rfl) ?_)
  refine(ni u[i] ok hb).mono ?_
  rintro _ h5 ⟨rfl,rfl⟩
  refine⟨_,rfl,?_⟩
  rcases rT ok u[i]with⟨c1,c2⟩|⟨n,d,b,c0,c1,c2,c3,c4,c5⟩
  ·rw[c2]
   refine(rP h5).mono ?_
   rintro _ h6 ⟨rfl,rfl⟩
   have es:ft w1 ds1 u[i]=(5,w1,ds1):=by unfold ft;rw[c1]
   rw[es]at hsy
   refine⟨5,rfl,cz (fun _=>?_) fun e=>absurd e (by decide)⟩
   have:eP u w ds=(5,w1,ds1):=hsy
   rw[this]
   exact⟨rfl,H4.rest⟩
  ·rw[c5]
   obtain⟨b',hb',H5⟩:=Go.Vc.ab.qd (H4.bO 2 [1,0]) c2
   rw[c4]at hb'
   injection hb' with hb'
   injection hb' with hb'
   subst hb'
   refine(vB H5).mono ?_
   rintro _ h6 ⟨rfl,H6⟩
   have H7:=Go.Vc.ab.rS (k:=bz) (n:=n) c4 H6
   have es:ft w1 ds1 u[i]=((d.sync w1).1,(d.sync w1).2.1,ds1.set n (some (d.sync w1).2.2)):=by
    unfold ft;rw[c3];simp only[ub,c0,Int.toNat_natCast]
   rw[es]at hsy
   refine⟨_,rfl,cz (fun e2=>?_) fun e2=>?_⟩
   ·have:eP u w ds=((d.sync w1).1,(d.sync w1).2.1,ds1.set n (some (d.sync w1).2.2)):=by rw[hsy];exact if_neg e2
    rw[this]
    exact⟨rfl,H7.mI⟩
   ·refine⟨(i+1,(d.sync w1).2.1,ds1.set n (some (d.sync w1).2.2)),by dsimp only;rw[Go.Vc.wrap_small _ (by omega) (by omega)];rfl,⟨by dsimp only;omega,?_,H7.bO 2 [1,0]⟩,by dsimp only;omega⟩
    rw[hsy];exact if_pos e2
 ·rw[List.drop_of_length_le (by omega)]at hsy
  rw[hsy]
  exact⟨rfl,H4.rest⟩
end
end Go.Qw
namespace Go.Vc
open Go Wl
theorem HP.pv {h:Heap}:∀{L:List HP} {q:ak} {i:Nat} {A:HP},(HP.all L).p h q→L[i]?=some A→A.p h q
 |A::L,q,0,A',⟨q1,q2,_,b,_,d,_⟩,hi=>by simp at hi;subst hi;exact A.mono d b
 |A::L,q,i+1,A',⟨q1,q2,_,_,c,_,e⟩,hi=>A'.mono (HP.pv e (by simpa using hi)) c
 |[],_,i,_,_,hi=>by simp at hi
section
variable {α β:Type} {B:ak} {h0 h:Heap} {As:List HP} {e e2 k:Nat} {s:Sl} {f:α→List Value} {ll:List (List α)}
theorem ab.zT (H:ab B h0 h (iN e s e2 k f ll::As)) (hw:∀x,(f x).length=k):∃rs,ab B h0 h (pa (ua k f) 1 fo s rs ll::As):=by
 obtain⟨rs,H⟩:=H.qH
 obtain⟨H,hl⟩:=H.pb
 refine⟨rs,H.lN 0 rfl fun q hq=>⟨?_,hl,fun i r l h1 h2=>?_⟩⟩
 ·have:=HP.pv (i:=0) hq rfl
  exact this.1.seq (fun _=>rfl) this.2
 ·have hi:i<ll.length:=(List.getElem?_eq_some_iff.1 h2).1
  have hg:=sy (e:=e2) (k:=k) (f:=f) hl i hi
  have:=HP.pv (i:=i+1) hq (by simpa using hg)
  have e1:rs[i]'(by omega)=r:=by rw[List.getElem?_eq_getElem (by omega)]at h1;simpa using h1
  have e2:ll[i]=l:=by rw[List.getElem?_eq_getElem hi]at h2;simpa using h2
  rw[e1,e2]at this
  exact this.1.seq hw this.2
end
end Go.Vc
namespace Wl
def cK (m:bu) (slots:List Int):List (Int×List UInt8):=slots.flatMap fun n=>(cy m).map fun c=>(n,c)
theorem sZ {m:bu} {slots:List Int} {x:Int×List UInt8} (h:x∈cK m slots):x.1∈slots∧x.2.length=64:=by
 unfold cK at h
 obtain⟨n,hn,hx⟩:=List.mem_flatMap.1 h
 obtain⟨c,hc,rfl⟩:=List.mem_map.1 hx
 exact⟨hn,ug hc⟩
end Wl
namespace Go.Qw
open Go Go.Vc Go.Proofs Wl
set_option maxRecDepth 100000
theorem qe (m:bu) (hz:iX m):(cy m).length≤3000:=by
 have:=nI m hz
 unfold cy dW;simp;omega
abbrev yE:bf C.tojG pe cE 2 [.int .i64 0,.slice none 0 0] 32:=⟨_,_,rfl,rfl,rfl,rfl,rfl,rfl⟩
section
variable {B:ak} {h0 h h':Heap} {As:List HP} {a pw:Addr} {mc:List Value} {offs:Int} {da:List (Option Addr)} {w:Pow} {ds:bi}
theorem vM (s:Sl) (ys:List (Int×Sl)) (P:List (Int×List UInt8)) (hS:St B h0 As fun h=>kU yD 2 piv h s ys P) (hl:P.length≤2^30) (hin:∀x∈P,(0≤x.1∧x.1<64)∧x.2.length≤2^20) (H:ab B h0 h (bc bz a pw mc offs da w ds::As)):
  ag Tryz.prog uq #[.func (.func bV) #[.pointer (some a)] #[],.slice s.ptr s.len s.cap] h fun v h'=>v=.int .i64 (layAll P w ds).1∧ab B h0 h' (bc bz a pw mc offs da (layAll P w ds).2.1 (layAll P w ds).2.2::As):=by
 refine sP (bV,#[.pointer (some a)],#[]) s ?_
 unfold pT
 have hsl:=(hS.at [_] H).1.len
 have hyl:=(hS.at [_] H).2.1
 have H0:=(H.nil aA 1 av).cx
 refine aE (fun t:Sl×Nat×Pow×bi=>(t.1,(t.2.1:Int))) (fun t h'=>t.2.1≤P.length∧hO P w ds=hO (P.drop t.2.1) t.2.2.1 t.2.2.2∧ab B h0 h' (ao aA t.1 1 av ((P.take t.2.1).map Prod.fst)::bc bz a pw mc offs da t.2.2.1 t.2.2.2::As)) (fun t=>P.length-t.2.1) (⟨none,0,0⟩,0,w,ds) rfl ⟨by simp,rfl,by simpa using H0⟩ ?_
 rintro⟨o,i,w1,ds1⟩ h1 ⟨hi,hap,H1⟩
 dsimp only at*
 refine an (fun e=>?_) (fun e=>?_)
 ·have hi':i<P.length:=by omega
  rw[List.drop_eq_getElem_cons hi',rq]at hap
  have F1:=hS.at [_,_] H1
  have hPi:=hin _ (List.getElem_mem hi')
  refine F1.1.nr (g:=piv) i rfl (by omega) (ys[i]'(by omega)) rfl ?_
  refine H1.alloc af rfl fun a4 h2 H2=>?_
  have H2:=H2.cx
  refine H2.storeAll af 0 rfl rfl (piv (ys[i]'(by omega))) rfl rfl rfl rfl fun h3 H3=>?_
  obtain⟨y1,y2⟩:=Fix.row (hS.at [_,_,_] H3) hi'
  have H3:ab B h0 h3 (aj a4 cE (piv (ys[i]'(by omega)))::ao aA o 1 av ((P.take i).map Prod.fst)::bc bz a pw mc offs da w1 ds1::As):=H3
  have H3:=H3.bO 3 [2,0,1]
  obtain⟨ok,hb⟩:=ab.hU H3
  obtain⟨res,hres⟩:∃res,res=ee w1 ds1 P[i].1 P[i].2:=⟨_,rfl⟩
  rw[←hres]at hap
  refine dz (fun _ h'=>res.1=0∧ab B h0 h' (bc bz a pw mc offs da res.2.1 res.2.2::aj a4 cE (piv (ys[i]'(by omega)))::ao aA o 1 av ((P.take i).map Prod.fst)::As)) ?_ ?_
  ·refine dz (fun e h'=>e=res.1∧ab B h0 h' (bc bz a pw mc offs da res.2.1 res.2.2::aj a4 cE (piv (ys[i]'(by omega)))::ao aA o 1 av ((P.take i).map Prod.fst)::As)) ?_ ?_
   ·refine⟨P[i].1,by rw[←y1];exact(H3.box 1 rfl).cell0 rfl,(ys[i]'(by omega)).2,(H3.box 1 rfl).cell rfl,nW (by rfl) ?_⟩
    refine(ni P[i].1 ok hb).mono ?_
    rintro _ h4 ⟨rfl,rfl⟩
    refine⟨_,rfl,⟨(H3.box 1 rfl).cell rfl,trivial⟩,?_⟩
    rcases rT ok P[i].1 with⟨c1,c2⟩|⟨n,d,b,c0,c1,c2,c3,c4,c5⟩
    ·rw[c2]
     refine(pu (ys[i]'(by omega)).2 P[i].2 h4 y2).mono ?_
     rintro _ h5 ⟨rfl,rfl⟩
     have es:res=(if P[i].2.length≠64 then 1 else 5,w1,ds1):=by rw[hres];unfold ee;rw[c1]
     refine⟨_,rfl,trivial,by rw[es],?_⟩
     rw[es];exact H3
    ·rw[c5]
     obtain⟨b',hb',H5⟩:=Go.Vc.ab.qd H3 c2
     rw[c4]at hb'
     injection hb' with hb'
     injection hb' with hb'
     subst hb'
     refine(sW (ys[i]'(by omega)).2 P[i].2 H5 y2 hPi.2).mono ?_
     rintro _ h6 ⟨rfl,H6⟩
     have H7:=Go.Vc.ab.rS (k:=bz) (n:=n) c4 H6
     have es:res=((d.append w1 P[i].2).1,(d.append w1 P[i].2).2.1,ds1.set n (some (d.append w1 P[i].2).2.2)):=by
      rw[hres];unfold ee;rw[c3];simp only[ub,c0,Int.toNat_natCast]
     refine⟨_,rfl,trivial,by rw[es],?_⟩
     rw[es];exact H7
   ·rintro e4 h4 ⟨rfl,H4⟩
    refine cz (fun e2=>?_) fun e2=>⟨e2,H4⟩
    rw[if_neg e2]at hap
    have:layAll P w ds=res:=by unfold layAll;rw[hap];exact if_neg e2
    rw[this]
    exact⟨rfl,H4.mI.mI⟩
  ·rintro _ h4 ⟨e2,H4⟩
   rw[if_pos e2]at hap
   refine⟨P[i].1,by rw[←y1];exact(H4.box 1 rfl).cell0 rfl,?_⟩
   refine H4.push af 2 rfl dd rfl (by decide) (fun _=>rfl) cU P[i].1 rfl (by decide) (by simp;omega) fun o' h5 H5=>?_
   refine⟨(o',i+1,res.2.1,res.2.2),by dsimp only;rw[Go.Vc.wrap_small _ (by omega) (by omega)];rfl,⟨by dsimp only;omega,hap,?_⟩,by dsimp only;omega⟩
   dsimp only
   rw[aI _ _ hi',List.map_append]
   exact H5.bO 3 [2,0]
 ·have hie:i=P.length:=by omega
  subst hie
  rw[List.drop_length]at hap
  rw[List.take_length]at H1
  have H2:=(H1.freeze 0 rfl fun _=>rfl).bO 2 [1,0]
  have hla:layAll P w ds=eP (cJ (P.map Prod.fst)) w1 ds1:=by unfold layAll;rw[hap];rfl
  refine(uD o (P.map Prod.fst) (St.xf 0 rfl fun h' hh=>hh) (by simp;omega) (fun x hx=>?_) H2).mono ?_
  ·obtain⟨y,hy,rfl⟩:=List.mem_map.1 hx;exact(hin y hy).1
  ·rintro _ h2 ⟨rfl,H3⟩
   refine⟨_,rfl,by rw[hla],?_⟩
   rw[hla];exact H3.mI
theorem ta (x:cn) (m:bu) (s:Sl) (slots:List Int) (h:Heap) (hx:iW h x m) (hz:iX m) (hs:Rd h s 1 av slots) (hsl:slots.length≤2^10):
  ag Tryz.prog rG #[nG x,.slice s.ptr s.len s.cap] h fun v h'=>∃(r:Sl) (ys:List (Int×Sl)),v=.slice r.ptr r.len r.cap∧Sp h h' [pa yD 2 piv r ys (cK m slots)]:=by
 refine qx x s ?_
 unfold nd
 refine(Sp.refl h).boxed fun a1 h1 H1=>?_
 refine⟨x,(H1.box 0 rfl).bg _ rfl,(oG x m h1 (hx.up H1.ap) hz).mono ?_⟩
 rintro _ h2 ⟨r,rfl,R2⟩
 have H2:=H1.gO R2
 refine⟨r,rfl,?_⟩
 obtain⟨rs,H2⟩:=H2.zT fun _=>rfl
 have hpl:=qe m hz
 obtain⟨pg,hpg⟩:∃pg,pg=cy m:=⟨_,rfl⟩
 rw[←hpg]at H2 hpl
 have F2:=H2.xg 0 rfl
 have hrl:=F2.1.len
 have hrs:=F2.2.1
 have hsn:=hs.len
 obtain⟨T,hT⟩:∃T:Int→List ((Int×Sl)×(Int×List UInt8)),T=fun n=>(rs.zip pg).map fun z=>((n,z.1),(n,z.2)):=⟨_,rfl⟩
 have hTl:∀n,(T n).length=pg.length:=fun n=>by rw[hT];simp;omega
 have hTs:∀n,(T n).map Prod.snd=pg.map fun c=>(n,c):=fun n=>by
  have hz:=List.map_snd_zip (l₁:=rs) (l₂:=pg) (by omega)
  conv=>rhs;rw[←hz]
  rw[hT];simp[List.map_map,Function.comp_def]
 have hTg:∀n j (hj:j<pg.length),(T n)[j]'(by rw[hTl];exact hj)=((n,rs[j]'(by omega)),(n,pg[j])):=fun n j hj=>by subst hT;simp
 have H3:Sp h h2 [ao cE ⟨none,0,0⟩ 2 piv (((slots.take 0).flatMap T).map Prod.fst),pa (ua 1 aF) 1 fo r rs pg]:=(H2.nil cE 2 piv).cO [2,0]
 have htot:∀i,i≤slots.length→((slots.take i).flatMap T).length≤i*3000:=fun i=>by
  induction i with
  |zero=>simp
  |succ i ih=>
   intro hi
   rw[aI _ _ (show i<slots.length by omega),List.flatMap_append,List.length_append]
   have h1:=ih (by omega)
   have h2:([slots[i]].flatMap T).length=pg.length:=by rw[List.flatMap_cons,List.flatMap_nil,List.append_nil,hTl]
   omega
 refine aE (fun t:Sl×Nat=>(t.1,(t.2:Int))) (fun t h'=>t.2≤slots.length∧Sp h h' [ao cE t.1 2 piv (((slots.take t.2).flatMap T).map Prod.fst),pa (ua 1 aF) 1 fo r rs pg]) (fun t=>slots.length-t.2) (⟨none,0,0⟩,0) rfl ⟨by simp,H3⟩ ?_
 rintro⟨o,i⟩ h3 ⟨hi,H3⟩
 dsimp only at*
 refine an (fun e=>?_) (fun e=>?_)
 ·have hi':i<slots.length:=by omega
  have ht:=htot i hi
  have hb:i*3000≤2^10*3000:=Nat.mul_le_mul_right _ (by omega)
  refine(Seq.up hs H3.ap).bk i rfl hi' slots[i] rfl ?_
  refine aE (fun t:Sl×Nat=>(t.1,(t.2:Int))) (fun t h'=>t.2≤pg.length∧Sp h h' [ao cE t.1 2 piv (((slots.take i).flatMap T).map Prod.fst++((T slots[i]).take t.2).map Prod.fst),pa (ua 1 aF) 1 fo r rs pg]) (fun t=>pg.length-t.2) (o,0) rfl ⟨by simp,by simpa using H3⟩ ?_
  rintro⟨u,j⟩ h4 ⟨hj,H4⟩
  dsimp only at*
  refine an (fun e2=>?_) (fun e2=>?_)
  ·have hj':j<pg.length:=by omega
   refine(H4.xg 1 rfl).1.zQ j rfl (by omega) ?_
   refine H4.push af 0 rfl yE rfl (by decide) (fun _=>rfl) xW (slots[i],rs[j]'(by omega)) rfl (by decide) (by simp only[List.length_append,List.length_map,List.length_take,hTl];omega) fun u' h5 H5=>?_
   refine⟨(u',j+1),by dsimp only;rw[Go.Vc.wrap_small _ (by omega) (by omega)];rfl,⟨by dsimp only;omega,?_⟩,by dsimp only;omega⟩
   dsimp only
   rw[aI (T slots[i]) j (by rw[hTl];exact hj'),List.map_append,hTg _ _ hj',←List.append_assoc]
   exact H5
  ·have hje:j=pg.length:=by omega
   subst hje
   rw[List.take_of_length_le (l:=T slots[i]) (by rw[hTl];exact Nat.le_refl _)]at H4
   refine⟨(u,i+1),by dsimp only;rw[Go.Vc.wrap_small _ (by omega) (by omega)];rfl,⟨by dsimp only;omega,?_⟩,by dsimp only;omega⟩
   dsimp only
   rw[aI _ _ hi',List.flatMap_append,List.map_append,List.flatMap_cons,List.flatMap_nil,List.append_nil]
   exact H4
 ·have hie:i=slots.length:=by omega
  subst hie
  rw[List.take_length]at H3
  refine⟨o,(slots.flatMap T).map Prod.fst,rfl,?_⟩
  have H4:=(H3.freeze 0 rfl fun _=>rfl).qI
  refine H4.lN 0 rfl fun q ⟨q1,q2,_,b,c,z1,z2⟩=>?_
  have hsnd:(slots.flatMap T).map Prod.snd=cK m slots:=by
   unfold cK
   rw[List.map_flatMap,←hpg]
   congr 1;funext n;exact hTs n
  rw[←hsnd]
  refine⟨z2.mono c,by simp,fun j r' l' g1 g2=>?_⟩
  rw[List.getElem?_map]at g1 g2
  cases g3:(slots.flatMap T)[j]? with
  |none=>rw[g3]at g1;cases g1
  |some t=>
   rw[g3]at g1 g2;simp at g1 g2;subst g1;subst g2
   obtain⟨n,_,hn⟩:=List.mem_flatMap.1 (List.mem_of_getElem? g3)
   rw[hT]at hn
   obtain⟨z,hz2,rfl⟩:=List.mem_map.1 hn
   obtain⟨k,hk,rfl⟩:=List.mem_iff_getElem.1 hz2
   rw[List.getElem_zip]
   exact⟨rfl,(z1.2.2 k _ _ (List.getElem?_eq_getElem _) (List.getElem?_eq_getElem _)).mono b⟩
end
end Go.Qw
namespace Go.Qw
open Go Go.Vc Go.Proofs Wl
set_option maxRecDepth 100000
section
variable {B:ak} {h0 h h':Heap} {As:List HP} {a:Addr} {w:Pow}
end
section
variable {B:ak} {h0 h h':Heap} {As:List HP} {a pw:Addr} {d:bv} {w:Pow}
end
end Go.Qw
namespace Go.Qw
open Go Go.Vc Go.Proofs Wl
set_option maxRecDepth 100000
section
variable {B:ak} {h0 h h':Heap} {As:List HP}
end
end Go.Qw
namespace Go.Qw
open Go Go.Vc Go.Proofs Wl
set_option maxRecDepth 100000
end Go.Qw
namespace Wl
open Go
end Wl
namespace Go.Qw
open Go Go.Vc Go.Proofs Wl
set_option maxRecDepth 100000
end Go.Qw
namespace Wl
open Go
end Wl
namespace Go.Qw
open Go Go.Vc Go.Proofs Wl
set_option maxRecDepth 100000
end Go.Qw
namespace Go.Qw
open Go Go.Vc Go.Proofs Wl
set_option maxRecDepth 100000
end Go.Qw
namespace Go.Vc
open Go Wl
def aJ (l:List Int) (k:Nat):List Int:=((List.range k).map fun i:Nat=>(i:Int)).filter fun i=>decide (0<l.getD i.toNat 0)
def cl (l:List Int):List Int×Bool:=
 if l.all (cf · 0 512)then(aJ l l.length,decide (l.length≤64)&&decide (0<(aJ l l.length).length))else([],false)
theorem lk (l:List Int) (k:Nat) (hk:k<l.length):aJ l (k+1)=aJ l k++if 0<l[k]then[(k:Int)]else[]:=by
 unfold aJ
 rw[List.range_succ,List.map_append,List.filter_append]
 congr 1
 simp only[List.map_cons,List.map_nil,List.filter_cons,List.filter_nil,Int.toNat_natCast,List.getD_eq_getElem?_getD,List.getElem?_eq_getElem hk,Option.getD_some]
 by_cases h:0<l[k]<;>simp[h]
theorem iz (l:List Int) (k:Nat):(aJ l k).length≤k:=by
 unfold aJ
 exact Nat.le_trans (List.length_filter_le _ _) (by simp)
end Go.Vc
namespace Go.Qw
open Go Go.Vc Go.Proofs Wl
section
set_option maxRecDepth 20000
theorem eG (s:Sl) (l:List Int) (h:Heap) (hs:Rd h s 1 av l) (hl:l.length≤2^20):
  ag Tryz.prog oo #[.slice s.ptr s.len s.cap] h fun v h'=>∃r:Sl,v=.tuple #[.slice r.ptr r.len r.cap,.bool (cl l).2]∧Sp h h' [ao aA r 1 av (cl l).1]:=by
 refine nD s ?_
 unfold jS
 have hsl:=hs.len
 have H0:Sp h h [ao aA ⟨none,0,0⟩ 1 av (aJ l 0)]:=(Sp.refl h).nil aA 1 av
 refine aE (fun t:Sl×Nat=>(t.1,(t.2:Int))) (fun t h'=>t.2≤l.length∧(l.take t.2).all (cf · 0 512)=true∧Sp h h' [ao aA t.1 1 av (aJ l t.2)]) (fun t=>l.length-t.2) (⟨none,0,0⟩,0) rfl ⟨by simp,by simp,H0⟩ ?_
 rintro⟨o,i⟩ h1 ⟨hi,hall,H1⟩
 dsimp only at*
 have hbad:∀(hi':i<l.length),cf l[i] 0 512=false→cl l=([],false):=fun hi' hb=>by
  unfold cl
  rw[if_neg]
  intro hc
  have:=List.all_eq_true.1 hc _ (List.getElem_mem hi')
  rw[hb]at this;cases this
 refine an (fun e=>?_) (fun e=>?_)
 ·have hi':i<l.length:=by omega
  have hpl:=iz l i
  refine(Seq.up hs H1.ap).bk i rfl hi' l[i] rfl ?_
  refine aM (an (fun e1=>?_) (fun e1=>an (fun e2=>?_) (fun e2=>?_)))
  ·have hb:=hbad hi' (by unfold cf;simp;omega)
   rw[hb]
   exact⟨⟨none,0,0⟩,rfl,(H1.cO []).nil aA 1 av⟩
  ·have hb:=hbad hi' (by unfold cf;simp;omega)
   rw[hb]
   exact⟨⟨none,0,0⟩,rfl,(H1.cO []).nil aA 1 av⟩
  ·have hall':(l.take (i+1)).all (cf · 0 512)=true:=by
    rw[aI l i hi',List.all_append,hall,Bool.true_and,List.all_cons,List.all_nil,Bool.and_true]
    unfold cf;simp;omega
   refine an (fun e3=>?_) (fun e3=>?_)
   ·refine H1.push af 0 rfl dd rfl (by decide) (fun _=>rfl) cU (i:Int) rfl (by decide) (by omega) fun o' h4 H4=>?_
    refine⟨(o',i+1),by dsimp only;rw[Go.Vc.wrap_small _ (by omega) (by omega)];rfl,⟨by dsimp only;omega,hall',?_⟩,by dsimp only;omega⟩
    dsimp only
    rw[lk l i hi',if_pos (by omega)]
    exact H4
   ·refine⟨(o,i+1),by dsimp only;rw[Go.Vc.wrap_small _ (by omega) (by omega)];rfl,⟨by dsimp only;omega,hall',?_⟩,by dsimp only;omega⟩
    dsimp only
    rw[lk l i hi',if_neg (by omega),List.append_nil]
    exact H1
 ·have hie:i=l.length:=by omega
  subst hie
  rw[List.take_length]at hall
  have hol:=(H1.own 0 rfl).len
  have hp:cl l=(aJ l l.length,decide (l.length≤64)&&decide (0<(aJ l l.length).length)):=by unfold cl;rw[if_pos hall]
  rw[hp]
  refine an (fun e1=>⟨o,?_,H1⟩) (fun e1=>⟨o,?_,H1⟩)
  ·dsimp only
   rw[decide_eq_true (show l.length≤64 by omega),Bool.true_and]
   congr 4
   refine congrArg Value.bool ?_
   rw[decide_eq_decide];omega
  ·dsimp only
   rw[decide_eq_false (show¬l.length≤64 by omega),Bool.false_and]
end
end Go.Qw
namespace Go.Qw
open Go Go.Vc Go.Proofs Wl
section
set_option maxRecDepth 20000
variable {B:ak} {h0 h:Heap} {As:List HP} {a pw:Addr} {offs:Int} {da:List (Option Addr)} {w:Pow} {ds:bi}
end
end Go.Qw
namespace Go.Vc
open Go Wl
def gY (w:Pow) (offs:Int):Bool:=w.off||w.offs !=offs
end Go.Vc
namespace Go.Qw
open Go Go.Vc Go.Proofs Wl
section
set_option maxRecDepth 20000
variable {B:ak} {h0 h:Heap} {As:List HP} {a pw:Addr} {mc:List Value} {offs:Int} {da:List (Option Addr)} {w:Pow} {ds:bi}
theorem ab.xX (H:ab B h0 h (bc bz a pw mc offs da w ds::As)):∃l,oD w l∧bK h pw aO (powC w l):=by
 obtain⟨ok,H1⟩:=Go.Vc.ab.kI H
 have H2:=H1.rest
 obtain⟨l,hl,H3⟩:=ab.mL H2
 exact⟨l,hl,H3.box 0 rfl⟩
theorem jV (H:ab B h0 h (bc bz a pw mc offs da w ds::As)):
  ag Tryz.prog lx #[.pointer (some a)] h fun v h'=>v=.bool (gY w offs)∧h'=h:=by
 refine kE (some a) ?_
 unfold gv
 obtain⟨ok,hb⟩:=ab.hU H
 obtain⟨l,hl,hp⟩:=ab.xX H
 have c8:cellOf h (a.add 8)=some (.pointer (some pw)):=hb.cell (wL ok.l8)
 have c9:cellOf h (a.add 9)=some (.int .i64 offs):=hb.cell (uC ok.l8)
 refine cj (fun _=>?_) (fun e=>by cases e)
 refine⟨a,rfl,some pw,c8,(pr l hp).mono ?_⟩
 rintro _ _ ⟨rfl,rfl⟩
 refine⟨_,rfl,trivial,bt (fun e=>⟨trivial,?_⟩) fun e=>?_⟩
 ·have e':w.off=true:=by simpa using e
  exact⟨by unfold gY;rw[e'];rfl,rfl⟩
 ·have e':w.off=false:=by simpa using e
  refine⟨a,rfl,some pw,c8,a,rfl,offs,c9,(pY l hp).mono ?_⟩
  rintro _ _ ⟨rfl,rfl⟩
  exact⟨_,rfl,⟨c9,trivial⟩,by unfold gY;rw[e'];rfl,rfl⟩
end
end Go.Qw
namespace Go.Vc
open Go Wl
section
variable {k:Kit} {B:ak} {h0 h:Heap} {As:List HP} {a pw:Addr} {mc:List Value} {offs:Int} {w:Pow}
theorem ab.yF (H:ab B h0 h As):∀n,ab B h0 h (List.replicate n emp++As)
 |0=>H
 |n+1=>(((ab.yF H n).comp (.one (A:=emp) (aw.refl _ _) trivial)).cx:ab B h0 h (emp::(List.replicate n emp++As)))
theorem ab.vN (h8:mc.length=8) (H:ab B h0 h (aj a k.tS (bn mc pw offs (List.replicate 64 none))::bG k.tP pw w::As)):ab B h0 h (bc k a pw mc offs (List.replicate 64 none) w (List.replicate 64 none)::As):=by
 have ok:ci mc (List.replicate 64 none) (List.replicate 64 (none:Option bv)):=⟨h8,by simp,by simp,fun i=>by
  simp only[List.getD_eq_getElem?_getD,List.getElem?_replicate];split<;>rfl⟩
 have hd:cC k pw (List.replicate 64 none) (List.replicate 64 (none:Option bv))=List.replicate 64 emp:=by
  simp[cC,yC]
 refine ab.mm ok ?_
 rw[hd]
 have H2:=ab.yF H 64
 refine H2.pick (fun i=>if i=0 then 64 else if i=1 then 65 else if i<66 then i-2 else i) (fun x y hab=>by(try dsimp only at hab);split at hab<;>split at hab<;>(try split at hab)<;>(try split at hab)<;>(try split at hab)<;>(try split at hab)<;>omega) fun i A hi=>?_
 rcases i with _|_|i
 ·simpa using hi
 ·simpa using hi
 ·by_cases hc:i<64
  ·have e1:(List.replicate 64 emp++As)[i]?=some A:=hi
   rw[List.getElem?_append_left (by simpa using hc)]at e1
   try dsimp only
   rw[if_neg (by omega),if_neg (by omega),if_pos (by omega),List.getElem?_append_left (by simp;omega)]
   simpa using e1
  ·have e1:(List.replicate 64 emp++As)[i]?=some A:=hi
   rw[List.getElem?_append_right (by simp;omega)]at e1
   try dsimp only
   rw[if_neg (by omega),if_neg (by omega),if_neg (by omega),List.getElem?_append_right (by simp;omega)]
   simp only[List.length_replicate]at e1⊢
   obtain⟨j,rfl⟩:∃j,i=j+64:=⟨i-64,by omega⟩
   have e2:j+64+1+1-64=j+1+1:=by omega
   rw[e2]
   simpa using e1
end
end Go.Vc
namespace Go.Qw
open Go Go.Vc Go.Proofs Wl
section
set_option maxRecDepth 20000
theorem vO (x:cn) (pw:Addr) (offs:Int):am Tryz.prog (Instr.build dN #[(0,nG x),(1,.pointer (some pw)),(2,.int .i64 offs)]) (.agg (bn (bI x) pw offs (List.replicate 64 none)).toArray):=
 lO af (i:=_) rfl rfl rfl (vs:=[(0,nG x),(1,.pointer (some pw)),(2,.int .i64 offs)]) (cells:=(bn (bI x) pw offs (List.replicate 64 none)).toArray) (by kernel_rfl)
end
end Go.Qw
namespace Go.Vc
open Go Wl
section
variable {k:Kit} {B:ak} {h0 h:Heap} {As:List HP} {a pw b:Addr} {mc:List Value} {offs:Int} {da:List (Option Addr)} {w:Pow} {ds:bi} {d:bv} {n:Nat}
theorem vP (h8:mc.length=8):(bn mc pw offs da).set (10+n) (.pointer (some b))=bn mc pw offs (da.set n (some b)):=by
 unfold bn
 rw[List.set_append_right _ _ (by omega),h8,show 10+n-8=n+1+1 by omega,List.set_cons_succ,List.set_cons_succ,List.map_set]
theorem ab.xY (ok:ci mc da ds) (hn:n<64) (hd:ds[n]?=some none) (H:ab B h0 h (aj a k.tS (bn mc pw offs (da.set n (some b)))::bG k.tP pw w::(cC k pw da ds++(dF k.tD (k.f pw) b d::As)))):ab B h0 h (bc k a pw mc offs (da.set n (some b)) w (ds.set n (some d))::As):=by
 have hda:=ok.vK hn hd
 have hla:=ok.la
 have hls:=ok.ls
 have ok':ci mc (da.set n (some b)) (ds.set n (some d)):=⟨ok.l8,by simp[hla],by simp[hls],fun i=>by
  by_cases hin:n=i
  ·subst hin
   rw[List.getD_eq_getElem?_getD,List.getD_eq_getElem?_getD,List.getElem?_set_self (by omega),List.getElem?_set_self (by omega)];rfl
  ·have:=ok.same i
   rw[List.getD_eq_getElem?_getD,List.getD_eq_getElem?_getD]at this⊢
   rw[List.getElem?_set_ne hin,List.getElem?_set_ne hin];exact this⟩
 have hll:=rR (k:=k) (pw:=pw) ok
 have hL:(cC k pw da ds)[n]?=some emp:=by
  simp only[cC,List.getElem?_zipWith,hda,hd];rfl
 have hset:cC k pw (da.set n (some b)) (ds.set n (some d))=(cC k pw da ds).set n (dF k.tD (k.f pw) b d):=by
  apply List.ext_getElem?
  intro j
  simp only[cC,List.getElem?_set,List.getElem?_zipWith,List.length_zipWith]
  by_cases hij:n=j
  ·subst hij
   rw[if_pos rfl,if_pos (by omega),if_pos rfl,if_pos (by omega),if_pos rfl,if_pos (by omega)];rfl
  ·simp[hij]
 refine ab.mm ok' ?_
 rw[hset]
 obtain⟨L,hLe⟩:∃L,L=cC k pw da ds:=⟨_,rfl⟩
 rw[←hLe]at H hL hll⊢
 have H1:=H.cons (L.length+2) (A:=dF k.tD (k.f pw) b d) (by
  rw[List.getElem?_cons_succ,List.getElem?_cons_succ,List.getElem?_append_right (Nat.le_refl _),Nat.sub_self];rfl)
 have e:(aj a k.tS (bn mc pw offs (da.set n (some b)))::bG k.tP pw w::(L++(dF k.tD (k.f pw) b d::As))).set (L.length+2) emp=aj a k.tS (bn mc pw offs (da.set n (some b)))::bG k.tP pw w::(L++(emp::As)):=by
  rw[List.set_cons_succ,List.set_cons_succ,List.set_append_right _ _ (Nat.le_refl _),Nat.sub_self];rfl
 rw[e]at H1
 have H2:=H1.bO 3 [0,2,1]
 have hLs:L.set n emp=L:=by
  obtain⟨h1,h2⟩:=List.getElem?_eq_some_iff.1 hL
  conv=>lhs;rw[←h2]
  exact List.set_getElem_self h1
 have H3:ab B h0 h (dF k.tD (k.f pw) b d::bG k.tP pw w::aj a k.tS (bn mc pw offs (da.set n (some b)))::(L.set n emp++(emp::As))):=by rw[hLs];exact H2
 have H4:=ab.tE n (by omega) H3
 have H5:=ab.closeAll (aj a k.tS (bn mc pw offs (da.set n (some b)))::bG k.tP pw w::L.set n (dF k.tD (k.f pw) b d)) H4
 exact ab.jL (L:=aj a k.tS (bn mc pw offs (da.set n (some b)))::bG k.tP pw w::L.set n (dF k.tD (k.f pw) b d)) H5.mI
end
end Go.Vc
namespace Go.Vc
open Go Wl Go.Qw
def ct (p:Pm) (extra:Int) (l:List Int):bu:=⟨1,0,p,extra,aJ l l.length,[]⟩
def dS (l:List Int) (k:Nat):bi:=(List.range 64).map fun i:Nat=>if(i:Int)∈(aJ l l.length).take k then some (bv.new (l.getD i 0).toNat)else none
def aQ (p:Pm) (extra:Int) (w:Pow) (l:List Int):Int×Pow×bi:=
 if(cl l).2&&(gC p&&cf extra 0 16)then
  if(aJ l l.length).any fun i=>decide (l.getD i.toNat 0<((cy (ct p extra l)).length:Int))then(7,w,[])
  else layAll (cK (ct p extra l) (aJ l l.length)) w (dS l (aJ l l.length).length)
 else(1,w,[])
end Go.Vc
namespace Go.Vc
open Go Wl Go.Qw
theorem rV (l:List Int):dS l 0=List.replicate 64 none:=by
 unfold dS
 rw[List.take_zero]
 apply List.ext_getElem?
 intro j
 simp only[List.getElem?_map,List.getElem?_replicate,List.getElem?_range,List.not_mem_nil,if_false]
 by_cases h:j<64
 ·simp[h,List.getElem?_range]
 ·simp[h]
theorem rW (l:List Int) (k n:Nat) (hk:k<(aJ l l.length).length) (hn:(aJ l l.length)[k]=(n:Int)) (h64:n<64):(dS l k).set n (some (bv.new (l.getD n 0).toNat))=dS l (k+1):=by
 apply List.ext_getElem?
 intro j
 unfold dS
 rw[aI _ _ hk,hn,List.getElem?_set,List.length_map,List.length_range]
 by_cases hj:j<64
 ·simp only[List.getElem?_map,List.getElem?_range hj,Option.map_some,List.mem_append,List.mem_singleton]
  by_cases hnj:n=j
  ·subst hnj
   rw[if_pos rfl,if_pos h64,if_pos (Or.inr rfl)]
  ·rw[if_neg hnj]
   have:¬(j:Int)=(n:Int):=by omega
   simp only[this,or_false]
 ·rw[if_neg (by omega)]
  rw[List.getElem?_eq_none (by simp;omega),List.getElem?_eq_none (by simp;omega)]
theorem rX (l:List Int) (k:Nat) (x:Int):x∈aJ l k↔∃n:Nat,n<k∧x=(n:Int)∧0<l.getD n 0:=by
 unfold aJ
 rw[List.mem_filter,List.mem_map]
 constructor
 ·rintro⟨⟨n,h1,rfl⟩,h2⟩
  exact⟨n,List.mem_range.1 h1,rfl,by simpa using h2⟩
 ·rintro⟨n,h1,rfl,h2⟩
  exact⟨⟨n,List.mem_range.2 h1,rfl⟩,by simpa using h2⟩
theorem tb (l:List Int) (k i:Nat) (hi:i<(aJ l k).length):∃n:Nat,n<k∧(aJ l k)[i]=(n:Int)∧0<l.getD n 0:=(rX l k _).1 (List.getElem_mem hi)
end Go.Vc
namespace Wl
open Go
structure Fit (ds:bi) (S Q:List Int):Prop where
 len:ds.length=64
 at_:∀s∈S,∃d,tv ds s=some d∧d.lost=false∧d.l.length+Q.count s≤d.room
end Wl
namespace Go.Vc
open Go Wl Go.Qw
theorem px (l:List Int) (k:Nat):(aJ l k).Nodup:=by
 unfold aJ
 refine List.Pairwise.filter _ (List.pairwise_map.2 ?_)
 exact(List.nodup_range (n:=k)).imp fun h=>by omega
end Go.Vc
namespace Wl
open Go
end Wl
namespace Go.Vc
open Go Wl
end Go.Vc
namespace Go.Qw
open Go Go.Vc Go.Proofs Wl
set_option maxRecDepth 100000
section
variable {B:ak} {h0 h h':Heap} {As:List HP} {a pw:Addr} {mc:List Value} {offs:Int} {da:List (Option Addr)} {w:Pow} {ds:bi}
end
end Go.Qw
namespace Go.Qw
open Go Go.Vc Go.Proofs Wl
set_option maxRecDepth 100000
section
variable {B:ak} {h0 h h':Heap} {As:List HP} {a pw:Addr} {mc:List Value} {offs:Int} {da:List (Option Addr)} {w:Pow} {ds:bi}
end
end Go.Qw
namespace Go.Qw
open Go Go.Vc Go.Proofs Wl
set_option maxRecDepth 100000
end Go.Qw
namespace Go.Qw
open Go Go.Vc Go.Proofs
set_option maxRecDepth 100000
end Go.Qw
namespace Go.Qw
open Go Go.Vc Go.Proofs Wl
set_option maxRecDepth 100000
end Go.Qw
namespace Go.Qw
open Go Go.Vc Go.Proofs Wl
set_option maxRecDepth 100000
end Go.Qw
namespace Go.Qw
open Go Go.Vc Go.Proofs Wl
set_option maxRecDepth 100000
section
variable {B B':ak} {h0 h0' h h':Heap} {As As':List HP} {a b pw pw2:Addr} {d:bv}
end
end Go.Qw
namespace Go.Qw
open Go Go.Vc Go.Proofs Wl
section
set_option maxRecDepth 20000
variable {B:ak} {h0 h:Heap} {As:List HP} {a a2 pw pw2:Addr} {mc:List Value} {offs:Int} {da da2:List (Option Addr)} {w:Pow} {ds:bi}
end
end Go.Qw
namespace Go.Qw
open Go Go.Vc Go.Proofs Wl
section
set_option maxRecDepth 20000
variable {B:ak} {h0 h:Heap} {As:List HP} {a pw b:Addr} {x:cn} {offs:Int} {da:List (Option Addr)} {w:Pow} {ds:bi} {d:bv}
theorem ab.wM (n:Nat) (hn:n<64) (hd:ds[n]?=some none) (H:ab B h0 h (bc bz a pw (bI x) offs da w ds::mj pw b d::As)) {K:Unit→Heap→Prop}
  (hk:∀h',ab B h0 h' (bc bz a pw (bI x) offs (da.set n (some b)) w (ds.set n (some d))::As)→K () h'):
  aa Tryz.prog (Instr.storeAt mO (.pointer (some ((a.add 10).add n))) (.pointer (some b))) h K:=by
 obtain⟨ok,H1⟩:=Go.Vc.ab.kI H
 have he:(a.add 10).add n=a.add (10+n):=by unfold Addr.add;simp[Nat.add_assoc]
 rw[he]
 refine H1.storeAt af 0 rfl rfl rfl rfl rfl (by simp[ok.la];omega) fun h' H2=>hk h' ?_
 rw[List.set_cons_zero,vP ok.l8]at H2
 exact ab.xY ok hn hd H2
end
end Go.Qw
namespace Go.Vc
open Go Wl Go.Qw
theorem uE {l:List Int} (h:(cl l).2=true):(cl l).1=aJ l l.length∧l.length≤64∧∀n:Nat,l.getD n 0≤512:=by
 unfold cl at h⊢
 by_cases ha:l.all (cf · 0 512)=true
 ·rw[if_pos ha]at h⊢
  refine⟨rfl,by simp at h;exact h.1,fun n=>?_⟩
  rw[List.getD_eq_getElem?_getD]
  by_cases hn:n<l.length
  ·rw[List.getElem?_eq_getElem hn]
   have:=List.all_eq_true.1 ha _ (List.getElem_mem hn)
   unfold cf at this;simp at this⊢;omega
  ·rw[List.getElem?_eq_none (by omega)];simp
 ·rw[if_neg ha]at h;cases h
theorem rY (l:List Int) (i n:Nat) (hi:i<(aJ l l.length).length) (hn:(aJ l l.length)[i]=(n:Int)) (h64:n<64):(dS l i)[n]?=some none:=by
 unfold dS
 rw[List.getElem?_map,List.getElem?_range h64,Option.map_some,if_neg]
 intro hc
 obtain⟨j,hj,hj2⟩:=List.mem_take_iff_getElem.1 hc
 have:=lQ (px l l.length) (a:=j) (b:=i) (by omega) hi (by rw[hj2,hn])
 omega
theorem nj (m:bu):∀S:List Int,(cK m S).length=S.length*(cy m).length
 |[]=>by simp[cK]
 |n::S=>by
  have e:cK m (n::S)=(cy m).map (fun c=>(n,c))++cK m S:=by unfold cK;rw[List.flatMap_cons]
  rw[e,List.length_append,List.length_map,nj m S,List.length_cons,Nat.succ_mul,Nat.add_comm]
theorem uF (p:Pm) (extra:Int) (l:List Int) (hl:l.length≤64):iX (ct p extra l):=⟨by have:=iz l l.length;simp[ct];omega,by simp[ct],by simp[ct]⟩
end Go.Vc
namespace Go.Qw
open Go Go.Vc Go.Proofs Wl
section
set_option maxRecDepth 20000
variable {B:ak} {h0 h:Heap} {As:List HP} {pw:Addr} {w:Pow}
theorem tc (p:Pm) (extra:Int) (s:Sl) (l:List Int) (hS:St B h0 As fun h=>Rd h s 1 av l) (hl:l.length≤2^20) (H:ab B h0 h (bG aO pw w::As)):
  ag Tryz.prog om #[iU p,.int .i64 extra,.pointer (some pw),.slice s.ptr s.len s.cap] h fun v h'=>
   ((aQ p extra w l).1≠0→v=.tuple #[.pointer none,.int .i64 (aQ p extra w l).1]∧ab B h0 h' As)∧
   ((aQ p extra w l).1=0→∃(a:Addr) (x:cn) (da:List (Option Addr)),v=.tuple #[.pointer (some a),.int .i64 0]∧ab B h0 h' (bc bz a pw (bI x) w.offs da (aQ p extra w l).2.1 (aQ p extra w l).2.2::gI x (ct p extra l)::As)):=by
 refine nB p extra (some pw) s ?_
 unfold jQ
 refine H.boxed fun a1 h1 H1=>?_
 have H1:=H1.cx
 refine(eG s l h1 (hS.at [_,_] H1) hl).mono ?_
 rintro _ h2 ⟨r,rfl,R2⟩
 have H2:=H1.gO R2
 refine⟨(r,(cl l).2),rfl,?_⟩
 have bad:∀{h':Heap},ab B h0 h' As→((cl l).2&&(gC p&&cf extra 0 16))=false→
   ((aQ p extra w l).1≠0→Value.tuple #[.pointer none,.int .i64 1]=.tuple #[.pointer none,.int .i64 (aQ p extra w l).1]∧ab B h0 h' As)∧
   ((aQ p extra w l).1=0→∃(a:Addr) (x:cn) (da:List (Option Addr)),Value.tuple #[.pointer none,.int .i64 1]=.tuple #[.pointer (some a),.int .i64 0]∧ab B h0 h' (bc bz a pw (bI x) w.offs da (aQ p extra w l).2.1 (aQ p extra w l).2.2::gI x (ct p extra l)::As)):=fun{h'} H' hc=>by
  have e:aQ p extra w l=(1,w,[]):=by unfold aQ;rw[hc];rfl
  rw[e]
  exact⟨fun _=>⟨rfl,H'⟩,fun h=>absurd h (show¬(1:Int)=0 by decide)⟩
 refine aM (bt (fun e=>bad H2.rest.rest.rest (by rw[e];rfl)) fun e=>?_)
 have ep:(cl l).2=true:=by simpa using e
 obtain⟨ep1,el64,el512⟩:=uE ep
 refine⟨p,(H2.box 1 rfl).bg _ rfl,(iv p h2).mono ?_⟩
 rintro _ h3 ⟨rfl,R3⟩
 have H3:ab B h0 h3 (ao aA r 1 av (cl l).1::aj a1 cQ [.int .i64 p.1,.int .i64 p.2.1,.int .i64 p.2.2]::bG aO pw w::As):=by
  have:=H2.comp R3
  rw[List.append_nil]at this;exact this
 refine⟨_,rfl,bt (fun e2=>bad H3.rest.rest.rest (by rw[e2];simp)) fun e2=>?_⟩
 have em:gC p=true:=by simpa using e2
 refine an (fun e3=>bad H3.rest.rest.rest (by unfold cf;simp;omega)) fun e3=>an (fun e4=>bad H3.rest.rest.rest (by unfold cf;simp;omega)) fun e4=>cj (fun e5=>by cases e5) fun _=>?_
 rw[ep1]at H3
 refine aM ⟨p,(H3.box 1 rfl).bg _ rfl,?_⟩
 obtain⟨lw,hlw,H3p⟩:=(H3.bO 3 [2,1,0]).mL
 refine(pY lw (H3p.box 0 rfl)).mono ?_
 rintro _ h4 ⟨rfl,rfl⟩
 have hb3:=H3.box 1 rfl
 refine⟨_,rfl,⟨hb3.cell0 rfl,hb3.cell rfl,hb3.cell rfl,trivial⟩,?_⟩
 obtain⟨m,hm⟩:∃m,m=ct p extra l:=⟨_,rfl⟩
 refine⟨_,vO (1,0,p.1,p.2.1,p.2.2,extra,r,⟨none,0,0⟩) pw w.offs,?_⟩
 refine H3.boxed fun a9 h6 H6=>?_
 obtain⟨x,hx⟩:∃x:cn,x=(1,0,p.1,p.2.1,p.2.2,extra,r,⟨none,0,0⟩):=⟨_,rfl⟩
 rw[←hx]at H6
 have ecell:(Value.agg (bn (bI x) pw w.offs (List.replicate 64 none)).toArray).cells.toList=bn (bI x) pw w.offs (List.replicate 64 none):=by simp[Value.cells]
 rw[ecell]at H6
 have H6:=H6.cx
 have hb6:=H6.box 2 rfl
 refine⟨⟨hb6.cell0 rfl,hb6.cell rfl,hb6.cell rfl,trivial⟩,?_⟩
 have H6:ab B h0 h6 (aj a9 dN (bn (bI x) pw w.offs (List.replicate 64 none))::bG aO pw w::ao aA r 1 av (aJ l l.length)::As):=H6.bO 4 [0,3,1]
 have H6:=ab.vN (k:=bz) (h8:=by simp) H6
 obtain⟨P,hP⟩:∃P,P=aJ l l.length:=⟨_,rfl⟩
 rw[←hP]at H6
 have hz:iX m:=hm▸uF p extra l el64
 have hPl:P.length≤64:=by rw[hP];exact Nat.le_trans (iz _ _) el64
 have hmx:∀{h':Heap} {Bs:List HP} {X:HP},ab B h0 h' (X::ao aA r 1 av P::Bs)→iW h' x m:=fun{h' Bs X} H'=>by
  have hs:=H'.seq 1 rfl fun _=>rfl
  have hc:=(H'.own 1 rfl).cap
  subst hx;subst hm
  exact⟨rfl,rfl,rfl,rfl,by show Seq _ _ r 1 av (aJ l l.length);rw[←hP];exact hs,cN.nil _ _ _ _,hc,Nat.le_refl _⟩
 have hok:((cl l).2&&(gC p&&cf extra 0 16))=true:=by
  rw[ep,em];unfold cf;simp;omega
 have fokP:(P.any fun i=>decide (l.getD i.toNat 0<((cy m).length:Int)))=true→aQ p extra w l=(7,w,[]):=fun hh=>by
  unfold aQ;rw[if_pos hok,←hP,←hm,if_pos hh]
 have fokN:(P.any fun i=>decide (l.getD i.toNat 0<((cy m).length:Int)))=false→aQ p extra w l=layAll (cK m P) w (dS l P.length):=fun hh=>by
  unfold aQ;rw[if_pos hok,←hP,←hm,hh,if_neg (by decide)]
 have hat:∀i (hi:i<P.length),∃n:Nat,n<l.length∧P[i]=(n:Int)∧0<l.getD n 0:=by
  subst hP;exact fun i hi=>tb l l.length i hi
 refine aE (fun i:Nat=>(i:Int)) (fun i h'=>i≤P.length∧((P.take i).any fun i=>decide (l.getD i.toNat 0<((cy m).length:Int)))=false∧ab B h0 h' (bc bz a9 pw (bI x) w.offs (List.replicate 64 none) w (List.replicate 64 none)::ao aA r 1 av P::As)) (fun i=>P.length-i) 0 rfl ⟨by omega,by simp,H6⟩ ?_
 rintro i h7 ⟨hi,hall,H7⟩
 dsimp only at*
 obtain⟨okc,hb7⟩:=ab.hU H7
 have hrl:r.len=P.length:=(H7.own 1 rfl).len
 refine an (fun e5=>?_) (fun e5=>?_)
 ·have hi':i<P.length:=by omega
  obtain⟨n,hn,en,hpos⟩:=hat i hi'
  refine(H7.seq 1 rfl fun _=>rfl).bk i rfl hi' (n:Int) (by rw[en];rfl) ?_
  refine(hS.at [_,_] H7).tZ n rfl hn (l.getD n 0) (by rw[getD_lt hn];rfl) fun a14 hc14=>?_
  refine⟨a9,rfl,x,hb7.bg _ (by rfl),(oG x m h7 (hmx H7) hz).mono ?_⟩
  rintro _ h9 ⟨u,rfl,R9⟩
  have H9:=H7.gO R9
  have hul:=(ab.yw H9).1
  refine⟨u,rfl,pN R9.ap ⟨hc14,trivial⟩,?_⟩
  refine an (fun e6=>?_) (fun e6=>?_)
  ·rw[fokP (List.any_eq_true.2 ⟨P[i],List.getElem_mem hi',by rw[en,Int.toNat_natCast];exact decide_eq_true (by omega)⟩)]
   exact⟨fun _=>⟨rfl,H9.rest.rest.rest⟩,fun h=>absurd h (show¬(7:Int)=0 by decide)⟩
  ·refine⟨i+1,by rw[Go.Vc.wrap_small _ (by omega) (by omega)];rfl,⟨by omega,?_,H9.rest⟩,by omega⟩
   rw[aI _ _ hi',List.any_append,hall,Bool.false_or,List.any_cons,List.any_nil,Bool.or_false,en,Int.toNat_natCast]
   exact decide_eq_false (by omega)
 ·have hPi:i=P.length:=by omega
  subst hPi
  rw[List.take_length]at hall
  have fok:=fokN hall
  rw[←rV l]at H7
  refine aE (fun t:Nat×List (Option Addr)=>(t.1:Int)) (fun t h'=>t.1≤P.length∧ab B h0 h' (bc bz a9 pw (bI x) w.offs t.2 w (dS l t.1)::ao aA r 1 av P::As)) (fun t=>P.length-t.1) (0,List.replicate 64 none) rfl ⟨by simp,H7⟩ ?_
  rintro⟨i,da⟩ h10 ⟨hi,H10⟩
  dsimp only at*
  obtain⟨okd,hb10⟩:=ab.hU H10
  refine an (fun e6=>?_) (fun e6=>?_)
  ·have hi':i<P.length:=by omega
   obtain⟨n,hn,en,hpos⟩:=hat i hi'
   have h512:=el512 n
   refine(H10.seq 1 rfl fun _=>rfl).bk i rfl hi' (n:Int) (by rw[en];rfl) ?_
   refine(hS.at [_,_] H10).bk n rfl hn (l.getD n 0) (by rw[getD_lt hn];rfl) ?_
   refine⟨a9,rfl,(uy (l.getD n 0) pw h10).mono ?_⟩
   rintro _ h11 ⟨Q1,_⟩
   obtain⟨b,rfl,R11⟩:=Q1 (by omega)
   have H11:=(H10.gO R11).bO 2 [1,0]
   refine⟨_,rfl,trivial,⟨by omega,by omega⟩,?_⟩
   rw[Int.toNat_natCast,Nat.mul_one]
   have hiQ:i<(aJ l l.length).length:=by rw[←hP];exact hi'
   have enQ:(aJ l l.length)[i]=(n:Int):=by rw[←en];simp only[hP]
   refine Go.Qw.ab.wM n (by omega) (rY l i n hiQ enQ (by omega)) H11 fun h12 H12=>?_
   refine⟨trivial,(i+1,da.set n (some b)),by dsimp only;rw[Go.Vc.wrap_small _ (by omega) (by omega)];rfl,⟨by dsimp only;omega,?_⟩,by dsimp only;omega⟩
   dsimp only
   rw[←rW l i n hiQ enQ (by omega)]
   exact H12
  ·have hPi:i=P.length:=by omega
   subst hPi
   refine⟨a9,rfl,x,hb10.bg _ (by rfl),(ta x m r P h10 (hmx H10) hz (H10.seq 1 rfl fun _=>rfl) (by omega)).mono ?_⟩
   rintro _ h13 ⟨u,ys,rfl,R13⟩
   have H13:=(H10.gO R13).bO 2 [1,0]
   refine⟨u,rfl,?_⟩
   have hspl:=qe m hz
   refine(vM u ys (cK m P) (St.xf 0 rfl fun _ hq=>hq) ?_ ?_ H13).mono ?_
   ·rw[nj]
    have:=Nat.mul_le_mul hPl hspl
    omega
   ·intro y hy
    obtain⟨hy1,hy2⟩:=sZ hy
    obtain⟨i,hi,e⟩:=List.getElem_of_mem hy1
    obtain⟨n,hn,en,_⟩:=hat i hi
    rw[←e,en,hy2]
    exact⟨⟨by omega,by omega⟩,by decide⟩
   rintro _ h14 ⟨rfl,H14⟩
   rw[fok]
   refine⟨_,rfl,cz (fun e7=>⟨fun _=>⟨rfl,H14.rest.rest.rest⟩,fun h=>absurd h e7⟩) fun e7=>⟨fun h=>absurd e7 h,fun _=>⟨a9,x,da,rfl,?_⟩⟩⟩
   rw[←hm]
   exact H14.mI.lN 1 rfl fun q hq=>by
    subst hx;subst hm
    exact⟨rfl,rfl,rfl,rfl,by show Seq _ _ r 1 av (aJ l l.length);rw[←hP];exact hq.1.seq (fun _=>rfl) hq.2,cN.nil _ _ _ _,hq.1.cap,Nat.le_refl _⟩
end
end Go.Qw
namespace Go.Vc
open Go Wl Go.Qw
end Go.Vc
namespace Go.Qw
open Go Go.Vc Go.Proofs Wl
set_option maxRecDepth 20000
end Go.Qw
namespace Go.Qw
open Go Go.Vc Go.Proofs Wl
section
set_option maxRecDepth 20000
variable {B:ak} {h0 h:Heap} {As:List HP} {a pw b:Addr} {x:cn} {offs:Int} {da:List (Option Addr)} {w:Pow} {ds:bi} {d:bv}
end
end Go.Qw
namespace Go.Qw
open Go Go.Vc Go.Proofs Wl
set_option maxRecDepth 100000
end Go.Qw
namespace Go.Vc
open Go Wl Go.Qw
def cB (l:List Int) (k:Nat):Int:=l.getD k 0
end Go.Vc
namespace Go.Qw
open Go Go.Vc Go.Proofs Wl
section
set_option maxRecDepth 20000
variable {B:ak} {h0 h:Heap} {As:List HP} {a pw:Addr} {offs:Int} {da:List (Option Addr)} {w:Pow} {ds:bi}
theorem wN:(aQ (1,1,1) 0 Pow.new [5]).1=0:=by decide+kernel
end
end Go.Qw
namespace Wl
structure Mv where
 kind:Int
 name:ByteArray
 data:List UInt8
 slot:Int
 n:Int
 m:Int
 mask:Int
 keeps:List Int
 torns:List Int
def qf:List ByteArray:=[⟨#[97]⟩,⟨#[98]⟩,⟨#[99,97,116,45,55]⟩,⟨#[100]⟩,⟨#[101,49,50,51,52,53,54,55,56,57,48,49]⟩]
def py (p:Int×Int×Int) (b:Mv):Prop:=
 (b.kind=1∧b.name∈qf∧(b.data.length:Int)≤3*(p.1*p.2.2)+1)∨((b.kind=2∨b.kind=3∨b.kind=5)∧b.name∈qf)∨b.kind=4∨
 (b.kind=6∧(0≤b.slot∧b.slot<9)∧6≤b.n∧b.n<66)∨(b.kind=7∧0≤b.slot∧b.slot<8)∨(b.kind=8∧(0≤b.slot∧b.slot<8)∧6≤b.n∧b.n<66)∨(b.kind=9∧0≤b.slot∧b.slot<8)∨
 (b.kind=10∧(-1≤b.n∧b.n≤7)∧-1≤b.m∧b.m≤68)∨(b.kind=11∧(0≤b.slot∧b.slot<7)∧(0≤b.n∧b.n<40)∧(0≤b.m∧b.m<61)∧0≤b.mask∧b.mask<4294967296)
def mo (b:Mv):Prop:=b=⟨b.kind,if b.kind=1∨b.kind=2∨b.kind=3∨b.kind=5 then b.name else⟨#[]⟩,if b.kind=1 then b.data else[],if b.kind=6∨b.kind=7∨b.kind=8∨b.kind=9∨b.kind=11 then b.slot else 0,
 if b.kind=6∨b.kind=8∨b.kind=10∨b.kind=11 then b.n else 0,if b.kind=10∨b.kind=11 then b.m else 0,if b.kind=11 then b.mask else 0,[],[]⟩
end Wl
namespace Go.Vc
open Go Wl
abbrev zU (s:ByteArray):List Value:=[.string s]
abbrev rZ:=Int×ByteArray×Sl×Int×Int×Int×Int×Sl×Sl
abbrev mq (x:rZ):List Value:=[.int .i64 x.1,.string x.2.1,.slice x.2.2.1.ptr x.2.2.1.len x.2.2.1.cap,.int .i64 x.2.2.2.1,.int .i64 x.2.2.2.2.1,.int .i64 x.2.2.2.2.2.1,.int .u32 x.2.2.2.2.2.2.1,.slice x.2.2.2.2.2.2.2.1.ptr x.2.2.2.2.2.2.2.1.len x.2.2.2.2.2.2.2.1.cap,.slice x.2.2.2.2.2.2.2.2.ptr x.2.2.2.2.2.2.2.2.len x.2.2.2.2.2.2.2.2.cap]
abbrev yG (x:rZ):Value:=.agg #[.int .i64 x.1,.string x.2.1,.slice x.2.2.1.ptr x.2.2.1.len x.2.2.1.cap,.int .i64 x.2.2.2.1,.int .i64 x.2.2.2.2.1,.int .i64 x.2.2.2.2.2.1,.int .u32 x.2.2.2.2.2.2.1,.slice x.2.2.2.2.2.2.2.1.ptr x.2.2.2.2.2.2.2.1.len x.2.2.2.2.2.2.2.1.cap,.slice x.2.2.2.2.2.2.2.2.ptr x.2.2.2.2.2.2.2.2.len x.2.2.2.2.2.2.2.2.cap]
def gZ:gm rZ Mv:=⟨fun h q a b=>(a.1=b.kind∧a.2.1=b.name∧a.2.2.2.1=b.slot∧a.2.2.2.2.1=b.n∧a.2.2.2.2.2.1=b.m∧a.2.2.2.2.2.2.1=b.mask∧a.2.2.1.len≤a.2.2.1.cap)∧Seq h q a.2.2.1 1 aF b.data∧Seq h q a.2.2.2.2.2.2.2.1 1 av b.keeps∧Seq h q a.2.2.2.2.2.2.2.2 1 av b.torns,
 fun a hp=>⟨a.1,a.2.1.ap hp,a.2.2.1.ap hp,a.2.2.2.ap hp⟩,fun a hq=>⟨a.1,a.2.1.mono hq,a.2.2.1.mono hq,a.2.2.2.mono hq⟩⟩
end Go.Vc
namespace Go.Qw
open Go Go.Vc Go.Proofs Wl
set_option maxRecDepth 100000
abbrev zV:bf C.tojG sN bx 1 [.string ⟨#[]⟩] 16:=⟨_,_,rfl,rfl,rfl,rfl,rfl,rfl⟩
abbrev yH:List Value:=[.int .i64 0,.string ⟨#[]⟩,.slice none 0 0,.int .i64 0,.int .i64 0,.int .i64 0,.int .u32 0,.slice none 0 0,.slice none 0 0]
abbrev Ac:bf C.tojG qr ai 9 yH 128:=⟨_,_,rfl,rfl,rfl,rfl,rfl,rfl⟩
theorem hF (n:Int) (h:Heap):ag Tryz.prog ju #[.int .i64 n] h fun v h'=>∃s∈qf,v=.string s∧Sp h h' []:=by
 refine iF n ?_
 unfold fd
 refine(Sp.refl h).lit af zU zV rfl qf rfl (by decide) (by kernel_rfl) fun v1 h1 H1=>?_
 refine(aH n 5 h1 (by decide) (by decide)).mono ?_
 rintro _ h2 ⟨rfl,rfl⟩
 have q0:=Int.emod_nonneg n (show(5:Int)≠0 by decide)
 have q1:=Int.emod_lt_of_pos n (show(0:Int)<5 by decide)
 have hl:qf.length=5:=rfl
 refine⟨_,rfl,(H1.seq 0 rfl fun _=>rfl).bk (n%5).toNat (by omega) (by omega) (qf[(n%5).toNat]'(by omega)) rfl ⟨_,List.getElem_mem _,rfl,.zip H1.ap⟩⟩
theorem uG (p:Pm) (k a b:Int) (h:Heap) (hp:gC p=true):ag Tryz.prog jq #[iU p,.int .i64 k,.int .i64 a,.int .i64 b] h fun v h'=>∃(x:rZ) (m:Mv),v=yG x∧py p m∧mo m∧Sp h h' [EA gZ x m]:=by
 refine iB p k a b ?_
 unfold eZ
 obtain⟨⟨p1,p2⟩,_,z1,z2⟩:=(km p).1 hp
 have hpp:1≤p.1*p.2.2∧p.1*p.2.2≤16*24:=⟨Int.mul_le_mul p1 z1 (by omega) (by omega),Int.mul_le_mul p2 z2 (by omega) (by omega)⟩
 refine(Sp.refl h).boxed fun a1 h1 H1=>H1.alloc af rfl fun a2 h2 H2=>?_
 have H2:Sp h h2 [aj a1 cQ [.int .i64 p.1,.int .i64 p.2.1,.int .i64 p.2.2],aj a2 ai yH]:=H2
 have fin:∀(kind slot n m mask:Int) (name:ByteArray) {h':Heap},Sp h h' [aj a1 cQ [.int .i64 p.1,.int .i64 p.2.1,.int .i64 p.2.2],aj a2 ai yH]→py p ⟨kind,name,[],slot,n,m,mask,[],[]⟩→mo ⟨kind,name,[],slot,n,m,mask,[],[]⟩→
   aa Tryz.prog (Instr.storeAt ai (.pointer (some a2)) (.agg #[.int .i64 kind,.string name,.slice none 0 0,.int .i64 slot,.int .i64 n,.int .i64 m,.int .u32 mask,.slice none 0 0,.slice none 0 0])) h' fun _ h''=>
    ∃r:rZ,ah h'' a2 0 (mq r)∧∃(x:rZ) (m:Mv),yG r=yG x∧py p m∧mo m∧Sp h h'' [EA gZ x m]:=by
  intro kind slot n m mask name h' H' hok hr
  refine H'.storeAll af 1 rfl rfl (mq (kind,name,⟨none,0,0⟩,slot,n,m,mask,⟨none,0,0⟩,⟨none,0,0⟩)) rfl rfl rfl rfl fun h'' H''=>?_
  refine⟨(kind,name,⟨none,0,0⟩,slot,n,m,mask,⟨none,0,0⟩,⟨none,0,0⟩),(H''.box 1 rfl).bg _ rfl,_,_,rfl,hok,hr,?_⟩
  have H3:Sp h h'' []:=.zip H''.ap
  exact H3.comp (.one (aw.refl _ _) ⟨⟨rfl,rfl,rfl,rfl,rfl,rfl,Nat.le_refl _⟩,Seq.nil _ _ _ _ _ _,Seq.nil _ _ _ _ _ _,Seq.nil _ _ _ _ _ _⟩)
 refine(aH k 26 h2 (by decide) (by decide)).mono ?_
 rintro _ h3 ⟨rfl,rfl⟩
 have k0:=Int.emod_nonneg k (show(26:Int)≠0 by decide)
 have k1:=Int.emod_lt_of_pos k (show(0:Int)<26 by decide)
 have W:∀(x n:Int),0<n→0≤x%n∧x%n<n:=fun x n hn=>⟨Int.emod_nonneg x (by omega),Int.emod_lt_of_pos x hn⟩
 refine⟨_,rfl,an (fun _=>?_) fun _=>?_⟩
 ·refine⟨by decide,p.1,(H2.box 0 rfl).cell0 rfl,p.2.2,(H2.box 0 rfl).cell rfl,(hF a h3).mono ?_⟩
  rintro _ h4 ⟨s,hs,rfl,R4⟩
  have H4:=H2.up R4.ap
  have e1:IntKind.wrap .i64 ((IntKind.wrap .i64 ((IntKind.wrap .i64 ((3:Int)*p.1))*p.2.2))+(2:Int))=3*(p.1*p.2.2)+2:=by
   rw[Go.Vc.wrap_small (3*p.1) (by omega) (by omega),Int.mul_assoc,Go.Vc.wrap_small (3*(p.1*p.2.2)) (by omega) (by omega),Go.Vc.wrap_small _ (by omega) (by omega)]
  refine⟨s,rfl,⟨(H4.box 0 rfl).cell rfl,(H4.box 0 rfl).cell0 rfl,trivial⟩,?_⟩
  rw[e1]
  refine(aH _ (3*(p.1*p.2.2)+2) h4 (by omega) (by omega)).mono ?_
  rintro _ h5 ⟨rfl,rfl⟩
  obtain⟨q,hq⟩:∃q,q=IntKind.wrap .i64 (Int.tdiv a 5)%(3*(p.1*p.2.2)+2):=⟨_,rfl⟩
  have hq0:=W (IntKind.wrap .i64 (Int.tdiv a 5)) (3*(p.1*p.2.2)+2) (by omega)
  rw[←hq]at hq0⊢
  obtain⟨N,hN⟩:∃N:Nat,q=N:=⟨q.toNat,by omega⟩
  subst hN
  refine⟨_,rfl,⟨(H4.box 0 rfl).cell rfl,(H4.box 0 rfl).cell0 rfl,trivial⟩,(ux N b h5 (by omega)).mono ?_⟩
  rintro _ h6 ⟨r,l,rfl,hl,R6⟩
  have H6:=H4.comp R6
  have hcap:=(R6.own 0 rfl).cap
  refine⟨r,rfl,⟨(H6.box 0 rfl).cell rfl,(H6.box 0 rfl).cell0 rfl,trivial⟩,?_⟩
  refine H6.storeAll af 1 rfl rfl (mq (1,s,r,0,0,0,0,⟨none,0,0⟩,⟨none,0,0⟩)) rfl rfl rfl rfl fun h7 H7=>?_
  refine⟨trivial,(1,s,r,0,0,0,0,⟨none,0,0⟩,⟨none,0,0⟩),(H7.box 1 rfl).bg _ rfl,_,(⟨1,s,l,0,0,0,0,[],[]⟩:Mv),rfl,.inl ⟨rfl,hs,by dsimp only;omega⟩,rfl,?_⟩
  have H8:=H7.cO [2]
  exact H8.lN 0 rfl fun q hq=>⟨⟨rfl,rfl,rfl,rfl,rfl,rfl,hcap⟩,hq.1.seq (fun _=>rfl) hq.2,Seq.nil _ _ _ _ _ _,Seq.nil _ _ _ _ _ _⟩
 refine an (fun _=>(hF a h3).mono ?_) fun _=>an (fun _=>(hF a h3).mono ?_) fun _=>ba (fun _=>?_) fun _=>ba (fun _=>(hF a h3).mono ?_) fun _=>ba (fun _=>?_) fun _=>ba (fun _=>?_) fun _=>ba (fun _=>?_) fun _=>ba (fun _=>?_) fun _=>an (fun _=>?_) fun _=>ba (fun _=>?_) fun _=>?_
 ·rintro _ h4 ⟨s,hs,rfl,R4⟩
  exact⟨s,rfl,fin 2 0 0 0 0 s (H2.up R4.ap) (.inr (.inl ⟨.inl rfl,hs⟩)) rfl⟩
 ·rintro _ h4 ⟨s,hs,rfl,R4⟩
  exact⟨s,rfl,fin 3 0 0 0 0 s (H2.up R4.ap) (.inr (.inl ⟨.inr (.inl rfl),hs⟩)) rfl⟩
 ·exact fin 4 0 0 0 0 _ H2 (.inr (.inr (.inl rfl))) rfl
 ·rintro _ h4 ⟨s,hs,rfl,R4⟩
  exact⟨s,rfl,fin 5 0 0 0 0 s (H2.up R4.ap) (.inr (.inl ⟨.inr (.inr rfl),hs⟩)) rfl⟩
 ·refine(aH a 9 h3 (by decide) (by decide)).mono ?_
  rintro _ h4 ⟨rfl,rfl⟩
  refine⟨_,rfl,(aH b 60 h4 (by decide) (by decide)).mono ?_⟩
  rintro _ h5 ⟨rfl,rfl⟩
  have w1:=W a 9 (by decide)
  have w2:=W b 60 (by decide)
  refine⟨_,rfl,?_⟩
  dsimp only
  rw[Go.Vc.wrap_small (6+b%60) (by omega) (by omega)]
  exact fin 6 _ _ 0 0 _ H2 (.inr (.inr (.inr (.inl ⟨rfl,w1,by dsimp only;omega,by dsimp only;omega⟩)))) rfl
 ·refine(aH a 8 h3 (by decide) (by decide)).mono ?_
  rintro _ _ ⟨rfl,rfl⟩
  exact⟨_,rfl,fin 7 _ 0 0 0 _ H2 (.inr (.inr (.inr (.inr (.inl ⟨rfl,W a 8 (by decide)⟩))))) rfl⟩
 ·refine(aH a 8 h3 (by decide) (by decide)).mono ?_
  rintro _ h4 ⟨rfl,rfl⟩
  refine⟨_,rfl,(aH b 60 h4 (by decide) (by decide)).mono ?_⟩
  rintro _ h5 ⟨rfl,rfl⟩
  have w1:=W a 8 (by decide)
  have w2:=W b 60 (by decide)
  refine⟨_,rfl,?_⟩
  dsimp only
  rw[Go.Vc.wrap_small (6+b%60) (by omega) (by omega)]
  exact fin 8 _ _ 0 0 _ H2 (.inr (.inr (.inr (.inr (.inr (.inl ⟨rfl,w1,by dsimp only;omega,by dsimp only;omega⟩)))))) rfl
 ·refine(aH a 8 h3 (by decide) (by decide)).mono ?_
  rintro _ _ ⟨rfl,rfl⟩
  exact⟨_,rfl,fin 9 _ 0 0 0 _ H2 (.inr (.inr (.inr (.inr (.inr (.inr (.inl ⟨rfl,W a 8 (by decide)⟩))))))) rfl⟩
 ·refine(aH a 3 h3 (by decide) (by decide)).mono ?_
  rintro _ h4 ⟨rfl,rfl⟩
  refine⟨_,rfl,(aH b 20 h4 (by decide) (by decide)).mono ?_⟩
  rintro _ h5 ⟨rfl,rfl⟩
  have w1:=W a 3 (by decide)
  have w2:=W b 20 (by decide)
  exact⟨_,rfl,fin 10 0 _ _ 0 _ H2 (.inr (.inr (.inr (.inr (.inr (.inr (.inr (.inl ⟨rfl,by dsimp only;omega,by dsimp only;omega,by dsimp only;omega⟩)))))))) rfl⟩
 ·refine(aH a 9 h3 (by decide) (by decide)).mono ?_
  rintro _ h4 ⟨rfl,rfl⟩
  refine⟨_,rfl,(aH b 70 h4 (by decide) (by decide)).mono ?_⟩
  rintro _ h5 ⟨rfl,rfl⟩
  have w1:=W a 9 (by decide)
  have w2:=W b 70 (by decide)
  refine⟨_,rfl,?_⟩
  dsimp only
  rw[Go.Vc.wrap_small (a%9-1) (by omega) (by omega),Go.Vc.wrap_small (b%70-1) (by omega) (by omega)]
  exact fin 10 0 _ _ 0 _ H2 (.inr (.inr (.inr (.inr (.inr (.inr (.inr (.inl ⟨rfl,by dsimp only;omega,by dsimp only;omega,by dsimp only;omega⟩)))))))) rfl
 ·refine(aH a 7 h3 (by decide) (by decide)).mono ?_
  rintro _ h4 ⟨rfl,rfl⟩
  refine⟨_,rfl,by decide,(aH _ 40 h4 (by decide) (by decide)).mono ?_⟩
  rintro _ h5 ⟨rfl,rfl⟩
  refine⟨_,rfl,(aH b 61 h5 (by decide) (by decide)).mono ?_⟩
  rintro _ h6 ⟨rfl,rfl⟩
  have hw:∀z:Int,0≤IntKind.wrap .u32 z∧IntKind.wrap .u32 z<4294967296:=fun z=>by rw[pO];have:=(BitVec.ofInt 32 z).isLt;omega
  exact⟨_,rfl,fin 11 _ _ _ _ _ H2 (.inr (.inr (.inr (.inr (.inr (.inr (.inr (.inr ⟨rfl,W a 7 (by decide),W _ 40 (by decide),W b 61 (by decide),hw _⟩)))))))) rfl⟩
end Go.Qw
namespace Go.Qw
open Go Go.Vc Go.Proofs Wl
set_option maxRecDepth 100000
abbrev bW:=Int×ByteArray×Sl×Int×Int×Int×Int×Sl×Sl
abbrev aV (y:bW):List Value:=[.int .i64 y.1,.string y.2.1,.slice y.2.2.1.ptr y.2.2.1.len y.2.2.1.cap,.int .i64 y.2.2.2.1,.int .i64 y.2.2.2.2.1,.int .i64 y.2.2.2.2.2.1,.int .u32 y.2.2.2.2.2.2.1,.slice y.2.2.2.2.2.2.2.1.ptr y.2.2.2.2.2.2.2.1.len y.2.2.2.2.2.2.2.1.cap,.slice y.2.2.2.2.2.2.2.2.ptr y.2.2.2.2.2.2.2.2.len y.2.2.2.2.2.2.2.2.cap]
abbrev dy (y:bW):Value:=.agg (aV y).toArray
structure kJ (y:bW) (p:aW):Prop where
 kind:y.1=p.kind
 name:dl y.2.1=p.name
 slot:y.2.2.2.1=p.slot
 n:y.2.2.2.2.1=p.n
 m:y.2.2.2.2.2.1=p.m
 mask:y.2.2.2.2.2.2.1=p.mask
abbrev oH (y:bW) (p:aW):List HP:=[ao az y.2.2.1 1 aF p.data,ao aA y.2.2.2.2.2.2.2.1 1 av p.keeps,ao aA y.2.2.2.2.2.2.2.2 1 av p.torns]
abbrev kK (h:Heap) (o:Option aW) (v:Value) (h':Heap):Prop:=∃y:bW,v=.tuple #[dy y,.bool o.isSome]∧kJ y (o.getD {})∧Sp h h' (oH y (o.getD {}))
section
variable {B:ak} {h0 h:Heap} {As:List HP}
theorem bo {a:Addr} {cs:List Value} (H:ab B h0 h (aj a ai cs::As)) (hcs:cs.length=9) (y:bW) {K:bW→Heap→Prop} (hK:∀h',ab B h0 h' As→K y h'):
  aa Tryz.prog (Instr.storeAt ai (.pointer (some a)) (dy y)) h fun _ h'=>∃res:bW,ah h' a 0 (aV res)∧K res h':=by
 refine H.storeAll af 0 rfl rfl (aV y) rfl rfl rfl (by rw[hcs];rfl) fun h1 H1=>?_
 refine⟨y,(H1.box 0 rfl).bg _ rfl,hK h1 (ab.del H1 0)⟩
theorem uH (H:Sp h0 h []) (y:bW) (p:aW) (h1:y.2.2.1=aD) (h2:y.2.2.2.2.2.2.2.1=aD) (h3:y.2.2.2.2.2.2.2.2=aD) (e1:p.data=[]) (e2:p.keeps=[]) (e3:p.torns=[]):Sp h0 h (oH y p):=by
 unfold oH
 rw[h1,h2,h3,e1,e2,e3]
 exact((H.nil az 1 aF).nil aA 1 av).nil aA 1 av
end
def bA:bW:=(0,⟨#[]⟩,aD,0,0,0,0,aD,aD)
theorem qg {h h':Heap} (H:Sp h h' []):kK h none (.tuple #[dy bA,.bool false]) h':=⟨bA,rfl,⟨rfl,rfl,rfl,rfl,rfl,rfl⟩,uH H bA {} rfl rfl rfl rfl rfl rfl⟩
theorem uI:Tryz.prog.underlying nw=some (.map bx aA):=by kernel_rfl
theorem uJ:Tryz.prog.underlying bx=some .string:=by kernel_rfl
theorem zo:am Tryz.prog (zeroValue aA) (.int .i64 0):=fun w=>Tryz.zeroValue3 w
def kinds:List (ByteArray×Int):=[(⟨#[103,101,116]⟩,2),(⟨#[100,101,108]⟩,3),(⟨#[115,116,97,116]⟩,5)]
theorem xu {b:ByteArray} {a:Array UInt8}:b=⟨a⟩↔dl b=a.toList:=by
 constructor
 ·rintro rfl;rfl
 ·intro h;cases b;congr;exact Array.toList_inj.1 h
theorem vQ (x:ByteArray):dB x kinds=fq (dl x):=by
 unfold kinds fq
 simp only[dB,eq_comm (b:=x),xu]
theorem sa {a b:Array UInt8} (h:a≠b):(⟨a⟩:ByteArray)≠⟨b⟩:=fun e=>h (by cases e;rfl)
theorem sd (s:Sl) (l:List ByteArray) (h:Heap) (hs:Rd h s 1 oY l) (hne:0<l.length):
  ag Tryz.prog nz #[.slice s.ptr s.len s.cap] h (kK h (match fq (dl l[0])with|some k=>if l.length=2 then some {kind:=k,name:=(l.map dl).getD 1 []}else none|none=>none)):=by
 refine mQ s ?_
 unfold iR
 have hlen:=hs.len
 refine(Sp.refl h).alloc af rfl fun a h1 H1=>?_
 have H1:Sp h h1 [aj a ai (aV bA)]:=H1
 refine H1.yv (Value.int .i64) fun r h2 H2=>?_
 refine H2.rp (2:Int) 1 rfl uI uJ fun h3 H3=>?_
 refine H3.rp (3:Int) 1 rfl uI uJ fun h4 H4=>?_
 refine H4.rp (5:Int) 1 rfl uI uJ fun h5 H5=>?_
 have H5:Sp h h5 [aj a ai (aV bA),rl r (Value.int .i64) kinds]:=by
  have e:∀x y z:ByteArray,x=⟨#[103,101,116]⟩→y=⟨#[100,101,108]⟩→z=⟨#[115,116,97,116]⟩→ez z (5:Int) (ez y 3 (ez x 2 []))=kinds:=by
   rintro _ _ _ rfl rfl rfl
   simp only[ez]
   rw[if_neg (sa (by decide))]
   simp only[ez]
   rw[if_neg (sa (by decide)),if_neg (sa (by decide))];rfl
  have:=e _ _ _ rfl rfl rfl
  rw[←this];exact H5
 refine(Seq.up hs H5.ap).bk (g:=Value.string) 0 rfl hne l[0] rfl ?_
 refine(H5.map 1 rfl).ww uI uJ zo ⟨((dB l[0] kinds).getD 0,(dB l[0] kinds).isSome),rfl,?_⟩
 rw[vQ]
 have H6:Sp h h5 [aj a ai (aV bA)]:=ab.del H5 1
 refine aM ?_
 cases hk:fq (dl l[0])with
 |none=>exact eb rfl (bo H6 rfl bA fun h' H'=>qg H')
 |some k=>
  refine kj rfl ?_
  refine cz (fun hn=>?_) fun he=>?_
  ·dsimp only
   rw[if_neg (by omega)]
   exact bo H6 rfl bA fun h' H'=>qg H'
  ·dsimp only
   rw[if_pos (by omega)]
   have h1l:1<l.length:=by omega
   refine(Seq.up hs H6.ap).bk (g:=Value.string) 1 rfl h1l l[1] rfl ?_
   refine bo H6 rfl (k,l[1],aD,0,0,0,0,aD,aD) fun h' H'=>⟨_,rfl,⟨rfl,?_,rfl,rfl,rfl,rfl⟩,uH H' _ _ rfl rfl rfl rfl rfl rfl⟩
   simp[List.getD_eq_getElem?_getD,List.getElem?_eq_getElem h1l]
theorem uK (s:Sl) (l:List ByteArray) (h:Heap) (hs:Rd h s 1 oY l) (hsz:∀b∈l,1≤b.size∧b.size≤2^20):
  ag Tryz.prog pf #[.slice s.ptr s.len s.cap] h (kK h (if l.length=3 then(eU ((l.map dl).getD 2 [])).map fun d=>{kind:=1,name:=(l.map dl).getD 1 [],data:=d}else none)):=by
 refine og s ?_
 unfold kZ
 have hlen:=hs.len
 refine(Sp.refl h).alloc af rfl fun a h1 H1=>?_
 have H1:Sp h h1 [aj a ai (aV bA)]:=H1
 refine cz (fun hn=>?_) fun he=>?_
 ·rw[if_neg (by omega)]
  exact bo H1 rfl bA fun h' H'=>qg H'
 rw[if_pos (by omega)]
 have h2l:2<l.length:=by omega
 have h1l:1<l.length:=by omega
 have e2:(l.map dl).getD 2 []=dl l[2]:=by simp[List.getD_eq_getElem?_getD,List.getElem?_eq_getElem h2l]
 have e1:(l.map dl).getD 1 []=dl l[1]:=by simp[List.getD_eq_getElem?_getD,List.getElem?_eq_getElem h1l]
 rw[e1,e2]
 refine(Seq.up hs H1.ap).bk (g:=Value.string) 2 rfl h2l l[2] rfl ?_
 have hb:=hsz _ (List.getElem_mem h2l)
 refine(uw l[2] hb.2 hb.1 h1).mono ?_
 rintro _ h3 ⟨r,rfl,R3⟩
 have H3:=H1.comp R3
 refine⟨(_,_),rfl,?_⟩
 cases hx:eU (dl l[2])with
 |none=>exact eb rfl (bo (ab.del H3 1) rfl bA fun h' H'=>qg H')
 |some d=>
  rw[hx]at H3
  refine kj rfl ?_
  refine(Seq.up hs H3.ap).bk (g:=Value.string) 1 rfl h1l l[1] rfl ?_
  refine bo H3 rfl (1,l[1],r,0,0,0,0,aD,aD) fun h' H'=>⟨_,rfl,⟨rfl,rfl,rfl,rfl,rfl,rfl⟩,?_⟩
  exact(H'.nil aA 1 av).nil aA 1 av
end Go.Qw
namespace Wl
theorem qh:∀(l:List Int) (j:Nat) (a b:Int),l[2*j]?=some a→l[2*j+1]?=some b→(cT l)[j]?=some a∧(dT l)[j]?=some b
 |[],j,a,b,ha,_=>by simp at ha
 |[_],j,a,b,_,hb=>by simp at hb
 |x::y::r,0,a,b,ha,hb=>by
  simp at ha hb
  subst ha;subst hb;exact⟨rfl,rfl⟩
 |x::y::r,j+1,a,b,ha,hb=>by
  have e1:2*(j+1)=2*j+2:=by omega
  have e2:2*(j+1)+1=2*j+1+2:=by omega
  rw[e1]at ha;rw[e2]at hb
  simpa[cT,dT]using qh r j a b (by simpa using ha) (by simpa using hb)
theorem mr:∀(l:List Int),(cT l).length=l.length/2∧(dT l).length=l.length/2
 |[]=>⟨rfl,rfl⟩
 |[_]=>by simp[cT,dT]
 |a::b::r=>by simp only[cT,dT,List.length_cons,(mr r).1,(mr r).2];omega
end Wl
namespace Go.Qw
open Go Go.Vc Go.Proofs Wl
set_option maxRecDepth 100000
theorem zp {w lit:ByteArray} {len:Nat} {n:Int} {h:Heap} {K:Bool→Heap→Prop} (hK:K (decide (dl w=dl lit∧(len:Int)=n)) h):Br (w.toList==lit.toList) (K ((len:Int)==n) h) (K false h):=by
 refine cj (fun e=>?_) fun e=>?_
 ·have e:=dA (eq_of_beq e)
  subst e
  have:decide (dl w=dl w∧(len:Int)=n)=((len:Int)==n):=by by_cases hn:(len:Int)=n<;>simp[hn]
  rw[this]at hK;exact hK
 ·have hne:¬(dl w=dl lit∧(len:Int)=n):=fun hh=>by
   have:w=lit:=by cases w;cases lit;congr;exact Array.toList_inj.1 hh.1
   rw[this,beq_self_eq_true]at e;cases e
  rw[decide_eq_false hne]at hK;exact hK
theorem er {w lit:ByteArray} {len:Nat} {n:Int} {h:Heap} {rest:Bool→Heap→Prop} (hr:rest (decide (dl w=dl lit∧(len:Int)=n)) h):aK rest (fun K=>Br (w.toList==lit.toList) (K ((len:Int)==n) h) (K false h)):=aM (zp hr)
section
variable {B:ak} {h0 h:Heap} {As:List HP}
theorem iY {a:Addr} {cs:List Value} (H:ab B h0 h (aj a ai cs::As)) (hcs:cs.length=9) (y:bW) {K:bW→Heap→Prop} (hK:∀h',ab B h0 h' As→K y h'):
  aa Tryz.prog (Instr.storeAt ai (.pointer (some a)) (dy y)) h fun _ h'=>au.ok [] h'∧∃res:bW,ah h' a 0 (aV res)∧K res h':=
 (bo H hcs y hK).mono fun _ _ x=>⟨trivial,x⟩
end
theorem mu {h h':Heap} (H:Sp h h' []) (k sl n m ms:Int):kK h (some {kind:=k,slot:=sl,n:=n,m:=m,mask:=ms}) (.tuple #[dy (k,⟨#[]⟩,aD,sl,n,m,ms,aD,aD),.bool true]) h':=
 ⟨_,rfl,⟨rfl,rfl,rfl,rfl,rfl,rfl⟩,uH H _ _ rfl rfl rfl rfl rfl rfl⟩
section
variable {B:ak} {h0 h:Heap} {As:List HP}
abbrev fY (l0:Int) (k t:Sl):bW:=(13,⟨#[]⟩,aD,0,l0,0,0,k,t)
theorem nK {a1 a:Addr} {l0:Int} {k t k' t':Sl} {ks ts:List Int} (H:ab B h0 h (aj a1 ai (aV bA)::aj a ai (aV (fY l0 k t))::ao aA k' 1 av ks::ao aA t' 1 av ts::As)) {K:Heap→Prop}
  (hK:∀h',ab B h0 h' (aj a1 ai (aV bA)::aj a ai (aV (fY l0 k' t'))::ao aA k' 1 av ks::ao aA t' 1 av ts::As)→K h'):
  aa Tryz.prog (Instr.storeAt nv (.pointer (some (a.add 7))) (.slice k'.ptr k'.len k'.cap)) h fun _ h1=>au.ok [] h1∧aa Tryz.prog (Instr.storeAt nv (.pointer (some (a.add 8))) (.slice t'.ptr t'.len t'.cap)) h1 fun _ h2=>au.ok [] h2∧K h2:=by
 refine H.storeAt af 1 rfl rfl rfl rfl rfl (show 7<9 by decide) fun h1 H1=>⟨trivial,?_⟩
 exact H1.storeAt af 1 rfl rfl rfl rfl rfl (show 8<9 by decide) fun h2 H2=>⟨trivial,hK h2 H2⟩
end
theorem pz (w:ByteArray) (s:Sl) (l:List Int) (h:Heap) (hs:Rd h s 1 av l) (hl:l.length≤2^20) (hb:∀x∈l,0≤x∧x<2^32):
  ag Tryz.prog lZ #[.string w,.slice s.ptr s.len s.cap] h (kK h (ig (dl w) l)):=by
 refine lr w s ?_
 unfold gM
 have hlen:=hs.len
 refine(Sp.refl h).alloc af rfl fun a1 h1 H1=>?_
 have H1:Sp h h1 [aj a1 ai (aV bA)]:=H1
 have hs1:=Seq.up hs H1.ap
 have g:∀(i:Nat) (hi:i<l.length),l.getD i 0=l[i]:=fun i hi=>getD_lt hi
 refine aM ?_
 refine er ?_
 unfold ig
 refine an (fun e=>?_) fun n1=>?_
 ·rw[if_pos ⟨e.1,by omega⟩,g 0 (by omega),g 1 (by omega)]
  refine hs1.bk (g:=Value.int .i64) 0 rfl (by omega) _ rfl ?_
  refine hs1.bk (g:=Value.int .i64) 1 rfl (by omega) _ rfl ?_
  exact iY H1 rfl (6,⟨#[]⟩,aD,l[0],l[1],0,0,aD,aD) fun h' H'=>mu H' _ _ _ _ _
 rw[if_neg (fun hh=>n1 ⟨hh.1,by omega⟩)]
 refine er ?_
 refine an (fun e=>?_) fun n2=>?_
 ·rw[if_pos ⟨e.1,by omega⟩,g 0 (by omega)]
  refine hs1.bk (g:=Value.int .i64) 0 rfl (by omega) _ rfl ?_
  exact bo H1 rfl (7,⟨#[]⟩,aD,l[0],0,0,0,aD,aD) fun h' H'=>mu H' _ _ _ _ _
 rw[if_neg (fun hh=>n2 ⟨hh.1,by omega⟩)]
 refine er ?_
 refine an (fun e=>?_) fun n3=>?_
 ·rw[if_pos ⟨e.1,by omega⟩,g 0 (by omega),g 1 (by omega)]
  refine hs1.bk (g:=Value.int .i64) 0 rfl (by omega) _ rfl ?_
  refine hs1.bk (g:=Value.int .i64) 1 rfl (by omega) _ rfl ?_
  exact iY H1 rfl (8,⟨#[]⟩,aD,l[0],l[1],0,0,aD,aD) fun h' H'=>mu H' _ _ _ _ _
 rw[if_neg (fun hh=>n3 ⟨hh.1,by omega⟩)]
 refine er ?_
 refine an (fun e=>?_) fun n4=>?_
 ·rw[if_pos ⟨e.1,by omega⟩,g 0 (by omega)]
  refine hs1.bk (g:=Value.int .i64) 0 rfl (by omega) _ rfl ?_
  exact bo H1 rfl (9,⟨#[]⟩,aD,l[0],0,0,0,aD,aD) fun h' H'=>mu H' _ _ _ _ _
 rw[if_neg (fun hh=>n4 ⟨hh.1,by omega⟩)]
 refine er ?_
 refine an (fun e=>?_) fun n5=>?_
 ·rw[if_pos ⟨e.1,by omega⟩,g 0 (by omega),g 1 (by omega)]
  refine hs1.bk (g:=Value.int .i64) 0 rfl (by omega) _ rfl ?_
  refine hs1.bk (g:=Value.int .i64) 1 rfl (by omega) _ rfl ?_
  exact iY H1 rfl (10,⟨#[]⟩,aD,0,l[0],l[1],0,aD,aD) fun h' H'=>mu H' _ _ _ _ _
 rw[if_neg (fun hh=>n5 ⟨hh.1,by omega⟩)]
 refine er ?_
 refine an (fun e=>?_) fun n6=>?_
 ·rw[if_pos ⟨e.1,by omega⟩,g 0 (by omega),g 1 (by omega),g 2 (by omega),g 3 (by omega)]
  refine hs1.bk (g:=Value.int .i64) 0 rfl (by omega) _ rfl ?_
  refine hs1.bk (g:=Value.int .i64) 1 rfl (by omega) _ rfl ?_
  refine hs1.bk (g:=Value.int .i64) 2 rfl (by omega) _ rfl ?_
  refine hs1.bk (g:=Value.int .i64) 3 rfl (by omega) _ rfl ?_
  have h3:=hb l[3] (List.getElem_mem (by omega))
  have hw:IntKind.wrap .u32 l[3]=l[3]:=by show _%(4294967296:Int)=_;omega
  rw[hw]
  exact iY H1 rfl (11,⟨#[]⟩,aD,l[0],l[1],l[2],l[3],aD,aD) fun h' H'=>mu H' _ _ _ _ _
 rw[if_neg (fun hh=>n6 ⟨hh.1,by omega⟩)]
 refine er ?_
 refine an (fun e=>?_) fun n7=>?_
 ·rw[if_pos ⟨e.1,by omega⟩,g 0 (by omega)]
  refine hs1.bk (g:=Value.int .i64) 0 rfl (by omega) _ rfl ?_
  exact bo H1 rfl (12,⟨#[]⟩,aD,0,l[0],0,0,aD,aD) fun h' H'=>mu H' _ _ _ _ _
 rw[if_neg (fun hh=>n7 ⟨hh.1,by omega⟩)]
 have htm:Int.tmod (s.len:Int) 2=((l.length%2:Nat):Int):=by rw[Int.tmod_eq_emod_of_nonneg (by omega),hlen];rfl
 have end0:¬(dl w=[102,97,108,108]∧l.length%2=1)→aa Tryz.prog (Instr.storeAt ai (.pointer (some a1)) (dy bA)) h1 fun _ h'=>∃res:bW,ah h' a1 0 (aV res)∧kK h (if dl w=[102,97,108,108]∧l.length%2=1 then some {kind:=13,n:=l.getD 0 0,keeps:=cT l.tail,torns:=dT l.tail}else none) (.tuple #[dy res,.bool false]) h':=fun hn=>by
  rw[if_neg hn]
  exact bo H1 rfl bA fun h' H'=>qg H'
 refine dz (fun b h'=>h'=h1∧b=decide (dl w=[102,97,108,108]∧l.length%2=1)) ?_ ?_
 ·refine cj (fun e=>?_) fun e=>?_
  ·have e:w=⟨#[102,97,108,108]⟩:=dA (eq_of_beq e)
   subst e
   refine⟨by decide,rfl,?_⟩
   rw[htm]
   by_cases h1:l.length%2=1
   ·rw[decide_eq_true ⟨rfl,h1⟩,h1];rfl
   ·have:l.length%2=0:=by omega
    rw[decide_eq_false (fun hh=>h1 hh.2),this];rfl
  ·refine⟨rfl,?_⟩
   rw[decide_eq_false]
   rintro⟨hh,_⟩
   have hw:w=⟨#[102,97,108,108]⟩:=xu.2 hh
   rw[hw]at e
   have e2:((⟨#[102,97,108,108]⟩:ByteArray).toList==(⟨#[102,97,108,108]⟩:ByteArray).toList)=false:=e
   rw[beq_self_eq_true]at e2;cases e2
 rintro _ _ ⟨rfl,rfl⟩
 refine an (fun e=>?_) fun n8=>end0 n8
 rw[if_pos e,g 0 (by omega)]
 refine hs1.bk (g:=Value.int .i64) 0 rfl (by omega) _ rfl ?_
 obtain⟨l0,hl0⟩:∃l0,l0=l[0]'(by omega):=⟨_,rfl⟩
 rw[←hl0]
 refine H1.alloc af rfl fun a h2 H2=>?_
 have H2:Sp h h2 [aj a1 ai (aV bA),aj a ai (aV bA)]:=H2
 refine H2.storeAll af 1 rfl rfl (aV (fY l0 aD aD)) rfl rfl rfl rfl fun h3 H3=>?_
 have H3:Sp h h3 [aj a1 ai (aV bA),aj a ai (aV (fY l0 aD aD)),ao aA aD 1 av [],ao aA aD 1 av []]:=(H3.nil aA 1 av).nil aA 1 av
 have hel:=mr l.tail
 have htl:l.tail.length=l.length-1:=List.length_tail
 refine aE (fun t:Sl×Sl×Nat=>((2*t.2.2+1:Nat):Int)) (fun t h'=>2*t.2.2≤l.length-1∧Sp h h' [aj a1 ai (aV bA),aj a ai (aV (fY l0 t.1 t.2.1)),ao aA t.1 1 av ((cT l.tail).take t.2.2),ao aA t.2.1 1 av ((dT l.tail).take t.2.2)]) (fun t=>l.length-t.2.2) (aD,aD,0) rfl ⟨by simp,by simpa using H3⟩ ?_
 rintro⟨k,t,j⟩ h4 ⟨hj,H4⟩
 dsimp only at hj H4⊢
 refine an (fun hlt=>?_) fun hge=>?_
 ·have g1:2*j+1<l.length:=by omega
  have g2:2*j+1+1<l.length:=by omega
  have hw1:IntKind.wrap .i64 (((2*j+1:Nat):Int)+1)=((2*j+1+1:Nat):Int):=by rw[wrap_small _ (by omega) (by omega)];rfl
  have hw2:IntKind.wrap .i64 (((2*j+1:Nat):Int)+2)=((2*(j+1)+1:Nat):Int):=by rw[wrap_small _ (by omega) (by omega)];omega
  rw[hw1,hw2]
  obtain⟨x,hx⟩:∃x,x=l[2*j+1]:=⟨_,rfl⟩
  obtain⟨y,hy⟩:∃y,y=l[2*j+1+1]:=⟨_,rfl⟩
  have eg:=qh l.tail j x y (by rw[List.getElem?_tail,List.getElem?_eq_getElem g1,hx]) (by rw[List.getElem?_tail,List.getElem?_eq_getElem g2,hy])
  have je:j<(cT l.tail).length:=by omega
  have jo:j<(dT l.tail).length:=by omega
  have ex:(cT l.tail).take (j+1)=(cT l.tail).take j++[x]:=by
   rw[aI _ _ je];have:=eg.1;rw[List.getElem?_eq_getElem je]at this;rw[Option.some.inj this]
  have ey:(dT l.tail).take (j+1)=(dT l.tail).take j++[y]:=by
   rw[aI _ _ jo];have:=eg.2;rw[List.getElem?_eq_getElem jo]at this;rw[Option.some.inj this]
  have hb4:=H4.box 1 rfl
  have hs4:=Seq.up hs H4.ap
  have hK:∀{k' t':Sl} {As:List HP} {h':Heap},Sp h h' (aj a1 ai (aV bA)::aj a ai (aV (fY l0 k' t'))::ao aA k' 1 av ((cT l.tail).take j++[x])::ao aA t' 1 av ((dT l.tail).take j++[y])::As)→
    ∃q:Sl×Sl×Nat,((2*(j+1)+1:Nat):Int)=((2*q.2.2+1:Nat):Int)∧(2*q.2.2≤l.length-1∧Sp h h' [aj a1 ai (aV bA),aj a ai (aV (fY l0 q.1 q.2.1)),ao aA q.1 1 av ((cT l.tail).take q.2.2),ao aA q.2.1 1 av ((dT l.tail).take q.2.2)])∧l.length-q.2.2<l.length-j:=fun{k' t' As h'} H=>by
   refine⟨(k',t',j+1),rfl,⟨by dsimp only;omega,?_⟩,by dsimp only;omega⟩
   dsimp only
   rw[ex,ey]
   exact ab.cO H [0,1,2,3]
  obtain⟨b1,p1,x',c1,e1⟩:=hs.tZ (g:=Value.int .i64) (i:=((2*j+1:Nat):Int)) (2*j+1) rfl g1 x (by rw[hx];rfl) (K:=fun _ z=>z=x) (fun _ _=>rfl)
  obtain⟨b2,p2,y',c2,e2⟩:=hs.tZ (g:=Value.int .i64) (i:=((2*j+1+1:Nat):Int)) (2*j+1+1) rfl g2 y (by rw[hy];rfl) (K:=fun _ z=>z=y) (fun _ _=>rfl)
  rw[e1]at c1;rw[e2]at c2
  have q1:∀{h'},aw (fun b=>b<h.size) h h'→cellOf h' (b1.add (((2*j+1:Nat):Int).toNat*1))=some (.int .i64 x):=fun P=>P.cell (bC c1) c1
  have q2:∀{h'},aw (fun b=>b<h.size) h h'→cellOf h' (b2.add (((2*j+1+1:Nat):Int).toNat*1))=some (.int .i64 y):=fun P=>P.cell (bC c2) c2
  have z1:((cT l.tail).take j).length≤2^20:=by simp;omega
  have z2:((dT l.tail).take j).length≤2^20:=by simp;omega
  refine⟨k,hb4.cell rfl,b1,p1,x,q1 H4.ap,t,hb4.cell rfl,b2,p2,y,q2 H4.ap,?_,?_⟩
  ·refine H4.lit af av dd rfl [x] rfl (show 1≤2^20 by decide) rfl fun v h5 H5=>⟨⟨q2 H5.ap,(H5.box 1 rfl).cell rfl,(H5.box 1 rfl).cell rfl,trivial⟩,?_,?_⟩
   ·refine H5.append af 2 rfl dd ⟨_,_,rfl,rfl⟩ rfl (by decide) (fun _=>rfl) (H5.seq 4 rfl fun _=>rfl) cU (by simp;omega) fun k' h6 H6=>⟨⟨q2 H6.ap,(H6.box 1 rfl).cell rfl,trivial⟩,?_⟩
    refine H6.lit af av dd rfl [y] rfl (show 1≤2^20 by decide) rfl fun v2 h7 H7=>⟨⟨(H7.box 1 rfl).cell rfl,trivial⟩,?_⟩
    refine H7.append af 3 rfl dd ⟨_,_,rfl,rfl⟩ rfl (by decide) (fun _=>rfl) (H7.seq 5 rfl fun _=>rfl) cU (by simp;omega) fun t' h8 H8=>⟨trivial,?_⟩
    exact nK (As:=[ao aA v 1 av [x],ao aA v2 1 av [y]]) H8 fun h' H'=>hK H'
   ·refine H5.lit af av dd rfl [y] rfl (show 1≤2^20 by decide) rfl fun v2 h6 H6=>⟨⟨(H6.box 1 rfl).cell rfl,(H6.box 1 rfl).cell rfl,trivial⟩,?_⟩
    refine H6.append af 2 rfl dd ⟨_,_,rfl,rfl⟩ rfl (by decide) (fun _=>rfl) (H6.seq 4 rfl fun _=>rfl) cU (by simp;omega) fun k' h7 H7=>⟨⟨(H7.box 1 rfl).cell rfl,trivial⟩,?_⟩
    refine H7.append af 3 rfl dd ⟨_,_,rfl,rfl⟩ rfl (by decide) (fun _=>rfl) (H7.seq 5 rfl fun _=>rfl) cU (by simp;omega) fun t' h8 H8=>⟨trivial,?_⟩
    exact nK (As:=[ao aA v 1 av [x],ao aA v2 1 av [y]]) H8 fun h' H'=>hK H'
  ·refine H4.lit af av dd rfl [y] rfl (show 1≤2^20 by decide) rfl fun v h5 H5=>⟨⟨(H5.box 1 rfl).cell rfl,q1 H5.ap,(H5.box 1 rfl).cell rfl,trivial⟩,?_⟩
   refine H5.lit af av dd rfl [x] rfl (show 1≤2^20 by decide) rfl fun v2 h6 H6=>⟨⟨(H6.box 1 rfl).cell rfl,(H6.box 1 rfl).cell rfl,trivial⟩,?_⟩
   refine H6.append af 2 rfl dd ⟨_,_,rfl,rfl⟩ rfl (by decide) (fun _=>rfl) (H6.seq 5 rfl fun _=>rfl) cU (by simp;omega) fun k' h7 H7=>⟨⟨(H7.box 1 rfl).cell rfl,trivial⟩,?_⟩
   refine H7.append af 3 rfl dd ⟨_,_,rfl,rfl⟩ rfl (by decide) (fun _=>rfl) (H7.seq 4 rfl fun _=>rfl) cU (by simp;omega) fun t' h8 H8=>⟨trivial,?_⟩
   exact nK (As:=[ao aA v 1 av [y],ao aA v2 1 av [x]]) H8 fun h' H'=>hK H'
 ·have e0:j=(cT l.tail).length:=by omega
  have e1:j=(dT l.tail).length:=by omega
  rw[List.take_of_length_le (by omega),List.take_of_length_le (by omega)]at H4
  refine⟨_,(H4.box 1 rfl).bg _ rfl,?_⟩
  refine bo H4 rfl (fY l0 k t) fun h' H'=>⟨_,rfl,⟨rfl,rfl,rfl,rfl,rfl,rfl⟩,?_⟩
  have:=ab.del H' 0
  have H9:=this.nil az 1 aF
  exact ab.cO H9 [2,0,1]
end Go.Qw
namespace Wl
theorem nL (c:UInt8):∀(l w:List UInt8),∀x∈ce c w l,x.length≤w.length+l.length
 |[],w,x,hx=>by simp[ce]at hx;subst hx;omega
 |y::r,w,x,hx=>by
  unfold ce at hx
  split at hx
  ·rcases List.mem_cons.1 hx with rfl|hx
   ·omega
   ·have:=nL c r [] x hx;simp at this⊢;omega
  ·have:=nL c r _ x hx;simp at this⊢;omega
theorem se:∀{l:List (List UInt8)} {ns:List Nat},bD l=some ns→∀n∈ns,n<10^9
 |[],ns,h,n,hn=>by cases h;cases hn
 |x::r,ns,h,n,hn=>by
  simp only[bD]at h
  cases hx:cB x with
  |none=>rw[hx]at h;cases h
  |some k=>
   rw[hx]at h
   cases hr:bD r with
   |none=>rw[hr]at h;cases h
   |some ms=>
    rw[hr]at h;cases h
    rcases List.mem_cons.1 hn with rfl|hn
    ·exact xG hx
    ·exact se hr n hn
end Wl
namespace Go.Qw
open Go Go.Vc Go.Proofs Wl
set_option maxRecDepth 100000
theorem mw {h h2 h3:Heap} {a:Addr} {cs:List Value} {A:HP} {o:Option aW} {v:Value} (H:Sp h h2 [aj a ai cs,A]) (hcs:cs.length=9) (G:kK h2 o v h3):
  ∃d:bW×Bool,v=.tuple #[dy d.1,.bool d.2]∧d.2=o.isSome∧aa Tryz.prog (Instr.storeAt ai (.pointer (some a)) (dy d.1)) h3 fun _ h'=>∃res:bW,ah h' a 0 (aV res)∧kK h o (.tuple #[dy res,.bool d.2]) h':=by
 obtain⟨y,rfl,F,R⟩:=G
 have H3:=H.comp R
 refine⟨(y,o.isSome),rfl,rfl,bo H3 hcs y fun h' H'=>⟨y,rfl,F,ab.cO H' [1,2,3]⟩⟩
theorem hZ {x lit:ByteArray}:(x.toList==lit.toList)=decide (dl x=dl lit):=by
 by_cases h:dl x=dl lit
 ·have:x=lit:=by cases x;cases lit;congr;exact Array.toList_inj.1 h
  subst this;rw[beq_self_eq_true];exact(decide_eq_true rfl).symm
 ·rw[decide_eq_false h,beq_eq_false_iff_ne]
  intro e
  have:=dA e
  subst this;exact h rfl
theorem eu (line:ByteArray) (m:Int) (h:Heap) (hm:cellOf h ⟨0,0,none⟩=some (.int .i64 m)) (hsz:line.size≤2^19):
  ag Tryz.prog cR #[.string line] h (kK h (cM (dl line))):=by
 refine mP line ?_
 unfold iP
 refine(Sp.refl h).alloc af rfl fun a h1 H1=>?_
 have H1:Sp h h1 [aj a ai (aV bA)]:=H1
 refine(wv Tryz.strings_Split line m h1 (H1.ap.cell (bC hm) hm) (by omega) 32).mono ?_
 rintro _ h2 ⟨r,l,rfl,hcut,R2⟩
 refine⟨r,rfl,?_⟩
 have H2:Sp h h2 [aj a ai (aV bA),ao bx r 1 oY l]:=H1.comp R2
 have hs:=H2.seq 1 rfl fun _=>rfl
 have hlen:=hs.len
 have hz:(dl line).length=line.size:=rfl
 have hcl:l.length=(dl line).count 32+1:=by
  have:=congrArg List.length hcut
  rw[List.length_map,kn]at this;exact this
 have hcc:(dl line).count 32≤(dl line).length:=List.count_le_length
 have hpos:0<l.length:=by omega
 have hwl:∀b∈l,b.size≤2^19:=fun b hb=>by
  have h1:dl b∈ce 32 [] (dl line):=by rw[←hcut];exact List.mem_map_of_mem hb
  have:=nL 32 _ _ _ h1
  have h2:(dl b).length=b.size:=rfl
  simp only[List.length_nil]at this;omega
 refine aE (fun i:Nat=>(i:Int)) (fun i h'=>h'=h2∧i≤l.length∧∀b∈l.take i,1≤b.size) (fun i=>l.length-i) 0 rfl ⟨rfl,by omega,by simp⟩ ?_
 rintro i h3 ⟨rfl,hi,hne⟩
 refine an (fun e=>?_) fun e=>?_
 ·have hi':i<l.length:=by omega
  refine hs.bk (g:=Value.string) i rfl hi' l[i] rfl ?_
  refine cj (fun e=>?_) fun e=>?_
  ·have e:l[i]=⟨#[]⟩:=dA (eq_of_beq e)
   have:cM (dl line)=none:=by
    unfold cM ie jl
    rw[←hcut,if_pos];rfl
    rw[List.any_map]
    exact List.any_eq_true.2 ⟨l[i],List.getElem_mem hi',by rw[e];rfl⟩
   rw[this]
   exact bo H2 rfl bA fun h' H'=>qg (ab.del H' 0)
  ·rw[wrap_small _ (by omega) (by omega)]
   refine⟨i+1,by simp,⟨rfl,by omega,?_⟩,by omega⟩
   rw[aI _ _ hi']
   intro b hb
   rcases List.mem_append.1 hb with hb|hb
   ·exact hne b hb
   ·rw[List.mem_singleton]at hb
    subst hb
    rcases Nat.eq_zero_or_pos l[i].size with h0|h0
    ·exfalso
     have hd:dl l[i]=[]:=List.length_eq_zero_iff.1 h0
     rw[hZ,decide_eq_true (by rw[hd];rfl)]at e;cases e
    ·exact h0
 ·rw[List.take_of_length_le (by omega)]at hne
  have hw:cM (dl line)=mH (l.map dl):=by
   unfold cM ie jl
   rw[←hcut,if_neg];rfl
   intro hh
   rw[List.any_map]at hh
   obtain⟨b,hb,hb2⟩:=List.any_eq_true.1 hh
   have h0:=hne b hb
   have h1:(dl b).length=b.size:=rfl
   have:dl b=[]:=by simpa using hb2
   rw[this]at h1;simp at h1;omega
  rw[hw]
  unfold mH
  have hhd:(l.map dl).headD []=dl l[0]:=by cases l with
   |nil=>simp at hpos
   |cons x t=>rfl
  simp only[hhd,List.length_map]
  refine aM ?_
  refine hs.bk (g:=Value.string) 0 rfl hpos l[0] rfl ?_
  rw[hZ,hZ,hZ,hZ,hZ]
  refine an (fun e=>?_) fun n1=>?_
  ·rw[if_pos (show dl l[0]=[112,117,116]from e)]
   refine(uK r l h3 hs fun b hb=>⟨hne b hb,by have:=hwl b hb;omega⟩).mono ?_
   intro v h4 G
   obtain⟨d,rfl,_,hd⟩:=mw H2 rfl G
   exact⟨d,rfl,hd⟩
  rw[if_neg (show¬dl l[0]=[112,117,116]from n1)]
  refine dz (fun b h'=>h'=h3∧b=(fq (dl l[0])).isSome) ?_ ?_
  ·unfold fq
   refine an (fun e=>?_) fun n2=>an (fun e=>?_) fun n3=>?_
   ·exact⟨rfl,by rw[decide_eq_true e,if_pos (show dl l[0]=[103,101,116]from e)];rfl⟩
   ·exact⟨rfl,by rw[decide_eq_true e,if_neg (show¬dl l[0]=[103,101,116]from n2),if_pos (show dl l[0]=[100,101,108]from e)];rfl⟩
   ·refine⟨rfl,?_⟩
    rw[if_neg (show¬dl l[0]=[103,101,116]from n2),if_neg (show¬dl l[0]=[100,101,108]from n3)]
    show decide (dl l[0]=[115,116,97,116])=_
    by_cases e:dl l[0]=[115,116,97,116]
    ·rw[if_pos e,decide_eq_true e];rfl
    ·rw[if_neg e,decide_eq_false e];rfl
  rintro _ h3 ⟨rfl,rfl⟩
  cases hk:fq (dl l[0])with
  |some k=>
   refine eb rfl ?_
   refine(sd r l h3 hs hpos).mono ?_
   rw[hk]
   intro v h4 G
   obtain⟨d,rfl,_,hd⟩:=mw H2 rfl G
   exact⟨d,rfl,hd⟩
  |none=>
   refine kj rfl ?_
   dsimp only
   refine an (fun e=>?_) fun n4=>?_
   ·rw[if_pos (show dl l[0]=[108,105,115,116]from e)]
    refine ba (fun e=>?_) fun e=>?_
    ·rw[if_pos (by omega)]
     exact bo H2 rfl (4,⟨#[]⟩,aD,0,0,0,0,aD,aD) fun h' H'=>mu (ab.del H' 0) 4 0 0 0 0
    ·rw[if_neg (by omega)]
     exact bo H2 rfl bA fun h' H'=>qg (ab.del H' 0)
   rw[if_neg (show¬dl l[0]=[108,105,115,116]from n4)]
   have hcap:r.len≤r.cap:=(H2.own 1 rfl).cap
   refine⟨⟨by decide,by omega⟩,?_⟩
   refine(qC _ _ h3 (Seq.drop hs 1 hcap) (by simp;omega) (fun b hb=>by have:=hwl b (List.mem_of_mem_drop hb);omega)).mono ?_
   rintro _ h4 ⟨q,rfl,R4⟩
   refine⟨(q,_),rfl,?_⟩
   have hmt:(l.drop 1).map dl=(l.map dl).tail:=by rw[List.map_drop,List.drop_one]
   rw[hmt]at R4⊢
   cases hn:bD (l.map dl).tail with
   |none=>exact eb rfl (bo (H2.comp R4) rfl bA fun h' H'=>qg (ab.del (ab.del H' 0) 0))
   |some ns=>
    rw[hn]at R4
    have H4:=H2.comp R4
    refine kj rfl ?_
    refine(Seq.up hs R4.ap).bk (g:=Value.string) 0 rfl hpos l[0] rfl ?_
    refine(pz l[0] q (tC ns) h4 (H4.seq 2 rfl fun _=>rfl) ?_ ?_).mono ?_
    ·have:=mi hn
     simp at this⊢;omega
    ·intro x hx
     obtain⟨n,hn2,rfl⟩:=List.mem_map.1 hx
     have:=se hn n hn2
     omega
    intro v h5 G
    obtain⟨d,rfl,_,hd⟩:=mw (ab.cO H4 [0,1]) rfl G
    exact⟨d,rfl,hd⟩
end Go.Qw
namespace Wl
theorem vR (l:List UInt8) (b:UInt8):fp 0 (l++[b])=fp 0 l*10+dg b:=by
 unfold fp;rw[List.foldl_append];rfl
end Wl
namespace Go.Qw
open Go Go.Vc Go.Proofs Wl
set_option maxRecDepth 100000
theorem bX (a b:ByteArray):dl (a++b)=dl a++dl b:=by simp[dl]
theorem yI (s:ByteArray) (i:Nat) (h:i<(dl s).length):dl (s.extract i (i+1))=[(dl s)[i]]:=by
 unfold dl
 rw[ByteArray.data_extract,Array.toList_extract,List.extract,List.drop_eq_getElem_cons h,show i+1-i=1 by omega];rfl
end Go.Qw
namespace Wl
def gy:List UInt8:=[48,49,50,51,52,53,54,55,56,57,97,98,99,100,101,102]
theorem tF:∀i,i<16→dc (gy.getD i 0)=some i:=by decide+kernel
end Wl
namespace Go.Qw
open Go Go.Vc Go.Proofs Wl
set_option maxRecDepth 100000
end Go.Qw
namespace Wl
end Wl
namespace Go.Qw
open Go Go.Vc Go.Proofs Wl
set_option maxRecDepth 100000
end Go.Qw
namespace Go.Qw
open Go Go.Vc Go.Proofs Wl
set_option maxRecDepth 100000
theorem jW {p q:ak} (a b:Sl) (la lb:List Int) (h:Heap) (ha:Seq h p a 1 av la) (hb:Seq h q b 1 av lb) (hs:la.length≤2^40):
  ag Tryz.prog gF #[.slice a.ptr a.len a.cap,.slice b.ptr b.len b.cap] h fun v h'=>v=.bool (decide (la=lb))∧h'=h:=by
 refine gq a b ?_
 unfold dX
 have hal:=ha.len;have hbl:=hb.len
 refine cz (fun hne=>⟨?_,rfl⟩) (fun heq=>?_)
 ·rw[decide_eq_false (fun e=>hne (by rw[hal,hbl,e]))]
 ·refine aE (fun k:Nat=>(k:Int)) (fun k h'=>h'=h∧k≤la.length∧la.take k=lb.take k) (fun k=>la.length-k) 0 rfl ⟨rfl,by omega,by simp⟩ ?_
  rintro k h' ⟨rfl,hk,ht⟩
  refine an (fun hlt=>?_) (fun hge=>?_)
  ·have hk':k<la.length:=by omega
   have hk2:k<lb.length:=by omega
   refine ha.bk k rfl hk' _ rfl ?_
   refine hb.bk k rfl hk2 _ rfl ?_
   refine cz (fun hne=>⟨?_,rfl⟩) (fun heq=>?_)
   ·rw[decide_eq_false]
    intro e;subst e;exact hne rfl
   ·rw[wrap_small _ (by omega) (by omega)]
    exact⟨k+1,by simp,⟨rfl,by omega,by rw[aI _ _ hk',aI _ _ hk2,ht,heq]⟩,by omega⟩
  ·have:k=la.length:=by omega
   subst this
   rw[List.take_of_length_le (by omega),List.take_of_length_le (by omega)]at ht
   exact⟨by rw[decide_eq_true ht],rfl⟩
end Go.Qw
namespace Go.Qw
open Go Go.Vc Go.Proofs Wl
set_option maxRecDepth 100000
theorem xZ {p q:ak} (a b:Sl) (la lb:List UInt8) (h:Heap) (ha:Vc.Seq h p a 1 aF la) (hb:Vc.Seq h q b 1 aF lb) (hs:la.length≤2^40):
  ag Tryz.prog gp #[.slice a.ptr a.len a.cap,.slice b.ptr b.len b.cap] h fun v h'=>v=.bool (decide (la=lb))∧h'=h:=by
 refine fX a b ?_
 unfold dP
 have hal:=ha.len;have hbl:=hb.len
 refine cz (fun hne=>⟨?_,rfl⟩) (fun heq=>?_)
 ·rw[decide_eq_false (fun e=>hne (by rw[hal,hbl,e]))]
 ·refine aE (fun k:Nat=>(k:Int)) (fun k h'=>h'=h∧k≤la.length∧la.take k=lb.take k) (fun k=>la.length-k) 0 rfl ⟨rfl,by omega,by simp⟩ ?_
  rintro k h' ⟨rfl,hk,ht⟩
  refine an (fun hlt=>?_) (fun hge=>?_)
  ·have hk':k<la.length:=by omega
   have hk2:k<lb.length:=by omega
   refine ha.bk k rfl hk' _ rfl ?_
   refine hb.bk k rfl hk2 _ rfl ?_
   refine cz (fun hne=>⟨?_,rfl⟩) (fun heq=>?_)
   ·rw[decide_eq_false]
    intro e;subst e;exact hne rfl
   ·rw[wrap_small _ (by omega) (by omega)]
    have he:la[k]=lb[k]:=UInt8.toNat_inj.1 (by omega)
    exact⟨k+1,by simp,⟨rfl,by omega,by rw[aI _ _ hk',aI _ _ hk2,ht,he]⟩,by omega⟩
  ·have:k=la.length:=by omega
   subst this
   rw[List.take_of_length_le (by omega),List.take_of_length_le (by omega)]at ht
   exact⟨by rw[decide_eq_true ht],rfl⟩
structure jz (h:Heap) (y:bW) (p:aW):Prop where
 data:Rd h y.2.2.1 1 aF p.data
 keeps:Rd h y.2.2.2.2.2.2.2.1 1 av p.keeps
 torns:Rd h y.2.2.2.2.2.2.2.2 1 av p.torns
theorem jz.up {h h':Heap} {y:bW} {p:aW} (r:jz h y p) (hp:aw (fun b=>b<h.size) h h'):jz h' y p:=⟨Seq.up r.data hp,Seq.up r.keeps hp,Seq.up r.torns hp⟩
structure zW (p:aW):Prop where
 data:p.data.length≤2^40
 keeps:p.keeps.length≤2^40
 torns:p.torns.length≤2^40
theorem td (y z:bW) (p:aW) (h:Heap) (Fy:kJ y p) (Fz:kJ z p) (Ry:jz h y p) (Rz:jz h z p) (sz:zW p):
  ag Tryz.prog dw #[dy y,dy z] h fun v h'=>v=.bool true∧Sp h h' []:=by
 refine fW y z ?_
 unfold dO
 refine(Sp.refl h).boxed fun a1 h1 H1=>?_
 refine H1.boxed fun a2 h2 H2=>?_
 have H2:Sp h h2 [aj a1 ai (aV y),aj a2 ai (aV z)]:=H2
 have b1:=H2.box 0 rfl
 have b2:=H2.box 1 rfl
 have Ry2:=Ry.up H2.ap
 have Rz2:=Rz.up H2.ap
 refine⟨y.1,b1.cell0 rfl,z.1,b2.cell0 rfl,eb (by rw[Fy.kind,Fz.kind];exact beq_self_eq_true _) ?_⟩
 have hn:y.2.1=z.2.1:=by
  have:=Fy.name.trans Fz.name.symm
  cases hy:y.2.1;cases hz:z.2.1
  rw[hy,hz]at this
  congr;exact Array.toList_inj.1 this
 refine⟨y.2.1,b1.cell rfl,z.2.1,b2.cell rfl,eb (by rw[hn];exact beq_self_eq_true _) ?_⟩
 refine⟨y.2.2.1,b1.cell rfl,z.2.2.1,b2.cell rfl,?_⟩
 refine(xZ _ _ _ _ h2 Ry2.data Rz2.data sz.data).mono ?_
 rintro _ h3 ⟨rfl,rfl⟩
 refine⟨_,rfl,eb (decide_eq_true rfl) ?_⟩
 refine⟨y.2.2.2.1,b1.cell rfl,z.2.2.2.1,b2.cell rfl,eb (by rw[Fy.slot,Fz.slot];exact beq_self_eq_true _) ?_⟩
 refine⟨y.2.2.2.2.1,b1.cell rfl,z.2.2.2.2.1,b2.cell rfl,eb (by rw[Fy.n,Fz.n];exact beq_self_eq_true _) ?_⟩
 refine⟨y.2.2.2.2.2.1,b1.cell rfl,z.2.2.2.2.2.1,b2.cell rfl,eb (by rw[Fy.m,Fz.m];exact beq_self_eq_true _) ?_⟩
 refine⟨y.2.2.2.2.2.2.1,b1.cell rfl,z.2.2.2.2.2.2.1,b2.cell rfl,eb (by rw[Fy.mask,Fz.mask];exact beq_self_eq_true _) ?_⟩
 refine⟨y.2.2.2.2.2.2.2.1,b1.cell rfl,z.2.2.2.2.2.2.2.1,b2.cell rfl,?_⟩
 refine(jW _ _ _ _ h3 Ry2.keeps Rz2.keeps sz.keeps).mono ?_
 rintro _ h4 ⟨rfl,rfl⟩
 refine⟨_,rfl,eb (decide_eq_true rfl) ?_⟩
 refine⟨y.2.2.2.2.2.2.2.2,b1.cell rfl,z.2.2.2.2.2.2.2.2,b2.cell rfl,?_⟩
 refine(jW _ _ _ _ h4 Ry2.torns Rz2.torns sz.torns).mono ?_
 rintro _ h5 ⟨rfl,rfl⟩
 exact⟨_,rfl,by rw[decide_eq_true rfl],.zip H2.ap⟩
end Go.Qw
namespace Wl
end Wl
namespace Go.Qw
open Go Go.Vc Go.Proofs Wl
set_option maxRecDepth 100000
end Go.Qw
namespace Go.Qw
open Go Go.Vc Go.Proofs Wl
set_option maxRecDepth 100000
end Go.Qw
namespace Wl
def bY (n:Nat):List UInt8:=if n≤9 then[UInt8.ofNat (48+n)]else bY (n/10)++[UInt8.ofNat (48+n%10)]
termination_by n
decreasing_by omega
theorem cX {n:Nat} (h:n≤9):bY n=[UInt8.ofNat (48+n)]:=by rw[bY,if_pos h]
theorem gc {n:Nat} (h:¬n≤9):bY n=bY (n/10)++[UInt8.ofNat (48+n%10)]:=by rw[bY,if_neg h]
theorem kL:∀(k n:Nat),n<10^(k+1)→(bY n).length≤k+1
 |0,n,h=>by rw[cX (by omega)];simp
 |k+1,n,h=>by
  by_cases h9:n≤9
  ·rw[cX h9];simp
  ·rw[gc h9,List.length_append,List.length_singleton]
   have:=kL k (n/10) (by rw[Nat.pow_succ]at h;omega)
   omega
def aN (n:Int):List UInt8:=if n<0 then 45::bY n.natAbs else bY n.natAbs
end Wl
namespace Go.Qw
open Go Go.Vc Go.Proofs Wl
set_option maxRecDepth 100000
theorem jX (s:ByteArray) (hs:s=⟨#[48,49,50,51,52,53,54,55,56,57,97,98,99,100,101,102]⟩) (i:Nat) (hi:i<16):dl (s.extract i (i+1))=[gy.getD i 0]:=by
 have hd:dl s=gy:=by rw[hs];rfl
 have hl:i<(dl s).length:=by rw[hd];exact hi
 rw[yI s i hl,←getD_lt (d:=0) hl,hd]
theorem wO (S:ByteArray) (hS:S=⟨#[48,49,50,51,52,53,54,55,56,57,97,98,99,100,101,102]⟩) (i:Nat) (hi:i<16) (s:ByteArray) (hs:s.size+1≤20):(((S.extract i (i+1)).size+s.size:Nat):Int)≤IntKind.max .i64∧(S.extract i (i+1)++s).size≤20:=by
 have h1:(S.extract i (i+1)).size=1:=congrArg List.length (jX S hS i hi)
 rw[ByteArray.size_append,h1]
 exact⟨by show((1+s.size:Nat):Int)≤9223372036854775807;omega,by omega⟩
theorem yc:∀i,i≤9→gy.getD i 0=UInt8.ofNat (48+i):=by decide+kernel
theorem wP (S:ByteArray) (hS:S=⟨#[48,49,50,51,52,53,54,55,56,57,97,98,99,100,101,102]⟩) (i:Nat) (hi:i≤9) (s:ByteArray):dl (S.extract i (i+1)++s)=UInt8.ofNat (48+i)::dl s:=by
 rw[bX,jX S hS i (by omega),yc _ hi];rfl
theorem cd (n:Int) (h1n:-9223372036854775808≤n) (h2n:n≤9223372036854775807) (h:Heap):
  ag Tryz.prog js #[.int .i64 n] h fun v h'=>∃t:ByteArray,v=.string t∧dl t=aN n∧h'=h:=by
 refine iD n ?_
 unfold fb
 have hu:∀x:Int,IntKind.wrap .u64 x=x%18446744073709551616:=fun _=>rfl
 refine dz (fun v h'=>h'=h∧v=(n.natAbs:Int)) ?_ ?_
 ·refine an (fun hlt=>⟨rfl,?_⟩) fun hge=>⟨rfl,?_⟩
  ·have e1:IntKind.wrap .i64 (n+1)=n+1:=Go.Vc.wrap_small _ (by omega) (by omega)
   have e2:IntKind.wrap .i64 (0-(n+1))=0-(n+1):=Go.Vc.wrap_small _ (by omega) (by omega)
   have e3:IntKind.wrap .u64 (0-(n+1))=0-(n+1):=by rw[hu];omega
   have e4:(n.natAbs:Int)=-n:=Int.ofNat_natAbs_of_nonpos (by omega)
   rw[e1,e2,e3,hu,e4];omega
  ·rw[hu];omega
 rintro _ h1 ⟨rfl,rfl⟩
 have h20:(bY n.natAbs).length≤20:=kL 19 _ (by omega)
 refine aE (fun t:ByteArray×Nat=>(t.1,(t.2:Int))) (fun t h'=>h'=h1∧t.2≤2^63∧bY n.natAbs=bY t.2++dl t.1) (fun t=>t.2) (⟨#[]⟩,n.natAbs) rfl ⟨rfl,by dsimp only;omega,by simp⟩ ?_
 rintro⟨s,v⟩ h2 ⟨rfl,hv,he⟩
 dsimp only at hv he⊢
 have hsz:s.size+1≤20:=by
  have h3:=congrArg List.length he
  rw[List.length_append]at h3
  have h4:(dl s).length=s.size:=rfl
  have h5:1≤(bY v).length:=by
   by_cases h9:v≤9
   ·rw[cX h9];simp
   ·rw[gc h9];simp
  omega
 have hmod:Int.tmod (v:Int) 10=((v%10:Nat):Int):=by rw[Int.tmod_eq_emod_of_nonneg (by omega)];rfl
 have hdiv:Int.tdiv (v:Int) 10=((v/10:Nat):Int):=by rw[Int.tdiv_eq_ediv_of_nonneg (by omega)];rfl
 refine an (fun hgt=>?_) fun hle=>?_
 ·have h9:¬v≤9:=by omega
  have hw:IntKind.wrap .u64 (((v%10:Nat):Int)+1)=((v%10+1:Nat):Int):=by rw[hu];omega
  have hw2:IntKind.wrap .u64 ((v/10:Nat):Int)=((v/10:Nat):Int):=by rw[hu];omega
  rw[hmod,hw,hdiv,hw2]
  simp only[Int.toNat_natCast]
  refine⟨by decide,by decide,⟨by omega,by omega,?_⟩,?_,by decide,?_⟩
  ·show((v%10+1:Nat):Int)≤16;omega
  ·exact(wO _ rfl (v%10) (by omega) s hsz).1
  ·refine⟨(_,v/10),rfl,⟨trivial,by dsimp only;omega,?_⟩,by dsimp only;omega⟩
   refine Eq.trans ?_ (congrArg (bY (v/10)++·) (wP _ rfl (v%10) (by omega) s).symm)
   rw[he,gc h9,List.append_assoc];rfl
 ·have h9:v≤9:=by omega
  have hw:IntKind.wrap .u64 ((v:Int)+1)=((v+1:Nat):Int):=by rw[hu];omega
  rw[hw]
  simp only[Int.toNat_natCast]
  have hd:bY n.natAbs=UInt8.ofNat (48+v)::dl s:=by rw[he,cX h9];rfl
  refine⟨⟨by omega,by omega,?_⟩,?_,an (fun hlt=>⟨?_,?_⟩) fun hge=>?_⟩
  ·show((v+1:Nat):Int)≤16;omega
  ·exact(wO _ rfl v (by omega) s hsz).1
  ·have:=(wO _ rfl v (by omega) s hsz).2
   show((1+_:Nat):Int)≤9223372036854775807
   exact Int.le_trans (Int.ofNat_le.2 (Nat.add_le_add_left this 1)) (by decide)
  ·refine⟨_,rfl,?_,trivial⟩
   rw[bX]
   unfold aN;rw[if_pos hlt,hd]
   exact congrArg ([45]++·) (wP _ rfl v h9 s)
  ·refine⟨_,rfl,?_,trivial⟩
   unfold aN;rw[if_neg hge,hd]
   exact wP _ rfl v h9 s
end Go.Qw
namespace Wl
def jA (b:UInt8):List UInt8:=[gy.getD (b.toNat/16) 0,gy.getD (b.toNat%16) 0]
def gd (l:List UInt8):List UInt8:=if l=[]then[45]else l.flatMap jA
theorem kM (b:UInt8):dc (gy.getD (b.toNat/16) 0)=some (b.toNat/16)∧dc (gy.getD (b.toNat%16) 0)=some (b.toNat%16):=
 ⟨tF _ (by have:=b.toNat_lt;omega),tF _ (by omega)⟩
theorem qi:∀(l:List UInt8),dj (l.flatMap jA)=l
 |[]=>rfl
 |b::r=>by
  rw[List.flatMap_cons]
  show dj (gy.getD (b.toNat/16) 0::gy.getD (b.toNat%16) 0::r.flatMap jA)=_
  rw[dj,qi r,(kM b).1,(kM b).2]
  have:16*(b.toNat/16)+b.toNat%16=b.toNat:=Nat.div_add_mod _ _
  simp[this]
theorem pA:∀(l:List UInt8),(l.flatMap jA).all di=true∧(l.flatMap jA).length%2=0
 |[]=>⟨rfl,rfl⟩
 |b::r=>by
  have h:=pA r
  rw[List.flatMap_cons]
  show(gy.getD (b.toNat/16) 0::gy.getD (b.toNat%16) 0::r.flatMap jA).all di=true∧_
  refine⟨?_,?_⟩
  ·rw[List.all_cons,List.all_cons,h.1]
   unfold di
   rw[(kM b).1,(kM b).2];rfl
  ·rw[List.length_append,show(jA b).length=2 from rfl];omega
theorem vS (l:List UInt8):eU (gd l)=some l:=by
 unfold gd
 by_cases h:l=[]
 ·rw[if_pos h,h];rfl
 ·rw[if_neg h]
  unfold eU
  have ha:=pA l
  rw[if_neg,if_pos ⟨ha.2,ha.1⟩,qi]
  intro e
  have:=ha.2
  rw[e]at this;cases this
theorem kN:∀(k n:Nat),n<10^(k+1)→(bY n).all dU=true∧fp 0 (bY n)=n
 |0,n,h=>by
  have:∀n,n<10→([UInt8.ofNat (48+n)]:List UInt8).all dU=true∧fp 0 [UInt8.ofNat (48+n)]=n:=by decide+kernel
  rw[cX (by omega)];exact this n (by omega)
 |k+1,n,h=>by
  by_cases h9:n≤9
  ·exact kN k n (by have h10:10^(k+1)≥10:=(by rw[Nat.pow_succ];have:0<10^k:=Nat.pow_pos (by decide);omega);omega)
  ·have ih:=kN k (n/10) (by rw[Nat.pow_succ]at h;omega)
   have h1:∀n,n<10→dU (UInt8.ofNat (48+n))=true∧dg (UInt8.ofNat (48+n))=n:=by decide+kernel
   have h2:=h1 (n%10) (by omega)
   rw[gc h9,vR,ih.2,h2.2,List.all_append,ih.1]
   refine⟨by rw[List.all_cons,h2.1];rfl,by omega⟩
end Wl
