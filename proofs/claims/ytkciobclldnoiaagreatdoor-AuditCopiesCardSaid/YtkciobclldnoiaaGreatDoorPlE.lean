/- Part of the proofs that the laws of this seat answer true whatever the input reads, and leave it as it was; no condition. -/
import Derived.Test.YtkciobclldnoiaaGreatDoorPlC
import Derived.Test.YtkciobclldnoiaaGreatDoorPlD
import Derived.Test.YtkciobclldnoiaaGreatDoorPlA
set_option linter.unusedVariables false
set_option linter.unusedSimpArgs false
namespace Go.Vc
open Go
section
variable {C:Ctx} {t t2 ty e k:Nat} {z:List Value} {by_:Nat} {α:Type} {h h0:Heap} {p B:aj} {s v:Sl} {f:α→List Value} {l l2:List α} {As:List HP}
theorem Own.zl (hC:C.Ok) (he:bt C.tomV t e k z by_) (hw:∀x,(f x).length=k) (ho:Own h e s k f l) (hv:Seq h p v k f l2) (hone:∀x,∀c∈f x,c.oneCell'=true) (j:Nat) (hj:j≤l.length) {pt:Option Addr} {ln cp:Nat} (hpt:pt=if s.cap=j then s.ptr else s.ptr.map (·.add (j*k))) (hln:ln=s.len-j) {K:Int→Heap→Prop}
  (hk:∀n h',Own h' e s k f (l.take j++(l2.take (l.length-j)++l.drop (j+l2.length)))→aD (fun b=>¬s.on b) h h'→K n h'):
  aw C.P (Builtin.copy_ #[t,t2] ty #[.slice pt ln cp,.slice v.ptr v.len v.cap]) (.one (.sc (.int .i64))) h K:=by
 unfold aw Builtin.copy_
 simp only[List.getElem?_toArray,List.getElem?_cons_zero,List.getElem?_cons_succ]
 refine ab.bind (ab.always (aq (he.under hC)) ?_)
 refine ab.bind (ab.pure' ?_)
 refine ab.bind (ab.always (he.size hC) ?_)
 have hl1:=ho.len;have hl2:=hv.len
 have hcap:=ho.cap
 obtain⟨m,hm⟩:∃m,m=Nat.min v.len ln:=⟨_,rfl⟩
 rw[←hm]
 have hm1:m≤l2.length:=by rw[hm,←hl2];exact Nat.min_le_left _ _
 have hm2:m≤l.length-j:=by rw[hm,←hl1,hln];exact Nat.min_le_right _ _
 have hm3:m=min l2.length (l.length-j):=by rw[hm,hln,hl1,hl2]
 have hv':=hv.take m hm1
 have e0:l2.take (l.length-j)++l.drop (j+l2.length)=l2.take m++l.drop (j+m):=by
  rcases Nat.le_total l2.length (l.length-j)with hh|hh
  ·rw[List.take_of_length_le hh,show m=l2.length by omega,List.take_length]
  ·rw[show m=l.length-j by omega,List.drop_of_length_le (show l.length≤j+l2.length by omega),List.drop_of_length_le (by omega)]
 rw[e0]at hk
 have efc:Builtin.firstCells k m (.slice v.ptr v.len v.cap)=Builtin.firstCells k m (.slice v.ptr m v.cap):=by cases v.ptr<;>rfl
 rw[efc]
 refine ab.bind (dj (v:=⟨v.ptr,m,v.cap⟩) hw hv' ?_)
 have triv:m=0→l.take j++(l2.take m++l.drop (j+m))=l:=fun e=>by rw[e];simp
 rcases ho.head with⟨h1,h2,h3⟩|⟨b,rest,h1,h2,h3,h4⟩
 ·have hp0:pt=none:=by rw[hpt,h1];split<;>rfl
  rw[hp0]
  subst h3
  have:m=0:=by simp at hm2;exact hm2
  refine ab.pure' ⟨_,rfl,hk _ h ?_ (aD.refl _ _)⟩
  rw[triv this];exact ho
 ·by_cases hcj:s.cap=j
  ·have hp0:pt=some ⟨b,0,none⟩:=by rw[hpt,if_pos hcj,h1]
   rw[hp0]
   have hm0:m=0:=by omega
   refine ab.bind ?_
   rw[hm0]
   simp only[List.take_zero,List.flatMap_nil]
   exact ab.pure' (ab.pure' ⟨_,rfl,hk _ h (by rw[triv hm0];exact ho) (aD.refl _ _)⟩)
  ·have hp0:pt=some ⟨b,0+j*k,none⟩:=by rw[hpt,if_neg hcj,h1];simp only[Option.map_some];rw[add_eq]
   rw[hp0]
   refine ab.bind ?_
   have esp:l.flatMap f++rest=(l.take j).flatMap f++((l.drop j).take m).flatMap f++((l.drop (j+m)).flatMap f++rest):=by
    rw[←List.append_assoc,←List.flatMap_append,←List.flatMap_append,←List.drop_drop,List.append_assoc (List.take j l),List.take_append_drop,List.take_append_drop]
   rw[esp]at h2
   refine bV (e:=e) (pre:=(l.take j).flatMap f) (old:=((l.drop j).take m).flatMap f) (post:=(l.drop (j+m)).flatMap f++rest) h2 (by rw[ck hw,ck hw,List.length_take,List.length_take,List.length_drop];congr 1;omega) (by rw[ck hw,List.length_take];rw[Nat.min_eq_left hj];omega) ?_ ?_
   ·intro c hc
    obtain⟨x,_,hxc⟩:=List.mem_flatMap.1 hc
    exact hone x c hxc
   ·refine ab.pure' ⟨_,rfl,hk _ _ ⟨by rw[hl1,List.length_append,List.length_append,List.length_take,List.length_take,List.length_drop];omega,.inr ⟨b,rest,h1,?_,h3,h4⟩⟩ (aD.dI h2 (fun hn=>hn ⟨0,h1⟩))⟩
    rw[di h2,if_pos rfl,List.flatMap_append,List.flatMap_append];simp[List.append_assoc]
theorem aa.zl (hC:C.Ok) (H:aa B h0 h As) (i:Nat) (hi:As[i]?=some (an e s k f l)) (he:bt C.tomV t e k z by_) (hw:∀x,(f x).length=k) (hv:Seq h p v k f l2) (hone:∀x,∀c∈f x,c.oneCell'=true) (j:Nat) (hj:j≤l.length) {pt:Option Addr} {ln cp:Nat} (hpt:pt=if s.cap=j then s.ptr else s.ptr.map (·.add (j*k))) (hln:ln=s.len-j) {K:Int→Heap→Prop}
  (hk:∀n h',aa B h0 h' (As.set i (an e s k f (l.take j++(l2.take (l.length-j)++l.drop (j+l2.length)))))→K n h'):
  aw C.P (Builtin.copy_ #[t,t2] ty #[.slice pt ln cp,.slice v.ptr v.len v.cap]) (.one (.sc (.int .i64))) h K:=
 (H.own i hi).zl hC he hw hv hone j hj hpt hln fun n h' x y=>hk n h' (H.hG i hi y x)
end
end Go.Vc
namespace Wl
open Go
def b8 (n:Int):UInt8:=UInt8.ofNat (n%256).toNat
theorem cm (n:Int):IntKind.wrap .u8 n=((b8 n).toNat:Int):=by
 have h0:=Int.emod_nonneg n (show(256:Int)≠0 by decide)
 have h1:=Int.emod_lt_of_pos n (show(0:Int)<256 by decide)
 have e:((b8 n).toNat:Int)=n%256:=by
  unfold b8
  rw[UInt8.toNat_ofNat']
  omega
 rw[e]
 unfold IntKind.wrap
 simp[IntKind.bits,IntKind.signed]
abbrev ki:=BitVec 32
def ue (s:ki):ki:=if s&&&1#32=1#32 then(s>>>1)^^^3988292384#32 else s>>>1
def nb:Nat→ki→ki
 |0,s=>s
 |n+1,s=>ue (nb n s)
def Cb (s:ki) (x:UInt8):ki:=nb 8 (s^^^BitVec.ofNat 32 x.toNat)
def kS (l:List UInt8):ki:=l.foldl Cb 4294967295#32
def zm (l:List UInt8):ki:=4294967295#32^^^kS l
theorem CN (l:List UInt8) (x:UInt8):kS (l++[x])=Cb (kS l) x:=by unfold kS;rw[List.foldl_append];rfl
theorem zn (s:ki):IntKind.wrap .u32 ((s.toNat:Nat):Int)=(s.toNat:Int):=by
 have:=s.isLt
 unfold IntKind.wrap
 simp[IntKind.bits,IntKind.signed]
 omega
theorem CO (a b:ki):IntKind.wrap .u32 ((BitVec.ofInt (IntKind.bits .u32) (a.toNat:Int)^^^BitVec.ofInt (IntKind.bits .u32) (b.toNat:Int)).toNat:Nat)=((a^^^b).toNat:Int):=by
 show IntKind.wrap .u32 (((BitVec.ofInt 32 (a.toNat:Int)^^^BitVec.ofInt 32 (b.toNat:Int):BitVec 32).toNat:Nat):Int)=_
 rw[BitVec.ofInt_natCast,BitVec.ofInt_natCast,BitVec.ofNat_toNat,BitVec.ofNat_toNat,BitVec.setWidth_eq,BitVec.setWidth_eq,zn]
theorem Ib (a b:ki):IntKind.wrap .u32 ((BitVec.ofInt (IntKind.bits .u32) (a.toNat:Int)&&&BitVec.ofInt (IntKind.bits .u32) (b.toNat:Int)).toNat:Nat)=((a&&&b).toNat:Int):=by
 show IntKind.wrap .u32 (((BitVec.ofInt 32 (a.toNat:Int)&&&BitVec.ofInt 32 (b.toNat:Int):BitVec 32).toNat:Nat):Int)=_
 rw[BitVec.ofInt_natCast,BitVec.ofInt_natCast,BitVec.ofNat_toNat,BitVec.ofNat_toNat,BitVec.setWidth_eq,BitVec.setWidth_eq,zn]
theorem DY (n:Int):IntKind.wrap .u32 n=((BitVec.ofInt 32 n).toNat:Int):=by
 unfold IntKind.wrap
 simp[IntKind.bits,IntKind.signed,BitVec.toNat_ofInt]
 omega
theorem GQ (s:ki):Int.fdiv (s.toNat:Int) (2^min (1:Int).toNat (IntKind.bits .u32))=((s>>>1).toNat:Int):=by
 rw[show min (1:Int).toNat (IntKind.bits .u32)=1 from rfl,Int.fdiv_eq_ediv_of_nonneg _ (by decide),BitVec.toNat_ushiftRight,Nat.shiftRight_eq_div_pow]
 simp
theorem Cc (s:ki):((s&&&1#32).toNat:Int)=1↔s&&&1#32=1#32:=by
 constructor
 ·intro h
  apply BitVec.eq_of_toNat_eq
  have:(1#32:ki).toNat=1:=rfl
  omega
 ·intro h;rw[h];rfl
def ky (s:ki):List UInt8:=(List.range 4).map fun i=>b8 (Int.fdiv (s.toNat:Int) (2^(8*i)))
theorem zo (s:ki):(ky s).length=4:=by simp[ky]
def dw (kind:Int) (body:List UInt8):List UInt8:=[87,115,1,b8 kind]++body++List.replicate (55-body.length) 0
def eP (kind:Int) (body:List UInt8):List UInt8:=
 if 1≤kind∧kind≤255∧body.length≤55 then dw kind body++ky (zm (dw kind body))++[165]else[]
theorem pZ {kind:Int} {body:List UInt8} (h:body.length≤55):(dw kind body).length=59:=by simp[dw];omega
theorem AT {kind:Int} {body:List UInt8} (h1:1≤kind) (h2:kind≤255) (h3:body.length≤55):(eP kind body).length=64:=by
 unfold eP;rw[if_pos ⟨h1,h2,h3⟩];simp[pZ h3,zo]
end Wl
namespace Go.Vc
open Go
def dZ (s:ByteArray):List UInt8:=s.data.toList
theorem oo (s:ByteArray):(dZ s).length=s.size:=rfl
def Iu (n:Nat):Obj→Obj
 | .cells c elem (lo,hi)=>.cells c elem (if lo==hi then(n,n+1)else(min lo n,max hi (n+1)))
 |o=>o
theorem ab.DZ {P:Program} {h:Heap} {b n:Nat} {c:Array Value} {e:TypeId} {K:Unit→Heap→Prop} (hb:h[b]?=some (.cells c e (0,0))) (hn:n=c.size) (hk:∀h',(∀x,x≠b→h'[x]?=h[x]?)→h'.size=h.size→(∃f,h'[b]?=some (.cells c e f))→K () h'):
  ab P (freeze {block:=b,off:=n} 1) h K:=fun w hw=>by
 refine⟨(),w.freeze {block:=b,off:=n} 1,run_freeze P w _ _,⟨rfl,rfl,rfl,Nat.le_refl _⟩,?_⟩
 subst hw
 have hg:(w.freeze {block:=b,off:=n} 1).heap=w.heap.modify b (Iu n):=rfl
 refine hk _ (fun x hx=>?_) ?_ ?_
 ·rw[hg,Array.getElem?_modify,if_neg (fun e=>hx e.symm)]
 ·rw[hg];simp
 ·rw[hg,Array.getElem?_modify,if_pos rfl,hb]
  exact⟨_,rfl⟩
section
variable {C:Ctx} {B:aj} {h h0:Heap} {As:List HP} {t e ts:Nat}
theorem GR (hC:C.Ok) (hs:∃i,C.T.get ts=some i∧i.bE=.str) (ht:∃i,C.T.get t=some i∧i.bE=.slice e) (he:∃i,C.T.get e=some i∧i.bE=.int .u8) (s:ByteArray) {K:Sl→Heap→Prop} (hk:∀r h',Sp h h' [sE r 1 az (dZ s)]→K r h'):
  aw C.P (convert ts t (.string s)) (.one (.sc .slc)) h K:=by
 obtain⟨i1,a1,b1⟩:=hs
 obtain⟨i2,a2,b2⟩:=ht
 obtain⟨i3,a3,b3⟩:=he
 have u1:C.P.underlying ts=some .string:=by have:=hC.bE a1;rw[b1]at this;exact k0 this
 have u2:C.P.underlying t=some (.slice e):=by have:=hC.bE a2;rw[b2]at this;exact fq this
 have u3:C.P.underlying e=some (.int .u8):=by have:=hC.bE a3;rw[b3]at this;exact q8 this
 unfold aw convert
 refine ab.bind (ab.always (aq u1) ?_)
 refine ab.bind (ab.always (aq u2) ?_)
 refine ab.bind (ab.always (aq u3) ?_)
 unfold Conv.stringToBytes
 refine ab.bind (ab.vA ⟨fun hf=>(by cases hf),fun _ nn=>?_⟩)
 generalize hcc:Question.cut (Question.appendCap s.size 0 e) nn=cc
 have hcc':s.size≤cc:=by rw[←hcc];simp only[Question.cut];omega
 unfold newRow
 refine ab.bind (ab.bind (ab.jM (ab.pure' ?_)))
 unfold markStringish
 obtain⟨cs,hcs⟩:∃cs:Array Value,cs=s.data.map (fun b=>Value.int .u8 b.toNat)++Array.replicate (cc-s.size) (Value.int .u8 0):=⟨_,rfl⟩
 rw[←hcs]
 refine ab.bind (ab.bind (ab.G8 ?_))
 have hsh:shapeOf (h.push (.cells cs e)) h.size=some (e,cs.size):=by unfold shapeOf;simp
 dsimp only
 rw[hsh]
 refine ab.DZ (c:=cs) (e:=e) (by simp) rfl fun h' k1 k2 k3=>?_
 refine ab.pure' ⟨⟨some ⟨h.size,0,none⟩,s.size,cc⟩,rfl,hk _ _ ?_⟩
 obtain⟨f,k3⟩:=k3
 refine .one ⟨by rw[k2];simp,fun b hb _=>by rw[k1 b (by omega),Array.getElem?_push,if_neg (by omega)]⟩ ?_
 refine⟨by rw[oo],fun i x hx=>⟨h.size,0,rfl,⟨Nat.le_refl _,by rw[k2];simp⟩,?_,trivial⟩⟩
 rw[add_zero]
 have hi:i<s.data.size:=by have:=(List.getElem?_eq_some_iff.1 hx).1;simpa[dZ]using this
 unfold cellOf
 simp only[k3,Nat.mul_one,Nat.zero_add,Option.isSome_none,Bool.false_eq_true,if_false]
 rw[hcs,Array.getElem?_append_left (by simpa using hi),Array.getElem?_map]
 have:s.data[i]?=some x:=by rw[←hx];simp[dZ]
 rw[this];rfl
end
section
variable {C:Ctx} {t t2 e k:Nat} {z:List Value} {by_:Nat} {h h0:Heap} {B:aj} {As:List HP} {s:Sl} {l:List UInt8}
theorem xH (hC:C.Ok) (he:bt C.tomV t e 1 z by_) (h2:∃i,C.T.get t2=some i∧i.bE=.str) (hz:z.length=1) (hby:0<by_∧by_≤128)
  (ho:Own h e s 1 az l) (x:ByteArray) (hsz:l.length+x.size≤2^32) {ty:Nat} {K:Sl→Heap→Prop}
  (hk:∀s' h',Own h' e s' 1 az (l++dZ x)→aD (fun b=>¬s.on b) h h'→(∀b,s'.on b→s.on b∨h.size≤b)→K s' h'):
  aw C.P (Builtin.append_ #[t,t2] ty #[.slice s.ptr s.len s.cap,.string x]) (.one (.sc .slc)) h K:=by
 obtain⟨i2,g1,g2⟩:=h2
 have hu2:C.P.underlying t2=some .string:=by have:=hC.bE g1;rw[g2]at this;exact k0 this
 obtain⟨inf,x1,x2,x3,zv,x4,x5⟩:=he.info hC
 have hone:∀y∈(dZ x).flatMap az,y.oneCell'=true:=fun y hy=>by
  obtain⟨b,_,hb⟩:=List.mem_flatMap.1 hy
  exact fU b y hb
 have hcells:((x.extract 0 x.size).data.map fun b=>Value.int .u8 (b.toNat:Int))=((dZ x).flatMap az).toArray:=by
  have e0:x.extract 0 x.size=x:=by
   apply ByteArray.ext
   simp[ByteArray.data_extract]
  rw[e0]
  apply Array.ext'
  simp only[Array.toList_map,dZ]
  exact List.map_eq_flatMap
 unfold aw Builtin.append_
 simp only[List.getElem?_toArray,List.getElem?_cons_zero,List.getElem?_cons_succ]
 refine ab.bind (ab.always (aq (he.under hC)) ?_)
 refine ab.bind (ab.always (he.size hC) ?_)
 refine ab.bind (ab.always (aq hu2) ?_)
 refine ab.bind (ab.pure' ?_)
 simp only[Bool.false_eq_true,if_false,Bool.not_false,if_true]
 refine ab.bind (ab.pure' ?_)
 have hlen:=ho.len
 have hw:∀y,(az y).length=1:=fun _=>rfl
 have hflat:=ck hw l
 have hflat2:=ck hw (dZ x)
 have hxl:=oo x
 have hfc:∀{h:Heap} {K:Array Value→Heap→Prop},K ((dZ x).flatMap az).toArray h→ab C.P (Builtin.firstCells 1 x.size (.string x)) h K:=fun{h K} hK=>by
  unfold Builtin.firstCells
  dsimp only
  rw[hcells]
  exact ab.pure' hK
 by_cases hfit:s.len+x.size≤s.cap
 ·rw[if_pos hfit]
  refine ab.bind (hfc ?_)
  rcases ho.head with⟨p1,p2,p3⟩|⟨b,rest,p1,p2,p3,p4⟩
  ·rw[p1]
   have hx0:dZ x=[]:=List.eq_nil_of_length_eq_zero (by omega)
   refine ab.pure' ⟨⟨none,s.len+x.size,s.cap⟩,rfl,hk _ _ ⟨?_,.inl ⟨rfl,p2,by simp[p3,hx0]⟩⟩ (aD.refl _ _) ?_⟩
   ·simp;omega
   ·rintro b' ⟨o,ho'⟩;cases ho'
  ·rw[p1]
   refine ab.bind ?_
   rw[add_eq,Nat.zero_add]
   have hrl:((dZ x).flatMap az).length≤rest.length:=by
    rw[hflat2,p3];omega
   refine bV (e:=e) (pre:=l.flatMap az) (old:=rest.take ((dZ x).flatMap az).length) (post:=rest.drop ((dZ x).flatMap az).length) ?_ ?_ ?_ ?_ ?_
   ·rw[List.append_assoc,List.take_append_drop];exact p2
   ·rw[List.length_take];exact Nat.min_eq_left hrl
   ·rw[hflat,hlen];omega
   ·intro c hc;exact hone c (by simpa using hc)
   ·refine ab.pure' ⟨⟨some ⟨b,0,none⟩,s.len+x.size,s.cap⟩,rfl,hk _ _ ⟨?_,.inr ⟨b,rest.drop ((dZ x).flatMap az).length,rfl,?_,?_,hfit⟩⟩ ?_ ?_⟩
    ·simp;omega
    ·rw[di p2,if_pos rfl];simp
    ·rw[List.length_drop,p3,hflat2]
     show(s.cap-s.len)*1-(dZ x).length*1=(s.cap-(s.len+x.size))*1
     omega
    ·exact aD.dI p2 (fun hn=>hn ⟨0,p1⟩)
    ·rintro b' ⟨o,ho'⟩;cases ho';exact .inl ⟨0,p1⟩
 ·rw[if_neg hfit]
  have hseq:Seq h (fun _=>True) s 1 az l:=ho.seq hw (fun _ _=>trivial)
  have hcap:=ho.cap
  refine ab.bind (ab.always (bG x1) ?_)
  rw[if_neg (fun hh=>by rcases hh.2 with h|h<;>first|exact h|(rw[x3]at h;omega))]
  refine ab.bind (ab.always (bG x1) ?_)
  have hnx:=BY (s.len+x.size) s.cap (by omega)
  rw[if_neg (by
   have:Builtin.nextslicecap (s.len+x.size) s.cap*inf.bytes≤(16*2^32+16*768)*128:=Nat.mul_le_mul (by omega) (by rw[x3];exact hby.2)
   omega)]
  refine ab.bind (ab.vA ⟨fun hf=>(by cases hf),fun _ nn=>?_⟩)
  refine ab.bind (ab.always (bG x1) ?_)
  refine ab.bind (ab.sv ?_)
  refine ab.bind (dj hw hseq ?_)
  refine ab.bind (hfc ?_)
  have hzv:ao C.P (zeroValue e) zv:=(bG x1).bind (by rw[x4];exact .pure)
  refine ab.bind (ab.always hzv ?_)
  rw[x5,pH]
  unfold newRow
  refine ab.bind (ab.bind (ab.jM (ab.pure' (ab.pure' ?_))))
  generalize hcc:Question.cut (Question.appendCap (s.len+x.size) s.cap e) nn=cc
  have hcc':s.len+x.size≤cc:=by rw[←hcc];simp only[Question.cut];omega
  refine⟨⟨some ⟨h.size,0,none⟩,s.len+x.size,cc⟩,rfl,hk _ _ ⟨?_,.inr ⟨h.size,dX z (cc-(s.len+x.size)),rfl,?_,?_,hcc'⟩⟩ (aD.push _ _ _) ?_⟩
  ·simp;omega
  ·simp
  ·rw[iQ,hz]
  ·rintro b' ⟨o,ho'⟩;cases ho';exact .inr (Nat.le_refl _)
theorem aa.D0 (hC:C.Ok) (H:aa B h0 h As) (i:Nat) (hi:As[i]?=some (an e s 1 az l)) (he:bt C.tomV t e 1 z by_) (h2:∃i,C.T.get t2=some i∧i.bE=.str) (hz:z.length=1) (hby:0<by_∧by_≤128)
  (x:ByteArray) (hsz:l.length+x.size≤2^32) {ty:Nat} {K:Sl→Heap→Prop} (hk:∀s' h',aa B h0 h' (As.set i (an e s' 1 az (l++dZ x)))→K s' h'):
  aw C.P (Builtin.append_ #[t,t2] ty #[.slice s.ptr s.len s.cap,.string x]) (.one (.sc .slc)) h K:=by
 obtain⟨lo,pp,c,zz,a⟩:=H
 have ha:=a i _ hi
 refine xH hC he h2 hz hby ha.1 x hsz fun s' h' ho' hp' hn'=>hk s' h' ?_
 refine aa.re lo pp zz a (hp'.mono fun b hb hn hc=>hn (ha.2 b hc)) ⟨ho',fun b hb=>⟨ho'.lt hb,?_⟩⟩
 rcases hn' b hb with h1|h1
 ·exact .inl (ha.2 b h1)
 ·exact .inr h1
end
end Go.Vc
namespace Wl
open Go
structure dc where
 name:ByteArray
 object:Int
 length:Int
 tries:List Int
structure aZ where
 seq:Int
 next:Int
 p:Int×Int×Int
 extra:Int
 drives:List Int
 aJ:List dc
def Ic:dc:=⟨⟨#[]⟩,0,0,[]⟩
def ji (l:List dc) (i:Nat):dc:=l.getD i Ic
theorem iU {l:List dc} {i:Nat} (h:i<l.length):ji l i=l[i]:=by unfold ji;rw[List.getD_eq_getElem?_getD,List.getElem?_eq_getElem h];rfl
def cF (n a b:Int):Bool:=decide (a≤n)&&decide (n≤b)
def gT (c:UInt8):Bool:=(decide (97≤c.toNat)&&decide (c.toNat≤122))||(decide (48≤c.toNat)&&decide (c.toNat≤57))||decide (c.toNat=45)
def kT (s:ByteArray):Bool:=s.data.toList.all gT&&(decide (1≤s.size)&&decide (s.size≤12))
def gU (a b:ByteArray):Bool:=Op.bytesLess a.toList b.toList
def fb (l:List Int) (most:Int) (i:Nat):Bool:=cF (l.getD i 0) 0 most&&(decide (i=0)||decide (l.getD (i-1) 0<l.getD i 0))
def jk (l:List Int) (most:Int):Bool:=(List.range l.length).all (fb l most)
def countP (p:Int×Int×Int) (n:Int):Int:=if bP p&&decide (0<n)then(n-1)/(p.1*p.2.2)+1 else 0
def dN (m:aZ) (x:dc):Bool:=
 kT x.name&&(cF x.object 0 (m.next-1)&&(cF x.length 0 (m.p.1*m.p.2.2*8)&&(x.tries.all (cF · 0 15)&&decide ((x.tries.length:Int)=countP m.p x.length))))
def jl (m:aZ) (i:Nat):Bool:=
 dN m (ji m.aJ i)&&((decide (i=0)||gU (ji m.aJ (i-1)).name (ji m.aJ i).name)&&!(m.aJ.take i).any fun y=>decide (y.object=(ji m.aJ i).object))
def gD (m:aZ):Bool:=cF m.seq 1 2147483647&&(cF m.next 0 16777216&&(bP m.p&&cF m.extra 0 16))
def cx (m:aZ):Bool:=gD m&&(jk m.drives 63&&(decide (m.aJ.length≤12)&&(List.range m.aJ.length).all (jl m)))
theorem p7 {p:Nat→Bool} {n i:Nat} (hi:i<n) (h:p i=false):(List.range n).all p=false:=List.all_eq_false.2 ⟨i,List.mem_range.2 hi,by rw[h];simp⟩
theorem kz {p:Nat→Bool} {n:Nat} (h:∀i,i<n→p i=true):(List.range n).all p=true:=List.all_eq_true.2 fun i hi=>h i (List.mem_range.1 hi)
def bS (n:Int) (k:Nat):List UInt8:=(List.range k).map fun i=>b8 (Int.fdiv n (2^(8*(k-1-i))))
theorem bJ (n:Int) (k:Nat):(bS n k).length=k:=by simp[bS]
def gE (x:dc):List UInt8:=b8 x.name.size::(x.name.data.toList++(bS x.object 3++(bS x.length 2++x.tries.map b8)))
def gF (m:aZ):List UInt8:=
 if cx m then bS m.seq 4++(bS m.next 4++([b8 m.p.1,b8 m.p.2.1,b8 m.p.2.2,b8 m.extra,b8 m.drives.length]++(m.drives.map b8++(b8 m.aJ.length::m.aJ.flatMap gE))))else[]
def nc (seq number many:Int) (b:List UInt8):List UInt8:=eP 2 (bS seq 4++([b8 number,b8 many,b8 b.length]++b))
def fP (b:List UInt8):Nat:=(b.length+47)/48
def bs (m:aZ):List (List UInt8):=(List.range (fP (gF m))).map fun i:Nat=>nc m.seq i (fP (gF m)) (((gF m).drop (48*i)).take 48)
theorem D1 {m:aZ} (h:cx m=true):gD m=true:=by unfold cx at h;simp at h;exact h.1
theorem zp {m:aZ} (h:gD m=true):(1≤m.seq∧m.seq≤2147483647)∧(0≤m.next∧m.next≤16777216)∧bP m.p=true∧0≤m.extra∧m.extra≤16:=by
 unfold gD cF at h;simpa[and_assoc]using h
theorem uf {m:aZ} {c:List UInt8} (h:c∈bs m):c.length=64:=by
 unfold bs at h
 obtain⟨i,_,rfl⟩:=List.mem_map.1 h
 exact AT (by decide) (by decide) (by simp[bJ];omega)
end Wl
namespace Wl
open Go
structure dO where
 object:Int
 block:Int
 id:Int
 p:Int×Int×Int
 seed:Int
 data:List UInt8
theorem Hx (n:Int):((b8 n).toNat:Int)=n%256:=by
 have h0:=Int.emod_nonneg n (show(256:Int)≠0 by decide)
 have h1:=Int.emod_lt_of_pos n (show(0:Int)<256 by decide)
 unfold b8
 rw[UInt8.toNat_ofNat']
 omega
def kA (r:dO):Bool:=(cF r.object 0 16777215&&(cF r.block 0 7&&cU r.id))&&(bP r.p&&decide ((r.data.length:Int)=r.p.2.2))
def oq (r:dO):List UInt8:=bS r.object 3++(bS r.block 1++(bS r.id 2++([b8 r.p.1,b8 r.p.2.1,b8 r.p.2.2]++(bS r.seed 4++r.data))))
def p8 (r:dO):List UInt8:=if kA r then eP 1 (oq r)else[]
def cy (l:List UInt8):Int:=l.foldl (fun n x=>n*256+x.toNat) 0
def jm (c:List UInt8):Option (Int×List UInt8):=
 if c.length=64∧eP ((c.getD 3 0).toNat:Int) ((c.drop 4).take 55)=c then some (((c.getD 3 0).toNat:Int),(c.drop 4).take 55)else none
def yA (x:List UInt8):dO:=
 ⟨cy (x.take 3),cy ((x.drop 3).take 1),cy ((x.drop 4).take 2),(cy ((x.drop 6).take 1),cy ((x.drop 7).take 1),cy ((x.drop 8).take 1)),cy ((x.drop 9).take 4),(x.drop 13).take (cy ((x.drop 8).take 1)).toNat⟩
def fQ (c:List UInt8):Option dO:=
 match jm c with
 |some (k,x)=>if k=1∧bP (yA x).p=true∧p8 (yA x)=c then some (yA x)else none
 |none=>none
theorem jS (r:dO):kA r=true↔(0≤r.object∧r.object≤16777215)∧(0≤r.block∧r.block≤7)∧(0≤r.id∧r.id≤65535)∧bP r.p=true∧(r.data.length:Int)=r.p.2.2:=by
 unfold kA cF cU;simp[and_assoc]
theorem D2 {r:dO} (h:kA r=true):(oq r).length=13+r.data.length∧r.data.length≤24:=by
 obtain⟨_,_,_,h4,h5⟩:=(jS r).1 h
 have:=(dJ r.p).1 h4
 refine⟨by unfold oq;simp[bJ];omega,by omega⟩
end Wl
namespace Go.Vc
open Go
section
variable {C:Ctx} {h:Heap} {t e ts:Nat}
theorem rV:∀(l:List UInt8) (b:ByteArray),l.foldl ByteArray.push b=⟨(b.data.toList++l).toArray⟩
 |[],b=>by simp
 |x::l,b=>by
  rw[List.foldl_cons,rV l (b.push x)]
  simp[ByteArray.push]
theorem Cd (hC:C.Ok) (ht:∃i,C.T.get t=some i∧i.bE=.slice e) (hs:∃i,C.T.get ts=some i∧i.bE=.str) (he:∃i,C.T.get e=some i∧i.bE=.int .u8) {s:Sl} {l:List UInt8} {p:aj} (hv:Seq h p s 1 az l) {K:ByteArray→Heap→Prop} (hk:K ⟨l.toArray⟩ h):
  aw C.P (convert t ts (.slice s.ptr s.len s.cap)) (.one (.sc .str)) h K:=by
 obtain⟨i1,a1,b1⟩:=hs
 obtain⟨i2,a2,b2⟩:=ht
 obtain⟨i3,a3,b3⟩:=he
 have u1:C.P.underlying ts=some .string:=by have:=hC.bE a1;rw[b1]at this;exact k0 this
 have u2:C.P.underlying t=some (.slice e):=by have:=hC.bE a2;rw[b2]at this;exact fq this
 have u3:C.P.underlying e=some (.int .u8):=by have:=hC.bE a3;rw[b3]at this;exact q8 this
 unfold aw convert
 refine ab.bind (ab.always (aq u2) ?_)
 refine ab.bind (ab.always (aq u1) ?_)
 refine ab.bind (ab.always (aq u3) ?_)
 unfold Conv.bytesToString
 have hfc:=dj (P:=C.P) (f:=az) (k:=1) (K:=fun cs h'=>cs=(l.flatMap az).toArray∧h'=h) (fun _=>rfl) hv ⟨rfl,rfl⟩
 cases hp:s.ptr with
 |none=>
  have:l=[]:=by
   cases l with
   |nil=>rfl
   |cons x r=>obtain⟨b,o,h1,_⟩:=hv.elem 0 x (by simp);rw[hp]at h1;cases h1
  subst this
  exact ab.pure' ⟨⟨#[]⟩,rfl,hk⟩
 |some a=>
  rw[hp]at hfc
  dsimp only
  have hfc':ab C.P (loadCells a s.len) h fun cs h'=>cs=(l.flatMap az).toArray∧h'=h:=by
   have:Builtin.firstCells 1 s.len (.slice (some a) s.len s.cap)=loadCells a s.len:=by
    unfold Builtin.firstCells;simp
   rw[←this];exact hfc
  refine ab.bind (hfc'.mono ?_)
  rintro _ _ ⟨rfl,rfl⟩
  have key:∀(l:List UInt8) (b:ByteArray),ao C.P (forIn (m:=Sem) (l.flatMap az) b fun c r=>match c with
    | .int .u8 n=>do pure (ForInStep.yield (r.push (UInt8.ofNat n.toNat)))
    |_=>do let r←stuck "bytesToString: byte expected";pure r) (l.foldl ByteArray.push b):=fun l=>by
   induction l with
   |nil=>intro b;exact .pure
   |cons x l ih=>
    intro b
    have e1:(x::l).flatMap az=Value.int .u8 x.toNat::l.flatMap az:=rfl
    rw[e1,List.forIn_cons]
    have e2:b.push (UInt8.ofNat ((x.toNat:Int)).toNat)=b.push x:=by
     rw[Int.toNat_natCast];congr 1;apply UInt8.toNat_inj.1;simp
    refine ao.bind (v:=ForInStep.yield (b.push x)) (by dsimp only;rw[e2];exact .pure) ?_
    exact ih _
  refine ab.bind (ab.always (v:=l.foldl ByteArray.push ByteArray.empty) ?_ ?_)
  ·rw[List.forIn_toArray]
   exact key l _
  ·refine ab.pure' ⟨_,rfl,?_⟩
   rw[rV]
   exact hk
end
end Go.Vc
namespace Wl
section
variable {α:Type} (le:α→α→Bool)
def dP (a b:α):Bool:=le a b&&le b a
def bw (l l':List α):Prop:=∀x,l.filter (dP le x)=l'.filter (dP le x)
def Sd (l:List α):Prop:=l.Pairwise fun a b=>le a b=true
structure Ord:Prop where
 trans:∀a b c,le a b=true→le b c=true→le a c=true
 total:∀a b,(le a b||le b a)=true
variable {le}
theorem Ord.ug (o:Ord le) {a b:α} (h:¬le a b=true):le b a=true:=by
 have:=o.total a b
 cases h1:le a b with
 |true=>exact absurd h1 h
 |false=>rw[h1]at this;simpa using this
theorem Ord.refl (o:Ord le) (a:α):le a a=true:=by have:=o.total a a;simpa using this
theorem bw.refl (l:List α):bw le l l:=fun _=>rfl
theorem bw.trans {l1 l2 l3:List α} (h:bw le l1 l2) (k:bw le l2 l3):bw le l1 l3:=fun x=>(h x).trans (k x)
theorem bw.symm {l1 l2:List α} (h:bw le l1 l2):bw le l2 l1:=fun x=>(h x).symm
theorem bw.app {a b c d:List α} (h:bw le a b) (k:bw le c d):bw le (a++c) (b++d):=fun x=>by
 rw[List.filter_append,List.filter_append,h x,k x]
theorem bw.mem (o:Ord le) {l l':List α} (h:bw le l l') {y:α} (hy:y∈l'):y∈l:=by
 have h1:y∈l'.filter (dP le y):=List.mem_filter.2 ⟨hy,by unfold dP;rw[o.refl];rfl⟩
 rw[←h y]at h1
 exact(List.mem_filter.1 h1).1
theorem bw.Gk (o:Ord le) {u v:List α} (h:∀x∈u,∀y∈v,¬le x y=true):bw le (u++v) (v++u):=fun z=>by
 rw[List.filter_append,List.filter_append]
 by_cases hu:u.filter (dP le z)=[]
 ·rw[hu];simp
 ·by_cases hv:v.filter (dP le z)=[]
  ·rw[hv];simp
  ·exfalso
   obtain⟨x,hx⟩:=List.exists_mem_of_ne_nil _ hu
   obtain⟨y,hy⟩:=List.exists_mem_of_ne_nil _ hv
   obtain⟨hx1,hx2⟩:=List.mem_filter.1 hx
   obtain⟨hy1,hy2⟩:=List.mem_filter.1 hy
   unfold dP at hx2 hy2
   simp only[Bool.and_eq_true]at hx2 hy2
   exact h x hx1 y hy1 (o.trans _ _ _ hx2.2 hy2.1)
theorem bw.zq (o:Ord le) {l:List α} (h:bw le [] l):l=[]:=by
 cases l with
 |nil=>rfl
 |cons a l=>exact absurd (bw.mem o h (List.mem_cons_self ..)) (by simp)
theorem xd (o:Ord le):∀(l l':List α),Sd le l→Sd le l'→bw le l l'→l=l'
 |[],l',_,_,h=>(bw.zq o h).symm
 |a::l,[],_,_,h=>absurd (bw.zq o h.symm) (by simp)
 |a::l,b::l',s,s',h=>by
  have hab:a=b:=by
   have h1:le a b=true:=by
    have:=bw.mem o h (y:=b) (List.mem_cons_self ..)
    rcases List.mem_cons.1 this with e|e
    ·rw[e];exact o.refl _
    ·exact(List.pairwise_cons.1 s).1 _ e
   have h2:le b a=true:=by
    have:=bw.mem o h.symm (y:=a) (List.mem_cons_self ..)
    rcases List.mem_cons.1 this with e|e
    ·rw[e];exact o.refl _
    ·exact(List.pairwise_cons.1 s').1 _ e
   have h3:=h a
   have e1:dP le a a=true:=by unfold dP;rw[o.refl];rfl
   have e2:dP le a b=true:=by unfold dP;rw[h1,h2];rfl
   rw[List.filter_cons_of_pos e1,List.filter_cons_of_pos e2]at h3
   injection h3
  subst hab
  rw[xd o l l' (List.pairwise_cons.1 s).2 (List.pairwise_cons.1 s').2 fun x=>by
   have h3:=h x
   rw[List.filter_cons,List.filter_cons]at h3
   split at h3
   ·injection h3
   ·exact h3]
theorem zr (o:Ord le) (l:List α):Sd le (l.mergeSort le)∧bw le l (l.mergeSort le):=by
 refine⟨List.pairwise_mergeSort o.trans o.total l,fun x=>?_⟩
 have hp:(l.filter (dP le x)).Pairwise fun a b=>le a b=true:=by
  rw[List.pairwise_filter]
  refine List.Pairwise.imp ?_ (List.pairwise_of_forall (l:=l) (R:=fun _ _=>True) fun _ _=>trivial)
  intro a b _ ha hb
  unfold dP at ha hb
  simp only[Bool.and_eq_true]at ha hb
  exact o.trans _ _ _ ha.2 hb.1
 have hs:=List.sublist_mergeSort o.trans o.total hp List.filter_sublist
 have hs2:=hs.filter (dP le x)
 rw[List.filter_filter]at hs2
 simp only[Bool.and_self]at hs2
 exact hs2.eq_of_length ((List.mergeSort_perm l le).symm.filter _).length_eq
theorem Ie (o:Ord le) {l l':List α} (s:Sd le l') (h:bw le l l'):l'=l.mergeSort le:=by
 obtain⟨h1,h2⟩:=zr o l
 exact xd o _ _ s h1 (h.symm.trans h2)
theorem Sd.app (o:Ord le) {u v:List α} (hu:Sd le u) (hv:Sd le v) (h:∀x∈u,∀y∈v,le x y=true):Sd le (u++v):=List.pairwise_append.2 ⟨hu,hv,h⟩
theorem Sd.left {u v:List α} (h:Sd le (u++v)):Sd le u:=(List.pairwise_append.1 h).1
theorem Sd.right {u v:List α} (h:Sd le (u++v)):Sd le v:=(List.pairwise_append.1 h).2.1
theorem Sd.yB {u v:List α} (h:Sd le (u++v)):∀x∈u,∀y∈v,le x y=true:=(List.pairwise_append.1 h).2.2
theorem Sd.at_ (o:Ord le) {l:List α} (h:Sd le l) {i j:Nat} (hij:i≤j) (hj:j<l.length):le (l[i]'(by omega)) l[j]=true:=by
 by_cases e:i=j
 ·subst e;exact o.refl _
 ·exact List.pairwise_iff_getElem.1 h i j (by omega) hj (by omega)
theorem D3 (o:Ord le) {l1 l2 r1 r2 m1 m2:List α} (hL:Sd le (l1++l2)) (hR:Sd le (r1++r2)) (h12:∀x∈l1,∀y∈r2,le x y=true) (h21:∀x∈l2,∀y∈r1,¬le x y=true)
  (e1:bw le (l1++r1) m1) (s1:Sd le m1) (e2:bw le (l2++r2) m2) (s2:Sd le m2):Sd le (m1++m2)∧bw le ((l1++l2)++(r1++r2)) (m1++m2):=by
 constructor
 ·refine Sd.app o s1 s2 fun x hx y hy=>?_
  rcases List.mem_append.1 (bw.mem o e1 hx)with hx|hx<;>rcases List.mem_append.1 (bw.mem o e2 hy)with hy|hy
  ·exact hL.yB x hx y hy
  ·exact h12 x hx y hy
  ·exact o.ug (h21 y hy x hx)
  ·exact hR.yB x hx y hy
 ·have h1:bw le ((l1++l2)++(r1++r2)) ((l1++r1)++(l2++r2)):=by
   rw[show(l1++l2)++(r1++r2)=l1++((l2++r1)++r2)by simp,show(l1++r1)++(l2++r2)=l1++((r1++l2)++r2)by simp]
   exact(bw.refl _).app ((bw.Gk o h21).app (bw.refl _))
  exact h1.trans (e1.app e2)
end
end Wl
namespace Wl
section
variable {α:Type} {le:α→α→Bool}
theorem k6 (o:Ord le):∀{l l':List α},bw le l l'→l.length=l'.length
 |[],l',h=>by rw[bw.zq o h]
 |a::l,l',h=>by
  have hm:=bw.mem o h.symm (y:=a) (List.mem_cons_self ..)
  obtain⟨u,v,hl'⟩:=List.append_of_mem hm
  have key:∃(u:List α) (b:α) (v:List α),l'=u++b::v∧(∀x∈u,dP le a x=false)∧dP le a b=true:=by
   have hne:l'.filter (dP le a)≠[]:=fun hh=>by
    have:a∈l'.filter (dP le a):=List.mem_filter.2 ⟨hm,by unfold dP;rw[o.refl];rfl⟩
    rw[hh]at this;cases this
   clear hl' u v hm h
   induction l' with
   |nil=>exact absurd rfl hne
   |cons c l' ih=>
    by_cases hc:dP le a c=true
    ·exact⟨[],c,l',rfl,by simp,hc⟩
    ·rw[List.filter_cons_of_neg hc]at hne
     obtain⟨u,b,v,e,f,g⟩:=ih hne
     refine⟨c::u,b,v,by rw[e];rfl,fun x hx=>?_,g⟩
     rcases List.mem_cons.1 hx with rfl|hx
     ·simpa using hc
     ·exact f x hx
  obtain⟨u,b,v,rfl,hu,hb⟩:=key
  have e1:dP le a a=true:=by unfold dP;rw[o.refl];rfl
  have hfa:=h a
  have hun:u.filter (dP le a)=[]:=List.filter_eq_nil_iff.2 fun x hx=>by rw[hu x hx];simp
  rw[List.filter_cons_of_pos e1,List.filter_append,hun,List.nil_append,List.filter_cons_of_pos hb]at hfa
  have hab:a=b:=by injection hfa
  subst hab
  have h2:bw le l (u++v):=fun x=>by
   have hx:=h x
   rw[List.filter_cons,List.filter_append,List.filter_cons]at hx
   rw[List.filter_append]
   by_cases hxa:dP le x a=true
   ·rw[if_pos hxa,if_pos hxa]at hx
    have hux:u.filter (dP le x)=[]:=List.filter_eq_nil_iff.2 fun y hy hxy=>by
     have:=hu y hy
     unfold dP at this hxa hxy
     simp only[Bool.and_eq_true]at hxa hxy
     rw[o.trans _ _ _ hxa.2 hxy.1,o.trans _ _ _ hxy.2 hxa.1]at this
     cases this
    rw[hux,List.nil_append]at hx⊢
    injection hx
   ·rw[if_neg hxa,if_neg hxa]at hx
    exact hx
  rw[List.length_cons,k6 o h2]
  simp;omega
end
end Wl
