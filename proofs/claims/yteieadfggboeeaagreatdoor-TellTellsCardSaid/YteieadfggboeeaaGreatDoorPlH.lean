/- Part of the proofs that the laws of this seat answer true whatever the input reads, and leave it as it was; no condition. -/
import Derived.Test.YteieadfggboeeaaGreatDoorPlG
import Derived.Test.YteieadfggboeeaaGreatDoorPlF
import Derived.Test.YteieadfggboeeaaGreatDoorPlC
set_option linter.unusedVariables false
set_option linter.unusedSimpArgs false
namespace Wl
open Go
def b8 (n:Int):UInt8:=UInt8.ofNat (n%256).toNat
theorem bD (n:Int):IntKind.wrap .u8 n=((b8 n).toNat:Int):=by
 have h0:=Int.emod_nonneg n (show(256:Int)≠0 by decide)
 have h1:=Int.emod_lt_of_pos n (show(0:Int)<256 by decide)
 have e:((b8 n).toNat:Int)=n%256:=by
  unfold b8
  rw[UInt8.toNat_ofNat']
  omega
 rw[e]
 unfold IntKind.wrap
 simp[IntKind.bits,IntKind.signed]
abbrev gO:=BitVec 32
def ov (s:gO):gO:=if s&&&1#32=1#32 then(s>>>1)^^^3988292384#32 else s>>>1
def kl:Nat→gO→gO
 |0,s=>s
 |n+1,s=>ov (kl n s)
def tB (s:gO) (x:UInt8):gO:=kl 8 (s^^^BitVec.ofNat 32 x.toNat)
def io (l:List UInt8):gO:=l.foldl tB 4294967295#32
def rv (l:List UInt8):gO:=4294967295#32^^^io l
theorem uf (l:List UInt8) (x:UInt8):io (l++[x])=tB (io l) x:=by unfold io;rw[List.foldl_append];rfl
theorem rx (s:gO):IntKind.wrap .u32 ((s.toNat:Nat):Int)=(s.toNat:Int):=by
 have:=s.isLt
 unfold IntKind.wrap
 simp[IntKind.bits,IntKind.signed]
 omega
theorem ug (a b:gO):IntKind.wrap .u32 ((BitVec.ofInt (IntKind.bits .u32) (a.toNat:Int)^^^BitVec.ofInt (IntKind.bits .u32) (b.toNat:Int)).toNat:Nat)=((a^^^b).toNat:Int):=by
 show IntKind.wrap .u32 (((BitVec.ofInt 32 (a.toNat:Int)^^^BitVec.ofInt 32 (b.toNat:Int):BitVec 32).toNat:Nat):Int)=_
 rw[BitVec.ofInt_natCast,BitVec.ofInt_natCast,BitVec.ofNat_toNat,BitVec.ofNat_toNat,BitVec.setWidth_eq,BitVec.setWidth_eq,rx]
theorem yU (a b:gO):IntKind.wrap .u32 ((BitVec.ofInt (IntKind.bits .u32) (a.toNat:Int)&&&BitVec.ofInt (IntKind.bits .u32) (b.toNat:Int)).toNat:Nat)=((a&&&b).toNat:Int):=by
 show IntKind.wrap .u32 (((BitVec.ofInt 32 (a.toNat:Int)&&&BitVec.ofInt 32 (b.toNat:Int):BitVec 32).toNat:Nat):Int)=_
 rw[BitVec.ofInt_natCast,BitVec.ofInt_natCast,BitVec.ofNat_toNat,BitVec.ofNat_toNat,BitVec.setWidth_eq,BitVec.setWidth_eq,rx]
theorem vh (n:Int):IntKind.wrap .u32 n=((BitVec.ofInt 32 n).toNat:Int):=by
 unfold IntKind.wrap
 simp[IntKind.bits,IntKind.signed,BitVec.toNat_ofInt]
 omega
theorem xC (s:gO):Int.fdiv (s.toNat:Int) (2^min (1:Int).toNat (IntKind.bits .u32))=((s>>>1).toNat:Int):=by
 rw[show min (1:Int).toNat (IntKind.bits .u32)=1 from rfl,Int.fdiv_eq_ediv_of_nonneg _ (by decide),BitVec.toNat_ushiftRight,Nat.shiftRight_eq_div_pow]
 simp
theorem tC (s:gO):((s&&&1#32).toNat:Int)=1↔s&&&1#32=1#32:=by
 constructor
 ·intro h
  apply BitVec.eq_of_toNat_eq
  have:(1#32:gO).toNat=1:=rfl
  omega
 ·intro h;rw[h];rfl
def hG (s:gO):List UInt8:=(List.range 4).map fun i=>b8 (Int.fdiv (s.toNat:Int) (2^(8*i)))
theorem ry (s:gO):(hG s).length=4:=by simp[hG]
def bP (kind:Int) (body:List UInt8):List UInt8:=[87,115,1,b8 kind]++body++List.replicate (55-body.length) 0
def eK (kind:Int) (body:List UInt8):List UInt8:=
 if 1≤kind∧kind≤255∧body.length≤55 then bP kind body++hG (rv (bP kind body))++[165]else[]
theorem mf {kind:Int} {body:List UInt8} (h:body.length≤55):(bP kind body).length=59:=by simp[bP];omega
theorem sA {kind:Int} {body:List UInt8} (h1:1≤kind) (h2:kind≤255) (h3:body.length≤55):(eK kind body).length=64:=by
 unfold eK;rw[if_pos ⟨h1,h2,h3⟩];simp[mf h3,ry]
end Wl
namespace Go.Vc
open Go
section
variable {α:Type} {C:Ctx} {B:aj} {h0 h:Heap} {As:List HP} {e t k:Nat} {s:Sl} {f:α→List Value} {l:List α} {i:TI}
end
end Go.Vc
namespace Go.Vc
open Go
def HP.all:List HP→HP
 |[]=>emp
 |A::L=>A.sep (HP.all L)
section
variable {B:aj} {h0 h h':Heap} {As L:List HP} {A D E:HP}
theorem ab.km:∀{L:List HP} {As:List HP},ab B h0 h (HP.all L::As)→ab B h0 h (L++As)
 |[],_,H=>H.rest
 |A::L,As,H=>by
  have H1:ab B h0 h (HP.all L::A::As):=H.rq
  have H2:=ab.km H1
  exact H2.pick (fun i=>if i=0 then L.length else if i≤L.length then i-1 else i) (fun a b hab=>by(try dsimp only at hab);split at hab<;>split at hab<;>(try split at hab)<;>(try split at hab)<;>omega) fun i X hi=>by
   try dsimp only
   rw[List.cons_append]at hi
   cases i with
   |zero=>simp at hi;subst hi;rw[if_pos rfl,List.getElem?_append_right (Nat.le_refl _),Nat.sub_self];rfl
   |succ i=>
    rw[List.getElem?_cons_succ]at hi
    rw[if_neg (by omega)]
    by_cases hl:i<L.length
    ·rw[List.getElem?_append_left hl]at hi
     rw[if_pos (by omega),List.getElem?_append_left (by omega)];simpa using hi
    ·rw[List.getElem?_append_right (by omega)]at hi
     rw[if_neg (by omega),List.getElem?_append_right (by omega)]
     rw[show i+1-L.length=(i-L.length)+1 by omega,List.getElem?_cons_succ];exact hi
theorem ab.closeAll:∀(L:List HP) {As:List HP},ab B h0 h (L++As)→ab B h0 h (HP.all L::As)
 |[],As,H=>((H.comp (.one (A:=emp) (ax.refl _ _) trivial)).cz:ab B h0 h (emp::As))
 |A::L,As,H=>by
  have H1:ab B h0 h (L++(A::As)):=H.pick (fun i=>if i<L.length then i+1 else if i=L.length then 0 else i) (fun a b hab=>by(try dsimp only at hab);split at hab<;>split at hab<;>(try split at hab)<;>(try split at hab)<;>omega) fun i X hi=>by
   try dsimp only
   by_cases hl:i<L.length
   ·rw[List.getElem?_append_left hl]at hi
    rw[if_pos hl,List.cons_append,List.getElem?_cons_succ,List.getElem?_append_left hl];exact hi
   ·rw[List.getElem?_append_right (by omega)]at hi
    by_cases he:i=L.length
    ·subst he
     rw[Nat.sub_self]at hi
     rw[if_neg (by omega),if_pos rfl];simpa using hi
    ·rw[if_neg hl,if_neg he,List.cons_append]
     obtain⟨j,rfl⟩:∃j,i=L.length+(j+1):=⟨i-L.length-1,by omega⟩
     rw[Nat.add_sub_cancel_left,List.getElem?_cons_succ]at hi
     rw[show L.length+(j+1)=(L.length+j)+1 by omega,List.getElem?_cons_succ,List.getElem?_append_right (by omega),Nat.add_sub_cancel_left];exact hi
  exact(ab.closeAll L H1).qI
theorem ab.pk {P:Prop} (H:ab B h0 h (A.and P::As)):ab B h0 h (A::As)∧P:=⟨H.yR 0 rfl,H.fact 0 rfl⟩
theorem ab.topk {P:Prop} (H:ab B h0 h (A::As)) (p:P):ab B h0 h (A.and P::As):=H.yS 0 rfl p
end
def jx {α:Type} (e:TypeId) (s:Sl) (e2:TypeId) (k:Nat) (f:α→List Value) (ll:List (List α)):HP:=
 HP.ex fun rs:List Sl=>(HP.all (aw e s 1 fI rs::cQ e2 k f rs ll)).and (rs.length=ll.length)
section
variable {α:Type} {C:Ctx} {B:aj} {h0 h h':Heap} {As:List HP} {e e2 k t by_:Nat} {s:Sl} {f:α→List Value} {ll:List (List α)}
theorem ab.xb (H:ab B h0 h (jx e s e2 k f ll::As)):∃rs:List Sl,rs.length=ll.length∧ab B h0 h ((aw e s 1 fI rs::cQ e2 k f rs ll)++As):=by
 obtain⟨rs,H⟩:=H.qH
 obtain⟨H,hl⟩:=H.pk
 exact⟨rs,hl,H.km⟩
theorem ab.vi {rs:List Sl} (hl:rs.length=ll.length) (H:ab B h0 h ((aw e s 1 fI rs::cQ e2 k f rs ll)++As)):ab B h0 h (jx e s e2 k f ll::As):=
 ((ab.closeAll _ H).topk hl).rp (F:=fun rs:List Sl=>(HP.all (aw e s 1 fI rs::cQ e2 k f rs ll)).and (rs.length=ll.length)) rs
theorem ab.uh (H:ab B h0 h As) (e e2 k:Nat) (f:α→List Value):ab B h0 h (jx e ⟨none,0,0⟩ e2 k f []::As):=
 ab.vi (rs:=[]) rfl ((H.nil e 1 fI).cz)
theorem ab.ym (H:ab B h0 h (jx e s e2 k f ll::As)):s.len=ll.length∧s.len≤s.cap:=by
 obtain⟨rs,hl,H⟩:=H.xb
 exact⟨by rw[(H.own 0 rfl).len,hl],(H.own 0 rfl).cap⟩
theorem ab.xc (hC:C.Ok) {r:Sl} {x:List α} (H:ab B h0 h (jx e s e2 k f ll::aw e2 r k f x::As)) (he:bf C.tokh t e 1 [.slice none 0 0] 24) (hsz:ll.length+1≤2^32) {ty:Nat} {K:Sl→Heap→Prop}
  (hk:∀s' h',ab B h0 h' (jx e s' e2 k f (ll++[x])::As)→K s' h'):
  au C.P (Instr.buildSlice t 1 #[(0,.slice r.ptr r.len r.cap)]) (.one (.sc .slc)) h fun v h1=>au C.P (Builtin.append_ #[t,t] ty #[.slice s.ptr s.len s.cap,.slice v.ptr v.len v.cap]) (.one (.sc .slc)) h1 K:=by
 obtain⟨rs,hl,H⟩:=H.xb
 refine H.push hC 0 rfl he rfl (by decide) (fun _=>rfl) yh r rfl (by decide) (by omega) fun s' h' H'=>hk s' h' ?_
 refine ab.vi (rs:=rs++[r]) (by simp[hl]) ?_
 rw[rf hl]
 have H':ab B h0 h' (aw e s' 1 fI (rs++[r])::(cQ e2 k f rs ll++aw e2 r k f x::As)):=H'
 have e1:aw e s' 1 fI (rs++[r])::(cQ e2 k f rs ll++[aw e2 r k f x])++As=aw e s' 1 fI (rs++[r])::(cQ e2 k f rs ll++aw e2 r k f x::As):=by simp
 rw[e1];exact H'
end
end Go.Vc
namespace Go.Vc
open Go
section
variable {C:Ctx} {t t2 ty e k:Nat} {z:List Value} {by_:Nat} {α:Type} {h h0:Heap} {p B:aj} {s v:Sl} {f:α→List Value} {l l2:List α} {As:List HP}
theorem Own.rz (hC:C.Ok) (he:bf C.tokh t e k z by_) (hw:∀x,(f x).length=k) (ho:Own h e s k f l) (hv:Seq h p v k f l2) (hone:∀x,∀c∈f x,c.oneCell'=true) (j:Nat) (hj:j≤l.length) {pt:Option Addr} {ln cp:Nat} (hpt:pt=if s.cap=j then s.ptr else s.ptr.map (·.add (j*k))) (hln:ln=s.len-j) {K:Int→Heap→Prop}
  (hk:∀n h',Own h' e s k f (l.take j++(l2.take (l.length-j)++l.drop (j+l2.length)))→ax (fun b=>¬s.on b) h h'→K n h'):
  au C.P (Builtin.copy_ #[t,t2] ty #[.slice pt ln cp,.slice v.ptr v.len v.cap]) (.one (.sc (.int .i64))) h K:=by
 unfold au Builtin.copy_
 simp only[List.getElem?_toArray,List.getElem?_cons_zero,List.getElem?_cons_succ]
 refine aa.bind (aa.always (ak (he.under hC)) ?_)
 refine aa.bind (aa.pure' ?_)
 refine aa.bind (aa.always (he.size hC) ?_)
 have hl1:=ho.len;have hl2:=hv.len
 have hcap:=ho.cap
 obtain⟨m,hm⟩:∃m,m=Nat.min v.len ln:=⟨_,rfl⟩
 rw[←hm]
 have hm1:m≤l2.length:=by rw[hm,←hl2];exact Nat.min_le_left _ _
 have hm2:m≤l.length-j:=by rw[hm,←hl1,hln];exact Nat.min_le_right _ _
 have hm3:m=min l2.length (l.length-j):=by rw[hm,hln,hl1,hl2]
 have hv':=hv.take m hm1
 have e0:l2.take (l.length-j)++l.drop (j+l2.length)=l2.take m++l.drop (j+m):=by
  rcases Nat.le_total l2.length (l.length-j)with hh|hh
  ·rw[List.take_of_length_le hh,show m=l2.length by omega,List.take_length]
  ·rw[show m=l.length-j by omega,List.drop_of_length_le (show l.length≤j+l2.length by omega),List.drop_of_length_le (by omega)]
 rw[e0]at hk
 have efc:Builtin.firstCells k m (.slice v.ptr v.len v.cap)=Builtin.firstCells k m (.slice v.ptr m v.cap):=by cases v.ptr<;>rfl
 rw[efc]
 refine aa.bind (ce (v:=⟨v.ptr,m,v.cap⟩) hw hv' ?_)
 have triv:m=0→l.take j++(l2.take m++l.drop (j+m))=l:=fun e=>by rw[e];simp
 rcases ho.head with⟨h1,h2,h3⟩|⟨b,rest,h1,h2,h3,h4⟩
 ·have hp0:pt=none:=by rw[hpt,h1];split<;>rfl
  rw[hp0]
  subst h3
  have:m=0:=by simp at hm2;exact hm2
  refine aa.pure' ⟨_,rfl,hk _ h ?_ (ax.refl _ _)⟩
  rw[triv this];exact ho
 ·by_cases hcj:s.cap=j
  ·have hp0:pt=some ⟨b,0,none⟩:=by rw[hpt,if_pos hcj,h1]
   rw[hp0]
   have hm0:m=0:=by omega
   refine aa.bind ?_
   rw[hm0]
   simp only[List.take_zero,List.flatMap_nil]
   exact aa.pure' (aa.pure' ⟨_,rfl,hk _ h (by rw[triv hm0];exact ho) (ax.refl _ _)⟩)
  ·have hp0:pt=some ⟨b,0+j*k,none⟩:=by rw[hpt,if_neg hcj,h1];simp only[Option.map_some];rw[add_eq]
   rw[hp0]
   refine aa.bind ?_
   have esp:l.flatMap f++rest=(l.take j).flatMap f++((l.drop j).take m).flatMap f++((l.drop (j+m)).flatMap f++rest):=by
    rw[←List.append_assoc,←List.flatMap_append,←List.flatMap_append,←List.drop_drop,List.append_assoc (List.take j l),List.take_append_drop,List.take_append_drop]
   rw[esp]at h2
   refine cd (e:=e) (pre:=(l.take j).flatMap f) (old:=((l.drop j).take m).flatMap f) (post:=(l.drop (j+m)).flatMap f++rest) h2 (by rw[bO hw,bO hw,List.length_take,List.length_take,List.length_drop];congr 1;omega) (by rw[bO hw,List.length_take];rw[Nat.min_eq_left hj];omega) ?_ ?_
   ·intro c hc
    obtain⟨x,_,hxc⟩:=List.mem_flatMap.1 hc
    exact hone x c hxc
   ·refine aa.pure' ⟨_,rfl,hk _ _ ⟨by rw[hl1,List.length_append,List.length_append,List.length_take,List.length_take,List.length_drop];omega,.inr ⟨b,rest,h1,?_,h3,h4⟩⟩ (ax.cX h2 (fun hn=>hn ⟨0,h1⟩))⟩
    rw[cY h2,if_pos rfl,List.flatMap_append,List.flatMap_append];simp[List.append_assoc]
theorem ab.rz (hC:C.Ok) (H:ab B h0 h As) (i:Nat) (hi:As[i]?=some (aw e s k f l)) (he:bf C.tokh t e k z by_) (hw:∀x,(f x).length=k) (hv:Seq h p v k f l2) (hone:∀x,∀c∈f x,c.oneCell'=true) (j:Nat) (hj:j≤l.length) {pt:Option Addr} {ln cp:Nat} (hpt:pt=if s.cap=j then s.ptr else s.ptr.map (·.add (j*k))) (hln:ln=s.len-j) {K:Int→Heap→Prop}
  (hk:∀n h',ab B h0 h' (As.set i (aw e s k f (l.take j++(l2.take (l.length-j)++l.drop (j+l2.length)))))→K n h'):
  au C.P (Builtin.copy_ #[t,t2] ty #[.slice pt ln cp,.slice v.ptr v.len v.cap]) (.one (.sc (.int .i64))) h K:=
 (H.own i hi).rz hC he hw hv hone j hj hpt hln fun n h' x y=>hk n h' (H.mO i hi y x)
end
end Go.Vc
namespace Go.Vc
open Go
def cw (s:ByteArray):List UInt8:=s.data.toList
theorem kS (s:ByteArray):(cw s).length=s.size:=rfl
def zI (n:Nat):Obj→Obj
 | .cells c elem (lo,hi)=>.cells c elem (if lo==hi then(n,n+1)else(min lo n,max hi (n+1)))
 |o=>o
theorem aa.vj {P:Program} {h:Heap} {b n:Nat} {c:Array Value} {e:TypeId} {K:Unit→Heap→Prop} (hb:h[b]?=some (.cells c e (0,0))) (hn:n=c.size) (hk:∀h',(∀x,x≠b→h'[x]?=h[x]?)→h'.size=h.size→(∃f,h'[b]?=some (.cells c e f))→K () h'):
  aa P (freeze {block:=b,off:=n} 1) h K:=fun w hw=>by
 refine⟨(),w.freeze {block:=b,off:=n} 1,run_freeze P w _ _,⟨rfl,rfl,rfl,Nat.le_refl _⟩,?_⟩
 subst hw
 have hg:(w.freeze {block:=b,off:=n} 1).heap=w.heap.modify b (zI n):=rfl
 refine hk _ (fun x hx=>?_) ?_ ?_
 ·rw[hg,Array.getElem?_modify,if_neg (fun e=>hx e.symm)]
 ·rw[hg];simp
 ·rw[hg,Array.getElem?_modify,if_pos rfl,hb]
  exact⟨_,rfl⟩
section
variable {C:Ctx} {B:aj} {h h0:Heap} {As:List HP} {t e ts:Nat}
theorem xD (hC:C.Ok) (hs:∃i,C.T.get ts=some i∧i.aQ=.str) (ht:∃i,C.T.get t=some i∧i.aQ=.slice e) (he:∃i,C.T.get e=some i∧i.aQ=.int .u8) (s:ByteArray) {K:Sl→Heap→Prop} (hk:∀r h',Sp h h' [wr r 1 aB (cw s)]→K r h'):
  au C.P (convert ts t (.string s)) (.one (.sc .slc)) h K:=by
 obtain⟨i1,a1,b1⟩:=hs
 obtain⟨i2,a2,b2⟩:=ht
 obtain⟨i3,a3,b3⟩:=he
 have u1:C.P.underlying ts=some .string:=by have:=hC.aQ a1;rw[b1]at this;exact iC this
 have u2:C.P.underlying t=some (.slice e):=by have:=hC.aQ a2;rw[b2]at this;exact cS this
 have u3:C.P.underlying e=some (.int .u8):=by have:=hC.aQ a3;rw[b3]at this;exact mJ this
 unfold au convert
 refine aa.bind (aa.always (ak u1) ?_)
 refine aa.bind (aa.always (ak u2) ?_)
 refine aa.bind (aa.always (ak u3) ?_)
 unfold Conv.stringToBytes
 refine aa.bind (aa.oZ ⟨fun hf=>(by cases hf),fun _ nn=>?_⟩)
 generalize hcc:Question.cut (Question.appendCap s.size 0 e) nn=cc
 have hcc':s.size≤cc:=by rw[←hcc];simp only[Question.cut];omega
 unfold newRow
 refine aa.bind (aa.bind (aa.ft (aa.pure' ?_)))
 unfold markStringish
 obtain⟨cs,hcs⟩:∃cs:Array Value,cs=s.data.map (fun b=>Value.int .u8 b.toNat)++Array.replicate (cc-s.size) (Value.int .u8 0):=⟨_,rfl⟩
 rw[←hcs]
 refine aa.bind (aa.bind (aa.yb ?_))
 have hsh:shapeOf (h.push (.cells cs e)) h.size=some (e,cs.size):=by unfold shapeOf;simp
 dsimp only
 rw[hsh]
 refine aa.vj (c:=cs) (e:=e) (by simp) rfl fun h' k1 k2 k3=>?_
 refine aa.pure' ⟨⟨some ⟨h.size,0,none⟩,s.size,cc⟩,rfl,hk _ _ ?_⟩
 obtain⟨f,k3⟩:=k3
 refine .one ⟨by rw[k2];simp,fun b hb _=>by rw[k1 b (by omega),Array.getElem?_push,if_neg (by omega)]⟩ ?_
 refine⟨by rw[kS],fun i x hx=>⟨h.size,0,rfl,⟨Nat.le_refl _,by rw[k2];simp⟩,?_,trivial⟩⟩
 rw[add_zero]
 have hi:i<s.data.size:=by have:=(List.getElem?_eq_some_iff.1 hx).1;simpa[cw]using this
 unfold cellOf
 simp only[k3,Nat.mul_one,Nat.zero_add,Option.isSome_none,Bool.false_eq_true,if_false]
 rw[hcs,Array.getElem?_append_left (by simpa using hi),Array.getElem?_map]
 have:s.data[i]?=some x:=by rw[←hx];simp[cw]
 rw[this];rfl
end
section
variable {C:Ctx} {t t2 e k:Nat} {z:List Value} {by_:Nat} {h h0:Heap} {B:aj} {As:List HP} {s:Sl} {l:List UInt8}
theorem qp (hC:C.Ok) (he:bf C.tokh t e 1 z by_) (h2:∃i,C.T.get t2=some i∧i.aQ=.str) (hz:z.length=1) (hby:0<by_∧by_≤128)
  (ho:Own h e s 1 aB l) (x:ByteArray) (hsz:l.length+x.size≤2^32) {ty:Nat} {K:Sl→Heap→Prop}
  (hk:∀s' h',Own h' e s' 1 aB (l++cw x)→ax (fun b=>¬s.on b) h h'→(∀b,s'.on b→s.on b∨h.size≤b)→K s' h'):
  au C.P (Builtin.append_ #[t,t2] ty #[.slice s.ptr s.len s.cap,.string x]) (.one (.sc .slc)) h K:=by
 obtain⟨i2,g1,g2⟩:=h2
 have hu2:C.P.underlying t2=some .string:=by have:=hC.aQ g1;rw[g2]at this;exact iC this
 obtain⟨inf,x1,x2,x3,zv,x4,x5⟩:=he.info hC
 have hone:∀y∈(cw x).flatMap aB,y.oneCell'=true:=fun y hy=>by
  obtain⟨b,_,hb⟩:=List.mem_flatMap.1 hy
  exact dP b y hb
 have hcells:((x.extract 0 x.size).data.map fun b=>Value.int .u8 (b.toNat:Int))=((cw x).flatMap aB).toArray:=by
  have e0:x.extract 0 x.size=x:=by
   apply ByteArray.ext
   simp[ByteArray.data_extract]
  rw[e0]
  apply Array.ext'
  simp only[Array.toList_map,cw]
  exact List.map_eq_flatMap
 unfold au Builtin.append_
 simp only[List.getElem?_toArray,List.getElem?_cons_zero,List.getElem?_cons_succ]
 refine aa.bind (aa.always (ak (he.under hC)) ?_)
 refine aa.bind (aa.always (he.size hC) ?_)
 refine aa.bind (aa.always (ak hu2) ?_)
 refine aa.bind (aa.pure' ?_)
 simp only[Bool.false_eq_true,if_false,Bool.not_false,if_true]
 refine aa.bind (aa.pure' ?_)
 have hlen:=ho.len
 have hw:∀y,(aB y).length=1:=fun _=>rfl
 have hflat:=bO hw l
 have hflat2:=bO hw (cw x)
 have hxl:=kS x
 have hfc:∀{h:Heap} {K:Array Value→Heap→Prop},K ((cw x).flatMap aB).toArray h→aa C.P (Builtin.firstCells 1 x.size (.string x)) h K:=fun{h K} hK=>by
  unfold Builtin.firstCells
  dsimp only
  rw[hcells]
  exact aa.pure' hK
 by_cases hfit:s.len+x.size≤s.cap
 ·rw[if_pos hfit]
  refine aa.bind (hfc ?_)
  rcases ho.head with⟨p1,p2,p3⟩|⟨b,rest,p1,p2,p3,p4⟩
  ·rw[p1]
   have hx0:cw x=[]:=List.eq_nil_of_length_eq_zero (by omega)
   refine aa.pure' ⟨⟨none,s.len+x.size,s.cap⟩,rfl,hk _ _ ⟨?_,.inl ⟨rfl,p2,by simp[p3,hx0]⟩⟩ (ax.refl _ _) ?_⟩
   ·simp;omega
   ·rintro b' ⟨o,ho'⟩;cases ho'
  ·rw[p1]
   refine aa.bind ?_
   rw[add_eq,Nat.zero_add]
   have hrl:((cw x).flatMap aB).length≤rest.length:=by
    rw[hflat2,p3];omega
   refine cd (e:=e) (pre:=l.flatMap aB) (old:=rest.take ((cw x).flatMap aB).length) (post:=rest.drop ((cw x).flatMap aB).length) ?_ ?_ ?_ ?_ ?_
   ·rw[List.append_assoc,List.take_append_drop];exact p2
   ·rw[List.length_take];exact Nat.min_eq_left hrl
   ·rw[hflat,hlen];omega
   ·intro c hc;exact hone c (by simpa using hc)
   ·refine aa.pure' ⟨⟨some ⟨b,0,none⟩,s.len+x.size,s.cap⟩,rfl,hk _ _ ⟨?_,.inr ⟨b,rest.drop ((cw x).flatMap aB).length,rfl,?_,?_,hfit⟩⟩ ?_ ?_⟩
    ·simp;omega
    ·rw[cY p2,if_pos rfl];simp
    ·rw[List.length_drop,p3,hflat2]
     show(s.cap-s.len)*1-(cw x).length*1=(s.cap-(s.len+x.size))*1
     omega
    ·exact ax.cX p2 (fun hn=>hn ⟨0,p1⟩)
    ·rintro b' ⟨o,ho'⟩;cases ho';exact .inl ⟨0,p1⟩
 ·rw[if_neg hfit]
  have hseq:Seq h (fun _=>True) s 1 aB l:=ho.seq hw (fun _ _=>trivial)
  have hcap:=ho.cap
  refine aa.bind (aa.always (aU x1) ?_)
  rw[if_neg (fun hh=>by rcases hh.2 with h|h<;>first|exact h|(rw[x3]at h;omega))]
  refine aa.bind (aa.always (aU x1) ?_)
  have hnx:=tr (s.len+x.size) s.cap (by omega)
  rw[if_neg (by
   have:Builtin.nextslicecap (s.len+x.size) s.cap*inf.bytes≤(16*2^32+16*768)*128:=Nat.mul_le_mul (by omega) (by rw[x3];exact hby.2)
   omega)]
  refine aa.bind (aa.oZ ⟨fun hf=>(by cases hf),fun _ nn=>?_⟩)
  refine aa.bind (aa.always (aU x1) ?_)
  refine aa.bind (aa.nw ?_)
  refine aa.bind (ce hw hseq ?_)
  refine aa.bind (hfc ?_)
  have hzv:ao C.P (zeroValue e) zv:=(aU x1).bind (by rw[x4];exact .pure)
  refine aa.bind (aa.always hzv ?_)
  rw[x5,lX]
  unfold newRow
  refine aa.bind (aa.bind (aa.ft (aa.pure' (aa.pure' ?_))))
  generalize hcc:Question.cut (Question.appendCap (s.len+x.size) s.cap e) nn=cc
  have hcc':s.len+x.size≤cc:=by rw[←hcc];simp only[Question.cut];omega
  refine⟨⟨some ⟨h.size,0,none⟩,s.len+x.size,cc⟩,rfl,hk _ _ ⟨?_,.inr ⟨h.size,cD z (cc-(s.len+x.size)),rfl,?_,?_,hcc'⟩⟩ (ax.push _ _ _) ?_⟩
  ·simp;omega
  ·simp
  ·rw[fm,hz]
  ·rintro b' ⟨o,ho'⟩;cases ho';exact .inr (Nat.le_refl _)
theorem ab.pU (hC:C.Ok) (H:ab B h0 h As) (i:Nat) (hi:As[i]?=some (aw e s 1 aB l)) (he:bf C.tokh t e 1 z by_) (h2:∃i,C.T.get t2=some i∧i.aQ=.str) (hz:z.length=1) (hby:0<by_∧by_≤128)
  (x:ByteArray) (hsz:l.length+x.size≤2^32) {ty:Nat} {K:Sl→Heap→Prop} (hk:∀s' h',ab B h0 h' (As.set i (aw e s' 1 aB (l++cw x)))→K s' h'):
  au C.P (Builtin.append_ #[t,t2] ty #[.slice s.ptr s.len s.cap,.string x]) (.one (.sc .slc)) h K:=by
 obtain⟨lo,pp,c,zz,a⟩:=H
 have ha:=a i _ hi
 refine qp hC he h2 hz hby ha.1 x hsz fun s' h' ho' hp' hn'=>hk s' h' ?_
 refine ab.qF lo pp zz a (hp'.mono fun b hb hn hc=>hn (ha.2 b hc)) ⟨ho',fun b hb=>⟨ho'.lt hb,?_⟩⟩
 rcases hn' b hb with h1|h1
 ·exact .inl (ha.2 b h1)
 ·exact .inr h1
end
end Go.Vc
namespace Wl
open Go
structure dN where
 name:ByteArray
 object:Int
 length:Int
 tries:List Int
structure bp where
 seq:Int
 next:Int
 p:Int×Int×Int
 extra:Int
 drives:List Int
 objs:List dN
def yV:dN:=⟨⟨#[]⟩,0,0,[]⟩
def gG (l:List dN) (i:Nat):dN:=l.getD i yV
theorem nG {l:List dN} {i:Nat} (h:i<l.length):gG l i=l[i]:=by unfold gG;rw[List.getD_eq_getElem?_getD,List.getElem?_eq_getElem h];rfl
def bX (n a b:Int):Bool:=decide (a≤n)&&decide (n≤b)
def ei (c:UInt8):Bool:=(decide (97≤c.toNat)&&decide (c.toNat≤122))||(decide (48≤c.toNat)&&decide (c.toNat≤57))||decide (c.toNat=45)
def kT (s:ByteArray):Bool:=s.data.toList.all ei&&(decide (1≤s.size)&&decide (s.size≤12))
def ow (a b:ByteArray):Bool:=Op.bytesLess a.toList b.toList
def dQ (l:List Int) (most:Int) (i:Nat):Bool:=bX (l.getD i 0) 0 most&&(decide (i=0)||decide (l.getD (i-1) 0<l.getD i 0))
def mQ (l:List Int) (most:Int):Bool:=(List.range l.length).all (dQ l most)
def countP (p:Int×Int×Int) (n:Int):Int:=if iK p&&decide (0<n)then(n-1)/(p.1*p.2.2)+1 else 0
def dR (m:bp) (x:dN):Bool:=
 kT x.name&&(bX x.object 0 (m.next-1)&&(bX x.length 0 (m.p.1*m.p.2.2*8)&&(x.tries.all (bX · 0 15)&&decide ((x.tries.length:Int)=countP m.p x.length))))
def jy (m:bp) (i:Nat):Bool:=
 dR m (gG m.objs i)&&((decide (i=0)||ow (gG m.objs (i-1)).name (gG m.objs i).name)&&!(m.objs.take i).any fun y=>decide (y.object=(gG m.objs i).object))
def fK (m:bp):Bool:=bX m.seq 1 2147483647&&(bX m.next 0 16777216&&(iK m.p&&bX m.extra 0 16))
def cM (m:bp):Bool:=fK m&&(mQ m.drives 63&&(decide (m.objs.length≤12)&&(List.range m.objs.length).all (jy m)))
theorem mh {p:Nat→Bool} {n i:Nat} (hi:i<n) (h:p i=false):(List.range n).all p=false:=List.all_eq_false.2 ⟨i,List.mem_range.2 hi,by rw[h];simp⟩
theorem lu {p:Nat→Bool} {n:Nat} (h:∀i,i<n→p i=true):(List.range n).all p=true:=List.all_eq_true.2 fun i hi=>h i (List.mem_range.1 hi)
def ct (n:Int) (k:Nat):List UInt8:=(List.range k).map fun i=>b8 (Int.fdiv n (2^(8*(k-1-i))))
theorem cl (n:Int) (k:Nat):(ct n k).length=k:=by simp[ct]
def dY (x:dN):List UInt8:=b8 x.name.size::(x.name.data.toList++(ct x.object 3++(ct x.length 2++x.tries.map b8)))
def fL (m:bp):List UInt8:=
 if cM m then ct m.seq 4++(ct m.next 4++([b8 m.p.1,b8 m.p.2.1,b8 m.p.2.2,b8 m.extra,b8 m.drives.length]++(m.drives.map b8++(b8 m.objs.length::m.objs.flatMap dY))))else[]
def kn (seq number many:Int) (b:List UInt8):List UInt8:=eK 2 (ct seq 4++([b8 number,b8 many,b8 b.length]++b))
def dZ (b:List UInt8):Nat:=(b.length+47)/48
def cA (m:bp):List (List UInt8):=(List.range (dZ (fL m))).map fun i:Nat=>kn m.seq i (dZ (fL m)) (((fL m).drop (48*i)).take 48)
theorem vk {m:bp} (h:cM m=true):fK m=true:=by unfold cM at h;simp at h;exact h.1
theorem rA {m:bp} (h:fK m=true):(1≤m.seq∧m.seq≤2147483647)∧(0≤m.next∧m.next≤16777216)∧iK m.p=true∧0≤m.extra∧m.extra≤16:=by
 unfold fK bX at h;simpa[and_assoc]using h
theorem ui {m:bp} {c:List UInt8} (h:c∈cA m):c.length=64:=by
 unfold cA at h
 obtain⟨i,_,rfl⟩:=List.mem_map.1 h
 exact sA (by decide) (by decide) (by simp[cl];omega)
end Wl
