/- Part of the proofs that the laws of this seat answer true whatever the input reads, and leave it as it was; no condition. -/
import Derived.Test.YteieadfggboeeaaGreatDoorKF
import Derived.Test.YteieadfggboeeaaGreatDoorPlN
import Derived.SliceStrings
import Derived.Lib.SmallJoins
import Derived.Lib.LaidTab
import Derived.LaidSub
set_option linter.unusedVariables false
set_option linter.unusedSimpArgs false
namespace Go.Vc
open Go Go.RowKit Go.ChangeShapes Go.WideShapes Go.Joins Go.Deep Go.Qw Wl
section
variable {H:Type} {enc:TypeId×Value→H} {P:Program} {W W':World}
def so:List Field→List (Nat×Nat)→Bool
 |[],[]=>true
 |f::fs,x::xs=>Nat.beq f.offset x.1&&Nat.beq f.type x.2&&so fs xs
 |_,_=>false
def gD (P:Program) (t:TypeId) (n:Nat) (l:List (Nat×Nat)):Bool:=
 match P.underlying t with
 |some (.struct ⟨fs⟩)=>so fs l&&Nat.beq (P.cellsOf t) n
 |_=>false
theorem vX:∀{fs:List Field} {l:List (Nat×Nat)},so fs l=true→∀(i:Nat) (x:Nat×Nat),l[i]?=some x→∃f:Field,fs[i]?=some f∧f.offset=x.1∧f.type=x.2
 |[],[],_,i,x,h=>by simp at h
 |f::fs,y::l,h,0,x,hx=>by
  simp only[so,Bool.and_eq_true]at h
  simp at hx
  subst hx
  exact⟨f,rfl,Nat.eq_of_beq_eq_true h.1.1,Nat.eq_of_beq_eq_true h.1.2⟩
 |f::fs,y::l,h,i+1,x,hx=>by
  simp only[so,Bool.and_eq_true]at h
  exact vX h.2 i x hx
theorem ke {t:TypeId} {n fuel:Nat} {l:List (Nat×Nat)} {cs:List Value} {x:DataW H×List MemPlace} (hB:gD P t n l=true) (h:DataW.trod enc P W 0 (fun _=>true) true fuel t cs=some x):
  cs.length=n∧∃m,∀(i o u:Nat),l[i]?=some (o,u)→∃y,DataW.trod enc P W 0 (fun _=>true) true m u ((cs.drop o).take (P.cellsOf u))=some y:=by
 unfold gD at hB
 split at hB
 ·rename_i fs hs
  simp only[Bool.and_eq_true]at hB
  obtain⟨xs,m,_,_,hl,hx,hf⟩:=DataW.trod_struct hs h
  refine⟨hl.trans (Nat.eq_of_beq_eq_true hB.2),m,fun i o u hi=>?_⟩
  obtain⟨f,e,rfl,rfl⟩:=vX hB.1 i _ hi
  have hlt:i<xs.length:=by rw[hx];exact(List.getElem?_eq_some_iff.1 e).1
  exact⟨xs[i],by rw[hf i f (by simpa using e),List.getElem?_eq_getElem hlt]⟩
 ·cases hB
theorem zx {α:Type} {l:List α} (h:l.length=8):∃c0 c1 c2 c3 c4 c5 c6 c7,l=[c0,c1,c2,c3,c4,c5,c6,c7]:=by
 match l,h with
 |[c0,c1,c2,c3,c4,c5,c6,c7],_=>exact⟨c0,c1,c2,c3,c4,c5,c6,c7,rfl⟩
theorem zy {α:Type} {l:List α} (h:l.length=9):∃c0 c1 c2 c3 c4 c5 c6 c7 c8,l=[c0,c1,c2,c3,c4,c5,c6,c7,c8]:=by
 match l,h with
 |[c0,c1,c2,c3,c4,c5,c6,c7,c8],_=>exact⟨c0,c1,c2,c3,c4,c5,c6,c7,c8,rfl⟩
theorem qo {v:Value} {n:Nat} {r:_root_.Go.Reach} {b0:Nat} {t:TypeId} {l:List (Nat×Nat)} (hB:gD P t n l=true) (hv:Value.okWide P W r b0 t v):∃cs:List Value,v=.agg cs.toArray∧(Value.cells v).toList=cs:=by
 unfold gD at hB
 split at hB
 ·rename_i fs hs
  obtain⟨cs,rfl,_⟩:=okWide_struct hs hv
  exact⟨cs.toList,by simp,by simp[Value.cells]⟩
 ·cases hB
structure uQ (P:Program) (i s b y u r n a:TypeId):Prop where
 fi:P.underlying i=some (.int .i64)
 ci:P.cellsOf i=1
 fs:P.underlying s=some .string
 cs:P.cellsOf s=1
 fb:P.underlying b=some (.slice y)
 cb:P.cellsOf b=1
 fy:P.underlying y=some (.int .u8)
 cy:P.cellsOf y=1
 fu:P.underlying u=some (.int .u32)
 cu:P.cellsOf u=1
 fr:P.underlying r=some (.slice i)
 cr:P.cellsOf r=1
 fn:P.underlying n=some (.slice s)
 cn:P.cellsOf n=1
 fa:P.underlying a=some (.int .i64)
 ca:P.cellsOf a=1
theorem vY {r:_root_.Go.Reach} {b0:Nat} {i s b y u q n a t:TypeId} {v:Value} {d:DataW H} {p:List MemPlace} (F:uQ P i s b y u q n a) (hB:gD P t 9 [(0,i),(1,s),(2,b),(3,i),(4,i),(5,i),(6,u),(7,q),(8,q)]=true)
  (hv:Value.okWide P W r b0 t v) (h:DataW.Trod enc P W 0 (fun _=>true) true t v d p):∃z:cC,v=eR z:=by
 obtain⟨fuel,h⟩:=h
 obtain⟨cs,rfl,e⟩:=qo hB hv
 rw[e]at h
 obtain⟨hl,m,hf⟩:=ke hB h
 obtain⟨c0,c1,c2,c3,c4,c5,c6,c7,c8,rfl⟩:=zy hl
 obtain⟨_,g0⟩:=hf 0 0 i rfl
 obtain⟨_,g1⟩:=hf 1 1 s rfl
 obtain⟨_,g2⟩:=hf 2 2 b rfl
 obtain⟨_,g3⟩:=hf 3 3 i rfl
 obtain⟨_,g4⟩:=hf 4 4 i rfl
 obtain⟨_,g5⟩:=hf 5 5 i rfl
 obtain⟨_,g6⟩:=hf 6 6 u rfl
 obtain⟨_,g7⟩:=hf 7 7 q rfl
 obtain⟨_,g8⟩:=hf 8 8 q rfl
 rw[F.ci]at g0 g3 g4 g5
 rw[F.cs]at g1
 rw[F.cb]at g2
 rw[F.cu]at g6
 rw[F.cr]at g7 g8
 obtain⟨x0,e0,_⟩:=DataW.trod_int F.fi g0
 obtain⟨x1,e1,_⟩:=DataW.trod_string F.fs g1
 obtain⟨p2,l2,k2,e2⟩:=slice_form F.fb g2
 obtain⟨x3,e3,_⟩:=DataW.trod_int F.fi g3
 obtain⟨x4,e4,_⟩:=DataW.trod_int F.fi g4
 obtain⟨x5,e5,_⟩:=DataW.trod_int F.fi g5
 obtain⟨x6,e6,_⟩:=DataW.trod_int F.fu g6
 obtain⟨p7,l7,k7,e7⟩:=slice_form F.fr g7
 obtain⟨p8,l8,k8,e8⟩:=slice_form F.fr g8
 simp at e0 e1 e2 e3 e4 e5 e6 e7 e8
 subst e0 e1 e2 e3 e4 e5 e6 e7 e8
 exact⟨(x0,x1,⟨p2,l2,k2⟩,x3,x4,x5,x6,⟨p7,l7,k7⟩,⟨p8,l8,k8⟩),rfl⟩
theorem kE {z:Int} (h:(Lit.int .i64 z).wf=true):cO z:=by
 simp[Lit.wf]at h
 have e1:IntKind.i64.min=-9223372036854775808:=rfl
 have e2:IntKind.i64.max=9223372036854775807:=rfl
 exact⟨by omega,by omega⟩
theorem vZ {t e:TypeId} {n:Nat} {v:Value} {x:DataW H×List MemPlace} (ht:P.underlying t=some (.slice e)) (he:P.underlying e=some (.int .i64)) (hc:P.cellsOf e=1)
  (h:DataW.trod enc P W 0 (fun _=>true) true n t [v]=some x):∃(s:Sl) (l:List Int),v=.slice s.ptr s.len s.cap∧Seq W.heap (fun b=>b<W.heap.size) s 1 aA l∧∀z∈l,cO z:=by
 rcases open_ints ht he hc h with⟨h1,_⟩|⟨a,len,cap,zs,h1,_,hle,_,hz,_,hcell,hwf⟩
 ·simp at h1
  exact⟨⟨none,0,0⟩,[],h1,Seq.nil _ _ _ _ _ _,fun z hz=>by simp at hz⟩
 ·simp at h1
  simp only[if_true]at hz
  refine⟨⟨some a,len,cap⟩,zs.take len,h1,rC (f:=fun x=>.int .i64 x) (by simp;omega) fun i hi=>?_,fun z hz'=>kE (hwf z (List.mem_of_mem_take hz'))⟩
  simp at hi
  rw[←gH,hcell i (by omega)]
  simp[List.getD_eq_getElem?_getD,List.getElem?_eq_getElem (show i<zs.length by omega)]
theorem tj {t e:TypeId} {n:Nat} {v:Value} {x:DataW H×List MemPlace} (ht:P.underlying t=some (.slice e)) (he:P.underlying e=some (.int .u8)) (hc:P.cellsOf e=1)
  (h:DataW.trod enc P W 0 (fun _=>true) true n t [v]=some x):∃(s:Sl) (l:List UInt8),v=.slice s.ptr s.len s.cap∧Seq W.heap (fun b=>b<W.heap.size) s 1 aB l:=by
 obtain⟨p,l,c,e1⟩:=slice_form ht h
 simp at e1
 subst e1
 obtain⟨s,l,e1,e2,_⟩:=vp (d:=x.1) (ps:=x.2) ht he hc ⟨_,_,_,rfl⟩ ⟨n,by simpa[Value.cells]using h⟩
 exact⟨s,l,e1,e2⟩
theorem wa {t e:TypeId} {n:Nat} {v:Value} {x:DataW H×List MemPlace} (ht:P.underlying t=some (.slice e)) (he:P.underlying e=some .string) (hc:P.cellsOf e=1)
  (h:DataW.trod enc P W 0 (fun _=>true) true n t [v]=some x):∃(s:Sl) (l:List ByteArray),v=.slice s.ptr s.len s.cap∧Seq W.heap (fun b=>b<W.heap.size) s 1 ma l:=by
 rcases open_strings ht he hc h with⟨h1,_⟩|⟨a,len,cap,zs,h1,_,hle,_,hz,_,hcell,_⟩
 ·simp at h1
  exact⟨⟨none,0,0⟩,[],h1,Seq.nil _ _ _ _ _ _⟩
 ·simp at h1
  simp only[if_true]at hz
  refine⟨⟨some a,len,cap⟩,zs.take len,h1,rC (f:=fun x=>.string x) (by simp;omega) fun i hi=>?_⟩
  simp at hi
  rw[←gH,hcell i (by omega)]
  simp[List.getD_eq_getElem?_getD,List.getElem?_eq_getElem (show i<zs.length by omega)]
theorem tk {r:_root_.Go.Reach} {b0:Nat} {i s b y u q n a t st:TypeId} {v:Value} {d:DataW H} {p:List MemPlace} (F:uQ P i s b y u q n a) (hB:gD P t 8 [(0,a),(1,b),(2,n),(3,st),(7,i)]=true)
  (hS:gD P st 4 [(0,i),(1,i),(2,i),(3,q)]=true) (hC:P.cellsOf st=4)
  (hv:Value.okWide P W r b0 t v) (h:DataW.Trod enc P W 0 (fun _=>true) true t v d p):
  ∃(z:ej) (dl:List UInt8) (ns:List ByteArray) (ts:List Int),v=jY z∧lm W.heap z dl ns ts∧(cO z.1∧(cO z.2.2.2.1∧cO z.2.2.2.2.1∧cO z.2.2.2.2.2.1)∧cO z.2.2.2.2.2.2.2)∧∀x∈ts,cO x:=by
 obtain⟨fuel,h⟩:=h
 obtain⟨cs,rfl,e⟩:=qo hB hv
 rw[e]at h
 obtain⟨hl,m,hf⟩:=ke hB h
 obtain⟨c0,c1,c2,c3,c4,c5,c6,c7,rfl⟩:=zx hl
 obtain⟨_,g0⟩:=hf 0 0 a rfl
 obtain⟨_,g1⟩:=hf 1 1 b rfl
 obtain⟨_,g2⟩:=hf 2 2 n rfl
 obtain⟨_,g3⟩:=hf 3 3 st rfl
 obtain⟨_,g7⟩:=hf 4 7 i rfl
 rw[F.ca]at g0
 rw[F.cb]at g1
 rw[F.cn]at g2
 rw[hC]at g3
 rw[F.ci]at g7
 have g3:DataW.trod enc P W 0 (fun _=>true) true m st [c3,c4,c5,c6]=some _:=g3
 obtain⟨_,m',hf'⟩:=ke hS g3
 obtain⟨_,k0⟩:=hf' 0 0 i rfl
 obtain⟨_,k1⟩:=hf' 1 1 i rfl
 obtain⟨_,k2⟩:=hf' 2 2 i rfl
 obtain⟨_,k3⟩:=hf' 3 3 q rfl
 rw[F.ci]at k0 k1 k2
 rw[F.cr]at k3
 obtain⟨x0,e0,_,w0⟩:=DataW.trod_int F.fa g0
 obtain⟨x1,l1,e1,r1⟩:=tj F.fb F.fy F.cy (v:=c1) (by simpa using g1)
 obtain⟨x2,l2,e2,r2⟩:=wa F.fn F.fs F.cs (v:=c2) (by simpa using g2)
 obtain⟨x3,e3,_,w3⟩:=DataW.trod_int F.fi k0
 obtain⟨x4,e4,_,w4⟩:=DataW.trod_int F.fi k1
 obtain⟨x5,e5,_,w5⟩:=DataW.trod_int F.fi k2
 obtain⟨x6,l6,e6,r6,w6⟩:=vZ F.fr F.fi F.ci (v:=c6) (by simpa using k3)
 obtain⟨x7,e7,_,w7⟩:=DataW.trod_int F.fi g7
 simp at e0 e3 e4 e5 e7
 subst e0 e1 e2 e3 e4 e5 e6 e7
 exact⟨(x0,x1,x2,x3,x4,x5,x6,x7),l1,l2,l6,rfl,⟨r1,r2,r6⟩,⟨kE w0,⟨kE w3,kE w4,kE w5⟩,kE w7⟩,w6⟩
end
theorem xZ {P:Program} {w:World} {l:List (String×DataW Unit)} {g:Nat} {t e:TypeId} (h:laidMetH P l w) (name:String)
  (hl:((l.filter fun x=>x.1==name).filter fun x=>x.2.handleName?.isNone)=[(name,Go.Lib.tabData .u64 ((List.range 20).map fun i=>((10^i:Nat):Int)))])
  (hg:P.globalNamed name=some g) (g1:g=1) (hty:(P.globals[g]?).map (·.type)=some t) (ht:P.underlying t=some (.array 20 e)) (he:P.underlying e=some (.int .u64)) (hce:P.cellsOf e=1) (hct:P.cellsOf t=20):jh w.heap:=by
 have h1:=(laidMetH_iff.1 (h.filter fun x=>x.1==name)).1
 rw[hl]at h1
 have ht:=Go.Lib.tabIs_of_head hg hty ht he hce hct h1
 intro i hi
 have:=ht.cell hg i (by simpa using hi)
 subst g1
 rw[gH]at this
 rw[this]
 simp[List.getD_eq_getElem?_getD,hi]
end Go.Vc
