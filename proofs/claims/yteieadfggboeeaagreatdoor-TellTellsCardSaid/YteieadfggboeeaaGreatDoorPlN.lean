/- Part of the proofs that the laws of this seat answer true whatever the input reads, and leave it as it was; no condition. -/
import Derived.Test.YteieadfggboeeaaGreatDoorPlM
set_option linter.unusedVariables false
set_option linter.unusedSimpArgs false
namespace Go.Vc
open Go Go.RowKit Go.ChangeShapes Go.WideShapes Go.Joins Go.Deep
section
variable {H:Type} {enc:TypeId×Value→H} {P:Program} {W W':World}
theorem vp {t e:TypeId} {v:Value} {d:DataW H} {ps:List MemPlace} (ht:P.underlying t=some (.slice e)) (he:P.underlying e=some (.int .u8)) (hc:P.cellsOf e=1)
  (hv:∃p n c,v=.slice p n c) (h:DataW.Trod enc P W 0 (fun _=>true) true t v d ps):∃(s:Sl) (l:List UInt8),v=.slice s.ptr s.len s.cap∧Seq W.heap (fun b=>b<W.heap.size) s 1 aB l∧s.len≤s.cap:=by
 obtain⟨fuel,hf⟩:=h
 obtain⟨p,n,c,rfl⟩:=hv
 rcases open_ints ht he hc hf with⟨h1,_⟩|⟨a,len,cap,zs,h1,_,hle,_,hz,_,hcell,hwf⟩
 ·simp[Value.cells]at h1
  obtain⟨rfl,rfl,rfl⟩:=h1
  exact⟨⟨none,0,0⟩,[],rfl,Seq.nil _ _ _ _ _ _,by decide⟩
 ·simp[Value.cells]at h1
  obtain⟨rfl,rfl,rfl⟩:=h1
  simp only[if_true]at hz
  refine⟨⟨some a,n,c⟩,(zs.take n).map fun z=>UInt8.ofNat z.toNat,rfl,rC (f:=fun x:UInt8=>.int .u8 x.toNat) (by simp;omega) fun i hi=>?_,hle⟩
  simp at hi
  rw[←gH,hcell i (by omega)]
  have hw:=hwf zs[i] (List.getElem_mem _)
  have hb:0≤zs[i]∧zs[i]<256:=by
   simp[Lit.wf]at hw
   have e1:IntKind.u8.min=0:=rfl
   have e2:IntKind.u8.max=255:=rfl
   omega
  simp[List.getD_eq_getElem?_getD,List.getElem?_eq_getElem (show i<zs.length by omega)]
  omega
end
end Go.Vc
