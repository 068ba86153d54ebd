/- Lemmas for the proof of the law; no condition. -/
import Derived.Test.YtcaonbjibhlkcaaGreatDoorPlJ
set_option linter.unusedVariables false
set_option linter.unusedSimpArgs false
open Go.Value renaming int -> xk
open Go.IntKind renaming u8 -> xr
namespace Go.Vc
open Go Go.RowKit Go.ChangeShapes Go.WideShapes Go.Joins Go.Deep
section
variable {H:Type} {enc:TypeId×Value->H} {P:Program} {W W':World}
theorem Yl{t e:TypeId}{v:Value}{d:DataW H}{q:List MemPlace}(w:P.underlying t=some (.slice e))(o:P.underlying e=some (.int .u8))(r:P.cellsOf e=1)
  (k:∃p n c,v=.slice p n c) (h:DataW.Trod enc P W 0 (fun _=>true) true t v d q):∃(s:Sl) (l:aU),v=.slice s.ptr s.len s.cap/\Seq W.heap (fun b=>b<W.heap.size) s 1 az l/\s.len<=s.cap:=by
 obtain⟨g,u⟩:=h;obtain⟨p,n,c,rfl⟩:=k;rcases open_ints w o r u with⟨h1,_⟩|⟨a,len,cap,zs,h1,_,hle,_,hz,_,hcell,hwf⟩
 ·simp[Value.cells]at h1;obtain⟨rfl,rfl,rfl⟩:=h1;exact⟨⟨none,0,0⟩,[],rfl,Seq.nil _ _ _ _ _ _,by decide⟩
 ·simp[Value.cells]at h1;obtain⟨rfl,rfl,rfl⟩:=h1;simp only[if_true]at hz;refine⟨⟨some a,n,c⟩,(zs.take n).map fun z=>UInt8.ofNat z.toNat,rfl,aew (f:=fun x:UInt8=>xk xr x.toNat) (by simp;omega) fun i m=>?_,hle⟩;simp at m;rw[<-SN,hcell i (by omega)];have j:=hwf zs[i] (List.getElem_mem _);have y:0<=zs[i]/\zs[i]<256:=by
   simp[Lit.wf]at j;have B:IntKind.u8.min=0:=rfl;have A:IntKind.u8.max=255:=rfl;omega
  simp[List.getD_eq_getElem?_getD,List.getElem?_eq_getElem (show i<zs.length by omega)];omega
end
end Go.Vc
