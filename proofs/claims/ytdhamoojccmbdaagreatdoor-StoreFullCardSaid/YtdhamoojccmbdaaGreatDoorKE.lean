/- Part of the proofs that the laws of this seat answer true whatever the input reads, and leave it as it was; no condition. -/
import Derived.Test.YtdhamoojccmbdaaGreatDoorPlD
import Derived.Test.YtdhamoojccmbdaaGreatDoorPlA
import Derived.Test.YtdhamoojccmbdaaGreatDoorKA
import Derived.Lib.BufferWrite
import Derived.Lib.UnsafeStr
set_option linter.unusedVariables false
set_option linter.unusedSimpArgs false
open Go.Proofs.Tryz renaming prog -> vV
open Go.Value renaming int -> vL, string -> vO
open Nat renaming le_refl -> ql
open List renaming getElem?_append_left -> qn, getElem?_eq_some_iff -> qm, getElem?_map -> qN, length -> vg, length_append -> qu, length_nil -> yj, length_replicate -> yx, replicate -> qh
open Go.IntKind renaming u8 -> vS
open Array renaming getElem?_modify -> wi, getElem?_toList -> vo
set_option maxRecDepth 100000
namespace Go.Proofs.YtdhamoojccmbdaaGreatDoor
open Go Go.Vc Go.Proofs Wl
theorem Wc(s:ByteArray)(h:Heap)(hs:s.size<=2^31):ac vV pU #[vO s] h fun v h'=>v=vO s/\Sp h h' []:=by
 refine pA s ?_;unfold kw;refine cx (fun e=>?_) fun e=>?_
 ·have y:s.size=0:=by omega
  have:s=⟨#[]⟩:=by
   cases s with
   |mk d=>
    have:d=#[]:=Array.eq_empty_of_size_eq_zero y;rw[this]
  rw[this];exact⟨rfl,Sp.refl h⟩
 ·refine(Sp.refl h).KF ae aC fP (by decide) 0 rfl rfl s.size s.size rfl rfl (ql _) (by omega) fun B h1 V G H1=>?_;obtain⟨K,t⟩:=Sp.fresh H1 0 rfl;have hl:=K.len;rw[yx]at hl;rcases K.head with⟨p1,p2,p3⟩|⟨b,rest,p1,p2,p3,p4⟩
  ·exfalso;have:=congrArg vg p3;rw[yx,yj]at this;omega
  have T:=t b ⟨0,p1⟩;have a:s.data.toList.length=s.size:=by rw[Array.length_toList];rfl
  obtain⟨M,F⟩:∃M:Array Value,M=((qh s.size (0:UInt8)).flatMap aC++rest).toArray:=⟨_,rfl⟩
  rw[<-F]at p2;have U:s.size<=M.size:=by rw[F];simp[cX (f:=aC) (k:=1) (fun _=>rfl)]
  obtain⟨Y,I⟩:∃Y:Array Value,Y=(M.toList.take 0++Lib.byteCells s.data.toList++M.toList.drop (0+s.size)).toArray:=⟨_,rfl⟩
  rw[p1];intro w E;have H:w.heap[b]?=some (.cells M aD (0,0)):=by rw[E];exact p2
  have p:=Lib.run_copy_row_string (P:=vV) w aF fS aS aD b 0 B.len B.cap s M aD (by rfl) (by rfl) H (by omega) (by omega);rw[<-I]at p;have u:(w.setRow b Y).heap[b]?=some (.cells Y aD (0,0)):=setRow_heap _ _ M _ aD (0,0) H;refine⟨_,_,p,⟨rfl,rfl,rfl,ql _⟩,(s.size:Int),rfl,⟨b,0,none⟩,⟨rfl,by decide,by omega⟩,?_⟩;intro q c;have i:Y.toList=Lib.byteCells s.data.toList++M.toList.drop s.size:=by rw[I];simp
  have A:(Lib.byteCells s.data.toList).length=s.size:=by rw[Lib.byteCells_length,a]
  have O:s.size<=Y.size:=by rw[<-Array.length_toList,i,qu,A];omega
  have o:q.heap[b]?=some (.cells Y aD (0,0)):=by rw[c];exact u
  have D:s.data.toList≠[]:=fun y=>by rw[y]at a;simp at a;omega
  have z:=Lib.run_unsafeString_row (P:=vV) q UG aS fS aD (by rfl) (by rfl) b Y.size (by unfold World.shape?;rw[o]) s.data.toList D (by omega) (by omega) (fun j x J=>by
   have hj:j<s.size:=by have:=(qm.1 J).1;omega
   have W:Y[j]?=some (vL vS (x.toNat:Int)):=by
    rw[<-vo,i,qn (by omega)];unfold Lib.byteCells;rw[qN,J];rfl
   have N:((⟨b,0,none⟩:Addr).add j)=⟨b,j,none⟩:=by unfold Addr.add;split<;>simp_all
   rw[N];unfold World.cell?;simp only[o,W];rfl)
  have R:((B.len:Nat):Int)=(s.data.toList.length:Int):=by omega
  have S:∀(g:World) (n:Nat),(g.freeze ⟨b,0,none⟩ n).heap.size=g.heap.size/\(∀k,k≠b->(g.freeze ⟨b,0,none⟩ n).heap[k]?=g.heap[k]?)/\cN g (g.freeze ⟨b,0,none⟩ n):=fun g n=>by
   unfold World.freeze;split
   ·exact⟨rfl,fun _ _=>rfl,cN.refl _⟩
   ·refine⟨by simp,fun k m=>?_,⟨rfl,rfl,rfl,ql _⟩⟩;rw[wi,if_neg (fun h=>m h.symm)]
  obtain⟨f1,Z,X⟩:=S q s.data.toList.length;refine⟨vO ⟨s.data.toList.toArray⟩,q.freeze ⟨b,0,none⟩ s.data.toList.length,?_,X,⟨s.data.toList.toArray⟩,rfl,by simp,?_⟩
  ·rw[R];exact z
  ·have Q:(w.setRow b Y).heap.size=w.heap.size:=by unfold World.setRow;simp
   have L:∀k,k≠b->(w.setRow b Y).heap[k]?=w.heap[k]?:=fun k m=>by
    unfold World.setRow;rw[wi,if_neg (fun h=>m h.symm)]
   refine .zip ⟨by rw[f1,c,Q,E];exact G.1,fun k m r=>?_⟩;have l:k≠b:=by have:=T.1;omega
   rw[Z k l,c,L k l,E];exact G.2 k m r
theorem QL(s:ByteArray)(h:Heap)(a:s.size<=2^31):ac vV JG #[vO s] h fun v h'=>v=vO s/\Sp h h' []:=by
 refine Iq s ?_;unfold AC;refine(Wc s h a).mono ?_;rintro _ c ⟨rfl,b⟩;exact⟨_,rfl,rfl,b⟩
end Go.Proofs.YtdhamoojccmbdaaGreatDoor
