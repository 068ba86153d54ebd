/- Part of the proofs that the laws of this seat answer true whatever the input reads, and leave it as it was; no condition. -/
import Derived.Test.YtdhamoojccmbdaaGreatDoorPlD
import Derived.Test.YtdhamoojccmbdaaGreatDoorPlA
import Derived.Test.YtdhamoojccmbdaaGreatDoorKA
import Derived.Lib.BufferWrite
import Derived.Lib.UnsafeStr
set_option linter.unusedVariables false
set_option linter.unusedSimpArgs false
open Go.Proofs.Tryz renaming prog -> xl
open Go.Value renaming int -> vX, string -> xd
open Nat renaming le_refl -> ql
open List renaming getElem?_append_left -> qn, getElem?_eq_some_iff -> qm, getElem?_map -> qP, length -> y6, length_append -> qw, length_nil -> ym, length_replicate -> yz, replicate -> qh
open Go.IntKind renaming u8 -> xi
open Array renaming getElem?_modify -> wv, getElem?_toList -> yY
set_option maxRecDepth 100000
namespace Go.Proofs.YtdhamoojccmbdaaGreatDoor
open Go Go.Vc Go.Proofs Wl
theorem WZ(s:ByteArray)(h:Heap)(hs:s.size<=2^31):ae xl rx #[xd s] h fun v h'=>v=xd s/\Sp h h' []:=by
 refine pX s ?_;unfold kO;refine cw (fun e=>?_) fun e=>?_
 ·have B:s.size=0:=by omega
  have:s=⟨#[]⟩:=by
   cases s with
   |mk d=>
    have:d=#[]:=Array.eq_empty_of_size_eq_zero B;rw[this]
  rw[this];exact⟨rfl,Sp.refl h⟩
 ·refine(Sp.refl h).LA af aB fX (by decide) 0 rfl rfl s.size s.size rfl rfl (ql _) (by omega) fun A h1 R G W=>?_;obtain⟨I,E⟩:=Sp.fresh W 0 rfl;have hl:=I.len;rw[yz]at hl;rcases I.head with⟨p1,p2,p3⟩|⟨b,rest,p1,p2,p3,p4⟩
  ·exfalso;have:=congrArg y6 p3;rw[yz,ym]at this;omega
  have hb:=E b ⟨0,p1⟩;have c:s.data.toList.length=s.size:=by rw[Array.length_toList];rfl
  obtain⟨M,H⟩:∃M:Array Value,M=((qh s.size (0:UInt8)).flatMap aB++rest).toArray:=⟨_,rfl⟩
  rw[<-H]at p2;have S:s.size<=M.size:=by rw[H];simp[dg (f:=aB) (k:=1) (fun _=>rfl)]
  obtain⟨Y,J⟩:∃Y:Array Value,Y=(M.toList.take 0++Lib.byteCells s.data.toList++M.toList.drop (0+s.size)).toArray:=⟨_,rfl⟩
  rw[p1];intro w D;have F:w.heap[b]?=some (.cells M aC (0,0)):=by rw[D];exact p2
  have p:=Lib.run_copy_row_string (P:=xl) w aH gB aT aC b 0 A.len A.cap s M aC (by rfl) (by rfl) F (by omega) (by omega);rw[<-J]at p;have t:(w.setRow b Y).heap[b]?=some (.cells Y aC (0,0)):=setRow_heap _ _ M _ aC (0,0) F;refine⟨_,_,p,⟨rfl,rfl,rfl,ql _⟩,(s.size:Int),rfl,⟨b,0,none⟩,⟨rfl,by decide,by omega⟩,?_⟩;intro q a;have l:Y.toList=Lib.byteCells s.data.toList++M.toList.drop s.size:=by rw[J];simp
  have y:(Lib.byteCells s.data.toList).length=s.size:=by rw[Lib.byteCells_length,c]
  have N:s.size<=Y.size:=by rw[<-Array.length_toList,l,qw,y];omega
  have m:q.heap[b]?=some (.cells Y aC (0,0)):=by rw[a];exact t
  have r:s.data.toList≠[]:=fun B=>by rw[B]at c;simp at c;omega
  have z:=Lib.run_unsafeString_row (P:=xl) q VB aT gB aC (by rfl) (by rfl) b Y.size (by unfold World.shape?;rw[m]) s.data.toList r (by omega) (by omega) (fun j x K=>by
   have hj:j<s.size:=by have:=(qm.1 K).1;omega
   have O:Y[j]?=some (vX xi (x.toNat:Int)):=by
    rw[<-yY,l,qn (by omega)];unfold Lib.byteCells;rw[qP,K];rfl
   have T:((⟨b,0,none⟩:Addr).add j)=⟨b,j,none⟩:=by unfold Addr.add;split<;>simp_all
   rw[T];unfold World.cell?;simp only[m,O];rfl)
  have V:((A.len:Nat):Int)=(s.data.toList.length:Int):=by omega
  have U:∀(g:World) (n:Nat),(g.freeze ⟨b,0,none⟩ n).heap.size=g.heap.size/\(∀k,k≠b->(g.freeze ⟨b,0,none⟩ n).heap[k]?=g.heap[k]?)/\cQ g (g.freeze ⟨b,0,none⟩ n):=fun g n=>by
   unfold World.freeze;split
   ·exact⟨rfl,fun _ _=>rfl,cQ.refl _⟩
   ·refine⟨by simp,fun k i=>?_,⟨rfl,rfl,rfl,ql _⟩⟩;rw[wv,if_neg (fun h=>i h.symm)]
  obtain⟨X,Z,L⟩:=U q s.data.toList.length;refine⟨xd ⟨s.data.toList.toArray⟩,q.freeze ⟨b,0,none⟩ s.data.toList.length,?_,L,⟨s.data.toList.toArray⟩,rfl,by simp,?_⟩
  ·rw[V];exact z
  ·have s1:(w.setRow b Y).heap.size=w.heap.size:=by unfold World.setRow;simp
   have Q:∀k,k≠b->(w.setRow b Y).heap[k]?=w.heap[k]?:=fun k i=>by
    unfold World.setRow;rw[wv,if_neg (fun h=>i h.symm)]
   refine .zip ⟨by rw[X,a,s1,D];exact G.1,fun k i u=>?_⟩;have o:k≠b:=by have:=hb.1;omega
   rw[Z k o,a,Q k o,D];exact G.2 k i u
theorem RQ(s:ByteArray)(h:Heap)(a:s.size<=2^31):ae xl Ky #[xd s] h fun v h'=>v=xd s/\Sp h h' []:=by
 refine Jh s ?_;unfold Bn;refine(WZ s h a).mono ?_;rintro _ c ⟨rfl,b⟩;exact⟨_,rfl,rfl,b⟩
end Go.Proofs.YtdhamoojccmbdaaGreatDoor
