/- Lemmas for the proof of the law; no condition. -/
import Derived.Test.YtdibhfbogjngkaaGreatDoorKA
import Derived.Lib.BufferWrite
import Derived.Lib.UnsafeStr
set_option linter.unusedVariables false
set_option linter.unusedSimpArgs false
open Go.Proofs.Tryz renaming prog -> xR
open Go.Value renaming int -> xH, string -> xK
open Nat renaming le_refl -> qn
open List renaming length_replicate -> w8
open Go.IntKind renaming u8 -> xO
open Array renaming getElem?_modify -> wj
set_option maxRecDepth 100000
namespace Go.Qw
open Go Go.Vc Go.Proofs Wl
theorem WK(s:ByteArray)(h:Heap)(hs:s.size<=2^31):ac xR 120 #[xK s] h λv h'=>v=xK s/\Sp h h' []:=by
 refine pX s ?_;unfold lp;refine cu (λe=>?_) λe=>?_
 ·have A:s.size=0:=i4
  have:s=⟨#[]⟩:=by
   cases s with
   |mk d=>
    have:d=#[]:=Array.eq_empty_of_size_eq_zero A;rw[this]
  rw[this];exact⟨i0,Sp.refl h⟩
 ·refine(Sp.refl h).LF af aE gj i5 0 i0 i0 s.size s.size i0 i0 (qn _) i4 λD h1 S I O=>?_;obtain⟨F,B⟩:=Sp.fresh O 0 rfl;have R:=F.len;rw[w8]at R;rcases F.head with⟨p1,p2,p3⟩|⟨b,rest,p1,p2,p3,p4⟩
  ·exfalso;have:=congrArg List.length p3;rw[w8,List.length_nil]at this;omega
  have L:=B b ⟨0,p1⟩;have g:s.data.toList.length=s.size:=by rw[Array.length_toList];rfl
  obtain⟨M,J⟩:∃M:Array Value,M=((List.replicate s.size (0:UInt8)).flatMap aE++rest).toArray:=⟨_,rfl⟩
  rw[<-J]at p2;have T:s.size<=M.size:=by rw[J];simp[cQ (f:=aE) (k:=1) λ_=>rfl]
  obtain⟨Y,H⟩:∃Y:Array Value,Y=(M.toList.take 0++Lib.byteCells s.data.toList++M.toList.drop (0+s.size)).toArray:=⟨_,rfl⟩
  rw[p1];intro w t;have K:w.heap[b]?=some (.cells M 5 (0,0)):=by rw[t];exact p2
  have m:=Lib.run_copy_row_string (P:=xR) w 34 9 3 5 b 0 D.len D.cap s M 5 k9 k9 K i4 i4;rw[<-H]at m;have u:(w.setRow b Y).heap[b]?=some (.cells Y 5 (0,0)):=setRow_heap _ _ M _ 5 (0,0) K;refine⟨_,_,m,⟨i0,i0,i0,qn _⟩,(s.size:Int),i0,⟨b,0,none⟩,⟨p1,i5,i4⟩,?_⟩;intro q a;have i:Y.toList=Lib.byteCells s.data.toList++M.toList.drop s.size:=by rw[H];simp
  have z:(Lib.byteCells s.data.toList).length=s.size:=by rw[Lib.byteCells_length,g]
  have ab:s.size<=Y.size:=by rw[<-Array.length_toList,i,List.length_append,z];omega
  have o:q.heap[b]?=some (.cells Y 5 (0,0)):=by rw[a];exact u
  have r:s.data.toList≠[]:=λA=>by rw[A]at g;simp at g;omega
  have E:=Lib.run_unsafeString_row (P:=xR) q 252 3 9 5 k9 k9 b Y.size (by unfold World.shape?;rw[o]) s.data.toList r i4 i4 (λj x G=>by
   have hj:j<s.size:=by have:=(List.getElem?_eq_some_iff.1 G).1;omega
   have V:Y[j]?=some (xH xO (x.toNat:Int)):=by rw[<-Array.getElem?_toList,i,List.getElem?_append_left i4];unfold Lib.byteCells;rw[List.getElem?_map,G];rfl
   have N:((⟨b,0,none⟩:Addr).add j)=⟨b,j,none⟩:=by unfold Addr.add;split<;>simp_all
   rw[N];unfold World.cell?;simp only[o,V];rfl)
  have W:((D.len:Nat):Int)=(s.data.toList.length:Int):=i4
  have X:∀(c:World) (n:Nat),(c.freeze ⟨b,0,none⟩ n).heap.size=c.heap.size/\(∀k,k≠b->(c.freeze ⟨b,0,none⟩ n).heap[k]?=c.heap[k]?)/\cY c (c.freeze ⟨b,0,none⟩ n):=λc n=>by
   unfold World.freeze;split
   ·exact⟨i0,λ_ _=>rfl,cY.refl _⟩
   ·refine⟨i9,λk p=>?_,⟨i0,i0,i0,qn _⟩⟩;rw[wj,g0 λh=>p h.symm]
  obtain⟨U,f2,f3⟩:=X q s.data.toList.length;refine⟨xK ⟨s.data.toList.toArray⟩,q.freeze ⟨b,0,none⟩ s.data.toList.length,?_,f3,⟨s.data.toList.toArray⟩,i0,i9,?_⟩
  ·rw[W];exact E
  ·have Q:(w.setRow b Y).heap.size=w.heap.size:=by unfold World.setRow;simp
   have Z:∀k,k≠b->(w.setRow b Y).heap[k]?=w.heap[k]?:=λk p=>by
    unfold World.setRow;rw[wj,g0 λh=>p h.symm]
   refine .zip ⟨by rw[U,a,Q,t];exact I.1,λk p y=>?_⟩;have l:k≠b:=by have:=L.1;omega
   rw[f2 k l,a,Z k l,t];exact I.2 k p y
theorem RC(s:ByteArray)(h:Heap)(b:s.size<=2^31):ac xR 56 #[xK s] h λv h'=>v=xK s/\Sp h h' []:=by refine Jn s ?_;unfold BI;refine(WK s h b).mono ?_;rintro _ c ⟨rfl,a⟩;exact⟨_,i0,i0,a⟩
end Go.Qw
