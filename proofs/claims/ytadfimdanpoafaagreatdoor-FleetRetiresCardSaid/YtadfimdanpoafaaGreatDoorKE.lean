/- Lemmas. -/
import Derived.Test.YtadfimdanpoafaaGreatDoorKA
import Derived.Lib.BufferWrite
import Derived.Lib.UnsafeStr
set_option linter.unusedVariables false
set_option linter.unusedSimpArgs false
open Go.Proofs.Tryz renaming prog -> xx
open Go.Value renaming int -> xl, string -> xp
open Nat renaming le_refl -> ql
open List renaming length_replicate -> yE
open Go.IntKind renaming u8 -> xu
open Array renaming getElem?_modify -> wu
set_option maxRecDepth 100000
namespace Go.Qw
open Go Go.Vc Go.Proofs Wl
theorem Ub(s:ByteArray)(h:Heap)(hs:s.size<=2^31):ac xx 137 #[xp s] h fun v h'=>v=xp s/\Sp h h' []:=by
 refine ph s ?_;unfold kB;refine cI (fun e=>?_) fun e=>?_
 ·have t:s.size=0:=by omega
  have:s=⟨#[]⟩:=by
   cases s with
   |mk d=>
    have:d=#[]:=Array.eq_empty_of_size_eq_zero t;rw[this]
  rw[this];exact⟨rfl,Sp.refl h⟩
 ·refine(Sp.refl h).Ki ae aE ga (by decide) 0 rfl rfl s.size s.size rfl rfl (ql _) (by omega) fun A h1 O F Z=>?_;obtain⟨G,D⟩:=Sp.fresh Z 0 rfl;have T:=G.len;rw[yE]at T;rcases G.head with⟨p1,p2,p3⟩|⟨b,rest,p1,p2,p3,p4⟩
  ·exfalso;have:=congrArg List.length p3;rw[yE,List.length_nil]at this;omega
  have U:=D b ⟨0,p1⟩;have g:s.data.toList.length=s.size:=by rw[Array.length_toList];rfl
  obtain⟨M,K⟩:∃M:Array Value,M=((List.replicate s.size (0:UInt8)).flatMap aE++rest).toArray:=⟨_,rfl⟩
  rw[<-K]at p2;have V:s.size<=M.size:=by rw[K];simp[dR (f:=aE) (k:=1) (fun _=>rfl)]
  obtain⟨Y,J⟩:∃Y:Array Value,Y=(M.toList.take 0++Lib.byteCells s.data.toList++M.toList.drop (0+s.size)).toArray:=⟨_,rfl⟩
  rw[p1];intro w u;have I:w.heap[b]?=some (.cells M 5 (0,0)):=by rw[u];exact p2
  have l:=Lib.run_copy_row_string (P:=xx) w 35 9 3 5 b 0 A.len A.cap s M 5 (by rfl) (by rfl) I (by omega) (by omega);rw[<-J]at l;have B:(w.setRow b Y).heap[b]?=some (.cells Y 5 (0,0)):=setRow_heap _ _ M _ 5 (0,0) I;refine⟨_,_,l,⟨rfl,rfl,rfl,ql _⟩,(s.size:Int),rfl,⟨b,0,none⟩,⟨rfl,by decide,by omega⟩,?_⟩;intro q c;have i:Y.toList=Lib.byteCells s.data.toList++M.toList.drop s.size:=by rw[J];simp
  have r:(Lib.byteCells s.data.toList).length=s.size:=by rw[Lib.byteCells_length,g]
  have ab:s.size<=Y.size:=by rw[<-Array.length_toList,i,List.length_append,r];omega
  have m:q.heap[b]?=some (.cells Y 5 (0,0)):=by rw[c];exact B
  have E:s.data.toList≠[]:=fun t=>by rw[t]at g;simp at g;omega
  have z:=Lib.run_unsafeString_row (P:=xx) q 256 3 9 5 (by rfl) (by rfl) b Y.size (by unfold World.shape?;rw[m]) s.data.toList E (by omega) (by omega) (fun j x H=>by
   have hj:j<s.size:=by have:=(List.getElem?_eq_some_iff.1 H).1;omega
   have Q:Y[j]?=some (xl xu (x.toNat:Int)):=by
    rw[<-Array.getElem?_toList,i,List.getElem?_append_left (by omega)];unfold Lib.byteCells;rw[List.getElem?_map,H];rfl
   have ea:((⟨b,0,none⟩:Addr).add j)=⟨b,j,none⟩:=by unfold Addr.add;split<;>simp_all
   rw[ea];unfold World.cell?;simp only[m,Q];rfl)
  have L:((A.len:Nat):Int)=(s.data.toList.length:Int):=by omega
  have R:∀(a:World) (n:Nat),(a.freeze ⟨b,0,none⟩ n).heap.size=a.heap.size/\(∀k,k≠b->(a.freeze ⟨b,0,none⟩ n).heap[k]?=a.heap[k]?)/\cV a (a.freeze ⟨b,0,none⟩ n):=fun a n=>by
   unfold World.freeze;split
   ·exact⟨rfl,fun _ _=>rfl,cV.refl _⟩
   ·refine⟨by simp,fun k o=>?_,⟨rfl,rfl,rfl,ql _⟩⟩;rw[wu,if_neg (fun h=>o h.symm)]
  obtain⟨W,N,X⟩:=R q s.data.toList.length;refine⟨xp ⟨s.data.toList.toArray⟩,q.freeze ⟨b,0,none⟩ s.data.toList.length,?_,X,⟨s.data.toList.toArray⟩,rfl,by simp,?_⟩
  ·rw[L];exact z
  ·have S:(w.setRow b Y).heap.size=w.heap.size:=by unfold World.setRow;simp
   have s2:∀k,k≠b->(w.setRow b Y).heap[k]?=w.heap[k]?:=fun k o=>by
    unfold World.setRow;rw[wu,if_neg (fun h=>o h.symm)]
   refine .zip ⟨by rw[W,c,S,u];exact F.1,fun k o y=>?_⟩;have p:k≠b:=by have:=U.1;omega
   rw[N k p,c,s2 k p,u];exact F.2 k o y
theorem Pq(s:ByteArray)(h:Heap)(a:s.size<=2^31):ac xx 64 #[xp s] h fun v h'=>v=xp s/\Sp h h' []:=by
 refine HO s ?_;unfold AE;refine(Ub s h a).mono ?_;rintro _ c ⟨rfl,b⟩;exact⟨_,rfl,rfl,b⟩
end Go.Qw
