/- Part of the proofs that the laws of this seat answer true whatever the input reads, and leave it as it was; no condition. -/
import Derived.Test.YtcamechmadjclaaGreatDoorPlA
import Derived.Sort.Grow
set_option linter.unusedVariables false
set_option linter.unusedSimpArgs false
open List renaming flatMap_cons -> qF, getElem?_append_left -> qk, getElem?_append_right -> qf, getElem?_eq_getElem -> qc, getElem?_map -> qE, getElem?_toArray -> q6, length_map -> qT, size_toArray -> zq
open Go.Value renaming int -> wI
open Go.IntKind renaming i64 -> wO
open Array renaming ext_getElem? -> wh, getElem?_modify -> zl
open Nat renaming zero_add -> zo, zero_le -> zj
open Option renaming map_some -> qQ
namespace Go.Vc
open Go
theorem nD(l:List Int):l.flatMap ay=l.map (Value.int .i64):=by
 induction l with
 |nil=>rfl
 |cons a t ih=>rw[qF,ih];rfl
theorem pA{w:World}{e:TypeId}{b:Nat}{rest:List Value}{l:List Int}(c:w.heap[b]?=some (.cells (l.flatMap ay++rest).toArray e (0,0))):Sort.Holds (Value.int .i64) w b 0 l.toArray:=by
 intro j d;have a:j<l.length:=by simpa using d
 refine⟨?_,by simp[World.frozen?,c]⟩;rw[nD]at c;have:(l.map (Value.int .i64)++rest)[j]?=some (wI wO l[j]):=by
  rw[qk (by simpa using a),qE,qc a];rfl
 simp[World.cell?,c,this,a]
theorem rT(l a:List Int)(rest:List Value)(d:a.length=l.length):Sort.putCells (Value.int .i64) 0 a.toArray (l.flatMap ay++rest).toArray=(a.flatMap ay++rest).toArray:=by
 rw[nD,nD];apply wh;intro i;simp only[Sort.putCells,Array.getElem?_mapIdx,q6,zq,zo,zj,true_and];by_cases b:i<l.length
 ·rw[qk (by simpa using b),qk (by simp;omega)];have c:i<a.length:=by omega
  simp[b,c]
 ·rw[qf (by simp;omega),qf (by simp;omega)];simp only[qT,d];cases h:rest[i-l.length]? with
  |none=>rfl
  |some x=>simp only[qQ];rw[if_neg b]
theorem rU{P:Program}{id:FuncId}(z:∀(f off cap:Nat) (o:List Int) (w:World),Sort.Holds (Value.int .i64) w f off o.toArray->f<w.heap.size->o.length<4611686018427387904->
   Calls P id #[.slice (some ⟨f,off,none⟩) o.length cap] w fun e j=>e=.returned (.tuple #[])/\∃n os,j=Sort.grow (Sort.putRow (Value.int .i64) (Sort.ahead w n) f off (o.mergeSort fun x y=>decide (x<=y)).toArray) os)
  (B:∀(p:Option Addr) (cap:Nat) (w:World),Calls P id #[.slice p 0 cap] w fun e j=>e=.returned (.tuple #[])/\j=w)
  {e:TypeId} {s:Sl} {l:List Int} {h:Heap} (u:Own h e s 1 ay l) (F:l.length<2^40):
  ac P id #[.slice s.ptr s.len s.cap] h fun v t=>v=.tuple #[]/\Own t e s 1 ay (l.mergeSort fun x y=>decide (x<=y))/\ax (fun b=>¬s.on b) h t:=by
 intro w g;have a:=u.len;rcases u.head with⟨h1,h2,h3⟩|⟨b,rest,h1,h2,h3,h4⟩
 ·subst h3;rw[a,h1];refine(B none s.cap w).mono ?_;rintro D j ⟨rfl,rfl⟩;have E:(([]:List Int).mergeSort fun x y=>decide (x<=y))=[]:=by simp
  exact⟨_,rfl,bm.refl _,rfl,by rw[E];exact⟨a,.inl ⟨h1,h2,rfl⟩⟩,by rw[<-g];exact ax.refl _ _⟩
 ·rw[h1,a];have q:w.heap[b]?=some (.cells (l.flatMap ay++rest).toArray e (0,0)):=by rw[g];exact h2
  refine(z b 0 s.cap l w (pA q) (lt_of_block q) (by omega)).mono ?_;rintro D j ⟨rfl,n,os,rfl⟩;have i:=lt_of_block q;have m:(l.mergeSort fun x y=>decide (x<=y)).length=l.length:=List.length_mergeSort l;have d:∀k,k<h.size->(Sort.grow (Sort.putRow (Value.int .i64) (Sort.ahead w n) b 0 (l.mergeSort fun x y=>decide (x<=y)).toArray) os).heap[k]?=if b=k then some (.cells ((l.mergeSort fun x y=>decide (x<=y)).flatMap ay++rest).toArray e (0,0))else h[k]?:=by
   intro k r;rw[Sort.heap_grow_old _ _ (by simpa[Sort.putRow,Sort.mapBlock,Sort.ahead,g]using r)];simp only[Sort.putRow,Sort.mapBlock,Sort.ahead,zl];by_cases c:b=k
   ·subst c;rw[if_pos rfl,if_pos rfl,q,qQ,Sort.onCells,rT _ _ _ m]
   ·rw[if_neg c,if_neg c,g]
  rw[g]at i;refine⟨_,rfl,⟨rfl,rfl,rfl,by simp[Sort.grow,Sort.putRow,Sort.mapBlock,Sort.ahead]⟩,rfl,⟨by rw[m];exact a,.inr ⟨b,rest,h1,?_,h3,h4⟩⟩,?_,?_⟩
  ·rw[d b i,if_pos rfl]
  ·simp[Sort.grow,Sort.putRow,Sort.mapBlock,Sort.ahead,g]
  ·intro k r A;rw[d k r,if_neg (fun c=>A ⟨0,by rw[h1,c]⟩)]
end Go.Vc
