/- Part of the proofs that the laws of this seat answer true whatever the input reads, and leave it as it was; no condition. -/
import Derived.Test.YtdhamoojccmbdaaGreatDoorPlA
import Derived.Sort.Grow
set_option linter.unusedVariables false
set_option linter.unusedSimpArgs false
open List renaming flatMap_cons -> zr, getElem?_append_left -> qn, getElem?_append_right -> qj, getElem?_eq_getElem -> qd, getElem?_map -> qN, getElem?_toArray -> zM, length_map -> qw, length_mergeSort -> wj, size_toArray -> wW
open Go.Value renaming int -> vL
open Go.IntKind renaming i64 -> vR
open Array renaming ext_getElem? -> yq, getElem?_modify -> wi
open Nat renaming zero_add -> wk, zero_le -> w8
open Option renaming map_some -> qO
namespace Go.Vc
open Go
theorem Js(l:List Int):l.flatMap aE=l.map (Value.int .i64):=by
 induction l with
 |nil=>rfl
 |cons a t ih=>rw[zr,ih];rfl
theorem OF{w:World}{e:TypeId}{b:Nat}{rest:List Value}{l:List Int}(c:w.heap[b]?=some (.cells (l.flatMap aE++rest).toArray e (0,0))):Sort.Holds (Value.int .i64) w b 0 l.toArray:=by
 intro j d;have a:j<l.length:=by simpa using d
 refine⟨?_,by simp[World.frozen?,c]⟩;rw[Js]at c;have:(l.map (Value.int .i64)++rest)[j]?=some (vL vR l[j]):=by
  rw[qn (by simpa using a),qN,qd a];rfl
 simp[World.cell?,c,this,a]
theorem Ry(l a:List Int)(rest:List Value)(d:a.length=l.length):Sort.putCells (Value.int .i64) 0 a.toArray (l.flatMap aE++rest).toArray=(a.flatMap aE++rest).toArray:=by
 rw[Js,Js];apply yq;intro i;simp only[Sort.putCells,Array.getElem?_mapIdx,zM,wW,wk,w8,true_and];by_cases b:i<l.length
 ·rw[qn (by simpa using b),qn (by simp;omega)];have c:i<a.length:=by omega
  simp[b,c]
 ·rw[qj (by simp;omega),qj (by simp;omega)];simp only[qw,d];cases h:rest[i-l.length]? with
  |none=>rfl
  |some x=>simp only[qO];rw[if_neg b]
theorem Rz{P:Program}{id:FuncId}(u:∀(fh off cap:Nat) (m:List Int) (w:World),Sort.Holds (Value.int .i64) w fh off m.toArray->fh<w.heap.size->m.length<4611686018427387904->
   Calls P id #[.slice (some ⟨fh,off,none⟩) m.length cap] w fun e g=>e=.returned (.tuple #[])/\∃n os,g=Sort.grow (Sort.putRow (Value.int .i64) (Sort.ahead w n) fh off (m.mergeSort fun x y=>decide (x<=y)).toArray) os)
  (D:∀(p:Option Addr) (cap:Nat) (w:World),Calls P id #[.slice p 0 cap] w fun e g=>e=.returned (.tuple #[])/\g=w)
  {e:TypeId} {s:Sl} {l:List Int} {h:Heap} (r:Own h e s 1 aE l) (z:l.length<2^40):
  ac P id #[.slice s.ptr s.len s.cap] h fun v h'=>v=.tuple #[]/\Own h' e s 1 aE (l.mergeSort fun x y=>decide (x<=y))/\aU (fun b=>¬s.on b) h h':=by
 intro w f;have a:=r.len;rcases r.head with⟨h1,h2,h3⟩|⟨b,rest,h1,h2,h3,h4⟩
 ·subst h3;rw[a,h1];refine(D none s.cap w).mono ?_;rintro B g ⟨rfl,rfl⟩;have t:(([]:List Int).mergeSort fun x y=>decide (x<=y))=[]:=by simp
  exact⟨_,rfl,cN.refl _,rfl,by rw[t];exact⟨a,.inl ⟨h1,h2,rfl⟩⟩,by rw[<-f];exact aU.refl _ _⟩
 ·rw[h1,a];have o:w.heap[b]?=some (.cells (l.flatMap aE++rest).toArray e (0,0)):=by rw[f];exact h2
  refine(u b 0 s.cap l w (OF o) (lt_of_block o) (by omega)).mono ?_;rintro B g ⟨rfl,n,os,rfl⟩;have j:=lt_of_block o;have i:(l.mergeSort fun x y=>decide (x<=y)).length=l.length:=wj l;have d:∀k,k<h.size->(Sort.grow (Sort.putRow (Value.int .i64) (Sort.ahead w n) b 0 (l.mergeSort fun x y=>decide (x<=y)).toArray) os).heap[k]?=if b=k then some (.cells ((l.mergeSort fun x y=>decide (x<=y)).flatMap aE++rest).toArray e (0,0))else h[k]?:=by
   intro k q;rw[Sort.heap_grow_old _ _ (by simpa[Sort.putRow,Sort.mapBlock,Sort.ahead,f]using q)];simp only[Sort.putRow,Sort.mapBlock,Sort.ahead,wi];by_cases c:b=k
   ·subst c;rw[if_pos rfl,if_pos rfl,o,qO,Sort.onCells,Ry _ _ _ i]
   ·rw[if_neg c,if_neg c,f]
  rw[f]at j;refine⟨_,rfl,⟨rfl,rfl,rfl,by simp[Sort.grow,Sort.putRow,Sort.mapBlock,Sort.ahead]⟩,rfl,⟨by rw[i];exact a,.inr ⟨b,rest,h1,?_,h3,h4⟩⟩,?_,?_⟩
  ·rw[d b j,if_pos rfl]
  ·simp[Sort.grow,Sort.putRow,Sort.mapBlock,Sort.ahead,f]
  ·intro k q A;rw[d k q,if_neg (fun c=>A ⟨0,by rw[h1,c]⟩)]
end Go.Vc
