/- Lemmas for the proof of the law; no condition. -/
import Derived.Test.YtnjommcknbionaaGreatDoorPlA
import Derived.Sort.Grow
set_option linter.unusedVariables false
set_option linter.unusedSimpArgs false
open Go.Value renaming int -> vL
open Go.IntKind renaming i64 -> vR
open List renaming getElem?_append_left -> ql, getElem?_append_right -> qh
open Option renaming map_some -> qK
namespace Go.Vc
open Go
theorem Cg(l:aB):l.flatMap aG=l.map (Value.int .i64):=by
 induction l with
 |nil=>rfl
 |cons a t ih=>rw[List.flatMap_cons,ih];rfl
theorem Ga{w:World}{e:TypeId}{b:Nat}{rest:aM}{l:aB}(c:w.heap[b]?=some (.cells (l.flatMap aG++rest).toArray e (0,0))):Sort.Holds (Value.int .i64) w b 0 l.toArray:=by
 intro j d;have a:j<l.length:=by simpa using d
 refine⟨?_,by simp[World.frozen?,c]⟩;rw[Cg]at c;have:(l.map (Value.int .i64)++rest)[j]?=some (vL vR l[j]):=by
  rw[ql (by simpa using a),List.getElem?_map,List.getElem?_eq_getElem a];rfl
 simp[World.cell?,c,this,a]
theorem Ix(l a:aB)(rest:aM)(d:a.length=l.length):Sort.putCells (Value.int .i64) 0 a.toArray (l.flatMap aG++rest).toArray=(a.flatMap aG++rest).toArray:=by
 rw[Cg,Cg];apply Array.ext_getElem?;intro i;simp only[Sort.putCells,Array.getElem?_mapIdx,List.getElem?_toArray,List.size_toArray,Nat.zero_add,Nat.zero_le,true_and];by_cases b:i<l.length
 ·rw[ql (by simpa using b),ql (by simp;omega)];have c:i<a.length:=by omega
  simp[b,c]
 ·rw[qh (by simp;omega),qh (by simp;omega)];simp only[List.length_map,d];cases h:rest[i-l.length]? with
  |none=>rfl
  |some x=>simp only[qK];rw[if_neg b]
theorem Iy{P:Program}{id:FuncId}(D:∀(eu off cap:Nat) (m:aB) (w:World),Sort.Holds (Value.int .i64) w eu off m.toArray->eu<w.heap.size->m.length<4611686018427387904->
   Calls P id #[.slice (some ⟨eu,off,none⟩) m.length cap] w fun e g=>e=.returned (.tuple #[])/\∃n os,g=Sort.grow (Sort.putRow (Value.int .i64) (Sort.ahead w n) eu off (m.mergeSort fun x y=>decide (x<=y)).toArray) os)
  (E:∀(p:aK) (cap:Nat) (w:World),Calls P id #[.slice p 0 cap] w fun e g=>e=.returned (.tuple #[])/\g=w)
  {e:TypeId} {s:Sl} {l:aB} {h:Heap} (r:Own h e s 1 aG l) (A:l.length<2^40):
  ab P id #[.slice s.ptr s.len s.cap] h fun v t=>v=.tuple #[]/\Own t e s 1 aG (l.mergeSort fun x y=>decide (x<=y))/\aH (fun b=>¬s.on b) h t:=by
 intro w f;have a:=r.len;rcases r.head with⟨h1,h2,h3⟩|⟨b,rest,h1,h2,h3,h4⟩
 ·subst h3;rw[a,h1];refine(E none s.cap w).mono ?_;rintro u g ⟨rfl,rfl⟩;have B:(([]:aB).mergeSort fun x y=>decide (x<=y))=[]:=by simp
  exact⟨_,rfl,ct.refl _,rfl,by rw[B];exact⟨a,.inl ⟨h1,h2,rfl⟩⟩,by rw[<-f];exact aH.refl _ _⟩
 ·rw[h1,a];have o:w.heap[b]?=some (.cells (l.flatMap aG++rest).toArray e (0,0)):=by rw[f];exact h2
  refine(D b 0 s.cap l w (Ga o) (lt_of_block o) (by omega)).mono ?_;rintro u g ⟨rfl,n,os,rfl⟩;have i:=lt_of_block o;have j:(l.mergeSort fun x y=>decide (x<=y)).length=l.length:=List.length_mergeSort l;have d:∀k,k<h.size->(Sort.grow (Sort.putRow (Value.int .i64) (Sort.ahead w n) b 0 (l.mergeSort fun x y=>decide (x<=y)).toArray) os).heap[k]?=if b=k then some (.cells ((l.mergeSort fun x y=>decide (x<=y)).flatMap aG++rest).toArray e (0,0))else h[k]?:=by
   intro k q;rw[Sort.heap_grow_old _ _ (by simpa[Sort.putRow,Sort.mapBlock,Sort.ahead,f]using q)];simp only[Sort.putRow,Sort.mapBlock,Sort.ahead,Array.getElem?_modify];by_cases c:b=k
   ·subst c;rw[if_pos rfl,if_pos rfl,o,qK,Sort.onCells,Ix _ _ _ j]
   ·rw[if_neg c,if_neg c,f]
  rw[f]at i;refine⟨_,rfl,⟨rfl,rfl,rfl,by simp[Sort.grow,Sort.putRow,Sort.mapBlock,Sort.ahead]⟩,rfl,⟨by rw[j];exact a,.inr ⟨b,rest,h1,?_,h3,h4⟩⟩,?_,?_⟩
  ·rw[d b i,if_pos rfl]
  ·simp[Sort.grow,Sort.putRow,Sort.mapBlock,Sort.ahead,f]
  ·intro k q z;rw[d k q,if_neg (fun c=>z ⟨0,by rw[h1,c]⟩)]
end Go.Vc
