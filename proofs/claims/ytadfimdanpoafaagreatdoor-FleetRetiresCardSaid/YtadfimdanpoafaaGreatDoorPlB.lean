/- Lemmas. -/
import Derived.Test.YtadfimdanpoafaaGreatDoorPlA
import Derived.Sort.Grow
set_option linter.unusedVariables false
set_option linter.unusedSimpArgs false
open Go.Value renaming int -> xl
open Go.IntKind renaming i64 -> xt
open List renaming getElem?_append_left -> qm, getElem?_append_right -> qj
open Option renaming map_some -> qL
namespace Go.Vc
open Go
theorem IQ(l:aC):l.flatMap aD=l.map (Value.int .i64):=by
 induction l with
 |nil=>rfl
 |cons a t ih=>rw[List.flatMap_cons,ih];rfl
theorem Nx{w:World}{e:TypeId}{b:Nat}{rest:aW}{l:aC}(c:w.heap[b]?=some (.cells (l.flatMap aD++rest).toArray e (0,0))):Sort.Holds (Value.int .i64) w b 0 l.toArray:=by
 intro j d;have a:j<l.length:=by simpa using d
 refine⟨?_,by simp[World.frozen?,c]⟩;rw[IQ]at c;have:(l.map (Value.int .i64)++rest)[j]?=some (xl xt l[j]):=by
  rw[qm (by simpa using a),List.getElem?_map,List.getElem?_eq_getElem a];rfl
 simp[World.cell?,c,this,a]
theorem PW(l a:aC)(rest:aW)(c:a.length=l.length):Sort.putCells (Value.int .i64) 0 a.toArray (l.flatMap aD++rest).toArray=(a.flatMap aD++rest).toArray:=by
 rw[IQ,IQ];apply Array.ext_getElem?;intro i;simp only[Sort.putCells,Array.getElem?_mapIdx,List.getElem?_toArray,List.size_toArray,Nat.zero_add,Nat.zero_le,true_and];by_cases b:i<l.length
 ·rw[qm (by simpa using b),qm (by simp;omega)];have d:i<a.length:=by omega
  simp[b,d]
 ·rw[qj (by simp;omega),qj (by simp;omega)];simp only[List.length_map,c];cases h:rest[i-l.length]? with
  |none=>rfl
  |some x=>simp only[qL];rw[if_neg b]
theorem PX{P:Program}{id:FuncId}(A:∀(fy off cap:Nat) (j:aC) (w:World),Sort.Holds (Value.int .i64) w fy off j.toArray->fy<w.heap.size->j.length<4611686018427387904->
   Calls P id #[.slice (some ⟨fy,off,none⟩) j.length cap] w fun e w'=>e=.returned (.tuple #[])/\∃n os,w'=Sort.grow (Sort.putRow (Value.int .i64) (Sort.ahead w n) fy off (j.mergeSort fun x y=>decide (x<=y)).toArray) os)
  (r:∀(p:aO) (cap:Nat) (w:World),Calls P id #[.slice p 0 cap] w fun e w'=>e=.returned (.tuple #[])/\w'=w)
  {e:TypeId} {s:Sl} {l:aC} {h:Heap} (q:Own h e s 1 aD l) (B:l.length<2^40):
  ac P id #[.slice s.ptr s.len s.cap] h fun v h'=>v=.tuple #[]/\Own h' e s 1 aD (l.mergeSort fun x y=>decide (x<=y))/\aU (fun b=>¬s.on b) h h':=by
 intro w f;have a:=q.len;rcases q.head with⟨h1,h2,h3⟩|⟨b,rest,h1,h2,h3,h4⟩
 ·subst h3;rw[a,h1];refine(r none s.cap w).mono ?_;rintro t w' ⟨rfl,rfl⟩;have z:(([]:aC).mergeSort fun x y=>decide (x<=y))=[]:=by simp
  exact⟨_,rfl,cV.refl _,rfl,by rw[z];exact⟨a,.inl ⟨h1,h2,rfl⟩⟩,by rw[<-f];exact aU.refl _ _⟩
 ·rw[h1,a];have m:w.heap[b]?=some (.cells (l.flatMap aD++rest).toArray e (0,0)):=by rw[f];exact h2
  refine(A b 0 s.cap l w (Nx m) (lt_of_block m) (by omega)).mono ?_;rintro t w' ⟨rfl,n,os,rfl⟩;have i:=lt_of_block m;have g:(l.mergeSort fun x y=>decide (x<=y)).length=l.length:=List.length_mergeSort l;have c:∀k,k<h.size->(Sort.grow (Sort.putRow (Value.int .i64) (Sort.ahead w n) b 0 (l.mergeSort fun x y=>decide (x<=y)).toArray) os).heap[k]?=if b=k then some (.cells ((l.mergeSort fun x y=>decide (x<=y)).flatMap aD++rest).toArray e (0,0))else h[k]?:=by
   intro k o;rw[Sort.heap_grow_old _ _ (by simpa[Sort.putRow,Sort.mapBlock,Sort.ahead,f]using o)];simp only[Sort.putRow,Sort.mapBlock,Sort.ahead,Array.getElem?_modify];by_cases d:b=k
   ·subst d;rw[if_pos rfl,if_pos rfl,m,qL,Sort.onCells,PW _ _ _ g]
   ·rw[if_neg d,if_neg d,f]
  rw[f]at i;refine⟨_,rfl,⟨rfl,rfl,rfl,by simp[Sort.grow,Sort.putRow,Sort.mapBlock,Sort.ahead]⟩,rfl,⟨by rw[g];exact a,.inr ⟨b,rest,h1,?_,h3,h4⟩⟩,?_,?_⟩
  ·rw[c b i,if_pos rfl]
  ·simp[Sort.grow,Sort.putRow,Sort.mapBlock,Sort.ahead,f]
  ·intro k o u;rw[c k o,if_neg (fun d=>u ⟨0,by rw[h1,d]⟩)]
end Go.Vc
