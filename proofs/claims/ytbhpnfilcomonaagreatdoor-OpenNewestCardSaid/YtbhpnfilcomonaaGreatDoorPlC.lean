/- Lemmas for the proof of the law; no condition. -/
import Derived.Test.YtbhpnfilcomonaaGreatDoorPlA
import Derived.Sort.Grow
set_option linter.unusedVariables false
set_option linter.unusedSimpArgs false
open Go.Value renaming int -> vQ
open Go.IntKind renaming i64 -> vW
open List renaming getElem?_append_left -> ql, getElem?_append_right -> qg
open Option renaming map_some -> qJ
namespace Go.Vc
open Go
theorem Dk(l:aD):l.flatMap aE=l.map (Value.int .i64):=by
 induction l with
 |nil=>rfl
 |cons a t ih=>rw[List.flatMap_cons,ih];rfl
theorem Hu{w:World}{e:TypeId}{b:Nat}{rest:aQ}{l:aD}(c:w.heap[b]?=some (.cells (l.flatMap aE++rest).toArray e (0,0))):Sort.Holds (Value.int .i64) w b 0 l.toArray:=by
 intro j d;have a:j<l.length:=by simpa using d
 refine⟨?_,by simp[World.frozen?,c]⟩;rw[Dk]at c;have:(l.map (Value.int .i64)++rest)[j]?=some (vQ vW l[j]):=by
  rw[ql (by simpa using a),List.getElem?_map,List.getElem?_eq_getElem a];rfl
 simp[World.cell?,c,this,a]
theorem Ka(l a:aD)(rest:aQ)(d:a.length=l.length):Sort.putCells (Value.int .i64) 0 a.toArray (l.flatMap aE++rest).toArray=(a.flatMap aE++rest).toArray:=by
 rw[Dk,Dk];apply Array.ext_getElem?;intro i;simp only[Sort.putCells,Array.getElem?_mapIdx,List.getElem?_toArray,List.size_toArray,Nat.zero_add,Nat.zero_le,true_and];by_cases b:i<l.length
 ·rw[ql (by simpa using b),ql (by simp;omega)];have c:i<a.length:=by omega
  simp[b,c]
 ·rw[qg (by simp;omega),qg (by simp;omega)];simp only[List.length_map,d];cases h:rest[i-l.length]? with
  |none=>rfl
  |some x=>simp only[qJ];rw[if_neg b]
theorem Kb{P:Program}{id:FuncId}(E:∀(f off cap:Nat) (o:aD) (w:World),Sort.Holds (Value.int .i64) w f off o.toArray->f<w.heap.size->o.length<4611686018427387904->
   Calls P id #[.slice (some ⟨f,off,none⟩) o.length cap] w fun e m=>e=.returned (.tuple #[])/\∃n os,m=Sort.grow (Sort.putRow (Value.int .i64) (Sort.ahead w n) f off (o.mergeSort fun x y=>decide (x<=y)).toArray) os)
  (D:∀(p:aM) (cap:Nat) (w:World),Calls P id #[.slice p 0 cap] w fun e m=>e=.returned (.tuple #[])/\m=w)
  {e:TypeId} {s:Sl} {l:aD} {h:Heap} (u:Own h e s 1 aE l) (A:l.length<2^40):
  ac P id #[.slice s.ptr s.len s.cap] h fun v t=>v=.tuple #[]/\Own t e s 1 aE (l.mergeSort fun x y=>decide (x<=y))/\aG (fun b=>¬s.on b) h t:=by
 intro w g;have a:=u.len;rcases u.head with⟨h1,h2,h3⟩|⟨b,rest,h1,h2,h3,h4⟩
 ·subst h3;rw[a,h1];refine(D none s.cap w).mono ?_;rintro z m ⟨rfl,rfl⟩;have F:(([]:aD).mergeSort fun x y=>decide (x<=y))=[]:=by simp
  exact⟨_,rfl,cA.refl _,rfl,by rw[F];exact⟨a,.inl ⟨h1,h2,rfl⟩⟩,by rw[<-g];exact aG.refl _ _⟩
 ·rw[h1,a];have q:w.heap[b]?=some (.cells (l.flatMap aE++rest).toArray e (0,0)):=by rw[g];exact h2
  refine(E b 0 s.cap l w (Hu q) (lt_of_block q) (by omega)).mono ?_;rintro z m ⟨rfl,n,os,rfl⟩;have i:=lt_of_block q;have j:(l.mergeSort fun x y=>decide (x<=y)).length=l.length:=List.length_mergeSort l;have d:∀k,k<h.size->(Sort.grow (Sort.putRow (Value.int .i64) (Sort.ahead w n) b 0 (l.mergeSort fun x y=>decide (x<=y)).toArray) os).heap[k]?=if b=k then some (.cells ((l.mergeSort fun x y=>decide (x<=y)).flatMap aE++rest).toArray e (0,0))else h[k]?:=by
   intro k r;rw[Sort.heap_grow_old _ _ (by simpa[Sort.putRow,Sort.mapBlock,Sort.ahead,g]using r)];simp only[Sort.putRow,Sort.mapBlock,Sort.ahead,Array.getElem?_modify];by_cases c:b=k
   ·subst c;rw[if_pos rfl,if_pos rfl,q,qJ,Sort.onCells,Ka _ _ _ j]
   ·rw[if_neg c,if_neg c,g]
  rw[g]at i;refine⟨_,rfl,⟨rfl,rfl,rfl,by simp[Sort.grow,Sort.putRow,Sort.mapBlock,Sort.ahead]⟩,rfl,⟨by rw[j];exact a,.inr ⟨b,rest,h1,?_,h3,h4⟩⟩,?_,?_⟩
  ·rw[d b i,if_pos rfl]
  ·simp[Sort.grow,Sort.putRow,Sort.mapBlock,Sort.ahead,g]
  ·intro k r B;rw[d k r,if_neg (fun c=>B ⟨0,by rw[h1,c]⟩)]
end Go.Vc
