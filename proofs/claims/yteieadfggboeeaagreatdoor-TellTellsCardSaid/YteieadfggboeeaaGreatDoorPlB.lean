/- Part of the proofs that the laws of this seat answer true whatever the input reads, and leave it as it was; no condition. -/
import Derived.Test.YteieadfggboeeaaGreatDoorPlA
import Derived.Sort.Grow
set_option linter.unusedVariables false
set_option linter.unusedSimpArgs false
namespace Go.Vc
open Go
theorem nC (l:List Int):l.flatMap aA=l.map (Value.int .i64):=by
 induction l with
 |nil=>rfl
 |cons a t ih=>rw[List.flatMap_cons,ih];rfl
theorem pM {w:World} {e:TypeId} {b:Nat} {rest:List Value} {l:List Int} (hb:w.heap[b]?=some (.cells (l.flatMap aA++rest).toArray e (0,0))):Sort.Holds (Value.int .i64) w b 0 l.toArray:=by
 intro j hj
 have hj':j<l.length:=by simpa using hj
 refine⟨?_,by simp[World.frozen?,hb]⟩
 rw[nC]at hb
 have:(l.map (Value.int .i64)++rest)[j]?=some (.int .i64 l[j]):=by
  rw[List.getElem?_append_left (by simpa using hj'),List.getElem?_map,List.getElem?_eq_getElem hj'];rfl
 simp[World.cell?,hb,this,hj']
theorem rh (l l':List Int) (rest:List Value) (hl:l'.length=l.length):Sort.putCells (Value.int .i64) 0 l'.toArray (l.flatMap aA++rest).toArray=(l'.flatMap aA++rest).toArray:=by
 rw[nC,nC]
 apply Array.ext_getElem?
 intro i
 simp only[Sort.putCells,Array.getElem?_mapIdx,List.getElem?_toArray,List.size_toArray,Nat.zero_add,Nat.zero_le,true_and]
 by_cases hi:i<l.length
 ·rw[List.getElem?_append_left (by simpa using hi),List.getElem?_append_left (by simp;omega)]
  have h1:i<l'.length:=by omega
  simp[hi,h1]
 ·rw[List.getElem?_append_right (by simp;omega),List.getElem?_append_right (by simp;omega)]
  simp only[List.length_map,hl]
  cases h:rest[i-l.length]? with
  |none=>rfl
  |some x=>simp only[Option.map_some];rw[if_neg hi]
theorem ri {P:Program} {id:FuncId} (hs:∀(blk off cap:Nat) (zs:List Int) (w:World),Sort.Holds (Value.int .i64) w blk off zs.toArray→blk<w.heap.size→zs.length<4611686018427387904→
   Calls P id #[.slice (some ⟨blk,off,none⟩) zs.length cap] w fun e w'=>e=.returned (.tuple #[])∧∃n os,w'=Sort.grow (Sort.putRow (Value.int .i64) (Sort.ahead w n) blk off (zs.mergeSort fun x y=>decide (x≤y)).toArray) os)
  (hn:∀(p:Option Addr) (cap:Nat) (w:World),Calls P id #[.slice p 0 cap] w fun e w'=>e=.returned (.tuple #[])∧w'=w)
  {e:TypeId} {s:Sl} {l:List Int} {h:Heap} (ho:Own h e s 1 aA l) (hsz:l.length<2^40):
  ae P id #[.slice s.ptr s.len s.cap] h fun v h'=>v=.tuple #[]∧Own h' e s 1 aA (l.mergeSort fun x y=>decide (x≤y))∧ax (fun b=>¬s.on b) h h':=by
 intro w hw
 have hlen:=ho.len
 rcases ho.head with⟨h1,h2,h3⟩|⟨b,rest,h1,h2,h3,h4⟩
 ·subst h3
  rw[hlen,h1]
  refine(hn none s.cap w).mono ?_
  rintro e' w' ⟨rfl,rfl⟩
  have hm:(([]:List Int).mergeSort fun x y=>decide (x≤y))=[]:=by simp
  exact⟨_,rfl,aL.refl _,rfl,by rw[hm];exact⟨hlen,.inl ⟨h1,h2,rfl⟩⟩,by rw[←hw];exact ax.refl _ _⟩
 ·rw[h1,hlen]
  have hb:w.heap[b]?=some (.cells (l.flatMap aA++rest).toArray e (0,0)):=by rw[hw];exact h2
  refine(hs b 0 s.cap l w (pM hb) (lt_of_block hb) (by omega)).mono ?_
  rintro e' w' ⟨rfl,n,os,rfl⟩
  have hlt:=lt_of_block hb
  have hml:(l.mergeSort fun x y=>decide (x≤y)).length=l.length:=List.length_mergeSort l
  have hheap:∀k,k<h.size→(Sort.grow (Sort.putRow (Value.int .i64) (Sort.ahead w n) b 0 (l.mergeSort fun x y=>decide (x≤y)).toArray) os).heap[k]?=if b=k then some (.cells ((l.mergeSort fun x y=>decide (x≤y)).flatMap aA++rest).toArray e (0,0))else h[k]?:=by
   intro k hk
   rw[Sort.heap_grow_old _ _ (by simpa[Sort.putRow,Sort.mapBlock,Sort.ahead,hw]using hk)]
   simp only[Sort.putRow,Sort.mapBlock,Sort.ahead,Array.getElem?_modify]
   by_cases hbk:b=k
   ·subst hbk
    rw[if_pos rfl,if_pos rfl,hb,Option.map_some,Sort.onCells,rh _ _ _ hml]
   ·rw[if_neg hbk,if_neg hbk,hw]
  rw[hw]at hlt
  refine⟨_,rfl,⟨rfl,rfl,rfl,by simp[Sort.grow,Sort.putRow,Sort.mapBlock,Sort.ahead]⟩,rfl,⟨by rw[hml];exact hlen,.inr ⟨b,rest,h1,?_,h3,h4⟩⟩,?_,?_⟩
  ·rw[hheap b hlt,if_pos rfl]
  ·simp[Sort.grow,Sort.putRow,Sort.mapBlock,Sort.ahead,hw]
  ·intro k hk hp
   rw[hheap k hk,if_neg (fun hbk=>hp ⟨0,by rw[h1,hbk]⟩)]
end Go.Vc
