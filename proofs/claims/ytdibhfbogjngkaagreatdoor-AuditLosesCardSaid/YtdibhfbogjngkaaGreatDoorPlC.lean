/- Lemmas for the proof of the law; no condition. -/
import Derived.Test.YtdibhfbogjngkaaGreatDoorPlA
import Derived.Sort.Grow
set_option linter.unusedVariables false
set_option linter.unusedSimpArgs false
open Go.Value renaming int -> xH
open Go.IntKind renaming i64 -> xN
open List renaming getElem?_append_left -> qm, getElem?_append_right -> qj
open Option renaming map_some -> qQ
namespace Go.Vc
open Go
theorem Kv(l:aF):l.flatMap aC=l.map (Value.int .i64):=by
 induction l with
 |nil=>rfl
 |cons a t ih=>rw[List.flatMap_cons,ih];rfl
theorem PB{w:World}{e:TypeId}{b:Nat}{rest:be}{l:aF}(c:w.heap[b]?=some (.cells (l.flatMap aC++rest).toArray e (0,0))):Sort.Holds (Value.int .i64) w b 0 l.toArray:=by
 intro j d;have a:j<l.length:=n3
 refine⟨?_,by simp[World.frozen?,c]⟩;rw[Kv]at c;have:(l.map (Value.int .i64)++rest)[j]?=some (xH xN l[j]):=by rw[qm j7,List.getElem?_map,List.getElem?_eq_getElem a];rfl
 simp[World.cell?,c,this,a]
theorem Sx(l a:aF)(rest:be)(d:a.length=l.length):Sort.putCells (Value.int .i64) 0 a.toArray (l.flatMap aC++rest).toArray=(a.flatMap aC++rest).toArray:=by
 rw[Kv,Kv];apply Array.ext_getElem?;intro i;simp only[Sort.putCells,Array.getElem?_mapIdx,List.getElem?_toArray,List.size_toArray,Nat.zero_add,Nat.zero_le,true_and];by_cases b:i<l.length
 ·rw[qm k7,qm i7];have c:i<a.length:=i4
  simp[b,c]
 ·rw[qj i7,qj i7];simp only[List.length_map,d];cases h:rest[i-l.length]? with
  |none=>rfl
  |some x=>simp only[qQ];rw[g0 b]
theorem Sy{P:Program}{id:FuncId}(z:∀(fG off cap:Nat) (o:aF) (w:World),Sort.Holds (Value.int .i64) w fG off o.toArray->fG<w.heap.size->o.length<4611686018427387904->
   Calls P id #[.slice (some ⟨fG,off,none⟩) o.length cap] w λe i=>e=.returned (.tuple #[])/\∃n os,i=Sort.grow (Sort.putRow (Value.int .i64) (Sort.ahead w n) fG off (o.mergeSort λx y=>decide (x<=y)).toArray) os)
  (u:∀(p:aT) (cap:Nat) (w:World),Calls P id #[.slice p 0 cap] w λe i=>e=.returned (.tuple #[])/\i=w)
  {e:TypeId} {s:Sl} {l:aF} {h:Heap} (r:Own h e s 1 aC l) (B:l.length<2^40):
  ac P id #[.slice s.ptr s.len s.cap] h λv h'=>v=.tuple #[]/\Own h' e s 1 aC (l.mergeSort λx y=>decide (x<=y))/\aV (λb=>¬s.on b) h h':=by
 intro w f;have a:=r.len;rcases r.head with⟨h1,h2,h3⟩|⟨b,rest,h1,h2,h3,h4⟩
 ·subst h3;rw[a,h1];refine(u none s.cap w).mono ?_;rintro t i ⟨rfl,rfl⟩;have D:(([]:aF).mergeSort λx y=>decide (x<=y))=[]:=i9
  exact⟨_,i0,cY.refl _,i0,by rw[D];exact⟨a,.inl ⟨h1,h2,i0⟩⟩,by rw[<-f];exact aV.refl _ _⟩
 ·rw[h1,a];have m:w.heap[b]?=some (.cells (l.flatMap aC++rest).toArray e (0,0)):=by rw[f];exact h2
  refine(z b 0 s.cap l w (PB m) (lt_of_block m) i4).mono ?_;rintro t i ⟨rfl,n,os,rfl⟩;have j:=lt_of_block m;have g:(l.mergeSort λx y=>decide (x<=y)).length=l.length:=List.length_mergeSort l;have d:∀k,k<h.size->(Sort.grow (Sort.putRow (Value.int .i64) (Sort.ahead w n) b 0 (l.mergeSort λx y=>decide (x<=y)).toArray) os).heap[k]?=if b=k then some (.cells ((l.mergeSort λx y=>decide (x<=y)).flatMap aC++rest).toArray e (0,0))else h[k]?:=by
   intro k q;rw[Sort.heap_grow_old _ _ (by simpa[Sort.putRow,Sort.mapBlock,Sort.ahead,f]using q)];simp only[Sort.putRow,Sort.mapBlock,Sort.ahead,Array.getElem?_modify];by_cases c:b=k
   ·subst c;rw[f9 i0,f9 i0,m,qQ,Sort.onCells,Sx _ _ _ g]
   ·rw[g0 c,g0 c,f]
  rw[f]at j;refine⟨_,i0,⟨i0,i0,i0,by simp[Sort.grow,Sort.putRow,Sort.mapBlock,Sort.ahead]⟩,i0,⟨by rw[g];exact a,.inr ⟨b,rest,h1,?_,h3,h4⟩⟩,?_,?_⟩
  ·rw[d b j,f9 rfl]
  ·simp[Sort.grow,Sort.putRow,Sort.mapBlock,Sort.ahead,f]
  ·intro k q A;rw[d k q,g0 λc=>A ⟨0,by rw[h1,c]⟩]
end Go.Vc
