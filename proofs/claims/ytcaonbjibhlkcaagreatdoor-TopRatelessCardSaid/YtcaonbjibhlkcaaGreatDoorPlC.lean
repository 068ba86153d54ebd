/- Lemmas for the proof of the law; no condition. -/
import Derived.Test.YtcaonbjibhlkcaaGreatDoorPlA
import Derived.Sort.Grow
set_option linter.unusedVariables false
set_option linter.unusedSimpArgs false
open Go.Value renaming int -> xk
open Go.IntKind renaming i64 -> xq
open List renaming getElem?_append_left -> qm, getElem?_append_right -> qj
open Option renaming map_some -> qR
namespace Go.Vc
open Go
theorem Iy(l:aB):l.flatMap aC=l.map (Value.int .i64):=by
 induction l with
 |nil=>rfl
 |cons a t ih=>rw[List.flatMap_cons,ih];rfl
theorem MV{w:World}{e:TypeId}{b:Nat}{rest:aV}{l:aB}(c:w.heap[b]?=some (.cells (l.flatMap aC++rest).toArray e (0,0))):Sort.Holds (Value.int .i64) w b 0 l.toArray:=by
 intro j d;have a:j<l.length:=by simpa using d
 refine⟨?_,by simp[World.frozen?,c]⟩;rw[Iy]at c;have:(l.map (Value.int .i64)++rest)[j]?=some (xk xq l[j]):=by
  rw[qm (by simpa using a),List.getElem?_map,List.getElem?_eq_getElem a];rfl
 simp[World.cell?,c,this,a]
theorem PM(l a:aB)(rest:aV)(c:a.length=l.length):Sort.putCells (Value.int .i64) 0 a.toArray (l.flatMap aC++rest).toArray=(a.flatMap aC++rest).toArray:=by
 rw[Iy,Iy];apply Array.ext_getElem?;intro i;simp only[Sort.putCells,Array.getElem?_mapIdx,List.getElem?_toArray,List.size_toArray,Nat.zero_add,Nat.zero_le,true_and];by_cases b:i<l.length
 ·rw[qm (by simpa using b),qm (by simp;omega)];have d:i<a.length:=by omega
  simp[b,d]
 ·rw[qj (by simp;omega),qj (by simp;omega)];simp only[List.length_map,c];cases h:rest[i-l.length]? with
  |none=>rfl
  |some x=>simp only[qR];rw[if_neg b]
theorem PN{P:Program}{id:FuncId}(u:∀(fp off cap:Nat) (o:aB) (w:World),Sort.Holds (Value.int .i64) w fp off o.toArray->fp<w.heap.size->o.length<4611686018427387904->
   Calls P id #[.slice (some ⟨fp,off,none⟩) o.length cap] w fun e g=>e=.returned (.tuple #[])/\∃n os,g=Sort.grow (Sort.putRow (Value.int .i64) (Sort.ahead w n) fp off (o.mergeSort fun x y=>decide (x<=y)).toArray) os)
  (B:∀(p:aP) (cap:Nat) (w:World),Calls P id #[.slice p 0 cap] w fun e g=>e=.returned (.tuple #[])/\g=w)
  {e:TypeId} {s:Sl} {l:aB} {h:Heap} (r:Own h e s 1 aC l) (D:l.length<2^40):
  ab P id #[.slice s.ptr s.len s.cap] h fun v h'=>v=.tuple #[]/\Own h' e s 1 aC (l.mergeSort fun x y=>decide (x<=y))/\aR (fun b=>¬s.on b) h h':=by
 intro w f;have a:=r.len;rcases r.head with⟨h1,h2,h3⟩|⟨b,rest,h1,h2,h3,h4⟩
 ·subst h3;rw[a,h1];refine(B none s.cap w).mono ?_;rintro t g ⟨rfl,rfl⟩;have z:(([]:aB).mergeSort fun x y=>decide (x<=y))=[]:=by simp
  exact⟨_,rfl,cM.refl _,rfl,by rw[z];exact⟨a,.inl ⟨h1,h2,rfl⟩⟩,by rw[<-f];exact aR.refl _ _⟩
 ·rw[h1,a];have m:w.heap[b]?=some (.cells (l.flatMap aC++rest).toArray e (0,0)):=by rw[f];exact h2
  refine(u b 0 s.cap l w (MV m) (lt_of_block m) (by omega)).mono ?_;rintro t g ⟨rfl,n,os,rfl⟩;have j:=lt_of_block m;have i:(l.mergeSort fun x y=>decide (x<=y)).length=l.length:=List.length_mergeSort l;have d:∀k,k<h.size->(Sort.grow (Sort.putRow (Value.int .i64) (Sort.ahead w n) b 0 (l.mergeSort fun x y=>decide (x<=y)).toArray) os).heap[k]?=if b=k then some (.cells ((l.mergeSort fun x y=>decide (x<=y)).flatMap aC++rest).toArray e (0,0))else h[k]?:=by
   intro k q;rw[Sort.heap_grow_old _ _ (by simpa[Sort.putRow,Sort.mapBlock,Sort.ahead,f]using q)];simp only[Sort.putRow,Sort.mapBlock,Sort.ahead,Array.getElem?_modify];by_cases c:b=k
   ·subst c;rw[if_pos rfl,if_pos rfl,m,qR,Sort.onCells,PM _ _ _ i]
   ·rw[if_neg c,if_neg c,f]
  rw[f]at j;refine⟨_,rfl,⟨rfl,rfl,rfl,by simp[Sort.grow,Sort.putRow,Sort.mapBlock,Sort.ahead]⟩,rfl,⟨by rw[i];exact a,.inr ⟨b,rest,h1,?_,h3,h4⟩⟩,?_,?_⟩
  ·rw[d b j,if_pos rfl]
  ·simp[Sort.grow,Sort.putRow,Sort.mapBlock,Sort.ahead,f]
  ·intro k q A;rw[d k q,if_neg (fun c=>A ⟨0,by rw[h1,c]⟩)]
end Go.Vc
