/- Part of the proofs that the laws of this seat answer true whatever the input reads, and leave it as it was; no condition. -/
import Derived.Test.YtdhamoojccmbdaaGreatDoorPlA
import Derived.Sort.Grow
set_option linter.unusedVariables false
set_option linter.unusedSimpArgs false
open List renaming flatMap_cons -> zl, getElem?_append_left -> qn, getElem?_append_right -> qj, getElem?_eq_getElem -> qd, getElem?_map -> qP, getElem?_toArray -> zG, length_map -> qx, length_mergeSort -> wx, size_toArray -> wZ
open Go.Value renaming int -> vX
open Go.IntKind renaming i64 -> xh
open Array renaming ext_getElem? -> yu, getElem?_modify -> wv
open Nat renaming zero_add -> zR, zero_le -> w7
open Option renaming map_some -> qN
namespace Go.Vc
open Go
theorem Kk(l:List Int):l.flatMap aD=l.map (Value.int .i64):=by
 induction l with
 |nil=>rfl
 |cons a t ih=>rw[zl,ih];rfl
theorem PH{w:World}{e:TypeId}{b:Nat}{rest:List Value}{l:List Int}(c:w.heap[b]?=some (.cells (l.flatMap aD++rest).toArray e (0,0))):Sort.Holds (Value.int .i64) w b 0 l.toArray:=by
 intro j d;have a:j<l.length:=by simpa using d
 refine⟨?_,by simp[World.frozen?,c]⟩;rw[Kk]at c;have:(l.map (Value.int .i64)++rest)[j]?=some (vX xh l[j]):=by
  rw[qn (by simpa using a),qP,qd a];rfl
 simp[World.cell?,c,this,a]
theorem SF(l a:List Int)(rest:List Value)(d:a.length=l.length):Sort.putCells (Value.int .i64) 0 a.toArray (l.flatMap aD++rest).toArray=(a.flatMap aD++rest).toArray:=by
 rw[Kk,Kk];apply yu;intro i;simp only[Sort.putCells,Array.getElem?_mapIdx,zG,wZ,zR,w7,true_and];by_cases b:i<l.length
 ·rw[qn (by simpa using b),qn (by simp;omega)];have c:i<a.length:=by omega
  simp[b,c]
 ·rw[qj (by simp;omega),qj (by simp;omega)];simp only[qx,d];cases h:rest[i-l.length]? with
  |none=>rfl
  |some x=>simp only[qN];rw[if_neg b]
theorem SG{P:Program}{id:FuncId}(B:∀(fp off cap:Nat) (m:List Int) (w:World),Sort.Holds (Value.int .i64) w fp off m.toArray->fp<w.heap.size->m.length<4611686018427387904->
   Calls P id #[.slice (some ⟨fp,off,none⟩) m.length cap] w fun e g=>e=.returned (.tuple #[])/\∃n os,g=Sort.grow (Sort.putRow (Value.int .i64) (Sort.ahead w n) fp off (m.mergeSort fun x y=>decide (x<=y)).toArray) os)
  (D:∀(p:Option Addr) (cap:Nat) (w:World),Calls P id #[.slice p 0 cap] w fun e g=>e=.returned (.tuple #[])/\g=w)
  {e:TypeId} {s:Sl} {l:List Int} {h:Heap} (r:Own h e s 1 aD l) (A:l.length<2^40):
  ae P id #[.slice s.ptr s.len s.cap] h fun v h'=>v=.tuple #[]/\Own h' e s 1 aD (l.mergeSort fun x y=>decide (x<=y))/\aU (fun b=>¬s.on b) h h':=by
 intro w f;have a:=r.len;rcases r.head with⟨h1,h2,h3⟩|⟨b,rest,h1,h2,h3,h4⟩
 ·subst h3;rw[a,h1];refine(D none s.cap w).mono ?_;rintro u g ⟨rfl,rfl⟩;have z:(([]:List Int).mergeSort fun x y=>decide (x<=y))=[]:=by simp
  exact⟨_,rfl,cQ.refl _,rfl,by rw[z];exact⟨a,.inl ⟨h1,h2,rfl⟩⟩,by rw[<-f];exact aU.refl _ _⟩
 ·rw[h1,a];have o:w.heap[b]?=some (.cells (l.flatMap aD++rest).toArray e (0,0)):=by rw[f];exact h2
  refine(B b 0 s.cap l w (PH o) (lt_of_block o) (by omega)).mono ?_;rintro u g ⟨rfl,n,os,rfl⟩;have i:=lt_of_block o;have j:(l.mergeSort fun x y=>decide (x<=y)).length=l.length:=wx l;have c:∀k,k<h.size->(Sort.grow (Sort.putRow (Value.int .i64) (Sort.ahead w n) b 0 (l.mergeSort fun x y=>decide (x<=y)).toArray) os).heap[k]?=if b=k then some (.cells ((l.mergeSort fun x y=>decide (x<=y)).flatMap aD++rest).toArray e (0,0))else h[k]?:=by
   intro k q;rw[Sort.heap_grow_old _ _ (by simpa[Sort.putRow,Sort.mapBlock,Sort.ahead,f]using q)];simp only[Sort.putRow,Sort.mapBlock,Sort.ahead,wv];by_cases d:b=k
   ·subst d;rw[if_pos rfl,if_pos rfl,o,qN,Sort.onCells,SF _ _ _ j]
   ·rw[if_neg d,if_neg d,f]
  rw[f]at i;refine⟨_,rfl,⟨rfl,rfl,rfl,by simp[Sort.grow,Sort.putRow,Sort.mapBlock,Sort.ahead]⟩,rfl,⟨by rw[j];exact a,.inr ⟨b,rest,h1,?_,h3,h4⟩⟩,?_,?_⟩
  ·rw[c b i,if_pos rfl]
  ·simp[Sort.grow,Sort.putRow,Sort.mapBlock,Sort.ahead,f]
  ·intro k q t;rw[c k q,if_neg (fun d=>t ⟨0,by rw[h1,d]⟩)]
end Go.Vc
