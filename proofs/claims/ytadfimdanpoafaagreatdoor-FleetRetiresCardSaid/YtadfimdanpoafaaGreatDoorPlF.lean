/- Lemmas. -/
import Derived.Test.YtadfimdanpoafaaGreatDoorPlB
import Derived.Lib.SlicesCompact
import Derived.Lib.RowBridge
set_option linter.unusedVariables false
set_option linter.unusedSimpArgs false
open List renaming replicate -> qg
namespace Go.Vc
open Go
theorem Km{P:Program}{id:FuncId}(G:∀(fy off cap:Nat) (i:aC) (w:World),Sort.Holds (Value.int .i64) w fy off i.toArray->i.length<=9223372036854775807->i.length<=cap->
   Calls P id #[.slice (some ⟨fy,off,none⟩) i.length cap] w fun e w'=>e=.returned (.slice (some ⟨fy,off,none⟩) (Lib.compact i).length cap)/\∃q,w'=Sort.putRow (Value.int .i64) (Sort.ahead w q) fy off (Lib.compact i++qg (i.length-(Lib.compact i).length) 0).toArray)
  (B:∀(a:aO) (cap:Nat) (w:World),Calls P id #[.slice a 0 cap] w fun e w'=>e=.returned (.slice a 0 cap)/\w'=w)
  {e:TypeId} {s:Sl} {l:aC} {h:Heap} (t:Own h e s 1 aD l) (H:l.length<2^40):
  ac P id #[.slice s.ptr s.len s.cap] h fun v h'=>v=.slice s.ptr (Lib.compact l).length s.cap/\Own h' e ⟨s.ptr,(Lib.compact l).length,s.cap⟩ 1 aD (Lib.compact l)/\aU (fun b=>¬s.on b) h h':=by
 intro w o;have f:=t.len;have A:=t.cap;rcases t.head with⟨h1,h2,h3⟩|⟨b,rest,h1,h2,h3,h4⟩
 ·subst h3;have y:Lib.compact ([]:aC)=[]:=rfl;rw[f,h1];refine(B none s.cap w).mono ?_;rintro D w' ⟨rfl,rfl⟩;refine⟨_,rfl,cV.refl _,by rw[y];rfl,by rw[y];exact⟨rfl,.inl ⟨rfl,by simpa using h2,rfl⟩⟩,by rw[<-o];exact aU.refl _ _⟩
 ·rw[h1,f];have x:w.heap[b]?=some (.cells (l.flatMap aD++rest).toArray e (0,0)):=by rw[o];exact h2
  refine(G b 0 s.cap l w (Nx x) (by omega) (by omega)).mono ?_;rintro D w' ⟨rfl,n,rfl⟩;have r:=lt_of_block x;have E:=Lib.compact_length_le l;obtain⟨m,g⟩:∃m,m=Lib.compact l++qg (l.length-(Lib.compact l).length) 0:=⟨_,rfl⟩
  rw[<-g];have p:m.length=l.length:=by rw[g];simp;omega
  have c:∀k,k<h.size->(Sort.putRow (Value.int .i64) (Sort.ahead w n) b 0 m.toArray).heap[k]?=if b=k then some (.cells (m.flatMap aD++rest).toArray e (0,0))else h[k]?:=by
   intro k z;simp only[Sort.putRow,Sort.mapBlock,Sort.ahead,Array.getElem?_modify];by_cases d:b=k
   ·subst d;rw[if_pos rfl,if_pos rfl,x,Option.map_some,Sort.onCells,PW _ _ _ p]
   ·rw[if_neg d,if_neg d,o]
  rw[o]at r;have u:Own (Sort.putRow (Value.int .i64) (Sort.ahead w n) b 0 m.toArray).heap e s 1 aD m:=⟨by rw[p];exact f,.inr ⟨b,rest,h1,by rw[c b r,if_pos rfl],h3,h4⟩⟩
  have j:=u.cut (fun _=>rfl) (Lib.compact l).length (by omega);rw[g,List.take_left]at j;refine⟨_,rfl,⟨rfl,rfl,rfl,by simp[Sort.putRow,Sort.mapBlock,Sort.ahead]⟩,rfl,by rw[h1]at j;rw[g];exact j,by simp[Sort.putRow,Sort.mapBlock,Sort.ahead,o],?_⟩;intro k z F;rw[c k z,if_neg (fun d=>F ⟨0,by rw[h1,d]⟩)]
end Go.Vc
