/- Part of the proofs that the laws of this seat answer true whatever the input reads, and leave it as it was; no condition. -/
import Derived.Test.YtdhamoojccmbdaaGreatDoorPlC
import Derived.Test.YtdhamoojccmbdaaGreatDoorPlA
import Derived.Lib.SlicesCompact
import Derived.Lib.RowBridge
set_option linter.unusedVariables false
set_option linter.unusedSimpArgs false
open List renaming replicate -> qh, take_left -> vj
open Array renaming getElem?_modify -> wi
open Option renaming map_some -> qO
namespace Go.Vc
open Go
theorem KM{P:Program}{id:FuncId}(D:∀(fh off cap:Nat) (i:List Int) (w:World),Sort.Holds (Value.int .i64) w fh off i.toArray->i.length<=9223372036854775807->i.length<=cap->
   Calls P id #[.slice (some ⟨fh,off,none⟩) i.length cap] w fun e o=>e=.returned (.slice (some ⟨fh,off,none⟩) (Lib.compact i).length cap)/\∃q,o=Sort.putRow (Value.int .i64) (Sort.ahead w q) fh off (Lib.compact i++qh (i.length-(Lib.compact i).length) 0).toArray)
  (I:∀(a:Option Addr) (cap:Nat) (w:World),Calls P id #[.slice a 0 cap] w fun e o=>e=.returned (.slice a 0 cap)/\o=w)
  {e:TypeId} {s:Sl} {l:List Int} {h:Heap} (y:Own h e s 1 aE l) (E:l.length<2^40):
  ac P id #[.slice s.ptr s.len s.cap] h fun v h'=>v=.slice s.ptr (Lib.compact l).length s.cap/\Own h' e ⟨s.ptr,(Lib.compact l).length,s.cap⟩ 1 aE (Lib.compact l)/\aU (fun b=>¬s.on b) h h':=by
 intro w r;have d:=y.len;have z:=y.cap;rcases y.head with⟨h1,h2,h3⟩|⟨b,rest,h1,h2,h3,h4⟩
 ·subst h3;have B:Lib.compact ([]:List Int)=[]:=rfl;rw[d,h1];refine(I none s.cap w).mono ?_;rintro H o ⟨rfl,rfl⟩;refine⟨_,rfl,cN.refl _,by rw[B];rfl,by rw[B];exact⟨rfl,.inl ⟨rfl,by simpa using h2,rfl⟩⟩,by rw[<-r];exact aU.refl _ _⟩
 ·rw[h1,d];have x:w.heap[b]?=some (.cells (l.flatMap aE++rest).toArray e (0,0)):=by rw[r];exact h2
  refine(D b 0 s.cap l w (OF x) (by omega) (by omega)).mono ?_;rintro H o ⟨rfl,n,rfl⟩;have t:=lt_of_block x;have F:=Lib.compact_length_le l;obtain⟨m,g⟩:∃m,m=Lib.compact l++qh (l.length-(Lib.compact l).length) 0:=⟨_,rfl⟩
  rw[<-g];have p:m.length=l.length:=by rw[g];simp;omega
  have f:∀k,k<h.size->(Sort.putRow (Value.int .i64) (Sort.ahead w n) b 0 m.toArray).heap[k]?=if b=k then some (.cells (m.flatMap aE++rest).toArray e (0,0))else h[k]?:=by
   intro k A;simp only[Sort.putRow,Sort.mapBlock,Sort.ahead,wi];by_cases c:b=k
   ·subst c;rw[if_pos rfl,if_pos rfl,x,qO,Sort.onCells,Ry _ _ _ p]
   ·rw[if_neg c,if_neg c,r]
  rw[r]at t;have u:Own (Sort.putRow (Value.int .i64) (Sort.ahead w n) b 0 m.toArray).heap e s 1 aE m:=⟨by rw[p];exact d,.inr ⟨b,rest,h1,by rw[f b t,if_pos rfl],h3,h4⟩⟩
  have j:=u.cut (fun _=>rfl) (Lib.compact l).length (by omega);rw[g,vj]at j;refine⟨_,rfl,⟨rfl,rfl,rfl,by simp[Sort.putRow,Sort.mapBlock,Sort.ahead]⟩,rfl,by rw[h1]at j;rw[g];exact j,by simp[Sort.putRow,Sort.mapBlock,Sort.ahead,r],?_⟩;intro k A G;rw[f k A,if_neg (fun c=>G ⟨0,by rw[h1,c]⟩)]
end Go.Vc
