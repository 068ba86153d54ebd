/- Lemmas for the proof of the law; no condition. -/
import Derived.Test.YtbhpnfilcomonaaGreatDoorPlC
import Derived.Lib.SlicesCompact
import Derived.Lib.RowBridge
set_option linter.unusedVariables false
set_option linter.unusedSimpArgs false
open List renaming replicate -> qh
namespace Go.Vc
open Go
theorem Ew{P:Program}{id:FuncId}(K:∀(g off cap:Nat) (j:aD) (w:World),Sort.Holds (Value.int .i64) w g off j.toArray->j.length<=9223372036854775807->j.length<=cap->
   Calls P id #[.slice (some ⟨g,off,none⟩) j.length cap] w fun e t=>e=.returned (.slice (some ⟨g,off,none⟩) (Lib.compact j).length cap)/\∃q,t=Sort.putRow (Value.int .i64) (Sort.ahead w q) g off (Lib.compact j++qh (j.length-(Lib.compact j).length) 0).toArray)
  (I:∀(a:aM) (cap:Nat) (w:World),Calls P id #[.slice a 0 cap] w fun e t=>e=.returned (.slice a 0 cap)/\t=w)
  {e:TypeId} {s:Sl} {l:aD} {h:Heap} (y:Own h e s 1 aE l) (J:l.length<2^40):
  ac P id #[.slice s.ptr s.len s.cap] h fun v A=>v=.slice s.ptr (Lib.compact l).length s.cap/\Own A e ⟨s.ptr,(Lib.compact l).length,s.cap⟩ 1 aE (Lib.compact l)/\aG (fun b=>¬s.on b) h A:=by
 intro w u;have f:=y.len;have B:=y.cap;rcases y.head with⟨h1,h2,h3⟩|⟨b,rest,h1,h2,h3,h4⟩
 ·subst h3;have E:Lib.compact ([]:aD)=[]:=rfl;rw[f,h1];refine(I none s.cap w).mono ?_;rintro F t ⟨rfl,rfl⟩;refine⟨_,rfl,cA.refl _,by rw[E];rfl,by rw[E];exact⟨rfl,.inl ⟨rfl,by simpa using h2,rfl⟩⟩,by rw[<-u];exact aG.refl _ _⟩
 ·rw[h1,f];have z:w.heap[b]?=some (.cells (l.flatMap aE++rest).toArray e (0,0)):=by rw[u];exact h2
  refine(K b 0 s.cap l w (Hu z) (by omega) (by omega)).mono ?_;rintro F t ⟨rfl,n,rfl⟩;have p:=lt_of_block z;have G:=Lib.compact_length_le l;obtain⟨m,i⟩:∃m,m=Lib.compact l++qh (l.length-(Lib.compact l).length) 0:=⟨_,rfl⟩
  rw[<-i];have r:m.length=l.length:=by rw[i];simp;omega
  have d:∀k,k<h.size->(Sort.putRow (Value.int .i64) (Sort.ahead w n) b 0 m.toArray).heap[k]?=if b=k then some (.cells (m.flatMap aE++rest).toArray e (0,0))else h[k]?:=by
   intro k D;simp only[Sort.putRow,Sort.mapBlock,Sort.ahead,Array.getElem?_modify];by_cases c:b=k
   ·subst c;rw[if_pos rfl,if_pos rfl,z,Option.map_some,Sort.onCells,Ka _ _ _ r]
   ·rw[if_neg c,if_neg c,u]
  rw[u]at p;have x:Own (Sort.putRow (Value.int .i64) (Sort.ahead w n) b 0 m.toArray).heap e s 1 aE m:=⟨by rw[r];exact f,.inr ⟨b,rest,h1,by rw[d b p,if_pos rfl],h3,h4⟩⟩
  have o:=x.cut (fun _=>rfl) (Lib.compact l).length (by omega);rw[i,List.take_left]at o;refine⟨_,rfl,⟨rfl,rfl,rfl,by simp[Sort.putRow,Sort.mapBlock,Sort.ahead]⟩,rfl,by rw[h1]at o;rw[i];exact o,by simp[Sort.putRow,Sort.mapBlock,Sort.ahead,u],?_⟩;intro k D H;rw[d k D,if_neg (fun c=>H ⟨0,by rw[h1,c]⟩)]
end Go.Vc
