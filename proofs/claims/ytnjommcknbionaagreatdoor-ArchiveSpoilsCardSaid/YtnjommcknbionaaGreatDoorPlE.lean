/- Lemmas for the proof of the law; no condition. -/
import Derived.Test.YtnjommcknbionaaGreatDoorPlC
import Derived.Lib.SlicesCompact
import Derived.Lib.RowBridge
set_option linter.unusedVariables false
set_option linter.unusedSimpArgs false
open List renaming replicate -> qi
namespace Go.Vc
open Go
theorem Dt{P:Program}{id:FuncId}(I:∀(eu off cap:Nat) (i:aB) (w:World),Sort.Holds (Value.int .i64) w eu off i.toArray->i.length<=9223372036854775807->i.length<=cap->
   Calls P id #[.slice (some ⟨eu,off,none⟩) i.length cap] w fun e o=>e=.returned (.slice (some ⟨eu,off,none⟩) (Lib.compact i).length cap)/\∃q,o=Sort.putRow (Value.int .i64) (Sort.ahead w q) eu off (Lib.compact i++qi (i.length-(Lib.compact i).length) 0).toArray)
  (J:∀(a:aK) (cap:Nat) (w:World),Calls P id #[.slice a 0 cap] w fun e o=>e=.returned (.slice a 0 cap)/\o=w)
  {e:TypeId} {s:Sl} {l:aB} {h:Heap} (u:Own h e s 1 aG l) (H:l.length<2^40):
  ab P id #[.slice s.ptr s.len s.cap] h fun v A=>v=.slice s.ptr (Lib.compact l).length s.cap/\Own A e ⟨s.ptr,(Lib.compact l).length,s.cap⟩ 1 aG (Lib.compact l)/\aH (fun b=>¬s.on b) h A:=by
 intro w t;have f:=u.len;have D:=u.cap;rcases u.head with⟨h1,h2,h3⟩|⟨b,rest,h1,h2,h3,h4⟩
 ·subst h3;have B:Lib.compact ([]:aB)=[]:=rfl;rw[f,h1];refine(J none s.cap w).mono ?_;rintro F o ⟨rfl,rfl⟩;refine⟨_,rfl,ct.refl _,by rw[B];rfl,by rw[B];exact⟨rfl,.inl ⟨rfl,by simpa using h2,rfl⟩⟩,by rw[<-t];exact aH.refl _ _⟩
 ·rw[h1,f];have x:w.heap[b]?=some (.cells (l.flatMap aG++rest).toArray e (0,0)):=by rw[t];exact h2
  refine(I b 0 s.cap l w (Ga x) (by omega) (by omega)).mono ?_;rintro F o ⟨rfl,n,rfl⟩;have p:=lt_of_block x;have E:=Lib.compact_length_le l;obtain⟨j,g⟩:∃j,j=Lib.compact l++qi (l.length-(Lib.compact l).length) 0:=⟨_,rfl⟩
  rw[<-g];have r:j.length=l.length:=by rw[g];simp;omega
  have d:∀k,k<h.size->(Sort.putRow (Value.int .i64) (Sort.ahead w n) b 0 j.toArray).heap[k]?=if b=k then some (.cells (j.flatMap aG++rest).toArray e (0,0))else h[k]?:=by
   intro k z;simp only[Sort.putRow,Sort.mapBlock,Sort.ahead,Array.getElem?_modify];by_cases c:b=k
   ·subst c;rw[if_pos rfl,if_pos rfl,x,Option.map_some,Sort.onCells,Ix _ _ _ r]
   ·rw[if_neg c,if_neg c,t]
  rw[t]at p;have y:Own (Sort.putRow (Value.int .i64) (Sort.ahead w n) b 0 j.toArray).heap e s 1 aG j:=⟨by rw[r];exact f,.inr ⟨b,rest,h1,by rw[d b p,if_pos rfl],h3,h4⟩⟩
  have m:=y.cut (fun _=>rfl) (Lib.compact l).length (by omega);rw[g,List.take_left]at m;refine⟨_,rfl,⟨rfl,rfl,rfl,by simp[Sort.putRow,Sort.mapBlock,Sort.ahead]⟩,rfl,by rw[h1]at m;rw[g];exact m,by simp[Sort.putRow,Sort.mapBlock,Sort.ahead,t],?_⟩;intro k z G;rw[d k z,if_neg (fun c=>G ⟨0,by rw[h1,c]⟩)]
end Go.Vc
