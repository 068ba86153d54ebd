/- Lemmas for the proof of the law; no condition. -/
import Derived.Test.YtcaonbjibhlkcaaGreatDoorPlC
import Derived.Lib.SlicesCompact
import Derived.Lib.RowBridge
set_option linter.unusedVariables false
set_option linter.unusedSimpArgs false
open List renaming replicate -> qg
namespace Go.Vc
open Go
theorem JJ{P:Program}{id:FuncId}(E:∀(fp off cap:Nat) (i:aB) (w:World),Sort.Holds (Value.int .i64) w fp off i.toArray->i.length<=9223372036854775807->i.length<=cap->
   Calls P id #[.slice (some ⟨fp,off,none⟩) i.length cap] w fun e o=>e=.returned (.slice (some ⟨fp,off,none⟩) (Lib.compact i).length cap)/\∃q,o=Sort.putRow (Value.int .i64) (Sort.ahead w q) fp off (Lib.compact i++qg (i.length-(Lib.compact i).length) 0).toArray)
  (H:∀(a:aP) (cap:Nat) (w:World),Calls P id #[.slice a 0 cap] w fun e o=>e=.returned (.slice a 0 cap)/\o=w)
  {e:TypeId} {s:Sl} {l:aB} {h:Heap} (x:Own h e s 1 aC l) (I:l.length<2^40):
  ab P id #[.slice s.ptr s.len s.cap] h fun v h'=>v=.slice s.ptr (Lib.compact l).length s.cap/\Own h' e ⟨s.ptr,(Lib.compact l).length,s.cap⟩ 1 aC (Lib.compact l)/\aR (fun b=>¬s.on b) h h':=by
 intro w p;have c:=x.len;have B:=x.cap;rcases x.head with⟨h1,h2,h3⟩|⟨b,rest,h1,h2,h3,h4⟩
 ·subst h3;have z:Lib.compact ([]:aB)=[]:=rfl;rw[c,h1];refine(H none s.cap w).mono ?_;rintro D o ⟨rfl,rfl⟩;refine⟨_,rfl,cM.refl _,by rw[z];rfl,by rw[z];exact⟨rfl,.inl ⟨rfl,by simpa using h2,rfl⟩⟩,by rw[<-p];exact aR.refl _ _⟩
 ·rw[h1,c];have u:w.heap[b]?=some (.cells (l.flatMap aC++rest).toArray e (0,0)):=by rw[p];exact h2
  refine(E b 0 s.cap l w (MV u) (by omega) (by omega)).mono ?_;rintro D o ⟨rfl,n,rfl⟩;have t:=lt_of_block u;have F:=Lib.compact_length_le l;obtain⟨j,g⟩:∃j,j=Lib.compact l++qg (l.length-(Lib.compact l).length) 0:=⟨_,rfl⟩
  rw[<-g];have r:j.length=l.length:=by rw[g];simp;omega
  have f:∀k,k<h.size->(Sort.putRow (Value.int .i64) (Sort.ahead w n) b 0 j.toArray).heap[k]?=if b=k then some (.cells (j.flatMap aC++rest).toArray e (0,0))else h[k]?:=by
   intro k A;simp only[Sort.putRow,Sort.mapBlock,Sort.ahead,Array.getElem?_modify];by_cases d:b=k
   ·subst d;rw[if_pos rfl,if_pos rfl,u,Option.map_some,Sort.onCells,PM _ _ _ r]
   ·rw[if_neg d,if_neg d,p]
  rw[p]at t;have y:Own (Sort.putRow (Value.int .i64) (Sort.ahead w n) b 0 j.toArray).heap e s 1 aC j:=⟨by rw[r];exact c,.inr ⟨b,rest,h1,by rw[f b t,if_pos rfl],h3,h4⟩⟩
  have m:=y.cut (fun _=>rfl) (Lib.compact l).length (by omega);rw[g,List.take_left]at m;refine⟨_,rfl,⟨rfl,rfl,rfl,by simp[Sort.putRow,Sort.mapBlock,Sort.ahead]⟩,rfl,by rw[h1]at m;rw[g];exact m,by simp[Sort.putRow,Sort.mapBlock,Sort.ahead,p],?_⟩;intro k A G;rw[f k A,if_neg (fun d=>G ⟨0,by rw[h1,d]⟩)]
end Go.Vc
