/- Part of the proofs that the laws of this seat answer true whatever the input reads, and leave it as it was; no condition. -/
import Derived.Test.YtcamechmadjclaaGreatDoorPlC
import Derived.Test.YtcamechmadjclaaGreatDoorPlA
import Derived.Lib.SlicesCompact
import Derived.Lib.RowBridge
set_option linter.unusedVariables false
set_option linter.unusedSimpArgs false
open List renaming replicate -> qd
open Array renaming getElem?_modify -> zl
open Option renaming map_some -> qQ
namespace Go.Vc
open Go
theorem nY{P:Program}{id:FuncId}(F:∀(i off cap:Nat) (j:List Int) (w:World),Sort.Holds (Value.int .i64) w i off j.toArray->j.length<=9223372036854775807->j.length<=cap->
   Calls P id #[.slice (some ⟨i,off,none⟩) j.length cap] w fun e t=>e=.returned (.slice (some ⟨i,off,none⟩) (Lib.compact j).length cap)/\∃q,t=Sort.putRow (Value.int .i64) (Sort.ahead w q) i off (Lib.compact j++qd (j.length-(Lib.compact j).length) 0).toArray)
  (H:∀(a:Option Addr) (cap:Nat) (w:World),Calls P id #[.slice a 0 cap] w fun e t=>e=.returned (.slice a 0 cap)/\t=w)
  {e:TypeId} {s:Sl} {l:List Int} {h:Heap} (x:Own h e s 1 ay l) (K:l.length<2^40):
  ac P id #[.slice s.ptr s.len s.cap] h fun v A=>v=.slice s.ptr (Lib.compact l).length s.cap/\Own A e ⟨s.ptr,(Lib.compact l).length,s.cap⟩ 1 ay (Lib.compact l)/\ax (fun b=>¬s.on b) h A:=by
 intro w r;have f:=x.len;have E:=x.cap;rcases x.head with⟨h1,h2,h3⟩|⟨b,rest,h1,h2,h3,h4⟩
 ·subst h3;have D:Lib.compact ([]:List Int)=[]:=rfl;rw[f,h1];refine(H none s.cap w).mono ?_;rintro J t ⟨rfl,rfl⟩;refine⟨_,rfl,bm.refl _,by rw[D];rfl,by rw[D];exact⟨rfl,.inl ⟨rfl,by simpa using h2,rfl⟩⟩,by rw[<-r];exact ax.refl _ _⟩
 ·rw[h1,f];have z:w.heap[b]?=some (.cells (l.flatMap ay++rest).toArray e (0,0)):=by rw[r];exact h2
  refine(F b 0 s.cap l w (pA z) (by omega) (by omega)).mono ?_;rintro J t ⟨rfl,n,rfl⟩;have p:=lt_of_block z;have I:=Lib.compact_length_le l;obtain⟨o,g⟩:∃o,o=Lib.compact l++qd (l.length-(Lib.compact l).length) 0:=⟨_,rfl⟩
  rw[<-g];have u:o.length=l.length:=by rw[g];simp;omega
  have d:∀k,k<h.size->(Sort.putRow (Value.int .i64) (Sort.ahead w n) b 0 o.toArray).heap[k]?=if b=k then some (.cells (o.flatMap ay++rest).toArray e (0,0))else h[k]?:=by
   intro k B;simp only[Sort.putRow,Sort.mapBlock,Sort.ahead,zl];by_cases c:b=k
   ·subst c;rw[if_pos rfl,if_pos rfl,z,qQ,Sort.onCells,rT _ _ _ u]
   ·rw[if_neg c,if_neg c,r]
  rw[r]at p;have y:Own (Sort.putRow (Value.int .i64) (Sort.ahead w n) b 0 o.toArray).heap e s 1 ay o:=⟨by rw[u];exact f,.inr ⟨b,rest,h1,by rw[d b p,if_pos rfl],h3,h4⟩⟩
  have m:=y.cut (fun _=>rfl) (Lib.compact l).length (by omega);rw[g,List.take_left]at m;refine⟨_,rfl,⟨rfl,rfl,rfl,by simp[Sort.putRow,Sort.mapBlock,Sort.ahead]⟩,rfl,by rw[h1]at m;rw[g];exact m,by simp[Sort.putRow,Sort.mapBlock,Sort.ahead,r],?_⟩;intro k B G;rw[d k B,if_neg (fun c=>G ⟨0,by rw[h1,c]⟩)]
end Go.Vc
