/- Part of the proofs that the laws of this seat answer true whatever the input reads, and leave it as it was; no condition. -/
import Derived.Test.YteieadfggboeeaaGreatDoorPlB
import Derived.Test.YteieadfggboeeaaGreatDoorPlA
import Derived.Lib.SlicesCompact
import Derived.Lib.RowBridge
set_option linter.unusedVariables false
set_option linter.unusedSimpArgs false
namespace Go.Vc
open Go
theorem ox {P:Program} {id:FuncId} (hs:∀(blk off cap:Nat) (zs:List Int) (w:World),Sort.Holds (Value.int .i64) w blk off zs.toArray→zs.length≤9223372036854775807→zs.length≤cap→
   Calls P id #[.slice (some ⟨blk,off,none⟩) zs.length cap] w fun e w'=>e=.returned (.slice (some ⟨blk,off,none⟩) (Lib.compact zs).length cap)∧∃q,w'=Sort.putRow (Value.int .i64) (Sort.ahead w q) blk off (Lib.compact zs++List.replicate (zs.length-(Lib.compact zs).length) 0).toArray)
  (hn:∀(a:Option Addr) (cap:Nat) (w:World),Calls P id #[.slice a 0 cap] w fun e w'=>e=.returned (.slice a 0 cap)∧w'=w)
  {e:TypeId} {s:Sl} {l:List Int} {h:Heap} (ho:Own h e s 1 aA l) (hsz:l.length<2^40):
  ae P id #[.slice s.ptr s.len s.cap] h fun v h'=>v=.slice s.ptr (Lib.compact l).length s.cap∧Own h' e ⟨s.ptr,(Lib.compact l).length,s.cap⟩ 1 aA (Lib.compact l)∧ax (fun b=>¬s.on b) h h':=by
 intro w hw
 have hlen:=ho.len
 have hcap:=ho.cap
 rcases ho.head with⟨h1,h2,h3⟩|⟨b,rest,h1,h2,h3,h4⟩
 ·subst h3
  have hc:Lib.compact ([]:List Int)=[]:=rfl
  rw[hlen,h1]
  refine(hn none s.cap w).mono ?_
  rintro e' w' ⟨rfl,rfl⟩
  refine⟨_,rfl,aL.refl _,by rw[hc];rfl,by rw[hc];exact⟨rfl,.inl ⟨rfl,by simpa using h2,rfl⟩⟩,by rw[←hw];exact ax.refl _ _⟩
 ·rw[h1,hlen]
  have hb:w.heap[b]?=some (.cells (l.flatMap aA++rest).toArray e (0,0)):=by rw[hw];exact h2
  refine(hs b 0 s.cap l w (pM hb) (by omega) (by omega)).mono ?_
  rintro e' w' ⟨rfl,n,rfl⟩
  have hlt:=lt_of_block hb
  have hcl:=Lib.compact_length_le l
  obtain⟨l',hl'⟩:∃l',l'=Lib.compact l++List.replicate (l.length-(Lib.compact l).length) 0:=⟨_,rfl⟩
  rw[←hl']
  have hml:l'.length=l.length:=by rw[hl'];simp;omega
  have hheap:∀k,k<h.size→(Sort.putRow (Value.int .i64) (Sort.ahead w n) b 0 l'.toArray).heap[k]?=if b=k then some (.cells (l'.flatMap aA++rest).toArray e (0,0))else h[k]?:=by
   intro k hk
   simp only[Sort.putRow,Sort.mapBlock,Sort.ahead,Array.getElem?_modify]
   by_cases hbk:b=k
   ·subst hbk
    rw[if_pos rfl,if_pos rfl,hb,Option.map_some,Sort.onCells,rh _ _ _ hml]
   ·rw[if_neg hbk,if_neg hbk,hw]
  rw[hw]at hlt
  have ho':Own (Sort.putRow (Value.int .i64) (Sort.ahead w n) b 0 l'.toArray).heap e s 1 aA l':=⟨by rw[hml];exact hlen,.inr ⟨b,rest,h1,by rw[hheap b hlt,if_pos rfl],h3,h4⟩⟩
  have ho2:=ho'.cut (fun _=>rfl) (Lib.compact l).length (by omega)
  rw[hl',List.take_left]at ho2
  refine⟨_,rfl,⟨rfl,rfl,rfl,by simp[Sort.putRow,Sort.mapBlock,Sort.ahead]⟩,rfl,by rw[h1]at ho2;rw[hl'];exact ho2,by simp[Sort.putRow,Sort.mapBlock,Sort.ahead,hw],?_⟩
  intro k hk hp
  rw[hheap k hk,if_neg (fun hbk=>hp ⟨0,by rw[h1,hbk]⟩)]
end Go.Vc
