/- Part of the proofs that the laws of this seat answer true whatever the input reads, and leave it as it was; no condition. -/
import Derived.Test.YtdhamoojccmbdaaGreatDoorPlC
import Derived.Test.YtdhamoojccmbdaaGreatDoorPlA
import Derived.Lib.SlicesCompact
import Derived.Lib.RowBridge
set_option linter.unusedVariables false
set_option linter.unusedSimpArgs false
open List renaming replicate -> qh, take_left -> vx
open Array renaming getElem?_modify -> wv
open Option renaming map_some -> qN
namespace Go.Vc
open Go
theorem LI{P:Program}{id:FuncId}(H:∀(fp off cap:Nat) (i:List Int) (w:World),Sort.Holds (Value.int .i64) w fp off i.toArray->i.length<=9223372036854775807->i.length<=cap->
   Calls P id #[.slice (some ⟨fp,off,none⟩) i.length cap] w fun e o=>e=.returned (.slice (some ⟨fp,off,none⟩) (Lib.compact i).length cap)/\∃q,o=Sort.putRow (Value.int .i64) (Sort.ahead w q) fp off (Lib.compact i++qh (i.length-(Lib.compact i).length) 0).toArray)
  (I:∀(a:Option Addr) (cap:Nat) (w:World),Calls P id #[.slice a 0 cap] w fun e o=>e=.returned (.slice a 0 cap)/\o=w)
  {e:TypeId} {s:Sl} {l:List Int} {h:Heap} (x:Own h e s 1 aD l) (G:l.length<2^40):
  ae P id #[.slice s.ptr s.len s.cap] h fun v h'=>v=.slice s.ptr (Lib.compact l).length s.cap/\Own h' e ⟨s.ptr,(Lib.compact l).length,s.cap⟩ 1 aD (Lib.compact l)/\aU (fun b=>¬s.on b) h h':=by
 intro w r;have f:=x.len;have B:=x.cap;rcases x.head with⟨h1,h2,h3⟩|⟨b,rest,h1,h2,h3,h4⟩
 ·subst h3;have A:Lib.compact ([]:List Int)=[]:=rfl;rw[f,h1];refine(I none s.cap w).mono ?_;rintro F o ⟨rfl,rfl⟩;refine⟨_,rfl,cQ.refl _,by rw[A];rfl,by rw[A];exact⟨rfl,.inl ⟨rfl,by simpa using h2,rfl⟩⟩,by rw[<-r];exact aU.refl _ _⟩
 ·rw[h1,f];have y:w.heap[b]?=some (.cells (l.flatMap aD++rest).toArray e (0,0)):=by rw[r];exact h2
  refine(H b 0 s.cap l w (PH y) (by omega) (by omega)).mono ?_;rintro F o ⟨rfl,n,rfl⟩;have p:=lt_of_block y;have D:=Lib.compact_length_le l;obtain⟨j,g⟩:∃j,j=Lib.compact l++qh (l.length-(Lib.compact l).length) 0:=⟨_,rfl⟩
  rw[<-g];have t:j.length=l.length:=by rw[g];simp;omega
  have c:∀k,k<h.size->(Sort.putRow (Value.int .i64) (Sort.ahead w n) b 0 j.toArray).heap[k]?=if b=k then some (.cells (j.flatMap aD++rest).toArray e (0,0))else h[k]?:=by
   intro k z;simp only[Sort.putRow,Sort.mapBlock,Sort.ahead,wv];by_cases d:b=k
   ·subst d;rw[if_pos rfl,if_pos rfl,y,qN,Sort.onCells,SF _ _ _ t]
   ·rw[if_neg d,if_neg d,r]
  rw[r]at p;have u:Own (Sort.putRow (Value.int .i64) (Sort.ahead w n) b 0 j.toArray).heap e s 1 aD j:=⟨by rw[t];exact f,.inr ⟨b,rest,h1,by rw[c b p,if_pos rfl],h3,h4⟩⟩
  have m:=u.cut (fun _=>rfl) (Lib.compact l).length (by omega);rw[g,vx]at m;refine⟨_,rfl,⟨rfl,rfl,rfl,by simp[Sort.putRow,Sort.mapBlock,Sort.ahead]⟩,rfl,by rw[h1]at m;rw[g];exact m,by simp[Sort.putRow,Sort.mapBlock,Sort.ahead,r],?_⟩;intro k z E;rw[c k z,if_neg (fun d=>E ⟨0,by rw[h1,d]⟩)]
end Go.Vc
