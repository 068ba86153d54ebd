/- Lemmas for the proof of the law; no condition. -/
import Derived.Test.YtdibhfbogjngkaaGreatDoorPlC
import Derived.Lib.SlicesCompact
import Derived.Lib.RowBridge
set_option linter.unusedVariables false
set_option linter.unusedSimpArgs false
open List renaming replicate -> qh
namespace Go.Vc
open Go
theorem LM{P:Program}{id:FuncId}(G:∀(fG off cap:Nat) (i:aF) (w:World),Sort.Holds (Value.int .i64) w fG off i.toArray->i.length<=9223372036854775807->i.length<=cap->
   Calls P id #[.slice (some ⟨fG,off,none⟩) i.length cap] w λe r=>e=.returned (.slice (some ⟨fG,off,none⟩) (Lib.compact i).length cap)/\∃q,r=Sort.putRow (Value.int .i64) (Sort.ahead w q) fG off (Lib.compact i++qh (i.length-(Lib.compact i).length) 0).toArray)
  (F:∀(a:aT) (cap:Nat) (w:World),Calls P id #[.slice a 0 cap] w λe r=>e=.returned (.slice a 0 cap)/\r=w)
  {e:TypeId} {s:Sl} {l:aF} {h:Heap} (x:Own h e s 1 aC l) (I:l.length<2^40):
  ac P id #[.slice s.ptr s.len s.cap] h λv h'=>v=.slice s.ptr (Lib.compact l).length s.cap/\Own h' e ⟨s.ptr,(Lib.compact l).length,s.cap⟩ 1 aC (Lib.compact l)/\aV (λb=>¬s.on b) h h':=by
 intro w o;have c:=x.len;have z:=x.cap;rcases x.head with⟨h1,h2,h3⟩|⟨b,rest,h1,h2,h3,h4⟩
 ·subst h3;have A:Lib.compact ([]:aF)=[]:=rfl;rw[c,h1];refine(F none s.cap w).mono ?_;rintro D r ⟨rfl,rfl⟩;refine⟨_,i0,cY.refl _,by rw[A];rfl,by rw[A];exact⟨i0,.inl ⟨i0,by simpa using h2,i0⟩⟩,by rw[<-o];exact aV.refl _ _⟩
 ·rw[h1,c];have u:w.heap[b]?=some (.cells (l.flatMap aC++rest).toArray e (0,0)):=by rw[o];exact h2
  refine(G b 0 s.cap l w (PB u) i4 i4).mono ?_;rintro D r ⟨rfl,n,rfl⟩;have t:=lt_of_block u;have E:=Lib.compact_length_le l;obtain⟨m,g⟩:∃m,m=Lib.compact l++qh (l.length-(Lib.compact l).length) 0:=⟨_,rfl⟩
  rw[<-g];have p:m.length=l.length:=by rw[g];simp;omega
  have f:∀k,k<h.size->(Sort.putRow (Value.int .i64) (Sort.ahead w n) b 0 m.toArray).heap[k]?=if b=k then some (.cells (m.flatMap aC++rest).toArray e (0,0))else h[k]?:=by
   intro k B;simp only[Sort.putRow,Sort.mapBlock,Sort.ahead,Array.getElem?_modify];by_cases d:b=k
   ·subst d;rw[f9 i0,f9 i0,u,Option.map_some,Sort.onCells,Sx _ _ _ p]
   ·rw[g0 d,g0 d,o]
  rw[o]at t;have y:Own (Sort.putRow (Value.int .i64) (Sort.ahead w n) b 0 m.toArray).heap e s 1 aC m:=⟨by rw[p];exact c,.inr ⟨b,rest,h1,by rw[f b t,f9 rfl],h3,h4⟩⟩
  have j:=y.cut (λ_=>rfl) (Lib.compact l).length i4;rw[g,List.take_left]at j;refine⟨_,i0,⟨i0,i0,i0,by simp[Sort.putRow,Sort.mapBlock,Sort.ahead]⟩,i0,by rw[h1]at j;rw[g];exact j,by simp[Sort.putRow,Sort.mapBlock,Sort.ahead,o],?_⟩;intro k B H;rw[f k B,g0 λd=>H ⟨0,by rw[h1,d]⟩]
end Go.Vc
