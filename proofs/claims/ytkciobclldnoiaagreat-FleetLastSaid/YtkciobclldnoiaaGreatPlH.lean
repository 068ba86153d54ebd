/- Part of the proofs that the laws of this seat answer true whatever the input reads, and leave it as it was; no condition. -/
import Derived.Test.YtkciobclldnoiaaGreatPlG
import Derived.Shelf.SlSortCmp.NoneTotal
set_option linter.unusedVariables false
set_option linter.unusedSimpArgs false
namespace Go.Vc
open Go Go.Sort Go.Proofs
theorem N9 {w w':World} (hl:cn w w') (hp:aH (fun b=>b<w.heap.size) w.heap w'.heap):∃q os',w'=Sort.grow (w.drewN q) os':=by
 refine⟨w'.drawn-w.drawn,w'.heap.extract w.heap.size w'.heap.size,?_⟩
 have hh:w.heap++w'.heap.extract w.heap.size w'.heap.size=w'.heap:=by
  apply Array.ext_getElem?
  intro i
  have hle:=hp.1
  by_cases hi:i<w.heap.size
  ·rw[Array.getElem?_append_left hi,hp.2 i hi hi]
  ·rw[Array.getElem?_append_right (by omega),Array.getElem?_extract]
   by_cases h2:i<w'.heap.size
   ·rw[if_pos (by omega),show w.heap.size+(i-w.heap.size)=i by omega]
   ·rw[if_neg (by omega),Array.getElem?_eq_none (by omega)]
 obtain⟨hp1,tp,dr,os,out⟩:=w
 obtain⟨hp1',tp',dr',os',out'⟩:=w'
 obtain⟨e1,e2,e3,e4⟩:=hl
 simp only at e1 e2 e3 e4 hh
 subst e1;subst e2;subst e3
 simp only[Sort.grow,World.drewN,World.mk.injEq]
 refine⟨hh.symm,trivial,by omega,trivial,trivial⟩
theorem C5 {α:Type} [Inhabited α] {enc:α→List Value} {k:Nat} (hk:∀x,(enc x).length=k) (l:List α):flatK enc k l.toArray=(l.flatMap enc).toArray:=by
 refine ext_get! (by simp[cC hk]) fun t ht=>?_
 have ht':t<l.length*k:=by simpa using ht
 have k0:0<k:=by
  rcases Nat.eq_zero_or_pos k with h|h
  ·subst h;simp at ht'
  ·exact h
 rw[get_flatK _ _ _ t (by simpa using ht')]
 have hq:t/k<l.length:=(Nat.div_lt_iff_lt_mul k0).2 ht'
 obtain⟨pre,post,e1,e2⟩:=yL hk l (t/k) l[t/k] (List.getElem?_eq_getElem hq)
 have hm:t%k<k:=Nat.mod_lt _ k0
 have ht2:t=t/k*k+t%k:=by rw[Nat.mul_comm];exact(Nat.div_add_mod t k).symm
 have e3:(l.flatMap enc)[t]?=some ((enc l[t/k])[t%k]'(by rw[hk];exact hm)):=by
  rw[e1,List.append_assoc,List.getElem?_append_right (by omega),List.getElem?_append_left (by rw[hk];omega)]
  have:t-pre.length=t%k:=by omega
  rw[this,List.getElem?_eq_getElem]
 have e4:l.toArray[t/k]! =l[t/k]:=by simp[hq]
 rw[e4]
 have h5:t<(l.flatMap enc).length:=by rw[cC hk];exact ht'
 rw[getElem!_pos (enc l[t/k]) (t%k) (by rw[hk];exact hm),getElem!_pos _ t (by simpa using h5)]
 rw[List.getElem?_eq_getElem h5]at e3
 simp only[List.getElem_toArray]
 exact(Option.some.inj e3).symm
theorem Jq {α:Type} [Inhabited α] {enc:α→List Value} {k:Nat} (hk:∀x,(enc x).length=k) {w:World} {e:TypeId} {b:Nat} {rest:List Value} {l:List α} (hb:w.heap[b]?=some (.cells (l.flatMap enc++rest).toArray e (0,0))):HoldsK enc k w b 0 l.toArray:=by
 intro j hj
 rw[C5 hk]at hj⊢
 have hj':j<(l.flatMap enc).length:=by simpa using hj
 refine⟨?_,by simp[World.frozen?,hb]⟩
 have e1:(l.flatMap enc++rest).toArray[0+j]?=some (l.flatMap enc)[j]:=by
  rw[Nat.zero_add,List.getElem?_toArray,List.getElem?_append_left hj',List.getElem?_eq_getElem hj']
 simp only[World.cell?,hb]
 rw[getElem!_pos _ j (by simpa using hj')]
 simpa using e1
theorem KO {α:Type} [Inhabited α] {enc:α→List Value} {k:Nat} (hk:∀x,(enc x).length=k) (l l':List α) (rest:List Value) (hl:l'.length=l.length):putCells id 0 (flatK enc k l'.toArray) (l.flatMap enc++rest).toArray=(l'.flatMap enc++rest).toArray:=by
 rw[C5 hk]
 have h1:=cC hk l
 have h2:=cC hk l'
 rw[hl]at h2
 apply Array.ext_getElem?
 intro i
 simp only[putCells,Array.getElem?_mapIdx,List.getElem?_toArray,List.size_toArray,Nat.zero_add,Nat.zero_le,true_and,Nat.sub_zero]
 by_cases hi:i<l.length*k
 ·rw[List.getElem?_append_left (by omega),List.getElem?_append_left (by omega),List.getElem?_eq_getElem (by omega),List.getElem?_eq_getElem (by omega),Option.map_some,if_pos (by omega)]
  rw[getElem!_pos _ i (by rw[List.size_toArray];omega)]
  simp
 ·rw[List.getElem?_append_right (by omega),List.getElem?_append_right (by omega),h1,h2]
  cases rest[i-l.length*k]? with
  |none=>rfl
  |some x=>rw[Option.map_some,if_neg (by omega)]
theorem DG {α:Type} [Inhabited α] {P:Program} {id_ g:FuncId} {enc:α→List Value} {k:Nat} {cf:α→α→Int} (hk:∀x,(enc x).length=k)
  (hs:∀(blk cap:Nat) (l:List α) (w:World),CmpLays P g #[] enc k cf blk 0 l.length w→HoldsK enc k w blk 0 l.toArray→blk<w.heap.size→l.length<4611686018427387904→
   Calls P id_ #[.slice (some ⟨blk,0,none⟩) l.length cap,.func (.func g) #[] #[]] w fun e w'=>e=.returned (.tuple #[])∧∃n os,w'=sortWorldK enc k w blk 0 n (l.mergeSort fun x y=>!(ltOf cf) y x).toArray os)
  (hn:∀(p:Option Addr) (cap:Nat) (w:World),Calls P id_ #[.slice p 0 cap,.func (.func g) #[] #[]] w fun e w'=>e=.returned (.tuple #[])∧w'=w)
  (hc:∀x y h,ab P g #[.agg (enc x).toArray,.agg (enc y).toArray] h fun v h'=>v=.int .i64 (cf x y)∧aH (fun b=>b<h.size) h h')
  {e:TypeId} {s:Sl} {l:List α} {h:Heap} (ho:Own h e s k enc l) (hsz:l.length<2^40):
  ab P id_ #[.slice s.ptr s.len s.cap,.func (.func g) #[] #[]] h fun v h'=>v=.tuple #[]∧Own h' e s k enc (l.mergeSort fun x y=>!(ltOf cf) y x)∧aH (fun b=>¬s.on b) h h':=by
 intro w hw
 have hlen:=ho.len
 rcases ho.head with⟨h1,h2,h3⟩|⟨b,rest,h1,h2,h3,h4⟩
 ·subst h3
  rw[hlen,h1]
  refine(hn none s.cap w).mono ?_
  rintro e' w' ⟨rfl,rfl⟩
  have hm:(([]:List α).mergeSort fun x y=>!(ltOf cf) y x)=[]:=by simp
  exact⟨_,rfl,cn.refl _,rfl,by rw[hm];exact⟨hlen,.inl ⟨h1,h2,rfl⟩⟩,by rw[←hw];exact aH.refl _ _⟩
 ·rw[h1,hlen]
  have hb:w.heap[b]?=some (.cells (l.flatMap enc++rest).toArray e (0,0)):=by rw[hw];exact h2
  have hlays:CmpLays P g #[] enc k cf b 0 l.length w:=fun m os dk _ x y=>by
   have:=hc x y _ (sortWorldK enc k w b 0 m dk os) rfl
   refine(show Calls P g (#[Value.agg (enc x).toArray,.agg (enc y).toArray]++#[]) _ _ from ?_)
   rw[Array.append_empty]
   refine this.mono ?_
   rintro e' w' ⟨v,rfl,hl,rfl,hp⟩
   exact⟨rfl,N9 hl hp⟩
  refine(hs b s.cap l w hlays (Jq hk hb) (lt_of_block hb) (by omega)).mono ?_
  rintro e' w' ⟨rfl,n,os,rfl⟩
  have hlt:=lt_of_block hb
  have hml:(l.mergeSort fun x y=>!(ltOf cf) y x).length=l.length:=List.length_mergeSort l
  have hheap:∀j,j<h.size→(sortWorldK enc k w b 0 n (l.mergeSort fun x y=>!(ltOf cf) y x).toArray os).heap[j]?=if b=j then some (.cells ((l.mergeSort fun x y=>!(ltOf cf) y x).flatMap enc++rest).toArray e (0,0))else h[j]?:=by
   intro j hj
   unfold sortWorldK
   rw[Sort.heap_grow_old _ _ (by simpa[putRowK,Sort.putRow,Sort.mapBlock,Sort.ahead,hw]using hj)]
   simp only[putRowK,Sort.putRow,Sort.mapBlock,Sort.ahead,Array.getElem?_modify]
   by_cases hbk:b=j
   ·subst hbk
    rw[if_pos rfl,if_pos rfl,hb,Option.map_some,Sort.onCells,KO hk _ _ _ hml]
   ·rw[if_neg hbk,if_neg hbk,hw]
  rw[hw]at hlt
  refine⟨_,rfl,⟨rfl,rfl,rfl,Nat.le_add_right _ _⟩,rfl,⟨by rw[hml];exact hlen,.inr ⟨b,rest,h1,?_,h3,h4⟩⟩,?_,?_⟩
  ·rw[hheap b hlt,if_pos rfl]
  ·simp[sortWorldK,putRowK,Sort.grow,Sort.putRow,Sort.mapBlock,Sort.ahead,hw]
  ·intro j hj hp
   rw[hheap j hj,if_neg (fun hbk=>hp ⟨0,by rw[h1,hbk]⟩)]
end Go.Vc
