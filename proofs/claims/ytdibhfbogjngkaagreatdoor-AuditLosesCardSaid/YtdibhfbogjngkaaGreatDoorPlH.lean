/- Lemmas for the proof of the law; no condition. -/
import Derived.Test.YtdibhfbogjngkaaGreatDoorPlG
import Derived.Shelf.SlSortCmp.NoneTotal
set_option linter.unusedVariables false
set_option linter.unusedSimpArgs false
open List renaming length -> ii
open Array renaming ext_getElem? -> yK
open List renaming getElem?_append_left -> qm, getElem?_append_right -> qj, getElem?_eq_getElem -> qd, getElem?_toArray -> zR, size_toArray -> wO
open Nat renaming zero_add -> zQ
open Option renaming map_some -> qQ
open Go.Value renaming int -> xH
open Go.IntKind renaming i64 -> xN
namespace Go.Vc
open Go Go.Sort Go.Proofs
theorem afI{w a:World}(m:cY w a)(k:aV (λb=>b<w.heap.size) w.heap a.heap):∃q c,a=Sort.grow (w.drewN q) c:=by
 refine⟨a.drawn-w.drawn,a.heap.extract w.heap.size a.heap.size,?_⟩;have h:w.heap++a.heap.extract w.heap.size a.heap.size=a.heap:=by
  apply yK;intro i;have o:=k.1;by_cases d:i<w.heap.size
  ·rw[Array.getElem?_append_left d,k.2 i d d]
  ·rw[Array.getElem?_append_right i4,Array.getElem?_extract];by_cases t:i<a.heap.size
   ·rw[f9 i4,show w.heap.size+(i-w.heap.size)=i by omega]
   ·rw[g0 i4,Array.getElem?_eq_none i4]
 obtain⟨p,u,dr,os,out⟩:=w;obtain⟨e,r,s,c,l⟩:=a;obtain⟨f,j,g,n⟩:=m;simp only at f j g n h;subst f;subst j;subst g;simp only[Sort.grow,World.drewN,World.mk.injEq];refine⟨h.symm,trivial,i4,trivial,trivial⟩
theorem PI{α:Type}[Inhabited α]{enc:α->be}{k:Nat}(b:∀x,ii (enc x)=k)(l:List α):flatK enc k l.toArray=(l.flatMap enc).toArray:=by
 refine ext_get! (by simp[cQ b]) λt n=>?_;have a:t<ii l*k:=n4
 have f:0<k:=by
  rcases Nat.eq_zero_or_pos k with h|h
  ·subst h;simp at a
  ·exact h
 rw[get_flatK _ _ _ t j7];have d:t/k<ii l:=(Nat.div_lt_iff_lt_mul f).2 a;obtain⟨pre,post,m,o⟩:=Ks b l (t/k) l[t/k] (qd d);have g:t%k<k:=Nat.mod_lt _ f;have i:t=t/k*k+t%k:=by rw[Nat.mul_comm];exact(Nat.div_add_mod t k).symm
 have c:(l.flatMap enc)[t]?=some ((enc l[t/k])[t%k]'(by rw[b];exact g)):=by
  rw[m,List.append_assoc,qj i4,qm (by rw[b];omega)];have:t-ii pre=t%k:=i4
  rw[this,qd]
 have j:l.toArray[t/k]! =l[t/k]:=pa
 rw[j];have e:t<ii (l.flatMap enc):=by rw[cQ b];exact a
 rw[getElem!_pos (enc l[t/k]) (t%k) (by rw[b];exact g),getElem!_pos _ t ln];rw[qd e]at c;simp only[List.getElem_toArray];exact(Option.some.inj c).symm
theorem Ya{α:Type}[Inhabited α]{enc:α->be}{k:Nat}(g:∀x,ii (enc x)=k){w:World}{e:TypeId}{b:Nat}{rest:be}{l:List α}(c:w.heap[b]?=some (.cells (l.flatMap enc++rest).toArray e (0,0))):HoldsK enc k w b 0 l.toArray:=by
 intro j d;rw[PI g]at d⊢;have a:j<ii (l.flatMap enc):=n3
 refine⟨?_,by simp[World.frozen?,c]⟩;have f:(l.flatMap enc++rest).toArray[0+j]?=some (l.flatMap enc)[j]:=by rw[zQ,zR,qm a,qd a]
 simp only[World.cell?,c];rw[getElem!_pos _ j j7];simpa using f
theorem aam{α:Type}[Inhabited α]{enc:α->be}{k:Nat}(b:∀x,ii (enc x)=k)(l a:List α)(rest:be)(e:ii a=ii l):putCells id 0 (flatK enc k a.toArray) (l.flatMap enc++rest).toArray=(a.flatMap enc++rest).toArray:=by
 rw[PI b];have d:=cQ b l;have c:=cQ b a;rw[e]at c;apply yK;intro i;simp only[putCells,Array.getElem?_mapIdx,zR,wO,zQ,Nat.zero_le,true_and,Nat.sub_zero];by_cases f:i<ii l*k
 ·rw[qm i4,qm i4,qd i4,qd i4,qQ,f9 i4];rw[getElem!_pos _ i (by rw[wO];omega)];simp
 ·rw[qj i4,qj i4,d,c];cases rest[i-ii l*k]? with
  |none=>rfl
  |some x=>rw[qQ,g0 i4]
theorem QN{α:Type}[Inhabited α]{P:Program}{id_ g:FuncId}{enc:α->be}{k:Nat}{cf:α->α->Int}(D:∀x,ii (enc x)=k)
  (I:∀(fG cap:Nat) (l:List α) (w:World),CmpLays P g #[] enc k cf fG 0 l.length w->HoldsK enc k w fG 0 l.toArray->fG<w.heap.size->ii l<4611686018427387904->
   Calls P id_ #[.slice (some ⟨fG,0,none⟩) l.length cap,.func (.func g) #[] #[]] w λe o=>e=.returned (.tuple #[])/\∃n os,o=sortWorldK enc k w fG 0 n (l.mergeSort λx y=>!(ltOf cf) y x).toArray os)
  (H:∀(p:aT) (cap:Nat) (w:World),Calls P id_ #[.slice p 0 cap,.func (.func g) #[] #[]] w λe o=>e=.returned (.tuple #[])/\o=w)
  (F:∀x y h,ac P g #[.agg (enc x).toArray,.agg (enc y).toArray] h λv h'=>v=xH xN (cf x y)/\aV (λb=>b<h.size) h h')
  {e:TypeId} {s:Sl} {l:List α} {h:Heap} (A:Own h e s k enc l) (J:ii l<2^40):
  ac P id_ #[.slice s.ptr s.len s.cap,.func (.func g) #[] #[]] h λv h'=>v=.tuple #[]/\Own h' e s k enc (l.mergeSort λx y=>!(ltOf cf) y x)/\aV (λb=>¬s.on b) h h':=by
 intro w i;have a:=A.len;rcases A.head with⟨h1,h2,h3⟩|⟨b,rest,h1,h2,h3,h4⟩
 ·subst h3;rw[a,h1];refine(H none s.cap w).mono ?_;rintro B o ⟨rfl,rfl⟩;have K:(([]:List α).mergeSort λx y=>!(ltOf cf) y x)=[]:=i9
  exact⟨_,i0,cY.refl _,i0,by rw[K];exact⟨a,.inl ⟨h1,h2,i0⟩⟩,by rw[<-i];exact aV.refl _ _⟩
 ·rw[h1,a];have t:w.heap[b]?=some (.cells (l.flatMap enc++rest).toArray e (0,0)):=by rw[i];exact h2
  have f:CmpLays P g #[] enc k cf b 0 l.length w:=λm os G _ x y=>by
   have:=F x y _ (sortWorldK enc k w b 0 m G os) i0;refine(show Calls P g (#[Value.agg (enc x).toArray,.agg (enc y).toArray]++#[]) _ _ from ?_);rw[Array.append_empty];refine this.mono ?_;rintro B o ⟨v,rfl,E,rfl,z⟩;exact⟨i0,afI E z⟩
  refine(I b s.cap l w f (Ya D t) (lt_of_block t) i4).mono ?_;rintro B o ⟨rfl,n,os,rfl⟩;have r:=lt_of_block t;have q:ii (l.mergeSort λx y=>!(ltOf cf) y x)=ii l:=List.length_mergeSort l;have d:∀j,j<h.size->(sortWorldK enc k w b 0 n (l.mergeSort λx y=>!(ltOf cf) y x).toArray os).heap[j]?=if b=j then some (.cells ((l.mergeSort λx y=>!(ltOf cf) y x).flatMap enc++rest).toArray e (0,0))else h[j]?:=by
   intro j u;unfold sortWorldK;rw[Sort.heap_grow_old _ _ (by simpa[putRowK,Sort.putRow,Sort.mapBlock,Sort.ahead,i]using u)];simp only[putRowK,Sort.putRow,Sort.mapBlock,Sort.ahead,Array.getElem?_modify];by_cases c:b=j
   ·subst c;rw[f9 i0,f9 i0,t,qQ,Sort.onCells,aam D _ _ _ q]
   ·rw[g0 c,g0 c,i]
  rw[i]at r;refine⟨_,i0,⟨i0,i0,i0,Nat.le_add_right _ _⟩,i0,⟨by rw[q];exact a,.inr ⟨b,rest,h1,?_,h3,h4⟩⟩,?_,?_⟩
  ·rw[d b r,f9 rfl]
  ·simp[sortWorldK,putRowK,Sort.grow,Sort.putRow,Sort.mapBlock,Sort.ahead,i]
  ·intro j u z;rw[d j u,g0 λc=>z ⟨0,by rw[h1,c]⟩]
end Go.Vc
